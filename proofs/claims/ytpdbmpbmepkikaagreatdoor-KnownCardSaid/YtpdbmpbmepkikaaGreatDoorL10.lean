/- Laws. -/
import Derived.Test.YtpdbmpbmepkikaaGreatDoorL09
set_option maxRecDepth 100000
set_option maxHeartbeats 400000
set_option linter.all false
open Go.Proofs.Tryz
open And renaming intro->aM
open Bool renaming true->Z
open Decidable renaming decide->bP
open Go renaming World->ax,Value->az,Calls->bz,runNT->ic
open Go.CallKind renaming normal->eo
open Go.Ending renaming returned->bj
open Go.Frame renaming enter->eP
open Go.IntKind renaming i64->aG
open Go.Obj renaming cells->aH
open Go.Proofs.Tryz renaming prog->aD
open Go.RowKit renaming Below->aY,Hid->dx,wrap64->jM
open Go.Stepped renaming next->fR
open Go.Value renaming int->Y,slice->aC,string->aE,pointer->aF,tuple->bQ,bool->cx
open Go.World renaming alloc->qF
open Option renaming some->U,none->V
open Or renaming inr->aB,inl->ay
namespace Go.Proofs.YtpdbmpbmepkikaaGreatDoor
def Ki:=@List.getElem?_append_right
def YZ:=@List.getElem?_map
def ah4:=@List.getElem?_replicate
section
open Go.RowKit Go.Conc
theorem av4(CN:∀Wg,Dw Wg)(xe:∀Wg,FL Wg){f}{fn}{c}(qz:aD.funcs[f]?=U fn)(KS:iP[f]?=U fn)(i:fn.body=U c)(AY:Ll f=Z)(CJ:zS.testBit f=Z){W0}{rest}(q:∀x∈rest,n x=Z)(hD:∀j,Lh f j=Z->rest.size<=j)(P:FW W0)(T:iS W0)(L:fx W0)(p:∀W,iS W->fx W->pK W->bz Q f rest W λe J=>e=bj Z∧aY W W J):∃N r o w' S,ic aD (N+1) (solo (G (eP aD f rest eo) []) W0) #[]=(.ended o w',S)∧runN aD N (solo (G (eP aD f rest eo) []) W0)=fR r∧step aD r=.ended o w'∧Go.Conc.Good aD (λx J=>x=Z∧Vk W0 J) r o w' S:=by
 obtain⟨A,hA⟩:∃A:Option Dv,A=V:=⟨_,rfl⟩;have E:∀B,A=U B->False:=λB k=>by rw[hA]at k;cases k
 obtain⟨m,l⟩:∃N,N=W0.heap.size:=⟨_,rfl⟩;have h12:12<=m:=by rw[l];exact P.size
 have R:∀B,A=U B->B.g≠4:=λB k e=>(E B k).elim;have O:(iX (rI m) A).F 7=Z:=rfl;have I:(vO<|rJ m A).F 7=Z:=rfl;have lw:∀b,b≠4->(∀B,A=U B->b≠B.g)->(iW A W0).heap[b]?=W0.heap[b]?:=λb h1 h2=>SH h1 h2;have X:∀b,b<=7->∀B,A=U B->b≠B.g:=λb h B k e=>(E B k).elim;have C:∀b,b=0∨b=3->(iW A W0).heap[b]?=W0.heap[b]?:=λb h=>lw b (by omega) (X b<|by omega);refine ak3 (fs:=iP) (I:=iX (rI m) A) (I2:=vO<|rJ m A) (nm:=ql) CN xe (adw rfl rfl R) (R:=λx a=>x=Z∧∃s d,aY (iW A W0) (World.re (iW A W0) s d)<|World.re a s d) (λx a s d h=>⟨h.1,s,d,?_⟩) (f:=f) (args:=rest) (args':=rest) (v0:=W0) qz KS i AY CJ ?_ ?_ ?_ ?_ ?_ ?_ ?_ ?_ ?_ ?_;·obtain⟨_,τ',d',h⟩:=h;exact⟨h.os,rfl,h.output,h.size,h.block⟩
 ·refine⟨rfl,λj x F w=>?_,λj x F w=>?_⟩;·refine⟨(qT (ρ:=id)<|q x<|tR F).1,?_⟩;rw[Gq];exact F
  ·have:=hD j w;rw[x3<|by simpa using this]at F;cases F
 ·intro x t;exact(qT (ρ:=id)<|q x t).1
 ·intro B k;exact(E B k).elim
 ·intro b o i z;have g:=(dm.1 i).1;refine JV P T O (by omega) i ?_;rcases UA z with h|h|h|h|⟨h,u⟩;all_goals grind[JO]
 ·intro b o i h4 AZ z;have g:=(dm.1 i).1;refine JV P T I (by omega) i ?_;rcases alg z with h|h|h|h|h|⟨h,u⟩;·omega
  ·omega
  ·omega
  ·omega
  ·omega
  ·by_cases e:b=7;·omega
   ·exfalso;unfold rJ at u;simp only[jT,NI,eU]at u;rcases u with(u|u)|u;·grind
    ·omega
    ·cases H:A with|none=>grind|some B=>rw[H]at u;exact AZ B H<|by grind
 ·intro b i;exact⟨Pc (by omega)<|by unfold rI;grind,Pc (by omega)<|by unfold rJ;grind⟩
 ·rw[CP];omega
 ·omega
 ·intro s;have c2:iS<|World.re (iW A W0) s 0:=T.of_block (C 0<|by simp);have c3:fx<|World.re (iW A W0) s 0:=L.of_block (C 3<|by simp);have c4:pK<|World.re (iW A W0) s 0:=SI (by omega) R;exact(p _ c2 c3 c4).mono λe J⟨he,i⟩=>⟨_,he,rfl,s,0,⟨i.os,rfl,i.output,i.size,i.block⟩⟩
 ·intro x x' a v1 ρ cl⟨t,s,d,k⟩ZQ M ga D K hold;subst t;refine⟨by rw[ZQ.2];rfl,?_,K,?_,λb i=>?_⟩;·rw[M.os];exact k.os.trans (YN A W0).1
  ·have h1:=M.low (W0-1) (by omega);rw[D _<|by omega]at h1;omega
  ·cases z:(iX (rI m) A).F b with|false=>grind|true=>
    have Lb:∀B,A=U B->b≠B.g:=λB CM e=>(E B CM).elim;have e1:a.heap[b]?=W0.heap[b]?:=(k.block b<|by rw[YM];exact i).trans<|lw b (λe=>by rw[e]at z;cases z) Lb;rw[gW i]at e1⊢;obtain⟨k1,k2⟩:=M.blk b _ e1 z;have mP:er (iX (rI m) A) W0 W0.heap[b]=Z:=by refine JV P T O (by omega) (gW i) ?_;rcases UA z with h|h|h|h|⟨h,u⟩;all_goals grind[JO]
    rw[D b i,XJ (σ:=id) (λc hc=>D c hc) mP,MV]at k2;exact k2
end
section
def tx(s:String):ByteArray:=s.toUTF8
structure j0 where
 w:ByteArray
 a:Nat
 b:Nat
 n:ByteArray
 f:ByteArray
 v:ByteArray
def sP(i:Nat)(n f v:String):j0:=⟨tx "put",i,0,tx n,tx f,tx v⟩
def sD(i:Nat)(n:String):j0:=⟨tx "delete",i,0,tx n,⟨#[]⟩,⟨#[]⟩⟩
def sS(i j:Nat):j0:=⟨tx "sync",i,j,⟨#[]⟩,⟨#[]⟩,⟨#[]⟩⟩
structure IS where
 s:List j0
 i:Nat
 n:ByteArray
 f:List ByteArray
 t:List ByteArray
def yH(s:List j0)(i:Nat)(n:String)(f t:List String):IS:=⟨s,i,tx n,f.map tx,t.map tx⟩
def mH:=sP 0 "ann" "tel"
def xP:List IS:=[yH [mH "5"] 0 "ann" ["tel","5"] ["ann"],yH [mH "5",mH "6"] 0 "ann" ["tel","6"] ["ann"],⟨[mH "5",⟨tx "put",0,0,tx "ann",tx "mail",⟨#[97,64,98]⟩⟩,sP 0 "an" "tel" "1"],0,tx "ann",[tx "mail",⟨#[97,64,98]⟩,tx "tel",tx "5"],[tx "an",tx "ann"]⟩,yH [mH "5",sD 0 "ann"] 0 "ann" [] [],yH [mH "5",sD 0 "ann",sP 0 "ann" "mail" "m"] 0 "ann" ["mail","m"] ["ann"],yH [mH "5",sP 1 "ann" "tel" "6",sS 0 1] 0 "ann" ["tel","6"] ["ann"],yH [mH "5",sP 0 "bob" "tel" "1",mH "7",sP 1 "ann" "tel" "6",sS 1 0] 1 "ann" ["tel","7"] ["ann","bob"],yH [mH "5",sS 0 1,sD 1 "ann",mH "9",sS 0 1] 0 "ann" [] [],yH [mH "5",sS 0 1,sD 0 "ann",sP 1 "ann" "tel" "9",sS 0 1] 0 "ann" ["tel","9"] ["ann"],yH [mH "5",sS 0 1,sD 1 "ann",sP 0 "ann" "mail" "m",mH "8",sS 0 1] 1 "ann" ["tel","8"] ["ann"],yH [mH "5",sP 1 "bob" "tel" "6",sS 0 1,sS 1 2] 2 "bob" ["tel","6"] ["ann","bob"],yH [mH "1",sP 1 "ann" "tel" "2",sP 2 "ann" "tel" "3",sS 2 1,sS 0 1,sS 2 0] 2 "ann" ["tel","3"] ["ann"]]
def A4:List<|List j0×ByteArray×ByteArray:=[([],⟨#[]⟩,⟨#[203,242,156,228,132,34,35,37]⟩),([mH "5"],⟨#[]⟩,⟨#[198,100,98,201,227,4,254,215]⟩),([mH "5"],tx "an",⟨#[198,100,98,201,227,4,254,215]⟩),([mH "5"],tx "b",⟨#[203,242,156,228,132,34,35,37]⟩),([mH "5",sP 0 "bob" "town" "Oslo"],⟨#[]⟩,⟨#[151,9,193,136,196,179,97,58]⟩),([mH "5",sP 0 "bob" "town" "Oslo"],tx "b",⟨#[127,102,53,73,97,103,185,112]⟩),([mH "5",sD 0 "ann"],⟨#[]⟩,⟨#[39,193,233,113,234,90,244,95]⟩)]
def qf(ls:Nat->List s)(A:j0):Nat->List s:=if A.w=tx "put"thenλk=>if k=A.a then(wK (ls k) (k+1) A.n A.f A.v).1 else ls k else if A.w=tx "delete"thenλk=>if k=A.a then(xx (ls k) (k+1) A.n).1 else ls k elseλk=>if k=A.a\/k=A.b then fZ (ls A.a) (ls A.b)else ls k
def Le(l:List j0):Nat->List s:=l.foldl qf λ_=>[]
def fvL(l:List s):List ByteArray:=l.flatMap λx=>[x.field,x.value]
def WG(s:IS):Bool:=bP (fvL (qD (Le s.s s.i) s.n)=s.f)&&bP (J1 (Le s.s s.i) ⟨#[]⟩=s.t)
theorem asg:xP.map WG=List.replicate 12 Z:=by decide
end
section
open Go.RowKit
def j0.cells(s:j0):List az:=[aE s.w,Y aG s.a,Y aG s.b,aE s.n,aE s.f,aE s.v]
def Gd(l:List j0):Obj:=aH (l.flatMap j0.cells).toArray 96
def Mu(l:List ByteArray):Obj:=aH (l.map aE).toArray 9
def UG(n:Nat)(d:List j0×ByteArray×ByteArray):List az:=[aC (U ⟨n,0,V⟩) d.1.length d.1.length,aE d.2.1,aE d.2.2]
def Is:Nat->List (List j0×ByteArray×ByteArray)->List az|_,[]=>[]|n,d::l=>UG n d++Is (n+1) l
def It(n:Nat):List Obj:=A4.map (λd=>Gd d.1)++[aH (Is n A4).toArray 63]
def Rg(n:Nat)(d:IS):List az:=[aC (U ⟨n,0,V⟩) d.s.length d.s.length,Y aG d.i,aE d.n,aC (U ⟨n+1,0,V⟩) d.f.length d.f.length,aC (U ⟨n+2,0,V⟩) d.t.length d.t.length]
def Gg:Nat->List IS->List az|_,[]=>[]|n,d::l=>Rg n d++Gg (n+3) l
def Gh(n:Nat):List Obj:=xP.flatMap (λd=>[Gd d.s,Mu d.f,Mu d.t])++[aH (Gg n xP).toArray 66]
set_option maxHeartbeats 4000000 in
theorem aEy(w:ax):bz Q 31 #[] w λe w'=>e=bj (aC (U ⟨w.heap.size+7,0,V⟩) 7 7)/\w'=(It w.heap.size).foldl qF w:=by go_enter ap2,ntmps31;go_wp2;go_ret;exact⟨by kernel_rfl,by kernel_rfl⟩
set_option maxHeartbeats 8000000 in
theorem ash(w:ax):bz Q 30 #[] w λe w'=>e=bj (aC (U ⟨w.heap.size+36,0,V⟩) 12 12)/\w'=(Gh w.heap.size).foldl qF w:=by go_enter ap3,ntmps30;go_wp2;go_ret;exact⟨by kernel_rfl,by kernel_rfl⟩
theorem aek:∀{l:List j0}{j:Nat}(h:j<l.length)(i:Nat),i<6->(l.flatMap j0.cells)[j*6+i]?=l[j].cells[i]?|[],j,h,_,_=>by cases h|s::l,0,_,i,hi=>by rw[Et,Er<|by show _<6;omega];simp|s::l,j+1,h,i,hi=>by rw[Et,Ki<|by show 6<=_;omega];have:=aek (l:=l) (j:=j) (by simpa using h) i hi;rw[show(j+1)*6+i-s.cells.length=j*6+i from by show(j+1)*6+i-6=_;omega,this];rfl
def FN(s:j0):Prop:=s.a<3/\s.n.size<=65536/\s.f.size<=65536/\(s.w=⟨#[112,117,116]⟩/\s.f.size≠0\/s.w=⟨#[100,101,108,101,116,101]⟩/\s.f=⟨#[]⟩\/s.w=⟨#[115,121,110,99]⟩/\s.b<3/\s.a≠s.b)
def Ae(N U E:Nat)(R:Nat->Rk)(l:List j0)(pw:Nat)(pv:az)(w0:ax)(j:Nat)(W:ax):Prop:=∃R' ks K S,iB N K S ks W pw pv R'/\K<=U+j/\S<=E+8*j/\oM R R'/\(∀k,k<3->(R' k).l=(l.take j).foldl qf (λk=>(R k).l) k)/\O (oO R) w0 W
theorem WE{A:j0}(h:FN A){a b:Nat->List s}(e:∀k,k<3->a k=b k)(k:Nat)(E:k<3):qf a A k=qf b A k:=by
 obtain⟨h1,-,-,h2⟩:=h;unfold qf;split
 .dsimp only;split;.rw[e k E]
  .exact e k E
 .split
  .dsimp only;split;.rw[e k E]
   .exact e k E
  .rcases h2 with h2|h2|h2;.rename_i x y;exact absurd (h2.1.trans<|by rfl) x
   .rename_i x y;exact absurd (h2.1.trans<|by rfl) y
   .dsimp only;split;.rw[e _ h1,e _ h2.2.1]
    .exact e k E
theorem ael{l:List j0}{j:Nat}(h:j<l.length)(a:Nat->List s):(l.take<|j+1).foldl qf a=qf ((l.take j).foldl qf a) l[j]:=by rw[wS,mq h,B9,List.foldl_append];rfl
theorem Sb{a:Nat}(h:a<3):tH (a:Int) 3=a:=by unfold tH;rw[if_neg<|by omega];omega
theorem Ae.A2{N K0 S0:Nat}{R R' R2:Nat->Rk}{l:List j0}{pw:Nat}{pv:az}{w0 Z W2:ax}{j K S:Nat}{U:Keys}{x:kH}(hj:j<l.length)(mP:FN l[j])(a:K<=K0+j)(b:S<=S0+8*j)(c:oM R R')(d:∀k,k<3->(R' k).l=(l.take j).foldl qf (λk=>(R k).l) k)(e:O (oO R) w0 Z)(E:IZ N K S x Z W2 pw pv R' R2 U)(hx:∀ls k,k<3->pn x ls k=qf ls l[j] k):Ae N K0 S0 R l pw pv w0 (j+1) W2:=⟨R2,U,K+1,S,E.iC,by omega,by omega,c.trans E.same,λk V=>by rw[E.ls k V,hx _ k V,ael hj];exact WE mP d k V,e.trans<|by rw[<-c.maps];exact E.keep⟩
theorem Ae.whole{N B C:Nat}{R R' R2:Nat->Rk}{l:List j0}{pw:Nat}{pv:az}{w0 A W2:ax}{j K S:Nat}{ks:Keys}(hj:j<l.length)(mP:FN l[j])(a:K<=B+j)(b:S<=C+8*j)(c:oM R R')(d:∀k,k<3->(R' k).l=(l.take j).foldl qf (λk=>(R k).l) k)(e:O (oO R) w0 A)(E:anG N K (S+8) ks A W2 pw pv R' R2 l[j].a l[j].b)(hx:l[j].w=⟨#[115,121,110,99]⟩):Ae N B C R l pw pv w0 (j+1) W2:=⟨R2,ks,K,S+8,E.iC,by omega,by omega,c.trans E.same,λk hk=>by
  rw[ael hj,<-WE mP d k hk];unfold qf;rw[if_neg<|by rw[hx];decide,if_neg<|by rw[hx];decide];dsimp only;split
  .rename_i h;rcases h with h|h<;>rw[h];.exact E.li
   .exact E.lj
  .rename_i h;exact E.lk k (λq=>h<|ay q) λq=>h<|aB q,e.trans<|by rw[<-c.maps];exact E.keep⟩
theorem alQ{a:Int}{n f v:ByteArray}(hf:f.size≠0)(id:Int)(l:List s):sZ ⟨a,n,f,v⟩ id l=(wK l id n f v).1:=if_neg hf
theorem alR(a:Int)(n v:ByteArray)(id:Int)(l:List s):sZ ⟨a,n,⟨#[]⟩,v⟩ id l=(xx l id n).1:=cJ rfl
theorem aD5{a:Nat}(ha:a<3){f:ByteArray}(hf:f.size≠0)(b:Nat)(n v:ByteArray)(ls:Nat->List s)(k:Nat):pn ⟨a,n,f,v⟩ ls k=qf ls ⟨⟨#[112,117,116]⟩,a,b,n,f,v⟩ k:=by unfold pn qf;dsimp only;rw[Sb ha,cJ<|show(⟨#[112,117,116]⟩:ByteArray)=tx "put"from rfl,alQ hf]
theorem aD6{a:Nat}(ha:a<3)(b:Nat)(n f v:ByteArray)(ls:Nat->List s)(k:Nat):pn ⟨a,n,⟨#[]⟩,v⟩ ls k=qf ls ⟨⟨#[100,101,108,101,116,101]⟩,a,b,n,f,v⟩ k:=by unfold pn qf;dsimp only;rw[Sb ha,if_neg<|show¬(⟨#[100,101,108,101,116,101]⟩:ByteArray)=tx "put"from by decide,cJ<|show(⟨#[100,101,108,101,116,101]⟩:ByteArray)=tx "delete"from rfl,alR]
set_option maxHeartbeats 8000000 in
theorem ak7(N K0 S0:Nat)(ks:Keys)(w:ax)(pw:Nat)(pv:az)(R:Nat->Rk)(l:List j0)(g cap:Nat)(h:iB N K0 S0 ks w pw pv R)(A:∀k,k<3->(R k).id=k+1)(hN:5<=N)(hK:K0+l.length<=4000)(hS:S0+8*l.length<=1000000)(hT:iS w)(ht:fx w)(hf:pK w)(hg:w.heap[g]?=U (Gd l))(hgN:g<N)(hNw:N<=w.heap.size)(D:∀s∈l,FN s):bz Q 32 #[aF<|U ⟨pw,0,V⟩,aC (U ⟨g,0,V⟩) l.length cap] w λe w'=>e=bj (bQ #[])/\Ae N K0 S0 R l pw pv w l.length w':=by
 have h4:4<w.heap.size:=(dm.1 hf).1;have sG:g<w.heap.size:=(dm.1 hg).1;have HH:=X<|aM A<|aM hN<|aM hT<|aM ht<|aM hf<|aM hg D;have HR:dx<|Ae N K0 S0 R l pw pv w 0 w:=X ⟨R,ks,K0,S0,h,aQ _,aQ _,.refl _,λk hk=>rfl,.refl _ _⟩;have HL:dx<|∀b,oO R b->N<=b:=X λb⟨k,hk,q⟩=>by
  rcases q with q|q<;>rw[q];.exact(h.eT k hk).mN
  .exact(h.eT k hk).gN
 clear h A hN hT ht hf hg D;go_enter ap1,ntmps32;go_wp2;go_loopg[4]l.lengthλk s wr=>∃j:Nat,s=Y aG j/\k+j=l.length/\Ae N K0 S0 R l pw pv w j wr;case atStart=>exact⟨0,rfl,by omega,HR.out⟩
 case round=>
  obtain⟨j,rfl,hk,R',ks',K,S,ri,sQ,qC,mA,lU,ku⟩:=hrel;by_cases hj:j<l.length
  .have D:=HH.out.2.2.2.2.2.2 l[j]<|nC hj;have xg:aY N w wr:=ku.below hNw λb hb q=>by have:=HL.out b q;omega
   have K2:=HH.out.2.1;have KQ:wr.heap[g]?=U (Gd l):=(xg.block g hgN).trans HH.out.2.2.2.2.2.1;have cl:∀i,i<6->wr.cell? ⟨g,j*6+i,V⟩=l[j].cells[i]?:=λi hi=>(M KQ _).trans (by rw[my];exact aek hj i hi);have hE:iS wr:=HH.out.2.2.1.of_block (xg.block 0<|by omega);have hTb:fx wr:=HH.out.2.2.2.1.of_block (xg.block 3<|by omega);have xk:pK wr:=(xg.block 4<|by omega).trans HH.out.2.2.2.2.1;have A:∀k,k<3->(R' k).id=k+1:=λk hk=>by rw[mA.id k];exact HH.out.1 k hk
   have HI:=X<|aM D<|aM sQ<|aM qC<|aM mA<|aM lU ku;obtain⟨s,hs⟩:∃s,s=l[j]:=⟨_,rfl⟩;rw[<-hs]at cl D;obtain⟨ww,a,b,n,f,v⟩:=s;have y0:wr.cell? ⟨g,j*6,V⟩=U (aE ww):=cl 0 (by omega);have y1:wr.cell? ⟨g,j*6+1,V⟩=U (Y aG a):=cl 1 (by omega);have y2:wr.cell? ⟨g,j*6+2,V⟩=U (Y aG b):=cl 2 (by omega);have y3:wr.cell? ⟨g,j*6+3,V⟩=U (aE n):=cl 3 (by omega);have y4:wr.cell? ⟨g,j*6+4,V⟩=U (aE f):=cl 4 (by omega);have y5:wr.cell? ⟨g,j*6+5,V⟩=U (aE v):=cl 5 (by omega);obtain⟨wx,jV⟩:∃wx,wx=wr.alloc (aH #[aE ww,Y aG a,Y aG b,aE n,aE f,aE v] 96):=⟨_,rfl⟩;have iw:aY wr.heap.size wr wx:=by rw[jV];exact(dK _ _).alloc (aQ _) _
   have T:=ri.below iw;have O5:=hE.below iw<|aQ _;have CI:=hTb.below iw<|aQ _;have hFx:pK wx:=(iw.block 4 (dm.1 xk).1).trans xk;obtain⟨ha,hn,hff,hw⟩:=D;dsimp only at ha hn hff hw;have Ta:=T.eT a ha;have EF:=Ta.wrote T.kl;have aaX:gP (R' a).L<9223372036854775807:=by rw[Ta.bk.clock];have:=PO (l:=(R' a).l) (k:=(K:Int)) (by omega) λy B=>(Ta.cnt y B).2.1;omega
   have TM:(R' a).m≠0:=by have:=Ta.mN;omega
   have hal:a<(jR R').length:=by rw[qS];omega
   have hra:fq wx (jR R')[a] (R' a).id (R' a).m (R' a).g:=(congrArg (λq=>fq wx q (R' a).id (R' a).m (R' a).g)<|xQ R' ha).mpr Ta.rep;have Cu:(jR R').length<=1000000:=by rw[qS];omega
   have Ja:=X<|RY pw pv (jR R') a hal (R' a).id (R' a).m (R' a).g (R' a).L n f v wx T.lN Cu hra Ta.book TM O5 hn hff aaX;have I9:=X<|abR pw pv (jR R') a hal (R' a).id (R' a).m (R' a).g (R' a).L n wx T.lN Cu hra Ta.book TM O5 hn (by rw[Ta.bk.perm.length_eq];have:=EF.len;omega) aaX;have pL:dx<|∀hb:b<3,∀qB:a≠b,_:=X λhb qB=>FZ N K S ks' wx pw pv R' a b ha hb qB T K2 (by omega) (by omega) CI hFx;have HX:=X<|aM T<|aM A<|aM ha<|aM iw<|aM hs<|aM EF Ta.Ck;have HW:=X jV;have oC:(j:Int)<(l.length:Int):=by omega
   have ez:∀z,z=(j:Int)+1->aG.wrap z=z:=λz hz=>by rw[qW];omega
   have ug:∀z,z=(j:Int)+1->jM z=z:=λz hz=>by unfold jM;omega
   clear hal hra Cu sQ qC mA lU ku KQ cl hE hTb xk A ri O5 CI hFx T Ta EF aaX TM iw xg jV;rcases hw with⟨rfl,hf⟩|⟨rfl,rfl⟩|⟨rfl,hb,qB⟩
   .have Hf:=X hf;clear hf I9 pL;go_wp2_with(go_at_call 26;rw[<-HW.out];go_must(refine Ja.out.mono ?_);rintro e H⟨rfl,Hx,OB⟩;have HM:=X<|aM Hx OB;clear Hx OB;refine Halt.of ?_);unfold Halt;go_wp2;go_roundg(gk-1);case rel=>obtain⟨T,A,ha,iw,hs,EF,TS⟩:=HX.out;obtain⟨D,sQ,qC,mA,lU,ku⟩:=HI.out;obtain⟨C,q,E⟩:=T.A2 (x:=⟨a,n,f,v⟩) A (Sb ha).symm HM.out.1 (by rw[alQ Hf.out];exact(EF.put TS n f v).1) HM.out.2;exact⟨j+1,by go_simp,by omega,Ae.A2 hj D sQ qC mA lU (ku.trans<|O.iH iw) E λls k hk=>by rw[<-hs];exact aD5 ha Hf.out b n v ls k⟩
    case measure=>omega
   .clear Ja pL;go_wp2_with(go_at_call 28;rw[<-HW.out];go_must(refine I9.out.mono ?_);rintro e H⟨rfl,Hx,OB⟩;have HM:=X<|aM Hx OB;clear Hx OB;refine Halt.of ?_);unfold Halt;go_wp2;go_roundg(gk-1);case rel=>obtain⟨T,A,ha,iw,hs,EF,TS⟩:=HX.out;obtain⟨D,sQ,qC,mA,lU,ku⟩:=HI.out;obtain⟨C,q,E⟩:=T.A2 (x:=⟨a,n,⟨#[]⟩,v⟩) A (Sb ha).symm HM.out.1 (by rw[alR];exact(EF.delete TS n).1) HM.out.2;exact⟨j+1,by go_simp,by omega,Ae.A2 hj D sQ qC mA lU (ku.trans<|O.iH iw) E λls k hk=>by rw[<-hs];exact aD6 ha b n _ v ls k⟩
    case measure=>omega
   .have C:=X<|pL.out hb qB;clear Ja I9 pL;go_wp2_with(go_at_call 19;rw[<-HW.out];go_must(refine C.out.mono ?_);rintro e H⟨rfl,hm⟩;have HM:=X hm;clear hm;refine Halt.of ?_);unfold Halt;go_wp2;go_roundg(gk-1);case rel=>obtain⟨T,A,ha,iw,hs,EF,TS⟩:=HX.out;obtain⟨D,sQ,qC,mA,lU,ku⟩:=HI.out;obtain⟨d,E⟩:=HM.out;exact⟨j+1,by go_simp,by omega,Ae.whole hj D sQ qC mA lU (ku.trans<|O.iH iw) (by rw[<-hs];exact E)<|by rw[<-hs]⟩
    case measure=>omega
  .have kP:j=l.length:=by omega
   subst kP;have HG:dx<|Ae N K0 S0 R l pw pv w l.length wr:=X ⟨R',ks',K,S,ri,sQ,qC,mA,lU,ku⟩;clear ri sQ qC mA lU ku;go_wp2;go_end0;exact⟨rfl,HG.out⟩
def zW(w:ax)(v:az)(l:List ByteArray):Prop:=∃ad cap,v=aC ad l.length cap/\∀j(h:j<l.length),∃g,ad=U ⟨g,0,V⟩/\g<w.heap.size/\w.cell? ⟨g,j,V⟩=U (aE l[j])
theorem zW.JW{B:Nat}{w:ax}{v:az}{l:List ByteArray}(h:w.ownsRow B 9 1 v l.length<|l.map aE):zW w v l:=by
 rcases h.2 with⟨h1,h2⟩|⟨g,cap,cur,hv,hc⟩;.exact⟨V,0,by rw[h2];exact h1,λj E=>by omega⟩
 .refine⟨_,_,hv,λj E=>⟨g,rfl,(h.lt g<|by rw[hv];rfl).2,?_⟩⟩;have:=Az h (g:=g) (by rw[hv];rfl) j (aE l[j]) (by simp[E]);rwa[Eu,vg]at this
theorem zW.later{w w':ax}{v:az}{l:List ByteArray}(h:zW w v l)(k:aY w.heap.size w w'):zW w' v l:=by obtain⟨ad,cap,hv,h⟩:=h;exact⟨ad,cap,hv,λj E=>by obtain⟨g,e,hg,hc⟩:=h j E;exact⟨g,e,cB hg k.size,(k.cell (p:=⟨g,j,V⟩) hg).trans hc⟩⟩
set_option maxHeartbeats 2000000 in
theorem afq(va B:az)(l:List ByteArray)(w:ax)(ha:zW w va l)(hb:zW w B l)(hl:l.length<=2000000):bz Q 33 #[va,B] w λe w'=>e=bj (cx Z)/\aY w.heap.size w w':=by
 obtain⟨ad,ca,rfl,ha⟩:=ha;obtain⟨bd,cb,rfl,hb⟩:=hb;have HA:=X<|aM ha hb;clear ha hb;go_enter ap0,ntmps33;go_wp2;go_loopg[5]l.lengthλk s wr=>∃j:Nat,s=Y aG j/\k+j=l.length/\aY w.heap.size w wr;case atStart=>exact⟨0,rfl,by omega,dK _ _⟩
 case round=>
  obtain⟨j,rfl,hk,hB⟩:=hrel;by_cases hj:j<l.length
  .obtain⟨g,rfl,hg,A⟩:=HA.out.1 j hj;obtain⟨g',rfl,OJ,C⟩:=HA.out.2 j hj;obtain⟨x,hx⟩:∃x,x=l[j]:=⟨_,rfl⟩;rw[<-hx]at A C;have z0:wr.cell? ⟨g,j,V⟩=U (aE x):=(hB.cell (p:=⟨g,j,V⟩) hg).trans A;have z1:wr.cell? ⟨g',j,V⟩=U (aE x):=(hB.cell (p:=⟨g',j,V⟩) OJ).trans C;have oC:(j:Int)<(l.length:Int):=by omega
   have E:=X<|show aY w.heap.size w wr.drew from hB.drew;clear hx hB A C;go_wp2;go_region_held3λW=>W.cell? ⟨g,j,V⟩=U (aE x)/\W.cell? ⟨g',j,V⟩=U (aE x)(go_keep)(fail);go_wp2;go_roundg(gk-1);case rel=>exact⟨j+1,by go_simp,by omega,E.out⟩
   case measure=>omega
  .have kP:j=l.length:=by omega
   subst kP;have E:=X hB;clear hB;go_wp2;go_ret;exact⟨rfl,E.out⟩
section
variable {N K S:Nat} {ks:Keys} {w:ax} {pw:Nat} {pv:az} {R:Nat->Rk}
theorem iB.fields(h:iB N K S ks w pw pv R)(hK:K<=4096){k:Nat}(E:k<3){n:ByteArray}(A:n.size<=4096):bz Q 27 #[aF<|U ⟨pw,0,V⟩,Y aG k,aE n] w λe w'=>∃v,e=bj (bQ #[v,cx Z])/\zW w' v (lJ<|qD (R k).l n)/\aY w.heap.size w w':=by have ho:=h.eT k E;have C:=UD pw pv (jR R) k E (R k).id (R k).m (R k).g (R k).L n w h.lN (by rw[qS];omega) (by rw[xQ R E];exact ho.rep) ho.book (by rw[ho.bk.perm.length_eq];have:=h.len hK E;omega) A;rw[ho.bk.shown n]at C;refine C.mono ?_;rintro e w'⟨v,he,hr,hb⟩;exact⟨v,he,.JW hr,hb⟩
theorem iB.names(h:iB N K S ks w pw pv R)(hK:K<=4096){k:Nat}(E:k<3)(pfx:ByteArray):bz Q 29 #[aF<|U ⟨pw,0,V⟩,Y aG k,aE pfx] w λe w'=>∃v,e=bj v/\zW w' v (J1 (R k).l pfx)/\aY w.heap.size w w':=by
 have ho:=h.eT k E;refine(ahj pw pv (jR R) k E (R k).id (R k).m (R k).g (R k).L pfx w h.lN (by rw[qS];omega) (by rw[xQ R E];exact ho.rep) ho.book (by rw[ho.bk.perm.length_eq];have:=h.len hK E;omega) λx hx=>?_).mono ?_;.have:=(ho.bk.Uu x hx).GF;omega
 .rintro e w'⟨v,xs,he,B,Z,A,hb⟩;rw[ho.bk.names pfx B Z]at A;exact⟨v,he,.JW A,hb⟩
theorem iB.dig(h:iB N K S ks w pw pv R)(hK:K<=4096){k:Nat}(E:k<3)(p:ByteArray)(ht:fx w):bz Q 20 #[aF<|U ⟨pw,0,V⟩,Y aG k,aE p] w λe w'=>e=bj (aE<|Li<|C<|t (R k).l p)/\aY w.heap.size w w':=by have A:=h.eT k E;rw[<-BD A.bk];refine aEz pw pv (jR R) k E (R k).id (R k).m (R k).g (R k).L p w h.lN (by rw[qS];omega) (by rw[xQ R E];exact A.rep) A.book (by rw[A.bk.perm.length_eq];have:=h.len hK E;omega) ht λx hx=>?_;exact Lg (A.bk.Uu x hx)<|A.fits (by omega) x<|A.bk.perm.subset hx
end
theorem acL:∀(l:List Obj)(w:ax),aY w.heap.size w (l.foldl qF w)/\(l.foldl qF w).heap.size=w.heap.size+l.length/\∀i o,l[i]?=U o->(l.foldl qF w).heap[w.heap.size+i]?=U o|[],w=>⟨.refl _ _,by simp,λi o h=>by simp at h⟩|x::l,w=>by obtain⟨h1,h2,h3⟩:=acL l<|w.alloc x;have hb:aY w.heap.size w<|w.alloc x:=(dK _ _).alloc (aQ _) _;refine⟨hb.trans<|h1.mono<|by simp,by rw[Ay,h2];simp;omega,λi o h=>?_⟩;rw[Ay];cases i with|zero=>simp only[nG,dX]at h;subst h;exact(h1.block _<|by simp).trans<|gI _ _|succ i=>have:=h3 i o (by simpa using h);rwa[vt,show w.heap.size+1+i=w.heap.size+(i+1)by omega]at this
def abN(d:List j0×ByteArray×ByteArray):Bool:=bP<|Li (C<|t (Le d.1 0) d.2.1)=d.2.2
theorem aEu:A4.map abN=List.replicate 7 Z:=by kernel_rfl
def Rc(s:j0):Bool:=bP (s.a<3)&&(bP (s.n.size<=65536)&&(bP (s.f.size<=65536)&&(bP (s.w=⟨#[112,117,116]⟩/\s.f.size≠0)||(bP (s.w=⟨#[100,101,108,101,116,101]⟩/\s.f=⟨#[]⟩)||decide (s.w=⟨#[115,121,110,99]⟩/\s.b<3/\s.a≠s.b)))))
theorem Rb{s:j0}(h:Rc s=Z):FN s:=by unfold Rc at h;simp only[cG,jT,eU]at h;exact h
theorem asf:(xP.all λs=>s.s.all Rc&&bP (s.s.length<=10)&&bP (s.i<3)&&bP (s.n.size<=4096)&&bP (s.f.length<=10)&&bP (s.t.length<=10))=Z:=by kernel_rfl
theorem aEv:(A4.all λd=>d.1.all Rc&&bP (d.1.length<=10))=Z:=by kernel_rfl
theorem alq{α β:Type}(f:α->List β)(c:Nat)(hc:∀a,(f a).length=c):∀{l:List α}{j:Nat}(h:j<l.length)(i:Nat),i<c->(l.flatMap f)[j*c+i]?=(f l[j])[i]?|[],j,h,_,_=>by cases h|s::l,0,_,i,hi=>by rw[Et,Er<|by rw[hc];omega];simp|s::l,j+1,h,i,hi=>by rw[Et,Ki<|by rw[hc,Nat.succ_mul];omega];have:=alq f c hc (l:=l) (j:=j) (by simpa using h) i hi;rw[show(j+1)*c+i-(f s).length=j*c+i from by rw[hc,Nat.succ_mul];omega,this];rfl
theorem al7:∀{l:List<|List j0×ByteArray×ByteArray}{n j:Nat}(h:j<l.length)(i:Nat),i<3->(Is n l)[j*3+i]?=(UG (n+j) l[j])[i]?|[],n,j,h,_,_=>by cases h|s::l,n,0,_,i,hi=>by unfold Is;rw[Er<|by show _<3;omega];simp|s::l,n,j+1,h,i,hi=>by unfold Is;rw[Ki<|by show 3<=_;omega];have:=al7 (l:=l) (n:=n+1) (j:=j) (by simpa using h) i hi;rw[show(j+1)*3+i-(UG n s).length=j*3+i from by show(j+1)*3+i-3=_;omega,this,show n+1+j=n+(j+1)by omega];rfl
theorem aem:∀{l:List IS}{n j:Nat}(h:j<l.length)(i:Nat),i<5->(Gg n l)[j*5+i]?=(Rg (n+3*j) l[j])[i]?|[],n,j,h,_,_=>by cases h|s::l,n,0,_,i,hi=>by unfold Gg;rw[Er<|by show _<5;omega];simp|s::l,n,j+1,h,i,hi=>by unfold Gg;rw[Ki<|by show 5<=_;omega];have:=aem (l:=l) (n:=n+3) (j:=j) (by simpa using h) i hi;rw[show(j+1)*5+i-(Rg n s).length=j*5+i from by show(j+1)*5+i-5=_;omega,this,show n+3+3*j=n+3*(j+1)by omega];rfl
theorem abO:A4.length=7:=rfl
theorem aEC(w:ax):aY w.heap.size w ((It w.heap.size).foldl qF w)/\((It w.heap.size).foldl qF w).heap[w.heap.size+7]?=U (aH (Is w.heap.size A4).toArray 63)/\∀j(h:j<7),((It w.heap.size).foldl qF w).heap[w.heap.size+j]?=U (Gd (A4[j]'h).1):=by
 obtain⟨h1,h2,h3⟩:=acL (It w.heap.size) w;refine⟨h1,h3 7 _ ?_,λj h=>h3 j _ ?_⟩;.unfold It;rw[Ki<|by simp[abO]];simp[abO]
 .unfold It;rw[Er<|by simpa[abO]using h,YZ,mq h];rfl
def Jp(d:IS):List Obj:=[Gd d.s,Mu d.f,Mu d.t]
theorem aso(w:ax):aY w.heap.size w ((Gh w.heap.size).foldl qF w)/\((Gh w.heap.size).foldl qF w).heap[w.heap.size+36]?=U (aH (Gg w.heap.size xP).toArray 66)/\∀j(h:j<12)i o,(Jp<|xP[j]'h)[i]?=U o->((Gh w.heap.size).foldl qF w).heap[w.heap.size+3*j+i]?=U o:=by
 obtain⟨h1,h2,h3⟩:=acL (Gh w.heap.size) w;have hl:(xP.flatMap Jp).length=36:=by rfl
 refine⟨h1,h3 36 _ ?_,λj h i o e=>?_⟩;.unfold Gh;show(xP.flatMap Jp++_)[36]?=_;rw[Ki<|by omega,hl];rfl
 .have hi:i<3:=by obtain⟨q,_⟩:=SU.1 e;exact q
  rw[Nat.add_assoc];refine h3 (3*j+i) _ ?_;unfold Gh;show(xP.flatMap Jp++_)[3*j+i]?=_;rw[Er<|by rw[hl];omega,SR,alq Jp 3 (λ_=>rfl) (by exact h) i hi];exact e
theorem go_congr:∀{l:List j0}(h:∀A∈l,FN A){a b:Nat->List s}(e:∀k,k<3->a k=b k)(k:Nat),k<3->l.foldl qf a k=l.foldl qf b k|[],_,_,_,e,k,E=>e k E|A::l,h,a,b,e,k,E=>go_congr (l:=l) (λx hx=>h x<|vh _ hx) (λk E=>WE (h A<|vi ..) e k E) k E
theorem adt{W:ax}{b:Nat}{l:List ByteArray}(h:W.heap[b]?=U (Mu l)):zW W (aC (U ⟨b,0,V⟩) l.length l.length) l:=⟨_,_,rfl,λj E=>⟨b,rfl,(dm.1 h).1,(M h j).trans<|by simp[E]⟩⟩
set_option maxHeartbeats 8000000 in
theorem ayP(c:Int)(w:ax)(hc:ij c)(hT:iS w)(ht:fx w)(hf:pK w):bz Q 8 #[Y aG c] w λe w'=>e=bj (cx Z)/\aY w.heap.size w w':=by
 have h4:4<w.heap.size:=(dm.1 hf).1;obtain⟨k,C⟩:∃k,k=tH c 19:=⟨_,rfl⟩;have aJv:k<19:=by rw[C];exact Sa<|by omega
 have Qe:dx<|∀W,bz Q 18 #[Y aG c,Y aG 19] W λe W'=>e=bj (Y aG k)/\W'=W:=X λW=>by have:=XP c 19 W (by omega) (by omega) hc;rw[<-C]at this;exact this
 have HH:=X<|aM hT<|aM ht hf;have C30:=X<|ash w;clear hc hT ht hf C;go_enter apK,ntmps8;go_wp2_with(go_at_call 30;go_must(refine C30.out.mono ?_);rintro e w1⟨rfl,ez⟩;have H1:=X ez;clear ez;refine Halt.of ?_);unfold Halt;clear C30;have C31:=X<|aEy w1;go_wp2_with(go_at_call 31;go_must(refine C31.out.mono ?_);rintro e w2⟨rfl,jW⟩;have H2:=X jW;clear jW;refine Halt.of ?_);unfold Halt;clear C31;go_wp2_with(go_at_call 18;go_must(refine(Qe.out _).mono ?_);rintro e w5⟨rfl,KC⟩;subst KC;refine Halt.of ?_);unfold Halt;clear Qe;have Qf:=X<|Wv w5;go_wp2_with(go_at_call 16;go_must(refine Qf.out.mono ?_);rintro e w3⟨pw,pv,R,rfl,sN,hR,gM⟩;have H3:=X<|aM sN<|aM hR gM;clear sN hR gM;refine Halt.of ?_);unfold Halt;clear Qf;have s1:=aso w;rw[<-H1.out]at s1;have s2:=aEC w1;rw[<-H2.out]at s2;obtain⟨sN,ym,gM⟩:=H3.out;obtain⟨p1,t1,q1⟩:=s1;obtain⟨p2,t2,q2⟩:=s2;have IM:aY w.heap.size w w5:=p1.trans<|p2.mono p1.size;have LR:aY w.heap.size w w3:=IM.trans<|gM.mono IM.size;have U7:aY w1.heap.size w1 w3:=p2.trans<|gM.mono p2.size;have K2:5<=w5.heap.size:=by have:=IM.size;omega
 have aas:w.heap.size+36<w1.heap.size:=(dm.1 t1).1;have aar:w1.heap.size+7<w5.heap.size:=(dm.1 t2).1;have u1:w3.heap[w.heap.size+36]?=U (aH (Gg w.heap.size xP).toArray 66):=(U7.block _ aas).trans t1;have u2:w3.heap[w1.heap.size+7]?=U (aH (Is w1.heap.size A4).toArray 63):=(gM.block _ aar).trans t2;have OZ:=gM.size;obtain⟨wx0,ai6⟩:∃wx0,wx0=w3:=⟨_,rfl⟩;by_cases OC:k<12
 .obtain⟨st,fL⟩:∃st,st=xP[k]'OC:=⟨_,rfl⟩;have AW:=uc.1 asf st (by rw[fL];exact nC _);have EI:WG st=Z:=by have h:=congrArg (λl=>l[k]?) asg;simp only[YZ,ah4,cJ OC,mq<|show k<xP.length from OC,ee,dX]at h;rw[fL];exact h
  have cl:∀i,i<5->w3.cell? ⟨w.heap.size+36,k*5+i,V⟩=(Rg (w.heap.size+3*k) st)[i]?:=λi hi=>(M u1 _).trans (by rw[my,fL];exact aem OC i hi);have q3:∀i o,(Jp st)[i]?=U o->w3.heap[w.heap.size+3*k+i]?=U o/\w.heap.size+3*k+i<w5.heap.size:=λi o e=>by have e1:=q1 k OC i o (by rw[<-fL];exact e);have e2:=(dm.1 e1).1;exact⟨(U7.block _ e2).trans e1,by have:=p2.size;omega⟩
  obtain⟨sl,si,sn,sf,E⟩:=st;have y0:w3.cell? ⟨w.heap.size+36,k*5,V⟩=U (aC (U ⟨w.heap.size+3*k,0,V⟩) sl.length sl.length):=cl 0 (by omega);have y1:w3.cell? ⟨w.heap.size+36,k*5+1,V⟩=U (Y aG si):=cl 1 (by omega);have y2:w3.cell? ⟨w.heap.size+36,k*5+2,V⟩=U (aE sn):=cl 2 (by omega);have y3:w3.cell? ⟨w.heap.size+36,k*5+3,V⟩=U (aC (U ⟨w.heap.size+3*k+1,0,V⟩) sf.length sf.length):=cl 3 (by omega);have y4:w3.cell? ⟨w.heap.size+36,k*5+4,V⟩=U (aC (U ⟨w.heap.size+3*k+2,0,V⟩) E.length E.length):=cl 4 (by omega);obtain⟨g,hg⟩:∃g,g=w.heap.size+3*k:=⟨_,rfl⟩;rw[<-hg]at y0 y3 y4 q3;obtain⟨wx,jV⟩:∃wx,wx=w3.alloc (aH #[aC (U ⟨g,0,V⟩) sl.length sl.length,Y aG si,aE sn,aC (U ⟨g+1,0,V⟩) sf.length sf.length,aC (U ⟨g+2,0,V⟩) E.length E.length] 66):=⟨_,rfl⟩;have B:aY w3.heap.size w3 wx:=by rw[jV];exact(dK _ _).alloc (aQ _) _
  have xo:wx.heap[w3.heap.size]?=U (aH #[aC (U ⟨g,0,V⟩) sl.length sl.length,Y aG si,aE sn,aC (U ⟨g+1,0,V⟩) sf.length sf.length,aC (U ⟨g+2,0,V⟩) E.length E.length] 66 (0,0)):=by rw[jV];exact gI _ _
  simp only[cG,eU]at AW;obtain⟨⟨⟨⟨⟨h1,h2⟩,h3⟩,h5⟩,h6⟩,h7⟩:=AW;have A:=LR.trans<|B.mono LR.size;obtain⟨hT,ht,hf⟩:=HH.out;have TX:=sN.below B;have Qc:=X<|ak7 w5.heap.size 0 0 [] wx pw pv R sl g sl.length TX (λk C=>(ym k C).1) K2 (by omega) (by omega) (hT.below A<|aQ _) (ht.below A<|aQ _) ((A.block 4 h4).trans hf) ((B.block _ (dm.1 (q3 0 _ rfl).1).1).trans (q3 0 _ rfl).1) (q3 0 _ rfl).2 (by have:=B.size;omega) λs hs=>Rb<|uc.1 h1 s hs;have vK:∀b,oO R b->w5.heap.size<=b/\b<w3.heap.size:=λb q=>⟨sN.lo q,by
   obtain⟨k,C,q|q⟩:=q<;>rw[q];.exact(sN.eT k C).book.lt
   .exact(sN.eT k C).map.lt⟩;have Ct:=q3 1 _ rfl;have EL:=q3 2 _ rfl;have zE:∀s∈sl,FN s:=λs hs=>Rb<|uc.1 h1 s hs;have aBz:(k:Int)<12:=by omega
  unfold WG at EI;simp only[cG,eU]at EI;have HX:=X<|aM ym<|aM A<|aM xo<|aM EI<|aM h3<|aM h5<|aM vK<|aM Ct<|aM EL<|aM B<|aM zE<|aM h6<|aM h7<|aM OZ<|aM h2 IM.size;have HW:=X jV;clear sN ym gM p1 t1 q1 p2 t2 q2 IM LR U7 K2 aas aar u1 u2 OZ cl q3 B xo EI h1 h2 h3 h5 h6 h7 A hT ht hf TX vK Ct EL zE jV hg fL ai6 H1 H2 H3;go_wp2_with(go_at_call 32;rw[<-HW.out];go_must(refine Qc.out.mono ?_);rintro e D⟨rfl,hG⟩;have HG:=X hG;clear hG;refine Halt.of ?_);unfold Halt;clear Qc;obtain⟨R',ks',K,S,ri,sQ,qC,mA,lU,ku⟩:=HG.out;obtain⟨ym,A,xo,EI,h3,h5,vK,Ct,EL,B,zE,h6,h7,OZ,h2,h02⟩:=HX.out;have NY:=(dm.1 xo).1;have Fe:D.heap[w3.heap.size]?=U (aH #[aC (U ⟨g,0,V⟩) sl.length sl.length,Y aG si,aE sn,aC (U ⟨g+1,0,V⟩) sf.length sf.length,aC (U ⟨g+2,0,V⟩) E.length E.length] 66 (0,0)):=(ku.block _ NY λq=>by have:=(vK _ q).2;omega).trans xo;have LQ:aY w.heap.size w D:=A.trans (ku.below A.size λb hb q=>by have:=(vK _ q).1;have:=A.size;have:=(dm.1 Ct.1).1;omega);have hl:(R' si).l=Le sl si:=by rw[lU si h3,vk];exact go_congr zE (λk C=>(ym k C).2.1) si h3
  have old:∀b,b<w5.heap.size->D.heap[b]?=w3.heap[b]?:=λb hb=>(ku.block b (by have:=B.size;omega) λq=>by have:=(vK _ q).1;omega).trans (B.block b<|by omega);have o1:=adt<|(old _ Ct.2).trans Ct.1;have o2:=adt<|(old _ EL.2).trans EL.1;have Af:=X<|ri.fields (by omega) h3 h5;have Qd:dx<|∀W,aY D.heap.size D W->bz Q 29 #[aF<|U ⟨pw,0,V⟩,Y aG si,aE ⟨#[]⟩] W λe w'=>∃v,e=bj v/\zW w' v E/\aY W.heap.size W w':=X λW hW=>by have:=(ri.below hW).names (by omega) h3 ⟨#[]⟩;rwa[hl,EI.2]at this
  rw[hl,show lJ (qD (Le sl si) sn)=sf from EI.1]at Af;have z1:D.cell? ⟨w3.heap.size,1,V⟩=U (Y aG si):=M Fe 1;have z2:D.cell? ⟨w3.heap.size,2,V⟩=U (aE sn):=M Fe 2;have HY:=X<|aM Fe<|aM LQ<|aM o1<|aM o2<|aM h6 h7;clear ri sQ qC mA lU ku ym A xo EI h3 h5 vK Ct EL B zE h6 h7 OZ h2 h02 NY Fe LQ hl old o1 o2 HX HG;go_wp2_with(go_at_call 27;go_must(refine Af.out.mono ?_);rintro e M2⟨v1,rfl,Ob,je⟩;have FV:=X<|aM Ob je;clear Ob je;refine Halt.of ?_);unfold Halt;clear Af z1 z2;have z1:M2.cell? ⟨w3.heap.size,1,V⟩=U (Y aG si):=M ((FV.out.2.block _ (dm.1 HY.out.1).1).trans HY.out.1) 1;go_wp2_with(go_at_call 29;go_must(refine(Qd.out _ FV.out.2).mono ?_);rintro e M3⟨v2,rfl,Oa,uq⟩;have HV2:=X<|aM Oa uq;clear Oa uq;refine Halt.of ?_);unfold Halt;clear Qd z1;have U6:=FV.out.2.trans<|HV2.out.2.mono FV.out.2.size;have CL:=(U6.block _ (dm.1 HY.out.1).1).trans HY.out.1;have z3:M3.cell? ⟨w3.heap.size,3,V⟩=U (aC (U ⟨g+1,0,V⟩) sf.length sf.length):=M CL 3;have Qb:=X (afq v1 _ sf M3 (FV.out.1.later HV2.out.2) (HY.out.2.2.1.later U6)<|by have:=HY.out.2.2.2.2.1;omega);have Mj:=X<|aM U6 CL;clear U6 CL;go_wp2_with(go_at_call 33;go_must(refine Qb.out.mono ?_);rintro e M4⟨rfl,yj⟩;have H4:=X yj;clear yj;refine Halt.of ?_);unfold Halt;clear Qb z3;have CK:=(H4.out.block _ (dm.1 Mj.out.2).1).trans Mj.out.2;have z4:M4.cell? ⟨w3.heap.size,4,V⟩=U (aC (U ⟨g+2,0,V⟩) E.length E.length):=M CK 4;have bM4:=Mj.out.1.trans<|H4.out.mono Mj.out.1.size;have Qb:=X (afq v2 _ E M4 (HV2.out.1.later H4.out) (HY.out.2.2.2.1.later bM4)<|by have:=HY.out.2.2.2.2.2;omega);have Vu:=X bM4;clear bM4 CK;go_wp2_with(go_at_call 33;go_must(refine Qb.out.mono ?_);rintro e M5⟨rfl,OV⟩;have H5:=X OV;clear OV;refine Halt.of ?_);unfold Halt;clear Qb z4;have PU:aY w.heap.size w M5:=HY.out.2.1.trans<|(Vu.out.trans<|H5.out.mono Vu.out.size).mono HY.out.2.1.size;have Qg:=X<|ant M5 (HH.out.1.below PU<|aQ _) (HH.out.2.1.below PU<|aQ _)<|(PU.block 4 h4).trans HH.out.2.2;have Vt:=X PU;clear PU;go_wp2_with(go_at_call 15;go_must(refine Qg.out.mono ?_);rintro e M6⟨rfl,OU⟩;have H6:=X OU;clear OU;refine Halt.of ?_);unfold Halt;clear Qg;go_wp2;go_ret;exact⟨rfl,Vt.out.trans<|H6.out.mono Vt.out.size⟩
 .obtain⟨j,hj⟩:∃j,j=k-12:=⟨_,rfl⟩;have OD:j<7:=by omega
  obtain⟨d,hd⟩:∃d,d=A4[j]'OD:=⟨_,rfl⟩;have AW:=uc.1 aEv d (by rw[hd];exact nC _);have Hu:abN d=Z:=by have h:=congrArg (λl=>l[j]?) aEu;simp only[YZ,ah4,cJ OD,mq<|show j<A4.length from OD,ee,dX]at h;rw[hd];exact h
  have cl:∀i,i<3->w3.cell? ⟨w1.heap.size+7,j*3+i,V⟩=(UG (w1.heap.size+j) d)[i]?:=λi hi=>(M u2 _).trans (by rw[my,hd];exact al7 OD i hi);have q3:w3.heap[w1.heap.size+j]?=U (Gd d.1)/\w1.heap.size+j<w5.heap.size:=by have e1:=q2 j OD;rw[<-hd]at e1;have e2:=(dm.1 e1).1;exact⟨(gM.block _ e2).trans e1,e2⟩
  obtain⟨sl,pf,wn⟩:=d;have y0:w3.cell? ⟨w1.heap.size+7,j*3,V⟩=U (aC (U ⟨w1.heap.size+j,0,V⟩) sl.length sl.length):=cl 0 (by omega);have y1:w3.cell? ⟨w1.heap.size+7,j*3+1,V⟩=U (aE pf):=cl 1 (by omega);have y2:w3.cell? ⟨w1.heap.size+7,j*3+2,V⟩=U (aE wn):=cl 2 (by omega);obtain⟨g,hg⟩:∃g,g=w1.heap.size+j:=⟨_,rfl⟩;rw[<-hg]at y0 q3;obtain⟨wx,jV⟩:∃wx,wx=w3.alloc (aH #[aC (U ⟨g,0,V⟩) sl.length sl.length,aE pf,aE wn] 63):=⟨_,rfl⟩;have B:aY w3.heap.size w3 wx:=by rw[jV];exact(dK _ _).alloc (aQ _) _
  have xo:wx.heap[w3.heap.size]?=U (aH #[aC (U ⟨g,0,V⟩) sl.length sl.length,aE pf,aE wn] 63 (0,0)):=by rw[jV];exact gI _ _
  simp only[cG,eU]at AW;obtain⟨h1,h2⟩:=AW;have A:=LR.trans<|B.mono LR.size;obtain⟨hT,ht,hf⟩:=HH.out;have TX:=sN.below B;have Qc:=X<|ak7 w5.heap.size 0 0 [] wx pw pv R sl g sl.length TX (λk C=>(ym k C).1) K2 (by omega) (by omega) (hT.below A<|aQ _) (ht.below A<|aQ _) ((A.block 4 h4).trans hf) ((B.block _ (dm.1 q3.1).1).trans q3.1) q3.2 (by have:=B.size;omega) λs hs=>Rb<|uc.1 h1 s hs;have vK:∀b,oO R b->w5.heap.size<=b/\b<w3.heap.size:=λb q=>⟨sN.lo q,by
   obtain⟨k,C,q|q⟩:=q<;>rw[q];.exact(sN.eT k C).book.lt
   .exact(sN.eT k C).map.lt⟩;have zE:∀s∈sl,FN s:=λs hs=>Rb<|uc.1 h1 s hs;have aBz:(12:Int)<=(k:Int):=by omega
  have nJ:(k:Int)-12=(j:Int):=by omega
  have OA:∀z,z=(j:Int)->aG.wrap z=z:=λz hz=>by rw[qW];omega
  have aJq:∀z,z=(j:Int)->jM z=z:=λz hz=>by unfold jM;omega
  have hj0:(0:Int)<=(j:Int):=by omega
  have aJx:(j:Int)<7:=by omega
  unfold abN at Hu;simp only[eU]at Hu;have HX:=X<|aM ym<|aM A<|aM xo<|aM Hu<|aM vK<|aM zE<|aM h2<|aM IM.size<|hT.below A<|aQ _;have HW:=X jV;clear sN ym gM p1 t1 q1 p2 t2 q2 IM LR U7 K2 aas aar u1 u2 OZ cl q3 B xo Hu h1 h2 A hT ht hf TX vK zE jV hg hd ai6 H1 H2 H3 hj;go_wp2_with(go_at_call 32;rw[<-HW.out];go_must(refine Qc.out.mono ?_);rintro e D⟨rfl,hG⟩;have HG:=X hG;clear hG;refine Halt.of ?_);unfold Halt;clear Qc;obtain⟨R',ks',K,S,ri,sQ,qC,mA,lU,ku⟩:=HG.out;obtain⟨ym,A,xo,Hu,vK,zE,h2,h02,O5⟩:=HX.out;have NY:=(dm.1 xo).1;have Fe:D.heap[w3.heap.size]?=U (aH #[aC (U ⟨g,0,V⟩) sl.length sl.length,aE pf,aE wn] 63 (0,0)):=(ku.block _ NY λq=>by have:=(vK _ q).2;omega).trans xo;have LQ:aY w.heap.size w D:=A.trans (ku.below A.size λb hb q=>by have:=(vK _ q).1;omega);have hl:(R' 0).l=Le sl 0:=by rw[lU 0<|by omega,vk];exact go_congr zE (λk C=>(ym k C).2.1) 0<|by omega
  have C20:=X<|ri.dig (by omega) (show 0<3 by omega) pf<|HH.out.2.1.below LQ<|aQ _;rw[hl,Hu]at C20;have z1:D.cell? ⟨w3.heap.size,1,V⟩=U (aE pf):=M Fe 1;have HY:=X<|aM Fe LQ;clear ri sQ qC mA lU ku ym A xo Hu vK zE h2 h02 O5 NY Fe LQ hl HX HG;go_wp2_with(go_at_call 20;go_must(refine C20.out.mono ?_);rintro e M2⟨rfl,je⟩;have FV:=X je;clear je;refine Halt.of ?_);unfold Halt;clear C20 z1;have z2:M2.cell? ⟨w3.heap.size,2,V⟩=U (aE wn):=M ((FV.out.block _ (dm.1 HY.out.1).1).trans HY.out.1) 2;go_wp2;go_ret;exact⟨rfl,HY.out.2.trans<|FV.out.mono HY.out.2.size⟩
end
end Go.Proofs.YtpdbmpbmepkikaaGreatDoor
