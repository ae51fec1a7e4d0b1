/- Laws. -/
import Derived.Lib.ItoaLen
import Derived.Shelf.Strings.SlTrimAscii
import Derived.Stop.Asserts
import Derived.Lib.IfaceEq
import Derived.Lib.Zigzag
import Derived.Test.YtpdbmpbmepkikaaGreatDoorP09
set_option maxRecDepth 100000
set_option maxHeartbeats 400000
set_option linter.all false
open Go.Proofs.Tryz
open And renaming intro->bP
open Array renaming replicate->sH
open Bool renaming true->Z,false->ai
open Decidable renaming decide->cq
open Go renaming method->AT,wpListIn->Qi,undef->ak,World->av,Value->ay,Calls->bE,Program->bU,execOp->cT,Sem->cy,Oper->dD,yielded->dY,TypeId->dZ,Addr->eK,binOp->gw,Operand->iI,results->jN,underlying->oq,maxLen->uZ,unsupported->ua
open Go.Builtin renaming append_->Xl
open Go.Ending renaming returned->bj
open Go.Extern.ReflectliteType renaming relation->Il,toType->Qq,typeOf->Qr,method->Qu,assignableTo->Xo,abiMethod->Xt,elem->ag2,implements_->agV
open Go.Extern.ReflectliteValue renaming valueError->AO,method->AP,parts->Fa,unpack->LI,set->Mf,isNil->Qm,elem->Qp,methodAny->Qs,mk->ag4,flagAddr->ag5
open Go.Extern.Rtype renaming kind->Ic,directlyAssignable->Ik
open Go.Fn renaming func->ep
open Go.Instr renaming typeAssert->Fi,makeMap->LV
open Go.IntKind renaming i64->aH,u8->aq,u64->cK
open Go.Lib renaming pow10Tab->Xn,setCells->x5,TabIs->x6
open Go.Obj renaming cells->aF,map->iP,deferred->wG
open Go.Region renaming wanted->eP
open Go.Result renaming ok->aV,andThen->lH
open Go.RowKit renaming Below->bC,Hid->dR
open Go.Unsupported renaming noEntry->wH
open Go.Value renaming cells->AV,int->Y,slice->aD,pointer->aE,string->aG,agg->bN,tuple->bO,map->cj,bool->cz,func->dH,iface->iv,nilIface->mF,oneCell'->za
open Go.World renaming alloc->Ig,setCell->jE,cell?->og
open Nat renaming reduceSub->x9,reduceAdd->ya
open Option renaming some->U,none->V
open Or renaming inr->aA,inl->ax
open Pure renaming pure->bH
open UInt8 renaming ofNat->jZ
namespace Go.Proofs.YtpdbmpbmepkikaaGreatDoor
def K:=@Go.Joins.cell_of_block
def tL:=@Go.Joins.unfrozen_of_block
def eC:=@List.setIfInBounds_toArray
def eB:=@List.set_cons_zero
def ee:=@List.set_cons_succ
def vK:=@Go.run_takeDeferred
def adn:=@List.filter_cons_of_neg
def Kb:=@List.filter_nil
def tK:=@List.append_nil
def OH:=@List.filter_cons_of_pos
def aEk:=@List.dropWhile_cons
def ata:=@Go.Lib.toList_data
def aEj:=@Go.Lib.size_eq
def adm:=@Go.Lib.setCells_size
def Ka:=@Go.World.cell?_alloc_at
def as9:=@Nat.eq_zero_or_pos
def jc:=@Go.Calls.mono
def xG:=@Go.bodyPost_ret
def jV:=@List.length_append
def OG:=@Go.World.frozen?_alloc_old
def OF:=@Go.run_typeAssert_lacksB
def adl:=@Go.Lib.run_eql_iface_int
def aEi:=@UInt8.toNat_ofNat'
def adk:=@Go.Lib.run_append_own_string
def aEh:=@Go.IntKind.wrap_u64
section
open Go.RowKit
abbrev ga(w:av):Prop:=x6 Q w "internal/strconv.uint64pow10" cK Xn
theorem Dw:Q.globalNamed "internal/strconv.uint64pow10"=U 3:=by kernel_rfl
theorem ga.of_block{w w'}(h:ga w)(a:w'.heap[3]? =w.heap[3]?):ga w':=by
 unfold ga x6 World.var? at h⊢
 grind[Dw]
theorem ga.lt{w}(h:ga w):3<w.heap.size:=by
 unfold ga x6 World.var? at h
 grind[Dw,Nat.lt_or_ge,Array.getElem?_eq_none]
theorem ga.keep{F}{w w'}(h:ga w)(b:O F w w')(a:¬F 3):ga w':=h.of_block (b.block 3 h.lt a)
theorem ga.below{N}{w w'}(h:ga w)(a:bC N w w')(b:w<=N):ga w':=h.of_block (a.block 3 (cF h.lt b))
def IQ(w0 W:av):Prop:=bC w0.heap.size w0 W
theorem aBi(w0 W):IQ w0 W.drew↔IQ w0 W:=⟨λh=>⟨h.os,h.tape,h.output,h.size,h.block⟩,λh=>⟨h.os,h.tape,h.output,h.size,h.block⟩⟩
def yP(n:Int):ByteArray:=⟨(Lib.itoa n).toArray⟩
def ic(n:Int):Prop:= -9223372036854775808<=n∧n<=9223372036854775807
theorem atI(n)(h:ic n)(w)(c:ga w):bE Q 140 #[n] w λe a=>e=bj ((yP n))∧bC w w a:=by
 refine(ajP n h.1 h.2 w c).mono ?_;rintro e a ⟨rfl,k,f,rfl⟩;refine⟨rfl,rfl,rfl,rfl,by simp[Sort.grow],λb d=>?_⟩
 rw[Sort.heap_grow_old _ _ (by simpa using d)]
 rfl
theorem GP(n)(h:ic n):(yP n).size<=21:=by simpa[yP,ByteArray.size] using Lib.itoa_length_le n h.1 h.2
def BY(x:s):ByteArray:=x.name++⟨#[46]⟩++x.field++⟨#[32]⟩++yP x.c++⟨#[32]⟩++yP x.r++⟨#[32]⟩++yP x.value.size++⟨#[32]⟩++x.value++⟨#[10]⟩
attribute [local simp] aBi in
theorem asB (n f v) (c r) (w) (I:ga w) (Q3:n.size<=4096) (hf:f.size<=4096) (R:v.size<=4096) (F:ic c) (C:ic r):
  bE Q 84 #[bN #[aG n,aG f,c,r,aG v]] w λe l=>e=bj ((BY ⟨n,f,c,r,v⟩))∧bC w w l:=by
 have y:ic v.size:=by constructor<;>omega
 obtain⟨a,m⟩:∃s,yP c=s:=⟨_,rfl⟩;obtain⟨b,p⟩:∃s,yP r=s:=⟨_,rfl⟩;obtain⟨d,t⟩:∃s,yP v.size=s:=⟨_,rfl⟩;have X:a.size<=21:=by grind[GP]
 have z2:b.size<=21:=by grind[GP]
 have z3:d.size<=21:=by grind[GP]
 have g:∀W,IQ (w.alloc (aF #[n,f,c,r,v] 46)) W->∀k s,ic k->yP k=s->bE Q 140 #[k] W λe q=>e=bj (s)∧
   (∀o,q.cell? ⟨w,o,V⟩=W.cell? ⟨w,o,V⟩)∧IQ (w.alloc (aF #[n,f,c,r,v] 46)) q:=λW j k s J Q2=>
  (atI k J W ((I.keep (O.alloc (λ_=>False) _ _) id).below j (Nat.le_refl _))).mono λe q h=>⟨by grind,λo=>(A9 h.2).1 _ _ (Nat.lt_of_lt_of_le (by simp) j.size),j.trans (h.2.mono j.size)⟩
 have x:=Lib.hid g;have K:IQ (w.alloc (aF #[n,f,c,r,v] 46)) (w.alloc (aF #[n,f,c,r,v] 46)):=Below.refl _ _;have i:=gD.mk m p t;have u:=gD.mk F C y;have M:¬((9223372036854775807:Nat)<n.size+1):=by omega
 have T:¬((9223372036854775807:Int)<(n.size:Int)+1+(f.size:Int)):=by omega
 have j3:¬((9223372036854775807:Nat)<n.size+1+f.size):=by omega
 have P:¬((9223372036854775807:Int)<(n.size:Int)+1+(f.size:Int)+1):=by omega
 have N:¬((9223372036854775807:Nat)<n.size+1+f.size+1):=by omega
 have k5:¬((9223372036854775807:Int)<(n.size:Int)+1+(f.size:Int)+1+(a.size:Int)):=by omega
 have Q1:¬((9223372036854775807:Nat)<n.size+1+f.size+1+a.size):=by omega
 have QX:¬((9223372036854775807:Int)<(n.size:Int)+1+(f.size:Int)+1+(a.size:Int)+1):=by omega
 have j6:¬((9223372036854775807:Nat)<n.size+1+f.size+1+a.size+1):=by omega
 have S:¬((9223372036854775807:Int)<(n.size:Int)+1+(f.size:Int)+1+(a.size:Int)+1+(b.size:Int)):=by omega
 have QW:¬((9223372036854775807:Nat)<n.size+1+f.size+1+a.size+1+b.size):=by omega
 have Q0:¬((9223372036854775807:Int)<(n.size:Int)+1+(f.size:Int)+1+(a.size:Int)+1+(b.size:Int)+1):=by omega
 have j8:¬((9223372036854775807:Nat)<n.size+1+f.size+1+a.size+1+b.size+1):=by omega
 have k9:¬((9223372036854775807:Int)<(n.size:Int)+1+(f.size:Int)+1+(a.size:Int)+1+(b.size:Int)+1+(d.size:Int)):=by omega
 have j9:¬((9223372036854775807:Nat)<n.size+1+f.size+1+a.size+1+b.size+1+d.size):=by omega
 have L:¬((9223372036854775807:Int)<(n.size:Int)+1+(f.size:Int)+1+(a.size:Int)+1+(b.size:Int)+1+(d.size:Int)+1):=by omega
 have G:¬((9223372036854775807:Nat)<n.size+1+f.size+1+a.size+1+b.size+1+d.size+1):=by omega
 have E:¬((9223372036854775807:Int)<(n.size:Int)+1+(f.size:Int)+1+(a.size:Int)+1+(b.size:Int)+1+(d.size:Int)+1+(v.size:Int)):=by omega
 have B:¬((9223372036854775807:Nat)<n.size+1+f.size+1+a.size+1+b.size+1+d.size+1+v.size):=by omega
 have D:¬((9223372036854775807:Int)<(n.size:Int)+1+(f.size:Int)+1+(a.size:Int)+1+(b.size:Int)+1+(d.size:Int)+1+(v.size:Int)+1):=by omega
 have H:¬((9223372036854775807:Nat)<n.size+1+f.size+1+a.size+1+b.size+1+d.size+1+v.size+1):=by omega
 go_enter aj9,ntmps84;go_wp2
 go_region_held3 (λW=>W.cell? ⟨w.heap.size,0,V⟩=U (aG n)∧W.cell? ⟨w.heap.size,1,V⟩=U (aG f)∧W.cell? ⟨w.heap.size,2,V⟩=U (Y aH c)∧W.cell? ⟨w.heap.size,3,V⟩=U (Y aH r)∧W.cell? ⟨w.heap.size,4,V⟩=U (aG v)∧IQ (w.alloc (aF #[aG n,aG f,Y aH c,Y aH r,aG v] 46)) W)
  (go_keep)
  ((first
   |(go_at_call 140;refine(x.out _ ?hw c a u.a i.a).mono ?_;(case hw=>grind);rintro e l ⟨rfl,z,A⟩)
   |(go_at_call 140;refine(x.out _ ?hw r b u.b i.b).mono ?_;(case hw=>grind);rintro e l ⟨rfl,z,A⟩)
   |(go_at_call 140;refine(x.out _ ?hw v.size d u.c i.c).mono ?_;(case hw=>grind);rintro e l ⟨rfl,z,A⟩)))
 go_wp2;go_ret;refine⟨?_,((Below.refl _ _).alloc (Nat.le_refl _) _).trans (Below.mono (by assumption) (by simp))⟩
 rw[BY,i.a,i.b,i.c];rfl
attribute [local go_sem] Oper.semAt_some
theorem azd(w)(s):∃a o,(convert 9 79 (aG s)).run Q w=aV (aD (w) s.size a) (w.drew.alloc o)∧
  ∀j (h),(w.drew.alloc o).cell? ⟨w,j,V⟩=U (Y aq (s.data[j].toNat)):=by
 refine⟨_,_,run_bytes_of_string w 9 79 5 s rG rH wT,λj b=>?_⟩;rw[show w.heap.size=w.drew from rfl,World.cell?_alloc_mark]
 grind[bytesRow_at]
structure Fit(x:s):Prop where
 name:x.name.size<=4096
 field:x.field.size<=4096
 value:x.value.size<=4096
 c:ic x.c
 r:ic x.r
theorem asC{x}(h:Fit x):(BY x).size<=20000:=by
 have:=GP _ h.c;have:=GP _ h.r;have:=GP x.value.size (by have:=h.value;constructor<;>omega)
 have:=h.name;have:=h.field;have:=h.value;simp only[BY,ByteArray.size_append];simp only[ByteArray.size,uH,qB,lQ] at*;omega
theorem aAg{L}{pfx}{x}(h:x∈dX L pfx):x∈L:=by
 obtain⟨k,c,rfl⟩:=lR.1 h;obtain⟨y,b,e⟩:=lR.1 ((xH.1 ((Ji _).subset c)).1);rw[od];cases a:lE L k with
 |none=>exact absurd e (by simpa using List.find?_eq_none.1 a y b)
 |some z=>exact OJ a
def Jg(h c:Int):Int:=cK.wrap (Go.bits BinOp.xor cK h (cK.wrap c)*1099511628211)
def Cu(h:Int)(l:List UInt8):Int:=l.foldl (λh c=>Jg h c.toNat) h
def PD(h:Int)(s:ByteArray):Int:=Cu h s.data.toList
theorem awn(h)(l:List UInt8)(j)(a):Cu h (l.take (j+1))=Jg (Cu h (l.take j)) l[j].toNat:=by
 grind[Cu,List.take_add_one]
def y(l:List s):Int:=l.foldl (λh x=>PD h (BY x)) 14695981039346656037
theorem awo(l)(x):y (l++[x])=PD (y l) (BY x):=by
 grind[y]
structure Mw(N:Nat)(o3:Option Obj)(pre:List s)(W:av)(D:Nat->Prop):Prop where
 sum:W.heap[N+1]? =U (aF #[Y cK (y pre)] 120 (0,0))
 Zg:W.heap[3]? =o3
 arr:W.heap[N]? =U (aF #[Y aq 0,Y aq 0,Y aq 0,Y aq 0,Y aq 0,Y aq 0,Y aq 0,Y aq 0] 76 (0,0))
 own:D=λb=>b=N+1∨b=3∨b=N
theorem Mw.owned(N)(g)(i:3<N):ql (Mw N g):=⟨λd W D ⟨h,f,a,e⟩ b k=>by
  grind,
 λd W D j ⟨h,f,a,e⟩ c=>by subst e;exact⟨(c.block _ (ax rfl)).trans h,(c.block _ (aA (ax rfl))).trans f,(c.block _ (aA (aA rfl))).trans a,rfl⟩⟩
def gV(h:Int):ay:=bN #[Y aq (h/72057594037927936 % 256),Y aq (h/281474976710656 % 256),Y aq (h/1099511627776 % 256),Y aq (h/4294967296 % 256),Y aq (h/16777216 % 256),Y aq (h/65536 % 256),Y aq (h/256 % 256),Y aq (h % 256)]
structure td(N T:Nat)(W0:av)(cs:Array ay)(W:av):Prop where
 block:W.heap[N]? =U (aF cs T (0,0))
 keep:O (λb=>b=N) W0 W
theorem td.set{N T}{W0 W}{cs}(h:td N T W0 cs W)(i)(v):td N T W0 (cs.setIfInBounds i v) (W.setCell ⟨N,i,V⟩ v):=by refine⟨?_,h.keep.trans (O.setCell _ _ _ rfl)⟩;simp only[jE,yM,h.block,ey,iM];rfl
theorem Qa(m)(L)(pfx)(w)(R:cJ w m L)(hL:L.length<=1073741824)(T:ga w)(hF:∀x∈L,Fit x):
  bE Q 51 #[cj (m),aG pfx] w λe w'=>e=bj (gV (y (dX L pfx)))∧bC w w w':=by
 have pq:=R.lt;have hm3:m≠3:=by
  rintro rfl;obtain⟨en,clock,z,_⟩:=R;unfold ga x6 World.var? at T
  grind[Dw]
 have h3:=T.lt;refine(callsIn_wide (n:=0)).1 (callsIn_of_wp_marks aki rfl trivial ?_ rfl);simp only[ntmps51,uH,qB,lQ,ya,x9,vP,vO,vN,vM,vL,qC];have HT:=cI.mk T R;clear T R
 gi_wp2_with (gi_at_call 52;refine(callsIn_wide.2 (XL m pfx _)).mono ?_;rintro e J ⟨rfl,fK⟩;have M:=X fK;clear fK)
 obtain⟨T,R⟩:=HT;obtain⟨N,hN⟩:=ex w.heap.size;have wu:cJ J m L:=by rw[M.out];exact(((R.alloc _).alloc _).alloc _).alloc _
 have QX:J.heap[3]? =w.heap[3]? :=by rw[M.out];exact(((((ei _ _).alloc (aW _) _).alloc (by simp) _).alloc (by simp;omega) _).alloc (by simp;omega) _).block 3 h3
 have g:bC w w J:=by rw[M.out];exact((((ei _ _).alloc (aW _) _).alloc (by simp) _).alloc (by simp;omega) _).alloc (by simp;omega) _
 have jK:J.heap.size=w+4:=by rw[M.out];simp
 have EM:J.heap[w.heap.size]? =U (aF #[Y aq 0,Y aq 0,Y aq 0,Y aq 0,Y aq 0,Y aq 0,Y aq 0,Y aq 0] 76 (0,0)):=by rw[M.out];simp only[Ig];grind
 have wj:J.heap[w.heap.size+1]? =U (aF #[Y cK 14695981039346656037] 120 (0,0)):=by rw[M.out];simp only[Ig];grind
 have Hj:J.cell? ⟨w+1+1,0,V⟩=U (cj (m)):=by rw[M.out];go_simp
 have K2:J.cell? ⟨w+1+1+1,0,V⟩=U (aG pfx):=by rw[M.out];go_simp
 have HT0:=X T;have hit:=XM (w.heap.size+1+1) (w.heap.size+1+1+1) m L pfx J Hj K2 wu hL;clear Hj K2 hN N T R;have HF:=X hF;clear hF;obtain⟨o3,Q3⟩:∃o,o=w.heap[3]? :=⟨_,rfl⟩;rw[<-Q3] at QX;have HO3:=X Q3;clear Q3;refine wp_rangeFunc (gf:=85) (lb:= #[aE (U ⟨w.heap.size+1+1,0,V⟩),aE (U ⟨w.heap.size+1+1+1,0,V⟩)]) rfl (C5 MZ rfl (by decide)) hit (λb z=>by grind) (λ_=>rfl)
  (Mw w.heap.size o3) (λ_ _ _ _=>False) (Mw.owned _ _ h3) (λ_=>⟨λ_ _ _ h=>h.elim,λ_ _ _ _ h=>h.elim⟩)
  (λb=>b=w.heap.size+1∨b=3∨b=w.heap.size) (λb z=>?xM) ⟨wj,QX,EM,rfl⟩ ?round ?done ?stop
 case xM=>grind
 case stop=>grind
 case done=>
  rintro xs W D G F Cw hK qV;obtain⟨q,C,d,rfl⟩:=F;have E:=X Cw;have aBn:=X C;have hc:W.cell? ⟨w+1,0,V⟩=U (Y cK (y xs)):=K q 0;have ha0:W.cell? w=U (Y aq 0):=K d 0;have pX:W.cell? ⟨w,1,V⟩=U (Y aq 0):=K d 1;have ha2:W.cell? ⟨w,2,V⟩=U (Y aq 0):=K d 2;have Wl:W.cell? ⟨w,3,V⟩=U (Y aq 0):=K d 3;have ha4:W.cell? ⟨w,4,V⟩=U (Y aq 0):=K d 4;have Wk:W.cell? ⟨w,5,V⟩=U (Y aq 0):=K d 5;have ha6:W.cell? ⟨w,6,V⟩=U (Y aq 0):=K d 6;have ha7:W.cell? ⟨w,7,V⟩=U (Y aq 0):=K d 7;have AB:∀i,W.frozen? ⟨w,i,V⟩=ai:=by grind[Joins.unfrozen_of_block]
  obtain⟨h,H⟩:=ex (y xs);rw[<-H] at hc;have a:=sV.mk H G d g;clear q C d Cw H G hit EM wj QX wu g;gi_wp2;refine wpIn_loop_rounds 9 ?_
  iterate 9 (try (rw[roundsIn_succ];gi_wp2))
  generalize K8:jE _ _ _=WF;have hA:td w.heap.size 76 W _ WF:=K8▸(((((((((((((((((td.mk a.c (O.refl _ _)).set 0 _).set 1 _).set 2 _).set 3 _).set 4 _).set 5 _).set 6 _).set 7 _).set 0 _).set 1 _).set 2 _).set 3 _).set 4 _).set 5 _).set 6 _).set 7 _);obtain⟨Q2,hAk⟩:=hA;simp only[eC,eB,ee] at Q2;obtain⟨H,G,-,g⟩:=a;have hK':=(hAk.block _ (dc.1 hK).1 (by omega)).trans hK
  rw[jK] at hK';refine⟨by simp,ax ⟨_,_,rfl,vK hK',?_⟩⟩
  refine⟨_,results_cell_row rfl _ _ w.heap.size 76 _ _ _ rfl ((qE (by omega)).trans Q2) MX rfl (by kernel_rfl),?_,?_⟩
  ·rw[<-G,<-H];rfl
  ·have hW:bC w w W:=⟨E.out.1.os.trans g.os,E.out.1.tape.trans g.tape,E.out.1.output.trans g.output,bq g.size E.out.1.size,λb z=>by
    by_cases h3b:b=3
    ·subst h3b;rw[aBn.out,HO3.out]
    ·exact(E.out.1.block b (cF z g.size) (by grind)).trans (g.block b z)⟩
   grind[Iy,Fo]
 case round=>
  rintro l I ⟨n,f,c,r,v⟩ W D Au uP u ⟨jh,hS⟩ F wm;have QZ:=HF.out ⟨n,f,c,r,v⟩ (aAg (pfx:=pfx) (by grind))
  unfold s.val;have HI:=cI.mk F u;have Z:=(Mw.owned _ _ h3).lt _ _ _ F;obtain⟨q,C,d,rfl⟩:=F;have h3W:=Z 3 (aA (ax rfl));gi_wp2;refine⟨⟨O.alloc _ _ _,λb z=>z.imp id (·.1)⟩,λQ1 p=>?_⟩;have jl:Q1.heap[W.heap.size]? =U (aF #[n,f,c,r,v] 46 (0,0)):=(p.block _ (by omega)).trans (iN _ _)
  have cb:∀i,Q1.cell? ⟨W,i,V⟩=(#[aG n,f,c,r,v])[i]? :=by grind[Joins.cell_of_block]
  have c0:=cb 0;have c1:=cb 1;have c2:=cb 2;have c3:=cb 3;have c4:=cb 4;simp at c0 c1 c2 c3 c4;have⟨F,u⟩:=HI;have q:Q1.heap[w.heap.size+1]? =U (aF #[Y cK (y I)] 120 (0,0)):=by rw[p.block _ (λe=>u (ax e.symm)),dr _ _ _ (Z (w.heap.size+1) (ax rfl))];exact F.sum
  have lC:Q1.heap.size=W+1:=by rw[p.size];simp
  have P:=asB n f v c r Q1 (HT0.out.of_block (by rw[p.block 3 (λe=>u (aA (ax e.symm))),dr _ _ _ h3W,F.Zg,HO3.out])) QZ.name QZ.field QZ.value QZ.c QZ.r
  have HLn:=X P
  gi_wp2_with (gi_at_call 84;refine(callsIn_wide.2 HLn.out).mono ?_;rintro e w3 ⟨rfl,S⟩;refine Halt.of ?_)
  have fP:=asC QZ;obtain⟨QW,hs⟩:=ex (BY ⟨n,f,c,r,v⟩);rw[<-hs] at fP⊢;have A:=(S.block _ (by omega)).trans q
  have HB3:=X S;have HS:=X hs;clear S q c0 c1 c2 c3 c4 hs HLn;obtain⟨cap,o,aFv,Q0⟩:=azd w3 QW;have aBp:=X Q0;unfold Halt;gi_wp2
  gi_loopg [18] QW.size (λk S5 wr=>∃j:Nat,k+j=QW.size∧S5=Y aH j∧wr.heap[w.heap.size+1]? =U (aF #[Y cK (Cu (y I) (QW.data.toList.take j))] 120 (0,0))∧O (λb=>b=w.heap.size+1) (w3.drew.alloc o) wr)
  case atStart=>exact⟨0,by simp,rfl,(dr w3.drew _ _ (show _<w3.heap.size from(dc.1 A).1)).trans A,.refl _ _⟩
  case round=>
   obtain⟨j,hk,rfl,QY,t⟩:=hrel;have xV:wr.cell? ⟨w+1,0,V⟩=U (Y cK (Cu (y I) (QW.data.toList.take j))):=K QY 0;have hfw:=tL QY 0;by_cases hj:j<QW.data.size
   ·have hx:=(t.cell (p:=⟨w3.heap.size,j,V⟩) (by simp) (λe=>by grind)).trans (aBp.out j hj)
    obtain⟨b,z⟩:=ex (QW.data[j]);rw[<-z] at hx;obtain⟨h,H⟩:=ex (Cu (y I) (QW.data.toList.take j));rw[<-H] at xV QY;have a:=sV.mk z H t QY;have hj':j<QW.size:=hj;gi_wp2
    gi_roundg (gk-1)
    case rel=>
     obtain⟨z,H,t,QY⟩:=a;refine⟨j+1,by omega,by go_simp,?_,t.trans (O.setCell _ _ _ rfl)⟩
     grind[awn,yA,Jg]
    grind
   ·have tU:j=QW.size:=by have:QW.data.size=QW.size:=rfl;omega
    subst tU;have a:=cI.mk t QY;gi_wp2;obtain⟨t,QY⟩:=a;obtain⟨F,u⟩:=HI;have p:=(X p).out;have B:=(O.iL (F:=λb=>b=w.heap.size+1) HB3.out).trans ((O.drew _ _).trans ((O.alloc _ _ _).trans t));refine⟨_,⟨?_,?_,?_,rfl⟩,B.mono (λb _ h=>ax (ax h)),λb z=>ax (ax z)⟩
    ·rw[QY,awo,<-HS.out,PD,List.take_of_length_le (by grind)]
    ·rw[B.block 3 (by omega) (by omega),p.block 3 (λe=>u (aA (ax e.symm))),dr _ _ _ h3W,F.Zg]
    ·rw[B.block _ (by omega) (by omega),p.block _ (λe=>u (aA (aA e.symm))),dr _ _ _ (by omega),F.arr]
attribute [local go_sem] Oper.semAt_some
theorem RoundIn.inRound{F}{n}{P}{l}{f}{b}{a c}{w}{R}(k)(h:RoundIn F n P l f b a c w R):RoundIn (F.inRound k) n P l f b a c w R:=h
theorem aiZ{F}{n}{P}{ops}{Q}{a}{w}{rest}{o}(b:eP o (dY ops a.tmps)=ai)(c:∀f,F.fn f)(h:Qi F n P ops Q rest (a.put o.dst ak) w):Qi F n P ops Q (o::rest) a w:=by
 simp only[Qi,b]
 grind
def Jt(vq:Bool)(gc E:Int)(x:s):Bool:= !(cq (x.field=⟨#[]⟩)||vq&& !xw x.c x.r gc E)
structure vk(bx bw bg:Nat)(W0:av)(D0:Nat->Prop)(yv:ay)(W:av)(D D':Nat->Prop):Prop where
 fa:∀b,D b↔D' b∨b=bx∨b=bw∨b=bg
 old:∀b,D' b->D0 b∨W0.heap.size<b
 box:W.heap[bx]? =U (aF #[yv] 83 (0,0))
 vq:W.heap[bw]? =W0.heap[bw]?
 gone:W.heap[bg]? =W0.heap[bg]?
 size:W0.heap.size<=W.heap.size
def yh(bx bw bg:Nat)(W0:av)(D0:Nat->Prop)(yv:ay)(p:s->Bool)(J:List s->av->(Nat->Prop)->Prop)(pre:List s)(W:av)(D:Nat->Prop):Prop:=
 ∃D',J (pre.filter p) W D'∧vk bx bw bg W0 D0 yv W D D'
theorem yh.owned{o j i}{W0}{m}{q}{p}{J}(l:ql J)(r:j<W0.heap.size)(s:i<W0.heap.size):ql (yh o j i W0 m q p J):=⟨λe W D h b f=>by
  obtain⟨g,d,h⟩:=h;have:=h.size;rcases(h.fa b).1 f with f|rfl|rfl|rfl
  ·exact l.lt _ _ _ d b f
  ·exact(dc.1 h.box).1
  all_goals grind,
 λe W D t h c=>by obtain⟨g,d,h⟩:=h;exact⟨g,l.st _ _ _ _ d ⟨c.os,c.tape,c.output,c.size,λk n=>c.block k ((h.fa k).2 (ax n))⟩,h.fa,h.old,(c.block _ ((h.fa _).2 (aA (ax rfl)))).trans h.box,(c.block _ ((h.fa _).2 (aA (aA (ax rfl))))).trans h.vq,(c.block _ ((h.fa _).2 (aA (aA (aA rfl))))).trans h.gone,bq h.size c.size⟩⟩
theorem vk.left{g j i}{W w1 d}{e D l}{o}(h:vk g j i W e o d D l)(a:bC W W w1)(n:W<=g)(c:bT (λb=>e b∨b=g∨b=j∨b=i) w1 D d):bT e W l d:=
 ⟨⟨c.1.os.trans a.os,c.1.tape.trans a.tape,c.1.output.trans a.output,bq a.size c.1.size,λk m p=>by
  by_cases h1:k=j
  ·rw[h1];exact h.vq
  ·by_cases h2:k=i
   ·rw[h2];exact h.gone
   ·exact(c.1.block k (cF m a.size) (by grind)).trans (a.block k m)⟩,
 λb f=>(h.old b f).imp id λx=>Nat.le_of_lt x⟩
theorem vk.step{e g f}{W0 m W'}{j D n a}{o}(h:vk e g f W0 j o m D n)(t:∀b,j b->b≠e∧b≠g∧b≠f)(p:e=W0)(u:g<W0)(v:f<W0)(i:bT n m a W'):
  vk e g f W0 j o W' (λb=>a b∨b=e∨b=g∨b=f) a∧bT D m (λb=>a b∨b=e∨b=g∨b=f) W':=by
 have r:=(dc.1 h.box).1;have l:∀b,(b=e∨b=g∨b=f)->¬n b:=λb c s=>by
  rcases h.old b s with d|d
  all_goals grind
 refine⟨⟨λb=>vR,λb c=>?_,(i.1.block _ r (l _ (ax rfl))).trans h.box,(i.1.block _ (by omega) (l _ (aA (ax rfl)))).trans h.vq,(i.1.block _ (by omega) (l _ (aA (aA rfl)))).trans h.gone,bq h.size i.1.size⟩,i.1.mono λk _ q=>(h.fa k).2 (ax q),λb c=>?_⟩
 ·rcases i.2 b c with d|d
  ·exact h.old b d
  grind
 ·rcases c with c|c
  ·rcases i.2 b c with d|d
   ·exact ax ((h.fa b).2 (ax d))
   grind
  ·exact ax ((h.fa b).2 (aA c))
set_option maxHeartbeats 1000000 in
theorem aoB (bm bn A t m) (L) (n) (vq) (gc gr) (w)
  (Hg:w.cell? bm=U (.map (m))) (xW:w.cell? bn=U (.string n)) (xV:w.cell? A=U (.bool vq))
  (Hj:w.cell? ⟨t,2,V⟩=U (.int .i64 gc)) (K2:w.cell? ⟨t,3,V⟩=U (.int .i64 gr)) (hB:cJ w m L) (hL:L.length<=1073741824) (hn:n.size<=65536) (hwm:A≠m) (KS:t≠m):
  Iter Q 120 #[.pointer (U ⟨bm,0,V⟩),.pointer (U ⟨bn,0,V⟩),.pointer (A),.pointer (t)] (λx=> #[x.val])
   (λxs=>xs=(dX L (n++⟨#[46]⟩)).filter (Jt vq gc gr)) (λb=>b=bm∨b=bn∨b=A∨b=t∨b=m) w:=by
 intro l J Jx W N hA Q1 y hR hY h0;have wu:cJ W m L:=hB.of_block (hA.block m (by simp))
 have kc:∀b,(b=bm∨b=bn∨b=A∨b=t∨b=m)->∀i,W.cell? ⟨b,i,V⟩=w.cell? ⟨b,i,V⟩:=λb g i=>eD (w:=w) (hA.block b g);have awc:=(kc bm (by simp) 0).trans Hg
 have K0:=(kc bn (by simp) 0).trans xW
 have aeO:=(kc A (by simp) 0).trans xV
 have aeS:=(kc t (by simp) 2).trans Hj
 have awh:=(kc t (by simp) 3).trans K2
 have lbm:=nU W _ awc;have lbn:=nU W _ K0;have Ee:=nU W _ aeO;have Ef:=nU W _ aeS;have lm:=wu.lt;have aED:¬((9223372036854775807:Int)<(n.size:Int)+1):=by omega
 have aEC:¬(9223372036854775807<n.size+1):=by omega
 have HX:=zw.mk hA Q1 y hR hY h0;have HB:=X wu;clear hA Q1 y hR hY h0 wu hB Hg xW xV Hj K2 kc;refine callsIn_of_wp_marks M5 rfl trivial ?_ rfl;simp only[ntmps120,uH,qB,lQ,ya,x9,vP,vO,vN,vM,vL,qC]
 gi_wp2_with (gi_at_call 52;refine(callsIn_wide.2 (XL m _ _)).mono ?_;rintro e P ⟨rfl,fK⟩;have HW:=X fK;clear fK)
 obtain⟨pfx,vY⟩:∃pfx:ByteArray,pfx=n++⟨#[46]⟩:=⟨_,rfl⟩;rw[<-vY] at HW⊢;obtain⟨hA,Q1,y,hR,hY,h0⟩:=HX;have o:bC W W P:=by rw[HW.out];exact(((ei _ _).alloc (aW _) _).alloc (by simp) _).alloc (by simp;omega) _
 have jK:P.heap.size=W+3:=by rw[HW.out];simp
 have Ho:P.heap[W.heap.size]? =U (.cells #[.func (.yield l) #[] #[]] 83 (0,0)):=by rw[HW.out];simp only[Ig];grind
 have Hi:P.cell? ⟨W+1,0,V⟩=U (.map (m)):=by rw[HW.out];go_simp
 have qR:P.cell? ⟨W+1+1,0,V⟩=U (.string pfx):=by rw[HW.out];go_simp
 have hit:=XM (W.heap.size+1) (W.heap.size+1+1) m L pfx P Hi qR (HB.out.below o) hL;obtain⟨p,hp⟩:=ex (Jt vq gc gr);rw[<-hp] at hY;have R:=Q1.lt _ _ _ h0;have qQ:∀b,N b->b≠W∧b≠A∧b≠t:=λb g=>⟨λe=>by grind,λe=>hR b g (by simp[e]),λe=>hR b g (by simp[e])⟩
 have xU:∀b,N b->b≠m:=by grind
 have H0:yh W A t W N (.func (.yield l) #[] #[]) p J [] P (λb=>N b∨b=W∨b=A∨b=t):=
  ⟨N,Q1.st _ _ _ _ h0 ((O.iL (F:=λ_=>False) o).fZ λb g=>⟨R b g,id⟩),⟨λb=>vR,λb g=>.inl g,Ho,o.block _ Ee,o.block _ Ef,o.size⟩⟩
 refine wp_rangeFunc (gf:=85) (lb:= #[.pointer (U ⟨W.heap.size+1,0,V⟩),.pointer (U ⟨W.heap.size+1+1,0,V⟩)]) rfl (C5 MZ rfl (by decide)) hit (λb g=>by grind) (λ_=>rfl)
  (yh W.heap.size A t W N (.func (.yield l) #[] #[]) p J) (λc j W' D=>c=.ret∧yh W.heap.size A t W N (.func (.yield l) #[] #[]) p Jx j W' D) (yh.owned Q1 Ee Ef) (λc=>⟨λQY w D h b g=>(yh.owned y Ee Ef).lt QY w D h.2 b g,λQY w D w' h ha=>⟨h.1,(yh.owned y Ee Ef).st QY w D w' h.2 ha⟩⟩)
  (λb=>N b∨b=W.heap.size∨b=A∨b=t) (λb g=>?xM) H0 ?round ?done ?stop
 case xM=>
  grind
 case done=>
  rintro xs Wd D Cc ⟨F,hj,E⟩ Cw hK qV;have hl:=E.left o (aW _) Cw;have nB:¬F P:=λh=>qV ((E.fa _).2 (.inl h));have r:=Q1.st _ _ _ _ hj ((s8.putObj Wd P.heap.size (.deferred V)).fZ nB);have su:bT N W F (Wd.putObj P (.deferred V)):=hl.step (O.putObj (F:=λb=>b=P.heap.size) Wd P.heap.size _ rfl) (λx hx e=>by omega)
  have f:dR (xs.filter p=(dX L pfx).filter p∧J (xs.filter p) (Wd.putObj P (.deferred V)) F∧bT N W F (Wd.putObj P (.deferred V))):=by grind[Lib.hid]
  clear HB hA Q1 y hR hY h0 o hit R qQ xU H0 hj E Cw hl r su Hi qR Ho HW;gi_wp2;refine⟨by simp,.inl ⟨_,_,rfl,vK hK,?_⟩⟩
  refine⟨_,results_none rfl _ _ _,⟨_,rfl⟩,.inl ⟨_,F,?_,f.out.2.1,f.out.2.2⟩⟩
  grind
 case stop=>
  rintro c j Wd D ⟨jh,Pc⟩ ⟨rfl,F,hj,E⟩ Cw hK qV;have hl:=E.left o (aW _) Cw;have nB:¬F P:=λh=>qV ((E.fa _).2 (.inl h));have r:=y.st _ _ _ _ hj ((s8.putObj Wd P.heap.size (.deferred V)).fZ nB);have su:bT N W F (Wd.putObj P (.deferred V)):=hl.step (O.putObj (F:=λb=>b=P.heap.size) Wd P.heap.size _ rfl) (λx hx e=>by omega)
  have f:dR (j.filter p++jh.filter p=(dX L pfx).filter p∧Jx (j.filter p) (Wd.putObj P (.deferred V)) F∧bT N W F (Wd.putObj P (.deferred V))):=X ⟨by grind,r,su⟩
  clear HB hA Q1 y hR hY h0 o hit R qQ xU H0 hj E Cw hl r su Hi qR Ho HW;gi_wp2;refine⟨by simp,.inl ⟨_,_,rfl,vK hK,?_⟩⟩
  refine⟨_,results_none rfl _ _ _,⟨_,rfl⟩,.inr ⟨_,F,⟨jh.filter p,?_⟩,f.out.2.1,f.out.2.2⟩⟩
  grind
 case round=>
  rintro l2 j ⟨Qw,u,C,B,I⟩ QX D Au uP pY ⟨jh,hS⟩ E wm;obtain⟨F,hj,E⟩:=E;unfold s.val;have HI:=cI.mk hj E;have Wz:∀b,D b->b<QX.heap.size:=(yh.owned Q1 Ee Ef).lt j QX D ⟨F,hj,E⟩;have HS:=X hS;have Mu:=zw.mk Q1 y hY qQ Wz pY;have qT:=(E.fa A).2 (.inr (.inr (.inl rfl)));have hbg:=(E.fa t).2 (.inr (.inr (.inr rfl)));have AE:=(E.fa W.heap.size).2 (.inr (.inl rfl));have hzr:=E.size;clear HB hA Q1 y hR hY h0 o hit R qQ xU H0 Hi qR Ho HW hj E hS;gi_wp2;refine⟨⟨O.alloc _ _ _,λb g=>g.imp id (·.1)⟩,λq G=>?_⟩;have jl:q.heap[QX.heap.size]? =U (.cells #[Qw,u,C,B,I] 46 (0,0)):=(G.block _ (by omega)).trans (iN _ _)
  have cb:∀i,q.cell? ⟨QX,i,V⟩=(#[aG Qw,u,C,B,I])[i]? :=by grind[Joins.cell_of_block]
  have c0:=cb 0;have c1:=cb 1;have c2:=cb 2;have c3:=cb 3;have c4:=cb 4;simp at c0 c1 c2 c3 c4;obtain⟨hj,E⟩:=HI;obtain⟨Q1,y,hY,qQ,Wy,Hs⟩:=Mu;have QZ:=λb g=>(G.block b (λe=>Hs (e▸g))).trans (dr _ _ _ (Wz b g));have jL:vk W A t W N (.func (.yield l) #[] #[]) q D F:=⟨E.fa,E.old,(QZ _ AE).trans E.box,(QZ _ qT).trans E.vq,(QZ _ hbg).trans E.gone,bq E.size (by grind)⟩
  have Av:=Q1.st _ _ _ _ hj ⟨G.os,G.tape,G.output,by grind,λk hk=>QZ k ((E.fa k).2 (.inl hk))⟩
  have q1:q.cell? W=U (.func (.yield l) #[] #[]):=K jL.box 0;have q2:=(eD (w:=W) jL.vq).trans aeO;have q3:=(eD (w:=W) jL.gone).trans aeS;have q4:=(eD (w:=W) jL.gone).trans awh;have lC:q.heap.size=QX+1:=by rw[G.size];simp
  have Q3:=zw.mk Av jL Q1 y hY qQ;have z:=X (λb g=>cF (Wz b g) (show QX.heap.size<=q.heap.size by omega))
  clear hj E Q1 y hY qQ Wy Hs QZ jL Av G cb jl qT hbg AE;have HJ:=X Q3.c;by_cases hf:u=⟨#[]⟩
  ·have QW:dR (p ⟨Qw,u,C,B,I⟩=ai):=X (by rw[hp];grind[Jt])
   have KU:u.toList=[]:=by rw[hf,Jb]
   have hf2:u.toList.isEmpty=Z:=by grind
   have HF:=X hf;clear hf KU;have d:O (λ_=>False) q q:=.refl _ _;have Q0:=HJ.out.st _ _ _ _ Q3.a (d.fZ λb g=>⟨z.out b ((Q3.b.fa b).2 (.inl g)),id⟩);have v:vk W A t W N (.func (.yield l) #[] #[]) q D F:=by
    obtain⟨T,a2,a3,a4,a5,a6⟩:=Q3.b;have QZ:∀b,D b->q.heap[b]? =q.heap[b]? :=by grind
    exact⟨T,a2,(QZ _ ((T _).2 (.inr (.inl rfl)))).trans a3,(QZ _ ((T _).2 (.inr (.inr (.inl rfl))))).trans a4,(QZ _ ((T _).2 (.inr (.inr (.inr rfl))))).trans a5,bq a6 d.size⟩
   have M:dR (∃a,yh W A t W N (.func (.yield l) #[] #[]) p J (j++[⟨Qw,u,C,B,I⟩]) q a∧bT (λb=>D b∨(QX<=b∧b<(QX.alloc (.cells #[Qw,u,C,B,I] 46)))) q a q):=X
    ⟨D,⟨F,by rw[B6,adn (by rw[QW.out];simp),Kb,tK];exact Q0,v⟩,d.mono (λ_ _ h=>h.elim),λb g=>.inl (.inl g)⟩
   clear d Q0 v Q3 z HJ
   gi_wp2_with (refine aiZ rfl (λ_=>trivial) ?_)
   exact M.out
  ·have KT:¬u.toList=[]:=λe=>hf (zk (by grind[Jb]))
   have hf2:u.toList.isEmpty=ai:=by grind
   cases vq with
   |false=>
    have QW:dR (p ⟨Qw,u,C,B,I⟩=Z):=X (by rw[hp];grind[Jt])
    have d:O (λ_=>False) q q:=.refl _ _;have Q0:=HJ.out.st _ _ _ _ Q3.a (d.fZ λb g=>⟨z.out b ((Q3.b.fa b).2 (.inl g)),id⟩);have v:vk W A t W N (.func (.yield l) #[] #[]) q D F:=by
     obtain⟨T,a2,a3,a4,a5,a6⟩:=Q3.b;have QZ:∀b,D b->q.heap[b]? =q.heap[b]? :=by grind
     exact⟨T,a2,(QZ _ ((T _).2 (.inr (.inl rfl)))).trans a3,(QZ _ ((T _).2 (.inr (.inr (.inl rfl))))).trans a4,(QZ _ ((T _).2 (.inr (.inr (.inr rfl))))).trans a5,bq a6 d.size⟩
    obtain⟨H,O4⟩:∃H,j.filter p++(⟨Qw,u,C,B,I⟩:s)::H=(dX L (n++⟨#[46]⟩)).filter p:=⟨jh.filter p,by rw[<-vY,<-HS.out,B6,OH QW.out]⟩
    obtain⟨fn,tmps,S,body,hy,mD⟩:=Q3.e (j.filter p) ⟨Qw,u,C,B,I⟩ q F ⟨H,by rw[O4]⟩ Q0
    have zx:=X (RoundIn.inRound l2 mD);have GV:(Instr.yield l #[.agg #[Qw,u,C,B,I]]).run Q q=.ok (.round l fn tmps S body) q:=hy;have HV:=cI.mk d v;clear d Q0 v mD hy O4 HJ;gi_wp2;refine zx.out.mono ?_;rintro e W' M;have f:dR (∀(a:Nat->Prop),bT F q a W'->vk W A t W N (.func (.yield l) #[] #[]) W' (λb=>a b∨b=W∨b=A∨b=t) a∧bT (λb=>D b∨(QX<=b∧b<(QX.alloc (.cells #[Qw,u,C,B,I] 46)))) q (λb=>a b∨b=W∨b=A∨b=t) W'):=X λa hL=>by obtain⟨d,v⟩:=HV;obtain⟨f1,f2⟩:=v.step Q3.f rfl Ee Ef hL;exact⟨f1,f2.shift d (λb g=>.inl g)⟩
    have Pu:(j++[(⟨Qw,u,C,B,I⟩:s)]).filter p=j.filter p++[⟨Qw,u,C,B,I⟩]:=by rw[B6,OH QW.out,Kb]
    have Mt:=X Pu;clear GV Q3 z Pu zx;rcases M with⟨rfl,a,r,Q2⟩|⟨rfl,a,r,Q2⟩
    ·have HE:=cI.mk r Q2;clear r Q2;gi_wp2;exact⟨_,⟨a,by rw[Mt.out];exact HE.a,(f.out _ HE.b).1⟩,(f.out _ HE.b).2⟩
    ·have HE:=cI.mk r Q2;clear r Q2;gi_wp2;exact⟨_,⟨rfl,a,by rw[Mt.out];exact HE.a,(f.out _ HE.b).1⟩,(f.out _ HE.b).2⟩
   |true=>
    have HPZ:dR (p ⟨Qw,u,C,B,I⟩=xw C B gc gr):=X (by rw[hp];grind[Jt])
    gi_wp2_with (gi_at_call 121;refine(callsIn_wide.2 (Uw C B gc gr _)).mono ?_;rintro e w3 ⟨rfl,Wj⟩;refine Halt.of ?_)
    obtain⟨lz,VI⟩:=ex (xw C B gc gr);rw[<-VI];have cc:∀b i,b<q.heap.size->w3.cell? ⟨b,i,V⟩=q.cell? ⟨b,i,V⟩:=λb i h=>Wj.cell (p:=⟨b,i,V⟩) h;have Cb:QX.heap.size<q:=by omega
    replace c0:=(cc QX.heap.size 0 Cb).trans c0;replace c1:=(cc QX.heap.size 1 Cb).trans c1;replace c2:=(cc QX.heap.size 2 Cb).trans c2;replace c3:=(cc QX.heap.size 3 Cb).trans c3;replace c4:=(cc QX.heap.size 4 Cb).trans c4;replace q1:=(cc W.heap.size 0 (by omega)).trans q1
    have HLZ:=X VI;clear VI cc q2 q3 q4;cases lz with
    |true=>
     have QW:dR (p ⟨Qw,u,C,B,I⟩=Z):=X (by rw[HPZ.out,<-HLZ.out])
     have d:O (λ_=>False) q w3:=O.iL Wj;have Q0:=HJ.out.st _ _ _ _ Q3.a (d.fZ λb g=>⟨z.out b ((Q3.b.fa b).2 (.inl g)),id⟩);have v:vk W A t W N (.func (.yield l) #[] #[]) w3 D F:=by obtain⟨T,a2,a3,a4,a5,a6⟩:=Q3.b;have QZ:=λb g=>d.block b (z.out b g) id;exact⟨T,a2,(QZ _ ((T _).2 (.inr (.inl rfl)))).trans a3,(QZ _ ((T _).2 (.inr (.inr (.inl rfl))))).trans a4,(QZ _ ((T _).2 (.inr (.inr (.inr rfl))))).trans a5,bq a6 d.size⟩
     obtain⟨H,O4⟩:∃H,j.filter p++(⟨Qw,u,C,B,I⟩:s)::H=(dX L (n++⟨#[46]⟩)).filter p:=⟨jh.filter p,by rw[<-vY,<-HS.out,B6,OH QW.out]⟩
     obtain⟨fn,tmps,S,body,hy,mD⟩:=Q3.e (j.filter p) ⟨Qw,u,C,B,I⟩ w3 F ⟨H,by rw[O4]⟩ Q0
     have zx:=X (RoundIn.inRound l2 mD);have GV:(Instr.yield l #[.agg #[Qw,u,C,B,I]]).run Q w3=.ok (.round l fn tmps S body) w3:=hy;have HV:=cI.mk d v;unfold Halt;gi_wp2;refine zx.out.mono ?_;rintro e W' M;have f:dR (∀(a:Nat->Prop),bT F w3 a W'->vk W A t W N (.func (.yield l) #[] #[]) W' (λb=>a b∨b=W∨b=A∨b=t) a∧bT (λb=>D b∨(QX<=b∧b<(QX.alloc (.cells #[Qw,u,C,B,I] 46)))) q (λb=>a b∨b=W∨b=A∨b=t) W'):=X λa hL=>by obtain⟨d,v⟩:=HV;obtain⟨f1,f2⟩:=v.step Q3.f rfl Ee Ef hL;exact⟨f1,f2.shift d (λb g=>.inl g)⟩
     have Pu:(j++[(⟨Qw,u,C,B,I⟩:s)]).filter p=j.filter p++[⟨Qw,u,C,B,I⟩]:=by rw[B6,OH QW.out,Kb]
     have Mt:=X Pu;rcases M with⟨rfl,a,r,Q2⟩|⟨rfl,a,r,Q2⟩
     ·have HE:=cI.mk r Q2;gi_wp2;exact⟨_,⟨a,by rw[Mt.out];exact HE.a,(f.out _ HE.b).1⟩,(f.out _ HE.b).2⟩
     ·have HE:=cI.mk r Q2;gi_wp2;exact⟨_,⟨rfl,a,by rw[Mt.out];exact HE.a,(f.out _ HE.b).1⟩,(f.out _ HE.b).2⟩
    |false=>
     have QW:dR (p ⟨Qw,u,C,B,I⟩=ai):=X (by rw[HPZ.out,<-HLZ.out])
     have d:O (λ_=>False) q w3:=O.iL Wj;have Q0:=HJ.out.st _ _ _ _ Q3.a (d.fZ λb g=>⟨z.out b ((Q3.b.fa b).2 (.inl g)),id⟩);have v:vk W A t W N (.func (.yield l) #[] #[]) w3 D F:=by obtain⟨T,a2,a3,a4,a5,a6⟩:=Q3.b;have QZ:=λb g=>d.block b (z.out b g) id;exact⟨T,a2,(QZ _ ((T _).2 (.inr (.inl rfl)))).trans a3,(QZ _ ((T _).2 (.inr (.inr (.inl rfl))))).trans a4,(QZ _ ((T _).2 (.inr (.inr (.inr rfl))))).trans a5,bq a6 d.size⟩
     have M:dR (∃a,yh W A t W N (.func (.yield l) #[] #[]) p J (j++[⟨Qw,u,C,B,I⟩]) w3 a∧bT (λb=>D b∨(QX<=b∧b<(QX.alloc (.cells #[Qw,u,C,B,I] 46)))) q a w3):=X
      ⟨D,⟨F,by rw[B6,adn (by rw[QW.out];simp),Kb,tK];exact Q0,v⟩,d.mono (λ_ _ h=>h.elim),λb g=>.inl (.inl g)⟩
     unfold Halt;gi_wp2;exact M.out
attribute [local go_sem] Oper.semAt_some
structure IU(g:Nat)(W:av)(D:Nat->Prop)(b:Bool):Prop where
 cell:W.heap[g]? =U (aF #[cz b] 4 (0,0))
 fa:D=λx=>x=g
theorem IU.owned{g}{f}(q:f->Bool->Prop):ql (λ(s) W D=>∃b,q s b∧IU g W D b):=⟨λs W D ⟨b,_,h⟩ x c=>by rw[h.fa] at c;subst c;exact(dc.1 h.cell).1,
 λs W D i ⟨b,d,h⟩ e=>⟨b,d,(e.block g (by rw[h.fa])).trans h.cell,h.fa⟩⟩
theorem SW(m)(L)(n)(w)(c:cJ w m L)(q:L.length<=1073741824)(k:n.size<=4096):
  bE Q 68 #[cj (m),aG n] w λe a=>∃d,e=bj (dH (ep 120) #[] d)∧(∃R,Iter Q 120 d (λx=> #[x.val]) (λp=>p=nO L n) R a∧∀b,R b->b<a∧(b=m∨w<=b))∧bC w w a:=by
 have l:=c.lt;refine(aoz m L n w c k).mono ?_;rintro e a ⟨o,r,rfl,B,y,s,f,h,j,g,t,i⟩;refine⟨_,rfl,⟨_,aoB w (w+1) r o m L n _ _ _ a f h j g t (c.below i) q (by omega) (by omega) (by omega),?_⟩,i⟩
 have u:=nU a _ f;have v:=nU a _ h;have A:=nU a _ j;have z:=nU a _ g
 grind
theorem aaR{fn}{p}(h:fn.results= #[.cell p 4])(a)(w)(g)(b)(c:a.getD p ak=aE (U ⟨g,0,V⟩))(d:w.cell? g=U (cz b)):
  (jN fn a).run Q w=aV (cz b) w:=by
 simp[jN,h,(by simpa using c),asAddr]
 go_simp
theorem aAZ(m)(L)(n)(w)(E:cJ w m L)(N:L.length<=1073741824)(Q3:n.size<=4096):
  bE Q 69 #[cj (m),aG n] w λe P=>e=bj ((!(nO L n).isEmpty))∧bC w w P:=by
 have H:=E.lt;refine(callsIn_wide (n:=0)).1 (callsIn_of_wp_marks aka rfl trivial ?_ rfl);simp only[ntmps69,uH,qB,lQ,ya,x9,vP,vO,vN,vM,vL,qC]
 gi_wp2_with (gi_at_call 68;refine(callsIn_wide.2 (X (SW m L n (w.alloc (aF #[ai] 4)) (E.alloc _) N Q3)).out).mono ?_;rintro e s ⟨lb,rfl,F,g⟩;refine Halt.of ?_)
 unfold Halt;gi_wp2;obtain⟨⟨R,u,G⟩,g⟩:=(X (bP F g)).out;have y:=g.size;simp only[uL] at y;have i:=((ei _ _).alloc (aW _) _).trans (g.mono (by simp))
 refine wp_rangeFunc (gf:=120) (lb:=lb) rfl (C5 M5 rfl (by decide)) u (λb g=>(G b g).1) (λ_=>rfl)
  (λf W D=>∃b,(f=[]∧b=ai)∧IU w W D b) (λc f W D=>∃b,(c=.ret∧f≠ []∧b=Z)∧IU w W D b) (IU.owned (λf b=>f=[]∧b=ai)) (λc=>IU.owned (λf b=>c=.ret∧f≠ []∧b=Z))
  (λb=>b=w) (λb g J=>?xM) ⟨ai,⟨rfl,rfl⟩,((g.block _ (by simp)).trans (iN _ _)),rfl⟩ ?round ?done ?stop
 case xM=>
  subst g;rcases(G _ J).2 with h|h
  ·omega
  ·simp at h;omega
 case round=>
  rintro l f x W D S Q2 B Q0 ⟨b,⟨rfl,rfl⟩,p⟩ T;have C:=X p;obtain⟨o,rfl⟩:=p;gi_wp2;refine⟨⟨.refl _ _,λb g=>g.imp id (·.1)⟩,λM q=>?_⟩;have k:=(q.block _ (λe=>B e.symm)).trans C.out.cell;have I:M.cell? w=U ai:=K k 0;have QW:=tL k 0;gi_wp2;exact⟨_,⟨⟨rfl,by simp⟩,yA (X k).out,rfl⟩,(O.setCell (F:=λb=>b=w) _ _ _ rfl).mono (λ_ _ h=>ax h),λb g=>ax (ax g)⟩
 case done=>
  rintro a W D t ⟨b,⟨rfl,rfl⟩,p⟩ j v z;obtain⟨o,rfl⟩:=p;have I:W.cell? w=U ai:=K o 0;have QW:=tL o 0;have d:dR (nO L n=[]∧bC w w ((W.setCell w (ai)).putObj s (wG V))∧((W.setCell w (ai)).putObj s (wG V)).cell? w=U ai∧(W.setCell w (ai)).heap[s.heap.size]? =U (wG (U []))):=X
   ⟨t.symm,Iy (Fo (j.below i (λb g=>by omega)) (O.setCell (F:=λb=>b=w) _ _ _ rfl) (λx F e=>by omega)) (by omega) _,
    K ((qE (by omega)).trans (yA o)) 0,(gy _ _ _ _ (by grind)).trans v⟩
  gi_wp2;refine⟨by simp,ax ⟨_,_,rfl,vK d.out.2.2.2,?_⟩⟩
  exact⟨_,aaR rfl _ _ w ai rfl d.out.2.2.1,by rw[d.out.1];rfl,d.out.2.1⟩
 case stop=>
  rintro c f W D ⟨Q1,r⟩ ⟨b,⟨rfl,A,rfl⟩,p⟩ j v z;obtain⟨o,rfl⟩:=p;have d:dR (nO L n≠ []∧bC w w (W.putObj s (wG V))∧(W.putObj s (wG V)).cell? w=U Z):=X
   ⟨by rw[<-r];simp[A],Iy (j.below i (λb g=>by omega)) (by omega) _,K ((qE (by omega)).trans o) 0⟩
  gi_wp2;refine⟨by simp,ax ⟨_,_,rfl,vK v,?_⟩⟩
  exact⟨_,aaR rfl _ _ w Z rfl d.out.2.2,by cases h:nO L n with|nil=>exact absurd h d.out.1|cons _ _=>rfl,d.out.2.1⟩
abbrev jP:ByteArray:=⟨#[97,98,99,100,101,102,103,104,105,106,107,108,109,110,111,112,113,114,115,116,117,118,119,120,121,122]⟩
theorem aA9(c):jP.data.toList.contains c=letter c:=by
 rw[Al];simp only[List.contains_iff_mem,letter,cS,fI,UInt8.le_iff_toNat_le];constructor
 ·intro h;simp only[dh,dJ,dO] at h;rcases h with rfl|rfl|rfl|rfl|rfl|rfl|rfl|rfl|rfl|rfl|rfl|rfl|rfl|rfl|rfl|rfl|rfl|rfl|rfl|rfl|rfl|rfl|rfl|rfl|rfl|rfl<;>exact⟨by decide,by decide⟩
 ·rintro⟨d,b⟩;have e:c=jZ c.toNat:=by simp
  generalize c.toNat=n at*;subst e;have d:97<=n:=d;have b:n<=122:=b;have:n=97+(n-97):=by omega
  generalize n-97=k at this;subst this;have:∀k:_root_.Fin 26,jZ (97+k.val)∈jP.data.toList:=by decide
  exact this ⟨k,(by omega)⟩
theorem dropWhile_nil{p}{l:List UInt8}:l.dropWhile p=[]↔l.all p=Z:=by
 induction l with
 |nil=>simp
 |cons a l b=>
  grind[List.dropWhile_cons]
theorem aAX{p}{l:List UInt8}:(l.dropWhile p).all p=l.all p:=by
 induction l with
 |nil=>rfl
 |cons a l b=>
  grind[List.dropWhile_cons]
theorem alq(s):(Lib.trimS s.data.toList jP.data.toList=[])↔xq s=Z:=by
 have e:(λc=>jP.data.toList.contains c)=letter:=funext aA9;unfold Lib.trimS Lib.trimLeftS Lib.trimRightS xq
 grind[dropWhile_nil,aAX]
theorem alr(s)(w)(hs:s.size<=65536):
  bE Q 117 #[aG s,jP] w λe f=>e=bj (aG ⟨(Lib.trimS s.data.toList jP.data.toList).toArray⟩)∧bC w w f:=by
 have d:=zero_of_info (P:=Q) (t:=281) (v:=bN (sH 256 ai)) (n:=256) (by kernel_rfl)
 have l:bE Q 177 #[jP] w λe f=>e=bj (bO #[bN (x5 jP.data.toList),Z])∧f=w.alloc (aF (x5 jP.data.toList) 281):=Any.strings_makeASCIISet ajO d.1 d.2 jP w (by decide) (ascii_of_all (by decide))
 by_cases h0:s.size=0
 ·have r:s.toList.isEmpty=Z:=by
   grind[Lib.toList_data,Lib.size_eq,List.length_cons]
  have n:s.data.toList=[]:=B3 (by grind[Lib.size_eq])
  have i:s=⟨#[]⟩:=by rw[<-Lib.mk_data s,n]
  subst i;go_enter YU,ntmps117;go_wp2;go_ret;exact⟨rfl,ei _ _⟩
 ·have h:s.toList.isEmpty=ai:=by
   grind[Lib.toList_data,Lib.size_eq,List.length_nil]
  have k:jP.toList.isEmpty=ai:=by
   grind[Lib.toList_data]
  have p:((jP.size:Int)==1)=ai:=by decide
  have o:(storeCells ⟨w+1,0,V⟩ (x5 jP.data.toList).toList 0).run Q ((w.alloc (aF (x5 jP.data.toList) 281)).alloc (aF (sH 256 (ai)) 281))=aV () ((w.alloc (aF (x5 jP.data.toList) 281)).alloc (aF (x5 jP.data.toList) 281)):=by
   have:=run_storeCells_new (P:=Q) (w.alloc (aF (x5 jP.data.toList) 281)) 281 (sH 256 ai) (x5 jP.data.toList) (by grind[Lib.setCells_size]) (by rw[adm,Array.size_replicate]) (Lib.setCells_one _)
   simpa using this
  have m:=adm jP.data.toList;have c:∀x:UInt8,((w.alloc (aF (x5 jP.data.toList) 281)).alloc (aF (x5 jP.data.toList) 281)).cell? ⟨w+1,x.toNat,V⟩=U (cz (jP.data.toList.contains x)):=λx=>by rw[Ka _ _ _ _ (by simp),Lib.setCells_at]
  have j:Aside (∀(q:Nat) (x:UInt8),(((w.alloc (aF (x5 jP.data.toList) 281)).alloc (aF (x5 jP.data.toList) 281)).drewN q).cell? ⟨w+1,x.toNat,V⟩=U (jP.data.toList.contains x)):=λq x=>by simpa using c x
  generalize jP=b at*;go_enter YU,ntmps117;go_wp2_with (go_at_call 177;refine l.mono ?_;rintro e f ⟨rfl,g⟩;rw[g])
  go_wp2_with (first
   |(go_at_call 179;refine(Any.strings_trimRightASCII ajM s (w+1) b.data.toList _ (by omega) (j.out 0)).mono ?_;rintro e f ⟨rfl,g⟩;rw[g])
   |(go_at_call 178;refine(Any.strings_trimLeftASCII ajN _ (w+1) b.data.toList _ (j.out 0)).mono ?_;rintro e f ⟨rfl,g⟩;rw[g]))
  go_ret;exact⟨rfl,((ei _ _).alloc (aW _) _).alloc (by simp) _⟩
theorem U8(s)(k:Nat)(w)(hs:s.size<=65536)(g:k<1000):
  bE Q 64 #[aG s,k] w λe f=>e=bj ((ld s k))∧bC w w f:=by
 have b:=alr s;obtain⟨t,a⟩:∃t:ByteArray,t=⟨(Lib.trimS s.data.toList jP.data.toList).toArray⟩:=⟨_,rfl⟩;rw[<-a] at b;have d:(t.toList=[])↔xq s=Z:=by
  grind[alq,Lib.toList_data]
 have i:=X b;clear b a;by_cases h0:s.toList=[]
 ·have c:s.size=0:=by grind[Lib.size_eq,Lib.toList_data]
  go_enter R5,ntmps64;go_wp2;go_ret;exact⟨wX (by grind[ld]),ei _ _⟩
 ·have l:s.toList.isEmpty=ai:=by grind
  have c:0<s.size:=by
   grind[Nat.eq_zero_or_pos,Lib.toList_data,List.eq_nil_of_length_eq_zero,Lib.size_eq]
  by_cases g:s.size<=k
  ·go_enter R5,ntmps64;go_wp2_with (go_at_call 117;refine(i.out _ (by omega)).mono ?_;rintro e j ⟨rfl,h⟩)
   go_ret;refine⟨wX ?_,h⟩;rw[Al]
   grind[ld]
  ·go_enter R5,ntmps64;go_wp2;go_ret;exact⟨wX (by grind[ld]),ei _ _⟩
def fD(w:av)(p:Nat)(id:Int)(m g:Nat):Prop:=w.heap[p]? =U (aF #[Y aH id,cj (U m),cj (U g)] 110 (0,0))
theorem fD.cell{w}{p}{id}{m g}(h:fD w p id m g):w.cell? p=U (Y aH id)∧w.cell? ⟨p,1,V⟩=U (cj (m))∧w.cell? ⟨p,2,V⟩=U (cj (g)):=
 ⟨K h 0,K h 1,K h 2⟩
theorem fD.lt{w}{p}{id}{m g}(h:fD w p id m g):p<w:=(dc.1 h).1
theorem agc(k)(a)(w):
  bE Q 65 #[Y aH k,aG a] w λe b=>e=bj (iv 132 (aE (w)))∧b=w.alloc (aF #[k,a] 137):=by
 go_enter akd,ntmps65;go_wp2;go_ret;exact⟨rfl,rfl⟩
structure sN(p:Nat)(id:Int)(m g:Nat)(L:List s)(w0 W:av):Prop where
 rep:fD W p id m g
 book:cJ W m L
 below:bC w0.heap.size w0 W
 lt:p<w0.heap.size∧m<w0.heap.size
theorem aBb{p}{id}{m g}{L}{w0 W}:sN p id m g L w0 W.drew↔sN p id m g L w0 W:=
 ⟨λh=>⟨h.1,h.2.of_block rfl,⟨h.below.os,h.below.tape,h.below.output,h.below.size,h.below.block⟩,h.lt⟩,λh=>⟨h.1,h.2.of_block rfl,⟨h.below.os,h.below.tape,h.below.output,h.below.size,h.below.block⟩,h.lt⟩⟩
theorem sN.later{p}{id}{m g}{L}{w0 W W'}(h:sN p id m g L w0 W)(a:bC W W W'):sN p id m g L w0 W':=
 ⟨(a.block p h.rep.lt).trans h.rep,h.book.below a,h.below.trans (a.mono h.below.size),h.lt⟩
theorem sN.setCell{p}{id}{m g}{L}{w0 W}(h:sN p id m g L w0 W)(a)(v)(e:w0.heap.size<=a.block):sN p id m g L w0 (W.setCell a v):=
 ⟨(gy _ _ _ _ (by have:=h.lt;omega)).trans h.rep,h.book.of_block (gy _ _ _ _ (by have:=h.lt;omega)),⟨h.below.os,h.below.tape,h.below.output,by simpa[jE] using h.below.size,λb d=>(gy _ _ _ _ (by omega)).trans (h.below.block b d)⟩,h.lt⟩
theorem fD.ne{w}{p}{id}{m g}{L}(h:fD w p id m g)(b:cJ w m L):p≠m:=by
 rintro rfl;obtain⟨d,a,c,_⟩:=b
 grind[fD]
theorem Yk(p)(id)(m g)(L)(n f v)(c r)(w)(G:fD w p id m g)(QZ:cJ w m L)(hn:n.size<=4096)(hf:f.size<=4096)(hc:js L<9223372036854775807):
  bE Q 66 #[aE (p),bN #[aG n,aG f,Y aH c,Y aH r,aG v]] w λe C=>e=bj (bO #[])∧cJ C m (fq L ⟨n,f,js L+1,id,v⟩)∧O (λb=>b=m) w C:=by
 have B:=G.lt;have P:=QZ.lt;have h0:=Xv L;obtain⟨k,Q2⟩:=ex (js L);obtain⟨QY,u⟩:=ex (w.alloc (aF #[aG n,aG f,Y aH c,Y aH r,aG v] 46));have hW:sN p id m g L w QY:=by rw[u];exact⟨(dr _ _ _ B).trans G,QZ.alloc _,(ei _ _).alloc (aW _) _,B,P⟩
 have E:∀W,sN p id m g L w W->W.cell? p=U (Y aH id):=λW h=>h.rep.cell.1;have I:∀W,sN p id m g L w W->W.cell? ⟨p,1,V⟩=U (cj (m)):=λW h=>h.rep.cell.2.1;have l:∀W,sN p id m g L w W->w.heap.size<W->bE Q 118 #[cj (m)] W λe t=>e=bj (k)∧sN p id m g L w t∧(∀o,t.cell? ⟨w,o,V⟩=W.cell? ⟨w,o,V⟩)∧(∀o,t.frozen? ⟨w,o,V⟩=W.frozen? ⟨w,o,V⟩):=λW h hz=>
  (azn m L W h.book).mono λe t x=>⟨Q2▸x.1,h.later x.2,λo=>(A9 x.2).1 _ _ hz,λo=>(A9 x.2).2 _ _ hz⟩
 have HC:=X l;have Qw:aH.wrap (k+1)=k+1:=by grind[IntKind.wrap_i64]
 have QW:w.heap.size<QY:=by rw[u];simp
 have F:=X u;have HK:=X (show s.Ok ⟨n,f,k+1,id,v⟩ from⟨hn,hf⟩);have QX:=X Q2;clear G QZ Q2 hc h0 l hn hf;have z:QY.heap[w.heap.size]? =U (aF #[n,f,c,r,v] 46 (0,0)):=by grind[World.alloc_heap_new]
 have c0:QY.cell? w=U (aG n):=K z 0;have c1:QY.cell? ⟨w,1,V⟩=U (aG f):=K z 1;have c2:QY.cell? ⟨w,2,V⟩=U (Y aH c):=K z 2;have c3:QY.cell? ⟨w,3,V⟩=U (Y aH r):=K z 3;have c4:QY.cell? ⟨w,4,V⟩=U (aG v):=K z 4;have S:∀i,QY.frozen? ⟨w,i,V⟩=ai:=by grind[Joins.unfrozen_of_block]
 clear z u;go_enter akc,ntmps66;go_wp2;rw[<-F.out]
 go_region_held3 (λW=>sN p id m g L w W)
  ((grind[aBb,sN.setCell]))
  ((first
   |(go_at_call 118;refine jc (HC.out _ ?hw ?hz) ?_;(case hw=>grind);(case hz=>exact QW);rintro e C ⟨rfl,hl,Q1,A⟩)))
 rename_i a;obtain⟨j,d⟩:=ex ((C.setCell ⟨w.heap.size,2,V⟩ (Y aH (k+1))).setCell ⟨w.heap.size,3,V⟩ (Y aH id));rw[<-d] at a⊢;have d0:j.cell? w=U (aG n):=by rw[d];go_simp
 have d1:j.cell? ⟨w,1,V⟩=U (aG f):=by rw[d];go_simp
 have d2:j.cell? ⟨w,2,V⟩=U (Y aH (k+1)):=by rw[d];go_simp
 have d3:j.cell? ⟨w,3,V⟩=U (Y aH id):=by rw[d];go_simp
 have d4:j.cell? ⟨w,4,V⟩=U (aG v):=by rw[d];go_simp
 have e1:j.cell? ⟨p,1,V⟩=U (cj (m)):=by grind
 have N:w.heap.size<j:=nU j _ d0;have H:=a.rep.lt;have Q3:=a.rep.ne a.book;have J:w≠m:=by omega
 have HH:=X a;obtain⟨M,y⟩:=ex (fq L ⟨n,f,k+1,id,v⟩);have q:bE Q 101 #[cj (m),bN #[n,f,Y aH (k+1),id,v]] j.drew λe t=>e=bj (bO #[])∧dR (cJ t m M∧O (λb=>b=m) j.drew t)∧(∀o,t.cell? ⟨w,o,V⟩=j.drew.cell? ⟨w,o,V⟩)∧(∀o,t.cell? ⟨p,o,V⟩=j.drew.cell? ⟨p,o,V⟩):=
  (Zd ⟨n,f,k+1,id,v⟩ HK.out m L j.drew (a.book.of_block rfl)).mono λe t x=>⟨x.1,X ⟨y▸x.2.1,x.2.2⟩,λo=>x.2.2.cell (p:=⟨_,_,V⟩) N J,λo=>x.2.2.cell (p:=⟨_,_,V⟩) H Q3⟩
 have T:=X q;have R:=X y;clear q y Q1 A hl d HC c0 c1 c2 c3 c4 S a hW E I;go_wp2
 go_region_held3 (λW=>W.cell? ⟨w.heap.size,0,V⟩=U (aG n)∧W.cell? ⟨w.heap.size,1,V⟩=U (aG f)∧W.cell? ⟨w.heap.size,2,V⟩=U (Y aH (k+1))∧W.cell? ⟨w.heap.size,3,V⟩=U (Y aH id)∧W.cell? ⟨w.heap.size,4,V⟩=U (aG v)∧W.cell? ⟨p,1,V⟩=U (cj (U m)))
  (go_keep)
  ((first
   |(go_at_call 101;refine jc T.out ?_;rintro e w3 ⟨rfl,hx,Q1,A⟩)))
 go_wp2
 go_end0
 obtain⟨Q0,D⟩:=hx.out;refine⟨rfl,?_,?_⟩
 ·rw[<-QX.out];exact R.out▸Q0
 ·exact(O.iL (F:=λb=>b=m) HH.out.below).trans ((O.drew _ _).trans D)
def Ra(w:av)(v:ay)(k:Int)(s:ByteArray):Prop:=
 (v=mF∧k=0∧s=⟨#[]⟩)∨∃q,v=iv 132 (aE (U ⟨q,0,V⟩))∧w.heap[q]? =U (aF #[Y aH k,aG s] 137 (0,0))∧1<=k∧k<=5
def nP(L:List s)(id:Int)(n f v:ByteArray):List s×Int×ByteArray:=
 if ld n 8 then(if ld f 4 then(if 20<v.size then(L,3,v) else(fq L ⟨n,f,js L+1,id,v⟩,0,⟨#[]⟩)) else(L,2,f)) else(L,1,n)
def qZ(L:List s)(id:Int)(n:ByteArray):List s×Int×ByteArray:=
 if ld n 8 then(if(nO L n).isEmpty then(L,4,n) else(fq L ⟨n,⟨#[]⟩,js L+1,id,⟨#[]⟩⟩,0,⟨#[]⟩)) else(L,1,n)
theorem Sr{s}{k}(h:ld s k=Z):s.size<=k:=by simp only[ld,cS,fI] at h;exact h.2
theorem Lx{m}{k}{L}{w W w'}{s}(d:cJ w m L)(a:bC w w W)(c:w'=W.alloc (aF #[Y aH k,aG s] 137))(e:1<=k)(f:k<=5):
  Ra w' (iv 132 (aE (W))) k s∧cJ w' m L∧O (λb=>b=m) w w':=by
 subst c;exact⟨aA ⟨_,rfl,iN _ _,by omega,by omega⟩,(d.below a).alloc _,(O.iL a).trans (O.alloc _ _ _)⟩
theorem ap9(p)(id)(m g)(L)(n f v)(w)(F:fD w p id m g)(C:cJ w m L)(G:n.size<=65536)(I:f.size<=65536)(E:js L<9223372036854775807):
  bE Q 43 #[aE (p),aG n,aG f,aG v] w λe h=>∃A,e=bj A∧Ra h A (nP L id n f v).2.1 (nP L id n f v).2.2∧cJ h m (nP L id n f v).1∧O (λb=>b=m) w h:=by
 have j:dR (bE Q 64 #[n,Y aH 8] w λe h=>e=bj ((ld n 8))∧bC w w h):=X (U8 n 8 w G (by omega))
 have k:dR (∀W,bE Q 64 #[f,Y aH 4] W λe h=>e=bj ((ld f 4))∧bC W W h):=X λW=>U8 f 4 W I (by omega)
 have q:=X agc;have l:=X C;have z:=X F;cases r:ld n 8 with
 |false=>
  have i:nP L id n f v=(L,1,n):=by grind[nP]
  rw[r] at j;rw[i];go_enter M0,ntmps43;go_wp2_with (first
   |(go_at_call 64;with_reducible refine j.out.mono ?_;rintro e s ⟨rfl,c⟩)
   |(go_at_call 65;refine(q.out _ _ _).mono ?_;rintro e x ⟨rfl,J⟩))
  go_ret;exact⟨_,rfl,Lx (k:=1) l.out c (by grind) (by omega) (by omega)⟩
 |true=>
  rw[r] at j;cases u:ld f 4 with
  |false=>
   have i:nP L id n f v=(L,2,f):=by grind[nP]
   rw[u] at k;rw[i];go_enter M0,ntmps43;go_wp2_with (first
    |(go_at_call 64;with_reducible refine j.out.mono ?_;rintro e s ⟨rfl,c⟩)
    |(go_at_call 64;with_reducible refine(k.out _).mono ?_;rintro e x ⟨rfl,d⟩)
    |(go_at_call 65;refine(q.out _ _ _).mono ?_;rintro e B ⟨rfl,o⟩))
   go_ret;exact⟨_,rfl,Lx (k:=2) l.out (c.trans (d.mono c.size)) (by grind) (by omega) (by omega)⟩
  |true=>
   rw[u] at k;by_cases h3:20<v.size
   ·have i:nP L id n f v=(L,3,v):=by grind[nP]
    rw[i];go_enter M0,ntmps43;go_wp2_with (first
     |(go_at_call 64;with_reducible refine j.out.mono ?_;rintro e s ⟨rfl,c⟩)
     |(go_at_call 64;with_reducible refine(k.out _).mono ?_;rintro e x ⟨rfl,d⟩)
     |(go_at_call 65;refine(q.out _ _ _).mono ?_;rintro e B ⟨rfl,o⟩))
    go_ret;exact⟨_,rfl,Lx (k:=3) l.out (c.trans (d.mono c.size)) (by grind) (by omega) (by omega)⟩
   ·have i:nP L id n f v=(fq L ⟨n,f,js L+1,id,v⟩,0,⟨#[]⟩):=by grind[nP]
    have D:=
     X λW y=>Yk p id m g L n f v 0 0 W ((y.block p z.out.lt).trans z.out) (l.out.below y) (by have:=Sr r;omega) (by have:=Sr u;omega) (X E).out
    rw[i];go_enter M0,ntmps43;go_wp2_with (first
     |(go_at_call 64;with_reducible refine j.out.mono ?_;rintro e s ⟨rfl,c⟩)
     |(go_at_call 64;with_reducible refine(k.out _).mono ?_;rintro e x ⟨rfl,d⟩)
     |(go_at_call 66;refine(D.out _ (c.trans (d.mono c.size))).mono ?_;rintro e B ⟨rfl,t,H⟩))
    go_ret;exact⟨_,rfl,ax ⟨rfl,rfl,rfl⟩,t,(O.iL (c.trans (d.mono c.size))).trans H⟩
theorem ayQ(p)(id)(m g)(L)(n)(w)(q:fD w p id m g)(C:cJ w m L)(x:n.size<=65536)(G:L.length<=1073741824)(F:js L<9223372036854775807):
  bE Q 46 #[aE (p),aG n] w λe i=>∃v,e=bj v∧Ra i v (qZ L id n).2.1 (qZ L id n).2.2∧cJ i m (qZ L id n).1∧O (λb=>b=m) w i:=by
 have f:dR (bE Q 64 #[n,Y aH 8] w λe i=>e=bj ((ld n 8))∧bC w w i):=X (U8 n 8 w x (by omega))
 have y:=X agc;have o:=X C;have u:=X q;have d:=q.lt;have h:=q.cell.2.1;cases s:ld n 8 with
 |false=>
  have j:qZ L id n=(L,1,n):=by grind[qZ]
  rw[s] at f;rw[j];go_enter R7,ntmps46;go_wp2_with (first
   |(go_at_call 64;with_reducible refine f.out.mono ?_;rintro e z ⟨rfl,a⟩)
   |(go_at_call 65;refine(y.out _ _ _).mono ?_;rintro e B ⟨rfl,J⟩))
  go_ret;exact⟨_,rfl,Lx (k:=1) o.out a (by grind) (by omega) (by omega)⟩
 |true=>
  rw[s] at f;have x:=Sr s;have l:=X λW k=>aAZ m L n W (o.out.below k) G (by omega)
  cases A:(nO L n).isEmpty with
  |true=>
   have j:qZ L id n=(L,4,n):=by grind[qZ]
   rw[A] at l;rw[j];go_enter R7,ntmps46;go_wp2_with (first
    |(go_at_call 64;with_reducible refine f.out.mono ?_;rintro e z ⟨rfl,a⟩;have r:=(a.cell (p:=⟨p,1,V⟩) d).trans h)
    |(go_at_call 69;refine(l.out _ a).mono ?_;rintro e B ⟨rfl,c⟩)
    |(go_at_call 65;refine(y.out _ _ _).mono ?_;rintro e H ⟨rfl,D⟩))
   go_ret;exact⟨_,rfl,Lx (k:=4) o.out (a.trans (c.mono a.size)) (by grind) (by omega) (by omega)⟩
  |false=>
   have j:qZ L id n=(fq L ⟨n,⟨#[]⟩,js L+1,id,⟨#[]⟩⟩,0,⟨#[]⟩):=by grind[qZ]
   rw[A] at l;have E:=
    X λW k=>Yk p id m g L n ⟨#[]⟩ ⟨#[]⟩ 0 0 W ((k.block p u.out.lt).trans u.out) (o.out.below k) (by omega) (by decide) (X F).out
   rw[j];go_enter R7,ntmps46;go_wp2_with (first
    |(go_at_call 64;with_reducible refine f.out.mono ?_;rintro e z ⟨rfl,a⟩;have r:=(a.cell (p:=⟨p,1,V⟩) d).trans h)
    |(go_at_call 69;refine(l.out _ a).mono ?_;rintro e B ⟨rfl,c⟩)
    |(go_at_call 66;refine(E.out _ (a.trans (c.mono a.size))).mono ?_;rintro e H ⟨rfl,t,I⟩))
   go_ret;exact⟨_,rfl,ax ⟨rfl,rfl,rfl⟩,t,(O.iL (a.trans (c.mono a.size))).trans I⟩
theorem ash(w):(LV 107 V).run Q w=aV (cj (w)) (w.alloc (iP #[] 0)):=by kernel_rfl
theorem asg(w):(LV 108 V).run Q w=aV (cj (w)) (w.alloc (iP #[] 0)):=by kernel_rfl
theorem arE(id)(w):
  bE Q 50 #[Y aH id] w λe b=>e=bj (aE (U ⟨w+2,0,V⟩))∧fD b (w+2) id w (w+1)∧cJ b w []∧di (pV aH) b (w+1) []∧bC w w b:=by
 have d:=ash;have c:=asg;go_enter akj,ntmps50;go_wp2;go_ret;refine⟨rfl,?_,?_,?_,(((ei _ _).alloc (aW _) _).alloc (by simp) _).alloc (by simp;omega) _⟩
 ·have:=iN ((w.alloc (iP #[] 0)).alloc (iP #[] 0)) (aF #[id,cj (U w),cj (U (w+1))] 110);rw[uL,uL] at this;exact this
 ·exact((di.new nu w).alloc _).alloc _
 ·have:=(di.new (pV aH) (w.alloc (iP #[] 0))).alloc (aF #[id,cj (U w),cj (U (w+1))] 110)
  grind[World.size_alloc]
theorem ayM(p)(id)(m g)(L)(pfx)(w)(f:fD w p id m g)(k:cJ w m L)(l:L.length<=1073741824)(s:ga w)(t:∀x∈L,Fit x):
  bE Q 38 #[aE (p),aG pfx] w λe P=>e=bj (gV (y (dX L pfx)))∧bC w w P:=by
 have u:=f.lt;have H:=f.cell.2.1;have r:dR (bE Q 51 #[cj (U m),pfx] (w.alloc (aF #[Y aq 0,Y aq 0,Y aq 0,Y aq 0,Y aq 0,Y aq 0,Y aq 0,Y aq 0] 76)) _):=X (Qa m L pfx _ (k.alloc _) l (s.keep (O.alloc (λ_=>False) _ _) (λh=>h)) t);obtain⟨h,o⟩:=ex (y (dX L pfx));rw[<-o] at r⊢;clear f k l s t o;go_enter akl,ntmps38;go_wp2_with (go_at_call 51;refine r.out.mono ?_;rintro e b ⟨rfl,n⟩;refine Halt.of ?_)
 have a:=(n.block _ (by simp)).trans (iN _ _)
 have B:b.cell? w=U (Y aq 0):=K a 0;have J:b.cell? ⟨w,1,V⟩=U (Y aq 0):=K a 1;have C:b.cell? ⟨w,2,V⟩=U (Y aq 0):=K a 2;have F:b.cell? ⟨w,3,V⟩=U (Y aq 0):=K a 3;have G:b.cell? ⟨w,4,V⟩=U (Y aq 0):=K a 4;have E:b.cell? ⟨w,5,V⟩=U (Y aq 0):=K a 5;have A:b.cell? ⟨w,6,V⟩=U (Y aq 0):=K a 6;have D:b.cell? ⟨w,7,V⟩=U (Y aq 0):=K a 7;have v:∀i,b.frozen? ⟨w,i,V⟩=ai:=by grind[Joins.unfrozen_of_block]
 have q:=cI.mk a n;unfold gV;unfold Halt;go_wp2;generalize j:jE _ _ _=I;obtain⟨c,d⟩:=(j▸(((((((((td.mk q.a (O.refl _ _)).set 0 _).set 1 _).set 2 _).set 3 _).set 4 _).set 5 _).set 6 _).set 7 _));simp only[eC,eB,ee] at c;refine xG (results_cell_row rfl _ _ w 76 _ (0,0) _ rfl c MX rfl (by kernel_rfl)) rfl ?_
 exact⟨rfl,Fo (((ei _ _).alloc (aW _) _).trans (q.b.mono (by simp))) d (λx z e=>by omega)⟩
attribute [local go_sem] Oper.semAt_some
theorem ab9(W:av)(b:List ay)(T:Nat){o}(c:o=aF b.toArray T (0,0)):∀j u,b[j]? =U u->(W.alloc o).cell? ((W:eK).add j)=U u:=λj u h=>by
 subst c;have:=K (iN W (aF b.toArray T (0,0))) j;have e:(W:eK).add j=⟨W,j,V⟩:=by unfold Addr.add;grind
 grind
theorem app1{P:bU}{ops:Array dD}{rest}{o:dD}{a:Act}{Q}{s x:iI}{t e T:dZ}{z v:ay}{B m k n b:Nat}{xs news:List ay}{W:av}(c:o.guard=V)(d:o.op=.call {callee:=.builtin .append,args:= #[s,x],argTypes:= #[t,t]})(f:P.underlying t=U (.slice e))(g:(P.info? e).map (λi=>(i.zero,i.size,i.bytes))=U (U z,m,k))(h:(z.cells.size==m&&cq (0<m)&&cq (0<k))=Z)(i:a.eval s=v)(j:(W.alloc (aF news.toArray T)).ownsRow B e m v n xs)(p:a.eval x=aD (U ⟨b,0,V⟩) 1 1)(q:b=W.heap.size)(r:news.length=1*m)(u:news.all za=Z)(y:(n+1)*k<=140737488355328)(l:B<=(W.alloc (aF news.toArray T)).heap.size)
  (H:∀v' w',w'.ownsRow B e m v' (n+1) (xs++news)->(W.alloc (aF news.toArray T)).grownBy w' v.ownBlock->(v'=aD V 0 0↔v=aD V 0 0∧1=0)->(v'.ownBlock=v.ownBlock∨v'.ownBlock=U (W.alloc (aF news.toArray T)).heap.size)->wpList P ops Q rest (a.put o.dst v') w'):wpList P ops Q (o::rest) a (W.alloc (aF news.toArray T)):=by
 obtain⟨A,C,D,E,F⟩:=info_parts g;simp only[cS,beq_iff_eq,fI] at h;subst q;exact wpList_append_own_at _ c s x t d B e A z m k f C D E F h.1.1 h.1.2 v n xs i j _ 1 1 news p r (ab9 W news T rfl) (List.all_eq_true.1 u) (by have:=Nat.le_mul_of_pos_right (n+1) h.2;unfold uZ;omega) y l H
end
end Go.Proofs.YtpdbmpbmepkikaaGreatDoor
set_option maxRecDepth 100000
namespace Go.Proofs.YtpdbmpbmepkikaaGreatDoor
section
open Go.RowKit
theorem zY{W:av}{b}(c:b=W.heap.size)(a:List ay)(T:Nat){o}(d:o=aF a.toArray T (0,0)):∀j u,a[j]? =U u->(W.alloc o).cell? ((b:eK).add j)=U u:=by
 grind[ab9]
end
end Go.Proofs.YtpdbmpbmepkikaaGreatDoor
set_option maxRecDepth 100000
namespace Go.Proofs.YtpdbmpbmepkikaaGreatDoor
section
open Go.RowKit
def zq(w:av)(v:ay)(l:List ByteArray):Prop:=w.ownsRow 0 9 1 v l.length (l.map aG)
theorem zq.cell{w}{v}{l}(h:zq w v l){j}(e):∃g b,v=aD (U ⟨g,0,V⟩) l.length b∧g<w∧w.cell? ⟨g,j,V⟩=U (aG l[j]):=by
 obtain⟨o,d⟩:=h;rcases d with⟨_,d⟩|⟨g,b,i,f,_,c,m,_,_,n⟩
 ·omega
 ·refine⟨g,b,f,(dc.1 c).1,?_⟩;have:=K c j;rw[this];have k:(l.map aG)[j]? =U (l[j]):=by simp[e]
  grind
theorem zq.aq4{w}{base}{v}{l}(h:w.ownsRow base 9 1 v l.length (l.map aG)):zq w v l:=JC h λ_ _=>Nat.zero_le _
def lU(l:List s):List ByteArray:=l.flatMap λx=> [x.field,x.value]
theorem afO(l):(lU l).length=2*l.length:=by
 induction l with
 |nil=>rfl
 |cons x l a=>grind[lU,List.length_append]
theorem axw{l}{j}(b):(lU l)[2*j]? =l[j].field∧(lU l)[2*j+1]? =l[j].value:=by
 induction l generalizing j with
 |nil=>grind
 |cons x l a=>
  show([x.field,x.value]++lU l)[2*j]? =_∧([x.field,x.value]++lU l)[2*j+1]? =_;cases j with
  |zero=>grind
  |succ j=>
   grind
structure Mv(bo bn bk bl:Nat)(ok no:Bool)(k:Int)(lv:ay)(W:av):Prop where
 ok:W.heap[bo]? =U (aF #[cz ok] 4 (0,0))
 no:W.heap[bn]? =U (aF #[cz no] 4 (0,0))
 k:W.heap[bk]? =U (aF #[Y aH k] 3 (0,0))
 l:W.heap[bl]? =U (aF #[lv] 51 (0,0))
theorem axT(d c i bl)(F)(j)(A)(J:F.length<=1000000)(w)(W)(h:Mv d c i bl Z ai (2*j:Nat) w W)(s:zq W w (lU F))
  (H:d≠c∧d≠i∧d≠bl∧c≠i∧c≠bl∧i≠bl):
  bE Q 45 #[F[j].field,F[j].value,aE (d),aE (c),aE (i),aE (bl)] W λe B=>
   e=bj ((cq (2*j+2<=F.length)))∧Mv d c i bl Z (cq (F.length<2*j+2)) (2*(j+1):Nat) w B∧O (λb=>b=d∨b=c∨b=i) W B:=by
 obtain⟨QW,L⟩:=axw A;have a:=afO F;have t:2*j+1<(lU F).length:=by omega
 obtain⟨g,u,r,l,D⟩:=s.cell (j:=2*j) (by omega)
 obtain⟨g',x,m,G,E⟩:=s.cell (j:=2*j+1) (by omega)
 rw[r] at m;simp only[Value.slice.injEq,ec,Addr.mk.injEq,and_true,true_and] at m;obtain⟨rfl,rfl⟩:=m;have z:(lU F)[2*j]=F[j].field:=by grind
 have y:(lU F)[2*j+1]=F[j].value:=by grind
 rw[z] at D;rw[y] at E;obtain⟨f,C⟩:=ex (F[j].field);obtain⟨v,o⟩:=ex (F[j].value);rw[<-C] at D⊢;rw[<-o] at E⊢;obtain⟨n,p⟩:=ex F.length;rw[<-p] at a A J⊢;rw[a] at r t;subst r;have N:W.cell? d=U (cz Z):=K h.ok 0;have a1:W.cell? c=U (cz ai):=K h.no 0;have Q3:W.cell? i=U (Y aH (2*j:Nat)):=K h.k 0;have P:W.cell? bl=U (aD (g) (2*n) u):=K h.l 0;have Q2:=tL h.ok 0;have M:=tL h.no 0;have S:=tL h.k 0;obtain⟨k,Q0,V,R,T,Q1⟩:=H;have q:=X h;clear s z y QW L h C o p a;go_enter YJ,ntmps45;go_wp2;go_ret;have I:cq ((n:Int)<2*(j:Int)+2)=cq (n<2*j+2):=by grind
 refine⟨wX ?_,⟨?_,?_,?_,?_⟩,?_⟩
 ·grind
 ·rw[gy _ _ _ _ (by grind),gy _ _ _ _ (by grind)]
  exact yA q.out.ok
 ·rw[I];refine yA (v:=cz ai) ?_;rw[gy _ _ _ _ (by grind),gy _ _ _ _ (by grind)]
  exact q.out.no
 ·rw[gy _ _ _ _ (by grind)]
  rw[show((2*(j+1):Nat):Int)=2*(j:Int)+2 by omega]
  refine yA (v:=Y aH (2*j:Nat)) ?_;rw[gy _ _ _ _ (by grind)]
  exact q.out.k
 ·rw[gy _ _ _ _ (by grind),gy _ _ _ _ (by grind),gy _ _ _ _ (by grind)]
  exact q.out.l
 ·exact((O.setCell (F:=λb=>b=d∨b=c∨b=i) _ _ _ (ax rfl)).trans (O.setCell _ _ _ (aA (aA rfl)))).trans (O.setCell _ _ _ (aA (ax rfl)))
end
section
open Go.RowKit Go.Extern.Stop Go.Stop Go.Extern
theorem aAt(t)(w):(LI (iv 134 (aE (U t)))).run Q w
  =aV (bN #[aE (U ⟨7,134,V⟩),aE (w),Y cK 150]) (w.alloc (aF #[aE (t)] 134)):=by kernel_rfl
theorem aAw(a)(w):(Qs (AO "reflectlite.Value.Type" 0) (λt _ _ _=>Qq t) #[bN #[aE (U ⟨7,134,V⟩),aE (U a),Y cK 150]]).run Q w
  =aV (iv 264 (bN #[aE (U ⟨7,134,V⟩)])) w:=by kernel_rfl
theorem aAB(h)(w):(AT 476 264 (bN #[h]) "Kind").run Q w=aV (278,h) w:=by kernel_rfl
theorem aAF(w):((Xt λt=>Functor.map (λa:Nat=>Y aq (a)) (Ic t)) #[aE (U ⟨7,134,V⟩)]).run Q w=aV (Y aq 22) w:=by kernel_rfl
theorem aAG(w):((Xt λt=>Functor.map (λa:Nat=>Y aq (a)) (Ic t)) #[aE (U ⟨7,132,V⟩)]).run Q w=aV (Y aq 22) w:=by kernel_rfl
theorem rlm(z)(f)(v):
  AP z f #[v]=(do match<-Fa v with|none=>z|some (t,a,c)=>f t a c (c % 32)):=rfl
theorem ahS(a)(w):(Fa (bN #[aE (U ⟨7,134,V⟩),aE (U a),Y cK 150])).run Q w=aV (U (134,a,150)) w:=by kernel_rfl
theorem aAH(a p)(W)(b:W.cell? a=U (.pointer (U p))):
  (AP (AO "reflectlite.Value.IsNil" 0) Qm #[.agg #[.pointer (U ⟨7,134,V⟩),.pointer (U a),.int .u64 150]]).run Q W=.ok (ai) W:=by
 rw[rlm];simp only[gK,ahS,lH];simp[Qm,loadVar,isAgg,oq,b,lH]
theorem aAD(h)(w):(AT 476 264 (bN #[h]) "Elem").run Q w=aV (290,bN #[h]) w:=by kernel_rfl
theorem aAC(h)(w):(AT 476 264 (bN #[h]) "Implements").run Q w=aV (291,bN #[h]) w:=by kernel_rfl
theorem aAE(h)(w):(AT 476 264 (bN #[h]) "AssignableTo").run Q w=aV (288,bN #[h]) w:=by kernel_rfl
theorem aAL(w):(Qu ag2 #[bN #[aE (U ⟨7,134,V⟩)]]).run Q w=aV (iv 264 (bN #[aE (U ⟨7,132,V⟩)])) w:=by kernel_rfl
theorem aAI(w):(Il "Implements" agV #[.agg #[.pointer (U ⟨7,132,V⟩)],.iface 264 (.agg #[.pointer (U ⟨7,87,V⟩)])]).run Q w=.ok (Z) w:=by kernel_rfl
theorem aAv(v)(w):(Qr #[iv 132 v]).run Q w=aV (iv 264 (bN #[aE (U ⟨7,132,V⟩)])) w:=by kernel_rfl
theorem aAO(w):(Il "AssignableTo" Xo #[.agg #[.pointer (U ⟨7,132,V⟩)],.iface 264 (.agg #[.pointer (U ⟨7,132,V⟩)])]).run Q w=.ok (Z) w:=by kernel_rfl
theorem aAu(e)(w):(LI (iv 132 (aE (U e)))).run Q w
  =aV (bN #[aE (U ⟨7,132,V⟩),aE (w),Y cK 150]) (w.alloc (aF #[aE (e)] 132)):=by kernel_rfl
theorem aAK(w):(Rtype.elem? 134).run Q w=aV (U 132) w:=by kernel_rfl
theorem aAA(p)(w):(ag4 132 p ag5).run Q w=aV (bN #[aE (U ⟨7,132,V⟩),aE (p),Y cK 406]) w:=by kernel_rfl
theorem aAJ(a p)(W)(b:W.cell? a=U (.pointer (p))):
  (AP (AO "reflectlite.Value.Elem" 0) Qp #[.agg #[.pointer (U ⟨7,134,V⟩),.pointer (U a),.int .u64 150]]).run Q W
   =.ok (.agg #[.pointer (U ⟨7,132,V⟩),.pointer (U p),.int .u64 406]) W:=by
 rw[rlm];simp only[gK,ahS,lH];simp[Qp,loadVar,isAgg,oq,b,lH,aAK,aAA]
theorem rls(v x):Mf #[v,x]=(do
  let(U (dst,a,E),U (src,b,_)):=(<-Fa v,<-Fa x)
   |unsupported (wH "extern/(internal/reflectlite.Value).Set.zeroValue")
  if E/ag5 % 2==0 then ua (wH "extern/(internal/reflectlite.Value).Set.unaddressable")
  let c<-loadVar src b
  if<-Ik dst src then storeVar dst a c
  else if<-Rtype.implements dst src then
   if(<-Ic src)==20 then
    match c with
    |mF=>ua (wH "extern/reflectlite: a nil value of one interface type handed on as a value of another")
    |_=>storeVar dst a c
   else storeVar dst a (iv src c)
  else panicString ("reflectlite.Set: value of type " ++(<-Rtype.spelt src)++ " is not assignable to type " ++(<-Rtype.spelt dst))
  bH (bO #[])):=rfl
theorem aAy(a)(w):(Fa (bN #[aE (U ⟨7,132,V⟩),aE (U a),Y cK 406])).run Q w=aV (U (132,a,406)) w:=by kernel_rfl
theorem aAz(a)(w):(Fa (bN #[aE (U ⟨7,132,V⟩),aE (U a),Y cK 150])).run Q w=aV (U (132,a,150)) w:=by kernel_rfl
theorem aAM(w):(Ik 132 132).run Q w=aV Z w:=by kernel_rfl
theorem aAx(a b e)(old)(W)(c:W.cell? b=U (.pointer (e)))(d:W.cell? a=U old)(f:W.frozen? a=ai):
  (Mf #[.agg #[.pointer (U ⟨7,132,V⟩),.pointer (U a),.int .u64 406],.agg #[.pointer (U ⟨7,132,V⟩),.pointer (U b),.int .u64 150]]).run Q W
   =.ok (.tuple #[]) (W.setCell a (.pointer (U e))):=by
 rw[rls];simp only[gK,aAy,aAz,lH];simp[ag5,loadVar,isAgg,oq,c,lH,aAM,storeVar,AV,storeCells,Addr.add];rw[run_store Q W a _ _ (by rfl)]
 grind
set_option maxHeartbeats 4000000 in
theorem aAr (e t) (old) (w) (g:w.cell? ⟨0,0,V⟩=U (iv 264 (bN #[aE (U ⟨7,87,V⟩)]))) (b:w.cell? t=U old) (f:w.frozen? t=ai):
  bE Q 62 #[iv 132 (aE (U e)),iv 134 (aE (U t))] w λr x=>r=bj (Z)∧x=((((w.alloc (aF #[aE (t)] 134)).alloc (aF #[aE (U ⟨7,134,V⟩),aE (w),Y cK 150] 193)).alloc (aF #[aE (U ⟨7,134,V⟩),aE (w),Y cK 150] 193)).alloc (aF #[aE (e)] 132)).setCell t (aE (e)):=by
 have C:= @run_callFunc_extern Q 111 _ (λa=>LI (a.getD 0 (bO #[]))) ald (by kernel_rfl) (by kernel_rfl) (by kernel_rfl) (by kernel_rfl)
 have H:= @run_callFunc_extern Q 112 _ (Qs (AO "reflectlite.Value.Type" 0) (λt _ _ _=>Qq t)) alc (by kernel_rfl) (by kernel_rfl) (by kernel_rfl) (by kernel_rfl)
 have D:= @run_callFunc_extern Q 113 _ (AP (AO "reflectlite.Value.IsNil" 0) Qm) alb (by kernel_rfl) (by kernel_rfl) (by kernel_rfl) (by kernel_rfl)
 have o:= @run_callFunc_extern Q 278 _ (Xt λt=>do bH (Y aq (<-Ic t))) aks (by kernel_rfl) (by kernel_rfl) (by kernel_rfl) (by kernel_rfl)
 have j:= @run_callFunc_extern Q 290 _ (Qu ag2) ako (by kernel_rfl) (by kernel_rfl) (by kernel_rfl) (by kernel_rfl)
 have l:= @run_callFunc_extern Q 291 _ (Il "Implements" agV) akn (by kernel_rfl) (by kernel_rfl) (by kernel_rfl) (by kernel_rfl)
 have z:= @run_callFunc_extern Q 115 _ Qr YV (by kernel_rfl) (by kernel_rfl) (by kernel_rfl) (by kernel_rfl)
 have y:= @run_callFunc_extern Q 288 _ (Il "AssignableTo" Xo) akq (by kernel_rfl) (by kernel_rfl) (by kernel_rfl) (by kernel_rfl)
 have u:= @run_callFunc_extern Q 173 _ (AP (AO "reflectlite.Value.Elem" 0) Qp) akG (by kernel_rfl) (by kernel_rfl) (by kernel_rfl) (by kernel_rfl)
 have v:= @run_callFunc_extern Q 174 _ Mf akF (by kernel_rfl) (by kernel_rfl) (by kernel_rfl) (by kernel_rfl)
 have E:=aAv;have I:=aAE;have p:=aAO;have k:=aAu;have B:=aAt;have M:=aAw;have J:=aAB;have F:=aAD;have L:=aAC;have i:=aAF;have s:=aAG;have A:=aAL;have n:=aAI;have N:=aAH ⟨w.heap.size,0,V⟩ t ((w.alloc (aF #[aE (U t)] 134)).alloc (aF #[aE (U ⟨7,134,V⟩),aE (U ⟨w.heap.size,0,V⟩),Y cK 150] 193)) (by simp)
 have d:0<w.heap.size:=by
  rcases as9 w.heap.size with m|h
  ·simp[og,m] at g
  grind
 have q:((w.alloc (aF #[aE (t)] 134)).alloc (aF #[aE (U ⟨7,134,V⟩),aE (w),Y cK 150] 193)).cell? ⟨0,0,V⟩=U (iv 264 (bN #[aE (U ⟨7,87,V⟩)])):=by rw[uG _ _ ⟨0,0,V⟩ (by simp),uG _ _ ⟨0,0,V⟩ d];exact g
 have c:t.block<w:=by
  rcases Nat.lt_or_ge t.block w.heap.size with h|h
  ·exact h
  ·simp[og,xB h] at b
 have K:=aAJ ⟨w.heap.size,0,V⟩ t (((w.alloc (aF #[aE (U t)] 134)).alloc (aF #[aE (U ⟨7,134,V⟩),aE (U ⟨w.heap.size,0,V⟩),Y cK 150] 193)).alloc (aF #[aE (U ⟨7,134,V⟩),aE (U ⟨w.heap.size,0,V⟩),Y cK 150] 193)) (by rw[uG _ _ ⟨w.heap.size,0,V⟩ (by simp;omega)];simp)
 have G:=aAx t ⟨w.heap.size+1+1+1,0,V⟩ e old ((((w.alloc (aF #[aE (U t)] 134)).alloc (aF #[aE (U ⟨7,134,V⟩),aE (U ⟨w.heap.size,0,V⟩),Y cK 150] 193)).alloc (aF #[aE (U ⟨7,134,V⟩),aE (U ⟨w.heap.size,0,V⟩),Y cK 150] 193)).alloc (aF #[aE (U e)] 132))
  (by rw[Ka _ _ _ _ (by simp)];rfl)
  (by rw[uG _ _ t (by simp;omega),uG _ _ t (by simp;omega),uG _ _ t (by simp;omega),uG _ _ t c];exact b)
  (by rw[OG _ _ t (by simp;omega),OG _ _ t (by simp;omega),OG _ _ t (by simp;omega),OG _ _ t (Nat.ne_of_lt c)];exact f)
 go_enter ake,ntmps62;go_wp2_with (go_at_call 114;go_enter aDb,ntmps114);refine GG 1 ?_;rw[B7];go_wp2;go_ret;exact⟨rfl,rfl⟩
theorem atJ(v)(w):(Qr #[iv 135 v]).run Q w=aV (iv 264 (bN #[aE (U ⟨7,135,V⟩)])) w:=by kernel_rfl
noncomputable def aha:Array ay->cy ay:=(find f289).get (by kernel_rfl)
theorem atQ(w):(aha #[.agg #[.pointer (U ⟨7,135,V⟩)]]).run Q w=.ok (Z) w:=by kernel_rfl
theorem atL(v)(w):(AT 476 264 v "Comparable").run Q w=aV (289,v) w:=by kernel_rfl
theorem arw(v)(a)(w):(Fi (iv 132 v) a 276 Z).run Q w=aV (bO #[mF,ai]) w:=OF YA (by kernel_rfl) (by kernel_rfl) v a w
theorem arx(v)(a)(w):(Fi (iv 135 v) a 276 Z).run Q w=aV (bO #[mF,ai]) w:=OF YA (by kernel_rfl) (by kernel_rfl) v a w
theorem arv(v)(a)(w):(Fi (iv 135 v) a 271 Z).run Q w=aV (bO #[mF,ai]) w:=OF YB (by kernel_rfl) (by kernel_rfl) v a w
theorem aru(v)(a)(w):(Fi (iv 135 v) a 273 Z).run Q w=aV (bO #[mF,ai]) w:=OF ajG (by kernel_rfl) (by kernel_rfl) v a w
theorem awp(v)(a)(w):(Fi (iv 132 v) a 271 Z).run Q w=aV (bO #[iv 132 v,Z]) w:=run_typeAssert_hasB YB (by kernel_rfl) v a w
theorem ar6(v)(w):(AT 476 132 v "Unwrap").run Q w=aV (282,v) w:=by kernel_rfl
set_option maxHeartbeats 1000000 in
theorem atO (q) (E k) (s) (w) (c:w.heap[q]? =U (.cells #[E,.string s] 137 (0,0))):
  bE Q 63 #[.iface 132 (.pointer (U ⟨q,0,V⟩)),.iface 135 (.int .i64 k)] w λe g=>e=.returned ((cq (E=k)))∧g=w:=by
 have i:= @run_callFunc_extern Q 115 _ Qr YV (by kernel_rfl) (by kernel_rfl) (by kernel_rfl) (by kernel_rfl)
 have d:= @run_callFunc_extern Q 289 _ aha akp (by kernel_rfl) (by kernel_rfl) (by kernel_rfl) (by kernel_rfl)
 have l:=atJ;have t:=atQ;have j:=atL;have o:=arw;have h:=arx;have p:=arv;have u:=aru;have m:=awp;have r:=ar6;have n:w.cell? q=U (.int .i64 E):=K c 0;have f:=run_eql_iface_types (P:=Q) 132 135 (.pointer (U ⟨q,0,V⟩)) (.int .i64 k) RR (by decide) w
 by_cases J:E=k
 ·subst J;have b:(gw .eql 87 (.iface 135 (E)) (.iface 135 (E))).run Q w=.ok (Z) w:=by
   have:=adl (P:=Q) w (t:=87) (tx:=135) (k:=.i64) E E RR (by kernel_rfl) YE
   grind
  go_enter YI,ntmps63;go_wp2_with (go_at_call 116;go_enter aDa,ntmps116);refine GG 2 ?_;rw[B7];go_wp2_with (go_at_call 282;go_enter aC9,ntmps282);rw[B7];go_wp2;go_ret;exact⟨by simp,rfl⟩
 ·have b:(gw .eql 87 (.iface 135 (E)) (.iface 135 (k))).run Q w=.ok (ai) w:=by
   have:=adl (P:=Q) w (t:=87) (tx:=135) (k:=.i64) E k RR (by kernel_rfl) YE
   grind
  go_enter YI,ntmps63;go_wp2_with (go_at_call 116;go_enter aDa,ntmps116);refine GG 2 ?_;rw[B7];go_wp2_with (go_at_call 282;go_enter aC9,ntmps282);rw[B7];go_wp2;go_ret;exact⟨by simp[J],rfl⟩
end
section
open Go.RowKit
def jF(w:av):Prop:=w.cell? ⟨0,0,V⟩=U (iv 264 (bN #[aE (U ⟨7,87,V⟩)]))
theorem jF.lt{w}(h:jF w):0<w.heap.size:=nU w ⟨0,0,V⟩ h
theorem jF.of_block{w w'}(h:jF w)(a:w'.heap[0]? =w.heap[0]?):jF w':=(eD (w:=w) (a:=⟨0,0,V⟩) a).trans h
theorem jF.below{N}{w w'}(h:jF w)(a:bC N w w')(b:w<=N):jF w':=h.of_block (a.block 0 (cF h.lt b))
theorem jF.keep{F}{w w'}(h:jF w)(b:O F w w')(a:¬F 0):jF w':=h.of_block (b.block 0 h.lt a)
structure Bg(N q:Nat)(k:Int)(s:ByteArray)(w0 W:av):Prop where
 box:W.heap[N+1]? =U (aF #[aE (U ⟨q,0,V⟩)] 132 (0,0))
 err:W.heap[q]? =U (aF #[Y aH k,aG s] 137 (0,0))
 res:W.heap[N]? =U (aF #[Y aH 0,aG ⟨#[]⟩] 49 (0,0))
 below:bC w0.heap.size w0 W
theorem aBh{N q}{k}{s}{w0 W}:Bg N q k s w0 W.drew↔Bg N q k s w0 W:=
 ⟨λh=>⟨h.1,h.2,h.3,⟨h.below.os,h.below.tape,h.below.output,h.below.size,h.below.block⟩⟩,λh=>⟨h.1,h.2,h.3,⟨h.below.os,h.below.tape,h.below.output,h.below.size,h.below.block⟩⟩⟩
theorem aAs(q b)(W)(f:jF W)(c:W.heap[b]? =U (aF #[aE V] 132 (0,0))):
  bE Q 62 #[iv 132 (aE (U ⟨q,0,V⟩)),iv 134 (aE (U ⟨b,0,V⟩))] W λe a=>e=bj (Z)∧O (λx=>x=b) W a∧a.heap[b]? =U (aF #[aE (q)] 132 (0,0)):=by
 have d:=(dc.1 c).1;refine(aAr q b (aE V) W f (K c 0) (tL c 0)).mono ?_;rintro e a ⟨rfl,rfl⟩;refine⟨rfl,((((O.alloc _ _ _).trans (O.alloc _ _ _)).trans (O.alloc _ _ _)).trans (O.alloc _ _ _)).trans (O.setCell _ _ _ rfl),?_⟩
 grind[yA,Below.heap_alloc]
theorem aqk(w):bE Q 42 #[mF] w λe a=>e=bj (bN #[Y aH 0,aG ⟨#[]⟩])∧bC w w a:=by
 go_enter YK,ntmps42;go_wp2;refine xG (results_cell_row rfl _ _ w 49 #[Y aH 0,aG ⟨#[]⟩] (0,0) _ rfl (iN _ _) MY rfl (by kernel_rfl)) rfl ?_
 exact⟨rfl,(ei _ _).alloc (aW _) _⟩
theorem aqm(q)(k)(s)(w)(R:jF w)(C:w.heap[q]? =U (.cells #[k,s] 137 (0,0)))(h1:1<=k)(Q1:k<=5):
  bE Q 42 #[.iface 132 (.pointer (U ⟨q,0,V⟩))] w λe m=>e=.returned (.agg #[.int .i64 k,.string s])∧bC w w m:=by
 have z:=(dc.1 C).1;obtain⟨d,l⟩:=ex ((w.alloc (.cells #[.int .i64 0,.string ⟨#[]⟩] 49)).alloc (.cells #[.pointer V] 132));have g:bC w w d:=by rw[l];exact((ei _ _).alloc (aW _) _).alloc (by simp) _
 have t:d.heap[w.heap.size+1]? =U (.cells #[.pointer V] 132 (0,0)):=by
  grind[World.alloc_heap_new,World.size_alloc]
 have p:d.heap[w.heap.size]? =U (.cells #[.int .i64 0,.string ⟨#[]⟩] 49 (0,0)):=by
  grind[Below.heap_alloc,World.alloc_heap_new]
 have M:d.heap.size=w+2:=by rw[l];simp
 have c:bE Q 62 #[.iface 132 (.pointer (q)),.iface 134 (.pointer (U ⟨w+1,0,V⟩))] d λe m=>e=.returned (Z)∧Bg w q k s w m:=
  (aAs q (w.heap.size+1) d (R.below g (aW _)) t).mono λe m h=>⟨h.1,h.2.2,(h.2.1.block q (by omega) (by omega)).trans ((g.block q z).trans C),(h.2.1.block _ (by omega) (by omega)).trans p,
   Fo g h.2.1 (λx A e=>by omega)⟩
 rw[l] at c;have QW:∀W,Bg w q k s w W->W.cell? q=U (.int .i64 k):=λW h=>K h.err 0;have J:∀W,Bg w q k s w W->W.cell? ⟨q,1,V⟩=U (.string s):=λW h=>K h.err 1;have A:∀W,Bg w q k s w W->W.cell? ⟨w+1,0,V⟩=U (.pointer (q)):=λW h=>K h.box 0;have N:dR (∀W j b,Bg w q k s w W->cq (k=j)=b->bE Q 63 #[.iface 132 (.pointer (q)),.iface 135 (j)] W λe m=>e=.returned (b)∧m=W):=
  X λW j b h e=>e▸atO q k j s W h.err
 have r:=gD.mk QW J A;go_enter YK,ntmps42;go_wp2_with (go_at_call 62;refine(X c).out.mono ?_;rintro e F ⟨rfl,E⟩;refine Halt.of ?_)
 have y0:=r.a F E;have y1:=r.c F E;have S:((k==0)=ai):=by grind
 unfold Halt;go_wp2;go_loopg [4] 6 (λn i wr=>∃j:Nat,i=.int .i64 j∧n+j=6∧Bg w.heap.size q k s w wr)
 case atStart=>grind
 case round=>
  obtain⟨j,rfl,Q2,a⟩:=hrel;have H:=r.c;by_cases hj:j<6
  ·have L:(j:Int)<=5:=by omega
   obtain⟨b,QY⟩:∃b:Bool,b=cq (k=(j:Int)):=⟨_,rfl⟩;have I:(((j:Int))==k)=b:=by grind
   have QX:=X QY;go_wp2
   go_region_held3 (λW=>Bg w.heap.size q k s w W) (with_reducible grind[aBh])
    ((first|(go_at_call 63;refine jc (N.out _ (j:Int) b ?hw QX.out.symm) ?_;(case hw=>grind);rintro e Q0 ⟨rfl,v⟩;subst v)))
   rename_i f;go_wp2;go_roundg (gk-1)
   case rel=>exact⟨j+1,by go_simp,by omega,f⟩
   grind
  ·have B:j=6:=by omega
   subst B;have D:=X a;have G:=K a.res 0;have P:=K a.res 1;have z2:=λi=>tL a.res i;simp at G P;have n1:w≠q:=by omega
   have Q3:=r.a wr a;have u:=r.b wr a;have T:=H wr a;go_wp2
   go_region_held3 (λW=>W.cell? ⟨q,0,V⟩=U (.int .i64 k)∧W.cell? ⟨q,1,V⟩=U (.string s)∧W.cell? ⟨w.heap.size+1,0,V⟩=U (.pointer (U ⟨q,0,V⟩))) (go_keep) (fail)
   go_wp2;obtain⟨o,y⟩:=(((td.mk (W:=wr.drew) D.out.res (O.drew _ _)).set 0 _).set 1 _);simp only[eC,eB,ee] at o;refine xG (results_cell_row rfl _ _ w.heap.size 49 _ (0,0) _ rfl o MY rfl (by kernel_rfl)) rfl ?_
   exact⟨rfl,Fo D.out.below y (λx A e=>by omega)⟩
structure ry(w:av)(pw:Nat)(lv:ay)(ps:List Nat):Prop where
 box:w.heap[pw]? =U (aF #[lv] 74 (0,0))
 row:w.ownsRow 0 77 1 lv ps.length (ps.map λp=>aE (U ⟨p,0,V⟩))
theorem ry.cell{w}{j}{c}{b}(h:ry w j c b){i}(k):∃g a,c=aD (U ⟨g,0,V⟩) b.length a∧g<w∧w.cell? ⟨g,i,V⟩=U (aE ((b[i]))):=by
 obtain⟨o,e⟩:=h.row;rcases e with⟨_,e⟩|⟨g,a,l,f,_,d,m,_,_,n⟩
 ·omega
 ·refine⟨g,a,f,(dc.1 d).1,?_⟩;rw[K d i];have q:(b.map λp=>aE (U ⟨p,0,V⟩))[i]? =U (aE ((b[i]))):=by simp[k]
  grind
theorem abu(v)(k)(s)(w)(c:jF w)(h:Ra w v k s):
  bE Q 42 #[v] w λe a=>e=bj (bN #[k,s])∧bC w w a:=by
 rcases h with⟨rfl,rfl,rfl⟩|⟨q,rfl,b,d,f⟩
 all_goals grind[aqk,aqm]
theorem abf(H)(Z)(y)(i:Nat)(Q2)(id)(m g)(L)(n f v)(w)(B:ry w H Z y)(EA:y.length<=1000000)(D:fD w y[i] id m g)(F:cJ w m L)(QY:m≠0)(E:jF w)
  (P:n.size<=65536) (R:f.size<=65536) (N:js L<9223372036854775807):
  bE Q 26 #[aE (H),i,aG n,aG f,aG v] w λe QW=>e=bj (bN #[(nP L id n f v).2.1,(nP L id n f v).2.2])∧cJ QW m (nP L id n f v).1∧O (λb=>b=m) w QW:=by
 obtain⟨gs,J,Q1,hg,G⟩:=B.cell Q2;subst Q1;obtain⟨p,S⟩:=ex (y[i]);rw[<-S] at D G;have QX:=(dc.1 B.box).1;have Q0:=F.lt;have T:w.cell? H=U (aD (gs) y.length J):=K B.box 0;obtain⟨u,k⟩:=ex (w.alloc (aF #[Y aH 0,aG ⟨#[]⟩] 49));have j:bC w w u:=by rw[k];exact(ei _ _).alloc (aW _) _
 have t:u.heap.size=w+1:=by rw[k];simp
 have l:u.heap[w.heap.size]? =U (aF #[Y aH 0,aG ⟨#[]⟩] 49 (0,0)):=by grind[World.alloc_heap_new]
 have c:=ap9 p id m g L n f v u ((j.block p D.lt).trans D) (F.below j) P R N;obtain⟨r,M⟩:=ex (nP L id n f v);rw[<-M] at c⊢;rw[k] at c;have Q3:=X c;have HH:=Bi.mk k j t l (E.below j (aW _));have Pr:(i:Int)<(y.length:Int):=by omega
 clear c k j t l E B D F M P R N S;go_enter aku,ntmps26;go_wp2_with (go_at_call 43;refine Q3.out.mono ?_;rintro e w2 ⟨W,rfl,hE,o,C⟩;refine Halt.of ?_)
 obtain⟨k,j,t,l,E⟩:=HH;rw[<-k] at C;have d:=(C.block _ (by omega) (by omega)).trans l
 unfold Halt;go_wp2_with (go_at_call 42;refine(X (abu W r.2.1 r.2.2 w2 (E.keep C (λe=>QY e.symm)) hE)).out.mono ?_;rintro e I ⟨rfl,q⟩;refine Halt.of ?_)
 obtain⟨o,s,d⟩:=(X (bP o (bP ((O.iL (F:=λb=>b=m) j).trans C) d))).out;have a:=(q.block _ ((dc.1 d).1)).trans d;have a0:I.cell? w=U (Y aH 0):=K a 0;have a1:I.cell? ⟨w,1,V⟩=U (aG ⟨#[]⟩):=K a 1;have b0:∀i,I.frozen? ⟨w,i,V⟩=ai:=by grind[Joins.unfrozen_of_block]
 unfold Halt;go_wp2;obtain⟨o,s,a⟩:=(X (bP (o.below q) (bP (s.trans (O.iL q)) a))).out;obtain⟨A,z⟩:=(((td.mk a (O.refl _ _)).set 0 _).set 1 _);simp only[eC,eB,ee] at A;refine xG (results_cell_row rfl _ _ w 49 _ (0,0) _ rfl A MY rfl (by kernel_rfl)) rfl ?_
 exact⟨rfl,o.keep z (by omega),s.trans' z (λ_ _ h=>h) (λx hx e=>by omega)⟩
theorem ayR(F)(Q3)(u)(i:Nat)(W)(id)(m g)(L)(n)(w)(z:ry w F Q3 u)(Z:u.length<=1000000)(B:fD w u[i] id m g)(D:cJ w m L)(I:m≠0)(C:jF w)
  (QX:n.size<=65536) (M:L.length<=1073741824) (QY:js L<9223372036854775807):
  bE Q 28 #[aE (F),i,aG n] w λe P=>e=bj (bN #[(qZ L id n).2.1,(qZ L id n).2.2])∧cJ P m (qZ L id n).1∧O (λb=>b=m) w P:=by
 obtain⟨gs,H,T,hg,E⟩:=z.cell W;subst T;obtain⟨p,QW⟩:=ex (u[i]);rw[<-QW] at B E;have N:=(dc.1 z.box).1;have S:=D.lt;have R:w.cell? F=U (aD (gs) u.length H):=K z.box 0;obtain⟨t,j⟩:=ex (w.alloc (aF #[Y aH 0,aG ⟨#[]⟩] 49));have f:bC w w t:=by rw[j];exact(ei _ _).alloc (aW _) _
 have s:t.heap.size=w+1:=by rw[j];simp
 have k:t.heap[w.heap.size]? =U (aF #[Y aH 0,aG ⟨#[]⟩] 49 (0,0)):=by grind[World.alloc_heap_new]
 have c:=ayQ p id m g L n t ((f.block p B.lt).trans B) (D.below f) QX M QY;obtain⟨r,J⟩:=ex (qZ L id n);rw[<-J] at c⊢;rw[j] at c;have Q1:=X c;have Q2:=Bi.mk j f s k (C.below f (aW _));have Pr:(i:Int)<(u.length:Int):=by omega
 clear c j f s k C z B D J QX M QY QW;go_enter akr,ntmps28;go_wp2_with (go_at_call 46;refine Q1.out.mono ?_;rintro e w2 ⟨Q0,rfl,hE,l,A⟩;refine Halt.of ?_)
 obtain⟨j,f,s,k,C⟩:=Q2;rw[<-j] at A;have d:=(A.block _ (by omega) (by omega)).trans k
 unfold Halt;go_wp2_with (go_at_call 42;refine(X (abu Q0 r.2.1 r.2.2 w2 (C.keep A (λe=>I e.symm)) hE)).out.mono ?_;rintro e G ⟨rfl,o⟩;refine Halt.of ?_)
 obtain⟨l,q,d⟩:=(X (bP l (bP ((O.iL (F:=λb=>b=m) f).trans A) d))).out;have a:=(o.block _ ((dc.1 d).1)).trans d;have a0:G.cell? w=U (Y aH 0):=K a 0;have a1:G.cell? ⟨w,1,V⟩=U (aG ⟨#[]⟩):=K a 1;have b0:∀i,G.frozen? ⟨w,i,V⟩=ai:=by grind[Joins.unfrozen_of_block]
 unfold Halt;go_wp2;obtain⟨l,q,a⟩:=(X (bP (l.below o) (bP (q.trans (O.iL o)) a))).out;obtain⟨y,v⟩:=(((td.mk a (O.refl _ _)).set 0 _).set 1 _);simp only[eC,eB,ee] at y;refine xG (results_cell_row rfl _ _ w 49 _ (0,0) _ rfl y MY rfl (by kernel_rfl)) rfl ?_
 exact⟨rfl,l.keep v (by omega),q.trans' v (λ_ _ h=>h) (λx hx e=>by omega)⟩
def E6(h:Int):ByteArray:=⟨#[jZ (h/72057594037927936 % 256).toNat,jZ (h/281474976710656 % 256).toNat,jZ (h/1099511627776 % 256).toNat,jZ (h/4294967296 % 256).toNat,jZ (h/16777216 % 256).toNat,jZ (h/65536 % 256).toNat,jZ (h/256 % 256).toNat,jZ (h % 256).toNat]⟩
theorem ayL(n)(I)(b)(i:Nat)(G)(id)(m q)(L)(pfx)(w)(f:ry w n I b)(J:b.length<=1000000)(g:fD w b[i] id m q)(r:cJ w m L)(N:L.length<=1000000)(u:ga w)(v:∀x∈L,Fit x):
  bE Q 20 #[.pointer (n),i,.string pfx] w λe H=>e=.returned ((E6 (y (dX L pfx))))∧bC w w H:=by
 obtain⟨R,c,B,O,l⟩:=f.cell G;subst B;obtain⟨p,a⟩:=ex (b[i]);rw[<-a] at g l;have A:w.cell? n=U (.slice (R) b.length c):=K f.box 0;have M:(i:Int)<(b.length:Int):=by omega
 have k:=X (ayM p id m q L pfx w g r (by omega) u v)
 obtain⟨h,s⟩:=ex (y (dX L pfx));rw[<-s] at k⊢;clear f a g r u v s;unfold gV at k;go_enter akz,ntmps20;go_wp2_with (go_at_call 38;go_must (refine k.out.mono ?_);rintro e d ⟨rfl,C⟩;refine Halt.of ?_)
 have D:∀z:Int,((jZ (z % 256).toNat).toNat:Int)=z % 256:=λz=>by
  grind[Int.emod_nonneg,Int.emod_lt_of_pos,UInt8.toNat_ofNat']
 have o:(convert 79 9 (.slice (d) 8 8)).run Q (d.alloc (.cells #[.int .u8 (h/72057594037927936 % 256),.int .u8 (h/281474976710656 % 256),.int .u8 (h/1099511627776 % 256),.int .u8 (h/4294967296 % 256),.int .u8 (h/16777216 % 256),.int .u8 (h/65536 % 256),.int .u8 (h/256 % 256),.int .u8 (h % 256)] 76))=
   .ok ((E6 h)) (d.alloc (.cells #[.int .u8 (h/72057594037927936 % 256),.int .u8 (h/281474976710656 % 256),.int .u8 (h/1099511627776 % 256),.int .u8 (h/4294967296 % 256),.int .u8 (h/16777216 % 256),.int .u8 (h/65536 % 256),.int .u8 (h/256 % 256),.int .u8 (h % 256)] 76)):=by
  refine run_convert_bytes_back (P:=Q) _ 79 9 5 d.heap.size 8 (E6 h).data.toList rH wT rG (λj E=>?_);refine zY rfl [.int .u8 (h/72057594037927936 % 256),.int .u8 (h/281474976710656 % 256),.int .u8 (h/1099511627776 % 256),.int .u8 (h/4294967296 % 256),.int .u8 (h/16777216 % 256),.int .u8 (h/65536 % 256),.int .u8 (h/256 % 256),.int .u8 (h % 256)] 76 rfl j _ ?_;have F:j<8:=E;have:j=0∨j=1∨j=2∨j=3∨j=4∨j=5∨j=6∨j=7:=by omega
  rcases this with rfl|rfl|rfl|rfl|rfl|rfl|rfl|rfl<;>simp[E6]<;>omega
 have t:=X C;unfold Halt;go_wp2;go_ret;exact⟨rfl,t.out.trans ((ei _ _).alloc t.out.size _)⟩
def cZ(v:ay)(b:Nat):Prop:=v.ownBlock=U b
def dx(N:Nat)(W:av)(v:ay)(l:List UInt8):Prop:=W.ownsRow N 5 1 v l.length (l.map iR)
theorem dx.nil(N)(W):dx N W (aD V 0 0) []:=World.ownsRow_nil _ _ _ _
theorem dx.block{N}{W W'}{v}{l}(h:dx N W v l)(a:∀g,cZ v g->W'.heap[g]? =W.heap[g]?):dx N W' v l:=dI h a
theorem dx.lt{N}{W}{v}{l}(h:dx N W v l){b}(a:cZ v b):N<=b∧b<W:=World.ownsRow.lt h b a
theorem dx.alloc{N}{W}{v}{l}(h:dx N W v l)(o):dx N (W.alloc o) v l:=h.block λ_ a=>dr _ _ _ (h.lt a).2
theorem Us{v v'}{W W'}{o}(_hv:∀b,cZ v b->b<W.heap.size)(a:(W.alloc o).grownBy W' v.ownBlock)(c:v'.ownBlock=v.ownBlock∨v'.ownBlock=(W.alloc o)):bT (cZ v) W (cZ v') W':=by
 refine⟨⟨a.os,a.tape,a.output,bq (by simp) a.size,λk g f=>?_⟩,λb d=>?_⟩
 ·exact(a.block k (by simp;omega) λe=>f e.symm).trans (dr _ _ _ g)
 ·unfold cZ at d⊢;rcases c with h|h
  ·grind
  ·rw[h] at d;cases d;exact aA (by simp)
theorem GS:(Q.info? 5).map (λi=>(i.zero,i.size,i.bytes))=U (U (Y aq 0),1,1):=by kernel_rfl
theorem aqQ:∀x,x<256->x|||128=x % 128+128:=by decide
theorem DU(N)(v)(l)(n:Nat)(w)(h:dx N w v l)(hN:N<=w)(R:n<18446744073709551616)(hl:l.length<=1099511627776):
  bE Q 199 #[v,Y cK n] w λe P=>∃L,e=bj L∧dx N P L (l++k n)∧bT (cZ v) w (cZ L) P:=by
 have T:(k n).length<=10:=Oa (f:=9) (cF R (by decide))
 go_enter akA,ntmps199;go_wp2;go_loopg [0,1] (k n).length (λa M S wr=>∃(r:ay) (c:List UInt8) (m:Nat),r=M∧S=Y cK m∧dx N wr r c∧c++k m=l++k n∧bT (cZ v) w (cZ r) wr∧(k m).length<=a∧c.length<=1099511627900∧m<18446744073709551616)
 case atStart=>exact⟨v,l,n,rfl,rfl,(X h).out,rfl,bT.refl _ _,aW _,by omega,R⟩
 case round=>
  obtain⟨r,c,m,rfl,rfl,G,K,F,hk,U,hm⟩:=hrel;have fP:=F.1.size;have g:=gD.mk G K F;by_cases E:m<128
  ·have J:¬(128:Int)<=(m:Int):=by omega
   have x:aq.wrap (m:Int)=(m:Int):=by grind[IntKind.wrap_u8]
   have f:c.map iR++[Y aq (m:Int)]=(l++k n).map iR:=by
    rw[<-g.b,xm E,uI]
    grind[UInt8.toNat_ofNat',iR]
   have C:c.length+1=(l++k n).length:=by rw[<-g.b,xm E];simp
   have u:=cI.mk f C;go_wp2_with (at_builtin;go_must (refine app1 rfl rfl rH GS rfl rfl (g.a.alloc _) rfl (by grind) rfl rfl (by omega) (by simp;omega) ?_);intro W w5 i q _ o;refine Halt.of ?_)
   have y:=cI.mk i (Us (λb G=>(g.a.lt G).2) q o);unfold Halt;go_wp2;go_ret;refine⟨_,rfl,?_,g.c.trans y.b⟩;unfold dx;rw[<-u.a,<-u.b];exact y.a
  ·have J:(128:Int)<=(m:Int):=by omega
   have x:aq.wrap (m:Int)=((m % 256:Nat):Int):=by grind[IntKind.wrap_u8]
   have t:bits .or aq ((m % 256:Nat):Int) 128=((m % 128+128:Nat):Int):=by
    have:=u8_or_nat (m % 256) 128 (by omega) (by decide)
    grind[aqQ,Nat.mod_mod_of_dvd]
   obtain⟨O,A⟩:=ex (m % 256);obtain⟨p,j⟩:=ex (m % 128+128);rw[<-A] at x t;rw[<-j] at t;have f:c.map iR++[Y aq (p:Int)]=(c++[jZ p]).map iR:=by
    grind[UInt8.toNat_ofNat',iR]
   have d:(c++[jZ p])++k (m/128)=l++k n:=by rw[<-g.b,DX E,j];simp
   have D:(k (m/128)).length+1<=gk:=by
    grind[DX]
   have H:c.length+1<=1099511627900:=by
    have:=congrArg List.length d
    grind
   have B:m/128<18446744073709551616:=by omega
   have u:=Bi.mk f d D H B;clear f d A j D H hk B;go_wp2_with (at_builtin;go_must (refine app1 rfl rfl rH GS rfl rfl (g.a.alloc _) rfl (by grind) rfl rfl (by omega) (by simp;omega) ?_);intro W w5 i q _ o;refine Halt.of ?_)
   have y:=cI.mk i (Us (λb G=>(g.a.lt G).2) q o);unfold Halt;go_wp2;go_roundg (gk-1)
   case rel=>
    obtain⟨V,I,a3,a4,Z⟩:=id u;refine⟨_,c++[jZ p],m/128,rfl,by go_simp,?_,I,g.c.trans y.b,by omega,by grind,Z⟩
    unfold dx;rw[<-V,jV];exact y.a
   case measure=>have:=u.c;omega
theorem apd(w)(base)(i)(t:Q.info? 5=U i)(A:i.zero=U (Y aq 0))(a:i.size=1)(d:i.bytes=1)
  (v) (n) (xs) (c:w.ownsRow base 5 1 v n xs) (s) (C:n+s.size<=140737488355328) (h:base<=w.heap.size):
  ∃l m,(Xl #[79,9] 79 #[v,aG s]).run Q w=aV l m∧m.ownsRow base 5 1 l (n+s.size) (xs++Lib.strCells s)∧bT (cZ v) w (cZ l) m:=by
 obtain⟨l,m,r,D,o,-⟩:=adk (P:=Q) w base 79 9 79 5 i rH rG t A a d v n xs c s (by unfold uZ;omega) C h
 refine⟨l,m,r,D,⟨o.os,o.tape,o.output,o.size,λk I H=>o.block k I λe=>H e.symm⟩,λb f=>?_⟩;rcases c.2 with⟨rfl,u⟩|⟨g,j,B,rfl,L,z,E,K,J,x⟩
 ·subst u;have F:=B3 (by simpa using c.1)
  subst F;obtain⟨M,N,q,y,-,-⟩:=adk (P:=Q) w w 79 9 79 5 i rH rG t A a d (aD V 0 0) 0 [] (World.ownsRow_nil _ _ _ _) s (by unfold uZ;omega) C (aW _)
  rw[r] at q;cases q;exact aA (y.lt b f).1
 ·by_cases O:n+s.size<=j
  ·have p:=Lib.run_append_room_string (P:=Q) w 79 9 79 5 i rH rG t a g n j B z s O (by omega)
   rw[r] at p;cases p;exact ax f
  ·have G:xs.length=n:=by grind
   have p:=Lib.run_append_grow_string (P:=Q) w 79 9 79 5 i (Y aq 0) rH rG t A g n j xs (by grind) (c.cells (g:=g) rfl) s (by omega) (by omega) (by rw[d];exact growslice_fits (by omega) (by omega))
   rw[r] at p;cases p;cases f
   grind
theorem aiY{ops}{rest}{o}{a}{w}{A}(k:o.guard=V)(sl x)
  (l:o.op=.call {callee:=.builtin .append,args:= #[sl,x],argTypes:= #[79,9]}) (j:o.type=79)
  (base) (i) (u:Q.info? 5=U i) (t:i.zero=U (Y aq 0)) (b:i.size=1) (g:i.bytes=1)
  (v) (n) (xs) (hs:a.eval sl=v) (f:w.ownsRow base 5 1 v n xs) (s) (m:a.eval x=aG s) (r:n+s.size<=140737488355328) (c:base<=w.heap.size)
  (h:∀d e,e.ownsRow base 5 1 d (n+s.size) (xs++Lib.strCells s)->bT (cZ v) w (cZ d) e->wpList Q ops A rest (a.put o.dst d) e):wpList Q ops A (o::rest) a w:=by
 refine Kh k λK q=>?_;obtain⟨d,e,p,z,y⟩:=apd w base i u t b g v n xs f s r c;unfold Oper.wp cT;simp only[l,j,resolve,invoke,builtin,gK,uK,Result.andThen_ok,List.map_toArray,fS,sg,hs,m,p];exact q _ _ (h d e z y)
theorem amu(s):Lib.strCells s=(bl s).map iR:=rfl
theorem Y7(N)(v)(l)(s)(w)(h:dx N w v l)(A:N<=w)(hs:s.size<=1073741824)(y:l.length<=1099511627776):
  bE Q 165 #[v,aG s] w λe o=>∃f,e=bj f∧dx N o f (l++de s)∧bT (cZ v) w (cZ f) o:=by
 obtain⟨t,x,d,i,b⟩:=info_parts GS;have q:cK.wrap (s.size:Int)=(s.size:Int):=by grind[IntKind.wrap_u64]
 have z:(k s.size).length<=10:=Oa (f:=9) (by omega)
 go_enter akN,ntmps165;go_wp2_with (go_at_call 199;go_must (refine(X (DU N v l s.size w h A (by omega) y)).out.mono ?_);rintro e D ⟨r,rfl,j,a⟩;have g:=cI.mk j a;refine Halt.of ?_)
 have u:=g.b.1.size;unfold Halt;go_wp2_with (at_builtin;go_must (refine aiY rfl _ _ rfl rfl N t x d i b r (l++k s.size).length _ rfl g.a s rfl (by grind) (by omega) ?_);intro B C c m;have n:=cI.mk c m;refine Halt.of ?_)
 unfold Halt;go_wp2;go_ret;refine⟨_,rfl,?_,g.b.trans n.b⟩;have e:l++de s=(l++k s.size)++bl s:=by rw[de,jy]
 have p:(l++de s).length=(l++k s.size).length+s.size:=by rw[e];exact jV
 have:=n.a;rw[amu,<-uI] at this;unfold dx;rw[p,e];exact this
theorem ajy{z}(h: -9223372036854775808<=z∧z<=9223372036854775807):∃(a b e:Nat) (d:Int),cK.wrap z=(a)∧cK.wrap ((a)*2)=(b)∧z/9223372036854775808=d∧cK.wrap d=(e)∧bits .xor cK (b) (e)=(gF z):=by
 by_cases h0:0<=z
 ·obtain⟨n,rfl⟩:∃n:Nat,z=(n:Int):=⟨z.toNat,by omega⟩
  refine⟨n,2*n,0,0,by grind[IntKind.wrap_u64],by grind[IntKind.wrap_u64],by omega,by grind[IntKind.wrap_u64],?_⟩
  rw[u64_xor_nat (2*n) 0 (by omega) (by decide),Nat.xor_zero]
  unfold gF
  grind
 ·obtain⟨n,rfl⟩:∃n:Nat,z= -(n:Int):=⟨(-z).toNat,by omega⟩
  refine⟨18446744073709551616-n,18446744073709551616-2*n,18446744073709551615,-1,by grind[IntKind.wrap_u64],by grind[IntKind.wrap_u64],by omega,by grind[IntKind.wrap_u64],?_⟩
  rw[u64_xor_nat _ _ (by omega) (by decide),Nat.xor_comm,show(18446744073709551615:Nat)=2^64-1 by decide,Lib.xor_ones64 _ (by omega)]
  unfold gF
  grind
theorem Yy(z)(w)(h:ic z):bE Q 200 #[z] w λe g=>e=bj (Y cK (gF z))∧g=w:=by obtain⟨a,b,c,d,m,l,j,k,i⟩:=ajy h;obtain⟨t,f⟩:∃t:Int,t=(gF z:Int):=⟨_,rfl⟩;rw[<-f] at i⊢;clear f;go_enter aky,ntmps200;go_wp2;go_ret;exact⟨rfl,rfl⟩
theorem zI(s)(h:s.size<=1073741824):(de s).length<=10+s.size:=by
 have:=Oa (f:=9) (n:=s.size) (by omega)
 rw[de,jV];show _+s.size<=_;omega
theorem xo{n}(h:n<18446744073709551616):(k n).length<=10:=Oa (f:=9) (cF h (by decide))
structure fx(N:Nat)(v0:ay)(w0:av)(bx:Nat)(cs:Array ay)(T:dZ)(v:ay)(l:List UInt8)(W:av):Prop where
 buf:dx N W v l
 box:W.heap[bx]? =U (aF cs T (0,0))
 off:¬cZ v bx
 left:bT (cZ v0) w0 (cZ v) W
 base:N<=W.heap.size
variable {N:Nat} {v0 v:ay} {w0 W:av} {bx:Nat} {cs:Array ay} {T:dZ} {l:List UInt8}
theorem Fx:fx N v0 w0 bx cs T v l W.drew↔fx N v0 w0 bx cs T v l W:=
 ⟨λh=>⟨h.buf,h.box,h.off,⟨⟨h.left.1.os,h.left.1.tape,h.left.1.output,h.left.1.size,h.left.1.block⟩,h.left.2⟩,h.base⟩,λh=>⟨h.buf,h.box,h.off,⟨⟨h.left.1.os,h.left.1.tape,h.left.1.output,h.left.1.size,h.left.1.block⟩,h.left.2⟩,h.base⟩⟩
def kV(bx:Nat)(cs:Array ay)(T:dZ)(W:av):Prop:=W.heap[bx]? =U (aF cs T (0,0))
theorem Rf:kV bx cs T W.drew↔kV bx cs T W:=vR
theorem fx.Ao(h:fx N v0 w0 bx cs T v l W):kV bx cs T W:=h.box
theorem fx.next{v'}{l'}{W'}(h:fx N v0 w0 bx cs T v l W)(c:dx N W' v' l')(a:bT (cZ v) W (cZ v') W'):fx N v0 w0 bx cs T v' l' W':=
 have b:=(dc.1 h.box).1
 ⟨c,(a.1.block _ b h.off).trans h.box,λe=>by rcases a.2 _ e with e|e;exact h.off e;omega,h.left.trans a,bq h.base a.1.size⟩
theorem fx.text(h:fx N v0 w0 bx cs T v l W)(s)(hs:s.size<=1073741824)(b:l.length<=1099511627776):
  bE Q 165 #[v,aG s] W λe f=>∃a,e=bj a∧fx N v0 w0 bx cs T a (l++de s) f:=
 (Y7 N v l s W h.buf h.base hs b).mono λ_ _ ⟨a,c,g,d⟩=>⟨a,c,h.next g d⟩
theorem fx.num(h:fx N v0 w0 bx cs T v l W)(n:Nat)(b:n<18446744073709551616)(c:l.length<=1099511627776):
  bE Q 199 #[v,Y cK n] W λe g=>∃a,e=bj a∧fx N v0 w0 bx cs T a (l++k n) g:=
 (DU N v l n W h.buf h.base b c).mono λ_ _ ⟨a,d,i,f⟩=>⟨a,d,h.next i f⟩
theorem apJ(N)(v)(l)(x)(w)(h:dx N w v l)(hN:N<=w)(hx:Fit x)(hl:l.length<=549755813888):
  bE Q 164 #[v,x.val] w λe S=>∃j,e=bj j∧dx N S j (l++gI x)∧bT (cZ v) w (cZ j) S:=by
 obtain⟨n,f,c,r,QX⟩:=x;obtain⟨Q0,Q1,a,H,I⟩:=hx;simp only at Q0 Q1 a H I;have t1:=zI n (by omega)
 have t2:=zI f (by omega)
 have L:=Ds H;have QY:=Ds I;have t3:=xo L;have t4:=xo QY;obtain⟨cs,E⟩:∃cs:Array ay,cs= #[aG n,aG f,Y aH c,Y aH r,aG QX]:=⟨_,rfl⟩;obtain⟨QZ,fK⟩:=ex (w.alloc (aF cs 46));have hA:fx N v w w cs 46 v l QZ:=by rw[fK];exact⟨h.alloc _,iN _ _,λe=>by have:=(h.lt e).2;omega,⟨O.alloc _ _ _,λb hb=>ax hb⟩,by simp;omega⟩
 have R:dR (∀W,fx N v w w cs 46 v l W->bE Q 165 #[v,n] W λe Qw=>∃j,e=bj j∧fx N v w w cs 46 j (l++de n) Qw):=X λW g=>g.text n (by omega) (by omega)
 have M:dR (∀i W,fx N v w w cs 46 i (l++de n) W->bE Q 165 #[i,f] W λe Qw=>∃j,e=bj j∧fx N v w w cs 46 j (l++de n++de f) Qw):=X λi W g=>g.text f (by omega) (by grind)
 have D:dR (∀i W,fx N v w w cs 46 i (l++de n++de f) W->bE Q 199 #[i,Y cK (gF c)] W λe Qw=>∃j,e=bj j∧fx N v w w cs 46 j (l++de n++de f++k (gF c)) Qw):=X λi W g=>g.num _ L (by grind)
 have o:dR (∀i W,fx N v w w cs 46 i (l++de n++de f++k (gF c)) W->bE Q 199 #[i,Y cK (gF r)] W λe Qw=>∃j,e=bj j∧fx N v w w cs 46 j (l++de n++de f++k (gF c)++k (gF r)) Qw):=X λi W g=>g.num _ QY (by grind)
 have m:dR (∀i W,fx N v w w cs 46 i (l++de n++de f++k (gF c)++k (gF r)) W->bE Q 165 #[i,QX] W λe Qw=>∃j,e=bj j∧fx N v w w cs 46 j (l++de n++de f++k (gF c)++k (gF r)++de QX) Qw):=X λi W g=>g.text QX (by omega) (by grind)
 have J:dR (∀i W,fx N v w w cs 46 i (l++de n++de f) W->bE Q 200 #[c] W λe Qw=>e=bj (Y cK (gF c))∧fx N v w w cs 46 i (l++de n++de f) Qw):=X λi W g=>(Yy c W H).mono λ_ _ h=>⟨h.1,h.2▸g⟩;have p:dR (∀i W,fx N v w w cs 46 i (l++de n++de f++k (gF c)) W->bE Q 200 #[r] W λe Qw=>e=bj (Y cK (gF r))∧fx N v w w cs 46 i (l++de n++de f++k (gF c)) Qw):=X λi W g=>(Yy r W I).mono λ_ _ h=>⟨h.1,h.2▸g⟩;obtain⟨Q2,t⟩:∃z,z=gF c:=⟨_,rfl⟩;obtain⟨QW,C⟩:∃z,z=gF r:=⟨_,rfl⟩;rw[<-t] at D o m J p;rw[<-C] at o m p;have d:l++gI ⟨n,f,c,r,QX⟩=l++de n++de f++k Q2++k QW++de QX:=by
  grind[gI,List.append_assoc]
 obtain⟨l1,A⟩:∃z,z=l++de n:=⟨_,rfl⟩;rw[<-A] at R M D o m J p d;obtain⟨l2,F⟩:∃z,z=l1++de f:=⟨_,rfl⟩;rw[<-F] at M D o m J p d;obtain⟨l3,y⟩:∃z,z=l2++k Q2:=⟨_,rfl⟩;rw[<-y] at D o m p d;obtain⟨l4,q⟩:∃z,z=l3++k QW:=⟨_,rfl⟩;rw[<-q] at o m d;obtain⟨l5,B⟩:∃z,z=l4++de QX:=⟨_,rfl⟩;rw[<-B] at m d;have G:=X d;have k0:∀W:av,kV w cs 46 W->W.cell? w=U (aG n):=λW g=>(K g 0).trans (by grind)
 have k1:∀W:av,kV w cs 46 W->W.cell? ⟨w,1,V⟩=U (aG f):=λW g=>(K g 1).trans (by grind)
 have k2:∀W:av,kV w cs 46 W->W.cell? ⟨w,2,V⟩=U (Y aH c):=λW g=>(K g 2).trans (by grind)
 have k3:∀W:av,kV w cs 46 W->W.cell? ⟨w,3,V⟩=U (Y aH r):=λW g=>(K g 3).trans (by grind)
 have k4:∀W:av,kV w cs 46 W->W.cell? ⟨w,4,V⟩=U (aG QX):=λW g=>(K g 4).trans (by grind)
 have wj:kV w cs 46 QZ:=hA.box;rw[E] at fK;have P:=X fK;clear fK h E d A F y q B t C t1 t2 t3 t4 L QY Q0 Q1 a H I hl;unfold s.val;go_enter akO,ntmps164;go_wp2;rw[<-P.out]
 go_region_held3 (λW=>kV w.heap.size cs 46 W) (with_reducible grind[Rf,fx.Ao])
  ((first
   |(go_at_call 165;with_reducible refine jc (R.out _ ?fK) ?_;(case fK=>grind[Fx]);rintro e w2 ⟨v2,rfl,PV⟩)
   |(go_at_call 165;with_reducible refine jc (M.out _ _ ?xN) ?_;(case xN=>grind);rintro e w3 ⟨Q3,rfl,Hw⟩)))
 go_wp2
 go_region_held3 (λW=>kV w.heap.size cs 46 W) (with_reducible grind[Rf,fx.Ao])
  ((first
   |(go_at_call 200;with_reducible refine jc (J.out Q3 _ (by grind[Fx])) ?_;rintro e wa ⟨rfl,hAa⟩)
   |(go_at_call 199;with_reducible refine jc (D.out Q3 _ (by grind)) ?_;rintro e w4 ⟨v4,rfl,hA4⟩)
   |(go_at_call 200;with_reducible refine jc (p.out v4 _ (by grind)) ?_;rintro e wb ⟨rfl,PU⟩)
   |(go_at_call 199;with_reducible refine jc (o.out v4 _ (by grind)) ?_;rintro e w5 ⟨v5,rfl,hA5⟩)
   |(go_at_call 165;with_reducible refine jc (m.out v5 _ (by grind)) ?_;rintro e w6 ⟨v6,rfl,u⟩)))
 go_wp2;go_ret;refine⟨_,rfl,?_,u.left⟩;rw[G.out];exact u.buf
attribute [local go_sem] Oper.semAt_some
structure zz(bx:Nat)(W0:av)(D0:Nat->Prop)(yv:ay)(W:av)(D D':Nat->Prop):Prop where
 fa:∀b,D b↔D' b∨b=bx
 old:∀b,D' b->D0 b∨W0.heap.size<b
 box:W.heap[bx]? =U (aF #[yv] 92 (0,0))
 size:W0.heap.size<=W.heap.size
def rC(bx:Nat)(W0:av)(D0:Nat->Prop)(yv:ay)(J:List s->av->(Nat->Prop)->Prop)(pre:List s)(W:av)(D:Nat->Prop):Prop:=
 ∃D',J pre W D'∧zz bx W0 D0 yv W D D'
theorem rC.owned{n}{W0}{j}{m}{J}(g:ql J):ql (rC n W0 j m J):=⟨λe W D h b f=>by
  obtain⟨i,d,h⟩:=h;rcases(h.fa b).1 f with f|rfl
  ·exact g.lt _ _ _ d b f
  ·exact(dc.1 h.box).1,
 λe W D o h c=>by obtain⟨i,d,h⟩:=h;exact⟨i,g.st _ _ _ _ d ⟨c.os,c.tape,c.output,c.size,λk l=>c.block k ((h.fa k).2 (ax l))⟩,h.fa,h.old,(c.block _ ((h.fa _).2 (aA rfl))).trans h.box,bq h.size c.size⟩⟩
theorem zz.left{g}{W w1 d}{e D i}{m}(h:zz g W e m d D i)(a:bC W W w1)(l:W<=g)(c:bT (λb=>e b∨b=g) w1 D d):bT e W i d:=
 ⟨⟨c.1.os.trans a.os,c.1.tape.trans a.tape,c.1.output.trans a.output,bq a.size c.1.size,λk j n=>
  (c.1.block k (cF j a.size) (by grind)).trans (a.block k j)⟩,
 λb f=>(h.old b f).imp id λx=>Nat.le_of_lt x⟩
theorem zz.step{c}{W0 i W'}{g D j a}{l}(h:zz c W0 g l i D j)(r:∀b,g b->b≠c)(m:c=W0)(f:bT j i a W'):
  zz c W0 g l W' (λb=>a b∨b=c) a∧bT D i (λb=>a b∨b=c) W':=by
 have p:=(dc.1 h.box).1;have n:¬j c:=λq=>by
  rcases h.old c q with d|d
  all_goals grind
 refine⟨⟨λb=>vR,λb e=>?_,(f.1.block _ p n).trans h.box,bq h.size f.1.size⟩,f.1.mono λk _ o=>(h.fa k).2 (ax o),λb e=>?_⟩
 ·rcases f.2 b e with d|d
  ·exact h.old b d
  grind
 ·rcases e with e|e
  ·rcases f.2 b e with d|d
   ·exact ax ((h.fa b).2 (ax d))
   grind
  ·exact ax ((h.fa b).2 (aA e))
theorem axV(bp bn p m g)(id)(L)(n)(w)
  (qR:w.cell? bp=U (.pointer (p))) (xW:w.cell? bn=U (.string n)) (K9:fD w p id m g) (hB:cJ w m L) (hL:L.length<=1073741824) (hn:n.size<=4096):
  Iter Q 67 #[.pointer (U ⟨bp,0,V⟩),.pointer (U ⟨bn,0,V⟩)] (λx=> #[x.field,x.value]) (λxs=>xs=nO L n) (λb=>b=bp∨b=bn∨b=p∨b=m) w:=by
 intro l J Jx W C N B f hR QW Q1;have Q0:cJ W m L:=hB.of_block (N.block m (by simp))
 have QZ:fD W p id m g:=(N.block p (by simp)).trans K9
 have V9:W.cell? ⟨bp,0,V⟩=U (.pointer (U ⟨p,0,V⟩)):=(eD (w:=w) (N.block bp (by simp))).trans qR
 have K0:=(eD (w:=w) (N.block bn (by simp))).trans xW
 have Pd:=QZ.cell.2.1;have lbp:=nU W _ V9;have lbn:=nU W _ K0;have lp:=QZ.lt;have lm:=Q0.lt;have KA:=QZ.ne Q0;have HX:=X (bP N (bP B (bP f (bP hR (bP QW Q1)))));have HB:=X Q0;clear N B f hR QW Q1 Q0 hB qR xW K9 QZ;refine callsIn_of_wp_marks RZ rfl trivial ?_ rfl;simp only[ntmps67,uH,qB,lQ,ya,x9,vP,vO,vN,vM,vL,qC];gi_wp2;obtain⟨Q2,A⟩:∃Q2,Q2=W.alloc (.cells #[.func (.yield l) #[] #[]] 92):=⟨_,rfl⟩;have e0:Q2.cell? bp=U (.pointer (p)):=by rw[A];go_simp
 have e1:Q2.cell? bn=U (.string n):=by rw[A];go_simp
 have e2:Q2.cell? ⟨p,1,V⟩=U (.map (m)):=by rw[A];go_simp
 have HW:=X A;have HC:=X (SW m L n Q2.drew (by rw[A];exact(HB.out.alloc _).of_block rfl) hL hn)
 rw[<-A];clear A;refine wpIn_mono ?aei (λe a w h=>NoPanic.imp e a w h)
 gi_region_with (gi_at_call 68;refine(callsIn_wide.2 HC.out).mono ?_;rintro e y ⟨lb,rfl,hx,t⟩)
 all_goals
  refine NoPanic.normal ?_;have Mr:=X (bP hx t);clear hx t HC e0 e1 e2;gi_wp2;obtain⟨⟨R,S,QX⟩,E⟩:=Mr.out;clear Mr;obtain⟨N,B,f,hR,QW,Q1⟩:=HX.out;have jK:Q2.heap.size=W+1:=by rw[HW.out];simp
  have lC:Q2.drew.heap.size=W+1:=jK;have r:bC W W Q2:=by rw[HW.out];exact(ei _ _).alloc (aW _) _
  have i:=r.drew.trans (E.mono (by grind))
  have T:y.heap[W.heap.size]? =U (.cells #[.func (.yield l) #[] #[]] 92 (0,0)):=(E.block _ (by grind)).trans (by rw[HW.out];exact iN _ _)
  have Ve:=E.size;rw[lC] at Ve;have o:=B.lt _ _ _ Q1;have F:∀b,C b->b≠W:=λb t e=>by grind
  have xU:∀b,C b->b≠m:=by grind
  have H0:rC W W C (.func (.yield l) #[] #[]) J [] y (λb=>C b∨b=W):=
   ⟨C,B.st _ _ _ _ Q1 ((O.iL (F:=λ_=>False) i).fZ λb t=>⟨o b t,λh=>h⟩),⟨λb=>vR,λb t=>.inl t,T,i.size⟩⟩
  refine wp_rangeFunc (gf:=120) (lb:=lb) rfl (C5 M5 rfl (by decide)) S (λb t=>(QX b t).1) (λ_=>rfl)
   (rC W.heap.size W C (.func (.yield l) #[] #[]) J) (λc G W' D=>c=.ret∧rC W.heap.size W C (.func (.yield l) #[] #[]) Jx G W' D) (rC.owned B) (λc=>⟨λQY w D h b t=>(rC.owned f).lt QY w D h.2 b t,λQY w D w' h ha=>⟨h.1,(rC.owned f).st QY w D w' h.2 ha⟩⟩)
   (λb=>C b∨b=W.heap.size) (λb t hr=>?xM) H0 ?round ?done ?stop
  case xM=>
   grind
  case done=>
   rintro xs H D Cc ⟨v,Qw,j⟩ I hK qV;have hl:=j.left i (aW _) I;have nB:¬v y:=λh=>qV ((j.fa _).2 (.inl h));have z:=B.st _ _ _ _ Qw ((s8.putObj H y.heap.size (.deferred V)).fZ nB);have su:bT C W v (H.putObj y (.deferred V)):=hl.step (O.putObj (F:=λb=>b=y.heap.size) H y.heap.size _ rfl) (λx hx e=>by omega)
   have d:dR (J xs (H.putObj y (.deferred V)) v∧bT C W v (H.putObj y (.deferred V))):=by grind
   clear HX HB N B f hR QW Q1 i S o F xU H0 Qw j I hl z su T HW QX E r;gi_wp2;refine⟨by simp,.inl ⟨_,_,rfl,vK hK,?_⟩⟩
   exact⟨_,results_none rfl _ _ _,⟨_,rfl⟩,.inl ⟨_,v,Cc,d.out.1,d.out.2⟩⟩
  case stop=>
   rintro c G H D ⟨jh,Pc⟩ ⟨rfl,v,Qw,j⟩ I hK qV;have hl:=j.left i (aW _) I;have nB:¬v y:=λh=>qV ((j.fa _).2 (.inl h));have z:=f.st _ _ _ _ Qw ((s8.putObj H y.heap.size (.deferred V)).fZ nB);have su:bT C W v (H.putObj y (.deferred V)):=hl.step (O.putObj (F:=λb=>b=y.heap.size) H y.heap.size _ rfl) (λx hx e=>by omega)
   have d:dR (Jx G (H.putObj y (.deferred V)) v∧bT C W v (H.putObj y (.deferred V))):=by grind
   clear HX HB N B f hR QW Q1 i S o F xU H0 Qw j I hl z su T HW QX E r;gi_wp2;refine⟨by simp,.inl ⟨_,_,rfl,vK hK,?_⟩⟩
   exact⟨_,results_none rfl _ _ _,⟨_,rfl⟩,.inr ⟨_,v,⟨jh,Pc⟩,d.out.1,d.out.2⟩⟩
  case round=>
   rintro l2 G ⟨xn,xf,xc,xr,xv⟩ Wr D Au uP pY ⟨jh,hS⟩ j wm;obtain⟨v,Qw,j⟩:=j;unfold s.val;have Q3:=(rC.owned B).lt G Wr D ⟨v,Qw,j⟩;have HI:=X (bP Qw j);have HS:=X hS;have Mu:=X (bP B (bP f (bP QW (bP F (bP Q3 pY)))));have AE:=(j.fa W.heap.size).2 (.inr rfl);clear HX HB N B f hR QW Q1 i S o F xU H0 T HW QX E r Qw j hS;gi_wp2;refine⟨⟨O.alloc _ _ _,λb t=>t.imp (λh=>h) (·.1)⟩,λM u=>?_⟩;have jl:M.heap[Wr.heap.size]? =U (.cells #[xn,xf,xc,xr,xv] 46 (0,0)):=(u.block _ (by omega)).trans (iN _ _)
   have c1:M.cell? ⟨Wr,1,V⟩=U (.string xf):=K jl 1;have c4:M.cell? ⟨Wr,4,V⟩=U (.string xv):=K jl 4;obtain⟨Qw,j⟩:=HI.out;obtain⟨B,f,QW,F,Wy,Hs⟩:=Mu.out;have kb:=λb t=>(u.block b (λe=>Hs (e▸t))).trans (dr _ _ _ (Q3 b t));have jL:zz W W C (.func (.yield l) #[] #[]) M D v:=⟨j.fa,j.old,(kb _ AE).trans j.box,bq j.size (by grind)⟩
   have Av:=B.st _ _ _ _ Qw ⟨u.os,u.tape,u.output,by grind,λk hk=>kb k ((j.fa k).2 (.inl hk))⟩
   have q1:M.cell? W=U (.func (.yield l) #[] #[]):=K jL.box 0;obtain⟨fn,tmps,P,body,hy,mD⟩:=QW G ⟨xn,xf,xc,xr,xv⟩ M v ⟨jh,HS.out⟩ Av;have zx:=X (RoundIn.inRound l2 mD);have GV:(Instr.yield l #[xf,xv]).run Q M=.ok (.round l fn tmps P body) M:=hy;have H2:=X (bP jL F);gi_wp2;refine zx.out.mono ?_;rintro e W' EJ;have d:dR (∀(q:Nat->Prop),bT v M q W'->zz W W C (.func (.yield l) #[] #[]) W' (λb=>q b∨b=W) q∧bT (λb=>D b∨(Wr<=b∧b<(Wr.alloc (.cells #[xn,xf,xc,xr,xv] 46)))) M (λb=>q b∨b=W) W'):=X λq hL=>by obtain⟨f1,f2⟩:=H2.out.1.step H2.out.2 rfl hL;exact⟨f1,f2.shift (O.refl _ _) (λb t=>.inl t)⟩
   rcases EJ with⟨rfl,q,z,Cx⟩|⟨rfl,q,z,Cx⟩
   ·have HE:=X (bP z Cx);gi_wp2;exact⟨_,⟨q,HE.out.1,(d.out _ HE.out.2).1⟩,(d.out _ HE.out.2).2⟩
   ·have HE:=X (bP z Cx);gi_wp2;exact⟨_,⟨rfl,q,HE.out.1,(d.out _ HE.out.2).1⟩,(d.out _ HE.out.2).2⟩
end
end Go.Proofs.YtpdbmpbmepkikaaGreatDoor
