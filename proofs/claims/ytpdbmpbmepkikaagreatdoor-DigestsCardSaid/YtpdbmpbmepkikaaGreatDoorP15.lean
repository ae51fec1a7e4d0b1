/- Laws. -/
import Derived.Conc.LeavingOf
import Derived.Deep.DeepHandedRow
import Derived.SevenTiedAt
import Derived.Test.YtpdbmpbmepkikaaGreatDoorP08
import Derived.Test.YtpdbmpbmepkikaaGreatDoorP14
set_option maxRecDepth 100000
set_option maxHeartbeats 400000
set_option linter.all false
open Go.Proofs.Tryz
open And renaming intro->bP
open Bool renaming true->Z,false->ai
open Classical renaming choose->Fh
open Decidable renaming decide->cq
open Go renaming reachBytes->LQ,World->av,Value->ay,Calls->bE,TypeId->dZ,Addr->eK,runNT->gZ,binOp->gw,lone->iH,callFunc->iu,maxLen->uZ
open Go.CallKind renaming normal->er
open Go.DataW renaming weightsAll->Xp,weights->agP
open Go.Ending renaming returned->bj
open Go.Frame renaming enter->eO
open Go.IntKind renaming i64->aH
open Go.Lib renaming TabIs->x6
open Go.Next renaming enter->jr
open Go.Obj renaming cells->aF,map->iP
open Go.Op renaming maxDepth->LK,equalIn->rf
open Go.Proofs.Tryz renaming prog->aC,f41->nG
open Go.Result renaming ok->aV
open Go.RowKit renaming Below->bC,Hid->dR,wrap64->om
open Go.Stepped renaming next->fQ
open Go.Value renaming cells->AV,ownBlock->Mb,okWide->Qo,int->Y,slice->aD,pointer->aE,string->aG,agg->bN,tuple->bO,bool->cz,iface->iv,oneCell'->za
open Go.World renaming setCell->jE,cell?->og
open List renaming range->lW
open Option renaming isNone->Mc,some->U,none->V
open Or renaming inr->aA,inl->ax
namespace Go.Proofs.YtpdbmpbmepkikaaGreatDoor
def ac6:=@Go.Addr.add_lit
def ac5:=@Int.emod_nonneg
def UE:=@Go.DataW.trod_string
def ac4:=@List.getElem?_eq_some_iff
def ac3:=@List.mem_flatten
def UD:=@List.mem_append_left
def ac2:=@List.getElem_of_mem
def as4:=@Array.mem_iff_getElem
def as3:=@List.mem_of_getElem?
def ac0:=@Option.isSome_none
def UC:=@Array.getElem?_append_right
section
open Go.RowKit
theorem ntmps41:uy.ntmps=87:=by kernel_rfl
def wO(w:av):Prop:=w.heap[4]? =U (aF #[Y aH 0] 3 (0,0))
def X6(w:av)(v:ay):Option Int->Prop
 |none=>v=aD V 0 0
 |some x=>∃g n cap,v=aD (U ⟨g,0,V⟩) n cap∧1<=n∧w.cell? ⟨g,0,V⟩=U (Y aH x)∧g≠4
theorem aye{w}{a b}{e d}{g h}(c:a≠b)(j:w.heap[a.block]? =U (.cells e g))(l:w.heap[b.block]? =U (.cells d h)):(gw .eql 77 (.pointer (U a)) (.pointer (b))).run Q w=.ok (ai) w:=by
 obtain⟨i,k,f⟩:=xI.1 (by kernel_rfl)
 exact run_eql_ptr_other w ajB k (of_decide_eq_false f) c j l
theorem aaY{w}{p m m' g}{id}{L}(h:fD w p id m g)(b:cJ w m' L):p≠m':=by
 rintro rfl;obtain⟨d,a,c,_⟩:=b
 grind[fD]
theorem Iu{N}{W}{v}{l}(h:dx N W v l)(m:1<=l.length):∃g a,v=aD (U ⟨g,0,V⟩) l.length a∧l.length<=a∧g<W∧∀j (b),W.cell? ⟨g,0+j,V⟩=(iR l[j]):=by
 obtain⟨k,e⟩:=id h;rcases e with⟨rfl,o⟩|⟨g,a,f,rfl,_,d,c,_,_,i⟩
 ·omega
 ·refine⟨g,a,rfl,c,(dc.1 d).1,λj b=>?_⟩;have n:=Gy h (g:=g) rfl j (iR l[j]) (by grind)
  grind[Addr.add_lit]
theorem Tk{e:Ending}{p q}{x}{F:ay->Prop}(h:(p∧e=bj x)∨(q∧∃v,e=bj v∧F v)):∃v,e=bj v∧((p∧v=x)∨(q∧F v)):=by
 grind
def II(R0 R1:zu)(n0:Int)(A B:List s)(bs:List (Int×ay))(c:Option Int)(w:av)(e:Ending)(w':av):Prop:=∃(j z:Nat) (J E A' B':List s),e=bj (bO #[Y aH j,Y aH z])∧cJ w' R0.mb J∧Bk J A'∧cJ w' R1.mb E∧Bk E B'∧
   QV ((n0+1) % 8=0∨Clear y A B) A B (vf A B (n0+1)) c A' B' j z∧di (pV aH) w' R0.gb (put bs R1.id (Y aH (n0+1)))∧O (λb=>b=R0.mb∨b=R1.mb∨b=R0.gb) w w'
theorem wz(p)(n c)(w):(gw .eql 79 (.slice p n c) (.slice V 0 0)).run Q w=.ok (p.isNone) w:=by
 have h:∀d:Nat,(rf (d+1) 79 (.slice p n c) (.slice V 0 0)).run Q w=.ok p.isNone w:=λd=>by cases p<;>simp[rf,run_underlying rH]
 simp only[gw];simp[Op.equal,LK,h 9999]
set_option maxHeartbeats 8000000 in
theorem amj (R0 R1) (n0) (LX LY A B) (bs) (vm) (c) (w) (h0:R0.At w) (h1:R1.At w) (hp:R0.p≠R1.p) (hm:R0.mb≠R1.mb) (Cs:R0.gb≠R0.mb) (hg1:R0.gb≠R1.mb)
  (bA:cJ w R0.mb LX) (bB:cJ w R1.mb LY) (hA:Bk LX A) (hB:Bk LY B) (fA:∀x∈A,Fits x) (fB:∀x∈B,Fits x) (lA:A.length<=4096) (lB:B.length<=4096) (ht:ga w) (hf:wO w)
  (hM:di (pV .i64) w R0.gb bs) (ED:(look bs R1.id).getD (.int .i64 0)=.int .i64 n0) (xQ:0<=n0) (vZ:n0<4611686018427387904) (hc:X6 w vm c):
  bE Q 41 #[.pointer (R0.p),.pointer (R1.p),vm] w λe w'=>II R0 R1 n0 A B bs c w e w':=by
 obtain⟨p0,i0,M,g0⟩:=R0;obtain⟨p1,i1,m1,g1⟩:=R1;unfold zu.At at h0 h1;simp only at h0 h1 hp hm Cs hg1 bA bB hM ED⊢;have k4:w.cell? ⟨4,0,V⟩=U (.int .i64 0):=K hf 0;have f4:w.frozen? ⟨4,0,V⟩=ai:=tL hf 0;have y1:w.cell? p1=U (.int .i64 i1):=K h1 0;have z4:4<w.heap.size:=(dc.1 hf).1;have n40:¬p0=4:=λe=>by grind[fD,wO]
 have n41:¬p1=4:=λe=>by grind[fD,wO]
 have m40:M≠4:=λe=>by obtain⟨en,ck,h,_⟩:=bA;grind[wO]
 have m41:m1≠4:=λe=>by obtain⟨en,ck,h,_⟩:=bB;grind[wO]
 have WI:g0≠4:=λe=>by obtain⟨en,ck,h,_⟩:=hM;grind[wO]
 have p0g:p0≠g0:=λe=>by obtain⟨en,ck,h,_⟩:=hM;grind[fD]
 have p1g:p1≠g0:=λe=>by obtain⟨en,ck,h,_⟩:=hM;grind[fD]
 have aqE:p0≠M:=h0.ne bA;have aqD:p0≠m1:=aaY h0 bB;have aqz:=aaY h1 bA;have aqy:=h1.ne bB;have t3:∀b,(b=g0∨b=M∨b=m1∨b=4)->(3:Nat)≠b:=λb hb e=>by
  unfold ga x6 World.var? at ht;rw[Dw] at ht;rw[<-e] at hb;rcases hb with h|h|h|h
  ·obtain⟨en,ck,h',_⟩:=hM;grind
  ·obtain⟨en,ck,h',_⟩:=bA;grind
  ·obtain⟨en,ck,h',_⟩:=bB;grind
  grind
 obtain⟨wf,Vk⟩:=ex (w.setCell ⟨4,0,V⟩ (.int .i64 1));have yV:∀b,b≠4->wf.heap[b]? =w.heap[b]? :=λb hb=>by grind[Below.heap_setCell]
 have Ww:O (λb=>b=4) w wf:=by grind[O.setCell]
 have e77:(gw .eql 77 (.pointer (p0)) (.pointer (p1))).run Q (w.setCell ⟨4,0,V⟩ (.int .i64 1))=.ok (ai) (w.setCell ⟨4,0,V⟩ (.int .i64 1)):=by rw[<-Vk];exact aye (λe=>hp (by grind)) ((yV p0 n40).trans h0) ((yV p1 n41).trans h1)
 have hBf:=bA.of_block (yV M m40);have hmf:=hM.of_block (yV g0 WI);have VV:Fz (firstM LX (n0+1)):=by
  rw[af6 hA];split
  ·exact⟨λx hx=>Hz (hA.lT x hx) (fA x hx),λQX hs=>(by rw[mA.1 hs];show 0<=_;omega),λn E=>(by cases E),by grind,by simp,by simp,by simp⟩
  ·exact⟨λx hx=>(by cases hx),λQX hs=>(by cases hs),λn E=>(by cases E),by simp,by simp,by simp,by simp⟩
 have C60:=X (axM p0 M g0 i0 i1 n0 LX bs wf ((yV p0 n40).trans h0) hBf (ht.keep Ww (t3 4 (.inr (.inr (.inr rfl))))) hmf ED xQ vZ (by rw[hA.perm.length_eq];omega) (λx hx=>Hz (hA.lT x (hA.perm.subset hx)) (fA x (hA.perm.subset hx))) Cs VV)
 have HH:=aBl.mk h0 h1 bA bB hM ht hf hc hA hB fA fB;have HW:=sV.mk Vk yV Ww t3;clear h0 h1 bA bB hM ht hf hc hA hB fA fB Vk yV Ww t3 hBf hmf VV ED;go_enter YL,ntmps41;simp only[A8,NV,yC,Gi,NW,mX,BP,BM,xk,ni,tZ,wU,wJ,Dv,eH,eM,kB,jW,cP,eG,nG,fO];go_wp2_with (go_at_call 60;rw[<-HW.a];go_must (refine C60.out.mono ?_);rintro e w1 ⟨v,rfl,Q1,xZ,Cq⟩;have H1:=gD.mk Q1 xZ Cq;clear Q1 xZ Cq;refine Halt.of ?_)
 unfold Halt;clear e77;have hcS:vf A B (n0+1)<=33000000:=azG lA lB _;have f:O (λb=>b=4∨b=g0) w w1:=(HW.c.mono λ_ _ h=>.inl h).trans (H1.c.mono λ_ _ h=>.inr h);have aeh:∀R:zu,(R=⟨p0,i0,M,g0⟩∨R=⟨p1,i1,m1,g1⟩)->fD w1 R.p R.id R.mb R.gb∧R.p≠M∧R.p≠m1∧R.p<w1:=λR hR=>by
  rcases hR with rfl|rfl
  ·exact⟨(f.block p0 HH.a.lt (by grind)).trans HH.a,aqE,aqD,cF HH.a.lt f.size⟩
  ·exact⟨(f.block p1 HH.b.lt (by grind)).trans HH.b,aqz,aqy,cF HH.b.lt f.size⟩
 have Cy:zo wf ⟨p0,i0,M,g0⟩ ⟨p1,i1,m1,g1⟩ A B ((n0+1) % 8=0∨Clear y A B) (vf A B (n0+1)) c w1 17 0 0 v Z ⟨p0,i0,M,g0⟩ ⟨p1,i1,m1,g1⟩ w1 A B LX LY A B:=
  zo.start HH.i HH.j HH.k HH.l lA lB
   (HH.c.of_block (f.block M HH.c.lt (by grind)))
   (HH.d.of_block (f.block m1 HH.d.lt (by grind))) H1.a
 have ER:=HH.f.keep f (by rintro(h|h);exact absurd h (by decide);exact HW.d g0 (.inl rfl) h)
 have ad9:=H1.c.size;have aeP:∀{gv:Nat} {x:Int} (W:av),O (λb=>b=M∨b=m1) w1 W->w.cell? gv=U (.int .i64 x)->gv≠4->W.cell? gv=U (.int .i64 x):=λ{gv x} W hK hcv h4=>by
  have Wi:gv<w:=nU w _ hcv;have EB:∀(b:Nat) (en:_) (ck:_),w.heap[b]? =U (.map en ck)->gv≠b:=λb en ck hb e=>by
   subst e;unfold og at hcv
   grind
  have hg:gv≠g0:=by obtain⟨en,ck,h,_⟩:=HH.e;grind
  have h0':gv≠M:=by obtain⟨en,ck,h,_⟩:=HH.c;grind
  have PW:gv≠m1:=by obtain⟨en,ck,h,_⟩:=HH.d;grind
  refine Eq.trans ?_ hcv;exact(hK.cell (p:=⟨gv,0,V⟩) (by have:=f.size;grind) (by grind)).trans (f.cell (p:=⟨gv,0,V⟩) Wi (by grind))
 have Pa:w1.heap[4]? =U (.cells #[.int .i64 1] 3 (0,0)):=(H1.c.block 4 (cF z4 HW.c.size) (λe=>WI e.symm)).trans (by rw[HW.a];exact BA HH.g)
 have AD:∀W,O (λb=>b=M∨b=m1) w1 W->di (pV .i64) (W.setCell ⟨4,0,V⟩ (.int .i64 0)) g0 (put bs i1 (.int .i64 (n0+1)))∧O (λb=>b=M∨b=m1∨b=g0) w (W.setCell ⟨4,0,V⟩ (.int .i64 0))∧∀m L,(m=M∨m=m1)->cJ W m L->cJ (W.setCell ⟨4,0,V⟩ (.int .i64 0)) m L:=λW hK=>by
  refine⟨H1.b.of_block ((gy _ _ _ _ WI).trans (hK.block g0 H1.b.lt (by grind))),?_,λm L hm hB=>hB.of_block (gy _ _ _ _ (by grind))⟩
  have hz:(W.setCell ⟨4,0,V⟩ (.int .i64 0)).heap.size=W:=yz _ _ _;refine⟨(hK.os.trans f.os:W.os=w.os),(hK.tape.trans f.tape:W.tape=w.tape),(hK.output.trans f.output:W.output=w.output),by rw[hz];exact bq f.size hK.size,λb hb E=>?_⟩
  by_cases e:b=4
  ·subst e;rw[BA ((hK.block 4 (dc.1 Pa).1 (by grind)).trans Pa)]
   exact HH.g.symm
  ·rw[gy _ _ _ _ e,hK.block b (cF hb f.size) (λh=>E (by grind)),f.block b hb (λh=>by grind)]
 have H:=Hq9.mk hcS f aeh Cy ER ad9 @aeP Pa AD;clear hcS f aeh Cy ER ad9 aeP Pa AD;go_wp2;go_loopg [6,7,12,13,14,15] 17 (λk s6 s7 s12 s13 s14 s15 wr=>∃(j z:Nat) (ok:Bool) (S R:zu) (AS AR LX' De Q3 Q2:List s),s6=.int .i64 j∧s7=.int .i64 z∧s13=.bool ok∧s14=.pointer (U ⟨S.p,0,V⟩)∧s15=.pointer (U ⟨R.p,0,V⟩)∧zo wf.heap.size ⟨p0,i0,M,g0⟩ ⟨p1,i1,m1,g1⟩ A B ((n0+1) % 8=0∨Clear y A B) (vf A B (n0+1)) c w1 k j z s12 ok S R wr AS AR LX' De Q3 Q2)
 case atStart=>exact⟨0,0,Z,⟨p0,i0,M,g0⟩,⟨p1,i1,m1,g1⟩,A,B,LX,LY,A,B,rfl,rfl,rfl,rfl,rfl,H.d⟩
 case round=>
  obtain⟨j,z,ok,S,R,AS,AR,LX',De,Q3,Q2,rfl,rfl,rfl,rfl,rfl,I⟩:=hrel;have Vy:=(I.keep.block 4 (dc.1 H.h).1 (by rintro(h|h);exact m40 h.symm;exact m41 h.symm)).trans H.h
  have kr4:wr.cell? ⟨4,0,V⟩=U (.int .i64 1):=K Vy 0;have fr4:=tL Vy 0;clear Vy;cases ok with
  |false=>
   have HO:=cI.mk (I.over (.inl rfl)) I.keep;clear I;go_wp2
   go_ret2
   obtain⟨⟨L0,L1,A',B',q1,q2,q3,q4,q5⟩,Cn⟩:=HO;obtain⟨e1,e2,e3⟩:=H.i wr Cn;exact⟨j,z,L0,L1,A',B',rfl,e3 _ _ (.inl rfl) q1,q2,e3 _ _ (.inr rfl) q3,q4,q5,e1,e2⟩
  |true=>
   cases c with
   |none=>
    have hvm:vm=.slice V 0 0:=HH.h;subst hvm;have Ct:∀x,(V:Option Int)=U x->0<=x->(j:Int)<x:=λx h=>by cases h
    obtain⟨m,P,k',hk,i,l,T,F,Q1⟩:∃m P k',gk=k'+1∧j+k'<=16∧z+P<=vf A B (n0+1)∧gC y ((n0+1) % 8=0∨Clear y A B) AS AR Q3 Q2 m P k'∧Bl m∧dx wf.heap.size wr u12 (gi m):=by
     rcases I.st with⟨-,h⟩|⟨h,-⟩
     ·exact h
     ·cases h
    have La:=H.a;have fP:=T.size;obtain⟨g,cap,rfl,G,sw,jl⟩:=Iu Q1 (Eb m);have hR:R=⟨p0,i0,M,g0⟩∨R=⟨p1,i1,m1,g1⟩:=by
     rcases I.who with⟨-,h,-⟩|⟨-,h,-⟩
     ·exact .inr h
     ·exact .inl h
    obtain⟨r1,r2,r3,r4⟩:=H.c R hR;have d:=bq H.f I.keep.size;have Q0:=X (XP R.p R.mb R.gb R.id De m g 0 cap wr ((I.keep.block R.p r4 (by rintro(h|h);exact r2 h;exact r3 h)).trans r1) I.bY (H.e.keep I.keep (by rintro(h|h);exact HW.d M (.inr (.inl rfl)) h;exact HW.d m1 (.inr (.inr (.inl rfl))) h)) G sw jl (T.ok F) (λx hx=>TF (T.bk.gX x (T.bh x hx))) (T.an I.kY F (by omega) (by have:=I.lY;have:=I.Kn;omega)))
    obtain⟨n,E⟩:=ex ((gi m).length);rw[<-E] at Q0;have fK:aH.wrap ((j:Int)+1)=(j:Int)+1:=by rw[qA];omega
    have xN:aH.wrap ((z:Int)+(n:Int))=(z:Int)+(n:Int):=by rw[qA];omega
    have Ev:om ((j:Int)+1)=(j:Int)+1:=by unfold om;omega
    have hw4:om ((z:Int)+(n:Int))=(z:Int)+(n:Int):=by unfold om;omega
    have HI:=Bh.mk I hk i l T F d E;clear I hk i l T F Q1 La fP G sw jl hR r1 r2 r3 r4 d;rw[<-E];clear E;go_wp2_with (go_at_call 59;go_must (refine Q0.out.mono ?_);rintro e w9 ⟨q,o,u⟩;have N:=Tk u;clear u;obtain⟨v9,rfl,r⟩:=N;have H9:=gD.mk q o r;clear q o r;refine Halt.of ?_)
    unfold Halt;clear Q0;obtain⟨I,hk,i,l,T,F,d,E⟩:=HI;obtain⟨q,o,r⟩:=H9;rcases r with⟨C,rfl⟩|⟨t,QW⟩
    ·obtain⟨k2,D,QY⟩:=I.next hm H.a Ct d T F hk i l q o (v':=.slice V 0 0) (.inl ⟨C,rfl⟩);rw[<-E] at QY;have HN:=cI.mk D QY;have QZ:=λ(w:av) (a:eK) (n c:Nat)=>wz (U a) n c w;have J:=λ(w:av)=>wz V 0 0 w;simp only[Mc] at QZ J;clear I hk i l T F d E q o C D QY;go_wp2;go_roundg k2
     case rel=>exact⟨j+1,z+n,ai,R,S,AR,AS,_,_,_,_,congrArg (Y aH) (by omega),congrArg (Y aH) (by omega),rfl,rfl,rfl,HN.b⟩
     case measure=>exact HN.a
    ·obtain⟨g9,c9,rfl,-,-,-⟩:=Iu QW (Eb _);obtain⟨k2,D,QY⟩:=I.next hm H.a Ct d T F hk i l q o (.inr ⟨t,rfl,QW⟩);rw[<-E] at QY;have HN:=cI.mk D QY;have QZ:=λ(w:av) (a:eK) (n c:Nat)=>wz (U a) n c w;have J:=λ(w:av)=>wz V 0 0 w;simp only[Mc] at QZ J;obtain⟨n9,Ck⟩:=ex ((gi (rQ (m.bh.foldl fq De) m)).length);rw[<-Ck] at HN⊢;clear I hk i l T F d E q o t D QY QW Ck;go_wp2;go_roundg k2
     case rel=>exact⟨j+1,z+n,Z,R,S,AR,AS,_,_,_,_,congrArg (Y aH) (by omega),congrArg (Y aH) (by omega),rfl,rfl,rfl,HN.b⟩
     case measure=>exact HN.a
   |some x=>
    obtain⟨gv,nv,cv,rfl,hnv,hcv,hg4⟩:=(show X6 w vm (U x) from HH.h);have hcv:=H.g wr I.keep hcv hg4;have aES:(0:Int)<(nv:Int):=by omega
    have aER:¬((nv:Int)=0):=by omega
    have aEQ:¬(nv=0):=by omega
    by_cases Cd:x<0
    ·have Ct:∀Qw,U x=U Qw->0<=Qw->(j:Int)<Qw:=λQw h=>by injection h with h;omega
     obtain⟨m,P,k',hk,i,l,T,F,Q1⟩:∃m P k',gk=k'+1∧j+k'<=16∧z+P<=vf A B (n0+1)∧gC y ((n0+1) % 8=0∨Clear y A B) AS AR Q3 Q2 m P k'∧Bl m∧dx wf.heap.size wr u12 (gi m):=by
      rcases I.st with⟨-,h⟩|⟨h,-⟩
      ·exact h
      ·cases h
     have La:=H.a;have fP:=T.size;obtain⟨g,cap,rfl,G,sw,jl⟩:=Iu Q1 (Eb m);have hR:R=⟨p0,i0,M,g0⟩∨R=⟨p1,i1,m1,g1⟩:=by
      rcases I.who with⟨-,h,-⟩|⟨-,h,-⟩
      ·exact .inr h
      ·exact .inl h
     obtain⟨r1,r2,r3,r4⟩:=H.c R hR;have d:=bq H.f I.keep.size;have Q0:=X (XP R.p R.mb R.gb R.id De m g 0 cap wr ((I.keep.block R.p r4 (by rintro(h|h);exact r2 h;exact r3 h)).trans r1) I.bY (H.e.keep I.keep (by rintro(h|h);exact HW.d M (.inr (.inl rfl)) h;exact HW.d m1 (.inr (.inr (.inl rfl))) h)) G sw jl (T.ok F) (λx hx=>TF (T.bk.gX x (T.bh x hx))) (T.an I.kY F (by omega) (by have:=I.lY;have:=I.Kn;omega)))
     obtain⟨n,E⟩:=ex ((gi m).length);rw[<-E] at Q0;have fK:aH.wrap ((j:Int)+1)=(j:Int)+1:=by rw[qA];omega
     have xN:aH.wrap ((z:Int)+(n:Int))=(z:Int)+(n:Int):=by rw[qA];omega
     have Ev:om ((j:Int)+1)=(j:Int)+1:=by unfold om;omega
     have hw4:om ((z:Int)+(n:Int))=(z:Int)+(n:Int):=by unfold om;omega
     have HI:=Bh.mk I hk i l T F d E;clear I hk i l T F Q1 La fP G sw jl hR r1 r2 r3 r4 d;rw[<-E];clear E;go_wp2_with (go_at_call 59;go_must (refine Q0.out.mono ?_);rintro e w9 ⟨q,o,u⟩;have N:=Tk u;clear u;obtain⟨v9,rfl,r⟩:=N;have H9:=gD.mk q o r;clear q o r;refine Halt.of ?_)
     unfold Halt;clear Q0;obtain⟨I,hk,i,l,T,F,d,E⟩:=HI;obtain⟨q,o,r⟩:=H9;rcases r with⟨C,rfl⟩|⟨t,QW⟩
     ·obtain⟨k2,D,QY⟩:=I.next hm H.a Ct d T F hk i l q o (v':=.slice V 0 0) (.inl ⟨C,rfl⟩);rw[<-E] at QY;have HN:=cI.mk D QY;have QZ:=λ(w:av) (a:eK) (n c:Nat)=>wz (U a) n c w;have J:=λ(w:av)=>wz V 0 0 w;simp only[Mc] at QZ J;clear I hk i l T F d E q o C D QY;go_wp2;go_roundg k2
      case rel=>exact⟨j+1,z+n,ai,R,S,AR,AS,_,_,_,_,congrArg (Y aH) (by omega),congrArg (Y aH) (by omega),rfl,rfl,rfl,HN.b⟩
      case measure=>exact HN.a
     ·obtain⟨g9,c9,rfl,-,-,-⟩:=Iu QW (Eb _);obtain⟨k2,D,QY⟩:=I.next hm H.a Ct d T F hk i l q o (.inr ⟨t,rfl,QW⟩);rw[<-E] at QY;have HN:=cI.mk D QY;have QZ:=λ(w:av) (a:eK) (n c:Nat)=>wz (U a) n c w;have J:=λ(w:av)=>wz V 0 0 w;simp only[Mc] at QZ J;obtain⟨n9,Ck⟩:=ex ((gi (rQ (m.bh.foldl fq De) m)).length);rw[<-Ck] at HN⊢;clear I hk i l T F d E q o t D QY QW Ck;go_wp2;go_roundg k2
      case rel=>exact⟨j+1,z+n,Z,R,S,AR,AS,_,_,_,_,congrArg (Y aH) (by omega),congrArg (Y aH) (by omega),rfl,rfl,rfl,HN.b⟩
      case measure=>exact HN.a
    ·by_cases hxj:(j:Int)<x
     ·have Ct:∀Qw,U x=U Qw->0<=Qw->(j:Int)<Qw:=λQw h=>by injection h with h;omega
      obtain⟨m,P,k',hk,i,l,T,F,Q1⟩:∃m P k',gk=k'+1∧j+k'<=16∧z+P<=vf A B (n0+1)∧gC y ((n0+1) % 8=0∨Clear y A B) AS AR Q3 Q2 m P k'∧Bl m∧dx wf.heap.size wr u12 (gi m):=by
       rcases I.st with⟨-,h⟩|⟨h,-⟩
       ·exact h
       ·cases h
      have La:=H.a;have fP:=T.size;obtain⟨g,cap,rfl,G,sw,jl⟩:=Iu Q1 (Eb m);have hR:R=⟨p0,i0,M,g0⟩∨R=⟨p1,i1,m1,g1⟩:=by
       rcases I.who with⟨-,h,-⟩|⟨-,h,-⟩
       ·exact .inr h
       ·exact .inl h
      obtain⟨r1,r2,r3,r4⟩:=H.c R hR;have d:=bq H.f I.keep.size;have Q0:=X (XP R.p R.mb R.gb R.id De m g 0 cap wr ((I.keep.block R.p r4 (by rintro(h|h);exact r2 h;exact r3 h)).trans r1) I.bY (H.e.keep I.keep (by rintro(h|h);exact HW.d M (.inr (.inl rfl)) h;exact HW.d m1 (.inr (.inr (.inl rfl))) h)) G sw jl (T.ok F) (λx hx=>TF (T.bk.gX x (T.bh x hx))) (T.an I.kY F (by omega) (by have:=I.lY;have:=I.Kn;omega)))
      obtain⟨n,E⟩:=ex ((gi m).length);rw[<-E] at Q0;have fK:aH.wrap ((j:Int)+1)=(j:Int)+1:=by rw[qA];omega
      have xN:aH.wrap ((z:Int)+(n:Int))=(z:Int)+(n:Int):=by rw[qA];omega
      have Ev:om ((j:Int)+1)=(j:Int)+1:=by unfold om;omega
      have hw4:om ((z:Int)+(n:Int))=(z:Int)+(n:Int):=by unfold om;omega
      have HI:=Bh.mk I hk i l T F d E;clear I hk i l T F Q1 La fP G sw jl hR r1 r2 r3 r4 d;rw[<-E];clear E;go_wp2_with (go_at_call 59;go_must (refine Q0.out.mono ?_);rintro e w9 ⟨q,o,u⟩;have N:=Tk u;clear u;obtain⟨v9,rfl,r⟩:=N;have H9:=gD.mk q o r;clear q o r;refine Halt.of ?_)
      unfold Halt;clear Q0;obtain⟨I,hk,i,l,T,F,d,E⟩:=HI;obtain⟨q,o,r⟩:=H9;rcases r with⟨C,rfl⟩|⟨t,QW⟩
      ·obtain⟨k2,D,QY⟩:=I.next hm H.a Ct d T F hk i l q o (v':=.slice V 0 0) (.inl ⟨C,rfl⟩);rw[<-E] at QY;have HN:=cI.mk D QY;have QZ:=λ(w:av) (a:eK) (n c:Nat)=>wz (U a) n c w;have J:=λ(w:av)=>wz V 0 0 w;simp only[Mc] at QZ J;clear I hk i l T F d E q o C D QY;go_wp2;go_roundg k2
       case rel=>exact⟨j+1,z+n,ai,R,S,AR,AS,_,_,_,_,congrArg (Y aH) (by omega),congrArg (Y aH) (by omega),rfl,rfl,rfl,HN.b⟩
       case measure=>exact HN.a
      ·obtain⟨g9,c9,rfl,-,-,-⟩:=Iu QW (Eb _);obtain⟨k2,D,QY⟩:=I.next hm H.a Ct d T F hk i l q o (.inr ⟨t,rfl,QW⟩);rw[<-E] at QY;have HN:=cI.mk D QY;have QZ:=λ(w:av) (a:eK) (n c:Nat)=>wz (U a) n c w;have J:=λ(w:av)=>wz V 0 0 w;simp only[Mc] at QZ J;obtain⟨n9,Ck⟩:=ex ((gi (rQ (m.bh.foldl fq De) m)).length);rw[<-Ck] at HN⊢;clear I hk i l T F d E q o t D QY QW Ck;go_wp2;go_roundg k2
       case rel=>exact⟨j+1,z+n,Z,R,S,AR,AS,_,_,_,_,congrArg (Y aH) (by omega),congrArg (Y aH) (by omega),rfl,rfl,rfl,HN.b⟩
       case measure=>exact HN.a
     ·
      have HO:=cI.mk (I.over (.inr ⟨x,rfl,by omega,by omega⟩)) I.keep
      clear I;go_wp2
      go_ret2
      obtain⟨⟨L0,L1,A',B',q1,q2,q3,q4,q5⟩,Cn⟩:=HO;obtain⟨e1,e2,e3⟩:=H.i wr Cn;exact⟨j,z,L0,L1,A',B',rfl,e3 _ _ (.inl rfl) q1,q2,e3 _ _ (.inr rfl) q3,q4,q5,e1,e2⟩
@[simp] theorem aDc (args) (w):(iu 41 args).run Q w=aV (jr 41 args) w:=LH YL (by kernel_rfl) args w
theorem II.drew{l i}{m}{A B}{bs}{c}{w w'}{e}(h:II l i m A B bs c w.drew e w'):II l i m A B bs c w e w':=by obtain⟨j,z,s,n,p,r,a,b,o,d,f,g,q,k⟩:=h;exact⟨j,z,s,n,p,r,a,b,o,d,f,g,q,(O.drew _ _).trans k⟩
theorem amk(G)(lv)(r)(i j:Nat)(hi)(hj:j<r.length)(g n)(C)(J P A B)(bs)(H)(c)(w)(QX:ry w G lv r)(EA:r.length<=1000000)(e0:r[i]=g.p)(e1:r[j]=n.p)
  (h0:g.At w) (h1:n.At w) (hp:g.p≠n.p) (hm:g.mb≠n.mb) (QY:g.gb≠g.mb) (QW:g.gb≠n.mb)
  (Q1:cJ w g.mb J) (Z:cJ w n.mb P) (hA:Bk J A) (hB:Bk P B) (fA:∀x∈A,Fits x) (fB:∀x∈B,Fits x) (lA:A.length<=4096) (lB:B.length<=4096) (ht:ga w) (hf:wO w)
  (Q3:di (pV aH) w g.gb bs) (S:(look bs n.id).getD (Y aH 0)=Y aH C) (N:0<=C) (I:C<4611686018427387904) (hc:X6 w H c):
  bE Q 23 #[aE (G),i,j,H] w λe w'=>II g n C A B bs c w e w':=by
 obtain⟨D,z,hv,hg,s⟩:=QX.cell hi;have t:w.cell? ⟨D,j,V⟩=U (aE ((r[j]))):=by
  obtain⟨M,Q2,Cf,-,h⟩:=QX.cell hj
  grind
 subst hv;rw[e0] at s;rw[e1] at t;have E:w.cell? G=U (aD (D) r.length z):=K QX.box 0;have Pr:(i:Int)<(r.length:Int):=by omega
 have uR:(j:Int)<(r.length:Int):=by omega
 have hT:∀{b:Nat} {v:ay} {i:Nat},w.cell? ⟨b,i,V⟩=v->b<w∧b≠g.mb∧b≠n.mb∧b≠g.gb:=λ{b v i} o=>by
  have EB:∀(q:Nat) (y:_) (F:_),w.heap[q]? =U (iP y F)->b≠q:=λq y F hb e=>by
   subst e;unfold og at o
   grind
  refine⟨nU w _ o,?_,?_,?_⟩
  ·obtain⟨y,F,h,_⟩:=Q1;grind
  ·obtain⟨y,F,h,_⟩:=Z;grind
  ·obtain⟨y,F,h,_⟩:=Q3;grind
 have R:∀(W:av) (b k:Nat) (v:ay),O (λb=>b=g.mb∨b=n.mb∨b=g.gb) w W->w.cell? ⟨b,k,V⟩=v->W.cell? ⟨b,k,V⟩=v:=λW b k v L o=>by obtain⟨f,l,q3,q4⟩:=hT o;exact(L.cell (p:=⟨b,k,V⟩) f (by grind)).trans o
 have T:=X R;go_enter akv,ntmps23;go_wp2;refine vI ?_;refine Bs (λW=>W.cell? ⟨G,0,V⟩=U (aD (U ⟨D,0,V⟩) r.length z)∧W.cell? ⟨D,i,V⟩=U (aE (U ⟨g.p,0,V⟩))∧W.cell? ⟨D,j,V⟩=U (aE (U ⟨n.p,0,V⟩))) [0,1,2,3,4,5,6,7,8,9,10,11,12,13,14,15,16,17,18,19] (by kernel_rfl) (⟨E,s,t⟩) (λ_ _ _ _ _ h=>h) ?_
 repeat((apply pM _ rfl (by kernel_rfl) rfl;·intro W d;obtain⟨m,f,l⟩:=d;go_simp;try with_reducible rfl);simp only[xd])
 refine uw rfl (by kernel_rfl) λa QZ L=>?_
 go_simp;go_at_call 41;refine jc (X (amj g n C J P A B bs H c w.drew h0 h1 hp hm QY QW (Q1.of_block rfl) (Z.of_block rfl) hA hB fA fB lA lB ht hf Q3.drew S N I (by cases c<;>exact hc))).out ?_
 rintro e w7 Q0;obtain⟨fj,fz,L0,L1,A',B',rfl,hQ⟩:=Q0.drew;have u:=hQ.2.2.2.2.2.2;refine L.out _ _ (⟨T.out _ _ _ _ u E,T.out _ _ _ _ u s,T.out _ _ _ _ u t⟩) ?_
 repeat((apply pM _ rfl (by kernel_rfl) rfl;·intro W d;go_simp;try with_reducible rfl);simp only[xd])
 refine Bt (by kernel_rfl) λa=>?_
 refine vH ?_;go_wp2
 go_ret2
 exact(X Q0).out.drew
structure Rk where
 p:Nat
 id:Int
 m:Nat
 g:Nat
 L:List s
 l:List s
 bs:List (Int×ay)
def Rk.r4(o:Rk):zu:=⟨o.p,o.id,o.m,o.g⟩
def Rk.tD(o:Rk)(L' l':List s):Rk:=⟨o.p,o.id,o.m,o.g,L',l',o.bs⟩
def Rk.aoE(o:Rk)(L' l':List s)(A6:List (Int×ay)):Rk:=⟨o.p,o.id,o.m,o.g,L',l',A6⟩
abbrev Keys:=List (ByteArray×ByteArray)
structure uo(N K S:Nat)(ks:Keys)(w:av)(o:Rk):Prop where
 rep:fD w o.p o.id o.m o.g
 book:cJ w o.m o.L
 bk:Bk o.L o.l
 map:di (pV aH) w o.g o.bs
 cnt:∀y∈o.l,0<=y.c∧y.c<=K∧ic y.r
 ks:∀y∈o.l,(y.name,y.field)∈ks
 DK:∀k,∃n:Nat,(look o.bs k).getD (Y aH 0)=Y aH n∧n<=S
 pN:N<=o.p
 mN:N<=o.m
 gN:N<=o.g
 GU:ic o.id
def qs(R:Nat->Rk):List Nat:=[(R 0).p,(R 1).p,(R 2).p]
structure kH(N K S:Nat)(ks:Keys)(w:av)(pw:Nat)(pv:ay)(R:Nat->Rk):Prop where
 rF:ry w pw pv (qs R)
 iy:∀i,i<3->uo N K S ks w (R i)
 ms:∀i j,i<3->j<3->i≠j->(R i).m≠(R j).m
 gm:∀i j,i<3->j<3->(R i).g≠(R j).m
 gs:∀i j,i<3->j<3->i≠j->(R i).g≠(R j).g
 kl:ks.length<=K
 NQ:∀b,pv.ownBlock=U b->N<=b
 NP:N<=pw
def yn(R:Nat->Rk)(b:Nat):Prop:=∃k,k<3∧(b=(R k).m∨b=(R k).g)
structure sS(R R':Nat->Rk):Prop where
 p:∀k,(R' k).p=(R k).p
 id:∀k,(R' k).id=(R k).id
 m:∀k,(R' k).m=(R k).m
 g:∀k,(R' k).g=(R k).g
theorem sS.refl(R):sS R R:=⟨λ_=>rfl,λ_=>rfl,λ_=>rfl,λ_=>rfl⟩
theorem sS.trans{R b a}(h:sS R b)(k:sS b a):sS R a:=⟨λi=>(k.p i).trans (h.p i),λi=>(k.id i).trans (h.id i),λi=>(k.m i).trans (h.m i),λi=>(k.g i).trans (h.g i)⟩
theorem sS.maps{R a}(h:sS R a):yn a=yn R:=funext λb=>by unfold yn;simp only[h.m,h.g]
theorem kH.lo{N K S}{f}{w}{d}{c}{R}(h:kH N K S f w d c R){b}(g:yn R b):N<=b:=by
 obtain⟨k,a,e|e⟩:=g<;>rw[e]
 ·exact(h.iy k a).mN
 ·exact(h.iy k a).gN
theorem BJ(R):(qs R).length=3:=rfl
theorem NR(R){i}(h:i<3):(qs R)[i]'h=(R i).p:=by
 have:i=0∨i=1∨i=2:=by omega
 rcases this with rfl|rfl|rfl<;>rfl
theorem acD{t:Type}[DecidableEq t]{k k':t}(v:ay)(h:k≠k'):∀(l:List (t×ay)),look (put l k v) k'=look l k'
 | []=>by grind[put,look]
 |(a,u)::l=>by
  unfold put;by_cases e:a=k
  ·rw[dn e];subst e;show(if a=k' then _ else look l k')=(if a=k' then _ else look l k')
   grind
  ·rw[if_neg e];show(if a=k' then U u else look (put l k v) k')=(if a=k' then U u else look l k')
   rw[acD v h l]
theorem ahB{A B X}(d:p X)(h:wQ A B X){x}(c:x∈X):x∈A∨x∈B:=by
 have f:=QJ d c;have g:∀{a b:Option s} {y:s},gT a b=y->a=y∨b=y:=λ{a b y} h=>by
  cases a with
  |none=>exact aA h
  |some a=>
   cases b with
   |none=>exact ax h
   |some b=>
    simp only[gT,ec,Ec] at h
    grind
 rcases h x.name x.field with e|e
 all_goals grind[wL]
section
variable {N K S K' S':Nat} {ks ks':Keys} {w w':av} {pw:Nat} {pv:ay} {R:Nat->Rk} {o:Rk}
theorem uo.blocks(h:uo N K S ks w o)(c:w'.heap[o.p]? =w.heap[o.p]?)(b:w'.heap[o.m]? =w.heap[o.m]?)(a:w'.heap[o.g]? =w.heap[o.g]?):uo N K S ks w' o:=
 ⟨c.trans h.rep,h.book.of_block b,h.bk,h.map.of_block a,h.cnt,h.ks,h.DK,h.pN,h.mN,h.gN,h.GU⟩
theorem uo.more(h:uo N K S ks w o)(f:K<=K')(g:S<=S')(e:∀x∈ks,x∈ks'):uo N K' S' ks' w o:=
 ⟨h.rep,h.book,h.bk,h.map,λy d=>⟨(h.cnt y d).1,by have:=(h.cnt y d).2.1;omega,(h.cnt y d).2.2⟩,λy d=>e _ (h.ks y d),λk=>by obtain⟨n,a,b⟩:=h.DK k;grind,h.pN,h.mN,h.gN,h.GU⟩
theorem uo.fits(h:uo N K S ks w o)(c:K<=1000000):∀x∈o.l,Fits x:=λx a=>by obtain⟨e,d,b⟩:=h.cnt x a;exact⟨Ds ⟨by omega,by omega⟩,Ds b⟩
theorem uo.len(h:uo N K S ks w o):o.l.length<=ks.length:=by
 have g:(o.l.map λx=>(x.name,x.field)).Nodup:=Ke.2 (h.bk.sorted.imp λ{a b} i e=>by
  grind[Ba])
 have:=abX g (b:=ks) λx f=>by obtain⟨y,d,rfl⟩:=lR.1 f;exact h.ks y d
 grind
theorem kH.below(h:kH N K S ks w pw pv R)(a:bC w w w'):kH N K S ks w' pw pv R:=
 ⟨⟨(a.block _ (dc.1 h.rF.box).1).trans h.rF.box,dI h.rF.row λb d=>a.block b (h.rF.row.lt b d).2⟩,
  λi c=>(h.iy i c).blocks (a.block _ (h.iy i c).rep.lt) (a.block _ (h.iy i c).book.lt) (a.block _ (h.iy i c).map.lt),h.ms,h.gm,h.gs,h.kl,h.NQ,h.NP⟩
theorem kH.more(h:kH N K S ks w pw pv R)(a:K<=K')(e:S<=S')(c:∀x∈ks,x∈ks')(d:ks'.length<=K'):kH N K' S' ks' w pw pv R:=
 ⟨h.rF,λi b=>(h.iy i b).more a e c,h.ms,h.gm,h.gs,d,h.NQ,h.NP⟩
def oR(R:Nat->Rk)(i:Nat)(o:Rk):Nat->Rk:=λk=>if k=i then o else R k
theorem MT(R)(i)(o):oR R i o i=o:=dn rfl
theorem MU(R){i k}(o)(h:k≠i):oR R i o k=R k:=if_neg h
theorem tq{t:Type}(f:Rk->t)(R){i}{o}(h:f o=f (R i))(k):f (oR R i o k)=f (R k):=by
 grind[oR]
theorem aqc(R){i}{o}(h:o.p=(R i).p):qs (oR R i o)=qs R:=by unfold qs;rw[tq Rk.p R h,tq Rk.p R h,tq Rk.p R h]
theorem kH.touch(h:kH N K S ks w pw pv R){F}(k:O F w w')(n:∀b,F b->(∃l j,w.heap[b]? =U (iP l j))):
  ry w' pw pv (qs R)∧∀i,i<3->fD w' (R i).p (R i).id (R i).m (R i).g:=by
 have g:∀(b:Nat) (c:Array ay) (t:Nat),w.heap[b]? =(aF c t (0,0))->w'.heap[b]? =w.heap[b]? :=λb c t a=>k.block b (dc.1 a).1 λe=>by
  grind
 refine⟨⟨(g _ _ _ h.rF.box).trans h.rF.box,dI h.rF.row λb a=>?_⟩,λi d=>(g _ _ _ (h.iy i d).rep).trans (h.iy i d).rep⟩;obtain⟨m,f⟩:=Tj h.rF.row a
 grind
theorem kH.edit(h:kH N K S ks w pw pv R){i}(q:i<3){L' l'}(p:O (λb=>b=(R i).m) w w')(x:cJ w' (R i).m L')(t:Bk L' l')(z:∀y∈l',0<=y.c∧y.c<=K∧ic y.r)(s:∀y∈l',(y.name,y.field)∈ks):
  kH N K S ks w' pw pv (oR R i ((R i).tD L' l')):=by
 obtain⟨v,u⟩:=h.touch p λb e=>by
  subst e;obtain⟨B,A,f,_⟩:=(h.iy i q).book
  grind
 refine⟨by rw[aqc R (o:=(R i).tD L' l') rfl];exact v,λk d=>?_,λa b l n j=>?_,λa b l n=>?_,λa b l n j=>?_,h.kl,h.NQ,h.NP⟩
 ·have f:=h.iy k d;by_cases e:k=i
  ·subst e;rw[MT];exact⟨u k d,x,t,f.map.of_block (p.block _ f.map.lt (h.gm k k d d)),z,s,f.DK,f.pN,f.mN,f.gN,f.GU⟩
  ·rw[MU R _ e];refine f.blocks ((u k d).trans f.rep.symm) (p.block _ f.book.lt (h.ms k i d q e)) (p.block _ f.map.lt (h.gm k i d q))
 ·rw[tq Rk.m R (o:=(R i).tD L' l') rfl,tq Rk.m R (o:=(R i).tD L' l') rfl];exact h.ms a b l n j
 ·rw[tq Rk.g R (o:=(R i).tD L' l') rfl,tq Rk.m R (o:=(R i).tD L' l') rfl];exact h.gm a b l n
 ·rw[tq Rk.g R (o:=(R i).tD L' l') rfl,tq Rk.g R (o:=(R i).tD L' l') rfl];exact h.gs a b l n j
theorem kH.sync(h:kH N K S ks w pw pv R){i j}(z:i<3)(m:j<3)(Aw:i≠j){n:Nat}{c}{e}(hn:(look (R i).bs (R j).id).getD (Y aH 0)=(n))
  (H:II (R i).r4 (R j).r4 (n) (R i).l (R j).l (R i).bs c w e w'):
  ∃(W X:Nat) (B E:List s) (M:Nat->Rk),e=bj (bO #[W,X])∧QV (((n)+1:Int) % 8=0∨Clear y (R i).l (R j).l) (R i).l (R j).l (vf (R i).l (R j).l ((n)+1)) c B E W X∧kH N K (S+1) ks w' pw pv M∧
   (M i).l=B∧(M j).l=E∧(∀k,k≠i->k≠j->(M k).l=(R k).l)∧sS R M∧(look (M i).bs (R j).id).getD (Y aH 0)=((n+1:Nat))∧O (yn R) w w':=by
 obtain⟨W,X,L0,L1,B,E,h1,h2,h3,h4,h5,Q0,h7,L⟩:=H;have r:=h.iy i z;have l:=h.iy j m;simp only[Rk.r4] at h2 h4 h7 L;obtain⟨hW,p⟩:=h.touch L λb e=>by
  rcases e with e|e|e<;>subst e
  ·obtain⟨en,ck,q,_⟩:=r.book;grind
  ·obtain⟨en,ck,q,_⟩:=l.book;grind
  ·obtain⟨en,ck,q,_⟩:=r.map;grind
 have F:∀x,(x∈B∨x∈E)->x∈(R i).l∨x∈(R j).l:=λx v=>by
  rcases v with v|v
  ·exact ahB Q0.bk.sX Q0.bk.bX v
  ·exact(ahB Q0.bk.sY Q0.bk.bY v).symm
 have G:∀x,(x∈B∨x∈E)->0<=x.c∧x.c<=K∧ic x.r:=λx v=>by
  rcases F x v with q|q
  ·exact r.cnt x q
  ·exact l.cnt x q
 have P:∀x,(x∈B∨x∈E)->(x.name,x.field)∈ks:=λx v=>by
  rcases F x v with q|q
  ·exact r.ks x q
  ·exact l.ks x q
 let D:=(R i).aoE L0 B (put (R i).bs (R j).id (Y aH ((n:Nat)+1)))
 let C:=(R j).tD L1 E
 have g:oR (oR R i D) j C i=D:=by grind[MU,MT]
 have ej:oR (oR R i D) j C j=C:=MT _ _ _;have ek:∀k,k≠i->k≠j->oR (oR R i D) j C k=R k:=λk h1 h2=>by grind[MU]
 have u:∀{α:Type} (f:Rk->α),f D=f (R i)->f C=f (R j)->∀k,f (oR (oR R i D) j C k)=f (R k):=λf a b k=>by
  grind
 refine⟨W,X,B,E,oR (oR R i D) j C,h1,Q0,⟨?_,λk t=>?_,λa b Q T J=>?_,λa b Q T=>?_,λa b Q T J=>?_,h.kl,h.NQ,h.NP⟩,by rw[g];rfl,by rw[ej];rfl,λk a b=>by grind,⟨λk=>u Rk.p rfl rfl k,λk=>u Rk.id rfl rfl k,λk=>u Rk.m rfl rfl k,λk=>u Rk.g rfl rfl k⟩,?_,L.mono λb _ e=>?_⟩
 ·have:qs (oR (oR R i D) j C)=qs R:=by unfold qs;rw[u Rk.p rfl rfl,u Rk.p rfl rfl,u Rk.p rfl rfl]
  grind
 ·by_cases e1:k=j
  ·subst e1;rw[ej];exact⟨p k t,h4,h5,l.map.of_block (L.block _ l.map.lt (by rintro(q|q|q);exact h.gm k i t z q;exact h.gm k k t t q;exact h.gs k i t z (by grind) q)),λQ1 I=>G Q1 (aA I),λQ1 I=>P Q1 (aA I),λd=>by obtain⟨n,a,b⟩:=l.DK d;exact⟨n,a,by omega⟩,l.pN,l.mN,l.gN,l.GU⟩
  ·by_cases e2:k=i
   ·subst e2;rw[g];refine⟨p k t,h2,h3,h7,λQ1 I=>G Q1 (ax I),λQ1 I=>P Q1 (ax I),λd=>?_,r.pN,r.mN,r.gN,r.GU⟩;by_cases e:(R j).id=d
    ·subst e;obtain⟨n,a,b⟩:=r.DK (R j).id;rw[hn] at a;injection a with _ a;exact⟨n+1,by show(look (put (R k).bs (R j).id _) (R j).id).getD _=_;grind[JM],by omega⟩
    ·obtain⟨n,a,b⟩:=r.DK d;exact⟨n,by show(look (put (R k).bs (R j).id _) d).getD _=_;grind[acD],by omega⟩
   ·rw[ek k e2 e1];have A:=h.iy k t;exact(A.more (aW _) (GH _) λ_ q=>q).blocks ((p k t).trans A.rep.symm) (L.block _ A.book.lt (by rintro(q|q|q);exact h.ms k i t z e2 q;exact h.ms k j t m e1 q;exact h.gm i k z t q.symm)) (L.block _ A.map.lt (by rintro(q|q|q);exact h.gm k i t z q;exact h.gm k j t m q;exact h.gs k i t z e2 q))
 ·rw[u Rk.m rfl rfl,u Rk.m rfl rfl];exact h.ms a b Q T J
 ·rw[u Rk.g rfl rfl,u Rk.m rfl rfl];exact h.gm a b Q T
 ·rw[u Rk.g rfl rfl,u Rk.g rfl rfl];exact h.gs a b Q T J
 ·rw[g];show(look (put (R i).bs (R j).id _) (R j).id).getD _=_
  grind[JM]
 ·rcases e with e|e|e
  ·exact⟨i,z,ax e⟩
  ·exact⟨j,m,ax e⟩
  ·exact⟨i,z,aA e⟩
end
theorem abo(c)(n:Nat)(w)(m:0<n)(k:n<=1000000)(j:ic c):
  bE Q 18 #[c,n] w λe g=>e=bj ((xg c n))∧g=w:=by
 have a:((xg c n:Nat):Int)=(if c<0 then-(c+1) else c) % n:=by
  grind[xg,Int.toNat_of_nonneg,Int.emod_nonneg]
 have i:¬(n:Int)=0:=by omega
 have h:¬n=0:=by omega
 obtain⟨o,q⟩:=j;by_cases h0:c<0
 ·have r:aH.wrap (c+1)=c+1:=by grind[IntKind.wrap_i64]
  have p:aH.wrap (-(c+1))= -(c+1):=by grind[IntKind.wrap_i64]
  have l:(-(c+1)).tmod (n:Int)=(-(c+1)) % n:=by grind
  rw[dn h0] at a;have d:=X (bP a (bP (UP (-(c+1)) (show(0:Int)<n by omega)) (ac5 (-(c+1)) (show(n:Int)≠0 by omega))))
  go_enter YP,ntmps18;go_wp2;go_ret;obtain⟨a,_,_⟩:=d.out;exact⟨congrArg (λz=>bj (Y aH z)) a.symm,rfl⟩
 ·have l:c.tmod (n:Int)=c % n:=by grind
  have f:=UP c (show(0:Int)<n by omega)
  have b:=ac5 c (show(n:Int)≠0 by omega)
  rw[if_neg h0] at a;have d:=X (bP a (bP f b));clear a f b;go_enter YP,ntmps18;go_wp2;go_ret;obtain⟨a,_,_⟩:=d.out;exact⟨congrArg (λz=>bj (Y aH z)) a.symm,rfl⟩
theorem TQ(pw)(v)(q)(id)(w)(E:ry w pw v q)(EA:q.length<=1000000):
  bE Q 37 #[aE (pw),Y aH id] w λe B=>e=bj (Z)∧∃A p m g,ry B pw A (q++[p])∧fD B p id m g∧cJ B m []∧di (pV aH) B g []∧w<=p∧w<=m∧w<=g∧m≠g∧(∀b,A.ownBlock=U b->v.ownBlock=b∨w<=b)∧O (λb=>b=pw∨v.ownBlock=b) w B:=by
 obtain⟨Q0,i,J,QX,I⟩:=yJ atX;have d:=(dc.1 E.box).1;have Q2:=X (arE id w);have x:=X E;go_enter akm,ntmps37;go_wp2_with (first
  |(go_at_call 50;refine Q2.out.mono ?_;rintro e C ⟨rfl,G,F,H,f⟩;refine Halt.of ?_))
 have a:=X (bP G (bP F (bP H f)));have R:=(f.cell (p:=pw) d).trans (K E.box 0);have Hj:=(f.frozen (p:=pw) d).trans (tL E.box 0);have D:=cF d f.size;have z:=dI x.out.row λg N=>f.block g (x.out.row.lt g N).2;have r:=X z;unfold Halt;go_wp2_with (at_builtin;go_must (refine UK _ rfl _ _ 72 rfl 0 77 Q0 (aE V) 1 8 ajC i J QX I rfl (by decide) v q.length _ rfl (dI r.out (λg N=>dr _ _ _ (r.out.lt g N).2)) C.heap.size 1 1 [aE (U ⟨w.heap.size+2,0,V⟩)] rfl rfl (zY (by grind) _ _ rfl) (by simp[za]) (by unfold uZ;omega) (by omega) (by simp) ?_);intro v5 t l c _ n;refine Halt.of ?_)
 have y:pw≠v.ownBlock:=λe=>x.out.ne e.symm;have L:=(c.block _ (by simp;omega) y).trans (dr _ _ _ D)
 have S:t.cell? pw=v:=by grind[World.cell?_of_block]
 have hf5:t.frozen? pw=ai:=by grind[World.frozen?_of_block]
 obtain⟨Q3,o,M⟩:=J1 l;subst M;unfold Halt;go_wp2;go_ret;obtain⟨l,c,n,L⟩:=(X (bP l (bP c (bP n L)))).out;obtain⟨G,F,H,f⟩:=a.out;have W:=f.size;have s:∀k,k<C.heap.size->k≠pw->k≠v.ownBlock->(t.setCell pw (aD (Q3) (q.length+1) o)).heap[k]? =C.heap[k]? :=λk j Q1 h2=>
  (gy _ _ _ _ Q1).trans ((c.block k (by simp;omega) h2).trans (dr _ _ _ j))
 have T:=λk j=>(x.out.row.lt k j).2;have u:∀k,w.heap.size<=k->k<C->(t.setCell pw (aD (Q3) (q.length+1) o)).heap[k]? =C.heap[k]? :=λk h0 j=>s k j (by omega) (λe=>by grind)
 refine⟨rfl,_,w+2,w,w+1,⟨yA (L.trans ((f.block pw d).trans x.out.box)),?_⟩,(u _ (by omega) G.lt).trans G,F.of_block (u _ (by omega) F.lt),H.of_block (u _ (by omega) H.lt),by omega,by omega,by omega,by omega,?_,?_⟩
 ·have e:(q++[w.heap.size+2]).map (λp=>aE (U ⟨p,0,V⟩))=q.map (λp=>aE (U ⟨p,0,V⟩))++[aE (U ⟨w+2,0,V⟩)]:=by simp
  rw[e,jV];refine dI l λk j=>gy _ _ _ _ λQW=>?_;simp only[Mb,ec] at j n;simp only at QW;rcases n with h|h
  ·rw[j,QW] at h;exact y h
  grind[World.size_alloc]
 ·grind[World.size_alloc,Option.some.injEq]
 ·refine⟨?_,?_,?_,?_,λk j P=>?_⟩
  ·show t.os=_;rw[c.os];exact f.os
  ·show t.tape=_;rw[c.tape];exact f.tape
  ·show t.output=_;rw[c.output];exact f.output
  ·have:=c.size;simp[jE] at this⊢;omega
  ·exact(s k (by omega) (λe=>P (ax e)) (λe=>P (aA e.symm))).trans (f.block k j)
theorem Ym{w w'}{o}{s}{u}(h:ry w o s u)(r:O (λb=>b=o∨s.ownBlock=b) w w'):
  (∀p id m g,fD w p id m g->fD w' p id m g)∧(∀m L,cJ w m L->cJ w' m L)∧∀g i,di (pV aH) w g i->di (pV aH) w' g i:=by
 have t:∀(b:Nat) (d:_) (c:_),w.heap[b]? =U (iP d c)->w'.heap[b]? =w.heap[b]? :=λb d c j=>r.block b (dc.1 j).1 λe=>by
  rcases e with e|e
  ·rw[e,h.box] at j;cases j
  ·obtain⟨k,a⟩:=Tj h.row e
   grind
 refine⟨λp id m g f=>(r.block p f.lt λe=>?_).trans f,λm L l=>?_,λg i n=>?_⟩
 ·rcases e with e|e
  ·exact ahl f h.box (by decide) e
  ·obtain⟨k,a⟩:=Tj h.row e;exact ahl f a (by decide) rfl
 ·obtain⟨d,c,q,_⟩:=id l;exact l.of_block (t _ _ _ q)
 ·obtain⟨d,c,q,_⟩:=id n;exact n.of_block (t _ _ _ q)
def R3(a b c:Rk):Nat->Rk:=λk=>if k=0 then a else if k=1 then b else c
theorem XV(a b c):R3 a b c 0=a:=rfl
theorem XU(a b c):R3 a b c 1=b:=rfl
theorem XT(a b c):R3 a b c 2=c:=rfl
theorem aqb{w:av}:ry (w.alloc (aF #[aD V 0 0] 74)) w (aD V 0 0) []:=⟨iN _ _,sd _ _ _ _⟩
theorem Y5(w):bE Q 16 #[] w λe w'=>∃(Q2:Nat) (pv:ay) (R:Nat->Rk),e=bj (bO #[aE (Q2),Z])∧kH w 0 0 [] w' Q2 pv R∧(∀k,k<3->(R k).id=k+1∧(R k).l=[]∧(R k).bs=[])∧bC w w w':=by
 obtain⟨o,f⟩:∃o,o=w.alloc (aF #[aD V 0 0] 74):=⟨_,rfl⟩;have q:ry o w (aD V 0 0) []:=by grind[aqb]
 have n:bC w w o:=by rw[f];exact(ei _ _).alloc (aW _) _
 have s:o.heap.size=w+1:=by rw[f];simp
 have HW:=X (bP f (bP q (bP n s)));go_enter akT,ntmps16;go_wp2_with (go_at_call 37;rw[<-HW.out.1];go_must (refine(X (TQ w _ [] 1 o q (by simp))).out.mono ?_);rintro e O ⟨rfl,l⟩;have H2:=X l;refine Halt.of ?_)
 unfold Halt;obtain⟨K,Q3,m0,P,A,C,D,E,a5,T,a,a8,H,c⟩:=H2.out;go_wp2_with (go_at_call 37;go_must (refine(X (TQ w _ _ 2 O A (by simp))).out.mono ?_);rintro e M ⟨rfl,l⟩;have H3:=X l;refine Halt.of ?_)
 unfold Halt;obtain⟨lv3,W,Q1,g1,B,F,z,G,b5,b6,b7,b8,b9,d⟩:=H3.out;have HB:=X (bP B (bP F (bP z (bP G (bP b5 (bP b6 (bP b7 (bP b8 (bP b9 d)))))))));go_wp2_with (go_at_call 37;go_must (refine(X (TQ w _ _ 3 M B (by simp))).out.mono ?_);rintro e r ⟨rfl,l⟩;have H4:=X l;refine Halt.of ?_)
 unfold Halt;go_wp2
 go_ret2
 obtain⟨A,C,D,E,a5,T,a,a8,H,c⟩:=(X (bP A (bP C (bP D (bP E (bP a5 (bP T (bP a (bP a8 (bP H c)))))))))).out;obtain⟨B,F,z,G,b5,b6,b7,b8,b9,d⟩:=HB.out;obtain⟨t,S,m2,Q0,c1,c2,c3,c4,c5,c6,c7,c8,c9,v⟩:=H4.out;obtain⟨-,q,n,s⟩:=HW.out;obtain⟨r1,r2,r3⟩:=Ym A d;obtain⟨QW,s2,s3⟩:=Ym B v;have l0:=C.lt;have l1:=D.lt;have l2:=E.lt;have l3:=F.lt;have l4:=z.lt;have l5:=G.lt;have z0:=c.size;have v1:∀b,K.ownBlock=U b->w<=b:=λb u=>by
  rcases H b u with h|h
  ·cases h
  ·omega
 have v3:∀b,t.ownBlock=U b->w<=b:=λb u=>by
  grind
 have J:∀(p:Nat) (id:Int) (m g:Nat),fD r p id m g->cJ r m []->di (pV aH) r g []->w<=p->w<=m->w<=g->ic id->uo w 0 0 [] r ⟨p,id,m,g,[],[],[]⟩:=λp id m g q1 q2 q3 q4 q5 q6 q7=>⟨q1,q2,(⟨List.Perm.refl _,List.Pairwise.nil,λx l=>by cases l⟩),q3,λy I=>(by cases I),λy I=>(by cases I),λk=>⟨0,rfl,aW _⟩,q4,q5,q6,q7⟩
 refine⟨w,t,R3 ⟨Q3,1,m0,P,[],[],[]⟩ ⟨W,2,Q1,g1,[],[],[]⟩ ⟨S,3,m2,Q0,[],[],[]⟩,rfl,⟨c1,λi N=>?_,λi j N hj L=>?_,λi j N hj=>?_,λi j N hj L=>?_,aW _,v3,aW _⟩,λk hk=>?_,?_⟩
 ·have:i=0∨i=1∨i=2:=by omega
  rcases this with rfl|rfl|rfl
  ·exact J Q3 1 m0 P (QW _ _ _ _ (r1 _ _ _ _ C)) (s2 _ _ (r2 _ _ D)) (s3 _ _ (r3 _ _ E)) (by omega) (by omega) (by omega) (by grind[ic])
  ·exact J W 2 Q1 g1 (QW _ _ _ _ F) (s2 _ _ z) (s3 _ _ G) (by omega) (by omega) (by omega) (by grind[ic])
  ·exact J S 3 m2 Q0 c2 c3 c4 (by omega) (by omega) (by omega) (by grind[ic])
 ·have h1:i=0∨i=1∨i=2:=by omega
  have h2:j=0∨j=1∨j=2:=by omega
  grind[XV,XU,XT]
 ·have h1:i=0∨i=1∨i=2:=by omega
  have h2:j=0∨j=1∨j=2:=by omega
  grind[XV,XU,XT]
 ·have h1:i=0∨i=1∨i=2:=by omega
  have h2:j=0∨j=1∨j=2:=by omega
  grind[XV,XU,XT]
 ·have:k=0∨k=1∨k=2:=by omega
  rcases this with rfl|rfl|rfl<;>exact⟨rfl,rfl,rfl⟩
 ·have k1:bC w o O:=c.below (by omega) λb u h=>by
   rcases h with h|h
   ·omega
   ·cases h
  have k2:bC w O M:=d.below (by omega) λb u h=>by
   grind
  have k3:bC w M r:=v.below (by omega) λb u h=>by
   grind
  exact((n.trans k1).trans k2).trans k3
section
variable {A B X G X' Y':List s}
theorem ahC(d:wQ A B X)(c:wQ B A G)(n f):gT (C X n f) (C G n f)=gT (C A n f) (C B n f):=by
 have g:=sM A n f;have e:=sM B n f;have h:=asc g e;rcases d n f with b|b<;>rcases c n f with a|a<;>rw[b,a]
 all_goals grind[Om,Uj,Ed]
theorem ahz(b:wQ A B X)(c:wQ B A G)(a:wQ X G X'):wQ A B X':=λn f=>by
 rcases a n f with e|e
 ·rw[e];exact b n f
 grind[ahC]
theorem aAe(a:p X)(c:p G)(b:p A)(d:p B)(g:wQ A B X)(e:wQ B A G):kP X G=kP A B:=Fp (Ca a G) (Ca b B) λn f=>by
 grind[Km,ahC]
theorem ahA(a:p X)(b:p A)(h:wQ A A X):X=A:=Fp a b λn f=>by
 rcases h n f with e|e
 all_goals grind[Ed]
structure Wd(A B:List s)(n t:Nat)(X G:List s):Prop where
 bk:rE A B X G
 all:(∃u,1<=u∧u<=t∧(n+u) % 8=0)->X=kP A B∧G=kP A B
theorem Wd.start(d:p A)(a:p B)(b:∀x∈A,Good x)(c:∀x∈B,Good x)(n):Wd A B n 0 A B:=⟨.start d a b c,λ⟨u,f,e,_⟩=>by omega⟩
theorem Wd.next{n t}{l}{o fr sz}(h:Wd A B n t X G)(H:QV l X G o V X' Y' fr sz)(c:(n+(t+1)) % 8=0->l):Wd A B n (t+1) X' Y':=by
 have a:=h.bk;have k:=H.bk;refine⟨⟨a.sA,a.sB,k.sX,k.sY,k.gX,k.gY,(ahz a.bX a.bY k.bX),(ahz a.bY a.bX k.bY)⟩,λ⟨u,m,p,j⟩=>?_⟩;by_cases e:u=t+1
 ·subst e;obtain⟨b,d⟩:=H.whole (ax rfl) (c j);rw[b,d,aAe a.sX a.sY a.sA a.sB a.bX a.bY]
  grind
 ·obtain⟨b,d⟩:=h.all ⟨u,m,by omega,j⟩
  have g:=k.bX;have f:=k.bY;have i:=Ca a.sA B;rw[b,d] at g f;exact⟨ahA k.sX i g,ahA k.sY i f⟩
theorem Wd.eight{n}(h:Wd A B n 8 X G):X=kP A B∧G=kP A B:=h.all ⟨8-n % 8,by omega,by omega,by omega⟩
end
structure aBc(N K S:Nat)(ks:Keys)(w w':av)(pw:Nat)(pv:ay)(R R':Nat->Rk)(i j:Nat):Prop where
 tA:kH N K S ks w' pw pv R'
 li:(R' i).l=kP (R i).l (R j).l
 lj:(R' j).l=kP (R i).l (R j).l
 lk:∀k,k≠i->k≠j->(R' k).l=(R k).l
 same:sS R R'
 keep:O (yn R) w w'
 cnt:∀n:Nat,(look (R i).bs (R j).id).getD (Y aH 0)=Y aH n->(look (R' i).bs (R j).id).getD (Y aH 0)=Y aH ((n+8:Nat):Int)
theorem Yp(N K S)(G)(w)(E)(pv)(R)(i j:Nat)(p:i<3)(x:j<3)(A:i≠j)(h:kH N K S G w E pv R)(hN:5<=N)(hK:K<=4096)(hS:S<=1000000)(ht:ga w)(hf:wO w):
  bE Q 19 #[aE (E),i,j] w λe T=>e=bj (bO #[])∧∃d,aBc N K (S+8) G w T E pv R d i j:=by
 obtain⟨n,hn,J⟩:=(h.iy i p).DK (R j).id;have F:Wd (R i).l (R j).l n 0 (R i).l (R j).l:=.start (h.iy i p).bk.sorted (h.iy j x).bk.sorted (h.iy i p).bk.lT (h.iy j x).bk.lT n;have v:=zw.mk h ht hf hn J F;go_enter akD,ntmps19;go_wp2;go_loopg [6] 8 (λk Q2 wr=>∃(t:Nat) (d:Nat->Rk),Q2=t∧k+t=8∧kH N K (S+t) G wr E pv d∧Wd (R i).l (R j).l n t (d i).l (d j).l∧(∀k,k≠i->k≠j->(d k).l=(R k).l)∧sS R d∧(look (d i).bs (R j).id).getD (Y aH 0)=((n+t:Nat):Int)∧O (yn R) w wr)
 case atStart=>exact⟨0,R,rfl,rfl,v.a,v.f,λ_ _ _=>rfl,sS.refl R,v.d,O.refl _ _⟩
 case round=>
  obtain⟨t,d,rfl,W,l,g,B,hid,z,f⟩:=hrel;by_cases ht8:t<8
  ·have L:(t:Int)<8:=by omega
   have o:=l.iy i p;have u:=l.iy j x;have y:∀k,k<3->(d k).l.length<=4096:=λk hk=>by have:=(l.iy k hk).len;have:=l.kl;omega
   have s:(look (d i).bs (d j).id).getD (Y aH 0)=((n+t:Nat):Int):=by rw[hid.id j];exact z
   have C:=X (amk E pv (qs d) i j p x (d i).r4 (d j).r4 ((n+t:Nat):Int) (d i).L (d j).L (d i).l (d j).l (d i).bs (aD V 0 0) V wr l.rF (by grind[BJ]) (NR d p) (NR d x) o.rep u.rep
    (λe=>by have r:=o.rep;have D:=u.rep;unfold fD at r D;have e':(d i).p=(d j).p:=e;rw[e',D] at r;injection r with r;injection r with r;simp at r;exact l.ms i j p x A r.2.1.symm)
    (l.ms i j p x A) (l.gm i i p p) (l.gm i j p x) o.book u.book o.bk u.bk (o.fits (by omega)) (u.fits (by omega)) (y i p) (y j x) (v.b.keep f (λq=>by have:=v.a.lo q;omega)) ((f.block 4 (dc.1 v.c).1 (λq=>by have:=v.a.lo q;omega)).trans v.c) o.map s (by omega) (by have:=v.e;omega) rfl)
   have I:=zw.mk l g B hid s f;have H:aH.wrap ((t:Int)+1)=(t:Int)+1:=by grind[IntKind.wrap_i64]
   have c:om ((t:Int)+1)=(t:Int)+1:=by unfold om;omega
   go_wp2_with (go_at_call 23;go_must (refine C.out.mono ?_);rintro e w7 P;obtain⟨fr,sz,A',B',M,rfl,r,D⟩:=I.a.sync p x A I.e P;have Q0:=X (bP r D);refine Halt.of ?_)
   unfold Halt;go_wp2;go_roundg (gk-1)
   case rel=>
    obtain⟨l,g,B,hid,s,f⟩:=I;obtain⟨r,D,U,Q1,h5,Z,h7,h8⟩:=Q0.out;refine⟨t+1,M,congrArg (Y aH) (by omega),by omega,D,?_,λk a b=>(h5 k a b).trans (B k a b),hid.trans Z,by rw[<-hid.id j];exact h7,f.trans (by rw[<-hid.maps];exact h8)⟩
    rw[U,Q1];exact g.next r λe=>ax (by omega)
   grind
  ·have:t=8:=by omega
   subst this;go_wp2
   go_end0
   obtain⟨l,g,B,hid,f,z⟩:=(X (bP l (bP g (bP B (bP hid (bP f z)))))).out;exact⟨rfl,d,l,g.eight.1,g.eight.2,B,hid,f,λm hm=>by
    have h:=v.d.symm.trans hm
    grind⟩
structure j5 where
 who:Int
 n:ByteArray
 f:ByteArray
 v:ByteArray
def j5.cells(x:j5):List ay:=[Y aH x.who,aG x.n,aG x.f,aG x.v]
def x4(l:List j5):List ay:=l.flatMap j5.cells
theorem WZ{l}{j}(a)(i)(d:i<4):(x4 l)[j*4+i]? =l[j].cells[i]? :=by
 induction l generalizing j with
 |nil=>grind
 |cons x l c=>
  show(x.cells++x4 l)[j*4+i]? =_;have b:x.cells.length=4:=rfl
  grind
def Dg(w:av)(v:ay)(l:List j5):Prop:=((∃ad cap,v=aD ad 0 cap)∧l=[])∨∃g off cap,v=aD (U ⟨g,off,V⟩) l.length cap∧g<w.heap.size∧∀i u,(x4 l)[i]? =U u->w.cell? ⟨g,off+i,V⟩=U u
def qY(x:j5):Nat:=4+x.n.size+x.f.size+x.v.size/4
def mR(l:List j5):Nat:=l.foldl (λn x=>n+qY x) 0
theorem amm(l)(x):mR (l++[x])=mR l+qY x:=by simp[mR]
theorem aml{l:List j5}{j}(a):mR (l.take (j+1))=mR (l.take j)+qY l[j]:=by
 grind[List.take_add_one,List.getElem?_eq_getElem,Option.toList_some,amm]
theorem amq(l l'):mR l<=mR (l++l'):=by
 unfold mR;rw[List.foldl_append];generalize List.foldl (λn x=>n+qY x) 0 l=k;induction l' generalizing k with
 |nil=>grind
 |cons x l' b=>grind
theorem amn(l)(j):mR (l.take j)<=mR l:=by
 grind[amq,List.take_append_drop]
def DC(l:List j5):Bool:=cq (mR l<=1200)
set_option maxHeartbeats 1000000 in
theorem amT (v) (l) (w) (h:Dg w v l) (hl:l.length<=140737488355328) (K:∀x∈l,x.n.size<=140737488355328∧x.f.size<=140737488355328∧x.v.size<=140737488355328):
  bE Q 14 #[v] w λe P=>e=bj ((DC l))∧bC w w P:=by
 rcases h with⟨⟨ad,cap,rfl⟩,rfl⟩|⟨g,a,cap,rfl,hg,hc⟩
 ·go_enter YT,ntmps14;go_wp2;go_loopg [3,4] 0 (λk m i wr=>m=Y aH 0∧i=Y aH 0∧wr=w)
  case atStart=>grind
  case round=>
   obtain⟨rfl,rfl,rfl⟩:=hrel;go_wp2;go_ret;exact⟨wX (by simp[DC,mR]),ei _ _⟩
 ·have L:=X hc;have HZ:=X K;go_enter YT,ntmps14;go_wp2;go_loopg [3,4] l.length (λk m i wr=>∃(j z:Nat),m=Y aH z∧i=Y aH j∧k+j=l.length∧z=mR (l.take j)∧z<=1200∧bC w.heap.size w wr)
  case atStart=>grind[mR,Below.refl]
  case round=>
   obtain⟨j,z,rfl,rfl,hk,J,uN,d⟩:=hrel;by_cases hj:j<l.length
   ·obtain⟨x,hx⟩:=ex (l[j]);have O0:=HZ.out l[j] (rZ hj);have D:=aml hj;have o:=amn l (j+1);rw[<-hx] at O0 D;have H:∀i,i<4->∀u,x.cells[i]? =U u->wr.cell? ⟨g,a+j*4+i,V⟩=U u:=λi O u hu=>(d.cell (p:=⟨g,a+j*4+i,V⟩) hg).trans (by rw[Nat.add_assoc];exact L.out _ _ (by rw[WZ hj i O,<-hx];exact hu))
    have I:=H 1 (by omega) _ rfl
    have y5:=H 2 (by omega) _ rfl
    have T:=H 3 (by omega) _ rfl
    have C:4+x.n.size+x.f.size+x.v.size/4=qY x:=rfl;obtain⟨N,E,hx3⟩:=O0;have uR:(j:Int)<(l.length:Int):=by omega
    obtain⟨q,A⟩:=ex (x.v.size/4);rw[<-A] at C;have M:q<=140737488355328:=by omega
    have wq:(x.v.size:Int).tdiv 4=(q:Int):=by rw[A];rfl
    have w5:aH.wrap (q:Int)=(q:Int):=by rw[qA];omega
    have w0:aH.wrap ((z:Int)+4)=z+4:=by rw[qA];omega
    have w1:aH.wrap ((z:Int)+4+x.n.size)=z+4+x.n.size:=by rw[qA];omega
    have w2:aH.wrap ((z:Int)+4+x.n.size+x.f.size)=z+4+x.n.size+x.f.size:=by rw[qA];omega
    have F:aH.wrap ((z:Int)+4+x.n.size+x.f.size+q)=z+4+x.n.size+x.f.size+q:=by rw[qA];omega
    have t:=Bi.mk D o J hx (show bC w.heap.size w wr.drew from d.drew);clear D o J hx H d A;by_cases aFC:1200<z+4+x.n.size+x.f.size+q
    ·have hbi:(1200:Int)<(z:Int)+4+x.n.size+x.f.size+q:=by omega
     go_wp2
     go_region_held3 (λW=>W.cell? ⟨g,a+j*4+1,V⟩=U (aG x.n)∧W.cell? ⟨g,a+j*4+2,V⟩=U (aG x.f)∧W.cell? ⟨g,a+j*4+3,V⟩=U (aG x.v)) (go_keep) (fail)
     go_wp2;go_ret;obtain⟨D,o,J,hx,d⟩:=id t;exact⟨wX (by simp[DC];omega),d⟩
    ·go_wp2
     go_region_held3 (λW=>W.cell? ⟨g,a+j*4+1,V⟩=U (aG x.n)∧W.cell? ⟨g,a+j*4+2,V⟩=U (aG x.f)∧W.cell? ⟨g,a+j*4+3,V⟩=U (aG x.v)) (go_keep) (fail)
     go_wp2;go_roundg (gk-1)
     case rel=>
      obtain⟨D,o,J,hx,d⟩:=t;exact⟨j+1,z+4+x.n.size+x.f.size+q,by simp,by go_simp,by omega,by omega,by omega,d⟩
     case measure=>omega
   ·have B:j=l.length:=by omega
    subst B;rw[vJ] at J;have t:=cI.mk J d;go_wp2;go_ret;obtain⟨J,d⟩:=t;exact⟨wX (by simp[DC];omega),d⟩
end
section
open Go.ChangeShapes Go.WideShapes Go.RowKit Go.Conc
section
variable {H:Type} {enc:dZ×ay->H}
theorem apx{a}{C}{os}{f}{fn}{s:OpenSpec}{F}{l}{c p g n}{q}
  (K:ownKnob C.prog.godebug=V) (m:os.Started) (P:C.prog.funcs[f]? =U fn)
  (r:∃(w:av) (b:Tape) (i:Input),w.os=os∧(w.forCall b i).Shaped C.prog∧i.vars=[]∧Input.okWide C.prog (w.forCall b i) .any w f i∧
   s.preRow enc C.prog fn l c q (w.forCall b i).memory i.args∧a.holds C.prog (iH (eO C.prog f i.args er) [] (w.forCall b i)))
  (A:∀(W) (base) (h) (y B) (d),
   (∀(j:Nat) t v,fn.params[j]? =U t->h[j]? =U v->Qo C.prog W .any base t v)->
   DataW.Whole enc C.prog fn.params.toList s.vars c W h.toList y B d->
   l.all (PathCond.test C.prog ⟨fn.params.toList,y,s.bare.plain.varTypes C.prog,B⟩)=Z->
   (DataW.weightsEach C.prog (fn.params.toList++s.bare.plain.varTypes C.prog) (y++B)).all (· <=LQ)=Z->
   laidMetH C.prog q W->W.ShapedOpen C.prog->
   ∃M k o z D,gZ C.prog (M+1) (solo (G (eO C.prog f h er) []) W) #[]=(.ended o z,D)∧runN C.prog M (solo (G (eO C.prog f h er) []) W)=fQ k∧
    step C.prog k=.ended o z∧Conc.Good C.prog (λv R=>(s.at F).post enc C.prog fn c p g n W h v R) k o z D):
  ReturnsInLeavingWide a C os f .any (s.preRow enc C.prog fn l c q) ((s.at F).post enc C.prog fn c p g n):=by
 refine returnsInLeavingWide_of_good K m r ?_;intro w b i _ I _ E x _;obtain⟨_,_,_,J,O,_,_,_,_,u⟩:=E;have e:J=fn:=by grind
 subst e;obtain⟨⟨L,Q2⟩,S⟩:=x;obtain⟨y,B,d,N,Q,Q1⟩:=OpenSpec.pre_parts L;obtain⟨M,k,o,z,D,Q0,Y,X,T⟩:=A (w.forCall b i) w i.args y B d u (DataW.Whole.of_heap (w':=w.forCall b i) (by rfl) N) Q (S.weights N) (Q2.of_heap (by rfl)) I
 exact⟨M,k,o,z,D,Q0,Y,X,T.mono λv L=>ChangeSpec.post_blind L⟩
end
theorem azF{l}{p}{s}{c}{a}{b}{d}{g}
  (v:c.holds p s) (n:c.wfByText s=Z) (e:c.laidByTextAt l p a b)
  (k:c.start=.entering) (i:c.noBlocks=ai∧c.again=ai) (x:p.checked.prog.mainIs=U (d.1,d.2.toList)) (q:(!d.1&&d.2.isEmpty&& !g)=ai)
  (u:∀f m,p.checked.prog.funcNamed c.func=U f->p.checked.prog.funcs[f]? =U m->g=p.checked.prog.looks []∧∀(j:Nat) t,m.params[j]? =U t->p.checked.prog.wantsStandIn t=ai)
  (w:Z=c.goesBy p.checked.prog):
  Claim7.holds p (.plain s) {stood:={row:=c,standIns:=[],harness:=d,looks:=g},kinds:=[],alts:=[],goes:=Z,laidByText:=Z,laidKinds:=a,laidTests:=b,laidLooks:=l}:=by
 exact⟨Claim7.tied_new_at l a b (Claim7.new_of_sixth v d g k i x ((λr=>by simpa[Claim7.isSixth] using q) c) u) n,λD o=>(by cases o),e,(λh=>by cases h),w⟩
section
variable {H:Type} {enc:dZ×ay->H} {w:av} {base:Nat} {spare:Nat->Bool} {held:Bool}
open Go.Deep
def E4{H:Type}(x:j5):DataW H:=.agg [.lit (.int aH x.who),.lit (.string x.n.data.toList),.lit (.string x.f.data.toList),.lit (.string x.v.data.toList)]
theorem afP{fs}(h:aC.underlying 30=U (.struct fs)):oneCellFields aC fs=Z∧fs.toList.map (·.type)=[3,9,9,9]:=by have e:=(underlying30).symm.trans h;simp only[ec,TypeDesc.struct.injEq] at e;subst e;exact⟨by kernel_rfl,rfl⟩
theorem Yw:∃a,aC.underlying 30=U (.struct a):=⟨_,underlying30⟩
theorem QF:aC.cellsOf 30=4:=by kernel_rfl
theorem Uq{t:Type}{l:List t}(h:l.length=4):∃a b c d,l=[a,b,c,d]:=by
 rcases l with _|⟨a,l⟩
 ·simp at h
 rcases l with _|⟨b,l⟩
 ·simp at h
 rcases l with _|⟨c,l⟩
 ·simp at h
 rcases l with _|⟨d,l⟩
 ·simp at h
 rcases l with _|⟨i,l⟩
 all_goals grind
theorem aqT{d}{cs}{x}(h:DataW.trod enc aC w base spare held d 30 cs=U x):
  ∃o,cs=o.cells∧x=(E4 o,[])∧ic o.who:=by
 obtain⟨M,z⟩:=Yw;obtain⟨m,c⟩:=afP z;obtain⟨xs,n,_,D,t,hl,hf⟩:=DataW.trod_struct z h;rw[QF] at t;obtain⟨fl⟩:=M;obtain⟨u,k,y,q,rfl⟩:=Uq (l:=fl) (by have:=congrArg List.length c;grind)
 simp only[fS,sg,Eo,and_true] at c;obtain⟨L,F,E,J⟩:=c;obtain⟨O,R,V,Q,rfl⟩:=Uq t;have b:∀(j:Nat) (f:Field),(#[u,k,y,q]:Array Field)[j]? =f->DataW.trod enc aC w base spare held n f.type ((([O,R,V,Q]:List ay).drop j).take 1)=xs[j]? :=λj f hj=>by
  grind[hone_of]
 obtain⟨X,Y,W,Z,rfl⟩:=Uq (l:=xs) (by grind)
 have g:=b 0 u rfl;have A:=b 1 k rfl;have v:=b 2 y rfl;have s:=b 3 q rfl;rw[L] at g;rw[F] at A;rw[E] at v;rw[J] at s;obtain⟨C,l,S,e⟩:=DataW.trod_int underlying3 g;obtain⟨B,i,T,_⟩:=UE underlying9 A;obtain⟨P,p,K,_⟩:=UE underlying9 v;obtain⟨I,r,N,_⟩:=UE underlying9 s;simp only[List.drop_zero,List.drop_succ_cons,List.take_succ_cons,J5,Eo,and_true] at l i p r;subst l i p r S T K N;refine⟨⟨C,B,P,I⟩,rfl,by rw[D];rfl,?_⟩
 simpa[Lit.wf,IntKind.min,IntKind.max,IntKind.signed,IntKind.bits,ic] using e
theorem az7:aC.bytesOf 30=56:=by kernel_rfl
theorem ajb(x):(E4 (H:=H) x).weights aC 30=[x.n.size,x.f.size,x.v.size]:=by obtain⟨c,b⟩:=Yw;obtain⟨_,a⟩:=afP b;unfold E4 agP;rw[b];simp only;rw[a];simp[DataW.weightsEach,agP]
theorem ajc{P}{e}{ds:List (DataW H)}{d}(h:d∈ds){n}(a:n∈d.weights P e):n∈Xp P e ds:=by
 induction ds with
 |nil=>cases h
 |cons y ds b=>
  rw[Xp,qD]
  grind
theorem aqS{r:_root_.Go.Reach}{n:Nat}{v:ay}{d:DataW H}{p:List MemPlace}(hv:Qo aC w r n 22 v)(h:DataW.Trod enc aC w base spare held 22 v d p)
  (hz:∀n∈d.weights aC 22,n<=LQ):
  ∃l:List j5,Dg w v l∧l.length<=140737488355328∧(∀x∈l,x.n.size<=140737488355328∧x.f.size<=140737488355328∧x.v.size<=140737488355328)∧∀x∈l,ic x.who:=by
 obtain⟨Q0,W,c0,rfl⟩:=okWide_slice underlying22 hv;obtain⟨X,hf⟩:=h;rcases open_slice underlying22 hf with⟨I,A⟩|⟨a,c,M,m,n,D,Pl,I,hb,P,hm,R,A,hi⟩
 ·have e:(aD Q0 W c0:ay)=aD V 0 0:=by simpa[AV] using I
  rw[e];exact⟨[],ax ⟨⟨_,_,rfl⟩,rfl⟩,kM _,λx A=>(by cases A),λx A=>(by cases A)⟩
 ·have e:(aD Q0 W c0:ay)=aD (U a) c M:=by simpa[AV] using I
  rw[e];have hlm:c<=m:=by rw[R];split<;>omega
  have step:∀i,i<c->∃o:j5,D i=E4 o∧ic o.who∧∀j u,o.cells[j]? =U u->w.cell? ((a.add (i*4)).add j)=U u:=λi y=>by
   obtain⟨cs',Q1,ht⟩:=hi i (by omega)
   rw[QF] at Q1;obtain⟨o,ho,L,hI⟩:=aqT ht;simp only[Ak] at L;obtain⟨_,jl,T⟩:=World.cells?_some Q1;refine⟨o,L.1,hI,λj u E=>?_⟩;have hj:j<4:=(ac4.1 E).1;rw[T j hj,ho];exact E
  let f:Nat->j5:=λi=>if h:i<c then Fh (step i h) else⟨0,⟨#[]⟩,⟨#[]⟩,⟨#[]⟩⟩
  have F:∀i,i<c->D i=E4 (f i)∧ic (f i).who∧∀j u,(f i).cells[j]? =U u->w.cell? ((a.add (i*4)).add j)=U u:=λi y=>by have:=yI (step i y);have e:f i=Fh (step i y):=xA y;rw[e];exact this
  obtain⟨l,P⟩:=ex ((lW c).map f);have z:l.length=c:=by rw[P];simp
  have q:∀i (h:i<l.length),l[i]=f i:=λi h=>by subst P;simp
  simp only[Ak] at A;have b:∀k∈(c*56::((lW c).map λi=>(E4 (H:=H) (f i)).weights aC 30).flatten),k<=LQ:=λk J=>by
   have hdw:d.weights aC 22=(c+(m-c))*56::(Xp aC 30 ((lW c).map D)++Xp aC 30 ((lW (m-c)).map λj=>D (c+j))):=by rw[A.1,agP,underlying22];simp[az7]
   rcases dh.1 J with rfl|J
   ·have:=hz ((c+(m-c))*56) (by grind)
    grind
   ·obtain⟨ws,S,Po⟩:=ac3.1 J;obtain⟨i,y,rfl⟩:=lR.1 S;have aFg:=GJ.1 y;refine hz k ?_
    grind[List.mem_cons_of_mem,List.mem_append_left,ajc,List.mem_map_of_mem]
  refine⟨l,?_,?_,λx A=>?_,λx A=>?_⟩
  ·by_cases h0:c=0
   ·subst h0;exact ax ⟨⟨_,_,rfl⟩,B3 z⟩
   ·have t:=(F 0 (by omega)).2.2 0 _ rfl
    have ea:(a.add (0*4)).add 0=a:=by simp[Addr.add]
    rw[ea] at t;have N:a.spot=V:=by
     unfold og at t;split at t
     ·split at t
      ·cases t
      ·rename_i h;simpa using h
     grind
    obtain⟨g,C,sp⟩:=a;simp only at N;subst N;have O:∀i j,((⟨g,C,V⟩:eK).add (i*4)).add j=⟨g,C+(i*4+j),V⟩:=λi j=>by unfold Addr.add;split<;>split<;>simp_all<;>omega
    refine aA ⟨g,C,M,by rw[z],nU w _ t,λk u E=>?_⟩
    have J:k<4*c:=by
     have:=(ac4.1 E).1;have e:(x4 l).length=4*l.length:=by
      clear E this q z P;induction l with
      |nil=>rfl
      |cons x l ih=>grind[x4,List.length_append,j5.cells]
     grind
    have Q2:k=k/4*4+k % 4:=by omega
    have Q:k/4<l.length:=by grind
    have B:=WZ Q (k % 4) (by omega)
    rw[<-Q2] at B;rw[B,q] at E;have:=(F _ (by omega)).2.2 _ _ E
    rw[O,<-Q2] at this
    grind
  ·rw[z];have:=b (c*56) (by simp)
   unfold LQ at this;omega
  ·obtain⟨i,K,rfl⟩:=ac2 A;rw[q];have s:∀k∈(E4 (H:=H) (f i)).weights aC 30,k<=LQ:=λk J=>b k (uE _ (ac3.2 ⟨_,UR (GJ.2 (by grind)),J⟩))
   rw[ajb] at s;have k1:=s _ (uF ..);have k2:=s (f i).f.size (by simp)
   have k3:=s (f i).v.size (by simp)
   unfold LQ at k1 k2 k3;omega
  ·obtain⟨i,K,rfl⟩:=ac2 A;rw[q];exact(F i (by rw[<-z];exact K)).2.1
end
end
section
open Go.RowKit Go.Conc
def isInt:ay->Bool
 |Y _ _=>Z
 |_=>ai
theorem atP{v}(h:isInt v=Z):n v=Z:=by cases v<;>first|rfl|cases h
noncomputable def U9(t:dZ):Bool:=match aC.cellTypes aC.depth t with
 |some ts=>ts.all λu=>match aC.underlying u with|some (.int _)=>Z|_=>ai
 |none=>ai
theorem aph{w}{t}{cs}(h:Row.ok aC w .any 0 t cs)(b:U9 t=Z):∀v∈cs,isInt v=Z:=by
 obtain⟨m,f,_,k⟩:=h;unfold U9 at b;rw[f] at b;simp only[OA] at b;intro v g;obtain⟨i,j,rfl⟩:=as4.1 g;obtain⟨u,l,c⟩:=k i _ (iq j);have a:=b u (as3 l);unfold Cell.ok at c;generalize aC.underlying u=e at a c;generalize cs[i]=x at c⊢;cases e with
 |none=>cases a
 |some d=>
  cases d<;>first
   |(cases a;done)
   |(cases x<;>first|rfl|grind)
noncomputable def FF:av:=(begin aC (λ_ _=>0) default).world
noncomputable def zF(g:Nat):Option (Array ay×dZ):=(FF.heap[g]?).bind Obj.row?
theorem z0:(zF 0).map (λx=>(x.1.size,x.2))=U (1,196):=by kernel_rfl
theorem z1:(zF 1).map (λx=>(x.1.size,x.2))=U (256,327):=by kernel_rfl
theorem z2:(zF 2).map (λx=>(x.1.size,x.2))=U (32,330):=by kernel_rfl
theorem z3:(zF 3).map (λx=>(x.1.size,x.2))=U (20,340):=by kernel_rfl
theorem z4:(zF 4).map (λx=>(x.1.size,x.2))=U (1,3):=by kernel_rfl
theorem z5:(zF 5).map (λx=>(x.1.size,x.2))=U (32,347):=by kernel_rfl
theorem z6:(zF 6).map (λx=>(x.1.size,x.2))=U (64,348):=by kernel_rfl
theorem Yu:FF.heap.size=12:=by kernel_rfl
theorem ajq:(FF.heap[7]?).any (λo=>match o with|aF c _ _=>c.all isInt|_=>ai)=Z:=by kernel_rfl
theorem bt:([327,330,3,340,347,348].all λt=>aC.buildable t&&U9 t)=Z:=by kernel_rfl
structure IT(w:av):Prop where
 size:12<=w.heap.size
 g0:∃c t,w.heap[0]? =U (aF c t)∧c.size=1
 ints:∀b,b=1∨b=2∨b=3∨b=4∨b=5∨b=6->∃c t,w.heap[b]? =U (aF c t)∧∀v∈c,isInt v=Z
 types:∃c t f,w.heap[7]? =U (aF c t f)∧∀v∈c,isInt v=Z
theorem IT.of{w}(h:w.ShapedOpen aC):IT w:=by
 obtain⟨I,A⟩:=h;have j:∀{g n t:Nat},g<7->(zF g).map (λx=>(x.1.size,x.2))=(n,t)->∃d,w.heap[g]? =U (aF d t)∧d.size=n∧(aC.buildable t=Z->Row.ok aC w .any 0 t d):=λ{g n t} p m=>by
  obtain⟨⟨z,B⟩,s,f⟩:=xI.1 m;simp only[Ak] at f;obtain⟨rfl,rfl⟩:=f;obtain⟨d,r,y,i⟩:=I g z B (by rw[CE];exact p) s
  exact⟨d,r,y,i⟩
 have E:=OA.1 bt;have l:∀{g n t:Nat},g<7->(zF g).map (λx=>(x.1.size,x.2))=(n,t)->t∈[327,330,3,340,347,348]->∃c t,w.heap[g]? =U (aF c t)∧∀v∈c,isInt v=Z:=λ{g n t} p m H=>by obtain⟨d,r,y,i⟩:=j p m;have:=E t H;rw[cS] at this;exact⟨d,t,r,aph (i this.1) this.2⟩
 have q:∀k,7<=k->k<12->∃o,w.heap[k]? =U o:=λk D K=>by
  obtain⟨o,F,e,_⟩:=A k (by rw[CE];exact D) (by show k<FF;grind[Yu])
  exact⟨o,e⟩
 refine⟨?_,?_,?_,?_⟩
 ·obtain⟨o,C⟩:=q 11 (by decide) (by decide)
  exact(dc.1 C).1
 ·grind[z0]
 ·rintro b (rfl|rfl|rfl|rfl|rfl|rfl)
  ·grind[z1]
  ·grind[z2]
  ·grind[z3]
  ·grind[z4]
  ·grind[z5]
  ·exact l (by decide) z6 (by decide)
 ·obtain⟨o,F,s,f,u⟩:=A 7 (by grind[CE]) (by show 7<FF.heap.size;grind[Yu])
  have J:World.looseAt (7-aC.globals.size)=ai:=by rw[CE];rfl
  rw[J] at u;subst u;have L:FF.heap[7]? =o:=f
  grind[ajq,Array.all_eq_true_iff_forall_mem]
def rI(N:Nat)(b:Nat):Bool:=b==7||decide (N<=b)
def rJ(N:Nat)(A:Option Di)(b:Nat):Bool:=b==7||decide (N<=b)||A.any (λA=>b==A.g)
structure XQ(w w':av):Prop where
 os:w'.os=w.os
 out:w'.output=w.output
 size:w.heap.size<=w'.heap.size
 blk:∀b,b<w.heap.size->w'.heap[b]? =w.heap[b]?
def JR(l:List j5)(off:Nat):Array ay:=(List.replicate off (cz ai)++x4 l).toArray
theorem ago{l}:∀x∈x4 l,n x=Z:=by intro x b;obtain⟨y,_,a⟩:=qz.1 b;simp only[j5.cells,dh,dJ,dO] at a;rcases a with rfl|rfl|rfl|rfl<;>rfl
theorem as1{l}{b}:∀x∈JR l b,n x=Z:=by
 intro x a;simp only[JR,fJ,qD,List.mem_replicate] at a;rcases a with⟨_,rfl⟩|a
 ·rfl
 grind[ago]
theorem acS{l}{a i}(h:a<=i):(JR l a)[i]? =(x4 l)[i-a]? :=by
 grind[JR,List.getElem?_append_right]
theorem ayj{w}{v}{l}(h:Dg w v l)(q:IT w):∃(A:Option Di) (p:ay),(∀B,A=U B->7<B.g∧B.g<w∧w.heap[B.g]? =U (aF B.c' B.e' B.f')∧∀x∈B.c,n x=Z)∧
  (∀I,I.arg=A->l8 I p v)∧(p=aD V 0 0∨∃B d Q3 c,A=U B∧p=aD (U ⟨B.g,d,V⟩) Q3 c)∧(∀W,(∀B,A=U B->W.heap[B.g]? =U (aF B.c B.e B.f))->Dg W p l):=by
 by_cases hl:l=[]
 ·subst hl;obtain⟨E,j,rfl⟩:∃E j,v=aD E 0 j:=by
   rcases h with⟨h,_⟩|⟨g,d,j,h,_⟩
   all_goals grind
  exact⟨V,aD V 0 0,λB O=>(by cases O),λI F=>aA ⟨_,_,rfl,rfl⟩,ax rfl,λW _=>ax ⟨⟨_,_,rfl⟩,rfl⟩⟩
 ·obtain⟨g,d,j,rfl,Q0,r⟩:=h.resolve_left λh=>hl h.2;have M:(x4 l).length=4*l.length:=by
   clear r hl h;induction l with
   |nil=>rfl
   |cons x l a=>show(x.cells++x4 l).length=_;rw[jV,a];simp[j5.cells];omega
  have D:0<l.length:=by grind
  obtain⟨y,L,K,P⟩:∃c e f,w.heap[g]? =U (aF c e f):=by
   have:=r 0 _ (pR (by omega))
   unfold og at this
   grind
  have k:∀i u,(x4 l)[i]? =U u->y[d+i]? =U u:=λi u J=>by
   have:=r i u J;unfold og at this
   grind
  have m:∃s,y[d+1]? =U (aG s):=by
   cases l with
   |nil=>grind
   |cons x l=>exact⟨x.n,k 1 _ rfl⟩
  obtain⟨s,R⟩:=m;have X:7<g:=by
   refine Nat.lt_of_not_le λN=>?_;have H:∀{c t f},w.heap[g]? =U (aF c t f)->¬ ∀v∈c,isInt v=Z:=λ{c t f} e T=>by rw[P] at e;cases e;have:=T _ (tI R);cases this
   have Q:∀b,b=1∨b=2∨b=3∨b=4∨b=5∨b=6->g≠b:=λb S e=>by
    obtain⟨c,t,z,C⟩:=q.ints b S
    grind
   have n0:g≠0:=λe=>by
    obtain⟨c,t,z,C⟩:=q.g0
    grind
   have n7:g≠7:=λe=>by
    obtain⟨c,t,f,z,C⟩:=q.types
    grind
   grind
  refine⟨U ⟨g,d,JR l d,L,K,y,L,K,λi x Q2 Q1=>?_⟩,aD (U ⟨g,d,V⟩) l.length j,?_,?_,?_,?_⟩
  ·grind[acS,ago,List.mem_of_getElem?,Nat.add_sub_cancel']
  ·grind[as1]
  ·intro I F;exact ax ⟨rfl,aA (aA ⟨_,_,F,rfl,aW _,aA ⟨_,_,rfl⟩⟩)⟩
  ·grind
  ·intro W o;have o:=o _ rfl;refine aA ⟨g,d,j,rfl,(dc.1 o).1,λi u J=>?_⟩;unfold og;rw[o];simp only[ac0,nT,uJ]
   grind[acS,Nat.add_sub_cancel_left]
theorem jF.cellsOf{w}(h:jF w){c}{t}(a:w.heap[0]? =U (aF c t))(hs:c.size=1):∀v∈c,v=iv 264 (bN #[aE (U ⟨7,87,V⟩)]):=by
 unfold jF og at h;rw[a] at h;simp only[ac0,nT,uJ] at h
 grind[Array.mem_iff_getElem,Array.getElem?_eq_getElem,Option.some.inj]
theorem TE{I}{N}{w}(g:IT w)(k:jF w)(m:I.F 7=Z)(n:12<=N){b}{o}(i:w.heap[b]? =U o)(l:b=0∨b=3∨b=5∨b=6∨b=7):ew I N o=Z:=by
 have d:∀{c:Array ay},(∀v∈c,isInt v=Z)->c.all (S I N)=Z:=λ{c} h=>by rw[kC];exact λv j=>(rP (ρ:=id) (atP (h v j))).1
 by_cases e0:b=0
 ·subst e0;obtain⟨c,t,a,e⟩:=g.g0;have l:=k.cellsOf a e;rw[i] at a;cases a;simp only[ew,kC]
  grind[H.iQ,S,oV,nQ]
 by_cases E:b=7
 ·subst E;obtain⟨c,t,f,a,e⟩:=g.types;rw[i] at a;cases a;exact d e
 obtain⟨c,t,a,e⟩:=g.ints b (by omega)
 rw[i] at a;cases a;exact d e
theorem NO{N b}(h:b<N)(a:b≠7):rI N b=ai:=by
 grind[rI,Bool.or_eq_false_iff,beq_eq_false_iff_ne,decide_eq_false_iff_not]
theorem afT{R}{b}(h:pZ ai R b=Z):b=0∨b=3∨b=5∨b=6∨(7<=b∧R b=Z):=by
 grind[pZ]
theorem axB{R}{b}(h:pZ Z R b=Z):b=0∨b=3∨b=4∨b=5∨b=6∨(7<=b∧R b=Z):=by
 grind[pZ]
theorem WK{a}{R}{b}(h:7<=b)(c:R b=Z):pZ a R b=Z:=by
 unfold pZ
 grind
theorem ayi(EY:∀Wg,Dj Wg)(xY:∀Wg,Fu Wg){f}{fn}{c}(tV:aC.funcs[f]? =U fn)(Pt:iV[f]? =U fn)(i:fn.body=U c)(Cz:LC f=Z)(EP:zl.testBit f=Z)
  {W0} {v} {l} {rest} (q:∀x∈rest,n x=Z) (wm:Lz f 0=Z) (hD:∀j,Lz f (j+1)=Z->rest.size<=j)
  (hE:Dg W0 v l) (P:IT W0) (T:jF W0) (L:ga W0)
  (p:∀W v,Dg W v l->jF W->ga W->wO W->bE Q f (#[v]++rest) W λe a=>e=bj (Z)∧bC W W a):
  ∃N r o w' t',gZ aC (N+1) (solo (G (eO aC f (#[v]++rest) er) []) W0) #[]=(.ended o w',t')∧runN aC N (solo (G (eO aC f (#[v]++rest) er) []) W0)=fQ r∧
   step aC r=.ended o w'∧Go.Conc.Good aC (λx a=>x=Z∧XQ W0 a) r o w' t':=by
 obtain⟨A,QW,E,hOk,hvL,g⟩:=ayj hE P;obtain⟨m,Q2⟩:∃N,N=W0.heap.size:=⟨_,rfl⟩;have h12:12<=m:=by rw[Q2];exact P.size
 have R:∀B,A=U B->B.g≠4:=λB k e=>by have:=(E B k).1;omega
 have O:(jm (rI m) A).F 7=Z:=rfl;have I:(wv (rJ m A)).F 7=Z:=rfl;have lw:∀b,b≠4->(∀B,A=U B->b≠B.g)->(jU A W0).heap[b]? =W0.heap[b]? :=λb h1 h2=>Ut h1 h2;have lwA:∀B,A=U B->(jU A W0).heap[B.g]? =U (aF B.c B.e B.f):=λB k=>by rw[k];exact acO (by rw[<-Q2];have:=(E B k).2.1;omega)
 have X:∀b,b<=7->∀B,A=U B->b≠B.g:=λb h B k e=>by have:=(E B k).1;omega
 have C:∀b,b=0∨b=3->(jU A W0).heap[b]? =W0.heap[b]? :=λb h=>lw b (by omega) (X b (by omega))
 refine axp (fs:=iV) (I:=jm (rI m) A) (I2:=wv (rJ m A)) (nm:=pQ) EY xY (ajz rfl rfl R) (R:=λx Q0=>x=Z∧∃s d,bC (jU A W0) (World.re (jU A W0) s d) (World.re Q0 s d))
  (λx Q0 s d h=>⟨h.1,s,d,?_⟩) (f:=f) (args:= #[QW]++rest) (args':= #[v]++rest) (v0:=W0) tV Pt i Cz EP ?_ ?_ ?_ ?_ ?_ ?_ ?_ ?_ ?_ ?_
 ·obtain⟨_,τ',d',h⟩:=h;exact⟨h.os,rfl,h.output,h.size,h.block⟩
 ·refine⟨by simp,λj x F w=>?_,λj x F w=>?_⟩
  ·cases j with
   |zero=>rw[show(jm (rI m) A).D f 0=Lz f 0 from rfl,wm] at w;cases w
   |succ j=>
    have J:rest[j]? =x:=by
     rw[UC (by simp)] at F
     simpa using F
    refine⟨(rP (ρ:=id) (q x (tI J))).1,?_⟩;rw[Gc,UC (by simp)]
    simpa using J
  ·cases j with
   |zero=>
    have h0:∀y:ay,(#[y]++rest)[0]? =y:=λy=>by rw[Array.getElem?_append_left (by simp)];rfl
    have t:x=QW:=by rw[h0] at F;grind
    subst t;exact⟨v,h0 v,hOk _ rfl⟩
   |succ j=>
    have:=hD j w;rw[UC (by simp),xB (by simpa using this)] at F
    cases F
 ·intro x t;rcases Aj.1 t with t|t
  ·have t:x=QW:=by simpa using t
   subst t;rcases hvL with rfl|⟨B,off,QX,c,k,rfl⟩
   ·simp[S]
   ·simp only[S,B1];have:=E B k;refine H.iQ.2 ⟨by omega,WK (by omega) ?_⟩
    rw[k];simp[rJ]
  ·exact(rP (ρ:=id) (q x t)).1
 ·intro B k;have h:=E B k;refine⟨?_,h.2.2.1,h.2.2.2⟩;have:(jm (rI m) A).F B.g=rI m B.g:=by
   show pZ ai (rI m) B.g=_;unfold pZ
   grind
  grind[NO]
 ·intro b o i z;have Q1:=(dc.1 i).1;refine TE P T O (by omega) i ?_
  rcases afT z with h|h|h|h|⟨h,u⟩
  all_goals grind[NO]
 ·intro b o i h4 Lh z;have Q1:=(dc.1 i).1;refine TE P T I (by omega) i ?_
  rcases axB z with h|h|h|h|h|⟨h,u⟩
  ·omega
  ·omega
  ·omega
  ·omega
  ·omega
  ·by_cases e:b=7
   ·omega
   ·exfalso;unfold rJ at u;simp only[kK,nt,fI] at u;rcases u with(u|u)|u
    ·grind
    ·omega
    ·cases Q3:A with
     |none=>grind
     |some B=>
      rw[Q3] at u;exact Lh B Q3 (by grind)
 ·intro b i;exact⟨WK (by omega) (by unfold rI;grind),WK (by omega) (by unfold rJ;grind)⟩
 ·rw[CE];omega
 ·omega
 ·intro s;have c1:Dg (World.re (jU A W0) s 0) QW l:=g _ λB k=>lwA B k;have c2:jF (World.re (jU A W0) s 0):=T.of_block (C 0 (by simp))
  have c3:ga (World.re (jU A W0) s 0):=L.of_block (C 3 (by simp))
  have c4:wO (World.re (jU A W0) s 0):=Uu (by omega) R
  exact(p _ _ c1 c2 c3 c4).mono λe a ⟨he,i⟩=>⟨_,he,rfl,s,0,⟨i.os,rfl,i.output,i.size,i.block⟩⟩
 ·intro x x' Q0 v1 ρ cl ⟨t,s,d,k⟩ hxv M fP D K hold;subst t;refine⟨by rw[hxv.2];rfl,?_,K,?_,λb i=>?_⟩
  ·rw[M.os];exact k.os.trans (acN A W0).1
  ·have h1:=M.low (W0-1) (by omega)
   rw[D _ (by omega)] at h1
   omega
  ·cases z:(jm (rI m) A).F b with
   |false=>grind
   |true=>
    have PU:∀B,A=U B->b≠B.g:=λB EX e=>by
     have h:=E B EX;have:(jm (rI m) A).F B.g=rI m B.g:=by
      show pZ ai (rI m) B.g=_;unfold pZ
      grind
     grind[NO]
    have e1:Q0.heap[b]? =W0.heap[b]? :=(k.block b (by rw[acM];exact i)).trans (lw b (λe=>by rw[e] at z;cases z) PU)
    rw[iq i] at e1⊢;obtain⟨k1,k2⟩:=M.blk b _ e1 z;have VC:ew (jm (rI m) A) W0 W0.heap[b]=Z:=by
     refine TE P T O (by omega) (iq i) ?_
     rcases afT z with h|h|h|h|⟨h,u⟩
     all_goals grind[NO]
    rw[D b i,aa2 (σ:=id) (λc hc=>D c hc) VC,NM] at k2;exact k2
end
section
open Go.RowKit
def yY(x:j5)(id:Int)(l:List s):List s:=if x.f.size=0 then(HU l id x.n).1 else(Ge l id x.n x.f x.v).1
def yZ(x:j5)(ls:Nat->List s):Nat->List s:=λk=>if k=xg x.who 3 then yY x (k+1) (ls k) else ls k
theorem ap8{l}(hs:p l){id}{n f v}{y}(h:y∈(Ge l id n f v).1):y∈l∨(y.name=n∧y.field=f):=by
 grind[Ge,Rp,GR]
theorem ayP{l}(hs:p l){id}{n}{y}(h:y∈(HU l id n).1):y∈l∨(y.name=n∧y.field=⟨#[]⟩):=by
 grind[HU,Rp,GR]
structure Re(N K S:Nat)(x:j5)(w w':av)(pw:Nat)(pv:ay)(R R':Nat->Rk)(ks':Keys):Prop where
 tA:kH N (K+1) S ks' w' pw pv R'
 ls:∀k,k<3->(R' k).l=yZ x (λk=>(R k).l) k
 same:sS R R'
 bs:∀k,(R' k).bs=(R k).bs
 keep:O (yn R) w w'
theorem uo.wrote{N K S}{a}{w}{o}(h:uo N K S a w o)(b:a.length<=K):uj K o.L o.l:=⟨h.bk,bq h.len b,h.cnt⟩
theorem kH.Xa{N K S}{u}{w w'}{t}{pv}{R}{x}(h:kH N K S u w t pv R)(hid:∀k,k<3->(R k).id=k+1){i}(l:i=xg x.who 3){L'}
  (z:cJ w' (R i).m L') (r:uj (K+1) L' (yY x (R i).id (R i).l)) (v:O (λb=>b=(R i).m) w w'):∃C j,Re N K S x w w' t pv R C j:=by
 have c:i<3:=by rw[l];exact Tq (by omega)
 have s:=(h.iy i c).bk.sorted;have D:=(h.more (K':=K+1) (S':=S) (ks':=u++[(x.n,if x.f.size=0 then⟨#[]⟩ else x.f)]) (by omega) (aW _) (λy d=>UD _ d) (by have:=h.kl;grind)).edit c v z r.bk r.cnt λy d=>by
  unfold yY at d;split at d
  ·rename_i e;rw[dn e];rcases ayP s d with q|⟨A,B⟩
   ·exact UD _ ((h.iy i c).ks y q)
   grind
  ·rename_i e;rw[if_neg e];rcases ap8 s d with q|⟨A,B⟩
   ·exact UD _ ((h.iy i c).ks y q)
   grind
 refine⟨_,_,D,λk o=>?_,⟨λk=>tq Rk.p R (o:=(R i).tD L' (yY x (R i).id (R i).l)) rfl k,λk=>tq Rk.id R (o:=(R i).tD L' (yY x (R i).id (R i).l)) rfl k,λk=>tq Rk.m R (o:=(R i).tD L' (yY x (R i).id (R i).l)) rfl k,λk=>tq Rk.g R (o:=(R i).tD L' (yY x (R i).id (R i).l)) rfl k⟩,λk=>tq Rk.bs R (o:=(R i).tD L' (yY x (R i).id (R i).l)) rfl k,v.mono λb _ e=>⟨i,c,ax e⟩⟩;unfold yZ;by_cases e:k=i
 ·subst e;rw[MT,dn l,<-hid k o];rfl
 ·rw[MU R _ e,if_neg (λq=>e (q.trans l.symm))]
theorem ayk(N K S)(ks)(w)(F)(pv)(R)(x)(h:kH N K S ks w F pv R)(hid:∀k,k<3->(R k).id=k+1)(hN:5<=N)(hK:K<=1000000)(T:ic x.who)(Q2:x.n.size<=65536)(Q0:x.f.size<=65536)(Q1:jF w):
  bE Q 17 #[aE (F),bN #[x.who,x.n,x.f,x.v]] w λe w'=>e=bj (bO #[])∧∃D g,Re N K S x w w' F pv R D g:=by
 obtain⟨i,s⟩:=ex (xg x.who 3);have m:i<3:=by rw[s];exact Tq (by omega)
 obtain⟨H,u⟩:=ex (w.alloc (aF #[x.who,x.n,x.f,x.v] 30));have c:bC w w H:=by rw[u];exact(ei _ _).alloc (aW _) _
 have l:=h.below c;have b:=l.iy i m;have A:=NR R m;have r:js (R i).L<9223372036854775807:=by
  rw[b.bk.clock];have:=ahh (l:=(R i).l) (k:=(K:Int)) (by omega) λy f=>(b.cnt y f).2.1
  omega
 have o:=b.wrote l.kl;have p:dR (∀W,bE Q 18 #[x.who,Y aH 3] W λe W'=>e=bj (i)∧W'=W):=X λW=>by
  grind[abo]
 have q:=X (ayR F pv (qs R) i m (R i).id (R i).m (R i).g (R i).L x.n H l.rF (by grind[BJ]) (by rw[A];exact b.rep) b.book (by have:=b.mN;omega) (Q1.below c (aW _)) Q2 (by rw[b.bk.perm.length_eq];have:=o.len;omega) r)
 have I:=X (abf F pv (qs R) i m (R i).id (R i).m (R i).g (R i).L x.n x.f x.v H l.rF (by grind[BJ]) (by rw[A];exact b.rep) b.book (by have:=b.mN;omega) (Q1.below c (aW _)) Q2 Q0 r)
 have a:=zw.mk l hid s c o b.GU;have L:=X u;clear h hid s l b c o u r A T Q1;obtain⟨n,J,t,P⟩:=x;simp only at p q I a L Q2 Q0⊢;by_cases KU:t=⟨#[]⟩
 ·subst KU;go_enter YQ,ntmps17;go_wp2_with (first
   |(go_at_call 18;go_must (refine(p.out _).mono ?_);rintro e M ⟨rfl,z⟩;subst z;refine Halt.of ?_)
   |(go_at_call 28;rw[<-L.out];go_must (refine q.out.mono ?_);rintro e M ⟨rfl,C,G⟩;have B:=cI.mk C G;refine Halt.of ?_))
  unfold Halt;go_wp2_with (first
   |(go_at_call 28;rw[<-L.out];go_must (refine q.out.mono ?_);rintro e M ⟨rfl,C,G⟩;have B:=cI.mk C G;refine Halt.of ?_))
  unfold Halt;go_wp2
  go_end0
  obtain⟨l,hid,s,c,o,j⟩:=kp a;obtain⟨D,g,E⟩:=l.Xa (x:=⟨n,J,⟨#[]⟩,P⟩) hid s B.a (o.delete j J).1 B.b;exact⟨rfl,D,g,E.tA,E.ls,E.same,E.bs,(O.iL c).trans E.keep⟩
 ·have KT:¬t.toList=[]:=λe=>KU (zk (by grind[Jb]))
  have hf2:t.toList.isEmpty=ai:=by grind
  go_enter YQ,ntmps17;go_wp2_with (first
   |(go_at_call 18;go_must (refine(p.out _).mono ?_);rintro e M ⟨rfl,z⟩;subst z;refine Halt.of ?_))
  unfold Halt;go_wp2_with (first
   |(go_at_call 26;rw[<-L.out];go_must (refine I.out.mono ?_);rintro e M ⟨rfl,C,G⟩;have B:=cI.mk C G;refine Halt.of ?_))
  unfold Halt;go_wp2
  go_end0
  obtain⟨l,hid,s,c,o,j⟩:=a;have Pt:¬t.size=0:=λe=>KU (by
   obtain⟨d⟩:=t;have:d.size=0:=e
   grind)
  have v:=(o.put j J t P).1;obtain⟨D,g,E⟩:=l.Xa (x:=⟨n,J,t,P⟩) hid s B.a (by unfold yY;grind) B.b
  exact⟨rfl,D,g,E.tA,E.ls,E.same,E.bs,(O.iL c).trans E.keep⟩
def rq:ByteArray:=⟨#[97,110,110]⟩
def rM:ByteArray:=⟨#[116,101,108]⟩
def sE:ByteArray:=⟨#[53]⟩
theorem aqa:nP [] 1 rq rM sE=([⟨rq,rM,1,1,sE⟩],0,⟨#[]⟩):=by kernel_rfl
theorem agp:yY ⟨0,rq,rM,sE⟩ 1 []=[⟨rq,rM,1,1,sE⟩]:=by kernel_rfl
theorem aoA:lU (nO [⟨rq,rM,1,1,sE⟩] rq)=[rM,sE]:=by kernel_rfl
theorem aAb{L}{x}(h:Bk L [x]):L=[x]:=List.perm_singleton.1 h.perm
theorem aAc{L}(h:Bk L []):L=[]:=List.perm_nil.1 h.perm
theorem aAV(w:av)(hT:jF w)(ht:ga w)(Q2:wO w):bE Q 15 #[] w λe w'=>e=bj (cz Z)∧bC w.heap.size w w':=by
 have h4:=(dc.1 Q2).1;have C:=X (Y5 w);have O:=gD.mk hT ht Q2;clear hT ht Q2;go_enter ak3,ntmps15;go_wp2_with (go_at_call 16;go_must (refine C.out.mono ?_);rintro e w1 ⟨I,J,R,rfl,D⟩;have Q1:=X D;refine Halt.of ?_)
 unfold Halt;obtain⟨o,l,f⟩:=Q1.out;have G:=l 0 (by omega)
 have z:=l 1 (by omega)
 have i:=o.iy 0 (by omega)
 have p:(R 0).L=[]:=aAc (by have:=i.bk;grind)
 have r:=abf I J (qs R) 0 (by grind[BJ]) (R 0).id (R 0).m (R 0).g (R 0).L rq rM sE w1 o.rF (by grind[BJ]) i.rep i.book (by have:=i.mN;omega) (O.a.below f (aW _)) (by decide) (by decide) (by rw[p];decide)
 have e1:(R 0).id=1:=G.1;rw[p,e1,aqa] at r;have t:=X r;clear o l f G z i r p e1 C;unfold rq rM sE at t;go_wp2_with (go_at_call 26;go_must (refine t.out.mono ?_);rintro e s ⟨rfl,hB,u⟩;have H2:=cI.mk hB u;refine Halt.of ?_)
 unfold Halt;clear t;obtain⟨o,l,f⟩:=Q1.out;have G:=l 0 (by omega)
 have z:=l 1 (by omega)
 obtain⟨L,Q0,j⟩:∃R' S,Re w 0 0 ⟨0,rq,rM,sE⟩ w1 s I J R R' S:=
  o.Xa (x:=⟨0,rq,rM,sE⟩) (λk u=>(l k u).1) (i:=0) (by rfl) (L':=[⟨rq,rM,1,1,sE⟩]) H2.a (by rw[G.2.1,show(R 0).id=1 from G.1,agp];exact⟨⟨List.Perm.refl _,List.pairwise_singleton ..,λx D=>by rw[mA.1 D];exact⟨by decide,by decide,by decide,by decide,by decide,by decide⟩⟩,by decide,λy hy=>by grind[List.mem_singleton,ic]⟩) H2.b
 have A:=f.trans (j.keep.below f.size λb hb q=>by have:=o.lo q;omega)
 have T:(L 0).l=[⟨rq,rM,1,1,sE⟩]:=by
  rw[j.ls 0 (by omega)]
  unfold yZ;rw[dn (show 0=xg 0 3 by decide)]
  grind[agp]
 have P:(L 1).l=[]:=by
  rw[j.ls 1 (by omega)]
  unfold yZ;rw[if_neg (show¬1=xg 0 3 by decide)]
  grind
 obtain⟨H,B⟩:=ex (s.alloc (aF #[Y aH 0,aG ⟨#[]⟩] 49));have h:bC s s H:=by rw[B];exact(ei _ _).alloc (aW _) _
 have g:H.heap[s.heap.size]? =U (aF #[Y aH 0,aG ⟨#[]⟩] 49 (0,0)):=by grind[World.alloc_heap_new]
 have c:=A.trans (h.mono A.size);have N:=X (Yp w 1 0 Q0 H I J L 0 1 (by omega) (by omega) (by omega) (j.tA.below h) (by omega) (by omega) (by omega) (O.b.below c (aW _)) ((c.block 4 h4).trans O.c))
 have HE:=Df.mk B T P j g c h;go_wp2_with (go_at_call 19;rw[<-HE.a];go_must (refine N.out.mono ?_);rintro e w4 ⟨rfl,m,D⟩;have H4:=X D;refine Halt.of ?_)
 unfold Halt;obtain⟨-,T,P,j,g,c,h⟩:=HE;have E:=H4.out;have Q3:¬yn L s:=λ⟨k,u,q⟩=>by have o:=(j.tA.iy k u).book.lt;have h2:=(j.tA.iy k u).map.lt;omega
 have l4:(m 1).l=[⟨rq,rM,1,1,sE⟩]:=by rw[E.lj,T,P];rfl
 have i:=E.tA.iy 1 (by omega)
 have W:(m 1).L=[⟨rq,rM,1,1,sE⟩]:=aAb (by have:=i.bk;grind)
 have F:=axR I J (qs m) 1 (by grind[BJ]) (m 1).id (m 1).m (m 1).g (m 1).L rq w4 E.tA.rF (by grind[BJ]) i.rep i.book (by grind) (by decide)
 rw[W,aoA] at F;have t:=X F;have QW:=cI.mk ((E.keep.block _ (dc.1 g).1 Q3).trans g) (c.trans (E.keep.below c.size λb hb q=>by have:=j.tA.lo q;omega))
 unfold rq rM sE at t;go_wp2_with (go_at_call 27;go_must (refine t.out.mono ?_);rintro e a ⟨v,rfl,d,n⟩;have H5:=cI.mk d n;refine Halt.of ?_)
 unfold Halt;obtain⟨d,n⟩:=kp H5;obtain⟨g5,M,rfl⟩:∃g5 M,v=aD (U ⟨g5,0,V⟩) 2 M:=by
  rcases d.2 with⟨_,h0⟩|⟨g5,M,cur,rfl,_⟩
  all_goals grind
 have y0:a.cell? g5=U (aG ⟨#[116,101,108]⟩):=by
  have:=Gy d (g:=g5) rfl 0 _ rfl
  rwa [ac6,Ah] at this
 have y1:a.cell? ⟨g5,1,V⟩=U (aG ⟨#[53]⟩):=by
  have:=Gy d (g:=g5) rfl 1 _ rfl
  rwa [ac6,Ah] at this
 have y3:a.cell? s=U (Y aH 0):=K ((n.block _ (dc.1 QW.a).1).trans QW.a) 0;go_wp2;go_ret;exact⟨rfl,QW.b.trans (H5.b.mono QW.b.size)⟩
def after(es:List j5):Nat->List s:=es.foldl (λls x=>yZ x ls) λ_=> []
theorem aA4(es)(x):after (es++[x])=yZ x (after es):=by simp[after]
theorem aA3{l:List j5}{j}(a):after (l.take (j+1))=yZ l[j] (after (l.take j)):=by
 grind[List.take_add_one,List.getElem?_eq_getElem,Option.toList_some,aA4]
theorem ayl{x}{b a}{k}(h:b k=a k):yZ x b k=yZ x a k:=by grind[yZ]
theorem Sk:∀(l:List j5) (k:Nat),l.foldl (λn x=>n+qY x) k=k+mR l
 | [],k=>rfl
 |x::l,k=>by
  have b:=Sk l (k+qY x);have a:=Sk l (0+qY x);show List.foldl _ (k+qY x) l=k+List.foldl _ (0+qY x) l
  grind
theorem amo(x)(l):mR (x::l)=qY x+mR l:=by
 have a:=Sk l (0+qY x);show List.foldl _ (0+qY x) l=_
 grind
theorem amS{l}(h:DC l=Z):l.length<=300∧∀x∈l,x.n.size<=1200∧x.f.size<=1200:=by
 have c:mR l<=1200:=by grind[DC]
 have a:∀l:List j5,4*l.length<=mR l∧∀x∈l,qY x<=mR l:=λl=>by
  induction l with
  |nil=>grind
  |cons y l b=>
   grind[amo,qY,List.length_cons]
 grind[qY]
def Rc(N:Nat)(l:List j5)(pw:Nat)(pv:ay)(R:Nat->Rk)(w0:av)(j:Nat)(W:av):Prop:=∃R' ks,kH N j 0 ks W pw pv R'∧sS R R'∧(∀k,k<3->(R' k).l=after (l.take j) k)∧O (yn R) w0 W
theorem Rc.next{N}{l}{e}{d}{R b f}{w0 W W'}{j}{a}(g)(hs:sS R b)(i:∀k,k<3->(b k).l=after (l.take j) k)(h:O (yn R) w0 W)(E:Re N j 0 l[j] W W' e d b f a):Rc N l e d R w0 (j+1) W':=
 ⟨f,a,E.tA,hs.trans E.same,λk c=>by rw[E.ls k c,aA3 g];grind[ayl],h.trans (by rw[<-hs.maps];exact E.keep)⟩
theorem aAf{L l}(h:Bk L l):dX L ⟨#[48]⟩=[]:=by
 rw[yy h];refine List.filter_eq_nil_iff.2 λx b c=>?_;have a:below (push jb 48) x.name x.field=Z:=c;rcases XK (h.lT x b) a with e|e|e
 ·cases e
 ·cases e
 ·revert e;decide
theorem ahG{L l}(h:Bk L l):dX L ⟨#[]⟩=l:=by rw[yy h];exact FQ l
theorem ayN:E6 (y [])=⟨#[203,242,156,228,132,34,35,37]⟩:=by kernel_rfl
theorem ayI(v:ay)(l:List j5)(i:Int)(w:av)(h:Dg w v l)(hl:l.length<=140737488355328)(hz:∀x∈l,x.n.size<=140737488355328∧x.f.size<=140737488355328∧x.v.size<=140737488355328)(hw:∀x∈l,ic x.who)(hi:ic i)(I:jF w)(ht:ga w)(hf:wO w):
  bE Q 3 #[v,Y aH i] w λe w'=>e=bj (cz Z)∧bC w.heap.size w w':=by
 have HC:=X (amT v l w h hl hz);obtain⟨F6,O,Vt⟩:∃F6 O,v=aD F6 l.length O:=by
  rcases h with⟨⟨ad,cap,rfl⟩,rfl⟩|⟨g,G,cap,rfl,_⟩
  all_goals grind
 subst Vt;have h4:=(dc.1 hf).1;cases K:DC l with
 |false=>
  rw[K] at HC;go_enter YM,ntmps3;go_wp2_with (go_at_call 14;go_must (refine HC.out.mono ?_);rintro e w1 ⟨rfl,f⟩;have m:=X f)
  go_ret;exact⟨rfl,m.out⟩
 |true=>
  rw[K] at HC;obtain⟨r,J⟩:=amS K;have C:=Bh.mk h hw hi I ht hf r J;clear h hl hz hw hi I ht hf K r J;go_enter YM,ntmps3;go_wp2_with (go_at_call 14;go_must (refine HC.out.mono ?_);rintro e w1 ⟨rfl,f⟩;have m:=X f;refine Halt.of ?_)
  unfold Halt;go_wp2_with (go_at_call 15;go_must (refine(X (aAV w1 (C.d.below m.out (aW _)) (C.e.below m.out (aW _)) ((m.out.block 4 h4).trans C.f))).out.mono ?_);rintro e w2 ⟨rfl,AG⟩;have Q0:=X (m.out.trans (AG.mono m.out.size));refine Halt.of ?_)
  unfold Halt;go_wp2_with (go_at_call 16;go_must (refine(X (Y5 w2)).out.mono ?_);rintro e w3 ⟨pw,pv,R,rfl,hT3,hR,Q3⟩;have c:=gD.mk hT3 hR (Q0.out.trans (Q3.mono Q0.out.size));clear hT3 hR Q3;refine Halt.of ?_)
  unfold Halt;go_wp2;go_loopg [9] l.length (λn s9 wr=>∃j:Nat,s9=Y aH j∧n+j=l.length∧Rc w2.heap.size l pw pv R w3 j wr)
  case atStart=>exact⟨0,rfl,by omega,R,[],c.a,.refl _,λk P=>(c.b k P).2.1,.refl _ _⟩
  case round=>
   obtain⟨j,rfl,hn,R',ks,A,s,z,t⟩:=hrel;have lC:=Q0.out.size;have o:=c.c.trans (t.below c.c.size λb F q=>by have:=c.a.lo q;omega)
   by_cases hj:j<l.length
   ·obtain⟨hS,hw,hi,I,ht,hf,r,J⟩:=kp C;rcases hS with⟨Q1,hS2⟩|⟨g,G,cap,Q1,hg,hc⟩
    ·rw[hS2] at hj;simp at hj
    simp only[vG] at Q1;obtain⟨rfl,-,rfl⟩:=Q1;have avz:=rZ hj;obtain⟨op,B⟩:=ex (l[j]);have kc:∀i,i<4->∀u,op.cells[i]? =U u->wr.cell? ⟨g,G+j*4+i,V⟩=U u:=λi hi u hu=>(o.cell (p:=⟨g,G+j*4+i,V⟩) hg).trans (by rw[Nat.add_assoc];exact hc _ _ (by rw[WZ hj i hi,<-B];exact hu))
    have C17:=X (ayk w2.heap.size j 0 ks wr pw pv R' op A (λk P=>by rw[s.id k];exact(c.b k P).1) (by omega) (by omega) (by grind) (by grind) (by grind) (I.below o (aW _)))
    have e0:wr.cell? ⟨g,G+j*4,V⟩=U (Y aH op.who):=kc 0 (by omega) _ rfl
    have e1:=kc 1 (by omega) _ rfl
    have e2:=kc 2 (by omega) _ rfl
    have e3:=kc 3 (by omega) _ rfl
    have uR:(j:Int)<(l.length:Int):=by omega
    have fK:aH.wrap ((j:Int)+1)=(j:Int)+1:=by rw[qA];omega
    have Ev:om ((j:Int)+1)=(j:Int)+1:=by unfold om;omega
    have HI:=sV.mk B s z t;clear hw hi I ht hf r J hc avz B kc A s z t o;go_wp2_with (go_at_call 17;go_must (refine C17.out.mono ?_);rintro e w7 ⟨rfl,L,ks7,H⟩;have H7:=X H;refine Halt.of ?_)
    unfold Halt;go_wp2;go_roundg (gk-1)
    case rel=>
     obtain⟨B,s,z,t⟩:=HI;have E:=H7.out;rw[B] at E;exact⟨j+1,congrArg (Y aH) (by omega),by omega,Rc.next hj s z t E⟩
    grind
   ·have tU:l.length=j:=by omega
    subst tU;have M:=C.c;obtain⟨a,ha⟩:=ex (xg i 3);have D:a<3:=by rw[ha];exact Tq (by omega)
    obtain⟨b,F⟩:=ex ((a+1) % 3);have Q3:b<3:=by omega
    have C18:dR (∀W,bE Q 18 #[i,Y aH 3] W λe W'=>e=bj (a)∧W'=W):=X λW=>by
     have:=abo i 3 W (by omega) (by omega) M
     grind
    have r:=C.g;have C19:=X (Yp w2.heap.size l.length 0 ks wr pw pv R' a b D Q3 (by omega) A (by omega) (by omega) (by omega) (C.e.below o (aW _)) ((o.block 4 h4).trans C.f))
    have w1:aH.wrap ((a:Int)+1)=(a:Int)+1:=by rw[qA];omega
    have w1':om ((a:Int)+1)=(a:Int)+1:=by unfold om;omega
    have hm:((a:Int)+1).tmod 3=(b:Int):=by rw[Int.tmod_eq_emod_of_nonneg (by omega)];omega
    have w2':aH.wrap (b:Int)=(b:Int):=by rw[qA];omega
    have HI:=sV.mk A o ha F;obtain⟨wo,rfl⟩:=ex wr;clear M ha F r A s z t o;go_wp2_with (go_at_call 18;go_must (refine(C18.out _).mono ?_);rintro e w5 ⟨rfl,O1⟩;subst O1;refine Halt.of ?_)
    unfold Halt;go_wp2_with (go_at_call 19;go_must (refine C19.out.mono ?_);rintro e w7 ⟨rfl,L,hx⟩;have H7:=X hx;refine Halt.of ?_)
    unfold Halt;have H:=H7.out;have T:=HI.b.trans (H.keep.below HI.b.size λb F q=>by have:=HI.a.lo q;omega)
    have CD:∀(k:Nat) (P:k<3) (p:ByteArray) (W:av),bC w7 w7 W->bE Q 20 #[aE (pw),k,p] W λe W'=>e=bj ((E6 (y (dX (L k).L p))))∧bC W W W':=λk P p W N=>by
     have I:=H.tA.below N;have Q2:=I.iy k P;refine ayL pw pv (qs L) k P (L k).id (L k).m (L k).g (L k).L p W I.rF (by rw[BJ];omega) (by rw[NR L P];exact Q2.rep) Q2.book ?_ (C.e.below (T.trans (N.mono T.size)) (aW _)) λx hx=>?_
     ·rw[Q2.bk.perm.length_eq];have:=Q2.len;have:=I.kl;have:=C.g;omega
     ·exact Hz (Q2.bk.afJ x hx) (Q2.fits (by have:=C.g;omega) x (Q2.bk.perm.subset hx))
    obtain⟨da,S⟩:∃d,d=E6 (y (kP (R' a).l (R' b).l)):=⟨_,rfl⟩;have fP:da.size=8:=by rw[S];rfl
    have CA:=X λW N=>by have:=CD a D ⟨#[]⟩ W N;rw[ahG (H.tA.iy a D).bk,H.li,<-S] at this;exact this
    have CB:=X λW N=>by have:=CD b Q3 ⟨#[]⟩ W N;rw[ahG (H.tA.iy b Q3).bk,H.lj,<-S] at this;exact this
    have CZ:=X λW N=>by have:=CD a D ⟨#[48]⟩ W N;rw[aAf (H.tA.iy a D).bk,ayN] at this;exact this
    have HB7:=X T;go_wp2_with (go_at_call 20;go_must (refine(CA.out _ (ei _ _)).mono ?_);rintro e w8 ⟨rfl,F⟩;have H8:=X F;refine Halt.of ?_)
    unfold Halt;go_wp2_with (go_at_call 20;go_must (refine(CB.out _ H8.out).mono ?_);rintro e w9 ⟨rfl,F⟩;have H9:=X (H8.out.trans (F.mono H8.out.size));refine Halt.of ?_)
    unfold Halt;go_wp2_with (go_at_call 20;go_must (refine(CZ.out _ H9.out).mono ?_);rintro e wA ⟨rfl,F⟩;have HA:=X (HB7.out.trans ((H9.out.trans (F.mono H9.out.size)).mono HB7.out.size));refine Halt.of ?_)
    unfold Halt;go_wp2;go_ret;exact⟨rfl,HA.out⟩
end
end Go.Proofs.YtpdbmpbmepkikaaGreatDoor
