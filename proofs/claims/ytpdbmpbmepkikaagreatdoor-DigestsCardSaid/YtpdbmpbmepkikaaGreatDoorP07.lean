/- Laws. -/
import Derived.Test.YtpdbmpbmepkikaaGreatDoorP06
set_option maxRecDepth 100000
set_option maxHeartbeats 400000
set_option linter.all false
open Go.Proofs.Tryz
open Array renaming replicate->sH
open Bool renaming true->Z,false->ai
open Decidable renaming decide->cq
open Go renaming Goroutine->aU,Frame->aX,undef->ak,World->av,Value->ay,Program->bU,stepG->bZ,execOp->cT,Sem->cy,Oper->dD,Func->dV,yielded->dY,Addr->eK,Item->eS,binOp->gw,Operand->iI,Event->iW,callFunc->iu
open Go.Act renaming eval->dW,put->dj
open Go.Builtin renaming close_->Xi
open Go.CallKind renaming normal->er
open Go.Code renaming region->dQ,seq->eE
open Go.Conc renaming base->aY,Goes->cH,served->j0,closeEvents->jY
open Go.ConcN renaming upd->bz,WgLive->jq
open Go.ConcN.Gen renaming AnchWN->Me
open Go.Departure renaming mixedOrders->mE
open Go.Frame renaming enter->eO,finish->sJ
open Go.FrameMode renaming returning->fC
open Go.GStep renaming go->bS
open Go.GoStatus renaming running->dM
open Go.IntKind renaming i64->aH
open Go.Item renaming inRegion->aP,code->bD,inBlock->lI
open Go.Next renaming value->fV
open Go.Obj renaming cells->aF
open Go.Op renaming assign->oh,equalIn->rf
open Go.Operand renaming tmp->cu,const->gB
open Go.Proofs.Tryz renaming prog->aC,f41->nG
open Go.Region renaming wanted->eP,ready->iO,schedule->lZ
open Go.Region.linearise renaming go->wF
open Go.Result renaming ok->aV,halt->dL
open Go.Sem renaming run->nE
open Go.Value renaming int->Y,slice->aD,pointer->aE,agg->bN,tuple->bO,chan->cY,bool->cz
open List renaming range->lW
open Option renaming some->U,none->V
open Or renaming inr->aA,inl->ax
open Pure renaming pure->bH
open Relation renaming TransGen->sI
namespace Go.Proofs.YtpdbmpbmepkikaaGreatDoor
def qF:=@Go.Conc.stepG_value
def GL:=@Go.Conc.stepG_block
def si:=@Go.Conc.stepG_region
def GK:=@Go.Conc.stepG_cond
def OQ:=@Go.Sem.run_bind
def Kk:=@Prod.mk.injEq
def adw:=@List.take_of_length_le
def adv:=@Go.Conc.Goes.mono
section
open Go.Proofs Go.Conc Go.RowKit Go.Conc.Lib Go.ConcR.Gen
open Go.ConcN (upd upd_ne upd_same WgLive)
open Go.ConcR (KK WgAt stA smA wgBlock rd wr mk Bk)
section
variable {main:Bool} {b:aX} {T:Array ay} {ds:List Deferred} {k:List eS} {cs:List aX} {ops:Array dD} {i:Nat} {rest:List Nat} {o:dD} {t u:Tmp} {e:Nat} {p q p' q':ay}
theorem acH(s:ops[i]? =o)(n:eP o (dY ops T)=Z)(r:b.kind≠ .early)(f:o.op=.load 114 (cu t))(j:T[t]? =U (aE (e)))(w)(l:w.heap[e]? =U (aF #[p,q] 114)):
  bZ aC main (G (b.at ⟨T,ds⟩ (aP ops (i::rest)::k)) cs) w=bS (G (b.at (dj ⟨T,ds⟩ o.dst (bN #[p,q])) (aP ops rest::k)) cs) w (listed aC b.fn ⟨T,ds⟩ o w)∧∀h∈listed aC b.fn ⟨T,ds⟩ o w,∃a wr,h=⟨.cell a,wr,ai⟩∧a.block=e:=by
 have c:=gp (o:=0) l rfl;have d:=gp (o:=1) l rfl;have v:(cT (dW ⟨T,ds⟩) o).run aC w=aV (fV (bN #[p,q])) w:=by unfold cT;simp[f,go_sem,j,c,d]
 refine⟨qF s n r v,λh g=>?_⟩;have m:=kN g;unfold cT at m;simp[f,go_sem,j,c,d] at m
 grind
theorem ahY(f:ops[i]? =o)(c:eP o (dY ops T)=Z)(d:b.kind≠ .early)(a:o.op=.alloc 114)(w):
  bZ aC main (G (b.at ⟨T,ds⟩ (aP ops (i::rest)::k)) cs) w=bS (G (b.at (dj ⟨T,ds⟩ o.dst (aE (w))) (aP ops rest::k)) cs) {w with heap:=w.heap.push (aF #[cY V,cY V] 114)} #[]:=by
 have g:(cT (dW ⟨T,ds⟩) o).run aC w=aV (fV (aE (w))) {w with heap:=w.heap.push (aF #[cY V,cY V] 114)}:=by unfold cT;simp[a,go_sem]
 have h:(cT (dW ⟨T,ds⟩) o).events aC w #[]= #[]:=by unfold cT;simp[a,go_sem]
 rw[qF f c d g,nX h]
theorem FR(A:ops[i]? =o)(z:eP o (dY ops T)=Z)(C:b.kind≠ .early)(l:o.op=.store 114 (cu t) (cu u))(v:T[t]? =U (aE (e))){c d}(x:T[u]? =U (bN #[cY c,cY d]))(w)(m:w.heap[e]? =U (aF #[p',q'] 114)):
  bZ aC main (G (b.at ⟨T,ds⟩ (aP ops (i::rest)::k)) cs) w=bS (G (b.at (dj ⟨T,ds⟩ o.dst ak) (aP ops rest::k)) cs) ((w.setCell e (cY c)).setCell ⟨e,1,V⟩ (cY d)) (listed aC b.fn ⟨T,ds⟩ o w)∧∀s∈listed aC b.fn ⟨T,ds⟩ o w,∃a wr,s=⟨.cell a,wr,ai⟩∧a.block=e:=by
 have h:=gp (o:=0) m rfl;have j:=ve 0 m;have y:=ow 0 (cY c) m;have f:=gp (o:=1) y rfl;have g:=ve 1 y;have B:(cT (dW ⟨T,ds⟩) o).run aC w=aV .skip ((w.setCell e (cY c)).setCell ⟨e,1,V⟩ (cY d)):=by unfold cT;simp[l,go_sem,v,x,h,j,f,g]
 refine⟨stepG_none A z C B,λs n=>?_⟩;have r:=kN n;unfold cT at r;simp[l,go_sem,storedEv,v,x,h,j,f,g] at r
 grind
end
def C9(f:Bool->Bool):Bool:=f ai&&f Z
theorem IB{f}(h:C9 f=Z)(a):f a=Z:=by simp only[C9,cS] at h;cases a<;>simp[h]
noncomputable def lq:Array dD:=eM (cP 8)
def QD(rd:List Nat)(a0 a1 a2 a3 a4 a5:Bool):Bool:=
 (rd.all λi=>cq (i<6)&& !((#[a0,a1,a2,a3,a4,a5]:Array Bool)[i]?.getD Z)&&(i !=4||(a0&&a2))&&(i !=5||(a1&&a3)))&&(!rd.isEmpty||(a0&&a1&&a2&&a3&&a4&&a5))
theorem aa8(a d b e f c):QD (iO .any lq #[a,d,b,e,f,c]) a d b e f c=Z:=by
 have h:(C9 λa=>C9 λd=>C9 λb=>C9 λe=>C9 λf=>C9 λc=>QD (iO .any lq #[a,d,b,e,f,c]) a d b e f c)=Z:=by kernel_rfl
 exact IB (IB (IB (IB (IB (IB h a) d) b) e) f) c
theorem am3:lq.size=6:=by kernel_rfl
abbrev ends(x y:Option Nat):Obj:=aF #[cY x,cY y] 114
structure R9(s0:St)(T0:Array ay)(x1 y1 x2 y2:Nat)(a0 a1 a2 a3 a4 a5:Bool)(f2 f3:Nat)(T:Array ay)(s:St):Prop where
 size:T.size=87
 rest:∀t,t≠14->t≠15->t≠42->t≠43->T[t]? =T0[t]?
 k:Kept 0 [] s0 s
 ch:s.ch=s0.ch
 v0:a0=Z->T[42]? =U (bN #[cY (U x1),cY (U y1)])
 v1:a1=Z->T[43]? =U (bN #[cY (U x2),cY (U y2)])
 b2:a2=Z->T[14]? =U (aE (U ⟨f2,0,V⟩))∧f2∈(s.D 0).own∧s0.v.heap.size<=f2∧s.v.heap[f2]? =U (if a4 then ends (U x1) (U y1) else ends V V)
 b3:a3=Z->T[15]? =U (aE (U ⟨f3,0,V⟩))∧f3∈(s.D 0).own∧s0.v.heap.size<=f3∧s.v.heap[f3]? =U (if a5 then ends (U x2) (U y2) else ends V V)
 ne:a2=Z->a3=Z->f2≠f3
 n4:a2=ai->a4=ai
 n5:a3=ai->a5=ai
def J9(s0:St)(T0:Array ay)(x1 y1 x2 y2:Nat)(l:Array Bool)(a:Act)(s:St):Prop:=∃a0 a1 a2 a3 a4 a5 f2 f3,l= #[a0,a1,a2,a3,a4,a5]∧∃T,a=⟨T,[]⟩∧R9 s0 T0 x1 y1 x2 y2 a0 a1 a2 a3 a4 a5 f2 f3 T s
theorem get_put{T}{ds}{d:Tmp}{x}(h:d<T.size):(dj ⟨T,ds⟩ (d) x).tmps[d]? =x:=jJ h
section
variable {K:fy} {C:List aX}
theorem zS{s0 s}{O}(k:Kept 0 O s0 s)(H:cM K s0.role 0 s0.md s0.ch s0.cl (.hold 0) s0.D s0.T s0.gs s0.v){b}(a:b∈(s0.D 0).own)(c:b∉O):s.v.heap[b]? =s0.v.heap[b]? :=k.rest b (H.inv.own 0 b a).2 (H.inv.own 0 b a).1 c
set_option maxHeartbeats 4000000 in
theorem amy (hP:K.P=aC) {s0} {a0'} (H0:Ok K 0 s0 a0') {T0} {e8 e9 x1 y1 x2 y2} (PK:T0.size=87) (h8:T0[8]? =U (.pointer (e8))∧T0[9]? =U (.pointer (e9))) (hE:Rb s0.v (s0.D 0).own e8 e9 x1 y1 x2 y2) {kk}:
  ∀listed a s i rest,J9 s0 T0 x1 y1 x2 y2 listed a s->i∈iO .any lq listed->Ok K 0 s (G ((aY 41).at a (.inRegion lq (i::rest)::kk)) C)->Io (listed.setIfInBounds i Z)=Io listed+1∧∃t a',s.runs K.P t∧Ok K 0 t (G ((aY 41).at a' (.inRegion lq rest::kk)) C)∧J9 s0 T0 x1 y1 x2 y2 (listed.setIfInBounds i Z) a' t:=by
 rintro _ _ s i rest ⟨y,w,A,B,L,J,N,I,rfl,T,rfl,R⟩ hi H;have hr:=aa8 y w A B L J;simp only[QD,cS,List.all_eq_true] at hr;have hri:=hr.1 i hi;simp only[cS,fI,kK,bne_iff_ne,ne_eq,Bool.not_eq_true'] at hri;obtain⟨⟨⟨hi6,d⟩,h4⟩,h5⟩:=hri;have c8:=(zS R.k H0.hold hE.2.1 (by simp)).trans hE.1.1
 have c9:=(zS R.k H0.hold hE.2.2.1 (by simp)).trans hE.1.2
 have T8:=(R.rest 8 (by decide) (by decide) (by decide) (by decide)).trans h8.1
 have T9:=(R.rest 9 (by decide) (by decide) (by decide) (by decide)).trans h8.2
 have oi:∀b∈(s.D 0).own,b<s.v∧(s.cl b=.own 0∨s.cl b=.eN):=λb E=>⟨(H.hold.inv.own 0 b E).2,.inl (H.hold.inv.own 0 b E).1⟩;have g:∀t:St,Kept 0 [] s t->∀b∈(s.D 0).own,t.v.heap[b]? =s.v.heap[b]? :=λt k b E=>zS k H.hold E (by simp)
 match i,hi6 with
 |0,_=>
  simp at d;subst d;refine⟨by cases w<;>cases A<;>cases B<;>cases L<;>cases J<;>rfl,?_⟩
  refine H.walk_to (m:=Z) [] [e8] rfl (by simp) (by simpa using oi e8 (R.k.own _ hE.2.1)) ⟨1,.inr ⟨rfl,λM P=>?_⟩⟩
  have O:=acH (main:=Z) (b:=aY 41) (T:=T) (ds:=[]) (k:=kk) (cs:=C) (ops:=lq) (i:=0) (rest:=rest) (t:=8) (by rfl) (by rfl) (by k_ne) (by rfl) T8 M ((P.1 e8 (by simp)).trans c8)
  rw[hP,O.1];refine⟨⟨rfl,rfl,rfl,rfl,λ_ _=>rfl,λe he=>by obtain⟨x,wr,e1,e2⟩:=O.2 e he;exact⟨x,wr,e1,.inr (by simp[e2])⟩⟩,λw2 h2=>⟨rfl,λt tv r F j d1 l=>?_⟩⟩
  have f:∀z,z≠42->(dj ⟨T,[]⟩ (U 42) (.agg #[.chan (x1),.chan (y1)])).tmps[z]? =T[z]? :=by grind[BI,Option.some.inj]
  refine⟨t,⟨_,[]⟩,r,F,Z,w,A,B,L,J,N,I,rfl,_,rfl,⟨(by rw[tJ];exact R.size),λz Q c D S=>(f z D).trans (R.rest z Q c D S),R.k.trans j,l.trans R.ch,λ_=>get_put (by rw[R.size];decide),λh=>(f 43 (by decide)).trans (R.v1 h),
   λh=>?_,λh=>?_,R.ne,R.n4,R.n5⟩⟩
  ·obtain⟨p,m,u,q⟩:=R.b2 h;exact⟨(f 14 (by decide)).trans p,j.own _ m,u,(g t j _ m).trans q⟩
  ·obtain⟨p,m,u,q⟩:=R.b3 h;exact⟨(f 15 (by decide)).trans p,j.own _ m,u,(g t j _ m).trans q⟩
 |1,_=>
  simp at d;subst d;refine⟨by cases y<;>cases A<;>cases B<;>cases L<;>cases J<;>rfl,?_⟩
  refine H.walk_to (m:=Z) [] [e9] rfl (by simp) (by simpa using oi e9 (R.k.own _ hE.2.2.1)) ⟨1,.inr ⟨rfl,λM P=>?_⟩⟩
  have O:=acH (main:=Z) (b:=aY 41) (T:=T) (ds:=[]) (k:=kk) (cs:=C) (ops:=lq) (i:=1) (rest:=rest) (t:=9) (by rfl) (by rfl) (by k_ne) (by rfl) T9 M ((P.1 e9 (by simp)).trans c9)
  rw[hP,O.1];refine⟨⟨rfl,rfl,rfl,rfl,λ_ _=>rfl,λe he=>by obtain⟨x,wr,e1,e2⟩:=O.2 e he;exact⟨x,wr,e1,.inr (by simp[e2])⟩⟩,λw2 h2=>⟨rfl,λt tv r F j d1 l=>?_⟩⟩
  have f:∀z,z≠43->(dj ⟨T,[]⟩ (U 43) (.agg #[.chan (x2),.chan (y2)])).tmps[z]? =T[z]? :=by grind[BI,Option.some.inj]
  refine⟨t,⟨_,[]⟩,r,F,y,Z,A,B,L,J,N,I,rfl,_,rfl,⟨(by rw[tJ];exact R.size),λz Q c D S=>(f z S).trans (R.rest z Q c D S),R.k.trans j,l.trans R.ch,λh=>(f 42 (by decide)).trans (R.v0 h),λ_=>get_put (by rw[R.size];decide),
   λh=>?_,λh=>?_,R.ne,R.n4,R.n5⟩⟩
  ·obtain⟨p,m,u,q⟩:=R.b2 h;exact⟨(f 14 (by decide)).trans p,j.own _ m,u,(g t j _ m).trans q⟩
  ·obtain⟨p,m,u,q⟩:=R.b3 h;exact⟨(f 15 (by decide)).trans p,j.own _ m,u,(g t j _ m).trans q⟩
 |2,_=>
  simp at d;subst d;refine⟨by cases y<;>cases w<;>cases B<;>cases L<;>cases J<;>rfl,?_⟩
  refine H.xu (m:=Z) rfl rfl (.own 0) (.inl rfl) λo=>?_;refine⟨G ((aY 41).at (dj ⟨T,[]⟩ (U 14) (.pointer (U o))) (.inRegion lq rest::kk)) C,ends V V,λM E _=>?_,λt r F j n2 n2' n3 n4 l n6 _ _ _=>?_⟩
  ·subst E;rw[hP];exact ahY (main:=Z) (b:=aY 41) (T:=T) (ds:=[]) (k:=kk) (cs:=C) (ops:=lq) (i:=2) (rest:=rest) (by rfl) (by rfl) (by k_ne) (by rfl) M
  have f:∀z,z≠14->(dj ⟨T,[]⟩ (U 14) (.pointer (o))).tmps[z]? =T[z]? :=by grind[BI,Option.some.inj]
  refine⟨t,⟨_,[]⟩,r,F,y,w,Z,B,L,J,o,I,rfl,_,rfl,⟨(by rw[tJ];exact R.size),λz Q c D S=>(f z Q).trans (R.rest z Q c D S),R.k.trans j,l.trans R.ch,λh=>(f 42 (by decide)).trans (R.v0 h),λh=>(f 43 (by decide)).trans (R.v1 h),
   λh=>?_,λh=>?_,(λ_ h e=>by subst e;have:=(oi _ (R.b3 h).2.1).1;omega),(λh=>by cases h),(R.n5)⟩⟩
  ·exact⟨get_put (by rw[R.size];decide),n6 rfl,bq R.k.left.size n2,by rw[n3,R.n4 rfl];rfl⟩
  ·obtain⟨p,m,u,q⟩:=R.b3 h;exact⟨(f 15 (by decide)).trans p,j.own _ m,u,(g t j _ m).trans q⟩
 |3,_=>
  simp at d;subst d;refine⟨by cases y<;>cases w<;>cases A<;>cases L<;>cases J<;>rfl,?_⟩
  refine H.xu (m:=Z) rfl rfl (.own 0) (.inl rfl) λo=>?_;refine⟨G ((aY 41).at (dj ⟨T,[]⟩ (U 15) (.pointer (U o))) (.inRegion lq rest::kk)) C,ends V V,λM E _=>?_,λt r F j n2 n2' n3 n4 l n6 _ _ _=>?_⟩
  ·subst E;rw[hP];exact ahY (main:=Z) (b:=aY 41) (T:=T) (ds:=[]) (k:=kk) (cs:=C) (ops:=lq) (i:=3) (rest:=rest) (by rfl) (by rfl) (by k_ne) (by rfl) M
  have f:∀z,z≠15->(dj ⟨T,[]⟩ (U 15) (.pointer (o))).tmps[z]? =T[z]? :=by grind[BI,Option.some.inj]
  refine⟨t,⟨_,[]⟩,r,F,y,w,A,Z,L,J,N,o,rfl,_,rfl,⟨(by rw[tJ];exact R.size),λz Q c D S=>(f z c).trans (R.rest z Q c D S),R.k.trans j,l.trans R.ch,λh=>(f 42 (by decide)).trans (R.v0 h),λh=>(f 43 (by decide)).trans (R.v1 h),
   λh=>?_,λh=>?_,(λh _ e=>by subst e;have:=(oi _ (R.b2 h).2.1).1;omega),(R.n4),(λh=>by cases h)⟩⟩
  ·obtain⟨p,m,u,q⟩:=R.b2 h;exact⟨(f 14 (by decide)).trans p,j.own _ m,u,(g t j _ m).trans q⟩
  ·exact⟨get_put (by rw[R.size];decide),n6 rfl,bq R.k.left.size n2,by rw[n3,R.n5 rfl];rfl⟩
 |4,_=>
  simp at d;subst d;refine⟨by cases y<;>cases w<;>cases A<;>cases B<;>cases J<;>rfl,?_⟩
  obtain⟨p1,p2⟩:y=Z∧A=Z:=by grind
  obtain⟨p,m,u,q⟩:=R.b2 p2;refine H.walk_to (m:=Z) [N] [] rfl (by grind) (by simp) ⟨1,.inr ⟨rfl,λM P=>?_⟩⟩
  have W:=(P.1 N (by simp)).trans q
  have O:=FR (main:=Z) (b:=aY 41) (T:=T) (ds:=[]) (k:=kk) (cs:=C) (ops:=lq) (i:=4) (rest:=rest) (t:=14) (u:=42) (by rfl) (by rfl) (by k_ne) (by rfl) p (R.v0 p1) M W
  rw[hP,O.1];refine⟨HG W (by simp) λe he=>by grind,λw2 h2=>⟨rfl,λt tv r F j d1 l=>?_⟩⟩
  have avo:t.v.heap[N]? =(ends (x1) (y1)):=by
   rw[tv,h2.1 N (by simp),ow 1 _ (ow 0 _ W)]
   rfl
  have k2:Kept 0 [] s0 t:=by
   have n:=(R.k.more (O':=[N]) (by simp)).trans j
   exact⟨n.size,n.role,n.md,n.left,n.cls,λb E X _=>n.rest b E X λhm=>(by grind),n.nI,n.own,n.v2⟩
  refine⟨t,⟨T,[]⟩,r,F,y,w,A,B,Z,J,N,I,rfl,T,rfl,⟨R.size,R.rest,k2,l.trans R.ch,R.v0,R.v1,λh=>?_,λh=>?_,R.ne,(λh=>by grind),(R.n5)⟩⟩
  ·grind
  ·obtain⟨o1,o2,o3,o4⟩:=R.b3 h;exact⟨o1,j.own _ o2,o3,(zS j H.hold o2 (by simpa using λe=>R.ne p2 h e.symm)).trans o4⟩
 |5,_=>
  simp at d;subst d;refine⟨by cases y<;>cases w<;>cases A<;>cases B<;>cases L<;>rfl,?_⟩
  obtain⟨p1,p2⟩:w=Z∧B=Z:=by grind
  obtain⟨p,m,u,q⟩:=R.b3 p2;have q4':s.v.heap[I]? =(ends V V):=q;refine H.walk_to (m:=Z) [I] [] rfl (by grind) (by simp) ⟨1,.inr ⟨rfl,λM P=>?_⟩⟩
  have W:=(P.1 I (by simp)).trans q4'
  have O:=FR (main:=Z) (b:=aY 41) (T:=T) (ds:=[]) (k:=kk) (cs:=C) (ops:=lq) (i:=5) (rest:=rest) (t:=15) (u:=43) (by rfl) (by rfl) (by k_ne) (by rfl) p (R.v1 p1) M W
  rw[hP,O.1];refine⟨HG W (by simp) λe he=>by grind,λw2 h2=>⟨rfl,λt tv r F j d1 l=>?_⟩⟩
  have avo:t.v.heap[I]? =(ends (x2) (y2)):=by
   rw[tv,h2.1 I (by simp),ow 1 _ (ow 0 _ W)]
   rfl
  have k2:Kept 0 [] s0 t:=by
   have n:=(R.k.more (O':=[I]) (by simp)).trans j
   exact⟨n.size,n.role,n.md,n.left,n.cls,λb E X _=>n.rest b E X λhm=>(by grind),n.nI,n.own,n.v2⟩
  refine⟨t,⟨T,[]⟩,r,F,y,w,A,B,L,Z,N,I,rfl,T,rfl,⟨R.size,R.rest,k2,l.trans R.ch,R.v0,R.v1,λh=>?_,λh=>?_,R.ne,(R.n4),(λh=>by grind)⟩⟩
  ·obtain⟨o1,o2,o3,o4⟩:=R.b2 h;exact⟨o1,j.own _ o2,o3,(zS j H.hold o2 (by simpa using λe=>R.ne h p2 e)).trans o4⟩
  grind
end
noncomputable def nx:List eS:=[.inLoop kB,lI 0,bD (cP 10)]
theorem aoT(t):lZ (aC.follows mE) lq t=wF .any lq 6 t #[ai,ai,ai,ai,ai,ai] []:=by
 have b:aC.follows mE=Z:=by kernel_rfl
 have a:sH 6 ai= #[ai,ai,ai,ai,ai,ai]:=rfl;simp only[lZ,b,Bool.true_or,iM,Region.linearise,am3,a]
section
variable {K:fy} {C:List aX}
theorem to9{T}{w}:
  cH aC Z (L ([]++[])) (DH [] []) (λg w=>∃t,g=G ((aY 41).at ⟨T,[]⟩ (aP lq (wF .any lq 6 t #[ai,ai,ai,ai,ai,ai] [])::[bD (cP 9)])) C) 3 (G ((aY 41).at ⟨T,[]⟩ (aP mu []::vU)) C) w:=by
 have b:=trivial;simp only[vU];refine jT (n:=1) ?_;u_c N A b;refine I (λ_ a=>?_);replace b:=A b a;have c:cP 8=eE (dQ 9 lq Z) (cP 9):=by kernel_rfl
 rw[c];refine jT (n:=1) ?_;u_c D A b;refine I (λ_ a=>?_);replace b:=A b a;u_in A b;rw[stepG_region_draw];simp only[eI,aoT];exact⟨⟨rfl,rfl,rfl,rfl,λ_ _=>rfl,λe d=>by grind⟩,I λ_ _=>⟨_,rfl⟩⟩
theorem axz{T}{w}:
  cH aC Z (L ([]++[])) (DH [] []) (λg w=>g=G ((aY 41).at ⟨T,[]⟩ (bD kB::nx)) C) 5 (G ((aY 41).at ⟨T,[]⟩ (aP lq []::[bD (cP 9)])) C) w:=by
 have a:=trivial;refine jT (n:=1) ?_;u_c N A a;refine I (λ_ b=>?_);replace a:=A a b;have c:cP 9=eE (.block 0 (.loop kB)) (cP 10):=by kernel_rfl
 rw[c];refine dG ?_;u_c D A a;u_c GL A a;u_c stepG_loop A a;exact I λ_ _=>rfl
theorem apv(v:K.P=aC){s}{T}{e8 e9 x1 y x2 p}(H:Ok K 0 s (G ((aY 41).at ⟨T,[]⟩ (.inRegion mu []::vU)) C))(L:T.size=87)(N:T[8]? =U (.pointer (e8))∧T[9]? =U (.pointer (e9)))(d:Rb s.v (s.D 0).own e8 e9 x1 y x2 p):
  ∃t l c b,s.runs K.P t∧Ok K 0 t (G ((aY 41).at ⟨l,[]⟩ (.code kB::nx)) C)∧Kept 0 [] s t∧t.ch=s.ch∧l.size=87∧(∀z,z≠14->z≠15->z≠42->z≠43->l[z]? =T[z]?)∧(l[14]? =U (.pointer (c))∧l[15]? =U (.pointer (b)))∧
   (c∈(t.D 0).own∧b∈(t.D 0).own∧c≠b∧s.v<=c∧s.v<=b)∧t.v.heap[c]? =(ends (x1) (y))∧t.v.heap[b]? =(ends (x2) (p)):=by
 obtain⟨B,_,X,F,⟨n,rfl⟩,e,d1,c1⟩:=H.walk (n:=3) (O:=[]) (Rd:=[]) (Stop:=λg w=>∃t,g=G ((aY 41).at ⟨T,[]⟩ (.inRegion lq (wF .any lq 6 t #[ai,ai,ai,ai,ai,ai] [])::[.code (cP 9)])) C) (λg w h=>by obtain⟨_,rfl⟩:=h;rfl) (by grind[to9]) (by simp) (by simp)
 obtain⟨s2,a2,l2,M,A,⟨o,m,q,x,r,u,f2,Q,rfl,J,rfl,R⟩,j⟩:=Ok.drawn (K:=K) (h:=0) (b:=aY 41) (k:=[.code (cP 9)]) (cs:=C) (ops:=lq) (J:=J9 B T x1 y x2 p) (amy v F L N (⟨⟨(zS e H.hold d.2.1 (by simp)).trans d.1.1,(zS e H.hold d.2.2.1 (by simp)).trans d.1.2⟩,e.own _ d.2.1,e.own _ d.2.2.1,d.2.2.2⟩)) 6 n #[ai,ai,ai,ai,ai,ai] ⟨T,[]⟩ B
  ⟨ai,ai,ai,ai,ai,ai,0,0,rfl,T,rfl,⟨L,λ_ _ _ _ _=>rfl,Kept.refl _ _ _,rfl,(nofun),(nofun),(nofun),(nofun),(nofun),λ_=>rfl,λ_=>rfl⟩⟩ F
 have f:o=Z∧m=Z∧q=Z∧x=Z∧r=Z∧u=Z:=by
  rcases j with h|h
  ·have:=aa8 o m q x r u;rw[h] at this;simpa[QD,and_assoc] using this
  ·revert h;cases o<;>cases m<;>cases q<;>cases x<;>cases r<;>cases u<;>decide
 obtain⟨rfl,rfl,rfl,rfl,rfl,rfl⟩:=f;obtain⟨D,_,r3,S,rfl,i,d3,c3⟩:=A.walk (n:=5) (O:=[]) (Rd:=[]) (Stop:=λg w=>g=G ((aY 41).at ⟨J,[]⟩ (.code kB::nx)) C) (λg w h=>by rw[h];rfl) (by grind[axz]) (by simp) (by simp)
 obtain⟨a,E,p3,p4⟩:=R.b2 rfl;obtain⟨O,I,q3,W⟩:=R.b3 rfl;have P:=e.left.size;exact⟨D,J,f2,Q,(X.trans M).trans r3,S,(e.trans R.k).trans i,c3.trans (R.ch.trans c1),R.size,R.rest,⟨a,O⟩,⟨i.own _ E,i.own _ I,R.ne rfl rfl,by omega,by omega⟩,(zS i A.hold E (by simp)).trans p4,(zS i A.hold I (by simp)).trans W⟩
end
theorem PZ{P}{main}{b:aX}{a}{d}{fn}{t u}{c}{cs}{w}{K}(f:b.kind=er)(i:a.defers=[])(g:P.funcs[b.fn]? =U fn)(e:fn.results= #[.tmp t,.tmp u])
  (h:K (G (c.finish (bO #[a.tmps.getD t ak,a.tmps.getD u ak])) cs) w #[]):(bZ P main (G {b.at a d with mode:=fC} (c::cs)) w).goes K:=by
 rw[asT f i g (results_tmp2 e _ P w) (events_results_tmp2 e _ _)];exact h
section
variable {fs:Array dV} {c:aX} {C:List aX}
noncomputable def zO:Code:=eE (dQ 903 NW ai) (eE (.block 0 (.loop ni)) tZ)
set_option maxHeartbeats 1000000 in
theorem asG (d:fs[41]? =uy) {T} {ops} (P:T.size=87) (e:T[6]? =U (Y aH 0)∧T[7]? =U (Y aH 0)∧T[22]? =U (cz Z)) {w} (a:gd 1 w):
  ∃n,cH (J aC fs) Z i zB (λg w=>gd 0 w∧g=G (c.finish (bO #[Y aH 0,Y aH 0])) C) n (G ((aY 41).at ⟨T,[]⟩ [aP ops [],bD (eE wJ wU)]) (c::C)) w:=by
 refine⟨620,?_⟩;obtain⟨v0,v1,v2,v3,v4,v5,v6,v7,v8,v9,v10,E,v12,lK,oQ,QW,oP,oO,Q2,lJ,v20,v21,Q,oN,q,r,x,Q3,v28,O,QX,v31,tn,W,t,oM,p,v37,oL,oK,v40,oJ,oI,oH,S,mQ,V,oG,oF,v49,v,v51,Qw,l,vv,oE,mP,B,H,v59,mO,oD,oC,o,mM,y,mL,h,u,z,Q1,QZ,v72,X,s,L,v76,vu,Q0,R,k,F,M,mK,QY,v85,j,rfl⟩:=oy T P;simp only[nW,pU,nV,ec] at e;obtain⟨rfl,rfl,rfl⟩:=e;unfold gd at a;simp only[wJ,Gi,eH];refine lift ?_;u_c N m a;u_c D m a;u_cond Z m a;u_c D m a;u_reg m a;refine I (λ_ b=>?_);replace a:=m a b;u_in m a;refine fT rfl rfl (by k_ne) (λK A=>?_)
 have h3:=Nn fs;have qS:=gp (o:=0) a rfl;have hz:=ve 0 a;go_simp;have f:=Ur (Y aH 0) a;refine A _ _ ⟨f.1,?_⟩;replace a:=f.2;refine lift ?_;u_c N m a;u_c stepG_ret' m a;refine I (λ_ b=>?_);replace a:=m a b;u_in m a;refine PZ (t:=6) (u:=7) rfl rfl d (by kernel_rfl) ⟨.refl _,?_⟩
 exact I λw1 h1=>⟨m a h1,rfl⟩
set_option maxHeartbeats 1000000 in
theorem asE {T} {ops} (K:T.size=87) (b:T[22]? =U (cz ai)) {w} (a:gd 1 w):
  ∃n,cH (J aC fs) Z i zB (λg w=>gd 1 w∧g=G ((aY 41).at ⟨T,[]⟩ [aP (eM (cP 7)) [0,1,2,3,4,5,6,7],bD zO]) C) n (G ((aY 41).at ⟨T,[]⟩ [aP ops [],bD (eE wJ wU)]) C) w:=by
 refine⟨620,?_⟩;obtain⟨v0,v1,v2,v3,v4,v5,v6,v7,v8,v9,v10,z,v12,lK,oQ,QX,oP,oO,S,lJ,v20,V,L,oN,QZ,o,t,E,v28,Q2,y,v31,Y,Q,q,oM,l,v37,oL,oK,v40,oJ,oI,oH,Q3,mQ,P,oG,oF,Q1,s,v51,j,QY,W,oE,mP,x,B,v59,mO,oD,oC,k,mM,u,mL,d,r,v,Q0,e,v72,R,p,F,v76,X,O,M,h,A,H,mK,QW,v85,f,rfl⟩:=oy T K;simp only[nW,pU,nV,ec] at b;subst b;unfold gd at a;simp only[wJ,Gi,eH,wU,eM,cP,eG,nG,fO];refine dG ?_;u_c N m a;u_c D m a;u_cond ai m a;u_c kD m a;u_c D m a;u_reg m a;exact I λw1 h1=>⟨m a h1,rfl⟩
theorem asL{T}{ops}{w}:
  cH (J aC fs) Z i zB (λg w=>g=G ((aY 41).at ⟨T,[]⟩ [bD wJ,bD wU]) C) 2 (G ((aY 41).at ⟨T,[]⟩ [aP ops [],bD (eE wJ wU)]) C) w:=by
 have b:=trivial;have a:∀{w d:av},True->i w d->True:=λh _=>h;refine dG ?_;u_c N a b;u_c D a b
 grind[Goes.stop]
theorem alM{Done}(b:mm (J aC fs) Done)(a:∀g w,¬Done (G g C) w){T}{ops}{w}(f:Term (J aC fs) Done (G ((aY 41).at ⟨T,[]⟩ [aP ops [],bD (eE wJ wU)]) C) w):∃r,T.getD 22 ak=cz r:=by obtain⟨_,n,rfl,k,_,_⟩:=Term.goes b LF.refl LF.trans LF.zX (λ_ _ _ h=>h) asL f;refine nq λd=>k.DL b (λm j i l=>?_) (a _ _);exact ag9 (a:=⟨T,[]⟩) (c:=cu 22) (λt e=>d ⟨t,e⟩) j i l
set_option maxHeartbeats 1000000 in
theorem apr {T} {ops} (QY:T.size=87) (d:T[22]? =U (cz Z)) (w):
  ∃n,cH aC Z (L ([]++[])) (DH [] []) (λg w=>g=G (c.finish (bO #[Y aH 0,Y aH 0])) C) n (G ((aY 41).at ⟨T,[]⟩ (aP ops []::B9)) (c::C)) w:=by
 refine⟨620,?_⟩;obtain⟨v0,v1,v2,v3,v4,v5,v6,v7,v8,v9,v10,QW,v12,lK,oQ,J,oP,oO,Q0,lJ,v20,W,M,oN,o,p,u,F,v28,K,z,v31,Q1,R,r,oM,m,v37,oL,oK,v40,oJ,oI,oH,O,mQ,Q,oG,oF,v49,t,v51,k,j,X,oE,mP,y,QX,v59,mO,oD,oC,l,mM,v,mL,e,s,x,V,f,v72,S,q,H,v76,Q2,P,Q3,i,B,QZ,mK,E,v85,h,rfl⟩:=oy T QY;simp only[nW,pU,nV,ec] at d;subst d;simp only[B9,cP,eG,nG,fO];have a:=trivial;refine lift ?_;u_c N A a;u_cond Z A a;u_c D A a;u_reg A a;u_op A a;u_op A a;u_c N A a;u_c stepG_ret' A a;refine I (λ_ b=>?_);replace a:=A a b;u_in A a;refine PZ (t:=6) (u:=7) rfl rfl func41 (by kernel_rfl) ⟨dh_none (by simp),?_⟩
 exact I λw1 h1=>rfl
end
noncomputable def gR:Array dD:=eM kB
noncomputable def zW:Array dD:=eM jW
noncomputable def zV:Array dD:=eM (eG 1 jW)
noncomputable def rS:Array dD:=eM (eG 2 jW)
noncomputable def abH:Array dD:=eM (eG 3 jW)
noncomputable def TB:Array dD:=eM (eG 4 jW)
noncomputable def uM:Code:=eE (dQ 11 (eM jW) ai) (eE (dQ 12 (eM (eG 1 jW)) ai) (eE (dQ 905 mX ai) (eE (.cond (cu 70) (dQ 906 BP ai) (dQ 907 BM ai)) (dQ 908 xk ai))))
noncomputable def jA:List eS:=[.inLoop ni,lI 0,bD tZ]
noncomputable def An:List eS:=bD (eE (.cond (cu 62) .skip (.exit 0)) (.block 1 uM))::jA
noncomputable def Et:List eS:=bD (.cond (cu 62) .skip (.exit 0))::bD (.block 1 jW)::nx
noncomputable def U6:List eS:=bD (eG 1 uM)::lI 1::jA
noncomputable def U4:List eS:=bD (eG 1 jW)::lI 1::nx
noncomputable def U5:List eS:=bD (eG 2 uM)::lI 1::jA
noncomputable def U3:List eS:=bD (eG 2 jW)::lI 1::nx
noncomputable def qL:List eS:=bD (eG 3 uM)::lI 1::jA
noncomputable def tO:List eS:=bD (eG 3 jW)::lI 1::nx
theorem eL:ni=eE (dQ 10 gR ai) (eE (.cond (cu 62) .skip (.exit 0)) (.block 1 uM)):=rfl
theorem eR:kB=eE (eE (dQ 10 gR ai) (.cond (cu 62) .skip (.exit 0))) (.block 1 jW):=by kernel_rfl
theorem iR0:jW=eE (dQ 11 zW ai) (eG 1 jW):=by kernel_rfl
theorem iR1:eG 1 jW=eE (dQ 12 zV ai) (eG 2 jW):=by kernel_rfl
theorem iR2:eG 2 jW=eE (dQ 13 rS ai) (eG 3 jW):=by kernel_rfl
theorem MD:gR.size=19:=by kernel_rfl
theorem Yi:zW.size=3:=by kernel_rfl
theorem z12:zV.size=5:=by kernel_rfl
theorem IX:rS.size=4:=by kernel_rfl
instance:Qt i sZ:=⟨i.refl,i.refl⟩
theorem j{w w1}(h:True)(r:i w w1):True:=trivial
section
variable {C:List aX} {fs:Array dV} {T:Array ay} {w:av}
theorem av6:cH (J aC fs) Z i sZ (λg w=>g=G ((aY 41).at ⟨T,[]⟩ (aP gR [0,1,2,3,4,5,6,7,8,9,10,11,12,13,14,15,16,17,18]::An)) C) 5 (G ((aY 41).at ⟨T,[]⟩ (bD ni::jA)) C) w:=by
 have a:=trivial;rw[eL];refine dG ?_;u_c D j a;u_in j a;rw[si,MD];simp only[eI];refine⟨by u_nil,?_⟩
 exact I λ_ _=>rfl
theorem Gh(h:dW ⟨T,[]⟩ (cu 62)=ai):cH (J aC fs) Z i sZ (λg w=>g=G ((aY 41).at ⟨T,[]⟩ ([bD tZ])) C) 8 (G ((aY 41).at ⟨T,[]⟩ (aP gR []::An)) C) w:=by
 have a:=trivial;refine dG ?_;u_c N j a;simp only[An,jA];u_c D j a;u_in j a;rw[GK (t:=ai) h];simp only[eI,nT,↓reduceIte];refine⟨by u_nil,?_⟩
 u_exit j a
 grind[Goes.stop]
theorem inL(h:dW ⟨T,[]⟩ (cu 62)=Z):cH (J aC fs) Z i sZ (λg w=>g=G ((aY 41).at ⟨T,[]⟩ (aP zW [0,1,2]::U6)) C) 12 (G ((aY 41).at ⟨T,[]⟩ (aP gR []::An)) C) w:=by
 have a:=trivial;refine dG ?_;u_c N j a;simp only[An];u_c D j a;u_in j a;rw[GK (t:=Z) h];simp only[eI,↓reduceIte];refine⟨by u_nil,?_⟩
 u_c kD j a;u_c GL j a;rw[show uM=eE (dQ 11 zW ai) (eG 1 uM) from rfl];u_c D j a;u_in j a;rw[si,Yi];simp only[eI];refine⟨by u_nil,?_⟩
 exact I λ_ _=>rfl
theorem alE:cH (J aC fs) Z i sZ (λg w=>g=G ((aY 41).at ⟨T,[]⟩ (aP zV [0,1,2,3,4]::U5)) C) 6 (G ((aY 41).at ⟨T,[]⟩ (aP zW []::U6)) C) w:=by
 have a:=trivial;refine dG ?_;u_c N j a;simp only[U6];rw[show eG 1 uM=eE (dQ 12 zV ai) (eG 2 uM) from rfl];u_c D j a;u_in j a;rw[si,z12];simp only[eI];refine⟨by u_nil,?_⟩
 exact I λ_ _=>rfl
theorem alC:cH (J aC fs) Z i sZ (λg w=>g=G ((aY 41).at ⟨T,[]⟩ (aP mX [0,1]::qL)) C) 6 (G ((aY 41).at ⟨T,[]⟩ (aP zV []::U5)) C) w:=by
 have a:=trivial;refine dG ?_;u_c N j a;simp only[U5];rw[show eG 2 uM=eE (dQ 905 mX ai) (eG 3 uM) from rfl];u_c D j a;u_in j a;rw[si,show mX.size=2 from rfl];simp only[eI];refine⟨by u_nil,?_⟩
 exact I λ_ _=>rfl
theorem av5:cH aC Z (L ([]++[])) (DH [] []) (λg w=>g=G ((aY 41).at ⟨T,[]⟩ (aP gR [0,1,2,3,4,5,6,7,8,9,10,11,12,13,14,15,16,17,18]::Et)) C) 5 (G ((aY 41).at ⟨T,[]⟩ (bD kB::nx)) C) w:=by
 have a:=trivial;rw[eR];refine dG ?_;u_c D A a;u_c D A a;u_in A a;rw[si,MD];simp only[eI];refine⟨by u_nil,?_⟩
 exact I λ_ _=>rfl
theorem abE(h:dW ⟨T,[]⟩ (cu 62)=ai):cH aC Z (L ([]++[])) (DH [] []) (λg w=>g=G ((aY 41).at ⟨T,[]⟩ ([bD (cP 10)])) C) 8 (G ((aY 41).at ⟨T,[]⟩ (aP gR []::Et)) C) w:=by
 have a:=trivial;refine dG ?_;u_c N A a;simp only[Et,nx];u_in A a;rw[GK (t:=ai) h];simp only[eI,nT,↓reduceIte];refine⟨by u_nil,?_⟩
 u_exit A a
 grind[Goes.stop]
theorem inR(h:dW ⟨T,[]⟩ (cu 62)=Z):cH aC Z (L ([]++[])) (DH [] []) (λg w=>g=G ((aY 41).at ⟨T,[]⟩ (aP zW [0,1,2]::U4)) C) 12 (G ((aY 41).at ⟨T,[]⟩ (aP gR []::Et)) C) w:=by
 have a:=trivial;refine dG ?_;u_c N A a;simp only[Et];u_in A a;rw[GK (t:=Z) h];simp only[eI,↓reduceIte];refine⟨by u_nil,?_⟩
 u_c kD A a;u_c GL A a;rw[iR0];u_c D A a;u_in A a;rw[si,Yi];simp only[eI];refine⟨by u_nil,?_⟩
 exact I λ_ _=>rfl
theorem alD:cH aC Z (L ([]++[])) (DH [] []) (λg w=>g=G ((aY 41).at ⟨T,[]⟩ (aP zV [0,1,2,3,4]::U3)) C) 6 (G ((aY 41).at ⟨T,[]⟩ (aP zW []::U4)) C) w:=by
 have a:=trivial;refine dG ?_;u_c N A a;simp only[U4];rw[iR1];u_c D A a;u_in A a;rw[si,z12];simp only[eI];refine⟨by u_nil,?_⟩
 exact I λ_ _=>rfl
theorem alB:cH aC Z (L ([]++[])) (DH [] []) (λg w=>g=G ((aY 41).at ⟨T,[]⟩ (aP rS [0,1,2,3]::tO)) C) 6 (G ((aY 41).at ⟨T,[]⟩ (aP zV []::U3)) C) w:=by
 have a:=trivial;refine dG ?_;u_c N A a;simp only[U3];rw[iR2];u_c D A a;u_in A a;rw[si,IX];simp only[eI];refine⟨by u_nil,?_⟩
 exact I λ_ _=>rfl
theorem azg:cH (J aC fs) Z i sZ (λg w=>g=G ((aY 41).at ⟨T,[]⟩ (bD (.cond (cu 62) .skip (.exit 0))::bD (.block 1 uM)::jA)) C) 3 (G ((aY 41).at ⟨T,[]⟩ (aP gR []::An)) C) w:=by
 have a:=trivial;refine dG ?_;u_c N j a;simp only[An];u_c D j a
 grind[Goes.stop]
theorem alL{Done}(b:mm (J aC fs) Done)(a:∀d w,¬Done (G d C) w)(c:Term (J aC fs) Done (G ((aY 41).at ⟨T,[]⟩ (aP gR []::An)) C) w):∃r,dW ⟨T,[]⟩ (cu 62)=cz r:=by
 obtain⟨_,j,rfl,e,_,_⟩:=Term.goes b i.refl i.trans (λ_ _ h=>h) (λ_ _ _ h=>h) azg c;refine nq λf=>e.DL b (λg k m l=>?_) (a _ _)
 grind[ag9]
theorem asP{k:List eS}(e:T.size=87){x y}(h:T[0]? =U x∧T[1]? =U y):cH (J aC fs) Z i sZ (λg w=>g=G ((aY 41).at ⟨(T.setIfInBounds 14 x).setIfInBounds 15 y,[]⟩ (bD ni::jA)) C) 20 (G ((aY 41).at ⟨T,[]⟩ [aP mu [],bD zO]) C) w:=by
 have a:=trivial;have d:dW ⟨T,[]⟩ (cu 0)=x:=getD_some h.1;have c:dW ⟨T.setIfInBounds 14 x,[]⟩ (cu 1)=y:=getD_some ((l (by decide)).trans h.2)
 refine jT (n:=3) ?_;u_c N j a;simp only[zO];u_c D j a;u_in j a;rw[si,show NW.size=2 from rfl,show lW 2=[0,1] from rfl];simp only[eI];refine⟨by u_nil,?_⟩
 refine I (λ_ b=>?_);replace a:=j a b;u_in j a;rw[qF (v:=x) (o:=eH (U 14) (oh (cu 0)) 0) (by rfl) (by rfl) (by k_ne) (by simp only[cT,eH,d];rfl)]
 simp only[eI];refine⟨i.refl _,?_⟩;u_in j a;rw[qF (v:=y) (o:=eH (U 15) (oh (cu 1)) 0) (by rfl) (by rfl) (by k_ne) (by simp only[cT,eH,dj,c];rfl)]
 simp only[eI];refine⟨i.refl _,?_⟩;refine dG ?_;u_c N j a;u_c D j a;u_c GL j a;u_c stepG_loop j a;exact I λ_ _=>rfl
end
noncomputable def U2:List eS:=lI 1::nx
structure qn(v:av)(O:List Nat)(e8 e9 f14 f15:Nat)(x1 y1 x2 y2 p q p' q':Nat):Prop where
 c8:v.heap[e8]? =U (ends (U x1) (U y1))
 c9:v.heap[e9]? =U (ends (U x2) (U y2))
 pE:v.heap[f14]? =U (ends (U p) (U q))
 pD:v.heap[f15]? =U (ends (U p') (U q'))
 m8:e8∈O
 m9:e9∈O
 m14:f14∈O
 m15:f15∈O
 n1:f14≠f15
 n2:e8≠f14∧e8≠f15∧e9≠f14∧e9≠f15
theorem qn.rely{v w}{O}{e8 e9 b a x1 d x2 f p q c e}(B:qn v O e8 e9 b a x1 d x2 f p q c e)(r:L O v w):qn w O e8 e9 b a x1 d x2 f p q c e:=
 ⟨(r.1 _ B.m8).trans B.c8,(r.1 _ B.m9).trans B.c9,(r.1 _ B.m14).trans B.pE,(r.1 _ B.m15).trans B.pD,B.m8,B.m9,B.m14,B.m15,B.n1,B.n2⟩
theorem qn.keep{v w}{O O'}{e8 e9 c a x1 f x2 h p q e g}(B:qn v O e8 e9 c a x1 f x2 h p q e g)(r:∀b∈O,w.heap[b]? =v.heap[b]?)(d:∀b∈O,b∈O'):qn w O' e8 e9 c a x1 f x2 h p q e g:=
 ⟨(r _ B.m8).trans B.c8,(r _ B.m9).trans B.c9,(r _ B.m14).trans B.pE,(r _ B.m15).trans B.pD,d _ B.m8,d _ B.m9,d _ B.m14,d _ B.m15,B.n1,B.n2⟩
def vj(T T0:Array ay):Prop:=∀z,z≠12->z≠13->(z<69∨80<=z)->T[z]? =T0[z]?
def avf(C:List aX)(T0:Array ay)(e8 e9 f14 f15 x1 y1 x2 y2 p q p' q':Nat)(O:List Nat)(g2:aU)(w:av):Prop:=
 ∃T,g2=G ((aY 41).at ⟨T,[]⟩ (aP TB [2,3,4,5,6,7]::U2)) C∧T.size=87∧vj T T0∧T[76]? =U (cY (U q))∧qn w O e8 e9 f14 f15 x1 y1 x2 y2 p q p' q'
def XB(C:List aX)(T0:Array ay)(e8 e9 f14 f15 x1 y1 x2 y2 p q p' q':Nat):FB where
 c:=q
 z:=aD V 0 0
 ok:=Z
 home:=avf C T0 e8 e9 f14 f15 x1 y1 x2 y2 p q p' q'
 Jh O g w w1 r h:=by obtain⟨T,h1,h2,h3,h4,E⟩:=h;exact⟨T,h1,h2,h3,h4,E.rely r⟩
theorem uB{v w}{O}{e8 e9 b a x1 d x2 f p q c e}(B:qn v O e8 e9 b a x1 d x2 f p q c e)(r:L O v w):qn w O e8 e9 b a x1 d x2 f p q c e:=B.rely r
theorem rN{v w}{f}{o}(h:v.heap[f]? =U o)(r:L ([]++[f]) v w):w.heap[f]? =U o:=(r.1 f (by simp)).trans h
theorem P9{O}{w}{b}{cs}{ty}{o o'}{x x'}(h:w.heap[b]? =U (aF cs ty))(i:b∈O){es}(d:∀e∈es,∃a wr,e=⟨.cell a,wr,ai⟩∧a.block∈O):DO O w ((w.setCell ⟨b,o,V⟩ x).setCell ⟨b,o',V⟩ x') es:=by
 rw[Mi o x h];have f:({w with heap:=w.heap.setIfInBounds b (aF (cs.setIfInBounds o x) ty)}:av).heap[b]? =U (aF (cs.setIfInBounds o x) ty):=by grind
 rw[Mi o' x' f];refine⟨rfl,rfl,rfl,rfl,by simp,λc g=>?_,d⟩
 grind
theorem qn.aoG{w}{O}{e8 e9 d e x1 i x2 j p q h g}(B:qn w O e8 e9 d e x1 i x2 j p q h g)(a b):qn ((w.setCell d (cY (U a))).setCell ⟨d,1,V⟩ (cY (U b))) O e8 e9 d e x1 i x2 j a b h g:=by
 have f:∀c,c≠d->((w.setCell d (cY (a))).setCell ⟨d,1,V⟩ (cY (b))).heap[c]? =w.heap[c]? :=λc k=>(P9 (O:=[d]) (o:=0) (o':=1) (x:=cY (U a)) (x':=cY (U b)) (es:= #[]) B.pE (by simp) (by simp)).block c (by grind)
 exact⟨(f _ B.n2.1).trans B.c8,(f _ B.n2.2.2.1).trans B.c9,by rw[ow 1 _ (ow 0 _ B.pE)];rfl,(f _ B.n1.symm).trans B.pD,B.m8,B.m9,B.m14,B.m15,B.n1,B.n2⟩
theorem qn.aoF{w}{O}{e8 e9 e d x1 g x2 h p q j i}(B:qn w O e8 e9 e d x1 g x2 h p q j i)(a b):qn ((w.setCell d (cY (U a))).setCell ⟨d,1,V⟩ (cY (U b))) O e8 e9 e d x1 g x2 h p q a b:=by
 have f:∀c,c≠d->((w.setCell d (cY (a))).setCell ⟨d,1,V⟩ (cY (b))).heap[c]? =w.heap[c]? :=λc k=>(P9 (O:=[d]) (o:=0) (o':=1) (x:=cY (U a)) (x':=cY (U b)) (es:= #[]) B.pD (by simp) (by simp)).block c (by grind)
 exact⟨(f _ B.n2.2.1).trans B.c8,(f _ B.n2.2.2.2).trans B.c9,(f _ B.n1).trans B.pE,by rw[ow 1 _ (ow 0 _ B.pD)];rfl,B.m8,B.m9,B.m14,B.m15,B.n1,B.n2⟩
theorem amV{T}(a b c d):vj ((((T.setIfInBounds 72 a).setIfInBounds 73 b).setIfInBounds 75 c).setIfInBounds 76 d) T:=λz _ _ e=>by rw[l (by omega),l (by omega),l (by omega),l (by omega)]
section
variable {K:fy} {C:List aX}
set_option maxHeartbeats 4000000 in
theorem am5 {T} {e8 e9 b c x1 o x2 n p q m g} {O} {w} (hT:T.size=87) (hs:T[14]? =U (.pointer (b))∧T[15]? =U (.pointer (c))) (B:qn w O e8 e9 b c x1 o x2 n p q m g):
  qi aC Z (XB C T e8 e9 b c x1 o x2 n m g p q) 41 O (G ((aY 41).at ⟨T,[]⟩ (.inRegion rS []::tO)) C) w:=by
 refine .inl ⟨40,rfl,?_⟩;obtain⟨v0,v1,v2,v3,v4,v5,v6,v7,v8,v9,v10,Q2,v12,lK,oQ,FJ,oP,oO,Dr,lJ,v20,v21,Dq,oN,H,QY,P,MP,v28,FI,Q0,v31,tn,Dp,L,oM,F,v37,oL,oK,v40,oJ,oI,oH,FH,mQ,v46,oG,oF,v49,QW,v51,QX,A,vv,oE,mP,S,Q3,v59,mO,oD,oC,E,mM,Q,mL,u,M,R,v70,v,v72,Dn,J,v75,v76,vu,FG,Dm,z,W,MK,mK,Q1,v85,y,j⟩:=oy T hT;generalize t:XB C T e8 e9 b c x1 o x2 n m g p q=ch;rw[j] at hs⊢;simp only[nW,pU,nV,ec] at hs;obtain⟨rfl,rfl⟩:=hs;simp only[tO,jW,kB,cP,eG,nG,fO];refine jT (n:=3) ?_;u_c N uB B;u_c D uB B;u_reg uB B;refine I (λ_ a=>?_);replace B:=uB B a;u_in uB B;refine fT rfl rfl (by k_ne) (λK i=>?_)
 have s:=gp (o:=0) B.pD rfl;have k:=gp (o:=1) B.pD rfl;go_simp;refine i _ _ ⟨⟨rfl,rfl,rfl,rfl,rfl,λ_ _=>rfl,λe d=>?_⟩,?_⟩
 ·have f:=kN d;simp[go_sem, *] at f;rcases f with rfl|rfl<;>exact⟨_,_,rfl,B.m15⟩
 u_in uB B;refine fT rfl rfl (by k_ne) (λK i=>?_)
 have s:=gp (o:=0) B.pE rfl;have k:=gp (o:=1) B.pE rfl;go_simp;refine i _ _ ⟨⟨rfl,rfl,rfl,rfl,rfl,λ_ _=>rfl,λe d=>?_⟩,?_⟩
 ·have f:=kN d;simp[go_sem, *] at f;rcases f with rfl|rfl<;>exact⟨_,_,rfl,B.m14⟩
 u_in uB B;rw[(FR (main:=Z) (t:=14) (u:=72) (by rfl) (by rfl) (by k_ne) (by rfl) (by rfl) (by rfl) _ B.pE).1]
 simp only[eI];refine⟨P9 B.pE B.m14 λe d=>?_,?_⟩
 ·obtain⟨x,wr,l,r⟩:=(FR (main:=Z) (b:=aY 41) (k:=[]) (cs:=[]) (ops:=abH) (i:=2) (rest:=[]) (t:=14) (u:=72) (by rfl) (by rfl) (by k_ne) (by rfl) (by rfl) (by rfl) _ B.pE).2 e d
  exact⟨x,wr,l,by rw[r];exact B.m14⟩
 replace B:=B.aoG m g;walk_nrm;u_in uB B;rw[(FR (main:=Z) (t:=15) (u:=73) (by rfl) (by rfl) (by k_ne) (by rfl) (by rfl) (by rfl) _ B.pD).1]
 simp only[eI];refine⟨P9 B.pD B.m15 λe d=>?_,?_⟩
 ·obtain⟨x,wr,l,r⟩:=(FR (main:=Z) (b:=aY 41) (k:=[]) (cs:=[]) (ops:=abH) (i:=3) (rest:=[]) (t:=15) (u:=73) (by rfl) (by rfl) (by k_ne) (by rfl) (by rfl) (by rfl) _ B.pD).2 e d
  exact⟨x,wr,l,by rw[r];exact B.m15⟩
 replace B:=B.aoF p q;walk_nrm;refine jT (n:=3) ?_;u_c N uB B;u_reg uB B;u_op uB B;refine I (λ_ a=>?_);replace B:=uB B a;u_in uB B;refine fT rfl rfl (by k_ne) (λK i=>?_)
 have k:=gp (o:=1) B.pE rfl;go_simp;refine i _ _ ⟨⟨rfl,rfl,rfl,rfl,rfl,λ_ _=>rfl,λe d=>?_⟩,?_⟩
 ·have f:=kN d;simp[go_sem, *] at f;subst f;exact⟨_,_,rfl,B.m14⟩
 refine I λw1 l=>?_;subst t;refine⟨_,rfl,rfl,rfl,rfl,⟨_,rfl,rfl,?_,rfl,B.rely l⟩,λw2=>aa7 rfl rfl (by k_ne) rfl rfl w2⟩
 suffices h:∀X,X=((((T.setIfInBounds 72 (.agg #[.chan (U m),.chan (U g)])).setIfInBounds 73 (.agg #[.chan (U p),.chan (U q)])).setIfInBounds 75 (.pointer (U ⟨b,1,V⟩))).setIfInBounds 76 (.chan (U g)))->vj X T from h _ (by rw[j];rfl)
 grind[amV]
end
variable{K:fy}{C:List aX}
theorem amW{T}(a b c):vj (((T.setIfInBounds 69 a).setIfInBounds 70 b).setIfInBounds 71 c) T:=λz _ _ d=>by rw[l (by omega),l (by omega),l (by omega)]
theorem amU{T}(a b c d e f):vj ((((((T.setIfInBounds 77 a).setIfInBounds 74 b).setIfInBounds 78 c).setIfInBounds 79 d).setIfInBounds 12 e).setIfInBounds 13 f) T:=λz h g i=>by rw[l (by omega),l (by omega),l (by omega),l (by omega),l (by omega),l (by omega)]
set_option maxHeartbeats 4000000 in
theorem aoN {T} {b} {f q'} {d} {w} (O:T.size=87) (hs:T[12]? =U d∧T[15]? =U (.pointer (b))) (a:w.heap[b]? =(ends (U f) (U q'))):
  cH aC Z (L ([]++[b])) (DH [] [b]) (λg w=>g=G ((aY 41).at ⟨((T.setIfInBounds 69 (.pointer (b))).setIfInBounds 70 (.chan (f))).setIfInBounds 71 d,[]⟩ (.inRegion rS [3]::tO)) C) 6 (G ((aY 41).at ⟨T,[]⟩ (.inRegion rS [0,1,2,3]::tO)) C) w:=by
 obtain⟨v0,v1,v2,v3,v4,v5,v6,v7,v8,v9,v10,D,v12,lK,oQ,M,oP,oO,X,lJ,v20,Q1,P,oN,p,q,v,Q3,v28,N,B,v31,tn,V,s,oM,o,v37,oL,oK,v40,oJ,oI,oH,R,mQ,Q0,oG,oF,v49,u,v51,m,l,vv,oE,mP,A,F,v59,mO,oD,oC,n,mM,x,mL,h,t,y,Y,i,v72,W,r,J,v76,vu,S,Q,k,E,Q2,mK,H,v85,j,rfl⟩:=oy T O;simp only[nW,pU,nV,ec] at hs;obtain⟨rfl,rfl⟩:=hs;simp only[rS,tO,jW,kB,cP,eG,eM,nG,fO];refine jT (n:=1) ?_;u_op rN a;refine I (λ_ c=>?_);replace a:=rN a c;u_in rN a;refine fT rfl rfl (by k_ne) (λK z=>?_)
 have qS:=gp (o:=0) a rfl;go_simp;refine z _ _ ⟨⟨rfl,rfl,rfl,rfl,λ_ _=>rfl,λe he=>?_⟩,?_⟩
 ·have hm:=kN he;simp[go_sem, *] at hm
  grind
 refine dG ?_;u_op rN a;exact I λw1 h1=>rfl
theorem aoM{T}{a}{b}(hs:T[70]? =U (.chan (a))∧T[71]? =U b)(w):
  bZ aC Z (G ((aY 41).at ⟨T,[]⟩ (.inRegion rS [3]::tO)) C) w=.comm (G ((aY 41).at ⟨T,[]⟩ (.inRegion rS [3]::tO)) C) #[scase a b (.tuple #[])] Z .send w #[]:=
 aar (by rfl) (by rfl) (by k_ne) (by rfl) hs.1 hs.2 w
theorem aoL{T}:j0 (G ((aY 41).at ⟨T,[]⟩ (aP rS [3]::tO)) C) ak=G ((aY 41).at ⟨T,[]⟩ (aP rS []::tO)) C:=by rw[Js];rfl
set_option maxHeartbeats 4000000 in
theorem ahK {T} {x} {d} (O:T.size=87) (w):
  cH aC Z (L ([]++[])) (DH [] []) (λg w=>∃b,g=G ((aY 41).at ⟨b,[]⟩ (bD kB::nx)) C∧b.size=87∧vj b T∧b[12]? =U x∧b[13]? =U (cz d)) 20 (j0 (G ((aY 41).at ⟨T,[]⟩ (aP TB [2,3,4,5,6,7]::U2)) C) (recvd Z x d)) w:=by
 obtain⟨v0,v1,v2,v3,v4,v5,v6,v7,v8,v9,v10,D,v12,lK,oQ,M,oP,oO,Q0,lJ,v20,v21,P,oN,p,q,v,QW,v28,Q1,B,v31,tn,W,s,oM,o,v37,oL,oK,v40,oJ,oI,oH,S,mQ,V,oG,oF,v49,u,v51,m,l,vv,oE,mP,Q2,F,v59,mO,oD,oC,n,mM,y,mL,f,t,z,v70,i,v72,Y,r,J,v76,vu,a,R,k,E,Q3,mK,H,v85,j,e⟩:=oy T O;generalize hQ:(λ(g:aU) (w:av)=>∃b,g=G ((aY 41).at ⟨b,[]⟩ (bD kB::nx)) C∧b.size=87∧vj b T∧b[12]? =U x∧b[13]? =U (cz d))=Q;rw[e,Js];simp only[TB,U2,nx,jW,kB,cP,eG,eM,nG,fO,recvd,iM];have c:=trivial;walk_nrm;refine dG ?_;u_op A c;u_op A c;u_op A c;u_op A c;u_op A c;u_c N A c;u_c stepG_inBlock A c;u_c stepG_inLoop A c;refine I λw1 h1=>?_;subst hQ;refine⟨_,rfl,rfl,?_,rfl,rfl⟩
 suffices h:∀X,X=((((((T.setIfInBounds 77 (bO #[x,cz d])).setIfInBounds 74 (bO #[x,cz d])).setIfInBounds 78 x).setIfInBounds 79 (cz d)).setIfInBounds 12 x).setIfInBounds 13 (cz d))->vj X T from h _ (by rw[e];rfl)
 grind[amU]
variable{fs:Array dV}{T:Array ay}{w:av}
theorem asR(b:fs[59]? =f59){x y}(h:T[15]? =U x∧T[12]? =U y):cH (J aC fs) Z i sZ (λg w=>g=G (eO (J aC fs) 59 #[x,y] er) ((aY 41).at ⟨T,[]⟩ (aP mX [0,1]::qL)::C)) 3 (G ((aY 41).at ⟨T,[]⟩ (aP mX [0,1]::qL)) C) w:=by
 have f:dW ⟨T,[]⟩ (cu 15)=x:=getD_some h.1;have c:dW ⟨T,[]⟩ (cu 12)=y:=getD_some h.2;u_in j trivial;have e:cT (dW ⟨T,[]⟩) (eH (U 69) (.call {callee:=.value (.func 59),args:= #[cu 15,cu 12],argTypes:= #[77,79]}) 79)=iu 59 #[x,y]:=by
  show(do let d<-resolve (dW ⟨T,[]⟩) _ _;invoke d.target d.args:cy Next)=_
  have:(#[cu 15,cu 12]:Array iI).map (dW ⟨T,[]⟩)= #[x,y]:=by grind
  simp only[resolve,this];rfl
 rw[stepG_enter (f:=59) (args:= #[x,y]) (o:=eH (U 69) (.call {callee:=.value (.func 59),args:= #[cu 15,cu 12],argTypes:= #[77,79]}) 79) (by rfl) (by rfl) (by k_ne) (by rw[e];exact ahs b (by kernel_rfl) rfl _ _)]
 simp only[eI];exact⟨i.refl _,I λ_ _=>rfl⟩
theorem ayd{v}(b:∀p n c,v≠aD p n c)(w)(d):∃m,(rf (d+1) 79 v (aD V 0 0)).run (J aC fs) w=dL (.stuck m) w:=by
 obtain⟨e,a⟩:∃e,(J aC fs).underlying 79=U (.slice e):=⟨_,(I8 _ _ _).trans underlying79⟩;unfold rf;cases v with
 |slice p n c=>exact absurd rfl (b p n c)
 |_=>
  rw[OQ,(run_underlying a)];exact⟨_,rfl⟩
theorem ayf{v}(b:∀p n c,v≠aD p n c)(w){X Y}:∃m,(do eqGuard .eql 79 X Y v (aD V 0 0);gw .eql 79 v (aD V 0 0):cy ay).run (J aC fs) w=dL (.stuck m) w:=by
 obtain⟨m,f⟩:=ayd (fs:=fs) b w 9999;have e:gw .eql 79 v (aD V 0 0)=(do bH ((<-rf (9999+1) 79 v (aD V 0 0))):cy ay):=by cases v<;>rfl
 have d:eqGuard .eql 79 X Y v (aD V 0 0)=bH ():=by cases v<;>rfl
 refine⟨m,?_⟩;rw[e,d];show nE _ (do let a<-rf (9999+1) 79 v (aD V 0 0);bH a:cy ay) _=_
 rw[OQ,f];rfl
theorem alI{Done}(l:mm (J aC fs) Done)(a:∀h w,¬Done (G h C) w){v}(f:T[69]? =U v)(g:Term (J aC fs) Done (G ((aY 41).at ⟨T,[]⟩ (aP mX [1]::qL)) C) w):∃p n c,v=aD p n c:=by
 refine nq λd=>g.DL l (λb j i k=>?_) (a _ _);obtain⟨m,o⟩:=ayf (fs:=fs) (v:=v) (λp n c e=>d ⟨p,n,c,e⟩) (World.re w b 0) (X:=cu 69) (Y:=gB (aD V 0 0));refine Zj (o:=eH (U 70) (.binOp .eql 79 (cu 69) (gB (aD V 0 0)) 79) 4) (m:=m) (w1:=World.re w b 0) (by rfl) (by rfl) ?_ j i k
 have e:cT (dW ⟨T,[]⟩) (eH (U 70) (.binOp .eql 79 (cu 69) (gB (aD V 0 0)) 79) 4)=(do bH (fV (<-(do eqGuard .eql 79 (cu 69) (gB (aD V 0 0)) v (aD V 0 0);gw .eql 79 v (aD V 0 0):cy ay))):cy Next):=by rw[<-(getD_some f)];rfl
 rw[e,OQ,o];rfl
theorem ayg{p}{n c}(e0:dW ⟨T,[]⟩ (cu 69)=aD p n c)(w):(cT (dW ⟨T,[]⟩) (eH (U 70) (.binOp .eql 79 (cu 69) (gB (aD V 0 0)) 79) 4)).run (J aC fs) w=aV (fV (p.isNone)) w:=by
 have e:cT (dW ⟨T,[]⟩) (eH (U 70) (.binOp .eql 79 (cu 69) (gB (aD V 0 0)) 79) 4)=(do bH (fV (<-(gw .eql 79 (aD p n c) (aD V 0 0):cy ay))):cy Next):=by
  have a:eqGuard .eql 79 (cu 69) (gB (aD V 0 0)) (aD p n c) (aD V 0 0)=bH ():=rfl;show(do let r<-(do eqGuard .eql 79 (cu 69) (gB (aD V 0 0)) (dW ⟨T,[]⟩ (cu 69)) (aD V 0 0);gw .eql 79 (dW ⟨T,[]⟩ (cu 69)) (aD V 0 0):cy ay);bH (fV r):cy Next)=_
  grind
 rw[e,OQ,(UY (P:=J aC fs) w 79 _ p n c 0 0 ((I8 _ _ _).trans underlying79))];rfl
theorem tailA{p}{n c}(h:T[69]? =U (aD p n c)):cH (J aC fs) Z i sZ (λg w=>g=G ((aY 41).at ⟨T.setIfInBounds 70 (p.isNone),[]⟩ (bD (.cond (cu 70) (dQ 906 BP ai) (dQ 907 BM ai))::bD (dQ 908 xk ai)::lI 1::jA)) C) 5 (G ((aY 41).at ⟨T,[]⟩ (aP mX [1]::qL)) C) w:=by
 have b:=trivial;u_in j b;rw[qF (v:=p.isNone) (o:=eH (U 70) (.binOp .eql 79 (cu 69) (gB (aD V 0 0)) 79) 4) (by rfl) (by rfl) (by k_ne) (ayg (getD_some h) _)]
 simp only[eI];refine⟨i.refl _,?_⟩;refine jT (n:=1) ?_;u_c N j b;refine I (λ_ a=>?_);replace b:=j b a;simp only[qL];rw[show eG 3 uM=eE (.cond (cu 70) (dQ 906 BP ai) (dQ 907 BM ai)) (dQ 908 xk ai) from rfl];refine dG ?_;u_c D j b;exact I λ_ _=>rfl
theorem al7(h:dW ⟨T,[]⟩ (cu 70)=Z):cH (J aC fs) Z i sZ (λg w=>g=G ((aY 41).at ⟨(T.setIfInBounds 12 (aD V 0 0)).setIfInBounds 13 (ai),[]⟩ (bD (dQ 908 xk ai)::lI 1::jA)) C) 8 (G ((aY 41).at ⟨T,[]⟩ (bD (.cond (cu 70) (dQ 906 BP ai) (dQ 907 BM ai))::bD (dQ 908 xk ai)::lI 1::jA)) C) w:=by
 have a:=trivial;u_in j a;rw[GK (t:=Z) h];simp only[eI,iM];refine⟨i.refl _,?_⟩;u_in j a;rw[si,show BP.size=2 from rfl,show lW 2=[0,1] from rfl];simp only[eI];refine⟨i.refl _,?_⟩;u_in j a;rw[qF (v:=(aD V 0 0)) (o:=eH (U 12) (oh (gB (aD V 0 0))) 79) (by rfl) (by rfl) (by k_ne) (by simp only[cT,eH];rfl)]
 simp only[eI];refine⟨i.refl _,?_⟩;u_in j a;rw[qF (v:=ai) (o:=eH (U 13) (oh (gB ai)) 4) (by rfl) (by rfl) (by k_ne) (by simp only[cT,eH,dj];rfl)]
 simp only[eI];refine⟨i.refl _,?_⟩;refine dG ?_;u_c N j a;exact I λ_ _=>rfl
theorem al6{x}(h:dW ⟨T,[]⟩ (cu 70)=ai)(b:T[69]? =U x):cH (J aC fs) Z i sZ (λg w=>g=G ((aY 41).at ⟨(T.setIfInBounds 12 x).setIfInBounds 13 (Z),[]⟩ (bD (dQ 908 xk ai)::lI 1::jA)) C) 8 (G ((aY 41).at ⟨T,[]⟩ (bD (.cond (cu 70) (dQ 906 BP ai) (dQ 907 BM ai))::bD (dQ 908 xk ai)::lI 1::jA)) C) w:=by
 have a:=trivial;have c:dW ⟨T,[]⟩ (cu 69)=x:=getD_some b;u_in j a;rw[GK (t:=ai) h];simp only[eI,nT,↓reduceIte];refine⟨i.refl _,?_⟩;u_in j a;rw[si,show BM.size=2 from rfl,show lW 2=[0,1] from rfl];simp only[eI];refine⟨i.refl _,?_⟩;u_in j a;rw[qF (v:=x) (o:=eH (U 12) (oh (cu 69)) 79) (by rfl) (by rfl) (by k_ne) (by simp only[cT,eH,c];rfl)]
 simp only[eI];refine⟨i.refl _,?_⟩;u_in j a;rw[qF (v:=Z) (o:=eH (U 13) (oh (gB Z)) 4) (by rfl) (by rfl) (by k_ne) (by simp only[cT,eH,dj];rfl)]
 simp only[eI];refine⟨i.refl _,?_⟩;refine dG ?_;u_c N j a;exact I λ_ _=>rfl
theorem Ze{t14 t15}(x:T.size=87)(h:T[14]? =U t14)(e:T[15]? =U t15):cH (J aC fs) Z i sZ (λg w=>g=G ((aY 41).at ⟨(((T.setIfInBounds 72 t15).setIfInBounds 73 t14).setIfInBounds 14 t15).setIfInBounds 15 t14,[]⟩ (bD ni::jA)) C) 12 (G ((aY 41).at ⟨T,[]⟩ (bD (dQ 908 xk ai)::lI 1::jA)) C) w:=by
 have a:=trivial;have c:dW ⟨T,[]⟩ (cu 15)=t15:=getD_some e;have f:dW ⟨T.setIfInBounds 72 t15,[]⟩ (cu 14)=t14:=getD_some ((l (by decide)).trans h)
 have d:dW ⟨(T.setIfInBounds 72 t15).setIfInBounds 73 t14,[]⟩ (cu 72)=t15:=getD_some ((l (by decide)).trans (jJ (by grind)))
 have b:dW ⟨((T.setIfInBounds 72 t15).setIfInBounds 73 t14).setIfInBounds 14 t15,[]⟩ (cu 73)=t14:=getD_some ((l (by decide)).trans (jJ (by grind)))
 u_in j a;rw[si,show xk.size=4 from rfl,show lW 4=[0,1,2,3] from rfl];simp only[eI];refine⟨i.refl _,?_⟩;u_in j a;rw[qF (v:=t15) (o:=eH (U 72) (.move (cu 15)) 0) (by rfl) (by rfl) (by k_ne) (by simp only[cT,eH,c];rfl)]
 simp only[eI];refine⟨i.refl _,?_⟩;u_in j a;rw[qF (v:=t14) (o:=eH (U 73) (.move (cu 14)) 0) (by rfl) (by rfl) (by k_ne) (by simp only[cT,eH,dj,f];rfl)]
 simp only[eI];refine⟨i.refl _,?_⟩;u_in j a;rw[qF (v:=t15) (o:=eH (U 14) (oh (cu 72)) 0) (by rfl) (by rfl) (by k_ne) (by simp only[cT,eH,dj,d];rfl)]
 simp only[eI];refine⟨i.refl _,?_⟩;u_in j a;rw[qF (v:=t14) (o:=eH (U 15) (oh (cu 73)) 0) (by rfl) (by rfl) (by k_ne) (by simp only[cT,eH,dj,b];rfl)]
 simp only[eI];refine⟨i.refl _,?_⟩;refine dG ?_;u_c N j a;simp only[jA];u_c stepG_inBlock j a;u_c stepG_inLoop j a;exact I λ_ _=>rfl
structure RS(bw e8 e9 f14 f15 x1 y1 x2 y2 jf jt:Nat)(bf bt:eK)(p q p' q' c2 c3 d2 d3:Nat)(s:St):Prop where
 box:qn s.v (s.D 0).own e8 e9 f14 f15 x1 y1 x2 y2 p q p' q'
 pair:j4 s.role jf jt (wk bw c2 c3 p q bf) (wk bw d2 d3 p' q' bt)
 lf:jf<s.gs.size
 lt:jt<s.gs.size
 r0:∀r,s.role 0=U r->r.out=e8
 ou:∃k,s.ch p=U ⟨V,ai,k⟩
 pC:∃k,s.ch q=U ⟨V,ai,k⟩
 zh:∃k,s.ch p'=U ⟨V,ai,k⟩
 yc:∃k,s.ch q'=U ⟨V,ai,k⟩
 md:s.md=.opn 0
 par:(p=x1∧q=y1∧p'=x2∧q'=y2)∨(p=x2∧q=y2∧p'=x1∧q'=y1)
structure RT(T:Array ay)(e8 e9 bw f14 f15:Nat):Prop where
 size:T.size=87
 t8:T[8]? =U (aE (U ⟨e8,0,V⟩))
 t9:T[9]? =U (aE (U ⟨e9,0,V⟩))
 t10:T[10]? =U (aE (U ⟨bw,0,V⟩))
 t14:T[14]? =U (aE (U ⟨f14,0,V⟩))
 t15:T[15]? =U (aE (U ⟨f15,0,V⟩))
theorem RT.of{T c}{e8 e9 d b a}(R:RT T e8 e9 d b a)(e:c.size=87)(h:∀z,z=8∨z=9∨z=10∨z=14∨z=15->c[z]? =T[z]?):RT c e8 e9 d b a:=
 ⟨e,(h 8 (by simp)).trans R.t8,(h 9 (by simp)).trans R.t9,(h 10 (by simp)).trans R.t10,(h 14 (by simp)).trans R.t14,(h 15 (by simp)).trans R.t15⟩
section
variable {K:fy} {bw e8 e9 f14 f15 x1 y1 x2 y2 jf jt:Nat} {bf bt:eK} {p q p' q' c2 c3 d2 d3:Nat} {s t:St} {a:aU}
theorem RS.y9(R:RS bw e8 e9 f14 f15 x1 y1 x2 y2 jf jt bf bt p q p' q' c2 c3 d2 d3 s)(H:Ok K 0 s a)(d:sW 0 s t):RS bw e8 e9 f14 f15 x1 y1 x2 y2 jf jt bf bt p q p' q' c2 c3 d2 d3 t:=
 ⟨R.box.keep (λb c=>d.own b (H.hold.inv.own 0 b c).2 (H.hold.inv.own 0 b c).1) (λb c=>by rw[d.D];exact c),by rw[d.role];exact R.pair,by rw[d.size];exact R.lf,by rw[d.size];exact R.lt,by rw[d.role];exact R.r0,by rw[d.ch];exact R.ou,by rw[d.ch];exact R.pC,by rw[d.ch];exact R.zh,by rw[d.ch];exact R.yc,d.md.trans R.md,R.par⟩
structure Still(cl:Nat->eU)(v:av)(cl':Nat->eU)(v':av):Prop where
 out:v'.output=v.output
 size:v.heap.size<=v'.heap.size
 old:∀b,b<v.heap.size->cl b=.old->v'.heap[b]? =v.heap[b]? ∧cl' b=.old
theorem Still.refl(b)(v):Still b v b v:=⟨rfl,aW _,λ_ _ h=>⟨rfl,h⟩⟩
theorem Still.trans{f cl' c}{v v' d}(a:Still f v cl' v')(b:Still cl' v' c d):Still f v c d:=
 ⟨b.out.trans a.out,bq a.size b.size,λx e g=>let⟨p,q⟩:=a.old x e g;let⟨r,s⟩:=b.old x (cF e a.size) q;⟨r.trans p,s⟩⟩
theorem Still.of{c cl'}{sp}{v v'}(L:Left c sp v v')(e:∀b,b<v.heap.size->cl' b=c b):Still c v cl' v':=
 ⟨L.out,L.size,λb d h=>⟨L.block b d (aA (ax h)),(e b d).trans h⟩⟩
theorem sW.still{h}{s t}(d:sW h s t):Still s.cl s.v t.cl t.v:=⟨d.out,d.tR,λb c e=>⟨d.old b c e,(d.cls b c).trans e⟩⟩
structure Since(K:fy)(fs:Array dV)(I:H)(Done:aU->av->Prop)(s0:St)(iE:Nat->Nat)(g0:aU)(w0:av)(s:St)(ρ:Nat->Nat)(g:aU)(w:av):Prop where
 runs:s0.runs K.P s
 IC:∀z,z<w0.heap.size->iE z=ρ z
 tB:w0.heap.size<=w.heap.size
 qX:∀z,z<w0.heap.size->I.F z=ai->z≠4->w.heap[z]? =w0.heap[z]?
 back:kW (J K.P fs) Done (g,w) (g0,w0)
 out:Still s0.cl s0.v s.cl s.v
 size:s.gs.size=s0.gs.size
variable {fs:Array dV} {I:H} {Done:aU->av->Prop} {s0:St} {iE ρ eF:Nat->Nat} {g0 g g':aU} {w0 w w':av}
theorem Since.refl(s)(ρ)(g)(w):Since K fs I Done s ρ g w s ρ g w:=⟨.refl _,λ_ _=>rfl,aW _,λ_ _ _ _=>rfl,.refl _,.refl _ _,rfl⟩
theorem Since.right(S:Since K fs I Done s0 iE g0 w0 s ρ g w)(r:s.runs K.P t)(c:Still s.cl s.v t.cl t.v)(b:t.gs.size=s.gs.size):Since K fs I Done s0 iE g0 w0 t ρ g w:=⟨S.runs.trans r,S.IC,S.tB,S.qX,S.back,S.out.trans c,b.trans S.size⟩
theorem Since.tape(S:Since K fs I Done s0 iE g0 w0 s ρ g w)(b:kW (J K.P fs) Done (g',w') (g,w))(h:i w w'):Since K fs I Done s0 iE g0 w0 s ρ g' w':=⟨S.runs,S.IC,by rw[h.heap];exact S.tB,λz c e d=>by rw[h.heap];exact S.qX z c e d,b.trans S.back,S.out,S.size⟩
theorem Since.both(S:Since K fs I Done s0 iE g0 w0 s ρ g w)(e:∀z,z<w.heap.size->ρ z=eF z)(d:w.heap.size<=w')(c:∀z,z<w.heap.size->I.F z=ai->w'.heap[z]? =w.heap[z]?)(b:kW (J K.P fs) Done (g',w') (g,w))(r:s.runs K.P t)(k:Still s.cl s.v t.cl t.v)(i:t.gs.size=s.gs.size):Since K fs I Done s0 iE g0 w0 t eF g' w':=
 ⟨S.runs.trans r,λz h=>(S.IC z h).trans (e z (cF h S.tB)),bq S.tB d,λz h f j=>(c z (cF h S.tB) f).trans (S.qX z h f j),b.trans S.back,S.out.trans k,i.trans S.size⟩
theorem gd.tape{n}{w w'}(h:gd n w)(r:i w w'):gd n w':=by unfold gd at h⊢;rw[r.heap];exact h
theorem kJ.tape{N}{I}{w w'}{S}{TL b}(h:kJ N I w.heap.size S TL b)(r:i w w'):kJ N I w' S TL b:=by rw[r.heap];exact h
structure mG(K:fy)(fs:Array dV)(I:H)(Done:aU->av->Prop)(B cU:List aX)(s0:St)(iE:Nat->Nat)(g0:aU)(w0:av)(kL kR:List eS)(e8 e9 bw f14 f15 x1 y1 x2 y2 jf jt:Nat)(lf lt:eK)(bf bt:eK)(p q p' q' c2 c3 d2 d3:Nat)(ρ:Nat->Nat)(w:av)(TL TR:Array ay)(s:St):Prop where
 ok:Ok K 0 s (G ((aY 41).at ⟨TR,[]⟩ kR) cU)
 term:Term (J K.P fs) Done (G ((aY 41).at ⟨TL,[]⟩ kL) B) w
 eN:fF ρ I K.P s.cl w s.v
 agree:kJ ρ I w.heap.size qj TL TR
 sL:TL.size=87
 flag:gd 1 w
 JS:TL[14]? =U (aE (U lf))
 Gs:TL[15]? =U (aE (U lt))
 DN:I.blk w.heap.size lf.block=Z
 BU:I.blk w.heap.size lt.block=Z
 ef:bf=dA ρ lf
 et:bt=dA ρ lt
 rt:RT TR e8 e9 bw f14 f15
 rs:RS bw e8 e9 f14 f15 x1 y1 x2 y2 jf jt bf bt p q p' q' c2 c3 d2 d3 s
 since:Since K fs I Done s0 iE g0 w0 s ρ (G ((aY 41).at ⟨TL,[]⟩ kL) B) w
variable {B cU:List aX} {kL kR OV Kl:List eS} {lf lt:eK} {TL TR:Array ay}
theorem mG.go(X:mG K fs I Done B cU s0 iE g0 w0 kL kR e8 e9 bw f14 f15 x1 y1 x2 y2 jf jt lf lt bf bt p q p' q' c2 c3 d2 d3 ρ w TL TR s)(o:K.P=aC)(x:mm (J K.P fs) Done){n m}
  (l:∀w,cH (J aC fs) Z i sZ (λg w=>g=G ((aY 41).at ⟨TL,[]⟩ OV) B) n (G ((aY 41).at ⟨TL,[]⟩ kL) B) w) (y:∀w,cH aC Z (L ([]++[])) (DH [] []) (λg w=>g=G ((aY 41).at ⟨TR,[]⟩ Kl) cU) m (G ((aY 41).at ⟨TR,[]⟩ kR) cU) w):
  ∃w' t,mG K fs I Done B cU s0 iE g0 w0 OV Kl e8 e9 bw f14 f15 x1 y1 x2 y2 jf jt lf lt bf bt p q p' q' c2 c3 d2 d3 ρ w' TL TR t:=by
 have d:=l w;rw[<-o] at d;obtain⟨_,u,rfl,j,f,c⟩:=Term.goes x i.refl i.trans (λ_ _ h=>h) (λ_ _ _ h=>h) d X.term;obtain⟨e,_,k,Q0,rfl,b,r,v⟩:=X.ok.walk (n:=m) (O:=[]) (Rd:=[]) (Stop:=λg w=>g=G ((aY 41).at ⟨TR,[]⟩ Kl) cU) (λg w h=>by rw[h];rfl) (by grind) (by simp) (by simp)
 exact⟨u,e,⟨Q0,j,(X.eN.left b.left b.cls).re c,X.agree.tape c,X.sL,X.flag.tape c,X.JS,X.Gs,by rw[c.heap];exact X.DN,by rw[c.heap];exact X.BU,X.ef,X.et,X.rt,X.rs.y9 X.ok (b.y9 r v),(X.since.tape f c).right k (.of b.left b.cls) b.size⟩⟩
theorem Gd{ρ eF}{N}{I:H}{l}(h:I.blk N l.block=Z)(b:∀z,z<N->ρ z=eF z):dA ρ l=dA eF l:=by
 grind[dA,H.iQ]
theorem mG.lock{ops}{c}(D:I.F 4=ai)(X:mG K fs I Done B cU s0 iE g0 w0 (aP ops c::kL) (aP ops c::kR) e8 e9 bw f14 f15 x1 y1 x2 y2 jf jt lf lt bf bt p q p' q' c2 c3 d2 d3 ρ w TL TR s)(L:mm (J K.P fs) Done)(m:∀E w,¬Done (G E B) w)(M:yG ops qj c=Z)
  (j:∀z,z=8∨z=9∨z=10∨z=14∨z=15->z∉sF ops c):
  ∃eF w' e d t,mG K fs I Done B cU s0 iE g0 w0 (aP ops []::kL) (aP ops []::kR) e8 e9 bw f14 f15 x1 y1 x2 y2 jf jt lf lt bf bt p q p' q' c2 c3 d2 d3 eF w' e d t∧kJ eF I w' (grow ops qj c) e d:=by
 have b:c++[]=c:=by grind
 obtain⟨t,eF,w',e,d,i,P,x,v,A,F,h,y,r,k,f,n,o⟩:=Ok.Gp (rest:=[]) L m c M (by rw[b];exact X.ok) (by rw[b];exact X.term) X.eN X.agree (X.sL.trans X.rt.size.symm)
 rw[b] at r;have u:∀l:eK,I.blk w l.block=Z->I.blk w' l.block=Z:=by grind[H.eu]
 exact⟨eF,w',e,d,t,⟨n,y,o,v.sub λ_=>afH ops c,A.trans X.sL,Hy X.flag D x,(h 14 (j 14 (by simp))).1.trans X.JS,(h 15 (j 15 (by simp))).1.trans X.Gs,u _ X.DN,u _ X.BU,X.ef.trans (Gd X.DN i),X.et.trans (Gd X.BU i),X.rt.of (F.trans X.rt.size) (λz C=>(h z (j z C)).2),X.rs.y9 X.ok f,X.since.both i P x r k f.still f.size⟩,v⟩
end
theorem ayu:sF gR [0,1,2,3,4,5,6,7,8,9,10,11,12,13,14,15,16,17,18]=[44,45,46,47,48,49,50,51,52,53,54,55,56,57,58,59,60,61,62]:=by kernel_rfl
theorem ayt:sF zW [0,1,2]=[63,64,6]:=by kernel_rfl
theorem ays:sF zV [0,1,2,3,4]=[65,66,67,68,7]:=by kernel_rfl
section
variable {K:fy} {bw e8 e9 f14 f15 x1 y1 x2 y2 jf jt:Nat} {bf bt:eK} {p q p' q' c2 c3 d2 d3:Nat} {s t:St} {a:aU}
variable {fs:Array dV} {I:H} {Done:aU->av->Prop} {s0:St} {iE ρ eF:Nat->Nat} {g0 g g':aU} {w0 w w':av}
variable {B cU:List aX} {kL kR OV Kl:List eS} {lf lt:eK} {TL TR:Array ay}
theorem aln(h:K.P=aC)(d:mm (J K.P fs) Done)(c:∀O w,¬Done (G O B) w)(j:I.F 4=ai){Q:Prop}
  (X:mG K fs I Done B cU s0 iE g0 w0 (bD ni::jA) (bD kB::nx) e8 e9 bw f14 f15 x1 y1 x2 y2 jf jt lf lt bf bt p q p' q' c2 c3 d2 d3 ρ w TL TR s)
  (o:∀eF w' f e t,mG K fs I Done B cU s0 iE g0 w0 [bD tZ] [bD (cP 10)] e8 e9 bw f14 f15 x1 y1 x2 y2 jf jt lf lt bf bt p q p' q' c2 c3 d2 d3 eF w' f e t->Q)
  (x:∀eF w' f e t,mG K fs I Done B cU s0 iE g0 w0 (aP mX [0,1]::qL) (aP rS [0,1,2,3]::tO) e8 e9 bw f14 f15 x1 y1 x2 y2 jf jt lf lt bf bt p q p' q' c2 c3 d2 d3 eF w' f e t->Q):Q:=by
 obtain⟨w1,F,H⟩:=X.go h d (λ_=>av6) (λ_=>av5);obtain⟨T,w2,A,n,P,k,Q2⟩:=H.lock j d c asx (λz m=>by rw[show sF gR _=_ from ayu];rcases m with rfl|rfl|rfl|rfl|rfl<;>decide)
 obtain⟨r,l⟩:=alL (fs:=fs) (Done:=Done) (C:=B) (by grind) c (by have:=k.term;rwa [h] at this)
 have i:dW ⟨n,[]⟩ (cu 62)=r:=(RV.bool (Q2 62 (List.contains_iff_mem.1 axn)) r).1 l;cases r with
 |false=>
  obtain⟨N,L,u⟩:=k.go h d (λ_=>Gh l) (λ_=>abE i)
  grind
 |true=>
  obtain⟨N,L,u⟩:=k.go h d (λ_=>inL l) (λ_=>inR i);obtain⟨Q1,W,v,E,s4,y,_⟩:=u.lock j d c asw (λz m=>by grind[sF,zW,ayt])
  obtain⟨w5,s5,S⟩:=y.go h d (λ_=>alE) (λ_=>alD);obtain⟨M,b,R,D,Q0,C,_⟩:=S.lock j d c asu (λz m=>by rw[show sF zV _=_ from ays];grind)
  obtain⟨w7,s7,X7⟩:=C.go h d (λ_=>alC) (λ_=>alB)
  grind
end
theorem j4.ajs{a}{f g}{d c}(p:j4 a f g d c)(rh):j4 (bz a 0 (U rh)) f g d c:=
 ⟨by rw[cQ a _ p.xe];exact p.one,by rw[cQ a _ p.mV];exact p.two,λi r b=>by
  by_cases e:i=0
  ·grind
  ·rw[cQ a _ e] at b;exact p.all i r b,p.ne,p.xe,p.mV,p.cc,p.Mj,p.It,p.Is,p.A5,p.oo⟩
theorem j4.azE{K}{a}{D}{n o}{l k}(p:j4 a n o l k)(C:Bm K a D){rh}(q:rh.out≠l.out)(s:rh.out≠k.out):Bm K (bz a 0 (U rh)) D:=by
 have b:∀i r,bz a 0 (rh) i=U r->0<i->a i=r:=λi r g c=>by grind[upd_ne,Nat.ne_of_gt]
 refine⟨λi j r m g d h c=>?_,λi r g c=>C.end_ i r (b i r g c) c,C.pG⟩;have f:=b i r g c;by_cases e:j=0
 ·subst e;rw[cX] at d;cases d;rcases p.Dk f (Eh c) with⟨_,rfl⟩|⟨_,rfl⟩
  all_goals grind
 ·exact C.outs i j r m f (b j m d (Ow e)) h c
section
variable {K:fy} {bw e8 e9 f14 f15 x1 y1 x2 y2 jf jt:Nat} {bf bt:eK} {p q p' q' c2 c3 d2 d3:Nat} {s t:St} {a:aU}
theorem Ok.Tw{h}(H:Ok K h s a){b c}{d}(g:b∈(s.D 0).own)(f:s.ch c=U d):b≠c:=λe=>by
 have j:=(H.hold.inv.own 0 b g).1;have i:=(H.hold.inv.chan c d f).2.1
 grind
theorem afM{T:Array ay}(b:T.size=87):T[12]? =(T.getD 12 ak):=by rw[iz,iq (by grind)];rfl
noncomputable def F8(C:List aX)(T:Array ay)(e8 e9 f14 f15 x1 y1 x2 y2 p q p' q':Nat):fo:=⟨XB C T e8 e9 f14 f15 x1 y1 x2 y2 p q p' q',e8,0,bO #[]⟩
variable {cU:List aX} {TR:Array ay}
theorem apt(y:K.P=aC)(v:K.L=dK)(hl:K.live=Z)(qT:K.Wg=bw)(H:Ok K 0 s (G ((aY 41).at ⟨TR,[]⟩ (.inRegion rS [0,1,2,3]::tO)) cU))(m:RT TR e8 e9 bw f14 f15)(R:RS bw e8 e9 f14 f15 x1 y1 x2 y2 jf jt bf bt p q p' q' c2 c3 d2 d3 s):
  ∃t j d u,s.runs K.P t∧Ok K jt t (r (eO K.P 59 #[.pointer (bt),TR.getD 12 ak] .normal) (Ir d q'::tj bw d2 d3 p' q' bt))∧j.size=87∧vj j TR∧t.role=bz s.role 0 ((F8 cU j e8 e9 f14 f15 x1 y1 x2 y2 p' q' p q))∧t.md=.opn 0∧(∃k,t.ch=bz s.ch p' (U ⟨V,ai,k⟩))∧t.gs.size=s.gs.size∧
   Left s.cl (λ_=>False) s.v t.v∧(∀b,b<s.v.heap.size->t.cl b=s.cl b)∧d.size=21∧(d[1]? =(je bt)∧d[2]? =U (.pointer (u))∧d[9]? =U (.chan (p')))∧
   ((t.v.heap[u]? =U (.cells #[.chan (p'),.chan (q')] 114)∧t.v.heap[d3]? =U (.cells #[je bt] 126))∧u∈(t.D jt).own∧d3∈(t.D jt).own):=by
 have X:=H.hold.inv.own 0 f15 R.box.m15
 let j:=((TR.setIfInBounds 69 (.pointer (U f15))).setIfInBounds 70 (.chan (U p'))).setIfInBounds 71 (TR.getD 12 ak)
 obtain⟨s1,_,r1,F,rfl,Q1,d1,W⟩:=H.walk (n:=6) (O:=[]) (Rd:=[f15]) (Stop:=λg w=>g=G ((aY 41).at ⟨j,[]⟩ (.inRegion rS [3]::tO)) cU) (λg w h=>by rw[h];rfl) (by rw[y];exact aoN m.size ⟨afM m.size,m.t15⟩ R.box.pD) (by simp) (by grind)
 have c:=R.y9 H (Q1.y9 d1 W);have T:j.size=87:=by simp[j,m.size]
 have P:vj j TR:=amW _ _ _;have n:∀z x,TR[z]? =U x->z<69->z≠12->z≠13->j[z]? =U x:=λz x h I h2 h3=>(P z h2 h3 (.inl I)).trans h;obtain⟨k3,VQ⟩:=c.zh;obtain⟨k4,B⟩:=c.yc;obtain⟨k2,N⟩:=c.pC;obtain⟨t2,gj,k,r2,H2,Q,M,S,J,z2,D,E⟩:=F.send (n:=41) (kh:=k4) (j:=jt) (rj:=wk bw d2 d3 p' q' bt) (rh:=F8 cU j e8 e9 f14 f15 x1 y1 x2 y2 p' q' p q) (x:=TR.getD 12 ak) (z:=.tuple #[]) hl rfl
  (λw1=>by
   rw[y];exact aoM ⟨by show((TR.setIfInBounds 69 _).setIfInBounds 70 _|>.setIfInBounds 71 _)[70]? =_;rw[l (by decide)];exact jJ (by grind),by
    grind⟩ w1)
  c.pair.mV c.pair.two c.lt (by rw[y,aoL];exact am5 T ⟨n 14 _ m.t14 (by decide) (by decide) (by decide),n 15 _ m.t15 (by decide) (by decide) (by decide)⟩ c.box) (by decide) B (λe=>c.pair.A5 e.symm)
  (λi Q0 hi hr=>by
   rcases c.pair.Dk hr hi with⟨_,rfl⟩|⟨_,rfl⟩
   ·exact c.pair.It
   ·exact c.pair.A5)
  (c.pair.azE F.hold.fR.cast (F.Tw c.box.m8 N) (F.Tw c.box.m8 B))
 refine alX (C:=tj bw d2 d3 p' q' bt) y c.pair.mV Q H2 λt3 d u r3 L f d3' O A o hF=>?_;rw[y] at*;refine⟨t3,j,d,u,(r1.trans r2).trans r3,L,T,P,f.role.trans (M.trans (by rw[Q1.role])),f.md.trans (S.trans c.md),⟨k,O.trans (J.trans (by rw[W];rfl))⟩,f.size.trans (z2.trans Q1.size),(Q1.left.trans Q1.cls D).trans (λb C=>(E b (cF C Q1.left.size)).trans (Q1.cls b C)) f.left,λb C=>?_,A,o,hF⟩
 have I:=cF C Q1.left.size;exact(f.cls b (cF I D.size)).trans ((E b I).trans (Q1.cls b C))
end
theorem Goes.weaken{P:bU}{main:Bool}{R:av->av->Prop}{D:av->av->Array iW->Prop}{S S':aU->av->Prop}(h:∀g w,S g w->S' g w):∀{n:Nat} {g:aU} {w:av},cH P main R D S n g w->cH P main R D S' n g w
 |0,g,w,k=>λb r=>h _ _ (k b r)
 |n+1,g,w,k=>by
  rcases k with k|⟨e,c⟩
  ·exact ax λb r=>h _ _ (k b r)
  ·refine aA ⟨e,λb r=>?_⟩;have:=c b r;revert this;cases bZ P main g b<;>simp only[GStep.goes,imp_self];exact λ⟨d,x⟩=>⟨d,Goes.weaken h x⟩
theorem um.walk{K}{s}{a}{n}(H:um K s a){O Rd}{Stop}(c:∀g w,Stop g w->g.status=dM)(f:cH K.P Z (L (O++Rd)) (DH O Rd) Stop n a s.v)(i:∀b∈O,b∈(s.D 0).own)
  (d:∀b∈Rd,b<s.v∧(s.cl b=.own 0∨s.cl b=.eN)):∃t e,s.runs K.P t∧um K t e∧Stop e t.v∧IL O s t:=
 H.walk_to O Rd i d ⟨n,Goes.weaken (λg w j=>⟨c g w j,λt l r h k=>⟨t,g,r,h,by grind,k⟩⟩) f⟩
def gH(T:Array ay)(l:List (Nat×ay)):Array ay:=l.foldl (λT x=>T.setIfInBounds x.1 x.2) T
theorem F5:∀(a:List (Nat×ay)) (T:Array ay) {z:Nat},(∀x∈a,x.1≠z)->(gH T a)[z]? =T[z]?
 | [],T,z,_=>rfl
 |x::a,T,z,h=>by show(gH (T.setIfInBounds x.1 x.2) a)[z]? =_;rw[F5 a _ λy b=>h y (uE _ b),l (h x (List.mem_cons_self ..))]
theorem F4:∀(l:List (Nat×ay)) (T:Array ay),(gH T l).size=T.size
 | [],T=>rfl
 |x::l,T=>(F4 l _).trans (tJ ..)
def iB:List (Nat×ay):=[(44,cz ai),(45,cz ai),(46,ak),(47,ak),(48,ak),(49,ak),(50,ak),(51,ak),(52,ak),(53,ak),(54,ak),(55,ak),(56,ak),(57,ak),(58,ak),(59,ak),(60,ak),(61,ak),(62,cz ai)]
theorem VX{z}(h:z<44∨62<z):∀x∈iB,x.1≠z:=by
 intro x b e;have:∀y∈iB,44<=y.1∧y.1<=62:=by decide
 grind
theorem DJ{T}{l}{z}{v}(j)(a:l[j]? =(z,v))(g:∀x∈l.drop (j+1),x.1≠z)(c:z<T.size):(gH T l)[z]? =U v:=by
 obtain⟨d,f⟩:=List.getElem?_eq_some_iff.1 a;have e:l=l.take j++(z,v)::l.drop (j+1):=by grind[List.drop_eq_getElem_cons,List.take_append_drop]
 rw[e];have b:gH T (l.take j++(z,v)::l.drop (j+1))=gH ((gH T (l.take j)).setIfInBounds z v) (l.drop (j+1)):=by
  grind[gH]
 grind[F5,Array.getElem?_setIfInBounds_self_of_lt,F4]
theorem aoD(T)(l)(z)(v):(gH T l).setIfInBounds z v=gH T (l++[(z,v)]):=by
 grind[gH]
theorem WW{T}{t:Nat}{x}(h:T[t]? =U x):dW ⟨T,[]⟩ (cu t)=x:=getD_some h
def Ya(i j:Nat)(b:Bool)(t:Nat):Prop:=∃o,gR[i]? =U o∧o.guard=U (j,b)∧o.dst=U t
theorem qW{i j:Nat}{b}{t:Nat}(h:((gR[i]?).map λo=>(o.guard,o.dst))=(U (j,b),U t)):Ya i j b t:=by
 cases a:gR[i]? with
 |none=>grind
 |some o=>
  rw[a] at h;simp only[ey,ec,Kk] at h;exact⟨o,a,h.1,h.2⟩
section
variable {P:bU} {main:Bool} {R:av->av->Prop} {D:av->av->Array iW->Prop} {Stop:aU->av->Prop} {n:Nat} {b:aX} {k:List eS} {cs:List aX} {w:av} {T:Array ay} {rest:List Nat}
theorem am2{i j}{g}{t u:Nat}{v}(h:Ya i j g t)(q:((gR[j]?).bind (·.dst))=u)(s:T[u]? =U v)(r:v≠g)(d:∀w,D w w #[])
  (e:∀a,R w a->cH P main R D Stop n (G (b.at ⟨T.setIfInBounds t ak,[]⟩ (aP gR rest::k)) cs) a):cH P main R D Stop (n+1) (G (b.at ⟨T,[]⟩ (aP gR (i::rest)::k)) cs) w:=by
 obtain⟨o,l,p,m⟩:=h;refine Goes.step rfl λa f=>?_;have c:eP o (dY gR T)=ai:=by
  unfold eP;rw[p];unfold dY
  grind
 rw[RM l c];simp only[eI,m];exact⟨d _,e a f⟩
theorem acp{i:Nat}{x}{t:Nat}(h:((gR[i]?).map λo=>(o.op,o.guard,o.dst))=U (.move x,V,U t))(j:b.kind≠ .early)(e:∀w,D w w #[])
  (f:∀a,R w a->cH P main R D Stop n (G (b.at ⟨T.setIfInBounds t (dW ⟨T,[]⟩ x),[]⟩ (aP gR rest::k)) cs) a):cH P main R D Stop (n+1) (G (b.at ⟨T,[]⟩ (aP gR (i::rest)::k)) cs) w:=by
 cases d:gR[i]? with
 |none=>grind
 |some o=>
  rw[d] at h;simp only[ey,ec,Kk] at h;obtain⟨c,p,m⟩:=h;refine Goes.step rfl λa g=>?_;have l:(cT (dW ⟨T,[]⟩) o).events P a #[]= #[]:=by unfold cT;simp only[c];rfl
  rw[qF d (by unfold eP;rw[p]) j (by unfold cT;simp only[c];rfl),nX l]
  simp only[eI,m];exact⟨e _,f a g⟩
theorem aqg{i:Nat}{c x y}{r}{t:Nat}(h:((gR[i]?).map λo=>(o.op,o.guard,o.dst))=U (.pick c x y,V,U t))(f:dW ⟨T,[]⟩ c=cz r)(m:b.kind≠ .early)(g:∀w,D w w #[])
  (j:∀a,R w a->cH P main R D Stop n (G (b.at ⟨T.setIfInBounds t (if r then dW ⟨T,[]⟩ x else dW ⟨T,[]⟩ y),[]⟩ (aP gR rest::k)) cs) a):cH P main R D Stop (n+1) (G (b.at ⟨T,[]⟩ (aP gR (i::rest)::k)) cs) w:=by
 cases e:gR[i]? with
 |none=>grind
 |some o=>
  rw[e] at h;simp only[ey,ec,Kk] at h;obtain⟨d,s,q⟩:=h;refine Goes.step rfl λa l=>?_;have p:(cT (dW ⟨T,[]⟩) o).events P a #[]= #[]:=by unfold cT;simp only[d,f];rfl
  rw[qF e (by unfold eP;rw[s]) m (by unfold cT;simp only[d,f];rfl),nX p]
  simp only[eI,q];exact⟨g _,j a l⟩
theorem Nc(T){m t}{v}(h:iB[m]? =(t,v)):(gH T (iB.take m)).setIfInBounds t v=gH T (iB.take (m+1)):=by
 grind[aoD,List.take_add_one]
theorem qo{m j}{g}{t u:Nat}{v}(p)(r:T.size=87)(h:Ya m j g t)(c:((gR[j]?).bind (·.dst))=u)(o:iB[m]? =(t,ak))(f:(iB.take m)[p]? =U (u,v))(i:∀x∈(iB.take m).drop (p+1),x.1≠u)(s:u<87)(e:v≠cz g)(d:∀w,D w w #[])
  (l:∀a,R w a->cH P main R D Stop n (G (b.at ⟨gH T (iB.take (m+1)),[]⟩ (aP gR rest::k)) cs) a):cH P main R D Stop (n+1) (G (b.at ⟨gH T (iB.take m),[]⟩ (aP gR (m::rest)::k)) cs) w:=
 am2 h c (DJ p f i (by grind)) e d λa q=>by grind[Nc]
theorem aeJ(c:T.size=87)(d:T[13]? =U (cz ai))(f:b.kind≠ .early)(a:∀w,D w w #[])(i:∀w,Stop (G (b.at ⟨gH T iB,[]⟩ (aP gR []::k)) cs) w):
  cH P main R D Stop 20 (G (b.at ⟨T,[]⟩ (aP gR [0,1,2,3,4,5,6,7,8,9,10,11,12,13,14,15,16,17,18]::k)) cs) w:=by
 have g:dW ⟨T,[]⟩ (cu 13)=ai:=getD_some d;refine acp (i:=0) (x:=cu 13) (t:=44) (by kernel_rfl) f a λ_ _=>?_
 rw[g,show T.setIfInBounds 44 ai=gH T (iB.take 1) from rfl];refine acp (i:=1) (x:=cu 44) (t:=45) (by kernel_rfl) f a λ_ _=>?_
 rw[(WW (DJ (l:=iB.take 1) (z:=44) (v:=ai) 0 rfl (by decide) (by grind))),Nc T (m:=1) (t:=45) (v:=ai) rfl]
 refine qo (m:=2) (j:=1) (g:=Z) (t:=46) (u:=45) (v:=ai) 1 c (qW (by kernel_rfl)) (by kernel_rfl) rfl rfl (by decide) (by decide) (by grind) a λ_ _=>?_
 refine qo (m:=3) (j:=1) (g:=Z) (t:=47) (u:=45) (v:=ai) 1 c (qW (by kernel_rfl)) (by kernel_rfl) rfl rfl (by decide) (by decide) (by grind) a λ_ _=>?_
 refine qo (m:=4) (j:=1) (g:=Z) (t:=48) (u:=45) (v:=ai) 1 c (qW (by kernel_rfl)) (by kernel_rfl) rfl rfl (by decide) (by decide) (by grind) a λ_ _=>?_
 refine qo (m:=5) (j:=1) (g:=Z) (t:=49) (u:=45) (v:=ai) 1 c (qW (by kernel_rfl)) (by kernel_rfl) rfl rfl (by decide) (by decide) (by grind) a λ_ _=>?_
 refine qo (m:=6) (j:=5) (g:=ai) (t:=50) (u:=49) (v:=ak) 5 c (qW (by kernel_rfl)) (by kernel_rfl) rfl rfl (by decide) (by decide) (by simp[ak]) a λ_ _=>?_
 refine qo (m:=7) (j:=5) (g:=ai) (t:=51) (u:=49) (v:=ak) 5 c (qW (by kernel_rfl)) (by kernel_rfl) rfl rfl (by decide) (by decide) (by simp[ak]) a λ_ _=>?_
 refine qo (m:=8) (j:=5) (g:=ai) (t:=52) (u:=49) (v:=ak) 5 c (qW (by kernel_rfl)) (by kernel_rfl) rfl rfl (by decide) (by decide) (by simp[ak]) a λ_ _=>?_
 refine qo (m:=9) (j:=5) (g:=ai) (t:=53) (u:=49) (v:=ak) 5 c (qW (by kernel_rfl)) (by kernel_rfl) rfl rfl (by decide) (by decide) (by simp[ak]) a λ_ _=>?_
 refine qo (m:=10) (j:=1) (g:=Z) (t:=54) (u:=45) (v:=ai) 1 c (qW (by kernel_rfl)) (by kernel_rfl) rfl rfl (by decide) (by decide) (by grind) a λ_ _=>?_
 refine qo (m:=11) (j:=1) (g:=Z) (t:=55) (u:=45) (v:=ai) 1 c (qW (by kernel_rfl)) (by kernel_rfl) rfl rfl (by decide) (by decide) (by grind) a λ_ _=>?_
 refine qo (m:=12) (j:=11) (g:=ai) (t:=56) (u:=55) (v:=ak) 11 c (qW (by kernel_rfl)) (by kernel_rfl) rfl rfl (by decide) (by decide) (by simp[ak]) a λ_ _=>?_
 refine qo (m:=13) (j:=11) (g:=ai) (t:=57) (u:=55) (v:=ak) 11 c (qW (by kernel_rfl)) (by kernel_rfl) rfl rfl (by decide) (by decide) (by simp[ak]) a λ_ _=>?_
 refine qo (m:=14) (j:=11) (g:=ai) (t:=58) (u:=55) (v:=ak) 11 c (qW (by kernel_rfl)) (by kernel_rfl) rfl rfl (by decide) (by decide) (by simp[ak]) a λ_ _=>?_
 refine qo (m:=15) (j:=11) (g:=ai) (t:=59) (u:=55) (v:=ak) 11 c (qW (by kernel_rfl)) (by kernel_rfl) rfl rfl (by decide) (by decide) (by simp[ak]) a λ_ _=>?_
 refine qo (m:=16) (j:=11) (g:=ai) (t:=60) (u:=55) (v:=ak) 11 c (qW (by kernel_rfl)) (by kernel_rfl) rfl rfl (by decide) (by decide) (by simp[ak]) a λ_ _=>?_
 refine qo (m:=17) (j:=1) (g:=Z) (t:=61) (u:=45) (v:=ai) 1 c (qW (by kernel_rfl)) (by kernel_rfl) rfl rfl (by decide) (by decide) (by grind) a λ_ _=>?_
 refine aqg (i:=18) (c:=cu 45) (x:=cu 61) (y:=gB ai) (r:=ai) (t:=62) (by kernel_rfl) (WW (DJ (l:=iB.take 18) (z:=45) (v:=ai) 1 rfl (by decide) (by grind))) f a λ_ _=>?_
 have e:(gH T (iB.take 18)).setIfInBounds 62 (if ai=Z then dW ⟨gH T (iB.take 18),[]⟩ (cu 61) else dW ⟨gH T (iB.take 18),[]⟩ (gB (ai)))=gH T iB:=by
  rw[if_neg (by decide)]
  have h:=Nc T (m:=18) (t:=62) (v:=ai) rfl;rw[adw (by decide:iB.length<=18+1)] at h
  exact h
 grind[Goes.stop]
end
section
variable {C:List aX} {fs:Array dV} {T:Array ay} {w:av}
theorem av8(d:T.size=87)(c:T[13]? =U (cz ai)):cH (J aC fs) Z i sZ (λg w=>g=G ((aY 41).at ⟨gH T iB,[]⟩ (aP gR []::An)) C) 30 (G ((aY 41).at ⟨T,[]⟩ (bD ni::jA)) C) w:=by
 have b:=trivial;rw[eL];refine jT (n:=2) ?_;u_c D j b;u_in j b;rw[si,MD];simp only[eI];refine⟨by u_nil,?_⟩
 refine I (λ_ a=>?_);replace b:=j b a;exact adv (aeJ d c (by k_ne) (λw=>i.refl w) λ_=>rfl) (by decide)
theorem av7(d:T.size=87)(c:T[13]? =U (cz ai)):cH aC Z (L ([]++[])) (DH [] []) (λg w=>g=G ((aY 41).at ⟨gH T iB,[]⟩ (aP gR []::Et)) C) 30 (G ((aY 41).at ⟨T,[]⟩ (bD kB::nx)) C) w:=by
 have b:=trivial;rw[eR];refine jT (n:=3) ?_;u_c D A b;u_c D A b;u_in A b;rw[si,MD];simp only[eI];refine⟨by u_nil,?_⟩
 refine I (λ_ a=>?_);replace b:=A b a;exact adv (aeJ d c (by k_ne) (λw=>dh_none (by simp)) λ_=>rfl) (by decide)
theorem aeK(a:T.size=87):dW ⟨gH T iB,[]⟩ (cu 62)=ai:=by
 have e:gH T iB=(gH T (iB.take 18)).setIfInBounds 62 (ai):=by
  have h:=Nc T (m:=18) (t:=62) (v:=ai) rfl;rw[adw (by decide:iB.length<=18+1)] at h
  grind
 grind[WW,Array.getElem?_setIfInBounds_self_of_lt,F4]
end
structure Fin(K:fy)(fs:Array dV)(I:H)(Done:aU->av->Prop)(B cU:List aX)(s0:St)(iE:Nat->Nat)(g0:aU)(w0:av)(e8 e9 bw x1 y1 x2 y2:Nat)(ρ:Nat->Nat)(w:av)(TL TR:Array ay)(s:St):Prop where
 DD:um K s (G ((aY 41).at ⟨TR,[]⟩ [bD (cP 10)]) cU)
 term:Term (J K.P fs) Done (G ((aY 41).at ⟨TL,[]⟩ [bD tZ]) B) w
 eN:fF ρ I K.P s.cl w s.v
 ZB:RV ρ I w.heap.size (TL.getD 6 ak) (TR.getD 6 ak)
 seven:RV ρ I w.heap.size (TL.getD 7 ak) (TR.getD 7 ak)
 sL:TL.size=87
 sR:TR.size=87
 flag:gd 1 w
 c8:s.v.heap[e8]? =U (ends (U x1) (U y1))
 c9:s.v.heap[e9]? =U (ends (U x2) (U y2))
 m8:e8∈(s.D 0).own
 m9:e9∈(s.D 0).own
 t8:TR[8]? =U (aE (U ⟨e8,0,V⟩))
 t9:TR[9]? =U (aE (U ⟨e9,0,V⟩))
 t10:TR[10]? =U (aE (U ⟨bw,0,V⟩))
 pair:∃i1 i2 r1 r2,j4 s.role i1 i2 r1 r2∧r1.aM.c=x1∧r2.aM.c=x2∧i1<s.gs.size∧i2<s.gs.size∧(∃k,s.ch x1=U ⟨V,ai,k⟩)∧(∃k,s.ch x2=U ⟨V,ai,k⟩)∧((s.D i1).stage=9->∃k,s.ch r1.out=U ⟨V,ai,k⟩)∧((s.D i2).stage=9->∃k,s.ch r2.out=U ⟨V,ai,k⟩)
 md:s.md=.opn 0
 since:Since K fs I Done s0 iE g0 w0 s ρ (G ((aY 41).at ⟨TL,[]⟩ [bD tZ]) B) w
section
variable {K:fy} {bw e8 e9 f14 f15 x1 y1 x2 y2 jf jt:Nat} {bf bt:eK} {p q p' q' c2 c3 d2 d3:Nat} {s t:St} {a:aU}
variable {fs:Array dV} {I:H} {nm:String->Bool} {Done:aU->av->Prop} {s0:St} {iE ρ eF:Nat->Nat} {g0 g g':aU} {w0 w w':av}
variable {B cU:List aX} {kL kR OV Kl:List eS} {lf lt:eK} {TL TR:Array ay}
theorem Since.trans{d}{c}{i}{w1}(a:Since K fs I Done s0 iE g0 w0 s ρ g w)(b:Since K fs I Done s ρ g w d c i w1):Since K fs I Done s0 iE g0 w0 d c i w1:=
 ⟨a.runs.trans b.runs,λz h=>(a.IC z h).trans (b.IC z (cF h a.tB)),bq a.tB b.tB,λz h f e=>(b.qX z (cF h a.tB) f e).trans (a.qX z h f e),b.back.trans a.back,a.out.trans b.out,b.size.trans a.size⟩
theorem mG.NN{c}{b}{d}{w1}(a:Since K fs I Done s0 iE g0 w0 c b d w1)(X:mG K fs I Done B cU c b d w1 kL kR e8 e9 bw f14 f15 x1 y1 x2 y2 jf jt lf lt bf bt p q p' q' c2 c3 d2 d3 ρ w TL TR s):mG K fs I Done B cU s0 iE g0 w0 kL kR e8 e9 bw f14 f15 x1 y1 x2 y2 jf jt lf lt bf bt p q p' q' c2 c3 d2 d3 ρ w TL TR s:=
 ⟨X.ok,X.term,X.eN,X.agree,X.sL,X.flag,X.JS,X.Gs,X.DN,X.BU,X.ef,X.et,X.rt,X.rs,a.trans X.since⟩
theorem mG.aAh(X:mG K fs I Done B cU s0 iE g0 w0 kL kR e8 e9 bw f14 f15 x1 y1 x2 y2 jf jt lf lt bf bt p q p' q' c2 c3 d2 d3 ρ w TL TR s):mG K fs I Done B cU s ρ (G ((aY 41).at ⟨TL,[]⟩ kL) B) w kL kR e8 e9 bw f14 f15 x1 y1 x2 y2 jf jt lf lt bf bt p q p' q' c2 c3 d2 d3 ρ w TL TR s:=
 ⟨X.ok,X.term,X.eN,X.agree,X.sL,X.flag,X.JS,X.Gs,X.DN,X.BU,X.ef,X.et,X.rt,X.rs,.refl _ _ _ _⟩
theorem mG.fin(X:mG K fs I Done B cU s0 iE g0 w0 [bD tZ] [bD (cP 10)] e8 e9 bw f14 f15 x1 y1 x2 y2 jf jt lf lt bf bt p q p' q' c2 c3 d2 d3 ρ w TL TR s):Fin K fs I Done B cU s0 iE g0 w0 e8 e9 bw x1 y1 x2 y2 ρ w TL TR s:=by
 refine⟨X.ok.DD,X.term,X.eN,X.agree 6 (by decide),X.agree 7 (by decide),X.sL,X.rt.size,X.flag,X.rs.box.c8,X.rs.box.c9,X.rs.box.m8,X.rs.box.m9,X.rt.t8,X.rt.t9,X.rt.t10,?_,X.rs.md,X.since⟩
 rcases X.rs.par with⟨b,e,c,d⟩|⟨b,e,c,d⟩
 ·exact⟨jf,jt,_,_,X.rs.pair,b,c,X.rs.lf,X.rs.lt,by rw[<-b];exact X.rs.ou,by rw[<-c];exact X.rs.zh,λ_=>X.rs.pC,λ_=>X.rs.yc⟩
 ·exact⟨jt,jf,_,_,X.rs.pair.swap,c,b,X.rs.lt,X.rs.lf,by rw[<-c];exact X.rs.zh,by rw[<-b];exact X.rs.ou,λ_=>X.rs.yc,λ_=>X.rs.pC⟩
def rK(TL:Array ay)(x n y b t15 t14:ay):Array ay:=gH TL [(69,x),(70,n),(12,y),(13,b),(72,t15),(73,t14),(14,t15),(15,t14)]
theorem YY{x n y b t15 t14}{z}(h:z∈qj)(i:z≠12)(f:z≠13):(rK TL x n y b t15 t14)[z]? =TL[z]? :=by
 unfold rK;refine F5 _ _ λv d e=>?_;have j:∀z∈qj,z≠69∧z≠70∧z≠72∧z≠73∧z≠14∧z≠15:=by decide
 have:=j z h;simp only[dh,dJ,dO] at d
 grind
theorem alo{x n y b t15 t14}(d:TL.size=87):(rK TL x n y b t15 t14)[12]? =y∧(rK TL x n y b t15 t14)[13]? =b∧(rK TL x n y b t15 t14)[14]? =t15∧(rK TL x n y b t15 t14)[15]? =t14:=by
 have c:∀z,z<87->z<TL.size:=λz h=>by grind
 unfold rK;exact⟨DJ (v:=y) 2 rfl (by simp) (c _ (by decide)),DJ (v:=b) 3 rfl (by simp) (c _ (by decide)),DJ (v:=t15) 6 rfl (by simp) (c _ (by decide)),DJ (v:=t14) 7 rfl (by simp) (c _ (by decide))⟩
theorem YZ{x n y b t15 t14}:(((((((TL.setIfInBounds 69 x).setIfInBounds 70 n).setIfInBounds 12 y).setIfInBounds 13 b).setIfInBounds 72 t15).setIfInBounds 73 t14).setIfInBounds 14 t15).setIfInBounds 15 t14=rK TL x n y b t15 t14:=by unfold rK gH;simp only[List.foldl_cons,List.foldl_nil]
theorem FV{T d}(h:vj T d){z}(f:z∈qj)(b:z≠12)(c:z≠13):T[z]? =d[z]? :=by
 have e:∀z∈qj,z<69:=by decide
 exact h z b c (ax (e z f))
theorem asF(m:mm (J aC fs) Done)(P:TL.size=87)(Q1:TL[14]? =U (aE (lf)))(k:TL[15]? =U (aE (lt))){d}{n c}
  (D:Term (J aC fs) Done (G ((aY 41).at ⟨TL.setIfInBounds 69 (aD d n c),[]⟩ (aP mX [1]::qL)) B) w):
  ∃w',i w w'∧Term (J aC fs) Done (G ((aY 41).at ⟨rK TL (aD d n c) (d.isNone) (if d.isNone then aD V 0 0 else aD d n c) ((!d.isNone)) (aE (lt)) (aE (lf)),[]⟩ (bD ni::jA)) B) w'∧
   kW (J aC fs) Done (G ((aY 41).at ⟨rK TL (aD d n c) (d.isNone) (if d.isNone then aD V 0 0 else aD d n c) ((!d.isNone)) (aE (lt)) (aE (lf)),[]⟩ (bD ni::jA)) B,w') (G ((aY 41).at ⟨TL.setIfInBounds 69 (aD d n c),[]⟩ (aP mX [1]::qL)) B,w):=by
 obtain⟨_,F,rfl,z,y,C⟩:=Term.goes m i.refl i.trans (λ_ _ h=>h) (λ_ _ _ h=>h) (tailA (jJ (by grind))) D
 have f:∀b,dW ⟨(TL.setIfInBounds 69 (aD d n c)).setIfInBounds 70 b,[]⟩ (cu 70)=b:=λb=>getD_some (jJ (by grind))
 cases d with
 |none=>
  obtain⟨_,E,rfl,o,r,x⟩:=Term.goes m i.refl i.trans (λ_ _ h=>h) (λ_ _ _ h=>h) (al7 (f Z)) z;obtain⟨_,u,rfl,Q0,j,v⟩:=Term.goes m i.refl i.trans (λ_ _ h=>h) (λ_ _ _ h=>h) (Ze (by simp[P]) (by rw[l (by decide),l (by decide),l (by decide),l (by decide)];exact Q1) (by rw[l (by decide),l (by decide),l (by decide),l (by decide)];exact k)) o
  rw[YZ] at Q0 j;exact⟨u,(C.trans _ _ _ x).trans _ _ _ v,Q0,j.trans (r.trans y)⟩
 |some A=>
  have e:((TL.setIfInBounds 69 (aD (A) n c)).setIfInBounds 70 (ai))[69]? =U (aD (A) n c):=by grind
  obtain⟨_,E,rfl,o,r,x⟩:=Term.goes m i.refl i.trans (λ_ _ h=>h) (λ_ _ _ h=>h) (al6 (f ai) e) z;obtain⟨_,u,rfl,Q0,j,v⟩:=Term.goes m i.refl i.trans (λ_ _ h=>h) (λ_ _ _ h=>h) (Ze (by simp[P]) (by rw[l (by decide),l (by decide),l (by decide),l (by decide)];exact Q1) (by rw[l (by decide),l (by decide),l (by decide),l (by decide)];exact k)) o
  rw[YZ] at Q0 j;exact⟨u,(C.trans _ _ _ x).trans _ _ _ v,Q0,j.trans (r.trans y)⟩
theorem asK(d:mm (J aC fs) Done){T}(c:T.size=87)(b:T[13]? =U (cz ai))(v:Term (J aC fs) Done (G ((aY 41).at ⟨T,[]⟩ (bD ni::jA)) B) w):
  ∃w',i w w'∧Term (J aC fs) Done (G ((aY 41).at ⟨gH T iB,[]⟩ [bD tZ]) B) w'∧kW (J aC fs) Done (G ((aY 41).at ⟨gH T iB,[]⟩ [bD tZ]) B,w') (G ((aY 41).at ⟨T,[]⟩ (bD ni::jA)) B,w):=by
 obtain⟨_,o,rfl,k,f,l⟩:=Term.goes d i.refl i.trans (λ_ _ h=>h) (λ_ _ _ h=>h) (av8 c b) v;obtain⟨_,m,rfl,j,e,n⟩:=Term.goes d i.refl i.trans (λ_ _ h=>h) (λ_ _ _ h=>h) (Gh (aeK c)) k;exact⟨m,l.trans _ _ _ n,j,e.trans f⟩
theorem alp(hP:K.P=aC)(qU:K.L=dK)(hl:K.live=Z)(qT:K.Wg=bw)(W:Dd fs I nm)(hE:mm (J K.P fs) Done)(jX:∀g w,Done g w->g.callers=[])(ir:B≠ []){Q:Prop}
  (X:mG K fs I Done B cU s0 iE g0 w0 (aP mX [0,1]::qL) (aP rS [0,1,2,3]::tO) e8 e9 bw f14 f15 x1 y1 x2 y2 jf jt lf lt bf bt p q p' q' c2 c3 d2 d3 ρ w TL TR s)
  (awH:∀eF w' Mo QU t,Fin K fs I Done B cU s0 iE g0 w0 e8 e9 bw x1 y1 x2 y2 eF w' Mo QU t->Q)
  (awJ:∀eF w' Mo QU t,mG K fs I Done B cU s0 iE g0 w0 (bD ni::jA) (bD kB::nx) e8 e9 bw f14 f15 x1 y1 x2 y2 jt jf lt lf bt bf p' q' p q d2 d3 c2 c3 eF w' Mo QU t->
   sI (pK (J K.P fs) Done) (G ((aY 41).at ⟨Mo,[]⟩ (bD ni::jA)) B,w') (G ((aY 41).at ⟨TL,[]⟩ (aP mX [0,1]::qL)) B,w)->Q):Q:=by
 obtain⟨P,L,y,n0,o,live⟩:=K;simp only at hP qU hl qT;subst hP qU hl qT;obtain⟨t,T4,T58,bx,r1,H1,z4,s4,ro,gS,⟨k,ou⟩,Nh,L1,gP,afb,aec,awV⟩:=apt rfl rfl rfl rfl X.ok X.rt X.rs;have QW:=X.rs.pair;obtain⟨_,w1,rfl,t1,b1,l1⟩:=Term.goes hE i.refl i.trans (λ_ _ h=>h) (λ_ _ _ h=>h) (asR (C:=B) (fs:=fs) W.f59 ⟨X.Gs,afM X.sL⟩) X.term;have has:bu ρ I w1 #[aE (lt),TL.getD 12 ak] #[aE (bt),TR.getD 12 ak]:=by
  have R:=X.agree 12 (by decide)
  have fP:=l1.heap;refine⟨λv hv=>?_,?_⟩
  ·simp only[fJ,dh,dJ,dO] at hv;rw[fP];rcases hv with rfl|rfl
   ·simp only[S,B1];exact X.BU
   ·exact R.1
  ·rw[R.2,X.et];simp[F]
 obtain⟨N,eF,w2,x,x',ag,tB,qX,axH,hx,Sg,tg,r2,u,H2,M2⟩:=phase (K:=⟨aC,dK,y,n0,o,Z⟩) rfl W hE jX W.t59 ⟨_,_,func59,rfl⟩ (bL:=(aY 41).at ⟨TL,[]⟩ (aP mX [0,1]::qL)) (B:=B) ir has H1 t1 ((X.eN.left L1 gP).re (K:=⟨aC,dK,y,n0,o,Z⟩) l1) (X.flag.tape l1);have AD:sJ ((aY 41).at ⟨TL,[]⟩ (aP mX [0,1]::qL)) x=(aY 41).at ⟨TL.setIfInBounds 69 x,[]⟩ (aP mX [1]::qL):=by rw[GM];rfl
 rw[AD] at Sg tg;obtain⟨pp,n,c,rfl⟩:=alI (v:=x) hE (λfr w hd=>ir (jX _ _ hd)) (jJ (by rw[X.sL];decide)) Sg
 obtain⟨w3,l3,Zh,b3⟩:=asF hE X.sL X.JS X.Gs Sg;have Vi:x'=aD (pp.map (dA eF)) n c:=by rw[hx.2];simp[F]
 subst Vi;have PR:(N.v.heap[bx]? =U (aF #[cY (p'),cY (q')] 114)∧N.v.heap[d3]? =U (aF #[je bt] 126))∧bx∈(N.D jt).own∧d3∈(N.D jt).own:=by obtain⟨⟨f1,f2⟩,f3,f4⟩:=awV;refine⟨⟨(u.own bx (H1.hold.inv.own jt bx f3).2 (H1.hold.inv.own jt bx f3).1).trans f1,(u.own d3 (H1.hold.inv.own jt d3 f4).2 (H1.hold.inv.own jt d3 f4).1).trans f2⟩,?_,?_⟩<;>rw[u.D]<;>assumption
 have BE:=u.role.trans ro;have uC:=u.md.trans gS;have pC:=u.ch.trans ou;have Ng:=u.size.trans Nh;have To:j4 N.role jf jt (wk y c2 c3 p q bf) (wk y d2 d3 p' q' bt):=by rw[BE];exact QW.ajs _
 have QC:N.ch p'=U ⟨V,ai,k⟩:=by rw[pC,cX]
 have XA:∀z,z≠p'->N.ch z=s.ch z:=λz l=>by rw[pC,cQ s.ch _ l]
 have ahk:∃k,N.ch p=U ⟨V,ai,k⟩:=by rw[XA p QW.cc];exact X.rs.ou
 have ahj:∃k,N.ch q=U ⟨V,ai,k⟩:=by rw[XA q (λe=>QW.Is e.symm)];exact X.rs.pC
 have azt:∃k,N.ch q'=U ⟨V,ai,k⟩:=by rw[XA q' (λe=>QW.A5 e.symm)];exact X.rs.yc
 have Tf:N.role 0=(F8 cU T4 e8 e9 f14 f15 x1 y1 x2 y2 p' q' p q):=by rw[BE,cX]
 have S2:=
  (((X.since.tape b1 l1).right r1 (.of L1 gP) Nh).both (ag) tB qX (aA tg) r2 u.still u.size)
 have tg2:sI (pK (J aC fs) Done) (G ((aY 41).at ⟨TL.setIfInBounds 69 (aD pp n c),[]⟩ (aP mX [1]::qL)) B,w2) (G ((aY 41).at ⟨TL,[]⟩ (aP mX [0,1]::qL)) B,w):=by
  rcases b1 with e|b1
  ·grind
  ·exact tg.trans b1
 have Sd:=kW.ux b3 tg2;have S3:=S2.tape b3 l3;have Si:w.heap.size<=w3:=by rw[l3.heap];rw[l1.heap] at tB;exact tB
 have ID:=λz l=>ag z (by rw[l1.heap];exact l)
 have M3:fF eF I aC N.cl w3 N.v:=M2.re (K:=⟨aC,dK,y,n0,o,Z⟩) l3;have af4:=axH.tape l3;have PT:=X.agree.mono ID Si;obtain⟨g12,g13,g14,g15⟩:=alo (TL:=TL) (x:=aD pp n c) (n:=pp.isNone) (y:=if pp.isNone then aD V 0 0 else aD pp n c) (b:=(!pp.isNone)) (t15:=aE (U lt)) (t14:=aE (U lf)) X.sL
 have Sj:(rK TL (aD pp n c) (pp.isNone) (if pp.isNone then aD V 0 0 else aD pp n c) ((!pp.isNone)) (aE (lt)) (aE (lf))).size=87:=(F4 _ _).trans X.sL
 cases pp with
 |none=>
  refine alW rfl QW.mV afb aec PR H2 λQ1 g4 r4 H4 m D4 E kF hC4=>?_;have Jz:j4 Q1.role jf jt (wk y c2 c3 p q bf) (wk y d2 d3 p' q' bt):=by rw[m.role];exact To
  obtain⟨kq,hkq⟩:=azt;refine H4.aot (K:=⟨aC,dK,y,n0,o,Z⟩) rfl Jz.swap (rm:=F8 cU T4 e8 e9 f14 f15 x1 y1 x2 y2 p' q' p q) (by rw[m.role];exact Tf) rfl kF hC4 (k:=kq) (k1:=k) (by rw[E];exact hkq) (by rw[E];exact QC) (λe=>by obtain⟨m,hk4⟩:=X.rs.yc;exact X.ok.Tw X.rs.box.m8 hk4 e) λt5 g5 r5 H5 VH wW JI T L5 A1 azq azs Sm aqM=>?_
  obtain⟨T5,rfl,Rl,QX,h76,B5⟩:=VH;obtain⟨t6,_,r6,H6,⟨T6,rfl,f,Q0,R,WE⟩,M⟩:=H5.walk (n:=20) (O:=[]) (Rd:=[]) (Stop:=λg w=>∃D,g=G ((aY 41).at ⟨D,[]⟩ (bD kB::nx)) cU∧D.size=87∧vj D T5∧D[12]? =U (aD V 0 0)∧D[13]? =U (cz ai)) (λg w h=>by obtain⟨_,rfl,_⟩:=h;rfl) (ahK Rl _) (by simp) (by simp)
  obtain⟨t7,_,r7,H7,rfl,k7⟩:=H6.walk (n:=30) (O:=[]) (Rd:=[]) (Stop:=λg w=>g=G ((aY 41).at ⟨gH T6 iB,[]⟩ (aP gR []::Et)) cU) (λg w h=>by rw[h];rfl) (av7 f WE) (by simp) (by simp)
  obtain⟨t8,_,r8,H8,rfl,k8⟩:=H7.walk (n:=8) (O:=[]) (Rd:=[]) (Stop:=λg w=>g=G ((aY 41).at ⟨gH T6 iB,[]⟩ [bD (cP 10)]) cU) (λg w h=>by rw[h];rfl) (abE (aeK f)) (by simp) (by simp)
  obtain⟨w4,l4,t4',b4⟩:=asK hE Sj g13 Zh;have j:=(M.trans k7).trans k8;have Q2:∀z,z∈qj->z≠12->z≠13->z<44->(gH T6 iB)[z]? =TR[z]? :=λz l C QY h3=>by rw[F5 _ _ (VX (ax h3)),FV Q0 l C QY,FV QX l C QY,FV s4 l C QY]
  have auK:∀z,z∈qj->z≠12->z≠13->z<44->(gH (rK TL (aD V n c) ((V:Option eK).isNone) (if(V:Option eK).isNone then aD V 0 0 else aD V n c) ((!(V:Option eK).isNone)) (aE (lt)) (aE (lf))) iB)[z]? =TL[z]? :=λz l C QY h3=>by rw[F5 _ _ (VX (ax h3)),YY l C QY]
  have hRV:∀z,z∈qj->z≠12->z≠13->z<44->RV eF I w4 ((gH (rK TL (aD V n c) ((V:Option eK).isNone) (if(V:Option eK).isNone then aD V 0 0 else aD V n c) ((!(V:Option eK).isNone)) (aE (lt)) (aE (lf))) iB).getD z ak) ((gH T6 iB).getD z ak):=λz l C QY h3=>by
   have:=PT z l;rw[l4.heap];rw[iz,iz] at this⊢;rw[Q2 z l C QY h3,auK z l C QY h3]
   grind
  have GX:∀z x,TR[z]? =U x->z=8∨z=9∨z=10->(gH T6 iB)[z]? =U x:=λz x h l=>by rw[F5 _ _ (VX (by omega)),Q0 z (by omega) (by omega) (by omega),QX z (by omega) (by omega) (by omega),s4 z (by omega) (by omega) (by omega)];exact h
  have VA:=λb hb=>j.rest b (H5.hold.inv.own 0 b hb).2 (H5.hold.inv.own 0 b hb).1 (by simp)
  have A:=j.size.trans (T.trans (m.size.trans Ng));have aDi:=j.role.trans (wW.trans m.role);refine awH eF w4 _ _ t8 ⟨H8,t4',((((M3.left m.left m.cls).left L5 A1).left j.left j.cls).re (K:=⟨aC,dK,y,n0,o,Z⟩) l4),hRV 6 (by decide) (by decide) (by decide) (by decide),hRV 7 (by decide) (by decide) (by decide) (by decide),(F4 _ _).trans Sj,(F4 _ _).trans f,af4.tape l4,(VA e8 B5.m8).trans B5.c8,(VA e9 B5.m9).trans B5.c9,by rw[j.D0];exact B5.m8,by rw[j.D0];exact B5.m9,
   GX 8 _ X.rt.t8 (by simp),GX 9 _ X.rt.t9 (by simp),GX 10 _ X.rt.t10 (by simp),?_,j.md.trans (JI.trans (m.md.trans uC)),?_⟩
  ·have pr8:j4 t8.role jf jt (wk y c2 c3 p q bf) (wk y d2 d3 p' q' bt):=by grind
   have Q3:j4 t5.role jf jt (wk y c2 c3 p q bf) (wk y d2 d3 p' q' bt):=by grind
   have a1:∃k,t8.ch p=U ⟨V,ai,k⟩:=by have C:t8.ch p=t5.ch p:=j.eT jf _ Q3.one Q3.xe;have QY:t5.ch p=Q1.ch p:=azs;rw[C,QY,E];exact ahk
   have a2:∃k,t8.ch p'=U ⟨V,ai,k⟩:=by have C:t8.ch p'=t5.ch p':=j.eT jt _ Q3.two Q3.mV;have QY:t5.ch p'=Q1.ch p':=azq;rw[C,QY,E];exact⟨k,QC⟩
   have a3:(t8.D jf).stage=9->∃k,t8.ch q=U ⟨V,ai,k⟩:=λh9=>by obtain⟨C,QY⟩:=j.outs jf _ Q3.one Q3.xe h9;have PW:t8.ch q=t5.ch q:=C;have h3:t5.ch q=Q1.ch q:=aqM QY;rw[PW,h3,E];exact ahj
   have a4:(t8.D jt).stage=9->∃k,t8.ch q'=U ⟨V,ai,k⟩:=λh9=>absurd (j.outs jt _ Q3.two Q3.mV h9).2 Sm;rcases X.rs.par with⟨e1,e2,e3,e4⟩|⟨e1,e2,e3,e4⟩
   ·exact⟨jf,jt,_,_,pr8,e1,e3,by rw[A];exact X.rs.lf,by rw[A];exact X.rs.lt,by rw[<-e1];exact a1,by rw[<-e3];exact a2,a3,a4⟩
   ·exact⟨jt,jf,_,_,pr8.swap,e3,e1,by rw[A];exact X.rs.lt,by rw[A];exact X.rs.lf,by rw[<-e3];exact a2,by rw[<-e1];exact a1,a4,a3⟩
  ·exact((((((S3.tape b4 l4).right r4 (.of m.left m.cls) m.size).right r5 (.of L5 A1) T).right r6 (.of M.left M.cls) M.size).right r7 (.of k7.left k7.cls) k7.size).right r8 (.of k8.left k8.cls) k8.size)
 |some ad=>
  refine alV (C:=tj y d2 d3 p' q' bt) rfl QW.mV (b3:=d3) afb aec PR H2 λQ1 g4 r4 H4 m D4 E auV auI auL=>?_;have Jz:j4 Q1.role jf jt (wk y c2 c3 p q bf) (wk y d2 d3 p' q' bt):=by rw[m.role];exact To
  have rs4:Q1.role 0=(F8 cU T4 e8 e9 f14 f15 x1 y1 x2 y2 p' q' p q):=by rw[m.role];exact Tf
  have aaD:bz Q1.role jt ((wk y d2 d3 p' q' bt))=Q1.role:=by
   funext QZ;by_cases e:QZ=jt
   ·subst e;rw[cX];exact Jz.two.symm
   grind[upd_ne]
  obtain⟨t5,g5,k5,r5,H5,VH,wW,JI,A2,T,L5,A1⟩:=H4.send (K:=⟨aC,dK,y,n0,o,Z⟩) (n:=21) (kh:=k) (j:=0) (rj:=F8 cU T4 e8 e9 f14 f15 x1 y1 x2 y2 p' q' p q) (rh:=wk y d2 d3 p' q' bt) (x:=aD (U (dA eF ad)) n c) (z:=bO #[]) rfl auV
   (λw1=>by
    have e:(jt==0)=ai:=by simpa using QW.mV
    rw[e];exact auI w1) (tM QW.mV) rs4 H4.hold.inv.zero
   (by
    have e:(jt==0)=ai:=by simpa using QW.mV
    rw[e];exact auL) (by decide) (by rw[E];exact QC) QW.A5
   (λQZ r hi hr=>by
    rcases Jz.all QZ r hr with rfl|rfl|rfl
    ·rw[rs4] at hr;cases hr;exact λe=>QW.A5 e.symm
    ·rw[Jz.one] at hr;cases hr;exact QW.cc
    grind)
   (by rw[aaD];exact H4.hold.fR.cast)
  rw[aaD] at wW;obtain⟨T5,rfl,Rl,QX,h76,B5⟩:=VH;obtain⟨t6,_,r6,H6,⟨T6,rfl,f,Q0,R,WE⟩,M,D6,c6⟩:=H5.walk (n:=20) (O:=[]) (Rd:=[]) (Stop:=λg w=>∃D:Array ay,g=G ((aY 41).at ⟨D,[]⟩ (bD kB::nx)) cU∧D.size=87∧vj D T5∧D[12]? =U (aD (U (dA eF ad)) n c)∧D[13]? =U (cz Z)) (λg w h=>by obtain⟨_,rfl,_⟩:=h;rfl) (ahK Rl _) (by simp) (by simp)
  have Q2:∀z,z∈qj->z≠12->z≠13->T6[z]? =TR[z]? :=λz l C QY=>by rw[FV Q0 l C QY,FV QX l C QY,FV s4 l C QY]
  have BD:=M.role.trans (wW.trans m.role);have Mh:∀z,z≠q'->t6.ch z=N.ch z:=λz l=>by rw[c6,A2];show bz Q1.ch q' _ z=_;rw[cQ Q1.ch _ l,E]
  have FO:=M.size.trans (T.trans (m.size.trans Ng));have hA6:kJ eF I w3 qj (rK TL (aD (ad) n c) ((U ad).isNone) (if(U ad).isNone then aD V 0 0 else aD (ad) n c) ((!(U ad).isNone)) (aE (lt)) (aE (lf))) T6:=by
   intro z l;by_cases z12:z=12
   ·subst z12;rw[getD_some g12,getD_some R];refine⟨?_,by simp[F]⟩
    have:=hx.1;rw[l3.heap];exact this
   by_cases IX:z=13
   ·subst IX;rw[getD_some g13,getD_some WE];exact RV.plain rfl
   have:=PT z l;rw[iz,iz] at this⊢;rw[Q2 z l z12 IX,YY l z12 IX]
   grind
  refine awJ eF w3 _ T6 t6 ⟨H6,Zh,(((M3.left m.left m.cls).left L5 A1).left M.left M.cls),hA6,Sj,af4,g14,g15,H.eu X.BU Si,H.eu X.DN Si,X.et.trans (Gd X.BU ID),X.ef.trans (Gd X.DN ID),
   X.rt.of f (λz l=>by rw[Q0 z (by omega) (by omega) (by omega),QX z (by omega) (by omega) (by omega),s4 z (by omega) (by omega) (by omega)]),
   ⟨B5.keep (λb hb=>M.rest b (H5.hold.inv.own 0 b hb).2 (H5.hold.inv.own 0 b hb).1 (by simp)) (λb hb=>M.own b hb),by rw[BD];exact To.swap,by rw[FO];exact X.rs.lt,by rw[FO];exact X.rs.lf,λr hr=>by rw[BD,Tf] at hr;cases hr;rfl,by rw[Mh p' (λe=>QW.A5 e)];exact⟨k,QC⟩,⟨k5,(by rw[c6,A2];exact cX _ _ _)⟩,by rw[Mh p (λe=>QW.It e)];exact ahk,by rw[Mh q (λe=>QW.oo e)];exact ahj,M.md.trans (JI.trans (m.md.trans uC)),X.rs.par.symm.imp (λ⟨a,b,c,d⟩=>⟨c,d,a,b⟩) (λ⟨a,b,c,d⟩=>⟨c,d,a,b⟩)⟩,
   ((S3.right r4 (.of m.left m.cls) m.size).right r5 (.of L5 A1) T).right r6 (.of M.left M.cls) M.size⟩ Sd
end
variable{bw e8 e9 x1 y1 x2 y2:Nat}{I:H}{nm:String->Bool}{Done:aU->av->Prop}{B cU:List aX}
theorem Fin.NN{s0 e s}{c b ρ}{d g}{w0 w1 w}{TL f}(a:Since K fs I Done s0 c d w0 e b g w1)(X:Fin K fs I Done B cU e b g w1 e8 e9 bw x1 y1 x2 y2 ρ w TL f s):Fin K fs I Done B cU s0 c d w0 e8 e9 bw x1 y1 x2 y2 ρ w TL f s:=
 ⟨X.DD,X.term,X.eN,X.ZB,X.seven,X.sL,X.sR,X.flag,X.c8,X.c9,X.m8,X.m9,X.t8,X.t9,X.t10,X.pair,X.md,a.trans X.since⟩
theorem alY(E:K.P=aC)(l:K.L=dK)(hl:K.live=Z)(r:K.Wg=bw)(W:Dd fs I nm)(L:mm (J K.P fs) Done)(f:∀g w,Done g w->g.callers=[])(i:B≠ []){Q:Prop}{s0}{h}{x}{w0}
  (a:∀b o d c t,Fin K fs I Done B cU s0 h x w0 e8 e9 bw x1 y1 x2 y2 b o d c t->Q):
  ∀(y),_root_.Acc (sI (pK (J K.P fs) Done)) y->∀{j e A Q2} {z D C S} {p q R H T M O N} {ρ} {w} {TL Q3} {s},y=(G ((aY 41).at ⟨TL,[]⟩ (bD ni::jA)) B,w)->
   mG K fs I Done B cU s0 h x w0 (bD ni::jA) (bD kB::nx) e8 e9 bw j e x1 y1 x2 y2 A Q2 z D C S p q R H T M O N ρ w TL Q3 s->Q:=by
 intro y n;induction n with
 |intro y _ ih=>
  intro j e A Q2 z D C S p q R H T M O N ρ w TL Q3 s Q1 X;refine aln E L (λfr w hd=>i (f _ _ hd)) W.flag X.aAh (λb o d c t k=>?_) λb o d c t k=>?_
  ·exact a _ _ _ _ _ (k.fin.NN X.since)
  ·refine alp E l hl r W L f i k (λu w2 m v P F=>a _ _ _ _ _ (F.NN X.since)) λu w2 m v P Q0 tg=>?_;exact ih _ (by rw[Q1];exact kW.of tg k.since.back) rfl (Q0.NN X.since)
end
section
open Go.Conc Go.RowKit Go.Conc.Lib Go.ConcR.Gen
open Go.ConcN (WgLive)
open Go.ConcN.Gen (WgLive.cell0 WgLive.cell1)
open Go.ConcR (KK WgAt stA smA wgBlock rd wr mk Bk)
variable{P:bU}{L:WgLink}{Wg:Nat}{pF:aX}{pH:Act}{lg:Array dD}{pn:Nat}{oT:List Nat}{oY:List eS}{cs:List aX}
set_option maxHeartbeats 8000000 in
theorem ajn (H:WgLib P L) (w:av) (hF:jq L.tWg Wg w):
  ah7 P L Wg (Me L (λ_=>True) Wg (pF.at pH (aP lg (pn::oT)::oY)) cs)
   (G ((aY L.wait).at ⟨#[aE (U ⟨Wg,0,V⟩),ak,ak,ak,ak,ak,ak,ak,ak,ak,ak,ak,ak,ak,ak,ak,ak,ak,ak,ak,ak,ak,ak,ak,ak,ak,ak,ak,ak,ak,ak,ak,ak,ak,ak,ak,ak,ak,ak,ak,ak,ak,ak,ak,ak,ak,ak,ak,ak,ak,ak,ak,ak,ak,ak,ak,ak,ak,ak,ak,ak,ak,ak,ak,ak,ak,ak,ak,ak,ak,ak,ak,ak,ak,ak,ak,ak,ak,ak,ak,ak,ak,ak,ak],[]⟩ [bD (body_wait L)]) (pF.at pH (aP lg (pn::oT)::oY)::cs)) w:=by
 lib_facts;refine⟨3,dG ?_⟩;simp only[body_wait,waitFn,fO];u_c D E hF;u_cond Z E hF;u_reg E hF;refine I (λw₁ h₁=>?_);replace hF:=E hF h₁;clear h₁;refine⟨rfl,_,stepG_mark0 .disable (by simp) rfl rfl (by k_ne) rfl H.f_disable (x_disable_n L) (x_disable_b L) (x_disable_x L) (x_disable_f L),3,dG ?_⟩
 walk_nrm;u_c N E hF;u_c GL E hF;u_c stepG_loop E hF;exact I (λA h₂=>⟨_,rfl,by simp,by simp,trivial,E hF h₂⟩)
end
section
open Go.Proofs Go.Conc Go.RowKit Go.Conc.Lib Go.ConcR.Gen
open Go.ConcN (upd upd_ne upd_same WgLive)
open Go.ConcR (KK WgAt stA smA wgBlock rd wr mk Bk)
def Fu(Wg:Nat):Prop:=∀(pF:aX) (pH:Act) (lg:Array dD) (pn:Nat) (oT:List Nat) (oY:List eS) (cs:List aX) (g:aU) (w:av),Me dK (λ_=>True) Wg (pF.at pH (aP lg (pn::oT)::oY)) cs g w->
  ∃m,GQ aC dK Wg (Rg aC dK Wg (Me dK (λ_=>True) Wg (pF.at pH (aP lg (pn::oT)::oY)) cs) (G (pF.at (pH.put ((lg[pn]?).bind (·.dst)) (bO #[])) (aP lg oT::oY)) cs)) m g w
noncomputable def zU:Array dD:=eM (cP 10)
noncomputable def BQ:Array dD:=eM (cP 11)
noncomputable def yD:Array dD:=eM (cP 12)
theorem QA{P}{main}{b:aX}{T}{ds}{k}{cs}{ops}{i}{rest}{o}{t}{a}{c n}(q:ops[i]? =U o)(l:eP o (dY ops T)=Z)(s:b.kind≠ .early)
  (d:o.op=.call {callee:=.builtin .close,args:= #[cu t],argTypes:=a}) (j:T[t]? =U (cY (U c))) (m:(P.funcs[b.fn]?).any (·.norace)=ai) {w} (h:w.heap[c]? =U (.chan 1 #[] ai n n ai)):
  bZ P main (G (b.at ⟨T,ds⟩ (aP ops (i::rest)::k)) cs) w=bS (G (b.at (dj ⟨T,ds⟩ o.dst (bO #[])) (aP ops rest::k)) cs) (w.setChan c 1 #[] Z n n ai) (jY c):=by
 have r:(Xi a o.type #[cY (c)]).run P w=aV (bO #[]) (w.setChan c 1 #[] Z n n ai):=run_close_open a o.type h;have g:(Xi a o.type #[cY (c)]).events P w #[]=jY c:=by rw[events_close_open a o.type h];simp[jY]
 have v:seen P b.fn (jY c)=jY c:=seen_eq m λe g f=>by
  simp only[jY,fJ,dh,dJ,dO] at g
  grind
 have p:(cT (dW ⟨T,ds⟩) o).run P w=aV (fV (bO #[])) (w.setChan c 1 #[] Z n n ai):=by unfold cT;simp[d,go_sem,j,r]
 have u:(cT (dW ⟨T,ds⟩) o).events P w #[]=jY c:=by unfold cT;simp[d,go_sem,j,g]
 rw[qF q l s p];unfold listed
 grind
section
variable {K:fy} {C:List aX} {T:Array ay} {w:av}
set_option maxHeartbeats 1000000 in
theorem alA {e8} {x1 S} (M:T.size=87) (c:T[8]? =U (.pointer (e8))) (a:w.heap[e8]? =(ends (U x1) (U S))):
  cH aC Z (L ([]++[e8])) (DH [] [e8]) (λg w=>g=G ((aY 41).at ⟨(T.setIfInBounds 80 (.pointer (e8))).setIfInBounds 81 (.chan (x1)),[]⟩ (.inRegion zU [2]::[.code (cP 11)])) C) 8 (G ((aY 41).at ⟨T,[]⟩ [.code (cP 10)]) C) w:=by
 obtain⟨v0,v1,v2,v3,v4,v5,v6,v7,v8,v9,v10,A,v12,lK,oQ,J,oP,oO,W,lJ,v20,Y,N,oN,n,o,t,F,v28,Q3,z,v31,tn,Q0,q,oM,m,v37,oL,oK,v40,oJ,oI,oH,P,mQ,R,oG,oF,v49,s,v51,k,j,Q1,oE,mP,y,Q2,v59,mO,oD,oC,l,mM,u,mL,d,r,v,X,f,v72,V,p,H,v76,vu,Q,O,i,B,QW,mK,E,v85,h,rfl⟩:=oy T M;simp only[nW,pU,nV,ec] at c;subst c;simp only[zU,cP,eG,eM,nG,fO];refine jT (n:=3) ?_;u_c D rN a;u_reg rN a;u_op rN a;refine I (λ_ b=>?_);replace a:=rN a b;u_in rN a;refine fT rfl rfl (by k_ne) (λK x=>?_)
 have qS:=gp (o:=0) a rfl;go_simp;refine x _ _ ⟨⟨rfl,rfl,rfl,rfl,λ_ _=>rfl,λe he=>?_⟩,?_⟩
 ·have hm:=kN he;simp[go_sem, *] at hm
  grind
 exact I λw1 h1=>rfl
set_option maxHeartbeats 1000000 in
theorem alz {e8} {x1 S} (M:T.size=87) (c:T[9]? =U (.pointer (e8))) (a:w.heap[e8]? =(ends (U x1) (U S))):
  cH aC Z (L ([]++[e8])) (DH [] [e8]) (λg w=>g=G ((aY 41).at ⟨(T.setIfInBounds 82 (.pointer (e8))).setIfInBounds 83 (.chan (x1)),[]⟩ (.inRegion BQ [2]::[.code (cP 12)])) C) 8 (G ((aY 41).at ⟨T,[]⟩ (.inRegion zU []::[.code (cP 11)])) C) w:=by
 obtain⟨v0,v1,v2,v3,v4,v5,v6,v7,v8,v9,v10,A,v12,lK,oQ,J,oP,oO,W,lJ,v20,Y,Q2,oN,n,o,t,F,v28,QW,z,v31,tn,Q0,q,oM,m,v37,oL,oK,v40,oJ,oI,oH,P,mQ,R,oG,oF,v49,s,v51,k,j,Q1,oE,mP,y,Q3,v59,mO,oD,oC,l,mM,u,mL,d,r,v,X,f,v72,V,p,H,v76,vu,Q,O,i,B,QX,mK,E,v85,h,rfl⟩:=oy T M;simp only[nW,pU,nV,ec] at c;subst c;simp only[zU,BQ,cP,eG,eM,nG,fO];refine jT (n:=4) ?_;u_c N rN a;u_c D rN a;u_reg rN a;u_op rN a;refine I (λ_ b=>?_);replace a:=rN a b;u_in rN a;refine fT rfl rfl (by k_ne) (λK x=>?_)
 have qS:=gp (o:=0) a rfl;go_simp;refine x _ _ ⟨⟨rfl,rfl,rfl,rfl,λ_ _=>rfl,λe he=>?_⟩,?_⟩
 ·have hm:=kN he;simp[go_sem, *] at hm
  grind
 exact I λw1 h1=>rfl
set_option maxHeartbeats 1000000 in
theorem aly {c} (f:T[10]? =U (.pointer (c))):
  cH aC Z (L ([]++[])) (DH [] []) (λg w=>g=G ((aY dK.wait).at ⟨#[.pointer (U ⟨c,0,V⟩),ak,ak,ak,ak,ak,ak,ak,ak,ak,ak,ak,ak,ak,ak,ak,ak,ak,ak,ak,ak,ak,ak,ak,ak,ak,ak,ak,ak,ak,ak,ak,ak,ak,ak,ak,ak,ak,ak,ak,ak,ak,ak,ak,ak,ak,ak,ak,ak,ak,ak,ak,ak,ak,ak,ak,ak,ak,ak,ak,ak,ak,ak,ak,ak,ak,ak,ak,ak,ak,ak,ak,ak,ak,ak,ak,ak,ak,ak,ak,ak,ak,ak,ak],[]⟩ [.code (body_wait dK)]) ((aY 41).at ⟨T,[]⟩ (.inRegion yD [0]::[.code (cP 13)])::C)) 8 (G ((aY 41).at ⟨T,[]⟩ (.inRegion BQ []::[.code (cP 12)])) C) w:=by
 have b:=trivial;have e:cP 12=.seq (.region 18 yD ai) (cP 13):=by kernel_rfl
 refine jT (n:=1) ?_;u_c N A b;refine I (λ_ a=>?_);replace b:=A b a;rw[e];refine jT (n:=2) ?_;u_c D A b;u_in A b;rw[si,show yD.size=1 by kernel_rfl]
 simp only[eI];refine⟨by u_nil,?_⟩
 refine I (λ_ a=>?_);replace b:=A b a;u_in A b;have l:dW ⟨T,[]⟩ (.tmp 10)=.pointer (c):=getD_some f;obtain⟨o,j,i,d⟩:∃o,yD[0]? =U o∧o.guard=V∧o.op=.call {callee:=.value (.func dK.wait),args:= #[.tmp 10],argTypes:= #[125]}:=by
  have h:((yD[0]?).map λo=>(o.guard,o.op))=U (V,.call {callee:=.value (.func dK.wait),args:= #[.tmp 10],argTypes:= #[125]}):=by kernel_rfl
  grind
 refine goes_call j (by unfold eP;rw[i]) (by k_ne) d Dl.f_wait (nm_wait dK) rfl ⟨dh_none (by simp),?_⟩
 have k:(#[cu 10]:Array iI).map (dW ⟨T,[]⟩)= #[.pointer (c)]:=by simp[l]
 rw[k];walk_nrmf waitFn;exact I λm _=>rfl
end
end
end Go.Proofs.YtpdbmpbmepkikaaGreatDoor
