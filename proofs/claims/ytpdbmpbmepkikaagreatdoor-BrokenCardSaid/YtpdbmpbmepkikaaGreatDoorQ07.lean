/- Laws. -/
import Derived.Test.YtpdbmpbmepkikaaGreatDoorQ06
set_option maxRecDepth 100000
set_option maxHeartbeats 400000
set_option linter.all false
open Go.Proofs.Tryz
open Array renaming replicate->tT
open Bool renaming true->Y,false->ai
open Decidable renaming decide->cg
open Go renaming Goroutine->aX,Frame->aZ,undef->ak,World->ay,Value->az,Program->bW,execOp->cX,stepG->cj,Sem->cz,Oper->dJ,Addr->eT,Item->eY,Func->ep,yielded->eu,binOp->fZ,callFunc->iA,Operand->iT,Event->jl
open Go.Act renaming put->cA,eval->er
open Go.Builtin renaming close_->aa3
open Go.CallKind renaming normal->eC
open Go.Code renaming seq->eI,region->ec
open Go.Conc renaming base->bh,Goes->cK,closeEvents->kM,served->kN
open Go.ConcN renaming upd->bE,WgLive->jK
open Go.ConcN.Gen renaming AnchWN->OP
open Go.Departure renaming mixedOrders->nG
open Go.Frame renaming enter->eW,finish->tV
open Go.FrameMode renaming returning->fH
open Go.GStep renaming go->bU
open Go.GoStatus renaming running->dU
open Go.IntKind renaming i64->aC
open Go.Item renaming inRegion->aT,code->bF,inBlock->mh
open Go.Next renaming value->gp
open Go.Obj renaming cells->aH
open Go.Op renaming assign->pn,equalIn->sF
open Go.Operand renaming tmp->cx,const->gJ
open Go.Proofs.Tryz renaming prog->aF,f41->oB
open Go.Region renaming wanted->eX,ready->iY,schedule->mK
open Go.Region.linearise renaming go->x5
open Go.Result renaming ok->aY,halt->dR
open Go.Sem renaming run->oA
open Go.Value renaming int->V,slice->aE,pointer->aG,agg->bJ,tuple->bO,bool->bQ,chan->de
open List renaming range->mJ
open Option renaming some->U,none->Z
open Or renaming inr->aA,inl->ax
open Pure renaming pure->bI
open Relation renaming TransGen->tU
namespace Go.Proofs.YtpdbmpbmepkikaaGreatDoor
def rR:=@Go.Conc.stepG_value
def Ju:=@Go.Conc.stepG_block
def tH:=@Go.Conc.stepG_region
def Jt:=@Go.Conc.stepG_cond
def Ss:=@Go.Sem.run_bind
def DD:=@Prod.mk.injEq
def Sr:=@List.take_of_length_le
def ahb:=@Go.Conc.Goes.mono
section
open Go.Proofs Go.Conc Go.RowKit Go.Conc.Lib Go.ConcR.Gen
open Go.ConcN (upd upd_ne upd_same WgLive)
open Go.ConcR (KK WgAt stA smA wgBlock rd wr mk Bk)
section
variable {main:Bool} {b:aZ} {T:Array az} {ds:List Deferred} {k:List eY} {cs:List aZ} {ops:Array dJ} {i:Nat} {rest:List Nat} {o:dJ} {t u:Tmp} {e:Nat} {p q p' q':az}
theorem agn(s:ops[i]?=o)(n:eX o (eu ops T)=Y)(r:b.kind≠.early)(f:o.op=.load 114 (cx t))(j:T[t]?=U (aG e))(w)(l:w.heap[e]?=U (aH #[p,q] 114)):cj aF main (G (b.at ⟨T,ds⟩<|aT ops (i::rest)::k) cs) w=bU (G (b.at (cA ⟨T,ds⟩ o.dst<|bJ #[p,q])<|aT ops rest::k) cs) w (listed aF b.fn ⟨T,ds⟩ o w)/\∀h∈listed aF b.fn ⟨T,ds⟩ o w,∃a wr,h=⟨.cell a,wr,ai⟩/\a.block=e:=by
 have c:=gB (o:=0) l rfl;have d:=gB (o:=1) l rfl;have v:(cX (er ⟨T,ds⟩) o).run aF w=aY (gp<|bJ #[p,q]) w:=by unfold cX;simp[f,go_sem,j,c,d]
 refine⟨rR s n r v,λh g=>?_⟩;have m:=lH g;unfold cX at m;simp[f,go_sem,j,c,d]at m;grind
theorem alE(f:ops[i]?=o)(c:eX o (eu ops T)=Y)(d:b.kind≠.early)(a:o.op=.alloc 114)(w):cj aF main (G (b.at ⟨T,ds⟩<|aT ops (i::rest)::k) cs) w=bU (G (b.at (cA ⟨T,ds⟩ o.dst<|aG w)<|aT ops rest::k) cs) {w with heap:=w.heap.push<|aH #[de Z,de Z] 114} #[]:=by
 have g:(cX (er ⟨T,ds⟩) o).run aF w=aY (gp<|aG w) {w with heap:=w.heap.push<|aH #[de Z,de Z] 114}:=by unfold cX;simp[a,go_sem]
 have h:(cX (er ⟨T,ds⟩) o).events aF w #[]=#[]:=by unfold cX;simp[a,go_sem]
 rw[rR f c d g,oX h]
theorem Il(A:ops[i]?=o)(z:eX o (eu ops T)=Y)(C:b.kind≠.early)(l:o.op=.store 114 (cx t) (cx u))(v:T[t]?=U (aG e)){c d}(x:T[u]?=U (bJ #[de c,de d]))(w)(m:w.heap[e]?=U (aH #[p',q'] 114)):cj aF main (G (b.at ⟨T,ds⟩<|aT ops (i::rest)::k) cs) w=bU (G (b.at (cA ⟨T,ds⟩ o.dst ak)<|aT ops rest::k) cs) ((w.setCell e<|de c).setCell ⟨e,1,Z⟩<|de d) (listed aF b.fn ⟨T,ds⟩ o w)/\∀s∈listed aF b.fn ⟨T,ds⟩ o w,∃a wr,s=⟨.cell a,wr,ai⟩/\a.block=e:=by
 have h:=gB (o:=0) m rfl;have j:=wT 0 m;have y:=pB 0 (de c) m;have f:=gB (o:=1) y rfl;have g:=wT 1 y;have B:(cX (er ⟨T,ds⟩) o).run aF w=aY .skip ((w.setCell e<|de c).setCell ⟨e,1,Z⟩<|de d):=by unfold cX;simp[l,go_sem,v,x,h,j,f,g]
 refine⟨stepG_none A z C B,λs n=>?_⟩;have r:=lH n;unfold cX at r;simp[l,go_sem,storedEv,v,x,h,j,f,g]at r;grind
end
def EV(f:Bool->Bool):Bool:=f ai&&f Y
theorem KO{f}(h:EV f=Y)(a):f a=Y:=by simp only[EV,cV]at h;cases a<;>simp[h]
noncomputable def lU:Array dJ:=eU<|cS 8
def Uu(rd:List Nat)(a0 a1 a2 a3 a4 a5:Bool):Bool:=(rd.all λi=>cg (i<6)&&!(#[a0,a1,a2,a3,a4,a5]:Array Bool)[i]?.getD Y&&(i !=4||a0&&a2)&&(i !=5||a1&&a3))&&(!rd.isEmpty||a0&&a1&&a2&&a3&&a4&&a5)
theorem aeR(a d b e f c):Uu (iY .any lU #[a,d,b,e,f,c]) a d b e f c=Y:=by
 have h:(EV λa=>EV λd=>EV λb=>EV λe=>EV λf=>EV λc=>Uu (iY .any lU #[a,d,b,e,f,c]) a d b e f c)=Y:=by kernel_rfl
 exact KO (KO (KO (KO (KO (KO h a) d) b) e) f) c
theorem aqM:lU.size=6:=by kernel_rfl
abbrev ends(x y:Option Nat):Obj:=aH #[de x,de y] 114
structure R9(s0:St)(T0:Array az)(x1 y1 x2 y2:Nat)(a0 a1 a2 a3 a4 a5:Bool)(f2 f3:Nat)(T:Array az)(s:St):Prop where
 size:T.size=87
 rest:∀t,t≠14->t≠15->t≠42->t≠43->T[t]?=T0[t]?
 k:Kept 0 [] s0 s
 ch:s.ch=s0.ch
 v0:a0=Y->T[42]?=U (bJ #[de<|U x1,de<|U y1])v1:a1=Y->T[43]?=U (bJ #[de<|U x2,de<|U y2])b2:a2=Y->T[14]?=U (aG<|U ⟨f2,0,Z⟩)/\f2∈(s.D 0).own/\s0.v.heap.size<=f2/\s.v.heap[f2]?=U (if a4 then ends (U x1) (U y1)else ends Z Z)b3:a3=Y->T[15]?=U (aG<|U ⟨f3,0,Z⟩)/\f3∈(s.D 0).own/\s0.v.heap.size<=f3/\s.v.heap[f3]?=U (if a5 then ends (U x2) (U y2)else ends Z Z)ne:a2=Y->a3=Y->f2≠f3
 n4:a2=ai->a4=ai
 n5:a3=ai->a5=ai
def J9(s0:St)(T0:Array az)(x1 y1 x2 y2:Nat)(l:Array Bool)(a:Act)(s:St):Prop:=∃a0 a1 a2 a3 a4 a5 f2 f3,l=#[a0,a1,a2,a3,a4,a5]/\∃T,a=⟨T,[]⟩/\R9 s0 T0 x1 y1 x2 y2 a0 a1 a2 a3 a4 a5 f2 f3 T s
theorem get_put{T}{ds}{d:Tmp}{x}(h:d<T.size):(cA ⟨T,ds⟩ d x).tmps[d]?=x:=j5 h
section
variable {K:fG} {C:List aZ}
theorem Bh{s0 s}{O}(k:Kept 0 O s0 s)(H:cP K s0.role 0 s0.md s0.ch s0.cl (.hold 0) s0.D s0.T s0.gs s0.v){b}(a:b∈(s0.D 0).own)(c:b∉O):s.v.heap[b]?=s0.v.heap[b]?:=k.rest b (H.inv.own 0 b a).2 (H.inv.own 0 b a).1 c
set_option maxHeartbeats 4000000 in
theorem aqj(hP:K.P=aF){s0}{a0'}(H0:Ok K 0 s0 a0'){T0}{e8 e9 x1 y1 x2 y2}(Tu:T0.size=87)(h8:T0[8]?=U (.pointer e8)/\T0[9]?=U (.pointer e9))(hE:UX s0.v (s0.D 0).own e8 e9 x1 y1 x2 y2){kk}:∀listed a s i rest,J9 s0 T0 x1 y1 x2 y2 listed a s->i∈iY .any lU listed->Ok K 0 s (G ((bh 41).at a<|.inRegion lU (i::rest)::kk) C)->KA (listed.setIfInBounds i Y)=KA listed+1/\∃t a',s.runs K.P t/\Ok K 0 t (G ((bh 41).at a'<|.inRegion lU rest::kk) C)/\J9 s0 T0 x1 y1 x2 y2 (listed.setIfInBounds i Y) a' t:=by rintro _ _ s i rest⟨y,w,A,B,L,J,N,I,rfl,T,rfl,R⟩hi H;have hr:=aeR y w A B L J;simp only[Uu,cV,List.all_eq_true]at hr;have hri:=hr.1 i hi;simp only[cV,fO,lF,bne_iff_ne,ne_eq,Bool.not_eq_true']at hri;obtain⟨⟨⟨hi6,d⟩,h4⟩,h5⟩:=hri;have c8:=(Bh R.k H0.hold hE.2.1<|by simp).trans hE.1.1;have c9:=(Bh R.k H0.hold hE.2.2.1<|by simp).trans hE.1.2;have T8:=(R.rest 8 (by decide) (by decide) (by decide)<|by decide).trans h8.1;have T9:=(R.rest 9 (by decide) (by decide) (by decide)<|by decide).trans h8.2;have oi:∀b∈(s.D 0).own,b<s.v/\(s.cl b=.own 0\/s.cl b=.eV):=λb E=>⟨(H.hold.inv.own 0 b E).2,.inl (H.hold.inv.own 0 b E).1⟩;have g:∀t:St,Kept 0 [] s t->∀b∈(s.D 0).own,t.v.heap[b]?=s.v.heap[b]?:=λt k b E=>Bh k H.hold E (by simp);match i,hi6 with
 |0,_=>
  simp at d;subst d;refine⟨by cases w<;>cases A<;>cases B<;>cases L<;>cases J<;>rfl,?_⟩;refine H.walk_to (m:=Y) [] [e8] rfl (by simp) (by simpa using oi e8<|R.k.own _ hE.2.1) ⟨1,.inr ⟨rfl,λM P=>?_⟩⟩;have O:=agn (main:=Y) (b:=bh 41) (T:=T) (ds:=[]) (k:=kk) (cs:=C) (ops:=lU) (i:=0) (rest:=rest) (t:=8) (by rfl) (by rfl) (by k_ne) (by rfl) T8 M<|(P.1 e8<|by simp).trans c8;rw[hP,O.1];refine⟨⟨rfl,rfl,rfl,rfl,λ_ _=>rfl,λe he=>by obtain⟨x,wr,e1,e2⟩:=O.2 e he;exact⟨x,wr,e1,.inr<|by simp[e2]⟩⟩,λw2 h2=>⟨rfl,λt tv r F j d1 l=>?_⟩⟩;have f:∀z,z≠42->(cA ⟨T,[]⟩ (U 42)<|.agg #[.chan x1,.chan y1]).tmps[z]?=T[z]?:=by grind[Dh,Option.some.inj]
  refine⟨t,⟨_,[]⟩,r,F,Y,w,A,B,L,J,N,I,rfl,_,rfl,⟨by rw[uH];exact R.size,λz Q o D S=>(f z D).trans<|R.rest z Q o D S,R.k.trans j,l.trans R.ch,λ_=>get_put<|by rw[R.size];decide,λh=>(f 43<|by decide).trans<|R.v1 h,λh=>?_,λh=>?_,R.ne,R.n4,R.n5⟩⟩;.obtain⟨p,m,u,q⟩:=R.b2 h;exact⟨(f 14<|by decide).trans p,j.own _ m,u,(g t j _ m).trans q⟩
  .obtain⟨p,m,u,q⟩:=R.b3 h;exact⟨(f 15<|by decide).trans p,j.own _ m,u,(g t j _ m).trans q⟩|1,_=>
  simp at d;subst d;refine⟨by cases y<;>cases A<;>cases B<;>cases L<;>cases J<;>rfl,?_⟩;refine H.walk_to (m:=Y) [] [e9] rfl (by simp) (by simpa using oi e9<|R.k.own _ hE.2.2.1) ⟨1,.inr ⟨rfl,λM P=>?_⟩⟩;have O:=agn (main:=Y) (b:=bh 41) (T:=T) (ds:=[]) (k:=kk) (cs:=C) (ops:=lU) (i:=1) (rest:=rest) (t:=9) (by rfl) (by rfl) (by k_ne) (by rfl) T9 M<|(P.1 e9<|by simp).trans c9;rw[hP,O.1];refine⟨⟨rfl,rfl,rfl,rfl,λ_ _=>rfl,λe he=>by obtain⟨x,wr,e1,e2⟩:=O.2 e he;exact⟨x,wr,e1,.inr<|by simp[e2]⟩⟩,λw2 h2=>⟨rfl,λt tv r F j d1 l=>?_⟩⟩;have f:∀z,z≠43->(cA ⟨T,[]⟩ (U 43)<|.agg #[.chan x2,.chan y2]).tmps[z]?=T[z]?:=by grind[Dh,Option.some.inj]
  refine⟨t,⟨_,[]⟩,r,F,y,Y,A,B,L,J,N,I,rfl,_,rfl,⟨by rw[uH];exact R.size,λz Q o D S=>(f z S).trans<|R.rest z Q o D S,R.k.trans j,l.trans R.ch,λh=>(f 42<|by decide).trans<|R.v0 h,λ_=>get_put<|by rw[R.size];decide,λh=>?_,λh=>?_,R.ne,R.n4,R.n5⟩⟩;.obtain⟨p,m,u,q⟩:=R.b2 h;exact⟨(f 14<|by decide).trans p,j.own _ m,u,(g t j _ m).trans q⟩
  .obtain⟨p,m,u,q⟩:=R.b3 h;exact⟨(f 15<|by decide).trans p,j.own _ m,u,(g t j _ m).trans q⟩|2,_=>
  simp at d;subst d;refine⟨by cases y<;>cases w<;>cases B<;>cases L<;>cases J<;>rfl,?_⟩;refine H.yC (m:=Y) rfl rfl (.own 0) (.inl rfl) λc=>?_;refine⟨G ((bh 41).at (cA ⟨T,[]⟩ (U 14)<|.pointer<|U c)<|.inRegion lU rest::kk) C,ends Z Z,λM E _=>?_,λt r F j n2 n2' n3 n4 l n6 _ _ _=>?_⟩;.subst E;rw[hP];exact alE (main:=Y) (b:=bh 41) (T:=T) (ds:=[]) (k:=kk) (cs:=C) (ops:=lU) (i:=2) (rest:=rest) (by rfl) (by rfl) (by k_ne) (by rfl) M
  have f:∀z,z≠14->(cA ⟨T,[]⟩ (U 14)<|.pointer c).tmps[z]?=T[z]?:=by grind[Dh,Option.some.inj]
  refine⟨t,⟨_,[]⟩,r,F,y,w,Y,B,L,J,c,I,rfl,_,rfl,⟨by rw[uH];exact R.size,λz Q o D S=>(f z Q).trans<|R.rest z Q o D S,R.k.trans j,l.trans R.ch,λh=>(f 42<|by decide).trans<|R.v0 h,λh=>(f 43<|by decide).trans<|R.v1 h,λh=>?_,λh=>?_,λ_ h e=>by subst e;have:=(oi _ (R.b3 h).2.1).1;omega,(λh=>by cases h),R.n5⟩⟩;.exact⟨get_put<|by rw[R.size];decide,n6 rfl,bC R.k.left.size n2,by rw[n3,R.n4 rfl];rfl⟩
  .obtain⟨p,m,u,q⟩:=R.b3 h;exact⟨(f 15<|by decide).trans p,j.own _ m,u,(g t j _ m).trans q⟩|3,_=>
  simp at d;subst d;refine⟨by cases y<;>cases w<;>cases A<;>cases L<;>cases J<;>rfl,?_⟩;refine H.yC (m:=Y) rfl rfl (.own 0) (.inl rfl) λc=>?_;refine⟨G ((bh 41).at (cA ⟨T,[]⟩ (U 15)<|.pointer<|U c)<|.inRegion lU rest::kk) C,ends Z Z,λM E _=>?_,λt r F j n2 n2' n3 n4 l n6 _ _ _=>?_⟩;.subst E;rw[hP];exact alE (main:=Y) (b:=bh 41) (T:=T) (ds:=[]) (k:=kk) (cs:=C) (ops:=lU) (i:=3) (rest:=rest) (by rfl) (by rfl) (by k_ne) (by rfl) M
  have f:∀z,z≠15->(cA ⟨T,[]⟩ (U 15)<|.pointer c).tmps[z]?=T[z]?:=by grind[Dh,Option.some.inj]
  refine⟨t,⟨_,[]⟩,r,F,y,w,A,Y,L,J,N,c,rfl,_,rfl,⟨by rw[uH];exact R.size,λz Q o D S=>(f z o).trans<|R.rest z Q o D S,R.k.trans j,l.trans R.ch,λh=>(f 42<|by decide).trans<|R.v0 h,λh=>(f 43<|by decide).trans<|R.v1 h,λh=>?_,λh=>?_,λh _ e=>by subst e;have:=(oi _ (R.b2 h).2.1).1;omega,R.n4,λh=>by cases h⟩⟩;.obtain⟨p,m,u,q⟩:=R.b2 h;exact⟨(f 14<|by decide).trans p,j.own _ m,u,(g t j _ m).trans q⟩
  .exact⟨get_put<|by rw[R.size];decide,n6 rfl,bC R.k.left.size n2,by rw[n3,R.n5 rfl];rfl⟩|4,_=>
  simp at d;subst d;refine⟨by cases y<;>cases w<;>cases A<;>cases B<;>cases J<;>rfl,?_⟩;obtain⟨p1,p2⟩:y=Y/\A=Y:=by grind
  obtain⟨p,m,u,q⟩:=R.b2 p2;refine H.walk_to (m:=Y) [N] [] rfl (by grind) (by simp) ⟨1,.inr ⟨rfl,λM P=>?_⟩⟩;have W:=(P.1 N<|by simp).trans q;have O:=Il (main:=Y) (b:=bh 41) (T:=T) (ds:=[]) (k:=kk) (cs:=C) (ops:=lU) (i:=4) (rest:=rest) (t:=14) (u:=42) (by rfl) (by rfl) (by k_ne) (by rfl) p (R.v0 p1) M W;rw[hP,O.1];refine⟨Ko W (by simp) λe he=>by grind,λw2 h2=>⟨rfl,λt tv r F j d1 l=>?_⟩⟩;have ay2:t.v.heap[N]?=ends x1 y1:=by rw[tv,h2.1 N<|by simp,pB 1 _<|pB 0 _ W];rfl
  have k2:Kept 0 [] s0 t:=by have n:=(R.k.more (O':=[N])<|by simp).trans j;exact⟨n.size,n.role,n.md,n.left,n.cls,λb E X _=>n.rest b E X λhm=>by grind,n.oD,n.own,n.v2⟩
  refine⟨t,⟨T,[]⟩,r,F,y,w,A,B,Y,J,N,I,rfl,T,rfl,⟨R.size,R.rest,k2,l.trans R.ch,R.v0,R.v1,λh=>?_,λh=>?_,R.ne,λh=>by grind,R.n5⟩⟩;.grind
  .obtain⟨o1,o2,o3,o4⟩:=R.b3 h;exact⟨o1,j.own _ o2,o3,(Bh j H.hold o2<|by simpa usingλe=>R.ne p2 h e.symm).trans o4⟩|5,_=>
  simp at d;subst d;refine⟨by cases y<;>cases w<;>cases A<;>cases B<;>cases L<;>rfl,?_⟩;obtain⟨p1,p2⟩:w=Y/\B=Y:=by grind
  obtain⟨p,m,u,q⟩:=R.b3 p2;have q4':s.v.heap[I]?=ends Z Z:=q;refine H.walk_to (m:=Y) [I] [] rfl (by grind) (by simp) ⟨1,.inr ⟨rfl,λM P=>?_⟩⟩;have W:=(P.1 I<|by simp).trans q4';have O:=Il (main:=Y) (b:=bh 41) (T:=T) (ds:=[]) (k:=kk) (cs:=C) (ops:=lU) (i:=5) (rest:=rest) (t:=15) (u:=43) (by rfl) (by rfl) (by k_ne) (by rfl) p (R.v1 p1) M W;rw[hP,O.1];refine⟨Ko W (by simp) λe he=>by grind,λw2 h2=>⟨rfl,λt tv r F j d1 l=>?_⟩⟩;have ay2:t.v.heap[I]?=ends x2 y2:=by rw[tv,h2.1 I<|by simp,pB 1 _<|pB 0 _ W];rfl
  have k2:Kept 0 [] s0 t:=by have n:=(R.k.more (O':=[I])<|by simp).trans j;exact⟨n.size,n.role,n.md,n.left,n.cls,λb E X _=>n.rest b E X λhm=>by grind,n.oD,n.own,n.v2⟩
  refine⟨t,⟨T,[]⟩,r,F,y,w,A,B,L,Y,N,I,rfl,T,rfl,⟨R.size,R.rest,k2,l.trans R.ch,R.v0,R.v1,λh=>?_,λh=>?_,R.ne,R.n4,λh=>by grind⟩⟩;.obtain⟨o1,o2,o3,o4⟩:=R.b2 h;exact⟨o1,j.own _ o2,o3,(Bh j H.hold o2<|by simpa usingλe=>R.ne h p2 e).trans o4⟩
  grind
end
noncomputable def om:List eY:=[.inLoop kW,mh 0,bF<|cS 10]
theorem asF(t):mK (aF.follows nG) lU t=x5 .any lU 6 t #[ai,ai,ai,ai,ai,ai] []:=by
 have b:aF.follows nG=Y:=by kernel_rfl
 have a:tT 6 ai=#[ai,ai,ai,ai,ai,ai]:=rfl;simp only[mK,b,Bool.true_or,iW,Region.linearise,aqM,a]
section
variable {K:fG} {C:List aZ}
theorem to9{T}{w}:cK aF Y (L<|[]++[]) (DH [] []) (λg w=>∃t,g=G ((bh 41).at ⟨T,[]⟩<|aT lU (x5 .any lU 6 t #[ai,ai,ai,ai,ai,ai] [])::[bF<|cS 9]) C) 3 (G ((bh 41).at ⟨T,[]⟩<|aT ni []::xL) C) w:=by
 have b:=trivial;simp only[xL];refine kG (n:=1) ?_;u_c N A b;refine I λ_ a=>?_;replace b:=A b a;have c:cS 8=eI (ec 9 lU Y) (cS 9):=by kernel_rfl
 rw[c];refine kG (n:=1) ?_;u_c D A b;refine I λ_ a=>?_;replace b:=A b a;u_in A b;rw[stepG_region_draw];simp only[eP,asF];exact⟨⟨rfl,rfl,rfl,rfl,λ_ _=>rfl,λe d=>by grind⟩,I λ_ _=>⟨_,rfl⟩⟩
theorem aA6{T}{w}:cK aF Y (L<|[]++[]) (DH [] []) (λg w=>g=G ((bh 41).at ⟨T,[]⟩<|bF kW::om) C) 5 (G ((bh 41).at ⟨T,[]⟩<|aT lU []::[bF<|cS 9]) C) w:=by
 have a:=trivial;refine kG (n:=1) ?_;u_c N A a;refine I λ_ b=>?_;replace a:=A a b;have c:cS 9=eI (.block 0<|.loop kW) (cS 10):=by kernel_rfl
 rw[c];refine dL ?_;u_c D A a;u_c Ju A a;u_c stepG_loop A a;exact I λ_ _=>rfl
theorem atg(a:K.P=aF){s}{T}{e8 e9 x1 y x2 p}(H:Ok K 0 s<|G ((bh 41).at ⟨T,[]⟩<|.inRegion ni []::xL) C)(L:T.size=87)(N:T[8]?=U (.pointer e8)/\T[9]?=U (.pointer e9))(d:UX s.v (s.D 0).own e8 e9 x1 y x2 p):∃t l c b,s.runs K.P t/\Ok K 0 t (G ((bh 41).at ⟨l,[]⟩<|.code kW::om) C)/\Kept 0 [] s t/\t.ch=s.ch/\l.size=87/\(∀z,z≠14->z≠15->z≠42->z≠43->l[z]?=T[z]?)/\(l[14]?=U (.pointer c)/\l[15]?=U (.pointer b))/\(c∈(t.D 0).own/\b∈(t.D 0).own/\c≠b/\s.v<=c/\s.v<=b)/\t.v.heap[c]?=ends x1 y/\t.v.heap[b]?=ends x2 p:=by
 obtain⟨B,_,X,F,⟨n,rfl⟩,e,d1,c1⟩:=H.walk (n:=3) (O:=[]) (Rd:=[]) (Stop:=λg w=>∃t,g=G ((bh 41).at ⟨T,[]⟩<|.inRegion lU (x5 .any lU 6 t #[ai,ai,ai,ai,ai,ai] [])::[.code<|cS 9]) C) λg w h=>by obtain⟨_,rfl⟩:=h;rfl (by grind[to9]) (by simp) (by simp);obtain⟨s2,a2,l2,M,A,⟨o,m,q,x,r,u,f2,Q,rfl,J,rfl,R⟩,j⟩:=Ok.drawn (K:=K) (h:=0) (b:=bh 41) (k:=[.code<|cS 9]) (cs:=C) (ops:=lU) (J:=J9 B T x1 y x2 p) (aqj a F L N ⟨⟨(Bh e H.hold d.2.1<|by simp).trans d.1.1,(Bh e H.hold d.2.2.1<|by simp).trans d.1.2⟩,e.own _ d.2.1,e.own _ d.2.2.1,d.2.2.2⟩) 6 n #[ai,ai,ai,ai,ai,ai] ⟨T,[]⟩ B ⟨ai,ai,ai,ai,ai,ai,0,0,rfl,T,rfl,⟨L,λ_ _ _ _ _=>rfl,Kept.refl _ _ _,rfl,nofun,nofun,nofun,nofun,nofun,λ_=>rfl,λ_=>rfl⟩⟩ F;have f:o=Y/\m=Y/\q=Y/\x=Y/\r=Y/\u=Y:=by
  rcases j with h|h;.have:=aeR o m q x r u;rw[h]at this;simpa[Uu,and_assoc]using this
  .revert h;cases o<;>cases m<;>cases q<;>cases x<;>cases r<;>cases u<;>decide
 obtain⟨rfl,rfl,rfl,rfl,rfl,rfl⟩:=f;obtain⟨D,_,r3,S,rfl,i,d3,c3⟩:=A.walk (n:=5) (O:=[]) (Rd:=[]) (Stop:=λg w=>g=G ((bh 41).at ⟨J,[]⟩<|.code kW::om) C) λg w h=>by rw[h];rfl (by grind[aA6]) (by simp) (by simp);obtain⟨v,E,p3,p4⟩:=R.b2 rfl;obtain⟨O,I,q3,W⟩:=R.b3 rfl;have P:=e.left.size;exact⟨D,J,f2,Q,(X.trans M).trans r3,S,(e.trans R.k).trans i,c3.trans<|R.ch.trans c1,R.size,R.rest,⟨v,O⟩,⟨i.own _ E,i.own _ I,R.ne rfl rfl,by omega,by omega⟩,(Bh i A.hold E<|by simp).trans p4,(Bh i A.hold I<|by simp).trans W⟩
end
theorem TN{P}{main}{b:aZ}{a}{d}{fn}{t u}{c}{cs}{w}{K}(f:b.kind=eC)(i:a.defers=[])(g:P.funcs[b.fn]?=U fn)(e:fn.results=#[.tmp t,.tmp u])(h:K (G (c.finish<|bO #[a.tmps.getD t ak,a.tmps.getD u ak]) cs) w #[]):(cj P main (G {b.at a d with mode:=fH}<|c::cs) w).goes K:=by rw[aws f i g (results_tmp2 e _ P w)<|events_results_tmp2 e _ _];exact h
section
variable {fs:Array ep} {c:aZ} {C:List aZ}
noncomputable def Bd:Code:=eI (ec 903 Rh ai)<|eI (.block 0<|.loop od) vf
set_option maxHeartbeats 1000000 in
theorem awf(d:fs[41]?=vG){T}{ops}(P:T.size=87)(e:T[6]?=U (V aC 0)/\T[7]?=U (V aC 0)/\T[22]?=U (bQ Y)){w}(a:gw 1 w):∃n,cK (J aF fs) Y i AY (λg w=>gw 0 w/\g=G (c.finish<|bO #[V aC 0,V aC 0]) C) n (G ((bh 41).at ⟨T,[]⟩ [aT ops [],bF<|eI x9 yl])<|c::C) w:=by refine⟨620,?_⟩;obtain⟨v0,v1,v2,v3,v4,v5,v6,v7,v8,v9,v10,E,v12,lR,oL,QW,oK,oJ,Q1,mq,v20,v21,Q,pW,q,r,x,Q3,v28,O,QX,v31,uq,W,t,pV,Qw,v37,pU,pS,v40,pR,pQ,pP,S,nU,Q2,pO,pM,v49,v,v51,m,l,xq,pL,nT,B,H,v59,nS,pK,pJ,o,nQ,y,nP,h,u,z,Z,QZ,v72,X,s,L,v76,xp,Q0,R,k,F,M,nO,QY,v85,j,rfl⟩:=pD T P;simp only[oW,qR,oV,ew]at e;obtain⟨rfl,rfl,rfl⟩:=e;unfold gw at a;simp only[x9,IT,eO];refine lift ?_;u_c N p a;u_c D p a;u_cond Y p a;u_c D p a;u_reg p a;refine I λ_ b=>?_;replace a:=p a b;u_in p a;refine gh rfl rfl (by k_ne) λK A=>?_;have h3:=Qp fs;have sk:=gB (o:=0) a rfl;have hz:=wT 0 a;go_simp;have f:=Yg (V aC 0) a;refine A _ _ ⟨f.1,?_⟩;replace a:=f.2;refine lift ?_;u_c N p a;u_c stepG_ret' p a;refine I λ_ b=>?_;replace a:=p a b;u_in p a;refine TN (t:=6) (u:=7) rfl rfl d (by kernel_rfl) ⟨.refl _,?_⟩;exact I λw1 h1=>⟨p a h1,rfl⟩
set_option maxHeartbeats 1000000 in
theorem awd{T}{ops}(K:T.size=87)(b:T[22]?=U (bQ ai)){w}(a:gw 1 w):∃n,cK (J aF fs) Y i AY (λg w=>gw 1 w/\g=G ((bh 41).at ⟨T,[]⟩ [aT (eU<|cS 7) [0,1,2,3,4,5,6,7],bF Bd]) C) n (G ((bh 41).at ⟨T,[]⟩ [aT ops [],bF<|eI x9 yl]) C) w:=by refine⟨620,?_⟩;obtain⟨v0,v1,v2,v3,v4,v5,v6,v7,v8,v9,v10,z,v12,lR,oL,QX,oK,oJ,S,mq,v20,V,L,pW,m,o,t,E,v28,Q2,y,v31,Q1,Q,q,pV,l,v37,pU,pS,v40,pR,pQ,pP,Q3,nU,P,pO,pM,Z,s,v51,j,QY,W,pL,nT,x,B,v59,nS,pK,pJ,k,nQ,u,nP,d,r,v,Q0,e,v72,R,QZ,F,v76,X,O,M,h,A,H,nO,QW,v85,f,rfl⟩:=pD T K;simp only[oW,qR,oV,ew]at b;subst b;unfold gw at a;simp only[x9,IT,eO,yl,eU,cS,eN,oB,fV];refine dL ?_;u_c N p a;u_c D p a;u_cond ai p a;u_c ld p a;u_c D p a;u_reg p a;exact I λw1 h1=>⟨p a h1,rfl⟩
theorem awk{T}{ops}{w}:cK (J aF fs) Y i AY (λg w=>g=G ((bh 41).at ⟨T,[]⟩ [bF x9,bF yl]) C) 2 (G ((bh 41).at ⟨T,[]⟩ [aT ops [],bF<|eI x9 yl]) C) w:=by have b:=trivial;have a:∀{w d:ay},True->i w d->True:=λh _=>h;refine dL ?_;u_c N a b;u_c D a b;grind[Goes.stop]
theorem apA{Done}(b:mX (J aF fs) Done)(a:∀g w,¬Done (G g C) w){T}{ops}{w}(f:Term (J aF fs) Done (G ((bh 41).at ⟨T,[]⟩ [aT ops [],bF<|eI x9 yl]) C) w):∃r,T.getD 22 ak=bQ r:=by obtain⟨_,n,rfl,k,_,_⟩:=Term.goes b LF.refl LF.trans LF.Bm (λ_ _ _ h=>h) awk f;refine oe λd=>k.FC b (λm j i l=>?_)<|a _ _;exact akQ (a:=⟨T,[]⟩) (c:=cx 22) (λt e=>d ⟨t,e⟩) j i l
set_option maxHeartbeats 1000000 in
theorem atc{T}{ops}(QY:T.size=87)(d:T[22]?=U (bQ Y))(w):∃n,cK aF Y (L<|[]++[]) (DH [] []) (λg w=>g=G (c.finish<|bO #[V aC 0,V aC 0]) C) n (G ((bh 41).at ⟨T,[]⟩<|aT ops []::DI)<|c::C) w:=by refine⟨620,?_⟩;obtain⟨v0,v1,v2,v3,v4,v5,v6,v7,v8,v9,v10,QW,v12,lR,oL,J,oK,oJ,Q0,mq,v20,W,M,pW,o,p,u,F,v28,K,z,v31,Z,R,r,pV,m,v37,pU,pS,v40,pR,pQ,pP,O,nU,Q,pO,pM,v49,t,v51,k,j,X,pL,nT,y,QX,v59,nS,pK,pJ,l,nQ,v,nP,e,s,x,Q2,f,v72,S,q,H,v76,Q1,P,Q3,i,B,QZ,nO,E,v85,h,rfl⟩:=pD T QY;simp only[oW,qR,oV,ew]at d;subst d;simp only[DI,cS,eN,oB,fV];have a:=trivial;refine lift ?_;u_c N A a;u_cond Y A a;u_c D A a;u_reg A a;u_op A a;u_op A a;u_c N A a;u_c stepG_ret' A a;refine I λ_ b=>?_;replace a:=A a b;u_in A a;refine TN (t:=6) (u:=7) rfl rfl func41 (by kernel_rfl) ⟨dh_none<|by simp,?_⟩;exact I λw1 h1=>rfl
end
noncomputable def ia:Array dJ:=eU kW
noncomputable def Bl:Array dJ:=eU kJ
noncomputable def Bj:Array dJ:=eU<|eN 1 kJ
noncomputable def tu:Array dJ:=eU<|eN 2 kJ
noncomputable def afs:Array dJ:=eU<|eN 3 kJ
noncomputable def Xo:Array dJ:=eU<|eN 4 kJ
noncomputable def vY:Code:=eI (ec 11 (eU kJ) ai)<|eI (ec 12 (eU<|eN 1 kJ) ai)<|eI (ec 905 nZ ai)<|eI (.cond (cx 70) (ec 906 Dk ai)<|ec 907 Dj ai)<|ec 908 yx ai
noncomputable def jU:List eY:=[.inLoop od,mh 0,bF vf]
noncomputable def BF:List eY:=bF (eI (.cond (cx 62) .skip<|.exit 0)<|.block 1 vY)::jU
noncomputable def F2:List eY:=bF (.cond (cx 62) .skip<|.exit 0)::bF (.block 1 kJ)::om
noncomputable def YX:List eY:=bF (eN 1 vY)::mh 1::jU
noncomputable def YV:List eY:=bF (eN 1 kJ)::mh 1::om
noncomputable def YW:List eY:=bF (eN 2 vY)::mh 1::jU
noncomputable def YU:List eY:=bF (eN 2 kJ)::mh 1::om
noncomputable def rW:List eY:=bF (eN 3 vY)::mh 1::jU
noncomputable def uQ:List eY:=bF (eN 3 kJ)::mh 1::om
theorem eL:od=eI (ec 10 ia ai) (eI (.cond (cx 62) .skip<|.exit 0)<|.block 1 vY):=rfl
theorem eR:kW=eI (eI (ec 10 ia ai)<|.cond (cx 62) .skip<|.exit 0) (.block 1 kJ):=by kernel_rfl
theorem iR0:kJ=eI (ec 11 Bl ai) (eN 1 kJ):=by kernel_rfl
theorem iR1:eN 1 kJ=eI (ec 12 Bj ai) (eN 2 kJ):=by kernel_rfl
theorem iR2:eN 2 kJ=eI (ec 13 tu ai) (eN 3 kJ):=by kernel_rfl
theorem PF:ia.size=19:=by kernel_rfl
theorem z11:Bl.size=3:=by kernel_rfl
theorem z12:Bj.size=5:=by kernel_rfl
theorem Lf:tu.size=4:=by kernel_rfl
instance:Qt i ug:=⟨i.refl,i.refl⟩
theorem m{w w1}(h:True)(r:i w w1):True:=trivial
section
variable {C:List aZ} {fs:Array ep} {T:Array az} {w:ay}
theorem azH:cK (J aF fs) Y i ug (λg w=>g=G ((bh 41).at ⟨T,[]⟩<|aT ia [0,1,2,3,4,5,6,7,8,9,10,11,12,13,14,15,16,17,18]::BF) C) 5 (G ((bh 41).at ⟨T,[]⟩<|bF od::jU) C) w:=by have a:=trivial;rw[eL];refine dL ?_;u_c D m a;u_in m a;rw[tH,PF];simp only[eP];refine⟨by u_nil,?_⟩;exact I λ_ _=>rfl
theorem IS(h:er ⟨T,[]⟩ (cx 62)=ai):cK (J aF fs) Y i ug (λg w=>g=G ((bh 41).at ⟨T,[]⟩ [bF vf]) C) 8 (G ((bh 41).at ⟨T,[]⟩<|aT ia []::BF) C) w:=by have a:=trivial;refine dL ?_;u_c N m a;simp only[BF,jU];u_c D m a;u_in m a;rw[Jt (t:=ai) h];simp only[eP,oT,↓reduceIte];refine⟨by u_nil,?_⟩;u_exit m a;grind[Goes.stop]
theorem inL(h:er ⟨T,[]⟩ (cx 62)=Y):cK (J aF fs) Y i ug (λg w=>g=G ((bh 41).at ⟨T,[]⟩<|aT Bl [0,1,2]::YX) C) 12 (G ((bh 41).at ⟨T,[]⟩<|aT ia []::BF) C) w:=by have a:=trivial;refine dL ?_;u_c N m a;simp only[BF];u_c D m a;u_in m a;rw[Jt (t:=Y) h];simp only[eP,↓reduceIte];refine⟨by u_nil,?_⟩;u_c ld m a;u_c Ju m a;rw[show vY=eI (ec 11 Bl ai) (eN 1 vY)from rfl];u_c D m a;u_in m a;rw[tH,z11];simp only[eP];refine⟨by u_nil,?_⟩;exact I λ_ _=>rfl
theorem aps:cK (J aF fs) Y i ug (λg w=>g=G ((bh 41).at ⟨T,[]⟩<|aT Bj [0,1,2,3,4]::YW) C) 6 (G ((bh 41).at ⟨T,[]⟩<|aT Bl []::YX) C) w:=by have a:=trivial;refine dL ?_;u_c N m a;simp only[YX];rw[show eN 1 vY=eI (ec 12 Bj ai) (eN 2 vY)from rfl];u_c D m a;u_in m a;rw[tH,z12];simp only[eP];refine⟨by u_nil,?_⟩;exact I λ_ _=>rfl
theorem apq:cK (J aF fs) Y i ug (λg w=>g=G ((bh 41).at ⟨T,[]⟩<|aT nZ [0,1]::rW) C) 6 (G ((bh 41).at ⟨T,[]⟩<|aT Bj []::YW) C) w:=by have a:=trivial;refine dL ?_;u_c N m a;simp only[YW];rw[show eN 2 vY=eI (ec 905 nZ ai) (eN 3 vY)from rfl];u_c D m a;u_in m a;rw[tH,show nZ.size=2 from rfl];simp only[eP];refine⟨by u_nil,?_⟩;exact I λ_ _=>rfl
theorem azG:cK aF Y (L<|[]++[]) (DH [] []) (λg w=>g=G ((bh 41).at ⟨T,[]⟩<|aT ia [0,1,2,3,4,5,6,7,8,9,10,11,12,13,14,15,16,17,18]::F2) C) 5 (G ((bh 41).at ⟨T,[]⟩<|bF kW::om) C) w:=by have a:=trivial;rw[eR];refine dL ?_;u_c D A a;u_c D A a;u_in A a;rw[tH,PF];simp only[eP];refine⟨by u_nil,?_⟩;exact I λ_ _=>rfl
theorem afp(h:er ⟨T,[]⟩ (cx 62)=ai):cK aF Y (L<|[]++[]) (DH [] []) (λg w=>g=G ((bh 41).at ⟨T,[]⟩ [bF<|cS 10]) C) 8 (G ((bh 41).at ⟨T,[]⟩<|aT ia []::F2) C) w:=by have a:=trivial;refine dL ?_;u_c N A a;simp only[F2,om];u_in A a;rw[Jt (t:=ai) h];simp only[eP,oT,↓reduceIte];refine⟨by u_nil,?_⟩;u_exit A a;grind[Goes.stop]
theorem inR(h:er ⟨T,[]⟩ (cx 62)=Y):cK aF Y (L<|[]++[]) (DH [] []) (λg w=>g=G ((bh 41).at ⟨T,[]⟩<|aT Bl [0,1,2]::YV) C) 12 (G ((bh 41).at ⟨T,[]⟩<|aT ia []::F2) C) w:=by have a:=trivial;refine dL ?_;u_c N A a;simp only[F2];u_in A a;rw[Jt (t:=Y) h];simp only[eP,↓reduceIte];refine⟨by u_nil,?_⟩;u_c ld A a;u_c Ju A a;rw[iR0];u_c D A a;u_in A a;rw[tH,z11];simp only[eP];refine⟨by u_nil,?_⟩;exact I λ_ _=>rfl
theorem apr:cK aF Y (L<|[]++[]) (DH [] []) (λg w=>g=G ((bh 41).at ⟨T,[]⟩<|aT Bj [0,1,2,3,4]::YU) C) 6 (G ((bh 41).at ⟨T,[]⟩<|aT Bl []::YV) C) w:=by have a:=trivial;refine dL ?_;u_c N A a;simp only[YV];rw[iR1];u_c D A a;u_in A a;rw[tH,z12];simp only[eP];refine⟨by u_nil,?_⟩;exact I λ_ _=>rfl
theorem apo:cK aF Y (L<|[]++[]) (DH [] []) (λg w=>g=G ((bh 41).at ⟨T,[]⟩<|aT tu [0,1,2,3]::uQ) C) 6 (G ((bh 41).at ⟨T,[]⟩<|aT Bj []::YU) C) w:=by have a:=trivial;refine dL ?_;u_c N A a;simp only[YU];rw[iR2];u_c D A a;u_in A a;rw[tH,Lf];simp only[eP];refine⟨by u_nil,?_⟩;exact I λ_ _=>rfl
theorem aCI:cK (J aF fs) Y i ug (λg w=>g=G ((bh 41).at ⟨T,[]⟩<|bF (.cond (cx 62) .skip<|.exit 0)::bF (.block 1 vY)::jU) C) 3 (G ((bh 41).at ⟨T,[]⟩<|aT ia []::BF) C) w:=by have a:=trivial;refine dL ?_;u_c N m a;simp only[BF];u_c D m a;grind[Goes.stop]
theorem apz{Done}(b:mX (J aF fs) Done)(a:∀d w,¬Done (G d C) w)(c:Term (J aF fs) Done (G ((bh 41).at ⟨T,[]⟩<|aT ia []::BF) C) w):∃r,er ⟨T,[]⟩ (cx 62)=bQ r:=by obtain⟨_,j,rfl,e,_,_⟩:=Term.goes b i.refl i.trans (λ_ _ h=>h) (λ_ _ _ h=>h) aCI c;refine oe λf=>e.FC b (λg k m l=>?_)<|a _ _;grind[akQ]
theorem awo{k:List eY}(e:T.size=87){x y}(h:T[0]?=U x/\T[1]?=U y):cK (J aF fs) Y i ug (λg w=>g=G ((bh 41).at ⟨(T.setIfInBounds 14 x).setIfInBounds 15 y,[]⟩<|bF od::jU) C) 20 (G ((bh 41).at ⟨T,[]⟩ [aT ni [],bF Bd]) C) w:=by have a:=trivial;have d:er ⟨T,[]⟩ (cx 0)=x:=getD_some h.1;have c:er ⟨T.setIfInBounds 14 x,[]⟩ (cx 1)=y:=getD_some<|(l<|by decide).trans h.2;refine kG (n:=3) ?_;u_c N m a;simp only[Bd];u_c D m a;u_in m a;rw[tH,show Rh.size=2 from rfl,show mJ 2=[0,1]from rfl];simp only[eP];refine⟨by u_nil,?_⟩;refine I λ_ b=>?_;replace a:=m a b;u_in m a;rw[rR (v:=x) (o:=eO (U 14) (pn<|cx 0) 0) (by rfl) (by rfl) (by k_ne)<|by simp only[cX,eO,d];rfl];simp only[eP];refine⟨i.refl _,?_⟩;u_in m a;rw[rR (v:=y) (o:=eO (U 15) (pn<|cx 1) 0) (by rfl) (by rfl) (by k_ne)<|by simp only[cX,eO,cA,c];rfl];simp only[eP];refine⟨i.refl _,?_⟩;refine dL ?_;u_c N m a;u_c D m a;u_c Ju m a;u_c stepG_loop m a;exact I λ_ _=>rfl
end
noncomputable def YT:List eY:=mh 1::om
structure rF(v:ay)(O:List Nat)(e8 e9 f14 f15:Nat)(x1 y1 x2 y2 p q p' q':Nat):Prop where
 c8:v.heap[e8]?=U (ends (U x1)<|U y1)c9:v.heap[e9]?=U (ends (U x2)<|U y2)mO:v.heap[f14]?=U (ends (U p)<|U q)mM:v.heap[f15]?=U (ends (U p')<|U q')m8:e8∈O
 m9:e9∈O
 m14:f14∈O
 m15:f15∈O
 n1:f14≠f15
 n2:e8≠f14/\e8≠f15/\e9≠f14/\e9≠f15
theorem rF.rely{v w}{O}{e8 e9 b a x1 d x2 f p q c e}(B:rF v O e8 e9 b a x1 d x2 f p q c e)(r:L O v w):rF w O e8 e9 b a x1 d x2 f p q c e:=⟨(r.1 _ B.m8).trans B.c8,(r.1 _ B.m9).trans B.c9,(r.1 _ B.m14).trans B.mO,(r.1 _ B.m15).trans B.mM,B.m8,B.m9,B.m14,B.m15,B.n1,B.n2⟩
theorem rF.keep{v w}{O O'}{e8 e9 c a x1 f x2 h p q e g}(B:rF v O e8 e9 c a x1 f x2 h p q e g)(r:∀b∈O,w.heap[b]?=v.heap[b]?)(d:∀b∈O,b∈O'):rF w O' e8 e9 c a x1 f x2 h p q e g:=⟨(r _ B.m8).trans B.c8,(r _ B.m9).trans B.c9,(r _ B.m14).trans B.mO,(r _ B.m15).trans B.mM,d _ B.m8,d _ B.m9,d _ B.m14,d _ B.m15,B.n1,B.n2⟩
def xd(T T0:Array az):Prop:=∀z,z≠12->z≠13->z<69\/80<=z->T[z]?=T0[z]?
def ayT(C:List aZ)(T0:Array az)(e8 e9 f14 f15 x1 y1 x2 y2 p q p' q':Nat)(O:List Nat)(g2:aX)(w:ay):Prop:=∃T,g2=G ((bh 41).at ⟨T,[]⟩<|aT Xo [2,3,4,5,6,7]::YT) C/\T.size=87/\xd T T0/\T[76]?=U (de<|U q)/\rF w O e8 e9 f14 f15 x1 y1 x2 y2 p q p' q'
def abh(C:List aZ)(T0:Array az)(e8 e9 f14 f15 x1 y1 x2 y2 p q p' q':Nat):Ht where c:=q;z:=aE Z 0 0;ok:=Y;home:=ayT C T0 e8 e9 f14 f15 x1 y1 x2 y2 p q p' q';LD O g w w1 r h:=by obtain⟨T,h1,h2,h3,h4,E⟩:=h;exact⟨T,h1,h2,h3,h4,E.rely r⟩
theorem vK{v w}{O}{e8 e9 b a x1 d x2 f p q c e}(B:rF v O e8 e9 b a x1 d x2 f p q c e)(r:L O v w):rF w O e8 e9 b a x1 d x2 f p q c e:=B.rely r
theorem tf{v w}{f}{o}(h:v.heap[f]?=U o)(r:L ([]++[f]) v w):w.heap[f]?=U o:=(r.1 f<|by simp).trans h
theorem TW{O}{w}{b}{cs}{ty}{o o'}{x x'}(h:w.heap[b]?=U (aH cs ty))(i:b∈O){es}(d:∀e∈es,∃a wr,e=⟨.cell a,wr,ai⟩/\a.block∈O):DO O w ((w.setCell ⟨b,o,Z⟩ x).setCell ⟨b,o',Z⟩ x') es:=by
 rw[OU o x h];have f:({w with heap:=w.heap.setIfInBounds b<|aH (cs.setIfInBounds o x) ty}:ay).heap[b]?=U (aH (cs.setIfInBounds o x) ty):=by grind
 rw[OU o' x' f];refine⟨rfl,rfl,rfl,rfl,by simp,λc g=>?_,d⟩;grind
theorem rF.asr{w}{O}{e8 e9 d e x1 i x2 j p q h g}(B:rF w O e8 e9 d e x1 i x2 j p q h g)(a b):rF ((w.setCell d<|de<|U a).setCell ⟨d,1,Z⟩<|de<|U b) O e8 e9 d e x1 i x2 j a b h g:=by have f:∀c,c≠d->((w.setCell d<|de a).setCell ⟨d,1,Z⟩<|de b).heap[c]?=w.heap[c]?:=λc k=>(TW (O:=[d]) (o:=0) (o':=1) (x:=de<|U a) (x':=de<|U b) (es:=#[]) B.mO (by simp)<|by simp).block c (by grind);exact⟨(f _ B.n2.1).trans B.c8,(f _ B.n2.2.2.1).trans B.c9,by rw[pB 1 _<|pB 0 _ B.mO];rfl,(f _ B.n1.symm).trans B.mM,B.m8,B.m9,B.m14,B.m15,B.n1,B.n2⟩
theorem rF.asq{w}{O}{e8 e9 e d x1 g x2 h p q j i}(B:rF w O e8 e9 e d x1 g x2 h p q j i)(a b):rF ((w.setCell d<|de<|U a).setCell ⟨d,1,Z⟩<|de<|U b) O e8 e9 e d x1 g x2 h p q a b:=by have f:∀c,c≠d->((w.setCell d<|de a).setCell ⟨d,1,Z⟩<|de b).heap[c]?=w.heap[c]?:=λc k=>(TW (O:=[d]) (o:=0) (o':=1) (x:=de<|U a) (x':=de<|U b) (es:=#[]) B.mM (by simp)<|by simp).block c (by grind);exact⟨(f _ B.n2.2.1).trans B.c8,(f _ B.n2.2.2.2).trans B.c9,(f _ B.n1).trans B.mO,by rw[pB 1 _<|pB 0 _ B.mM];rfl,B.m8,B.m9,B.m14,B.m15,B.n1,B.n2⟩
theorem aqE{T}(a b c d):xd ((((T.setIfInBounds 72 a).setIfInBounds 73 b).setIfInBounds 75 c).setIfInBounds 76 d) T:=λz _ _ e=>by rw[l<|by omega,l<|by omega,l<|by omega,l<|by omega]
section
variable {K:fG} {C:List aZ}
set_option maxHeartbeats 4000000 in
theorem aqO{T}{e8 e9 b c x1 o x2 n p q m g}{O}{w}(hT:T.size=87)(hs:T[14]?=U (.pointer b)∧T[15]?=U (.pointer c))(B:rF w O e8 e9 b c x1 o x2 n p q m g):rC aF Y (abh C T e8 e9 b c x1 o x2 n m g p q) 41 O (G ((bh 41).at ⟨T,[]⟩<|.inRegion tu []::uQ) C) w:=by
 refine .inl ⟨40,rfl,?_⟩;obtain⟨v0,v1,v2,v3,v4,v5,v6,v7,v8,v9,v10,Q3,v12,lR,oL,Fp,oK,oJ,CW,mq,v20,v21,Fo,pW,H,QY,P,PY,v28,HU,Q0,v31,uq,Fj,L,pV,F,v37,pU,pS,v40,pR,pQ,pP,HG,nU,v46,pO,pM,v49,QW,v51,QX,A,xq,pL,nT,S,Q2,v59,nS,pK,pJ,E,nQ,Q,nP,u,M,R,v70,v,v72,Fi,J,v75,v76,xp,Hz,Fh,z,W,PT,nO,Q1,v85,y,j⟩:=pD T hT;generalize t:abh C T e8 e9 b c x1 o x2 n m g p q=ch;rw[j]at hs⊢;simp only[oW,qR,oV,ew]at hs;obtain⟨rfl,rfl⟩:=hs;simp only[uQ,kJ,kW,cS,eN,oB,fV];refine kG (n:=3) ?_;u_c N vK B;u_c D vK B;u_reg vK B;refine I λ_ a=>?_;replace B:=vK B a;u_in vK B;refine gh rfl rfl (by k_ne) λK i=>?_;have s:=gB (o:=0) B.mM rfl;have k:=gB (o:=1) B.mM rfl;go_simp;refine i _ _ ⟨⟨rfl,rfl,rfl,rfl,rfl,λ_ _=>rfl,λe d=>?_⟩,?_⟩;·have f:=lH d;simp[go_sem, *]at f;rcases f with rfl|rfl<;>exact⟨_,_,rfl,B.m15⟩
 u_in vK B;refine gh rfl rfl (by k_ne) λK i=>?_;have s:=gB (o:=0) B.mO rfl;have k:=gB (o:=1) B.mO rfl;go_simp;refine i _ _ ⟨⟨rfl,rfl,rfl,rfl,rfl,λ_ _=>rfl,λe d=>?_⟩,?_⟩;·have f:=lH d;simp[go_sem, *]at f;rcases f with rfl|rfl<;>exact⟨_,_,rfl,B.m14⟩
 u_in vK B;rw[(Il (main:=Y) (t:=14) (u:=72) (by rfl) (by rfl) (by k_ne) (by rfl) (by rfl) (by rfl) _ B.mO).1];simp only[eP];refine⟨TW B.mO B.m14 λe d=>?_,?_⟩;·obtain⟨x,wr,l,r⟩:=(Il (main:=Y) (b:=bh 41) (k:=[]) (cs:=[]) (ops:=afs) (i:=2) (rest:=[]) (t:=14) (u:=72) (by rfl) (by rfl) (by k_ne) (by rfl) (by rfl) (by rfl) _ B.mO).2 e d;exact⟨x,wr,l,by rw[r];exact B.m14⟩
 replace B:=B.asr m g;walk_nrm;u_in vK B;rw[(Il (main:=Y) (t:=15) (u:=73) (by rfl) (by rfl) (by k_ne) (by rfl) (by rfl) (by rfl) _ B.mM).1];simp only[eP];refine⟨TW B.mM B.m15 λe d=>?_,?_⟩;·obtain⟨x,wr,l,r⟩:=(Il (main:=Y) (b:=bh 41) (k:=[]) (cs:=[]) (ops:=afs) (i:=3) (rest:=[]) (t:=15) (u:=73) (by rfl) (by rfl) (by k_ne) (by rfl) (by rfl) (by rfl) _ B.mM).2 e d;exact⟨x,wr,l,by rw[r];exact B.m15⟩
 replace B:=B.asq p q;walk_nrm;refine kG (n:=3) ?_;u_c N vK B;u_reg vK B;u_op vK B;refine I λ_ a=>?_;replace B:=vK B a;u_in vK B;refine gh rfl rfl (by k_ne) λK i=>?_;have k:=gB (o:=1) B.mO rfl;go_simp;refine i _ _ ⟨⟨rfl,rfl,rfl,rfl,rfl,λ_ _=>rfl,λe d=>?_⟩,?_⟩;·have f:=lH d;simp[go_sem, *]at f;subst f;exact⟨_,_,rfl,B.m14⟩
 refine I λw1 l=>?_;subst t;refine⟨_,rfl,rfl,rfl,rfl,⟨_,rfl,rfl,?_,rfl,B.rely l⟩,λw2=>aeQ rfl rfl (by k_ne) rfl rfl w2⟩;suffices h:∀X,X=((((T.setIfInBounds 72<|.agg #[.chan<|U m,.chan<|U g]).setIfInBounds 73<|.agg #[.chan<|U p,.chan<|U q]).setIfInBounds 75<|.pointer<|U ⟨b,1,Z⟩).setIfInBounds 76<|.chan<|U g)->xd X T from h _ (by rw[j];rfl);grind[aqE]
end
variable{K:fG}{C:List aZ}
theorem aqF{T}(a b c):xd (((T.setIfInBounds 69 a).setIfInBounds 70 b).setIfInBounds 71 c) T:=λz _ _ d=>by rw[l<|by omega,l<|by omega,l<|by omega]
theorem aqD{T}(a b c d e f):xd ((((((T.setIfInBounds 77 a).setIfInBounds 74 b).setIfInBounds 78 c).setIfInBounds 79 d).setIfInBounds 12 e).setIfInBounds 13 f) T:=λz h g i=>by rw[l<|by omega,l<|by omega,l<|by omega,l<|by omega,l<|by omega,l<|by omega]
set_option maxHeartbeats 4000000 in
theorem asy{T}{b}{f q'}{d}{w}(O:T.size=87)(hs:T[12]?=U d/\T[15]?=U (.pointer b))(a:w.heap[b]?=(ends (U f)<|U q')):cK aF Y (L<|[]++[b]) (DH [] [b]) (λg w=>g=G ((bh 41).at ⟨((T.setIfInBounds 69<|.pointer b).setIfInBounds 70<|.chan f).setIfInBounds 71 d,[]⟩<|.inRegion tu [3]::uQ) C) 6 (G ((bh 41).at ⟨T,[]⟩<|.inRegion tu [0,1,2,3]::uQ) C) w:=by
 obtain⟨v0,v1,v2,v3,v4,v5,v6,v7,v8,v9,v10,D,v12,lR,oL,M,oK,oJ,X,mq,v20,Z,P,pW,p,q,v,Q3,v28,N,B,v31,uq,V,s,pV,o,v37,pU,pS,v40,pR,pQ,pP,R,nU,Q0,pO,pM,v49,u,v51,m,l,xq,pL,nT,A,F,v59,nS,pK,pJ,n,nQ,x,nP,h,t,y,Q1,i,v72,W,r,J,v76,xp,S,Q,k,E,Q2,nO,H,v85,j,rfl⟩:=pD T O;simp only[oW,qR,oV,ew]at hs;obtain⟨rfl,rfl⟩:=hs;simp only[tu,uQ,kJ,kW,cS,eN,eU,oB,fV];refine kG (n:=1) ?_;u_op tf a;refine I λ_ c=>?_;replace a:=tf a c;u_in tf a;refine gh rfl rfl (by k_ne) λK z=>?_;have sk:=gB (o:=0) a rfl;go_simp;refine z _ _ ⟨⟨rfl,rfl,rfl,rfl,λ_ _=>rfl,λe he=>?_⟩,?_⟩;.have hm:=lH he;simp[go_sem, *]at hm;grind
 refine dL ?_;u_op tf a;exact I λw1 h1=>rfl
theorem asx{T}{a}{b}(hs:T[70]?=U (.chan a)/\T[71]?=U b)(w):cj aF Y (G ((bh 41).at ⟨T,[]⟩<|.inRegion tu [3]::uQ) C) w=.comm (G ((bh 41).at ⟨T,[]⟩<|.inRegion tu [3]::uQ) C) #[scase a b<|.tuple #[]] Y .send w #[]:=aea (by rfl) (by rfl) (by k_ne) (by rfl) hs.1 hs.2 w
theorem asw{T}:kN (G ((bh 41).at ⟨T,[]⟩<|aT tu [3]::uQ) C) ak=G ((bh 41).at ⟨T,[]⟩<|aT tu []::uQ) C:=by rw[LQ];rfl
set_option maxHeartbeats 4000000 in
theorem alp{T}{x}{d}(O:T.size=87)(w):cK aF Y (L<|[]++[]) (DH [] []) (λg w=>∃b,g=G ((bh 41).at ⟨b,[]⟩<|bF kW::om) C/\b.size=87/\xd b T/\b[12]?=U x/\b[13]?=U (bQ d)) 20 (kN (G ((bh 41).at ⟨T,[]⟩<|aT Xo [2,3,4,5,6,7]::YT) C)<|recvd Y x d) w:=by obtain⟨v0,v1,v2,v3,v4,v5,v6,v7,v8,v9,v10,D,v12,lR,oL,M,oK,oJ,Z,mq,v20,v21,P,pW,p,q,v,QW,v28,Q1,B,v31,uq,W,s,pV,o,v37,pU,pS,v40,pR,pQ,pP,S,nU,V,pO,pM,v49,u,v51,m,l,xq,pL,nT,Q2,F,v59,nS,pK,pJ,n,nQ,y,nP,f,t,z,v70,i,v72,Q0,r,J,v76,xp,a,R,k,E,Q3,nO,H,v85,j,e⟩:=pD T O;generalize hQ:(λ(g:aX)(w:ay)=>∃b,g=G ((bh 41).at ⟨b,[]⟩<|bF kW::om) C/\b.size=87/\xd b T/\b[12]?=U x/\b[13]?=U (bQ d))=Q;rw[e,LQ];simp only[Xo,YT,om,kJ,kW,cS,eN,eU,oB,fV,recvd,iW];have c:=trivial;walk_nrm;refine dL ?_;u_op A c;u_op A c;u_op A c;u_op A c;u_op A c;u_c N A c;u_c stepG_inBlock A c;u_c stepG_inLoop A c;refine I λw1 h1=>?_;subst hQ;refine⟨_,rfl,rfl,?_,rfl,rfl⟩;suffices h:∀X,X=((((((T.setIfInBounds 77<|bO #[x,bQ d]).setIfInBounds 74<|bO #[x,bQ d]).setIfInBounds 78 x).setIfInBounds 79<|bQ d).setIfInBounds 12 x).setIfInBounds 13<|bQ d)->xd X T from h _ (by rw[e];rfl);grind[aqD]
variable{fs:Array ep}{T:Array az}{w:ay}
theorem awq(b:fs[59]?=f59){x y}(h:T[15]?=U x/\T[12]?=U y):cK (J aF fs) Y i ug (λg w=>g=G (eW (J aF fs) 59 #[x,y] eC) ((bh 41).at ⟨T,[]⟩ (aT nZ [0,1]::rW)::C)) 3 (G ((bh 41).at ⟨T,[]⟩<|aT nZ [0,1]::rW) C) w:=by
 have f:er ⟨T,[]⟩ (cx 15)=x:=getD_some h.1;have c:er ⟨T,[]⟩ (cx 12)=y:=getD_some h.2;u_in m trivial;have e:cX (er ⟨T,[]⟩) (eO (U 69) (.call {callee:=.value<|.func 59,args:=#[cx 15,cx 12],argTypes:=#[77,79]}) 79)=iA 59 #[x,y]:=by
  show(do let d<-resolve (er ⟨T,[]⟩) _ _;invoke d.target d.args:cz Next)=_;have:(#[cx 15,cx 12]:Array iT).map (er ⟨T,[]⟩)=#[x,y]:=by grind
  simp only[resolve,this];rfl
 rw[stepG_enter (f:=59) (args:=#[x,y]) (o:=eO (U 69) (.call {callee:=.value<|.func 59,args:=#[cx 15,cx 12],argTypes:=#[77,79]}) 79) (by rfl) (by rfl) (by k_ne)<|by rw[e];exact ak9 b (by kernel_rfl) rfl _ _];simp only[eP];exact⟨i.refl _,I λ_ _=>rfl⟩
theorem aBJ{v}(b:∀p n c,v≠aE p n c)(w)(d):∃m,(sF (d+1) 79 v<|aE Z 0 0).run (J aF fs) w=dR (.stuck m) w:=by obtain⟨e,a⟩:∃e,(J aF fs).underlying 79=U (.slice e):=⟨_,(Ls _ _ _).trans underlying79⟩;unfold sF;cases v with|slice p n c=>exact absurd rfl<|b p n c|_=>rw[Ss,run_underlying a];exact⟨_,rfl⟩
theorem aBL{v}(b:∀p n c,v≠aE p n c)(w){X Y}:∃m,(do eqGuard .eql 79 X Y v<|aE Z 0 0;fZ .eql 79 v<|aE Z 0 0:cz az).run (J aF fs) w=dR (.stuck m) w:=by
 obtain⟨m,f⟩:=aBJ (fs:=fs) b w 9999;have e:fZ .eql 79 v (aE Z 0 0)=(do bI<|<-sF (9999+1) 79 v<|aE Z 0 0:cz az):=by cases v<;>rfl
 have d:eqGuard .eql 79 X Y v (aE Z 0 0)=bI ():=by cases v<;>rfl
 refine⟨m,?_⟩;rw[e,d];show oA _ (do let a<-sF (9999+1) 79 v<|aE Z 0 0;bI a:cz az) _=_;rw[Ss,f];rfl
theorem apw{Done}(l:mX (J aF fs) Done)(a:∀h w,¬Done (G h C) w){v}(f:T[69]?=U v)(g:Term (J aF fs) Done (G ((bh 41).at ⟨T,[]⟩<|aT nZ [1]::rW) C) w):∃p n c,v=aE p n c:=by
 refine oe λd=>g.FC l (λb j i k=>?_)<|a _ _;obtain⟨m,o⟩:=aBL (fs:=fs) (v:=v) (λp n c e=>d ⟨p,n,c,e⟩) (World.re w b 0) (X:=cx 69) (Y:=gJ<|aE Z 0 0);refine ade (o:=eO (U 70) (.binOp .eql 79 (cx 69) (gJ<|aE Z 0 0) 79) 4) (m:=m) (w1:=World.re w b 0) (by rfl) (by rfl) ?_ j i k;have e:cX (er ⟨T,[]⟩) (eO (U 70) (.binOp .eql 79 (cx 69) (gJ<|aE Z 0 0) 79) 4)=(do bI<|gp<|<-(do eqGuard .eql 79 (cx 69) (gJ<|aE Z 0 0) v<|aE Z 0 0;fZ .eql 79 v<|aE Z 0 0:cz az):cz Next):=by rw[<-getD_some f];rfl
 rw[e,Ss,o];rfl
theorem aBM{p}{n c}(e0:er ⟨T,[]⟩ (cx 69)=aE p n c)(w):(cX (er ⟨T,[]⟩)<|eO (U 70) (.binOp .eql 79 (cx 69) (gJ<|aE Z 0 0) 79) 4).run (J aF fs) w=aY (gp p.isNone) w:=by
 have e:cX (er ⟨T,[]⟩) (eO (U 70) (.binOp .eql 79 (cx 69) (gJ<|aE Z 0 0) 79) 4)=(do bI<|gp<|<-(fZ .eql 79 (aE p n c)<|aE Z 0 0:cz az):cz Next):=by have a:eqGuard .eql 79 (cx 69) (gJ<|aE Z 0 0) (aE p n c) (aE Z 0 0)=bI ():=rfl;show(do let r<-(do eqGuard .eql 79 (cx 69) (gJ<|aE Z 0 0) (er ⟨T,[]⟩<|cx 69)<|aE Z 0 0;fZ .eql 79 (er ⟨T,[]⟩<|cx 69)<|aE Z 0 0:cz az);bI<|gp r:cz Next)=_;grind
 rw[e,Ss,YO (P:=J aF fs) w 79 _ p n c 0 0<|(Ls _ _ _).trans underlying79];rfl
theorem tailA{p}{n c}(h:T[69]?=U (aE p n c)):cK (J aF fs) Y i ug (λg w=>g=G ((bh 41).at ⟨T.setIfInBounds 70 p.isNone,[]⟩<|bF (.cond (cx 70) (ec 906 Dk ai)<|ec 907 Dj ai)::bF (ec 908 yx ai)::mh 1::jU) C) 5 (G ((bh 41).at ⟨T,[]⟩<|aT nZ [1]::rW) C) w:=by have b:=trivial;u_in m b;rw[rR (v:=p.isNone) (o:=eO (U 70) (.binOp .eql 79 (cx 69) (gJ<|aE Z 0 0) 79) 4) (by rfl) (by rfl) (by k_ne)<|aBM (getD_some h) _];simp only[eP];refine⟨i.refl _,?_⟩;refine kG (n:=1) ?_;u_c N m b;refine I λ_ a=>?_;replace b:=m b a;simp only[rW];rw[show eN 3 vY=eI (.cond (cx 70) (ec 906 Dk ai)<|ec 907 Dj ai) (ec 908 yx ai)from rfl];refine dL ?_;u_c D m b;exact I λ_ _=>rfl
theorem apV(h:er ⟨T,[]⟩ (cx 70)=Y):cK (J aF fs) Y i ug (λg w=>g=G ((bh 41).at ⟨(T.setIfInBounds 12<|aE Z 0 0).setIfInBounds 13 ai,[]⟩<|bF (ec 908 yx ai)::mh 1::jU) C) 8 (G ((bh 41).at ⟨T,[]⟩<|bF (.cond (cx 70) (ec 906 Dk ai)<|ec 907 Dj ai)::bF (ec 908 yx ai)::mh 1::jU) C) w:=by have a:=trivial;u_in m a;rw[Jt (t:=Y) h];simp only[eP,iW];refine⟨i.refl _,?_⟩;u_in m a;rw[tH,show Dk.size=2 from rfl,show mJ 2=[0,1]from rfl];simp only[eP];refine⟨i.refl _,?_⟩;u_in m a;rw[rR (v:=aE Z 0 0) (o:=eO (U 12) (pn<|gJ<|aE Z 0 0) 79) (by rfl) (by rfl) (by k_ne)<|by simp only[cX,eO];rfl];simp only[eP];refine⟨i.refl _,?_⟩;u_in m a;rw[rR (v:=ai) (o:=eO (U 13) (pn<|gJ ai) 4) (by rfl) (by rfl) (by k_ne)<|by simp only[cX,eO,cA];rfl];simp only[eP];refine⟨i.refl _,?_⟩;refine dL ?_;u_c N m a;exact I λ_ _=>rfl
theorem apU{x}(h:er ⟨T,[]⟩ (cx 70)=ai)(b:T[69]?=U x):cK (J aF fs) Y i ug (λg w=>g=G ((bh 41).at ⟨(T.setIfInBounds 12 x).setIfInBounds 13 Y,[]⟩<|bF (ec 908 yx ai)::mh 1::jU) C) 8 (G ((bh 41).at ⟨T,[]⟩<|bF (.cond (cx 70) (ec 906 Dk ai)<|ec 907 Dj ai)::bF (ec 908 yx ai)::mh 1::jU) C) w:=by have a:=trivial;have c:er ⟨T,[]⟩ (cx 69)=x:=getD_some b;u_in m a;rw[Jt (t:=ai) h];simp only[eP,oT,↓reduceIte];refine⟨i.refl _,?_⟩;u_in m a;rw[tH,show Dj.size=2 from rfl,show mJ 2=[0,1]from rfl];simp only[eP];refine⟨i.refl _,?_⟩;u_in m a;rw[rR (v:=x) (o:=eO (U 12) (pn<|cx 69) 79) (by rfl) (by rfl) (by k_ne)<|by simp only[cX,eO,c];rfl];simp only[eP];refine⟨i.refl _,?_⟩;u_in m a;rw[rR (v:=Y) (o:=eO (U 13) (pn<|gJ Y) 4) (by rfl) (by rfl) (by k_ne)<|by simp only[cX,eO,cA];rfl];simp only[eP];refine⟨i.refl _,?_⟩;refine dL ?_;u_c N m a;exact I λ_ _=>rfl
theorem ac6{t14 t15}(j:T.size=87)(h:T[14]?=U t14)(e:T[15]?=U t15):cK (J aF fs) Y i ug (λg w=>g=G ((bh 41).at ⟨(((T.setIfInBounds 72 t15).setIfInBounds 73 t14).setIfInBounds 14 t15).setIfInBounds 15 t14,[]⟩<|bF od::jU) C) 12 (G ((bh 41).at ⟨T,[]⟩<|bF (ec 908 yx ai)::mh 1::jU) C) w:=by have a:=trivial;have c:er ⟨T,[]⟩ (cx 15)=t15:=getD_some e;have f:er ⟨T.setIfInBounds 72 t15,[]⟩ (cx 14)=t14:=getD_some<|(l<|by decide).trans h;have d:er ⟨(T.setIfInBounds 72 t15).setIfInBounds 73 t14,[]⟩ (cx 72)=t15:=getD_some ((l<|by decide).trans<|j5<|by grind);have b:er ⟨((T.setIfInBounds 72 t15).setIfInBounds 73 t14).setIfInBounds 14 t15,[]⟩ (cx 73)=t14:=getD_some ((l<|by decide).trans<|j5<|by grind);u_in m a;rw[tH,show yx.size=4 from rfl,show mJ 4=[0,1,2,3]from rfl];simp only[eP];refine⟨i.refl _,?_⟩;u_in m a;rw[rR (v:=t15) (o:=eO (U 72) (.move<|cx 15) 0) (by rfl) (by rfl) (by k_ne)<|by simp only[cX,eO,c];rfl];simp only[eP];refine⟨i.refl _,?_⟩;u_in m a;rw[rR (v:=t14) (o:=eO (U 73) (.move<|cx 14) 0) (by rfl) (by rfl) (by k_ne)<|by simp only[cX,eO,cA,f];rfl];simp only[eP];refine⟨i.refl _,?_⟩;u_in m a;rw[rR (v:=t15) (o:=eO (U 14) (pn<|cx 72) 0) (by rfl) (by rfl) (by k_ne)<|by simp only[cX,eO,cA,d];rfl];simp only[eP];refine⟨i.refl _,?_⟩;u_in m a;rw[rR (v:=t14) (o:=eO (U 15) (pn<|cx 73) 0) (by rfl) (by rfl) (by k_ne)<|by simp only[cX,eO,cA,b];rfl];simp only[eP];refine⟨i.refl _,?_⟩;refine dL ?_;u_c N m a;simp only[jU];u_c stepG_inBlock m a;u_c stepG_inLoop m a;exact I λ_ _=>rfl
structure RS(bw e8 e9 f14 f15 x1 y1 x2 y2 jf jt:Nat)(bf bt:eT)(p q p' q' c2 c3 d2 d3:Nat)(s:St):Prop where
 box:rF s.v (s.D 0).own e8 e9 f14 f15 x1 y1 x2 y2 p q p' q'
 pair:kO s.role jf jt (wk bw c2 c3 p q bf) (wk bw d2 d3 p' q' bt)lf:jf<s.gs.size
 lt:jt<s.gs.size
 r0:∀r,s.role 0=U r->r.out=e8
 pA:∃k,s.ch p=U ⟨Z,ai,k⟩qy:∃k,s.ch q=U ⟨Z,ai,k⟩AI:∃k,s.ch p'=U ⟨Z,ai,k⟩zn:∃k,s.ch q'=U ⟨Z,ai,k⟩md:s.md=.opn 0
 par:p=x1/\q=y1/\p'=x2/\q'=y2\/p=x2/\q=y2/\p'=x1/\q'=y1
structure RT(T:Array az)(e8 e9 bw f14 f15:Nat):Prop where
 size:T.size=87
 t8:T[8]?=U (aG<|U ⟨e8,0,Z⟩)t9:T[9]?=U (aG<|U ⟨e9,0,Z⟩)t10:T[10]?=U (aG<|U ⟨bw,0,Z⟩)t14:T[14]?=U (aG<|U ⟨f14,0,Z⟩)t15:T[15]?=U (aG<|U ⟨f15,0,Z⟩)
theorem RT.of{T c}{e8 e9 d b a}(R:RT T e8 e9 d b a)(e:c.size=87)(h:∀z,z=8\/z=9\/z=10\/z=14\/z=15->c[z]?=T[z]?):RT c e8 e9 d b a:=⟨e,(h 8<|by simp).trans R.t8,(h 9<|by simp).trans R.t9,(h 10<|by simp).trans R.t10,(h 14<|by simp).trans R.t14,(h 15<|by simp).trans R.t15⟩
section
variable {K:fG} {bw e8 e9 f14 f15 x1 y1 x2 y2 jf jt:Nat} {bf bt:eT} {p q p' q' c2 c3 d2 d3:Nat} {s t:St} {a:aX}
theorem RS.AB(R:RS bw e8 e9 f14 f15 x1 y1 x2 y2 jf jt bf bt p q p' q' c2 c3 d2 d3 s)(H:Ok K 0 s a)(d:ue 0 s t):RS bw e8 e9 f14 f15 x1 y1 x2 y2 jf jt bf bt p q p' q' c2 c3 d2 d3 t:=⟨R.box.keep (λb c=>d.own b (H.hold.inv.own 0 b c).2 (H.hold.inv.own 0 b c).1) λb c=>by rw[d.D];exact c,by rw[d.role];exact R.pair,by rw[d.size];exact R.lf,by rw[d.size];exact R.lt,by rw[d.role];exact R.r0,by rw[d.ch];exact R.pA,by rw[d.ch];exact R.qy,by rw[d.ch];exact R.AI,by rw[d.ch];exact R.zn,d.md.trans R.md,R.par⟩
structure Still(cl:Nat->fa)(v:ay)(cl':Nat->fa)(v':ay):Prop where
 out:v'.output=v.output
 size:v.heap.size<=v'.heap.size
 old:∀b,b<v.heap.size->cl b=.old->v'.heap[b]?=v.heap[b]?/\cl' b=.old
theorem Still.refl(b)(v):Still b v b v:=⟨rfl,aS _,λ_ _ h=>⟨rfl,h⟩⟩
theorem Still.trans{f cl' c}{v v' d}(a:Still f v cl' v')(b:Still cl' v' c d):Still f v c d:=⟨b.out.trans a.out,bC a.size b.size,λx e g=>let⟨p,q⟩:=a.old x e g;let⟨r,s⟩:=b.old x (cE e a.size) q;⟨r.trans p,s⟩⟩
theorem Still.of{c cl'}{sp}{v v'}(L:Left c sp v v')(e:∀b,b<v.heap.size->cl' b=c b):Still c v cl' v':=⟨L.out,L.size,λb d h=>⟨L.block b d<|aA<|ax h,(e b d).trans h⟩⟩
theorem ue.still{h}{s t}(d:ue h s t):Still s.cl s.v t.cl t.v:=⟨d.out,d.uT,λb c e=>⟨d.old b c e,(d.cls b c).trans e⟩⟩
structure Since(K:fG)(fs:Array ep)(I:H)(Done:aX->ay->Prop)(s0:St)(iL:Nat->Nat)(g0:aX)(w0:ay)(s:St)(ρ:Nat->Nat)(g:aX)(w:ay):Prop where
 runs:s0.runs K.P s
 KP:∀z,z<w0.heap.size->iL z=ρ z
 ux:w0.heap.size<=w.heap.size
 sC:∀z,z<w0.heap.size->I.F z=ai->z≠4->w.heap[z]?=w0.heap[z]?
 back:lQ (J K.P fs) Done (g,w) (g0,w0)out:Still s0.cl s0.v s.cl s.v
 size:s.gs.size=s0.gs.size
variable {fs:Array ep} {I:H} {Done:aX->ay->Prop} {s0:St} {iL ρ eJ:Nat->Nat} {g0 g g':aX} {w0 w w':ay}
theorem Since.refl(s)(ρ)(g)(w):Since K fs I Done s ρ g w s ρ g w:=⟨.refl _,λ_ _=>rfl,aS _,λ_ _ _ _=>rfl,.refl _,.refl _ _,rfl⟩
theorem Since.right(S:Since K fs I Done s0 iL g0 w0 s ρ g w)(r:s.runs K.P t)(c:Still s.cl s.v t.cl t.v)(b:t.gs.size=s.gs.size):Since K fs I Done s0 iL g0 w0 t ρ g w:=⟨S.runs.trans r,S.KP,S.ux,S.sC,S.back,S.out.trans c,b.trans S.size⟩
theorem Since.tape(S:Since K fs I Done s0 iL g0 w0 s ρ g w)(b:lQ (J K.P fs) Done (g',w') (g,w))(h:i w w'):Since K fs I Done s0 iL g0 w0 s ρ g' w':=⟨S.runs,S.KP,by rw[h.heap];exact S.ux,λz c e d=>by rw[h.heap];exact S.sC z c e d,b.trans S.back,S.out,S.size⟩
theorem Since.both(S:Since K fs I Done s0 iL g0 w0 s ρ g w)(e:∀z,z<w.heap.size->ρ z=eJ z)(d:w.heap.size<=w')(c:∀z,z<w.heap.size->I.F z=ai->w'.heap[z]?=w.heap[z]?)(b:lQ (J K.P fs) Done (g',w') (g,w))(r:s.runs K.P t)(k:Still s.cl s.v t.cl t.v)(i:t.gs.size=s.gs.size):Since K fs I Done s0 iL g0 w0 t eJ g' w':=⟨S.runs.trans r,λz h=>(S.KP z h).trans<|e z<|cE h S.ux,bC S.ux d,λz h f j=>(c z (cE h S.ux) f).trans<|S.sC z h f j,b.trans S.back,S.out.trans k,i.trans S.size⟩
theorem gw.tape{n}{w w'}(h:gw n w)(r:i w w'):gw n w':=by unfold gw at h⊢;rw[r.heap];exact h
theorem lE.tape{N}{I}{w w'}{S}{TL b}(h:lE N I w.heap.size S TL b)(r:i w w'):lE N I w' S TL b:=by rw[r.heap];exact h
structure nJ(K:fG)(fs:Array ep)(I:H)(Done:aX->ay->Prop)(B cZ:List aZ)(s0:St)(iL:Nat->Nat)(g0:aX)(w0:ay)(kL kR:List eY)(e8 e9 bw f14 f15 x1 y1 x2 y2 jf jt:Nat)(lf lt:eT)(bf bt:eT)(p q p' q' c2 c3 d2 d3:Nat)(ρ:Nat->Nat)(w:ay)(TL TR:Array az)(s:St):Prop where
 ok:Ok K 0 s (G ((bh 41).at ⟨TR,[]⟩ kR) cZ)term:Term (J K.P fs) Done (G ((bh 41).at ⟨TL,[]⟩ kL) B) w
 eV:fL ρ I K.P s.cl w s.v
 agree:lE ρ I w.heap.size rD TL TR
 sL:TL.size=87
 flag:gw 1 w
 Mu:TL[14]?=U (aG<|U lf)I8:TL[15]?=U (aG<|U lt)FF:I.blk w.heap.size lf.block=Y
 Dm:I.blk w.heap.size lt.block=Y
 ef:bf=dH ρ lf
 et:bt=dH ρ lt
 rt:RT TR e8 e9 bw f14 f15
 rs:RS bw e8 e9 f14 f15 x1 y1 x2 y2 jf jt bf bt p q p' q' c2 c3 d2 d3 s
 since:Since K fs I Done s0 iL g0 w0 s ρ (G ((bh 41).at ⟨TL,[]⟩ kL) B) w
variable {B cZ:List aZ} {kL kR Sz MP:List eY} {lf lt:eT} {TL TR:Array az}
theorem nJ.go(X:nJ K fs I Done B cZ s0 iL g0 w0 kL kR e8 e9 bw f14 f15 x1 y1 x2 y2 jf jt lf lt bf bt p q p' q' c2 c3 d2 d3 ρ w TL TR s)(o:K.P=aF)(x:mX (J K.P fs) Done){n m}(l:∀w,cK (J aF fs) Y i ug (λg w=>g=G ((bh 41).at ⟨TL,[]⟩ Sz) B) n (G ((bh 41).at ⟨TL,[]⟩ kL) B) w)(y:∀w,cK aF Y (L<|[]++[]) (DH [] []) (λg w=>g=G ((bh 41).at ⟨TR,[]⟩ MP) cZ) m (G ((bh 41).at ⟨TR,[]⟩ kR) cZ) w):∃w' t,nJ K fs I Done B cZ s0 iL g0 w0 Sz MP e8 e9 bw f14 f15 x1 y1 x2 y2 jf jt lf lt bf bt p q p' q' c2 c3 d2 d3 ρ w' TL TR t:=by have d:=l w;rw[<-o]at d;obtain⟨_,u,rfl,j,f,c⟩:=Term.goes x i.refl i.trans (λ_ _ h=>h) (λ_ _ _ h=>h) d X.term;obtain⟨e,_,k,Q0,rfl,b,r,v⟩:=X.ok.walk (n:=m) (O:=[]) (Rd:=[]) (Stop:=λg w=>g=G ((bh 41).at ⟨TR,[]⟩ MP) cZ) λg w h=>by rw[h];rfl (by grind) (by simp) (by simp);exact⟨u,e,⟨Q0,j,(X.eV.left b.left b.cls).re c,X.agree.tape c,X.sL,X.flag.tape c,X.Mu,X.I8,by rw[c.heap];exact X.FF,by rw[c.heap];exact X.Dm,X.ef,X.et,X.rt,X.rs.AB X.ok<|b.AB r v,(X.since.tape f c).right k (.of b.left b.cls) b.size⟩⟩
theorem IJ{ρ eJ}{N}{I:H}{l}(h:I.blk N l.block=Y)(b:∀z,z<N->ρ z=eJ z):dH ρ l=dH eJ l:=by grind[dH,H.ja]
theorem nJ.lock{ops}{c}(D:I.F 4=ai)(X:nJ K fs I Done B cZ s0 iL g0 w0 (aT ops c::kL) (aT ops c::kR) e8 e9 bw f14 f15 x1 y1 x2 y2 jf jt lf lt bf bt p q p' q' c2 c3 d2 d3 ρ w TL TR s)(L:mX (J K.P fs) Done)(m:∀E w,¬Done (G E B) w)(N:zX ops rD c=Y)(j:∀z,z=8\/z=9\/z=10\/z=14\/z=15->z∉tR ops c):∃eJ w' e d t,nJ K fs I Done B cZ s0 iL g0 w0 (aT ops []::kL) (aT ops []::kR) e8 e9 bw f14 f15 x1 y1 x2 y2 jf jt lf lt bf bt p q p' q' c2 c3 d2 d3 eJ w' e d t/\lE eJ I w' (grow ops rD c) e d:=by
 have b:c++[]=c:=by grind
 obtain⟨t,eJ,w',e,d,i,P,x,v,A,F,h,y,r,k,f,n,o⟩:=Ok.IZ (rest:=[]) L m c N (by rw[b];exact X.ok) (by rw[b];exact X.term) X.eV X.agree<|X.sL.trans X.rt.size.symm;rw[b]at r;have u:∀l:eT,I.blk w l.block=Y->I.blk w' l.block=Y:=by grind[H.eD]
 exact⟨eJ,w',e,d,t,⟨n,y,o,v.sub λ_=>ajt ops c,A.trans X.sL,Kn X.flag D x,(h 14<|j 14<|by simp).1.trans X.Mu,(h 15<|j 15<|by simp).1.trans X.I8,u _ X.FF,u _ X.Dm,X.ef.trans<|IJ X.FF i,X.et.trans<|IJ X.Dm i,X.rt.of (F.trans X.rt.size) λz C=>(h z<|j z C).2,X.rs.AB X.ok f,X.since.both i P x r k f.still f.size⟩,v⟩
end
theorem aB0:tR ia [0,1,2,3,4,5,6,7,8,9,10,11,12,13,14,15,16,17,18]=[44,45,46,47,48,49,50,51,52,53,54,55,56,57,58,59,60,61,62]:=by kernel_rfl
theorem aBZ:tR Bl [0,1,2]=[63,64,6]:=by kernel_rfl
theorem aBY:tR Bj [0,1,2,3,4]=[65,66,67,68,7]:=by kernel_rfl
section
variable {K:fG} {bw e8 e9 f14 f15 x1 y1 x2 y2 jf jt:Nat} {bf bt:eT} {p q p' q' c2 c3 d2 d3:Nat} {s t:St} {a:aX}
variable {fs:Array ep} {I:H} {Done:aX->ay->Prop} {s0:St} {iL ρ eJ:Nat->Nat} {g0 g g':aX} {w0 w w':ay}
variable {B cZ:List aZ} {kL kR Sz MP:List eY} {lf lt:eT} {TL TR:Array az}
theorem apb(h:K.P=aF)(d:mX (J K.P fs) Done)(c:∀O w,¬Done (G O B) w)(j:I.F 4=ai){Q:Prop}(X:nJ K fs I Done B cZ s0 iL g0 w0 (bF od::jU) (bF kW::om) e8 e9 bw f14 f15 x1 y1 x2 y2 jf jt lf lt bf bt p q p' q' c2 c3 d2 d3 ρ w TL TR s)(o:∀eJ w' f e t,nJ K fs I Done B cZ s0 iL g0 w0 [bF vf] [bF<|cS 10] e8 e9 bw f14 f15 x1 y1 x2 y2 jf jt lf lt bf bt p q p' q' c2 c3 d2 d3 eJ w' f e t->Q)(x:∀eJ w' f e t,nJ K fs I Done B cZ s0 iL g0 w0 (aT nZ [0,1]::rW) (aT tu [0,1,2,3]::uQ) e8 e9 bw f14 f15 x1 y1 x2 y2 jf jt lf lt bf bt p q p' q' c2 c3 d2 d3 eJ w' f e t->Q):Q:=by obtain⟨w1,F,H⟩:=X.go h d (λ_=>azH) λ_=>azG;obtain⟨T,w2,A,n,P,k,Q2⟩:=H.lock j d c av6 (λz m=>by rw[show tR ia _=_ from aB0];rcases m with rfl|rfl|rfl|rfl|rfl<;>decide);obtain⟨r,l⟩:=apz (fs:=fs) (Done:=Done) (C:=B) (by grind) c (by have:=k.term;rwa[h]at this);have i:er ⟨n,[]⟩ (cx 62)=r:=(RV.bool (Q2 62<|List.contains_iff_mem.1 aAU) r).1 l;cases r with|false=>obtain⟨N,L,u⟩:=k.go h d (λ_=>IS l) λ_=>afp i;grind|true=>obtain⟨N,L,u⟩:=k.go h d (λ_=>inL l) λ_=>inR i;obtain⟨Q1,W,v,E,s4,y,_⟩:=u.lock j d c av5 (λz m=>by grind[tR,Bl,aBZ]);obtain⟨w5,s5,S⟩:=y.go h d (λ_=>aps) λ_=>apr;obtain⟨M,Q0,R,D,b,C,_⟩:=S.lock j d c av4 (λz m=>by rw[show tR Bj _=_ from aBY];grind);obtain⟨w7,s7,X7⟩:=C.go h d (λ_=>apq) λ_=>apo;grind
end
theorem kO.anb{a}{f g}{d c}(p:kO a f g d c)(rh):kO (bE a 0<|U rh) f g d c:=⟨by rw[cT a _ p.yu];exact p.one,by rw[cT a _ p.nY];exact p.two,λi r b=>by
  by_cases e:i=0;.grind
  .rw[cT a _ e]at b;exact p.all i r b,p.ne,p.yu,p.nY,p.cc,p.O5,p.KH,p.KG,p.Cr,p.oo⟩
theorem kO.aC6{K}{a}{D}{n o}{l k}(p:kO a n o l k)(C:CM K a D){rh}(q:rh.out≠l.out)(s:rh.out≠k.out):CM K (bE a 0<|U rh) D:=by
 have b:∀i r,bE a 0 rh i=U r->0<i->a i=r:=λi r g c=>by grind[upd_ne,Nat.ne_of_gt]
 refine⟨λi j r m g d h c=>?_,λi r g c=>C.end_ i r (b i r g c) c,C.qA⟩;have f:=b i r g c;by_cases e:j=0;.subst e;rw[dc]at d;cases d;rcases p.Ff f (FT c)with⟨_,rfl⟩|⟨_,rfl⟩;all_goals grind
 .exact C.outs i j r m f (b j m d<|Mv e) h c
section
variable {K:fG} {bw e8 e9 f14 f15 x1 y1 x2 y2 jf jt:Nat} {bf bt:eT} {p q p' q' c2 c3 d2 d3:Nat} {s t:St} {a:aX}
theorem Ok.Xj{h}(H:Ok K h s a){b c}{d}(g:b∈(s.D 0).own)(f:s.ch c=U d):b≠c:=λe=>by have j:=(H.hold.inv.own 0 b g).1;have i:=(H.hold.inv.chan c d f).2.1;grind
theorem ajx{T:Array az}(b:T.size=87):T[12]?=T.getD 12 ak:=by rw[iE,iy<|by grind];rfl
noncomputable def ID(C:List aZ)(T:Array az)(e8 e9 f14 f15 x1 y1 x2 y2 p q p' q':Nat):fC:=⟨abh C T e8 e9 f14 f15 x1 y1 x2 y2 p q p' q',e8,0,bO #[]⟩
variable {cZ:List aZ} {TR:Array az}
theorem ate(y:K.P=aF)(P:K.L=dQ)(hl:K.live=Y)(sr:K.Wg=bw)(H:Ok K 0 s<|G ((bh 41).at ⟨TR,[]⟩<|.inRegion tu [0,1,2,3]::uQ) cZ)(m:RT TR e8 e9 bw f14 f15)(R:RS bw e8 e9 f14 f15 x1 y1 x2 y2 jf jt bf bt p q p' q' c2 c3 d2 d3 s):∃t j d u,s.runs K.P t/\Ok K jt t (r (eW K.P 59 #[.pointer bt,TR.getD 12 ak] .normal)<|KF d q'::uo bw d2 d3 p' q' bt)/\j.size=87/\xd j TR/\t.role=bE s.role 0 (ID cZ j e8 e9 f14 f15 x1 y1 x2 y2 p' q' p q)/\t.md=.opn 0/\(∃k,t.ch=bE s.ch p' (U ⟨Z,ai,k⟩))/\t.gs.size=s.gs.size/\Left s.cl (λ_=>False) s.v t.v/\(∀b,b<s.v.heap.size->t.cl b=s.cl b)/\d.size=21/\(d[1]?=jy bt/\d[2]?=U (.pointer u)/\d[9]?=U (.chan p'))/\(t.v.heap[u]?=U (.cells #[.chan p',.chan q'] 114)/\t.v.heap[d3]?=U (.cells #[jy bt] 126))/\u∈(t.D jt).own/\d3∈(t.D jt).own:=by
 have X:=H.hold.inv.own 0 f15 R.box.m15;let j:=((TR.setIfInBounds 69<|.pointer<|U f15).setIfInBounds 70<|.chan<|U p').setIfInBounds 71<|TR.getD 12 ak;obtain⟨s1,_,r1,F,rfl,Q1,d1,W⟩:=H.walk (n:=6) (O:=[]) (Rd:=[f15]) (Stop:=λg w=>g=G ((bh 41).at ⟨j,[]⟩<|.inRegion tu [3]::uQ) cZ) λg w h=>by rw[h];rfl (by rw[y];exact asy m.size ⟨ajx m.size,m.t15⟩ R.box.mM) (by simp) (by grind);have c:=R.AB H<|Q1.AB d1 W;have T:j.size=87:=by simp[j,m.size]
 have v:xd j TR:=aqF _ _ _;have n:∀z x,TR[z]?=U x->z<69->z≠12->z≠13->j[z]?=U x:=λz x h I h2 h3=>(v z h2 h3<|.inl I).trans h;obtain⟨k3,qX⟩:=c.AI;obtain⟨k4,B⟩:=c.zn;obtain⟨k2,N⟩:=c.qy;obtain⟨t2,gj,k,r2,H2,Q,M,S,J,z2,D,E⟩:=F.send (n:=41) (kh:=k4) (j:=jt) (rj:=wk bw d2 d3 p' q' bt) (rh:=ID cZ j e8 e9 f14 f15 x1 y1 x2 y2 p' q' p q) (x:=TR.getD 12 ak) (z:=.tuple #[]) hl rfl (λw1=>by rw[y];exact asx ⟨by show((TR.setIfInBounds 69 _).setIfInBounds 70 _|>.setIfInBounds 71 _)[70]?=_;rw[l<|by decide];exact j5<|by grind,by grind⟩ w1) c.pair.nY c.pair.two c.lt (by rw[y,asw];exact aqO T ⟨n 14 _ m.t14 (by decide) (by decide)<|by decide,n 15 _ m.t15 (by decide) (by decide)<|by decide⟩ c.box) (by decide) B (λe=>c.pair.Cr e.symm) (λi Q0 hi hr=>by
   rcases c.pair.Ff hr hi with⟨_,rfl⟩|⟨_,rfl⟩;.exact c.pair.KH
   .exact c.pair.Cr)<|c.pair.aC6 F.hold.ga.cast (F.Xj c.box.m8 N)<|F.Xj c.box.m8 B;refine apL (C:=uo bw d2 d3 p' q' bt) y c.pair.nY Q H2 λt3 d u r3 L f d3' O A o hF=>?_;rw[y]at*;refine⟨t3,j,d,u,(r1.trans r2).trans r3,L,T,v,f.role.trans<|M.trans<|by rw[Q1.role],f.md.trans<|S.trans c.md,⟨k,O.trans<|J.trans<|by rw[W];rfl⟩,f.size.trans<|z2.trans Q1.size,(Q1.left.trans Q1.cls D).trans (λb C=>(E b<|cE C Q1.left.size).trans<|Q1.cls b C) f.left,λb C=>?_,A,o,hF⟩;have I:=cE C Q1.left.size;exact(f.cls b<|cE I D.size).trans<|(E b I).trans<|Q1.cls b C
end
theorem Goes.weaken{P:bW}{main:Bool}{R:ay->ay->Prop}{D:ay->ay->Array jl->Prop}{S S':aX->ay->Prop}(h:∀g w,S g w->S' g w):∀{n:Nat}{g:aX}{w:ay},cK P main R D S n g w->cK P main R D S' n g w
 |0,g,w,k=>λb r=>h _ _<|k b r|n+1,g,w,k=>by
  rcases k with k|⟨e,c⟩;.exact ax λb r=>h _ _<|k b r
  .refine aA ⟨e,λb r=>?_⟩;have:=c b r;revert this;cases cj P main g b<;>simp only[GStep.goes,imp_self];exactλ⟨d,x⟩=>⟨d,Goes.weaken h x⟩
theorem vt.walk{K}{s}{a}{n}(H:vt K s a){O Rd}{Stop}(c:∀g w,Stop g w->g.status=dU)(f:cK K.P Y (L<|O++Rd) (DH O Rd) Stop n a s.v)(i:∀b∈O,b∈(s.D 0).own)(d:∀b∈Rd,b<s.v/\(s.cl b=.own 0\/s.cl b=.eV)):∃t e,s.runs K.P t/\vt K t e/\Stop e t.v/\KY O s t:=H.walk_to O Rd i d ⟨n,Goes.weaken (λg w j=>⟨c g w j,λt l r h k=>⟨t,g,r,h,by grind,k⟩⟩) f⟩
def gM(T:Array az)(l:List<|Nat×az):Array az:=l.foldl (λT x=>T.setIfInBounds x.1 x.2) T
theorem IB:∀(a:List<|Nat×az)(T:Array az){z:Nat},(∀x∈a,x.1≠z)->(gM T a)[z]?=T[z]?|[],T,z,_=>rfl|x::a,T,z,h=>by show(gM (T.setIfInBounds x.1 x.2) a)[z]?=_;rw[IB a _ λy b=>h y<|vO _ b,l<|h x<|List.mem_cons_self ..]
theorem IA:∀(l:List<|Nat×az)(T:Array az),(gM T l).size=T.size|[],T=>rfl|x::l,T=>(IA l _).trans<|uH ..
def iH:List<|Nat×az:=[(44,bQ ai),(45,bQ ai),(46,ak),(47,ak),(48,ak),(49,ak),(50,ak),(51,ak),(52,ak),(53,ak),(54,ak),(55,ak),(56,ak),(57,ak),(58,ak),(59,ak),(60,ak),(61,ak),(62,bQ ai)]
theorem ZO{z}(h:z<44\/62<z):∀x∈iH,x.1≠z:=by
 intro x b e;have:∀y∈iH,44<=y.1/\y.1<=62:=by decide
 grind
theorem FB{T}{l}{z}{v}(j)(a:l[j]?=(z,v))(g:∀x∈l.drop<|j+1,x.1≠z)(c:z<T.size):(gM T l)[z]?=U v:=by
 obtain⟨d,f⟩:=List.getElem?_eq_some_iff.1 a;have e:l=l.take j++(z,v)::l.drop (j+1):=by grind[List.drop_eq_getElem_cons,List.take_append_drop]
 rw[e];have b:gM T (l.take j++(z,v)::l.drop (j+1))=gM ((gM T<|l.take j).setIfInBounds z v) (l.drop<|j+1):=by grind[gM]
 grind[IB,Array.getElem?_setIfInBounds_self_of_lt,IA]
theorem aso(T)(l)(z)(v):(gM T l).setIfInBounds z v=gM T (l++[(z,v)]):=by grind[gM]
theorem aaO{T}{t:Nat}{x}(h:T[t]?=U x):er ⟨T,[]⟩ (cx t)=x:=getD_some h
def abL(i j:Nat)(b:Bool)(t:Nat):Prop:=∃o,ia[i]?=U o/\o.guard=U (j,b)/\o.dst=U t
theorem sx{i j:Nat}{b}{t:Nat}(h:(ia[i]?.map λo=>(o.guard,o.dst))=(U (j,b),U t)):abL i j b t:=by cases a:ia[i]? with|none=>grind|some o=>rw[a]at h;simp only[eG,ew,DD]at h;exact⟨o,a,h.1,h.2⟩
section
variable {P:bW} {main:Bool} {R:ay->ay->Prop} {D:ay->ay->Array jl->Prop} {Stop:aX->ay->Prop} {n:Nat} {b:aZ} {k:List eY} {cs:List aZ} {w:ay} {T:Array az} {rest:List Nat}
theorem aqL{i j}{g}{t u:Nat}{v}(h:abL i j g t)(q:(ia[j]?.bind (·.dst))=u)(s:T[u]?=U v)(r:v≠g)(d:∀w,D w w #[])(e:∀a,R w a->cK P main R D Stop n (G (b.at ⟨T.setIfInBounds t ak,[]⟩<|aT ia rest::k) cs) a):cK P main R D Stop (n+1) (G (b.at ⟨T,[]⟩<|aT ia (i::rest)::k) cs) w:=by
 obtain⟨o,l,p,m⟩:=h;refine Goes.step rfl λa f=>?_;have c:eX o (eu ia T)=ai:=by unfold eX;rw[p];unfold eu;grind
 rw[Vt l c];simp only[eP,m];exact⟨d _,e a f⟩
theorem af6{i:Nat}{x}{t:Nat}(h:(ia[i]?.map λo=>(o.op,o.guard,o.dst))=U (.move x,Z,U t))(j:b.kind≠.early)(e:∀w,D w w #[])(f:∀a,R w a->cK P main R D Stop n (G (b.at ⟨T.setIfInBounds t<|er ⟨T,[]⟩ x,[]⟩<|aT ia rest::k) cs) a):cK P main R D Stop (n+1) (G (b.at ⟨T,[]⟩<|aT ia (i::rest)::k) cs) w:=by cases d:ia[i]? with|none=>grind|some o=>
  rw[d]at h;simp only[eG,ew,DD]at h;obtain⟨c,p,m⟩:=h;refine Goes.step rfl λa g=>?_;have l:(cX (er ⟨T,[]⟩) o).events P a #[]=#[]:=by unfold cX;simp only[c];rfl
  rw[rR d (by unfold eX;rw[p]) j<|by unfold cX;simp only[c];rfl,oX l];simp only[eP,m];exact⟨e _,f a g⟩
theorem at3{i:Nat}{c x y}{r}{t:Nat}(h:(ia[i]?.map λo=>(o.op,o.guard,o.dst))=U (.pick c x y,Z,U t))(f:er ⟨T,[]⟩ c=bQ r)(m:b.kind≠.early)(g:∀w,D w w #[])(j:∀a,R w a->cK P main R D Stop n (G (b.at ⟨T.setIfInBounds t<|if r then er ⟨T,[]⟩ x else er ⟨T,[]⟩ y,[]⟩<|aT ia rest::k) cs) a):cK P main R D Stop (n+1) (G (b.at ⟨T,[]⟩<|aT ia (i::rest)::k) cs) w:=by cases e:ia[i]? with|none=>grind|some o=>
  rw[e]at h;simp only[eG,ew,DD]at h;obtain⟨d,s,q⟩:=h;refine Goes.step rfl λa l=>?_;have p:(cX (er ⟨T,[]⟩) o).events P a #[]=#[]:=by unfold cX;simp only[d,f];rfl
  rw[rR e (by unfold eX;rw[s]) m<|by unfold cX;simp only[d,f];rfl,oX p];simp only[eP,q];exact⟨g _,j a l⟩
theorem Qi(T){m t}{v}(h:iH[m]?=(t,v)):(gM T<|iH.take m).setIfInBounds t v=gM T (iH.take<|m+1):=by grind[aso,List.take_add_one]
theorem rG{m j}{g}{t u:Nat}{v}(p)(r:T.size=87)(h:abL m j g t)(c:(ia[j]?.bind (·.dst))=u)(o:iH[m]?=(t,ak))(f:(iH.take m)[p]?=U (u,v))(i:∀x∈(iH.take m).drop<|p+1,x.1≠u)(s:u<87)(e:v≠bQ g)(d:∀w,D w w #[])(l:∀a,R w a->cK P main R D Stop n (G (b.at ⟨gM T<|iH.take<|m+1,[]⟩<|aT ia rest::k) cs) a):cK P main R D Stop (n+1) (G (b.at ⟨gM T<|iH.take m,[]⟩<|aT ia (m::rest)::k) cs) w:=aqL h c (FB p f i<|by grind) e d λa q=>by grind[Qi]
theorem aiq(c:T.size=87)(d:T[13]?=U (bQ ai))(f:b.kind≠.early)(a:∀w,D w w #[])(i:∀w,Stop (G (b.at ⟨gM T iH,[]⟩<|aT ia []::k) cs) w):cK P main R D Stop 20 (G (b.at ⟨T,[]⟩<|aT ia [0,1,2,3,4,5,6,7,8,9,10,11,12,13,14,15,16,17,18]::k) cs) w:=by
 have g:er ⟨T,[]⟩ (cx 13)=ai:=getD_some d;refine af6 (i:=0) (x:=cx 13) (t:=44) (by kernel_rfl) f a λ_ _=>?_;rw[g,show T.setIfInBounds 44 ai=gM T (iH.take 1)from rfl];refine af6 (i:=1) (x:=cx 44) (t:=45) (by kernel_rfl) f a λ_ _=>?_;rw[aaO<|FB (l:=iH.take 1) (z:=44) (v:=ai) 0 rfl (by decide)<|by grind,Qi T (m:=1) (t:=45) (v:=ai) rfl];refine rG (m:=2) (j:=1) (g:=Y) (t:=46) (u:=45) (v:=ai) 1 c (sx<|by kernel_rfl) (by kernel_rfl) rfl rfl (by decide) (by decide) (by grind) a λ_ _=>?_;refine rG (m:=3) (j:=1) (g:=Y) (t:=47) (u:=45) (v:=ai) 1 c (sx<|by kernel_rfl) (by kernel_rfl) rfl rfl (by decide) (by decide) (by grind) a λ_ _=>?_;refine rG (m:=4) (j:=1) (g:=Y) (t:=48) (u:=45) (v:=ai) 1 c (sx<|by kernel_rfl) (by kernel_rfl) rfl rfl (by decide) (by decide) (by grind) a λ_ _=>?_;refine rG (m:=5) (j:=1) (g:=Y) (t:=49) (u:=45) (v:=ai) 1 c (sx<|by kernel_rfl) (by kernel_rfl) rfl rfl (by decide) (by decide) (by grind) a λ_ _=>?_;refine rG (m:=6) (j:=5) (g:=ai) (t:=50) (u:=49) (v:=ak) 5 c (sx<|by kernel_rfl) (by kernel_rfl) rfl rfl (by decide) (by decide) (by simp[ak]) a λ_ _=>?_;refine rG (m:=7) (j:=5) (g:=ai) (t:=51) (u:=49) (v:=ak) 5 c (sx<|by kernel_rfl) (by kernel_rfl) rfl rfl (by decide) (by decide) (by simp[ak]) a λ_ _=>?_;refine rG (m:=8) (j:=5) (g:=ai) (t:=52) (u:=49) (v:=ak) 5 c (sx<|by kernel_rfl) (by kernel_rfl) rfl rfl (by decide) (by decide) (by simp[ak]) a λ_ _=>?_;refine rG (m:=9) (j:=5) (g:=ai) (t:=53) (u:=49) (v:=ak) 5 c (sx<|by kernel_rfl) (by kernel_rfl) rfl rfl (by decide) (by decide) (by simp[ak]) a λ_ _=>?_;refine rG (m:=10) (j:=1) (g:=Y) (t:=54) (u:=45) (v:=ai) 1 c (sx<|by kernel_rfl) (by kernel_rfl) rfl rfl (by decide) (by decide) (by grind) a λ_ _=>?_;refine rG (m:=11) (j:=1) (g:=Y) (t:=55) (u:=45) (v:=ai) 1 c (sx<|by kernel_rfl) (by kernel_rfl) rfl rfl (by decide) (by decide) (by grind) a λ_ _=>?_;refine rG (m:=12) (j:=11) (g:=ai) (t:=56) (u:=55) (v:=ak) 11 c (sx<|by kernel_rfl) (by kernel_rfl) rfl rfl (by decide) (by decide) (by simp[ak]) a λ_ _=>?_;refine rG (m:=13) (j:=11) (g:=ai) (t:=57) (u:=55) (v:=ak) 11 c (sx<|by kernel_rfl) (by kernel_rfl) rfl rfl (by decide) (by decide) (by simp[ak]) a λ_ _=>?_;refine rG (m:=14) (j:=11) (g:=ai) (t:=58) (u:=55) (v:=ak) 11 c (sx<|by kernel_rfl) (by kernel_rfl) rfl rfl (by decide) (by decide) (by simp[ak]) a λ_ _=>?_;refine rG (m:=15) (j:=11) (g:=ai) (t:=59) (u:=55) (v:=ak) 11 c (sx<|by kernel_rfl) (by kernel_rfl) rfl rfl (by decide) (by decide) (by simp[ak]) a λ_ _=>?_;refine rG (m:=16) (j:=11) (g:=ai) (t:=60) (u:=55) (v:=ak) 11 c (sx<|by kernel_rfl) (by kernel_rfl) rfl rfl (by decide) (by decide) (by simp[ak]) a λ_ _=>?_;refine rG (m:=17) (j:=1) (g:=Y) (t:=61) (u:=45) (v:=ai) 1 c (sx<|by kernel_rfl) (by kernel_rfl) rfl rfl (by decide) (by decide) (by grind) a λ_ _=>?_;refine at3 (i:=18) (c:=cx 45) (x:=cx 61) (y:=gJ ai) (r:=ai) (t:=62) (by kernel_rfl) (aaO<|FB (l:=iH.take 18) (z:=45) (v:=ai) 1 rfl (by decide)<|by grind) f a λ_ _=>?_;have e:(gM T<|iH.take 18).setIfInBounds 62 (if ai=Y then er ⟨gM T<|iH.take 18,[]⟩ (cx 61)else er ⟨gM T<|iH.take 18,[]⟩<|gJ ai)=gM T iH:=by rw[if_neg<|by decide];have h:=Qi T (m:=18) (t:=62) (v:=ai) rfl;rw[Sr (by decide:iH.length<=18+1)]at h;exact h
 grind[Goes.stop]
end
section
variable {C:List aZ} {fs:Array ep} {T:Array az} {w:ay}
theorem azJ(d:T.size=87)(c:T[13]?=U (bQ ai)):cK (J aF fs) Y i ug (λg w=>g=G ((bh 41).at ⟨gM T iH,[]⟩<|aT ia []::BF) C) 30 (G ((bh 41).at ⟨T,[]⟩<|bF od::jU) C) w:=by have b:=trivial;rw[eL];refine kG (n:=2) ?_;u_c D m b;u_in m b;rw[tH,PF];simp only[eP];refine⟨by u_nil,?_⟩;refine I λ_ a=>?_;replace b:=m b a;exact ahb (aiq d c (by k_ne) (λw=>i.refl w) λ_=>rfl)<|by decide
theorem azI(d:T.size=87)(c:T[13]?=U (bQ ai)):cK aF Y (L<|[]++[]) (DH [] []) (λg w=>g=G ((bh 41).at ⟨gM T iH,[]⟩<|aT ia []::F2) C) 30 (G ((bh 41).at ⟨T,[]⟩<|bF kW::om) C) w:=by have b:=trivial;rw[eR];refine kG (n:=3) ?_;u_c D A b;u_c D A b;u_in A b;rw[tH,PF];simp only[eP];refine⟨by u_nil,?_⟩;refine I λ_ a=>?_;replace b:=A b a;exact ahb (aiq d c (by k_ne) λw=>dh_none<|by simp λ_=>rfl)<|by decide
theorem air(a:T.size=87):er ⟨gM T iH,[]⟩ (cx 62)=ai:=by
 have e:gM T iH=(gM T<|iH.take 18).setIfInBounds 62 ai:=by have h:=Qi T (m:=18) (t:=62) (v:=ai) rfl;rw[Sr (by decide:iH.length<=18+1)]at h;grind
 grind[aaO,Array.getElem?_setIfInBounds_self_of_lt,IA]
end
structure Fin(K:fG)(fs:Array ep)(I:H)(Done:aX->ay->Prop)(B cZ:List aZ)(s0:St)(iL:Nat->Nat)(g0:aX)(w0:ay)(e8 e9 bw x1 y1 x2 y2:Nat)(ρ:Nat->Nat)(w:ay)(TL TR:Array az)(s:St):Prop where
 Fy:vt K s (G ((bh 41).at ⟨TR,[]⟩ [bF<|cS 10]) cZ)term:Term (J K.P fs) Done (G ((bh 41).at ⟨TL,[]⟩ [bF vf]) B) w
 eV:fL ρ I K.P s.cl w s.v
 six:RV ρ I w.heap.size (TL.getD 6 ak) (TR.getD 6 ak)seven:RV ρ I w.heap.size (TL.getD 7 ak) (TR.getD 7 ak)sL:TL.size=87
 sR:TR.size=87
 flag:gw 1 w
 c8:s.v.heap[e8]?=U (ends (U x1)<|U y1)c9:s.v.heap[e9]?=U (ends (U x2)<|U y2)m8:e8∈(s.D 0).own
 m9:e9∈(s.D 0).own
 t8:TR[8]?=U (aG<|U ⟨e8,0,Z⟩)t9:TR[9]?=U (aG<|U ⟨e9,0,Z⟩)t10:TR[10]?=U (aG<|U ⟨bw,0,Z⟩)pair:∃i1 i2 r1 r2,kO s.role i1 i2 r1 r2/\r1.aO.c=x1/\r2.aO.c=x2/\i1<s.gs.size/\i2<s.gs.size/\(∃k,s.ch x1=U ⟨Z,ai,k⟩)/\(∃k,s.ch x2=U ⟨Z,ai,k⟩)/\((s.D i1).stage=9->∃k,s.ch r1.out=U ⟨Z,ai,k⟩)/\((s.D i2).stage=9->∃k,s.ch r2.out=U ⟨Z,ai,k⟩)md:s.md=.opn 0
 since:Since K fs I Done s0 iL g0 w0 s ρ (G ((bh 41).at ⟨TL,[]⟩ [bF vf]) B) w
section
variable {K:fG} {bw e8 e9 f14 f15 x1 y1 x2 y2 jf jt:Nat} {bf bt:eT} {p q p' q' c2 c3 d2 d3:Nat} {s t:St} {a:aX}
variable {fs:Array ep} {I:H} {nm:String->Bool} {Done:aX->ay->Prop} {s0:St} {iL ρ eJ:Nat->Nat} {g0 g g':aX} {w0 w w':ay}
variable {B cZ:List aZ} {kL kR Sz MP:List eY} {lf lt:eT} {TL TR:Array az}
theorem Since.trans{d}{c}{i}{w1}(a:Since K fs I Done s0 iL g0 w0 s ρ g w)(b:Since K fs I Done s ρ g w d c i w1):Since K fs I Done s0 iL g0 w0 d c i w1:=⟨a.runs.trans b.runs,λz h=>(a.KP z h).trans<|b.KP z<|cE h a.ux,bC a.ux b.ux,λz h f e=>(b.sC z (cE h a.ux) f e).trans<|a.sC z h f e,b.back.trans a.back,a.out.trans b.out,b.size.trans a.size⟩
theorem nJ.Q7{c}{b}{d}{w1}(a:Since K fs I Done s0 iL g0 w0 c b d w1)(X:nJ K fs I Done B cZ c b d w1 kL kR e8 e9 bw f14 f15 x1 y1 x2 y2 jf jt lf lt bf bt p q p' q' c2 c3 d2 d3 ρ w TL TR s):nJ K fs I Done B cZ s0 iL g0 w0 kL kR e8 e9 bw f14 f15 x1 y1 x2 y2 jf jt lf lt bf bt p q p' q' c2 c3 d2 d3 ρ w TL TR s:=⟨X.ok,X.term,X.eV,X.agree,X.sL,X.flag,X.Mu,X.I8,X.FF,X.Dm,X.ef,X.et,X.rt,X.rs,a.trans X.since⟩
theorem nJ.aDw(X:nJ K fs I Done B cZ s0 iL g0 w0 kL kR e8 e9 bw f14 f15 x1 y1 x2 y2 jf jt lf lt bf bt p q p' q' c2 c3 d2 d3 ρ w TL TR s):nJ K fs I Done B cZ s ρ (G ((bh 41).at ⟨TL,[]⟩ kL) B) w kL kR e8 e9 bw f14 f15 x1 y1 x2 y2 jf jt lf lt bf bt p q p' q' c2 c3 d2 d3 ρ w TL TR s:=⟨X.ok,X.term,X.eV,X.agree,X.sL,X.flag,X.Mu,X.I8,X.FF,X.Dm,X.ef,X.et,X.rt,X.rs,.refl _ _ _ _⟩
theorem nJ.fin(X:nJ K fs I Done B cZ s0 iL g0 w0 [bF vf] [bF<|cS 10] e8 e9 bw f14 f15 x1 y1 x2 y2 jf jt lf lt bf bt p q p' q' c2 c3 d2 d3 ρ w TL TR s):Fin K fs I Done B cZ s0 iL g0 w0 e8 e9 bw x1 y1 x2 y2 ρ w TL TR s:=by
 refine⟨X.ok.Fy,X.term,X.eV,X.agree 6<|by decide,X.agree 7<|by decide,X.sL,X.rt.size,X.flag,X.rs.box.c8,X.rs.box.c9,X.rs.box.m8,X.rs.box.m9,X.rt.t8,X.rt.t9,X.rt.t10,?_,X.rs.md,X.since⟩;rcases X.rs.par with⟨b,e,c,d⟩|⟨b,e,c,d⟩;.exact⟨jf,jt,_,_,X.rs.pair,b,c,X.rs.lf,X.rs.lt,by rw[<-b];exact X.rs.pA,by rw[<-c];exact X.rs.AI,λ_=>X.rs.qy,λ_=>X.rs.zn⟩
 .exact⟨jt,jf,_,_,X.rs.pair.swap,c,b,X.rs.lt,X.rs.lf,by rw[<-c];exact X.rs.AI,by rw[<-b];exact X.rs.pA,λ_=>X.rs.zn,λ_=>X.rs.qy⟩
def s8(TL:Array az)(x n y b t15 t14:az):Array az:=gM TL [(69,x),(70,n),(12,y),(13,b),(72,t15),(73,t14),(14,t15),(15,t14)]
theorem acR{x n y b t15 t14}{z}(h:z∈rD)(i:z≠12)(f:z≠13):(s8 TL x n y b t15 t14)[z]?=TL[z]?:=by
 unfold s8;refine IB _ _ λv d e=>?_;have j:∀z∈rD,z≠69/\z≠70/\z≠72/\z≠73/\z≠14/\z≠15:=by decide
 have:=j z h;simp only[dj,dP,dY]at d;grind
theorem apc{x n y b t15 t14}(d:TL.size=87):(s8 TL x n y b t15 t14)[12]?=y/\(s8 TL x n y b t15 t14)[13]?=b/\(s8 TL x n y b t15 t14)[14]?=t15/\(s8 TL x n y b t15 t14)[15]?=t14:=by
 have c:∀z,z<87->z<TL.size:=λz h=>by grind
 unfold s8;exact⟨FB (v:=y) 2 rfl (by simp)<|c _<|by decide,FB (v:=b) 3 rfl (by simp)<|c _<|by decide,FB (v:=t15) 6 rfl (by simp)<|c _<|by decide,FB (v:=t14) 7 rfl (by simp)<|c _<|by decide⟩
theorem acS{x n y b t15 t14}:(((((((TL.setIfInBounds 69 x).setIfInBounds 70 n).setIfInBounds 12 y).setIfInBounds 13 b).setIfInBounds 72 t15).setIfInBounds 73 t14).setIfInBounds 14 t15).setIfInBounds 15 t14=s8 TL x n y b t15 t14:=by unfold s8 gM;simp only[List.foldl_cons,List.foldl_nil]
theorem Iq{T d}(h:xd T d){z}(f:z∈rD)(b:z≠12)(c:z≠13):T[z]?=d[z]?:=by
 have e:∀z∈rD,z<69:=by decide
 exact h z b c<|ax<|e z f
theorem awe(m:mX (J aF fs) Done)(P:TL.size=87)(Q1:TL[14]?=U (aG lf))(k:TL[15]?=U (aG lt)){d}{n c}(D:Term (J aF fs) Done (G ((bh 41).at ⟨TL.setIfInBounds 69<|aE d n c,[]⟩<|aT nZ [1]::rW) B) w):∃w',i w w'/\Term (J aF fs) Done (G ((bh 41).at ⟨s8 TL (aE d n c) d.isNone (if d.isNone then aE Z 0 0 else aE d n c) (!d.isNone) (aG lt)<|aG lf,[]⟩<|bF od::jU) B) w'/\lQ (J aF fs) Done (G ((bh 41).at ⟨s8 TL (aE d n c) d.isNone (if d.isNone then aE Z 0 0 else aE d n c) (!d.isNone) (aG lt)<|aG lf,[]⟩<|bF od::jU) B,w') (G ((bh 41).at ⟨TL.setIfInBounds 69<|aE d n c,[]⟩<|aT nZ [1]::rW) B,w):=by obtain⟨_,F,rfl,z,y,C⟩:=Term.goes m i.refl i.trans (λ_ _ h=>h) (λ_ _ _ h=>h) (tailA<|j5<|by grind) D;have f:∀b,er ⟨(TL.setIfInBounds 69<|aE d n c).setIfInBounds 70 b,[]⟩ (cx 70)=b:=λb=>getD_some (j5<|by grind);cases d with|none=>obtain⟨_,E,rfl,o,r,x⟩:=Term.goes m i.refl i.trans (λ_ _ h=>h) (λ_ _ _ h=>h) (apV<|f Y) z;obtain⟨_,u,rfl,Q0,j,v⟩:=Term.goes m i.refl i.trans (λ_ _ h=>h) (λ_ _ _ h=>h) (ac6 (by simp[P]) (by rw[l<|by decide,l<|by decide,l<|by decide,l<|by decide];exact Q1)<|by rw[l<|by decide,l<|by decide,l<|by decide,l<|by decide];exact k) o;rw[acS]at Q0 j;exact⟨u,(C.trans _ _ _ x).trans _ _ _ v,Q0,j.trans<|r.trans y⟩|some A=>
  have e:((TL.setIfInBounds 69<|aE A n c).setIfInBounds 70 ai)[69]?=U (aE A n c):=by grind
  obtain⟨_,E,rfl,o,r,x⟩:=Term.goes m i.refl i.trans (λ_ _ h=>h) (λ_ _ _ h=>h) (apU (f ai) e) z;obtain⟨_,u,rfl,Q0,j,v⟩:=Term.goes m i.refl i.trans (λ_ _ h=>h) (λ_ _ _ h=>h) (ac6 (by simp[P]) (by rw[l<|by decide,l<|by decide,l<|by decide,l<|by decide];exact Q1)<|by rw[l<|by decide,l<|by decide,l<|by decide,l<|by decide];exact k) o;rw[acS]at Q0 j;exact⟨u,(C.trans _ _ _ x).trans _ _ _ v,Q0,j.trans<|r.trans y⟩
theorem awj(d:mX (J aF fs) Done){T}(c:T.size=87)(b:T[13]?=U (bQ ai))(v:Term (J aF fs) Done (G ((bh 41).at ⟨T,[]⟩<|bF od::jU) B) w):∃w',i w w'/\Term (J aF fs) Done (G ((bh 41).at ⟨gM T iH,[]⟩ [bF vf]) B) w'/\lQ (J aF fs) Done (G ((bh 41).at ⟨gM T iH,[]⟩ [bF vf]) B,w') (G ((bh 41).at ⟨T,[]⟩<|bF od::jU) B,w):=by obtain⟨_,o,rfl,k,f,l⟩:=Term.goes d i.refl i.trans (λ_ _ h=>h) (λ_ _ _ h=>h) (azJ c b) v;obtain⟨_,m,rfl,j,e,n⟩:=Term.goes d i.refl i.trans (λ_ _ h=>h) (λ_ _ _ h=>h) (IS<|air c) k;exact⟨m,l.trans _ _ _ n,j,e.trans f⟩
theorem apd(hP:K.P=aF)(sw:K.L=dQ)(hl:K.live=Y)(sr:K.Wg=bw)(W:E2 fs I nm)(hE:mX (J K.P fs) Done)(jX:∀g w,Done g w->g.callers=[])(iz:B≠[]){Q:Prop}(X:nJ K fs I Done B cZ s0 iL g0 w0 (aT nZ [0,1]::rW) (aT tu [0,1,2,3]::uQ) e8 e9 bw f14 f15 x1 y1 x2 y2 jf jt lf lt bf bt p q p' q' c2 c3 d2 d3 ρ w TL TR s)(aAj:∀eJ w' Pg UK t,Fin K fs I Done B cZ s0 iL g0 w0 e8 e9 bw x1 y1 x2 y2 eJ w' Pg UK t->Q)(aAl:∀eJ w' Pg UK t,nJ K fs I Done B cZ s0 iL g0 w0 (bF od::jU) (bF kW::om) e8 e9 bw f14 f15 x1 y1 x2 y2 jt jf lt lf bt bf p' q' p q d2 d3 c2 c3 eJ w' Pg UK t->tU (qF (J K.P fs) Done) (G ((bh 41).at ⟨Pg,[]⟩<|bF od::jU) B,w') (G ((bh 41).at ⟨TL,[]⟩<|aT nZ [0,1]::rW) B,w)->Q):Q:=by
 obtain⟨P,L,y,n0,o,live⟩:=K;simp only at hP sw hl sr;subst hP sw hl sr;obtain⟨t,T4,T58,bx,r1,H1,z4,s4,ro,ic,⟨k,pA⟩,Ql,L1,gW,aiX,ahR,aAv⟩:=ate rfl rfl rfl rfl X.ok X.rt X.rs;have QW:=X.rs.pair;obtain⟨_,w1,rfl,t1,b1,l1⟩:=Term.goes hE i.refl i.trans (λ_ _ h=>h) (λ_ _ _ h=>h) (awq (C:=B) (fs:=fs) W.f59 ⟨X.I8,ajx X.sL⟩) X.term;have has:bD ρ I w1 #[aG lt,TL.getD 12 ak] #[aG bt,TR.getD 12 ak]:=by
  have R:=X.agree 12 (by decide);have fo:=l1.heap;refine⟨λv hv=>?_,?_⟩
  ·simp only[fP,dj,dP,dY]at hv;rw[fo];rcases hv with rfl|rfl;·simp only[S,Dw];exact X.Dm
   ·exact R.1
  ·rw[R.2,X.et];simp[F]
 obtain⟨N,eJ,w2,x,x',ag,ux,sC,aBe,hx,VL,tg,r2,u,H2,M2⟩:=phase (K:=⟨aF,dQ,y,n0,o,Y⟩) rfl W hE jX W.t59 ⟨_,_,func59,rfl⟩ (bL:=(bh 41).at ⟨TL,[]⟩<|aT nZ [0,1]::rW) (B:=B) iz has H1 t1 ((X.eV.left L1 gW).re (K:=⟨aF,dQ,y,n0,o,Y⟩) l1)<|X.flag.tape l1;have BV:tV ((bh 41).at ⟨TL,[]⟩<|aT nZ [0,1]::rW) x=(bh 41).at ⟨TL.setIfInBounds 69 x,[]⟩ (aT nZ [1]::rW):=by rw[Jv];rfl
 rw[BV]at VL tg;obtain⟨pp,n,c,rfl⟩:=apw (v:=x) hE (λfr w hd=>iz<|jX _ _ hd) (j5<|by rw[X.sL];decide) VL;obtain⟨w3,l3,t3',b3⟩:=awe hE X.sL X.Mu X.I8 VL;have Y9:x'=aE (pp.map<|dH eJ) n c:=by rw[hx.2];simp[F]
 subst Y9;have TB:(N.v.heap[bx]?=U (aH #[de p',de q'] 114)∧N.v.heap[d3]?=U (aH #[jy bt] 126))∧bx∈(N.D jt).own∧d3∈(N.D jt).own:=by obtain⟨⟨f1,f2⟩,f3,f4⟩:=aAv;refine⟨⟨(u.own bx (H1.hold.inv.own jt bx f3).2 (H1.hold.inv.own jt bx f3).1).trans f1,(u.own d3 (H1.hold.inv.own jt d3 f4).2 (H1.hold.inv.own jt d3 f4).1).trans f2⟩,?_,?_⟩<;>rw[u.D]<;>assumption
 have Dd:=u.role.trans ro;have vM:=u.md.trans ic;have qy:=u.ch.trans pA;have Qk:=u.size.trans Ql;have WX:kO N.role jf jt (wk y c2 c3 p q bf)<|wk y d2 d3 p' q' bt:=by rw[Dd];exact QW.anb _
 have Ut:N.ch p'=U ⟨Z,ai,k⟩:=by rw[qy,dc]
 have chn:∀z,z≠p'->N.ch z=s.ch z:=λz l=>by rw[qy,cT s.ch _ l]
 have ak1:∃k,N.ch p=U ⟨Z,ai,k⟩:=by rw[chn p QW.cc];exact X.rs.pA
 have ak0:∃k,N.ch q=U ⟨Z,ai,k⟩:=by rw[chn q λe=>QW.KG e.symm];exact X.rs.qy
 have aCV:∃k,N.ch q'=U ⟨Z,ai,k⟩:=by rw[chn q' λe=>QW.Cr e.symm];exact X.rs.zn
 have WG:N.role 0=ID cZ T4 e8 e9 f14 f15 x1 y1 x2 y2 p' q' p q:=by rw[Dd,dc]
 have S2:=((X.since.tape b1 l1).right r1 (.of L1 gW) Ql).both ag ux sC (aA tg) r2 u.still u.size;have tg2:tU (qF (J aF fs) Done) (G ((bh 41).at ⟨TL.setIfInBounds 69<|aE pp n c,[]⟩<|aT nZ [1]::rW) B,w2) (G ((bh 41).at ⟨TL,[]⟩<|aT nZ [0,1]::rW) B,w):=by
  rcases b1 with e|b1;·grind
  ·exact tg.trans b1
 have VH:=lQ.vF b3 tg2;have S3:=S2.tape b3 l3;have VM:w.heap.size<=w3:=by rw[l3.heap];rw[l1.heap]at ux;exact ux
 have KQ:=λz l=>ag z (by rw[l1.heap];exact l);have M3:fL eJ I aF N.cl w3 N.v:=M2.re (K:=⟨aF,dQ,y,n0,o,Y⟩) l3;have ajP:=aBe.tape l3;have TE:=X.agree.mono KQ VM;obtain⟨g12,g13,g14,g15⟩:=apc (TL:=TL) (x:=aE pp n c) (n:=pp.isNone) (y:=if pp.isNone then aE Z 0 0 else aE pp n c) (b:=!pp.isNone) (t15:=aG<|U lt) (t14:=aG<|U lf) X.sL
 have VN:(s8 TL (aE pp n c) pp.isNone (if pp.isNone then aE Z 0 0 else aE pp n c) (!pp.isNone) (aG lt)<|aG lf).size=87:=(IA _ _).trans X.sL;cases pp with|none=>
  refine apK rfl QW.nY aiX ahR TB H2 λQ0 g4 r4 H4 m D4 E kg hC4=>?_;have L9:kO Q0.role jf jt (wk y c2 c3 p q bf)<|wk y d2 d3 p' q' bt:=by rw[m.role];exact WX
  obtain⟨kq,hkq⟩:=aCV;refine H4.asd (K:=⟨aF,dQ,y,n0,o,Y⟩) rfl L9.swap (rm:=ID cZ T4 e8 e9 f14 f15 x1 y1 x2 y2 p' q' p q) (by rw[m.role];exact WG) rfl kg hC4 (k:=kq) (k1:=k) (by rw[E];exact hkq) (by rw[E];exact Ut) (λe=>by obtain⟨m,hk4⟩:=X.rs.zn;exact X.ok.Xj X.rs.box.m8 hk4 e) λt5 g5 r5 H5 ZD yn Mk T L5 Cn aCS aCU VQ aur=>?_;obtain⟨T5,rfl,U4,QX,h76,B5⟩:=ZD;obtain⟨t6,_,r6,H6,⟨T6,rfl,f,Q1,R,Kl⟩,M⟩:=H5.walk (n:=20) (O:=[]) (Rd:=[]) (Stop:=λg w=>∃D,g=G ((bh 41).at ⟨D,[]⟩<|bF kW::om) cZ∧D.size=87∧xd D T5∧D[12]?=U (aE Z 0 0)∧D[13]?=U (bQ ai)) λg w h=>by obtain⟨_,rfl,_⟩:=h;rfl (alp U4 _) (by simp) (by simp);obtain⟨t7,_,r7,H7,rfl,k7⟩:=H6.walk (n:=30) (O:=[]) (Rd:=[]) (Stop:=λg w=>g=G ((bh 41).at ⟨gM T6 iH,[]⟩<|aT ia []::F2) cZ) λg w h=>by rw[h];rfl (azI f Kl) (by simp) (by simp);obtain⟨t8,_,r8,H8,rfl,k8⟩:=H7.walk (n:=8) (O:=[]) (Rd:=[]) (Stop:=λg w=>g=G ((bh 41).at ⟨gM T6 iH,[]⟩ [bF<|cS 10]) cZ) λg w h=>by rw[h];rfl (afp<|air f) (by simp) (by simp);obtain⟨w4,l4,t4',b4⟩:=awj hE VN g13 t3';have j:=(M.trans k7).trans k8;have Q2:∀z,z∈rD->z≠12->z≠13->z<44->(gM T6 iH)[z]?=TR[z]?:=λz l C QY h3=>by rw[IB _ _<|ZO<|ax h3,Iq Q1 l C QY,Iq QX l C QY,Iq s4 l C QY]
  have ayo:∀z,z∈rD->z≠12->z≠13->z<44->(gM (s8 TL (aE Z n c) (Z:Option eT).isNone (if(Z:Option eT).isNone then aE Z 0 0 else aE Z n c) (!(Z:Option eT).isNone) (aG lt)<|aG lf) iH)[z]?=TL[z]?:=λz l C QY h3=>by rw[IB _ _<|ZO<|ax h3,acR l C QY]
  have hRV:∀z,z∈rD->z≠12->z≠13->z<44->RV eJ I w4 ((gM (s8 TL (aE Z n c) (Z:Option eT).isNone (if(Z:Option eT).isNone then aE Z 0 0 else aE Z n c) (!(Z:Option eT).isNone) (aG lt)<|aG lf) iH).getD z ak) ((gM T6 iH).getD z ak):=λz l C QY h3=>by have:=TE z l;rw[l4.heap];rw[iE,iE]at this⊢;rw[Q2 z l C QY h3,ayo z l C QY h3];grind
  have JG:∀z x,TR[z]?=U x->z=8∨z=9∨z=10->(gM T6 iH)[z]?=U x:=λz x h l=>by rw[IB _ _<|ZO<|by omega,Q1 z (by omega) (by omega)<|by omega,QX z (by omega) (by omega)<|by omega,s4 z (by omega) (by omega)<|by omega];exact h
  have Zs:=λb hb=>j.rest b (H5.hold.inv.own 0 b hb).2 (H5.hold.inv.own 0 b hb).1 (by simp);have A:=j.size.trans<|T.trans<|m.size.trans Qk;have aFh:=j.role.trans<|yn.trans m.role;refine aAj eJ w4 _ _ t8 ⟨H8,t4',(((M3.left m.left m.cls).left L5 Cn).left j.left j.cls).re (K:=⟨aF,dQ,y,n0,o,Y⟩) l4,hRV 6 (by decide) (by decide) (by decide)<|by decide,hRV 7 (by decide) (by decide) (by decide)<|by decide,(IA _ _).trans VN,(IA _ _).trans f,ajP.tape l4,(Zs e8 B5.m8).trans B5.c8,(Zs e9 B5.m9).trans B5.c9,by rw[j.D0];exact B5.m8,by rw[j.D0];exact B5.m9,JG 8 _ X.rt.t8<|by simp,JG 9 _ X.rt.t9<|by simp,JG 10 _ X.rt.t10<|by simp,?_,j.md.trans<|Mk.trans<|m.md.trans vM,?_⟩
  ·have pr8:kO t8.role jf jt (wk y c2 c3 p q bf)<|wk y d2 d3 p' q' bt:=by grind
   have Q3:kO t5.role jf jt (wk y c2 c3 p q bf)<|wk y d2 d3 p' q' bt:=by grind
   have a1:∃k,t8.ch p=U ⟨Z,ai,k⟩:=by have C:t8.ch p=t5.ch p:=j.eZ jf _ Q3.one Q3.yu;have QY:t5.ch p=Q0.ch p:=aCU;rw[C,QY,E];exact ak1
   have a2:∃k,t8.ch p'=U ⟨Z,ai,k⟩:=by have C:t8.ch p'=t5.ch p':=j.eZ jt _ Q3.two Q3.nY;have QY:t5.ch p'=Q0.ch p':=aCS;rw[C,QY,E];exact⟨k,Ut⟩
   have a3:(t8.D jf).stage=9->∃k,t8.ch q=U ⟨Z,ai,k⟩:=λh9=>by obtain⟨C,QY⟩:=j.outs jf _ Q3.one Q3.yu h9;have TJ:t8.ch q=t5.ch q:=C;have h3:t5.ch q=Q0.ch q:=aur QY;rw[TJ,h3,E];exact ak0
   have a4:(t8.D jt).stage=9->∃k,t8.ch q'=U ⟨Z,ai,k⟩:=λh9=>absurd (j.outs jt _ Q3.two Q3.nY h9).2 VQ;rcases X.rs.par with⟨e1,e2,e3,e4⟩|⟨e1,e2,e3,e4⟩;·exact⟨jf,jt,_,_,pr8,e1,e3,by rw[A];exact X.rs.lf,by rw[A];exact X.rs.lt,by rw[<-e1];exact a1,by rw[<-e3];exact a2,a3,a4⟩
   ·exact⟨jt,jf,_,_,pr8.swap,e3,e1,by rw[A];exact X.rs.lt,by rw[A];exact X.rs.lf,by rw[<-e3];exact a2,by rw[<-e1];exact a1,a4,a3⟩
  ·exact(((((S3.tape b4 l4).right r4 (.of m.left m.cls) m.size).right r5 (.of L5 Cn) T).right r6 (.of M.left M.cls) M.size).right r7 (.of k7.left k7.cls) k7.size).right r8 (.of k8.left k8.cls) k8.size|some ad=>
  refine apJ (C:=uo y d2 d3 p' q' bt) rfl QW.nY (b3:=d3) aiX ahR TB H2 λQ0 g4 r4 H4 m D4 E ayz aym ayp=>?_;have L9:kO Q0.role jf jt (wk y c2 c3 p q bf)<|wk y d2 d3 p' q' bt:=by rw[m.role];exact WX
  have rs4:Q0.role 0=ID cZ T4 e8 e9 f14 f15 x1 y1 x2 y2 p' q' p q:=by rw[m.role];exact WG
  have aem:bE Q0.role jt (wk y d2 d3 p' q' bt)=Q0.role:=by
   funext QZ;by_cases e:QZ=jt;·subst e;rw[dc];exact L9.two.symm
   grind[upd_ne]
  obtain⟨t5,g5,k5,r5,H5,ZD,yn,Mk,Co,T,L5,Cn⟩:=H4.send (K:=⟨aF,dQ,y,n0,o,Y⟩) (n:=21) (kh:=k) (j:=0) (rj:=ID cZ T4 e8 e9 f14 f15 x1 y1 x2 y2 p' q' p q) (rh:=wk y d2 d3 p' q' bt) (x:=aE (U<|dH eJ ad) n c) (z:=bO #[]) rfl ayz (λw1=>by
    have e:(jt==0)=ai:=by simpa using QW.nY
    rw[e];exact aym w1) (uO QW.nY) rs4 H4.hold.inv.zero (by
    have e:(jt==0)=ai:=by simpa using QW.nY
    rw[e];exact ayp) (by decide) (by rw[E];exact Ut) QW.Cr λQZ r hi hr=>by
    rcases L9.all QZ r hr with rfl|rfl|rfl;·rw[rs4]at hr;cases hr;exactλe=>QW.Cr e.symm
    ·rw[L9.one]at hr;cases hr;exact QW.cc
    grind (by rw[aem];exact H4.hold.ga.cast);rw[aem]at yn;obtain⟨T5,rfl,U4,QX,h76,B5⟩:=ZD;obtain⟨t6,_,r6,H6,⟨T6,rfl,f,Q1,R,Kl⟩,M,D6,c6⟩:=H5.walk (n:=20) (O:=[]) (Rd:=[]) (Stop:=λg w=>∃D:Array az,g=G ((bh 41).at ⟨D,[]⟩<|bF kW::om) cZ∧D.size=87∧xd D T5∧D[12]?=U (aE (U<|dH eJ ad) n c)∧D[13]?=U (bQ Y)) λg w h=>by obtain⟨_,rfl,_⟩:=h;rfl (alp U4 _) (by simp) (by simp);have Q2:∀z,z∈rD->z≠12->z≠13->T6[z]?=TR[z]?:=λz l C QY=>by rw[Iq Q1 l C QY,Iq QX l C QY,Iq s4 l C QY]
  have Dc:=M.role.trans<|yn.trans m.role;have OT:∀z,z≠q'->t6.ch z=N.ch z:=λz l=>by rw[c6,Co];show bE Q0.ch q' _ z=_;rw[cT Q0.ch _ l,E]
  have Ii:=M.size.trans<|T.trans<|m.size.trans Qk;have hA6:lE eJ I w3 rD (s8 TL (aE ad n c) (U ad).isNone (if(U ad).isNone then aE Z 0 0 else aE ad n c) (!(U ad).isNone) (aG lt)<|aG lf) T6:=by
   intro z l;by_cases z12:z=12;·subst z12;rw[getD_some g12,getD_some R];refine⟨?_,by simp[F]⟩;have:=hx.1;rw[l3.heap];exact this
   by_cases Lf:z=13;·subst Lf;rw[getD_some g13,getD_some Kl];exact RV.plain rfl
   have:=TE z l;rw[iE,iE]at this⊢;rw[Q2 z l z12 Lf,acR l z12 Lf];grind
  refine aAl eJ w3 _ T6 t6 ⟨H6,t3',((M3.left m.left m.cls).left L5 Cn).left M.left M.cls,hA6,VN,ajP,g14,g15,H.eD X.Dm VM,H.eD X.FF VM,X.et.trans<|IJ X.Dm KQ,X.ef.trans<|IJ X.FF KQ,X.rt.of f λz l=>by rw[Q1 z (by omega) (by omega)<|by omega,QX z (by omega) (by omega)<|by omega,s4 z (by omega) (by omega)<|by omega],⟨B5.keep λb hb=>M.rest b (H5.hold.inv.own 0 b hb).2 (H5.hold.inv.own 0 b hb).1<|by simp λb hb=>M.own b hb,by rw[Dc];exact WX.swap,by rw[Ii];exact X.rs.lt,by rw[Ii];exact X.rs.lf,λr hr=>by rw[Dc,WG]at hr;cases hr;rfl,by rw[OT p' λe=>QW.Cr e];exact⟨k,Ut⟩,⟨k5,by rw[c6,Co];exact dc _ _ _⟩,by rw[OT p λe=>QW.KH e];exact ak1,by rw[OT q λe=>QW.oo e];exact ak0,M.md.trans<|Mk.trans<|m.md.trans vM,X.rs.par.symm.imp (λ⟨a,b,c,d⟩=>⟨c,d,a,b⟩) λ⟨a,b,c,d⟩=>⟨c,d,a,b⟩⟩,((S3.right r4 (.of m.left m.cls) m.size).right r5 (.of L5 Cn) T).right r6 (.of M.left M.cls) M.size⟩ VH
end
variable{bw e8 e9 x1 y1 x2 y2:Nat}{I:H}{nm:String->Bool}{Done:aX->ay->Prop}{B cZ:List aZ}
theorem Fin.Q7{s0 e s}{c b ρ}{d g}{w0 w1 w}{TL f}(a:Since K fs I Done s0 c d w0 e b g w1)(X:Fin K fs I Done B cZ e b g w1 e8 e9 bw x1 y1 x2 y2 ρ w TL f s):Fin K fs I Done B cZ s0 c d w0 e8 e9 bw x1 y1 x2 y2 ρ w TL f s:=⟨X.Fy,X.term,X.eV,X.six,X.seven,X.sL,X.sR,X.flag,X.c8,X.c9,X.m8,X.m9,X.t8,X.t9,X.t10,X.pair,X.md,a.trans X.since⟩
theorem apM(E:K.P=aF)(l:K.L=dQ)(hl:K.live=Y)(r:K.Wg=bw)(W:E2 fs I nm)(L:mX (J K.P fs) Done)(f:∀g w,Done g w->g.callers=[])(i:B≠[]){Q:Prop}{s0}{h}{x}{w0}(a:∀b o d c t,Fin K fs I Done B cZ s0 h x w0 e8 e9 bw x1 y1 x2 y2 b o d c t->Q):∀(y),_root_.Acc (tU<|qF (J K.P fs) Done) y->∀{j e A Q2}{z D C S}{p q R H T M O N}{ρ}{w}{TL Q3}{s},y=(G ((bh 41).at ⟨TL,[]⟩<|bF od::jU) B,w)->nJ K fs I Done B cZ s0 h x w0 (bF od::jU) (bF kW::om) e8 e9 bw j e x1 y1 x2 y2 A Q2 z D C S p q R H T M O N ρ w TL Q3 s->Q:=by intro y n;induction n with|intro y _ ih=>
  intro j e A Q2 z D C S p q R H T M O N ρ w TL Q3 s Q0 X;refine apb E L (λfr w hd=>i<|f _ _ hd) W.flag X.aDw (λb o d c t k=>?_) λb o d c t k=>?_;.exact a _ _ _ _ _<|k.fin.Q7 X.since
  .refine apd E l hl r W L f i k (λu w2 m v P F=>a _ _ _ _ _<|F.Q7 X.since) λu w2 m v P Q1 tg=>?_;exact ih _ (by rw[Q0];exact lQ.of tg k.since.back) rfl<|Q1.Q7 X.since
end
section
open Go.Conc Go.RowKit Go.Conc.Lib Go.ConcR.Gen
open Go.ConcN (WgLive)
open Go.ConcN.Gen (WgLive.cell0 WgLive.cell1)
open Go.ConcR (KK WgAt stA smA wgBlock rd wr mk Bk)
variable{P:bW}{L:WgLink}{Wg:Nat}{qz:aZ}{qB:Act}{lT:Array dJ}{qn:Nat}{pZ:List Nat}{qf:List eY}{cs:List aZ}
set_option maxHeartbeats 8000000 in
theorem am7(H:WgLib P L)(w:ay)(hF:jK L.tWg Wg w):alN P L Wg (OP L (λ_=>True) Wg (qz.at qB<|aT lT (qn::pZ)::qf) cs) (G ((bh L.wait).at ⟨#[aG<|U ⟨Wg,0,Z⟩,ak,ak,ak,ak,ak,ak,ak,ak,ak,ak,ak,ak,ak,ak,ak,ak,ak,ak,ak,ak,ak,ak,ak,ak,ak,ak,ak,ak,ak,ak,ak,ak,ak,ak,ak,ak,ak,ak,ak,ak,ak,ak,ak,ak,ak,ak,ak,ak,ak,ak,ak,ak,ak,ak,ak,ak,ak,ak,ak,ak,ak,ak,ak,ak,ak,ak,ak,ak,ak,ak,ak,ak,ak,ak,ak,ak,ak,ak,ak,ak,ak,ak,ak],[]⟩ [bF<|body_wait L])<|qz.at qB (aT lT (qn::pZ)::qf)::cs) w:=by lib_facts;refine⟨3,dL ?_⟩;simp only[body_wait,waitFn,fV];u_c D E hF;u_cond Y E hF;u_reg E hF;refine I λw₁ h₁=>?_;replace hF:=E hF h₁;clear h₁;refine⟨rfl,_,stepG_mark0 .disable (by simp) rfl rfl (by k_ne) rfl H.f_disable (x_disable_n L) (x_disable_b L) (x_disable_x L)<|x_disable_f L,3,dL ?_⟩;walk_nrm;u_c N E hF;u_c Ju E hF;u_c stepG_loop E hF;exact I λA h₂=>⟨_,rfl,by simp,by simp,trivial,E hF h₂⟩
end
section
open Go.Proofs Go.Conc Go.RowKit Go.Conc.Lib Go.ConcR.Gen
open Go.ConcN (upd upd_ne upd_same WgLive)
open Go.ConcR (KK WgAt stA smA wgBlock rd wr mk Bk)
def Hi(Wg:Nat):Prop:=∀(qz:aZ)(qB:Act)(lT:Array dJ)(qn:Nat)(pZ:List Nat)(qf:List eY)(cs:List aZ)(g:aX)(w:ay),OP dQ (λ_=>True) Wg (qz.at qB<|aT lT (qn::pZ)::qf) cs g w->∃m,GQ aF dQ Wg (U0 aF dQ Wg (OP dQ (λ_=>True) Wg (qz.at qB<|aT lT (qn::pZ)::qf) cs) (G (qz.at (qB.put (lT[qn]?.bind (·.dst))<|bO #[])<|aT lT pZ::qf) cs)) m g w
noncomputable def Bi:Array dJ:=eU<|cS 10
noncomputable def Dl:Array dJ:=eU<|cS 11
noncomputable def zU:Array dJ:=eU<|cS 12
theorem Ur{P}{main}{b:aZ}{T}{ds}{k}{cs}{ops}{i}{rest}{o}{t}{a}{c n}(q:ops[i]?=U o)(l:eX o (eu ops T)=Y)(s:b.kind≠.early)(d:o.op=.call {callee:=.builtin .close,args:=#[cx t],argTypes:=a})(j:T[t]?=U (de<|U c))(m:P.funcs[b.fn]?.any (·.norace)=ai){w}(h:w.heap[c]?=U (.chan 1 #[] ai n n ai)):cj P main (G (b.at ⟨T,ds⟩<|aT ops (i::rest)::k) cs) w=bU (G (b.at (cA ⟨T,ds⟩ o.dst<|bO #[])<|aT ops rest::k) cs) (w.setChan c 1 #[] Y n n ai) (kM c):=by
 have r:(aa3 a o.type #[de c]).run P w=aY (bO #[]) (w.setChan c 1 #[] Y n n ai):=run_close_open a o.type h;have g:(aa3 a o.type #[de c]).events P w #[]=kM c:=by rw[events_close_open a o.type h];simp[kM]
 have v:seen P b.fn (kM c)=kM c:=seen_eq m λe g f=>by simp only[kM,fP,dj,dP,dY]at g;grind
 have p:(cX (er ⟨T,ds⟩) o).run P w=aY (gp<|bO #[]) (w.setChan c 1 #[] Y n n ai):=by unfold cX;simp[d,go_sem,j,r]
 have u:(cX (er ⟨T,ds⟩) o).events P w #[]=kM c:=by unfold cX;simp[d,go_sem,j,g]
 rw[rR q l s p];unfold listed;grind
section
variable {K:fG} {C:List aZ} {T:Array az} {w:ay}
set_option maxHeartbeats 1000000 in
theorem apn{e8}{x1 S}(M:T.size=87)(c:T[8]?=U (.pointer e8))(a:w.heap[e8]?=(ends (U x1)<|U S)):cK aF Y (L<|[]++[e8]) (DH [] [e8]) (λg w=>g=G ((bh 41).at ⟨(T.setIfInBounds 80<|.pointer e8).setIfInBounds 81<|.chan x1,[]⟩<|.inRegion Bi [2]::[.code<|cS 11]) C) 8 (G ((bh 41).at ⟨T,[]⟩ [.code<|cS 10]) C) w:=by
 obtain⟨v0,v1,v2,v3,v4,v5,v6,v7,v8,v9,v10,A,v12,lR,oL,J,oK,oJ,W,mq,v20,Q1,N,pW,n,o,t,F,v28,Q3,z,v31,uq,Q0,q,pV,m,v37,pU,pS,v40,pR,pQ,pP,P,nU,R,pO,pM,v49,s,v51,k,j,Z,pL,nT,y,Q2,v59,nS,pK,pJ,l,nQ,u,nP,d,r,v,X,f,v72,V,p,H,v76,xp,Q,O,i,B,QW,nO,E,v85,h,rfl⟩:=pD T M;simp only[oW,qR,oV,ew]at c;subst c;simp only[Bi,cS,eN,eU,oB,fV];refine kG (n:=3) ?_;u_c D tf a;u_reg tf a;u_op tf a;refine I λ_ b=>?_;replace a:=tf a b;u_in tf a;refine gh rfl rfl (by k_ne) λK x=>?_;have sk:=gB (o:=0) a rfl;go_simp;refine x _ _ ⟨⟨rfl,rfl,rfl,rfl,λ_ _=>rfl,λe he=>?_⟩,?_⟩;.have hm:=lH he;simp[go_sem, *]at hm;grind
 exact I λw1 h1=>rfl
set_option maxHeartbeats 1000000 in
theorem apm{e8}{x1 S}(M:T.size=87)(c:T[9]?=U (.pointer e8))(a:w.heap[e8]?=(ends (U x1)<|U S)):cK aF Y (L<|[]++[e8]) (DH [] [e8]) (λg w=>g=G ((bh 41).at ⟨(T.setIfInBounds 82<|.pointer e8).setIfInBounds 83<|.chan x1,[]⟩<|.inRegion Dl [2]::[.code<|cS 12]) C) 8 (G ((bh 41).at ⟨T,[]⟩<|.inRegion Bi []::[.code<|cS 11]) C) w:=by
 obtain⟨v0,v1,v2,v3,v4,v5,v6,v7,v8,v9,v10,A,v12,lR,oL,J,oK,oJ,W,mq,v20,Q1,Q2,pW,n,o,t,F,v28,QW,z,v31,uq,Q0,q,pV,m,v37,pU,pS,v40,pR,pQ,pP,P,nU,R,pO,pM,v49,s,v51,k,j,Z,pL,nT,y,Q3,v59,nS,pK,pJ,l,nQ,u,nP,d,r,v,X,f,v72,V,p,H,v76,xp,Q,O,i,B,QX,nO,E,v85,h,rfl⟩:=pD T M;simp only[oW,qR,oV,ew]at c;subst c;simp only[Bi,Dl,cS,eN,eU,oB,fV];refine kG (n:=4) ?_;u_c N tf a;u_c D tf a;u_reg tf a;u_op tf a;refine I λ_ b=>?_;replace a:=tf a b;u_in tf a;refine gh rfl rfl (by k_ne) λK x=>?_;have sk:=gB (o:=0) a rfl;go_simp;refine x _ _ ⟨⟨rfl,rfl,rfl,rfl,λ_ _=>rfl,λe he=>?_⟩,?_⟩;.have hm:=lH he;simp[go_sem, *]at hm;grind
 exact I λw1 h1=>rfl
set_option maxHeartbeats 1000000 in
theorem apl{c}(f:T[10]?=U (.pointer c)):cK aF Y (L<|[]++[]) (DH [] []) (λg w=>g=G ((bh dQ.wait).at ⟨#[.pointer<|U ⟨c,0,Z⟩,ak,ak,ak,ak,ak,ak,ak,ak,ak,ak,ak,ak,ak,ak,ak,ak,ak,ak,ak,ak,ak,ak,ak,ak,ak,ak,ak,ak,ak,ak,ak,ak,ak,ak,ak,ak,ak,ak,ak,ak,ak,ak,ak,ak,ak,ak,ak,ak,ak,ak,ak,ak,ak,ak,ak,ak,ak,ak,ak,ak,ak,ak,ak,ak,ak,ak,ak,ak,ak,ak,ak,ak,ak,ak,ak,ak,ak,ak,ak,ak,ak,ak,ak],[]⟩ [.code<|body_wait dQ]) ((bh 41).at ⟨T,[]⟩ (.inRegion zU [0]::[.code<|cS 13])::C)) 8 (G ((bh 41).at ⟨T,[]⟩<|.inRegion Dl []::[.code<|cS 12]) C) w:=by
 have b:=trivial;have e:cS 12=.seq (.region 18 zU ai) (cS 13):=by kernel_rfl
 refine kG (n:=1) ?_;u_c N A b;refine I λ_ a=>?_;replace b:=A b a;rw[e];refine kG (n:=2) ?_;u_c D A b;u_in A b;rw[tH,show zU.size=1 by kernel_rfl];simp only[eP];refine⟨by u_nil,?_⟩;refine I λ_ a=>?_;replace b:=A b a;u_in A b;have l:er ⟨T,[]⟩ (.tmp 10)=.pointer c:=getD_some f;obtain⟨o,j,i,d⟩:∃o,zU[0]?=U o/\o.guard=Z/\o.op=.call {callee:=.value<|.func dQ.wait,args:=#[.tmp 10],argTypes:=#[125]}:=by
  have h:(zU[0]?.map λo=>(o.guard,o.op))=U (Z,.call {callee:=.value<|.func dQ.wait,args:=#[.tmp 10],argTypes:=#[125]}):=by kernel_rfl
  grind
 refine goes_call j (by unfold eX;rw[i]) (by k_ne) d Fg.f_wait (nm_wait dQ) rfl ⟨dh_none<|by simp,?_⟩;have k:(#[cx 10]:Array iT).map (er ⟨T,[]⟩)=#[.pointer c]:=by simp[l]
 rw[k];walk_nrmf waitFn;exact I λm _=>rfl
end
end
end Go.Proofs.YtpdbmpbmepkikaaGreatDoor
