/- Laws. -/
import GoSem.Core.Made
import Derived.Conc.Holds
import Derived.Test.YtpdbmpbmepkikaaGreatDoorL04
set_option maxRecDepth 100000
set_option maxHeartbeats 400000
set_option linter.all false
open Go.Proofs.Tryz
open Bool renaming true->Z,false->ai
open Go renaming Goroutine->aX,Frame->aZ,undef->ak,World->ax,Value->az,Program->bZ,Calls->bz,Oper->dG,TypeId->dV,Func->dY,Item->eY,FuncId->fC,runNT->ic,Operand->ja
open Go.Act renaming eval->dW
open Go.CallKind renaming normal->eo
open Go.Conc renaming base->bh,crowd->dw
open Go.ConcN renaming WgLive->jN
open Go.ConcN.Gen renaming AnchWN->PL
open Go.ConcR renaming mk->jK
open Go.Ending renaming returned->bj
open Go.Extern renaming findNext->abX
open Go.Extern.Race renaming none_->aEZ
open Go.Frame renaming enter->eP,finish->uB
open Go.IntKind renaming i64->aG,u64->cP
open Go.Item renaming inRegion->aT,code->bF
open Go.Made renaming reckonStruct->amu
open Go.Mark renaming acquire->rC
open Go.MemOp renaming ofEvents->iQ
open Go.Obj renaming cells->aH
open Go.Proofs.Tryz renaming prog->aD,f41->oG
open Go.Stepped renaming next->fR
open Go.Trace renaming act?->Fx
open Go.Value renaming int->Y,pointer->aF,agg->bO,tuple->bQ
open List renaming range->mR
open Option renaming some->U,none->V
open Or renaming inr->aB,inl->ay
open Pure renaming pure->bI
open Relation renaming TransGen->uz
namespace Go.Proofs.YtpdbmpbmepkikaaGreatDoor
def AG:=@Option.bind_eq_some_iff
def aiw:=@Nat.lt_of_le_of_lt
def aiv:=@Nat.ge_two_pow_of_testBit
def Ku:=@List.mem_range
def Zq:=@Array.all_eq_true'
def NI:=@beq_iff_eq
def Zp:=@Bool.not_eq_true'
def Tc:=@Go.Conc.stepG_mark0
def Kt:=@Go.Conc.stepG_markAt
def NH:=@Go.Conc.stepG_load_atomic
section
open Go.Proofs Go.Conc Go.RowKit Go.Conc.Lib Go.ConcR.Gen
open Go.ConcN (upd upd_ne upd_same WgLive sumTo sumTo_congr)
open Go.ConcR (KK WgAt stA smA wgBlock rd wr mk Bk)
def P9:Nat->dn:=λi=>if i=0 then⟨9,0,[],0⟩else⟨1,0,[],0⟩
theorem aGK(n):V2 n P9=0:=by
 unfold V2;rw[Av (g:=λ_=>0) λi _=>?_];.exact Gc _
 .unfold gu P9;grind
theorem Ok.start(P)(L)(s)(v)(a)(sl):Ok ⟨P,L,0,0,λ_=>False,ai⟩ 0 ⟨λ_=>V,.opn 0,λ_=>V,s,P9,#[],#[a],v,sl⟩ a:=by
 have d:∀{l:Type}{r:l},(V:Option l)=r->False:=by grind
 refine⟨⟨⟨λi g y z=>?_,λi e=>?_,λ_ _=>rfl,⟨λk o=>?_,λi x b h=>?_,λt w=>?_⟩,λi b A=>?_,λc f h=>(d h).elim,λi r h=>(d h).elim,λi r h=>(d h).elim,λi j r q h=>(d h).elim,λh=>(by cases h),λh=>(by cases h),λi r h=>(d h).elim,λi h=>?_,λu t h=>?_,Nat.one_pos,λi r h=>(d h).elim⟩,⟨λi r h=>(d h).elim,λi r f h=>(d h).elim,λi j r q h=>(d h).elim,λi r h=>(d h).elim,λn=>?_⟩,λj r f h=>(d h).elim,λp h=>?_⟩,rfl,λj r h=>(d h).elim,rfl,rfl,⟨0,rfl⟩,λ_=>rfl⟩;.grind
 .simp at e;subst e;rfl
 .obtain⟨i,j,h⟩:=o;obtain⟨_,⟨a,b,m,_⟩,_⟩:=h;simp[Fx]at m
 .simp[touchAt,Fx]at h
 .grind
 .grind[P9]
 .simp[Fx]at h
 all_goals grind[aGK]
theorem aoT{P}{v x}(h:r ((wall P).finish x) []=r ((wall P).finish v) []):x=v:=by have:=congrArg (λg=>g.frame.todo) h;simpa[r,wall,uB]using this
structure Twin(fs:Array dY)(I I2:H)(nm:String->Bool):Prop where
 pair:FQ fs I nm
 axe:∀f,I.T f=Z->aD.inits.idxOf? f=V
 YP:nU I2 (J aD fs) fs nm
 auR:Same I2 (J aD fs) fs nm (λ_=>False)aEW:∀f n,I2.cut f n=ai
 aGo:I2.arg=V/\∀f,I2.DF f=ai
section
variable {fs:Array dY} {I I2:H} {nm:String->Bool}
set_option maxHeartbeats 4000000 in
theorem aE7(CN:∀Wg,Dw Wg)(xe:∀Wg,FL Wg)(W:Twin fs I I2 nm){R:az->ax->Prop}{Post:az->ax->Prop}{w0:ax}{s0:St}(aAW:∀v v' w1 v1 ρ cl,R v w1->RV ρ I w1.heap.size v v'->fM ρ I aD cl w1 v1->w0.heap.size<=w1.heap.size->(∀z,z<w0.heap.size->ρ z=z)->v1.output=s0.v.output->(∀b,b<s0.v.heap.size->s0.cl b=.old->v1.heap[b]?=s0.v.heap[b]?)->Post v' v1):∀(y:aX×ax),_root_.Acc (uz<|qN (J aD fs)<|Br (J aD fs) R) y->∀{K:fK}{s:St}{ρ:Nat->Nat}{w:ax}{fr fr':aZ}{cs cs':List aZ},y=(r fr<|cs++[wall<|J aD fs],w)->K.P=aD->K.L=dL->K.live=ai->s0.runs aD s->Ok K 0 s (r fr'<|cs'++[])->s.md=.opn 0->(∀i,s.role i=V)->Over K.n0 s.T->Term (J aD fs) (Br (J aD fs) R) (r fr<|cs++[wall<|J aD fs]) w->jP ρ I aD nm w.heap.size fr fr'->ig ρ I aD nm w.heap.size cs cs'->fM ρ I aD s.cl w s.v->gw 0 w->w0.heap.size<=w.heap.size->(∀z,z<w0.heap.size->ρ z=z)->Still s0.cl s0.v s.cl s.v->∃t o p t' ops,s0.runs aD t/\stepT aD (dw t.gs t.v t.sl)=(.ended o p,ops)/\t'=t.T++ops/\Go.Conc.Good aD Post (dw t.gs t.v t.sl) o p t':=by intro y acc;induction acc with|intro y _ ih=>
  intro K s ρ w fr fr' cs cs' hy hP sO hl m H nI oY hov tr CC iv M C X sx k;obtain⟨P,L,Wg,n0,j,live⟩:=K;simp only at hP sO hl hov;subst hP sO hl;have O:∀g w,Br (J aD fs) R g w->g.callers=[]:=λg w h=>by obtain⟨v,rfl,_⟩:=h;rfl
  have hE:=aEn (J aD fs) R;have TG:∀fr cs w,¬Br (J aD fs) R (r fr<|cs++wall (J aD fs)::[]) w:=λfr cs w h=>by have:=O _ _ h;simp[r]at this
  obtain⟨t,q,p,g1,a1,a2,a3,t1,b1,r1,d1,Hs⟩:=Ok.tree (K:=⟨aD,dL,Wg,n0,j,ai⟩) W.pair.lay W.pair.same (b:=wall<|J aD fs) (bs:=[]) (B':=[]) (aB ⟨rfl,rfl,W.axe⟩) TG tr H CC iv M;have Q3:=Lf C W.pair.flag a3;have ovt:Over n0 t.T:=by obtain⟨u,hu⟩:=DW r1;rw[hu];exact hov.app u
  have E:∀z,z<w0.heap.size->q z=z:=by grind
  have d:∀i,t.role i=V:=λi=>by rw[d1.role];exact oY i
  rcases Hs with⟨Fg,N,M1,Ig⟩|⟨_,N,x,x',v1,ie,es,fn,Q2,rfl,A,fL,M1,hos,ho,hz,jJ,hfE,vJ⟩;.cases Ig with|back hB A=>cases hB|@cut f' Q0 aGm Uz Uy UZ T A ha aBQ aab=>
    have aBc:∀fr w,¬Br (J aD fs) R (G fr<|Uz::UZ++wall (J aD fs)::[]) w:=λfr w hd=>by have:=O _ _ hd;simp[G]at this
    rcases A with A|A;.grind
    rcases W.pair.Pq _ _ A with⟨rfl,hn⟩|⟨fn,VP,e1,e2⟩
    .obtain⟨x0,x1,x2,rfl⟩:∃x0 x1 x2,Q0=#[x0,x1,x2]:=by obtain⟨l⟩:=Q0;match l,hn with|[x0,x1,x2],_=>exact⟨x0,x1,x2,rfl⟩
     obtain⟨S,rfl⟩:=ha;obtain⟨H1',KZ⟩:=N.trim rfl d;have H2:Ok ⟨aD,dL,Wg,n0,j,ai⟩ 0 {t with D:=uV t.gs.size t.D}<|r (eP aD 41 #[F q x0,F q x1,F q x2] eo)<|Uy::(T++[]):=by have:=H1';simpa using this
     obtain⟨K',u,VE,w2,v,v',⟨k1,k2,k3⟩,r2,H3,⟨m1,m2,m3,m4⟩,M3,hv,fl3,t3,Ww,Q,a,aKl,aww⟩:=auz (K:=⟨aD,dL,Wg,n0,j,ai⟩) (cL:=Uz) (B:=UZ++[wall<|J aD fs]) (cR:=Uy) (cY:=T++[]) rfl rfl rfl CN xe W.pair hE O (x0:=x0) (x1:=x1) (x2:=x2) ⟨S _<|by simp,S _<|by simp,S _<|by simp⟩ H2 t1 M1 Q3 (d1.md.trans nI) d (λn=>xZ<|KZ n) ovt;refine ih _ (by rw[hy];exact Ww.trans b1) (K:=K') (s:=u) (ρ:=VE) (w:=w2) (fr:=Uz.finish v) (fr':=Uy.finish v') (cs:=UZ) (cs':=T) rfl k1 k2 k3 (m.trans<|r1.trans r2) H3 m1 m2 m4 t3 (((aBQ.re Q).mono a).finish hv) ((aab.re Q).mono a) M3 fl3 (bC X<|bC a2 a) (λz hz=>?_) ?_;.rw[<-Q z<|cB hz<|bC X a2];exact E z hz
     .exact(k.trans d1.still).trans aww
    .have t1':Term (J aD fs) (Br (J aD fs) R) (G (eP (J aD fs) f' Q0 eo)<|Uz::UZ++wall (J aD fs)::[]) p:=t1;rw[EB (P:=J aD fs) (fn:=fn) (c:=.refuse VP) _ e1 e2]at t1';exact(t1'.Gr hE (λτ g' p es=>af1 g' p es)<|aBc _ _).elim
  .have hR:R x p:=by cases t1 with|done hd=>obtain⟨v,e,h⟩:=hd;rw[aoT e];exact h|step f hf ht=>exfalso;obtain⟨⟨es1,e⟩,_⟩:=hf p.tape;obtain⟨o,w2,es2,e2⟩:=Mr (P:=J aD fs) x<|World.re p p.tape 0;rw[e2]at e;cases e
   refine⟨t,.done x',v1,_,_,m.trans r1,fL,rfl,x',rfl,aAW _ _ _ _ _ _ hR A M1 (bC X a2) E (ho.trans (k.trans d1.still).out) λb hb hc=>by have h3:=k.trans d1.still;obtain⟨e1,e2⟩:=h3.old b hb hc;exact(hfE b (cB hb h3.size)<|by rw[e2];simp).trans e1,?_,?_,?_,?_⟩;.have hT:Tr ie (.hold 0) j v1 t.T:=(N.inv.tr.fresh jJ).mono hz;have:=hT.app (u:=iQ 0 fn Q2 es) (g:=0) λop c=>by obtain⟨e,_,rfl⟩:=No c;rfl (λop c x A=>by obtain⟨e,he,rfl⟩:=No c;exact(vJ e he).1 x A) (λop c=>by obtain⟨e,he,rfl⟩:=No c;exact(vJ e he).2.1);exact this.clean
   .obtain⟨T0,h1,h2,u,hu⟩:=ovt;refine agD h1 ⟨u++iQ 0 fn Q2 es,by grind⟩ λidx op c Cz ht=>?_;by_cases Q1:idx<t.T.size;.rw[Array.getElem?_append_left Q1]at c;rcases N.inv.rD idx op c (by grind) ht with h|h;all_goals grind
    .rw[Array.getElem?_append_right<|by omega]at c;obtain⟨e,_,rfl⟩:=No<|Zt.2 ⟨_,c⟩;rfl
   .refine⟨λg hg=>?_,rfl⟩;obtain⟨i,hi⟩:=List.mem_iff_getElem?.1 hg;rw[List.getElem?_drop]at hi;have TT:t.gs[1+i]?=g:=by rw[<-Array.getElem?_toList];exact hi
    have:=N.inv.gV (1+i) g (by omega) TT;rw[d]at this;exact⟨_,this.2.2.1.leaves⟩
   .intro i g hg hi;have h1:=N.inv.gV i g hi hg;rw[d]at h1;have Q1:i<t.gs.size:=(dm.1 hg).1;have hd:=N.inv.deaf i Q1;have:Deaf (t.T++iQ 0 fn Q2 es) i=(t.D i).deaf:=by rw[<-hd];exact Deaf_other t.T (x6 hi) _ λop c=>by grind[Go.Conc.mem_ofEvents]
    refine⟨(t.D i).fuel,?_⟩;show g.endsWith aD t.v _ (Deaf (t.T++iQ 0 fn Q2 es) i)=U 0;rw[this];exact h1.2.2.1.hears t.v
def Fh(v:ax):ax:={v with heap:=v.heap.setIfInBounds 4<|aH #[Y aG 0] 3}
theorem aDr(v):(Fh v).heap.size=v:=by simp[Fh]
theorem alr(v){b}(h:b≠4):(Fh v).heap[b]?=v.heap[b]?:=nB λe=>h e.symm
theorem als(v)(h:4<v.heap.size):gw 0<|Fh v:=kg h
def iW(A:Option Dv)(v:ax):ax:=match A with|none=>Fh v|some A=>{Fh v with heap:=(Fh v).heap.setIfInBounds A.g<|aH A.c A.e A.f}
theorem YM(A)(v):(iW A v).heap.size=v:=by cases A<;>simp[iW,Fh]
theorem SH{A}{v}{b}(a:b≠4)(h:∀B,A=U B->b≠B.g):(iW A v).heap[b]?=v.heap[b]?:=by cases A with|none=>exact alr v a|some B=>exact(nB λe=>h B rfl e.symm).trans<|alr v a
theorem SI{A}{v}(h:4<v.heap.size)(a:∀B,A=U B->B.g≠4):gw 0<|iW A v:=by cases A with|none=>exact als v h|some B=>exact(nB λe=>a B rfl e).trans<|als v h
theorem ahP{A}{v}(h:A.g<v.heap.size):(iW (U A) v).heap[A.g]?=U (aH A.c A.e A.f):=kg<|by grind[aDr]
theorem YN(A)(v):(iW A v).os=v.os/\(iW A v).output=v.output:=by cases A<;>exact⟨rfl,rfl⟩
set_option maxHeartbeats 1000000 in
theorem ak3(CN:∀Wg,Dw Wg)(xe:∀Wg,FL Wg)(W:Twin fs I I2 nm){R:az->ax->Prop}(hR:∀v w τ d,R v w->R v (World.re w τ d)){Post}{f}{fn}{c}{args args'}{v0}(qz:aD.funcs[f]?=U fn)(KS:fs[f]?=U fn)(j:fn.body=U c)(AY:I.DF f=Z)(CJ:I2.T f=Z)(aJY:tn id I v0.heap.size (I.D f) args args')(y:∀v∈args,S I2 v0.heap.size v=Z)(l:∀A,I.arg=U A->I.F A.g=ai/\v0.heap[A.g]?=U (aH A.c' A.e' A.f')/\∀x∈A.c,n x=Z)(Q:∀b o,v0.heap[b]?=U o->I.F b=Z->er I v0.heap.size o=Z)(B:∀b o,v0.heap[b]?=U o->b≠4->(∀A,I.arg=U A->b≠A.g)->I2.F b=Z->er I2 v0.heap.size o=Z)(u:∀b,v0.heap.size<=b->I.F b=Z/\I2.F b=Z)(hG:aD.globals.size<v0.heap.size)(h4:4<v0.heap.size)(q:∀τ:qL,bz (J aD fs) f args (World.re (iW I.arg v0) τ 0) λe H=>∃v,e=bj v/\R v H)(E:∀v Y O L T cl,R v O->RV T I O v Y->fM T I aD cl O L->v0.heap.size<=O->(∀z,z<v0.heap.size->T z=z)->L.output=v0.output->(∀b,b<v0.heap.size->I.F b=ai->L.heap[b]?=v0.heap[b]?)->Post Y L):∃N s o H F,ic aD (N+1) (solo (G (eP aD f args' eo) []) v0) #[]=(.ended o H,F)/\runN aD N (solo (G (eP aD f args' eo) []) v0)=fR s/\step aD s=.ended o H/\Go.Conc.Good aD Post s o H F:=by
 have Q3:=YM I.arg v0;have Q1:=W.pair.IP;have Up:∀b,I.F b=Z->∀A,I.arg=U A->b≠A.g:=λb p A m e=>by rw[e,(l A m).1]at p;cases p
 have lH:∀A,I.arg=U A->A.g<v0:=by grind
 have P:∀A,I.arg=U A->(iW I.arg v0).heap[A.g]?=U (aH A.c A.e A.f):=λA m=>by rw[m];exact ahP<|lH A m
 have Q0:∀b o,(iW I.arg v0).heap[b]?=U o->I.F b=Z->er I (iW I.arg v0) o=Z/\v0.heap[b]?=o:=λb o j p=>by
  have jH:b≠4:=λe=>by rw[e,W.pair.flag]at p;cases p
  rw[SH jH<|Up b p]at j;rw[Q3];exact⟨Q b o j p,j⟩
 have Q2:Whole I2<|iW I.arg v0:=⟨λb o j p=>by
  rw[Q3];by_cases e:b=4;.subst e;rw[show(iW I.arg v0).heap[4]?=_ from SI h4 Q1]at j;cases j;simp[er,S]
  .by_cases eA:∃A,I.arg=U A/\b=A.g;.obtain⟨A,m,rfl⟩:=eA;rw[P A m]at j;cases j;simp only[er,lE];exactλx hx=>(qT (ρ:=id)<|(l A m).2.2 x hx).1
   .have D:∀A,I.arg=U A->b≠A.g:=λA m e=>eA ⟨A,m,e⟩;rw[SH e D]at j;exact B b o j e D p,λb j=>(u b<|by rw[<-Q3];exact j).2⟩;have tr:=arw (P:=J aD fs) (R:=R) W.YP W.auR W.aEW W.aGo hR (w:=iW I.arg v0) (f:=f) Q2 (by rw[Q3];exact hG) CJ ⟨fn,c,KS,j⟩ (λv hv=>by rw[Q3];exact y v hv) q;let K:Nat->fe:=λb=>if I.F b=Z\/∃A,I.arg=U A/\b=A.g then .eV else .old;have M:fM id I aD K (iW I.arg v0) v0:=⟨(YN I.arg v0).1.symm,abD _,λb j=>by rw[Q3]at j;exact j,λb o j p=>by obtain⟨h1,h2⟩:=Q0 b o j p;exact⟨h1,by rw[MV];exact h2⟩,λb j=>(u b<|by rw[<-Q3];exact j).1,by grind,λb j p=>by grind,λA m=>⟨⟨(l A m).1,rfl,P A m,(l A m).2.1⟩,by grind⟩⟩;let s0:St:=⟨λ_=>V,.opn 0,λ_=>V,K,P9,#[],#[r (eP aD f args' eo) []],v0,V⟩;have CC:jP id I aD nm (iW I.arg v0) (eP (J aD fs) f args eo)<|eP aD f args' eo:=aB (fU.A1 W.pair.same AY<|by grind);obtain⟨t,o,H,F,ops,r1,X,rfl,C⟩:=aE7 (s0:=s0) (w0:=iW I.arg v0) CN xe W (Post:=Post) (λv Y O L T cl a b c d e g k=>E v Y O L T cl a b c (by grind) λz hz=>e z<|by grind g λb j p=>by
   by_cases eA:∃A,I.arg=U A/\b=A.g;.obtain⟨A,m,rfl⟩:=eA;rw[(c.arg A m).1.2.2.2,(l A m).2.1]
   grind) _ tr.acc.transGen (K:=⟨aD,dL,0,0,λ_=>False,ai⟩) (fr:=eP (J aD fs) f args eo) (cs:=[]) (cs':=[]) rfl rfl rfl rfl (.refl s0) (Ok.start aD dL K v0 _ V) rfl (λ_=>rfl) ⟨#[],λi g h=>by simp[Trace.g?]at h,rfl,#[],rfl⟩ tr CC .nil M (SI h4 Q1) (aQ _) (λz _=>rfl)<|.refl _ _;obtain⟨N,hN⟩:=r1;have hN':ic aD N (solo (G (eP aD f args' eo) []) v0) #[]=(fR<|dw t.gs t.v t.sl,t.T):=hN;refine⟨N,dw t.gs t.v t.sl,o,H,t.T++ops,?_,?_,?_,C⟩;.rw[runNT_add,hN'];simp only[ic,X]
 .grind[runNT_fst]
 .unfold step;rw[X]
end
end
section
open Go
theorem ald{t s:Type}{f:t->s->Option (ForInStep s)}{P:s->Prop}:∀{l:List t}{b r:s},P b->(∀a b j,P b->f a b=U j->P j.value)->forIn l b f=U r->P r|[],b,r,d,_,h=>by grind|a::l,b,r,d,g,h=>by rw[List.forIn_cons]at h;cases e:f a b with|none=>grind|some j=>rw[e]at h;have:=g a b j d e;cases j with|done i=>simp at h;exact h▸this|yield i=>exact ald this g h
theorem agi{cs}:n (bO cs)=Z↔∀v∈cs,n v=Z:=by
 have c:∀l:List az,Ed l=Z↔∀v∈l,n v=Z:=by intro l;induction l with|nil=>simp[Ed]|cons a l b=>grind[Ed]
 obtain⟨l⟩:=cs;grind[n,JP]
theorem RZ{z e}{i}{m}[Decidable m](j:∀d,z=U d->∀v∈d,n v=Z)(l:∀v,i=U v->n v=Z)(h:e=if m then V else z.bind λa=>i.bind λc=>U<|a++c.cells):∀d,e=U d->∀v∈d,n v=Z:=by
 intro d b v k;rw[h]at b;split at b;.cases b
 .cases g:z with|none=>grind|some a=>cases f:i with|none=>grind|some c=>grind[Option.some.injEq,MY]
theorem avB{d}(o:∀t j v,d t=U j->j.zero=U v->n v=Z){fs}{i}(h:amu d fs=U i){v}(r:i.zero=U v):n v=Z:=by
 unfold amu at h;simp only[<-Nr,bind,AG,bI]at h;obtain⟨m,p,w⟩:=h;have q:∀g,m.2.2.2.2.2.2.2.1=U g->∀v∈g,n v=Z:=by
  refine ald (P:=λm=>∀g,m.2.2.2.2.2.2.2.1=U g->∀v∈g,n v=Z) ?_ ?_ p;.grind
  .intro a b s l c;cases f:d a.type with|none=>grind|some j=>
    rw[f]at c;simp only[y9]at c;have k:=o a.type j;by_cases A:j.str.isEmpty=Z;.grind
    rw[if_neg A]at c;by_cases b2:a.embedded=Z;.grind
    rw[if_neg b2]at c;by_cases b3:a.tag.isEmpty=Z
    .rw[cJ b3]at c;try simp only[y9]at c
     by_cases E:j.bytes=0;.rw[cJ E]at c;have e:=tQ c;subst e;exact RZ l (λv h=>k v f h) rfl
     .rw[if_neg E]at c;have e:=tQ c;subst e;exact RZ l (λv h=>k v f h) rfl
    .rw[if_neg b3]at c;cases Q0:Option.map (λx=> " "++x) (Made.quote a.tag)with|none=>grind|some u=>
      rw[Q0]at c;try simp only[y9]at c
      by_cases E:j.bytes=0;.rw[cJ E]at c;have e:=tQ c;subst e;exact RZ l (λv h=>k v f h) rfl
      .rw[if_neg E]at c;have e:=tQ c;subst e;exact RZ l (λv h=>k v f h) rfl
 grind[Option.some.injEq,Option.map_eq_some_iff,agi]
theorem avA{l}(o:∀t j v,l t=U j->j.zero=U v->n v=Z){d}{i}(h:Made.reckon l d=U i):(∀v,i.zero=U v->n v=Z)/\i.methods=#[]/\(∀k,i.desc≠.float k)/\(∀k,i.desc≠.complex k)/\∀a u,i.desc≠.named a u:=by
 have f:∀(d:TypeDesc)(s:String)(z:az)(c:Bool)(b:Nat),n z=Z->(∀k,d≠.float k)->(∀k,d≠.complex k)->(∀a u,d≠.named a u)->U (Made.word d s z c b)=i->(∀v,i.zero=U v->n v=Z)/\i.methods=#[]/\(∀k,i.desc≠.float k)/\(∀k,i.desc≠.complex k)/\∀a u,i.desc≠.named a u:=λd s z c b A p w r e=>by have e:=tQ e;subst e;exact⟨λv g=>by have:=tQ g;grind,rfl,p,w,r⟩
 unfold Made.reckon at h;cases d with|struct y=>refine⟨λv g=>avB o h g,?_⟩;simp only at h;unfold amu at h;grind[Option.bind_eq_some_iff,Option.some.inj]|pointer e=>
  simp only[bind,AG,bI]at h;obtain⟨j,_,h⟩:=h;split at h;.cases h
  .split at h;.cases h
   .simp only[AG]at h;obtain⟨s,_,h⟩:=h;exact f _ _ _ _ _ (by rfl) (by grind) (by grind) (by grind) h
  .simp only[AG]at h;obtain⟨s,_,h⟩:=h;exact f _ _ _ _ _ (by rfl) (by grind) (by grind) (by grind) h|slice e=>simp only[bind,AG,bI]at h;obtain⟨j,_,s,_,h⟩:=h;exact f _ _ _ _ _ (by rfl) (by grind) (by grind) (by grind) h|map k e=>simp only[bind,AG,bI]at h;obtain⟨j,_,s,_,E,_,D,_,h⟩:=h;exact f _ _ _ _ _ (by rfl) (by grind) (by grind) (by grind) h|chan q e=>simp only[bind,AG,bI]at h;obtain⟨G,m,a,x,h⟩:=h;exact f _ _ _ _ _ (by rfl) (by grind) (by grind) (by grind) h|func C F v=>simp only[bind,AG,bI]at h;obtain⟨j,_,h⟩:=h;exact f _ _ _ _ _ (by rfl) (by grind) (by grind) (by grind) h|array b e=>
  simp only[bind,AG,bI]at h;obtain⟨j,B,s,_,h⟩:=h;have e:=tQ h;subst e;refine⟨λv g=>?_,rfl,nofun,nofun,nofun⟩;simp only at g;split at g;.cases g
  .split at g;.have:=tQ g;subst this;rfl
   grind[Option.map_eq_some_iff,agi,Array.mem_flatten,MY]|_=>cases h
theorem aiU{T:Tables}(e:∀i∈T.types,∀v,i.zero=U v->n v=Z):∀(f:Nat)(t:dV)(i:TypeInfo),Made.infoAt T f t=U i->i∈T.types\/(∀v,i.zero=U v->n v=Z)/\i.methods=#[]/\(∀k,i.desc≠.float k)/\(∀k,i.desc≠.complex k)/\∀a u,i.desc≠.named a u
 |0,t,i,h=>by cases h|f+1,t,i,h=>by
  unfold Made.infoAt at h;split at h;.grind
  .simp only[AG]at h;obtain⟨d,_,h⟩:=h;exact aB<|avA λt j v c l=>by rcases aiU e f t j c with g|g;all_goals grind h
theorem ZJ{T:Tables}(b:∀i∈T.types,∀v,i.zero=U v->n v=Z){t}{i}(h:T.info? t=U i):i∈T.types\/(∀v,i.zero=U v->n v=Z)/\i.methods=#[]/\(∀k,i.desc≠.float k)/\(∀k,i.desc≠.complex k)/\∀a u,i.desc≠.named a u:=by unfold Tables.info? at h;grind[Array.mem_iff_getElem?,aiU]
end
section
open Go.Proofs
def vY:Nat:=7530513141459703090006573512571396663087727459507568300783141639376931433303397187452920
def zS:Nat:=7530513141459703090006573512571401260574350057174143375824223090304482289522962761515000
def Ln(f:fC)(n:Nat):Bool:=f==41&&n==3||f==180&&n==2||f==181&&n==2
def ql(s:String):Bool:=s== "Kind"||s== "Elem"||s== "AssignableTo"||s== "As"||s== "Is"||s== "Unwrap"||s== "Implements"||s== "Comparable"
def ru(four:Bool)(R:Nat->Bool)(b:Nat):Bool:=if b<7 then(b==0||b==3||b==5||b==6||b==4&&four)else R b
def dsl:Nat->List Nat|3=>[0,15,31,37,39]|4=>[0,24,48,54,56,60,62]|5=>[0,22,38,44,46]|6=>[0,30,46,52,54]|7=>[0,27,53,59,61]|14=>[0,6,13,15,16,20,22,23,27,29,30]|_=>[]
def Lh(f:fC)(t:Nat):Bool:=(dsl f).contains t
def dfL:List Nat:=[3,4,5,6,7,8,14]
def Ll(f:fC):Bool:=dfL.contains f
def alf(R:Nat->Bool):H:={T:=λf=>vY.testBit f,F:=ru ai R,gx:=λ_=>ai,cut:=Ln}
def ale(R:Nat->Bool):H:={T:=λf=>zS.testBit f,F:=ru Z R,gx:=λ_=>ai,cut:=λ_ _=>ai}
noncomputable def iX(R:Nat->Bool)(A:Option Dv):H:={T:=λf=>vY.testBit f,F:=ru ai R,gx:=iD (alf R) aD ql,cut:=Ln,D:=Lh,DF:=Ll,arg:=A}
noncomputable def vO(R:Nat->Bool):H:={T:=λf=>zS.testBit f,F:=ru Z R,gx:=iD (ale R) aD ql,cut:=λ_ _=>ai}
def JZ:Nat->Bool:=λ_=>ai
noncomputable def Q5(I:H)(fs:Array dY)(f:Nat):Bool:=match fs[f]? with|some fn=>(match fn.body with|some b=>iD I aD ql b|none=>Z)|none=>ai
section
variable {I I':H} {q:bZ} {nm:String->Bool} (hT:I.T=I'.T) (hC:I.cut=I'.cut) (hF:∀g,g<q.globals.size->I.F g=I'.F g)
include hT hF
theorem Yb:tL I q=tL I' q:=by funext x;cases x with|global g=>grind[tL]|_=>grind[tL]
include hC
theorem arF:DL I q nm=DL I' q nm:=by funext o;cases o<;>simp only[DL,Al,Jl,Yb hT hF (q:=q),hT,hC]
theorem Q6:∀c,iD I q nm c=iD I' q nm c:=by have h:=Yb hT hF (q:=q);intro c;induction c with|skip=>rfl|region id j d=>simp only[iD,arF hT hC hF (q:=q) (nm:=nm)]|seq a b i e=>grind[iD]|cond x a b i e=>simp only[iD,h,i,e]|block id b e=>grind[iD]|loop b e=>grind[iD]|rangeFunc f k a b i e=>simp only[iD,h,i,e]|exit id=>rfl|scope b e=>rfl|label l=>rfl|goto l=>rfl|_=>rfl
end
theorem CP:aD.globals.size=7:=by kernel_rfl
theorem abw{a}{R b}:∀g,g<aD.globals.size->ru a R g=ru a b g:=λg h=>by rw[CP]at h;unfold ru;grind
theorem arD:((mR 320).all λf=>!vY.testBit f||Q5 (iX JZ V) aD.funcs f)=Z:=by kernel_rfl
theorem arC:((mR 320).all λf=>!zS.testBit f||Q5 (vO JZ) iP f)=Z:=by kernel_rfl
theorem am1{f}(h:vY.testBit f=Z):f<320:=aiw ((Nat.le_log2<|by decide).2<|aiv h)<|by decide
theorem am2{f}(h:zS.testBit f=Z):f<320:=aiw ((Nat.le_log2<|by decide).2<|aiv h)<|by decide
theorem aea(R)(A)(c):(iX R A).gx c=iD (iX R A) aD ql c:=Q6 (I:=alf R) (I':=iX R A) rfl rfl (λ_ _=>rfl) c
theorem ad9(R)(c):(vO R).gx c=iD (vO R) aD ql c:=Q6 (I:=ale R) (I':=vO R) rfl rfl (λ_ _=>rfl) c
theorem arB{R}{A}{f}(c:vY.testBit f=Z){fn}{b}(h:aD.funcs[f]?=U fn)(d:fn.body=U b):(iX R A).gx b=Z:=by have:=uc.1 arD f<|Ku.2<|am1 c;rw[c]at this;simp only[Bool.not_true,Bool.false_or,Q5,h,d]at this;rw[aea,<-this];exact Q6 (I:=iX R A) (I':=iX JZ V) (q:=aD) rfl rfl abw b
theorem arA{R}{f}(c:zS.testBit f=Z){fn}{b}(h:iP[f]?=U fn)(d:fn.body=U b):(vO R).gx b=Z:=by have:=uc.1 arC f<|Ku.2<|am2 c;rw[c]at this;simp only[Bool.not_true,Bool.false_or,Q5,h,d]at this;rw[ad9,<-this];exact Q6 (I:=vO R) (I':=vO JZ) (q:=aD) rfl rfl abw b
section
variable {I I':H} {q:bZ} {nm:String->Bool} (hT:I.T=I'.T) (hC:I.cut=I'.cut) (hF:∀g,g<q.globals.size->I.F g=I'.F g) (hD:I.D=I'.D) (AY:I.DF=I'.DF) (D:Nat->Bool)
include hT hF in
theorem Yd:tN I q D=tN I' q D:=by funext x;cases x<;>simp only[tN,Yb hT hF (q:=q)]
include hT hF in
theorem anr(E:Nat->Bool):∀(l:List ja)(j:Nat),FI I q D E j l=FI I' q D E j l|[],_=>rfl|x::l,j=>by simp only[FI,Yd hT hF D,anr E l]
include hT hC hF hD AY in
theorem aEL:Fq I q nm D=Fq I' q nm D:=by
 have h:=Yd hT hF (q:=q) D;funext o;obtain⟨d,c,b,e,a,E⟩:=o;unfold Fq;have f:Al I q nm (tN I q D) c=Al I' q nm (tN I' q D) c:=by cases c<;>simp only[Al,Jl,h,hT,hC]
 have i:Lm I q D ⟨d,c,b,e,a,E⟩=Lm I' q D ⟨d,c,b,e,a,E⟩:=by cases c<;>simp only[Lm,h,anr hT hF (q:=q) D,hD,AY]
 grind
include hT hC hF hD AY in
theorem aEM:∀c,mB I q nm D c=mB I' q nm D c:=by have i:=aEL hT hC hF hD AY (q:=q) (nm:=nm) D;intro c;induction c with|region id h d=>grind[mB]|seq a b f e=>grind[mB]|cond x a b f e=>simp only[mB,Yd hT hF (q:=q) D,f,e]|block id b e=>grind[mB]|loop b e=>grind[mB]|_=>rfl
end
noncomputable def alZ(I:H)(q:bZ)(nm:String->Bool)(D:Nat->Bool):Option dY->Bool|some fn=>(match fn.body with|some c=>mB I q nm D c&&fn.results.all (BL D)&&! fn.name== "runtime.NumGoroutine"|none=>ai)|none=>ai
noncomputable def al0(f:Nat):Bool:=vY.testBit f&&alZ (iX JZ V) aD ql (Lh f) aD.funcs[f]?
theorem aEr:dfL.all al0=Z:=by kernel_rfl
theorem aED{f:Nat}(h:Ll f=Z):f∈dfL:=List.contains_iff_mem.1 h
theorem aEq{I}{q}{nm}{D}{o}(h:alZ I q nm D o=Z):∃a c,o=U a/\a.body=U c/\mB I q nm D c=Z/\a.results.all (BL D)=Z/\(a.name== "runtime.NumGoroutine")=ai:=by cases o with|none=>cases h|some a=>obtain⟨e,n,s,u,r,l,p,d,b,i,f,m,g,k,t,j⟩:=a;cases b with|none=>cases h|some c=>have h:(mB I q nm D c&&d.all (BL D)&&! e== "runtime.NumGoroutine")=Z:=h;grind
theorem aEs{R}{A}{X:fC->Prop}(g:∀f,Ll f=Z->¬X f)(f)(h:(iX R A).DF f=Z):(iX R A).T f=Z/\¬X f/\∃a c,aD.funcs[f]?=U a/\a.body=U c/\mB (iX R A) aD ql ((iX R A).D f) c=Z/\a.results.all (BL<|(iX R A).D f)=Z/\(a.name== "runtime.NumGoroutine")=ai:=by have h:Ll f=Z:=h;have b:=uc.1 aEr f<|aED h;unfold al0 at b;obtain⟨b,l⟩:=Bool.and_eq_true_iff.1 b;obtain⟨a,c,e,i,k,d,j⟩:=aEq l;exact⟨b,g f h,a,c,e,i,(aEM (I:=iX R A) (I':=iX JZ V) rfl rfl abw rfl rfl _ c).trans k,d,j⟩
noncomputable def aoo(q:bZ):Bool:=q.types.all λi=>match i.zero with|some v=>n v|none=>Z
noncomputable def avC(q:bZ):Bool:=q.types.all λi=>match i.desc with|.float _|.complex _=>ai|_=>Z
theorem aop:aoo aD=Z:=by kernel_rfl
theorem avD:avC aD=Z:=by kernel_rfl
theorem Qj:∀i∈aD.types,∀v,i.zero=U v->n v=Z:=λi b v c=>by have:=Zq.1 aop i b;grind
theorem ao4{t}{d}(h:aD.underlying t=U d):(∃i∈aD.types,i.desc=d)\/(∀k,d≠.float k)/\∀k,d≠.complex k:=by
 have l:∀u i,aD.info? u=U i->i.desc=d->(∃i∈aD.types,i.desc=d)\/(∀k,d≠.float k)/\∀k,d≠.complex k:=λu i c e=>by grind[ZJ,Qj]
 unfold Program.underlying at h;cases c:aD.info? t with|none=>grind|some i=>rw[c]at h;obtain⟨f,b⟩:=i;cases f with
  |named a u=>simp only at h;cases g:aD.info? u with|none=>grind|some j=>grind
  |_=>grind
theorem ac8:tf aD:=by
 have d:=Zq.1 avD;refine⟨λt i v a c=>?_,λt k h=>?_,λt k h=>?_⟩;.rcases ZJ Qj a with b|b;all_goals grind[Qj]
 all_goals grind[ao4]
noncomputable def axt(q:bZ)(s:String):Bool:=q.types.all λi=>match i.methods.find? (·.name==s)with|some m=>(match m.func with|some (f,_)=>vY.testBit f&&zS.testBit f|none=>Z)|none=>Z
theorem axu:(["Kind","Elem","AssignableTo","As","Is","Unwrap","Implements","Comparable"].all λs=>axt aD s)=Z:=by kernel_rfl
theorem axf{s}(h:ql s=Z):s∈["Kind","Elem","AssignableTo","As","Is","Unwrap","Implements","Comparable"]:=by simp only[ql,jT,NI]at h;grind
theorem ahl{s}(h:ql s=Z){t}{i}{m}{f}{p}(b:aD.info? t=U i)(e:i.methods.find? (·.name==s)=U m)(c:m.func=U (f,p)):vY.testBit f=Z∧zS.testBit f=Z:=by
 rcases ZJ Qj b with a|a;·have d:=Zq.1 (uc.1 axu s<|axf h) i a;grind
 grind
def Pg:List Nat:=[111,112,113,115,173,174,277,278,285,288,289,290,291]
noncomputable def aiB(f:Nat):Bool:=match iP[f]?,aD.funcs[f]? with|some fn,U P=>P.name==fn.name&&! fn.name== "runtime.NumGoroutine"&&fn.body.isSome&&P.body.isSome|_,_=>ai
theorem ayX:((mR 320).all λf=>!(vY.testBit f||zS.testBit f)||Pg.contains f||aiB f)=Z:=by kernel_rfl
def tq(q:bZ)(fs:Array dY)(fn P:dY):Prop:=P.name=fn.name/\(fn.name== "runtime.NumGoroutine")=ai/\((∃b b',fn.body=U b/\P.body=U b')\/(P=fn/\fn.body=V/\abX fn=V/\∃e,Extern.find fn=U e/\tw q fs e)\/P=fn/\fn.body=V/\abX fn=V/\Extern.find fn=V/\(fn.name.endsWith ".init"&&!fn.name.startsWith "("&&!fn.name.startsWith "gosem.")=ai)
theorem azb(q)(fs):tq q fs f111 f111:=⟨rfl,by kernel_rfl,aB<|ay ⟨rfl,rfl,by kernel_rfl,⟨_,by kernel_rfl,aDK⟩⟩⟩
theorem aza(q)(fs):tq q fs f112 f112:=⟨rfl,by kernel_rfl,aB<|ay ⟨rfl,rfl,by kernel_rfl,⟨_,by kernel_rfl,aDM⟩⟩⟩
theorem ay9(q)(fs):tq q fs f113 f113:=⟨rfl,by kernel_rfl,aB<|ay ⟨rfl,rfl,by kernel_rfl,⟨_,by kernel_rfl,aDQ⟩⟩⟩
theorem ay8(q)(fs):tq q fs f115 f115:=⟨rfl,by kernel_rfl,aB<|ay ⟨rfl,rfl,by kernel_rfl,⟨_,by kernel_rfl,aDL⟩⟩⟩
theorem ay7(q)(fs):tq q fs f173 f173:=⟨rfl,by kernel_rfl,aB<|ay ⟨rfl,rfl,by kernel_rfl,⟨_,by kernel_rfl,aDS⟩⟩⟩
theorem ay6(q)(fs):tq q fs f174 f174:=⟨rfl,by kernel_rfl,aB<|ay ⟨rfl,rfl,by kernel_rfl,⟨_,by kernel_rfl,aDN⟩⟩⟩
theorem ay5(q)(fs):tq q fs f277 f277:=⟨rfl,by kernel_rfl,aB<|aB ⟨rfl,rfl,by kernel_rfl,by kernel_rfl,by kernel_rfl⟩⟩
theorem ay4(q)(fs):tq q fs f278 f278:=⟨rfl,by kernel_rfl,aB<|ay ⟨rfl,rfl,by kernel_rfl,⟨_,by kernel_rfl,aDV⟩⟩⟩
theorem ay3(q)(fs):tq q fs f285 f285:=⟨rfl,by kernel_rfl,aB<|ay ⟨rfl,rfl,by kernel_rfl,⟨_,by kernel_rfl,aDP⟩⟩⟩
theorem ay2(q)(fs):tq q fs f288 f288:=⟨rfl,by kernel_rfl,aB<|ay ⟨rfl,rfl,by kernel_rfl,⟨_,by kernel_rfl,aDU⟩⟩⟩
theorem ay1(q)(fs):tq q fs f289 f289:=⟨rfl,by kernel_rfl,aB<|ay ⟨rfl,rfl,by kernel_rfl,⟨_,by kernel_rfl,aDT⟩⟩⟩
theorem ay0(q)(fs):tq q fs f290 f290:=⟨rfl,by kernel_rfl,aB<|ay ⟨rfl,rfl,by kernel_rfl,⟨_,by kernel_rfl,aDO⟩⟩⟩
theorem ayZ(q)(fs):tq q fs f291 f291:=⟨rfl,by kernel_rfl,aB<|ay ⟨rfl,rfl,by kernel_rfl,⟨_,by kernel_rfl,aDR⟩⟩⟩
theorem aiA{f}(h:f∈Pg)(q)(fs):∃a,iP[f]?=U a/\aD.funcs[f]?=a/\tq q fs a a:=by
 simp only[Pg,di,List.mem_nil_iff,dQ]at h;rcases h with rfl|rfl|rfl|rfl|rfl|rfl|rfl|rfl|rfl|rfl|rfl|rfl|rfl;.grind[pg,func111,azb]
 .grind[pg,func112,aza]
 .grind[pg,func113,ay9]
 .grind[pg,func115,ay8]
 .grind[pg,func173,ay7]
 .grind[pg,func174,ay6]
 .grind[pg,func277,ay5]
 .grind[pg,func278,ay4]
 .grind[pg,func285,ay3]
 .grind[pg,func288,ay2]
 .grind[pg,func289,ay1]
 all_goals grind[pg,func290,ay0,func291,ayZ]
theorem aiz{f}(h:vY.testBit f=Z\/zS.testBit f=Z)(q)(fs):∃i e,iP[f]?=U i/\aD.funcs[f]?=U e/\tq q fs i e/\(e=i\/Pg.contains f=ai):=by
 have g:=uc.1 ayX f<|Ku.2<|h.elim am1 am2;simp only[jT,Zp]at g;rcases g with(g|g)|g;.grind
 .obtain⟨i,j,k,l⟩:=aiA (by simpa using g) q fs;exact⟨i,i,j,k,l,ay rfl⟩
 .unfold aiB at g;cases j:iP[f]? with|none=>grind|some i=>cases k:aD.funcs[f]? with|none=>grind|some e=>
    rw[j,k]at g;simp only[cG,NI,Zp,Option.isSome_iff_exists]at g;obtain⟨⟨⟨a,b⟩,⟨c,m⟩⟩,⟨d,n⟩⟩:=g;by_cases hx:Pg.contains f=Z;.obtain⟨o,p,r,l⟩:=aiA (by simpa using hx) q fs;grind
    .exact⟨i,e,rfl,rfl,⟨a,b,ay ⟨c,d,m,n⟩⟩,aB<|by grind⟩
theorem anJ{f}(h:vY.testBit f=Z):f≠41/\f≠180/\f≠181:=by refine⟨?_,?_,?_⟩<;>rintro rfl<;>revert h<;>decide
section
variable {R:Nat->Bool} {A:Option Dv} (hR:R 7=Z)
include hR
theorem ayY:Vr (iX R A) aD iP:=⟨by rw[CP];exact hR,λf g=>by obtain⟨i,d,h,e,⟨a,b,c⟩,_⟩:=aiz (ay g) aD iP;exact⟨i,d,h,e,a,b,c⟩⟩
theorem aES:ac3 (iX R A) aD iP:=λf n h=>by
 have h:Ln f n=Z:=h;simp only[Ln,jT,cG,NI]at h;rcases h with(⟨rfl,rfl⟩|⟨rfl,rfl⟩)|⟨rfl,rfl⟩;.exact⟨wG,oG,by kernel_rfl,func41,by kernel_rfl,by kernel_rfl,by kernel_rfl,by kernel_rfl⟩
 .exact⟨{f180 with body:=U<|.refuse "not here"},f180,by kernel_rfl,func180,by kernel_rfl,by kernel_rfl,by grind,by kernel_rfl⟩
 .exact⟨{f181 with body:=U<|.refuse "not here"},f181,by kernel_rfl,func181,by kernel_rfl,by kernel_rfl,by grind,by kernel_rfl⟩
theorem ayK:nU (iX R A) aD iP ql:=⟨ac8,ayY hR,λs b t i m f p c d a=>(ahl b c d a).1,aES hR⟩
omit hR in
theorem auP:Same (iX R A) aD iP ql (λ_=>False):=⟨aea R A,λf a=>by
 obtain⟨d,g,e⟩:=anJ a
 grind[pg],λf a _=>by
 obtain⟨d,g,e⟩:=anJ a;exact⟨pg d g e,λj b c i=>arB a c i⟩,aEs λ_ _ h=>h⟩
theorem awe(a:∀B,A=U B->B.g≠4):FQ iP (iX R A) ql where
 lay:=ayK hR;same:=auP;f41:=by kernel_rfl
 f59:=(pg (by decide) (by decide)<|by decide).trans func59;f60:=(pg (by decide) (by decide)<|by decide).trans func60;t59:=by show vY.testBit 59=Z;decide
 t60:=by show vY.testBit 60=Z;decide
 flag:=rfl;IP:=a;Pq:=λf n h=>by
  have h:Ln f n=Z:=h;simp only[Ln,jT,cG,NI]at h;rcases h with(h|⟨rfl,rfl⟩)|⟨rfl,rfl⟩;.grind
  .exact aB ⟨{f180 with body:=U<|.refuse "not here"},"not here",by kernel_rfl,rfl⟩
  .exact aB ⟨{f181 with body:=U<|.refuse "not here"},"not here",by kernel_rfl,rfl⟩
end
section
variable {I:H} {q:bZ} {fs:Array dY} {nm:String->Bool}
theorem agV:tL I (J q fs)=tL I q:=by funext x;cases x<;>rfl
theorem awV:JY (J q fs)=JY q:=by funext t;rfl
theorem arE:DL I (J q fs) nm=DL I q nm:=by funext o;cases o<;>simp only[DL,Al,Jl,agV (I:=I) (q:=q) (fs:=fs),awV (q:=q) (fs:=fs)]
theorem arG(c):iD I (J q fs) nm c=iD I q nm c:=by have h:=agV (I:=I) (q:=q) (fs:=fs);induction c with|region id i d=>simp only[iD,arE (I:=I) (q:=q) (fs:=fs) (nm:=nm)]|seq a b g e=>grind[iD]|cond x a b g e=>simp only[iD,h,g,e]|block id b e=>grind[iD]|loop b e=>grind[iD]|rangeFunc f j a b g e=>simp only[iD,h,g,e]|_=>rfl
theorem Same.cut{X}(g:∀c,I.gx c=iD I q nm c)(e:∀f,I.T f=Z->∀d b,fs[f]?=U d->d.body=U b->I.gx b=Z)(i:∀f,I.DF f=ai):Same I (J q fs) fs nm X:=⟨λc=>(g c).trans (arG c).symm,λf a=>rfl,λf a _=>⟨rfl,e f a⟩,λf h=>by grind⟩
theorem nU.cut(b:tf q)(o:I.F q.globals.size=Z)(j:∀f,I.T f=Z->∃a,fs[f]?=U a∧tq (J q fs) fs a a)(d:∀s,nm s=Z->∀t i m f p,q.info? t=U i->i.methods.find? (·.name==s)=U m->m.func=U (f,p)->I.T f=Z)(u:∀f n,I.cut f n=ai):nU I (J q fs) fs nm:=⟨⟨b.zero,b.whole,b.real⟩,⟨o,λf c=>by obtain⟨a,e,k⟩:=j f c;exact⟨a,a,e,e,k⟩⟩,λs l t i m f p g r c=>d s l t i m f p g r c,λf n h=>by grind⟩
end
variable {R R2:Nat->Bool} {A:Option Dv} (hR:R 7=Z) (hR2:R2 7=Z)
include hR in
theorem ayJ:nU (vO R) (J aD iP) iP ql:=nU.cut ac8 (by rw[CP];exact hR) λf g=>by
 obtain⟨k,n,h,q,⟨a,b,c⟩,d⟩:=aiz (aB g) (J aD iP) iP;refine⟨k,h,rfl,b,?_⟩;rcases c with⟨c,_,e,_⟩|⟨_,e⟩|⟨_,e⟩;.exact ay ⟨c,c,e,e⟩
 .exact aB<|ay ⟨rfl,e⟩
 grind (λs l t i m f p j o g=>(ahl l j o g).2) λ_ _=>rfl
theorem auO:Same (vO R) (J aD iP) iP ql λ_=>False:=Same.cut (ad9 R) (λf c e b a d=>arA c a d) λ_=>rfl
theorem axd{f:Nat}(h:(iX R A).T f=Z):aD.inits.idxOf? f=V:=by
 have e:aD.inits=#[2]:=by kernel_rfl
 rw[e];have a:f≠2:=by rintro rfl;have h:vY.testBit 2=Z:=h;revert h;decide
 grind
include hR hR2 in
theorem adw(a:∀B,A=U B->B.g≠4):Twin iP (iX R A) (vO R2) ql:=⟨awe hR a,λf h=>axd h,ayJ hR2,auO,λ_ _=>rfl,rfl,λ_=>rfl⟩
end
section
open Go.Conc Go.RowKit Go.Conc.Lib Go.ConcR.Gen
open Go.ConcN (WgLive)
open Go.ConcN.Gen (WgLive.cell0 WgLive.cell1)
open Go.ConcR (KK WgAt stA smA wgBlock rd wr mk Bk)
variable{P:bZ}{L:WgLink}{Wg:Nat}{qH:aZ}{qJ:Act}{mh:Array dG}{qx:Nat}{qh:List Nat}{qo:List eY}{cs:List aZ}
set_option maxHeartbeats 8000000 in
theorem aGC(H:WgLib P L)(w)(a:jN L.tWg Wg w):VD P L Wg (G (qH.at (qJ.put (mh[qx]?.bind (·.dst))<|bQ #[])<|aT mh qh::qo) cs) (G ((bh L.add).at ⟨#[aF Wg,Y aG 1,ak,ak,ak,ak,ak,ak,ak,ak,ak,ak,ak,ak,ak,ak,ak,ak,ak,ak,ak,ak,ak,ak,ak,ak,ak,ak,ak,ak,ak,ak,ak,ak,ak,ak,ak,ak,ak,ak,ak,ak,ak,ak,ak,ak,ak,ak,ak,ak,ak,ak,ak,ak,ak,ak,ak,ak,ak,ak,ak,ak,ak,ak,ak,ak,ak,ak,ak,ak,ak,ak,ak,ak,ak,ak,ak,ak,ak,ak,ak,ak,ak,ak,ak,ak,ak,ak,ak,ak,ak,ak,ak,ak,ak,ak,ak,ak,ak,ak,ak,ak,ak,ak,ak,ak,ak,ak,ak,ak,ak,ak,ak,ak,ak,ak,ak],[]⟩ [bF<|body_add L])<|qH.at qJ (aT mh (qx::qh)::qo)::cs) w:=by
 lib_facts;refine⟨12,dH ?_⟩;simp only[body_add,addFn,fW];u_c I E a;u_cond Z E a;iterate 2 u_c I E a
 u_reg E a;iterate 2 u_op E a
 u_c N E a;u_cond ai E a;u_c lR E a;u_c I E a;u_reg E a;refine y λk f=>?_;replace a:=E a f;refine⟨rfl,_,Tc .disable (by simp) rfl rfl (by k_ne) rfl H.f_disable (x_disable_n L) (x_disable_b L) (x_disable_x L)<|x_disable_f L,40,dH ?_⟩;walk_nrm;u_c N E a;u_reg E a;u_defer E a;u_c N E a;u_c I E a;u_reg E a;u_op E a;u_c N E a;iterate 2 u_c I E a
 u_reg E a;u_bub E a;u_c N E a;u_cond ai E a;u_c lR E a;u_c I E a;u_reg E a;iterate 6 u_op E a
 u_call H.f_uAdd(nm_uAdd L)uAddFn E a;u_c I E a;u_reg E a;u_op E a;u_c N E a;u_c I E a;u_reg E a;iterate 4 u_op E a
 refine y λb i=>?_;replace a:=E a i;refine⟨rfl,λv l d=>?_⟩;obtain rfl|rfl:v=0∨v=1:=by omega
 ·replace d:WgAt L.tWg Wg b 0 0:=by grind
  have z:(((0:Nat):Int)+1)*KK=KK:=by simp
  rw[z];have j:cP.wrap (0+4294967296)=KK:=by decide
  refine⟨_,(stepG_add_atomic rfl rfl (by k_ne) rfl H.f_addU64 (x_addU64_n L) (x_addU64_b L) (x_addU64_x L) cP (x_addU64_f L) rfl rfl d.cellSt<|d.thaw 0).trans<|by rw[j];rfl,130+60,lift ?_⟩;replace a:jN L.tWg Wg<|b.setCell (stA Wg)<|Y cP KK:=⟨_,_,d.setSt _⟩;simp only[KK]at a⊢;walk_nrm;u_op E a;u_c N E a;u_c nE E a;u_leave1 H.f_uAdd E a;u_op E a;u_c N E a;iterate 2 u_c I E a
  u_reg E a;iterate 4 u_op E a
  iterate 2 u_skip E a
  u_op E a;u_c N E a;u_cond ai E a;u_c lR E a;u_c I E a;u_reg E a;iterate 4 u_op E a
  u_c N E a;u_c I E a;u_reg E a;iterate 4 u_op E a
  u_c N E a;iterate 2 u_c I E a
  u_reg E a;iterate 10 u_op E a
  u_c N E a;u_cond Z E a;u_reg E a;iterate 3 u_op E a
  u_conv H.underlying_tPU32 H.room_tU32(WgLive.cell1 a).choose_spec E a;refine y λ_ h=>?_;replace a:=E a h;u_in E a;rw[Kt .read (by simp) rfl rfl (by k_ne) rfl H.f_raceRead (x_raceRead_n L) (x_raceRead_b L) (x_raceRead_x L) (x_raceRead_f L) (ad:=⟨Wg,1,V⟩)<|by simp[dW]];simp only[eH];refine⟨⟨rfl,λe m=>?_⟩,?_⟩;·grind
  walk_nrm;refine dH ?_;u_c N E a;iterate 2 u_c I E a
  u_reg E a;iterate 2 u_op E a
  u_c N E a;u_cond ai E a;u_c lR E a;iterate 2 u_c I E a
  u_reg E a;iterate 3 u_op E a
  iterate 2 u_skip E a
  iterate 2 u_op E a
  iterate 4 u_skip E a
  u_op E a;u_c N E a;u_cond ai E a;u_c lR E a;iterate 2 u_c I E a
  u_reg E a;iterate 3 u_op E a
  iterate 2 u_skip E a
  u_op E a;u_c N E a;u_cond Z E a;u_c nE E a;refine y λg c=>?_;replace a:=E a c;refine⟨rfl,_,stepG_unwind_entry (v:=bQ #[]) (evs:=#[jK .enable]) rfl H.f_enable (x_enable_n L) (x_enable_b L) (x_enable_x L) (x_enable_f L) (by simp[aEZ]) (by simp[jK])<|by simp[jK],1,dH ?_⟩;u_leave0 H.f_add E a;grind[Goes.stop]
 ·replace d:WgAt L.tWg Wg b 4294967296 0:=by simpa[KK]using d
  have z:(((1:Nat):Int)+1)*KK=8589934592:=by decide
  rw[z];have j:cP.wrap (4294967296+4294967296)=8589934592:=by decide
  refine⟨_,(stepG_add_atomic rfl rfl (by k_ne) rfl H.f_addU64 (x_addU64_n L) (x_addU64_b L) (x_addU64_x L) cP (x_addU64_f L) rfl rfl d.cellSt<|d.thaw 0).trans<|by rw[j];rfl,130,dH ?_⟩;replace a:jN L.tWg Wg<|b.setCell (stA Wg)<|Y cP 8589934592:=⟨_,_,d.setSt _⟩;walk_nrm;u_op E a;u_c N E a;u_c nE E a;u_leave1 H.f_uAdd E a;u_op E a;u_c N E a;iterate 2 u_c I E a
  u_reg E a;iterate 2 u_op E a
  try simp only[bd2]
  iterate 2 u_op E a
  iterate 2 u_skip E a
  u_op E a;u_c N E a;u_cond ai E a;u_c lR E a;u_c I E a;u_reg E a;iterate 4 u_op E a
  u_c N E a;u_c I E a;u_reg E a;iterate 2 u_op E a
  try simp only[be2]
  iterate 2 u_op E a
  u_c N E a;iterate 2 u_c I E a
  u_reg E a;iterate 10 u_op E a
  u_c N E a;u_cond ai E a;u_c lR E a;iterate 2 u_c I E a
  u_reg E a;iterate 2 u_op E a
  u_c N E a;u_cond ai E a;u_c lR E a;iterate 2 u_c I E a
  u_reg E a;iterate 3 u_op E a
  iterate 2 u_skip E a
  iterate 2 u_op E a
  iterate 4 u_skip E a
  u_op E a;u_c N E a;u_cond ai E a;u_c lR E a;iterate 2 u_c I E a
  u_reg E a;iterate 3 u_op E a
  iterate 2 u_skip E a
  u_op E a;u_c N E a;u_cond Z E a;u_c nE E a;refine y λg c=>?_;replace a:=E a c;refine⟨rfl,_,stepG_unwind_entry (v:=bQ #[]) (evs:=#[jK .enable]) rfl H.f_enable (x_enable_n L) (x_enable_b L) (x_enable_x L) (x_enable_f L) (by simp[aEZ]) (by simp[jK])<|by simp[jK],1,dH ?_⟩;u_leave0 H.f_add E a;grind[Goes.stop]
set_option maxHeartbeats 16000000 in
theorem aoY(H:WgLib P L)(g)(w)(h:PL L (λ_=>True) Wg (qH.at qJ<|aT mh (qx::qh)::qo) cs g w):∃m,GQ P L Wg (VB P L Wg (PL L (λ_=>True) Wg (qH.at qJ<|aT mh (qx::qh)::qo) cs) (G (qH.at (qJ.put (mh[qx]?.bind (·.dst))<|bQ #[])<|aT mh qh::qo) cs)) m g w:=by
 lib_facts;obtain⟨T,rfl,r,A,_,a⟩:=h;obtain⟨v0,v1,v2,v3,v4,v5,v6,v7,v8,v9,v10,Q,v12,mF,qc,X,qb,qa,F6,mE,v20,v21,F5,pZ,F,QE,QD,S,v28,W,O,v31,uS,F4,J,pY,QW,v37,pX,pW,v40,pV,pU,pS,Q3,oa,v46,pR,pQ,v49,QB,v51,C,v53,xO,pP,nZ,QX,QA,v59,nY,pO,pM,D,nX,Qv,nW,B,K,M,v70,Qu,v72,F3,QY,Q0,v76,xN,Q1,F2,v80,R,Q2,nV,rfl⟩:=array84 T r;simp only[my,nG,dX]at A;subst A;refine⟨30,dH ?_⟩;simp only[L7,body_wait,waitFn,fW];u_c EA E a;u_c I E a;u_reg E a;iterate 3 u_op E a
 u_call H.f_uLoad(nm_uLoad L)uLoadFn E a;u_c I E a;u_reg E a;u_op E a;u_c N E a;u_c I E a;u_reg E a;iterate 3 u_op E a
 refine y λl s=>?_;replace a:=E a s;refine⟨rfl,λv hv b=>?_⟩;obtain rfl|rfl|rfl:v=0∨v=1∨v=2:=by omega
 ·replace b:WgAt L.tWg Wg l 0 0:=by grind
  refine⟨_,NH (v:=0) rfl rfl (by k_ne) rfl H.f_loadU64 (x_loadU64_n L) (x_loadU64_b L) (x_loadU64_x L) cP (x_loadU64_f L) rfl b.cellSt,λ_=>⟨60,dH ?_⟩,λh=>absurd rfl h⟩;walk_nrm;u_op E a;u_c N E a;u_c nE E a;u_leave1 H.f_uLoad E a;u_op E a;u_c N E a;u_c I E a;u_reg E a;iterate 4 u_op E a
  u_c N E a;u_c I E a;u_reg E a;iterate 4 u_op E a
  u_c N E a;iterate 2 u_c I E a
  u_reg E a;iterate 2 u_op E a
  u_c N E a;iterate 2(u_cond Z E a;u_c I E a)
  u_reg E a;refine y λp f=>?_;replace a:=E a f;refine⟨rfl,_,Tc .enable (by simp) rfl rfl (by k_ne) rfl H.f_enable (x_enable_n L) (x_enable_b L) (x_enable_x L)<|x_enable_f L,12,dH ?_⟩;walk_nrm;u_c N E a;u_reg E a;u_op E a;u_conv H.underlying_tWgP H.room_tWg(WgLive.cell0 a).choose_spec E a;refine y λo d=>?_;replace a:=E a d;refine⟨rfl,_,Kt rC (by simp) rfl rfl (by k_ne) rfl H.f_acquire (x_acquire_n L) (x_acquire_b L) (x_acquire_x L) (x_acquire_f L)<|by simp[dW,stA],30,dH ?_⟩;walk_nrm;u_c N E a;iterate 2 u_c I E a
  u_reg E a;iterate 8 u_op E a
  iterate 2 u_skip E a
  u_op E a;u_c N E a;u_cond ai E a;u_c lR E a;u_c nE E a;u_leave0 H.f_wait E a;grind[Goes.stop]
 ·replace b:WgAt L.tWg Wg l 4294967296 0:=by simpa[KK]using b
  refine⟨_,NH (v:=4294967296) rfl rfl (by k_ne) rfl H.f_loadU64 (x_loadU64_n L) (x_loadU64_b L) (x_loadU64_x L) cP (x_loadU64_f L) rfl b.cellSt,λu=>absurd u<|by omega,λ_=>⟨70,dH ?_⟩⟩;walk_nrm;u_op E a;u_c N E a;u_c nE E a;u_leave1 H.f_uLoad E a;u_op E a;u_c N E a;u_c I E a;u_reg E a;iterate 4 u_op E a
  u_c N E a;u_c I E a;u_reg E a;iterate 4 u_op E a
  u_c N E a;iterate 2 u_c I E a
  u_reg E a;iterate 2 u_op E a
  u_c N E a;u_cond ai E a;u_c lR E a;u_c I E a;u_reg E a;iterate 6 u_op E a
  u_call H.f_uCas(nm_uCas L)uCasFn E a;u_c I E a;u_reg E a;u_op E a;u_c N E a;u_c I E a;u_reg E a;iterate 5 u_op E a
  refine y λj k=>?_;replace a:=E a k;refine⟨rfl,λQZ x b=>⟨λe=>?_,λe=>?_⟩⟩
  ·subst e;have z:((1:Nat):Int)*KK+1=4294967297:=by decide
   replace b:WgAt L.tWg Wg j 4294967296 0:=by grind
   rw[z];refine⟨_,(stepG_cas_hit (v:=4294967296) (n:=4294967297) rfl rfl (by k_ne) rfl H.f_casU64 (x_casU64_n L) (x_casU64_b L) (x_casU64_x L) cP (x_casU64_f L) rfl rfl rfl b.cellSt<|b.thaw 0).trans<|by rfl,70+60,lift ?_⟩;replace a:jN L.tWg Wg<|j.setCell (stA Wg)<|Y cP 4294967297:=⟨_,_,b.setSt _⟩;walk_nrm;u_op E a;u_c N E a;u_c nE E a;u_leave1 H.f_uCas E a;u_c N E a;u_cond Z E a;iterate 2 u_c I E a
   u_reg E a;iterate 4 u_op E a
   u_c N E a;u_cond Z E a;u_reg E a;iterate 3 u_op E a
   u_conv H.underlying_tPU32 H.room_tU32(WgLive.cell1 a).choose_spec E a;refine y λ_ h=>?_;replace a:=E a h;u_in E a;rw[Kt .write (by simp) rfl rfl (by k_ne) rfl H.f_raceWrite (x_raceWrite_n L) (x_raceWrite_b L) (x_raceWrite_x L) (x_raceWrite_f L) (ad:=⟨Wg,1,V⟩)<|by simp[dW]];simp only[eH];refine⟨⟨rfl,λe he=>?_⟩,?_⟩;·grind
   walk_nrm;refine dH ?_;u_c N E a;u_c I E a;u_reg E a;u_op E a;u_c N E a;iterate 2 u_c I E a
   u_reg E a;iterate 4 u_op E a
   u_skip E a;u_op E a;u_c N E a;u_cond ai E a;u_c lR E a;u_c I E a;u_reg E a;iterate 4 u_op E a
   refine y λi c=>?_;replace a:=E a c;refine⟨rfl,rfl,λ⟨st,b⟩=>stepG_semacquire_wait rfl rfl rfl H.f_semacquire (x_semacquire_n L) (x_semacquire_b L) (x_semacquire_x L) (x_semacquire_f L) (by simp[dW,smA]) b.cellSm,λq=>?_⟩;refine⟨_,(stepG_semacquire (n:=1) rfl rfl (by k_ne) rfl H.f_semacquire (x_semacquire_n L) (x_semacquire_b L) (x_semacquire_x L) (x_semacquire_f L) (by simp[dW,smA]) q.cellSm (by k_ne)<|q.thaw 1).trans<|by rfl,40,dH ?_⟩;replace a:jN L.tWg Wg<|i.setCell (smA Wg)<|Y .u32 0:=⟨_,_,q.setSm 0⟩;walk_nrm;u_c N E a;u_c I E a;u_reg E a;iterate 3 u_op E a
   u_call H.f_uLoad(nm_uLoad L)uLoadFn E a;u_c I E a;u_reg E a;u_op E a;u_c N E a;u_c I E a;u_reg E a;iterate 3 u_op E a
   refine y λt n=>?_;replace a:=E a n;refine⟨rfl,λb=>⟨_,NH (v:=0) rfl rfl (by k_ne) rfl H.f_loadU64 (x_loadU64_n L) (x_loadU64_b L) (x_loadU64_x L) cP (x_loadU64_f L) rfl b.cellSt,40,dH ?_⟩⟩;walk_nrm;u_op E a;u_c N E a;u_c nE E a;u_leave1 H.f_uLoad E a;iterate 2 u_op E a
   u_c N E a;u_c I E a;u_cond Z E a;u_c I E a;u_reg E a;refine y λp f=>?_;replace a:=E a f;refine⟨rfl,_,Tc .enable (by simp) rfl rfl (by k_ne) rfl H.f_enable (x_enable_n L) (x_enable_b L) (x_enable_x L)<|x_enable_f L,12,dH ?_⟩;walk_nrm;u_c N E a;u_reg E a;u_op E a;u_conv H.underlying_tWgP H.room_tWg(WgLive.cell0 a).choose_spec E a;refine y λo d=>?_;replace a:=E a d;refine⟨rfl,_,Kt rC (by simp) rfl rfl (by k_ne) rfl H.f_acquire (x_acquire_n L) (x_acquire_b L) (x_acquire_x L) (x_acquire_f L)<|by simp[dW,stA],30,dH ?_⟩;walk_nrm;u_c N E a;iterate 2 u_c I E a
   u_reg E a;u_op E a;u_c N E a;u_cond ai E a;u_c lR E a;u_c nE E a;u_leave0 H.f_wait E a;grind[Goes.stop]
  ·refine⟨_,stepG_cas_miss (v:=(QZ:Int)*KK) (old:=4294967296) (n:=4294967297) rfl rfl (by k_ne) rfl H.f_casU64 (x_casU64_n L) (x_casU64_b L) (x_casU64_x L) cP (x_casU64_f L) rfl rfl rfl b.cellSt (b.thaw 0)<|by simp only[KK];omega,30,dH ?_⟩;walk_nrm;u_op E a;u_c N E a;u_c nE E a;u_leave1 H.f_uCas E a;u_c N E a;u_cond ai E a;u_c lR E a;u_c NK E a;u_c stepG_inLoop E a;refine y λi c=>?_;replace a:=E a c;exact⟨_,rfl,by simp,by simp,trivial,a⟩
 ·replace b:WgAt L.tWg Wg l 8589934592 0:=by simpa[KK]using b
  refine⟨_,NH (v:=8589934592) rfl rfl (by k_ne) rfl H.f_loadU64 (x_loadU64_n L) (x_loadU64_b L) (x_loadU64_x L) cP (x_loadU64_f L) rfl b.cellSt,λu=>absurd u<|by omega,λ_=>⟨70,dH ?_⟩⟩;walk_nrm;u_op E a;u_c N E a;u_c nE E a;u_leave1 H.f_uLoad E a;u_op E a;u_c N E a;u_c I E a;u_reg E a;iterate 4 u_op E a
  u_c N E a;u_c I E a;u_reg E a;iterate 2 u_op E a
  try simp only[be2]
  iterate 2 u_op E a
  u_c N E a;iterate 2 u_c I E a
  u_reg E a;iterate 2 u_op E a
  u_c N E a;u_cond ai E a;u_c lR E a;u_c I E a;u_reg E a;iterate 6 u_op E a
  u_call H.f_uCas(nm_uCas L)uCasFn E a;u_c I E a;u_reg E a;u_op E a;u_c N E a;u_c I E a;u_reg E a;iterate 5 u_op E a
  refine y λj k=>?_;replace a:=E a k;refine⟨rfl,λQZ x b=>⟨λe=>?_,λe=>?_⟩⟩
  ·subst e;have z:((2:Nat):Int)*KK+1=8589934593:=by decide
   replace b:WgAt L.tWg Wg j 8589934592 0:=by grind
   rw[z];refine⟨_,(stepG_cas_hit (v:=8589934592) (n:=8589934593) rfl rfl (by k_ne) rfl H.f_casU64 (x_casU64_n L) (x_casU64_b L) (x_casU64_x L) cP (x_casU64_f L) rfl rfl rfl b.cellSt<|b.thaw 0).trans<|by rfl,70+60,lift ?_⟩;replace a:jN L.tWg Wg<|j.setCell (stA Wg)<|Y cP 8589934593:=⟨_,_,b.setSt _⟩;walk_nrm;u_op E a;u_c N E a;u_c nE E a;u_leave1 H.f_uCas E a;u_c N E a;u_cond Z E a;iterate 2 u_c I E a
   u_reg E a;iterate 4 u_op E a
   u_c N E a;u_cond Z E a;u_reg E a;iterate 3 u_op E a
   u_conv H.underlying_tPU32 H.room_tU32(WgLive.cell1 a).choose_spec E a;refine y λ_ h=>?_;replace a:=E a h;u_in E a;rw[Kt .write (by simp) rfl rfl (by k_ne) rfl H.f_raceWrite (x_raceWrite_n L) (x_raceWrite_b L) (x_raceWrite_x L) (x_raceWrite_f L) (ad:=⟨Wg,1,V⟩)<|by simp[dW]];simp only[eH];refine⟨⟨rfl,λe he=>?_⟩,?_⟩;·grind
   walk_nrm;refine dH ?_;u_c N E a;u_c I E a;u_reg E a;u_op E a;u_c N E a;iterate 2 u_c I E a
   u_reg E a;iterate 2 u_op E a
   try simp only[bd2]
   iterate 2 u_op E a
   u_skip E a;u_op E a;u_c N E a;u_cond ai E a;u_c lR E a;u_c I E a;u_reg E a;iterate 4 u_op E a
   refine y λi c=>?_;replace a:=E a c;refine⟨rfl,rfl,λ⟨st,b⟩=>stepG_semacquire_wait rfl rfl rfl H.f_semacquire (x_semacquire_n L) (x_semacquire_b L) (x_semacquire_x L) (x_semacquire_f L) (by simp[dW,smA]) b.cellSm,λq=>?_⟩;refine⟨_,(stepG_semacquire (n:=1) rfl rfl (by k_ne) rfl H.f_semacquire (x_semacquire_n L) (x_semacquire_b L) (x_semacquire_x L) (x_semacquire_f L) (by simp[dW,smA]) q.cellSm (by k_ne)<|q.thaw 1).trans<|by rfl,40,dH ?_⟩;replace a:jN L.tWg Wg<|i.setCell (smA Wg)<|Y .u32 0:=⟨_,_,q.setSm 0⟩;walk_nrm;u_c N E a;u_c I E a;u_reg E a;iterate 3 u_op E a
   u_call H.f_uLoad(nm_uLoad L)uLoadFn E a;u_c I E a;u_reg E a;u_op E a;u_c N E a;u_c I E a;u_reg E a;iterate 3 u_op E a
   refine y λt n=>?_;replace a:=E a n;refine⟨rfl,λb=>⟨_,NH (v:=0) rfl rfl (by k_ne) rfl H.f_loadU64 (x_loadU64_n L) (x_loadU64_b L) (x_loadU64_x L) cP (x_loadU64_f L) rfl b.cellSt,40,dH ?_⟩⟩;walk_nrm;u_op E a;u_c N E a;u_c nE E a;u_leave1 H.f_uLoad E a;iterate 2 u_op E a
   u_c N E a;u_c I E a;u_cond Z E a;u_c I E a;u_reg E a;refine y λp f=>?_;replace a:=E a f;refine⟨rfl,_,Tc .enable (by simp) rfl rfl (by k_ne) rfl H.f_enable (x_enable_n L) (x_enable_b L) (x_enable_x L)<|x_enable_f L,12,dH ?_⟩;walk_nrm;u_c N E a;u_reg E a;u_op E a;u_conv H.underlying_tWgP H.room_tWg(WgLive.cell0 a).choose_spec E a;refine y λo d=>?_;replace a:=E a d;refine⟨rfl,_,Kt rC (by simp) rfl rfl (by k_ne) rfl H.f_acquire (x_acquire_n L) (x_acquire_b L) (x_acquire_x L) (x_acquire_f L)<|by simp[dW,stA],30,dH ?_⟩;walk_nrm;u_c N E a;iterate 2 u_c I E a
   u_reg E a;u_op E a;u_c N E a;u_cond ai E a;u_c lR E a;u_c nE E a;u_leave0 H.f_wait E a;grind[Goes.stop]
  ·refine⟨_,stepG_cas_miss (v:=(QZ:Int)*KK) (old:=8589934592) (n:=8589934593) rfl rfl (by k_ne) rfl H.f_casU64 (x_casU64_n L) (x_casU64_b L) (x_casU64_x L) cP (x_casU64_f L) rfl rfl rfl b.cellSt (b.thaw 0)<|by simp only[KK];omega,30,dH ?_⟩;walk_nrm;u_op E a;u_c N E a;u_c nE E a;u_leave1 H.f_uCas E a;u_c N E a;u_cond ai E a;u_c lR E a;u_c NK E a;u_c stepG_inLoop E a;refine y λi c=>?_;replace a:=E a c;exact⟨_,rfl,by simp,by simp,trivial,a⟩
end
end Go.Proofs.YtpdbmpbmepkikaaGreatDoor
