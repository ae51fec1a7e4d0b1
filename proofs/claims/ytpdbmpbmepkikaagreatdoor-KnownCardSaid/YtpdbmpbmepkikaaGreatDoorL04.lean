/- Laws. -/
import Derived.Conc.CrowdMono
import Derived.Lib.SliceRun
import Derived.Test.YtpdbmpbmepkikaaGreatDoorL03
set_option maxRecDepth 100000
set_option maxHeartbeats 400000
set_option linter.all false
open Go.Proofs.Tryz
open And renaming intro->aM
open Array renaming replicate->uy
open Bool renaming true->Z,false->ai
open Decidable renaming decide->bP
open Exists renaming intro->mC
open Go renaming Goroutine->aX,Frame->aZ,undef->ak,World->ax,Value->az,Program->bZ,execOp->cS,stepG->cj,Sem->cz,Oper->dG,TypeId->dV,Func->dY,yielded->dZ,Trace->eB,Addr->eF,Item->eY,FuncId->fC,binOp->gF,callFunc->iJ,Operand->ja,Event->jq,results->kD,doReturn->oE,underlying->pB
open Go.Act renaming eval->dW,put->dj
open Go.Builtin renaming close_->abV
open Go.CallKind renaming normal->eo
open Go.Code renaming region->dS,seq->eG
open Go.Conc renaming base->bh,Goes->cM,closeEvents->kS,served->kU
open Go.ConcN renaming upd->bE,WgLive->jN
open Go.ConcN.Gen renaming AnchWN->PL
open Go.ConcR renaming mk->jK
open Go.Departure renaming mixedOrders->nM
open Go.Fn renaming func->ei
open Go.Frame renaming enter->eP,finish->uB
open Go.FrameMode renaming returning->fI
open Go.GStep renaming go->bV,ended->fy,after->vT
open Go.GoStatus renaming running->dN
open Go.Instr renaming sureAddr->FB,fieldAt->zL
open Go.IntKind renaming i64->aG
open Go.Item renaming inRegion->aT,code->bF,inBlock->mD
open Go.Next renaming value->gq,enter->jO
open Go.Obj renaming cells->aH
open Go.Op renaming maxDepth->Pu,assign->pA,equalIn->s8
open Go.Operand renaming tmp->cy,const->gO
open Go.Proofs.Tryz renaming f58->Fw,f56->Pt,prog->aD,f41->oG
open Go.Region renaming wanted->eW,ready->jh,schedule->mS
open Go.Region.linearise renaming go->yp
open Go.Result renaming ok->aW,halt->dM
open Go.Sem renaming run->oF
open Go.Value renaming int->Y,slice->aC,pointer->aF,agg->bO,tuple->bQ,bool->cx,func->dF,chan->dc
open Go.World renaming setChan->Fu,cell?->pz
open Go.stepG renaming apply->xA,exec->xz
open List renaming range->mR
open Option renaming some->U,none->V
open Or renaming inr->aB,inl->ay
open Pure renaming pure->bI
open Relation renaming TransGen->uz
namespace Go.Proofs.YtpdbmpbmepkikaaGreatDoor
def NL:=@Go.Conc.goes_oper_e
def EB:=@Go.Conc.enter_at
def Kw:=@Go.Frame.finish_at
def Tf:=@Go.Conc.stepG_oper
def EA:=@Go.Conc.stepG_block
def Te:=@Go.Conc.stepG_loop
def Td:=@Go.Conc.Goes.step
def lR:=@Go.Conc.stepG_skip
def mw:=@Go.ConcN.Gen.kn_rely
def aix:=@Go.Conc.Goes.mono
def Zs:=@Go.Lib.run_eql_slice_nil
def nE:=@Go.Conc.stepG_ret'
def NK:=@Go.Conc.stepG_inBlock
def uc:=@List.all_eq_true
def NJ:=@Go.Sem.run_bind
def x6:=@Ne.symm
def rZ:=@Go.Conc.stepG_value
def ua:=@Go.Conc.stepG_region
def Kv:=@Go.Conc.stepG_cond
def Ez:=@Prod.mk.injEq
def Zr:=@List.take_of_length_le
section
open Go.Proofs Go.Conc Go.RowKit Go.Conc.Lib Go.ConcR.Gen
open Go.ConcN (upd upd_ne upd_same WgLive)
open Go.ConcR (KK WgAt stA smA wgBlock rd wr mk Bk)
variable{K:fK}{C:List aZ}
theorem ar2(B:K.P=aD)(S:K.L=dL){Q:Prop}{s}{a b e8 e9 x1 y1 x2 y2 Q0}{m}{T}(hT:T.size=87)(hs:T[0]?=U (.pointer<|U a)/\T[1]?=U (.pointer b)/\T[2]?=U m/\T[6]?=U (.int .i64 0)/\T[7]?=U (.int .i64 0)/\T[8]?=U (.pointer e8)/\T[9]?=U (.pointer e9)/\T[10]?=U (.pointer Q0)/\T[11]?=U (.func (.func 54) #[] #[.pointer Q0]))(hc:s.v.heap[e8]?=U (.cells #[.chan<|U x1,.chan<|U y1] 114)/\s.v.heap[e9]?=U (.cells #[.chan x2,.chan y2] 114))(c:e8∈(s.D 0).own/\e9∈(s.D 0).own/\e9≠e8)(H:Ok K 0 s<|G ((bh 41).at ⟨T,[]⟩ [.code<|cV 6]) C)(hl:K.live=Z)(sM:K.Wg=Q0){p}(nI:s.md=.opn p)(hp:p<=1)(hV:∀n,V2 n s.D+p<=1)(hA:Dw K.Wg)(hQ:∀t q r gG gA,s.runs K.P t->Ok K 0 t gG->gG.status=.running->(∀M,cj aD Z gG M=.spawn gA (born aD ⟨.fn (.func 56) #[.pointer Q0,.pointer<|U ⟨q,0,V⟩,.pointer<|U ⟨r,0,V⟩],#[]⟩) M #[])->t.md=.opn (p+1)->(t.role=s.role/\t.ch=s.ch/\t.gs.size=s.gs.size/\Left s.cl (λ_=>False) s.v t.v/\(∀x,x<s.v.heap.size->t.cl x=s.cl x)/\∀n,V2 n t.D<=V2 n s.D)->((∀x∈(s.D 0).own,x∈(t.D 0).own)/\∀x∈(s.D 0).own,t.v.heap[x]?=s.v.heap[x]?)->q∈(t.D 0).own/\r∈(t.D 0).own/\s.v<=q/\q<r->t.v.heap[q]?=U (.cells #[.chan<|U x2,.chan<|U y2] 114)/\t.v.heap[r]?=U (.cells #[.func (.func 59) #[.pointer<|U b] #[]] 126)->(∃n l,(∀w,cM aD Z (L<|[]++[]) (DH [] []) (λg w=>g=G ((bh 41).at ⟨l,[]⟩ [.code<|cV 7]) C) n gA w)/\l.size=87/\l[0]?=U (.pointer a)/\l[1]?=U (.pointer b)/\l[2]?=U m/\l[6]?=U (.int .i64 0)/\l[7]?=U (.int .i64 0)/\l[8]?=U (.pointer e8)/\l[9]?=U (.pointer e9)/\l[10]?=U (.pointer Q0)/\l[11]?=U (.func (.func 54) #[] #[.pointer Q0]))->True->Q):Q:=by
 obtain⟨v0,v1,v2,v3,v4,v5,v6,v7,v8,v9,v10,v11,v12,mF,qc,Jh,qb,qa,F6,mE,v20,v21,F5,pZ,v24,QE,QD,QC,v28,Jg,v30,v31,uS,F4,V9,pY,V8,v37,pX,pW,v40,pV,pU,pS,Jf,oa,v46,pR,pQ,v49,QB,v51,V7,v53,xO,pP,nZ,V4,QA,v59,nY,pO,pM,V3,nX,Qv,nW,V0,VZ,VY,v70,Qu,v72,F3,VX,v75,v76,xN,Je,F2,v80,VW,Qs,nV,VV,v85,VU,rfl⟩:=pG T hT;simp only[my,qu,nG,dX]at hs;obtain⟨rfl,rfl,rfl,rfl,rfl,rfl,rfl,rfl,rfl⟩:=hs;simp only[cV,eM,oG,fW]at H;refine H.walk_to [] [e8,e9] rfl (by simp) (λb W=>?_) ⟨660,?_⟩
 .simp only[di,dJ,dQ]at W;rcases W with rfl|rfl;.exact⟨(H.hold.inv.own 0 _ c.1).2,.inl (H.hold.inv.own 0 _ c.1).1⟩
  .exact⟨(H.hold.inv.own 0 _ c.2.1).2,.inl (H.hold.inv.own 0 _ c.2.1).1⟩
 rw[B];have i:=hc;refine lift ?_;u_c I j5 i;u_reg j5 i;u_op j5 i;refine y λ_ f=>?_;replace i:=j5 i f;clear f;u_in j5 i;refine gi rfl rfl (by k_ne) λK u=>?_;have sK:=gC (o:=0) i.2 rfl;have um:=gC (o:=1) i.2 rfl;go_simp;refine u _ _ ⟨⟨rfl,rfl,rfl,rfl,λ_ _=>rfl,λe he=>?_⟩,?_⟩;.have v:=kN he;simp[go_sem, *]at v;rcases v with rfl|rfl<;>exact⟨_,_,rfl,.inr<|by simp⟩
 clear sK um u K;refine lift ?_;u_op j5 i;u_op j5 i;refine y λ_ f=>?_;replace i:=j5 i f;u_in j5 i;refine NL rfl rfl (by k_ne) λK E u hE=>?_;go_simp;refine hE _ _ _ ⟨⟨rfl,rfl,rfl,rfl,λ_ _=>rfl,λe he=>?_⟩,?_⟩;.have v:=kN he;have hz:=λargs w es=>Pj (P:=aD) (args:=args) (w:=w) es func54 ahd rfl;simp[go_sem,hz]at v
 clear u hE K E;rw[EB _ func54 rfl];walk_nrmf f54;refine dH ?_;u_c I j5 i;u_reg j5 i;refine y λQW f=>⟨rfl,λt1 v1 r1 H1 k1 d1 c1=>?_⟩;refine H1.yW rfl rfl (.own 0) (.inl rfl) λq=>?_;co_apply mC;co_apply mC;co_apply aM;.intro M W hR;rw[B];co_apply xq;refine gi rfl rfl (by k_ne) λK u=>?_;go_simp;exact u _ _ ⟨rfl,rfl,oW<|by simp[go_sem]⟩
 intro t2 r2 H2 k2 n12 n22 Yr Yp Ss Q3 n72 n82 n92;refine H2.yW rfl rfl (.own 0) (.inl rfl) λr=>?_;co_apply mC;co_apply mC;co_apply aM;.intro M W hR;rw[B];co_apply xq;refine gi rfl rfl (by k_ne) λK u=>?_;go_simp;exact u _ _ ⟨rfl,rfl,oW<|by simp[go_sem]⟩
 intro t3 r3 H3 k3 n13 n23 Yq Yo Ym Yl n73 n83 n93;refine H3.walk_to [] [] rfl (by simp) (by simp) ⟨660,?_⟩;rw[B];have d:=trivial;refine dH ?_;u_c N A d;u_c I A d;u_reg A d;u_call F1.f_add(nm_add dL)addFn A d;refine y λQW f=>⟨rfl,λX v4 r4 H4 R d4 c4=>?_⟩;have j:=((k1.trans k2).trans k3).trans R;have O:X.md=.opn p:=by rw[j.md,nI]
 have HU:V2 X.gs.size X.D+p<=1:=bC (Nat.add_le_add_right (j.v2 _) p)<|hV _;have J:jN dL.tWg K.Wg X.v:=by have:=H4.hold.inv.live hl;rwa[S]at this
 subst sM;obtain⟨t5,r5,H5,m5,yJ,Da,z5,D,Q2,o5,v5⟩:=H4.add hl O hp HU (by rw[B,S];exact hA _ _ _ _ _ _ _ _ J);refine H5.walk_to [] [] rfl (by simp) (by simp) ⟨660,?_⟩;rw[B];walk_nrm;refine dH ?_;u_c N A d;u_reg A d;u_op A d;refine y λQW f=>⟨rfl,λt6 v6 r6 H6 o d6 c6=>?_⟩;have z:=R.own _<|k3.own _<|Q3 rfl;have Q1:=R.own _<|Yl rfl;have F:=λx k=>by obtain⟨h1,h2⟩:=H4.hold.inv.own 0 x k;exact(o.rest x (cB h2 D.size) ((Q2 x h2).trans h1)<|by simp).trans<|D.block x h2<|.inr<|.inr ⟨0,rfl,h1⟩
 refine hQ t6 q r _ _ ?_ H6 rfl (λM=>aet (d:=⟨.fn (.func 56) #[.pointer<|U ⟨K.Wg,0,V⟩,.pointer<|U ⟨q,0,V⟩,.pointer<|U ⟨r,0,V⟩],#[]⟩) M rfl rfl (by k_ne) ?_ rfl ?_) ?_ ?_ ?_ ?_ ?_ ?_ trivial;.rw[<-B]at r1 r4 r6;exact((((r1.trans r2).trans r3).trans r4).trans r5).trans r6
 .simp[go_sem]
 .simp[go_sem]
 .exact o.md.trans m5
 .refine⟨o.role.trans<|yJ.trans j.role,c6.trans<|Da.trans<|c4.trans<|Ym.trans<|Ss.trans c1,o.size.trans<|z5.trans j.size,(j.left.trans j.cls<|D.sub λ_ h=>h.elim).trans (λx k=>(Q2 x<|cB k j.left.size).trans<|j.cls x k) o.left,λx k=>?_,λn=>bC (o.v2 n)<|bC (v5 n)<|j.v2 n⟩;have h4:=cB k j.left.size;exact(o.cls x<|cB h4 D.size).trans<|(Q2 x h4).trans<|j.cls x k
 .exact⟨λx k=>o.own x<|by rw[o5];exact j.own x k,λx k=>(F x<|j.own x k).trans<|j.rest x (H.hold.inv.own 0 x k).2 (H.hold.inv.own 0 x k).1<|by simp⟩
 .refine⟨o.own _<|by rw[o5];exact z,o.own _<|by rw[o5];exact Q1,?_,?_⟩;.have:=k1.left.size;omega
  .omega
 .exact⟨(F q z).trans<|((k3.trans R).rest q (by omega) Yp<|by simp).trans Yr,(F r Q1).trans<|(R.rest r (by omega) Yo<|by simp).trans Yq⟩
 .refine⟨630,?_⟩;co_apply mC;co_apply aM;.intro w;refine dH ?_;u_c N A d;u_c stepG_end A d;u_leave0 func54 A d;u_c N A d;exact y λ_ _=>rfl
  .exact⟨rfl,rfl,rfl,rfl,rfl,rfl,rfl,rfl,rfl,rfl⟩
end
section
open Go.Proofs Go.Conc
theorem asj{P:bZ}{main:Bool}{b:aZ}{a:Act}{todo:List eY}{cs:List aZ}{w:ax}{c k:Nat}{ds:List Deferred}{E:Array dV}{t:dV}{B:Array Bool}(hd:a.defers=⟨.builtin .close E t B,#[dc<|U c]⟩::ds)(A:P.funcs[b.fn]?.any (·.norace)=ai)(hc:w.heap[c]?=U (.chan 1 #[] ai k k ai)):cj P main (G {b.at a todo with mode:=fI} cs) w=bV (G {b.at ⟨a.tmps,ds⟩ todo with mode:=fI} cs) (w.setChan c 1 #[] Z k k ai) (kS c):=by
 have hr:(abV E t #[dc<|U c]).run P w=aW (bQ #[]) (w.setChan c 1 #[] Z k k ai):=run_close_open E t hc;have he:(abV E t #[dc<|U c]).events P w #[]=kS c:=by rw[events_close_open E t hc];simp[kS]
 have hs:seen P b.fn (kS c)=kS c:=seen_eq A λe he f=>by simp only[kS,fQ,di,dJ,dQ]at he;rcases he with rfl|rfl<;>simp
 simp[G,cj,unwind,callDeferred,Frame.at,hd,invoke,vT,go_sem,hr,he,hs]
end
section
open Go.Conc
open Go.ConcN (sumTo upd sumTo_upd upd_ne upd_same sumTo_congr le_sumTo WSit WgLive RW PayAt Has DWs EvW ShN AsideCell AtR0 RelBy bk_cell)
open Go.ConcR (KK WgAt stA smA wgBlock rd wr mk Bk)
open Go.Conc.Lib (WgLink)
def i(w w1:ax):Prop:=∃τ d,w1=World.re w τ d
def uL(w w':ax)(es:Array jq):Prop:=i w w'
theorem i.refl(w):i w w:=⟨w.tape,w.drawn,rfl⟩
theorem i.trans(a b c)(h:i a b)(k:i b c):i a c:=by obtain⟨g,d,rfl⟩:=h;obtain⟨f,e,rfl⟩:=k;exact⟨f,e,rfl⟩
theorem i.heap{w w1}(h:i w w1):w1.heap=w.heap:=by obtain⟨a,d,rfl⟩:=h;rfl
def nt(P:bZ)(Done:aX->ax->Prop):Prop:=∀g w τ d,Done g w->∃o w1 es,cj P Z g (World.re w τ d)=fy o w1 es
theorem aEn(P)(R):nt P<|Br P R:=by rintro g w a d⟨v,rfl,_⟩;exact Mr v _
def me(P:bZ)(Done:aX->ax->Prop)(x y:aX×ax):Prop:=x=y\/uz (qN P Done) x y
theorem me.refl{P}{Done}(x):me P Done x x:=ay rfl
theorem me.trans{P}{Done}{x y z}(h:me P Done x y)(k:me P Done y z):me P Done x z:=by
 rcases h with rfl|h;.exact k
 .rcases k with rfl|k;.exact aB h
  .exact aB<|h.trans k
theorem me.wF{P}{Done}{x y z}(h:me P Done x y)(k:uz (qN P Done) y z):uz (qN P Done) x z:=by
 rcases h with rfl|h;.exact k
 .exact h.trans k
theorem me.of{P}{Done}{x y z}(h:uz (qN P Done) x y)(k:me P Done y z):uz (qN P Done) x z:=by
 rcases k with rfl|k;.exact h
 .exact h.trans k
variable {P:bZ} {Done Stop:aX->ax->Prop} {D:ax->ax->Array jq->Prop} {S:ax->ax->Prop}
theorem Term.goes(v:nt P Done)(j:∀w,S w w)(d:∀a b c,S a b->S b c->S a c)(x:∀a b,i a b->S a b)(y:∀a b m,D a b m->S a b):∀{n:Nat}{g:aX}{w:ax},cM P Z i D Stop n g w->Term P Done g w->∃l Q0,Stop l Q0/\Term P Done l Q0/\me P Done (l,Q0) (g,w)/\S w Q0
 |0,g,w,r,p=>⟨g,w,r w<|.refl w,p,.refl _,j w⟩|n+1,g,w,r,p=>by
  rcases r with B|⟨_,h⟩;.exact⟨g,w,B w<|.refl w,p,.refl _,j w⟩
  have k:i w<|World.re w w.tape 0:=⟨_,_,rfl⟩;have q:=h _ k;cases p with|done s=>obtain⟨o,Q0,m,e⟩:=v g w w.tape 0 s;rw[e]at q;exact q.elim|step f I t=>
   obtain⟨⟨m,e⟩,_⟩:=I w.tape;rw[e,eH]at q;obtain⟨C,H⟩:=q;obtain⟨l,Q0,J,A,E,F⟩:=Term.goes v j d x y H<|t w.tape;have u:¬Done g w:=λs=>by obtain⟨o,L,z,K⟩:=v g w w.tape 0 s;grind
   exact⟨l,Q0,J,A,E.trans<|aB<|.single ⟨u,w.tape,m,e⟩,d _ _ _ (x _ _ k)<|d _ _ _ (y _ _ _ C) F⟩
theorem Term.Gr(l:nt P Done){g}{w}(h:∀b,∀j d a,cj P Z g (World.re w b 0)≠bV j d a)(c:¬Done g w)(t:Term P Done g w):False:=by cases t with|done k=>grind|step f i t=>obtain⟨⟨a,e⟩,_⟩:=i w.tape;grind
variable {K:fK} {ρ:Nat->Nat} {I:H} {cl:Nat->fe} {w w1 v:ax}
theorem fM.re(M:fM ρ I K.P cl w v)(h:i w w1):fM ρ I K.P cl w1 v:=by obtain⟨a,d,rfl⟩:=h;exact⟨M.os,M.fair,M.low,M.blk,M.kB,M.CQ,M.cls,M.arg⟩
variable{K:fK}{role:Nat->Option fG}{h j:Nat}
structure wh(K:fK)(s:St)(a:aX):Prop where
 hold:cQ K s.role 0 s.md s.ch s.cl (.hold 0) s.D s.T s.gs s.v
 mI:s.gs[0]?=U a
 deaf:(s.D 0).deaf=0
 nine:(s.D 0).stage=9
 opn:∃p,s.md=.opn p
theorem Ok.Gk{s}{a}(H:Ok K 0 s a):wh K s a:=⟨H.hold,H.mI,H.deaf,H.nine,H.opn⟩
structure Mc(O:List Nat)(s t:St):Prop where
 size:t.gs.size=s.gs.size
 role:t.role=s.role
 md:t.md=s.md
 left:Left s.cl (λ_=>False) s.v t.v
 cls:∀b,b<s.v.heap.size->t.cl b=s.cl b
 rest:Rest 0 O s.cl s.v t.v
 D0:t.D 0=s.D 0
 eZ:∀j r,s.role j=U r->j≠0->t.ch r.aO.c=s.ch r.aO.c
 outs:∀j r,s.role j=U r->j≠0->(t.D j).stage=9->t.ch r.out=s.ch r.out/\(s.D j).stage=9
theorem Mc.trans{O}{s t u}(a:Mc O s t)(b:Mc O t u):Mc O s u:=⟨b.size.trans a.size,b.role.trans a.role,b.md.trans a.md,a.left.trans a.cls b.left,λx e=>(b.cls x<|cB e a.left.size).trans<|a.cls x e,a.rest.trans a.left.size a.cls b.rest,b.D0.trans a.D0,λj r c d=>(b.eZ j r (by rw[a.role];exact c) d).trans<|a.eZ j r c d,λj r c d f=>by obtain⟨x,y⟩:=b.outs j r (by rw[a.role];exact c) d f;obtain⟨z,t⟩:=a.outs j r c d y;grind⟩
theorem wh.walk_to{Q}{s}{a}(H:wh K s a)(O Rd)(J:∀b∈O,b∈(s.D 0).own)(d:∀b∈Rd,b<s.v.heap.size/\(s.cl b=.own 0\/s.cl b=.eV))(f:∃n,cM K.P Z (L<|O++Rd) (DH O Rd) (λg w=>g.status=dN/\∀t,t.v=w->s.runs K.P t->wh K t g->Mc O s t->Q) n a s.v):Q:=by obtain⟨n,f⟩:=f;obtain⟨N,m,l,k,B,F,e,C,y,Q0,I,u,q,E,G,p,R⟩:=cQ.walk (h:=0) (λg w x=>x.1) (λ_=>rfl) n (sl:=s.sl) H.hold H.mI f J (λb A=>⟨(d b A).1,(d b A).2.imp id λx=>⟨x,rfl⟩⟩) (λx=>absurd rfl x) H.deaf;have c:=G.qn H.opn;exact q.2 ⟨s.role,m,l,k,B,F,e,C,y⟩ rfl ⟨N,I⟩ ⟨E,u,(congrArg dn.deaf p).trans H.deaf,(congrArg dn.stage p).trans H.nine,⟨_,c.trans H.opn.choose_spec⟩⟩ ⟨G.size,rfl,c,G.left,G.cls,R,p,λj r i o=>G.eZ j r i o,λj r i o z=>⟨G.outs j r i z,G.iF j o z⟩⟩
structure kV(role:Nat->Option fG)(i1 i2:Nat)(r1 r2:fG):Prop where
 one:role i1=U r1
 two:role i2=U r2
 all:∀i r,role i=U r->i=0\/i=i1\/i=i2
 ne:i1≠i2
 yO:i1≠0
 oh:i2≠0
 cc:r1.aO.c≠r2.aO.c
 PT:r1.aO.c≠r1.out
 LJ:r1.aO.c≠r2.out
 LI:r2.aO.c≠r1.out
 Dd:r2.aO.c≠r2.out
 oo:r1.out≠r2.out
theorem kV.swap{c d}{b a}(p:kV role c d b a):kV role d c a b:=⟨p.two,p.one,λi r e=>(p.all i r e).imp id Or.symm,p.ne.symm,p.oh,p.yO,p.cc.symm,p.Dd,p.LI,p.LJ,p.PT,p.oo.symm⟩
theorem kV.F0{d e}{c b}(p:kV role d e c b){i}{r}(a:role i=U r)(f:i≠0):i=d/\r=c\/i=e/\r=b:=by
 rcases p.all i r a with h|rfl|rfl;.grind
 .rw[p.one]at a;grind
 .rw[p.two]at a;grind
theorem wh.amH{Q:Prop}{s}{a g'}(H:wh K s a)(hl:K.live=Z){i1 m}{r1 f}(p:kV s.role i1 m r1 f)(z:i1<s.gs.size)(o:a.status=dN)(y:mayWake K.P a=Z)(A:g'.status=dN)(g:∀u k,u.heap[r1.aO.c]?=U (.chan 1 #[] ai k k ai)->cj K.P Z a u=bV g' (u.setChan r1.aO.c 1 #[] Z k k ai) (kS r1.aO.c)){k}(hc:s.ch r1.aO.c=U ⟨V,ai,k⟩)(W:(s.D i1).stage=9->∃k,s.ch r1.out=U ⟨V,ai,k⟩)(hQ:∀t,s.runs K.P t->wh K t g'->t.role=s.role->t.md=s.md->t.gs.size=s.gs.size->Left s.cl (λ_=>False) s.v t.v->(∀b,b<s.v.heap.size->t.cl b=s.cl b)->L (s.D 0).own s.v t.v->(t.D 0).own=(s.D 0).own->t.ch r1.aO.c=U ⟨V,Z,k⟩->t.ch f.aO.c=s.ch f.aO.c->((t.D m).stage=9->t.ch f.out=s.ch f.out/\(s.D m).stage=9)->Q):Q:=by
 obtain⟨N,C,E,B,l,T',x,X,M,q1,q2,q3,I,J,q6,c,T,w,F⟩:=H.hold.aFb (j:=i1) (r:=r1) (k:=k) hl H.mI o y A (λu S=>g u k S) hc p.yO p.one z (λi R d q e=>by
   rcases p.F0 d q with⟨rfl,rfl⟩|⟨rfl,rfl⟩;.rfl
   .exact absurd e.symm p.cc) (λi R d q e=>by
   rcases p.F0 d q with⟨rfl,rfl⟩|⟨rfl,rfl⟩;.exact p.PT e.symm
   .exact p.LJ e.symm) (λi i' r R Q0 d q Q1 e=>by
   rcases p.F0 Q0 q with⟨rfl,rfl⟩|⟨rfl,rfl⟩<;>rcases p.F0 d Q1 with⟨rfl,rfl⟩|⟨rfl,rfl⟩;.exact p.PT e
   .exact p.LI e
   .exact p.LJ e
   .exact p.Dd e) W H.deaf s.sl;have n:=w.md H.opn;refine hQ ⟨s.role,C,E,B,l,T',x,X,M⟩ ⟨N,q1⟩ ⟨q2,q3,(congrArg dn.deaf I).trans H.deaf,(congrArg dn.stage I).trans H.nine,⟨_,n.trans H.opn.choose_spec⟩⟩ rfl n w.size w.left w.cls F (congrArg dn.own I) J (q6 m f p.two p.oh p.ne.symm) λO=>⟨c m f p.two p.oh O,T m p.oh O⟩
theorem wh.aoW{Q:Prop}{s}{a S}(H:wh K s a)(y:K.live=Z)(B:s.md=.opn 0)(hs:Bv s.role s.ch)(ho:Over K.n0 s.T)(oZ:∀i r,s.role i=U r->i<s.gs.size){Hd}(q:∀g w,Hd g w->∃m,GQ K.P K.L K.Wg (VB K.P K.L K.Wg Hd S) m g w)(C:anH K.P K.L K.Wg Hd a s.v)(hQ:∀e t,s.runs K.P t->Ok e 0 t S->e.P=K.P->e.L=K.L->e.live=ai->Over e.n0 t.T->t.T.HandedOver->(∀i,t.role i=V)->t.md=.opn 0->Left s.cl (λ_=>False) s.v t.v->(∀b,b<s.v.heap.size->∀c,c=.eV\/c=.old->s.cl b=c->t.cl b=c)->t.gs.size=s.gs.size->Q):Q:=by have L:=H.hold;rw[B]at L;obtain⟨m,C⟩:=C;obtain⟨N1,T,pD,ie,D1,T1,J,v1,qg,a1,fn1,pl1,O,q2,⟨m2,q3⟩,q4,f,q6,q7,q8⟩:=L.MP y H.mI (ay rfl) C s.sl;have k:=q7 ⟨0,rfl⟩;subst k;obtain⟨N2,qG,l7,D2,T2,xp,v2,u,a2,Q0,w2,w3,X,n,W,w7⟩:=cQ.waitLoop y q (V2 J.size D1) (sl:=qg) (aQ _) q4 (hs.later f.eZ) q2 (by rw[q6,H.deaf];rfl) q3;obtain⟨u1,e1⟩:=MT N1 _ _ _ _ O;obtain⟨u2,e2⟩:=MT N2 _ _ _ _ Q0;have F:=n.size.trans f.size;obtain⟨N3,e,E,R,T3,x,v3,A,z1,z2,z3,z4,Y,z6,z7,z8,z9,z,M,D,N⟩:=X.joined y (by rw[e2,e1];exact(ho.app _).app _) λi r hr=>by grind w2 w3 W (λi I p=>w7 i I<|by rw[<-n.size];exact p) u;have d:=λb l=>(n.cls b<|cB l f.left.size).trans<|f.cls b l;have o:Left s.cl (λ_=>False) s.v v2:=(f.left.sub λ_ h=>h.elim).trans f.cls<|n.left.sub λ_ h=>h.elim;refine hQ e ⟨λ_=>V,.opn 0,λ_=>V,E,R,T3,x,v3,A⟩ ⟨_,runNT_then O<|runNT_then Q0 z1⟩ ⟨z3,z2,λ_ _ h=>(by cases h),?_,D,⟨0,rfl⟩,λ_=>rfl⟩ z4 Y z6 z7 z8 (λ_=>rfl) rfl (o.trans d z9) (λb l c hx I=>z b (cB l o.size) c hx<|(d b l).trans I)<|N.trans F;show(R 0).stage=9;rw[M,n.stage,f.stage];exact H.nine
theorem Ok.auk{Q:Prop}{s}{a}{j n}{g h rm}(H:Ok K j s a)(W:K.live=Z)(p:kV s.role j n g h)(y:s.role 0=U rm)(E:rm.aO.c=g.out)(I:Ag K.P K.L K.Wg g (s.D j).own a s.v)(R:g.C∈(s.D j).own){k k1}(T:s.ch g.out=U ⟨V,ai,k⟩)(r:s.ch g.aO.c=U ⟨V,ai,k1⟩)(O:rm.out≠g.out)(X:∀t m,s.runs K.P t->wh K t (kU m<|recvd rm.aO.ok rm.aO.z ai)->rm.aO.home (t.D 0).own m t.v->t.role=s.role->t.md=s.md->t.gs.size=s.gs.size->Left s.cl (λ_=>False) s.v t.v->(∀b,b<s.v.heap.size->t.cl b=s.cl b)->t.ch g.aO.c=s.ch g.aO.c->t.ch h.aO.c=s.ch h.aO.c->(t.D j).stage≠9->((t.D n).stage=9->t.ch h.out=s.ch h.out)->Q):Q:=by
 obtain⟨N,w,x,u,M,C,o,S,B,m,q,F⟩:=H.hold.aun (rm:=rm) (k:=k) (kr:=k1) H.wM W p.one y p.yO I H.mI E T H.nine H.deaf R (λi A f L e=>by
   rcases p.all i A f with rfl|rfl|rfl;.rfl
   .grind
   .rw[p.two]at f;cases f;exact absurd e p.LI) (λi A f L e=>by
   rcases p.all i A f with rfl|rfl|rfl;.grind
   .grind
   .rw[p.two]at f;cases f;exact p.oo e.symm) H.hold.inv.zero r s.sl;have l:=F.passed.md H.opn;refine X ⟨s.role,w,x,u,M,C,o,S,B⟩ m ⟨N,q⟩ ⟨F.hold,F.mI,F.deaf,F.nine,⟨_,l.trans H.opn.choose_spec⟩⟩ F.home rfl l F.passed.size F.passed.left F.passed.cls ?_ ?_ (λe=>?_) λJ=>?_;.have e:=F.eZ j g p.one;rw[cX s.ch _ p.PT]at e;exact e
 .have e:=F.eZ n h p.two;rw[cX s.ch _ p.LI]at e;exact e
 .have:=F.iF j e;grind[upd_same]
 .have e:=F.outs n h p.two J;rw[cX s.ch _ p.oo.symm]at e;exact e
end
section
open Go.Proofs Go.Conc Go.RowKit Go.Conc.Lib Go.ConcR.Gen
open Go.ConcN (upd upd_ne upd_same WgLive)
open Go.ConcR (KK WgAt stA smA wgBlock rd wr mk Bk)
noncomputable def bot:aZ:={(default:aZ)with fn:=aD.funcs.size,defers:=[],mode:=.panicking [goexitEntry]}
def LP:aZ:=baseD 56
noncomputable def acE:Code:=Pt.body.getD .skip
def call56(bw b2 b3:Nat):Deferred:=⟨.fn (ei 56) #[aF<|U ⟨bw,0,V⟩,aF<|U ⟨b2,0,V⟩,aF<|U ⟨b3,0,V⟩],#[]⟩
theorem aFH(b a b3)(w):cj aD ai (born aD<|call56 b a b3) w=bV (G (LP.at ⟨#[aF b,aF a,aF b3,ak,ak,ak],[]⟩ [bF acE]) [bot]) w #[]:=by simp[born,call56,cj,unwind,callDeferred,invoke,iJ,func56,Pt,seen,vT,G,eP,Frame.at,LP,baseD,bot,acE]
theorem avR(T):QuitsD aD 2 0<|G {LP.at ⟨T,[]⟩ []with mode:=fI} [bot]:=by
 refine QuitsD.ctl (g':=G bot []) rfl (λw=>?_) ?_;.simp[G,cj,unwind,oE,kD,Frame.at,LP,baseD,bot,func56,Pt,seen,vT,goexitEntry]
 refine QuitsD.ctl (g':={G bot []with status:=.finished}) rfl (λw=>?_) ⟨rfl,rfl⟩;simp[G,cj,unwind,bot,goexitEntry,Frame.catches];rfl
theorem uZ{x y}{o o'}{w w1}(h:w.heap[x]?=U o/\w.heap[y]?=U o')(r:L [x,y] w w1):w1.heap[x]?=U o/\w1.heap[y]?=U o':=⟨(r.1 x<|by simp).trans h.1,(r.1 y<|by simp).trans h.2⟩
theorem axh:(Fw.name== "runtime.NumGoroutine")=ai:=by kernel_rfl
noncomputable def jy(a:eF):az:=dF (ei 59) #[aF<|U a] #[]
noncomputable def agJ:Array dG:=match Pt.body.getD .skip with|eG _<|dS _ ops _=>ops|_=>#[]
noncomputable def uR(bw b2 b3 x1 y1:Nat)(a:eF):List aZ:=[LP.at ⟨#[aF<|U ⟨bw,0,V⟩,aF<|U ⟨b2,0,V⟩,aF<|U ⟨b3,0,V⟩,bO #[dc<|U x1,dc<|U y1],jy a,ak],[dcall 57 #[aF<|U ⟨bw,0,V⟩]]⟩ [aT agJ [2]],bot]
def UK(y:Nat):Deferred:=⟨.builtin .close #[112] 0 #[ai],#[dc<|U y]⟩
theorem asl{P}{main}{b:aZ}{a}{k}{cs}{w}{ops}{i}{rest}{o}{t}{c}(h:ops[i]?=U o)(g:eW o (dZ ops a.tmps)=Z)(m:b.kind≠.early)(e:o.op=.defer {callee:=.builtin .close,args:=#[cy t],argTypes:=c}):cj P main (G (b.at a<|aT ops (i::rest)::k) cs) w=bV (G (b.at (dj ⟨a.tmps,⟨.builtin .close c o.type #[ai],#[a.eval<|cy t]⟩::a.defers⟩ o.dst ak)<|aT ops rest::k) cs) w #[]:=by
 have j:(cS a.eval o).run P w=aW (.defer ⟨.builtin .close c o.type #[ai],#[a.eval<|cy t]⟩) w:=by unfold cS;simp[e,resolve]
 have l:(cS a.eval o).events P w #[]=#[]:=by unfold cS;simp[e,resolve]
 have d:(b.at ⟨a.tmps,⟨.builtin .close c o.type #[ai],#[a.eval<|cy t]⟩::a.defers⟩<|aT ops (i::rest)::k).finish ak=b.at (dj ⟨a.tmps,⟨.builtin .close c o.type #[ai],#[a.eval<|cy t]⟩::a.defers⟩ o.dst ak) (aT ops rest::k):=by grind[Frame.finish_at]
 have f:(b.kind==CallKind.early)=ai:=by grind
 rw[Tf h g,<-d];simp[xA,j,l,G,Frame.at,f,vT,seen_none]
theorem af2{main}{b:aZ}{T}{ds}{k}{cs}{ops}{i}{rest}{o}{t}{x}(f:ops[i]?=U o)(d:eW o (dZ ops T)=Z)(e:b.kind≠.early)(a:o.op=.recv 112 (cy t) Z)(c:T[t]?=U (dc<|U x))(w):cj aD main (G (b.at ⟨T,ds⟩<|aT ops (i::rest)::k) cs) w=.comm (G (b.at ⟨T,ds⟩<|aT ops (i::rest)::k) cs) #[rcase x<|aC V 0 0] Z (.recv Z) w #[]:=by
 have g:(cS (dW ⟨T,ds⟩) o).run aD w=aW (.comm #[rcase x<|aC V 0 0] Z<|.recv Z) w:=by unfold cS;simp[a,go_sem,c,rcase]
 have h:(cS (dW ⟨T,ds⟩) o).events aD w #[]=#[]:=by unfold cS;simp[a,go_sem,c]
 rw[stepG_comm f d e g,oW h]
theorem afl{main}{b:aZ}{T}{ds}{k}{cs}{ops}{i}{rest}{o}{t u}{x}{v}(g:ops[i]?=U o)(e:eW o (dZ ops T)=Z)(f:b.kind≠.early)(a:o.op=.send (cy t) (cy u))(d:T[t]?=U (dc<|U x))(c:T[u]?=U v)(w):cj aD main (G (b.at ⟨T,ds⟩<|aT ops (i::rest)::k) cs) w=.comm (G (b.at ⟨T,ds⟩<|aT ops (i::rest)::k) cs) #[scase x v<|bQ #[]] Z .send w #[]:=by
 have h:(cS (dW ⟨T,ds⟩) o).run aD w=aW (.comm #[scase x v<|bQ #[]] Z .send) w:=by unfold cS;simp[a,go_sem,d,c,scase]
 have j:(cS (dW ⟨T,ds⟩) o).events aD w #[]=#[]:=by unfold cS;simp[a,go_sem,d,c]
 rw[stepG_comm g e f h,oW j]
noncomputable def B2:Code:=match eM 3 (Fw.body.getD .skip)with|.block _<|.loop c=>c|c=>c
noncomputable def Si:Array dG:=match B2 with|eG (dS _ ops _) _=>ops|_=>#[]
noncomputable def Tn:List eY:=[bF<|eM 1 B2,.inLoop B2,mD 0]
def aak(C:List aZ)(a:eF)(b3 x1 y1:Nat)(O:List Nat)(g2:aX)(w:ax):Prop:=∃bx T,g2=G ((bh 58).at ⟨T,[UK y1]⟩<|aT Si [0,1]::Tn) C/\T.size=21/\(T[1]?=U (jy a)/\T[2]?=U (aF<|U ⟨bx,0,V⟩)/\T[9]?=U (dc<|U x1))/\(w.heap[bx]?=U (aH #[dc<|U x1,dc<|U y1] 114)/\w.heap[b3]?=U (aH #[jy a] 126))/\bx∈O/\b3∈O
def LD(C:List aZ)(a:eF)(b3 x1 y1:Nat):I7 where c:=x1;z:=aC V 0 0;ok:=Z;home:=aak C a b3 x1 y1;MD O g w w1 r h:=by obtain⟨bx,T,h1,h2,h3,⟨h4,A⟩,U,E⟩:=h;exact⟨bx,T,h1,h2,h3,⟨(r.1 bx U).trans h4,(r.1 b3 E).trans A⟩,U,E⟩
theorem ank{C}{a}{b b3 x1 c}{O}{w}{T}(g:T.size=21)(hs:T[1]?=jy a/\T[2]?=U (.pointer b)/\T[9]?=U (.chan x1))(d:(w.heap[b]?=U (.cells #[.chan x1,.chan c] 114)/\w.heap[b3]?=U (.cells #[jy a] 126))/\b∈O/\b3∈O):∃e,AtR aD ai (LD C a b3 x1 c) O (G ((bh 58).at ⟨T,[UK c]⟩<|.inRegion Si [0,1]::Tn) C) e w:=⟨_,rfl,rfl,rfl,rfl,⟨b,T,rfl,g,hs,d.1,d.2⟩,λf=>af2 rfl rfl (by k_ne) rfl hs.2.2 f⟩
theorem jb{x y}{O}{o o'}{w w1}(h:(w.heap[x]?=U o/\w.heap[y]?=U o')/\x∈O/\y∈O)(r:L O w w1):(w1.heap[x]?=U o/\w1.heap[y]?=U o')/\x∈O/\y∈O:=⟨⟨(r.1 x h.2.1).trans h.1.1,(r.1 y h.2.2).trans h.1.2⟩,h.2⟩
theorem aDk{C}{a}{d b3 x1 j}{O}{ops}{w}(b:(w.heap[d]?=U (.cells #[.chan x1,.chan j] 114)/\w.heap[b3]?=U (.cells #[jy a] 126))/\d∈O/\b3∈O):cM aD ai (L O) (DO O) (λg w=>∃m,AtR aD ai (LD C a b3 x1 j) O g m w) 40 (G ((bh 58).at ⟨#[.agg #[.chan x1,.chan j],jy a,.pointer<|U ⟨d,0,V⟩,ak,ak,ak,ak,ak,ak,ak,ak,ak,ak,ak,ak,ak,ak,ak,ak,ak,ak],[]⟩ [.inRegion ops [],.code<|eM 1<|Fw.body.getD .skip]) C) w:=by
 simp only[eM,Fw,fW];refine kK (n:=4) ?_;u_c N jb b;u_c I jb b;u_reg jb b;u_op jb b;refine y λ_ c=>?_;replace b:=jb b c;u_in jb b;refine gi rfl rfl (by k_ne) λK f=>?_;have l:=gC (o:=1) b.1.1 rfl;go_simp;refine f _ _ ⟨⟨rfl,rfl,rfl,rfl,rfl,λ_ _=>rfl,λe i=>?_⟩,?_⟩;.have h:=kN i;simp[go_sem, *]at h;grind
 u_in jb b;rw[asl rfl rfl (by k_ne) rfl];simp only[eH];refine⟨abL<|by simp,?_⟩;walk_nrm;refine kK (n:=4) ?_;u_c N jb b;u_c I jb b;u_reg jb b;u_op jb b;refine y λ_ c=>?_;replace b:=jb b c;u_in jb b;refine gi rfl rfl (by k_ne) λK f=>?_;have k:=gC (o:=0) b.1.1 rfl;go_simp;refine f _ _ ⟨⟨rfl,rfl,rfl,rfl,rfl,λ_ _=>rfl,λe i=>?_⟩,?_⟩;.have h:=kN i;simp[go_sem, *]at h;grind
 refine dH ?_;u_c N jb b;u_c EA jb b;u_c Te jb b;u_c I jb b;u_reg jb b;refine y λo n=>?_;exact ank rfl ⟨rfl,rfl,rfl⟩<|jb b n
theorem are{a}{m f b3 x1 k}{w}(b:w.heap[f]?=U (.cells #[.chan x1,.chan k] 114)/\w.heap[b3]?=U (.cells #[jy a] 126)):cM aD ai (L [f,b3]) (DO [f,b3]) (AtB aD (LD (uR m f b3 x1 k a) a b3 x1 k) 40 [f,b3]) 30 (born aD<|call56 m f b3) w:=by
 refine Td rfl λn c=>?_;replace b:=uZ b c;rw[aFH];refine⟨abL<|by simp,?_⟩;simp only[acE,Pt,fW];refine kK (n:=5) ?_;u_c I uZ b;u_reg uZ b;u_defer uZ b;u_c N uZ b;u_reg uZ b;refine y λ_ c=>?_;replace b:=uZ b c;u_in uZ b;refine gi rfl rfl (by k_ne) λK d=>?_;have j:=gC (o:=0) b.1 rfl;have o:=gC (o:=1) b.1 rfl;go_simp;refine d _ _ ⟨⟨rfl,rfl,rfl,rfl,rfl,λ_ _=>rfl,λe i=>?_⟩,?_⟩;.have g:=kN i;simp[go_sem, *]at g;grind
 u_in uZ b;refine gi rfl rfl (by k_ne) λK d=>?_;have j:=gC (o:=0) b.2 rfl;go_simp;refine d _ _ ⟨⟨rfl,rfl,rfl,rfl,rfl,λ_ _=>rfl,λe i=>?_⟩,?_⟩;.have g:=kN i;simp[go_sem, *]at g;grind
 u_in uZ b;refine NL rfl rfl (by k_ne) λK E d u=>?_;go_simp;refine u _ _ _ ⟨⟨rfl,rfl,rfl,rfl,rfl,λ_ _=>rfl,λe i=>?_⟩,?_⟩;.have g:=kN i;have q:=λargs w p=>Pj (P:=aD) (args:=args) (w:=w) p func58 axh rfl;simp[go_sem,q]at g
 rw[EB _ func58 rfl];walk_nrmf Fw;refine dH ?_;u_c I uZ b;u_reg uZ b;refine y λv r=>?_;replace b:=uZ b r;refine⟨rfl,?_⟩;co_apply mC;intro x t;co_apply mC;co_apply aM;case h.h.right=>
  co_apply aM;case left=>co_apply xq;refine gi rfl rfl (by k_ne) λK d=>?_;go_simp;exact d _ _ ⟨rfl,rfl,oW<|by simp[go_sem]⟩
  case right=>have s:=uZ b t;refine aDk ⟨⟨by simp,?_⟩,by simp,by simp⟩;grind
 case h.h.left=>rfl
theorem asS{a}{d b b3 x1 c}{w}(e:w.heap[b]?=U (.cells #[.chan x1,.chan c] 114)/\w.heap[b3]?=U (.cells #[jy a] 126)):rH aD ai (LD (uR d b b3 x1 c a) a b3 x1 c) 73 [b,b3] (born aD<|call56 d b b3) w:=.inr<|.inl ⟨30,40,rfl,rfl,are e⟩
theorem MN{b:aZ}{a}{ops}{i}{rest}{k}{cs}(v):kU (G (b.at a<|aT ops (i::rest)::k) cs) v=G (b.at (a.put (ops[i]?.bind (·.dst)) v)<|aT ops rest::k) cs:=by simp[kU,G,Kw]
noncomputable def Tp:Code:=match eM 2 B2 with|.block _ c=>c|c=>c
noncomputable def X5:Array dG:=match eM 1 Tp with|eG (dS _ ops _) _=>ops|_=>#[]
noncomputable def ZA:List eY:=[bF<|eM 2 Tp,mD 1,.inLoop B2,mD 0]
noncomputable def LG(T:Array az)(y1:Nat):aZ:=(bh 58).at ⟨T,[UK y1]⟩<|aT X5 [2,3]::ZA
theorem axg:(f59.name== "runtime.NumGoroutine")=ai:=by kernel_rfl
section
variable {K:fK} {C:List aZ}
theorem arJ(o:K.P=aD){Q:Prop}{s}{h}(Y:h≠0){a}{b3 x1 g}{p}{x}(M:aak C a b3 x1 g (s.D h).own p s.v)(H:Ok K h s<|kU p<|recvd Z x Z)(O:∀t T f,s.runs K.P t->Ok K h t (r (eP aD 59 #[.pointer a,x] .normal)<|LG T g::C)->Kept h [] s t->t.D h=s.D h->t.ch=s.ch->T.size=21->T[1]?=jy a/\T[2]?=U (.pointer f)/\T[9]?=U (.chan x1)->(t.v.heap[f]?=U (.cells #[.chan x1,.chan g] 114)/\t.v.heap[b3]?=U (.cells #[jy a] 126))/\f∈(t.D h).own/\b3∈(t.D h).own->Q):Q:=by
 obtain⟨f,T,rfl,L,l,q,k,i⟩:=M;obtain⟨v0,X,v2,v3,v4,v5,v6,v7,v8,v9,v10,F,v12,mF,D,J,S,V,Q0,mE,W,rfl⟩:=Vb T L;simp only[my,qu,nG,dX]at l;obtain⟨rfl,rfl,rfl⟩:=l;have j:(h==0)=ai:=by simp[Y]
 rw[MN]at H;simp only[Si,Tn,B2,eM,Fw,fW,recvd,gL]at H;refine H.walk_to [] [] j (by simp) (by simp) ⟨30,?_⟩;rw[o];have c:=trivial;walk_nrm;refine kK (n:=15) ?_;u_op A c;u_c N A c;u_c I A c;u_cond Z A c;u_c lR A c;u_c EA A c;u_c I A c;u_reg A c;u_op A c;u_op A c;u_c N A c;u_c I A c;u_reg A c;u_op A c;u_op A c;refine y λ_ d=>?_;replace c:=A c d;u_in A c;simp only[jy];refine NL rfl rfl (by k_ne) λK E hK R=>?_;go_simp;refine R _ _ _ ⟨⟨rfl,rfl,rfl,rfl,λ_ _=>rfl,λe he=>?_⟩,?_⟩;.have j:=kN he;have m:=λargs w B=>Pj (P:=aD) (args:=args) (w:=w) B func59 axg rfl;simp[go_sem,m]at j
 refine y λz d=>⟨rfl,λt X n Q1 u Q2 c1=>?_⟩;have v:=λb Q3=>u.rest b (H.hold.inv.own h b Q3).2 (H.hold.inv.own h b Q3).1 (by simp);rw[<-o]at n;refine O t _ f n Q1 u Q2 c1 rfl ⟨rfl,rfl,rfl⟩ ⟨⟨(v _ k).trans q.1,(v _ i).trans q.2⟩,by grind,by grind⟩
end
end
section
open Go.Conc Go.RowKit Go.Conc.Lib Go.ConcR.Gen
open Go.ConcN (WgLive RW Has DWs EvW AtR0)
open Go.ConcN.Gen (WgLive.cell0 WgLive.cell1 kn_rely doneN)
open Go.ConcR (KK WgAt stA smA wgBlock rd wr mk Bk DC0)
theorem abp{P:bZ}{main:Bool}{R:ax->ax->Prop}(p:∀a,R a a)(l:∀a b c,R a b->R b c->R a c){v:ax->ax->Array jq->Prop}{y s:aX->ax->Prop}(j:∀g w A,cj P main g w=bV A w #[]->¬s g w):∀{m n:Nat}{g:aX}{w:ax},cM P main R DC0 y m g w->cM P main R v s n g w->cM P main R DC0 (λg w=>y g w/\∃n,cM P main R v s n g w) m g w
 |0,n,g,w,q,o=>λi r=>⟨q i r,n,o.rely l r⟩|m+1,n,g,w,q,o=>by
  rcases q with u|⟨C,e⟩;.exact ay λi r=>⟨u i r,n,o.rely l r⟩
  .refine aB ⟨C,λi r=>?_⟩;have h:=e i r;have k:=o.rely l r;cases f:cj P main g i with
   |go A x D=>rw[f,eH]at h;rw[eH];obtain⟨⟨rfl,rfl⟩,B⟩:=h;have d:=f;cases n with|zero=>exact absurd (k x<|p _)<|j _ _ _ d|succ n=>
     rcases k with u|⟨_,t⟩;.grind
     .have z:=t x<|p _;rw[d,eH]at z;exact⟨⟨rfl,rfl⟩,abp p l j B z.2⟩
   |_=>rw[f]at h;exact h.elim
theorem ak6{P:bZ}{main:Bool}{R:ax->ax->Prop}(d:∀a,R a a){S:aX->ax->Prop}:∀{m:Nat}{g:aX}{w:ax},cM P main R DC0 S m g w->∃e,S e w
 |0,g,w,h=>⟨g,h w<|d w⟩|m+1,g,w,h=>by
  rcases h with i|⟨k,b⟩;.exact⟨g,i w<|d w⟩
  .have h:=b w<|d w;cases c:cj P main g w with|go e j l=>rw[c,eH]at h;obtain⟨⟨rfl,rfl⟩,f⟩:=h;exact ak6 d f|_=>rw[c]at h;exact h.elim
section
variable {P:bZ} {L:WgLink} {Wg C n Low k:Nat} {val:az} {c:aZ} {cs:List aZ}
def aG6(P:bZ)(L:WgLink)(Wg C n Low k:Nat)(g:aX)(w:ax):Prop:=g.status=dN/\∃g',(∀w1,cj P ai g w1=bV g' w1 #[jK<|.releaseMerge<|stA Wg])/\∃m,cM P ai (RW L.tWg Wg C n Low<|k-1) DC0 (λg w=>∃E,cj P ai g w=bV E w #[jK .disable]) m g' w
set_option maxHeartbeats 8000000 in
theorem aEm(H:WgLib P L)(w)(a:jN L.tWg Wg w/\Has C (k-1) val w):cM P ai (RW L.tWg Wg C n Low<|k-1) DC0 (aG6 P L Wg C n Low k) 40 (G ((baseD L.done).at ⟨#[aF Wg,ak,ak,ak],[]⟩ [bF<|body_done L])<|c::cs) w:=by lib_facts;simp only[body_done,doneFn,fW];u_reg mw a;u_op mw a;u_in mw a;refine goes_call rfl rfl (by k_ne) rfl H.f_add (nm_add L) rfl ⟨by u_nil,?_⟩;walk_nrmf addFn;u_c I mw a;u_cond Z mw a;u_c I mw a;u_c I mw a;u_reg mw a;u_op mw a;u_op mw a;u_c N mw a;u_cond Z mw a;u_reg mw a;u_op mw a;u_conv H.underlying_tWgP H.room_tWg(WgLive.cell0 a.1).choose_spec mw a;refine y λd b=>?_;replace a:=mw a b;refine⟨rfl,_,λe=>stepG_markAt .releaseMerge (by simp) rfl rfl (by k_ne) rfl H.f_relMerge (x_relMerge_n L) (x_relMerge_b L) (x_relMerge_x L) (x_relMerge_f L)<|by simp[dW,stA],10,?_⟩;walk_nrm;u_c N mw a;u_c I mw a;u_reg mw a;refine y λd b=>?_;exact⟨_,stepG_mark0 .disable (by simp) rfl rfl (by k_ne) rfl H.f_disable (x_disable_n L) (x_disable_b L) (x_disable_x L)<|x_disable_f L⟩
theorem aEo(H:WgLib P L){M}(v:c.mode=fI)(J:QuitsD P M 0<|G c cs)(w)(D:jN L.tWg Wg w/\Has C (k-1) val w):cM P ai (RW L.tWg Wg C n Low<|k-1) DC0 (AtR0 P L.tWg Wg C n Low k val) 40 (G ((baseD L.done).at ⟨#[aF Wg,ak,ak,ak],[]⟩ [bF<|body_done L])<|c::cs) w:=by
 have o:∀a,RW L.tWg Wg C n Low (k-1) a a:=λa=>oS a;have p:∀a b d,RW L.tWg Wg C n Low (k-1) a b->RW L.tWg Wg C n Low (k-1) b d->RW L.tWg Wg C n Low (k-1) a d:=by grind[RW.trans]
 have q:∀g w u,cj P ai g w=bV u w #[]->¬AtR0 P L.tWg Wg C n Low k val g w:=λg w u e h=>by obtain⟨_,_,g2,B,_⟩:=h;grind
 refine Go.ConcN.goes_mono (λg w h=>?_)<|abp o p q (aEm (n:=n) (Low:=Low) (c:=c) (cs:=cs) H w D)<|doneN (Own:=λ_ _=>False) (Rd:=λ_ _=>False) (n:=n) (Low:=Low) H v J w D;obtain⟨⟨z,u,y,m2,N⟩,T,s⟩:=h;rcases yY s with j|⟨Q0,rfl,i⟩;.grind
 .exfalso;obtain⟨Q1,w3,K,r,X,E⟩:=i w<|o w;rw[y w]at r;injection r with F B f;subst F B;obtain⟨W,⟨S,m⟩,R,t⟩:=ak6 o<|abp o p q N E;rcases yY t with j|⟨Q2,rfl,i⟩;.obtain⟨_,_,O,A,_⟩:=j w<|o w;rw[m]at A;injection A with _ _ e;simp[jK]at e
  .obtain⟨O,Q,I,l,x,_⟩:=i w<|o w;rw[m]at l;injection l with _ _ e;subst e;have:=(x.2 (jK .disable)<|by simp).2.1;exact this rfl
end
end
section
open Go.Proofs Go.Conc Go.RowKit Go.Conc.Lib Go.ConcR.Gen
open Go.ConcN (upd upd_ne upd_same WgLive RW Has DWs EvW AtR0)
open Go.ConcN.Gen (WgLive.cell0 WgLive.cell1 kn_rely doneN)
open Go.ConcR (KK WgAt stA smA wgBlock rd wr mk Bk DC0)
noncomputable def RH(C:List aZ)(a:eF)(b3 x1 y1:Nat):fG:=⟨LD C a b3 x1 y1,y1,b3,jy a⟩
theorem arf{T}{c}{b e b3 x1 f}{a}{w}(d:jN dL.tWg b w/\Has b3 (1-1) (jy a) w):∃m,cM aD ai (RW dL.tWg b b3 77 0<|1-1) DC0 (AtR0 aD dL.tWg b b3 77 0 1<|jy a) m (G {(bh 58).at ⟨T,[]⟩ c with mode:=fI}<|uR b e b3 x1 f a) w:=by refine⟨60,?_⟩;simp only[uR,agJ,Pt,fW];u_leave0 func58 mw d;u_c N mw d;u_c stepG_end mw d;u_in mw d;rw[stepG_unwind_enter rfl func57 (nm_done dL) rfl];simp only[eH];refine⟨by u_nil,?_⟩;walk_nrmf f57;have g:=@aEo aD dL b b3 77 0 1 (jy a) {LP.at ⟨#[aF<|U b,aF<|U e,aF<|U b3,bO #[dc<|U x1,dc<|U f],jy a,bQ #[]],[]⟩ []with mode:=fI} [bot] F1 2 rfl (avR _) _ d;simp only[body_done,doneFn,fW]at g;grind[Goes.mono]
theorem alF{P}{w}{t e}(p)(n c)(es)(h:P.underlying t=U (.slice e)):(gF .eql t (aC p n c)<|aC V 0 0).events P w es=es:=by
 have a:∀d:Nat,(s8 (d+1) t (aC p n c)<|aC V 0 0).events P w es=es:=λd=>by cases p<;>simp[go_sem,s8,run_underlying h]
 simp only[gF];simp[Op.equal,Pu,a 9999]
theorem anm{T}{d}{f l b3 x1 b}{a}{O}{w}(p:b3∈O)(s:w.heap[b3]?=U (aH #[jy a] 126)):Ag aD dL f (RH (uR f l b3 x1 b a) a b3 x1 b) O (G {(bh 58).at ⟨T,[UK b]⟩ d with mode:=fI}<|uR f l b3 x1 b a) w:=by
 refine⟨rfl,rfl,_,rfl,λo k r i n=>⟨asj (ds:=[]) rfl (by kernel_rfl) i,?_⟩⟩;have g:b3≠b:=λe=>by have h:=(r.1 b3 p).trans s;rw[e]at h;have c:o.heap[b]?=U (.chan 1 #[] ai k k ai):=i;grind
 have j:f≠b:=λe=>by obtain⟨q,m,h⟩:=n;unfold WgAt at h;rw[e]at h;have c:o.heap[b]?=U (.chan 1 #[] ai k k ai):=i;rw[h]at c;cases c
 refine arf ⟨?_,?_⟩;·obtain⟨q,m,h⟩:=n;refine⟨q,m,?_⟩;unfold WgAt at h⊢;rw[<-h];simp only[Fu];exact nB λe=>j e.symm
 ·show pz _ b3=U (jy a);refine gC (cs:=#[jy a]) (ty:=126) ?_ rfl;rw[<-s,<-r.1 b3 p];simp only[Fu];exact nB λe=>g e.symm
theorem aA0{f i b3 x1 d}{a}{O}{j}{w}(u:aak (uR f i b3 x1 d a) a b3 x1 d O j w):b3∈O/\∃m,cM aD ai (L O) (DO O) (Ag aD dL f (RH (uR f i b3 x1 d a) a b3 x1 d) O) m (kU j<|recvd Z (aC V 0 0) ai) w:=by obtain⟨g,T,rfl,t,h,b,e,c⟩:=u;refine⟨c,30,?_⟩;obtain⟨D,F,E,z,K,A,C,J,H,B,x,p,r,q,l,s,k,n,v,y,o,rfl⟩:=Vb T t;simp only[my,qu,nG,dX]at h;obtain⟨rfl,rfl,rfl⟩:=h;replace b:(w.heap[g]?=U (aH #[dc<|U x1,dc<|U d] 114)/\w.heap[b3]?=U (aH #[jy a] 126))/\g∈O/\b3∈O:=⟨b,e,c⟩;rw[MN];simp only[Si,Tn,B2,eM,Fw,fW,recvd,gL];walk_nrm;refine dH ?_;u_op jb b;u_c N jb b;u_c I jb b;u_cond ai jb b;u_exit jb b;u_c stepG_end jb b;grind[Goes.stop,anm,jb]
theorem rP{x}{o}{w w1}(h:w.heap[x]?=U o)(r:L ([]++[x]) w w1):w1.heap[x]?=U o:=(r.1 x<|by simp).trans h
section
variable {K:fK} {C:List aZ}
theorem arI(Q3:K.P=aD){Q:Prop}{s}{h}(S:h≠0){a}{o Q1 b3 x1 j k n c}{T}(E:T.size=21)(hs:T[1]?=jy a/\T[2]?=U (.pointer k)/\T[9]?=U (.chan x1))(hF:(s.v.heap[k]?=U (.cells #[.chan x1,.chan j] 114)/\s.v.heap[b3]?=U (.cells #[jy a] 126))/\k∈(s.D h).own/\b3∈(s.D h).own)(H:Ok K h s<|r ((LG T j).finish<|.slice V n c)<|uR o Q1 b3 x1 j a)(hQ:∀t g,s.runs K.P t->Ok K h t g->Kept h [] s t->t.D h=s.D h->t.ch=s.ch->Ag aD dL o (RH (uR o Q1 b3 x1 j a) a b3 x1 j) (t.D h).own g t.v->b3∈(t.D h).own->Q):Q:=by
 obtain⟨v,R,v2,v3,v4,v5,v6,v7,v8,Y,W,z,Q0,D,L,B,J,Q2,QW,X,O,rfl⟩:=Vb T E;simp only[my,qu,nG,dX]at hs;obtain⟨rfl,rfl,rfl⟩:=hs;have m:(h==0)=ai:=by simp[S]
 have F:∀f p,r f p=G f p:=λ_ _=>rfl;rw[F,LG,Kw]at H;simp only[X5,ZA,Tp,B2,eM,Fw,fW]at H;refine H.walk_to [] [] m (by simp) (by simp) ⟨30,?_⟩;rw[Q3];have d:=trivial;walk_nrm;refine kK (n:=6) ?_;u_op A d;u_c N A d;u_c I A d;u_c I A d;u_reg A d;u_op A d;refine y λ_ i=>?_;replace d:=A d i;u_in A d;refine gi rfl rfl (by k_ne) λK x=>?_;have hx:=λw=>Zs (P:=aD) w 79 _ V n c 0 0 underlying79;go_simp;refine x _ _ ⟨?_,?_⟩;.refine dh_none ?_;intro e l;have m:=kN l;simp[go_sem,λw QX=>alF (P:=aD) (w:=w) V n c QX underlying79]at m
 refine dH ?_;u_c N A d;u_cond Z A d;u_c nE A d;refine y λu i=>⟨rfl,λt R r1 H1 M d1 c1=>?_⟩;have st:=λb q=>M.rest b (H.hold.inv.own h b q).2 (H.hold.inv.own h b q).1 (by simp);grind[anm]
theorem arH(z:K.P=aD){Q:Prop}{s}{h}(hh:h≠0){a}{b3 x1 m k n c}{ad}{T}(O:T.size=21)(hs:T[1]?=jy a/\T[2]?=U (.pointer k)/\T[9]?=U (.chan x1))(j:(s.v.heap[k]?=U (.cells #[.chan x1,.chan m] 114)/\s.v.heap[b3]?=U (.cells #[jy a] 126))/\k∈(s.D h).own/\b3∈(s.D h).own)(H:Ok K h s<|r ((LG T m).finish<|.slice (U ad) n c) C)(D:∀t l,s.runs K.P t->Ok K h t l->Kept h [] s t->t.D h=s.D h->t.ch=s.ch->l.status=.running->(∀q,cj aD ai l q=.comm l #[scase m (.slice ad n c)<|.tuple #[]] Z .send q #[])->rH aD ai (LD C a b3 x1 m) 21 (t.D h).own (kU l ak) t.v->Q):Q:=by
 obtain⟨v0,v1,v2,v3,v4,v5,v6,v7,v8,v9,v10,L,v12,mF,X,Q1,W,Y,S,mE,v,rfl⟩:=Vb T O;simp only[my,qu,nG,dX]at hs;obtain⟨rfl,rfl,rfl⟩:=hs;have p:(h==0)=ai:=by simp[hh]
 have R:∀f A,r f A=G f A:=λ_ _=>rfl;rw[R,LG,Kw]at H;simp only[X5,ZA,Tp,fW]at H;simp only[B2,eM,Fw,fW]at H;refine H.walk_to [] [k] p (by simp) (λb o=>?_) ⟨40,?_⟩;.simp only[di,dJ,dQ]at o;subst o;exact⟨(H.hold.inv.own h _ j.2.1).2,.inl (H.hold.inv.own h _ j.2.1).1⟩
 rw[z];have d:=j.1.1;walk_nrm;refine kK (n:=6) ?_;u_op rP d;u_c N rP d;u_c I rP d;u_c I rP d;u_reg rP d;u_op rP d;refine y λ_ g=>?_;replace d:=rP d g;u_in rP d;refine gi rfl rfl (by k_ne) λK Q0=>?_;have hx:=λw=>Zs (P:=aD) w 79 _ (U ad) n c 0 0 underlying79;have x:=λw J=>alF (P:=aD) (w:=w) (U ad) n c J underlying79;go_simp;refine Q0 _ _ ⟨?_,?_⟩;.refine dh_none ?_;intro e u;have p:=kN u;simp[go_sem,x]at p
 refine kK (n:=5) ?_;u_c N rP d;u_cond ai rP d;u_c lR rP d;u_reg rP d;u_op rP d;refine y λ_ g=>?_;replace d:=rP d g;u_in rP d;refine gi rfl rfl (by k_ne) λK Q0=>?_;have V:=gC (o:=1) d rfl;go_simp;refine Q0 _ _ ⟨⟨rfl,rfl,rfl,rfl,λ_ _=>rfl,λe x=>?_⟩,?_⟩;.have p:=kN x;simp[go_sem, *]at p;grind
 refine dH ?_;u_op rP d;refine y λF g=>⟨rfl,λt v1 Q3 Q2 E M c1=>?_⟩;have B:=λb o=>E.rest b (H.hold.inv.own h b o).2 (H.hold.inv.own h b o).1 (by simp);rw[<-z]at Q3;have i:(t.v.heap[k]?=U (.cells #[.chan x1,.chan m] 114)/\t.v.heap[b3]?=U (.cells #[jy a] 126))/\k∈(t.D h).own/\b3∈(t.D h).own:=⟨⟨(B _ j.2.1).trans j.1.1,(B _ j.2.2).trans j.1.2⟩,by grind,by grind⟩;refine D t _ Q3 Q2 E M c1 rfl (λq=>afl rfl rfl (by k_ne) rfl rfl rfl q) ?_;refine .inl ⟨20,rfl,?_⟩;rw[MN];walk_nrm;refine dH ?_;u_c N jb i;u_c NK jb i;u_c stepG_inLoop jb i;u_c I jb i;u_reg jb i;exact y λq h1=>ank rfl ⟨rfl,rfl,rfl⟩<|jb i h1
end
end
section
open Go.Conc
open Go.ConcN (sumTo upd sumTo_upd upd_ne upd_same sumTo_congr le_sumTo WSit WgLive RW PayAt Has DWs EvW ShN AsideCell AtR0 RelBy bk_cell)
open Go.ConcR (KK WgAt stA smA wgBlock rd wr mk Bk)
open Go.Conc.Lib (WgLink)
variable{K:fK}
def uV(n:Nat)(D:Nat->dn):Nat->dn:=λi=>if i<n then D i else⟨1,0,[],0⟩
theorem Ok.trim{s}{a}(H:Ok K 0 s a)(y:K.live=ai)(q:∀i,s.role i=V):Ok K 0 {s with D:=uV s.gs.size s.D} a/\∀n,V2 n (uV s.gs.size s.D)=0:=by
 have I:=H.hold.inv;have d:∀i,i<s.gs.size->uV s.gs.size s.D i=s.D i:=λi k=>cJ k;have m:=d 0 I.zero;have w:∀n,V2 n (uV s.gs.size s.D)=0:=λn=>by
  unfold V2;rw[Av (g:=λ_=>0) λi k=>?_];.exact Gc _
  .unfold gu;by_cases e:0<i
   .rw[if_neg];rintro⟨_,p⟩;by_cases E:i<s.gs.size;.rw[d i E]at p;have l:=I.gV i _ (by omega)<|gW E;rw[q i]at l;have:=l.2.1;omega
    .unfold uV at p;grind
   grind
 refine⟨⟨⟨⟨λi g v o=>?_,λi k=>?_,I.above,I.tr,λi b x=>?_,I.chan,λi r h=>?_,λi r h=>?_,λi j r t h=>?_,λh=>?_,I.kI,λi r h=>?_,I.norel,I.rD,I.zero,I.idle⟩,⟨λi r h=>?_,λi r u h=>?_,λi j r t h=>?_,λi r h=>?_,λn=>?_⟩,λj r u h=>?_,H.hold.bound⟩,H.mI,λj r h=>?_,?_,?_,H.opn,H.ro⟩,w⟩;.show oN _ _ _ _ _ (uV s.gs.size s.D i) _ _;rw[d i (dm.1 o).1];exact I.gV i g v o
 .show Deaf s.T i=(uV s.gs.size s.D i).deaf;rw[d i k];exact I.deaf i k
 .have f:b∈(uV s.gs.size s.D i).own:=x;by_cases k:i<s.gs.size;.rw[d i k]at f;exact I.own i b f
  .unfold uV at f;grind
 .grind
 .grind
 .grind
 .grind
 .grind
 .grind
 .grind
 .grind
 .grind
 .grind
 .grind
 .grind
 .show(uV _ _ 0).stage=9;rw[m];exact H.nine
 .show(uV _ _ 0).deaf=0;rw[m];exact H.deaf
end
section
open Go.Proofs Go.Conc Go.RowKit Go.Conc.Lib Go.ConcR.Gen
open Go.ConcN (upd upd_ne upd_same WgLive)
open Go.ConcR (KK WgAt stA smA wgBlock rd wr mk Bk)
noncomputable def wk(bw b2 b3 x y:Nat)(a:eF):fG:=RH (uR bw b2 b3 x y a) a b3 x y
def anL(T:Array az)(a b:eF)(m:az)(e8 e9 bw:Nat):Prop:=T[0]?=U (aF<|U a)/\T[1]?=U (aF<|U b)/\T[2]?=U m/\T[6]?=U (Y aG 0)/\T[7]?=U (Y aG 0)/\T[8]?=U (aF<|U ⟨e8,0,V⟩)/\T[9]?=U (aF<|U ⟨e9,0,V⟩)/\T[10]?=U (aF<|U ⟨bw,0,V⟩)
def Vx(v:ax)(own:List Nat)(e8 e9 x1 y1 x2 y2:Nat):Prop:=(v.heap[e8]?=U (aH #[dc<|U x1,dc<|U y1] 114)/\v.heap[e9]?=U (aH #[dc<|U x2,dc<|U y2] 114))/\e8∈own/\e9∈own/\e9≠e8
section
variable {K:fK} {C:List aZ}
theorem aes(m:K.P=aD)(i:K.L=dL)(S:K.live=Z){s}{l E}{b b3 x y e8 e9 p k}{a}(H:Ok K 0 s l)(g:l.status=dN)(q:∀o,cj aD Z l o=.spawn E (born aD<|call56 K.Wg b b3) o #[])(h:s.md=.opn (p+1))(F:s.v.heap[b]?=U (aH #[dc<|U x,dc<|U y] 114)/\s.v.heap[b3]?=U (aH #[jy a] 126))(A:b∈(s.D 0).own/\b3∈(s.D 0).own)(he:e8∈(s.D 0).own/\e9∈(s.D 0).own)(Q:e8≠b/\e8≠b3/\e9≠b/\e9≠b3)(d:s.role s.gs.size=V)(J:s.ch x=U ⟨V,ai,k⟩)(I:∀j f,s.role j=U f->f.aO.c≠x/\f.out≠y)(M:∀n,V2 n s.D<=1):∃t,s.runs K.P t/\Ok K 0 t E/\t.role=bE s.role s.gs.size (wk K.Wg b b3 x y a)/\t.md=.opn p/\t.ch=s.ch/\t.gs.size=s.gs.size+1/\(t.D 0).own=[e8,e9]/\Left s.cl (λ_=>False) s.v t.v/\(∀z,z<s.v.heap.size->z∉[b,b3]->t.cl z=s.cl z)/\L (s.D 0).own s.v t.v/\∀B,V2 B t.D<=V2 B s.D+1:=by obtain⟨t,r,h1,h2,h3,c,Y,W,_,X,P,D,R⟩:=H.spawn (child:=born aD<|call56 K.Wg b b3) (n:=73) (O:=[b,b3]) (lu:=[e8,e9]) S g h (by rw[m];exact q) (wk K.Wg b b3 x y a) (λo u=>by rw[m];exact asS ⟨(u.1 b A.1).trans F.1,(u.1 b3 A.2).trans F.2⟩) (by omega) λz N=>by grind λz N=>by grind d J (λj f e=>(I j f e).1) (λj f e=>(I j f e).2) (λO g2 w T=>by rw[m,i];exact aA0 T) M;grind
theorem ar0(hP:K.P=aD)(F:K.L=dL)(hl:K.live=ai)(hA:∀Wg,Dw Wg){Q:Prop}{s}{a b}{m}{P}{ops}(Uh:P.size=87)(Tx:P[0]?=U (.pointer a)/\P[1]?=U (.pointer b)/\P[2]?=U m/\P[6]?=U (.int .i64 0)/\P[7]?=U (.int .i64 0)/\P[22]?=U (.bool ai))(H:Ok K 0 s<|G ((bh 41).at ⟨P,[]⟩<|.inRegion ops []::ED) C)(nI:s.md=.opn 0)(hr:∀i,s.role i=V)(hV:∀n,V2 n s.D<=0)(hQ:∀t q e8 e9 k o y x b2 D c2 c3 T,s.runs K.P t->Ok {K with Wg:=q,live:=Z} 0 t (G ((bh 41).at ⟨T,[]⟩ [.code<|cV 7]) C)->T.size=87->anL T a b m e8 e9 q->Vx t.v (t.D 0).own e8 e9 k o y x->k≠o/\y≠x/\k<y/\k<x/\o<y/\o<x->kV t.role s.gs.size (s.gs.size+1) (wk q b2 D k o a) (wk q c2 c3 y x b)->t.role 0=V->t.gs.size=s.gs.size+2->t.md=.opn 0->t.ch k=U ⟨V,ai,0⟩/\t.ch o=U ⟨V,ai,0⟩/\t.ch y=U ⟨V,ai,0⟩/\t.ch x=U ⟨V,ai,0⟩->Left s.cl (λ_=>False) s.v t.v->(∀z,z<s.v.heap.size->t.cl z=s.cl z)->Q):Q:=by
 refine ar1 hP F hl Uh Tx H nI λt1 q e8 e9 k o y x T1 r1 H1 Ia EJ u um f W hd=>?_;have J:∀i,t1.role i=V:=λi=>by rw[u.role];exact hr i
 have KZ:=λn=>bC (u.v2 n)<|hV n;have ko:=u.size;refine ar3 (K:={K with Wg:=q,live:=Z}) hP F Ia EJ um f H1 rfl rfl (u.md.trans nI) (by omega) λn=>by have:=KZ n;omega (hA _) λt2 b2 D gG gA r2 H2 aAJ aBG aBo⟨DY,qG,z2,L2,l7,v2⟩⟨XV,st2⟩uq Um⟨n2,T2,hG2,CJ,vE⟩_=>?_;have Ue:∀n,V2 n t2.D<=0:=by grind
 have aKs:=(H1.hold.inv.own 0 _ f.1).2;have aKq:=(H1.hold.inv.own 0 _ f.2.1).2;obtain⟨t3,r3,H3,ro3,Nb,Bc,z3,ow3,L3,zM,R3,v3⟩:=aes (K:={K with Wg:=q,live:=Z}) (e8:=e8) (e9:=e9) (k:=0) hP F rfl H2 aAJ aBG aBo Um ⟨uq.1,uq.2.1⟩ ⟨XV _ f.1,XV _ f.2.1⟩ ⟨by omega,by omega,by omega,by omega⟩ (by rw[DY];exact J _) (by rw[qG];exact W.1) (λj r' N=>by rw[DY,J j]at N;cases N) (λn=>by have:=Ue n;omega);obtain⟨t4,a4,r4,H4,Tw,S,d4,c4⟩:=H3.walk (O:=[]) (Rd:=[]) (Stop:=λg w=>g=G ((bh 41).at ⟨T2,[]⟩ [.code<|cV 6]) C) λg w h=>by rw[h];rfl (by rw[hP];exact hG2 _) (by simp) (by simp);subst Tw;have hV3:∀n,V2 n t3.D<=1:=λn=>by have:=v3 n;have:=Ue n;omega
 have ne8:e8∉[b2,D]:=λh=>by simp only[di,dJ,dQ]at h;omega
 have ne9:e9∉[b2,D]:=λh=>by simp only[di,dJ,dQ]at h;omega
 have keep:=λz d NU=>by have p:=XV z d;have E:=(H2.hold.inv.own 0 z p).2;exact((S.rest z (cB E L3.size) ((zM z E NU).trans (H2.hold.inv.own 0 z p).1)<|by simp).trans<|R3.1 z p).trans<|st2 z d
 have l:(t4.D 0).own=[e8,e9]:=by rw[d4,ow3]
 have hc4:t4.v.heap[e8]?=U (.cells #[.chan k,.chan o] 114)/\t4.v.heap[e9]?=U (.cells #[.chan y,.chan x] 114):=by grind
 have HU:=λn=>bC (S.v2 n)<|hV3 n;refine ar2 (K:={K with Wg:=q,live:=Z}) hP F CJ vE hc4 ⟨by rw[l];simp,by rw[l];simp,f.2.2⟩ H4 rfl rfl (S.md.trans Nb) (by omega) (λn=>HU n) (hA _) λt5 c2 c3 gG5 gA5 r5 H5 aAH aBF aBm⟨yJ,Da,z5,L5,C9,v5⟩⟨XU,WI⟩OV hF5⟨n5,T5,hG5,hT5,hs5⟩_=>?_;have M:t4.role=bE t2.role t2.gs.size (wk q b2 D k o a):=S.role.trans ro3;have wX:t4.gs.size=s.gs.size+1:=by rw[S.size,z3,z2,ko]
 have X:t2.gs.size=s.gs.size:=by rw[z2,ko]
 have I:∀j r',t5.role j=U r'->j=s.gs.size/\r'=wk q b2 D k o a:=λj r' N=>by
  rw[yJ,M]at N;by_cases e:j=t2.gs.size;.rw[e,da]at N;cases N;exact⟨e.trans X,rfl⟩
  .rw[cX t2.role _ e,DY,J j]at N;cases N
 have aKr:=(H4.hold.inv.own 0 e8<|by rw[l];simp).2;have aKp:=(H4.hold.inv.own 0 e9<|by rw[l];simp).2;have zN:t4.ch=t1.ch:=by grind
 obtain⟨t6,r6,H6,DX,Sz,PR,z6,ow6,L6,U1,R6,v6⟩:=aes (K:={K with Wg:=q,live:=Z}) (e8:=e8) (e9:=e9) (k:=0) hP F rfl H5 aAH aBF aBm hF5 ⟨OV.1,OV.2.1⟩ ⟨XU _<|by rw[l];simp,XU _<|by rw[l];simp⟩ ⟨by omega,by omega,by omega,by omega⟩ (by cases e:t5.role t5.gs.size with|none=>rfl|some r'=>have:=(I _ _ e).1;rw[z5,wX]at this;omega) (by rw[Da,zN];exact W.2.2.1) (λj r' N=>by obtain⟨_,rfl⟩:=I j r' N;exact⟨λe=>by have e':k=y:=e;omega,λe=>by have e':o=x:=e;omega⟩) λn=>bC (v5 n)<|HU n;obtain⟨t7,a7,r7,H7,hs7,k7,d7,c7⟩:=H6.walk (O:=[]) (Rd:=[]) (Stop:=λg w=>g=G ((bh 41).at ⟨T5,[]⟩ [.code<|cV 7]) C) λg w h=>by rw[h];rfl (by rw[hP];exact hG5 _) (by simp) (by simp);subst hs7;have mb8:e8∉[c2,c3]:=λh=>by simp only[di,dJ,dQ]at h;omega
 have mb9:e9∉[c2,c3]:=λh=>by simp only[di,dJ,dQ]at h;omega
 have B:=λz d NU=>by have p:=XU z d;have E:=(H5.hold.inv.own 0 z p).2;exact((k7.rest z (cB E L6.size) ((U1 z E NU).trans (H5.hold.inv.own 0 z p).1)<|by simp).trans<|R6.1 z p).trans<|WI z d
 have lG:t5.gs.size=s.gs.size+1:=by rw[z5,wX]
 have A:t7.role=bE t5.role (s.gs.size+1) (wk q c2 c3 y x b):=by rw[k7.role,DX,lG]
 have L:s.gs.size≠s.gs.size+1:=by omega
 have h0s:=H.hold.inv.zero;have KJ:t7.role s.gs.size=wk q b2 D k o a:=by rw[A,cX _ _ L,yJ,M,<-X,da]
 have AW:∀i r,t7.role i=U r->i=s.gs.size\/i=s.gs.size+1:=λi r hi=>by
  by_cases e:i=s.gs.size+1;.exact .inr e
  .rw[A,cX _ _ e]at hi;exact .inl (I i r hi).1
 have ow7:(t7.D 0).own=[e8,e9]:=by rw[d7,ow6]
 refine hQ t7 q e8 e9 k o y x b2 D c2 c3 T5 (((((r1.trans r2).trans r3).trans r4).trans<|r5.trans r6).trans r7) H7 hT5 ?_ ?_ hd ?_ ?_ (by rw[k7.size,z6,z5,wX]) (k7.md.trans Sz) ?_ ?_ ?_;.obtain⟨q0,q1,q2,q6,q7,q8,q9,q10,_⟩:=hs5;exact⟨q0,q1,q2,q6,q7,q8,q9,q10⟩
 .exact⟨⟨(B _ (by rw[l];simp) mb8).trans hc4.1,(B _ (by grind) mb9).trans hc4.2⟩,by grind,by grind,f.2.2⟩
 .refine⟨KJ,by rw[A,da],λi r hi=>.inr<|AW i r hi,L,by omega,by omega,?_,hd.1,?_,?_,hd.2.1,?_⟩;.intro e;have e':k=y:=e;omega
  .intro e;have e':k=x:=e;omega
  .intro e;have e':y=o:=e;omega
  .intro e;have e':o=x:=e;omega
 .cases e:t7.role 0 with|none=>rfl|some r=>grind
 .grind
 .have l1:=u.left.trans u.cls L2;have LK:=λz d=>(l7 z<|cB d u.left.size).trans<|u.cls z d;have l3:=l1.trans LK L3;have R:=λz d=>(zM z (cB d l1.size) λh=>by simp only[di,dJ,dQ]at h;have:=u.left.size;omega).trans<|LK z d;have l4:=l3.trans R S.left;have oK:=λz d=>(S.cls z<|cB d l3.size).trans<|R z d;have l5:=l4.trans oK L5;have oJ:=λz d=>(C9 z<|cB d l4.size).trans<|oK z d;have IK:=λz d=>(U1 z (cB d l5.size) λh=>by simp only[di,dJ,dQ]at h;have:=l4.size;omega).trans<|oJ z d;exact(l5.trans oJ L6).trans IK k7.left
 .intro z d;have g3:=cB d (u.left.trans u.cls L2).size;have R:=(zM z g3 λh=>by simp only[di,dJ,dQ]at h;have:=u.left.size;omega).trans<|(l7 z<|cB d u.left.size).trans<|u.cls z d;have g4:=cB g3 L3.size;have g5:=cB g4 S.left.size;have g6:=cB g5 L5.size;have IK:=(U1 z g6 λh=>by simp only[di,dJ,dQ]at h;omega).trans<|(C9 z g5).trans<|(S.cls z g4).trans R;exact(k7.cls z<|cB g6 L6.size).trans IK
end
end
section
open Go.Conc
open Go.ConcN (upd upd_ne upd_same WgLive)
open Go.ConcR (KK WgAt)
def P3(ρ:Nat->Nat)(I:H)(N:Nat)(n n':Next):Prop:=∃x x',n=gq x/\n'=gq x'/\RV ρ I N x x'
section
variable {ρ:Nat->Nat} {I:H} {q:bZ} {fs:Array dY} {w v w1:ax} {main':Bool}
 {bL bR:aZ} {aL aR:Act} {kL kR:List eY} {B cY:List aZ} {ops Ar:Array dG} {i i':Nat} {rest JM:List Nat} {o o':dG}
theorem awC(T:ops[i]?=o)(H:eW o (dZ ops aL.tmps)=Z)(y:Ar[i']?=o')(m:eW o' (dZ Ar aR.tmps)=Z)(hs:W ρ I (J q fs) q (P3 ρ I) w (cS aL.eval o)<|cS aR.eval o')(O:dO ρ I V w v)(s:∀j,ρ (w+j)=v+j){t}{es}(c:cj (J q fs) Z (G (bL.at aL<|aT ops (i::rest)::kL) B) w=bV t w1 es)(f:¬wu t):∃x l k g,t=G (bL.at (aL.put o.dst x)<|aT ops rest::kL) B∧cj q main' (G (bR.at aR<|aT Ar (i'::JM)::kR) cY) v=bV (G (bR.at (aR.put o'.dst l)<|aT Ar JM::kR) cY) k g∧RV ρ I w1 x l∧dO ρ I V w1 k∧fD ρ I w v w1 k∧∀e∈g,yB ρ I w1 e:=by
 rw[Tf T H]at c;rw[Tf y m];have d:=W.alike hs w v #[] #[] rfl O s;have Q2:∀x,uB (bL.at aL<|aT ops (i::rest)::kL) x=bL.at (aL.put o.dst x) (aT ops rest::kL):=λx=>by grind[Frame.finish_at]
 have S:∀x,uB (bR.at aR<|aT Ar (i'::JM)::kR) x=bR.at (aR.put o'.dst x) (aT Ar JM::kR):=λx=>by grind[Frame.finish_at]
 unfold xA at c⊢;simp only[gL]at c⊢;generalize(cS aL.eval o).runT (J q fs) w #[]=R at d c;generalize(cS aR.eval o').runT q v #[]=K at d⊢;obtain⟨r,N⟩:=R;obtain⟨X,E⟩:=K;cases r with
 |halt x F=>
  exfalso;obtain⟨C,_⟩:=d;cases x<;>first|exact absurd C qq|(dsimp only[vT]at c;cases c;done)|skip
  case panic p=>dsimp only[vT]at c;injection c with z Q3 M;subst z;exact f<|raise_mode _ _
  case unsupported u=>cases u<;>first|(dsimp only[vT]at c;cases c;done)|(cases C;done)
 |ok a F=>
  obtain⟨Q0,d⟩:=d;obtain⟨b,k,P,e,⟨x,l,rfl,rfl,Q⟩,A,L,Q1⟩:=d (λ_ h=>by cases h);obtain⟨rfl,rfl⟩:=Nq e;have n:∀e∈(#[]++P:Array jq),yB ρ I F e:=by grind
  simp only[vT]at c⊢;injection c with z Q3 M;subst Q3;refine⟨x,l,k,_,by rw[<-z,Q2];rfl,by rw[S];rfl,Q,A,L,λe D=>?_⟩;rw[Ti]at D;exact kept n e D
theorem Ok.azq{K}{h}{s}{Done}(hE:nt (J K.P fs) Done)(H:Ok K h s<|G (bR.at aR<|aT Ar (i'::JM)::kR) cY)(tr:Term (J K.P fs) Done (G (bL.at aL<|aT ops (i::rest)::kL) B) w)(M:fM ρ I K.P s.cl w s.v)(ho:ops[i]?=o)(hw:eW o (dZ ops aL.tmps)=Z)(TE:Ar[i']?=o')(hw':eW o' (dZ Ar aR.tmps)=Z)(jo:¬Done (G (bL.at aL<|aT ops (i::rest)::kL) B) w)(hs:∀b,(∀x,x<w.heap.size->ρ x=b x)->Fair b K.P->W b I (J K.P fs) K.P (P3 b I) w (cS aL.eval o) (cS aR.eval o')):∃t b w' x x',(∀z,z<w.heap.size->ρ z=b z)∧w.heap.size<=w'.heap.size∧(∀z,z<w.heap.size->I.F z=ai->w'.heap[z]?=w.heap[z]?)∧RV b I w'.heap.size x x'∧Term (J K.P fs) Done (G (bL.at (aL.put o.dst x)<|aT ops rest::kL) B) w'∧uz (qN (J K.P fs) Done) (G (bL.at (aL.put o.dst x)<|aT ops rest::kL) B,w') (G (bL.at aL<|aT ops (i::rest)::kL) B,w)∧s.runs K.P t∧uK h s t∧Ok K h t (G (bR.at (aR.put o'.dst x')<|aT Ar JM::kR) cY)∧fM b I K.P t.cl w' t.v:=by cases tr with|done hd=>grind|step f hf ht=>
 obtain⟨N,iq,pD,E,D1,T1,F,j,d,qg,gH,r1,Oi,rf,P,G1,S,L1⟩:=H.hold.picked H.mI rfl s.sl;have D:=(M.left L1 G1.cls).left (Left.at E (λ_=>False) j d) λ_ _=>rfl;let b:=rz ρ w j;let R:qL:=λi=>j.tape<|d+i;have n:∀x,x<w.heap.size->ρ x=b x:=by grind[Pn]
 have c:∀i,b (w+i)=j+i:=λi=>alY _ _ _ i;have p:Fair b K.P:=Fair.rz M.fair D.low M.CQ;obtain⟨⟨es0,e0⟩,aA4⟩:=hf R;obtain⟨x,x',v2,es,e1,e2,hv,Q,a,vJ⟩:=awC (w:=World.re w R 0) (main':=h==0) ho hw TE hw' (hs b n p) (dO.rz (v':=j.at d) D.afV D.low rfl (λ_ _ _=>rfl) λ_ _=>rfl) c e0 aA4;have ga:v2.heap.size=j+((f R).2-w):=a.size;have T:w.heap.size<=(f R).2:=a.oQ;have g:∀x,x<(f R).2.heap.size->b x<v2:=λx m=>by
  rcases B3 x w with l|Cz;·rw[<-n x l];have:=D.low x l;have e:(j.at d).heap.size=j:=rfl;omega
  ·have:=c<|x-w;grind
 let cl':Nat->fe:=λx=>if x<j then E x else .eV;have C:∀x,x<j.heap.size->cl' x=E x:=by grind
 have r:∀x,x<(f R).2.heap.size->I.F x=Z->cl' (b x)=.eV:=λx m hF=>by
  rcases B3 x w with l|Cz;·rw[<-n x l,C _<|D.low x l];exact D.cls x l hF
  ·have:=c<|x-w;grind
 have k:∀x,x<j.heap.size->E x≠.eV->v2.heap[x]?=j.heap[x]?:=λx m hn=>a.sV x m λy hy hF e=>hn (by rw[<-e,<-n y hy];exact D.cls y hy hF);have L:∀A,I.arg=U A->cl' A.g=.eV∧A.g<v2:=λA hA=>by obtain⟨⟨a1,a2,a3,a4⟩,a5⟩:=D.arg A hA;grind
 have Q0:=λe he=>alG (h:=h) (q:=K.P) (vJ e he) r g L;have hWg:K.live=Z->v2.heap[K.Wg]?=j.heap[K.Wg]?:=λhl=>by obtain⟨st,sm,hw,nH⟩:=P.inv.wg hl;exact k _ (pC hw)<|by rw[P.inv.kI hl];simp
 have h0:(D1 h).deaf=0:=by rw[S];exact H.deaf
 obtain⟨q1,q2,q3⟩:=(P.at d).step (sl:=gH) (x':=D1 h) (md':=iq) (cl':=cl') (v':=v2) rf e2 (by show j.heap.size<=_;omega) (λx m hn=>k x m λhi=>hn<|aB<|aB ⟨hi,rfl⟩) C λx m=>by obtain⟨y,z⟩:=P.inv.own h x m;grind (λe he=>⟨(Q0 e he).1,(Q0 e he).2.1⟩) (λe he=>(Q0 e he).2.2.1 _) (by grind[deafBehind_still]) (λhr hn=>absurd (H.ro hr) hn) rfl (λhl=>let⟨st,sm,hw,nH⟩:=P.inv.wg hl;⟨st,sm,by unfold WgAt at hw⊢;grind,by grind[wz]⟩) λ_=>by rw[S,H.nine];omega P.bound;rw[wz]at q2;have G2:∀(T2:eB)(X:Array aX),X.size=F.size->(∃u,T2=T1++u)->Dk s.role h iq pD E D1 T1 F j iq pD cl' D1 T2 X v2:=λT2 X k1 k2=>⟨k1,by omega,λx m hc=>k x m<|by grind,a.os,a.tape,a.out,C,λ_ _ _ _=>rfl,λ_=>rfl,λ_ _ x=>x,λ_ _=>aQ _,k2,λq=>⟨rfl,q⟩,λx m hc=>k x m<|by grind⟩;have O:=(G1.adk λx m hc=>L1.block x m<|aB<|aB ⟨h,rfl,hc⟩).trans<|G2 T1 F rfl ⟨#[],by simp⟩;obtain⟨rfl,q⟩:=O.calm H.wM;have nI:=O.md H.opn;have ht1:=ht R;rw[e1]at ht1;exact⟨⟨s.role,iq,s.ch,cl',D1,_,_,v2,gH⟩,b,(f R).2,x,x',n,T,λz hz hF=>a.Pf z hz hF,hv,ht1,.single ⟨jo,R,es0,by grind⟩,⟨_,runNT_then r1<|qR<|Oi.trans q1⟩,⟨by show(Array.setIfInBounds _ _ _).size=_;rw[vj,AB];exact O.size,rfl,nI,rfl,S,O.vD,O.own,O.cls,O.os,O.tape,O.out,O.old⟩,⟨q2,q3,q,(congrArg dn.stage S).trans H.nine,h0,⟨_,nI.trans H.opn.choose_spec⟩,H.ro⟩,⟨Q.os,p,g,Q.blk,Q.kB,cB M.CQ T,r,λA hA=>⟨Q.arg A hA,(L A hA).1⟩⟩⟩
end
def QF:Op->Option (List ja)|.move x|pA x=>U [x]|.pick c a b=>U [c,a,b]|.load _ a=>U [a]|.nilCheck x=>U [x]|.binOp _ _ x y _=>U [x,y]|.fieldAddr _ x _=>U [x]|.indexAddr _ x i=>U [x,i]|.extract x _=>U [x]|.call {callee:=.builtin .len,args,..}=>U args.toList|_=>V
section
variable {ρ:Nat->Nat} {I:H} {q:bZ} {fs:Array dY} {N M:Nat}
theorem Ju{s b}(h:W ρ I (J q fs) q (RV ρ I) N s b):W ρ I (J q fs) q (P3 ρ I) N (do bI<|gq<|<-s) (do bI<|gq<|<-b):=W.bind' h λ_ _ _ _ c=>.pure' ⟨_,_,rfl,rfl,c⟩
theorem atB(P:∀b,N<=b->I.F b=Z)(A:Fair ρ q){e B:ja->az}{o:dG}{l:List ja}(g:QF o.op=U l)(h:∀x∈l,RV ρ I N (e x)<|B x):W ρ I (J q fs) q (P3 ρ I) N (cS e o)<|cS B o:=by
 obtain⟨O,op,s,Q0,w⟩:=o;cases op<;>simp only[QF,dX,reduceCtorEq]at g;case move x=>subst g;exact .pure' ⟨_,_,rfl,rfl,h x<|by simp⟩
 case assign x=>subst g;exact .pure' ⟨_,_,rfl,rfl,h x<|by simp⟩
 case pick c a b=>
  subst g;refine W.bind' (afe<|h c<|by simp) ?_;rintro M d _ u rfl;refine .pure' ⟨_,_,rfl,rfl,?_⟩;split;·exact(h a<|by simp).mono u
  ·exact(h b<|by simp).mono u
 case load t a=>subst g;exact Ju<|aeR t<|h a<|by simp
 case nilCheck x=>subst g;have m:=h x (by simp);obtain⟨D,E⟩:=m;have m:=h x (by simp);unfold cS;dsimp only;rw[E];rw[E]at m;generalize e x=v at D m⊢;rcases v with X|⟨F,Q1⟩|⟨_,_⟩|⟨_,_,_⟩|R|(_|p)|⟨_,_,_⟩|_|_|⟨L,_,_⟩|_|⟨_,_⟩|_|_|_<;>first|exact .pure ⟨_,_,rfl,rfl,m⟩|exact .dead<|lW _ .nilDeref|(cases L<;>first|exact .pure ⟨_,_,rfl,rfl,m⟩|(simp[S,ve]at D;done))
 case binOp op t x y yt=>subst g;refine Ju<|W.bind' (ae6 op t x y (h x<|by simp)<|h y<|by simp) ?_;rintro M _ _ u _;exact afb λb T=>P b<|by omega A op t ((h x<|by simp).mono u)<|(h y<|by simp).mono u
 case fieldAddr t x i=>subst g;exact Ju<|ae0 t i<|h x<|by simp
 case indexAddr t x i=>subst g;exact Ju<|aeU t (h x<|by simp)<|h i<|by simp
 case extract x i=>subst g;exact Ju<|ae1 i<|h x<|by simp
 case call c=>obtain⟨j,k,z⟩:=c;cases j with|value f=>grind|invoke r n=>grind|builtin K=>
  cases K<;>first|grind|skip
  simp only[dX]at g;subst g;have Q:bD ρ I N (k.map e)<|k.map B:=by
   refine⟨λv H=>?_,?_⟩;·obtain⟨x,C,rfl⟩:=Kg.1 H;exact(h x<|by grind).1
   ·rw[Array.map_map];exact Np λx C=>(h x<|by simpa using C).2
  exact Ju<|aeT z s Q
end
def lM(ρ:Nat->Nat)(I:H)(N:Nat)(S:List Nat)(TL TR:Array az):Prop:=∀t,t∈S->RV ρ I N (TL.getD t ak) (TR.getD t ak)
def YG(ops:Array dG)(S:List Nat)(i:Nat):Bool:=match ops[i]? with|some o=>(match QF o.op with|some l=>l.all (λ|cy t=>S.contains t|gO v=>n v|_=>ai)|none=>ai)&&(match o.guard with|some (j,_)=>(match ops[j]?.bind (·.dst)with|some t=>S.contains t|none=>Z)|none=>Z)|none=>ai
def O9(ops:Array dG)(S:List Nat)(i:Nat):List Nat:=match ops[i]?.bind (·.dst)with|some t=>t::S|none=>S
def grow(ops:Array dG):List Nat->List Nat->List Nat|S,[]=>S|S,i::is=>grow ops (O9 ops S i) is
def Au(ops:Array dG):List Nat->List Nat->Bool|_,[]=>Z|S,i::is=>YG ops S i&&Au ops (O9 ops S i) is
theorem ak1(ops):∀(c){S}{t},t∈S->t∈grow ops S c|[],S,t,h=>h|i::c,S,t,h=>ak1 ops c<|by unfold O9;grind
section
variable {ρ:Nat->Nat} {I:H} {N:Nat} {S:List Nat} {TL TR:Array az}
theorem lM.mono{M}(h:lM ρ I N S TL TR){b}(c:∀x,x<N->ρ x=b x)(e:N<=M):lM b I M S TL TR:=λt d=>((h t d).re c).mono e
theorem lM.sub{S'}(h:lM ρ I N S TL TR)(c:∀t∈S',t∈S):lM ρ I N S' TL TR:=λt b=>h t<|c t b
theorem lM.put(h:lM ρ I N S TL TR)(g:TL.size=TR.size){x x'}(j:RV ρ I N x x')(d)(c b):lM ρ I N (match d with|some t=>t::S|none=>S) (dj ⟨TL,c⟩ d x).tmps (dj ⟨TR,b⟩ d x').tmps:=by intro t f;cases d with|none=>exact h t f|some d=>
  show RV ρ I N ((TL.setIfInBounds d x).getD t ak)<|(TR.setIfInBounds d x').getD t ak;rw[iM,iM];by_cases e:d=t;.grind[Array.getElem?_setIfInBounds_self_of_lt,Array.getElem?_eq_none,RV.plain,uU]
  .rw[nB e,nB e,<-iM,<-iM];exact h t<|(di.1 f).resolve_left λi=>e i.symm
theorem RV.bool{x x'}(h:RV ρ I N x x')(b):x=cx b↔x'=cx b:=by obtain⟨_,rfl⟩:=h;cases x<;>simp[F]
theorem lM.yielded(h:lM ρ I N S TL TR){ops:Array dG}{j:Nat}(d:match ops[j]?.bind (·.dst)with|some t=>t∈S|none=>True):dZ ops TL j=dZ ops TR j:=by unfold dZ;cases e:ops[j]?.bind (·.dst)with|none=>rfl|some t=>rw[e]at d;have b:=h t d;rw[iM,iM]at b;simp only[y9];obtain⟨_,b⟩:=b;cases f:TL[t]? with
  |none=>rw[f]at b;cases c:TR[t]? with|none=>rfl|some y=>simp only[Option.getD_none,ak,F]at b;grind
  |some x=>rw[f]at b;cases c:TR[t]? with|none=>rw[c]at b;cases x<;>simp[ak,F]at b⊢|some y=>rw[c]at b;subst b;cases x<;>simp[F]
theorem Term.one{P}{Done}(k:nt P Done){g g'}{w}(u:g.status=dN)(d:∀b,cj P Z g b=bV g' b #[])(t:Term P Done g w):∃b,i w b/\Term P Done g' b/\uz (qN P Done) (g',b) (g,w):=by cases t with|done c=>obtain⟨o,b,j,e⟩:=k g w w.tape 0 c;grind|step f p l=>
  obtain⟨⟨j,e⟩,_⟩:=p w.tape;have a:=e;rw[d]at a;injection a with n q s;have h:=l w.tape;rw[<-n,<-q]at h;refine⟨_,⟨w.tape,0,rfl⟩,h,.single ⟨λc=>?_,w.tape,j,?_⟩⟩;.obtain⟨o,b,m,r⟩:=k g w w.tape 0 c;grind
  grind
theorem uK.refl(h)(s):uK h s s:=⟨rfl,rfl,rfl,rfl,rfl,aQ _,λ_ _ _=>rfl,λ_ _=>rfl,rfl,rfl,rfl,λ_ _ _=>rfl⟩
theorem uK.trans{h}{s t u}(a:uK h s t)(b:uK h t u):uK h s u:=⟨b.size.trans a.size,b.role.trans a.role,b.md.trans a.md,b.ch.trans a.ch,b.D.trans a.D,bC a.vD b.vD,λx d e=>(b.own x (cB d a.vD)<|(a.cls x d).trans e).trans<|a.own x d e,λx d=>(b.cls x<|cB d a.vD).trans<|a.cls x d,b.os.trans a.os,b.tape.trans a.tape,b.out.trans a.out,λx d e=>(b.old x (cB d a.vD)<|(a.cls x d).trans e).trans<|a.old x d e⟩
theorem Kept.A3{h}{s t}(k:Kept h [] s t)(f:t.D h=s.D h)(e:t.ch=s.ch):uK h s t:=⟨k.size,k.role,k.md,e,f,k.left.size,λb d c=>k.rest b d c<|by simp,k.cls,k.left.os,k.left.tape,k.left.out,λb d e=>k.left.block b d<|aB<|ay e⟩
theorem Wb{P}{main}{b:aZ}{T}{ds}{ops}{i}{rest}{o}{k}{cs}(d:ops[i]?=U o)(c:eW o (dZ ops T)=ai)(w):cj P main (G (b.at ⟨T,ds⟩<|aT ops (i::rest)::k) cs) w=bV (G (b.at (dj ⟨T,ds⟩ o.dst ak)<|aT ops rest::k) cs) w #[]:=by grind[stepG_unwanted]
theorem Gs(T)(ds)(d)(x):(dj ⟨T,ds⟩ d x).tmps.size=T.size:=by cases d<;>simp[dj]
theorem put_defers(T)(ds)(d)(x):dj ⟨T,ds⟩ d x=⟨(dj ⟨T,ds⟩ d x).tmps,ds⟩:=by cases d<;>rfl
theorem Ec{T}{ds}{d:Option Tmp}{x}{t:Nat}(h:d≠U t):(dj ⟨T,ds⟩ d x).tmps[t]?=T[t]?:=by cases d with|none=>rfl|some d=>exact nB λe=>h<|by grind
def uw(ops:Array dG)(is:List Nat):List Nat:=is.filterMap λi=>ops[i]?.bind (·.dst)
theorem Ok.J7{K:fK}{h:Nat}{fs:Array dY}{Done:aX->ax->Prop}(hE:nt (J K.P fs) Done){bL f:aZ}{n q:List Deferred}{kL kR:List eY}{B cY:List aZ}{ops:Array dG}{rest:List Nat}(C:∀fr w,¬Done (G fr B) w):∀(r:List Nat){S:List Nat}{TL TR:Array az}{w:ax}{ρ:Nat->Nat}{s:St},Au ops S r=Z->Ok K h s (G (f.at ⟨TR,q⟩<|aT ops (r++rest)::kR) cY)->Term (J K.P fs) Done (G (bL.at ⟨TL,n⟩<|aT ops (r++rest)::kL) B) w->fM ρ I K.P s.cl w s.v->lM ρ I w.heap.size S TL TR->TL.size=TR.size->∃t c y d k,(∀z,z<w.heap.size->ρ z=c z)∧w.heap.size<=y.heap.size∧(∀z,z<w.heap.size->I.F z=ai->y.heap[z]?=w.heap[z]?)∧lM c I y.heap.size (grow ops S r) d k∧d.size=TL.size∧k.size=TR.size∧(∀t,t∉uw ops r->d[t]?=TL[t]?∧k[t]?=TR[t]?)∧Term (J K.P fs) Done (G (bL.at ⟨d,n⟩<|aT ops rest::kL) B) y∧me (J K.P fs) Done (G (bL.at ⟨d,n⟩<|aT ops rest::kL) B,y) (G (bL.at ⟨TL,n⟩<|aT ops (r++rest)::kL) B,w)∧s.runs K.P t∧uK h s t∧Ok K h t (G (f.at ⟨k,q⟩<|aT ops rest::kR) cY)∧fM c I K.P t.cl y t.v|[],S,TL,TR,w,ρ,s,_,H,R,M,O,A=>⟨s,ρ,w,TL,TR,λ_ _=>rfl,aQ _,λ_ _ _=>rfl,O,rfl,rfl,λ_ _=>⟨rfl,rfl⟩,R,.refl _,.refl s,.refl h s,H,M⟩|i::r,S,TL,TR,w,ρ,s,hl,H,R,M,O,A=>by simp only[List.cons_append]at H R⊢;simp only[Au,cG]at hl;obtain⟨h1,h2⟩:=hl;cases Q:ops[i]? with|none=>simp[YG,Q]at h1|some o=>
  simp only[YG,Q,cG]at h1;obtain⟨hu,hg⟩:=h1;have KQ:O9 ops S i=match o.dst with|some t=>t::S|none=>S:=by unfold O9;grind
  simp only[grow];rw[KQ]at h2⊢;cases a:QF o.op with|none=>grind|some l=>
  rw[a]at hu;simp only[uc]at hu;have m:∀t,t∉uw ops (i::r)->o.dst≠U t∧t∉uw ops r:=λt u=>by unfold uw at u⊢;grind
  have Q1:eW o (dZ ops TL)=eW o (dZ ops TR):=by unfold eW;cases eg:o.guard with|none=>rfl|some p=>obtain⟨j,b⟩:=p;rw[eg]at hg;dsimp only at hg⊢;rw[O.yielded (ops:=ops) (j:=j)<|by grind]
  cases P:eW o (dZ ops TL)with|false=>
   obtain⟨w1,rt,X,b1⟩:=Term.one hE rfl (Wb Q P) R;obtain⟨s1,a1,r1,T,e1,k1,d1,c1⟩:=H.walk (n:=1) (O:=[]) (Rd:=[]) (Stop:=λg _=>g=G (f.at (dj ⟨TR,q⟩ o.dst ak)<|aT ops (r++rest)::kR) cY) λg w e=>by rw[e];rfl (aB ⟨rfl,λw2 _=>by rw[Wb Q<|Q1▸P];exact⟨dh_none<|by simp,λ_ _=>rfl⟩⟩) (by simp) (by simp);subst e1;rw[put_defers]at T X;have M1:fM ρ I K.P s1.cl w1 s1.v:=(M.left k1.left k1.cls).re rt;have Q3:lM ρ I w1.heap.size (match o.dst with|some t=>t::S|none=>S) (dj ⟨TL,n⟩ o.dst ak).tmps (dj ⟨TR,q⟩ o.dst ak).tmps:=by rw[rt.heap];exact O.put A (RV.plain uU) _ _ _
   obtain⟨t,c,y,d,k,q1,q2,q3,q4,q5,q6,F,q8,q9,Q2,E,L,D⟩:=Ok.J7 hE C r h2 T X M1 Q3 (by grind[Gs]);rw[rt.heap]at q1 q2 q3;refine⟨t,c,y,d,k,q1,q2,q3,q4,q5.trans<|Gs _ _ _ _,q6.trans<|Gs _ _ _ _,λt u=>⟨(F t (m t u).2).1.trans<|Ec (m t u).1,(F t (m t u).2).2.trans<|Ec (m t u).1⟩,q8,q9.trans<|aB<|by grind[put_defers],r1.trans Q2,(k1.A3 d1 c1).trans E,L,D⟩|true=>
   have hs:∀c:Nat->Nat,(∀x,x<w.heap.size->ρ x=c x)->Fair c K.P->W c I (J K.P fs) K.P (P3 c I) w.heap.size (cS (dW ⟨TL,n⟩) o) (cS (dW ⟨TR,q⟩) o):=λc sx hf=>atB M.kB hf a λx hx=>by have:=hu x hx;cases x with|tmp t=>exact(O t<|by grind).re sx|const v=>exact RV.plain this|global g=>cases this|func f=>cases this
   obtain⟨s1,Qh,w1,x,x',a1,a2,a3,hv,X,b1,r1,d1,T,M1⟩:=H.azq hE R M Q P Q (Q1▸P) (C _ _) hs;rw[put_defers]at T X;have Q3:=(O.mono a1 a2).put A hv o.dst n q;obtain⟨t,c,y,d,k,q1,q2,q3,q4,q5,q6,F,q8,q9,Q2,E,L,D⟩:=Ok.J7 hE C r h2 T X M1 Q3 (by rw[Gs,Gs];exact A);refine⟨t,c,y,d,k,λz Q0=>(a1 z Q0).trans<|q1 z<|cB Q0 a2,bC a2 q2,λz Q0 hF=>(q3 z (cB Q0 a2) hF).trans<|a3 z Q0 hF,q4,q5.trans<|Gs _ _ _ _,q6.trans<|Gs _ _ _ _,λt u=>⟨(F t (m t u).2).1.trans<|Ec (m t u).1,(F t (m t u).2).2.trans<|Ec (m t u).1⟩,q8,q9.trans<|aB<|by rw[put_defers]at b1;exact b1,r1.trans Q2,d1.trans E,L,D⟩
end
end
section
open Go.Proofs Go.Conc Go.RowKit Go.Conc.Lib Go.ConcR.Gen
open Go.ConcN (upd upd_ne upd_same WgLive)
open Go.ConcR (KK WgAt stA smA wgBlock rd wr mk Bk)
def rK:List Nat:=[0,1,2,6,7,12,13]
def S8:List Nat:=[0,1,2,6,7]
theorem ayl:Au (eS<|cV 1) S8 [0,1,2,3,4,5,6]=Z:=by kernel_rfl
theorem aDc:grow (eS<|cV 1) S8 [0,1,2,3,4,5,6]=[22,21,20,19,18,17,16,0,1,2,6,7]:=by kernel_rfl
theorem ayh:Au (eS<|cV 7) S8 [0,1,2,3,4]=Z:=by kernel_rfl
theorem aDa:grow (eS<|cV 7) S8 [0,1,2,3,4]=[40,39,38,37,36,0,1,2,6,7]:=by kernel_rfl
theorem ayg:Au (eS<|cV 7) (41::S8) [6,7]=Z:=by kernel_rfl
theorem aC9:grow (eS<|cV 7) (41::S8) [6,7]=[13,12,41,0,1,2,6,7]:=by kernel_rfl
theorem ayk:Au (eS lD) rK [0,1,2,3,4,5,6,7,8,9,10,11,12,13,14,15,16,17,18]=Z:=by kernel_rfl
theorem aDb:(grow (eS lD) rK [0,1,2,3,4,5,6,7,8,9,10,11,12,13,14,15,16,17,18]).contains 62=Z:=by kernel_rfl
theorem ayj:Au (eS kO) rK [0,1,2]=Z:=by kernel_rfl
theorem ayi:Au (eS<|eM 1 kO) rK [0,1,2,3,4]=Z:=by kernel_rfl
structure LF(w w':ax):Prop where
 os:w'.os=w.os
 size:w'.heap.size=w.heap.size
 blk:∀b,b≠4->w'.heap[b]?=w.heap[b]?
def Bs(w w':ax)(es:Array jq):Prop:=LF w w'
theorem LF.refl(w):LF w w:=⟨rfl,rfl,λ_ _=>rfl⟩
theorem LF.trans(a b c)(h:LF a b)(k:LF b c):LF a c:=⟨k.os.trans h.os,k.size.trans h.size,λx d=>(k.blk x d).trans<|h.blk x d⟩
theorem LF.BX(a b)(h:i a b):LF a b:=by obtain⟨c,d,rfl⟩:=h;exact⟨rfl,rfl,λ_ _=>rfl⟩
instance:Qt i Bs:=⟨LF.refl,i.refl⟩
theorem fM.lf{K:fK}{ρ}{I}{d}{w w1 v}(M:fM ρ I K.P d w v)(j:I.F 4=ai)(c:∀A,I.arg=U A->A.g≠4)(h:LF w w1):fM ρ I K.P d w1 v:=by exact⟨M.os.trans h.os.symm,M.fair,λb a=>M.low b<|by rw[<-h.size];exact a,λb o a f=>by rw[h.size];exact M.blk b o (by rw[<-h.blk b<|λb a e=>by grind b f];exact a) f,λb a=>M.kB b<|by rw[<-h.size];exact a,by rw[h.size];exact M.CQ,λb a=>M.cls b<|by rw[<-h.size];exact a,λA i=>by rw[h.blk _<|c A i];exact M.arg A i⟩
theorem p{w w1}{x}(h:w.heap[4]?=U (aH #[x] 3))(r:i w w1):w1.heap[4]?=U (aH #[x] 3):=by rw[r.heap];exact h
theorem Mt(q)(fs)(t):(J q fs).underlying t=q.underlying t:=rfl
theorem azF(q)(fs)(t):(J q fs).info? t=q.info? t:=rfl
section
variable {fs:Array dY} {C:List aZ}
theorem u3(fs):(J aD fs).underlying 3=U (.int aG):=(Mt _ _ _).trans underlying3
theorem XC(fs)(w):(pB 3).run (J aD fs) w=aW (.int aG) w:=run_underlying (u3 fs) w
theorem ia3(fs)(w):(isAgg 3).run (J aD fs) w=aW ai w:=by unfold isAgg;simp[XC]
theorem Ri(fs)(w):(Go.sizeOf 3).run (J aD fs) w=aW 1 w:=by have h:=sizeOf3 w;unfold Go.sizeOf typeInfo at h⊢;simp[go_sem,azF]at h⊢;generalize aD.info? 3=o at h⊢;cases o with|none=>simp[go_sem]at h|some i=>simp[go_sem]at h⊢;exact h
theorem YK{w}{x}(y)(h:w.heap[4]?=U (aH #[x] 3)):LF w (w.setCell ⟨4,0,V⟩ y)/\(w.setCell ⟨4,0,V⟩ y).heap[4]?=U (aH #[y] 3):=by refine⟨?_,by rw[pE 0 y h];rfl⟩;rw[PS 0 y h];exact⟨rfl,by simp,λb a=>nB λe=>a e.symm⟩
def gw(n:Int)(w:ax):Prop:=w.heap[4]?=U (aH #[Y aG n] 3)
set_option maxHeartbeats 1000000 in
theorem ayz{T}(O:T.size=87){w}(a:w.heap[4]?=U (aH #[Y aG 0] 3)):∃n,cM (J aD fs) Z i Bs (λg w=>gw 1 w/\g=G ((bh 41).at ⟨(T.setIfInBounds 23<|Y aG 0).setIfInBounds 24 Z,[]⟩ [aT Ap [1,2],bF Ga]) C) n (G ((bh 41).at ⟨T,[]⟩ [bF Dg]) C) w:=by refine⟨620,?_⟩;obtain⟨v0,v1,v2,v3,v4,v5,v6,v7,v8,v9,v10,D,v12,mF,qc,M,qb,qa,X,mE,v20,Q1,P,pZ,q,r,x,QX,v28,QW,B,v31,uS,V,t,pY,Qw,v37,pX,pW,v40,pV,pU,pS,R,oa,Q0,pR,pQ,v49,v,v51,m,l,xO,pP,nZ,A,F,v59,nY,pO,pM,o,nX,QY,nW,h,u,z,Q2,QZ,v72,W,s,Q3,v76,xN,S,Q,k,E,L,nV,H,v85,j,rfl⟩:=pG T O;simp only[Dg,Sf,Ap,eN];refine lift ?_;u_c I p a;u_reg p a;refine y λ_ b=>?_;replace a:=p a b;u_in p a;refine gi rfl rfl (by k_ne) λK c=>?_;have d:=gC (o:=0) a rfl;have f:=ia3 fs;go_simp;refine c _ _ ⟨.refl _,?_⟩;u_in p a;refine gi rfl rfl (by k_ne) λK c=>?_;have f:=XC fs;go_simp;refine c _ _ ⟨.refl _,?_⟩;refine lift ?_;u_c N p a;u_c I p a;u_cond Z p a;u_c lR p a;u_c I p a;u_reg p a;refine y λ_ b=>?_;replace a:=p a b;u_in p a;refine gi rfl rfl (by k_ne) λK c=>?_;have f:=Ri fs;have d:=gC (o:=0) a rfl;have hz:=xC 0 a;go_simp;have e:=YK (Y aG 1) a;refine c _ _ ⟨e.1,?_⟩;exact y λw1 h1=>⟨p e.2 h1,rfl⟩
set_option maxHeartbeats 1000000 in
theorem ayB{T}(P:T.size=87){w}(a:gw 1 w):∃n,cM (J aD fs) Z i Bs (λg w=>g.callers=C/\∀f h e d,cj (J aD fs) Z g f≠bV h e d) n (G ((bh 41).at ⟨T,[]⟩ [bF Dg]) C) w:=by refine⟨620,?_⟩;obtain⟨v0,v1,v2,v3,v4,v5,v6,v7,v8,v9,v10,E,v12,mF,qc,Q2,qb,qa,Q0,mE,v20,v21,R,pZ,r,s,QW,Q1,v28,O,D,v31,uS,X,u,pY,q,v37,pX,pW,v40,pV,pU,pS,U,oa,W,pR,pQ,v49,x,v51,o,m,xO,pP,nZ,B,H,v59,nY,pO,pM,QY,nX,z,nW,QX,v,A,v70,j,v72,Y,t,L,v76,xN,V,S,l,F,M,nV,Q3,v85,k,rfl⟩:=pG T P;unfold gw at a;simp only[Dg,Sf,Ap,eN];refine lift ?_;u_c I p a;u_reg p a;refine y λ_ b=>?_;replace a:=p a b;u_in p a;refine gi rfl rfl (by k_ne) λK c=>?_;have sK:=gC (o:=0) a rfl;have Q:=ia3 fs;go_simp;refine c _ _ ⟨.refl _,?_⟩;u_in p a;refine gi rfl rfl (by k_ne) λK c=>?_;have Q:=XC fs;go_simp;refine c _ _ ⟨.refl _,?_⟩;refine dH ?_;u_c N p a;u_c I p a;u_cond ai p a;refine y λf h1=>⟨rfl,λw2 h e d=>?_⟩;simp[G,cj,xz,Frame.at]
end
theorem aej{P}{main}{b:aZ}{a}{k}{cs}{ops}{i}{rest}{o}{w w1}{m}(f:ops[i]?=U o)(d:eW o (dZ ops a.tmps)=Z)(j:(cS a.eval o).run P w=dM (.stuck m) w1)(g')(w')(es):cj P main (G (b.at a<|aT ops (i::rest)::k) cs) w≠bV g' w' es:=by
 rw[Tf f d];have e:((cS a.eval o).runT P w #[]).1=dM (.stuck m) w1:=by grind[Sem.runT_fst]
 unfold xA;simp only[gL];generalize(cS a.eval o).runT P w #[]=R at e⊢;obtain⟨r,g⟩:=R;subst e;intro h;dsimp only[vT]at h;cases h
theorem aDH(fs){v}(b:∀a,v≠aF (U a))(w):∃m,(zL 110 v 0).run (J aD fs) w=dM (.stuck m) w:=by have h:=run_underlying (P:=J aD fs)<|(Mt _ _ _).trans underlying110;unfold zL;cases v with
 |pointer p=>cases p with|some a=>grind|none=>exact⟨ "an address expected (no nilCheck in front?)",by simp[go_sem,h,FB]⟩
 |_=>exact⟨ "an address expected (no nilCheck in front?)",by simp[go_sem,h,FB]⟩
section
variable {fs:Array dY} {Done:aX->ax->Prop} {b:aZ} {T:Array az} {ds:List Deferred} {k:List eY} {cs:List aZ} {ops:Array dG} {i:Nat} {rest:List Nat} {o:dG} {w:ax}
theorem ad7{t}(h:Term (J aD fs) Done (G (b.at ⟨T,ds⟩<|aT ops (i::rest)::k) cs) w)(s:nt (J aD fs) Done)(d:¬Done (G (b.at ⟨T,ds⟩<|aT ops (i::rest)::k) cs) w)(j:ops[i]?=o)(g:eW o (dZ ops T)=Z)(c:o.op=.fieldAddr 110 (cy t) 0):∃a,T.getD t ak=aF (U a):=by
 refine ou λp=>h.Gr s (λf r q l=>?_) d;obtain⟨m,n⟩:=aDH fs (v:=T.getD t ak) (λa e=>p ⟨a,e⟩)<|World.re w f 0;refine aej (m:=m) (w1:=World.re w f 0) j g ?_ r q l;have e:cS (dW ⟨T,ds⟩) o=(do bI<|gq<|<-zL 110 (T.getD t ak) 0:cz Next):=by unfold cS;rw[c];rfl
 rw[e];rw[NJ,n];rfl
end
theorem avl(fs)(a)(w):(zL 110 (aF<|U a) 0).run (J aD fs) w=aW (aF a) w:=by unfold zL;simp[go_sem,run_underlying (P:=J aD fs)<|(Mt _ _ _).trans underlying110,FB,fieldPlace,Ri fs]
section
variable {fs:Array dY} {C:List aZ}
set_option maxHeartbeats 1000000 in
theorem ayv{T}{a}(M:T.size=87)(c:T[0]?=U (.pointer a)){w}(b:gw 1 w):∃n,cM (J aD fs) Z i Bs (λg w=>gw 1 w/\g=G ((bh 41).at ⟨T.setIfInBounds 25<|.pointer<|U a,[]⟩ [.inRegion Ap [2],.code Ga]) C) n (G ((bh 41).at ⟨T,[]⟩ [.inRegion Ap [1,2],.code Ga]) C) w:=by refine⟨620,?_⟩;obtain⟨v0,v1,v2,v3,v4,v5,v6,v7,v8,v9,v10,A,v12,mF,qc,Q2,qb,qa,V,mE,v20,X,N,pZ,m,o,t,F,v28,L,z,v31,uS,S,q,pY,l,v37,pX,pW,v40,pV,pU,pS,P,oa,R,pR,pQ,v49,s,v51,j,QW,Y,pP,nZ,Q3,D,v59,nY,pO,pM,k,nX,u,nW,d,r,v,W,e,v72,Q0,QX,H,v76,Q1,Q,O,h,B,I,nV,E,v85,f,rfl⟩:=pG T M;simp only[my,nG,dX]at c;subst c;unfold gw at b;simp only[Ap,eN];u_in p b;refine gi rfl rfl (by k_ne) λK x=>?_;go_simp;refine x _ _ ⟨.refl _,?_⟩;exact y λw1 h1=>⟨p b h1,rfl⟩
set_option maxHeartbeats 1000000 in
theorem ayw{T}{b}(M:T.size=87)(c:T[1]?=U (.pointer b)){w}(a:gw 1 w):∃n,cM (J aD fs) Z i Bs (λg w=>gw 1 w/\g=G ((bh 41).at ⟨((T.setIfInBounds 26<|.pointer<|U b).setIfInBounds 6<|.int .i64 0).setIfInBounds 7<|.int .i64 0,[]⟩ [.inRegion (eS<|cV 1) [0,1,2,3,4,5,6],.code<|.seq yw yG]) C) n (G ((bh 41).at ⟨T,[]⟩ [.inRegion Ap [2],.code Ga]) C) w:=by refine⟨620,?_⟩;obtain⟨v0,v1,v2,v3,v4,v5,v6,v7,v8,v9,v10,A,v12,mF,qc,Q2,qb,qa,V,mE,v20,X,Q3,pZ,m,o,t,F,v28,L,z,v31,uS,S,q,pY,l,v37,pX,pW,v40,pV,pU,pS,P,oa,R,pR,pQ,v49,s,v51,j,QY,Y,pP,nZ,QX,D,v59,nY,pO,pM,k,nX,u,nW,d,r,v,W,e,v72,Q0,QZ,H,v76,Q1,Q,O,h,B,QW,nV,E,v85,f,rfl⟩:=pG T M;simp only[my,qu,nG,dX]at c;subst c;unfold gw at a;simp only[Ga,Ap,eN,eS,cV,eM,oG,fW];u_in p a;refine gi rfl rfl (by k_ne) λK x=>?_;have h3:=avl fs;go_simp;refine x _ _ ⟨.refl _,?_⟩;refine dH ?_;u_c N p a;u_c I p a;u_reg p a;u_op p a;u_op p a;u_c N p a;u_c I p a;u_reg p a;exact y λw1 h1=>⟨p a h1,rfl⟩
theorem amE{P}{main}{b:aZ}{a}{k}{cs}{c}{x y}{w}(h:∀t,a.eval c≠cx t)(g')(w')(es):cj P main (G (b.at a<|bF (.cond c x y)::k) cs) w≠bV g' w' es:=by intro e;have d:=Frame.eval_at' b a<|bF (.cond c x y)::k;simp only[Frame.at]at d;simp only[G,cj,xz,Frame.at,d]at e;grind
theorem ayG{P}{main}{b:aZ}{a}{d}{fn}{v}{c}{cs}{w}(e:b.kind=eo)(i:a.defers=[])(g:P.funcs[b.fn]?=U fn)(f:(kD fn a.tmps).run P w=aW v w)(h:(kD fn a.tmps).events P w #[]=#[]):cj P main (G {b.at a d with mode:=fI}<|c::cs) w=bV (G (c.finish v) cs) w #[]:=by simp[G,cj,unwind,oE,Frame.at,e,i,g,f,h,vT,seen]
end
noncomputable def nx:Array dG:=eS<|cV 7
noncomputable def x9:List eY:=[bF<|cV 8]
theorem ahc:(f60.name== "runtime.NumGoroutine")=ai:=by kernel_rfl
theorem amX{P:bZ}{f:fC}{fn:dY}{c:Code}(hf:P.funcs[f]?=U fn)(E:(fn.name== "runtime.NumGoroutine")=ai)(hb:fn.body=U c)(args:Array az)(w:ax):(iJ f args).run P w=aW (jO f args) w:=by
 have h1:fn.name≠ "runtime.NumGoroutine":=by simpa using E
 simp[iJ,hf,h1,hb]
section
variable {fs:Array dY} {C:List aZ}
set_option maxHeartbeats 1000000 in
theorem afJ{T:Array az}(w:ax):∃n,cM aD Z (L<|[]++[]) (DH [] []) (λg w=>g=G ((bh 41).at ⟨T,[]⟩<|aT nx [0,1,2,3,4,5,6,7]::x9) C) n (G ((bh 41).at ⟨T,[]⟩ [bF<|cV 7]) C) w:=by refine⟨620,?_⟩;simp only[x9,nx,eS,cV,eM,oG,fW];have hF:True:=trivial;refine dH ?_;u_c I A hF;u_reg A hF;exact y λw1 h1=>rfl
set_option maxHeartbeats 1000000 in
theorem afK{T:Array az}{v x:az}(hT:T.size=87)(h0:T[36]?=U v/\T[40]?=U x)(w:ax):∃n,cM aD Z (L<|[]++[]) (DH [] []) (λg w=>g=G (eP aD 60 #[v,x] eo) ((bh 41).at ⟨T,[]⟩ (aT nx [5,6,7]::x9)::C)) n (G ((bh 41).at ⟨T,[]⟩<|aT nx [5,6,7]::x9) C) w:=by
 refine⟨620,?_⟩;obtain⟨v0,v1,v2,v3,v4,v5,v6,v7,v8,v9,v10,v11,v12,mF,qc,Jh,qb,qa,F6,mE,v20,v21,F5,pZ,v24,QE,QD,QC,v28,Jg,v30,v31,uS,F4,V9,pY,V8,v37,pX,pW,v40,pV,pU,pS,Jf,oa,v46,pR,pQ,v49,QB,v51,V7,v53,xO,pP,nZ,V4,QA,v59,nY,pO,pM,V3,nX,Qv,nW,V0,VZ,VY,v70,Qu,v72,F3,VX,v75,B,xN,Je,F2,V,VW,Qs,nV,VV,D,VU,rfl⟩:=pG T hT;clear hT;simp only[my,qu,nG,dX]at h0;obtain⟨rfl,rfl⟩:=h0;simp only[x9,nx,eS,cV,eM,oG,fW];have hF:True:=trivial;u_in A hF;refine NL rfl rfl (by k_ne) λK E hK hE=>?_;go_simp;refine hE _ _ _ ⟨⟨rfl,rfl,rfl,rfl,λ_ _=>rfl,λe he=>?_⟩,?_⟩;.have hm:=kN he;have hz:=λargs w es=>Pj (P:=aD) (args:=args) (w:=w) es func60 ahc rfl;simp[go_sem,hz]at hm
 exact y λw1 h1=>rfl
theorem x60(E:fs[60]?=U f60):(J aD fs).funcs[60]?=U f60:=E
set_option maxHeartbeats 1000000 in
theorem ayD(A:fs[60]?=U f60){T:Array az}{v x:az}{k:List eY}(hT:T.size=87)(h0:T[36]?=U v/\T[40]?=U x){w:ax}(hF:gw 1 w):∃n,cM (J aD fs) Z i Bs (λg w=>gw 1 w/\g=G (eP (J aD fs) 60 #[v,x] eo) ((bh 41).at ⟨T,[]⟩ (aT nx [5,6,7]::k)::C)) n (G ((bh 41).at ⟨T,[]⟩<|aT nx [5,6,7]::k) C) w:=by refine⟨620,?_⟩;obtain⟨v0,v1,v2,v3,v4,v5,v6,v7,v8,v9,v10,v11,v12,mF,qc,Jh,qb,qa,F6,mE,v20,v21,F5,pZ,v24,QE,QD,QC,v28,Jg,v30,v31,uS,F4,V9,pY,V8,v37,pX,pW,v40,pV,pU,pS,Jf,oa,v46,pR,pQ,v49,QB,v51,V7,v53,xO,pP,nZ,V4,QA,v59,nY,pO,pM,V3,nX,Qv,nW,V0,VZ,VY,v70,Qu,v72,F3,VX,v75,v76,xN,Je,F2,B,VW,Qs,nV,VV,V,VU,rfl⟩:=pG T hT;clear hT;simp only[my,qu,nG,dX]at h0;obtain⟨rfl,rfl⟩:=h0;simp only[nx,eS,cV,eM,oG,fW];u_in p hF;refine NL rfl rfl (by k_ne) λK E hK hE=>?_;go_simp;rw[amX (x60 A) ahc rfl];refine hE _ _ _ ⟨.refl _,?_⟩;exact y λw1 h1=>⟨p hF h1,rfl⟩
end
theorem Lf{n}{w w'}{I:H}(h:gw n w)(a:I.F 4=ai)(b:∀z,z<w.heap.size->I.F z=ai->w'.heap[z]?=w.heap[z]?):gw n w':=by grind[gw,pC]
theorem ans(x0 x1 x2)(n):(#[x0,x1,x2]++uy n ak)[0]?=U x0/\(#[x0,x1,x2]++uy n ak)[1]?=U x1/\(#[x0,x1,x2]++uy n ak)[2]?=U x2/\∀t,3<=t->(#[x0,x1,x2]++uy n ak).getD t ak=ak:=by refine⟨by grind,by grind,by grind,λt a=>?_⟩;rw[iM,Array.getElem?_append_right<|by grind,Array.getElem?_replicate];grind
theorem l{T:Array az}{i j}{x}(h:i≠j):(T.setIfInBounds i x)[j]?=T[j]?:=nB h
theorem getD_some{T:Array az}{t}{x}(h:T[t]?=U x):T.getD t ak=x:=by rw[iM,h];rfl
set_option maxHeartbeats 1000000 in
theorem avj{C}{T}(QW:T.size=87)(w):∃n,cM aD Z (L<|[]++[]) (DH [] []) (λg w=>g=G ((bh 41).at ⟨(T.setIfInBounds 6<|Y aG 0).setIfInBounds 7<|Y aG 0,[]⟩<|aT (eS<|cV 1) [0,1,2,3,4,5,6]::ED) C) n (G ((bh 41).at ⟨T,[]⟩ [bF<|cV 0]) C) w:=by refine⟨620,?_⟩;obtain⟨v0,v1,v2,v3,v4,v5,v6,v7,v8,v9,v10,x,v12,mF,qc,H,qb,qa,Q,mE,v20,S,J,pZ,k,l,r,B,v28,F,v,v31,W,O,o,pY,j,Q1,pX,pW,v40,pV,pU,pS,QX,oa,Q2,pR,pQ,X,q,v51,h,f,U,pP,nZ,u,z,Q0,nY,pO,pM,i,nX,s,nW,b,p,t,R,c,v72,P,m,D,v76,V,M,K,e,QY,E,nV,Q3,v85,d,rfl⟩:=pG T QW;simp only[ED,eS,cV,eM,oG,fW];have a:=trivial;refine dH ?_;u_c I A a;u_reg A a;u_op A a;u_op A a;u_c N A a;u_c I A a;u_c I A a;u_reg A a;exact y λw1 h1=>rfl
section
variable {K:fK} {B cY:List aZ} {fs:Array dY} {I:H}
theorem auA(hP:K.P=aD){Done}(u:nt (J K.P fs) Done)(p:∀fr w,¬Done (G fr B) w)(y:fs[41]?=wG)(h4:I.F 4=ai)(v:∀A,I.arg=U A->A.g≠4){s}{w}{ρ}{x0 x1 x2}(Q2:S I w.heap.size x0=Z∧S I w.heap.size x1=Z∧S I w.heap.size x2=Z)(H:Ok K 0 s<|r (eP K.P 41 #[F ρ x0,F ρ x1,F ρ x2] eo) cY)(C:Term (J K.P fs) Done (r (eP (J K.P fs) 41 #[x0,x1,x2] eo) B) w)(M:fM ρ I K.P s.cl w s.v)(q:gw 0 w):∃t i m k QY a b,(∀z,z<w.heap.size->ρ z=i z)∧w.heap.size<=m.heap.size∧(∀z,z<w.heap.size->I.F z=ai->z≠4->m.heap[z]?=w.heap[z]?)∧gw 1 m∧lM i I m (22::S8) k QY∧k.size=87∧QY.size=87∧(k[0]?=U (aF<|U a)∧k[1]?=U (aF<|U b)∧k[6]?=U (Y aG 0)∧k[7]?=U (Y aG 0))∧Term (J K.P fs) Done (G ((bh 41).at ⟨k,[]⟩ [aT (eS<|cV 1) [],bF<|eG yw yG]) B) m∧me (J K.P fs) Done (G ((bh 41).at ⟨k,[]⟩ [aT (eS<|cV 1) [],bF<|eG yw yG]) B,m) (r (eP (J K.P fs) 41 #[x0,x1,x2] eo) B,w)∧s.runs K.P t∧uK 0 s t∧Ok K 0 t (G ((bh 41).at ⟨QY,[]⟩<|aT (eS<|cV 1) []::ED) cY)∧fM i I K.P t.cl m t.v:=by
 obtain⟨P,L,Wg,n0,fS,live⟩:=K;simp only at hP;subst hP;have Q:∀f cs,r f cs=G f cs:=λ_ _=>rfl;rw[Q,EB (P:=J aD fs) (fn:=wG) (c:=Dg) _ y rfl]at C;rw[Q,EB (P:=aD) (c:=cV 0) _ func41 rfl]at H;have N:oG.ntmps=87:=by kernel_rfl
 simp only[N]at H;rw[Q,EB (P:=J aD fs) (fn:=wG) (c:=Dg) _ y rfl];have hn:wG.ntmps=87:=by kernel_rfl
 simp only[hn]at C⊢;generalize QW:(#[x0,x1,x2]++uy (87-(#[x0,x1,x2]:Array az).size) ak:Array az)=j at C⊢;have d:j.size=87:=by grind
 obtain⟨W,T,a2,a3⟩:j[0]?=U x0∧j[1]?=U x1∧j[2]?=U x2∧∀t,3<=t->j.getD t ak=ak:=by rw[<-QW];grind[ans]
 obtain⟨n1,g1⟩:=ayz (fs:=fs) (C:=B) d q;obtain⟨_,w1,⟨f1,rfl⟩,t1,b1,l1⟩:=Term.goes u LF.refl LF.trans LF.BX (λ_ _ _ h=>h) g1 C;have c0:((j.setIfInBounds 23<|Y aG 0).setIfInBounds 24 Z)[0]?=x0:=by rw[l<|by decide,l<|by decide];exact W
 have c1:((j.setIfInBounds 23<|Y aG 0).setIfInBounds 24 Z)[1]?=x1:=by rw[l<|by decide,l<|by decide];exact T
 obtain⟨a,ha⟩:=ad7 t1 u (p _ _) (o:=eN (U 25) (.fieldAddr 110 (cy 0) 0) 0) rfl rfl rfl;rw[getD_some c0]at ha;subst ha;obtain⟨n2,g2⟩:=ayv (fs:=fs) (C:=B) (a:=a) (by simpa using d) c0 f1;obtain⟨_,w2,⟨f2,rfl⟩,t2,b2,l2⟩:=Term.goes u LF.refl LF.trans LF.BX (λ_ _ _ h=>h) g2 t1;have d1:(((j.setIfInBounds 23<|Y aG 0).setIfInBounds 24 Z).setIfInBounds 25<|aF a)[1]?=x1:=by grind
 obtain⟨b,hb⟩:=ad7 t2 u (p _ _) (o:=eN (U 26) (.fieldAddr 110 (cy 1) 0) 0) rfl rfl rfl;rw[getD_some d1]at hb;subst hb;obtain⟨n3,g3⟩:=ayw (fs:=fs) (C:=B) (b:=b) (by simpa using d) d1 f2;obtain⟨_,w3,⟨f3,rfl⟩,t3,b3,l3⟩:=Term.goes u LF.refl LF.trans LF.BX (λ_ _ _ h=>h) g3 t2;generalize x:(#[F ρ<|aF<|U a,F ρ<|aF<|U b,F ρ x2]++uy (87-(#[F ρ<|aF<|U a,F ρ<|aF<|U b,F ρ x2]:Array az).size) ak:Array az)=o at H;have QX:o.size=87:=by rw[<-x];simp
 obtain⟨e0,e1,e2,e3⟩:o[0]?=U (F ρ<|aF<|U a)∧o[1]?=U (F ρ<|aF<|U b)∧o[2]?=U (F ρ x2)∧∀t,3<=t->o.getD t ak=ak:=by rw[<-x];exact ans _ _ _ _
 obtain⟨n4,g4⟩:=avj (C:=cY) QX s.v;obtain⟨s1,_,r1,H1,rfl,X,Q3,cc1⟩:=H.walk (n:=n4) (O:=[]) (Rd:=[]) λg w e=>by rw[e];rfl g4 (by simp) (by simp);have n:=(l1.trans _ _ _ l2).trans _ _ _ l3;have hA:lM ρ I w3 S8 ((((((j.setIfInBounds 23<|Y aG 0).setIfInBounds 24 Z).setIfInBounds 25<|aF a).setIfInBounds 26<|aF b).setIfInBounds 6<|Y aG 0).setIfInBounds 7<|Y aG 0)<|(o.setIfInBounds 6<|Y aG 0).setIfInBounds 7<|Y aG 0:=by
  intro t ht;by_cases h7:t=7;·subst h7;rw[getD_some (x:=Y aG 0)<|kg<|by simp[d],getD_some (x:=Y aG 0)<|kg<|by grind];exact RV.plain rfl
  by_cases h6:t=6;·subst h6;rw[getD_some (x:=Y aG 0)<|by rw[l<|by decide];exact kg<|by simp[d],getD_some (x:=Y aG 0)<|by grind[l,Array.getElem?_setIfInBounds_self_of_lt]];exact RV.plain rfl
  have QZ:t≠23∧t≠24∧t≠25∧t≠26:=by refine⟨?_,?_,?_,?_⟩<;>(rintro rfl;revert ht;decide)
  have eL:((((((j.setIfInBounds 23<|Y aG 0).setIfInBounds 24 Z).setIfInBounds 25<|aF a).setIfInBounds 26<|aF b).setIfInBounds 6<|Y aG 0).setIfInBounds 7<|Y aG 0:Array az).getD t ak=j.getD t ak:=by simp only[iM];rw[l<|x6 h7,l<|x6 h6,l<|x6 QZ.2.2.2,l<|x6 QZ.2.2.1,l<|x6 QZ.2.1,l<|x6 QZ.1]
  have eR:((o.setIfInBounds 6<|Y aG 0).setIfInBounds 7<|Y aG 0:Array az).getD t ak=o.getD t ak:=by simp only[iM];rw[l<|x6 h7,l<|x6 h6]
  rw[eL,eR,n.size];by_cases h3:3<=t;·rw[a3 t h3,e3 t h3];exact RV.plain uU
  ·have:t=0∨t=1∨t=2:=by omega
   rcases this with rfl|rfl|rfl;·rw[getD_some W,getD_some e0];exact⟨Q2.1,rfl⟩
   ·rw[getD_some T,getD_some e1];exact⟨Q2.2.1,rfl⟩
   ·rw[getD_some a2,getD_some e2];exact⟨Q2.2.2,rfl⟩
 obtain⟨t,i,m,k,QY,q1,q2,q3,q4,q5,q6,E,q8,q9,Q1,Q0,q12,R⟩:=Ok.J7 (rest:=[]) u p [0,1,2,3,4,5,6] ayl H1 t3 ((M.left X.left X.cls).lf h4 v n) hA (by simp[d,QX]);have D:∀t,t=0∨t=1∨t=6∨t=7->t∉uw (eS<|cV 1) [0,1,2,3,4,5,6]:=λt ht=>by
  have e:uw (eS<|cV 1) [0,1,2,3,4,5,6]=[16,17,18,19,20,21,22]:=by kernel_rfl
  rw[e];rcases ht with rfl|rfl|rfl|rfl<;>decide
 have aIR:=n.size;refine⟨t,i,m,k,QY,a,b,λz hz=>q1 z<|by grind,by grind,λz hz hF O=>(q3 z (by grind) hF).trans<|n.blk z O,Lf f3 h4 q3,by rw[aDc]at q4;exact q4.sub<|by decide,by rw[q5];simpa using d,by rw[q6];simpa using QX,⟨?_,?_,?_,?_⟩,q8,q9.trans<|b3.trans<|b2.trans b1,r1.trans Q1,(X.A3 Q3 cc1).trans Q0,q12,R⟩;·rw[(E 0<|D 0<|by simp).1,l<|by decide,l<|by decide,l<|by decide,l<|by decide,l<|by decide,l<|by decide];exact W
 ·rw[(E 1<|D 1<|by simp).1,l<|by decide,l<|by decide,l<|by decide,l<|by decide,l<|by decide,l<|by decide];exact T
 ·rw[(E 6<|D 6<|by simp).1,l<|by decide];exact kg<|by simp[d]
 ·rw[(E 7<|D 7<|by simp).1];exact kg<|by simp[d]
end
structure FQ(fs:Array dY)(I:H)(nm:String->Bool):Prop where
 lay:nU I aD fs nm
 same:Same I aD fs nm (λ_=>False)f41:fs[41]?=U wG
 f59:fs[59]?=U Tryz.f59
 f60:fs[60]?=U Tryz.f60
 t59:I.T 59=Z
 t60:I.T 60=Z
 flag:I.F 4=ai
 IP:∀A,I.arg=U A->A.g≠4
 Pq:∀f n,I.cut f n=Z->f=41/\n=3\/∃fn VP,fs[f]?=U fn/\fn.body=U (.refuse VP)
theorem af1{P}{main}{b:aZ}{a}{k}{cs}{c}{w}(g')(w')(es):cj P main (G (b.at a<|bF (.refuse c)::k) cs) w≠bV g' w' es:=by intro d;simp[G,cj,xz,Frame.at]at d
section
variable {K:fK} {h:Nat} {fs:Array dY} {I:H} {nm:String->Bool}
theorem phase(hP:K.P=aD)(W:FQ fs I nm){Done}(F:nt (J K.P fs) Done)(R:∀g w,Done g w->g.callers=[]){f}(hf:I.T f=Z)(hb:∃fn c,aD.funcs[f]?=U fn/\fn.body=U c){bL D}{B cY}(iv:B≠[]){xs i}{ρ}{w}(S:bD ρ I w.heap.size xs i){s}(H:Ok K h s<|G (eP K.P f i eo)<|D::cY)(tr:Term (J K.P fs) Done (G (eP (J K.P fs) f xs eo)<|bL::B) w)(M:fM ρ I K.P s.cl w s.v)(j:gw 1 w):∃t d b x x',(∀z,z<w.heap.size->ρ z=d z)/\w.heap.size<=b.heap.size/\(∀z,z<w.heap.size->I.F z=ai->b.heap[z]?=w.heap[z]?)/\gw 1 b/\RV d I b x x'/\Term (J K.P fs) Done (G (bL.finish x) B) b/\uz (qN (J K.P fs) Done) (G (bL.finish x) B,b) (G (eP (J K.P fs) f xs eo)<|bL::B,w)/\s.runs K.P t/\uK h s t/\Ok K h t (G (D.finish x') cY)/\fM d I K.P t.cl b t.v:=by
 obtain⟨P,L,Wg,n0,C,o⟩:=K;simp only at hP;subst hP;have hg:∀f p,G f p=r f p:=λ_ _=>rfl;have m:∀A p w,¬Done (r A<|p++bL::B) w:=λA p w N=>by have:=R _ _ N;simp[r]at this
 obtain⟨t,d,b,g1,a1,a2,a3,E,b1,r1,d1,q⟩:=Ok.tree (K:=⟨aD,L,Wg,n0,C,o⟩) (fr:=eP (J aD fs) f xs eo) (fr':=eP aD f i eo) (cs:=[]) (cs':=[]) W.lay W.same (b:=bL) (bs:=B) (B':=D::cY) (ay ⟨D,cY,rfl⟩) m tr H (ay<|fb.A1 W.same hf (λh=>h) hb S) .nil M;have e:=Lf j W.flag a3;rcases q with⟨Fg,H1,M1,a⟩|⟨hB,_⟩;.cases a with|back hB k=>grind|@cut f' l aGm u Uy Q2 Q0 k ha CC fL=>
   exfalso;have y:∀A w,¬Done (G A<|u::Q2++bL::B) w:=λA w N=>by grind
   rcases k with k|k;.exact k
   rcases W.Pq _ _ k with⟨rfl,hn⟩|⟨fn,X,e1,e2⟩
   .have O:wG.ntmps=87:=by kernel_rfl
    rw[<-hg,EB (P:=J aD fs) (fn:=wG) (c:=Dg) _ W.f41 rfl,O]at E;obtain⟨n,g⟩:=ayB (fs:=fs) (C:=u::Q2++bL::B) (T:=l++uy (87-l.size) ak) (by simp[hn]) e;obtain⟨g2,w2,Q1,t2,_,_⟩:=Term.goes F LF.refl LF.trans LF.BX (λ_ _ _ h=>h) g E;exact t2.Gr F (λτ v b Q=>Q1.2 _ v b Q) λN=>by grind
   .rw[<-hg,EB (P:=J aD fs) (fn:=fn) (c:=.refuse X) _ e1 e2]at E;exact E.Gr F (λτ v b Q=>af1 v b Q)<|y _ _
 grind
end
section
variable {main:Bool} {b:aZ} {T:Array az} {ds:List Deferred} {k:List eY} {cs:List aZ} {ops:Array dG} {i:Nat} {rest:List Nat} {o:dG} {t u:Tmp} {e:Nat} {p q p' q':az}
theorem ahK(s:ops[i]?=o)(n:eW o (dZ ops T)=Z)(r:b.kind≠.early)(f:o.op=.load 114 (cy t))(j:T[t]?=U (aF e))(w)(l:w.heap[e]?=U (aH #[p,q] 114)):cj aD main (G (b.at ⟨T,ds⟩<|aT ops (i::rest)::k) cs) w=bV (G (b.at (dj ⟨T,ds⟩ o.dst<|bO #[p,q])<|aT ops rest::k) cs) w (listed aD b.fn ⟨T,ds⟩ o w)/\∀h∈listed aD b.fn ⟨T,ds⟩ o w,∃a wr,h=⟨.cell a,wr,ai⟩/\a.block=e:=by
 have c:=gC (o:=0) l rfl;have d:=gC (o:=1) l rfl;have v:(cS (dW ⟨T,ds⟩) o).run aD w=aW (gq<|bO #[p,q]) w:=by unfold cS;simp[f,go_sem,j,c,d]
 refine⟨rZ s n r v,λh g=>?_⟩;have m:=kN g;unfold cS at m;simp[f,go_sem,j,c,d]at m;grind
theorem anu(f:ops[i]?=o)(c:eW o (dZ ops T)=Z)(d:b.kind≠.early)(a:o.op=.alloc 114)(w):cj aD main (G (b.at ⟨T,ds⟩<|aT ops (i::rest)::k) cs) w=bV (G (b.at (dj ⟨T,ds⟩ o.dst<|aF w)<|aT ops rest::k) cs) {w with heap:=w.heap.push<|aH #[dc V,dc V] 114} #[]:=by
 have g:(cS (dW ⟨T,ds⟩) o).run aD w=aW (gq<|aF w) {w with heap:=w.heap.push<|aH #[dc V,dc V] 114}:=by unfold cS;simp[a,go_sem]
 have h:(cS (dW ⟨T,ds⟩) o).events aD w #[]=#[]:=by unfold cS;simp[a,go_sem]
 rw[rZ f c d g,oW h]
theorem Jo(A:ops[i]?=o)(z:eW o (dZ ops T)=Z)(C:b.kind≠.early)(l:o.op=.store 114 (cy t) (cy u))(v:T[t]?=U (aF e)){c d}(x:T[u]?=U (bO #[dc c,dc d]))(w)(m:w.heap[e]?=U (aH #[p',q'] 114)):cj aD main (G (b.at ⟨T,ds⟩<|aT ops (i::rest)::k) cs) w=bV (G (b.at (dj ⟨T,ds⟩ o.dst ak)<|aT ops rest::k) cs) ((w.setCell e<|dc c).setCell ⟨e,1,V⟩<|dc d) (listed aD b.fn ⟨T,ds⟩ o w)/\∀s∈listed aD b.fn ⟨T,ds⟩ o w,∃a wr,s=⟨.cell a,wr,ai⟩/\a.block=e:=by
 have h:=gC (o:=0) m rfl;have j:=xC 0 m;have y:=pE 0 (dc c) m;have f:=gC (o:=1) y rfl;have g:=xC 1 y;have B:(cS (dW ⟨T,ds⟩) o).run aD w=aW .skip ((w.setCell e<|dc c).setCell ⟨e,1,V⟩<|dc d):=by unfold cS;simp[l,go_sem,v,x,h,j,f,g]
 refine⟨stepG_none A z C B,λs n=>?_⟩;have r:=kN n;unfold cS at r;simp[l,go_sem,storedEv,v,x,h,j,f,g]at r;grind
end
def FK(f:Bool->Bool):Bool:=f ai&&f Z
theorem LS{f}(h:FK f=Z)(a):f a=Z:=by simp only[FK,cG]at h;cases a<;>simp[h]
noncomputable def mm:Array dG:=eS<|cV 8
def U3(rd:List Nat)(a0 a1 a2 a3 a4 a5:Bool):Bool:=(rd.all λi=>bP (i<6)&&!(#[a0,a1,a2,a3,a4,a5]:Array Bool)[i]?.getD Z&&(i !=4||a0&&a2)&&(i !=5||a1&&a3))&&(!rd.isEmpty||a0&&a1&&a2&&a3&&a4&&a5)
theorem af3(a d b e f c):U3 (jh .any mm #[a,d,b,e,f,c]) a d b e f c=Z:=by
 have h:(FK λa=>FK λd=>FK λb=>FK λe=>FK λf=>FK λc=>U3 (jh .any mm #[a,d,b,e,f,c]) a d b e f c)=Z:=by kernel_rfl
 exact LS (LS (LS (LS (LS (LS h a) d) b) e) f) c
theorem asR:mm.size=6:=by kernel_rfl
abbrev ends(x y:Option Nat):Obj:=aH #[dc x,dc y] 114
structure R9(s0:St)(T0:Array az)(x1 y1 x2 y2:Nat)(a0 a1 a2 a3 a4 a5:Bool)(f2 f3:Nat)(T:Array az)(s:St):Prop where
 size:T.size=87
 rest:∀t,t≠14->t≠15->t≠42->t≠43->T[t]?=T0[t]?
 k:Kept 0 [] s0 s
 ch:s.ch=s0.ch
 v0:a0=Z->T[42]?=U (bO #[dc<|U x1,dc<|U y1])v1:a1=Z->T[43]?=U (bO #[dc<|U x2,dc<|U y2])b2:a2=Z->T[14]?=U (aF<|U ⟨f2,0,V⟩)/\f2∈(s.D 0).own/\s0.v.heap.size<=f2/\s.v.heap[f2]?=U (if a4 then ends (U x1) (U y1)else ends V V)b3:a3=Z->T[15]?=U (aF<|U ⟨f3,0,V⟩)/\f3∈(s.D 0).own/\s0.v.heap.size<=f3/\s.v.heap[f3]?=U (if a5 then ends (U x2) (U y2)else ends V V)ne:a2=Z->a3=Z->f2≠f3
 n4:a2=ai->a4=ai
 n5:a3=ai->a5=ai
def J9(s0:St)(T0:Array az)(x1 y1 x2 y2:Nat)(l:Array Bool)(a:Act)(s:St):Prop:=∃a0 a1 a2 a3 a4 a5 f2 f3,l=#[a0,a1,a2,a3,a4,a5]/\∃T,a=⟨T,[]⟩/\R9 s0 T0 x1 y1 x2 y2 a0 a1 a2 a3 a4 a5 f2 f3 T s
theorem get_put{T}{ds}{d:Tmp}{x}(h:d<T.size):(dj ⟨T,ds⟩ d x).tmps[d]?=x:=kg h
section
variable {K:fK} {C:List aZ}
theorem BQ{s0 s}{O}(k:Kept 0 O s0 s)(H:cQ K s0.role 0 s0.md s0.ch s0.cl (.hold 0) s0.D s0.T s0.gs s0.v){b}(a:b∈(s0.D 0).own)(c:b∉O):s.v.heap[b]?=s0.v.heap[b]?:=k.rest b (H.inv.own 0 b a).2 (H.inv.own 0 b a).1 c
set_option maxHeartbeats 4000000 in
theorem asm(hP:K.P=aD){s0}{a0'}(H0:Ok K 0 s0 a0'){T0}{e8 e9 x1 y1 x2 y2}(Uh:T0.size=87)(h8:T0[8]?=U (.pointer e8)/\T0[9]?=U (.pointer e9))(hE:Vx s0.v (s0.D 0).own e8 e9 x1 y1 x2 y2){kk}:∀listed a s i rest,J9 s0 T0 x1 y1 x2 y2 listed a s->i∈jh .any mm listed->Ok K 0 s (G ((bh 41).at a<|.inRegion mm (i::rest)::kk) C)->LB (listed.setIfInBounds i Z)=LB listed+1/\∃t a',s.runs K.P t/\Ok K 0 t (G ((bh 41).at a'<|.inRegion mm rest::kk) C)/\J9 s0 T0 x1 y1 x2 y2 (listed.setIfInBounds i Z) a' t:=by rintro _ _ s i rest⟨y,w,A,B,L,J,N,I,rfl,T,rfl,R⟩hi H;have hr:=af3 y w A B L J;simp only[U3,cG,uc]at hr;have hri:=hr.1 i hi;simp only[cG,eU,jT,bne_iff_ne,ne_eq,Bool.not_eq_true']at hri;obtain⟨⟨⟨hi6,d⟩,h4⟩,h5⟩:=hri;have c8:=(BQ R.k H0.hold hE.2.1<|by simp).trans hE.1.1;have c9:=(BQ R.k H0.hold hE.2.2.1<|by simp).trans hE.1.2;have T8:=(R.rest 8 (by decide) (by decide) (by decide)<|by decide).trans h8.1;have T9:=(R.rest 9 (by decide) (by decide) (by decide)<|by decide).trans h8.2;have oi:∀b∈(s.D 0).own,b<s.v/\(s.cl b=.own 0\/s.cl b=.eV):=λb E=>⟨(H.hold.inv.own 0 b E).2,.inl (H.hold.inv.own 0 b E).1⟩;have g:∀t:St,Kept 0 [] s t->∀b∈(s.D 0).own,t.v.heap[b]?=s.v.heap[b]?:=λt k b E=>BQ k H.hold E (by simp);match i,hi6 with
 |0,_=>
  simp at d;subst d;refine⟨by cases w<;>cases A<;>cases B<;>cases L<;>cases J<;>rfl,?_⟩;refine H.walk_to (m:=Z) [] [e8] rfl (by simp) (by simpa using oi e8<|R.k.own _ hE.2.1) ⟨1,.inr ⟨rfl,λM P=>?_⟩⟩;have O:=ahK (main:=Z) (b:=bh 41) (T:=T) (ds:=[]) (k:=kk) (cs:=C) (ops:=mm) (i:=0) (rest:=rest) (t:=8) (by rfl) (by rfl) (by k_ne) (by rfl) T8 M<|(P.1 e8<|by simp).trans c8;rw[hP,O.1];refine⟨⟨rfl,rfl,rfl,rfl,λ_ _=>rfl,λe he=>by obtain⟨x,wr,e1,e2⟩:=O.2 e he;exact⟨x,wr,e1,.inr<|by simp[e2]⟩⟩,λw2 h2=>⟨rfl,λt tv r F j d1 l=>?_⟩⟩;have f:∀z,z≠42->(dj ⟨T,[]⟩ (U 42)<|.agg #[.chan x1,.chan y1]).tmps[z]?=T[z]?:=by grind[Ec,Option.some.inj]
  refine⟨t,⟨_,[]⟩,r,F,Z,w,A,B,L,J,N,I,rfl,_,rfl,⟨by rw[vj];exact R.size,λz Q c D S=>(f z D).trans<|R.rest z Q c D S,R.k.trans j,l.trans R.ch,λ_=>get_put<|by rw[R.size];decide,λh=>(f 43<|by decide).trans<|R.v1 h,λh=>?_,λh=>?_,R.ne,R.n4,R.n5⟩⟩;.obtain⟨p,m,u,q⟩:=R.b2 h;exact⟨(f 14<|by decide).trans p,j.own _ m,u,(g t j _ m).trans q⟩
  .obtain⟨p,m,u,q⟩:=R.b3 h;exact⟨(f 15<|by decide).trans p,j.own _ m,u,(g t j _ m).trans q⟩|1,_=>
  simp at d;subst d;refine⟨by cases y<;>cases A<;>cases B<;>cases L<;>cases J<;>rfl,?_⟩;refine H.walk_to (m:=Z) [] [e9] rfl (by simp) (by simpa using oi e9<|R.k.own _ hE.2.2.1) ⟨1,.inr ⟨rfl,λM P=>?_⟩⟩;have O:=ahK (main:=Z) (b:=bh 41) (T:=T) (ds:=[]) (k:=kk) (cs:=C) (ops:=mm) (i:=1) (rest:=rest) (t:=9) (by rfl) (by rfl) (by k_ne) (by rfl) T9 M<|(P.1 e9<|by simp).trans c9;rw[hP,O.1];refine⟨⟨rfl,rfl,rfl,rfl,λ_ _=>rfl,λe he=>by obtain⟨x,wr,e1,e2⟩:=O.2 e he;exact⟨x,wr,e1,.inr<|by simp[e2]⟩⟩,λw2 h2=>⟨rfl,λt tv r F j d1 l=>?_⟩⟩;have f:∀z,z≠43->(dj ⟨T,[]⟩ (U 43)<|.agg #[.chan x2,.chan y2]).tmps[z]?=T[z]?:=by grind[Ec,Option.some.inj]
  refine⟨t,⟨_,[]⟩,r,F,y,Z,A,B,L,J,N,I,rfl,_,rfl,⟨by rw[vj];exact R.size,λz Q c D S=>(f z S).trans<|R.rest z Q c D S,R.k.trans j,l.trans R.ch,λh=>(f 42<|by decide).trans<|R.v0 h,λ_=>get_put<|by rw[R.size];decide,λh=>?_,λh=>?_,R.ne,R.n4,R.n5⟩⟩;.obtain⟨p,m,u,q⟩:=R.b2 h;exact⟨(f 14<|by decide).trans p,j.own _ m,u,(g t j _ m).trans q⟩
  .obtain⟨p,m,u,q⟩:=R.b3 h;exact⟨(f 15<|by decide).trans p,j.own _ m,u,(g t j _ m).trans q⟩|2,_=>
  simp at d;subst d;refine⟨by cases y<;>cases w<;>cases B<;>cases L<;>cases J<;>rfl,?_⟩;refine H.yW (m:=Z) rfl rfl (.own 0) (.inl rfl) λo=>?_;refine⟨G ((bh 41).at (dj ⟨T,[]⟩ (U 14)<|.pointer<|U o)<|.inRegion mm rest::kk) C,ends V V,λM E _=>?_,λt r F j n2 n2' n3 n4 l n6 _ _ _=>?_⟩;.subst E;rw[hP];exact anu (main:=Z) (b:=bh 41) (T:=T) (ds:=[]) (k:=kk) (cs:=C) (ops:=mm) (i:=2) (rest:=rest) (by rfl) (by rfl) (by k_ne) (by rfl) M
  have f:∀z,z≠14->(dj ⟨T,[]⟩ (U 14)<|.pointer o).tmps[z]?=T[z]?:=by grind[Ec,Option.some.inj]
  refine⟨t,⟨_,[]⟩,r,F,y,w,Z,B,L,J,o,I,rfl,_,rfl,⟨by rw[vj];exact R.size,λz Q c D S=>(f z Q).trans<|R.rest z Q c D S,R.k.trans j,l.trans R.ch,λh=>(f 42<|by decide).trans<|R.v0 h,λh=>(f 43<|by decide).trans<|R.v1 h,λh=>?_,λh=>?_,λ_ h e=>by subst e;have:=(oi _ (R.b3 h).2.1).1;omega,(λh=>by cases h),R.n5⟩⟩;.exact⟨get_put<|by rw[R.size];decide,n6 rfl,bC R.k.left.size n2,by rw[n3,R.n4 rfl];rfl⟩
  .obtain⟨p,m,u,q⟩:=R.b3 h;exact⟨(f 15<|by decide).trans p,j.own _ m,u,(g t j _ m).trans q⟩|3,_=>
  simp at d;subst d;refine⟨by cases y<;>cases w<;>cases A<;>cases L<;>cases J<;>rfl,?_⟩;refine H.yW (m:=Z) rfl rfl (.own 0) (.inl rfl) λo=>?_;refine⟨G ((bh 41).at (dj ⟨T,[]⟩ (U 15)<|.pointer<|U o)<|.inRegion mm rest::kk) C,ends V V,λM E _=>?_,λt r F j n2 n2' n3 n4 l n6 _ _ _=>?_⟩;.subst E;rw[hP];exact anu (main:=Z) (b:=bh 41) (T:=T) (ds:=[]) (k:=kk) (cs:=C) (ops:=mm) (i:=3) (rest:=rest) (by rfl) (by rfl) (by k_ne) (by rfl) M
  have f:∀z,z≠15->(dj ⟨T,[]⟩ (U 15)<|.pointer o).tmps[z]?=T[z]?:=by grind[Ec,Option.some.inj]
  refine⟨t,⟨_,[]⟩,r,F,y,w,A,Z,L,J,N,o,rfl,_,rfl,⟨by rw[vj];exact R.size,λz Q c D S=>(f z c).trans<|R.rest z Q c D S,R.k.trans j,l.trans R.ch,λh=>(f 42<|by decide).trans<|R.v0 h,λh=>(f 43<|by decide).trans<|R.v1 h,λh=>?_,λh=>?_,λh _ e=>by subst e;have:=(oi _ (R.b2 h).2.1).1;omega,R.n4,λh=>by cases h⟩⟩;.obtain⟨p,m,u,q⟩:=R.b2 h;exact⟨(f 14<|by decide).trans p,j.own _ m,u,(g t j _ m).trans q⟩
  .exact⟨get_put<|by rw[R.size];decide,n6 rfl,bC R.k.left.size n2,by rw[n3,R.n5 rfl];rfl⟩|4,_=>
  simp at d;subst d;refine⟨by cases y<;>cases w<;>cases A<;>cases B<;>cases J<;>rfl,?_⟩;obtain⟨p1,p2⟩:y=Z/\A=Z:=by grind
  obtain⟨p,m,u,q⟩:=R.b2 p2;refine H.walk_to (m:=Z) [N] [] rfl (by grind) (by simp) ⟨1,.inr ⟨rfl,λM P=>?_⟩⟩;have W:=(P.1 N<|by simp).trans q;have O:=Jo (main:=Z) (b:=bh 41) (T:=T) (ds:=[]) (k:=kk) (cs:=C) (ops:=mm) (i:=4) (rest:=rest) (t:=14) (u:=42) (by rfl) (by rfl) (by k_ne) (by rfl) p (R.v0 p1) M W;rw[hP,O.1];refine⟨Lj W (by simp) λe he=>by grind,λw2 h2=>⟨rfl,λt tv r F j d1 l=>?_⟩⟩;have aBa:t.v.heap[N]?=ends x1 y1:=by rw[tv,h2.1 N<|by simp,pE 1 _<|pE 0 _ W];rfl
  have k2:Kept 0 [] s0 t:=by have n:=(R.k.more (O':=[N])<|by simp).trans j;exact⟨n.size,n.role,n.md,n.left,n.cls,λb E X _=>n.rest b E X λhm=>by grind,n.oI,n.own,n.v2⟩
  refine⟨t,⟨T,[]⟩,r,F,y,w,A,B,Z,J,N,I,rfl,T,rfl,⟨R.size,R.rest,k2,l.trans R.ch,R.v0,R.v1,λh=>?_,λh=>?_,R.ne,λh=>by grind,R.n5⟩⟩;.grind
  .obtain⟨o1,o2,o3,o4⟩:=R.b3 h;exact⟨o1,j.own _ o2,o3,(BQ j H.hold o2<|by simpa usingλe=>R.ne p2 h e.symm).trans o4⟩|5,_=>
  simp at d;subst d;refine⟨by cases y<;>cases w<;>cases A<;>cases B<;>cases L<;>rfl,?_⟩;obtain⟨p1,p2⟩:w=Z/\B=Z:=by grind
  obtain⟨p,m,u,q⟩:=R.b3 p2;have q4':s.v.heap[I]?=ends V V:=q;refine H.walk_to (m:=Z) [I] [] rfl (by grind) (by simp) ⟨1,.inr ⟨rfl,λM P=>?_⟩⟩;have W:=(P.1 I<|by simp).trans q4';have O:=Jo (main:=Z) (b:=bh 41) (T:=T) (ds:=[]) (k:=kk) (cs:=C) (ops:=mm) (i:=5) (rest:=rest) (t:=15) (u:=43) (by rfl) (by rfl) (by k_ne) (by rfl) p (R.v1 p1) M W;rw[hP,O.1];refine⟨Lj W (by simp) λe he=>by grind,λw2 h2=>⟨rfl,λt tv r F j d1 l=>?_⟩⟩;have aBa:t.v.heap[I]?=ends x2 y2:=by rw[tv,h2.1 I<|by simp,pE 1 _<|pE 0 _ W];rfl
  have k2:Kept 0 [] s0 t:=by have n:=(R.k.more (O':=[I])<|by simp).trans j;exact⟨n.size,n.role,n.md,n.left,n.cls,λb E X _=>n.rest b E X λhm=>by grind,n.oI,n.own,n.v2⟩
  refine⟨t,⟨T,[]⟩,r,F,y,w,A,B,L,Z,N,I,rfl,T,rfl,⟨R.size,R.rest,k2,l.trans R.ch,R.v0,R.v1,λh=>?_,λh=>?_,R.ne,R.n4,λh=>by grind⟩⟩;.obtain⟨o1,o2,o3,o4⟩:=R.b2 h;exact⟨o1,j.own _ o2,o3,(BQ j H.hold o2<|by simpa usingλe=>R.ne h p2 e).trans o4⟩
  grind
end
noncomputable def oy:List eY:=[.inLoop lD,mD 0,bF<|cV 10]
theorem auL(t):mS (aD.follows nM) mm t=yp .any mm 6 t #[ai,ai,ai,ai,ai,ai] []:=by
 have b:aD.follows nM=Z:=by kernel_rfl
 have a:uy 6 ai=#[ai,ai,ai,ai,ai,ai]:=rfl;simp only[mS,b,Bool.true_or,gL,Region.linearise,asR,a]
section
variable {K:fK} {C:List aZ}
theorem to9{T}{w}:cM aD Z (L<|[]++[]) (DH [] []) (λg w=>∃t,g=G ((bh 41).at ⟨T,[]⟩<|aT mm (yp .any mm 6 t #[ai,ai,ai,ai,ai,ai] [])::[bF<|cV 9]) C) 3 (G ((bh 41).at ⟨T,[]⟩<|aT nx []::x9) C) w:=by
 have b:=trivial;simp only[x9];refine kK (n:=1) ?_;u_c N A b;refine y λ_ a=>?_;replace b:=A b a;have c:cV 8=eG (dS 9 mm Z) (cV 9):=by kernel_rfl
 rw[c];refine kK (n:=1) ?_;u_c I A b;refine y λ_ a=>?_;replace b:=A b a;u_in A b;rw[stepG_region_draw];simp only[eH,auL];exact⟨⟨rfl,rfl,rfl,rfl,λ_ _=>rfl,λe d=>by grind⟩,y λ_ _=>⟨_,rfl⟩⟩
theorem aDl{T}{w}:cM aD Z (L<|[]++[]) (DH [] []) (λg w=>g=G ((bh 41).at ⟨T,[]⟩<|bF lD::oy) C) 5 (G ((bh 41).at ⟨T,[]⟩<|aT mm []::[bF<|cV 9]) C) w:=by
 have a:=trivial;refine kK (n:=1) ?_;u_c N A a;refine y λ_ b=>?_;replace a:=A a b;have c:cV 9=eG (.block 0<|.loop lD) (cV 10):=by kernel_rfl
 rw[c];refine dH ?_;u_c I A a;u_c EA A a;u_c Te A a;exact y λ_ _=>rfl
theorem avk(v:K.P=aD){s}{T}{e8 e9 x1 y x2 p}(H:Ok K 0 s<|G ((bh 41).at ⟨T,[]⟩<|.inRegion nx []::x9) C)(L:T.size=87)(N:T[8]?=U (.pointer e8)/\T[9]?=U (.pointer e9))(d:Vx s.v (s.D 0).own e8 e9 x1 y x2 p):∃t l c b,s.runs K.P t/\Ok K 0 t (G ((bh 41).at ⟨l,[]⟩<|.code lD::oy) C)/\Kept 0 [] s t/\t.ch=s.ch/\l.size=87/\(∀z,z≠14->z≠15->z≠42->z≠43->l[z]?=T[z]?)/\(l[14]?=U (.pointer c)/\l[15]?=U (.pointer b))/\(c∈(t.D 0).own/\b∈(t.D 0).own/\c≠b/\s.v<=c/\s.v<=b)/\t.v.heap[c]?=ends x1 y/\t.v.heap[b]?=ends x2 p:=by
 obtain⟨B,_,X,F,⟨n,rfl⟩,e,d1,c1⟩:=H.walk (n:=3) (O:=[]) (Rd:=[]) (Stop:=λg w=>∃t,g=G ((bh 41).at ⟨T,[]⟩<|.inRegion mm (yp .any mm 6 t #[ai,ai,ai,ai,ai,ai] [])::[.code<|cV 9]) C) λg w h=>by obtain⟨_,rfl⟩:=h;rfl (by grind[to9]) (by simp) (by simp);obtain⟨s2,a2,l2,M,A,⟨o,m,q,x,r,u,f2,Q,rfl,J,rfl,R⟩,j⟩:=Ok.drawn (K:=K) (h:=0) (b:=bh 41) (k:=[.code<|cV 9]) (cs:=C) (ops:=mm) (J:=J9 B T x1 y x2 p) (asm v F L N ⟨⟨(BQ e H.hold d.2.1<|by simp).trans d.1.1,(BQ e H.hold d.2.2.1<|by simp).trans d.1.2⟩,e.own _ d.2.1,e.own _ d.2.2.1,d.2.2.2⟩) 6 n #[ai,ai,ai,ai,ai,ai] ⟨T,[]⟩ B ⟨ai,ai,ai,ai,ai,ai,0,0,rfl,T,rfl,⟨L,λ_ _ _ _ _=>rfl,Kept.refl _ _ _,rfl,nofun,nofun,nofun,nofun,nofun,λ_=>rfl,λ_=>rfl⟩⟩ F;have f:o=Z/\m=Z/\q=Z/\x=Z/\r=Z/\u=Z:=by
  rcases j with h|h;.have:=af3 o m q x r u;rw[h]at this;simpa[U3,and_assoc]using this
  .revert h;cases o<;>cases m<;>cases q<;>cases x<;>cases r<;>cases u<;>decide
 obtain⟨rfl,rfl,rfl,rfl,rfl,rfl⟩:=f;obtain⟨D,_,r3,S,rfl,i,d3,c3⟩:=A.walk (n:=5) (O:=[]) (Rd:=[]) (Stop:=λg w=>g=G ((bh 41).at ⟨J,[]⟩<|.code lD::oy) C) λg w h=>by rw[h];rfl (by grind[aDl]) (by simp) (by simp);obtain⟨a,E,p3,p4⟩:=R.b2 rfl;obtain⟨O,I,q3,W⟩:=R.b3 rfl;have P:=e.left.size;exact⟨D,J,f2,Q,(X.trans M).trans r3,S,(e.trans R.k).trans i,c3.trans<|R.ch.trans c1,R.size,R.rest,⟨a,O⟩,⟨i.own _ E,i.own _ I,R.ne rfl rfl,by omega,by omega⟩,(BQ i A.hold E<|by simp).trans p4,(BQ i A.hold I<|by simp).trans W⟩
end
theorem Uw{P}{main}{b:aZ}{a}{d}{fn}{t u}{c}{cs}{w}{K}(f:b.kind=eo)(i:a.defers=[])(g:P.funcs[b.fn]?=U fn)(e:fn.results=#[.tmp t,.tmp u])(h:K (G (c.finish<|bQ #[a.tmps.getD t ak,a.tmps.getD u ak]) cs) w #[]):(cj P main (G {b.at a d with mode:=fI}<|c::cs) w).goes K:=by rw[ayG f i g (results_tmp2 e _ P w)<|events_results_tmp2 e _ _];exact h
section
variable {fs:Array dY} {c:aZ} {C:List aZ}
noncomputable def BJ:Code:=eG (dS 903 Sg ai)<|eG (.block 0<|.loop ot) vP
set_option maxHeartbeats 1000000 in
theorem ayt(d:fs[41]?=wG){T}{ops}(P:T.size=87)(e:T[6]?=U (Y aG 0)/\T[7]?=U (Y aG 0)/\T[22]?=U (cx Z)){w}(a:gw 1 w):∃n,cM (J aD fs) Z i Bs (λg w=>gw 0 w/\g=G (c.finish<|bQ #[Y aG 0,Y aG 0]) C) n (G ((bh 41).at ⟨T,[]⟩ [aT ops [],bF<|eG yw yG])<|c::C) w:=by refine⟨620,?_⟩;obtain⟨v0,v1,v2,v3,v4,v5,v6,v7,v8,v9,v10,E,v12,mF,qc,QW,qb,qa,Q2,mE,v20,v21,Q,pZ,q,r,x,Q3,v28,O,D,v31,uS,W,t,pY,Qw,v37,pX,pW,v40,pV,pU,pS,S,oa,V,pR,pQ,v49,v,v51,m,l,xO,pP,nZ,B,H,v59,nY,pO,pM,o,nX,QY,nW,h,u,z,Q1,QZ,v72,X,s,L,v76,xN,Q0,R,k,F,M,nV,QX,v85,j,rfl⟩:=pG T P;simp only[my,qu,nG,dX]at e;obtain⟨rfl,rfl,rfl⟩:=e;unfold gw at a;simp only[yw,JU,eN];refine lift ?_;u_c N p a;u_c I p a;u_cond Z p a;u_c I p a;u_reg p a;refine y λ_ b=>?_;replace a:=p a b;u_in p a;refine gi rfl rfl (by k_ne) λK A=>?_;have h3:=Ri fs;have sK:=gC (o:=0) a rfl;have hz:=xC 0 a;go_simp;have f:=YK (Y aG 0) a;refine A _ _ ⟨f.1,?_⟩;replace a:=f.2;refine lift ?_;u_c N p a;u_c nE p a;refine y λ_ b=>?_;replace a:=p a b;u_in p a;refine Uw (t:=6) (u:=7) rfl rfl d (by kernel_rfl) ⟨.refl _,?_⟩;exact y λw1 h1=>⟨p a h1,rfl⟩
set_option maxHeartbeats 1000000 in
theorem ayr{T}{ops}(K:T.size=87)(b:T[22]?=U (cx ai)){w}(a:gw 1 w):∃n,cM (J aD fs) Z i Bs (λg w=>gw 1 w/\g=G ((bh 41).at ⟨T,[]⟩ [aT (eS<|cV 7) [0,1,2,3,4,5,6,7],bF BJ]) C) n (G ((bh 41).at ⟨T,[]⟩ [aT ops [],bF<|eG yw yG]) C) w:=by refine⟨620,?_⟩;obtain⟨v0,v1,v2,v3,v4,v5,v6,v7,v8,v9,v10,z,v12,mF,qc,QW,qb,qa,S,mE,v20,V,L,pZ,m,o,t,E,v28,Q2,QX,v31,Y,Q,q,pY,l,v37,pX,pW,v40,pV,pU,pS,Q3,oa,P,pR,pQ,Q1,s,v51,j,QY,W,pP,nZ,x,B,v59,nY,pO,pM,k,nX,u,nW,d,r,v,Q0,e,v72,R,QZ,F,v76,X,O,M,h,A,H,nV,D,v85,f,rfl⟩:=pG T K;simp only[my,qu,nG,dX]at b;subst b;unfold gw at a;simp only[yw,JU,eN,yG,eS,cV,eM,oG,fW];refine dH ?_;u_c N p a;u_c I p a;u_cond ai p a;u_c lR p a;u_c I p a;u_reg p a;exact y λw1 h1=>⟨p a h1,rfl⟩
theorem ayy{T}{ops}{w}:cM (J aD fs) Z i Bs (λg w=>g=G ((bh 41).at ⟨T,[]⟩ [bF yw,bF yG]) C) 2 (G ((bh 41).at ⟨T,[]⟩ [aT ops [],bF<|eG yw yG]) C) w:=by have b:=trivial;have a:∀{w d:ax},True->i w d->True:=λh _=>h;refine dH ?_;u_c N a b;u_c I a b;grind[Goes.stop]
theorem ary{Done}(b:nt (J aD fs) Done)(a:∀g w,¬Done (G g C) w){T}{ops}{w}(f:Term (J aD fs) Done (G ((bh 41).at ⟨T,[]⟩ [aT ops [],bF<|eG yw yG]) C) w):∃r,T.getD 22 ak=cx r:=by obtain⟨_,n,rfl,k,_,_⟩:=Term.goes b LF.refl LF.trans LF.BX (λ_ _ _ h=>h) ayy f;refine ou λd=>k.Gr b (λm j i l=>?_)<|a _ _;exact amE (a:=⟨T,[]⟩) (c:=cy 22) (λt e=>d ⟨t,e⟩) j i l
set_option maxHeartbeats 1000000 in
theorem avg{T}{ops}(QY:T.size=87)(d:T[22]?=U (cx Z))(w):∃n,cM aD Z (L<|[]++[]) (DH [] []) (λg w=>g=G (c.finish<|bQ #[Y aG 0,Y aG 0]) C) n (G ((bh 41).at ⟨T,[]⟩<|aT ops []::ED)<|c::C) w:=by refine⟨620,?_⟩;obtain⟨v0,v1,v2,v3,v4,v5,v6,v7,v8,v9,v10,QW,v12,mF,qc,J,qb,qa,Q0,mE,v20,W,M,pZ,o,p,u,F,v28,K,z,v31,Q1,R,r,pY,m,v37,pX,pW,v40,pV,pU,pS,O,oa,Q,pR,pQ,v49,t,v51,k,j,X,pP,nZ,QZ,D,v59,nY,pO,pM,l,nX,v,nW,e,s,x,V,f,v72,S,q,H,v76,Q2,P,Q3,i,B,QX,nV,E,v85,h,rfl⟩:=pG T QY;simp only[my,qu,nG,dX]at d;subst d;simp only[ED,cV,eM,oG,fW];have a:=trivial;refine lift ?_;u_c N A a;u_cond Z A a;u_c I A a;u_reg A a;u_op A a;u_op A a;u_c N A a;u_c nE A a;refine y λ_ b=>?_;replace a:=A a b;u_in A a;refine Uw (t:=6) (u:=7) rfl rfl func41 (by kernel_rfl) ⟨dh_none<|by simp,?_⟩;exact y λw1 h1=>rfl
end
noncomputable def ik:Array dG:=eS lD
noncomputable def BW:Array dG:=eS kO
noncomputable def BV:Array dG:=eS<|eM 1 kO
noncomputable def tK:Array dG:=eS<|eM 2 kO
noncomputable def agK:Array dG:=eS<|eM 3 kO
noncomputable def X6:Array dG:=eS<|eM 4 kO
noncomputable def wV:Code:=eG (dS 11 (eS kO) ai)<|eG (dS 12 (eS<|eM 1 kO) ai)<|eG (dS 905 om ai)<|eG (.cond (cy 70) (dS 906 Ef ai)<|dS 907 Ee ai)<|dS 908 yR ai
noncomputable def jU:List eY:=[.inLoop ot,mD 0,bF vP]
noncomputable def Ch:List eY:=bF (eG (.cond (cy 62) .skip<|.exit 0)<|.block 1 wV)::jU
noncomputable def GY:List eY:=bF (.cond (cy 62) .skip<|.exit 0)::bF (.block 1 kO)::oy
noncomputable def ZF:List eY:=bF (eM 1 wV)::mD 1::jU
noncomputable def ZD:List eY:=bF (eM 1 kO)::mD 1::oy
noncomputable def ZE:List eY:=bF (eM 2 wV)::mD 1::jU
noncomputable def ZC:List eY:=bF (eM 2 kO)::mD 1::oy
noncomputable def sw:List eY:=bF (eM 3 wV)::mD 1::jU
noncomputable def vv:List eY:=bF (eM 3 kO)::mD 1::oy
theorem eL:ot=eG (dS 10 ik ai) (eG (.cond (cy 62) .skip<|.exit 0)<|.block 1 wV):=rfl
theorem eR:lD=eG (eG (dS 10 ik ai)<|.cond (cy 62) .skip<|.exit 0) (.block 1 kO):=by kernel_rfl
theorem iR0:kO=eG (dS 11 BW ai) (eM 1 kO):=by kernel_rfl
theorem iR1:eM 1 kO=eG (dS 12 BV ai) (eM 2 kO):=by kernel_rfl
theorem iR2:eM 2 kO=eG (dS 13 tK ai) (eM 3 kO):=by kernel_rfl
theorem Ql:ik.size=19:=by kernel_rfl
theorem z11:BW.size=3:=by kernel_rfl
theorem z12:BV.size=5:=by kernel_rfl
theorem Mn:tK.size=4:=by kernel_rfl
instance:Qt i uL:=⟨i.refl,i.refl⟩
theorem eC{w w1}(h:True)(r:i w w1):True:=trivial
section
variable {C:List aZ} {fs:Array dY} {T:Array az} {w:ax}
theorem aBX:cM (J aD fs) Z i uL (λg w=>g=G ((bh 41).at ⟨T,[]⟩<|aT ik [0,1,2,3,4,5,6,7,8,9,10,11,12,13,14,15,16,17,18]::Ch) C) 5 (G ((bh 41).at ⟨T,[]⟩<|bF ot::jU) C) w:=by have a:=trivial;rw[eL];refine dH ?_;u_c I eC a;u_in eC a;rw[ua,Ql];simp only[eH];refine⟨by u_nil,?_⟩;exact y λ_ _=>rfl
theorem JS(h:dW ⟨T,[]⟩ (cy 62)=ai):cM (J aD fs) Z i uL (λg w=>g=G ((bh 41).at ⟨T,[]⟩ [bF vP]) C) 8 (G ((bh 41).at ⟨T,[]⟩<|aT ik []::Ch) C) w:=by have a:=trivial;refine dH ?_;u_c N eC a;simp only[Ch,jU];u_c I eC a;u_in eC a;rw[Kv (t:=ai) h];simp only[eH,ow,↓reduceIte];refine⟨by u_nil,?_⟩;u_exit eC a;grind[Goes.stop]
theorem inL(h:dW ⟨T,[]⟩ (cy 62)=Z):cM (J aD fs) Z i uL (λg w=>g=G ((bh 41).at ⟨T,[]⟩<|aT BW [0,1,2]::ZF) C) 12 (G ((bh 41).at ⟨T,[]⟩<|aT ik []::Ch) C) w:=by have a:=trivial;refine dH ?_;u_c N eC a;simp only[Ch];u_c I eC a;u_in eC a;rw[Kv (t:=Z) h];simp only[eH,↓reduceIte];refine⟨by u_nil,?_⟩;u_c lR eC a;u_c EA eC a;rw[show wV=eG (dS 11 BW ai) (eM 1 wV)from rfl];u_c I eC a;u_in eC a;rw[ua,z11];simp only[eH];refine⟨by u_nil,?_⟩;exact y λ_ _=>rfl
theorem arp:cM (J aD fs) Z i uL (λg w=>g=G ((bh 41).at ⟨T,[]⟩<|aT BV [0,1,2,3,4]::ZE) C) 6 (G ((bh 41).at ⟨T,[]⟩<|aT BW []::ZF) C) w:=by have a:=trivial;refine dH ?_;u_c N eC a;simp only[ZF];rw[show eM 1 wV=eG (dS 12 BV ai) (eM 2 wV)from rfl];u_c I eC a;u_in eC a;rw[ua,z12];simp only[eH];refine⟨by u_nil,?_⟩;exact y λ_ _=>rfl
theorem arn:cM (J aD fs) Z i uL (λg w=>g=G ((bh 41).at ⟨T,[]⟩<|aT om [0,1]::sw) C) 6 (G ((bh 41).at ⟨T,[]⟩<|aT BV []::ZE) C) w:=by have a:=trivial;refine dH ?_;u_c N eC a;simp only[ZE];rw[show eM 2 wV=eG (dS 905 om ai) (eM 3 wV)from rfl];u_c I eC a;u_in eC a;rw[ua,show om.size=2 from rfl];simp only[eH];refine⟨by u_nil,?_⟩;exact y λ_ _=>rfl
theorem aBW:cM aD Z (L<|[]++[]) (DH [] []) (λg w=>g=G ((bh 41).at ⟨T,[]⟩<|aT ik [0,1,2,3,4,5,6,7,8,9,10,11,12,13,14,15,16,17,18]::GY) C) 5 (G ((bh 41).at ⟨T,[]⟩<|bF lD::oy) C) w:=by have a:=trivial;rw[eR];refine dH ?_;u_c I A a;u_c I A a;u_in A a;rw[ua,Ql];simp only[eH];refine⟨by u_nil,?_⟩;exact y λ_ _=>rfl
theorem agH(h:dW ⟨T,[]⟩ (cy 62)=ai):cM aD Z (L<|[]++[]) (DH [] []) (λg w=>g=G ((bh 41).at ⟨T,[]⟩ [bF<|cV 10]) C) 8 (G ((bh 41).at ⟨T,[]⟩<|aT ik []::GY) C) w:=by have a:=trivial;refine dH ?_;u_c N A a;simp only[GY,oy];u_in A a;rw[Kv (t:=ai) h];simp only[eH,ow,↓reduceIte];refine⟨by u_nil,?_⟩;u_exit A a;grind[Goes.stop]
theorem inR(h:dW ⟨T,[]⟩ (cy 62)=Z):cM aD Z (L<|[]++[]) (DH [] []) (λg w=>g=G ((bh 41).at ⟨T,[]⟩<|aT BW [0,1,2]::ZD) C) 12 (G ((bh 41).at ⟨T,[]⟩<|aT ik []::GY) C) w:=by have a:=trivial;refine dH ?_;u_c N A a;simp only[GY];u_in A a;rw[Kv (t:=Z) h];simp only[eH,↓reduceIte];refine⟨by u_nil,?_⟩;u_c lR A a;u_c EA A a;rw[iR0];u_c I A a;u_in A a;rw[ua,z11];simp only[eH];refine⟨by u_nil,?_⟩;exact y λ_ _=>rfl
theorem aro:cM aD Z (L<|[]++[]) (DH [] []) (λg w=>g=G ((bh 41).at ⟨T,[]⟩<|aT BV [0,1,2,3,4]::ZC) C) 6 (G ((bh 41).at ⟨T,[]⟩<|aT BW []::ZD) C) w:=by have a:=trivial;refine dH ?_;u_c N A a;simp only[ZD];rw[iR1];u_c I A a;u_in A a;rw[ua,z12];simp only[eH];refine⟨by u_nil,?_⟩;exact y λ_ _=>rfl
theorem arl:cM aD Z (L<|[]++[]) (DH [] []) (λg w=>g=G ((bh 41).at ⟨T,[]⟩<|aT tK [0,1,2,3]::vv) C) 6 (G ((bh 41).at ⟨T,[]⟩<|aT BV []::ZC) C) w:=by have a:=trivial;refine dH ?_;u_c N A a;simp only[ZC];rw[iR2];u_c I A a;u_in A a;rw[ua,Mn];simp only[eH];refine⟨by u_nil,?_⟩;exact y λ_ _=>rfl
theorem aE5:cM (J aD fs) Z i uL (λg w=>g=G ((bh 41).at ⟨T,[]⟩<|bF (.cond (cy 62) .skip<|.exit 0)::bF (.block 1 wV)::jU) C) 3 (G ((bh 41).at ⟨T,[]⟩<|aT ik []::Ch) C) w:=by have a:=trivial;refine dH ?_;u_c N eC a;simp only[Ch];u_c I eC a;grind[Goes.stop]
theorem arx{Done}(b:nt (J aD fs) Done)(a:∀d w,¬Done (G d C) w)(c:Term (J aD fs) Done (G ((bh 41).at ⟨T,[]⟩<|aT ik []::Ch) C) w):∃r,dW ⟨T,[]⟩ (cy 62)=cx r:=by obtain⟨_,j,rfl,e,_,_⟩:=Term.goes b i.refl i.trans (λ_ _ h=>h) (λ_ _ _ h=>h) aE5 c;refine ou λf=>e.Gr b (λg k m l=>?_)<|a _ _;grind[amE]
theorem ayC{k:List eY}(e:T.size=87){x B}(h:T[0]?=U x/\T[1]?=U B):cM (J aD fs) Z i uL (λg w=>g=G ((bh 41).at ⟨(T.setIfInBounds 14 x).setIfInBounds 15 B,[]⟩<|bF ot::jU) C) 20 (G ((bh 41).at ⟨T,[]⟩ [aT nx [],bF BJ]) C) w:=by have a:=trivial;have d:dW ⟨T,[]⟩ (cy 0)=x:=getD_some h.1;have c:dW ⟨T.setIfInBounds 14 x,[]⟩ (cy 1)=B:=getD_some<|(l<|by decide).trans h.2;refine kK (n:=3) ?_;u_c N eC a;simp only[BJ];u_c I eC a;u_in eC a;rw[ua,show Sg.size=2 from rfl,show mR 2=[0,1]from rfl];simp only[eH];refine⟨by u_nil,?_⟩;refine y λ_ b=>?_;replace a:=eC a b;u_in eC a;rw[rZ (v:=x) (o:=eN (U 14) (pA<|cy 0) 0) (by rfl) (by rfl) (by k_ne)<|by simp only[cS,eN,d];rfl];simp only[eH];refine⟨i.refl _,?_⟩;u_in eC a;rw[rZ (v:=B) (o:=eN (U 15) (pA<|cy 1) 0) (by rfl) (by rfl) (by k_ne)<|by simp only[cS,eN,dj,c];rfl];simp only[eH];refine⟨i.refl _,?_⟩;refine dH ?_;u_c N eC a;u_c I eC a;u_c EA eC a;u_c Te eC a;exact y λ_ _=>rfl
end
noncomputable def ZB:List eY:=mD 1::oy
structure rM(v:ax)(O:List Nat)(e8 e9 f14 f15:Nat)(x1 y1 x2 y2 p q p' q':Nat):Prop where
 c8:v.heap[e8]?=U (ends (U x1)<|U y1)c9:v.heap[e9]?=U (ends (U x2)<|U y2)oK:v.heap[f14]?=U (ends (U p)<|U q)oJ:v.heap[f15]?=U (ends (U p')<|U q')m8:e8∈O
 m9:e9∈O
 m14:f14∈O
 m15:f15∈O
 n1:f14≠f15
 n2:e8≠f14/\e8≠f15/\e9≠f14/\e9≠f15
theorem rM.rely{v w}{O}{e8 e9 b a x1 d x2 f p q c e}(B:rM v O e8 e9 b a x1 d x2 f p q c e)(r:L O v w):rM w O e8 e9 b a x1 d x2 f p q c e:=⟨(r.1 _ B.m8).trans B.c8,(r.1 _ B.m9).trans B.c9,(r.1 _ B.m14).trans B.oK,(r.1 _ B.m15).trans B.oJ,B.m8,B.m9,B.m14,B.m15,B.n1,B.n2⟩
theorem rM.keep{v w}{O O'}{e8 e9 c a x1 f x2 h p q e g}(B:rM v O e8 e9 c a x1 f x2 h p q e g)(r:∀b∈O,w.heap[b]?=v.heap[b]?)(d:∀b∈O,b∈O'):rM w O' e8 e9 c a x1 f x2 h p q e g:=⟨(r _ B.m8).trans B.c8,(r _ B.m9).trans B.c9,(r _ B.m14).trans B.oK,(r _ B.m15).trans B.oJ,d _ B.m8,d _ B.m9,d _ B.m14,d _ B.m15,B.n1,B.n2⟩
def xG(T T0:Array az):Prop:=∀z,z≠12->z≠13->z<69\/80<=z->T[z]?=T0[z]?
def aA1(C:List aZ)(T0:Array az)(e8 e9 f14 f15 x1 y1 x2 y2 p q p' q':Nat)(O:List Nat)(g2:aX)(w:ax):Prop:=∃T,g2=G ((bh 41).at ⟨T,[]⟩<|aT X6 [2,3,4,5,6,7]::ZB) C/\T.size=87/\xG T T0/\T[76]?=U (dc<|U q)/\rM w O e8 e9 f14 f15 x1 y1 x2 y2 p q p' q'
def acd(C:List aZ)(T0:Array az)(e8 e9 f14 f15 x1 y1 x2 y2 p q p' q':Nat):I7 where c:=q;z:=aC V 0 0;ok:=Z;home:=aA1 C T0 e8 e9 f14 f15 x1 y1 x2 y2 p q p' q';MD O g w w1 r h:=by obtain⟨T,h1,h2,h3,h4,E⟩:=h;exact⟨T,h1,h2,h3,h4,E.rely r⟩
theorem wJ{v w}{O}{e8 e9 b a x1 d x2 f p q c e}(B:rM v O e8 e9 b a x1 d x2 f p q c e)(r:L O v w):rM w O e8 e9 b a x1 d x2 f p q c e:=B.rely r
theorem tF{v w}{f}{o}(h:v.heap[f]?=U o)(r:L ([]++[f]) v w):w.heap[f]?=U o:=(r.1 f<|by simp).trans h
theorem UE{O}{w}{b}{cs}{ty}{o o'}{x x'}(h:w.heap[b]?=U (aH cs ty))(i:b∈O){es}(d:∀e∈es,∃a wr,e=⟨.cell a,wr,ai⟩/\a.block∈O):DO O w ((w.setCell ⟨b,o,V⟩ x).setCell ⟨b,o',V⟩ x') es:=by
 rw[PS o x h];have f:({w with heap:=w.heap.setIfInBounds b<|aH (cs.setIfInBounds o x) ty}:ax).heap[b]?=U (aH (cs.setIfInBounds o x) ty):=by grind
 rw[PS o' x' f];refine⟨rfl,rfl,rfl,rfl,by simp,λc g=>?_,d⟩;grind
theorem rM.auy{w}{O}{e8 e9 d e x1 i x2 j p q h g}(B:rM w O e8 e9 d e x1 i x2 j p q h g)(a b):rM ((w.setCell d<|dc<|U a).setCell ⟨d,1,V⟩<|dc<|U b) O e8 e9 d e x1 i x2 j a b h g:=by have f:∀c,c≠d->((w.setCell d<|dc a).setCell ⟨d,1,V⟩<|dc b).heap[c]?=w.heap[c]?:=λc k=>(UE (O:=[d]) (o:=0) (o':=1) (x:=dc<|U a) (x':=dc<|U b) (es:=#[]) B.oK (by simp)<|by simp).block c (by grind);exact⟨(f _ B.n2.1).trans B.c8,(f _ B.n2.2.2.1).trans B.c9,by rw[pE 1 _<|pE 0 _ B.oK];rfl,(f _ B.n1.symm).trans B.oJ,B.m8,B.m9,B.m14,B.m15,B.n1,B.n2⟩
theorem rM.auw{w}{O}{e8 e9 e d x1 g x2 h p q j i}(B:rM w O e8 e9 e d x1 g x2 h p q j i)(a b):rM ((w.setCell d<|dc<|U a).setCell ⟨d,1,V⟩<|dc<|U b) O e8 e9 e d x1 g x2 h p q a b:=by have f:∀c,c≠d->((w.setCell d<|dc a).setCell ⟨d,1,V⟩<|dc b).heap[c]?=w.heap[c]?:=λc k=>(UE (O:=[d]) (o:=0) (o':=1) (x:=dc<|U a) (x':=dc<|U b) (es:=#[]) B.oJ (by simp)<|by simp).block c (by grind);exact⟨(f _ B.n2.2.1).trans B.c8,(f _ B.n2.2.2.2).trans B.c9,(f _ B.n1).trans B.oK,by rw[pE 1 _<|pE 0 _ B.oJ];rfl,B.m8,B.m9,B.m14,B.m15,B.n1,B.n2⟩
theorem asJ{T}(a b c d):xG ((((T.setIfInBounds 72 a).setIfInBounds 73 b).setIfInBounds 75 c).setIfInBounds 76 d) T:=λz _ _ e=>by rw[l<|by omega,l<|by omega,l<|by omega,l<|by omega]
section
variable {K:fK} {C:List aZ}
set_option maxHeartbeats 4000000 in
theorem asT{T}{e8 e9 b c x1 o x2 n p q m g}{O}{w}(hT:T.size=87)(hs:T[14]?=U (.pointer b)∧T[15]?=U (.pointer c))(B:rM w O e8 e9 b c x1 o x2 n p q m g):rH aD Z (acd C T e8 e9 b c x1 o x2 n m g p q) 41 O (G ((bh 41).at ⟨T,[]⟩<|.inRegion tK []::vv) C) w:=by
 refine .inl ⟨40,rfl,?_⟩;obtain⟨v0,v1,v2,v3,v4,v5,v6,v7,v8,v9,v10,Q2,v12,mF,qc,Jh,qb,qa,F6,mE,v20,v21,F5,pZ,H,QX,P,QC,v28,Jg,Q0,v31,uS,F4,L,pY,F,v37,pX,pW,v40,pV,pU,pS,Jf,oa,v46,pR,pQ,v49,QW,v51,D,A,xO,pP,nZ,S,Q3,v59,nY,pO,pM,E,nX,Q,nW,u,M,R,v70,v,v72,F3,J,v75,v76,xN,Je,F2,z,W,Qs,nV,Q1,v85,QY,j⟩:=pG T hT;generalize t:acd C T e8 e9 b c x1 o x2 n m g p q=ch;rw[j]at hs⊢;simp only[my,qu,nG,dX]at hs;obtain⟨rfl,rfl⟩:=hs;simp only[vv,kO,lD,cV,eM,oG,fW];refine kK (n:=3) ?_;u_c N wJ B;u_c I wJ B;u_reg wJ B;refine y λ_ a=>?_;replace B:=wJ B a;u_in wJ B;refine gi rfl rfl (by k_ne) λK i=>?_;have s:=gC (o:=0) B.oJ rfl;have k:=gC (o:=1) B.oJ rfl;go_simp;refine i _ _ ⟨⟨rfl,rfl,rfl,rfl,rfl,λ_ _=>rfl,λe d=>?_⟩,?_⟩;·have f:=kN d;simp[go_sem, *]at f;rcases f with rfl|rfl<;>exact⟨_,_,rfl,B.m15⟩
 u_in wJ B;refine gi rfl rfl (by k_ne) λK i=>?_;have s:=gC (o:=0) B.oK rfl;have k:=gC (o:=1) B.oK rfl;go_simp;refine i _ _ ⟨⟨rfl,rfl,rfl,rfl,rfl,λ_ _=>rfl,λe d=>?_⟩,?_⟩;·have f:=kN d;simp[go_sem, *]at f;rcases f with rfl|rfl<;>exact⟨_,_,rfl,B.m14⟩
 u_in wJ B;rw[(Jo (main:=Z) (t:=14) (u:=72) (by rfl) (by rfl) (by k_ne) (by rfl) (by rfl) (by rfl) _ B.oK).1];simp only[eH];refine⟨UE B.oK B.m14 λe d=>?_,?_⟩;·obtain⟨x,wr,l,r⟩:=(Jo (main:=Z) (b:=bh 41) (k:=[]) (cs:=[]) (ops:=agK) (i:=2) (rest:=[]) (t:=14) (u:=72) (by rfl) (by rfl) (by k_ne) (by rfl) (by rfl) (by rfl) _ B.oK).2 e d;exact⟨x,wr,l,by rw[r];exact B.m14⟩
 replace B:=B.auy m g;walk_nrm;u_in wJ B;rw[(Jo (main:=Z) (t:=15) (u:=73) (by rfl) (by rfl) (by k_ne) (by rfl) (by rfl) (by rfl) _ B.oJ).1];simp only[eH];refine⟨UE B.oJ B.m15 λe d=>?_,?_⟩;·obtain⟨x,wr,l,r⟩:=(Jo (main:=Z) (b:=bh 41) (k:=[]) (cs:=[]) (ops:=agK) (i:=3) (rest:=[]) (t:=15) (u:=73) (by rfl) (by rfl) (by k_ne) (by rfl) (by rfl) (by rfl) _ B.oJ).2 e d;exact⟨x,wr,l,by rw[r];exact B.m15⟩
 replace B:=B.auw p q;walk_nrm;refine kK (n:=3) ?_;u_c N wJ B;u_reg wJ B;u_op wJ B;refine y λ_ a=>?_;replace B:=wJ B a;u_in wJ B;refine gi rfl rfl (by k_ne) λK i=>?_;have k:=gC (o:=1) B.oK rfl;go_simp;refine i _ _ ⟨⟨rfl,rfl,rfl,rfl,rfl,λ_ _=>rfl,λe d=>?_⟩,?_⟩;·have f:=kN d;simp[go_sem, *]at f;subst f;exact⟨_,_,rfl,B.m14⟩
 refine y λw1 l=>?_;subst t;refine⟨_,rfl,rfl,rfl,rfl,⟨_,rfl,rfl,?_,rfl,B.rely l⟩,λw2=>af2 rfl rfl (by k_ne) rfl rfl w2⟩;suffices h:∀X,X=((((T.setIfInBounds 72<|.agg #[.chan<|U m,.chan<|U g]).setIfInBounds 73<|.agg #[.chan<|U p,.chan<|U q]).setIfInBounds 75<|.pointer<|U ⟨b,1,V⟩).setIfInBounds 76<|.chan<|U g)->xG X T from h _ (by rw[j];rfl);grind[asJ]
end
variable{K:fK}{C:List aZ}
theorem asK{T}(a b c):xG (((T.setIfInBounds 69 a).setIfInBounds 70 b).setIfInBounds 71 c) T:=λz _ _ d=>by rw[l<|by omega,l<|by omega,l<|by omega]
theorem asI{T}(a b c d e f):xG ((((((T.setIfInBounds 77 a).setIfInBounds 74 b).setIfInBounds 78 c).setIfInBounds 79 d).setIfInBounds 12 e).setIfInBounds 13 f) T:=λz h g i=>by rw[l<|by omega,l<|by omega,l<|by omega,l<|by omega,l<|by omega,l<|by omega]
set_option maxHeartbeats 4000000 in
theorem auF{T}{b}{f q'}{d}{w}(O:T.size=87)(hs:T[12]?=U d/\T[15]?=U (.pointer b))(a:w.heap[b]?=(ends (U f)<|U q')):cM aD Z (L<|[]++[b]) (DH [] [b]) (λg w=>g=G ((bh 41).at ⟨((T.setIfInBounds 69<|.pointer b).setIfInBounds 70<|.chan f).setIfInBounds 71 d,[]⟩<|.inRegion tK [3]::vv) C) 6 (G ((bh 41).at ⟨T,[]⟩<|.inRegion tK [0,1,2,3]::vv) C) w:=by
 obtain⟨v0,v1,v2,v3,v4,v5,v6,v7,v8,v9,v10,D,v12,mF,qc,M,qb,qa,X,mE,v20,Q1,P,pZ,p,q,v,I,v28,N,B,v31,uS,V,s,pY,o,v37,pX,pW,v40,pV,pU,pS,R,oa,Q0,pR,pQ,v49,u,v51,m,l,xO,pP,nZ,A,F,v59,nY,pO,pM,n,nX,x,nW,h,t,Q3,Y,i,v72,W,r,J,v76,xN,S,Q,k,E,Q2,nV,H,v85,j,rfl⟩:=pG T O;simp only[my,qu,nG,dX]at hs;obtain⟨rfl,rfl⟩:=hs;simp only[tK,vv,kO,lD,cV,eM,eS,oG,fW];refine kK (n:=1) ?_;u_op tF a;refine y λ_ c=>?_;replace a:=tF a c;u_in tF a;refine gi rfl rfl (by k_ne) λK z=>?_;have sK:=gC (o:=0) a rfl;go_simp;refine z _ _ ⟨⟨rfl,rfl,rfl,rfl,λ_ _=>rfl,λe he=>?_⟩,?_⟩;.have hm:=kN he;simp[go_sem, *]at hm;grind
 refine dH ?_;u_op tF a;exact y λw1 h1=>rfl
theorem auE{T}{a}{b}(hs:T[70]?=U (.chan a)/\T[71]?=U b)(w):cj aD Z (G ((bh 41).at ⟨T,[]⟩<|.inRegion tK [3]::vv) C) w=.comm (G ((bh 41).at ⟨T,[]⟩<|.inRegion tK [3]::vv) C) #[scase a b<|.tuple #[]] Z .send w #[]:=afl (by rfl) (by rfl) (by k_ne) (by rfl) hs.1 hs.2 w
theorem auD{T}:kU (G ((bh 41).at ⟨T,[]⟩<|aT tK [3]::vv) C) ak=G ((bh 41).at ⟨T,[]⟩<|aT tK []::vv) C:=by rw[MN];rfl
set_option maxHeartbeats 4000000 in
theorem ang{T}{x}{d}(O:T.size=87)(w):cM aD Z (L<|[]++[]) (DH [] []) (λg w=>∃b,g=G ((bh 41).at ⟨b,[]⟩<|bF lD::oy) C/\b.size=87/\xG b T/\b[12]?=U x/\b[13]?=U (cx d)) 20 (kU (G ((bh 41).at ⟨T,[]⟩<|aT X6 [2,3,4,5,6,7]::ZB) C)<|recvd Z x d) w:=by obtain⟨v0,v1,v2,v3,v4,v5,v6,v7,v8,v9,v10,D,v12,mF,qc,M,qb,qa,Q0,mE,v20,v21,P,pZ,p,q,v,I,v28,Q1,B,v31,uS,W,s,pY,o,v37,pX,pW,v40,pV,pU,pS,S,oa,V,pR,pQ,v49,u,v51,m,l,xO,pP,nZ,Q2,F,v59,nY,pO,pM,n,nX,QW,nW,f,t,z,v70,i,v72,Y,r,J,v76,xN,a,R,k,E,Q3,nV,H,v85,j,e⟩:=pG T O;generalize hQ:(λ(g:aX)(w:ax)=>∃b,g=G ((bh 41).at ⟨b,[]⟩<|bF lD::oy) C/\b.size=87/\xG b T/\b[12]?=U x/\b[13]?=U (cx d))=Q;rw[e,MN];simp only[X6,ZB,oy,kO,lD,cV,eM,eS,oG,fW,recvd,gL];have c:=trivial;walk_nrm;refine dH ?_;u_op A c;u_op A c;u_op A c;u_op A c;u_op A c;u_c N A c;u_c NK A c;u_c stepG_inLoop A c;refine y λw1 h1=>?_;subst hQ;refine⟨_,rfl,rfl,?_,rfl,rfl⟩;suffices h:∀X,X=((((((T.setIfInBounds 77<|bQ #[x,cx d]).setIfInBounds 74<|bQ #[x,cx d]).setIfInBounds 78 x).setIfInBounds 79<|cx d).setIfInBounds 12 x).setIfInBounds 13<|cx d)->xG X T from h _ (by rw[e];rfl);grind[asI]
variable{fs:Array dY}{T:Array az}{w:ax}
theorem ayE(b:fs[59]?=f59){x B}(h:T[15]?=U x/\T[12]?=U B):cM (J aD fs) Z i uL (λg w=>g=G (eP (J aD fs) 59 #[x,B] eo) ((bh 41).at ⟨T,[]⟩ (aT om [0,1]::sw)::C)) 3 (G ((bh 41).at ⟨T,[]⟩<|aT om [0,1]::sw) C) w:=by
 have f:dW ⟨T,[]⟩ (cy 15)=x:=getD_some h.1;have c:dW ⟨T,[]⟩ (cy 12)=B:=getD_some h.2;u_in eC trivial;have e:cS (dW ⟨T,[]⟩) (eN (U 69) (.call {callee:=.value<|.func 59,args:=#[cy 15,cy 12],argTypes:=#[77,79]}) 79)=iJ 59 #[x,B]:=by
  show(do let d<-resolve (dW ⟨T,[]⟩) _ _;invoke d.target d.args:cz Next)=_;have:(#[cy 15,cy 12]:Array ja).map (dW ⟨T,[]⟩)=#[x,B]:=by grind
  simp only[resolve,this];rfl
 rw[stepG_enter (f:=59) (args:=#[x,B]) (o:=eN (U 69) (.call {callee:=.value<|.func 59,args:=#[cy 15,cy 12],argTypes:=#[77,79]}) 79) (by rfl) (by rfl) (by k_ne)<|by rw[e];exact amX b (by kernel_rfl) rfl _ _];simp only[eH];exact⟨i.refl _,y λ_ _=>rfl⟩
theorem aDX{v}(b:∀p n c,v≠aC p n c)(w)(d):∃m,(s8 (d+1) 79 v<|aC V 0 0).run (J aD fs) w=dM (.stuck m) w:=by obtain⟨e,a⟩:∃e,(J aD fs).underlying 79=U (.slice e):=⟨_,(Mt _ _ _).trans underlying79⟩;unfold s8;cases v with|slice p n c=>exact absurd rfl<|b p n c|_=>rw[NJ,run_underlying a];exact⟨_,rfl⟩
theorem aDZ{v}(b:∀p n c,v≠aC p n c)(w){X Y}:∃m,(do eqGuard .eql 79 X Y v<|aC V 0 0;gF .eql 79 v<|aC V 0 0:cz az).run (J aD fs) w=dM (.stuck m) w:=by
 obtain⟨m,f⟩:=aDX (fs:=fs) b w 9999;have e:gF .eql 79 v (aC V 0 0)=(do bI<|<-s8 (9999+1) 79 v<|aC V 0 0:cz az):=by cases v<;>rfl
 have d:eqGuard .eql 79 X Y v (aC V 0 0)=bI ():=by cases v<;>rfl
 refine⟨m,?_⟩;rw[e,d];show oF _ (do let a<-s8 (9999+1) 79 v<|aC V 0 0;bI a:cz az) _=_;rw[NJ,f];rfl
theorem aru{Done}(l:nt (J aD fs) Done)(a:∀h w,¬Done (G h C) w){v}(f:T[69]?=U v)(g:Term (J aD fs) Done (G ((bh 41).at ⟨T,[]⟩<|aT om [1]::sw) C) w):∃p n c,v=aC p n c:=by
 refine ou λd=>g.Gr l (λb j i k=>?_)<|a _ _;obtain⟨m,o⟩:=aDZ (fs:=fs) (v:=v) (λp n c e=>d ⟨p,n,c,e⟩) (World.re w b 0) (X:=cy 69) (Y:=gO<|aC V 0 0);refine aej (o:=eN (U 70) (.binOp .eql 79 (cy 69) (gO<|aC V 0 0) 79) 4) (m:=m) (w1:=World.re w b 0) (by rfl) (by rfl) ?_ j i k;have e:cS (dW ⟨T,[]⟩) (eN (U 70) (.binOp .eql 79 (cy 69) (gO<|aC V 0 0) 79) 4)=(do bI<|gq<|<-(do eqGuard .eql 79 (cy 69) (gO<|aC V 0 0) v<|aC V 0 0;gF .eql 79 v<|aC V 0 0:cz az):cz Next):=by rw[<-getD_some f];rfl
 rw[e,NJ,o];rfl
theorem aD0{p}{n c}(e0:dW ⟨T,[]⟩ (cy 69)=aC p n c)(w):(cS (dW ⟨T,[]⟩)<|eN (U 70) (.binOp .eql 79 (cy 69) (gO<|aC V 0 0) 79) 4).run (J aD fs) w=aW (gq p.isNone) w:=by
 have e:cS (dW ⟨T,[]⟩) (eN (U 70) (.binOp .eql 79 (cy 69) (gO<|aC V 0 0) 79) 4)=(do bI<|gq<|<-(gF .eql 79 (aC p n c)<|aC V 0 0:cz az):cz Next):=by have a:eqGuard .eql 79 (cy 69) (gO<|aC V 0 0) (aC p n c) (aC V 0 0)=bI ():=rfl;show(do let r<-(do eqGuard .eql 79 (cy 69) (gO<|aC V 0 0) (dW ⟨T,[]⟩<|cy 69)<|aC V 0 0;gF .eql 79 (dW ⟨T,[]⟩<|cy 69)<|aC V 0 0:cz az);bI<|gq r:cz Next)=_;grind
 rw[e,NJ,Zs (P:=J aD fs) w 79 _ p n c 0 0<|(Mt _ _ _).trans underlying79];rfl
theorem tailA{p}{n c}(h:T[69]?=U (aC p n c)):cM (J aD fs) Z i uL (λg w=>g=G ((bh 41).at ⟨T.setIfInBounds 70 p.isNone,[]⟩<|bF (.cond (cy 70) (dS 906 Ef ai)<|dS 907 Ee ai)::bF (dS 908 yR ai)::mD 1::jU) C) 5 (G ((bh 41).at ⟨T,[]⟩<|aT om [1]::sw) C) w:=by have b:=trivial;u_in eC b;rw[rZ (v:=p.isNone) (o:=eN (U 70) (.binOp .eql 79 (cy 69) (gO<|aC V 0 0) 79) 4) (by rfl) (by rfl) (by k_ne)<|aD0 (getD_some h) _];simp only[eH];refine⟨i.refl _,?_⟩;refine kK (n:=1) ?_;u_c N eC b;refine y λ_ a=>?_;replace b:=eC b a;simp only[sw];rw[show eM 3 wV=eG (.cond (cy 70) (dS 906 Ef ai)<|dS 907 Ee ai) (dS 908 yR ai)from rfl];refine dH ?_;u_c I eC b;exact y λ_ _=>rfl
theorem arT(h:dW ⟨T,[]⟩ (cy 70)=Z):cM (J aD fs) Z i uL (λg w=>g=G ((bh 41).at ⟨(T.setIfInBounds 12<|aC V 0 0).setIfInBounds 13 ai,[]⟩<|bF (dS 908 yR ai)::mD 1::jU) C) 8 (G ((bh 41).at ⟨T,[]⟩<|bF (.cond (cy 70) (dS 906 Ef ai)<|dS 907 Ee ai)::bF (dS 908 yR ai)::mD 1::jU) C) w:=by have a:=trivial;u_in eC a;rw[Kv (t:=Z) h];simp only[eH,gL];refine⟨i.refl _,?_⟩;u_in eC a;rw[ua,show Ef.size=2 from rfl,show mR 2=[0,1]from rfl];simp only[eH];refine⟨i.refl _,?_⟩;u_in eC a;rw[rZ (v:=aC V 0 0) (o:=eN (U 12) (pA<|gO<|aC V 0 0) 79) (by rfl) (by rfl) (by k_ne)<|by simp only[cS,eN];rfl];simp only[eH];refine⟨i.refl _,?_⟩;u_in eC a;rw[rZ (v:=ai) (o:=eN (U 13) (pA<|gO ai) 4) (by rfl) (by rfl) (by k_ne)<|by simp only[cS,eN,dj];rfl];simp only[eH];refine⟨i.refl _,?_⟩;refine dH ?_;u_c N eC a;exact y λ_ _=>rfl
theorem arS{x}(h:dW ⟨T,[]⟩ (cy 70)=ai)(b:T[69]?=U x):cM (J aD fs) Z i uL (λg w=>g=G ((bh 41).at ⟨(T.setIfInBounds 12 x).setIfInBounds 13 Z,[]⟩<|bF (dS 908 yR ai)::mD 1::jU) C) 8 (G ((bh 41).at ⟨T,[]⟩<|bF (.cond (cy 70) (dS 906 Ef ai)<|dS 907 Ee ai)::bF (dS 908 yR ai)::mD 1::jU) C) w:=by have a:=trivial;have c:dW ⟨T,[]⟩ (cy 69)=x:=getD_some b;u_in eC a;rw[Kv (t:=ai) h];simp only[eH,ow,↓reduceIte];refine⟨i.refl _,?_⟩;u_in eC a;rw[ua,show Ee.size=2 from rfl,show mR 2=[0,1]from rfl];simp only[eH];refine⟨i.refl _,?_⟩;u_in eC a;rw[rZ (v:=x) (o:=eN (U 12) (pA<|cy 69) 79) (by rfl) (by rfl) (by k_ne)<|by simp only[cS,eN,c];rfl];simp only[eH];refine⟨i.refl _,?_⟩;u_in eC a;rw[rZ (v:=Z) (o:=eN (U 13) (pA<|gO Z) 4) (by rfl) (by rfl) (by k_ne)<|by simp only[cS,eN,dj];rfl];simp only[eH];refine⟨i.refl _,?_⟩;refine dH ?_;u_c N eC a;exact y λ_ _=>rfl
theorem aed{t14 t15}(k:T.size=87)(h:T[14]?=U t14)(e:T[15]?=U t15):cM (J aD fs) Z i uL (λg w=>g=G ((bh 41).at ⟨(((T.setIfInBounds 72 t15).setIfInBounds 73 t14).setIfInBounds 14 t15).setIfInBounds 15 t14,[]⟩<|bF ot::jU) C) 12 (G ((bh 41).at ⟨T,[]⟩<|bF (dS 908 yR ai)::mD 1::jU) C) w:=by have a:=trivial;have c:dW ⟨T,[]⟩ (cy 15)=t15:=getD_some e;have f:dW ⟨T.setIfInBounds 72 t15,[]⟩ (cy 14)=t14:=getD_some<|(l<|by decide).trans h;have d:dW ⟨(T.setIfInBounds 72 t15).setIfInBounds 73 t14,[]⟩ (cy 72)=t15:=getD_some ((l<|by decide).trans<|kg<|by grind);have b:dW ⟨((T.setIfInBounds 72 t15).setIfInBounds 73 t14).setIfInBounds 14 t15,[]⟩ (cy 73)=t14:=getD_some ((l<|by decide).trans<|kg<|by grind);u_in eC a;rw[ua,show yR.size=4 from rfl,show mR 4=[0,1,2,3]from rfl];simp only[eH];refine⟨i.refl _,?_⟩;u_in eC a;rw[rZ (v:=t15) (o:=eN (U 72) (.move<|cy 15) 0) (by rfl) (by rfl) (by k_ne)<|by simp only[cS,eN,c];rfl];simp only[eH];refine⟨i.refl _,?_⟩;u_in eC a;rw[rZ (v:=t14) (o:=eN (U 73) (.move<|cy 14) 0) (by rfl) (by rfl) (by k_ne)<|by simp only[cS,eN,dj,f];rfl];simp only[eH];refine⟨i.refl _,?_⟩;u_in eC a;rw[rZ (v:=t15) (o:=eN (U 14) (pA<|cy 72) 0) (by rfl) (by rfl) (by k_ne)<|by simp only[cS,eN,dj,d];rfl];simp only[eH];refine⟨i.refl _,?_⟩;u_in eC a;rw[rZ (v:=t14) (o:=eN (U 15) (pA<|cy 73) 0) (by rfl) (by rfl) (by k_ne)<|by simp only[cS,eN,dj,b];rfl];simp only[eH];refine⟨i.refl _,?_⟩;refine dH ?_;u_c N eC a;simp only[jU];u_c NK eC a;u_c stepG_inLoop eC a;exact y λ_ _=>rfl
structure RS(bw e8 e9 f14 f15 x1 y1 x2 y2 jf jt:Nat)(bf bt:eF)(p q p' q' c2 c3 d2 d3:Nat)(s:St):Prop where
 box:rM s.v (s.D 0).own e8 e9 f14 f15 x1 y1 x2 y2 p q p' q'
 pair:kV s.role jf jt (wk bw c2 c3 p q bf) (wk bw d2 d3 p' q' bt)lf:jf<s.gs.size
 lt:jt<s.gs.size
 r0:∀r,s.role 0=U r->r.out=e8
 pD:∃k,s.ch p=U ⟨V,ai,k⟩qG:∃k,s.ch q=U ⟨V,ai,k⟩Bc:∃k,s.ch p'=U ⟨V,ai,k⟩zN:∃k,s.ch q'=U ⟨V,ai,k⟩md:s.md=.opn 0
 par:p=x1/\q=y1/\p'=x2/\q'=y2\/p=x2/\q=y2/\p'=x1/\q'=y1
structure RT(T:Array az)(e8 e9 bw f14 f15:Nat):Prop where
 size:T.size=87
 t8:T[8]?=U (aF<|U ⟨e8,0,V⟩)t9:T[9]?=U (aF<|U ⟨e9,0,V⟩)t10:T[10]?=U (aF<|U ⟨bw,0,V⟩)t14:T[14]?=U (aF<|U ⟨f14,0,V⟩)t15:T[15]?=U (aF<|U ⟨f15,0,V⟩)
theorem RT.of{T c}{e8 e9 d b a}(R:RT T e8 e9 d b a)(e:c.size=87)(h:∀z,z=8\/z=9\/z=10\/z=14\/z=15->c[z]?=T[z]?):RT c e8 e9 d b a:=⟨e,(h 8<|by simp).trans R.t8,(h 9<|by simp).trans R.t9,(h 10<|by simp).trans R.t10,(h 14<|by simp).trans R.t14,(h 15<|by simp).trans R.t15⟩
section
variable {K:fK} {bw e8 e9 f14 f15 x1 y1 x2 y2 jf jt:Nat} {bf bt:eF} {p q p' q' c2 c3 d2 d3:Nat} {s t:St} {a:aX}
theorem RS.A3(R:RS bw e8 e9 f14 f15 x1 y1 x2 y2 jf jt bf bt p q p' q' c2 c3 d2 d3 s)(H:Ok K 0 s a)(d:uK 0 s t):RS bw e8 e9 f14 f15 x1 y1 x2 y2 jf jt bf bt p q p' q' c2 c3 d2 d3 t:=⟨R.box.keep (λb c=>d.own b (H.hold.inv.own 0 b c).2 (H.hold.inv.own 0 b c).1) λb c=>by rw[d.D];exact c,by rw[d.role];exact R.pair,by rw[d.size];exact R.lf,by rw[d.size];exact R.lt,by rw[d.role];exact R.r0,by rw[d.ch];exact R.pD,by rw[d.ch];exact R.qG,by rw[d.ch];exact R.Bc,by rw[d.ch];exact R.zN,d.md.trans R.md,R.par⟩
structure Still(cl:Nat->fe)(v:ax)(cl':Nat->fe)(v':ax):Prop where
 out:v'.output=v.output
 size:v.heap.size<=v'.heap.size
 old:∀b,b<v.heap.size->cl b=.old->v'.heap[b]?=v.heap[b]?/\cl' b=.old
theorem Still.refl(b)(v):Still b v b v:=⟨rfl,aQ _,λ_ _ h=>⟨rfl,h⟩⟩
theorem Still.trans{f cl' c}{v v' d}(a:Still f v cl' v')(b:Still cl' v' c d):Still f v c d:=⟨b.out.trans a.out,bC a.size b.size,λx e g=>let⟨p,q⟩:=a.old x e g;let⟨r,s⟩:=b.old x (cB e a.size) q;⟨r.trans p,s⟩⟩
theorem Still.of{c cl'}{sp}{v v'}(L:Left c sp v v')(e:∀b,b<v.heap.size->cl' b=c b):Still c v cl' v':=⟨L.out,L.size,λb d h=>⟨L.block b d<|aB<|ay h,(e b d).trans h⟩⟩
theorem uK.still{h}{s t}(d:uK h s t):Still s.cl s.v t.cl t.v:=⟨d.out,d.vD,λb c e=>⟨d.old b c e,(d.cls b c).trans e⟩⟩
structure Since(K:fK)(fs:Array dY)(I:H)(Done:aX->ax->Prop)(s0:St)(iT:Nat->Nat)(g0:aX)(w0:ax)(s:St)(ρ:Nat->Nat)(g:aX)(w:ax):Prop where
 runs:s0.runs K.P s
 LU:∀z,z<w0.heap.size->iT z=ρ z
 uW:w0.heap.size<=w.heap.size
 sV:∀z,z<w0.heap.size->I.F z=ai->z≠4->w.heap[z]?=w0.heap[z]?
 back:me (J K.P fs) Done (g,w) (g0,w0)out:Still s0.cl s0.v s.cl s.v
 size:s.gs.size=s0.gs.size
variable {fs:Array dY} {I:H} {Done:aX->ax->Prop} {s0:St} {iT ρ eK:Nat->Nat} {g0 g g':aX} {w0 w w':ax}
theorem Since.refl(s)(ρ)(g)(w):Since K fs I Done s ρ g w s ρ g w:=⟨.refl _,λ_ _=>rfl,aQ _,λ_ _ _ _=>rfl,.refl _,.refl _ _,rfl⟩
theorem Since.right(S:Since K fs I Done s0 iT g0 w0 s ρ g w)(r:s.runs K.P t)(c:Still s.cl s.v t.cl t.v)(b:t.gs.size=s.gs.size):Since K fs I Done s0 iT g0 w0 t ρ g w:=⟨S.runs.trans r,S.LU,S.uW,S.sV,S.back,S.out.trans c,b.trans S.size⟩
theorem Since.tape(S:Since K fs I Done s0 iT g0 w0 s ρ g w)(b:me (J K.P fs) Done (g',w') (g,w))(h:i w w'):Since K fs I Done s0 iT g0 w0 s ρ g' w':=⟨S.runs,S.LU,by rw[h.heap];exact S.uW,λz c e d=>by rw[h.heap];exact S.sV z c e d,b.trans S.back,S.out,S.size⟩
theorem Since.both(S:Since K fs I Done s0 iT g0 w0 s ρ g w)(e:∀z,z<w.heap.size->ρ z=eK z)(d:w.heap.size<=w')(c:∀z,z<w.heap.size->I.F z=ai->w'.heap[z]?=w.heap[z]?)(b:me (J K.P fs) Done (g',w') (g,w))(r:s.runs K.P t)(k:Still s.cl s.v t.cl t.v)(i:t.gs.size=s.gs.size):Since K fs I Done s0 iT g0 w0 t eK g' w':=⟨S.runs.trans r,λz h=>(S.LU z h).trans<|e z<|cB h S.uW,bC S.uW d,λz h f j=>(c z (cB h S.uW) f).trans<|S.sV z h f j,b.trans S.back,S.out.trans k,i.trans S.size⟩
theorem gw.tape{n}{w w'}(h:gw n w)(r:i w w'):gw n w':=by unfold gw at h⊢;rw[r.heap];exact h
theorem lM.tape{N}{I}{w w'}{S}{TL b}(h:lM N I w.heap.size S TL b)(r:i w w'):lM N I w' S TL b:=by rw[r.heap];exact h
structure nQ(K:fK)(fs:Array dY)(I:H)(Done:aX->ax->Prop)(B cY:List aZ)(s0:St)(iT:Nat->Nat)(g0:aX)(w0:ax)(kL kR:List eY)(e8 e9 bw f14 f15 x1 y1 x2 y2 jf jt:Nat)(lf lt:eF)(bf bt:eF)(p q p' q' c2 c3 d2 d3:Nat)(ρ:Nat->Nat)(w:ax)(TL TR:Array az)(s:St):Prop where
 ok:Ok K 0 s (G ((bh 41).at ⟨TR,[]⟩ kR) cY)term:Term (J K.P fs) Done (G ((bh 41).at ⟨TL,[]⟩ kL) B) w
 eV:fM ρ I K.P s.cl w s.v
 agree:lM ρ I w.heap.size rK TL TR
 sL:TL.size=87
 flag:gw 1 w
 Nn:TL[14]?=U (aF<|U lf)Kb:TL[15]?=U (aF<|U lt)Gv:I.blk w.heap.size lf.block=Z
 Eh:I.blk w.heap.size lt.block=Z
 ef:bf=dA ρ lf
 et:bt=dA ρ lt
 rt:RT TR e8 e9 bw f14 f15
 rs:RS bw e8 e9 f14 f15 x1 y1 x2 y2 jf jt bf bt p q p' q' c2 c3 d2 d3 s
 since:Since K fs I Done s0 iT g0 w0 s ρ (G ((bh 41).at ⟨TL,[]⟩ kL) B) w
variable {B cY:List aZ} {kL kR Tm NN:List eY} {lf lt:eF} {TL TR:Array az}
theorem nQ.go(X:nQ K fs I Done B cY s0 iT g0 w0 kL kR e8 e9 bw f14 f15 x1 y1 x2 y2 jf jt lf lt bf bt p q p' q' c2 c3 d2 d3 ρ w TL TR s)(o:K.P=aD)(x:nt (J K.P fs) Done){n m}(l:∀w,cM (J aD fs) Z i uL (λg w=>g=G ((bh 41).at ⟨TL,[]⟩ Tm) B) n (G ((bh 41).at ⟨TL,[]⟩ kL) B) w)(y:∀w,cM aD Z (L<|[]++[]) (DH [] []) (λg w=>g=G ((bh 41).at ⟨TR,[]⟩ NN) cY) m (G ((bh 41).at ⟨TR,[]⟩ kR) cY) w):∃w' t,nQ K fs I Done B cY s0 iT g0 w0 Tm NN e8 e9 bw f14 f15 x1 y1 x2 y2 jf jt lf lt bf bt p q p' q' c2 c3 d2 d3 ρ w' TL TR t:=by have d:=l w;rw[<-o]at d;obtain⟨_,u,rfl,j,f,c⟩:=Term.goes x i.refl i.trans (λ_ _ h=>h) (λ_ _ _ h=>h) d X.term;obtain⟨e,_,k,Q0,rfl,b,r,v⟩:=X.ok.walk (n:=m) (O:=[]) (Rd:=[]) (Stop:=λg w=>g=G ((bh 41).at ⟨TR,[]⟩ NN) cY) λg w h=>by rw[h];rfl (by grind) (by simp) (by simp);exact⟨u,e,⟨Q0,j,(X.eV.left b.left b.cls).re c,X.agree.tape c,X.sL,X.flag.tape c,X.Nn,X.Kb,by rw[c.heap];exact X.Gv,by rw[c.heap];exact X.Eh,X.ef,X.et,X.rt,X.rs.A3 X.ok<|b.A3 r v,(X.since.tape f c).right k (.of b.left b.cls) b.size⟩⟩
theorem JN{ρ eK}{N}{I:H}{l}(h:I.blk N l.block=Z)(b:∀z,z<N->ρ z=eK z):dA ρ l=dA eK l:=by grind[dA,H.ji]
theorem nQ.lock{ops}{c}(D:I.F 4=ai)(X:nQ K fs I Done B cY s0 iT g0 w0 (aT ops c::kL) (aT ops c::kR) e8 e9 bw f14 f15 x1 y1 x2 y2 jf jt lf lt bf bt p q p' q' c2 c3 d2 d3 ρ w TL TR s)(L:nt (J K.P fs) Done)(m:∀E w,¬Done (G E B) w)(N:Au ops rK c=Z)(j:∀z,z=8\/z=9\/z=10\/z=14\/z=15->z∉uw ops c):∃eK w' e d t,nQ K fs I Done B cY s0 iT g0 w0 (aT ops []::kL) (aT ops []::kR) e8 e9 bw f14 f15 x1 y1 x2 y2 jf jt lf lt bf bt p q p' q' c2 c3 d2 d3 eK w' e d t/\lM eK I w' (grow ops rK c) e d:=by
 have b:c++[]=c:=by grind
 obtain⟨t,eK,w',e,d,i,P,x,v,A,F,h,y,r,k,f,n,o⟩:=Ok.J7 (rest:=[]) L m c N (by rw[b];exact X.ok) (by rw[b];exact X.term) X.eV X.agree<|X.sL.trans X.rt.size.symm;rw[b]at r;have u:∀l:eF,I.blk w l.block=Z->I.blk w' l.block=Z:=by grind[H.ey]
 exact⟨eK,w',e,d,t,⟨n,y,o,v.sub λ_=>ak1 ops c,A.trans X.sL,Lf X.flag D x,(h 14<|j 14<|by simp).1.trans X.Nn,(h 15<|j 15<|by simp).1.trans X.Kb,u _ X.Gv,u _ X.Eh,X.ef.trans<|JN X.Gv i,X.et.trans<|JN X.Eh i,X.rt.of (F.trans X.rt.size) λz C=>(h z<|j z C).2,X.rs.A3 X.ok f,X.since.both i P x r k f.still f.size⟩,v⟩
end
theorem aEg:uw ik [0,1,2,3,4,5,6,7,8,9,10,11,12,13,14,15,16,17,18]=[44,45,46,47,48,49,50,51,52,53,54,55,56,57,58,59,60,61,62]:=by kernel_rfl
theorem aEf:uw BW [0,1,2]=[63,64,6]:=by kernel_rfl
theorem aEe:uw BV [0,1,2,3,4]=[65,66,67,68,7]:=by kernel_rfl
section
variable {K:fK} {bw e8 e9 f14 f15 x1 y1 x2 y2 jf jt:Nat} {bf bt:eF} {p q p' q' c2 c3 d2 d3:Nat} {s t:St} {a:aX}
variable {fs:Array dY} {I:H} {Done:aX->ax->Prop} {s0:St} {iT ρ eK:Nat->Nat} {g0 g g':aX} {w0 w w':ax}
variable {B cY:List aZ} {kL kR Tm NN:List eY} {lf lt:eF} {TL TR:Array az}
theorem aq7(h:K.P=aD)(d:nt (J K.P fs) Done)(c:∀O w,¬Done (G O B) w)(j:I.F 4=ai){Q:Prop}(X:nQ K fs I Done B cY s0 iT g0 w0 (bF ot::jU) (bF lD::oy) e8 e9 bw f14 f15 x1 y1 x2 y2 jf jt lf lt bf bt p q p' q' c2 c3 d2 d3 ρ w TL TR s)(o:∀eK w' f e t,nQ K fs I Done B cY s0 iT g0 w0 [bF vP] [bF<|cV 10] e8 e9 bw f14 f15 x1 y1 x2 y2 jf jt lf lt bf bt p q p' q' c2 c3 d2 d3 eK w' f e t->Q)(x:∀eK w' f e t,nQ K fs I Done B cY s0 iT g0 w0 (aT om [0,1]::sw) (aT tK [0,1,2,3]::vv) e8 e9 bw f14 f15 x1 y1 x2 y2 jf jt lf lt bf bt p q p' q' c2 c3 d2 d3 eK w' f e t->Q):Q:=by obtain⟨w1,F,H⟩:=X.go h d (λ_=>aBX) λ_=>aBW;obtain⟨T,w2,A,n,P,k,Q2⟩:=H.lock j d c ayk (λz m=>by rw[show uw ik _=_ from aEg];rcases m with rfl|rfl|rfl|rfl|rfl<;>decide);obtain⟨r,l⟩:=arx (fs:=fs) (Done:=Done) (C:=B) (by grind) c (by have:=k.term;rwa[h]at this);have i:dW ⟨n,[]⟩ (cy 62)=r:=(RV.bool (Q2 62<|List.contains_iff_mem.1 aDb) r).1 l;cases r with|false=>obtain⟨N,L,u⟩:=k.go h d (λ_=>JS l) λ_=>agH i;grind|true=>obtain⟨N,L,u⟩:=k.go h d (λ_=>inL l) λ_=>inR i;obtain⟨Q1,W,v,E,s4,y,_⟩:=u.lock j d c ayj (λz m=>by grind[uw,BW,aEf]);obtain⟨w5,s5,S⟩:=y.go h d (λ_=>arp) λ_=>aro;obtain⟨M,b,R,D,Q0,C,_⟩:=S.lock j d c ayi (λz m=>by rw[show uw BV _=_ from aEe];grind);obtain⟨w7,s7,X7⟩:=C.go h d (λ_=>arn) λ_=>arl;grind
end
theorem kV.ao2{a}{f g}{d c}(p:kV a f g d c)(rh):kV (bE a 0<|U rh) f g d c:=⟨by rw[cX a _ p.yO];exact p.one,by rw[cX a _ p.oh];exact p.two,λi r b=>by
  by_cases e:i=0;.grind
  .rw[cX a _ e]at b;exact p.all i r b,p.ne,p.yO,p.oh,p.cc,p.PT,p.LJ,p.LI,p.Dd,p.oo⟩
theorem kV.aFt{K}{a}{D}{n o}{l k}(p:kV a n o l k)(C:Du K a D){rh}(q:rh.out≠l.out)(s:rh.out≠k.out):Du K (bE a 0<|U rh) D:=by
 have b:∀i r,bE a 0 rh i=U r->0<i->a i=r:=λi r g c=>by grind[upd_ne,Nat.ne_of_gt]
 refine⟨λi j r m g d h c=>?_,λi r g c=>C.end_ i r (b i r g c) c,C.qI⟩;have f:=b i r g c;by_cases e:j=0;.subst e;rw[da]at d;cases d;rcases p.F0 f (GW c)with⟨_,rfl⟩|⟨_,rfl⟩;all_goals grind
 .exact C.outs i j r m f (b j m d<|Tj e) h c
section
variable {K:fK} {bw e8 e9 f14 f15 x1 y1 x2 y2 jf jt:Nat} {bf bt:eF} {p q p' q' c2 c3 d2 d3:Nat} {s t:St} {a:aX}
theorem Ok.XT{h}(H:Ok K h s a){b c}{d}(g:b∈(s.D 0).own)(f:s.ch c=U d):b≠c:=λe=>by have j:=(H.hold.inv.own 0 b g).1;have i:=(H.hold.inv.chan c d f).2.1;grind
theorem ala{T:Array az}(b:T.size=87):T[12]?=T.getD 12 ak:=by rw[iM,gW<|by grind];rfl
noncomputable def JJ(C:List aZ)(T:Array az)(e8 e9 f14 f15 x1 y1 x2 y2 p q p' q':Nat):fG:=⟨acd C T e8 e9 f14 f15 x1 y1 x2 y2 p q p' q',e8,0,bQ #[]⟩
variable {cY:List aZ} {TR:Array az}
theorem avi(y:K.P=aD)(v:K.L=dL)(hl:K.live=Z)(sM:K.Wg=bw)(H:Ok K 0 s<|G ((bh 41).at ⟨TR,[]⟩<|.inRegion tK [0,1,2,3]::vv) cY)(m:RT TR e8 e9 bw f14 f15)(R:RS bw e8 e9 f14 f15 x1 y1 x2 y2 jf jt bf bt p q p' q' c2 c3 d2 d3 s):∃t j d u,s.runs K.P t/\Ok K jt t (r (eP K.P 59 #[.pointer bt,TR.getD 12 ak] .normal)<|LG d q'::uR bw d2 d3 p' q' bt)/\j.size=87/\xG j TR/\t.role=bE s.role 0 (JJ cY j e8 e9 f14 f15 x1 y1 x2 y2 p' q' p q)/\t.md=.opn 0/\(∃k,t.ch=bE s.ch p' (U ⟨V,ai,k⟩))/\t.gs.size=s.gs.size/\Left s.cl (λ_=>False) s.v t.v/\(∀b,b<s.v.heap.size->t.cl b=s.cl b)/\d.size=21/\(d[1]?=jy bt/\d[2]?=U (.pointer u)/\d[9]?=U (.chan p'))/\(t.v.heap[u]?=U (.cells #[.chan p',.chan q'] 114)/\t.v.heap[d3]?=U (.cells #[jy bt] 126))/\u∈(t.D jt).own/\d3∈(t.D jt).own:=by
 have X:=H.hold.inv.own 0 f15 R.box.m15;let j:=((TR.setIfInBounds 69<|.pointer<|U f15).setIfInBounds 70<|.chan<|U p').setIfInBounds 71<|TR.getD 12 ak;obtain⟨s1,_,r1,F,rfl,Q1,d1,W⟩:=H.walk (n:=6) (O:=[]) (Rd:=[f15]) (Stop:=λg w=>g=G ((bh 41).at ⟨j,[]⟩<|.inRegion tK [3]::vv) cY) λg w h=>by rw[h];rfl (by rw[y];exact auF m.size ⟨ala m.size,m.t15⟩ R.box.oJ) (by simp) (by grind);have c:=R.A3 H<|Q1.A3 d1 W;have T:j.size=87:=by simp[j,m.size]
 have P:xG j TR:=asK _ _ _;have n:∀z x,TR[z]?=U x->z<69->z≠12->z≠13->j[z]?=U x:=λz x h I h2 h3=>(P z h2 h3<|.inl I).trans h;obtain⟨k3,hk3⟩:=c.Bc;obtain⟨k4,B⟩:=c.zN;obtain⟨k2,N⟩:=c.qG;obtain⟨t2,gj,k,r2,H2,Q,M,S,J,z2,D,E⟩:=F.send (n:=41) (kh:=k4) (j:=jt) (rj:=wk bw d2 d3 p' q' bt) (rh:=JJ cY j e8 e9 f14 f15 x1 y1 x2 y2 p' q' p q) (x:=TR.getD 12 ak) (z:=.tuple #[]) hl rfl (λw1=>by rw[y];exact auE ⟨by show((TR.setIfInBounds 69 _).setIfInBounds 70 _|>.setIfInBounds 71 _)[70]?=_;rw[l<|by decide];exact kg<|by grind,by grind⟩ w1) c.pair.oh c.pair.two c.lt (by rw[y,auD];exact asT T ⟨n 14 _ m.t14 (by decide) (by decide)<|by decide,n 15 _ m.t15 (by decide) (by decide)<|by decide⟩ c.box) (by decide) B (λe=>c.pair.Dd e.symm) (λi Q0 hi hr=>by
   rcases c.pair.F0 hr hi with⟨_,rfl⟩|⟨_,rfl⟩;.exact c.pair.LJ
   .exact c.pair.Dd)<|c.pair.aFt F.hold.gd.cast (F.XT c.box.m8 N)<|F.XT c.box.m8 B;refine arJ (C:=uR bw d2 d3 p' q' bt) y c.pair.oh Q H2 λt3 d u r3 L f d3' O A o hF=>?_;rw[y]at*;refine⟨t3,j,d,u,(r1.trans r2).trans r3,L,T,P,f.role.trans<|M.trans<|by rw[Q1.role],f.md.trans<|S.trans c.md,⟨k,O.trans<|J.trans<|by rw[W];rfl⟩,f.size.trans<|z2.trans Q1.size,(Q1.left.trans Q1.cls D).trans (λb C=>(E b<|cB C Q1.left.size).trans<|Q1.cls b C) f.left,λb C=>?_,A,o,hF⟩;have I:=cB C Q1.left.size;exact(f.cls b<|cB I D.size).trans<|(E b I).trans<|Q1.cls b C
end
theorem Goes.weaken{P:bZ}{main:Bool}{R:ax->ax->Prop}{D:ax->ax->Array jq->Prop}{S S':aX->ax->Prop}(h:∀g w,S g w->S' g w):∀{n:Nat}{g:aX}{w:ax},cM P main R D S n g w->cM P main R D S' n g w
 |0,g,w,k=>λb r=>h _ _<|k b r|n+1,g,w,k=>by
  rcases k with k|⟨e,c⟩;.exact ay λb r=>h _ _<|k b r
  .refine aB ⟨e,λb r=>?_⟩;have:=c b r;revert this;cases cj P main g b<;>simp only[GStep.goes,imp_self];exactλ⟨d,x⟩=>⟨d,Goes.weaken h x⟩
theorem wh.walk{K}{s}{a}{n}(H:wh K s a){O Rd}{Stop}(c:∀g w,Stop g w->g.status=dN)(f:cM K.P Z (L<|O++Rd) (DH O Rd) Stop n a s.v)(i:∀b∈O,b∈(s.D 0).own)(d:∀b∈Rd,b<s.v/\(s.cl b=.own 0\/s.cl b=.eV)):∃t e,s.runs K.P t/\wh K t e/\Stop e t.v/\Mc O s t:=H.walk_to O Rd i d ⟨n,Goes.weaken (λg w j=>⟨c g w j,λt l r h k=>⟨t,g,r,h,by grind,k⟩⟩) f⟩
def gT(T:Array az)(l:List<|Nat×az):Array az:=l.foldl (λT x=>T.setIfInBounds x.1 x.2) T
theorem JE:∀(a:List<|Nat×az)(T:Array az){z:Nat},(∀x∈a,x.1≠z)->(gT T a)[z]?=T[z]?|[],T,z,_=>rfl|x::a,T,z,h=>by show(gT (T.setIfInBounds x.1 x.2) a)[z]?=_;rw[JE a _ λy b=>h y<|vh _ b,l<|h x<|List.mem_cons_self ..]
theorem JD:∀(l:List<|Nat×az)(T:Array az),(gT T l).size=T.size|[],T=>rfl|x::l,T=>(JD l _).trans<|vj ..
def iO:List<|Nat×az:=[(44,cx ai),(45,cx ai),(46,ak),(47,ak),(48,ak),(49,ak),(50,ak),(51,ak),(52,ak),(53,ak),(54,ak),(55,ak),(56,ak),(57,ak),(58,ak),(59,ak),(60,ak),(61,ak),(62,cx ai)]
theorem aaK{z}(h:z<44\/62<z):∀x∈iO,x.1≠z:=by
 intro x b e;have:∀y∈iO,44<=y.1/\y.1<=62:=by decide
 grind
theorem Gn{T}{l}{z}{v}(j)(a:l[j]?=(z,v))(g:∀x∈l.drop<|j+1,x.1≠z)(c:z<T.size):(gT T l)[z]?=U v:=by
 obtain⟨d,f⟩:=List.getElem?_eq_some_iff.1 a;have e:l=l.take j++(z,v)::l.drop (j+1):=by grind[List.drop_eq_getElem_cons,List.take_append_drop]
 rw[e];have b:gT T (l.take j++(z,v)::l.drop (j+1))=gT ((gT T<|l.take j).setIfInBounds z v) (l.drop<|j+1):=by grind[gT]
 grind[JE,Array.getElem?_setIfInBounds_self_of_lt,JD]
theorem auu(T)(l)(z)(v):(gT T l).setIfInBounds z v=gT T (l++[(z,v)]):=by grind[gT]
theorem abF{T}{t:Nat}{x}(h:T[t]?=U x):dW ⟨T,[]⟩ (cy t)=x:=getD_some h
def ac0(i j:Nat)(b:Bool)(t:Nat):Prop:=∃o,ik[i]?=U o/\o.guard=U (j,b)/\o.dst=U t
theorem sU{i j:Nat}{b}{t:Nat}(h:(ik[i]?.map λo=>(o.guard,o.dst))=(U (j,b),U t)):ac0 i j b t:=by cases a:ik[i]? with|none=>grind|some o=>rw[a]at h;simp only[ee,dX,Ez]at h;exact⟨o,a,h.1,h.2⟩
section
variable {P:bZ} {main:Bool} {R:ax->ax->Prop} {D:ax->ax->Array jq->Prop} {Stop:aX->ax->Prop} {n:Nat} {b:aZ} {k:List eY} {cs:List aZ} {w:ax} {T:Array az} {rest:List Nat}
theorem asQ{i j}{g}{t u:Nat}{v}(h:ac0 i j g t)(q:(ik[j]?.bind (·.dst))=u)(s:T[u]?=U v)(r:v≠g)(d:∀w,D w w #[])(e:∀a,R w a->cM P main R D Stop n (G (b.at ⟨T.setIfInBounds t ak,[]⟩<|aT ik rest::k) cs) a):cM P main R D Stop (n+1) (G (b.at ⟨T,[]⟩<|aT ik (i::rest)::k) cs) w:=by
 obtain⟨o,l,p,m⟩:=h;refine Td rfl λa f=>?_;have c:eW o (dZ ik T)=ai:=by unfold eW;rw[p];unfold dZ;grind
 rw[Wb l c];simp only[eH,m];exact⟨d _,e a f⟩
theorem ahv{i:Nat}{x}{t:Nat}(h:(ik[i]?.map λo=>(o.op,o.guard,o.dst))=U (.move x,V,U t))(j:b.kind≠.early)(e:∀w,D w w #[])(f:∀a,R w a->cM P main R D Stop n (G (b.at ⟨T.setIfInBounds t<|dW ⟨T,[]⟩ x,[]⟩<|aT ik rest::k) cs) a):cM P main R D Stop (n+1) (G (b.at ⟨T,[]⟩<|aT ik (i::rest)::k) cs) w:=by cases d:ik[i]? with|none=>grind|some o=>
  rw[d]at h;simp only[ee,dX,Ez]at h;obtain⟨c,p,m⟩:=h;refine Td rfl λa g=>?_;have l:(cS (dW ⟨T,[]⟩) o).events P a #[]=#[]:=by unfold cS;simp only[c];rfl
  rw[rZ d (by unfold eW;rw[p]) j<|by unfold cS;simp only[c];rfl,oW l];simp only[eH,m];exact⟨e _,f a g⟩
theorem av6{i:Nat}{c x y}{r}{t:Nat}(h:(ik[i]?.map λo=>(o.op,o.guard,o.dst))=U (.pick c x y,V,U t))(f:dW ⟨T,[]⟩ c=cx r)(m:b.kind≠.early)(g:∀w,D w w #[])(j:∀a,R w a->cM P main R D Stop n (G (b.at ⟨T.setIfInBounds t<|if r then dW ⟨T,[]⟩ x else dW ⟨T,[]⟩ y,[]⟩<|aT ik rest::k) cs) a):cM P main R D Stop (n+1) (G (b.at ⟨T,[]⟩<|aT ik (i::rest)::k) cs) w:=by cases e:ik[i]? with|none=>grind|some o=>
  rw[e]at h;simp only[ee,dX,Ez]at h;obtain⟨d,s,q⟩:=h;refine Td rfl λa l=>?_;have p:(cS (dW ⟨T,[]⟩) o).events P a #[]=#[]:=by unfold cS;simp only[d,f];rfl
  rw[rZ e (by unfold eW;rw[s]) m<|by unfold cS;simp only[d,f];rfl,oW p];simp only[eH,q];exact⟨g _,j a l⟩
theorem Q7(T){m t}{v}(h:iO[m]?=(t,v)):(gT T<|iO.take m).setIfInBounds t v=gT T (iO.take<|m+1):=by grind[auu,List.take_add_one]
theorem rN{m j}{g}{t u:Nat}{v}(p)(r:T.size=87)(h:ac0 m j g t)(c:(ik[j]?.bind (·.dst))=u)(o:iO[m]?=(t,ak))(f:(iO.take m)[p]?=U (u,v))(i:∀x∈(iO.take m).drop<|p+1,x.1≠u)(s:u<87)(e:v≠cx g)(d:∀w,D w w #[])(l:∀a,R w a->cM P main R D Stop n (G (b.at ⟨gT T<|iO.take<|m+1,[]⟩<|aT ik rest::k) cs) a):cM P main R D Stop (n+1) (G (b.at ⟨gT T<|iO.take m,[]⟩<|aT ik (m::rest)::k) cs) w:=asQ h c (Gn p f i<|by grind) e d λa q=>by grind[Q7]
theorem ajY(c:T.size=87)(d:T[13]?=U (cx ai))(f:b.kind≠.early)(a:∀w,D w w #[])(i:∀w,Stop (G (b.at ⟨gT T iO,[]⟩<|aT ik []::k) cs) w):cM P main R D Stop 20 (G (b.at ⟨T,[]⟩<|aT ik [0,1,2,3,4,5,6,7,8,9,10,11,12,13,14,15,16,17,18]::k) cs) w:=by
 have g:dW ⟨T,[]⟩ (cy 13)=ai:=getD_some d;refine ahv (i:=0) (x:=cy 13) (t:=44) (by kernel_rfl) f a λ_ _=>?_;rw[g,show T.setIfInBounds 44 ai=gT T (iO.take 1)from rfl];refine ahv (i:=1) (x:=cy 44) (t:=45) (by kernel_rfl) f a λ_ _=>?_;rw[abF<|Gn (l:=iO.take 1) (z:=44) (v:=ai) 0 rfl (by decide)<|by grind,Q7 T (m:=1) (t:=45) (v:=ai) rfl];refine rN (m:=2) (j:=1) (g:=Z) (t:=46) (u:=45) (v:=ai) 1 c (sU<|by kernel_rfl) (by kernel_rfl) rfl rfl (by decide) (by decide) (by grind) a λ_ _=>?_;refine rN (m:=3) (j:=1) (g:=Z) (t:=47) (u:=45) (v:=ai) 1 c (sU<|by kernel_rfl) (by kernel_rfl) rfl rfl (by decide) (by decide) (by grind) a λ_ _=>?_;refine rN (m:=4) (j:=1) (g:=Z) (t:=48) (u:=45) (v:=ai) 1 c (sU<|by kernel_rfl) (by kernel_rfl) rfl rfl (by decide) (by decide) (by grind) a λ_ _=>?_;refine rN (m:=5) (j:=1) (g:=Z) (t:=49) (u:=45) (v:=ai) 1 c (sU<|by kernel_rfl) (by kernel_rfl) rfl rfl (by decide) (by decide) (by grind) a λ_ _=>?_;refine rN (m:=6) (j:=5) (g:=ai) (t:=50) (u:=49) (v:=ak) 5 c (sU<|by kernel_rfl) (by kernel_rfl) rfl rfl (by decide) (by decide) (by simp[ak]) a λ_ _=>?_;refine rN (m:=7) (j:=5) (g:=ai) (t:=51) (u:=49) (v:=ak) 5 c (sU<|by kernel_rfl) (by kernel_rfl) rfl rfl (by decide) (by decide) (by simp[ak]) a λ_ _=>?_;refine rN (m:=8) (j:=5) (g:=ai) (t:=52) (u:=49) (v:=ak) 5 c (sU<|by kernel_rfl) (by kernel_rfl) rfl rfl (by decide) (by decide) (by simp[ak]) a λ_ _=>?_;refine rN (m:=9) (j:=5) (g:=ai) (t:=53) (u:=49) (v:=ak) 5 c (sU<|by kernel_rfl) (by kernel_rfl) rfl rfl (by decide) (by decide) (by simp[ak]) a λ_ _=>?_;refine rN (m:=10) (j:=1) (g:=Z) (t:=54) (u:=45) (v:=ai) 1 c (sU<|by kernel_rfl) (by kernel_rfl) rfl rfl (by decide) (by decide) (by grind) a λ_ _=>?_;refine rN (m:=11) (j:=1) (g:=Z) (t:=55) (u:=45) (v:=ai) 1 c (sU<|by kernel_rfl) (by kernel_rfl) rfl rfl (by decide) (by decide) (by grind) a λ_ _=>?_;refine rN (m:=12) (j:=11) (g:=ai) (t:=56) (u:=55) (v:=ak) 11 c (sU<|by kernel_rfl) (by kernel_rfl) rfl rfl (by decide) (by decide) (by simp[ak]) a λ_ _=>?_;refine rN (m:=13) (j:=11) (g:=ai) (t:=57) (u:=55) (v:=ak) 11 c (sU<|by kernel_rfl) (by kernel_rfl) rfl rfl (by decide) (by decide) (by simp[ak]) a λ_ _=>?_;refine rN (m:=14) (j:=11) (g:=ai) (t:=58) (u:=55) (v:=ak) 11 c (sU<|by kernel_rfl) (by kernel_rfl) rfl rfl (by decide) (by decide) (by simp[ak]) a λ_ _=>?_;refine rN (m:=15) (j:=11) (g:=ai) (t:=59) (u:=55) (v:=ak) 11 c (sU<|by kernel_rfl) (by kernel_rfl) rfl rfl (by decide) (by decide) (by simp[ak]) a λ_ _=>?_;refine rN (m:=16) (j:=11) (g:=ai) (t:=60) (u:=55) (v:=ak) 11 c (sU<|by kernel_rfl) (by kernel_rfl) rfl rfl (by decide) (by decide) (by simp[ak]) a λ_ _=>?_;refine rN (m:=17) (j:=1) (g:=Z) (t:=61) (u:=45) (v:=ai) 1 c (sU<|by kernel_rfl) (by kernel_rfl) rfl rfl (by decide) (by decide) (by grind) a λ_ _=>?_;refine av6 (i:=18) (c:=cy 45) (x:=cy 61) (y:=gO ai) (r:=ai) (t:=62) (by kernel_rfl) (abF<|Gn (l:=iO.take 18) (z:=45) (v:=ai) 1 rfl (by decide)<|by grind) f a λ_ _=>?_;have e:(gT T<|iO.take 18).setIfInBounds 62 (if ai=Z then dW ⟨gT T<|iO.take 18,[]⟩ (cy 61)else dW ⟨gT T<|iO.take 18,[]⟩<|gO ai)=gT T iO:=by rw[if_neg<|by decide];have h:=Q7 T (m:=18) (t:=62) (v:=ai) rfl;rw[Zr (by decide:iO.length<=18+1)]at h;exact h
 grind[Goes.stop]
end
section
variable {C:List aZ} {fs:Array dY} {T:Array az} {w:ax}
theorem aBZ(d:T.size=87)(c:T[13]?=U (cx ai)):cM (J aD fs) Z i uL (λg w=>g=G ((bh 41).at ⟨gT T iO,[]⟩<|aT ik []::Ch) C) 30 (G ((bh 41).at ⟨T,[]⟩<|bF ot::jU) C) w:=by have b:=trivial;rw[eL];refine kK (n:=2) ?_;u_c I eC b;u_in eC b;rw[ua,Ql];simp only[eH];refine⟨by u_nil,?_⟩;refine y λ_ a=>?_;replace b:=eC b a;exact aix (ajY d c (by k_ne) (λw=>i.refl w) λ_=>rfl)<|by decide
theorem aBY(d:T.size=87)(c:T[13]?=U (cx ai)):cM aD Z (L<|[]++[]) (DH [] []) (λg w=>g=G ((bh 41).at ⟨gT T iO,[]⟩<|aT ik []::GY) C) 30 (G ((bh 41).at ⟨T,[]⟩<|bF lD::oy) C) w:=by have b:=trivial;rw[eR];refine kK (n:=3) ?_;u_c I A b;u_c I A b;u_in A b;rw[ua,Ql];simp only[eH];refine⟨by u_nil,?_⟩;refine y λ_ a=>?_;replace b:=A b a;exact aix (ajY d c (by k_ne) λw=>dh_none<|by simp λ_=>rfl)<|by decide
theorem ajZ(a:T.size=87):dW ⟨gT T iO,[]⟩ (cy 62)=ai:=by
 have e:gT T iO=(gT T<|iO.take 18).setIfInBounds 62 ai:=by have h:=Q7 T (m:=18) (t:=62) (v:=ai) rfl;rw[Zr (by decide:iO.length<=18+1)]at h;grind
 grind[abF,Array.getElem?_setIfInBounds_self_of_lt,JD]
end
structure Fin(K:fK)(fs:Array dY)(I:H)(Done:aX->ax->Prop)(B cY:List aZ)(s0:St)(iT:Nat->Nat)(g0:aX)(w0:ax)(e8 e9 bw x1 y1 x2 y2:Nat)(ρ:Nat->Nat)(w:ax)(TL TR:Array az)(s:St):Prop where
 Gk:wh K s (G ((bh 41).at ⟨TR,[]⟩ [bF<|cV 10]) cY)term:Term (J K.P fs) Done (G ((bh 41).at ⟨TL,[]⟩ [bF vP]) B) w
 eV:fM ρ I K.P s.cl w s.v
 six:RV ρ I w.heap.size (TL.getD 6 ak) (TR.getD 6 ak)seven:RV ρ I w.heap.size (TL.getD 7 ak) (TR.getD 7 ak)sL:TL.size=87
 sR:TR.size=87
 flag:gw 1 w
 c8:s.v.heap[e8]?=U (ends (U x1)<|U y1)c9:s.v.heap[e9]?=U (ends (U x2)<|U y2)m8:e8∈(s.D 0).own
 m9:e9∈(s.D 0).own
 t8:TR[8]?=U (aF<|U ⟨e8,0,V⟩)t9:TR[9]?=U (aF<|U ⟨e9,0,V⟩)t10:TR[10]?=U (aF<|U ⟨bw,0,V⟩)pair:∃i1 i2 r1 r2,kV s.role i1 i2 r1 r2/\r1.aO.c=x1/\r2.aO.c=x2/\i1<s.gs.size/\i2<s.gs.size/\(∃k,s.ch x1=U ⟨V,ai,k⟩)/\(∃k,s.ch x2=U ⟨V,ai,k⟩)/\((s.D i1).stage=9->∃k,s.ch r1.out=U ⟨V,ai,k⟩)/\((s.D i2).stage=9->∃k,s.ch r2.out=U ⟨V,ai,k⟩)md:s.md=.opn 0
 since:Since K fs I Done s0 iT g0 w0 s ρ (G ((bh 41).at ⟨TL,[]⟩ [bF vP]) B) w
section
variable {K:fK} {bw e8 e9 f14 f15 x1 y1 x2 y2 jf jt:Nat} {bf bt:eF} {p q p' q' c2 c3 d2 d3:Nat} {s t:St} {a:aX}
variable {fs:Array dY} {I:H} {nm:String->Bool} {Done:aX->ax->Prop} {s0:St} {iT ρ eK:Nat->Nat} {g0 g g':aX} {w0 w w':ax}
variable {B cY:List aZ} {kL kR Tm NN:List eY} {lf lt:eF} {TL TR:Array az}
theorem Since.trans{d}{c}{i}{w1}(a:Since K fs I Done s0 iT g0 w0 s ρ g w)(b:Since K fs I Done s ρ g w d c i w1):Since K fs I Done s0 iT g0 w0 d c i w1:=⟨a.runs.trans b.runs,λz h=>(a.LU z h).trans<|b.LU z<|cB h a.uW,bC a.uW b.uW,λz h f e=>(b.sV z (cB h a.uW) f e).trans<|a.sV z h f e,b.back.trans a.back,a.out.trans b.out,b.size.trans a.size⟩
theorem nQ.RP{c}{b}{d}{w1}(a:Since K fs I Done s0 iT g0 w0 c b d w1)(X:nQ K fs I Done B cY c b d w1 kL kR e8 e9 bw f14 f15 x1 y1 x2 y2 jf jt lf lt bf bt p q p' q' c2 c3 d2 d3 ρ w TL TR s):nQ K fs I Done B cY s0 iT g0 w0 kL kR e8 e9 bw f14 f15 x1 y1 x2 y2 jf jt lf lt bf bt p q p' q' c2 c3 d2 d3 ρ w TL TR s:=⟨X.ok,X.term,X.eV,X.agree,X.sL,X.flag,X.Nn,X.Kb,X.Gv,X.Eh,X.ef,X.et,X.rt,X.rs,a.trans X.since⟩
theorem nQ.aFO(X:nQ K fs I Done B cY s0 iT g0 w0 kL kR e8 e9 bw f14 f15 x1 y1 x2 y2 jf jt lf lt bf bt p q p' q' c2 c3 d2 d3 ρ w TL TR s):nQ K fs I Done B cY s ρ (G ((bh 41).at ⟨TL,[]⟩ kL) B) w kL kR e8 e9 bw f14 f15 x1 y1 x2 y2 jf jt lf lt bf bt p q p' q' c2 c3 d2 d3 ρ w TL TR s:=⟨X.ok,X.term,X.eV,X.agree,X.sL,X.flag,X.Nn,X.Kb,X.Gv,X.Eh,X.ef,X.et,X.rt,X.rs,.refl _ _ _ _⟩
theorem nQ.fin(X:nQ K fs I Done B cY s0 iT g0 w0 [bF vP] [bF<|cV 10] e8 e9 bw f14 f15 x1 y1 x2 y2 jf jt lf lt bf bt p q p' q' c2 c3 d2 d3 ρ w TL TR s):Fin K fs I Done B cY s0 iT g0 w0 e8 e9 bw x1 y1 x2 y2 ρ w TL TR s:=by
 refine⟨X.ok.Gk,X.term,X.eV,X.agree 6<|by decide,X.agree 7<|by decide,X.sL,X.rt.size,X.flag,X.rs.box.c8,X.rs.box.c9,X.rs.box.m8,X.rs.box.m9,X.rt.t8,X.rt.t9,X.rt.t10,?_,X.rs.md,X.since⟩;rcases X.rs.par with⟨b,e,c,d⟩|⟨b,e,c,d⟩;.exact⟨jf,jt,_,_,X.rs.pair,b,c,X.rs.lf,X.rs.lt,by rw[<-b];exact X.rs.pD,by rw[<-c];exact X.rs.Bc,λ_=>X.rs.qG,λ_=>X.rs.zN⟩
 .exact⟨jt,jf,_,_,X.rs.pair.swap,c,b,X.rs.lt,X.rs.lf,by rw[<-c];exact X.rs.Bc,by rw[<-b];exact X.rs.pD,λ_=>X.rs.zN,λ_=>X.rs.qG⟩
def tC(TL:Array az)(x n y b t15 t14:az):Array az:=gT TL [(69,x),(70,n),(12,y),(13,b),(72,t15),(73,t14),(14,t15),(15,t14)]
theorem adY{x n y b t15 t14}{z}(h:z∈rK)(i:z≠12)(f:z≠13):(tC TL x n y b t15 t14)[z]?=TL[z]?:=by
 unfold tC;refine JE _ _ λv d e=>?_;have j:∀z∈rK,z≠69/\z≠70/\z≠72/\z≠73/\z≠14/\z≠15:=by decide
 have:=j z h;simp only[di,dJ,dQ]at d;grind
theorem aq8{x n y b t15 t14}(d:TL.size=87):(tC TL x n y b t15 t14)[12]?=y/\(tC TL x n y b t15 t14)[13]?=b/\(tC TL x n y b t15 t14)[14]?=t15/\(tC TL x n y b t15 t14)[15]?=t14:=by
 have c:∀z,z<87->z<TL.size:=λz h=>by grind
 unfold tC;exact⟨Gn (v:=y) 2 rfl (by simp)<|c _<|by decide,Gn (v:=b) 3 rfl (by simp)<|c _<|by decide,Gn (v:=t15) 6 rfl (by simp)<|c _<|by decide,Gn (v:=t14) 7 rfl (by simp)<|c _<|by decide⟩
theorem adZ{x n y b t15 t14}:(((((((TL.setIfInBounds 69 x).setIfInBounds 70 n).setIfInBounds 12 y).setIfInBounds 13 b).setIfInBounds 72 t15).setIfInBounds 73 t14).setIfInBounds 14 t15).setIfInBounds 15 t14=tC TL x n y b t15 t14:=by unfold tC gT;simp only[Ay,List.foldl_nil]
theorem Jt{T d}(h:xG T d){z}(f:z∈rK)(b:z≠12)(c:z≠13):T[z]?=d[z]?:=by
 have e:∀z∈rK,z<69:=by decide
 exact h z b c<|ay<|e z f
theorem ays(m:nt (J aD fs) Done)(P:TL.size=87)(Q1:TL[14]?=U (aF lf))(k:TL[15]?=U (aF lt)){d}{n c}(D:Term (J aD fs) Done (G ((bh 41).at ⟨TL.setIfInBounds 69<|aC d n c,[]⟩<|aT om [1]::sw) B) w):∃w',i w w'/\Term (J aD fs) Done (G ((bh 41).at ⟨tC TL (aC d n c) d.isNone (if d.isNone then aC V 0 0 else aC d n c) (!d.isNone) (aF lt)<|aF lf,[]⟩<|bF ot::jU) B) w'/\me (J aD fs) Done (G ((bh 41).at ⟨tC TL (aC d n c) d.isNone (if d.isNone then aC V 0 0 else aC d n c) (!d.isNone) (aF lt)<|aF lf,[]⟩<|bF ot::jU) B,w') (G ((bh 41).at ⟨TL.setIfInBounds 69<|aC d n c,[]⟩<|aT om [1]::sw) B,w):=by obtain⟨_,F,rfl,z,y,C⟩:=Term.goes m i.refl i.trans (λ_ _ h=>h) (λ_ _ _ h=>h) (tailA<|kg<|by grind) D;have f:∀b,dW ⟨(TL.setIfInBounds 69<|aC d n c).setIfInBounds 70 b,[]⟩ (cy 70)=b:=λb=>getD_some (kg<|by grind);cases d with|none=>obtain⟨_,E,rfl,o,r,x⟩:=Term.goes m i.refl i.trans (λ_ _ h=>h) (λ_ _ _ h=>h) (arT<|f Z) z;obtain⟨_,u,rfl,Q0,j,v⟩:=Term.goes m i.refl i.trans (λ_ _ h=>h) (λ_ _ _ h=>h) (aed (by simp[P]) (by rw[l<|by decide,l<|by decide,l<|by decide,l<|by decide];exact Q1)<|by rw[l<|by decide,l<|by decide,l<|by decide,l<|by decide];exact k) o;rw[adZ]at Q0 j;exact⟨u,(C.trans _ _ _ x).trans _ _ _ v,Q0,j.trans<|r.trans y⟩|some A=>
  have e:((TL.setIfInBounds 69<|aC A n c).setIfInBounds 70 ai)[69]?=U (aC A n c):=by grind
  obtain⟨_,E,rfl,o,r,x⟩:=Term.goes m i.refl i.trans (λ_ _ h=>h) (λ_ _ _ h=>h) (arS (f ai) e) z;obtain⟨_,u,rfl,Q0,j,v⟩:=Term.goes m i.refl i.trans (λ_ _ h=>h) (λ_ _ _ h=>h) (aed (by simp[P]) (by rw[l<|by decide,l<|by decide,l<|by decide,l<|by decide];exact Q1)<|by rw[l<|by decide,l<|by decide,l<|by decide,l<|by decide];exact k) o;rw[adZ]at Q0 j;exact⟨u,(C.trans _ _ _ x).trans _ _ _ v,Q0,j.trans<|r.trans y⟩
theorem ayx(d:nt (J aD fs) Done){T}(c:T.size=87)(b:T[13]?=U (cx ai))(v:Term (J aD fs) Done (G ((bh 41).at ⟨T,[]⟩<|bF ot::jU) B) w):∃w',i w w'/\Term (J aD fs) Done (G ((bh 41).at ⟨gT T iO,[]⟩ [bF vP]) B) w'/\me (J aD fs) Done (G ((bh 41).at ⟨gT T iO,[]⟩ [bF vP]) B,w') (G ((bh 41).at ⟨T,[]⟩<|bF ot::jU) B,w):=by obtain⟨_,o,rfl,k,f,l⟩:=Term.goes d i.refl i.trans (λ_ _ h=>h) (λ_ _ _ h=>h) (aBZ c b) v;obtain⟨_,m,rfl,j,e,n⟩:=Term.goes d i.refl i.trans (λ_ _ h=>h) (λ_ _ _ h=>h) (JS<|ajZ c) k;exact⟨m,l.trans _ _ _ n,j,e.trans f⟩
theorem aq9(hP:K.P=aD)(sO:K.L=dL)(hl:K.live=Z)(sM:K.Wg=bw)(W:FQ fs I nm)(hE:nt (J K.P fs) Done)(jo:∀g w,Done g w->g.callers=[])(iv:B≠[]){Q:Prop}(X:nQ K fs I Done B cY s0 iT g0 w0 (aT om [0,1]::sw) (aT tK [0,1,2,3]::vv) e8 e9 bw f14 f15 x1 y1 x2 y2 jf jt lf lt bf bt p q p' q' c2 c3 d2 d3 ρ w TL TR s)(aCx:∀eK w' PY Vj t,Fin K fs I Done B cY s0 iT g0 w0 e8 e9 bw x1 y1 x2 y2 eK w' PY Vj t->Q)(aCz:∀eK w' PY Vj t,nQ K fs I Done B cY s0 iT g0 w0 (bF ot::jU) (bF lD::oy) e8 e9 bw f14 f15 x1 y1 x2 y2 jt jf lt lf bt bf p' q' p q d2 d3 c2 c3 eK w' PY Vj t->uz (qN (J K.P fs) Done) (G ((bh 41).at ⟨PY,[]⟩<|bF ot::jU) B,w') (G ((bh 41).at ⟨TL,[]⟩<|aT om [0,1]::sw) B,w)->Q):Q:=by
 obtain⟨P,L,y,n0,o,live⟩:=K;simp only at hP sO hl sM;subst hP sO hl sM;obtain⟨t,T4,T58,bx,r1,H1,z4,s4,ro,iq,⟨k,pD⟩,Ra,L1,ie,akv,ajj,aCL⟩:=avi rfl rfl rfl rfl X.ok X.rt X.rs;have QW:=X.rs.pair;obtain⟨_,w1,rfl,t1,b1,l1⟩:=Term.goes hE i.refl i.trans (λ_ _ h=>h) (λ_ _ _ h=>h) (ayE (C:=B) (fs:=fs) W.f59 ⟨X.Kb,ala X.sL⟩) X.term;have has:bD ρ I w1 #[aF lt,TL.getD 12 ak] #[aF bt,TR.getD 12 ak]:=by
  have R:=X.agree 12 (by decide);have ga:=l1.heap;refine⟨λv hv=>?_,?_⟩
  ·simp only[fQ,di,dJ,dQ]at hv;rw[ga];rcases hv with rfl|rfl;·simp only[S,Es];exact X.Eh
   ·exact R.1
  ·rw[R.2,X.et];simp[F]
 obtain⟨N,eK,w2,x,x',ag,uW,sV,aDs,hx,Wz,tg,r2,u,H2,M2⟩:=phase (K:=⟨aD,dL,y,n0,o,Z⟩) rfl W hE jo W.t59 ⟨_,_,func59,rfl⟩ (bL:=(bh 41).at ⟨TL,[]⟩<|aT om [0,1]::sw) (B:=B) iv has H1 t1 ((X.eV.left L1 ie).re (K:=⟨aD,dL,y,n0,o,Z⟩) l1)<|X.flag.tape l1;have CE:uB ((bh 41).at ⟨TL,[]⟩<|aT om [0,1]::sw) x=(bh 41).at ⟨TL.setIfInBounds 69 x,[]⟩ (aT om [1]::sw):=by rw[Kw];rfl
 rw[CE]at Wz tg;obtain⟨pp,n,c,rfl⟩:=aru (v:=x) hE (λfr w hd=>iv<|jo _ _ hd) (kg<|by rw[X.sL];decide) Wz;obtain⟨w3,l3,t3',b3⟩:=ays hE X.sL X.Nn X.Kb Wz;have ZR:x'=aC (pp.map<|dA eK) n c:=by rw[hx.2];simp[F]
 subst ZR;have Um:(N.v.heap[bx]?=U (aH #[dc p',dc q'] 114)∧N.v.heap[d3]?=U (aH #[jy bt] 126))∧bx∈(N.D jt).own∧d3∈(N.D jt).own:=by obtain⟨⟨f1,f2⟩,f3,f4⟩:=aCL;refine⟨⟨(u.own bx (H1.hold.inv.own jt bx f3).2 (H1.hold.inv.own jt bx f3).1).trans f1,(u.own d3 (H1.hold.inv.own jt d3 f4).2 (H1.hold.inv.own jt d3 f4).1).trans f2⟩,?_,?_⟩<;>rw[u.D]<;>assumption
 have DY:=u.role.trans ro;have wL:=u.md.trans iq;have qG:=u.ch.trans pD;have Q9:=u.size.trans Ra;have XN:kV N.role jf jt (wk y c2 c3 p q bf)<|wk y d2 d3 p' q' bt:=by rw[DY];exact QW.ao2 _
 have U2:N.ch p'=U ⟨V,ai,k⟩:=by rw[qG,da]
 have chn:∀z,z≠p'->N.ch z=s.ch z:=λz l=>by rw[qG,cX s.ch _ l]
 have amO:∃k,N.ch p=U ⟨V,ai,k⟩:=by rw[chn p QW.cc];exact X.rs.pD
 have amN:∃k,N.ch q=U ⟨V,ai,k⟩:=by rw[chn q λe=>QW.LI e.symm];exact X.rs.qG
 have aFi:∃k,N.ch q'=U ⟨V,ai,k⟩:=by rw[chn q' λe=>QW.Dd e.symm];exact X.rs.zN
 have XE:N.role 0=JJ cY T4 e8 e9 f14 f15 x1 y1 x2 y2 p' q' p q:=by rw[DY,da]
 have S2:=((X.since.tape b1 l1).right r1 (.of L1 ie) Ra).both ag uW sV (aB tg) r2 u.still u.size;have tg2:uz (qN (J aD fs) Done) (G ((bh 41).at ⟨TL.setIfInBounds 69<|aC pp n c,[]⟩<|aT om [1]::sw) B,w2) (G ((bh 41).at ⟨TL,[]⟩<|aT om [0,1]::sw) B,w):=by
  rcases b1 with e|b1;·grind
  ·exact tg.trans b1
 have Ww:=me.wF b3 tg2;have S3:=S2.tape b3 l3;have WA:w.heap.size<=w3:=by rw[l3.heap];rw[l1.heap]at uW;exact uW
 have LV:=λz l=>ag z (by rw[l1.heap];exact l);have M3:fM eK I aD N.cl w3 N.v:=M2.re (K:=⟨aD,dL,y,n0,o,Z⟩) l3;have alu:=aDs.tape l3;have Up:=X.agree.mono LV WA;obtain⟨g12,g13,g14,g15⟩:=aq8 (TL:=TL) (x:=aC pp n c) (n:=pp.isNone) (y:=if pp.isNone then aC V 0 0 else aC pp n c) (b:=!pp.isNone) (t15:=aF<|U lt) (t14:=aF<|U lf) X.sL
 have WB:(tC TL (aC pp n c) pp.isNone (if pp.isNone then aC V 0 0 else aC pp n c) (!pp.isNone) (aF lt)<|aF lf).size=87:=(JD _ _).trans X.sL;cases pp with|none=>
  refine arI rfl QW.oh akv ajj Um H2 λQ1 g4 r4 H4 m D4 E lI hC4=>?_;have MX:kV Q1.role jf jt (wk y c2 c3 p q bf)<|wk y d2 d3 p' q' bt:=by rw[m.role];exact XN
  obtain⟨kq,hkq⟩:=aFi;refine H4.auk (K:=⟨aD,dL,y,n0,o,Z⟩) rfl MX.swap (rm:=JJ cY T4 e8 e9 f14 f15 x1 y1 x2 y2 p' q' p q) (by rw[m.role];exact XE) rfl lI hC4 (k:=kq) (k1:=k) (by rw[E];exact hkq) (by rw[E];exact U2) (λe=>by obtain⟨m,hk4⟩:=X.rs.zN;exact X.ok.XT X.rs.box.m8 hk4 e) λt5 g5 r5 H5 hm5 yJ Na T L5 C9 aFf aFh WI awv=>?_;obtain⟨T5,rfl,VF,QX,h76,B5⟩:=hm5;obtain⟨t6,_,r6,H6,⟨T6,rfl,f,Q0,R,h13⟩,M⟩:=H5.walk (n:=20) (O:=[]) (Rd:=[]) (Stop:=λg w=>∃D,g=G ((bh 41).at ⟨D,[]⟩<|bF lD::oy) cY∧D.size=87∧xG D T5∧D[12]?=U (aC V 0 0)∧D[13]?=U (cx ai)) λg w h=>by obtain⟨_,rfl,_⟩:=h;rfl (ang VF _) (by simp) (by simp);obtain⟨t7,_,r7,H7,rfl,k7⟩:=H6.walk (n:=30) (O:=[]) (Rd:=[]) (Stop:=λg w=>g=G ((bh 41).at ⟨gT T6 iO,[]⟩<|aT ik []::GY) cY) λg w h=>by rw[h];rfl (aBY f h13) (by simp) (by simp);obtain⟨t8,_,r8,H8,rfl,k8⟩:=H7.walk (n:=8) (O:=[]) (Rd:=[]) (Stop:=λg w=>g=G ((bh 41).at ⟨gT T6 iO,[]⟩ [bF<|cV 10]) cY) λg w h=>by rw[h];rfl (agH<|ajZ f) (by simp) (by simp);obtain⟨w4,l4,t4',b4⟩:=ayx hE WB g13 t3';have j:=(M.trans k7).trans k8;have Q2:∀z,z∈rK->z≠12->z≠13->z<44->(gT T6 iO)[z]?=TR[z]?:=λz l C QY h3=>by rw[JE _ _<|aaK<|ay h3,Jt Q0 l C QY,Jt QX l C QY,Jt s4 l C QY]
  have aAx:∀z,z∈rK->z≠12->z≠13->z<44->(gT (tC TL (aC V n c) (V:Option eF).isNone (if(V:Option eF).isNone then aC V 0 0 else aC V n c) (!(V:Option eF).isNone) (aF lt)<|aF lf) iO)[z]?=TL[z]?:=λz l C QY h3=>by rw[JE _ _<|aaK<|ay h3,adY l C QY]
  have hRV:∀z,z∈rK->z≠12->z≠13->z<44->RV eK I w4 ((gT (tC TL (aC V n c) (V:Option eF).isNone (if(V:Option eF).isNone then aC V 0 0 else aC V n c) (!(V:Option eF).isNone) (aF lt)<|aF lf) iO).getD z ak) ((gT T6 iO).getD z ak):=λz l C QY h3=>by have:=Up z l;rw[l4.heap];rw[iM,iM]at this⊢;rw[Q2 z l C QY h3,aAx z l C QY h3];grind
  have KD:∀z x,TR[z]?=U x->z=8∨z=9∨z=10->(gT T6 iO)[z]?=U x:=λz x h l=>by rw[JE _ _<|aaK<|by omega,Q0 z (by omega) (by omega)<|by omega,QX z (by omega) (by omega)<|by omega,s4 z (by omega) (by omega)<|by omega];exact h
  have aaj:=λb hb=>j.rest b (H5.hold.inv.own 0 b hb).2 (H5.hold.inv.own 0 b hb).1 (by simp);have A:=j.size.trans<|T.trans<|m.size.trans Q9;have aHy:=j.role.trans<|yJ.trans m.role;refine aCx eK w4 _ _ t8 ⟨H8,t4',(((M3.left m.left m.cls).left L5 C9).left j.left j.cls).re (K:=⟨aD,dL,y,n0,o,Z⟩) l4,hRV 6 (by decide) (by decide) (by decide)<|by decide,hRV 7 (by decide) (by decide) (by decide)<|by decide,(JD _ _).trans WB,(JD _ _).trans f,alu.tape l4,(aaj e8 B5.m8).trans B5.c8,(aaj e9 B5.m9).trans B5.c9,by rw[j.D0];exact B5.m8,by rw[j.D0];exact B5.m9,KD 8 _ X.rt.t8<|by simp,KD 9 _ X.rt.t9<|by simp,KD 10 _ X.rt.t10<|by simp,?_,j.md.trans<|Na.trans<|m.md.trans wL,?_⟩
  ·have pr8:kV t8.role jf jt (wk y c2 c3 p q bf)<|wk y d2 d3 p' q' bt:=by grind
   have Q3:kV t5.role jf jt (wk y c2 c3 p q bf)<|wk y d2 d3 p' q' bt:=by grind
   have a1:∃k,t8.ch p=U ⟨V,ai,k⟩:=by have C:t8.ch p=t5.ch p:=j.eZ jf _ Q3.one Q3.yO;have QY:t5.ch p=Q1.ch p:=aFh;rw[C,QY,E];exact amO
   have a2:∃k,t8.ch p'=U ⟨V,ai,k⟩:=by have C:t8.ch p'=t5.ch p':=j.eZ jt _ Q3.two Q3.oh;have QY:t5.ch p'=Q1.ch p':=aFf;rw[C,QY,E];exact⟨k,U2⟩
   have a3:(t8.D jf).stage=9->∃k,t8.ch q=U ⟨V,ai,k⟩:=λh9=>by obtain⟨C,QY⟩:=j.outs jf _ Q3.one Q3.yO h9;have Ur:t8.ch q=t5.ch q:=C;have h3:t5.ch q=Q1.ch q:=awv QY;rw[Ur,h3,E];exact amN
   have a4:(t8.D jt).stage=9->∃k,t8.ch q'=U ⟨V,ai,k⟩:=λh9=>absurd (j.outs jt _ Q3.two Q3.oh h9).2 WI;rcases X.rs.par with⟨e1,e2,e3,e4⟩|⟨e1,e2,e3,e4⟩;·exact⟨jf,jt,_,_,pr8,e1,e3,by rw[A];exact X.rs.lf,by rw[A];exact X.rs.lt,by rw[<-e1];exact a1,by rw[<-e3];exact a2,a3,a4⟩
   ·exact⟨jt,jf,_,_,pr8.swap,e3,e1,by rw[A];exact X.rs.lt,by rw[A];exact X.rs.lf,by rw[<-e3];exact a2,by rw[<-e1];exact a1,a4,a3⟩
  ·exact(((((S3.tape b4 l4).right r4 (.of m.left m.cls) m.size).right r5 (.of L5 C9) T).right r6 (.of M.left M.cls) M.size).right r7 (.of k7.left k7.cls) k7.size).right r8 (.of k8.left k8.cls) k8.size|some ad=>
  refine arH (C:=uR y d2 d3 p' q' bt) rfl QW.oh (b3:=d3) akv ajj Um H2 λQ1 g4 r4 H4 m D4 E aAI aAv aAy=>?_;have MX:kV Q1.role jf jt (wk y c2 c3 p q bf)<|wk y d2 d3 p' q' bt:=by rw[m.role];exact XN
  have rs4:Q1.role 0=JJ cY T4 e8 e9 f14 f15 x1 y1 x2 y2 p' q' p q:=by rw[m.role];exact XE
  have afy:bE Q1.role jt (wk y d2 d3 p' q' bt)=Q1.role:=by
   funext QZ;by_cases e:QZ=jt;·subst e;rw[da];exact MX.two.symm
   grind[upd_ne]
  obtain⟨t5,g5,k5,r5,H5,hm5,yJ,Na,Da,T,L5,C9⟩:=H4.send (K:=⟨aD,dL,y,n0,o,Z⟩) (n:=21) (kh:=k) (j:=0) (rj:=JJ cY T4 e8 e9 f14 f15 x1 y1 x2 y2 p' q' p q) (rh:=wk y d2 d3 p' q' bt) (x:=aC (U<|dA eK ad) n c) (z:=bQ #[]) rfl aAI (λw1=>by
    have e:(jt==0)=ai:=by simpa using QW.oh
    rw[e];exact aAv w1) (x6 QW.oh) rs4 H4.hold.inv.zero (by
    have e:(jt==0)=ai:=by simpa using QW.oh
    rw[e];exact aAy) (by decide) (by rw[E];exact U2) QW.Dd λQZ r hi hr=>by
    rcases MX.all QZ r hr with rfl|rfl|rfl;·rw[rs4]at hr;cases hr;exactλe=>QW.Dd e.symm
    ·rw[MX.one]at hr;cases hr;exact QW.cc
    grind (by rw[afy];exact H4.hold.gd.cast);rw[afy]at yJ;obtain⟨T5,rfl,VF,QX,h76,B5⟩:=hm5;obtain⟨t6,_,r6,H6,⟨T6,rfl,f,Q0,R,h13⟩,M,D6,c6⟩:=H5.walk (n:=20) (O:=[]) (Rd:=[]) (Stop:=λg w=>∃D:Array az,g=G ((bh 41).at ⟨D,[]⟩<|bF lD::oy) cY∧D.size=87∧xG D T5∧D[12]?=U (aC (U<|dA eK ad) n c)∧D[13]?=U (cx Z)) λg w h=>by obtain⟨_,rfl,_⟩:=h;rfl (ang VF _) (by simp) (by simp);have Q2:∀z,z∈rK->z≠12->z≠13->T6[z]?=TR[z]?:=λz l C QY=>by rw[Jt Q0 l C QY,Jt QX l C QY,Jt s4 l C QY]
  have DX:=M.role.trans<|yJ.trans m.role;have PR:∀z,z≠q'->t6.ch z=N.ch z:=λz l=>by rw[c6,Da];show bE Q1.ch q' _ z=_;rw[cX Q1.ch _ l,E]
  have Jm:=M.size.trans<|T.trans<|m.size.trans Q9;have hA6:lM eK I w3 rK (tC TL (aC ad n c) (U ad).isNone (if(U ad).isNone then aC V 0 0 else aC ad n c) (!(U ad).isNone) (aF lt)<|aF lf) T6:=by
   intro z l;by_cases z12:z=12;·subst z12;rw[getD_some g12,getD_some R];refine⟨?_,by simp[F]⟩;have:=hx.1;rw[l3.heap];exact this
   by_cases Mn:z=13;·subst Mn;rw[getD_some g13,getD_some h13];exact RV.plain rfl
   have:=Up z l;rw[iM,iM]at this⊢;rw[Q2 z l z12 Mn,adY l z12 Mn];grind
  refine aCz eK w3 _ T6 t6 ⟨H6,t3',((M3.left m.left m.cls).left L5 C9).left M.left M.cls,hA6,WB,alu,g14,g15,H.ey X.Eh WA,H.ey X.Gv WA,X.et.trans<|JN X.Eh LV,X.ef.trans<|JN X.Gv LV,X.rt.of f λz l=>by rw[Q0 z (by omega) (by omega)<|by omega,QX z (by omega) (by omega)<|by omega,s4 z (by omega) (by omega)<|by omega],⟨B5.keep λb hb=>M.rest b (H5.hold.inv.own 0 b hb).2 (H5.hold.inv.own 0 b hb).1<|by simp λb hb=>M.own b hb,by rw[DX];exact XN.swap,by rw[Jm];exact X.rs.lt,by rw[Jm];exact X.rs.lf,λr hr=>by rw[DX,XE]at hr;cases hr;rfl,by rw[PR p' λe=>QW.Dd e];exact⟨k,U2⟩,⟨k5,by rw[c6,Da];exact da _ _ _⟩,by rw[PR p λe=>QW.LJ e];exact amO,by rw[PR q λe=>QW.oo e];exact amN,M.md.trans<|Na.trans<|m.md.trans wL,X.rs.par.symm.imp (λ⟨a,b,c,d⟩=>⟨c,d,a,b⟩) λ⟨a,b,c,d⟩=>⟨c,d,a,b⟩⟩,((S3.right r4 (.of m.left m.cls) m.size).right r5 (.of L5 C9) T).right r6 (.of M.left M.cls) M.size⟩ Ww
end
variable{bw e8 e9 x1 y1 x2 y2:Nat}{I:H}{nm:String->Bool}{Done:aX->ax->Prop}{B cY:List aZ}
theorem Fin.RP{s0 e s}{c b ρ}{d g}{w0 w1 w}{TL f}(a:Since K fs I Done s0 c d w0 e b g w1)(X:Fin K fs I Done B cY e b g w1 e8 e9 bw x1 y1 x2 y2 ρ w TL f s):Fin K fs I Done B cY s0 c d w0 e8 e9 bw x1 y1 x2 y2 ρ w TL f s:=⟨X.Gk,X.term,X.eV,X.six,X.seven,X.sL,X.sR,X.flag,X.c8,X.c9,X.m8,X.m9,X.t8,X.t9,X.t10,X.pair,X.md,a.trans X.since⟩
theorem arK(E:K.P=aD)(l:K.L=dL)(hl:K.live=Z)(r:K.Wg=bw)(W:FQ fs I nm)(L:nt (J K.P fs) Done)(f:∀g w,Done g w->g.callers=[])(i:B≠[]){Q:Prop}{s0}{h}{x}{w0}(a:∀b o d c t,Fin K fs I Done B cY s0 h x w0 e8 e9 bw x1 y1 x2 y2 b o d c t->Q):∀(y),_root_.Acc (uz<|qN (J K.P fs) Done) y->∀{j e A Q2}{z D C S}{p q R H T M O N}{ρ}{w}{TL Q3}{s},y=(G ((bh 41).at ⟨TL,[]⟩<|bF ot::jU) B,w)->nQ K fs I Done B cY s0 h x w0 (bF ot::jU) (bF lD::oy) e8 e9 bw j e x1 y1 x2 y2 A Q2 z D C S p q R H T M O N ρ w TL Q3 s->Q:=by intro y n;induction n with|intro y _ ih=>
  intro j e A Q2 z D C S p q R H T M O N ρ w TL Q3 s Q1 X;refine aq7 E L (λfr w hd=>i<|f _ _ hd) W.flag X.aFO (λb o d c t k=>?_) λb o d c t k=>?_;.exact a _ _ _ _ _<|k.fin.RP X.since
  .refine aq9 E l hl r W L f i k (λu w2 m v P F=>a _ _ _ _ _<|F.RP X.since) λu w2 m v P Q0 tg=>?_;exact ih _ (by rw[Q1];exact me.of tg k.since.back) rfl<|Q0.RP X.since
end
section
open Go.Conc Go.RowKit Go.Conc.Lib Go.ConcR.Gen
open Go.ConcN (WgLive)
open Go.ConcN.Gen (WgLive.cell0 WgLive.cell1)
open Go.ConcR (KK WgAt stA smA wgBlock rd wr mk Bk)
variable{P:bZ}{L:WgLink}{Wg:Nat}{qH:aZ}{qJ:Act}{mh:Array dG}{qx:Nat}{qh:List Nat}{qo:List eY}{cs:List aZ}
set_option maxHeartbeats 8000000 in
theorem aoX(H:WgLib P L)(w:ax)(hF:jN L.tWg Wg w):anH P L Wg (PL L (λ_=>True) Wg (qH.at qJ<|aT mh (qx::qh)::qo) cs) (G ((bh L.wait).at ⟨#[aF<|U ⟨Wg,0,V⟩,ak,ak,ak,ak,ak,ak,ak,ak,ak,ak,ak,ak,ak,ak,ak,ak,ak,ak,ak,ak,ak,ak,ak,ak,ak,ak,ak,ak,ak,ak,ak,ak,ak,ak,ak,ak,ak,ak,ak,ak,ak,ak,ak,ak,ak,ak,ak,ak,ak,ak,ak,ak,ak,ak,ak,ak,ak,ak,ak,ak,ak,ak,ak,ak,ak,ak,ak,ak,ak,ak,ak,ak,ak,ak,ak,ak,ak,ak,ak,ak,ak,ak,ak],[]⟩ [bF<|body_wait L])<|qH.at qJ (aT mh (qx::qh)::qo)::cs) w:=by lib_facts;refine⟨3,dH ?_⟩;simp only[body_wait,waitFn,fW];u_c I E hF;u_cond Z E hF;u_reg E hF;refine y λw₁ h₁=>?_;replace hF:=E hF h₁;clear h₁;refine⟨rfl,_,stepG_mark0 .disable (by simp) rfl rfl (by k_ne) rfl H.f_disable (x_disable_n L) (x_disable_b L) (x_disable_x L)<|x_disable_f L,3,dH ?_⟩;walk_nrm;u_c N E hF;u_c EA E hF;u_c Te E hF;exact y λA h₂=>⟨_,rfl,by simp,by simp,trivial,E hF h₂⟩
end
section
open Go.Proofs Go.Conc Go.RowKit Go.Conc.Lib Go.ConcR.Gen
open Go.ConcN (upd upd_ne upd_same WgLive)
open Go.ConcR (KK WgAt stA smA wgBlock rd wr mk Bk)
def FL(Wg:Nat):Prop:=∀(qH:aZ)(qJ:Act)(mh:Array dG)(qx:Nat)(qh:List Nat)(qo:List eY)(cs:List aZ)(g:aX)(w:ax),PL dL (λ_=>True) Wg (qH.at qJ<|aT mh (qx::qh)::qo) cs g w->∃m,GQ aD dL Wg (VB aD dL Wg (PL dL (λ_=>True) Wg (qH.at qJ<|aT mh (qx::qh)::qo) cs) (G (qH.at (qJ.put (mh[qx]?.bind (·.dst))<|bQ #[])<|aT mh qh::qo) cs)) m g w
noncomputable def BU:Array dG:=eS<|cV 10
noncomputable def Eg:Array dG:=eS<|cV 11
noncomputable def Aq:Array dG:=eS<|cV 12
theorem U0{P}{main}{b:aZ}{T}{ds}{k}{cs}{ops}{i}{rest}{o}{t}{a}{c n}(q:ops[i]?=U o)(l:eW o (dZ ops T)=Z)(s:b.kind≠.early)(d:o.op=.call {callee:=.builtin .close,args:=#[cy t],argTypes:=a})(j:T[t]?=U (dc<|U c))(m:P.funcs[b.fn]?.any (·.norace)=ai){w}(h:w.heap[c]?=U (.chan 1 #[] ai n n ai)):cj P main (G (b.at ⟨T,ds⟩<|aT ops (i::rest)::k) cs) w=bV (G (b.at (dj ⟨T,ds⟩ o.dst<|bQ #[])<|aT ops rest::k) cs) (w.setChan c 1 #[] Z n n ai) (kS c):=by
 have r:(abV a o.type #[dc c]).run P w=aW (bQ #[]) (w.setChan c 1 #[] Z n n ai):=run_close_open a o.type h;have g:(abV a o.type #[dc c]).events P w #[]=kS c:=by rw[events_close_open a o.type h];simp[kS]
 have v:seen P b.fn (kS c)=kS c:=seen_eq m λe g f=>by simp only[kS,fQ,di,dJ,dQ]at g;grind
 have p:(cS (dW ⟨T,ds⟩) o).run P w=aW (gq<|bQ #[]) (w.setChan c 1 #[] Z n n ai):=by unfold cS;simp[d,go_sem,j,r]
 have u:(cS (dW ⟨T,ds⟩) o).events P w #[]=kS c:=by unfold cS;simp[d,go_sem,j,g]
 rw[rZ q l s p];unfold listed;grind
section
variable {K:fK} {C:List aZ} {T:Array az} {w:ax}
set_option maxHeartbeats 1000000 in
theorem ark{e8}{x1 S}(M:T.size=87)(c:T[8]?=U (.pointer e8))(a:w.heap[e8]?=(ends (U x1)<|U S)):cM aD Z (L<|[]++[e8]) (DH [] [e8]) (λg w=>g=G ((bh 41).at ⟨(T.setIfInBounds 80<|.pointer e8).setIfInBounds 81<|.chan x1,[]⟩<|.inRegion BU [2]::[.code<|cV 11]) C) 8 (G ((bh 41).at ⟨T,[]⟩ [.code<|cV 10]) C) w:=by
 obtain⟨v0,v1,v2,v3,v4,v5,v6,v7,v8,v9,v10,A,v12,mF,qc,J,qb,qa,W,mE,v20,Y,N,pZ,n,o,t,F,v28,Q3,z,v31,uS,Q0,q,pY,m,v37,pX,pW,v40,pV,pU,pS,P,oa,R,pR,pQ,v49,s,v51,k,j,Q1,pP,nZ,QW,D,v59,nY,pO,pM,l,nX,u,nW,d,r,v,X,f,v72,V,p,H,v76,xN,Q,O,i,B,Q2,nV,E,v85,h,rfl⟩:=pG T M;simp only[my,qu,nG,dX]at c;subst c;simp only[BU,cV,eM,eS,oG,fW];refine kK (n:=3) ?_;u_c I tF a;u_reg tF a;u_op tF a;refine y λ_ b=>?_;replace a:=tF a b;u_in tF a;refine gi rfl rfl (by k_ne) λK x=>?_;have sK:=gC (o:=0) a rfl;go_simp;refine x _ _ ⟨⟨rfl,rfl,rfl,rfl,λ_ _=>rfl,λe he=>?_⟩,?_⟩;.have hm:=kN he;simp[go_sem, *]at hm;grind
 exact y λw1 h1=>rfl
set_option maxHeartbeats 1000000 in
theorem arj{e8}{x1 S}(M:T.size=87)(c:T[9]?=U (.pointer e8))(a:w.heap[e8]?=(ends (U x1)<|U S)):cM aD Z (L<|[]++[e8]) (DH [] [e8]) (λg w=>g=G ((bh 41).at ⟨(T.setIfInBounds 82<|.pointer e8).setIfInBounds 83<|.chan x1,[]⟩<|.inRegion Eg [2]::[.code<|cV 12]) C) 8 (G ((bh 41).at ⟨T,[]⟩<|.inRegion BU []::[.code<|cV 11]) C) w:=by
 obtain⟨v0,v1,v2,v3,v4,v5,v6,v7,v8,v9,v10,A,v12,mF,qc,J,qb,qa,W,mE,v20,Y,Q2,pZ,n,o,t,F,v28,QW,z,v31,uS,Q0,q,pY,m,v37,pX,pW,v40,pV,pU,pS,P,oa,R,pR,pQ,v49,s,v51,k,j,Q1,pP,nZ,QX,D,v59,nY,pO,pM,l,nX,u,nW,d,r,v,X,f,v72,V,p,H,v76,xN,Q,O,i,B,Q3,nV,E,v85,h,rfl⟩:=pG T M;simp only[my,qu,nG,dX]at c;subst c;simp only[BU,Eg,cV,eM,eS,oG,fW];refine kK (n:=4) ?_;u_c N tF a;u_c I tF a;u_reg tF a;u_op tF a;refine y λ_ b=>?_;replace a:=tF a b;u_in tF a;refine gi rfl rfl (by k_ne) λK x=>?_;have sK:=gC (o:=0) a rfl;go_simp;refine x _ _ ⟨⟨rfl,rfl,rfl,rfl,λ_ _=>rfl,λe he=>?_⟩,?_⟩;.have hm:=kN he;simp[go_sem, *]at hm;grind
 exact y λw1 h1=>rfl
set_option maxHeartbeats 1000000 in
theorem ari{c}(f:T[10]?=U (.pointer c)):cM aD Z (L<|[]++[]) (DH [] []) (λg w=>g=G ((bh dL.wait).at ⟨#[.pointer<|U ⟨c,0,V⟩,ak,ak,ak,ak,ak,ak,ak,ak,ak,ak,ak,ak,ak,ak,ak,ak,ak,ak,ak,ak,ak,ak,ak,ak,ak,ak,ak,ak,ak,ak,ak,ak,ak,ak,ak,ak,ak,ak,ak,ak,ak,ak,ak,ak,ak,ak,ak,ak,ak,ak,ak,ak,ak,ak,ak,ak,ak,ak,ak,ak,ak,ak,ak,ak,ak,ak,ak,ak,ak,ak,ak,ak,ak,ak,ak,ak,ak,ak,ak,ak,ak,ak,ak],[]⟩ [.code<|body_wait dL]) ((bh 41).at ⟨T,[]⟩ (.inRegion Aq [0]::[.code<|cV 13])::C)) 8 (G ((bh 41).at ⟨T,[]⟩<|.inRegion Eg []::[.code<|cV 12]) C) w:=by
 have b:=trivial;have e:cV 12=.seq (.region 18 Aq ai) (cV 13):=by kernel_rfl
 refine kK (n:=1) ?_;u_c N A b;refine y λ_ a=>?_;replace b:=A b a;rw[e];refine kK (n:=2) ?_;u_c I A b;u_in A b;rw[ua,show Aq.size=1 by kernel_rfl];simp only[eH];refine⟨by u_nil,?_⟩;refine y λ_ a=>?_;replace b:=A b a;u_in A b;have l:dW ⟨T,[]⟩ (.tmp 10)=.pointer c:=getD_some f;obtain⟨o,j,i,d⟩:∃o,Aq[0]?=U o/\o.guard=V/\o.op=.call {callee:=.value<|.func dL.wait,args:=#[.tmp 10],argTypes:=#[125]}:=by
  have h:(Aq[0]?.map λo=>(o.guard,o.op))=U (V,.call {callee:=.value<|.func dL.wait,args:=#[.tmp 10],argTypes:=#[125]}):=by kernel_rfl
  grind
 refine goes_call j (by unfold eW;rw[i]) (by k_ne) d F1.f_wait (nm_wait dL) rfl ⟨dh_none<|by simp,?_⟩;have k:(#[cy 10]:Array ja).map (dW ⟨T,[]⟩)=#[.pointer c]:=by simp[l]
 rw[k];walk_nrmf waitFn;exact y λm _=>rfl
end
theorem fM.kept{ρ}{I}{e cl'}{q}{w v v'}{sp}(M:fM ρ I q e w v)(L:Left e sp v v')(f:∀b,b<v.heap.size->e b=.eV->cl' b=.eV):fM ρ I q cl' w v':=⟨L.os.trans M.os,M.fair,λb c=>cB (M.low b c) L.size,λb o c d=>by obtain⟨i,l⟩:=M.blk b o c d;have a:=(dm.1 c).1;exact⟨i,(L.block _ (M.low b a)<|ay<|M.cls b a d).trans l⟩,M.kB,M.CQ,λb c d=>f _ (M.low b c)<|M.cls b c d,λA j=>by obtain⟨⟨n,k,m,h⟩,g⟩:=M.arg A j;have a:=(dm.1 h).1;exact⟨⟨n,k,m,(L.block _ a<|ay g).trans h⟩,f _ a g⟩⟩
section
variable {C:List aZ} {c:aZ} {T:Array az} {w:ax} {fs:Array dY}
set_option maxHeartbeats 1000000 in
theorem avh(J:T.size=87):cM aD Z (L<|[]++[]) (DH [] []) (λg w=>g=G (c.finish<|bQ #[T.getD 6 ak,T.getD 7 ak]) C) 20 (G ((bh 41).at ⟨T,[]⟩<|aT Aq []::[bF<|cV 13])<|c::C) w:=by obtain⟨v0,v1,v2,v3,v4,v5,v6,v7,v8,v9,v10,QX,v12,mF,qc,Q3,qb,qa,R,mE,v20,U,K,pZ,m,n,s,D,v28,H,x,v31,X,P,p,pY,l,Q0,pX,pW,v40,pV,pU,pS,M,oa,O,pR,pQ,Y,r,v51,j,i,V,pP,nZ,v,Q2,v59,nY,pO,pM,k,nX,t,nW,d,q,u,S,e,v72,Q,o,E,v76,W,Q1,QW,h,z,F,nV,B,v85,f,rfl⟩:=pG T J;have a:=trivial;simp only[cV,eM,oG,fW];refine kK (n:=9) ?_;u_c N A a;u_c I A a;u_reg A a;u_op A a;u_op A a;u_op A a;u_op A a;u_c N A a;u_c nE A a;refine y λ_ b=>?_;replace a:=A a b;u_in A a;refine Uw (t:=6) (u:=7) rfl rfl func41 (by kernel_rfl) ⟨dh_none<|by simp,?_⟩;exact y λw1 h1=>rfl
theorem ayu(d:fs[41]?=wG){w}(a:gw 1 w):cM (J aD fs) Z i Bs (λg w=>gw 0 w/\g=G (c.finish<|bQ #[T.getD 6 ak,T.getD 7 ak]) C) 20 (G ((bh 41).at ⟨T,[]⟩ [bF vP])<|c::C) w:=by unfold gw at a;simp only[vP,JU,eN];refine kK (n:=2) ?_;u_c I p a;u_reg p a;refine y λ_ b=>?_;replace a:=p a b;u_in p a;refine gi rfl rfl (by k_ne) λK m=>?_;have l:=Ri fs;have f:=gC (o:=0) a rfl;have j:=xC 0 a;go_simp;have e:=YK (Y aG 0) a;refine m _ _ ⟨e.1,?_⟩;replace a:=e.2;refine kK (n:=2) ?_;u_c N p a;u_c nE p a;refine y λ_ b=>?_;replace a:=p a b;u_in p a;refine Uw (t:=6) (u:=7) rfl rfl d (by kernel_rfl) ⟨.refl _,?_⟩;exact y λk h=>⟨p a h,rfl⟩
end
section
variable {K:fK} {bw e8 e9 x1 y1 x2 y2:Nat} {fs:Array dY} {I:H} {nm:String->Bool} {Done:aX->ax->Prop} {cL cR:aZ} {B cY:List aZ}
theorem auC(hP:K.P=aD)(sO:K.L=dL)(hl:K.live=Z)(sM:K.Wg=bw)(xe:FL bw)(W:FQ fs I nm)(hE:nt (J K.P fs) Done){s0 s:St}{iT ρ:Nat->Nat}{g0:aX}{w0 w:ax}{TL A:Array az}(F:Fin K fs I Done (cL::B) (cR::cY) s0 iT g0 w0 e8 e9 bw x1 y1 x2 y2 ρ w TL A s)(ho:Over K.n0 s0.T):∃K' t N v v',(K'.P=K.P∧K'.L=K.L∧K'.live=ai)∧s.runs K.P t∧Ok K' 0 t (G (cR.finish v') cY)∧(t.md=.opn 0∧(∀i,t.role i=V)∧(∀n,V2 n t.D<=0)∧Over K'.n0 t.T)∧fM ρ I K.P t.cl N t.v∧RV ρ I N.heap.size v v'∧gw 0 N∧Term (J K.P fs) Done (G (cL.finish v) B) N∧me (J K.P fs) Done (G (cL.finish v) B,N) (G ((bh 41).at ⟨TL,[]⟩ [bF vP])<|cL::B,w)∧LF w N∧Still s.cl s.v t.cl t.v:=by
 obtain⟨P,L,Wg,n0,fS,live⟩:=K;simp only at hP sO hl sM ho;subst hP sO hl sM;obtain⟨H,m,p,f,QW,e1,e2,l1,l2,⟨k1,EX⟩,⟨k2,EW⟩,ho1,zm⟩:=F.pair;have ov:Over n0 s.T:=by obtain⟨u,hu⟩:=DW F.since.runs;rw[hu];exact ho.app u
 have Yu:BU[2]?=U (BU[2]?.getD default):=by kernel_rfl
 have n17:Eg[2]?=U (Eg[2]?.getD default):=by kernel_rfl
 have f41:aD.funcs[(bh 41).fn]?.any (·.norace)=ai:=by kernel_rfl
 have M:=F.Gk.hold.inv.own 0 e8 F.m8;obtain⟨Q2,_,q1,H1,rfl,j⟩:=F.Gk.walk (n:=8) (O:=[]) (Rd:=[e8]) (Stop:=λg w=>g=G ((bh 41).at ⟨(A.setIfInBounds 80<|aF<|U e8).setIfInBounds 81<|dc<|U x1,[]⟩<|aT BU [2]::[bF<|cV 11]) (cR::cY)) λg w h=>by rw[h];rfl (ark F.sR F.t8 F.c8) (by simp) (by simpa using⟨M.2,ay M.1⟩);generalize O:(A.setIfInBounds 80<|aF<|U e8).setIfInBounds 81 (dc<|U x1)=T1 at H1;have z1:T1.size=87:=by rw[<-O];simp[F.sR]
 have s1:∀z,z<80->T1[z]?=A[z]?:=λz hz=>by rw[<-O,l<|by omega,l<|by omega]
 have c1:T1[81]?=U (dc x1):=by rw[<-O];exact kg<|by rw[vj,F.sR];decide
 have ro1:=j.role;have pr1:kV Q2.role H m p f:=by rw[ro1];exact QW
 have aBA:Q2.ch p.aO.c=U ⟨V,ai,k1⟩:=by rw[j.eZ H p QW.one QW.yO,e1];exact EX
 have aJu:Q2.ch f.aO.c=U ⟨V,ai,k2⟩:=by rw[j.eZ m f QW.two QW.oh,e2];exact EW
 have x:(Q2.D H).stage=9->∃k,Q2.ch p.out=U ⟨V,ai,k⟩:=λh=>by obtain⟨a,b⟩:=j.outs H p QW.one QW.yO h;rw[a];exact ho1 b
 have aI6:(Q2.D m).stage=9->∃k,Q2.ch f.out=U ⟨V,ai,k⟩:=λh=>by obtain⟨a,b⟩:=j.outs m f QW.two QW.oh h;rw[a];exact zm b
 have Ra:=j.size;refine H1.amH (g':=G ((bh 41).at ⟨T1,[]⟩<|aT BU []::[bF<|cV 11])<|cR::cY) rfl pr1 (by grind) rfl (by rfl) rfl (λw1 k Q0=>?_) aBA x λt2 q2 H2 DY wL Q9 L2 l7 R2 awo cc2 cd2 aH0=>?_
 ·rw[e1]at Q0⊢;have h:(BU[2]?.map λo=>(o.guard,o.op,o.dst))=U (V,.call {callee:=.builtin .close,args:=#[cy 81],argTypes:=#[112]},V):=by kernel_rfl
  rw[Yu]at h;simp only[ee,dX,Ez]at h;have:=U0 (P:=aD) (main:=Z) (b:=bh 41) (T:=T1) (ds:=[]) (k:=[bF<|cV 11]) (cs:=cR::cY) (rest:=[]) Yu (by unfold eW;rw[h.1]) (by k_ne) h.2.1 c1 f41 Q0;rw[h.2.2]at this;exact this
 have m9:e9∈(t2.D 0).own:=by rw[awo,j.D0];exact F.m9
 have aHW:=H2.hold.inv.own 0 e9 m9;have b9:t2.v.heap[e9]?=ends x2 y2:=by
  have m9':e9∈(Q2.D 0).own:=by grind
  rw[R2.1 e9 m9',j.rest e9 (F.Gk.hold.inv.own 0 e9 F.m9).2 (F.Gk.hold.inv.own 0 e9 F.m9).1<|by simp];exact F.c9
 obtain⟨t3,_,q3,H3,rfl,y⟩:=H2.walk (n:=8) (O:=[]) (Rd:=[e9]) (Stop:=λg w=>g=G ((bh 41).at ⟨(T1.setIfInBounds 82<|aF<|U e9).setIfInBounds 83<|dc<|U x2,[]⟩<|aT Eg [2]::[bF<|cV 12]) (cR::cY)) λg w h=>by rw[h];rfl (arj z1 ((s1 9<|by decide).trans F.t9) b9) (by simp) (by grind);generalize CJ:(T1.setIfInBounds 82<|aF<|U e9).setIfInBounds 83 (dc<|U x2)=d at H3;have z2:d.size=87:=by grind
 have s2:∀z,z<80->d[z]?=A[z]?:=λz hz=>by rw[<-CJ,l<|by omega,l<|by omega];exact s1 z hz
 have pr3:kV t3.role H m p f:=by rw[y.role,DY];exact pr1
 have e:kV t2.role H m p f:=by grind
 have Q1:t3.ch f.aO.c=U ⟨V,ai,k2⟩:=by rw[y.eZ m f e.two e.oh,cd2];grind
 have aJt:t3.ch p.aO.c=U ⟨V,Z,k1⟩:=by rw[y.eZ H p e.one e.yO];exact cc2
 have aA5:(t3.D m).stage=9->∃k,t3.ch f.out=U ⟨V,ai,k⟩:=λh=>by obtain⟨a,b⟩:=y.outs m f e.two e.oh h;grind
 have sz3:=y.size.trans<|Q9.trans Ra;refine H3.amH (g':=G ((bh 41).at ⟨d,[]⟩<|aT Eg []::[bF<|cV 12])<|cR::cY) rfl pr3.swap (by grind) rfl (by rfl) rfl (λw1 k Q0=>?_) Q1 aA5 λt4 q4 H4 ro4 SA sz4 L4 LC R4 aHX cc4 cd4 aHZ=>?_
 ·rw[e2]at Q0⊢;have h:(Eg[2]?.map λo=>(o.guard,o.op,o.dst))=U (V,.call {callee:=.builtin .close,args:=#[cy 83],argTypes:=#[112]},V):=by kernel_rfl
  rw[n17]at h;simp only[ee,dX,Ez]at h;have:=U0 (P:=aD) (main:=Z) (b:=bh 41) (T:=d) (ds:=[]) (k:=[bF<|cV 12]) (cs:=cR::cY) (rest:=[]) n17 (by unfold eW;rw[h.1]) (by k_ne) h.2.1 (by grind) f41 Q0;rw[h.2.2]at this;exact this
 have q:kV t4.role H m p f:=by grind
 obtain⟨C,_,q5,H5,rfl,E⟩:=H4.walk (n:=8) (O:=[]) (Rd:=[]) (Stop:=λg w=>g=G ((bh dL.wait).at ⟨#[aF<|U Wg,ak,ak,ak,ak,ak,ak,ak,ak,ak,ak,ak,ak,ak,ak,ak,ak,ak,ak,ak,ak,ak,ak,ak,ak,ak,ak,ak,ak,ak,ak,ak,ak,ak,ak,ak,ak,ak,ak,ak,ak,ak,ak,ak,ak,ak,ak,ak,ak,ak,ak,ak,ak,ak,ak,ak,ak,ak,ak,ak,ak,ak,ak,ak,ak,ak,ak,ak,ak,ak,ak,ak,ak,ak,ak,ak,ak,ak,ak,ak,ak,ak,ak,ak],[]⟩ [bF<|body_wait dL]) ((bh 41).at ⟨d,[]⟩ (aT Aq [0]::[bF<|cV 13])::cR::cY)) λg w h=>by rw[h];rfl (ari<|(s2 10<|by decide).trans F.t10) (by simp) (by simp);have pr5:kV C.role H m p f:=by rw[E.role];exact q
 have mM:Bv C.role C.ch:=by
  intro i r hr hi;rcases pr5.F0 hr (GW hi)with⟨rfl,rfl⟩|⟨rfl,rfl⟩;·exact⟨⟨V,Z,k1⟩,by rw[E.eZ i r q.one q.yO,cd4];grind,rfl⟩
  ·exact⟨⟨V,Z,k2⟩,by rw[E.eZ i r q.two q.oh];exact cc4,rfl⟩
 have QX:s.runs aD C:=(((q1.trans q2).trans q3).trans q4).trans q5;have ov5:Over n0 C.T:=by obtain⟨u,hu⟩:=DW QX;rw[hu];exact ov.app u
 have sz5:=E.size.trans<|sz4.trans sz3;have lt5:∀i r,C.role i=U r->i<C.gs.size:=λi r hr=>by rcases pr5.all i r hr with rfl|rfl|rfl;all_goals grind
 have Q3:jN dL.tWg Wg C.v:=H5.hold.inv.live rfl;refine H5.aoW (Hd:=PL dL (λ_=>True) Wg ((bh 41).at ⟨d,[]⟩<|aT Aq [0]::[bF<|cV 13])<|cR::cY) rfl (E.md.trans<|SA.trans<|y.md.trans<|wL.trans<|j.md.trans F.md) mM ov5 lt5 (λg w h=>xe _ _ _ _ _ _ _ _ _ h) (aoX F1 C.v Q3) λK6 t6 q6 H6 hP6 hL6 hl6 X4 KL DX Sz L6 im6 Jm=>?_;have Og:dj ⟨d,[]⟩ (Aq[0]?.bind (·.dst)) (bQ #[])=⟨d.setIfInBounds 84<|bQ #[],[]⟩:=by
  have:Aq[0]?.bind (·.dst)=U 84:=by kernel_rfl
  rw[this];rfl
 rw[Og]at H6;obtain⟨X,_,q7,H7,rfl,R,d7,c7⟩:=H6.walk (n:=20) (O:=[]) (Rd:=[]) (Stop:=λg w=>g=G (cR.finish<|bQ #[(d.setIfInBounds 84<|bQ #[]).getD 6 ak,(d.setIfInBounds 84<|bQ #[]).getD 7 ak]) cY) λg w h=>by rw[h];rfl (by grind[avh]) (by simp) (by simp);obtain⟨_,N,⟨fl,rfl⟩,t',b',Q⟩:=Term.goes hE LF.refl LF.trans LF.BX (λ_ _ _ h=>h) (ayu (C:=B) (c:=cL) (T:=TL) W.f41 F.flag) F.term;obtain⟨H8,hV8⟩:=H7.trim hl6 (λi=>by rw[R.role];grind);have G8:∀z,z=6∨z=7->(d.setIfInBounds 84<|bQ #[]).getD z ak=A.getD z ak:=λz hz=>by rw[iM,iM,l<|by omega,s2 z<|by omega]
 refine⟨K6,{X with D:=uV X.gs.size X.D},N,bQ #[TL.getD 6 ak,TL.getD 7 ak],bQ #[A.getD 6 ak,A.getD 7 ak],⟨hP6,hL6,hl6⟩,(QX.trans q6).trans<|by rw[hP6]at q7;exact q7,by grind,⟨R.md.trans Sz,λi=>by show X.role i=V;rw[R.role];grind,λn=>xZ<|hV8 n,?_⟩,(((((((F.eV.left j.left j.cls).left L2 l7).left y.left y.cls).left L4 LC).left E.left E.cls).kept L6 λb hb hi=>im6 b hb _ (ay rfl) hi).left R.left R.cls).lf (K:=⟨aD,dL,Wg,n0,fS,Z⟩) W.flag W.IP Q,?_,fl,t',b',Q,?_⟩;·obtain⟨u,hu⟩:=DW q7;show Over K6.n0 X.T;rw[hu];exact X4.app u
 ·rw[Q.size];obtain⟨a1,a2⟩:=F.six;obtain⟨b1,b2⟩:=F.seven;refine⟨?_,?_⟩;·grind[S,qj,oR,Bool.and_self]
  ·rw[a2,b2];rfl
 ·exact((((((Still.of j.left j.cls).trans<|.of L2 l7).trans<|.of y.left y.cls).trans<|.of L4 LC).trans<|.of E.left E.cls).trans ⟨L6.out,L6.size,λb hb hc=>⟨L6.block b hb<|aB<|ay hc,im6 b hb _ (aB rfl) hc⟩⟩).trans<|.of R.left R.cls
end
theorem xu{T:Array az}{t}(h:t<T.size):T[t]?=T.getD t ak:=by rw[iM,gW h];rfl
theorem RV.addr{ρ}{I}{N}{a}{x}(h:RV ρ I N (aF<|U a) x):x=aF (dA ρ a)/\I.blk N a.block=Z:=by obtain⟨c,b⟩:=h;refine⟨by rw[b];rfl,?_⟩;grind[S]
section
variable {K:fK} {fs:Array dY} {I:H} {nm:String->Bool} {Done:aX->ax->Prop} {cL cR:aZ} {B cY:List aZ}
set_option maxHeartbeats 4000000 in
theorem auB(hP:K.P=aD)(sO:K.L=dL)(hl:K.live=Z){bw e8 e9 x1 y1 x2 y2 b2 b3 c2 c3 jf}(sM:K.Wg=bw)(xe:FL bw)(W:FQ fs I nm)(hE:nt (J K.P fs) Done)(jo:∀g w,Done g w->g.callers=[]){s}{ρ}{w}{T TL}{a b}{mv}(hT:T.size=87)(hTL:TL.size=87)(h0:TL[0]?=U (.pointer a))(h1:TL[1]?=U (.pointer b))(hA:lM ρ I w.heap.size S8 TL T)(hS:anL T (dA ρ a) (dA ρ b) mv e8 e9 bw)(hF:gw 1 w)(hEn:Vx s.v (s.D 0).own e8 e9 x1 y1 x2 y2)(hp:kV s.role jf (jf+1) (wk bw b2 b3 x1 y1<|dA ρ a)<|wk bw c2 c3 x2 y2<|dA ρ b)(Hg:s.role 0=V)(ga:s.gs.size=jf+2)(nI:s.md=.opn 0)(c:s.ch x1=U ⟨V,ai,0⟩∧s.ch y1=U ⟨V,ai,0⟩∧s.ch x2=U ⟨V,ai,0⟩∧s.ch y2=U ⟨V,ai,0⟩)(Q2:Ok K 0 s<|G ((bh 41).at ⟨T,[]⟩ [.code<|cV 7])<|cR::cY)(tr:Term (J K.P fs) Done (G ((bh 41).at ⟨TL,[]⟩ [.inRegion nx [0,1,2,3,4,5,6,7],.code BJ])<|cL::B) w)(M:fM ρ I K.P s.cl w s.v)(ho:Over K.n0 s.T):∃K' t A QX v v',(K'.P=K.P∧K'.L=K.L∧K'.live=ai)∧s.runs K.P t∧Ok K' 0 t (G (cR.finish v') cY)∧(t.md=.opn 0∧(∀QW,t.role QW=V)∧(∀n,V2 n t.D<=0)∧Over K'.n0 t.T)∧fM A I K.P t.cl QX t.v∧RV A I QX v v'∧gw 0 QX∧Term (J K.P fs) Done (G (cL.finish v) B) QX∧me (J K.P fs) Done (G (cL.finish v) B,QX) (G ((bh 41).at ⟨TL,[]⟩ [.inRegion nx [0,1,2,3,4,5,6,7],.code BJ])<|cL::B,w)∧(∀z,z<w.heap.size->ρ z=A z)∧w.heap.size<=QX∧(∀z,z<w.heap.size->I.F z=ai->z≠4->QX.heap[z]?=w.heap[z]?)∧Still s.cl s.v t.cl t.v:=by
 obtain⟨P,L,N,Q1,d,live⟩:=K;simp only at hP sO hl sM ho;subst hP sO hl sM;have TG:∀fr w,¬Done (G fr<|cL::B) w:=λfr w hd=>by have:=jo _ _ hd;cases this
 obtain⟨t1,_,q1,H1,rfl,K1,D1,C1⟩:=Q2.walk (n:=(afJ (T:=T) (C:=cR::cY) s.v).choose) (O:=[]) (Rd:=[]) (Stop:=λg w=>g=G ((bh 41).at ⟨T,[]⟩<|.inRegion nx [0,1,2,3,4,5,6,7]::x9) (cR::cY)) λg w h=>by rw[h];rfl (afJ (T:=T) (C:=cR::cY) s.v).choose_spec (by simp) (by simp);obtain⟨t2,VE,w2,m,Bg,a1,a2,a3,a4,a5,a6,a7,a8,a9,Vh,Vg,a12,Vf⟩:=Ok.J7 (K:=⟨aD,dL,N,Q1,d,Z⟩) (rest:=[5,6,7]) hE TG [0,1,2,3,4] (S:=S8) ayh H1 tr (M.left K1.left K1.cls) hA (by rw[hTL,hT]);have o:=a5.trans hTL;have j:=a6.trans hT;rw[aDa]at a4;have d8:uw (eS<|cV 7) [0,1,2,3,4]=[36,37,38,39,40]:=by kernel_rfl
 obtain⟨n3,g3⟩:=ayD (C:=cL::B) (k:=[.code BJ]) W.f60 o ⟨xu<|by rw[o];decide,xu<|by rw[o];decide⟩<|Lf hF W.flag a3;obtain⟨_,w3,⟨fl3,rfl⟩,u3,b3',l3⟩:=Term.goes hE LF.refl LF.trans LF.BX (λ_ _ _ h=>h) g3 a8;obtain⟨t3,_,q3,H3,rfl,K3,D3,C3⟩:=a12.walk (n:=(afK (T:=Bg) (C:=cR::cY) j ⟨xu (t:=36)<|by rw[j];decide,xu (t:=40)<|by rw[j];decide⟩ t2.v).choose) (O:=[]) (Rd:=[]) (Stop:=λg w=>g=G (eP aD 60 #[Bg.getD 36 ak,Bg.getD 40 ak] .normal) ((bh 41).at ⟨Bg,[]⟩ (.inRegion nx [5,6,7]::x9)::cR::cY)) λg w h=>by rw[h];rfl (afK (T:=Bg) (C:=cR::cY) j ⟨xu (t:=36)<|by rw[j];decide,xu (t:=40)<|by rw[j];decide⟩ t2.v).choose_spec (by simp) (by simp);have has:bD VE I w3 #[m.getD 36 ak,m.getD 40 ak] #[Bg.getD 36 ak,Bg.getD 40 ak]:=by
  obtain⟨x1',x2'⟩:=a4 36 (by decide);obtain⟨x3',x4'⟩:=a4 40 (by decide);rw[l3.size];refine⟨λv hv=>?_,?_⟩
  ·simp only[fQ,di,dJ,dQ]at hv;rcases hv with rfl|rfl;·exact x1'
   ·exact x3'
  ·rw[x2',x4'];simp
 obtain⟨t4,ρ4,w4,x,x',c1,cc2,cc3,fl4,hx,u4,tg4,q4,d4,H4,M4⟩:=phase (K:=⟨aD,dL,N,Q1,d,Z⟩) rfl W hE jo W.t60 ⟨_,_,func60,rfl⟩ (bL:=(bh 41).at ⟨m,[]⟩<|.inRegion nx [5,6,7]::[.code BJ]) (B:=cL::B) (by simp) has H3 u3 ((Vf.left K3.left K3.cls).lf (K:=⟨aD,dL,N,Q1,d,Z⟩) W.flag W.IP l3) fl3;have o5:nx[5]?.bind (·.dst)=U 41:=by kernel_rfl
 have hfL:uB ((bh 41).at ⟨m,[]⟩<|.inRegion nx [5,6,7]::[.code BJ]) x=(bh 41).at ⟨m.setIfInBounds 41 x,[]⟩ (.inRegion nx [6,7]::[.code BJ]):=by rw[Kw,o5];rfl
 have hfR:uB ((bh 41).at ⟨Bg,[]⟩<|.inRegion nx [5,6,7]::x9) x'=(bh 41).at ⟨Bg.setIfInBounds 41 x',[]⟩ (.inRegion nx [6,7]::x9):=by rw[Kw,o5];rfl
 rw[hfL]at u4 tg4;rw[hfR]at H4;have LV:=λz e=>c1 z (by rw[l3.size];exact e);have E:w2.heap.size<=w4:=by rw[<-l3.size];exact cc2
 have hA4:lM ρ4 I w4 (41::S8) (m.setIfInBounds 41 x)<|Bg.setIfInBounds 41 x':=by exact((a4.sub (S':=S8)<|by decide).mono LV E).put (by rw[o,j]) hx (U 41) [] []
 obtain⟨t5,O,w5,q,TR5,e1,e2,e3,e4,e5,e6,e7,e8',e9',e10,e11,e12,e13⟩:=Ok.J7 (K:=⟨aD,dL,N,Q1,d,Z⟩) (rest:=[]) hE TG [6,7] (S:=41::S8) ayg H4 u4 M4 hA4 (by simp[o,j]);rw[aC9]at e4;have d8b:uw (eS<|cV 7) [6,7]=[12,13]:=by kernel_rfl
 have D:q.size=87:=by rw[e5];simp[o]
 have slL:∀z,z=0∨z=1->q[z]?=TL[z]?:=λz e=>by rw[(e7 z<|by rw[d8b];rcases e with rfl|rfl<;>decide).1,l<|by omega,(a7 z<|by rw[d8];rcases e with rfl|rfl<;>decide).1]
 have Q0:∀z,z=8∨z=9∨z=10->TR5[z]?=T[z]?:=λz e=>by rw[(e7 z<|by rw[d8b];rcases e with rfl|rfl|rfl<;>decide).2,l<|by omega,(a7 z<|by rw[d8];rcases e with rfl|rfl|rfl<;>decide).2]
 obtain⟨S0,S1,S2,S6,S7,Vn,S9,S10⟩:=hS;have f:=((((K1.A3 D1 C1).trans Vg).trans<|K3.A3 D3 C3).trans d4).trans e11;have y:=λz e=>f.own z (Q2.hold.inv.own 0 z e).2 (Q2.hold.inv.own 0 z e).1;obtain⟨⟨n8,n9⟩,m8,m9,axm⟩:=hEn;obtain⟨t6,T6,f14,f15,q6,H6,R,C6,z6,s6,⟨p14,p15⟩,⟨o14,o15,nff,aIq,aIp⟩,oK,oJ⟩:=avk (K:=⟨aD,dL,N,Q1,d,Z⟩) rfl e12 (by rw[e6];simp[j]) ⟨(Q0 8<|by simp).trans Vn,(Q0 9<|by simp).trans S9⟩ ⟨⟨(y e8 m8).trans n8,(y e9 m9).trans n9⟩,by rw[f.D];exact m8,by rw[f.D];exact m9,axm⟩;obtain⟨_,w6,rfl,u6,b6,S⟩:=Term.goes hE i.refl i.trans (λ_ _ h=>h) (λ_ _ _ h=>h) (ayC (C:=cL::B) (fs:=fs) (k:=[]) D ⟨(slL 0<|by simp).trans h0,(slL 1<|by simp).trans h1⟩) e8';have C:=λz e=>(a1 z e).trans<|(LV z<|cB e a2).trans<|e1 z<|cB e<|bC a2 E;have Q3:w.heap.size<=w5:=by grind
 obtain⟨q0,ok0⟩:=(RV.addr (a:=a)<|by have:=hA 0 (by decide);rwa[getD_some h0]at this);obtain⟨q1',ok1⟩:=(RV.addr (a:=b)<|by have:=hA 1 (by decide);rwa[getD_some h1]at this);have k:∀z∈(s.D 0).own,t6.v.heap[z]?=s.v.heap[z]?∧z∈(t6.D 0).own∧z<t5.v:=λz e=>by
  have lG:z∈(t5.D 0).own:=by rw[f.D];exact e
  have hi:=e12.hold.inv.own 0 z lG;exact⟨(R.rest z hi.2 hi.1<|by simp).trans<|y z e,R.own z lG,hi.2⟩
 have DX:=R.role.trans f.role;have Q:=C6.trans f.ch;have Jm:=R.size.trans<|f.size.trans ga;have fl5:=Lf fl4 W.flag e3;have z6L:((q.setIfInBounds 14<|.pointer a).setIfInBounds 15<|.pointer b).size=87:=by simp[D]
 have X:nQ ⟨aD,dL,N,Q1,d,Z⟩ fs I Done (cL::B) (cR::cY) t6 O (G ((bh 41).at ⟨(q.setIfInBounds 14<|.pointer a).setIfInBounds 15<|.pointer b,[]⟩<|.code ot::jU)<|cL::B) w6 (.code ot::jU) (.code lD::oy) e8 e9 N f14 f15 x1 y1 x2 y2 jf (jf+1) a b (dA O a) (dA O b) x1 y1 x2 y2 b2 b3 c2 c3 O w6 ((q.setIfInBounds 14<|.pointer a).setIfInBounds 15<|.pointer b) T6 t6:=by
  refine⟨H6,u6,(e13.left R.left R.cls).re (K:=⟨aD,dL,N,Q1,d,Z⟩) S,λz e=>?_,z6L,fl5.tape S,?_,?_,?_,?_,rfl,rfl,⟨z6,?_,?_,?_,p14,p15⟩,⟨⟨?_,?_,oK,oJ,(k e8 m8).2.1,(k e9 m9).2.1,o14,o15,nff,?_⟩,?_,by rw[Jm];omega,by rw[Jm];omega,λr hr=>(by rw[DX,Hg]at hr;cases hr),⟨0,by rw[Q];exact c.1⟩,⟨0,by rw[Q];exact c.2.1⟩,⟨0,by rw[Q];exact c.2.2.1⟩,⟨0,by rw[Q];exact c.2.2.2⟩,R.md.trans<|f.md.trans nI,.inl ⟨rfl,rfl,rfl,rfl⟩⟩,.refl _ _ _ _⟩
  ·have h41:∀z∈rK,z∈[13,12,41,0,1,2,6,7]∧z≠14∧z≠15∧z≠42∧z≠43:=by decide
   obtain⟨Ur,h2',h3',h4',h5'⟩:=h41 z e;have:=e4 z Ur;rw[S.heap];rw[iM,iM]at this⊢;rw[l<|x6 h3',l<|x6 h2',s6 z h2' h3' h4' h5'];exact this
  ·rw[l<|by decide];exact kg<|by rw[D];decide
  ·exact kg<|by rw[vj,D];decide
  ·rw[S.heap];exact H.ey ok0 Q3
  ·rw[S.heap];exact H.ey ok1 Q3
  ·rw[s6 8 (by decide) (by decide) (by decide)<|by decide];exact(Q0 8<|by simp).trans Vn
  ·rw[s6 9 (by decide) (by decide) (by decide)<|by decide];exact(Q0 9<|by simp).trans S9
  ·grind
  ·grind
  ·grind
  ·have:=(k e8 m8).2.2;have:=(k e9 m9).2.2;refine⟨?_,?_,?_,?_⟩<;>omega
  ·rw[DX,<-JN ok0 C,<-JN ok1 C];exact hp
 have p:s.runs aD t6:=((((q1.trans Vh).trans q3).trans q4).trans e10).trans q6;have X4:Over Q1 t6.T:=by obtain⟨u,hu⟩:=DW p;rw[hu];exact ho.app u
 have aDJ:∀z,z<w.heap.size->I.F z=ai->z≠4->w6.heap[z]?=w.heap[z]?:=λz e hF h4=>by have z2:=cB e a2;have z4:=cB z2 E;rw[S.heap,e3 z z4 hF,cc3 z (by rw[l3.size];exact z2) hF,l3.blk z h4,a3 z e hF]
 refine arK (K:=⟨aD,dL,N,Q1,d,Z⟩) rfl rfl rfl rfl W hE jo (by simp) (λA QX PY Vj t F=>?_) _ u6.acc.transGen rfl X;obtain⟨K',t',w'',v,v',p1,p2,p3,p4,p5,p6,p7,p8,p9,p10,p11⟩:=auC (K:=⟨aD,dL,N,Q1,d,Z⟩) rfl rfl rfl rfl xe W hE F X4;have ag6:=λz e=>(C z e).trans (F.since.LU z<|by rw[S.heap];grind);have szF:w.heap.size<=QX:=bC Q3 (by have:=F.since.uW;rw[S.heap]at this;grind);refine⟨K',t',A,w'',v,v',p1,(p.trans F.since.runs).trans p2,p3,p4,p5,p6,p7,p8,p9.trans<|F.since.back.trans<|b6.trans<|e9'.trans<|me.trans (.inr tg4)<|b3'.trans a9,ag6,by rw[p10.size];exact szF,λz e hF h4=>?_,?_⟩;·rw[p10.blk z h4,F.since.sV z (by rw[S.heap];grind) hF h4,aDJ z e hF h4]
 ·exact((f.still.trans<|.of R.left R.cls).trans F.since.out).trans p11
theorem auz(hP:K.P=aD)(sO:K.L=dL)(hl:K.live=ai)(CN:∀N,Dw N)(xe:∀N,FL N)(W:FQ fs I nm)(hE:nt (J K.P fs) Done)(Q0:∀g w,Done g w->g.callers=[]){s:St}{ρ:Nat->Nat}{w:ax}{x0 x1 x2:az}(h0:S I w.heap.size x0=Z/\S I w.heap.size x1=Z/\S I w.heap.size x2=Z)(H:Ok K 0 s<|r (eP K.P 41 #[F ρ x0,F ρ x1,F ρ x2] eo)<|cR::cY)(tr:Term (J K.P fs) Done (r (eP (J K.P fs) 41 #[x0,x1,x2] eo)<|cL::B) w)(M:fM ρ I K.P s.cl w s.v)(Q:gw 0 w)(nI:s.md=.opn 0)(hr:∀i,s.role i=V)(hV:∀n,V2 n s.D<=0)(ho:Over K.n0 s.T):∃O t k j v v',(O.P=K.P/\O.L=K.L/\O.live=ai)/\s.runs K.P t/\Ok O 0 t (G (cR.finish v') cY)/\(t.md=.opn 0/\(∀i,t.role i=V)/\(∀n,V2 n t.D<=0)/\Over O.n0 t.T)/\fM k I K.P t.cl j t.v/\RV k I j.heap.size v v'/\gw 0 j/\Term (J K.P fs) Done (G (cL.finish v) B) j/\uz (qN (J K.P fs) Done) (G (cL.finish v) B,j) (r (eP (J K.P fs) 41 #[x0,x1,x2] eo)<|cL::B,w)/\(∀z,z<w.heap.size->ρ z=k z)/\w.heap.size<=j.heap.size/\(∀z,z<w.heap.size->I.F z=ai->z≠4->j.heap[z]?=w.heap[z]?)/\Still s.cl s.v t.cl t.v:=by
 obtain⟨P,L,N,A,d,live⟩:=K;simp only at hP sO hl ho;subst hP sO hl;have Q3:∀fr w,¬Done (G fr<|cL::B) w:=λfr w hd=>by have:=Q0 _ _ hd;cases this
 have f:∀{v:az}{j:ax},me (J aD fs) Done (G (cL.finish v) B,j) (r (eP (J aD fs) 41 #[x0,x1,x2] eo)<|cL::B,w)->uz (qN (J aD fs) Done) (G (cL.finish v) B,j) (r (eP (J aD fs) 41 #[x0,x1,x2] eo)<|cL::B,w):=λh=>by
  rcases h with e|h;.exfalso;have:=congrArg (λx=>x.1.callers.length) e;simp[G,r]at this
  .exact h
 obtain⟨t1,l,w1,TL,y,a,b,a1,a2,a3,a4,a5,a6,a7,⟨a8,a9,Vh,Vg⟩,R,Vf,QW,q,a16,a17⟩:=auA (K:=⟨aD,dL,N,A,d,ai⟩) rfl hE Q3 W.f41 W.flag W.IP h0 H tr M Q;have p:∀i,t1.role i=V:=λi=>by rw[q.role];exact hr i
 have QZ:=q.md.trans nI;have ov1:Over A t1.T:=by obtain⟨u,hu⟩:=DW QW;rw[hu];exact ho.app u
 obtain⟨QY,E⟩:=ary (fs:=fs) (C:=cL::B) hE Q3 R;have Q2:TL[22]?=U (cx QY):=by rw[xu<|by rw[a6];decide,E]
 have C:y[22]?=U (cx QY):=by rw[xu<|by rw[a7];decide,(RV.bool (a5 22<|by decide) QY).1 E]
 cases QY with|true=>
  obtain⟨n,g⟩:=ayt (fs:=fs) (c:=cL) (C:=B) (ops:=eS<|cV 1) W.f41 a6 ⟨Vh,Vg,Q2⟩ a4;obtain⟨_,w2,⟨f2,rfl⟩,t2,b2,o⟩:=Term.goes hE LF.refl LF.trans LF.BX (λ_ _ _ h=>h) g R;obtain⟨n',g'⟩:=avg (c:=cR) (C:=cY) (ops:=eS<|cV 1) a7 C t1.v;obtain⟨Q1,_,q3,H3,rfl,QX,D3,C3⟩:=a16.walk (n:=n') (O:=[]) (Rd:=[]) (Stop:=λg w=>g=G (cR.finish<|bQ #[Y aG 0,Y aG 0]) cY) λg w h=>by rw[h];rfl g' (by simp) (by simp);obtain⟨H8,hV8⟩:=H3.trim rfl (λi=>by rw[QX.role];exact p i);refine⟨_,{Q1 with D:=uV Q1.gs.size Q1.D},l,w2,bQ #[Y aG 0,Y aG 0],bQ #[Y aG 0,Y aG 0],⟨rfl,rfl,rfl⟩,QW.trans q3,H8,⟨QX.md.trans QZ,λi=>by show Q1.role i=V;rw[QX.role];exact p i,λn=>xZ<|hV8 n,?_⟩,(a17.left QX.left QX.cls).lf (K:=⟨aD,dL,N,A,d,Z⟩) W.flag W.IP o,RV.plain rfl,f2,t2,f<|b2.trans Vf,a1,by rw[o.size];exact a2,λz m hF X=>(o.blk z X).trans<|a3 z m hF X,?_⟩;.obtain⟨u,hu⟩:=DW q3;show Over A Q1.T;rw[hu];exact ov1.app u
  .exact q.still.trans<|.of QX.left QX.cls|false=>
  obtain⟨n,g⟩:=ayr (fs:=fs) (C:=cL::B) (ops:=eS<|cV 1) a6 Q2 a4;obtain⟨_,w2,⟨f2,rfl⟩,t2,b2,o⟩:=Term.goes hE LF.refl LF.trans LF.BX (λ_ _ _ h=>h) g R;have rv:∀z,z∈[0,1,2,6,7]->RV l I w1 (TL.getD z ak) (y.getD z ak):=λz m=>a5 z<|vh _ m;have e0:y[0]?=U (aF<|dA l a):=by rw[xu<|by grind];have:=rv 0 (by decide);rw[getD_some a8]at this;rw[this.2];rfl
  have e1:y[1]?=U (aF<|dA l b):=by rw[xu<|by rw[a7];decide];have:=rv 1 (by decide);rw[getD_some a9]at this;rw[this.2];rfl
  have e2:y[2]?=y.getD 2 ak:=xu (by grind);have e6:y[6]?=U (Y aG 0):=by rw[xu<|by rw[a7];decide];have:=rv 6 (by decide);rw[getD_some Vh]at this;rw[this.2];rfl
  have e7:y[7]?=U (Y aG 0):=by rw[xu<|by grind];have:=rv 7 (by decide);rw[getD_some Vg]at this;rw[this.2];rfl
  obtain⟨H1',aCn⟩:=a16.trim rfl p;refine ar0 (K:=⟨aD,dL,N,A,d,ai⟩) rfl rfl rfl CN a7 ⟨e0,e1,e2,e6,e7,C⟩ H1' QZ p (λn=>xZ<|aCn n) λQ1 bw e8 e9 p1 q1 p2 q2 c2 c3 d2 d3 T q3 H3 zT hS hEn jH hp Hg ga aBn yh L3 zM=>?_;have ov3:Over A Q1.T:=by obtain⟨u,hu⟩:=DW q3;rw[hu];exact Over.app ov1 u
  obtain⟨S0,S1,S2,S6,S7,Vn,S9,S10⟩:=hS;have Lc:lM l I w2 S8 TL T:=by
   intro z m;rw[o.size];have h1:=rv z (by grind[S8]);have e:T.getD z ak=y.getD z ak:=by simp only[S8,di,dJ,dQ]at m;rcases m with rfl|rfl|rfl|rfl|rfl;all_goals grind[getD_some]
   rw[e];exact h1
  obtain⟨O,t',k,j,v,v',r1,r2,r3,r4,r5,r6,r7,r8,r9,r10,r11,r12,r13⟩:=auB (K:=⟨aD,dL,bw,A,d,Z⟩) rfl rfl rfl rfl (xe _) W hE Q0 zT a6 a8 a9 Lc ⟨S0,S1,S2,S6,S7,Vn,S9,S10⟩ f2 hEn hp Hg ga aBn yh H3 t2 ((a17.left L3 zM).lf (K:=⟨aD,dL,N,A,d,Z⟩) W.flag W.IP o) ov3;refine⟨O,t',k,j,v,v',r1,(QW.trans q3).trans r2,r3,r4,r5,r6,r7,r8,f<|r9.trans<|b2.trans Vf,λz m=>(a1 z m).trans<|r10 z<|by rw[o.size];grind,bC a2<|by rw[o.size]at r11;exact r11,λz m hF X=>?_,?_⟩;.rw[r12 z (by rw[o.size];grind) hF X,o.blk z X,a3 z m hF X]
  .exact(q.still.trans<|.of L3 zM).trans r13
end
end
end Go.Proofs.YtpdbmpbmepkikaaGreatDoor
