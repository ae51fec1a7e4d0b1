/- Laws. -/
import GoSem.Core.Made
import Derived.Conc.Holds
import Derived.Test.YtpdbmpbmepkikaaGreatDoorQ07
set_option maxRecDepth 100000
set_option maxHeartbeats 400000
set_option linter.all false
open Go.Proofs.Tryz
open Bool renaming true->Y,false->ai
open Go renaming Goroutine->aX,Frame->aZ,undef->ak,World->ay,Value->az,Program->bW,Calls->bz,Oper->dJ,Item->eY,Func->ep,TypeId->ey,FuncId->fq,Operand->iT,runNT->ik
open Go.Act renaming put->cA,eval->er
open Go.CallKind renaming normal->eC
open Go.Conc renaming base->bh,Goes->cK,crowd->dB
open Go.ConcN renaming WgLive->jK
open Go.ConcN.Gen renaming AnchWN->OP
open Go.ConcR renaming mk->jJ
open Go.Ending renaming returned->bj
open Go.Extern renaming findNext->aa5
open Go.Extern.Race renaming none_->aCC
open Go.Frame renaming enter->eW,finish->tV
open Go.IntKind renaming i64->aC,u64->cO
open Go.Item renaming inRegion->aT,code->bF
open Go.Made renaming reckonStruct->akG
open Go.Mark renaming acquire->rz
open Go.MemOp renaming ofEvents->iI
open Go.Obj renaming cells->aH
open Go.Operand renaming tmp->cx
open Go.Proofs.Tryz renaming prog->aF,f41->oB
open Go.Region renaming wanted->eX
open Go.Stepped renaming next->fW
open Go.Trace renaming act?->EH
open Go.Value renaming int->V,pointer->aG,agg->bJ,tuple->bO,bool->bQ,chan->de
open List renaming range->mJ
open Option renaming some->U,none->Z
open Or renaming inr->aA,inl->ax
open Pure renaming pure->bI
open Relation renaming TransGen->tU
namespace Go.Proofs.YtpdbmpbmepkikaaGreatDoor
def ql:=@Go.Conc.stepG_ret'
def awJ:=@Array.mem_iff_getElem?
def Af:=@Option.bind_eq_some_iff
def aha:=@Nat.lt_of_le_of_lt
def ag9:=@Nat.ge_two_pow_of_testBit
def MO:=@List.all_eq_true
def Js:=@List.mem_range
def YN:=@Array.all_eq_true'
def Sq:=@beq_iff_eq
def ag8:=@Bool.not_eq_true'
def Sn:=@Go.Conc.stepG_mark0
def Jr:=@Go.Conc.stepG_markAt
def MN:=@Go.Conc.stepG_load_atomic
section
open Go.Proofs Go.Conc Go.RowKit Go.Conc.Lib Go.ConcR.Gen
open Go.ConcN (upd upd_ne upd_same WgLive sumTo sumTo_congr)
open Go.ConcR (KK WgAt stA smA wgBlock rd wr mk Bk)
theorem fL.kept{ρ}{I}{e cl'}{q}{w v v'}{sp}(M:fL ρ I q e w v)(L:Left e sp v v')(f:∀b,b<v.heap.size->e b=.eV->cl' b=.eV):fL ρ I q cl' w v':=⟨L.os.trans M.os,M.fair,λb c=>cE (M.low b c) L.size,λb o c d=>by obtain⟨i,l⟩:=M.blk b o c d;have a:=(je.1 c).1;exact⟨i,(L.block _ (M.low b a)<|ax<|M.cls b a d).trans l⟩,M.kx,M.B7,λb c d=>f _ (M.low b c)<|M.cls b c d,λA j=>by obtain⟨⟨n,k,m,h⟩,g⟩:=M.arg A j;have a:=(je.1 h).1;exact⟨⟨n,k,m,(L.block _ a<|ax g).trans h⟩,f _ a g⟩⟩
section
variable {C:List aZ} {c:aZ} {T:Array az} {w:ay} {fs:Array ep}
set_option maxHeartbeats 1000000 in
theorem atd(J:T.size=87):cK aF Y (L<|[]++[]) (DH [] []) (λg w=>g=G (c.finish<|bO #[T.getD 6 ak,T.getD 7 ak]) C) 20 (G ((bh 41).at ⟨T,[]⟩<|aT zU []::[bF<|cS 13])<|c::C) w:=by obtain⟨v0,v1,v2,v3,v4,v5,v6,v7,v8,v9,v10,y,v12,lR,oL,QX,oK,oJ,R,mq,v20,U,K,pW,m,n,s,Q3,v28,H,x,v31,X,P,p,pV,l,Z,pU,pS,v40,pR,pQ,pP,M,nU,O,pO,pM,Q0,r,v51,j,i,V,pL,nT,v,Q2,v59,nS,pK,pJ,k,nQ,t,nP,d,q,u,S,e,v72,Q,o,E,v76,W,Q1,QW,h,z,F,nO,B,v85,f,rfl⟩:=pD T J;have a:=trivial;simp only[cS,eN,oB,fV];refine kG (n:=9) ?_;u_c N A a;u_c D A a;u_reg A a;u_op A a;u_op A a;u_op A a;u_op A a;u_c N A a;u_c ql A a;refine I λ_ b=>?_;replace a:=A a b;u_in A a;refine TN (t:=6) (u:=7) rfl rfl func41 (by kernel_rfl) ⟨dh_none<|by simp,?_⟩;exact I λw1 h1=>rfl
theorem awg(d:fs[41]?=vG){w}(a:gw 1 w):cK (J aF fs) Y i AY (λg w=>gw 0 w/\g=G (c.finish<|bO #[T.getD 6 ak,T.getD 7 ak]) C) 20 (G ((bh 41).at ⟨T,[]⟩ [bF vf])<|c::C) w:=by unfold gw at a;simp only[vf,IT,eO];refine kG (n:=2) ?_;u_c D p a;u_reg p a;refine I λ_ b=>?_;replace a:=p a b;u_in p a;refine gh rfl rfl (by k_ne) λK m=>?_;have l:=Qp fs;have f:=gB (o:=0) a rfl;have j:=wT 0 a;go_simp;have e:=Yg (V aC 0) a;refine m _ _ ⟨e.1,?_⟩;replace a:=e.2;refine kG (n:=2) ?_;u_c N p a;u_c ql p a;refine I λ_ b=>?_;replace a:=p a b;u_in p a;refine TN (t:=6) (u:=7) rfl rfl d (by kernel_rfl) ⟨.refl _,?_⟩;exact I λk h=>⟨p a h,rfl⟩
end
section
variable {K:fG} {bw e8 e9 x1 y1 x2 y2:Nat} {fs:Array ep} {I:H} {nm:String->Bool} {Done:aX->ay->Prop} {cL cR:aZ} {B cZ:List aZ}
theorem asu(hP:K.P=aF)(sw:K.L=dQ)(hl:K.live=Y)(sr:K.Wg=bw)(za:Hi bw)(W:E2 fs I nm)(hE:mX (J K.P fs) Done){s0 s:St}{iL ρ:Nat->Nat}{g0:aX}{w0 w:ay}{TL A:Array az}(F:Fin K fs I Done (cL::B) (cR::cZ) s0 iL g0 w0 e8 e9 bw x1 y1 x2 y2 ρ w TL A s)(ho:Over K.n0 s0.T):∃K' t N v v',(K'.P=K.P∧K'.L=K.L∧K'.live=ai)∧s.runs K.P t∧Ok K' 0 t (G (cR.finish v') cZ)∧(t.md=.opn 0∧(∀i,t.role i=Z)∧(∀n,V2 n t.D<=0)∧Over K'.n0 t.T)∧fL ρ I K.P t.cl N t.v∧RV ρ I N.heap.size v v'∧gw 0 N∧Term (J K.P fs) Done (G (cL.finish v) B) N∧lQ (J K.P fs) Done (G (cL.finish v) B,N) (G ((bh 41).at ⟨TL,[]⟩ [bF vf])<|cL::B,w)∧LF w N∧Still s.cl s.v t.cl t.v:=by
 obtain⟨P,L,Wg,n0,fR,live⟩:=K;simp only at hP sw hl sr ho;subst hP sw hl sr;obtain⟨H,m,p,f,QW,e1,e2,l1,l2,⟨k1,Eb⟩,⟨k2,Ao⟩,ho1,ho2⟩:=F.pair;have ov:Over n0 s.T:=by obtain⟨u,hu⟩:=Db F.since.runs;rw[hu];exact ho.app u
 have XR:Bi[2]?=U (Bi[2]?.getD default):=by kernel_rfl
 have n17:Dl[2]?=U (Dl[2]?.getD default):=by kernel_rfl
 have f41:aF.funcs[(bh 41).fn]?.any (·.norace)=ai:=by kernel_rfl
 have M:=F.Fy.hold.inv.own 0 e8 F.m8;obtain⟨Q2,_,q1,H1,rfl,j⟩:=F.Fy.walk (n:=8) (O:=[]) (Rd:=[e8]) (Stop:=λg w=>g=G ((bh 41).at ⟨(A.setIfInBounds 80<|aG<|U e8).setIfInBounds 81<|de<|U x1,[]⟩<|aT Bi [2]::[bF<|cS 11]) (cR::cZ)) λg w h=>by rw[h];rfl (apn F.sR F.t8 F.c8) (by simp) (by simpa using⟨M.2,ax M.1⟩);generalize O:(A.setIfInBounds 80<|aG<|U e8).setIfInBounds 81 (de<|U x1)=T1 at H1;have z1:T1.size=87:=by rw[<-O];simp[F.sR]
 have s1:∀z,z<80->T1[z]?=A[z]?:=λz hz=>by rw[<-O,l<|by omega,l<|by omega]
 have c1:T1[81]?=U (de x1):=by rw[<-O];exact j5<|by rw[uH,F.sR];decide
 have ro1:=j.role;have pr1:kO Q2.role H m p f:=by rw[ro1];exact QW
 have azl:Q2.ch p.aO.c=U ⟨Z,ai,k1⟩:=by rw[j.eZ H p QW.one QW.yu,e1];exact Eb
 have aHf:Q2.ch f.aO.c=U ⟨Z,ai,k2⟩:=by rw[j.eZ m f QW.two QW.nY,e2];exact Ao
 have x:(Q2.D H).stage=9->∃k,Q2.ch p.out=U ⟨Z,ai,k⟩:=λh=>by obtain⟨a,b⟩:=j.outs H p QW.one QW.yu h;rw[a];exact ho1 b
 have aGS:(Q2.D m).stage=9->∃k,Q2.ch f.out=U ⟨Z,ai,k⟩:=λh=>by obtain⟨a,b⟩:=j.outs m f QW.two QW.nY h;rw[a];exact ho2 b
 have Ql:=j.size;refine H1.akT (g':=G ((bh 41).at ⟨T1,[]⟩<|aT Bi []::[bF<|cS 11])<|cR::cZ) rfl pr1 (by grind) rfl (by rfl) rfl (λw1 k Q1=>?_) azl x λt2 q2 H2 Dd vM Qk L2 lN R2 aul cc2 cd2 aFP=>?_
 ·rw[e1]at Q1⊢;have h:(Bi[2]?.map λo=>(o.guard,o.op,o.dst))=U (Z,.call {callee:=.builtin .close,args:=#[cx 81],argTypes:=#[112]},Z):=by kernel_rfl
  rw[XR]at h;simp only[eG,ew,DD]at h;have:=Ur (P:=aF) (main:=Y) (b:=bh 41) (T:=T1) (ds:=[]) (k:=[bF<|cS 11]) (cs:=cR::cZ) (rest:=[]) XR (by unfold eX;rw[h.1]) (by k_ne) h.2.1 c1 f41 Q1;rw[h.2.2]at this;exact this
 have m9:e9∈(t2.D 0).own:=by rw[aul,j.D0];exact F.m9
 have aFL:=H2.hold.inv.own 0 e9 m9;have b9:t2.v.heap[e9]?=ends x2 y2:=by
  have m9':e9∈(Q2.D 0).own:=by grind
  rw[R2.1 e9 m9',j.rest e9 (F.Fy.hold.inv.own 0 e9 F.m9).2 (F.Fy.hold.inv.own 0 e9 F.m9).1<|by simp];exact F.c9
 obtain⟨t3,_,q3,H3,rfl,y⟩:=H2.walk (n:=8) (O:=[]) (Rd:=[e9]) (Stop:=λg w=>g=G ((bh 41).at ⟨(T1.setIfInBounds 82<|aG<|U e9).setIfInBounds 83<|de<|U x2,[]⟩<|aT Dl [2]::[bF<|cS 12]) (cR::cZ)) λg w h=>by rw[h];rfl (apm z1 ((s1 9<|by decide).trans F.t9) b9) (by simp) (by grind);generalize Gx:(T1.setIfInBounds 82<|aG<|U e9).setIfInBounds 83 (de<|U x2)=d at H3;have z2:d.size=87:=by grind
 have s2:∀z,z<80->d[z]?=A[z]?:=λz hz=>by rw[<-Gx,l<|by omega,l<|by omega];exact s1 z hz
 have pr3:kO t3.role H m p f:=by rw[y.role,Dd];exact pr1
 have e:kO t2.role H m p f:=by grind
 have Q0:t3.ch f.aO.c=U ⟨Z,ai,k2⟩:=by rw[y.eZ m f e.two e.nY,cd2];grind
 have aHe:t3.ch p.aO.c=U ⟨Z,Y,k1⟩:=by rw[y.eZ H p e.one e.yu];exact cc2
 have ayX:(t3.D m).stage=9->∃k,t3.ch f.out=U ⟨Z,ai,k⟩:=λh=>by obtain⟨a,b⟩:=y.outs m f e.two e.nY h;grind
 have sz3:=y.size.trans<|Qk.trans Ql;refine H3.akT (g':=G ((bh 41).at ⟨d,[]⟩<|aT Dl []::[bF<|cS 12])<|cR::cZ) rfl pr3.swap (by grind) rfl (by rfl) rfl (λw1 k Q1=>?_) Q0 ayX λt4 q4 H4 ro4 Ry sz4 L4 KB R4 aFM cc4 cd4 aFO=>?_
 ·rw[e2]at Q1⊢;have h:(Dl[2]?.map λo=>(o.guard,o.op,o.dst))=U (Z,.call {callee:=.builtin .close,args:=#[cx 83],argTypes:=#[112]},Z):=by kernel_rfl
  rw[n17]at h;simp only[eG,ew,DD]at h;have:=Ur (P:=aF) (main:=Y) (b:=bh 41) (T:=d) (ds:=[]) (k:=[bF<|cS 12]) (cs:=cR::cZ) (rest:=[]) n17 (by unfold eX;rw[h.1]) (by k_ne) h.2.1 (by grind) f41 Q1;rw[h.2.2]at this;exact this
 have q:kO t4.role H m p f:=by grind
 obtain⟨C,_,q5,H5,rfl,E⟩:=H4.walk (n:=8) (O:=[]) (Rd:=[]) (Stop:=λg w=>g=G ((bh dQ.wait).at ⟨#[aG<|U Wg,ak,ak,ak,ak,ak,ak,ak,ak,ak,ak,ak,ak,ak,ak,ak,ak,ak,ak,ak,ak,ak,ak,ak,ak,ak,ak,ak,ak,ak,ak,ak,ak,ak,ak,ak,ak,ak,ak,ak,ak,ak,ak,ak,ak,ak,ak,ak,ak,ak,ak,ak,ak,ak,ak,ak,ak,ak,ak,ak,ak,ak,ak,ak,ak,ak,ak,ak,ak,ak,ak,ak,ak,ak,ak,ak,ak,ak,ak,ak,ak,ak,ak,ak],[]⟩ [bF<|body_wait dQ]) ((bh 41).at ⟨d,[]⟩ (aT zU [0]::[bF<|cS 13])::cR::cZ)) λg w h=>by rw[h];rfl (apl<|(s2 10<|by decide).trans F.t10) (by simp) (by simp);have pr5:kO C.role H m p f:=by rw[E.role];exact q
 have mD:A1 C.role C.ch:=by
  intro i r hr hi;rcases pr5.Ff hr (FT hi)with⟨rfl,rfl⟩|⟨rfl,rfl⟩;·exact⟨⟨Z,Y,k1⟩,by rw[E.eZ i r q.one q.yu,cd4];grind,rfl⟩
  ·exact⟨⟨Z,Y,k2⟩,by rw[E.eZ i r q.two q.nY];exact cc4,rfl⟩
 have QX:s.runs aF C:=(((q1.trans q2).trans q3).trans q4).trans q5;have ov5:Over n0 C.T:=by obtain⟨u,hu⟩:=Db QX;rw[hu];exact ov.app u
 have sz5:=E.size.trans<|sz4.trans sz3;have lt5:∀i r,C.role i=U r->i<C.gs.size:=λi r hr=>by rcases pr5.all i r hr with rfl|rfl|rfl;all_goals grind
 have Q3:jK dQ.tWg Wg C.v:=H5.hold.inv.live rfl;refine H5.am6 (Hd:=OP dQ (λ_=>True) Wg ((bh 41).at ⟨d,[]⟩<|aT zU [0]::[bF<|cS 13])<|cR::cZ) rfl (E.md.trans<|Ry.trans<|y.md.trans<|vM.trans<|j.md.trans F.md) mD ov5 lt5 (λg w h=>za _ _ _ _ _ _ _ _ _ h) (am7 Fg C.v Q3) λK6 t6 q6 H6 hP6 hL6 hl6 Xm ho6 Dc Rx L6 im6 Ii=>?_;have ayN:cA ⟨d,[]⟩ (zU[0]?.bind (·.dst)) (bO #[])=⟨d.setIfInBounds 84<|bO #[],[]⟩:=by
  have:zU[0]?.bind (·.dst)=U 84:=by kernel_rfl
  rw[this];rfl
 rw[ayN]at H6;obtain⟨X,_,q7,H7,rfl,R,d7,c7⟩:=H6.walk (n:=20) (O:=[]) (Rd:=[]) (Stop:=λg w=>g=G (cR.finish<|bO #[(d.setIfInBounds 84<|bO #[]).getD 6 ak,(d.setIfInBounds 84<|bO #[]).getD 7 ak]) cZ) λg w h=>by rw[h];rfl (by grind[atd]) (by simp) (by simp);obtain⟨_,N,⟨fl,rfl⟩,t',b',Q⟩:=Term.goes hE LF.refl LF.trans LF.Bm (λ_ _ _ h=>h) (awg (C:=B) (c:=cL) (T:=TL) W.f41 F.flag) F.term;obtain⟨H8,hV8⟩:=H7.trim hl6 (λi=>by rw[R.role];grind);have F8:∀z,z=6∨z=7->(d.setIfInBounds 84<|bO #[]).getD z ak=A.getD z ak:=λz hz=>by rw[iE,iE,l<|by omega,s2 z<|by omega]
 refine⟨K6,{X with D:=uw X.gs.size X.D},N,bO #[TL.getD 6 ak,TL.getD 7 ak],bO #[A.getD 6 ak,A.getD 7 ak],⟨hP6,hL6,hl6⟩,(QX.trans q6).trans<|by rw[hP6]at q7;exact q7,by grind,⟨R.md.trans Rx,λi=>by show X.role i=Z;rw[R.role];grind,λn=>xF<|hV8 n,?_⟩,(((((((F.eV.left j.left j.cls).left L2 lN).left y.left y.cls).left L4 KB).left E.left E.cls).kept L6 λb hb hi=>im6 b hb _ (ax rfl) hi).left R.left R.cls).lf (K:=⟨aF,dQ,Wg,n0,fR,Y⟩) W.flag W.Hg Q,?_,fl,t',b',Q,?_⟩;·obtain⟨u,hu⟩:=Db q7;show Over K6.n0 X.T;rw[hu];exact Xm.app u
 ·rw[Q.size];obtain⟨a1,a2⟩:=F.six;obtain⟨b1,b2⟩:=F.seven;refine⟨?_,?_⟩;·grind[S,qb,oP,Bool.and_self]
  ·rw[a2,b2];rfl
 ·exact((((((Still.of j.left j.cls).trans<|.of L2 lN).trans<|.of y.left y.cls).trans<|.of L4 KB).trans<|.of E.left E.cls).trans ⟨L6.out,L6.size,λb hb hc=>⟨L6.block b hb<|aA<|ax hc,im6 b hb _ (aA rfl) hc⟩⟩).trans<|.of R.left R.cls
end
theorem wJ{T:Array az}{t}(h:t<T.size):T[t]?=T.getD t ak:=by rw[iE,iy h];rfl
theorem RV.addr{ρ}{I}{N}{a}{x}(h:RV ρ I N (aG<|U a) x):x=aG (dH ρ a)/\I.blk N a.block=Y:=by obtain⟨c,b⟩:=h;refine⟨by rw[b];rfl,?_⟩;grind[S]
section
variable {K:fG} {fs:Array ep} {I:H} {nm:String->Bool} {Done:aX->ay->Prop} {cL cR:aZ} {B cZ:List aZ}
set_option maxHeartbeats 4000000 in
theorem ast(hP:K.P=aF)(sw:K.L=dQ)(hl:K.live=Y){bw e8 e9 x1 y1 x2 y2 b2 b3 c2 c3 jf}(sr:K.Wg=bw)(za:Hi bw)(W:E2 fs I nm)(hE:mX (J K.P fs) Done)(jX:∀g w,Done g w->g.callers=[]){s}{ρ}{w}{T TL}{a b}{mv}(hT:T.size=87)(hTL:TL.size=87)(h0:TL[0]?=U (.pointer a))(h1:TL[1]?=U (.pointer b))(hA:lE ρ I w.heap.size S8 TL T)(hS:alR T (dH ρ a) (dH ρ b) mv e8 e9 bw)(hF:gw 1 w)(hEn:UX s.v (s.D 0).own e8 e9 x1 y1 x2 y2)(hp:kO s.role jf (jf+1) (wk bw b2 b3 x1 y1<|dH ρ a)<|wk bw c2 c3 x2 y2<|dH ρ b)(Gc:s.role 0=Z)(fo:s.gs.size=jf+2)(nA:s.md=.opn 0)(c:s.ch x1=U ⟨Z,ai,0⟩∧s.ch y1=U ⟨Z,ai,0⟩∧s.ch x2=U ⟨Z,ai,0⟩∧s.ch y2=U ⟨Z,ai,0⟩)(Q2:Ok K 0 s<|G ((bh 41).at ⟨T,[]⟩ [.code<|cS 7])<|cR::cZ)(tr:Term (J K.P fs) Done (G ((bh 41).at ⟨TL,[]⟩ [.inRegion ni [0,1,2,3,4,5,6,7],.code Bd])<|cL::B) w)(M:fL ρ I K.P s.cl w s.v)(ho:Over K.n0 s.T):∃K' t A Q0 v v',(K'.P=K.P∧K'.L=K.L∧K'.live=ai)∧s.runs K.P t∧Ok K' 0 t (G (cR.finish v') cZ)∧(t.md=.opn 0∧(∀QW,t.role QW=Z)∧(∀n,V2 n t.D<=0)∧Over K'.n0 t.T)∧fL A I K.P t.cl Q0 t.v∧RV A I Q0 v v'∧gw 0 Q0∧Term (J K.P fs) Done (G (cL.finish v) B) Q0∧lQ (J K.P fs) Done (G (cL.finish v) B,Q0) (G ((bh 41).at ⟨TL,[]⟩ [.inRegion ni [0,1,2,3,4,5,6,7],.code Bd])<|cL::B,w)∧(∀z,z<w.heap.size->ρ z=A z)∧w.heap.size<=Q0∧(∀z,z<w.heap.size->I.F z=ai->z≠4->Q0.heap[z]?=w.heap[z]?)∧Still s.cl s.v t.cl t.v:=by
 obtain⟨P,L,N,Q1,d,live⟩:=K;simp only at hP sw hl sr ho;subst hP sw hl sr;have SR:∀fr w,¬Done (G fr<|cL::B) w:=λfr w hd=>by have:=jX _ _ hd;cases this
 obtain⟨t1,_,q1,H1,rfl,K1,D1,C1⟩:=Q2.walk (n:=(aex (T:=T) (C:=cR::cZ) s.v).choose) (O:=[]) (Rd:=[]) (Stop:=λg w=>g=G ((bh 41).at ⟨T,[]⟩<|.inRegion ni [0,1,2,3,4,5,6,7]::xL) (cR::cZ)) λg w h=>by rw[h];rfl (aex (T:=T) (C:=cR::cZ) s.v).choose_spec (by simp) (by simp);obtain⟨t2,U3,w2,m,AN,a1,a2,a3,a4,a5,a6,a7,a8,a9,UH,UG,a12,UF⟩:=Ok.IZ (K:=⟨aF,dQ,N,Q1,d,Y⟩) (rest:=[5,6,7]) hE SR [0,1,2,3,4] (S:=S8) av3 H1 tr (M.left K1.left K1.cls) hA (by rw[hTL,hT]);have o:=a5.trans hTL;have j:=a6.trans hT;rw[aAT]at a4;have d8:tR (eU<|cS 7) [0,1,2,3,4]=[36,37,38,39,40]:=by kernel_rfl
 obtain⟨n3,g3⟩:=awp (C:=cL::B) (k:=[.code Bd]) W.f60 o ⟨wJ<|by rw[o];decide,wJ<|by rw[o];decide⟩<|Kn hF W.flag a3;obtain⟨_,w3,⟨fl3,rfl⟩,u3,b3',l3⟩:=Term.goes hE LF.refl LF.trans LF.Bm (λ_ _ _ h=>h) g3 a8;obtain⟨t3,_,q3,H3,rfl,K3,D3,C3⟩:=a12.walk (n:=(aey (T:=AN) (C:=cR::cZ) j ⟨wJ (t:=36)<|by rw[j];decide,wJ (t:=40)<|by rw[j];decide⟩ t2.v).choose) (O:=[]) (Rd:=[]) (Stop:=λg w=>g=G (eW aF 60 #[AN.getD 36 ak,AN.getD 40 ak] .normal) ((bh 41).at ⟨AN,[]⟩ (.inRegion ni [5,6,7]::xL)::cR::cZ)) λg w h=>by rw[h];rfl (aey (T:=AN) (C:=cR::cZ) j ⟨wJ (t:=36)<|by rw[j];decide,wJ (t:=40)<|by rw[j];decide⟩ t2.v).choose_spec (by simp) (by simp);have has:bD U3 I w3 #[m.getD 36 ak,m.getD 40 ak] #[AN.getD 36 ak,AN.getD 40 ak]:=by
  obtain⟨x1',U7⟩:=a4 36 (by decide);obtain⟨U6,U5⟩:=a4 40 (by decide);rw[l3.size];refine⟨λv hv=>?_,?_⟩
  ·simp only[fP,dj,dP,dY]at hv;rcases hv with rfl|rfl;·exact x1'
   ·exact U6
  ·rw[U7,U5];simp
 obtain⟨t4,ρ4,w4,x,x',c1,cc2,cc3,fl4,hx,u4,tg4,q4,d4,H4,M4⟩:=phase (K:=⟨aF,dQ,N,Q1,d,Y⟩) rfl W hE jX W.t60 ⟨_,_,func60,rfl⟩ (bL:=(bh 41).at ⟨m,[]⟩<|.inRegion ni [5,6,7]::[.code Bd]) (B:=cL::B) (by simp) has H3 u3 ((UF.left K3.left K3.cls).lf (K:=⟨aF,dQ,N,Q1,d,Y⟩) W.flag W.Hg l3) fl3;have o5:ni[5]?.bind (·.dst)=U 41:=by kernel_rfl
 have hfL:tV ((bh 41).at ⟨m,[]⟩<|.inRegion ni [5,6,7]::[.code Bd]) x=(bh 41).at ⟨m.setIfInBounds 41 x,[]⟩ (.inRegion ni [6,7]::[.code Bd]):=by rw[Jv,o5];rfl
 have hfR:tV ((bh 41).at ⟨AN,[]⟩<|.inRegion ni [5,6,7]::xL) x'=(bh 41).at ⟨AN.setIfInBounds 41 x',[]⟩ (.inRegion ni [6,7]::xL):=by rw[Jv,o5];rfl
 rw[hfL]at u4 tg4;rw[hfR]at H4;have KQ:=λz e=>c1 z (by rw[l3.size];exact e);have E:w2.heap.size<=w4:=by rw[<-l3.size];exact cc2
 have hA4:lE ρ4 I w4 (41::S8) (m.setIfInBounds 41 x)<|AN.setIfInBounds 41 x':=by exact((a4.sub (S':=S8)<|by decide).mono KQ E).put (by rw[o,j]) hx (U 41) [] []
 obtain⟨t5,O,w5,q,TR5,e1,e2,e3,e4,e5,e6,e7,e8',e9',e10,e11,e12,e13⟩:=Ok.IZ (K:=⟨aF,dQ,N,Q1,d,Y⟩) (rest:=[]) hE SR [6,7] (S:=41::S8) av2 H4 u4 M4 hA4 (by simp[o,j]);rw[aAS]at e4;have d8b:tR (eU<|cS 7) [6,7]=[12,13]:=by kernel_rfl
 have D:q.size=87:=by rw[e5];simp[o]
 have slL:∀z,z=0∨z=1->q[z]?=TL[z]?:=λz e=>by rw[(e7 z<|by rw[d8b];rcases e with rfl|rfl<;>decide).1,l<|by omega,(a7 z<|by rw[d8];rcases e with rfl|rfl<;>decide).1]
 have QX:∀z,z=8∨z=9∨z=10->TR5[z]?=T[z]?:=λz e=>by rw[(e7 z<|by rw[d8b];rcases e with rfl|rfl|rfl<;>decide).2,l<|by omega,(a7 z<|by rw[d8];rcases e with rfl|rfl|rfl<;>decide).2]
 obtain⟨S0,S1,S2,S6,S7,UM,S9,S10⟩:=hS;have f:=((((K1.AB D1 C1).trans UG).trans<|K3.AB D3 C3).trans d4).trans e11;have y:=λz e=>f.own z (Q2.hold.inv.own 0 z e).2 (Q2.hold.inv.own 0 z e).1;obtain⟨⟨n8,n9⟩,m8,m9,avh⟩:=hEn;obtain⟨t6,T6,f14,f15,q6,H6,R,C6,z6,s6,⟨p14,p15⟩,⟨o14,o15,nff,aGf,aGe⟩,mO,mM⟩:=atg (K:=⟨aF,dQ,N,Q1,d,Y⟩) rfl e12 (by rw[e6];simp[j]) ⟨(QX 8<|by simp).trans UM,(QX 9<|by simp).trans S9⟩ ⟨⟨(y e8 m8).trans n8,(y e9 m9).trans n9⟩,by rw[f.D];exact m8,by rw[f.D];exact m9,avh⟩;obtain⟨_,w6,rfl,u6,b6,S⟩:=Term.goes hE i.refl i.trans (λ_ _ h=>h) (λ_ _ _ h=>h) (awo (C:=cL::B) (fs:=fs) (k:=[]) D ⟨(slL 0<|by simp).trans h0,(slL 1<|by simp).trans h1⟩) e8';have C:=λz e=>(a1 z e).trans<|(KQ z<|cE e a2).trans<|e1 z<|cE e<|bC a2 E;have Q3:w.heap.size<=w5:=by grind
 obtain⟨q0,ok0⟩:=(RV.addr (a:=a)<|by have:=hA 0 (by decide);rwa[getD_some h0]at this);obtain⟨q1',ok1⟩:=(RV.addr (a:=b)<|by have:=hA 1 (by decide);rwa[getD_some h1]at this);have k:∀z∈(s.D 0).own,t6.v.heap[z]?=s.v.heap[z]?∧z∈(t6.D 0).own∧z<t5.v:=λz e=>by
  have lZ:z∈(t5.D 0).own:=by rw[f.D];exact e
  have hi:=e12.hold.inv.own 0 z lZ;exact⟨(R.rest z hi.2 hi.1<|by simp).trans<|y z e,R.own z lZ,hi.2⟩
 have Dc:=R.role.trans f.role;have Q:=C6.trans f.ch;have Ii:=R.size.trans<|f.size.trans fo;have fl5:=Kn fl4 W.flag e3;have z6L:((q.setIfInBounds 14<|.pointer a).setIfInBounds 15<|.pointer b).size=87:=by simp[D]
 have X:nJ ⟨aF,dQ,N,Q1,d,Y⟩ fs I Done (cL::B) (cR::cZ) t6 O (G ((bh 41).at ⟨(q.setIfInBounds 14<|.pointer a).setIfInBounds 15<|.pointer b,[]⟩<|.code od::jU)<|cL::B) w6 (.code od::jU) (.code kW::om) e8 e9 N f14 f15 x1 y1 x2 y2 jf (jf+1) a b (dH O a) (dH O b) x1 y1 x2 y2 b2 b3 c2 c3 O w6 ((q.setIfInBounds 14<|.pointer a).setIfInBounds 15<|.pointer b) T6 t6:=by
  refine⟨H6,u6,(e13.left R.left R.cls).re (K:=⟨aF,dQ,N,Q1,d,Y⟩) S,λz e=>?_,z6L,fl5.tape S,?_,?_,?_,?_,rfl,rfl,⟨z6,?_,?_,?_,p14,p15⟩,⟨⟨?_,?_,mO,mM,(k e8 m8).2.1,(k e9 m9).2.1,o14,o15,nff,?_⟩,?_,by rw[Ii];omega,by rw[Ii];omega,λr hr=>(by rw[Dc,Gc]at hr;cases hr),⟨0,by rw[Q];exact c.1⟩,⟨0,by rw[Q];exact c.2.1⟩,⟨0,by rw[Q];exact c.2.2.1⟩,⟨0,by rw[Q];exact c.2.2.2⟩,R.md.trans<|f.md.trans nA,.inl ⟨rfl,rfl,rfl,rfl⟩⟩,.refl _ _ _ _⟩
  ·have h41:∀z∈rD,z∈[13,12,41,0,1,2,6,7]∧z≠14∧z≠15∧z≠42∧z≠43:=by decide
   obtain⟨TJ,h2',h3',h4',h5'⟩:=h41 z e;have:=e4 z TJ;rw[S.heap];rw[iE,iE]at this⊢;rw[l<|uO h3',l<|uO h2',s6 z h2' h3' h4' h5'];exact this
  ·rw[l<|by decide];exact j5<|by rw[D];decide
  ·exact j5<|by rw[uH,D];decide
  ·rw[S.heap];exact H.eD ok0 Q3
  ·rw[S.heap];exact H.eD ok1 Q3
  ·rw[s6 8 (by decide) (by decide) (by decide)<|by decide];exact(QX 8<|by simp).trans UM
  ·rw[s6 9 (by decide) (by decide) (by decide)<|by decide];exact(QX 9<|by simp).trans S9
  ·grind
  ·grind
  ·grind
  ·have:=(k e8 m8).2.2;have:=(k e9 m9).2.2;refine⟨?_,?_,?_,?_⟩<;>omega
  ·rw[Dc,<-IJ ok0 C,<-IJ ok1 C];exact hp
 have p:s.runs aF t6:=((((q1.trans UH).trans q3).trans q4).trans e10).trans q6;have Xm:Over Q1 t6.T:=by obtain⟨u,hu⟩:=Db p;rw[hu];exact ho.app u
 have aBv:∀z,z<w.heap.size->I.F z=ai->z≠4->w6.heap[z]?=w.heap[z]?:=λz e hF h4=>by have z2:=cE e a2;have z4:=cE z2 E;rw[S.heap,e3 z z4 hF,cc3 z (by rw[l3.size];exact z2) hF,l3.blk z h4,a3 z e hF]
 refine apM (K:=⟨aF,dQ,N,Q1,d,Y⟩) rfl rfl rfl rfl W hE jX (by simp) (λA Q0 Pg UK t F=>?_) _ u6.acc.transGen rfl X;obtain⟨K',t',w'',v,v',p1,p2,p3,p4,p5,p6,p7,p8,p9,p10,p11⟩:=asu (K:=⟨aF,dQ,N,Q1,d,Y⟩) rfl rfl rfl rfl za W hE F Xm;have ag6:=λz e=>(C z e).trans (F.since.KP z<|by rw[S.heap];grind);have szF:w.heap.size<=Q0:=bC Q3 (by have:=F.since.ux;rw[S.heap]at this;grind);refine⟨K',t',A,w'',v,v',p1,(p.trans F.since.runs).trans p2,p3,p4,p5,p6,p7,p8,p9.trans<|F.since.back.trans<|b6.trans<|e9'.trans<|lQ.trans (.inr tg4)<|b3'.trans a9,ag6,by rw[p10.size];exact szF,λz e hF h4=>?_,?_⟩;·rw[p10.blk z h4,F.since.sC z (by rw[S.heap];grind) hF h4,aBv z e hF h4]
 ·exact((f.still.trans<|.of R.left R.cls).trans F.since.out).trans p11
theorem QK(hP:K.P=aF)(sw:K.L=dQ)(hl:K.live=ai)(GH:∀N,Fe N)(za:∀N,Hi N)(W:E2 fs I nm)(hE:mX (J K.P fs) Done)(Q0:∀g w,Done g w->g.callers=[]){s:St}{ρ:Nat->Nat}{w:ay}{x0 x1 x2:az}(h0:S I w.heap.size x0=Y/\S I w.heap.size x1=Y/\S I w.heap.size x2=Y)(H:Ok K 0 s<|r (eW K.P 41 #[F ρ x0,F ρ x1,F ρ x2] eC)<|cR::cZ)(tr:Term (J K.P fs) Done (r (eW (J K.P fs) 41 #[x0,x1,x2] eC)<|cL::B) w)(M:fL ρ I K.P s.cl w s.v)(Q:gw 0 w)(nA:s.md=.opn 0)(hr:∀i,s.role i=Z)(hV:∀n,V2 n s.D<=0)(ho:Over K.n0 s.T):∃O t k j v v',(O.P=K.P/\O.L=K.L/\O.live=ai)/\s.runs K.P t/\Ok O 0 t (G (cR.finish v') cZ)/\(t.md=.opn 0/\(∀i,t.role i=Z)/\(∀n,V2 n t.D<=0)/\Over O.n0 t.T)/\fL k I K.P t.cl j t.v/\RV k I j.heap.size v v'/\gw 0 j/\Term (J K.P fs) Done (G (cL.finish v) B) j/\tU (qF (J K.P fs) Done) (G (cL.finish v) B,j) (r (eW (J K.P fs) 41 #[x0,x1,x2] eC)<|cL::B,w)/\(∀z,z<w.heap.size->ρ z=k z)/\w.heap.size<=j.heap.size/\(∀z,z<w.heap.size->I.F z=ai->z≠4->j.heap[z]?=w.heap[z]?)/\Still s.cl s.v t.cl t.v:=by
 obtain⟨P,L,N,A,d,live⟩:=K;simp only at hP sw hl ho;subst hP sw hl;have Q3:∀fr w,¬Done (G fr<|cL::B) w:=λfr w hd=>by have:=Q0 _ _ hd;cases this
 have f:∀{v:az}{j:ay},lQ (J aF fs) Done (G (cL.finish v) B,j) (r (eW (J aF fs) 41 #[x0,x1,x2] eC)<|cL::B,w)->tU (qF (J aF fs) Done) (G (cL.finish v) B,j) (r (eW (J aF fs) 41 #[x0,x1,x2] eC)<|cL::B,w):=λh=>by
  rcases h with e|h;.exfalso;have:=congrArg (λx=>x.1.callers.length) e;simp[G,r]at this
  .exact h
 obtain⟨t1,l,w1,TL,y,a,b,a1,a2,a3,a4,a5,a6,a7,⟨a8,a9,UH,UG⟩,R,UF,QW,q,a16,a17⟩:=ass (K:=⟨aF,dQ,N,A,d,ai⟩) rfl hE Q3 W.f41 W.flag W.Hg h0 H tr M Q;have p:∀i,t1.role i=Z:=λi=>by rw[q.role];exact hr i
 have QZ:=q.md.trans nA;have ov1:Over A t1.T:=by obtain⟨u,hu⟩:=Db QW;rw[hu];exact ho.app u
 obtain⟨QY,E⟩:=apA (fs:=fs) (C:=cL::B) hE Q3 R;have Q1:TL[22]?=U (bQ QY):=by rw[wJ<|by rw[a6];decide,E]
 have C:y[22]?=U (bQ QY):=by rw[wJ<|by rw[a7];decide,(RV.bool (a5 22<|by decide) QY).1 E]
 cases QY with|true=>
  obtain⟨n,g⟩:=awf (fs:=fs) (c:=cL) (C:=B) (ops:=eU<|cS 1) W.f41 a6 ⟨UH,UG,Q1⟩ a4;obtain⟨_,w2,⟨f2,rfl⟩,t2,b2,o⟩:=Term.goes hE LF.refl LF.trans LF.Bm (λ_ _ _ h=>h) g R;obtain⟨n',g'⟩:=atc (c:=cR) (C:=cZ) (ops:=eU<|cS 1) a7 C t1.v;obtain⟨Q2,_,q3,H3,rfl,QX,D3,C3⟩:=a16.walk (n:=n') (O:=[]) (Rd:=[]) (Stop:=λg w=>g=G (cR.finish<|bO #[V aC 0,V aC 0]) cZ) λg w h=>by rw[h];rfl g' (by simp) (by simp);obtain⟨H8,hV8⟩:=H3.trim rfl (λi=>by rw[QX.role];exact p i);refine⟨_,{Q2 with D:=uw Q2.gs.size Q2.D},l,w2,bO #[V aC 0,V aC 0],bO #[V aC 0,V aC 0],⟨rfl,rfl,rfl⟩,QW.trans q3,H8,⟨QX.md.trans QZ,λi=>by show Q2.role i=Z;rw[QX.role];exact p i,λn=>xF<|hV8 n,?_⟩,(a17.left QX.left QX.cls).lf (K:=⟨aF,dQ,N,A,d,Y⟩) W.flag W.Hg o,RV.plain rfl,f2,t2,f<|b2.trans UF,a1,by rw[o.size];exact a2,λz m hF X=>(o.blk z X).trans<|a3 z m hF X,?_⟩;.obtain⟨u,hu⟩:=Db q3;show Over A Q2.T;rw[hu];exact ov1.app u
  .exact q.still.trans<|.of QX.left QX.cls|false=>
  obtain⟨n,g⟩:=awd (fs:=fs) (C:=cL::B) (ops:=eU<|cS 1) a6 Q1 a4;obtain⟨_,w2,⟨f2,rfl⟩,t2,b2,o⟩:=Term.goes hE LF.refl LF.trans LF.Bm (λ_ _ _ h=>h) g R;have rv:∀z,z∈[0,1,2,6,7]->RV l I w1 (TL.getD z ak) (y.getD z ak):=λz m=>a5 z<|vO _ m;have e0:y[0]?=U (aG<|dH l a):=by rw[wJ<|by grind];have:=rv 0 (by decide);rw[getD_some a8]at this;rw[this.2];rfl
  have e1:y[1]?=U (aG<|dH l b):=by rw[wJ<|by rw[a7];decide];have:=rv 1 (by decide);rw[getD_some a9]at this;rw[this.2];rfl
  have e2:y[2]?=y.getD 2 ak:=wJ (by grind);have e6:y[6]?=U (V aC 0):=by rw[wJ<|by rw[a7];decide];have:=rv 6 (by decide);rw[getD_some UH]at this;rw[this.2];rfl
  have e7:y[7]?=U (V aC 0):=by rw[wJ<|by grind];have:=rv 7 (by decide);rw[getD_some UG]at this;rw[this.2];rfl
  obtain⟨H1',aAa⟩:=a16.trim rfl p;refine ap2 (K:=⟨aF,dQ,N,A,d,ai⟩) rfl rfl rfl GH a7 ⟨e0,e1,e2,e6,e7,C⟩ H1' QZ p (λn=>xF<|aAa n) λQ2 bw e8 e9 p1 q1 p2 q2 c2 c3 d2 d3 T q3 H3 zT hS hEn lg hp Gc fo azd xV L3 zm=>?_;have ov3:Over A Q2.T:=by obtain⟨u,hu⟩:=Db q3;rw[hu];exact Over.app ov1 u
  obtain⟨S0,S1,S2,S6,S7,UM,S9,S10⟩:=hS;have Kk:lE l I w2 S8 TL T:=by
   intro z m;rw[o.size];have h1:=rv z (by grind[S8]);have e:T.getD z ak=y.getD z ak:=by simp only[S8,dj,dP,dY]at m;rcases m with rfl|rfl|rfl|rfl|rfl;all_goals grind[getD_some]
   rw[e];exact h1
  obtain⟨O,t',k,j,v,v',r1,r2,r3,r4,r5,r6,r7,r8,r9,r10,r11,r12,r13⟩:=ast (K:=⟨aF,dQ,bw,A,d,Y⟩) rfl rfl rfl rfl (za _) W hE Q0 zT a6 a8 a9 Kk ⟨S0,S1,S2,S6,S7,UM,S9,S10⟩ f2 hEn hp Gc fo azd xV H3 t2 ((a17.left L3 zm).lf (K:=⟨aF,dQ,N,A,d,Y⟩) W.flag W.Hg o) ov3;refine⟨O,t',k,j,v,v',r1,(QW.trans q3).trans r2,r3,r4,r5,r6,r7,r8,f<|r9.trans<|b2.trans UF,λz m=>(a1 z m).trans<|r10 z<|by rw[o.size];grind,bC a2<|by rw[o.size]at r11;exact r11,λz m hF X=>?_,?_⟩;.rw[r12 z (by rw[o.size];grind) hF X,o.blk z X,a3 z m hF X]
  .exact(q.still.trans<|.of L3 zm).trans r13
end
def Pv:Nat->dw:=λi=>if i=0 then⟨9,0,[],0⟩else⟨1,0,[],0⟩
theorem aEu(n):V2 n Pv=0:=by
 unfold V2;rw[zY (g:=λ_=>0) λi _=>?_];.exact Fw _
 .unfold gq Pv;grind
theorem Ok.start(P)(L)(s)(v)(a)(sl):Ok ⟨P,L,0,0,λ_=>False,ai⟩ 0 ⟨λ_=>Z,.opn 0,λ_=>Z,s,Pv,#[],#[a],v,sl⟩ a:=by
 have d:∀{l:Type}{r:l},(Z:Option l)=r->False:=by grind
 refine⟨⟨⟨λi g y z=>?_,λi e=>?_,λ_ _=>rfl,⟨λk o=>?_,λi x b h=>?_,λt w=>?_⟩,λi b A=>?_,λc f h=>(d h).elim,λi r h=>(d h).elim,λi r h=>(d h).elim,λi j r q h=>(d h).elim,λh=>(by cases h),λh=>(by cases h),λi r h=>(d h).elim,λi h=>?_,λu t h=>?_,Nat.one_pos,λi r h=>(d h).elim⟩,⟨λi r h=>(d h).elim,λi r f h=>(d h).elim,λi j r q h=>(d h).elim,λi r h=>(d h).elim,λn=>?_⟩,λj r f h=>(d h).elim,λp h=>?_⟩,rfl,λj r h=>(d h).elim,rfl,rfl,⟨0,rfl⟩,λ_=>rfl⟩;.grind
 .simp at e;subst e;rfl
 .obtain⟨i,j,h⟩:=o;obtain⟨_,⟨a,b,m,_⟩,_⟩:=h;simp[EH]at m
 .simp[touchAt,EH]at h
 .grind
 .grind[Pv]
 .simp[EH]at h
 all_goals grind[aEu]
theorem am3{P}{v x}(h:r ((wall P).finish x) []=r ((wall P).finish v) []):x=v:=by have:=congrArg (λg=>g.frame.todo) h;simpa[r,wall,tV]using this
structure Twin(fs:Array ep)(I I2:H)(nm:String->Bool):Prop where
 pair:E2 fs I nm
 ava:∀f,I.T f=Y->aF.inits.idxOf? f=Z
 Yl:nM I2 (J aF fs) fs nm
 asL:Same I2 (J aF fs) fs nm (λ_=>False)aCz:∀f n,I2.cut f n=ai
 aD6:I2.arg=Z/\∀f,I2.DF f=ai
section
variable {fs:Array ep} {I I2:H} {nm:String->Bool}
set_option maxHeartbeats 4000000 in
theorem aCK(GH:∀Wg,Fe Wg)(za:∀Wg,Hi Wg)(W:Twin fs I I2 nm){R:az->ay->Prop}{Post:az->ay->Prop}{w0:ay}{s0:St}(ayO:∀v v' w1 v1 ρ cl,R v w1->RV ρ I w1.heap.size v v'->fL ρ I aF cl w1 v1->w0.heap.size<=w1.heap.size->(∀z,z<w0.heap.size->ρ z=z)->v1.output=s0.v.output->(∀b,b<s0.v.heap.size->s0.cl b=.old->v1.heap[b]?=s0.v.heap[b]?)->Post v' v1):∀(y:aX×ay),_root_.Acc (tU<|qF (J aF fs)<|AX (J aF fs) R) y->∀{K:fG}{s:St}{ρ:Nat->Nat}{w:ay}{fr fr':aZ}{cs cs':List aZ},y=(r fr<|cs++[wall<|J aF fs],w)->K.P=aF->K.L=dQ->K.live=ai->s0.runs aF s->Ok K 0 s (r fr'<|cs'++[])->s.md=.opn 0->(∀i,s.role i=Z)->Over K.n0 s.T->Term (J aF fs) (AX (J aF fs) R) (r fr<|cs++[wall<|J aF fs]) w->jN ρ I aF nm w.heap.size fr fr'->gZ ρ I aF nm w.heap.size cs cs'->fL ρ I aF s.cl w s.v->gw 0 w->w0.heap.size<=w.heap.size->(∀z,z<w0.heap.size->ρ z=z)->Still s0.cl s0.v s.cl s.v->∃t o p t' ops,s0.runs aF t/\stepT aF (dB t.gs t.v t.sl)=(.ended o p,ops)/\t'=t.T++ops/\Go.Conc.Good aF Post (dB t.gs t.v t.sl) o p t':=by intro y acc;induction acc with|intro y _ ih=>
  intro K s ρ w fr fr' cs cs' hy hP sw hl m H nA oZ hov tr yY iz M C X rX k;obtain⟨P,L,Wg,n0,j,live⟩:=K;simp only at hP sw hl hov;subst hP sw hl;have O:∀g w,AX (J aF fs) R g w->g.callers=[]:=λg w h=>by obtain⟨v,rfl,_⟩:=h;rfl
  have hE:=aB7 (J aF fs) R;have SR:∀fr cs w,¬AX (J aF fs) R (r fr<|cs++wall (J aF fs)::[]) w:=λfr cs w h=>by have:=O _ _ h;simp[r]at this
  obtain⟨t,q,p,g1,a1,a2,a3,t1,b1,r1,d1,Gq⟩:=Ok.tree (K:=⟨aF,dQ,Wg,n0,j,ai⟩) W.pair.lay W.pair.same (b:=wall<|J aF fs) (bs:=[]) (B':=[]) (aA ⟨rfl,rfl,W.ava⟩) SR tr H yY iz M;have Q3:=Kn C W.pair.flag a3;have ovt:Over n0 t.T:=by obtain⟨u,hu⟩:=Db r1;rw[hu];exact hov.app u
  have E:∀z,z<w0.heap.size->q z=z:=by grind
  have d:∀i,t.role i=Z:=λi=>by rw[d1.role];exact oZ i
  rcases Gq with⟨Eu,N,M1,GC⟩|⟨_,N,x,x',v1,gW,es,fn,Q2,rfl,A,gI,M1,hos,ho,hz,eK,hfE,uX⟩;.cases GC with|back hB A=>cases hB|@cut f' Q0 aD4 TQ TP Uq a A ha azB Zj=>
    have ay4:∀fr w,¬AX (J aF fs) R (G fr<|TQ::Uq++wall (J aF fs)::[]) w:=λfr w hd=>by have:=O _ _ hd;simp[G]at this
    rcases A with A|A;.grind
    rcases W.pair.Ov _ _ A with⟨rfl,hn⟩|⟨fn,Vb,e1,e2⟩
    .obtain⟨x0,x1,x2,rfl⟩:∃x0 x1 x2,Q0=#[x0,x1,x2]:=by obtain⟨l⟩:=Q0;match l,hn with|[x0,x1,x2],_=>exact⟨x0,x1,x2,rfl⟩
     obtain⟨S,rfl⟩:=ha;obtain⟨H1',J6⟩:=N.trim rfl d;have H2:Ok ⟨aF,dQ,Wg,n0,j,ai⟩ 0 {t with D:=uw t.gs.size t.D}<|r (eW aF 41 #[F q x0,F q x1,F q x2] eC)<|TP::(a++[]):=by have:=H1';simpa using this
     obtain⟨K',u,U3,w2,v,v',⟨k1,k2,k3⟩,r2,H3,⟨m1,m2,m3,m4⟩,M3,hv,fl3,t3,VH,Q,T,aH0,aus⟩:=QK (K:=⟨aF,dQ,Wg,n0,j,ai⟩) (cL:=TQ) (B:=Uq++[wall<|J aF fs]) (cR:=TP) (cZ:=a++[]) rfl rfl rfl GH za W.pair hE O (x0:=x0) (x1:=x1) (x2:=x2) ⟨S _<|by simp,S _<|by simp,S _<|by simp⟩ H2 t1 M1 Q3 (d1.md.trans nA) d (λn=>xF<|J6 n) ovt;refine ih _ (by rw[hy];exact VH.trans b1) (K:=K') (s:=u) (ρ:=U3) (w:=w2) (fr:=TQ.finish v) (fr':=TP.finish v') (cs:=Uq) (cs':=a) rfl k1 k2 k3 (m.trans<|r1.trans r2) H3 m1 m2 m4 t3 (((azB.re Q).mono T).finish hv) ((Zj.re Q).mono T) M3 fl3 (bC X<|bC a2 T) (λz hz=>?_) ?_;.rw[<-Q z<|cE hz<|bC X a2];exact E z hz
     .exact(k.trans d1.still).trans aus
    .have t1':Term (J aF fs) (AX (J aF fs) R) (G (eW (J aF fs) f' Q0 eC)<|TQ::Uq++wall (J aF fs)::[]) p:=t1;rw[BE (P:=J aF fs) (fn:=fn) (c:=.refuse Vb) _ e1 e2]at t1';exact(t1'.FC hE (λτ g' p es=>aeP g' p es)<|ay4 _ _).elim
  .have hR:R x p:=by cases t1 with|done hd=>obtain⟨v,e,h⟩:=hd;rw[am3 e];exact h|step f hf ht=>exfalso;obtain⟨⟨es1,e⟩,_⟩:=hf p.tape;obtain⟨o,w2,es2,e2⟩:=Lq (P:=J aF fs) x<|World.re p p.tape 0;rw[e2]at e;cases e
   refine⟨t,.done x',v1,_,_,m.trans r1,gI,rfl,x',rfl,ayO _ _ _ _ _ _ hR A M1 (bC X a2) E (ho.trans (k.trans d1.still).out) λb hb hc=>by have h3:=k.trans d1.still;obtain⟨e1,e2⟩:=h3.old b hb hc;exact(hfE b (cE hb h3.size)<|by rw[e2];simp).trans e1,?_,?_,?_,?_⟩;.have hT:Tr gW (.hold 0) j v1 t.T:=(N.inv.tr.fresh eK).mono hz;have:=hT.app (u:=iI 0 fn Q2 es) (g:=0) λop c=>by obtain⟨e,_,rfl⟩:=Mx c;rfl (λop c x A=>by obtain⟨e,he,rfl⟩:=Mx c;exact(uX e he).1 x A) (λop c=>by obtain⟨e,he,rfl⟩:=Mx c;exact(uX e he).2.1);exact this.clean
   .obtain⟨T0,h1,h2,u,hu⟩:=ovt;refine afl h1 ⟨u++iI 0 fn Q2 es,by grind⟩ λidx op c BQ ht=>?_;by_cases Q1:idx<t.T.size;.rw[Array.getElem?_append_left Q1]at c;rcases N.inv.rA idx op c (by grind) ht with h|h;all_goals grind
    .rw[Array.getElem?_append_right<|by omega]at c;obtain⟨e,_,rfl⟩:=Mx<|awJ.2 ⟨_,c⟩;rfl
   .refine⟨λg hg=>?_,rfl⟩;obtain⟨i,hi⟩:=List.mem_iff_getElem?.1 hg;rw[List.getElem?_drop]at hi;have Te:t.gs[1+i]?=g:=by rw[<-Array.getElem?_toList];exact hi
    have:=N.inv.gP (1+i) g (by omega) Te;rw[d]at this;exact⟨_,this.2.2.1.leaves⟩
   .intro i g hg hi;have h1:=N.inv.gP i g hi hg;rw[d]at h1;have Q1:i<t.gs.size:=(je.1 hg).1;have hd:=N.inv.deaf i Q1;have:Deaf (t.T++iI 0 fn Q2 es) i=(t.D i).deaf:=by rw[<-hd];exact Deaf_other t.T (uO hi) _ λop c=>by grind[Go.Conc.mem_ofEvents]
    refine⟨(t.D i).fuel,?_⟩;show g.endsWith aF t.v _ (Deaf (t.T++iI 0 fn Q2 es) i)=U 0;rw[this];exact h1.2.2.1.hears t.v
def Ev(v:ay):ay:={v with heap:=v.heap.setIfInBounds 4<|aH #[V aC 0] 3}
theorem aBd(v):(Ev v).heap.size=v:=by simp[Ev]
theorem ajN(v){b}(h:b≠4):(Ev v).heap[b]?=v.heap[b]?:=nu λe=>h e.symm
theorem ajO(v)(h:4<v.heap.size):gw 0<|Ev v:=j5 h
def kH(A:Option Fc)(v:ay):ay:=match A with|none=>Ev v|some A=>{Ev v with heap:=(Ev v).heap.setIfInBounds A.g<|aH A.c A.e A.f}
theorem agt(A)(v):(kH A v).heap.size=v:=by cases A<;>simp[kH,Ev]
theorem Yi{A}{v}{b}(a:b≠4)(h:∀B,A=U B->b≠B.g):(kH A v).heap[b]?=v.heap[b]?:=by cases A with|none=>exact ajN v a|some B=>exact(nu λe=>h B rfl e.symm).trans<|ajN v a
theorem Yj{A}{v}(h:4<v.heap.size)(a:∀B,A=U B->B.g≠4):gw 0<|kH A v:=by cases A with|none=>exact ajO v h|some B=>exact(nu λe=>a B rfl e).trans<|ajO v h
theorem agv{A}{v}(h:A.g<v.heap.size):(kH (U A) v).heap[A.g]?=U (aH A.c A.e A.f):=j5<|by grind[aBd]
theorem agu(A)(v):(kH A v).os=v.os/\(kH A v).output=v.output:=by cases A<;>exact⟨rfl,rfl⟩
set_option maxHeartbeats 1000000 in
theorem aAW(GH:∀Wg,Fe Wg)(za:∀Wg,Hi Wg)(W:Twin fs I I2 nm){R:az->ay->Prop}(hR:∀v w τ d,R v w->R v (World.re w τ d)){Post}{f}{fn}{c}{args args'}{v0}(qp:aF.funcs[f]?=U fn)(Tf:fs[f]?=U fn)(j:fn.body=U c)(Eo:I.DF f=Y)(Gx:I2.T f=Y)(aHG:sO id I v0.heap.size (I.D f) args args')(y:∀v∈args,S I2 v0.heap.size v=Y)(l:∀A,I.arg=U A->I.F A.g=ai/\v0.heap[A.g]?=U (aH A.c' A.e' A.f')/\∀x∈A.c,n x=Y)(Q:∀b o,v0.heap[b]?=U o->I.F b=Y->eF I v0.heap.size o=Y)(B:∀b o,v0.heap[b]?=U o->b≠4->(∀A,I.arg=U A->b≠A.g)->I2.F b=Y->eF I2 v0.heap.size o=Y)(u:∀b,v0.heap.size<=b->I.F b=Y/\I2.F b=Y)(hG:aF.globals.size<v0.heap.size)(h4:4<v0.heap.size)(q:∀τ:qD,bz (J aF fs) f args (World.re (kH I.arg v0) τ 0) λe H=>∃v,e=bj v/\R v H)(E:∀v T O L V cl,R v O->RV V I O v T->fL V I aF cl O L->v0.heap.size<=O->(∀z,z<v0.heap.size->V z=z)->L.output=v0.output->(∀b,b<v0.heap.size->I.F b=ai->L.heap[b]?=v0.heap[b]?)->Post T L):∃N s o H F,ik aF (N+1) (solo (G (eW aF f args' eC) []) v0) #[]=(.ended o H,F)/\runN aF N (solo (G (eW aF f args' eC) []) v0)=fW s/\step aF s=.ended o H/\Go.Conc.Good aF Post s o H F:=by
 have Q3:=agt I.arg v0;have Q1:=W.pair.Hg;have TE:∀b,I.F b=Y->∀A,I.arg=U A->b≠A.g:=λb p A m e=>by rw[e,(l A m).1]at p;cases p
 have lq:∀A,I.arg=U A->A.g<v0:=by grind
 have P:∀A,I.arg=U A->(kH I.arg v0).heap[A.g]?=U (aH A.c A.e A.f):=λA m=>by rw[m];exact agv<|lq A m
 have Q0:∀b o,(kH I.arg v0).heap[b]?=U o->I.F b=Y->eF I (kH I.arg v0) o=Y/\v0.heap[b]?=o:=λb o j p=>by
  have lg:b≠4:=λe=>by rw[e,W.pair.flag]at p;cases p
  rw[Yi lg<|TE b p]at j;rw[Q3];exact⟨Q b o j p,j⟩
 have Q2:Whole I2<|kH I.arg v0:=⟨λb o j p=>by
  rw[Q3];by_cases e:b=4;.subst e;rw[show(kH I.arg v0).heap[4]?=_ from Yj h4 Q1]at j;cases j;simp[eF,S]
  .by_cases eA:∃A,I.arg=U A/\b=A.g;.obtain⟨A,m,rfl⟩:=eA;rw[P A m]at j;cases j;simp only[eF,kZ];exactλx hx=>(tj (ρ:=id)<|(l A m).2.2 x hx).1
   .have D:∀A,I.arg=U A->b≠A.g:=λA m e=>eA ⟨A,m,e⟩;rw[Yi e D]at j;exact B b o j e D p,λb j=>(u b<|by rw[<-Q3];exact j).2⟩;have tr:=apy (P:=J aF fs) (R:=R) W.Yl W.asL W.aCz W.aD6 hR (w:=kH I.arg v0) (f:=f) Q2 (by rw[Q3];exact hG) Gx ⟨fn,c,Tf,j⟩ (λv hv=>by rw[Q3];exact y v hv) q;let K:Nat->fa:=λb=>if I.F b=Y\/∃A,I.arg=U A/\b=A.g then .eV else .old;have M:fL id I aF K (kH I.arg v0) v0:=⟨(agu I.arg v0).1.symm,aaM _,λb j=>by rw[Q3]at j;exact j,λb o j p=>by obtain⟨h1,h2⟩:=Q0 b o j p;exact⟨h1,by rw[Q6];exact h2⟩,λb j=>(u b<|by rw[<-Q3];exact j).1,by grind,λb j p=>by grind,λA m=>⟨⟨(l A m).1,rfl,P A m,(l A m).2.1⟩,by grind⟩⟩;let s0:St:=⟨λ_=>Z,.opn 0,λ_=>Z,K,Pv,#[],#[r (eW aF f args' eC) []],v0,Z⟩;have yY:jN id I aF nm (kH I.arg v0) (eW (J aF fs) f args eC)<|eW aF f args' eC:=aA (fT.Ay W.pair.same Eo<|by grind);obtain⟨t,o,H,F,ops,r1,X,rfl,C⟩:=aCK (s0:=s0) (w0:=kH I.arg v0) GH za W (Post:=Post) (λv T O L V cl a b c d e g k=>E v T O L V cl a b c (by grind) λz hz=>e z<|by grind g λb j p=>by
   by_cases eA:∃A,I.arg=U A/\b=A.g;.obtain⟨A,m,rfl⟩:=eA;rw[(c.arg A m).1.2.2.2,(l A m).2.1]
   grind) _ tr.acc.transGen (K:=⟨aF,dQ,0,0,λ_=>False,ai⟩) (fr:=eW (J aF fs) f args eC) (cs:=[]) (cs':=[]) rfl rfl rfl rfl (.refl s0) (Ok.start aF dQ K v0 _ Z) rfl (λ_=>rfl) ⟨#[],λi g h=>by simp[Trace.g?]at h,rfl,#[],rfl⟩ tr yY .nil M (Yj h4 Q1) (aS _) (λz _=>rfl)<|.refl _ _;obtain⟨N,hN⟩:=r1;have hN':ik aF N (solo (G (eW aF f args' eC) []) v0) #[]=(fW<|dB t.gs t.v t.sl,t.T):=hN;refine⟨N,dB t.gs t.v t.sl,o,H,t.T++ops,?_,?_,?_,C⟩;.rw[runNT_add,hN'];simp only[ik,X]
 .grind[runNT_fst]
 .unfold step;rw[X]
end
end
section
open Go
theorem ajB{t s:Type}{f:t->s->Option (ForInStep s)}{P:s->Prop}:∀{l:List t}{b r:s},P b->(∀a b j,P b->f a b=U j->P j.value)->forIn l b f=U r->P r|[],b,r,d,_,h=>by grind|a::l,b,r,d,g,h=>by rw[List.forIn_cons]at h;cases e:f a b with|none=>grind|some j=>rw[e]at h;have:=g a b j d e;cases j with|done i=>simp at h;exact h▸this|yield i=>exact ajB this g h
theorem ae8{cs}:n (bJ cs)=Y↔∀v∈cs,n v=Y:=by
 have c:∀l:List az,Di l=Y↔∀v∈l,n v=Y:=by intro l;induction l with|nil=>simp[Di]|cons a l b=>grind[Di]
 obtain⟨l⟩:=cs;grind[n,IP]
theorem Ra{z e}{i}{m}[Decidable m](j:∀d,z=U d->∀v∈d,n v=Y)(l:∀v,i=U v->n v=Y)(h:e=if m then Z else z.bind λa=>i.bind λc=>U<|a++c.cells):∀d,e=U d->∀v∈d,n v=Y:=by
 intro d b v k;rw[h]at b;split at b;.cases b
 .cases g:z with|none=>grind|some a=>cases f:i with|none=>grind|some c=>grind[Option.some.injEq,Ma]
theorem aty{d}(o:∀t j v,d t=U j->j.zero=U v->n v=Y){fs}{i}(h:akG d fs=U i){v}(r:i.zero=U v):n v=Y:=by
 unfold akG at h;simp only[<-MB,bind,Af,bI]at h;obtain⟨m,p,w⟩:=h;have q:∀g,m.2.2.2.2.2.2.2.1=U g->∀v∈g,n v=Y:=by
  refine ajB (P:=λm=>∀g,m.2.2.2.2.2.2.2.1=U g->∀v∈g,n v=Y) ?_ ?_ p;.grind
  .intro a b s l c;cases f:d a.type with|none=>grind|some j=>
    rw[f]at c;simp only[yI]at c;have k:=o a.type j;by_cases J:j.str.isEmpty=Y;.grind
    rw[if_neg J]at c;by_cases b2:a.embedded=Y;.grind
    rw[if_neg b2]at c;by_cases b3:a.tag.isEmpty=Y
    .rw[dy b3]at c;try simp only[yI]at c
     by_cases E:j.bytes=0;.rw[dy E]at c;have e:=tE c;subst e;exact Ra l (λv h=>k v f h) rfl
     .rw[if_neg E]at c;have e:=tE c;subst e;exact Ra l (λv h=>k v f h) rfl
    .rw[if_neg b3]at c;cases Q0:Option.map (λx=> " "++x) (Made.quote a.tag)with|none=>grind|some u=>
      rw[Q0]at c;try simp only[yI]at c
      by_cases E:j.bytes=0;.rw[dy E]at c;have e:=tE c;subst e;exact Ra l (λv h=>k v f h) rfl
      .rw[if_neg E]at c;have e:=tE c;subst e;exact Ra l (λv h=>k v f h) rfl
 grind[Option.some.injEq,Option.map_eq_some_iff,ae8]
theorem atx{l}(o:∀t j v,l t=U j->j.zero=U v->n v=Y){d}{i}(h:Made.reckon l d=U i):(∀v,i.zero=U v->n v=Y)/\i.methods=#[]/\(∀k,i.desc≠.float k)/\(∀k,i.desc≠.complex k)/\∀a u,i.desc≠.named a u:=by
 have f:∀(d:TypeDesc)(s:String)(z:az)(c:Bool)(b:Nat),n z=Y->(∀k,d≠.float k)->(∀k,d≠.complex k)->(∀a u,d≠.named a u)->U (Made.word d s z c b)=i->(∀v,i.zero=U v->n v=Y)/\i.methods=#[]/\(∀k,i.desc≠.float k)/\(∀k,i.desc≠.complex k)/\∀a u,i.desc≠.named a u:=λd s z c b A p w r e=>by have e:=tE e;subst e;exact⟨λv g=>by have:=tE g;grind,rfl,p,w,r⟩
 unfold Made.reckon at h;cases d with|struct y=>refine⟨λv g=>aty o h g,?_⟩;simp only at h;unfold akG at h;grind[Option.bind_eq_some_iff,Option.some.inj]|pointer e=>
  simp only[bind,Af,bI]at h;obtain⟨j,_,h⟩:=h;split at h;.cases h
  .split at h;.cases h
   .simp only[Af]at h;obtain⟨s,_,h⟩:=h;exact f _ _ _ _ _ (by rfl) (by grind) (by grind) (by grind) h
  .simp only[Af]at h;obtain⟨s,_,h⟩:=h;exact f _ _ _ _ _ (by rfl) (by grind) (by grind) (by grind) h|slice e=>simp only[bind,Af,bI]at h;obtain⟨j,_,s,_,h⟩:=h;exact f _ _ _ _ _ (by rfl) (by grind) (by grind) (by grind) h|map k e=>simp only[bind,Af,bI]at h;obtain⟨j,_,s,_,E,_,D,_,h⟩:=h;exact f _ _ _ _ _ (by rfl) (by grind) (by grind) (by grind) h|chan q e=>simp only[bind,Af,bI]at h;obtain⟨G,m,a,x,h⟩:=h;exact f _ _ _ _ _ (by rfl) (by grind) (by grind) (by grind) h|func C F v=>simp only[bind,Af,bI]at h;obtain⟨j,_,h⟩:=h;exact f _ _ _ _ _ (by rfl) (by grind) (by grind) (by grind) h|array b e=>
  simp only[bind,Af,bI]at h;obtain⟨j,B,s,_,h⟩:=h;have e:=tE h;subst e;refine⟨λv g=>?_,rfl,nofun,nofun,nofun⟩;simp only at g;split at g;.cases g
  .split at g;.have:=tE g;subst this;rfl
   grind[Option.map_eq_some_iff,ae8,Array.mem_flatten,Ma]|_=>cases h
theorem aht{T:Tables}(e:∀i∈T.types,∀v,i.zero=U v->n v=Y):∀(f:Nat)(t:ey)(i:TypeInfo),Made.infoAt T f t=U i->i∈T.types\/(∀v,i.zero=U v->n v=Y)/\i.methods=#[]/\(∀k,i.desc≠.float k)/\(∀k,i.desc≠.complex k)/\∀a u,i.desc≠.named a u
 |0,t,i,h=>by cases h|f+1,t,i,h=>by
  unfold Made.infoAt at h;split at h;.grind
  .simp only[Af]at h;obtain⟨d,_,h⟩:=h;exact aA<|atx λt j v c l=>by rcases aht e f t j c with g|g;all_goals grind h
theorem Y2{T:Tables}(b:∀i∈T.types,∀v,i.zero=U v->n v=Y){t}{i}(h:T.info? t=U i):i∈T.types\/(∀v,i.zero=U v->n v=Y)/\i.methods=#[]/\(∀k,i.desc≠.float k)/\(∀k,i.desc≠.complex k)/\∀a u,i.desc≠.named a u:=by unfold Tables.info? at h;grind[Array.mem_iff_getElem?,aht]
end
section
open Go.Proofs
def vo:Nat:=7530513141459703090006573512571396663087727459507568300783141639376931433303397187452920
def AL:Nat:=7530513141459703090006573512571401260574350057174143375824223090304482289522962761515000
def Ks(f:fq)(n:Nat):Bool:=f==41&&n==3||f==180&&n==2||f==181&&n==2
def qL(s:String):Bool:=s== "Kind"||s== "Elem"||s== "AssignableTo"||s== "As"||s== "Is"||s== "Unwrap"||s== "Implements"||s== "Comparable"
def rf(four:Bool)(R:Nat->Bool)(b:Nat):Bool:=if b<7 then(b==0||b==3||b==5||b==6||b==4&&four)else R b
def dsl:Nat->List Nat|3=>[0,15,31,37,39]|4=>[0,24,48,54,56,60,62]|5=>[0,22,38,44,46]|6=>[0,30,46,52,54]|7=>[0,27,53,59,61]|14=>[0,6,13,15,16,20,22,23,27,29,30]|_=>[]
def On(f:fq)(t:Nat):Bool:=(dsl f).contains t
def dfL:List Nat:=[3,4,5,6,7,8,14]
def Ot(f:fq):Bool:=dfL.contains f
def ajD(R:Nat->Bool):H:={T:=λf=>vo.testBit f,F:=rf ai R,gx:=λ_=>ai,cut:=Ks}
def ajC(R:Nat->Bool):H:={T:=λf=>AL.testBit f,F:=rf Y R,gx:=λ_=>ai,cut:=λ_ _=>ai}
noncomputable def jI(R:Nat->Bool)(A:Option Fc):H:={T:=λf=>vo.testBit f,F:=rf ai R,gx:=ir (ajD R) aF qL,cut:=Ks,D:=On,DF:=Ot,arg:=A}
noncomputable def xX(R:Nat->Bool):H:={T:=λf=>AL.testBit f,F:=rf Y R,gx:=ir (ajC R) aF qL,cut:=λ_ _=>ai}
def IV:Nat->Bool:=λ_=>ai
noncomputable def Qg(I:H)(fs:Array ep)(f:Nat):Bool:=match fs[f]? with|some fn=>(match fn.body with|some b=>ir I aF qL b|none=>Y)|none=>ai
section
variable {I I':H} {q:bW} {nm:String->Bool} (hT:I.T=I'.T) (hC:I.cut=I'.cut) (hF:∀g,g<q.globals.size->I.F g=I'.F g)
include hT hF
theorem Xv:tw I q=tw I' q:=by funext x;cases x with|global g=>grind[tw]|_=>grind[tw]
include hC
theorem apH:CZ I q nm=CZ I' q nm:=by funext o;cases o<;>simp only[CZ,zN,Ih,Xv hT hF (q:=q),hT,hC]
theorem Qh:∀c,ir I q nm c=ir I' q nm c:=by have h:=Xv hT hF (q:=q);intro c;induction c with|skip=>rfl|region id j d=>simp only[ir,apH hT hC hF (q:=q) (nm:=nm)]|seq a b i e=>grind[ir]|cond x a b i e=>simp only[ir,h,i,e]|block id b e=>grind[ir]|loop b e=>grind[ir]|rangeFunc f k a b i e=>simp only[ir,h,i,e]|exit id=>rfl|scope b e=>rfl|label l=>rfl|goto l=>rfl|_=>rfl
end
theorem Et:aF.globals.size=7:=by kernel_rfl
theorem aaF{a}{R b}:∀g,g<aF.globals.size->rf a R g=rf a b g:=λg h=>by rw[Et]at h;unfold rf;grind
theorem apF:((mJ 320).all λf=>!vo.testBit f||Qg (jI IV Z) aF.funcs f)=Y:=by kernel_rfl
theorem apE:((mJ 320).all λf=>!AL.testBit f||Qg (xX IV) iQ f)=Y:=by kernel_rfl
theorem ald{f}(h:vo.testBit f=Y):f<320:=aha ((Nat.le_log2<|by decide).2<|ag9 h)<|by decide
theorem ale{f}(h:AL.testBit f=Y):f<320:=aha ((Nat.le_log2<|by decide).2<|ag9 h)<|by decide
theorem ac3(R)(A)(c):(jI R A).gx c=ir (jI R A) aF qL c:=Qh (I:=ajD R) (I':=jI R A) rfl rfl (λ_ _=>rfl) c
theorem ac2(R)(c):(xX R).gx c=ir (xX R) aF qL c:=Qh (I:=ajC R) (I':=xX R) rfl rfl (λ_ _=>rfl) c
theorem apD{R}{A}{f}(c:vo.testBit f=Y){fn}{b}(h:aF.funcs[f]?=U fn)(d:fn.body=U b):(jI R A).gx b=Y:=by have:=MO.1 apF f<|Js.2<|ald c;rw[c]at this;simp only[Bool.not_true,Bool.false_or,Qg,h,d]at this;rw[ac3,<-this];exact Qh (I:=jI R A) (I':=jI IV Z) (q:=aF) rfl rfl aaF b
theorem apC{R}{f}(c:AL.testBit f=Y){fn}{b}(h:iQ[f]?=U fn)(d:fn.body=U b):(xX R).gx b=Y:=by have:=MO.1 apE f<|Js.2<|ale c;rw[c]at this;simp only[Bool.not_true,Bool.false_or,Qg,h,d]at this;rw[ac2,<-this];exact Qh (I:=xX R) (I':=xX IV) (q:=aF) rfl rfl aaF b
section
variable {I I':H} {q:bW} {nm:String->Bool} (hT:I.T=I'.T) (hC:I.cut=I'.cut) (hF:∀g,g<q.globals.size->I.F g=I'.F g) (hD:I.D=I'.D) (Eo:I.DF=I'.DF) (D:Nat->Bool)
include hT hF in
theorem XB:tB I q D=tB I' q D:=by funext x;cases x<;>simp only[tB,Xv hT hF (q:=q)]
include hT hF in
theorem alC(E:Nat->Bool):∀(l:List iT)(j:Nat),ET I q D E j l=ET I' q D E j l|[],_=>rfl|x::l,j=>by simp only[ET,XB hT hF D,alC E l]
include hT hC hF hD Eo in
theorem aCn:EA I q nm D=EA I' q nm D:=by
 have h:=XB hT hF (q:=q) D;funext o;obtain⟨d,c,b,e,a,E⟩:=o;unfold EA;have f:zN I q nm (tB I q D) c=zN I' q nm (tB I' q D) c:=by cases c<;>simp only[zN,Ih,h,hT,hC]
 have i:Kr I q D ⟨d,c,b,e,a,E⟩=Kr I' q D ⟨d,c,b,e,a,E⟩:=by cases c<;>simp only[Kr,h,alC hT hF (q:=q) D,hD,Eo]
 grind
include hT hC hF hD Eo in
theorem aCo:∀c,l9 I q nm D c=l9 I' q nm D c:=by have i:=aCn hT hC hF hD Eo (q:=q) (nm:=nm) D;intro c;induction c with|region id h d=>grind[l9]|seq a b f e=>grind[l9]|cond x a b f e=>simp only[l9,XB hT hF (q:=q) D,f,e]|block id b e=>grind[l9]|loop b e=>grind[l9]|_=>rfl
end
noncomputable def akc(I:H)(q:bW)(nm:String->Bool)(D:Nat->Bool):Option ep->Bool|some fn=>(match fn.body with|some c=>l9 I q nm D c&&fn.results.all (Be D)&&! fn.name== "runtime.NumGoroutine"|none=>ai)|none=>ai
noncomputable def akd(f:Nat):Bool:=vo.testBit f&&akc (jI IV Z) aF qL (On f) aF.funcs[f]?
theorem aCb:dfL.all akd=Y:=by kernel_rfl
theorem aCg{f:Nat}(h:Ot f=Y):f∈dfL:=List.contains_iff_mem.1 h
theorem aCa{I}{q}{nm}{D}{o}(h:akc I q nm D o=Y):∃a c,o=U a/\a.body=U c/\l9 I q nm D c=Y/\a.results.all (Be D)=Y/\(a.name== "runtime.NumGoroutine")=ai:=by cases o with|none=>cases h|some a=>obtain⟨e,n,s,u,r,l,p,d,b,i,f,m,g,k,t,j⟩:=a;cases b with|none=>cases h|some c=>have h:(l9 I q nm D c&&d.all (Be D)&&! e== "runtime.NumGoroutine")=Y:=h;grind
theorem aCc{R}{A}{X:fq->Prop}(g:∀f,Ot f=Y->¬X f)(f)(h:(jI R A).DF f=Y):(jI R A).T f=Y/\¬X f/\∃a c,aF.funcs[f]?=U a/\a.body=U c/\l9 (jI R A) aF qL ((jI R A).D f) c=Y/\a.results.all (Be<|(jI R A).D f)=Y/\(a.name== "runtime.NumGoroutine")=ai:=by have h:Ot f=Y:=h;have b:=MO.1 aCb f<|aCg h;unfold akd at b;obtain⟨b,l⟩:=Bool.and_eq_true_iff.1 b;obtain⟨a,c,e,i,k,d,j⟩:=aCa l;exact⟨b,g f h,a,c,e,i,(aCo (I:=jI R A) (I':=jI IV Z) rfl rfl aaF rfl rfl _ c).trans k,d,j⟩
noncomputable def amx(q:bW):Bool:=q.types.all λi=>match i.zero with|some v=>n v|none=>Y
noncomputable def atz(q:bW):Bool:=q.types.all λi=>match i.desc with|.float _|.complex _=>ai|_=>Y
theorem amy:amx aF=Y:=by kernel_rfl
theorem atA:atz aF=Y:=by kernel_rfl
theorem PD:∀i∈aF.types,∀v,i.zero=U v->n v=Y:=λi b v c=>by have:=YN.1 amy i b;grind
theorem ane{t}{d}(h:aF.underlying t=U d):(∃i∈aF.types,i.desc=d)\/(∀k,d≠.float k)/\∀k,d≠.complex k:=by
 have l:∀u i,aF.info? u=U i->i.desc=d->(∃i∈aF.types,i.desc=d)\/(∀k,d≠.float k)/\∀k,d≠.complex k:=λu i c e=>by grind[Y2,PD]
 unfold Program.underlying at h;cases c:aF.info? t with|none=>grind|some i=>rw[c]at h;obtain⟨f,b⟩:=i;cases f with
  |named a u=>simp only at h;cases g:aF.info? u with|none=>grind|some j=>grind
  |_=>grind
theorem abS:sK aF:=by
 have d:=YN.1 atA;refine⟨λt i v a c=>?_,λt k h=>?_,λt k h=>?_⟩;.rcases Y2 PD a with b|b;all_goals grind[PD]
 all_goals grind[ane]
noncomputable def avk(q:bW)(s:String):Bool:=q.types.all λi=>match i.methods.find? (·.name==s)with|some m=>(match m.func with|some (f,_)=>vo.testBit f&&AL.testBit f|none=>Y)|none=>Y
theorem avl:(["Kind","Elem","AssignableTo","As","Is","Unwrap","Implements","Comparable"].all λs=>avk aF s)=Y:=by kernel_rfl
theorem avb{s}(h:qL s=Y):s∈["Kind","Elem","AssignableTo","As","Is","Unwrap","Implements","Comparable"]:=by simp only[qL,lF,Sq]at h;grind
theorem afW{s}(h:qL s=Y){t}{i}{m}{f}{p}(b:aF.info? t=U i)(e:i.methods.find? (·.name==s)=U m)(c:m.func=U (f,p)):vo.testBit f=Y∧AL.testBit f=Y:=by
 rcases Y2 PD b with a|a;·have d:=YN.1 (MO.1 avl s<|avb h) i a;grind
 grind
def Og:List Nat:=[111,112,113,115,173,174,277,278,285,288,289,290,291]
noncomputable def ahf(f:Nat):Bool:=match iQ[f]?,aF.funcs[f]? with|some fn,U o=>o.name==fn.name&&! fn.name== "runtime.NumGoroutine"&&fn.body.isSome&&o.body.isSome|_,_=>ai
theorem awK:((mJ 320).all λf=>!(vo.testBit f||AL.testBit f)||Og.contains f||ahf f)=Y:=by kernel_rfl
def sP(q:bW)(fs:Array ep)(fn o:ep):Prop:=o.name=fn.name/\(fn.name== "runtime.NumGoroutine")=ai/\((∃b b',fn.body=U b/\o.body=U b')\/(o=fn/\fn.body=Z/\aa5 fn=Z/\∃e,Extern.find fn=U e/\sU q fs e)\/o=fn/\fn.body=Z/\aa5 fn=Z/\Extern.find fn=Z/\(fn.name.endsWith ".init"&&!fn.name.startsWith "("&&!fn.name.startsWith "gosem.")=ai)
theorem awY(q)(fs):sP q fs f111 f111:=⟨rfl,by kernel_rfl,aA<|ax ⟨rfl,rfl,by kernel_rfl,⟨_,by kernel_rfl,aBw⟩⟩⟩
theorem awX(q)(fs):sP q fs f112 f112:=⟨rfl,by kernel_rfl,aA<|ax ⟨rfl,rfl,by kernel_rfl,⟨_,by kernel_rfl,aBy⟩⟩⟩
theorem awW(q)(fs):sP q fs f113 f113:=⟨rfl,by kernel_rfl,aA<|ax ⟨rfl,rfl,by kernel_rfl,⟨_,by kernel_rfl,aBC⟩⟩⟩
theorem awV(q)(fs):sP q fs f115 f115:=⟨rfl,by kernel_rfl,aA<|ax ⟨rfl,rfl,by kernel_rfl,⟨_,by kernel_rfl,aBx⟩⟩⟩
theorem awU(q)(fs):sP q fs f173 f173:=⟨rfl,by kernel_rfl,aA<|ax ⟨rfl,rfl,by kernel_rfl,⟨_,by kernel_rfl,aBE⟩⟩⟩
theorem awT(q)(fs):sP q fs f174 f174:=⟨rfl,by kernel_rfl,aA<|ax ⟨rfl,rfl,by kernel_rfl,⟨_,by kernel_rfl,aBz⟩⟩⟩
theorem awS(q)(fs):sP q fs f277 f277:=⟨rfl,by kernel_rfl,aA<|aA ⟨rfl,rfl,by kernel_rfl,by kernel_rfl,by kernel_rfl⟩⟩
theorem awR(q)(fs):sP q fs f278 f278:=⟨rfl,by kernel_rfl,aA<|ax ⟨rfl,rfl,by kernel_rfl,⟨_,by kernel_rfl,aBH⟩⟩⟩
theorem awQ(q)(fs):sP q fs f285 f285:=⟨rfl,by kernel_rfl,aA<|ax ⟨rfl,rfl,by kernel_rfl,⟨_,by kernel_rfl,aBB⟩⟩⟩
theorem awP(q)(fs):sP q fs f288 f288:=⟨rfl,by kernel_rfl,aA<|ax ⟨rfl,rfl,by kernel_rfl,⟨_,by kernel_rfl,aBG⟩⟩⟩
theorem awO(q)(fs):sP q fs f289 f289:=⟨rfl,by kernel_rfl,aA<|ax ⟨rfl,rfl,by kernel_rfl,⟨_,by kernel_rfl,aBF⟩⟩⟩
theorem awN(q)(fs):sP q fs f290 f290:=⟨rfl,by kernel_rfl,aA<|ax ⟨rfl,rfl,by kernel_rfl,⟨_,by kernel_rfl,aBA⟩⟩⟩
theorem awM(q)(fs):sP q fs f291 f291:=⟨rfl,by kernel_rfl,aA<|ax ⟨rfl,rfl,by kernel_rfl,⟨_,by kernel_rfl,aBD⟩⟩⟩
theorem ahe{f}(h:f∈Og)(q)(fs):∃a,iQ[f]?=U a/\aF.funcs[f]?=a/\sP q fs a a:=by
 simp only[Og,dj,List.mem_nil_iff,dY]at h;rcases h with rfl|rfl|rfl|rfl|rfl|rfl|rfl|rfl|rfl|rfl|rfl|rfl|rfl;.grind[oy,func111,awY]
 .grind[oy,func112,awX]
 .grind[oy,func113,awW]
 .grind[oy,func115,awV]
 .grind[oy,func173,awU]
 .grind[oy,func174,awT]
 .grind[oy,func277,awS]
 .grind[oy,func278,awR]
 .grind[oy,func285,awQ]
 .grind[oy,func288,awP]
 .grind[oy,func289,awO]
 all_goals grind[oy,func290,awN,func291,awM]
theorem ahd{f}(h:vo.testBit f=Y\/AL.testBit f=Y)(q)(fs):∃i e,iQ[f]?=U i/\aF.funcs[f]?=U e/\sP q fs i e/\(e=i\/Og.contains f=ai):=by
 have g:=MO.1 awK f<|Js.2<|h.elim ald ale;simp only[lF,ag8]at g;rcases g with(g|g)|g;.grind
 .obtain⟨i,j,k,l⟩:=ahe (by simpa using g) q fs;exact⟨i,i,j,k,l,ax rfl⟩
 .unfold ahf at g;cases j:iQ[f]? with|none=>grind|some i=>cases k:aF.funcs[f]? with|none=>grind|some e=>
    rw[j,k]at g;simp only[cV,Sq,ag8,Option.isSome_iff_exists]at g;obtain⟨⟨⟨a,b⟩,⟨c,m⟩⟩,⟨d,n⟩⟩:=g;by_cases hx:Og.contains f=Y;.obtain⟨o,p,r,l⟩:=ahe (by simpa using hx) q fs;grind
    .exact⟨i,e,rfl,rfl,⟨a,b,ax ⟨c,d,m,n⟩⟩,aA<|by grind⟩
theorem alP{f}(h:vo.testBit f=Y):f≠41/\f≠180/\f≠181:=by refine⟨?_,?_,?_⟩<;>rintro rfl<;>revert h<;>decide
section
variable {R:Nat->Bool} {A:Option Fc} (hR:R 7=Y)
include hR
theorem awL:UO (jI R A) aF iQ:=⟨by rw[Et];exact hR,λf g=>by obtain⟨i,d,h,e,⟨a,b,c⟩,_⟩:=ahd (ax g) aF iQ;exact⟨i,d,h,e,a,b,c⟩⟩
theorem aCv:abO (jI R A) aF iQ:=λf n h=>by
 have h:Ks f n=Y:=h;simp only[Ks,lF,cV,Sq]at h;rcases h with(⟨rfl,rfl⟩|⟨rfl,rfl⟩)|⟨rfl,rfl⟩;.exact⟨vG,oB,by kernel_rfl,func41,by kernel_rfl,by kernel_rfl,by kernel_rfl,by kernel_rfl⟩
 .exact⟨{f180 with body:=U<|.refuse "not here"},f180,by kernel_rfl,func180,by kernel_rfl,by kernel_rfl,by grind,by kernel_rfl⟩
 .exact⟨{f181 with body:=U<|.refuse "not here"},f181,by kernel_rfl,func181,by kernel_rfl,by kernel_rfl,by grind,by kernel_rfl⟩
theorem aww:nM (jI R A) aF iQ qL:=⟨abS,awL hR,λs b t i m f p c d a=>(afW b c d a).1,aCv hR⟩
omit hR in
theorem asJ:Same (jI R A) aF iQ qL (λ_=>False):=⟨ac3 R A,λf a=>by
 obtain⟨d,g,e⟩:=alP a
 grind[oy],λf a _=>by
 obtain⟨d,g,e⟩:=alP a;exact⟨oy d g e,λj b c i=>apD a c i⟩,aCc λ_ _ h=>h⟩
theorem aud(a:∀B,A=U B->B.g≠4):E2 iQ (jI R A) qL where
 lay:=aww hR;same:=asJ;f41:=by kernel_rfl
 f59:=(oy (by decide) (by decide)<|by decide).trans func59;f60:=(oy (by decide) (by decide)<|by decide).trans func60;t59:=by show vo.testBit 59=Y;decide
 t60:=by show vo.testBit 60=Y;decide
 flag:=rfl;Hg:=a;Ov:=λf n h=>by
  have h:Ks f n=Y:=h;simp only[Ks,lF,cV,Sq]at h;rcases h with(h|⟨rfl,rfl⟩)|⟨rfl,rfl⟩;.grind
  .exact aA ⟨{f180 with body:=U<|.refuse "not here"},"not here",by kernel_rfl,rfl⟩
  .exact aA ⟨{f181 with body:=U<|.refuse "not here"},"not here",by kernel_rfl,rfl⟩
end
section
variable {I:H} {q:bW} {fs:Array ep} {nm:String->Bool}
theorem afA:tw I (J q fs)=tw I q:=by funext x;cases x<;>rfl
theorem auR:IU (J q fs)=IU q:=by funext t;rfl
theorem apG:CZ I (J q fs) nm=CZ I q nm:=by funext o;cases o<;>simp only[CZ,zN,Ih,afA (I:=I) (q:=q) (fs:=fs),auR (q:=q) (fs:=fs)]
theorem apI(c):ir I (J q fs) nm c=ir I q nm c:=by have h:=afA (I:=I) (q:=q) (fs:=fs);induction c with|region id i d=>simp only[ir,apG (I:=I) (q:=q) (fs:=fs) (nm:=nm)]|seq a b g e=>grind[ir]|cond x a b g e=>simp only[ir,h,g,e]|block id b e=>grind[ir]|loop b e=>grind[ir]|rangeFunc f j a b g e=>simp only[ir,h,g,e]|_=>rfl
theorem Same.cut{X}(g:∀c,I.gx c=ir I q nm c)(e:∀f,I.T f=Y->∀d b,fs[f]?=U d->d.body=U b->I.gx b=Y)(i:∀f,I.DF f=ai):Same I (J q fs) fs nm X:=⟨λc=>(g c).trans (apI c).symm,λf a=>rfl,λf a _=>⟨rfl,e f a⟩,λf h=>by grind⟩
theorem nM.cut(b:sK q)(o:I.F q.globals.size=Y)(j:∀f,I.T f=Y->∃a,fs[f]?=U a∧sP (J q fs) fs a a)(d:∀s,nm s=Y->∀t i m f p,q.info? t=U i->i.methods.find? (·.name==s)=U m->m.func=U (f,p)->I.T f=Y)(u:∀f n,I.cut f n=ai):nM I (J q fs) fs nm:=⟨⟨b.zero,b.whole,b.real⟩,⟨o,λf c=>by obtain⟨a,e,k⟩:=j f c;exact⟨a,a,e,e,k⟩⟩,λs l t i m f p g r c=>d s l t i m f p g r c,λf n h=>by grind⟩
end
variable {R R2:Nat->Bool} {A:Option Fc} (hR:R 7=Y) (hR2:R2 7=Y)
include hR in
theorem awv:nM (xX R) (J aF iQ) iQ qL:=nM.cut abS (by rw[Et];exact hR) λf g=>by
 obtain⟨k,n,h,q,⟨a,b,c⟩,d⟩:=ahd (aA g) (J aF iQ) iQ;refine⟨k,h,rfl,b,?_⟩;rcases c with⟨c,_,e,_⟩|⟨_,e⟩|⟨_,e⟩;.exact ax ⟨c,c,e,e⟩
 .exact aA<|ax ⟨rfl,e⟩
 grind (λs l t i m f p j o g=>(afW l j o g).2) λ_ _=>rfl
theorem asI:Same (xX R) (J aF iQ) iQ qL λ_=>False:=Same.cut (ac2 R) (λf c e b a d=>apC c a d) λ_=>rfl
theorem au9{f:Nat}(h:(jI R A).T f=Y):aF.inits.idxOf? f=Z:=by
 have e:aF.inits=#[2]:=by kernel_rfl
 rw[e];have a:f≠2:=by rintro rfl;have h:vo.testBit 2=Y:=h;revert h;decide
 grind
include hR hR2 in
theorem anj(a:∀B,A=U B->B.g≠4):Twin iQ (jI R A) (xX R2) qL:=⟨aud hR a,λf h=>au9 h,awv hR2,asI,λ_ _=>rfl,rfl,λ_=>rfl⟩
end
section
open Go.Conc Go.RowKit Go.Conc.Lib Go.ConcR.Gen
open Go.ConcN (WgLive)
open Go.ConcN.Gen (WgLive.cell0 WgLive.cell1)
open Go.ConcR (KK WgAt stA smA wgBlock rd wr mk Bk)
variable{P:bW}{L:WgLink}{Wg:Nat}{qz:aZ}{qB:Act}{lT:Array dJ}{qn:Nat}{pZ:List Nat}{qf:List eY}{cs:List aZ}
set_option maxHeartbeats 8000000 in
theorem aEm(H:WgLib P L)(w)(a:jK L.tWg Wg w):U2 P L Wg (G (qz.at (qB.put (lT[qn]?.bind (·.dst))<|bO #[])<|aT lT pZ::qf) cs) (G ((bh L.add).at ⟨#[aG Wg,V aC 1,ak,ak,ak,ak,ak,ak,ak,ak,ak,ak,ak,ak,ak,ak,ak,ak,ak,ak,ak,ak,ak,ak,ak,ak,ak,ak,ak,ak,ak,ak,ak,ak,ak,ak,ak,ak,ak,ak,ak,ak,ak,ak,ak,ak,ak,ak,ak,ak,ak,ak,ak,ak,ak,ak,ak,ak,ak,ak,ak,ak,ak,ak,ak,ak,ak,ak,ak,ak,ak,ak,ak,ak,ak,ak,ak,ak,ak,ak,ak,ak,ak,ak,ak,ak,ak,ak,ak,ak,ak,ak,ak,ak,ak,ak,ak,ak,ak,ak,ak,ak,ak,ak,ak,ak,ak,ak,ak,ak,ak,ak,ak,ak,ak,ak,ak],[]⟩ [bF<|body_add L])<|qz.at qB (aT lT (qn::pZ)::qf)::cs) w:=by
 lib_facts;refine⟨12,dL ?_⟩;simp only[body_add,addFn,fV];u_c D E a;u_cond Y E a;iterate 2 u_c D E a
 u_reg E a;iterate 2 u_op E a
 u_c N E a;u_cond ai E a;u_c ld E a;u_c D E a;u_reg E a;refine I λk f=>?_;replace a:=E a f;refine⟨rfl,_,Sn .disable (by simp) rfl rfl (by k_ne) rfl H.f_disable (x_disable_n L) (x_disable_b L) (x_disable_x L)<|x_disable_f L,40,dL ?_⟩;walk_nrm;u_c N E a;u_reg E a;u_defer E a;u_c N E a;u_c D E a;u_reg E a;u_op E a;u_c N E a;iterate 2 u_c D E a
 u_reg E a;u_bub E a;u_c N E a;u_cond ai E a;u_c ld E a;u_c D E a;u_reg E a;iterate 6 u_op E a
 u_call H.f_uAdd(nm_uAdd L)uAddFn E a;u_c D E a;u_reg E a;u_op E a;u_c N E a;u_c D E a;u_reg E a;iterate 4 u_op E a
 refine I λb i=>?_;replace a:=E a i;refine⟨rfl,λv l d=>?_⟩;obtain rfl|rfl:v=0∨v=1:=by omega
 ·replace d:WgAt L.tWg Wg b 0 0:=by grind
  have z:(((0:Nat):Int)+1)*KK=KK:=by simp
  rw[z];have j:cO.wrap (0+4294967296)=KK:=by decide
  refine⟨_,(stepG_add_atomic rfl rfl (by k_ne) rfl H.f_addU64 (x_addU64_n L) (x_addU64_b L) (x_addU64_x L) cO (x_addU64_f L) rfl rfl d.cellSt<|d.thaw 0).trans<|by rw[j];rfl,130+60,lift ?_⟩;replace a:jK L.tWg Wg<|b.setCell (stA Wg)<|V cO KK:=⟨_,_,d.setSt _⟩;simp only[KK]at a⊢;walk_nrm;u_op E a;u_c N E a;u_c ql E a;u_leave1 H.f_uAdd E a;u_op E a;u_c N E a;iterate 2 u_c D E a
  u_reg E a;iterate 4 u_op E a
  iterate 2 u_skip E a
  u_op E a;u_c N E a;u_cond ai E a;u_c ld E a;u_c D E a;u_reg E a;iterate 4 u_op E a
  u_c N E a;u_c D E a;u_reg E a;iterate 4 u_op E a
  u_c N E a;iterate 2 u_c D E a
  u_reg E a;iterate 10 u_op E a
  u_c N E a;u_cond Y E a;u_reg E a;iterate 3 u_op E a
  u_conv H.underlying_tPU32 H.room_tU32(WgLive.cell1 a).choose_spec E a;refine I λ_ h=>?_;replace a:=E a h;u_in E a;rw[Jr .read (by simp) rfl rfl (by k_ne) rfl H.f_raceRead (x_raceRead_n L) (x_raceRead_b L) (x_raceRead_x L) (x_raceRead_f L) (ad:=⟨Wg,1,Z⟩)<|by simp[er]];simp only[eP];refine⟨⟨rfl,λe m=>?_⟩,?_⟩;·grind
  walk_nrm;refine dL ?_;u_c N E a;iterate 2 u_c D E a
  u_reg E a;iterate 2 u_op E a
  u_c N E a;u_cond ai E a;u_c ld E a;iterate 2 u_c D E a
  u_reg E a;iterate 3 u_op E a
  iterate 2 u_skip E a
  iterate 2 u_op E a
  iterate 4 u_skip E a
  u_op E a;u_c N E a;u_cond ai E a;u_c ld E a;iterate 2 u_c D E a
  u_reg E a;iterate 3 u_op E a
  iterate 2 u_skip E a
  u_op E a;u_c N E a;u_cond Y E a;u_c ql E a;refine I λg c=>?_;replace a:=E a c;refine⟨rfl,_,stepG_unwind_entry (v:=bO #[]) (evs:=#[jJ .enable]) rfl H.f_enable (x_enable_n L) (x_enable_b L) (x_enable_x L) (x_enable_f L) (by simp[aCC]) (by simp[jJ])<|by simp[jJ],1,dL ?_⟩;u_leave0 H.f_add E a;grind[Goes.stop]
 ·replace d:WgAt L.tWg Wg b 4294967296 0:=by simpa[KK]using d
  have z:(((1:Nat):Int)+1)*KK=8589934592:=by decide
  rw[z];have j:cO.wrap (4294967296+4294967296)=8589934592:=by decide
  refine⟨_,(stepG_add_atomic rfl rfl (by k_ne) rfl H.f_addU64 (x_addU64_n L) (x_addU64_b L) (x_addU64_x L) cO (x_addU64_f L) rfl rfl d.cellSt<|d.thaw 0).trans<|by rw[j];rfl,130,dL ?_⟩;replace a:jK L.tWg Wg<|b.setCell (stA Wg)<|V cO 8589934592:=⟨_,_,d.setSt _⟩;walk_nrm;u_op E a;u_c N E a;u_c ql E a;u_leave1 H.f_uAdd E a;u_op E a;u_c N E a;iterate 2 u_c D E a
  u_reg E a;iterate 2 u_op E a
  try simp only[bd2]
  iterate 2 u_op E a
  iterate 2 u_skip E a
  u_op E a;u_c N E a;u_cond ai E a;u_c ld E a;u_c D E a;u_reg E a;iterate 4 u_op E a
  u_c N E a;u_c D E a;u_reg E a;iterate 2 u_op E a
  try simp only[be2]
  iterate 2 u_op E a
  u_c N E a;iterate 2 u_c D E a
  u_reg E a;iterate 10 u_op E a
  u_c N E a;u_cond ai E a;u_c ld E a;iterate 2 u_c D E a
  u_reg E a;iterate 2 u_op E a
  u_c N E a;u_cond ai E a;u_c ld E a;iterate 2 u_c D E a
  u_reg E a;iterate 3 u_op E a
  iterate 2 u_skip E a
  iterate 2 u_op E a
  iterate 4 u_skip E a
  u_op E a;u_c N E a;u_cond ai E a;u_c ld E a;iterate 2 u_c D E a
  u_reg E a;iterate 3 u_op E a
  iterate 2 u_skip E a
  u_op E a;u_c N E a;u_cond Y E a;u_c ql E a;refine I λg c=>?_;replace a:=E a c;refine⟨rfl,_,stepG_unwind_entry (v:=bO #[]) (evs:=#[jJ .enable]) rfl H.f_enable (x_enable_n L) (x_enable_b L) (x_enable_x L) (x_enable_f L) (by simp[aCC]) (by simp[jJ])<|by simp[jJ],1,dL ?_⟩;u_leave0 H.f_add E a;grind[Goes.stop]
set_option maxHeartbeats 16000000 in
theorem am8(H:WgLib P L)(g)(w)(h:OP L (λ_=>True) Wg (qz.at qB<|aT lT (qn::pZ)::qf) cs g w):∃m,GQ P L Wg (U0 P L Wg (OP L (λ_=>True) Wg (qz.at qB<|aT lT (qn::pZ)::qf) cs) (G (qz.at (qB.put (lT[qn]?.bind (·.dst))<|bO #[])<|aT lT pZ::qf) cs)) m g w:=by
 lib_facts;obtain⟨T,rfl,r,A,_,a⟩:=h;obtain⟨v0,v1,v2,v3,v4,v5,v6,v7,v8,v9,v10,Q,v12,lR,oL,X,oK,oJ,CW,mq,v20,v21,Fo,pW,F,P3,PZ,S,v28,W,O,v31,uq,Fj,J,pV,QW,v37,pU,pS,v40,pR,pQ,pP,Q2,nU,v46,pO,pM,v49,PX,v51,C,v53,xq,pL,nT,QX,PW,v59,nS,pK,pJ,QY,nQ,PV,nP,B,K,M,v70,PU,v72,Fi,QZ,Q0,v76,xp,Q1,Fh,v80,R,Q3,nO,rfl⟩:=array84 T r;simp only[oW,oV,ew]at A;subst A;refine⟨30,dL ?_⟩;simp only[L7,body_wait,waitFn,fV];u_c Ju E a;u_c D E a;u_reg E a;iterate 3 u_op E a
 u_call H.f_uLoad(nm_uLoad L)uLoadFn E a;u_c D E a;u_reg E a;u_op E a;u_c N E a;u_c D E a;u_reg E a;iterate 3 u_op E a
 refine I λl s=>?_;replace a:=E a s;refine⟨rfl,λv hv b=>?_⟩;obtain rfl|rfl|rfl:v=0∨v=1∨v=2:=by omega
 ·replace b:WgAt L.tWg Wg l 0 0:=by grind
  refine⟨_,MN (v:=0) rfl rfl (by k_ne) rfl H.f_loadU64 (x_loadU64_n L) (x_loadU64_b L) (x_loadU64_x L) cO (x_loadU64_f L) rfl b.cellSt,λ_=>⟨60,dL ?_⟩,λh=>absurd rfl h⟩;walk_nrm;u_op E a;u_c N E a;u_c ql E a;u_leave1 H.f_uLoad E a;u_op E a;u_c N E a;u_c D E a;u_reg E a;iterate 4 u_op E a
  u_c N E a;u_c D E a;u_reg E a;iterate 4 u_op E a
  u_c N E a;iterate 2 u_c D E a
  u_reg E a;iterate 2 u_op E a
  u_c N E a;iterate 2(u_cond Y E a;u_c D E a)
  u_reg E a;refine I λp f=>?_;replace a:=E a f;refine⟨rfl,_,Sn .enable (by simp) rfl rfl (by k_ne) rfl H.f_enable (x_enable_n L) (x_enable_b L) (x_enable_x L)<|x_enable_f L,12,dL ?_⟩;walk_nrm;u_c N E a;u_reg E a;u_op E a;u_conv H.underlying_tWgP H.room_tWg(WgLive.cell0 a).choose_spec E a;refine I λo d=>?_;replace a:=E a d;refine⟨rfl,_,Jr rz (by simp) rfl rfl (by k_ne) rfl H.f_acquire (x_acquire_n L) (x_acquire_b L) (x_acquire_x L) (x_acquire_f L)<|by simp[er,stA],30,dL ?_⟩;walk_nrm;u_c N E a;iterate 2 u_c D E a
  u_reg E a;iterate 8 u_op E a
  iterate 2 u_skip E a
  u_op E a;u_c N E a;u_cond ai E a;u_c ld E a;u_c ql E a;u_leave0 H.f_wait E a;grind[Goes.stop]
 ·replace b:WgAt L.tWg Wg l 4294967296 0:=by simpa[KK]using b
  refine⟨_,MN (v:=4294967296) rfl rfl (by k_ne) rfl H.f_loadU64 (x_loadU64_n L) (x_loadU64_b L) (x_loadU64_x L) cO (x_loadU64_f L) rfl b.cellSt,λu=>absurd u<|by omega,λ_=>⟨70,dL ?_⟩⟩;walk_nrm;u_op E a;u_c N E a;u_c ql E a;u_leave1 H.f_uLoad E a;u_op E a;u_c N E a;u_c D E a;u_reg E a;iterate 4 u_op E a
  u_c N E a;u_c D E a;u_reg E a;iterate 4 u_op E a
  u_c N E a;iterate 2 u_c D E a
  u_reg E a;iterate 2 u_op E a
  u_c N E a;u_cond ai E a;u_c ld E a;u_c D E a;u_reg E a;iterate 6 u_op E a
  u_call H.f_uCas(nm_uCas L)uCasFn E a;u_c D E a;u_reg E a;u_op E a;u_c N E a;u_c D E a;u_reg E a;iterate 5 u_op E a
  refine I λj k=>?_;replace a:=E a k;refine⟨rfl,λy x b=>⟨λe=>?_,λe=>?_⟩⟩
  ·subst e;have z:((1:Nat):Int)*KK+1=4294967297:=by decide
   replace b:WgAt L.tWg Wg j 4294967296 0:=by grind
   rw[z];refine⟨_,(stepG_cas_hit (v:=4294967296) (n:=4294967297) rfl rfl (by k_ne) rfl H.f_casU64 (x_casU64_n L) (x_casU64_b L) (x_casU64_x L) cO (x_casU64_f L) rfl rfl rfl b.cellSt<|b.thaw 0).trans<|by rfl,70+60,lift ?_⟩;replace a:jK L.tWg Wg<|j.setCell (stA Wg)<|V cO 4294967297:=⟨_,_,b.setSt _⟩;walk_nrm;u_op E a;u_c N E a;u_c ql E a;u_leave1 H.f_uCas E a;u_c N E a;u_cond Y E a;iterate 2 u_c D E a
   u_reg E a;iterate 4 u_op E a
   u_c N E a;u_cond Y E a;u_reg E a;iterate 3 u_op E a
   u_conv H.underlying_tPU32 H.room_tU32(WgLive.cell1 a).choose_spec E a;refine I λ_ h=>?_;replace a:=E a h;u_in E a;rw[Jr .write (by simp) rfl rfl (by k_ne) rfl H.f_raceWrite (x_raceWrite_n L) (x_raceWrite_b L) (x_raceWrite_x L) (x_raceWrite_f L) (ad:=⟨Wg,1,Z⟩)<|by simp[er]];simp only[eP];refine⟨⟨rfl,λe he=>?_⟩,?_⟩;·grind
   walk_nrm;refine dL ?_;u_c N E a;u_c D E a;u_reg E a;u_op E a;u_c N E a;iterate 2 u_c D E a
   u_reg E a;iterate 4 u_op E a
   u_skip E a;u_op E a;u_c N E a;u_cond ai E a;u_c ld E a;u_c D E a;u_reg E a;iterate 4 u_op E a
   refine I λi c=>?_;replace a:=E a c;refine⟨rfl,rfl,λ⟨st,b⟩=>stepG_semacquire_wait rfl rfl rfl H.f_semacquire (x_semacquire_n L) (x_semacquire_b L) (x_semacquire_x L) (x_semacquire_f L) (by simp[er,smA]) b.cellSm,λq=>?_⟩;refine⟨_,(stepG_semacquire (n:=1) rfl rfl (by k_ne) rfl H.f_semacquire (x_semacquire_n L) (x_semacquire_b L) (x_semacquire_x L) (x_semacquire_f L) (by simp[er,smA]) q.cellSm (by k_ne)<|q.thaw 1).trans<|by rfl,40,dL ?_⟩;replace a:jK L.tWg Wg<|i.setCell (smA Wg)<|V .u32 0:=⟨_,_,q.setSm 0⟩;walk_nrm;u_c N E a;u_c D E a;u_reg E a;iterate 3 u_op E a
   u_call H.f_uLoad(nm_uLoad L)uLoadFn E a;u_c D E a;u_reg E a;u_op E a;u_c N E a;u_c D E a;u_reg E a;iterate 3 u_op E a
   refine I λt n=>?_;replace a:=E a n;refine⟨rfl,λb=>⟨_,MN (v:=0) rfl rfl (by k_ne) rfl H.f_loadU64 (x_loadU64_n L) (x_loadU64_b L) (x_loadU64_x L) cO (x_loadU64_f L) rfl b.cellSt,40,dL ?_⟩⟩;walk_nrm;u_op E a;u_c N E a;u_c ql E a;u_leave1 H.f_uLoad E a;iterate 2 u_op E a
   u_c N E a;u_c D E a;u_cond Y E a;u_c D E a;u_reg E a;refine I λp f=>?_;replace a:=E a f;refine⟨rfl,_,Sn .enable (by simp) rfl rfl (by k_ne) rfl H.f_enable (x_enable_n L) (x_enable_b L) (x_enable_x L)<|x_enable_f L,12,dL ?_⟩;walk_nrm;u_c N E a;u_reg E a;u_op E a;u_conv H.underlying_tWgP H.room_tWg(WgLive.cell0 a).choose_spec E a;refine I λo d=>?_;replace a:=E a d;refine⟨rfl,_,Jr rz (by simp) rfl rfl (by k_ne) rfl H.f_acquire (x_acquire_n L) (x_acquire_b L) (x_acquire_x L) (x_acquire_f L)<|by simp[er,stA],30,dL ?_⟩;walk_nrm;u_c N E a;iterate 2 u_c D E a
   u_reg E a;u_op E a;u_c N E a;u_cond ai E a;u_c ld E a;u_c ql E a;u_leave0 H.f_wait E a;grind[Goes.stop]
  ·refine⟨_,stepG_cas_miss (v:=(y:Int)*KK) (old:=4294967296) (n:=4294967297) rfl rfl (by k_ne) rfl H.f_casU64 (x_casU64_n L) (x_casU64_b L) (x_casU64_x L) cO (x_casU64_f L) rfl rfl rfl b.cellSt (b.thaw 0)<|by simp only[KK];omega,30,dL ?_⟩;walk_nrm;u_op E a;u_c N E a;u_c ql E a;u_leave1 H.f_uCas E a;u_c N E a;u_cond ai E a;u_c ld E a;u_c stepG_inBlock E a;u_c stepG_inLoop E a;refine I λi c=>?_;replace a:=E a c;exact⟨_,rfl,by simp,by simp,trivial,a⟩
 ·replace b:WgAt L.tWg Wg l 8589934592 0:=by simpa[KK]using b
  refine⟨_,MN (v:=8589934592) rfl rfl (by k_ne) rfl H.f_loadU64 (x_loadU64_n L) (x_loadU64_b L) (x_loadU64_x L) cO (x_loadU64_f L) rfl b.cellSt,λu=>absurd u<|by omega,λ_=>⟨70,dL ?_⟩⟩;walk_nrm;u_op E a;u_c N E a;u_c ql E a;u_leave1 H.f_uLoad E a;u_op E a;u_c N E a;u_c D E a;u_reg E a;iterate 4 u_op E a
  u_c N E a;u_c D E a;u_reg E a;iterate 2 u_op E a
  try simp only[be2]
  iterate 2 u_op E a
  u_c N E a;iterate 2 u_c D E a
  u_reg E a;iterate 2 u_op E a
  u_c N E a;u_cond ai E a;u_c ld E a;u_c D E a;u_reg E a;iterate 6 u_op E a
  u_call H.f_uCas(nm_uCas L)uCasFn E a;u_c D E a;u_reg E a;u_op E a;u_c N E a;u_c D E a;u_reg E a;iterate 5 u_op E a
  refine I λj k=>?_;replace a:=E a k;refine⟨rfl,λy x b=>⟨λe=>?_,λe=>?_⟩⟩
  ·subst e;have z:((2:Nat):Int)*KK+1=8589934593:=by decide
   replace b:WgAt L.tWg Wg j 8589934592 0:=by grind
   rw[z];refine⟨_,(stepG_cas_hit (v:=8589934592) (n:=8589934593) rfl rfl (by k_ne) rfl H.f_casU64 (x_casU64_n L) (x_casU64_b L) (x_casU64_x L) cO (x_casU64_f L) rfl rfl rfl b.cellSt<|b.thaw 0).trans<|by rfl,70+60,lift ?_⟩;replace a:jK L.tWg Wg<|j.setCell (stA Wg)<|V cO 8589934593:=⟨_,_,b.setSt _⟩;walk_nrm;u_op E a;u_c N E a;u_c ql E a;u_leave1 H.f_uCas E a;u_c N E a;u_cond Y E a;iterate 2 u_c D E a
   u_reg E a;iterate 4 u_op E a
   u_c N E a;u_cond Y E a;u_reg E a;iterate 3 u_op E a
   u_conv H.underlying_tPU32 H.room_tU32(WgLive.cell1 a).choose_spec E a;refine I λ_ h=>?_;replace a:=E a h;u_in E a;rw[Jr .write (by simp) rfl rfl (by k_ne) rfl H.f_raceWrite (x_raceWrite_n L) (x_raceWrite_b L) (x_raceWrite_x L) (x_raceWrite_f L) (ad:=⟨Wg,1,Z⟩)<|by simp[er]];simp only[eP];refine⟨⟨rfl,λe he=>?_⟩,?_⟩;·grind
   walk_nrm;refine dL ?_;u_c N E a;u_c D E a;u_reg E a;u_op E a;u_c N E a;iterate 2 u_c D E a
   u_reg E a;iterate 2 u_op E a
   try simp only[bd2]
   iterate 2 u_op E a
   u_skip E a;u_op E a;u_c N E a;u_cond ai E a;u_c ld E a;u_c D E a;u_reg E a;iterate 4 u_op E a
   refine I λi c=>?_;replace a:=E a c;refine⟨rfl,rfl,λ⟨st,b⟩=>stepG_semacquire_wait rfl rfl rfl H.f_semacquire (x_semacquire_n L) (x_semacquire_b L) (x_semacquire_x L) (x_semacquire_f L) (by simp[er,smA]) b.cellSm,λq=>?_⟩;refine⟨_,(stepG_semacquire (n:=1) rfl rfl (by k_ne) rfl H.f_semacquire (x_semacquire_n L) (x_semacquire_b L) (x_semacquire_x L) (x_semacquire_f L) (by simp[er,smA]) q.cellSm (by k_ne)<|q.thaw 1).trans<|by rfl,40,dL ?_⟩;replace a:jK L.tWg Wg<|i.setCell (smA Wg)<|V .u32 0:=⟨_,_,q.setSm 0⟩;walk_nrm;u_c N E a;u_c D E a;u_reg E a;iterate 3 u_op E a
   u_call H.f_uLoad(nm_uLoad L)uLoadFn E a;u_c D E a;u_reg E a;u_op E a;u_c N E a;u_c D E a;u_reg E a;iterate 3 u_op E a
   refine I λt n=>?_;replace a:=E a n;refine⟨rfl,λb=>⟨_,MN (v:=0) rfl rfl (by k_ne) rfl H.f_loadU64 (x_loadU64_n L) (x_loadU64_b L) (x_loadU64_x L) cO (x_loadU64_f L) rfl b.cellSt,40,dL ?_⟩⟩;walk_nrm;u_op E a;u_c N E a;u_c ql E a;u_leave1 H.f_uLoad E a;iterate 2 u_op E a
   u_c N E a;u_c D E a;u_cond Y E a;u_c D E a;u_reg E a;refine I λp f=>?_;replace a:=E a f;refine⟨rfl,_,Sn .enable (by simp) rfl rfl (by k_ne) rfl H.f_enable (x_enable_n L) (x_enable_b L) (x_enable_x L)<|x_enable_f L,12,dL ?_⟩;walk_nrm;u_c N E a;u_reg E a;u_op E a;u_conv H.underlying_tWgP H.room_tWg(WgLive.cell0 a).choose_spec E a;refine I λo d=>?_;replace a:=E a d;refine⟨rfl,_,Jr rz (by simp) rfl rfl (by k_ne) rfl H.f_acquire (x_acquire_n L) (x_acquire_b L) (x_acquire_x L) (x_acquire_f L)<|by simp[er,stA],30,dL ?_⟩;walk_nrm;u_c N E a;iterate 2 u_c D E a
   u_reg E a;u_op E a;u_c N E a;u_cond ai E a;u_c ld E a;u_c ql E a;u_leave0 H.f_wait E a;grind[Goes.stop]
  ·refine⟨_,stepG_cas_miss (v:=(y:Int)*KK) (old:=8589934592) (n:=8589934593) rfl rfl (by k_ne) rfl H.f_casU64 (x_casU64_n L) (x_casU64_b L) (x_casU64_x L) cO (x_casU64_f L) rfl rfl rfl b.cellSt (b.thaw 0)<|by simp only[KK];omega,30,dL ?_⟩;walk_nrm;u_op E a;u_c N E a;u_c ql E a;u_leave1 H.f_uCas E a;u_c N E a;u_cond ai E a;u_c ld E a;u_c stepG_inBlock E a;u_c stepG_inLoop E a;refine I λi c=>?_;replace a:=E a c;exact⟨_,rfl,by simp,by simp,trivial,a⟩
end
end Go.Proofs.YtpdbmpbmepkikaaGreatDoor
