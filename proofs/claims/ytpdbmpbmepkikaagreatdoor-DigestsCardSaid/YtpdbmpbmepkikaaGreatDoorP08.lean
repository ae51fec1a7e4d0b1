/- Laws. -/
import GoSem.Core.Made
import Derived.Conc.Holds
import Derived.Test.YtpdbmpbmepkikaaGreatDoorP07
set_option maxRecDepth 100000
set_option maxHeartbeats 400000
set_option linter.all false
open Go.Proofs.Tryz
open Bool renaming true->Z,false->ai
open Go renaming Goroutine->aU,Frame->aX,undef->ak,World->av,Value->ay,Calls->bE,Program->bU,Oper->dD,Func->dV,TypeId->dZ,Item->eS,FuncId->fb,runNT->gZ,Operand->iI
open Go.Act renaming eval->dW,put->dj
open Go.CallKind renaming normal->er
open Go.Conc renaming base->aY,Goes->cH,crowd->dw
open Go.ConcN renaming WgLive->jq
open Go.ConcN.Gen renaming AnchWN->Me
open Go.ConcR renaming mk->jo
open Go.Ending renaming returned->bj
open Go.Extern renaming findNext->Xk
open Go.Extern.Race renaming none_->ay9
open Go.Frame renaming enter->eO,finish->sJ
open Go.IntKind renaming i64->aH,u64->cK
open Go.Item renaming inRegion->aP,code->bD
open Go.Made renaming reckonStruct->agX
open Go.Mark renaming acquire->qd
open Go.MemOp renaming ofEvents->iC
open Go.Obj renaming cells->aF
open Go.Operand renaming tmp->cu
open Go.Proofs.Tryz renaming prog->aC,f41->nG
open Go.Region renaming wanted->eP
open Go.Stepped renaming next->fQ
open Go.Trace renaming act?->CR
open Go.Value renaming int->Y,pointer->aE,agg->bN,tuple->bO,chan->cY,bool->cz
open List renaming range->lW
open Option renaming some->U,none->V
open Or renaming inr->aA,inl->ax
open Pure renaming pure->bH
open Relation renaming TransGen->sI
namespace Go.Proofs.YtpdbmpbmepkikaaGreatDoor
def o9:=@Go.Conc.stepG_ret'
def atb:=@Array.mem_iff_getElem?
def yN:=@Option.bind_eq_some_iff
def adu:=@Nat.lt_of_le_of_lt
def adt:=@Nat.ge_two_pow_of_testBit
def Kj:=@List.all_eq_true
def GJ:=@List.mem_range
def UX:=@Array.all_eq_true'
def OP:=@beq_iff_eq
def ads:=@Bool.not_eq_true'
def OO:=@Go.Conc.stepG_mark0
def GI:=@Go.Conc.stepG_markAt
def Ki:=@Go.Conc.stepG_load_atomic
section
open Go.Proofs Go.Conc Go.RowKit Go.Conc.Lib Go.ConcR.Gen
open Go.ConcN (upd upd_ne upd_same WgLive sumTo sumTo_congr)
open Go.ConcR (KK WgAt stA smA wgBlock rd wr mk Bk)
theorem fF.kept{ρ}{I}{e cl'}{q}{w v v'}{sp}(M:fF ρ I q e w v)(L:Left e sp v v')(f:∀b,b<v.heap.size->e b=.eN->cl' b=.eN):fF ρ I q cl' w v':=
 ⟨L.os.trans M.os,M.fair,λb c=>cF (M.low b c) L.size,λb o c d=>by
  obtain⟨i,l⟩:=M.blk b o c d;have a:=(oZ.1 c).1;exact⟨i,(L.block _ (M.low b a) (ax (M.cls b a d))).trans l⟩,M.jM,M.AL,λb c d=>f _ (M.low b c) (M.cls b c d),λA j=>by
  obtain⟨⟨n,k,m,h⟩,g⟩:=M.arg A j;have a:=(oZ.1 h).1;exact⟨⟨n,k,m,(L.block _ a (ax g)).trans h⟩,f _ a g⟩⟩
section
variable {C:List aX} {c:aX} {T:Array ay} {w:av} {fs:Array dV}
set_option maxHeartbeats 1000000 in
theorem aps (J:T.size=87):
  cH aC Z (L ([]++[])) (DH [] []) (λg w=>g=G (c.finish (bO #[T.getD 6 ak,T.getD 7 ak])) C) 20 (G ((aY 41).at ⟨T,[]⟩ (aP yD []::[bD (cP 13)])) (c::C)) w:=by
 obtain⟨v0,v1,v2,v3,v4,v5,v6,v7,v8,v9,v10,y,v12,lK,oQ,QX,oP,oO,R,lJ,v20,U,K,oN,m,n,s,Q3,v28,H,x,v31,X,P,p,oM,l,Q0,oL,oK,v40,oJ,oI,oH,M,mQ,O,oG,oF,Y,r,v51,j,i,V,oE,mP,v,Q2,v59,mO,oD,oC,k,mM,t,mL,d,q,u,S,e,v72,Q,o,E,v76,W,Q1,QW,h,z,F,mK,B,v85,f,rfl⟩:=oy T J;have a:=trivial;simp only[cP,eG,nG,fO];refine jT (n:=9) ?_;u_c N A a;u_c D A a;u_reg A a;u_op A a;u_op A a;u_op A a;u_op A a;u_c N A a;u_c o9 A a;refine I (λ_ b=>?_);replace a:=A a b;u_in A a;refine PZ (t:=6) (u:=7) rfl rfl func41 (by kernel_rfl) ⟨dh_none (by simp),?_⟩
 exact I λw1 h1=>rfl
theorem asH(d:fs[41]? =uy){w}(a:gd 1 w):
  cH (J aC fs) Z i zB (λg w=>gd 0 w∧g=G (c.finish (bO #[T.getD 6 ak,T.getD 7 ak])) C) 20 (G ((aY 41).at ⟨T,[]⟩ [bD tZ]) (c::C)) w:=by
 unfold gd at a;simp only[tZ,Gi,eH];refine jT (n:=2) ?_;u_c D m a;u_reg m a;refine I (λ_ b=>?_);replace a:=m a b;u_in m a;refine fT rfl rfl (by k_ne) (λK v=>?_)
 have l:=Nn fs;have f:=gp (o:=0) a rfl;have j:=ve 0 a;go_simp;have e:=Ur (Y aH 0) a;refine v _ _ ⟨e.1,?_⟩;replace a:=e.2;refine jT (n:=2) ?_;u_c N m a;u_c o9 m a;refine I (λ_ b=>?_);replace a:=m a b;u_in m a;refine PZ (t:=6) (u:=7) rfl rfl d (by kernel_rfl) ⟨.refl _,?_⟩
 exact I λk h=>⟨m a h,rfl⟩
end
section
variable {K:fy} {bw e8 e9 x1 y1 x2 y2:Nat} {fs:Array dV} {I:H} {nm:String->Bool} {Done:aU->av->Prop} {cL cR:aX} {B cU:List aX}
theorem aoK(hP:K.P=aC)(qU:K.L=dK)(hl:K.live=Z)(qT:K.Wg=bw)(xY:Fu bw)(W:Dd fs I nm)(hE:mm (J K.P fs) Done){s0 s:St}{iE ρ:Nat->Nat}{g0:aU}{w0 w:av}{TL A:Array ay}
  (F:Fin K fs I Done (cL::B) (cR::cU) s0 iE g0 w0 e8 e9 bw x1 y1 x2 y2 ρ w TL A s) (ho:Over K.n0 s0.T):
  ∃K' t N v v',(K'.P=K.P∧K'.L=K.L∧K'.live=ai)∧s.runs K.P t∧Ok K' 0 t (G (cR.finish v') cU)∧(t.md=.opn 0∧(∀i,t.role i=V)∧(∀n,V2 n t.D<=0)∧Over K'.n0 t.T)∧fF ρ I K.P t.cl N t.v∧RV ρ I N.heap.size v v'∧gd 0 N∧Term (J K.P fs) Done (G (cL.finish v) B) N∧
   kW (J K.P fs) Done (G (cL.finish v) B,N) (G ((aY 41).at ⟨TL,[]⟩ [bD tZ]) (cL::B),w)∧LF w N∧Still s.cl s.v t.cl t.v:=by
 obtain⟨P,L,Wg,n0,fL,live⟩:=K;simp only at hP qU hl qT ho;subst hP qU hl qT;obtain⟨H,m,p,f,QW,e1,e2,l1,l2,⟨k1,Cq⟩,⟨k2,Cp⟩,ho1,ho2⟩:=F.pair;have ov:Over n0 s.T:=by obtain⟨u,hu⟩:=BB F.since.runs;rw[hu];exact ho.app u
 have Ua:zU[2]? =U ((zU[2]?).getD default):=by kernel_rfl
 have n17:BQ[2]? =U ((BQ[2]?).getD default):=by kernel_rfl
 have f41:(aC.funcs[(aY 41).fn]?).any (·.norace)=ai:=by kernel_rfl
 have M:=F.DD.hold.inv.own 0 e8 F.m8;obtain⟨Q2,_,q1,H1,rfl,j⟩:=F.DD.walk (n:=8) (O:=[]) (Rd:=[e8]) (Stop:=λg w=>g=G ((aY 41).at ⟨(A.setIfInBounds 80 (aE (U e8))).setIfInBounds 81 (cY (U x1)),[]⟩ (aP zU [2]::[bD (cP 11)])) (cR::cU)) (λg w h=>by rw[h];rfl) (alA F.sR F.t8 F.c8) (by simp) (by simpa using⟨M.2,ax M.1⟩)
 generalize O:(A.setIfInBounds 80 (aE (U e8))).setIfInBounds 81 (cY (U x1))=T1 at H1;have z1:T1.size=87:=by rw[<-O];simp[F.sR]
 have s1:∀z,z<80->T1[z]? =A[z]? :=λz hz=>by rw[<-O,l (by omega),l (by omega)]
 have c1:T1[81]? =U (cY (x1)):=by rw[<-O];exact jJ (by rw[tJ,F.sR];decide)
 have ro1:=j.role;have pr1:j4 Q2.role H m p f:=by rw[ro1];exact QW
 have avM:Q2.ch p.aM.c=U ⟨V,ai,k1⟩:=by rw[j.eT H p QW.one QW.xe,e1];exact Cq
 have aFd:Q2.ch f.aM.c=U ⟨V,ai,k2⟩:=by rw[j.eT m f QW.two QW.mV,e2];exact Cp
 have x:(Q2.D H).stage=9->∃k,Q2.ch p.out=U ⟨V,ai,k⟩:=λh=>by obtain⟨a,b⟩:=j.outs H p QW.one QW.xe h;rw[a];exact ho1 b
 have aEP:(Q2.D m).stage=9->∃k,Q2.ch f.out=U ⟨V,ai,k⟩:=λh=>by obtain⟨a,b⟩:=j.outs m f QW.two QW.mV h;rw[a];exact ho2 b
 have Nh:=j.size;refine H1.ahc (g':=G ((aY 41).at ⟨T1,[]⟩ (aP zU []::[bD (cP 11)])) (cR::cU)) rfl pr1 (by grind) rfl (by rfl) rfl (λw1 k Q0=>?_) avM x λt2 q2 H2 BE uC Ng L2 kT R2 aqF XC cd2 aDK=>?_
 ·rw[e1] at Q0⊢;have h:((zU[2]?).map λo=>(o.guard,o.op,o.dst))=U (V,.call {callee:=.builtin .close,args:= #[cu 81],argTypes:= #[112]},V):=by kernel_rfl
  rw[Ua] at h;simp only[ey,ec,Kk] at h;have:=QA (P:=aC) (main:=Z) (b:=aY 41) (T:=T1) (ds:=[]) (k:=[bD (cP 11)]) (cs:=cR::cU) (rest:=[]) Ua (by unfold eP;rw[h.1]) (by k_ne) h.2.1 c1 f41 Q0
  rw[h.2.2] at this;exact this
 have m9:e9∈(t2.D 0).own:=by rw[aqF,j.D0];exact F.m9
 have aDG:=H2.hold.inv.own 0 e9 m9;have b9:t2.v.heap[e9]? =(ends (x2) (y2)):=by
  have m9':e9∈(Q2.D 0).own:=by grind
  rw[R2.1 e9 m9',j.rest e9 (F.DD.hold.inv.own 0 e9 F.m9).2 (F.DD.hold.inv.own 0 e9 F.m9).1 (by simp)]
  exact F.c9
 obtain⟨t3,_,q3,H3,rfl,y⟩:=H2.walk (n:=8) (O:=[]) (Rd:=[e9]) (Stop:=λg w=>g=G ((aY 41).at ⟨(T1.setIfInBounds 82 (aE (U e9))).setIfInBounds 83 (cY (U x2)),[]⟩ (aP BQ [2]::[bD (cP 12)])) (cR::cU)) (λg w h=>by rw[h];rfl) (alz z1 ((s1 9 (by decide)).trans F.t9) b9) (by simp) (by grind)
 generalize EP:(T1.setIfInBounds 82 (aE (U e9))).setIfInBounds 83 (cY (U x2))=d at H3;have z2:d.size=87:=by grind
 have s2:∀z,z<80->d[z]? =A[z]? :=λz hz=>by rw[<-EP,l (by omega),l (by omega)];exact s1 z hz
 have pr3:j4 t3.role H m p f:=by rw[y.role,BE];exact pr1
 have e:j4 t2.role H m p f:=by grind
 have Q1:t3.ch f.aM.c=U ⟨V,ai,k2⟩:=by rw[y.eT m f e.two e.mV,cd2];grind
 have aFc:t3.ch p.aM.c=U ⟨V,Z,k1⟩:=by rw[y.eT H p e.one e.xe];exact XC
 have avj:(t3.D m).stage=9->∃k,t3.ch f.out=U ⟨V,ai,k⟩:=λh=>by
  obtain⟨a,b⟩:=y.outs m f e.two e.mV h
  grind
 have sz3:=y.size.trans (Ng.trans Nh);refine H3.ahc (g':=G ((aY 41).at ⟨d,[]⟩ (aP BQ []::[bD (cP 12)])) (cR::cU)) rfl pr3.swap (by grind) rfl (by rfl) rfl (λw1 k Q0=>?_) Q1 avj λt4 q4 H4 ro4 Ol sz4 L4 Ip R4 aDH cc4 cd4 aDJ=>?_
 ·rw[e2] at Q0⊢;have h:((BQ[2]?).map λo=>(o.guard,o.op,o.dst))=U (V,.call {callee:=.builtin .close,args:= #[cu 83],argTypes:= #[112]},V):=by kernel_rfl
  rw[n17] at h;simp only[ey,ec,Kk] at h;have:=QA (P:=aC) (main:=Z) (b:=aY 41) (T:=d) (ds:=[]) (k:=[bD (cP 12)]) (cs:=cR::cU) (rest:=[]) n17 (by unfold eP;rw[h.1]) (by k_ne) h.2.1 (by grind) f41 Q0
  rw[h.2.2] at this;exact this
 have q:j4 t4.role H m p f:=by grind
 obtain⟨C,_,q5,H5,rfl,E⟩:=H4.walk (n:=8) (O:=[]) (Rd:=[]) (Stop:=λg w=>g=G ((aY dK.wait).at ⟨#[aE (U Wg),ak,ak,ak,ak,ak,ak,ak,ak,ak,ak,ak,ak,ak,ak,ak,ak,ak,ak,ak,ak,ak,ak,ak,ak,ak,ak,ak,ak,ak,ak,ak,ak,ak,ak,ak,ak,ak,ak,ak,ak,ak,ak,ak,ak,ak,ak,ak,ak,ak,ak,ak,ak,ak,ak,ak,ak,ak,ak,ak,ak,ak,ak,ak,ak,ak,ak,ak,ak,ak,ak,ak,ak,ak,ak,ak,ak,ak,ak,ak,ak,ak,ak,ak],[]⟩ [bD (body_wait dK)]) ((aY 41).at ⟨d,[]⟩ (aP yD [0]::[bD (cP 13)])::(cR::cU))) (λg w h=>by rw[h];rfl) (aly ((s2 10 (by decide)).trans F.t10)) (by simp) (by simp)
 have pr5:j4 C.role H m p f:=by rw[E.role];exact q
 have tS:zE C.role C.ch:=by
  intro i r hr hi;rcases pr5.Dk hr (Eh hi) with⟨rfl,rfl⟩|⟨rfl,rfl⟩
  ·exact⟨⟨V,Z,k1⟩,by rw[E.eT i r q.one q.xe,cd4];grind,rfl⟩
  ·exact⟨⟨V,Z,k2⟩,by rw[E.eT i r q.two q.mV];exact cc4,rfl⟩
 have QX:s.runs aC C:=(((q1.trans q2).trans q3).trans q4).trans q5;have ov5:Over n0 C.T:=by obtain⟨u,hu⟩:=BB QX;rw[hu];exact ov.app u
 have sz5:=E.size.trans (sz4.trans sz3);have lt5:∀i r,C.role i=U r->i<C.gs.size:=λi r hr=>by
  rcases pr5.all i r hr with rfl|rfl|rfl
  all_goals grind
 have Q3:jq dK.tWg Wg C.v:=H5.hold.inv.live rfl;refine H5.ajm (Hd:=Me dK (λ_=>True) Wg ((aY 41).at ⟨d,[]⟩ (aP yD [0]::[bD (cP 13)])) (cR::cU)) rfl (E.md.trans (Ol.trans (y.md.trans (uC.trans (j.md.trans F.md))))) tS ov5 lt5 (λg w h=>xY _ _ _ _ _ _ _ _ _ h) (ajn Dl C.v Q3) λK6 t6 q6 H6 hP6 hL6 hl6 Tz ho6 BD Oj L6 im6 FO=>?_;have ava:dj ⟨d,[]⟩ ((yD[0]?).bind (·.dst)) (bO #[])=⟨d.setIfInBounds 84 (bO #[]),[]⟩:=by
  have:(yD[0]?).bind (·.dst)=U 84:=by kernel_rfl
  rw[this];rfl
 rw[ava] at H6;obtain⟨X,_,q7,H7,rfl,R,d7,c7⟩:=H6.walk (n:=20) (O:=[]) (Rd:=[]) (Stop:=λg w=>g=G (cR.finish (bO #[(d.setIfInBounds 84 (bO #[])).getD 6 ak,(d.setIfInBounds 84 (bO #[])).getD 7 ak])) cU) (λg w h=>by rw[h];rfl) (by grind[aps]) (by simp) (by simp)
 obtain⟨_,N,⟨fl,rfl⟩,t',b',Q⟩:=Term.goes hE LF.refl LF.trans LF.zX (λ_ _ _ h=>h) (asH (C:=B) (c:=cL) (T:=TL) W.f41 F.flag) F.term;obtain⟨H8,Wn⟩:=H7.trim hl6 (λi=>by rw[R.role];grind)
 have Ew:∀z,z=6∨z=7->(d.setIfInBounds 84 (bO #[])).getD z ak=A.getD z ak:=λz hz=>by rw[iz,iz,l (by omega),s2 z (by omega)]
 refine⟨K6,{X with D:=tw X.gs.size X.D},N,bO #[TL.getD 6 ak,TL.getD 7 ak],bO #[A.getD 6 ak,A.getD 7 ak],⟨hP6,hL6,hl6⟩,(QX.trans q6).trans (by rw[hP6] at q7;exact q7),by grind,⟨R.md.trans Oj,λi=>by show X.role i=V;rw[R.role];grind,λn=>vF (Wn n),?_⟩,((((((((F.eN.left j.left j.cls).left L2 kT).left y.left y.cls).left L4 Ip).left E.left E.cls).kept L6 (λb hb hi=>im6 b hb _ (ax rfl) hi)).left R.left R.cls).lf (K:=⟨aC,dK,Wg,n0,fL,Z⟩) W.flag W.Fs Q),?_,fl,t',b',Q,?_⟩
 ·obtain⟨u,hu⟩:=BB q7;show Over K6.n0 X.T;rw[hu];exact Tz.app u
 ·rw[Q.size];obtain⟨a1,a2⟩:=F.ZB;obtain⟨b1,b2⟩:=F.seven;refine⟨?_,?_⟩
  ·grind[S,oV,nQ,Bool.and_self]
  ·rw[a2,b2];rfl
 ·exact((((((Still.of j.left j.cls).trans (.of L2 kT)).trans (.of y.left y.cls)).trans (.of L4 Ip)).trans (.of E.left E.cls)).trans (⟨L6.out,L6.size,λb hb hc=>⟨L6.block b hb (aA (ax hc)),im6 b hb _ (aA rfl) hc⟩⟩)).trans (.of R.left R.cls)
end
theorem uW{T:Array ay}{t}(h:t<T.size):T[t]? =(T.getD t ak):=by rw[iz,iq h];rfl
theorem RV.addr{ρ}{I}{N}{a}{x}(h:RV ρ I N (aE (U a)) x):x=aE ((dA ρ a))∧I.blk N a.block=Z:=by
 obtain⟨c,b⟩:=h;refine⟨by rw[b];rfl,?_⟩
 grind[S]
section
variable {K:fy} {fs:Array dV} {I:H} {nm:String->Bool} {Done:aU->av->Prop} {cL cR:aX} {B cU:List aX}
set_option maxHeartbeats 4000000 in
theorem aoJ (hP:K.P=aC) (qU:K.L=dK) (hl:K.live=Z) {bw e8 e9 x1 y1 x2 y2 b2 b3 c2 c3 jf} (qT:K.Wg=bw) (xY:Fu bw) (W:Dd fs I nm) (hE:mm (J K.P fs) Done) (jX:∀g w,Done g w->g.callers=[]) {s} {ρ} {w} {T TL} {a b} {mv}
  (hT:T.size=87) (hTL:TL.size=87) (h0:TL[0]? =U (.pointer (a))) (h1:TL[1]? =U (.pointer (b))) (hA:kJ ρ I w.heap.size S8 TL T) (hS:aib T (dA ρ a) (dA ρ b) mv e8 e9 bw) (hF:gd 1 w) (Wx:Rb s.v (s.D 0).own e8 e9 x1 y1 x2 y2)
  (hp:j4 s.role jf (jf+1) (wk bw b2 b3 x1 y1 (dA ρ a)) (wk bw c2 c3 x2 y2 (dA ρ b))) (Ez:s.role 0=V) (fP:s.gs.size=jf+2) (mC:s.md=.opn 0) (c:s.ch x1=U ⟨V,ai,0⟩∧s.ch y1=U ⟨V,ai,0⟩∧s.ch x2=U ⟨V,ai,0⟩∧s.ch y2=U ⟨V,ai,0⟩)
  (Q2:Ok K 0 s (G ((aY 41).at ⟨T,[]⟩ [.code (cP 7)]) (cR::cU))) (tr:Term (J K.P fs) Done (G ((aY 41).at ⟨TL,[]⟩ [.inRegion mu [0,1,2,3,4,5,6,7],.code zO]) (cL::B)) w) (M:fF ρ I K.P s.cl w s.v) (ho:Over K.n0 s.T):
  ∃K' t A QX v v',(K'.P=K.P∧K'.L=K.L∧K'.live=ai)∧s.runs K.P t∧Ok K' 0 t (G (cR.finish v') cU)∧(t.md=.opn 0∧(∀QW,t.role QW=V)∧(∀n,V2 n t.D<=0)∧Over K'.n0 t.T)∧fF A I K.P t.cl QX t.v∧RV A I QX v v'∧gd 0 QX∧Term (J K.P fs) Done (G (cL.finish v) B) QX∧
   kW (J K.P fs) Done (G (cL.finish v) B,QX) (G ((aY 41).at ⟨TL,[]⟩ [.inRegion mu [0,1,2,3,4,5,6,7],.code zO]) (cL::B),w)∧(∀z,z<w.heap.size->ρ z=A z)∧w.heap.size<=QX∧(∀z,z<w.heap.size->I.F z=ai->z≠4->QX.heap[z]? =w.heap[z]?)∧Still s.cl s.v t.cl t.v:=by
 obtain⟨P,L,N,Q1,d,live⟩:=K;simp only at hP qU hl qT ho;subst hP qU hl qT;have Ph:∀fr w,¬Done (G fr (cL::B)) w:=λfr w hd=>by have:=jX _ _ hd;cases this
 obtain⟨t1,_,q1,H1,rfl,K1,D1,C1⟩:=Q2.walk (n:=(aaO (T:=T) (C:=cR::cU) s.v).choose) (O:=[]) (Rd:=[]) (Stop:=λg w=>g=G ((aY 41).at ⟨T,[]⟩ (.inRegion mu [0,1,2,3,4,5,6,7]::vU)) (cR::cU)) (λg w h=>by rw[h];rfl) (aaO (T:=T) (C:=cR::cU) s.v).choose_spec (by simp) (by simp)
 obtain⟨t2,Rj,w2,m,zn,a1,a2,a3,a4,a5,a6,a7,a8,a9,QS,QO,a12,QN⟩:=Ok.Gp (K:=⟨aC,dK,N,Q1,d,Z⟩) (rest:=[5,6,7]) hE Ph [0,1,2,3,4] (S:=S8) ast H1 tr (M.left K1.left K1.cls) hA (by rw[hTL,hT])
 have o:=a5.trans hTL;have j:=a6.trans hT;rw[axm] at a4;have d8:sF (eM (cP 7)) [0,1,2,3,4]=[36,37,38,39,40]:=by kernel_rfl
 obtain⟨n3,g3⟩:=asQ (C:=cL::B) (k:=[.code zO]) W.f60 o ⟨uW (by rw[o];decide),uW (by rw[o];decide)⟩ (Hy hF W.flag a3)
 obtain⟨_,w3,⟨WN,rfl⟩,u3,b3',l3⟩:=Term.goes hE LF.refl LF.trans LF.zX (λ_ _ _ h=>h) g3 a8;obtain⟨t3,_,q3,H3,rfl,K3,D3,C3⟩:=a12.walk (n:=(aaP (T:=zn) (C:=cR::cU) j ⟨uW (t:=36) (by rw[j];decide),uW (t:=40) (by rw[j];decide)⟩ t2.v).choose) (O:=[]) (Rd:=[]) (Stop:=λg w=>g=G (eO aC 60 #[zn.getD 36 ak,zn.getD 40 ak] .normal) ((aY 41).at ⟨zn,[]⟩ (.inRegion mu [5,6,7]::vU)::(cR::cU))) (λg w h=>by rw[h];rfl) (aaP (T:=zn) (C:=cR::cU) j ⟨uW (t:=36) (by rw[j];decide),uW (t:=40) (by rw[j];decide)⟩ t2.v).choose_spec (by simp) (by simp)
 have has:bu Rj I w3 #[m.getD 36 ak,m.getD 40 ak] #[zn.getD 36 ak,zn.getD 40 ak]:=by
  obtain⟨x1',x2'⟩:=a4 36 (by decide)
  obtain⟨x3',x4'⟩:=a4 40 (by decide)
  rw[l3.size];refine⟨λv hv=>?_,?_⟩
  ·simp only[fJ,dh,dJ,dO] at hv;rcases hv with rfl|rfl
   ·exact x1'
   ·exact x3'
  ·rw[x2',x4'];simp
 obtain⟨t4,ρ4,w4,x,x',c1,XC,cc3,fl4,hx,u4,Y6,q4,d4,H4,M4⟩:=phase (K:=⟨aC,dK,N,Q1,d,Z⟩) rfl W hE jX W.t60 ⟨_,_,func60,rfl⟩ (bL:=(aY 41).at ⟨m,[]⟩ (.inRegion mu [5,6,7]::[.code zO])) (B:=cL::B) (by simp) has H3 u3 ((QN.left K3.left K3.cls).lf (K:=⟨aC,dK,N,Q1,d,Z⟩) W.flag W.Fs l3) WN
 have o5:(mu[5]?).bind (·.dst)=U 41:=by kernel_rfl
 have hfL:sJ ((aY 41).at ⟨m,[]⟩ (.inRegion mu [5,6,7]::[.code zO])) x=(aY 41).at ⟨m.setIfInBounds 41 x,[]⟩ (.inRegion mu [6,7]::[.code zO]):=by rw[GM,o5];rfl
 have hfR:sJ ((aY 41).at ⟨zn,[]⟩ (.inRegion mu [5,6,7]::vU)) x'=(aY 41).at ⟨zn.setIfInBounds 41 x',[]⟩ (.inRegion mu [6,7]::vU):=by rw[GM,o5];rfl
 rw[hfL] at u4 Y6;rw[hfR] at H4;have ID:=λz e=>c1 z (by rw[l3.size];exact e)
 have E:w2.heap.size<=w4:=by rw[<-l3.size];exact XC
 have hA4:kJ ρ4 I w4 (41::S8) (m.setIfInBounds 41 x) (zn.setIfInBounds 41 x'):=by exact((a4.sub (S':=S8) (by decide)).mono ID E).put (by rw[o,j]) hx (U 41) [] []
 obtain⟨t5,O,w5,q,TR5,e1,e2,e3,e4,e5,e6,e7,e8',e9',e10,e11,e12,e13⟩:=Ok.Gp (K:=⟨aC,dK,N,Q1,d,Z⟩) (rest:=[]) hE Ph [6,7] (S:=41::S8) ass H4 u4 M4 hA4 (by simp[o,j])
 rw[axl] at e4;have d8b:sF (eM (cP 7)) [6,7]=[12,13]:=by kernel_rfl
 have D:q.size=87:=by rw[e5];simp[o]
 have ZA:∀z,z=0∨z=1->q[z]? =TL[z]? :=λz e=>by rw[(e7 z (by rw[d8b];rcases e with rfl|rfl<;>decide)).1,l (by omega),(a7 z (by rw[d8];rcases e with rfl|rfl<;>decide)).1]
 have Q0:∀z,z=8∨z=9∨z=10->TR5[z]? =T[z]? :=λz e=>by rw[(e7 z (by rw[d8b];rcases e with rfl|rfl|rfl<;>decide)).2,l (by omega),(a7 z (by rw[d8];rcases e with rfl|rfl|rfl<;>decide)).2]
 obtain⟨S0,S1,S2,S6,S7,Q5,S9,S10⟩:=hS;have f:=((((K1.y9 D1 C1).trans QO).trans (K3.y9 D3 C3)).trans d4).trans e11;have y:=λz e=>f.own z (Q2.hold.inv.own 0 z e).2 (Q2.hold.inv.own 0 z e).1;obtain⟨⟨n8,n9⟩,m8,m9,arF⟩:=Wx;obtain⟨t6,T6,f14,f15,q6,H6,R,C6,z6,s6,⟨p14,p15⟩,⟨o14,o15,nff,aEa,aD9⟩,pE,pD⟩:=apv (K:=⟨aC,dK,N,Q1,d,Z⟩) rfl e12 (by rw[e6];simp[j]) ⟨(Q0 8 (by simp)).trans Q5,(Q0 9 (by simp)).trans S9⟩ (⟨⟨(y e8 m8).trans n8,(y e9 m9).trans n9⟩,by rw[f.D];exact m8,by rw[f.D];exact m9,arF⟩)
 obtain⟨_,w6,rfl,u6,b6,S⟩:=Term.goes hE i.refl i.trans (λ_ _ h=>h) (λ_ _ _ h=>h) (asP (C:=cL::B) (fs:=fs) (k:=[]) D ⟨(ZA 0 (by simp)).trans h0,(ZA 1 (by simp)).trans h1⟩) e8'
 have C:=λz e=>(a1 z e).trans ((ID z (cF e a2)).trans (e1 z (cF e (bq a2 E))));have Q3:w.heap.size<=w5:=by grind
 obtain⟨q0,ok0⟩:=(RV.addr (a:=a) (by have:=hA 0 (by decide);rwa [getD_some h0] at this))
 obtain⟨q1',ok1⟩:=(RV.addr (a:=b) (by have:=hA 1 (by decide);rwa [getD_some h1] at this))
 have k:∀z∈(s.D 0).own,t6.v.heap[z]? =s.v.heap[z]? ∧z∈(t6.D 0).own∧z<t5.v:=λz e=>by
  have nY:z∈(t5.D 0).own:=by rw[f.D];exact e
  have hi:=e12.hold.inv.own 0 z nY;exact⟨(R.rest z hi.2 hi.1 (by simp)).trans (y z e),R.own z nY,hi.2⟩
 have BD:=R.role.trans f.role;have Q:=C6.trans f.ch;have FO:=R.size.trans (f.size.trans fP);have fl5:=Hy fl4 W.flag e3;have z6L:((q.setIfInBounds 14 (.pointer (a))).setIfInBounds 15 (.pointer (b))).size=87:=by simp[D]
 have X:mG ⟨aC,dK,N,Q1,d,Z⟩ fs I Done (cL::B) (cR::cU) t6 O (G ((aY 41).at ⟨(q.setIfInBounds 14 (.pointer (a))).setIfInBounds 15 (.pointer (b)),[]⟩ (.code ni::jA)) (cL::B)) w6 (.code ni::jA) (.code kB::nx) e8 e9 N f14 f15 x1 y1 x2 y2 jf (jf+1) a b (dA O a) (dA O b) x1 y1 x2 y2 b2 b3 c2 c3 O w6 ((q.setIfInBounds 14 (.pointer (a))).setIfInBounds 15 (.pointer (b))) T6 t6:=by
  refine⟨H6,u6,((e13.left R.left R.cls).re (K:=⟨aC,dK,N,Q1,d,Z⟩) S),λz e=>?_,z6L,fl5.tape S,?_,?_,?_,?_,rfl,rfl,⟨z6,?_,?_,?_,p14,p15⟩,⟨⟨?_,?_,pE,pD,(k e8 m8).2.1,(k e9 m9).2.1,o14,o15,nff,?_⟩,?_,by rw[FO];omega,by rw[FO];omega,λr hr=>(by rw[BD,Ez] at hr;cases hr),⟨0,by rw[Q];exact c.1⟩,⟨0,by rw[Q];exact c.2.1⟩,⟨0,by rw[Q];exact c.2.2.1⟩,⟨0,by rw[Q];exact c.2.2.2⟩,R.md.trans (f.md.trans mC),.inl ⟨rfl,rfl,rfl,rfl⟩⟩,.refl _ _ _ _⟩
  ·have h41:∀z∈qj,z∈[13,12,41,0,1,2,6,7]∧z≠14∧z≠15∧z≠42∧z≠43:=by decide
   obtain⟨PW,h2',h3',h4',h5'⟩:=h41 z e;have:=e4 z PW;rw[S.heap];rw[iz,iz] at this⊢;rw[l (tM h3'),l (tM h2'),s6 z h2' h3' h4' h5'];exact this
  ·rw[l (by decide)];exact jJ (by rw[D];decide)
  ·exact jJ (by rw[tJ,D];decide)
  ·rw[S.heap];exact H.eu ok0 Q3
  ·rw[S.heap];exact H.eu ok1 Q3
  ·rw[s6 8 (by decide) (by decide) (by decide) (by decide)];exact(Q0 8 (by simp)).trans Q5
  ·rw[s6 9 (by decide) (by decide) (by decide) (by decide)];exact(Q0 9 (by simp)).trans S9
  ·grind
  ·grind
  ·grind
  ·have:=(k e8 m8).2.2;have:=(k e9 m9).2.2;refine⟨?_,?_,?_,?_⟩<;>omega
  ·rw[BD,<-(Gd ok0 C),<-(Gd ok1 C)];exact hp
 have p:s.runs aC t6:=((((q1.trans QS).trans q3).trans q4).trans e10).trans q6;have Tz:Over Q1 t6.T:=by obtain⟨u,hu⟩:=BB p;rw[hu];exact ho.app u
 have axY:∀z,z<w.heap.size->I.F z=ai->z≠4->w6.heap[z]? =w.heap[z]? :=λz e hF h4=>by have z2:=cF e a2;have z4:=cF z2 E;rw[S.heap,e3 z z4 hF,cc3 z (by rw[l3.size];exact z2) hF,l3.blk z h4,a3 z e hF]
 refine alY (K:=⟨aC,dK,N,Q1,d,Z⟩) rfl rfl rfl rfl W hE jX (by simp) (λA QX Mo QU t F=>?_) _ u6.acc.transGen rfl X
 obtain⟨K',t',w'',v,v',p1,p2,p3,p4,p5,p6,p7,p8,p9,p10,p11⟩:=aoK (K:=⟨aC,dK,N,Q1,d,Z⟩) rfl rfl rfl rfl xY W hE F Tz;have ag6:=λz e=>(C z e).trans (F.since.IC z (by rw[S.heap];grind))
 have szF:w.heap.size<=QX:=bq Q3 (by have:=F.since.tB;rw[S.heap] at this;grind)
 refine⟨K',t',A,w'',v,v',p1,(p.trans F.since.runs).trans p2,p3,p4,p5,p6,p7,p8,p9.trans (F.since.back.trans (b6.trans (e9'.trans (kW.trans (.inr Y6) (b3'.trans a9))))),ag6,by rw[p10.size];exact szF,λz e hF h4=>?_,?_⟩
 ·rw[p10.blk z h4,F.since.qX z (by rw[S.heap];grind) hF h4,axY z e hF h4]
 ·exact((f.still.trans (.of R.left R.cls)).trans F.since.out).trans p11
theorem aoH(hP:K.P=aC)(qU:K.L=dK)(hl:K.live=ai)(EY:∀N,Dj N)(xY:∀N,Fu N)(W:Dd fs I nm)(hE:mm (J K.P fs) Done)(Q0:∀g w,Done g w->g.callers=[]){s:St}{ρ:Nat->Nat}{w:av}{x0 x1 x2:ay}(h0:S I w.heap.size x0=Z∧S I w.heap.size x1=Z∧S I w.heap.size x2=Z)
  (H:Ok K 0 s (r (eO K.P 41 #[F ρ x0,F ρ x1,F ρ x2] er) (cR::cU))) (tr:Term (J K.P fs) Done (r (eO (J K.P fs) 41 #[x0,x1,x2] er) (cL::B)) w) (M:fF ρ I K.P s.cl w s.v) (Q:gd 0 w) (mC:s.md=.opn 0) (hr:∀i,s.role i=V) (hV:∀n,V2 n s.D<=0) (ho:Over K.n0 s.T):
  ∃O t k j v v',(O.P=K.P∧O.L=K.L∧O.live=ai)∧s.runs K.P t∧Ok O 0 t (G (cR.finish v') cU)∧(t.md=.opn 0∧(∀i,t.role i=V)∧(∀n,V2 n t.D<=0)∧Over O.n0 t.T)∧fF k I K.P t.cl j t.v∧RV k I j.heap.size v v'∧gd 0 j∧Term (J K.P fs) Done (G (cL.finish v) B) j∧
   sI (pK (J K.P fs) Done) (G (cL.finish v) B,j) (r (eO (J K.P fs) 41 #[x0,x1,x2] er) (cL::B),w)∧(∀z,z<w.heap.size->ρ z=k z)∧w.heap.size<=j.heap.size∧(∀z,z<w.heap.size->I.F z=ai->z≠4->j.heap[z]? =w.heap[z]?)∧Still s.cl s.v t.cl t.v:=by
 obtain⟨P,L,N,A,d,live⟩:=K;simp only at hP qU hl ho;subst hP qU hl;have Q3:∀fr w,¬Done (G fr (cL::B)) w:=λfr w hd=>by have:=Q0 _ _ hd;cases this
 have f:∀{v:ay} {j:av},kW (J aC fs) Done (G (cL.finish v) B,j) (r (eO (J aC fs) 41 #[x0,x1,x2] er) (cL::B),w)->sI (pK (J aC fs) Done) (G (cL.finish v) B,j) (r (eO (J aC fs) 41 #[x0,x1,x2] er) (cL::B),w):=λh=>by
  rcases h with e|h
  ·exfalso;have:=congrArg (λx=>x.1.callers.length) e;simp[G,r] at this
  ·exact h
 obtain⟨t1,l,w1,TL,y,a,b,a1,a2,a3,a4,a5,a6,a7,⟨a8,a9,QS,QO⟩,R,QN,QW,q,a16,a17⟩:=aoI (K:=⟨aC,dK,N,A,d,ai⟩) rfl hE Q3 W.f41 W.flag W.Fs h0 H tr M Q;have p:∀i,t1.role i=V:=λi=>by rw[q.role];exact hr i
 have QZ:=q.md.trans mC;have ov1:Over A t1.T:=by obtain⟨u,hu⟩:=BB QW;rw[hu];exact ho.app u
 obtain⟨QY,E⟩:=alM (fs:=fs) (C:=cL::B) hE Q3 R;have Q2:TL[22]? =U (cz QY):=by rw[uW (by rw[a6];decide),E]
 have C:y[22]? =U (cz QY):=by rw[uW (by rw[a7];decide),((RV.bool (a5 22 (by decide)) QY).1 E)]
 cases QY with
 |true=>
  obtain⟨n,g⟩:=asG (fs:=fs) (c:=cL) (C:=B) (ops:=eM (cP 1)) W.f41 a6 ⟨QS,QO,Q2⟩ a4;obtain⟨_,w2,⟨f2,rfl⟩,t2,b2,o⟩:=Term.goes hE LF.refl LF.trans LF.zX (λ_ _ _ h=>h) g R;obtain⟨n',g'⟩:=apr (c:=cR) (C:=cU) (ops:=eM (cP 1)) a7 C t1.v;obtain⟨Q1,_,q3,H3,rfl,QX,D3,C3⟩:=a16.walk (n:=n') (O:=[]) (Rd:=[]) (Stop:=λg w=>g=G (cR.finish (bO #[Y aH 0,Y aH 0])) cU) (λg w h=>by rw[h];rfl) g' (by simp) (by simp)
  obtain⟨H8,Wn⟩:=H3.trim rfl (λi=>by rw[QX.role];exact p i)
  refine⟨_,{Q1 with D:=tw Q1.gs.size Q1.D},l,w2,bO #[Y aH 0,Y aH 0],bO #[Y aH 0,Y aH 0],⟨rfl,rfl,rfl⟩,QW.trans q3,H8,⟨QX.md.trans QZ,λi=>(by show Q1.role i=V;rw[QX.role];exact p i),λn=>vF (Wn n),?_⟩,(a17.left QX.left QX.cls).lf (K:=⟨aC,dK,N,A,d,Z⟩) W.flag W.Fs o,RV.plain rfl,f2,t2,f (b2.trans QN),a1,by rw[o.size];exact a2,λz m hF X=>(o.blk z X).trans (a3 z m hF X),?_⟩
  ·obtain⟨u,hu⟩:=BB q3;show Over A Q1.T;rw[hu];exact ov1.app u
  ·exact q.still.trans (.of QX.left QX.cls)
 |false=>
  obtain⟨n,g⟩:=asE (fs:=fs) (C:=cL::B) (ops:=eM (cP 1)) a6 Q2 a4;obtain⟨_,w2,⟨f2,rfl⟩,t2,b2,o⟩:=Term.goes hE LF.refl LF.trans LF.zX (λ_ _ _ h=>h) g R;have rv:∀z,z∈[0,1,2,6,7]->RV l I w1 (TL.getD z ak) (y.getD z ak):=λz m=>a5 z (uE _ m);have e0:y[0]? =U (aE ((dA l a))):=by rw[uW (by grind)];have:=rv 0 (by decide);rw[getD_some a8] at this;rw[this.2];rfl
  have e1:y[1]? =U (aE ((dA l b))):=by rw[uW (by rw[a7];decide)];have:=rv 1 (by decide);rw[getD_some a9] at this;rw[this.2];rfl
  have e2:y[2]? =(y.getD 2 ak):=uW (by grind)
  have e6:y[6]? =U (Y aH 0):=by rw[uW (by rw[a7];decide)];have:=rv 6 (by decide);rw[getD_some QS] at this;rw[this.2];rfl
  have e7:y[7]? =U (Y aH 0):=by rw[uW (by grind)];have:=rv 7 (by decide);rw[getD_some QO] at this;rw[this.2];rfl
  obtain⟨X9,awy⟩:=a16.trim rfl p;refine amf (K:=⟨aC,dK,N,A,d,ai⟩) rfl rfl rfl EY a7 ⟨e0,e1,e2,e6,e7,C⟩ X9 QZ p (λn=>vF (awy n)) λQ1 bw e8 e9 p1 q1 p2 q2 c2 c3 d2 d3 T q3 H3 zT hS Wx kE hp Ez fP avC we L3 yb=>?_;have ov3:Over A Q1.T:=by obtain⟨u,hu⟩:=BB q3;rw[hu];exact Over.app ov1 u
  obtain⟨S0,S1,S2,S6,S7,Q5,S9,S10⟩:=hS;have Hw:kJ l I w2 S8 TL T:=by
   intro z m;rw[o.size];have h1:=rv z (by grind[S8])
   have e:T.getD z ak=y.getD z ak:=by
    simp only[S8,dh,dJ,dO] at m;rcases m with rfl|rfl|rfl|rfl|rfl
    all_goals grind[getD_some]
   rw[e];exact h1
  obtain⟨O,t',k,j,v,v',r1,r2,r3,r4,r5,r6,r7,r8,r9,r10,r11,r12,r13⟩:=aoJ (K:=⟨aC,dK,bw,A,d,Z⟩) rfl rfl rfl rfl (xY _) W hE Q0 zT a6 a8 a9 Hw ⟨S0,S1,S2,S6,S7,Q5,S9,S10⟩ f2 Wx hp Ez fP avC we H3 t2 ((a17.left L3 yb).lf (K:=⟨aC,dK,N,A,d,Z⟩) W.flag W.Fs o) ov3;refine⟨O,t',k,j,v,v',r1,(QW.trans q3).trans r2,r3,r4,r5,r6,r7,r8,f (r9.trans (b2.trans QN)),λz m=>(a1 z m).trans (r10 z (by rw[o.size];grind)),bq a2 (by rw[o.size] at r11;exact r11),λz m hF X=>?_,?_⟩
  ·rw[r12 z (by rw[o.size];grind) hF X,o.blk z X,a3 z m hF X]
  ·exact(q.still.trans (.of L3 yb)).trans r13
end
def Mx:Nat->dm:=λi=>if i=0 then⟨9,0,[],0⟩ else⟨1,0,[],0⟩
theorem aBf(n):V2 n Mx=0:=by
 unfold V2;rw[yH (g:=λ_=>0) λi _=>?_]
 ·exact Dy _
 ·unfold fW Mx
  grind
theorem Ok.start(P)(L)(s)(v)(a)(sl):Ok ⟨P,L,0,0,λ_=>False,ai⟩ 0 ⟨λ_=>V,.opn 0,λ_=>V,s,Mx, #[], #[a],v,sl⟩ a:=by
 have d:∀{l:Type} {r:l},(V:Option l)=r->False:=by grind
 refine⟨⟨⟨λi g y z=>?_,λi e=>?_,λ_ _=>rfl,⟨λk o=>?_,λi x b h=>?_,λt w=>?_⟩,λi b A=>?_,λc f h=>(d h).elim,λi r h=>(d h).elim,λi r h=>(d h).elim,λi j r q h=>(d h).elim,λh=>(by cases h),λh=>(by cases h),λi r h=>(d h).elim,λi h=>?_,λu t h=>?_,Nat.one_pos,λi r h=>(d h).elim⟩,⟨λi r h=>(d h).elim,λi r f h=>(d h).elim,λi j r q h=>(d h).elim,λi r h=>(d h).elim,λn=>?_⟩,λj r f h=>(d h).elim,λp h=>?_⟩,rfl,λj r h=>(d h).elim,rfl,rfl,⟨0,rfl⟩,λ_=>rfl⟩
 ·grind
 ·simp at e;subst e;rfl
 ·obtain⟨i,j,h⟩:=o;obtain⟨_,⟨a,b,m,_⟩,_⟩:=h;simp[CR] at m
 ·simp[touchAt,CR] at h
 ·grind
 ·grind[Mx]
 ·simp[CR] at h
 all_goals grind[aBf]
theorem ajj{P}{v x}(h:r ((wall P).finish x) []=r ((wall P).finish v) []):x=v:=by have:=congrArg (λg=>g.frame.todo) h;simpa[r,wall,sJ] using this
structure Twin(fs:Array dV)(I I2:H)(nm:String->Bool):Prop where
 pair:Dd fs I nm
 arz:∀f,I.T f=Z->aC.inits.idxOf? f=V
 Uv:mJ I2 (J aC fs) fs nm
 aoZ:Same I2 (J aC fs) fs nm (λ_=>False)
 ay6:∀f n,I2.cut f n=ai
 aAQ:I2.arg=V∧∀f,I2.DF f=ai
section
variable {fs:Array dV} {I I2:H} {nm:String->Bool}
set_option maxHeartbeats 4000000 in
theorem azi (EY:∀Wg,Dj Wg) (xY:∀Wg,Fu Wg) (W:Twin fs I I2 nm) {R:ay->av->Prop} {Post:ay->av->Prop} {w0:av} {s0:St}
  (avb:∀v v' w1 v1 ρ cl,R v w1->RV ρ I w1.heap.size v v'->fF ρ I aC cl w1 v1->w0.heap.size<=w1.heap.size->(∀z,z<w0.heap.size->ρ z=z)->v1.output=s0.v.output->(∀b,b<s0.v.heap.size->s0.cl b=.old->v1.heap[b]? =s0.v.heap[b]?)->Post v' v1):
  ∀(y:aU×av),_root_.Acc (sI (pK (J aC fs) (zA (J aC fs) R))) y->∀{K:fy} {s:St} {ρ:Nat->Nat} {w:av} {fr fr':aX} {cs cs':List aX},y=(r fr (cs++[wall (J aC fs)]),w)->K.P=aC->K.L=dK->K.live=ai->
   s0.runs aC s->Ok K 0 s (r fr' (cs'++[]))->s.md=.opn 0->(∀i,s.role i=V)->Over K.n0 s.T->Term (J aC fs) (zA (J aC fs) R) (r fr (cs++[wall (J aC fs)])) w->ju ρ I aC nm w.heap.size fr fr'->gQ ρ I aC nm w.heap.size cs cs'->fF ρ I aC s.cl w s.v->gd 0 w->
   w0.heap.size<=w.heap.size->(∀z,z<w0.heap.size->ρ z=z)->Still s0.cl s0.v s.cl s.v->
   ∃t o p t' ops,s0.runs aC t∧stepT aC (dw t.gs t.v t.sl)=(.ended o p,ops)∧t'=t.T++ops∧Go.Conc.Good aC Post (dw t.gs t.v t.sl) o p t':=by
 intro y acc;induction acc with
 |intro y _ ih=>
  intro K s ρ w fr fr' cs cs' hy hP qU hl m H mC oa hov tr AB ir M C X qM k;obtain⟨P,L,Wg,n0,j,live⟩:=K;simp only at hP qU hl hov;subst hP qU hl;have O:∀g w,zA (J aC fs) R g w->g.callers=[]:=λg w h=>by obtain⟨v,rfl,_⟩:=h;rfl
  have hE:=ayB (J aC fs) R;have Ph:∀fr cs w,¬zA (J aC fs) R (r fr (cs++wall (J aC fs)::[])) w:=λfr cs w h=>by have:=O _ _ h;simp[r] at this
  obtain⟨t,q,p,g1,a1,a2,a3,t1,b1,r1,d1,EJ⟩:=Ok.tree (K:=⟨aC,dK,Wg,n0,j,ai⟩) W.pair.lay W.pair.same (b:=wall (J aC fs)) (bs:=[]) (B':=[]) (aA ⟨rfl,rfl,W.arz⟩) Ph tr H AB ir M;have Q3:=Hy C W.pair.flag a3;have T:Over n0 t.T:=by obtain⟨u,hu⟩:=BB r1;rw[hu];exact hov.app u
  have E:∀z,z<w0.heap.size->q z=z:=by grind
  have d:∀i,t.role i=V:=λi=>by rw[d1.role];exact oa i
  rcases EJ with⟨CF,N,M1,EU⟩|⟨_,N,x,x',v1,gP,es,fn,Q2,rfl,A,gz,M1,hos,ho,hz,jl,hfE,tW⟩
  ·cases EU with
   |back hB A=>cases hB
   | @cut f' Q0 aAP P5 P4 Qv Xu A ha av0 Vu=>
    have avq:∀fr w,¬zA (J aC fs) R (G fr (P5::Qv++wall (J aC fs)::[])) w:=λfr w hd=>by have:=O _ _ hd;simp[G] at this
    rcases A with A|A
    ·grind
    rcases W.pair.LG _ _ A with⟨rfl,hn⟩|⟨fn,Rr,e1,e2⟩
    ·obtain⟨x0,x1,x2,rfl⟩:∃x0 x1 x2,Q0= #[x0,x1,x2]:=by
      obtain⟨l⟩:=Q0
      match l,hn with
      | [x0,x1,x2],_=>exact⟨x0,x1,x2,rfl⟩
     obtain⟨S,rfl⟩:=ha;obtain⟨X9,Hp⟩:=N.trim rfl d;have H2:Ok ⟨aC,dK,Wg,n0,j,ai⟩ 0 {t with D:=tw t.gs.size t.D} (r (eO aC 41 #[F q x0,F q x1,F q x2] er) (P4::(Xu++[]))):=by have:=X9;simpa using this
     obtain⟨K',u,Rj,w2,v,v',⟨k1,k2,k3⟩,r2,H3,⟨m1,m2,m3,m4⟩,M3,hv,WN,t3,Sd,Q,a,aF1,aqN⟩:=aoH (K:=⟨aC,dK,Wg,n0,j,ai⟩) (cL:=P5) (B:=Qv++[wall (J aC fs)]) (cR:=P4) (cU:=Xu++[]) rfl rfl rfl EY xY W.pair hE O (x0:=x0) (x1:=x1) (x2:=x2)
      ⟨S _ (by simp),S _ (by simp),S _ (by simp)⟩ H2 t1 M1 Q3 (d1.md.trans mC) d (λn=>vF (Hp n)) T
     refine ih _ (by rw[hy];exact Sd.trans b1) (K:=K') (s:=u) (ρ:=Rj) (w:=w2) (fr:=P5.finish v) (fr':=P4.finish v') (cs:=Qv) (cs':=Xu) rfl k1 k2 k3 (m.trans (r1.trans r2)) H3 m1 m2 m4 t3 (((av0.re Q).mono a).finish hv) ((Vu.re Q).mono a) M3 WN (bq X (bq a2 a)) (λz hz=>?_) ?_
     ·rw[<-Q z (cF hz (bq X a2))];exact E z hz
     ·exact(k.trans d1.still).trans aqN
    ·have Zi:Term (J aC fs) (zA (J aC fs) R) (G (eO (J aC fs) f' Q0 er) (P5::Qv++wall (J aC fs)::[])) p:=t1;rw[Am (P:=J aC fs) (fn:=fn) (c:=.refuse Rr) _ e1 e2] at Zi;exact(Zi.DL hE (λτ g' p es=>aa6 g' p es) (avq _ _)).elim
  ·
   have hR:R x p:=by
    cases t1 with
    |done hd=>
     obtain⟨v,e,h⟩:=hd;rw[ajj e];exact h
    |step f hf ht=>
     exfalso;obtain⟨⟨WY,e⟩,_⟩:=hf p.tape;obtain⟨o,w2,es2,e2⟩:=I0 (P:=J aC fs) x (World.re p p.tape 0);rw[e2] at e;cases e
   refine⟨t,.done x',v1,_,_,m.trans r1,gz,rfl,x',rfl,avb _ _ _ _ _ _ hR A M1 (bq X a2) E (ho.trans (k.trans d1.still).out) (λb hb hc=>by have h3:=(k.trans d1.still);obtain⟨e1,e2⟩:=h3.old b hb hc;exact(hfE b (cF hb h3.size) (by rw[e2];simp)).trans e1),?_,?_,?_,?_⟩
   ·have hT:Tr gP (.hold 0) j v1 t.T:=(N.inv.tr.fresh jl).mono hz;have:=hT.app (u:=iC 0 fn Q2 es) (g:=0) (λop c=>by obtain⟨e,_,rfl⟩:=JV c;rfl)
     (λop c x A=>by obtain⟨e,he,rfl⟩:=JV c;exact(tW e he).1 x A) (λop c=>by obtain⟨e,he,rfl⟩:=JV c;exact(tW e he).2.1)
    exact this.clean
   ·obtain⟨T0,h1,h2,u,hu⟩:=T;refine abA h1 ⟨u++iC 0 fn Q2 es,by grind⟩ λidx op c Az ht=>?_
    by_cases Q1:idx<t.T.size
    ·rw[Array.getElem?_append_left Q1] at c;rcases N.inv.qf idx op c (by grind) ht with h|h
     all_goals grind
    ·rw[Array.getElem?_append_right (by omega)] at c
     obtain⟨e,_,rfl⟩:=JV (atb.2 ⟨_,c⟩);rfl
   ·refine⟨λg hg=>?_,rfl⟩;obtain⟨i,hi⟩:=List.mem_iff_getElem?.1 hg;rw[List.getElem?_drop] at hi;have Ps:t.gs[1+i]? =g:=by rw[<-Array.getElem?_toList];exact hi
    have:=N.inv.gJ (1+i) g (by omega) Ps
    rw[d] at this;exact⟨_,this.2.2.1.leaves⟩
   ·intro i g hg hi;have h1:=N.inv.gJ i g hi hg;rw[d] at h1;have Q1:i<t.gs.size:=(oZ.1 hg).1;have hd:=N.inv.deaf i Q1;have:Deaf (t.T++iC 0 fn Q2 es) i=(t.D i).deaf:=by rw[<-hd];exact Deaf_other t.T (tM hi) _ λop c=>by grind[Go.Conc.mem_ofEvents]
    refine⟨(t.D i).fuel,?_⟩;show g.endsWith aC t.v _ (Deaf (t.T++iC 0 fn Q2 es) i)=U 0;rw[this];exact h1.2.2.1.hears t.v
def CG(v:av):av:={v with heap:=v.heap.setIfInBounds 4 (aF #[Y aH 0] 3)}
theorem axG(v):(CG v).heap.size=v:=by simp[CG]
theorem af2(v){b}(h:b≠4):(CG v).heap[b]? =v.heap[b]? :=mz λe=>h e.symm
theorem af3(v)(h:4<v.heap.size):gd 0 (CG v):=jJ h
def jU(A:Option Di)(v:av):av:=match A with
 |none=>CG v
 |some A=>{CG v with heap:=(CG v).heap.setIfInBounds A.g (aF A.c A.e A.f)}
theorem acM(A)(v):(jU A v).heap.size=v:=by cases A<;>simp[jU,CG]
theorem Ut{A}{v}{b}(a:b≠4)(h:∀B,A=U B->b≠B.g):(jU A v).heap[b]? =v.heap[b]? :=by
 cases A with
 |none=>exact af2 v a
 |some B=>exact(mz λe=>h B rfl e.symm).trans (af2 v a)
theorem Uu{A}{v}(h:4<v.heap.size)(a:∀B,A=U B->B.g≠4):gd 0 (jU A v):=by
 cases A with
 |none=>exact af3 v h
 |some B=>exact(mz λe=>a B rfl e).trans (af3 v h)
theorem acO{A}{v}(h:A.g<v.heap.size):(jU (U A) v).heap[A.g]? =U (aF A.c A.e A.f):=jJ (by grind[axG])
theorem acN(A)(v):(jU A v).os=v.os∧(jU A v).output=v.output:=by cases A<;>exact⟨rfl,rfl⟩
set_option maxHeartbeats 1000000 in
theorem axp (EY:∀Wg,Dj Wg) (xY:∀Wg,Fu Wg) (W:Twin fs I I2 nm) {R:ay->av->Prop} (hR:∀v w τ d,R v w->R v (World.re w τ d)) {Post} {f} {fn} {c} {args args'} {v0} (tV:aC.funcs[f]? =U fn) (Pt:fs[f]? =U fn) (j:fn.body=U c) (Cz:I.DF f=Z) (EP:I2.T f=Z)
  (aFE:rA id I v0.heap.size (I.D f) args args') (y:∀v∈args,S I2 v0.heap.size v=Z)
  (l:∀A,I.arg=U A->I.F A.g=ai∧v0.heap[A.g]? =U (aF A.c' A.e' A.f')∧∀x∈A.c,n x=Z)
  (Q:∀b o,v0.heap[b]? =U o->I.F b=Z->ew I v0.heap.size o=Z) (B:∀b o,v0.heap[b]? =U o->b≠4->(∀A,I.arg=U A->b≠A.g)->I2.F b=Z->ew I2 v0.heap.size o=Z)
  (u:∀b,v0.heap.size<=b->I.F b=Z∧I2.F b=Z) (hG:aC.globals.size<v0.heap.size) (h4:4<v0.heap.size)
  (q:∀τ:pJ,bE (J aC fs) f args (World.re (jU I.arg v0) τ 0) λe H=>∃v,e=bj v∧R v H)
  (E:∀v Y O L T cl,R v O->RV T I O v Y->fF T I aC cl O L->v0.heap.size<=O->(∀z,z<v0.heap.size->T z=z)->L.output=v0.output->(∀b,b<v0.heap.size->I.F b=ai->L.heap[b]? =v0.heap[b]?)->Post Y L):
  ∃N s o H F,gZ aC (N+1) (solo (G (eO aC f args' er) []) v0) #[]=(.ended o H,F)∧runN aC N (solo (G (eO aC f args' er) []) v0)=fQ s∧
   step aC s=.ended o H∧Go.Conc.Good aC Post s o H F:=by
 have Q3:=acM I.arg v0;have Q1:=W.pair.Fs;have PT:∀b,I.F b=Z->∀A,I.arg=U A->b≠A.g:=λb p A m e=>by rw[e,(l A m).1] at p;cases p
 have pq:∀A,I.arg=U A->A.g<v0:=by grind
 have P:∀A,I.arg=U A->(jU I.arg v0).heap[A.g]? =U (aF A.c A.e A.f):=λA m=>by rw[m];exact acO (pq A m)
 have Q0:∀b o,(jU I.arg v0).heap[b]? =U o->I.F b=Z->ew I (jU I.arg v0) o=Z∧v0.heap[b]? =o:=λb o j p=>by
  have kE:b≠4:=λe=>by rw[e,W.pair.flag] at p;cases p
  rw[Ut kE (PT b p)] at j;rw[Q3];exact⟨Q b o j p,j⟩
 have Q2:Whole I2 (jU I.arg v0):=⟨λb o j p=>by
  rw[Q3];by_cases e:b=4
  ·subst e;rw[show(jU I.arg v0).heap[4]? =_ from Uu h4 Q1] at j;cases j;simp[ew,S]
  ·by_cases eA:∃A,I.arg=U A∧b=A.g
   ·obtain⟨A,m,rfl⟩:=eA;rw[P A m] at j;cases j;simp only[ew,kC];exact λx hx=>(rP (ρ:=id) ((l A m).2.2 x hx)).1
   ·have D:∀A,I.arg=U A->b≠A.g:=λA m e=>eA ⟨A,m,e⟩;rw[Ut e D] at j;exact B b o j e D p,λb j=>(u b (by rw[<-Q3];exact j)).2⟩
 have tr:=alK (P:=J aC fs) (R:=R) W.Uv W.aoZ W.ay6 W.aAQ hR (w:=jU I.arg v0) (f:=f) Q2 (by rw[Q3];exact hG) EP ⟨fn,c,Pt,j⟩ (λv hv=>by rw[Q3];exact y v hv) q
 let K:Nat->eU:=λb=>if I.F b=Z∨(∃A,I.arg=U A∧b=A.g) then .eN else .old
 have M:fF id I aC K (jU I.arg v0) v0:=⟨(acN I.arg v0).1.symm,WU _,λb j=>by rw[Q3] at j;exact j,λb o j p=>by obtain⟨h1,h2⟩:=Q0 b o j p;exact⟨h1,by rw[NM];exact h2⟩,λb j=>(u b (by rw[<-Q3];exact j)).1,by grind,λb j p=>by grind,λA m=>⟨⟨(l A m).1,rfl,P A m,(l A m).2.1⟩,by grind⟩⟩
 let s0:St:=⟨λ_=>V,.opn 0,λ_=>V,K,Mx, #[], #[r (eO aC f args' er) []],v0,V⟩
 have AB:ju id I aC nm (jU I.arg v0) (eO (J aC fs) f args er) (eO aC f args' er):=
  aA (fN.yX W.pair.same Cz (by grind))
 obtain⟨t,o,H,F,ops,r1,X,rfl,C⟩:=azi (s0:=s0) (w0:=jU I.arg v0) EY xY W (Post:=Post) (λv Y O L T cl a b c d e g k=>E v Y O L T cl a b c (by grind) (λz hz=>e z (by grind)) g (λb j p=>by
   by_cases eA:∃A,I.arg=U A∧b=A.g
   ·obtain⟨A,m,rfl⟩:=eA;rw[(c.arg A m).1.2.2.2,(l A m).2.1]
   grind)) _ tr.acc.transGen (K:=⟨aC,dK,0,0,λ_=>False,ai⟩) (fr:=eO (J aC fs) f args er) (cs:=[]) (cs':=[]) rfl rfl rfl rfl (.refl s0) (Ok.start aC dK K v0 _ V) rfl (λ_=>rfl) ⟨#[],λi g h=>by simp[Trace.g?] at h,rfl, #[],rfl⟩ tr AB .nil M (Uu h4 Q1) (aW _) (λz _=>rfl) (.refl _ _)
 obtain⟨N,hN⟩:=r1;have hN':gZ aC N (solo (G (eO aC f args' er) []) v0) #[]=(fQ (dw t.gs t.v t.sl),t.T):=hN;refine⟨N,dw t.gs t.v t.sl,o,H,t.T++ops,?_,?_,?_,C⟩
 ·rw[runNT_add,hN'];simp only[gZ,X]
 ·grind[runNT_fst]
 ·unfold step;rw[X]
end
end
section
open Go
theorem afQ{t s:Type}{f:t->s->Option (ForInStep s)}{P:s->Prop}:∀{l:List t} {b r:s},P b->(∀a b j,P b->f a b=U j->P j.value)->forIn l b f=U r->P r
 | [],b,r,d,_,h=>by grind
 |a::l,b,r,d,g,h=>by
  rw[List.forIn_cons] at h;cases e:f a b with
  |none=>grind
  |some j=>
   rw[e] at h;have:=g a b j d e;cases j with
   |done i=>simp at h;exact h▸this
   |yield i=>exact afQ this g h
theorem abm{cs}:n (bN cs)=Z↔ ∀v∈cs,n v=Z:=by
 have c:∀l:List ay,BL l=Z↔ ∀v∈l,n v=Z:=by
  intro l;induction l with
  |nil=>simp[BL]
  |cons a l b=>grind[BL]
 obtain⟨l⟩:=cs
 grind[n,Gf]
theorem NS{z e}{i}{m}[Decidable m](j:∀d,z=U d->∀v∈d,n v=Z)(l:∀v,i=U v->n v=Z)(h:e=if m then V else z.bind λa=>i.bind λc=>U (a++c.cells)):∀d,e=U d->∀v∈d,n v=Z:=by
 intro d b v k;rw[h] at b;split at b
 ·cases b
 ·cases g:z with
  |none=>grind
  |some a=>
   cases f:i with
   |none=>grind
   |some c=>
    grind[Option.some.injEq,JA]
theorem apN{d}(o:∀t j v,d t=U j->j.zero=U v->n v=Z){fs}{i}(h:agX d fs=U i){v}(r:i.zero=U v):n v=Z:=by
 unfold agX at h;simp only[<-JZ,bind,yN,bH] at h;obtain⟨m,p,w⟩:=h;have q:∀g,m.2.2.2.2.2.2.2.1=U g->∀v∈g,n v=Z:=by
  refine afQ (P:=λm=>∀g,m.2.2.2.2.2.2.2.1=U g->∀v∈g,n v=Z) ?_ ?_ p
  ·grind
  ·intro a b s l c;cases f:d a.type with
   |none=>grind
   |some j=>
    rw[f] at c;simp only[xC] at c;have k:=o a.type j;by_cases J:j.str.isEmpty=Z
    ·grind
    rw[if_neg J] at c;by_cases b2:a.embedded=Z
    ·grind
    rw[if_neg b2] at c;by_cases b3:a.tag.isEmpty=Z
    ·rw[dn b3] at c
     try simp only[xC] at c
     by_cases E:j.bytes=0
     ·rw[dn E] at c;have e:=rY c;subst e;exact NS l (λv h=>k v f h) rfl
     ·rw[if_neg E] at c;have e:=rY c;subst e;exact NS l (λv h=>k v f h) rfl
    ·rw[if_neg b3] at c;cases Q0:Option.map (λx=> " " ++x) (Made.quote a.tag) with
     |none=>grind
     |some u=>
      rw[Q0] at c
      try simp only[xC] at c
      by_cases E:j.bytes=0
      ·rw[dn E] at c;have e:=rY c;subst e;exact NS l (λv h=>k v f h) rfl
      ·rw[if_neg E] at c;have e:=rY c;subst e;exact NS l (λv h=>k v f h) rfl
 grind[Option.some.injEq,Option.map_eq_some_iff,abm]
theorem apM{l}(o:∀t j v,l t=U j->j.zero=U v->n v=Z){d}{i}(h:Made.reckon l d=U i):(∀v,i.zero=U v->n v=Z)∧i.methods= #[]∧(∀k,i.desc≠ .float k)∧(∀k,i.desc≠ .complex k)∧∀a u,i.desc≠ .named a u:=by
 have f:∀(d:TypeDesc) (s:String) (z:ay) (c:Bool) (b:Nat),n z=Z->(∀k,d≠ .float k)->(∀k,d≠ .complex k)->(∀a u,d≠ .named a u)->U (Made.word d s z c b)=i->(∀v,i.zero=U v->n v=Z)∧i.methods= #[]∧(∀k,i.desc≠ .float k)∧(∀k,i.desc≠ .complex k)∧∀a u,i.desc≠ .named a u:=λd s z c b A p w r e=>by have e:=rY e;subst e;exact⟨λv g=>by have:=rY g;grind,rfl,p,w,r⟩
 unfold Made.reckon at h;cases d with
 |struct y=>
  refine⟨λv g=>apN o h g,?_⟩;simp only at h;unfold agX at h
  grind[Option.bind_eq_some_iff,Option.some.inj]
 |pointer e=>
  simp only[bind,yN,bH] at h;obtain⟨j,_,h⟩:=h;split at h
  ·cases h
  ·split at h
   ·cases h
   ·simp only[yN] at h;obtain⟨s,_,h⟩:=h;exact f _ _ _ _ _ (by rfl) (by grind) (by grind) (by grind) h
  ·simp only[yN] at h;obtain⟨s,_,h⟩:=h;exact f _ _ _ _ _ (by rfl) (by grind) (by grind) (by grind) h
 |slice e=>
  simp only[bind,yN,bH] at h;obtain⟨j,_,s,_,h⟩:=h;exact f _ _ _ _ _ (by rfl) (by grind) (by grind) (by grind) h
 |map k e=>
  simp only[bind,yN,bH] at h;obtain⟨j,_,s,_,E,_,D,_,h⟩:=h;exact f _ _ _ _ _ (by rfl) (by grind) (by grind) (by grind) h
 |chan q e=>
  simp only[bind,yN,bH] at h;obtain⟨G,m,a,x,h⟩:=h;exact f _ _ _ _ _ (by rfl) (by grind) (by grind) (by grind) h
 |func C F v=>
  simp only[bind,yN,bH] at h;obtain⟨j,_,h⟩:=h;exact f _ _ _ _ _ (by rfl) (by grind) (by grind) (by grind) h
 |array b e=>
  simp only[bind,yN,bH] at h;obtain⟨j,B,s,_,h⟩:=h;have e:=rY h;subst e;refine⟨λv g=>?_,rfl,nofun,nofun,nofun⟩;simp only at g;split at g
  ·cases g
  ·split at g
   ·have:=rY g;subst this;rfl
   grind[Option.map_eq_some_iff,abm,Array.mem_flatten,JA]
 |_=>cases h
theorem adP{T:Tables}(e:∀i∈T.types,∀v,i.zero=U v->n v=Z):∀(f:Nat) (t:dZ) (i:TypeInfo),Made.infoAt T f t=U i->i∈T.types∨((∀v,i.zero=U v->n v=Z)∧i.methods= #[]∧(∀k,i.desc≠ .float k)∧(∀k,i.desc≠ .complex k)∧∀a u,i.desc≠ .named a u)
 |0,t,i,h=>by cases h
 |f+1,t,i,h=>by
  unfold Made.infoAt at h;split at h
  ·grind
  ·simp only[yN] at h;obtain⟨d,_,h⟩:=h;exact aA (apM (λt j v c l=>by
    rcases adP e f t j c with g|g
    all_goals grind) h)
theorem Va{T:Tables}(b:∀i∈T.types,∀v,i.zero=U v->n v=Z){t}{i}(h:T.info? t=U i):i∈T.types∨((∀v,i.zero=U v->n v=Z)∧i.methods= #[]∧(∀k,i.desc≠ .float k)∧(∀k,i.desc≠ .complex k)∧∀a u,i.desc≠ .named a u):=by
 unfold Tables.info? at h
 grind[Array.mem_iff_getElem?,adP]
end
section
open Go.Proofs
def uh:Nat:=7530513141459703090006573512571396663087727459507568300783141639376931433303397187452920
def zl:Nat:=7530513141459703090006573512571401260574350057174143375824223090304482289522962761515000
def Ib(f:fb)(n:Nat):Bool:=(f==41&&n==3)||(f==180&&n==2)||(f==181&&n==2)
def pQ(s:String):Bool:=s== "Kind" ||s== "Elem" ||s== "AssignableTo" ||s== "As" ||s== "Is" ||s== "Unwrap" ||s== "Implements" ||s== "Comparable"
def pZ(four:Bool)(R:Nat->Bool)(b:Nat):Bool:=if b<7 then(b==0||b==3||b==5||b==6||(b==4&&four)) else R b
def dsl:Nat->List Nat
 |3=> [0,15,31,37,39]
 |4=> [0,24,48,54,56,60,62]
 |5=> [0,22,38,44,46]
 |6=> [0,30,46,52,54]
 |7=> [0,27,53,59,61]
 |14=> [0,6,13,15,16,20,22,23,27,29,30]
 |_=> []
def Lz(f:fb)(t:Nat):Bool:=(dsl f).contains t
def Xe:List Nat:=[3,4,5,6,7,8,14]
def LC(f:fb):Bool:=Xe.contains f
def afS(R:Nat->Bool):H:={T:=λf=>uh.testBit f,F:=pZ ai R,gh:=λ_=>ai,cut:=Ib}
def afR(R:Nat->Bool):H:={T:=λf=>zl.testBit f,F:=pZ Z R,gh:=λ_=>ai,cut:=λ_ _=>ai}
noncomputable def jm(R:Nat->Bool)(A:Option Di):H:={T:=λf=>uh.testBit f,F:=pZ ai R,gh:=ie (afS R) aC pQ,cut:=Ib,D:=Lz,DF:=LC,arg:=A}
noncomputable def wv(R:Nat->Bool):H:={T:=λf=>zl.testBit f,F:=pZ Z R,gh:=ie (afR R) aC pQ,cut:=λ_ _=>ai}
def Gk:Nat->Bool:=λ_=>ai
noncomputable def Na(I:H)(fs:Array dV)(f:Nat):Bool:=match fs[f]? with|some fn=>(match fn.body with|some b=>ie I aC pQ b|none=>Z)|none=>ai
section
variable {I I':H} {q:bU} {nm:String->Bool} (hT:I.T=I'.T) (hC:I.cut=I'.cut) (hF:∀g,g<q.globals.size->I.F g=I'.F g)
include hT hF
theorem TG:rT I q=rT I' q:=by
 funext x;cases x with
 |global g=>
  grind[rT]
 |_=>grind[rT]
include hC
theorem alT:Bu I q nm=Bu I' q nm:=by funext o;cases o<;>simp only[Bu,yx,FN,(TG hT hF (q:=q)),hT,hC]
theorem Nb:∀c,ie I q nm c=ie I' q nm c:=by
 have h:=TG hT hF (q:=q);intro c;induction c with
 |skip=>rfl
 |region id j d=>simp only[ie,(alT hT hC hF (q:=q) (nm:=nm))]
 |seq a b i e=>grind[ie]
 |cond x a b i e=>simp only[ie,h,i,e]
 |block id b e=>grind[ie]
 |loop b e=>grind[ie]
 |rangeFunc f k a b i e=>simp only[ie,h,i,e]
 |exit id=>rfl
 |scope b e=>rfl
 |label l=>rfl
 |goto l=>rfl
 |_=>rfl
end
theorem CE:aC.globals.size=7:=by kernel_rfl
theorem WL{a}{R b}:∀g,g<aC.globals.size->pZ a R g=pZ a b g:=λg h=>by
 rw[CE] at h;unfold pZ
 grind
theorem alR:((lW 320).all λf=> !uh.testBit f||Na (jm Gk V) aC.funcs f)=Z:=by kernel_rfl
theorem alQ:((lW 320).all λf=> !zl.testBit f||Na (wv Gk) iV f)=Z:=by kernel_rfl
theorem ahw{f}(h:uh.testBit f=Z):f<320:=adu ((Nat.le_log2 (by decide)).2 (adt h)) (by decide)
theorem ahx{f}(h:zl.testBit f=Z):f<320:=adu ((Nat.le_log2 (by decide)).2 (adt h)) (by decide)
theorem Zb(R)(A)(c):(jm R A).gh c=ie (jm R A) aC pQ c:=Nb (I:=afS R) (I':=jm R A) rfl rfl (λ_ _=>rfl) c
theorem Za(R)(c):(wv R).gh c=ie (wv R) aC pQ c:=Nb (I:=afR R) (I':=wv R) rfl rfl (λ_ _=>rfl) c
theorem alP{R}{A}{f}(c:uh.testBit f=Z){fn}{b}(h:aC.funcs[f]? =U fn)(d:fn.body=U b):(jm R A).gh b=Z:=by have:=Kj.1 alR f (GJ.2 (ahw c));rw[c] at this;simp only[Bool.not_true,Bool.false_or,Na,h,d] at this;rw[Zb,<-this];exact Nb (I:=jm R A) (I':=jm Gk V) (q:=aC) rfl rfl WL b
theorem alO{R}{f}(c:zl.testBit f=Z){fn}{b}(h:iV[f]? =U fn)(d:fn.body=U b):(wv R).gh b=Z:=by have:=Kj.1 alQ f (GJ.2 (ahx c));rw[c] at this;simp only[Bool.not_true,Bool.false_or,Na,h,d] at this;rw[Za,<-this];exact Nb (I:=wv R) (I':=wv Gk) (q:=aC) rfl rfl WL b
section
variable {I I':H} {q:bU} {nm:String->Bool} (hT:I.T=I'.T) (hC:I.cut=I'.cut) (hF:∀g,g<q.globals.size->I.F g=I'.F g) (hD:I.D=I'.D) (Cz:I.DF=I'.DF) (D:Nat->Bool)
include hT hF in
theorem TI:rV I q D=rV I' q D:=by funext x;cases x<;>simp only[rV,(TG hT hF (q:=q))]
include hT hF in
theorem ahW(E:Nat->Bool):∀(l:List iI) (j:Nat),C7 I q D E j l=C7 I' q D E j l
 | [],_=>rfl
 |x::l,j=>by simp only[C7,TI hT hF D,ahW E l]
include hT hC hF hD Cz in
theorem ayV:CL I q nm D=CL I' q nm D:=by
 have h:=TI hT hF (q:=q) D;funext o;obtain⟨d,c,b,e,a,E⟩:=o;unfold CL;have f:yx I q nm (rV I q D) c=yx I' q nm (rV I' q D) c:=by cases c<;>simp only[yx,FN,h,hT,hC]
 have i:Ia I q D ⟨d,c,b,e,a,E⟩=Ia I' q D ⟨d,c,b,e,a,E⟩:=by cases c<;>simp only[Ia,h,(ahW hT hF (q:=q) D),hD,Cz]
 grind
include hT hC hF hD Cz in
theorem ayW:∀c,lF I q nm D c=lF I' q nm D c:=by
 have i:=ayV hT hC hF hD Cz (q:=q) (nm:=nm) D;intro c;induction c with
 |region id h d=>grind[lF]
 |seq a b f e=>grind[lF]
 |cond x a b f e=>simp only[lF,(TI hT hF (q:=q) D),f,e]
 |block id b e=>grind[lF]
 |loop b e=>grind[lF]
 |_=>rfl
end
noncomputable def agt(I:H)(q:bU)(nm:String->Bool)(D:Nat->Bool):Option dV->Bool
 |some fn=>(match fn.body with|some c=>lF I q nm D c&&fn.results.all (zQ D)&& !(fn.name== "runtime.NumGoroutine")|none=>ai)
 |none=>ai
noncomputable def agu(f:Nat):Bool:=uh.testBit f&&agt (jm Gk V) aC pQ (Lz f) aC.funcs[f]?
theorem ayF:(Xe.all agu)=Z:=by kernel_rfl
theorem ayO{f:Nat}(h:LC f=Z):f∈Xe:=List.contains_iff_mem.1 h
theorem ayE{I}{q}{nm}{D}{o}(h:agt I q nm D o=Z):
  ∃a c,o=U a∧a.body=U c∧lF I q nm D c=Z∧a.results.all (zQ D)=Z∧(a.name== "runtime.NumGoroutine")=ai:=by
 cases o with
 |none=>cases h
 |some a=>
  obtain⟨e,n,s,u,r,l,p,d,b,i,f,m,g,k,t,j⟩:=a;cases b with
  |none=>cases h
  |some c=>
   have h:(lF I q nm D c&&d.all (zQ D)&& !(e== "runtime.NumGoroutine"))=Z:=h
   grind
theorem ayG{R}{A}{X:fb->Prop}(g:∀f,LC f=Z->¬X f)(f)(h:(jm R A).DF f=Z):(jm R A).T f=Z∧¬X f∧∃a c,aC.funcs[f]? =U a∧a.body=U c∧lF (jm R A) aC pQ ((jm R A).D f) c=Z∧a.results.all (zQ ((jm R A).D f))=Z∧(a.name== "runtime.NumGoroutine")=ai:=by have h:LC f=Z:=h;have b:=Kj.1 ayF f (ayO h);unfold agu at b;obtain⟨b,l⟩:=Bool.and_eq_true_iff.1 b;obtain⟨a,c,e,i,k,d,j⟩:=ayE l;exact⟨b,g f h,a,c,e,i,(ayW (I:=jm R A) (I':=jm Gk V) rfl rfl WL rfl rfl _ c).trans k,d,j⟩
noncomputable def aiK(q:bU):Bool:=q.types.all λi=>match i.zero with|some v=>n v|none=>Z
noncomputable def apO(q:bU):Bool:=q.types.all λi=>match i.desc with|.float _|.complex _=>ai|_=>Z
theorem aiL:aiK aC=Z:=by kernel_rfl
theorem apP:apO aC=Z:=by kernel_rfl
theorem MB:∀i∈aC.types,∀v,i.zero=U v->n v=Z:=λi b v c=>by
 have:=UX.1 aiL i b
 grind
theorem aju{t}{d}(h:aC.underlying t=U d):(∃i∈aC.types,i.desc=d)∨(∀k,d≠ .float k)∧∀k,d≠ .complex k:=by
 have l:∀u i,aC.info? u=U i->i.desc=d->(∃i∈aC.types,i.desc=d)∨(∀k,d≠ .float k)∧∀k,d≠ .complex k:=λu i c e=>by
  grind[Va,MB]
 unfold Program.underlying at h;cases c:aC.info? t with
 |none=>grind
 |some i=>
  rw[c] at h;obtain⟨f,b⟩:=i;cases f with
  |named a u=>
   simp only at h;cases g:aC.info? u with
   |none=>grind
   |some j=>
    grind
  |_=>grind
theorem Yh:ru aC:=by
 have d:=UX.1 apP;refine⟨λt i v a c=>?_,λt k h=>?_,λt k h=>?_⟩
 ·rcases Va MB a with b|b
  all_goals grind[MB]
 all_goals grind[aju]
noncomputable def arI(q:bU)(s:String):Bool:=q.types.all λi=>match i.methods.find? (·.name==s) with|some m=>(match m.func with|some (f,_)=>uh.testBit f&&zl.testBit f|none=>Z)|none=>Z
theorem arJ:(["Kind","Elem","AssignableTo","As","Is","Unwrap","Implements","Comparable"].all λs=>arI aC s)=Z:=by kernel_rfl
theorem arA{s}(h:pQ s=Z):s∈["Kind","Elem","AssignableTo","As","Is","Unwrap","Implements","Comparable"]:=by
 simp only[pQ,kK,OP] at h
 grind
theorem ace{s}(h:pQ s=Z){t}{i}{m}{f}{p}(b:aC.info? t=U i)(e:i.methods.find? (·.name==s)=U m)(c:m.func=U (f,p)):uh.testBit f=Z∧zl.testBit f=Z:=by
 rcases Va MB b with a|a
 ·have d:=UX.1 (Kj.1 arJ s (arA h)) i a
  grind
 grind
def Ls:List Nat:=[111,112,113,115,173,174,277,278,285,288,289,290,291]
noncomputable def adA(f:Nat):Bool:=match iV[f]?,aC.funcs[f]? with|some fn,U o=>o.name==fn.name&& !(fn.name== "runtime.NumGoroutine")&&fn.body.isSome&&o.body.isSome|_,_=>ai
theorem atc:((lW 320).all λf=> !(uh.testBit f||zl.testBit f)||Ls.contains f||adA f)=Z:=by kernel_rfl
def rB(q:bU)(fs:Array dV)(fn o:dV):Prop:=o.name=fn.name∧(fn.name== "runtime.NumGoroutine")=ai∧
  ((∃b b',fn.body=U b∧o.body=U b')∨(o=fn∧fn.body=V∧Xk fn=V∧∃e,Extern.find fn=U e∧rD q fs e)∨
   (o=fn∧fn.body=V∧Xk fn=V∧Extern.find fn=V∧(fn.name.endsWith ".init" && !fn.name.startsWith "(" && !fn.name.startsWith "gosem.")=ai))
theorem atq(q)(fs):rB q fs f111 f111:=⟨rfl,by kernel_rfl,aA (ax ⟨rfl,rfl,by kernel_rfl,⟨_,by kernel_rfl,axZ⟩⟩)⟩
theorem atp(q)(fs):rB q fs f112 f112:=⟨rfl,by kernel_rfl,aA (ax ⟨rfl,rfl,by kernel_rfl,⟨_,by kernel_rfl,ax1⟩⟩)⟩
theorem ato(q)(fs):rB q fs f113 f113:=⟨rfl,by kernel_rfl,aA (ax ⟨rfl,rfl,by kernel_rfl,⟨_,by kernel_rfl,ax5⟩⟩)⟩
theorem atn(q)(fs):rB q fs f115 f115:=⟨rfl,by kernel_rfl,aA (ax ⟨rfl,rfl,by kernel_rfl,⟨_,by kernel_rfl,ax0⟩⟩)⟩
theorem atm(q)(fs):rB q fs f173 f173:=⟨rfl,by kernel_rfl,aA (ax ⟨rfl,rfl,by kernel_rfl,⟨_,by kernel_rfl,ax7⟩⟩)⟩
theorem atl(q)(fs):rB q fs f174 f174:=⟨rfl,by kernel_rfl,aA (ax ⟨rfl,rfl,by kernel_rfl,⟨_,by kernel_rfl,ax2⟩⟩)⟩
theorem atk(q)(fs):rB q fs f277 f277:=⟨rfl,by kernel_rfl,aA (aA ⟨rfl,rfl,by kernel_rfl,by kernel_rfl,by kernel_rfl⟩)⟩
theorem atj(q)(fs):rB q fs f278 f278:=⟨rfl,by kernel_rfl,aA (ax ⟨rfl,rfl,by kernel_rfl,⟨_,by kernel_rfl,aya⟩⟩)⟩
theorem ati(q)(fs):rB q fs f285 f285:=⟨rfl,by kernel_rfl,aA (ax ⟨rfl,rfl,by kernel_rfl,⟨_,by kernel_rfl,ax4⟩⟩)⟩
theorem ath(q)(fs):rB q fs f288 f288:=⟨rfl,by kernel_rfl,aA (ax ⟨rfl,rfl,by kernel_rfl,⟨_,by kernel_rfl,ax9⟩⟩)⟩
theorem atg(q)(fs):rB q fs f289 f289:=⟨rfl,by kernel_rfl,aA (ax ⟨rfl,rfl,by kernel_rfl,⟨_,by kernel_rfl,ax8⟩⟩)⟩
theorem atf(q)(fs):rB q fs f290 f290:=⟨rfl,by kernel_rfl,aA (ax ⟨rfl,rfl,by kernel_rfl,⟨_,by kernel_rfl,ax3⟩⟩)⟩
theorem ate(q)(fs):rB q fs f291 f291:=⟨rfl,by kernel_rfl,aA (ax ⟨rfl,rfl,by kernel_rfl,⟨_,by kernel_rfl,ax6⟩⟩)⟩
theorem adz{f}(h:f∈Ls)(q)(fs):∃a,iV[f]? =U a∧aC.funcs[f]? =a∧rB q fs a a:=by
 simp only[Ls,dh,List.mem_nil_iff,dO] at h;rcases h with rfl|rfl|rfl|rfl|rfl|rfl|rfl|rfl|rfl|rfl|rfl|rfl|rfl
 ·grind[pA,func111,atq]
 ·grind[pA,func112,atp]
 ·grind[pA,func113,ato]
 ·grind[pA,func115,atn]
 ·grind[pA,func173,atm]
 ·grind[pA,func174,atl]
 ·grind[pA,func277,atk]
 ·grind[pA,func278,atj]
 ·grind[pA,func285,ati]
 ·grind[pA,func288,ath]
 ·grind[pA,func289,atg]
 all_goals grind[pA,func290,atf,func291,ate]
theorem ady{f}(h:uh.testBit f=Z∨zl.testBit f=Z)(q)(fs):∃i e,iV[f]? =U i∧aC.funcs[f]? =U e∧rB q fs i e∧(e=i∨Ls.contains f=ai):=by
 have g:=Kj.1 atc f (GJ.2 (h.elim ahw ahx));simp only[kK,ads] at g;rcases g with(g|g)|g
 ·grind
 ·obtain⟨i,j,k,l⟩:=adz (by simpa using g) q fs
  exact⟨i,i,j,k,l,ax rfl⟩
 ·unfold adA at g;cases j:iV[f]? with
  |none=>grind
  |some i=>
   cases k:aC.funcs[f]? with
   |none=>grind
   |some e=>
    rw[j,k] at g;simp only[cS,OP,ads,Option.isSome_iff_exists] at g;obtain⟨⟨⟨a,b⟩,⟨c,m⟩⟩,⟨d,n⟩⟩:=g;by_cases hx:Ls.contains f=Z
    ·obtain⟨o,p,r,l⟩:=adz (by simpa using hx) q fs
     grind
    ·exact⟨i,e,rfl,rfl,⟨a,b,ax ⟨c,d,m,n⟩⟩,aA (by grind)⟩
theorem ah9{f}(h:uh.testBit f=Z):f≠41∧f≠180∧f≠181:=by refine⟨?_,?_,?_⟩<;>rintro rfl<;>revert h<;>decide
section
variable {R:Nat->Bool} {A:Option Di} (hR:R 7=Z)
include hR
theorem atd:Q7 (jm R A) aC iV:=⟨by rw[CE];exact hR,λf g=>by obtain⟨i,d,h,e,⟨a,b,c⟩,_⟩:=ady (ax g) aC iV;exact⟨i,d,h,e,a,b,c⟩⟩
theorem ay2:Yd (jm R A) aC iV:=λf n h=>by
 have h:Ib f n=Z:=h;simp only[Ib,kK,cS,OP] at h;rcases h with(⟨rfl,rfl⟩|⟨rfl,rfl⟩)|⟨rfl,rfl⟩
 ·exact⟨uy,nG,by kernel_rfl,func41,by kernel_rfl,by kernel_rfl,by kernel_rfl,by kernel_rfl⟩
 ·exact⟨{f180 with body:=U (.refuse "not here")},f180,by kernel_rfl,func180,by kernel_rfl,by kernel_rfl,by grind,by kernel_rfl⟩
 ·exact⟨{f181 with body:=U (.refuse "not here")},f181,by kernel_rfl,func181,by kernel_rfl,by kernel_rfl,by grind,by kernel_rfl⟩
theorem asY:mJ (jm R A) aC iV pQ:=⟨Yh,atd hR,λs b t i m f p c d a=>(ace b c d a).1,ay2 hR⟩
omit hR in
theorem aoX:Same (jm R A) aC iV pQ (λ_=>False):=⟨Zb R A,λf a=>by
 obtain⟨d,g,e⟩:=ah9 a
 grind[pA],λf a _=>by
 obtain⟨d,g,e⟩:=ah9 a;exact⟨pA d g e,λj b c i=>alP a c i⟩,ayG λ_ _ h=>h⟩
theorem aqo(a:∀B,A=U B->B.g≠4):Dd iV (jm R A) pQ where
 lay:=asY hR
 same:=aoX
 f41:=by kernel_rfl
 f59:=(pA (by decide) (by decide) (by decide)).trans func59
 f60:=(pA (by decide) (by decide) (by decide)).trans func60
 t59:=by show uh.testBit 59=Z;decide
 t60:=by show uh.testBit 60=Z;decide
 flag:=rfl
 Fs:=a
 LG:=λf n h=>by
  have h:Ib f n=Z:=h;simp only[Ib,kK,cS,OP] at h;rcases h with(h|⟨rfl,rfl⟩)|⟨rfl,rfl⟩
  ·grind
  ·exact aA ⟨{f180 with body:=U (.refuse "not here")},"not here",by kernel_rfl,rfl⟩
  ·exact aA ⟨{f181 with body:=U (.refuse "not here")},"not here",by kernel_rfl,rfl⟩
end
section
variable {I:H} {q:bU} {fs:Array dV} {nm:String->Bool}
theorem abP:rT I (J q fs)=rT I q:=by funext x;cases x<;>rfl
theorem ard:Gj (J q fs)=Gj q:=by funext t;rfl
theorem alS:Bu I (J q fs) nm=Bu I q nm:=by funext o;cases o<;>simp only[Bu,yx,FN,(abP (I:=I) (q:=q) (fs:=fs)),(ard (q:=q) (fs:=fs))]
theorem alU(c):ie I (J q fs) nm c=ie I q nm c:=by
 have h:=abP (I:=I) (q:=q) (fs:=fs);induction c with
 |region id i d=>simp only[ie,(alS (I:=I) (q:=q) (fs:=fs) (nm:=nm))]
 |seq a b g e=>grind[ie]
 |cond x a b g e=>simp only[ie,h,g,e]
 |block id b e=>grind[ie]
 |loop b e=>grind[ie]
 |rangeFunc f j a b g e=>simp only[ie,h,g,e]
 |_=>rfl
theorem Same.cut{X}(g:∀c,I.gh c=ie I q nm c)(e:∀f,I.T f=Z->∀d b,fs[f]? =U d->d.body=U b->I.gh b=Z)(i:∀f,I.DF f=ai):Same I (J q fs) fs nm X:=⟨λc=>(g c).trans (alU c).symm,λf a=>rfl,λf a _=>⟨rfl,e f a⟩,λf h=>by grind⟩
theorem mJ.cut(b:ru q)(o:I.F q.globals.size=Z)(j:∀f,I.T f=Z->∃a,fs[f]? =U a∧rB (J q fs) fs a a)(d:∀s,nm s=Z->∀t i m f p,q.info? t=U i->i.methods.find? (·.name==s)=U m->m.func=U (f,p)->I.T f=Z)(u:∀f n,I.cut f n=ai):mJ I (J q fs) fs nm:=
 ⟨⟨b.zero,b.whole,b.real⟩,⟨o,λf c=>by obtain⟨a,e,k⟩:=j f c;exact⟨a,a,e,e,k⟩⟩,λs l t i m f p g r c=>d s l t i m f p g r c,λf n h=>by grind⟩
end
variable {R R2:Nat->Bool} {A:Option Di} (hR:R 7=Z) (hR2:R2 7=Z)
include hR in
theorem asX:mJ (wv R) (J aC iV) iV pQ:=mJ.cut Yh (by rw[CE];exact hR) (λf g=>by
 obtain⟨k,n,h,q,⟨a,b,c⟩,d⟩:=ady (aA g) (J aC iV) iV;refine⟨k,h,rfl,b,?_⟩;rcases c with⟨c,_,e,_⟩|⟨_,e⟩|⟨_,e⟩
 ·exact ax ⟨c,c,e,e⟩
 ·exact aA (ax ⟨rfl,e⟩)
 grind) (λs l t i m f p j o g=>(ace l j o g).2) (λ_ _=>rfl)
theorem aoW:Same (wv R) (J aC iV) iV pQ (λ_=>False):=Same.cut (Za R) (λf c e b a d=>alO c a d) λ_=>rfl
theorem ary{f:Nat}(h:(jm R A).T f=Z):aC.inits.idxOf? f=V:=by
 have e:aC.inits= #[2]:=by kernel_rfl
 rw[e];have a:f≠2:=by rintro rfl;have h:uh.testBit 2=Z:=h;revert h;decide
 grind
include hR hR2 in
theorem ajz(a:∀B,A=U B->B.g≠4):Twin iV (jm R A) (wv R2) pQ:=⟨aqo hR a,λf h=>ary h,asX hR2,aoW,λ_ _=>rfl,rfl,λ_=>rfl⟩
end
section
open Go.Conc Go.RowKit Go.Conc.Lib Go.ConcR.Gen
open Go.ConcN (WgLive)
open Go.ConcN.Gen (WgLive.cell0 WgLive.cell1)
open Go.ConcR (KK WgAt stA smA wgBlock rd wr mk Bk)
variable{P:bU}{L:WgLink}{Wg:Nat}{pF:aX}{pH:Act}{lg:Array dD}{pn:Nat}{oT:List Nat}{oY:List eS}{cs:List aX}
set_option maxHeartbeats 8000000 in
theorem aA6 (H:WgLib P L) (w) (a:jq L.tWg Wg w):
  Ri P L Wg (G (pF.at (pH.put ((lg[pn]?).bind (·.dst)) (bO #[])) (aP lg oT::oY)) cs)
   (G ((aY L.add).at ⟨#[aE (Wg),Y aH 1,ak,ak,ak,ak,ak,ak,ak,ak,ak,ak,ak,ak,ak,ak,ak,ak,ak,ak,ak,ak,ak,ak,ak,ak,ak,ak,ak,ak,ak,ak,ak,ak,ak,ak,ak,ak,ak,ak,ak,ak,ak,ak,ak,ak,ak,ak,ak,ak,ak,ak,ak,ak,ak,ak,ak,ak,ak,ak,ak,ak,ak,ak,ak,ak,ak,ak,ak,ak,ak,ak,ak,ak,ak,ak,ak,ak,ak,ak,ak,ak,ak,ak,ak,ak,ak,ak,ak,ak,ak,ak,ak,ak,ak,ak,ak,ak,ak,ak,ak,ak,ak,ak,ak,ak,ak,ak,ak,ak,ak,ak,ak,ak,ak,ak,ak],[]⟩ [bD (body_add L)]) (pF.at pH (aP lg (pn::oT)::oY)::cs)) w:=by
 lib_facts;refine⟨12,dG ?_⟩;simp only[body_add,addFn,fO];u_c D E a;u_cond Z E a
 iterate 2 u_c D E a
 u_reg E a
 iterate 2 u_op E a
 u_c N E a;u_cond ai E a;u_c kD E a;u_c D E a;u_reg E a;refine I (λk f=>?_);replace a:=E a f;refine⟨rfl,_,OO .disable (by simp) rfl rfl (by k_ne) rfl H.f_disable (x_disable_n L) (x_disable_b L) (x_disable_x L) (x_disable_f L),40,dG ?_⟩
 walk_nrm;u_c N E a;u_reg E a
 u_defer E a
 u_c N E a;u_c D E a;u_reg E a;u_op E a;u_c N E a
 iterate 2 u_c D E a
 u_reg E a
 u_bub E a
 u_c N E a;u_cond ai E a;u_c kD E a;u_c D E a;u_reg E a
 iterate 6 u_op E a
 u_call H.f_uAdd (nm_uAdd L) uAddFn E a;u_c D E a;u_reg E a;u_op E a;u_c N E a;u_c D E a;u_reg E a
 iterate 4 u_op E a
 refine I (λb i=>?_);replace a:=E a i;refine⟨rfl,λv l d=>?_⟩;obtain rfl|rfl:v=0∨v=1:=by omega
 ·
  replace d:WgAt L.tWg Wg b 0 0:=by grind
  have z:(((0:Nat):Int)+1)*KK=KK:=by simp
  rw[z];have j:cK.wrap (0+4294967296)=KK:=by decide
  refine⟨_,(stepG_add_atomic rfl rfl (by k_ne) rfl H.f_addU64 (x_addU64_n L) (x_addU64_b L) (x_addU64_x L) cK (x_addU64_f L) rfl rfl d.cellSt (d.thaw 0)).trans (by rw[j];rfl),130+60,lift ?_⟩
  replace a:jq L.tWg Wg (b.setCell (stA Wg) (Y cK KK)):=⟨_,_,d.setSt _⟩;simp only[KK] at a⊢;walk_nrm;u_op E a;u_c N E a;u_c o9 E a;u_leave1 H.f_uAdd E a;u_op E a;u_c N E a
  iterate 2 u_c D E a
  u_reg E a
  iterate 4 u_op E a
  iterate 2 u_skip E a
  u_op E a;u_c N E a;u_cond ai E a;u_c kD E a;u_c D E a;u_reg E a
  iterate 4 u_op E a
  u_c N E a;u_c D E a;u_reg E a
  iterate 4 u_op E a
  u_c N E a
  iterate 2 u_c D E a
  u_reg E a
  iterate 10 u_op E a
  u_c N E a;u_cond Z E a;u_reg E a
  iterate 3 u_op E a
  u_conv H.underlying_tPU32 H.room_tU32 (WgLive.cell1 a).choose_spec E a;refine I (λ_ h=>?_);replace a:=E a h;u_in E a;rw[GI .read (by simp) rfl rfl (by k_ne) rfl H.f_raceRead (x_raceRead_n L) (x_raceRead_b L) (x_raceRead_x L) (x_raceRead_f L) (ad:=⟨Wg,1,V⟩) (by simp[dW])]
  simp only[eI];refine⟨⟨rfl,λe m=>?_⟩,?_⟩
  ·grind
  walk_nrm;refine dG ?_;u_c N E a
  iterate 2 u_c D E a
  u_reg E a
  iterate 2 u_op E a
  u_c N E a;u_cond ai E a;u_c kD E a
  iterate 2 u_c D E a
  u_reg E a
  iterate 3 u_op E a
  iterate 2 u_skip E a
  iterate 2 u_op E a
  iterate 4 u_skip E a
  u_op E a;u_c N E a;u_cond ai E a;u_c kD E a
  iterate 2 u_c D E a
  u_reg E a
  iterate 3 u_op E a
  iterate 2 u_skip E a
  u_op E a;u_c N E a;u_cond Z E a;u_c o9 E a;refine I (λg c=>?_);replace a:=E a c;refine⟨rfl,_,stepG_unwind_entry (v:=bO #[]) (evs:= #[jo .enable]) rfl H.f_enable (x_enable_n L) (x_enable_b L) (x_enable_x L) (x_enable_f L) (by simp[ay9]) (by simp[jo]) (by simp[jo]),1,dG ?_⟩
  u_leave0 H.f_add E a
  grind[Goes.stop]
 ·
  replace d:WgAt L.tWg Wg b 4294967296 0:=by simpa[KK] using d
  have z:(((1:Nat):Int)+1)*KK=8589934592:=by decide
  rw[z];have j:cK.wrap (4294967296+4294967296)=8589934592:=by decide
  refine⟨_,(stepG_add_atomic rfl rfl (by k_ne) rfl H.f_addU64 (x_addU64_n L) (x_addU64_b L) (x_addU64_x L) cK (x_addU64_f L) rfl rfl d.cellSt (d.thaw 0)).trans (by rw[j];rfl),130,dG ?_⟩
  replace a:jq L.tWg Wg (b.setCell (stA Wg) (Y cK 8589934592)):=⟨_,_,d.setSt _⟩;walk_nrm;u_op E a;u_c N E a;u_c o9 E a;u_leave1 H.f_uAdd E a;u_op E a;u_c N E a
  iterate 2 u_c D E a
  u_reg E a
  iterate 2 u_op E a
  try simp only[bd2]
  iterate 2 u_op E a
  iterate 2 u_skip E a
  u_op E a;u_c N E a;u_cond ai E a;u_c kD E a;u_c D E a;u_reg E a
  iterate 4 u_op E a
  u_c N E a;u_c D E a;u_reg E a
  iterate 2 u_op E a
  try simp only[be2]
  iterate 2 u_op E a
  u_c N E a
  iterate 2 u_c D E a
  u_reg E a
  iterate 10 u_op E a
  u_c N E a;u_cond ai E a;u_c kD E a
  iterate 2 u_c D E a
  u_reg E a
  iterate 2 u_op E a
  u_c N E a;u_cond ai E a;u_c kD E a
  iterate 2 u_c D E a
  u_reg E a
  iterate 3 u_op E a
  iterate 2 u_skip E a
  iterate 2 u_op E a
  iterate 4 u_skip E a
  u_op E a;u_c N E a;u_cond ai E a;u_c kD E a
  iterate 2 u_c D E a
  u_reg E a
  iterate 3 u_op E a
  iterate 2 u_skip E a
  u_op E a;u_c N E a;u_cond Z E a;u_c o9 E a;refine I (λg c=>?_);replace a:=E a c;refine⟨rfl,_,stepG_unwind_entry (v:=bO #[]) (evs:= #[jo .enable]) rfl H.f_enable (x_enable_n L) (x_enable_b L) (x_enable_x L) (x_enable_f L) (by simp[ay9]) (by simp[jo]) (by simp[jo]),1,dG ?_⟩
  u_leave0 H.f_add E a
  grind[Goes.stop]
set_option maxHeartbeats 16000000 in
theorem ajp (H:WgLib P L) (g) (w) (h:Me L (λ_=>True) Wg (pF.at pH (aP lg (pn::oT)::oY)) cs g w):
  ∃m,GQ P L Wg (Rg P L Wg (Me L (λ_=>True) Wg (pF.at pH (aP lg (pn::oT)::oY)) cs) (G (pF.at (pH.put ((lg[pn]?).bind (·.dst)) (bO #[])) (aP lg oT::oY)) cs)) m g w:=by
 lib_facts;obtain⟨T,rfl,r,A,_,a⟩:=h;obtain⟨v0,v1,v2,v3,v4,v5,v6,v7,v8,v9,v10,Q,v12,lK,oQ,X,oP,oO,Dr,lJ,v20,v21,Dq,oN,F,MR,MQ,S,v28,W,O,v31,tn,Dp,J,oM,QW,v37,oL,oK,v40,oJ,oI,oH,Q3,mQ,v46,oG,oF,v49,MO,v51,C,v53,vv,oE,mP,QX,MN,v59,mO,oD,oC,QY,mM,MM,mL,B,K,M,v70,ML,v72,Dn,QZ,Q0,v76,vu,Q1,Dm,v80,R,Q2,mK,rfl⟩:=array84 T r;simp only[nW,nV,ec] at A;subst A;refine⟨30,dG ?_⟩;simp only[L7,body_wait,waitFn,fO];u_c GL E a;u_c D E a;u_reg E a
 iterate 3 u_op E a
 u_call H.f_uLoad (nm_uLoad L) uLoadFn E a;u_c D E a;u_reg E a;u_op E a;u_c N E a;u_c D E a;u_reg E a
 iterate 3 u_op E a
 refine I (λl s=>?_);replace a:=E a s;refine⟨rfl,λv hv b=>?_⟩;obtain rfl|rfl|rfl:v=0∨v=1∨v=2:=by omega
 ·
  replace b:WgAt L.tWg Wg l 0 0:=by grind
  refine⟨_,Ki (v:=0) rfl rfl (by k_ne) rfl H.f_loadU64 (x_loadU64_n L) (x_loadU64_b L) (x_loadU64_x L) cK (x_loadU64_f L) rfl b.cellSt,λ_=>⟨60,dG ?_⟩,λh=>absurd rfl h⟩
  walk_nrm;u_op E a;u_c N E a;u_c o9 E a;u_leave1 H.f_uLoad E a;u_op E a;u_c N E a;u_c D E a;u_reg E a
  iterate 4 u_op E a
  u_c N E a;u_c D E a;u_reg E a
  iterate 4 u_op E a
  u_c N E a
  iterate 2 u_c D E a
  u_reg E a
  iterate 2 u_op E a
  u_c N E a
  iterate 2 (u_cond Z E a;u_c D E a)
  u_reg E a;refine I (λp f=>?_);replace a:=E a f;refine⟨rfl,_,OO .enable (by simp) rfl rfl (by k_ne) rfl H.f_enable (x_enable_n L) (x_enable_b L) (x_enable_x L) (x_enable_f L),12,dG ?_⟩
  walk_nrm;u_c N E a;u_reg E a;u_op E a;u_conv H.underlying_tWgP H.room_tWg (WgLive.cell0 a).choose_spec E a;refine I (λo d=>?_);replace a:=E a d;refine⟨rfl,_,GI qd (by simp) rfl rfl (by k_ne) rfl H.f_acquire (x_acquire_n L) (x_acquire_b L) (x_acquire_x L) (x_acquire_f L) (by simp[dW,stA]),30,dG ?_⟩
  walk_nrm;u_c N E a
  iterate 2 u_c D E a
  u_reg E a
  iterate 8 u_op E a
  iterate 2 u_skip E a
  u_op E a;u_c N E a;u_cond ai E a;u_c kD E a;u_c o9 E a;u_leave0 H.f_wait E a
  grind[Goes.stop]
 ·
  replace b:WgAt L.tWg Wg l 4294967296 0:=by simpa[KK] using b
  refine⟨_,Ki (v:=4294967296) rfl rfl (by k_ne) rfl H.f_loadU64 (x_loadU64_n L) (x_loadU64_b L) (x_loadU64_x L) cK (x_loadU64_f L) rfl b.cellSt,λu=>absurd u (by omega),λ_=>⟨70,dG ?_⟩⟩
  walk_nrm;u_op E a;u_c N E a;u_c o9 E a;u_leave1 H.f_uLoad E a;u_op E a;u_c N E a;u_c D E a;u_reg E a
  iterate 4 u_op E a
  u_c N E a;u_c D E a;u_reg E a
  iterate 4 u_op E a
  u_c N E a
  iterate 2 u_c D E a
  u_reg E a
  iterate 2 u_op E a
  u_c N E a;u_cond ai E a;u_c kD E a;u_c D E a;u_reg E a
  iterate 6 u_op E a
  u_call H.f_uCas (nm_uCas L) uCasFn E a;u_c D E a;u_reg E a;u_op E a;u_c N E a;u_c D E a;u_reg E a
  iterate 5 u_op E a
  refine I (λj k=>?_);replace a:=E a k;refine⟨rfl,λy x b=>⟨λe=>?_,λe=>?_⟩⟩
  ·subst e;have z:((1:Nat):Int)*KK+1=4294967297:=by decide
   replace b:WgAt L.tWg Wg j 4294967296 0:=by grind
   rw[z];refine⟨_,(stepG_cas_hit (v:=4294967296) (n:=4294967297) rfl rfl (by k_ne) rfl H.f_casU64 (x_casU64_n L) (x_casU64_b L) (x_casU64_x L) cK (x_casU64_f L) rfl rfl rfl b.cellSt (b.thaw 0)).trans (by rfl),70+60,lift ?_⟩
   replace a:jq L.tWg Wg (j.setCell (stA Wg) (Y cK 4294967297)):=⟨_,_,b.setSt _⟩;walk_nrm;u_op E a;u_c N E a;u_c o9 E a;u_leave1 H.f_uCas E a;u_c N E a;u_cond Z E a
   iterate 2 u_c D E a
   u_reg E a
   iterate 4 u_op E a
   u_c N E a;u_cond Z E a;u_reg E a
   iterate 3 u_op E a
   u_conv H.underlying_tPU32 H.room_tU32 (WgLive.cell1 a).choose_spec E a;refine I (λ_ h=>?_);replace a:=E a h;u_in E a;rw[GI .write (by simp) rfl rfl (by k_ne) rfl H.f_raceWrite (x_raceWrite_n L) (x_raceWrite_b L) (x_raceWrite_x L) (x_raceWrite_f L) (ad:=⟨Wg,1,V⟩) (by simp[dW])]
   simp only[eI];refine⟨⟨rfl,λe he=>?_⟩,?_⟩
   ·grind
   walk_nrm;refine dG ?_;u_c N E a;u_c D E a;u_reg E a;u_op E a;u_c N E a
   iterate 2 u_c D E a
   u_reg E a
   iterate 4 u_op E a
   u_skip E a;u_op E a;u_c N E a;u_cond ai E a;u_c kD E a;u_c D E a;u_reg E a
   iterate 4 u_op E a
   refine I (λi c=>?_);replace a:=E a c;refine⟨rfl,rfl,λ⟨st,b⟩=>stepG_semacquire_wait rfl rfl rfl H.f_semacquire (x_semacquire_n L) (x_semacquire_b L) (x_semacquire_x L) (x_semacquire_f L) (by simp[dW,smA]) b.cellSm,λq=>?_⟩
   refine⟨_,(stepG_semacquire (n:=1) rfl rfl (by k_ne) rfl H.f_semacquire (x_semacquire_n L) (x_semacquire_b L) (x_semacquire_x L) (x_semacquire_f L) (by simp[dW,smA]) q.cellSm (by k_ne) (q.thaw 1)).trans (by rfl),40,dG ?_⟩
   replace a:jq L.tWg Wg (i.setCell (smA Wg) (Y .u32 0)):=⟨_,_,q.setSm 0⟩;walk_nrm;u_c N E a;u_c D E a;u_reg E a
   iterate 3 u_op E a
   u_call H.f_uLoad (nm_uLoad L) uLoadFn E a;u_c D E a;u_reg E a;u_op E a;u_c N E a;u_c D E a;u_reg E a
   iterate 3 u_op E a
   refine I (λt n=>?_);replace a:=E a n;refine⟨rfl,λb=>⟨_,Ki (v:=0) rfl rfl (by k_ne) rfl H.f_loadU64 (x_loadU64_n L) (x_loadU64_b L) (x_loadU64_x L) cK (x_loadU64_f L) rfl b.cellSt,40,dG ?_⟩⟩
   walk_nrm;u_op E a;u_c N E a;u_c o9 E a;u_leave1 H.f_uLoad E a
   iterate 2 u_op E a
   u_c N E a;u_c D E a;u_cond Z E a;u_c D E a;u_reg E a;refine I (λp f=>?_);replace a:=E a f;refine⟨rfl,_,OO .enable (by simp) rfl rfl (by k_ne) rfl H.f_enable (x_enable_n L) (x_enable_b L) (x_enable_x L) (x_enable_f L),12,dG ?_⟩
   walk_nrm;u_c N E a;u_reg E a;u_op E a;u_conv H.underlying_tWgP H.room_tWg (WgLive.cell0 a).choose_spec E a;refine I (λo d=>?_);replace a:=E a d;refine⟨rfl,_,GI qd (by simp) rfl rfl (by k_ne) rfl H.f_acquire (x_acquire_n L) (x_acquire_b L) (x_acquire_x L) (x_acquire_f L) (by simp[dW,stA]),30,dG ?_⟩
   walk_nrm;u_c N E a
   iterate 2 u_c D E a
   u_reg E a;u_op E a;u_c N E a;u_cond ai E a;u_c kD E a;u_c o9 E a;u_leave0 H.f_wait E a
   grind[Goes.stop]
  ·refine⟨_,stepG_cas_miss (v:=(y:Int)*KK) (old:=4294967296) (n:=4294967297) rfl rfl (by k_ne) rfl H.f_casU64 (x_casU64_n L) (x_casU64_b L) (x_casU64_x L) cK (x_casU64_f L) rfl rfl rfl b.cellSt (b.thaw 0) (by simp only[KK];omega),30,dG ?_⟩
   walk_nrm;u_op E a;u_c N E a;u_c o9 E a;u_leave1 H.f_uCas E a;u_c N E a;u_cond ai E a;u_c kD E a;u_c stepG_inBlock E a;u_c stepG_inLoop E a;refine I (λi c=>?_);replace a:=E a c;exact⟨_,rfl,by simp,by simp,trivial,a⟩
 ·
  replace b:WgAt L.tWg Wg l 8589934592 0:=by simpa[KK] using b
  refine⟨_,Ki (v:=8589934592) rfl rfl (by k_ne) rfl H.f_loadU64 (x_loadU64_n L) (x_loadU64_b L) (x_loadU64_x L) cK (x_loadU64_f L) rfl b.cellSt,λu=>absurd u (by omega),λ_=>⟨70,dG ?_⟩⟩
  walk_nrm;u_op E a;u_c N E a;u_c o9 E a;u_leave1 H.f_uLoad E a;u_op E a;u_c N E a;u_c D E a;u_reg E a
  iterate 4 u_op E a
  u_c N E a;u_c D E a;u_reg E a
  iterate 2 u_op E a
  try simp only[be2]
  iterate 2 u_op E a
  u_c N E a
  iterate 2 u_c D E a
  u_reg E a
  iterate 2 u_op E a
  u_c N E a;u_cond ai E a;u_c kD E a;u_c D E a;u_reg E a
  iterate 6 u_op E a
  u_call H.f_uCas (nm_uCas L) uCasFn E a;u_c D E a;u_reg E a;u_op E a;u_c N E a;u_c D E a;u_reg E a
  iterate 5 u_op E a
  refine I (λj k=>?_);replace a:=E a k;refine⟨rfl,λy x b=>⟨λe=>?_,λe=>?_⟩⟩
  ·subst e;have z:((2:Nat):Int)*KK+1=8589934593:=by decide
   replace b:WgAt L.tWg Wg j 8589934592 0:=by grind
   rw[z];refine⟨_,(stepG_cas_hit (v:=8589934592) (n:=8589934593) rfl rfl (by k_ne) rfl H.f_casU64 (x_casU64_n L) (x_casU64_b L) (x_casU64_x L) cK (x_casU64_f L) rfl rfl rfl b.cellSt (b.thaw 0)).trans (by rfl),70+60,lift ?_⟩
   replace a:jq L.tWg Wg (j.setCell (stA Wg) (Y cK 8589934593)):=⟨_,_,b.setSt _⟩;walk_nrm;u_op E a;u_c N E a;u_c o9 E a;u_leave1 H.f_uCas E a;u_c N E a;u_cond Z E a
   iterate 2 u_c D E a
   u_reg E a
   iterate 4 u_op E a
   u_c N E a;u_cond Z E a;u_reg E a
   iterate 3 u_op E a
   u_conv H.underlying_tPU32 H.room_tU32 (WgLive.cell1 a).choose_spec E a;refine I (λ_ h=>?_);replace a:=E a h;u_in E a;rw[GI .write (by simp) rfl rfl (by k_ne) rfl H.f_raceWrite (x_raceWrite_n L) (x_raceWrite_b L) (x_raceWrite_x L) (x_raceWrite_f L) (ad:=⟨Wg,1,V⟩) (by simp[dW])]
   simp only[eI];refine⟨⟨rfl,λe he=>?_⟩,?_⟩
   ·grind
   walk_nrm;refine dG ?_;u_c N E a;u_c D E a;u_reg E a;u_op E a;u_c N E a
   iterate 2 u_c D E a
   u_reg E a
   iterate 2 u_op E a
   try simp only[bd2]
   iterate 2 u_op E a
   u_skip E a;u_op E a;u_c N E a;u_cond ai E a;u_c kD E a;u_c D E a;u_reg E a
   iterate 4 u_op E a
   refine I (λi c=>?_);replace a:=E a c;refine⟨rfl,rfl,λ⟨st,b⟩=>stepG_semacquire_wait rfl rfl rfl H.f_semacquire (x_semacquire_n L) (x_semacquire_b L) (x_semacquire_x L) (x_semacquire_f L) (by simp[dW,smA]) b.cellSm,λq=>?_⟩
   refine⟨_,(stepG_semacquire (n:=1) rfl rfl (by k_ne) rfl H.f_semacquire (x_semacquire_n L) (x_semacquire_b L) (x_semacquire_x L) (x_semacquire_f L) (by simp[dW,smA]) q.cellSm (by k_ne) (q.thaw 1)).trans (by rfl),40,dG ?_⟩
   replace a:jq L.tWg Wg (i.setCell (smA Wg) (Y .u32 0)):=⟨_,_,q.setSm 0⟩;walk_nrm;u_c N E a;u_c D E a;u_reg E a
   iterate 3 u_op E a
   u_call H.f_uLoad (nm_uLoad L) uLoadFn E a;u_c D E a;u_reg E a;u_op E a;u_c N E a;u_c D E a;u_reg E a
   iterate 3 u_op E a
   refine I (λt n=>?_);replace a:=E a n;refine⟨rfl,λb=>⟨_,Ki (v:=0) rfl rfl (by k_ne) rfl H.f_loadU64 (x_loadU64_n L) (x_loadU64_b L) (x_loadU64_x L) cK (x_loadU64_f L) rfl b.cellSt,40,dG ?_⟩⟩
   walk_nrm;u_op E a;u_c N E a;u_c o9 E a;u_leave1 H.f_uLoad E a
   iterate 2 u_op E a
   u_c N E a;u_c D E a;u_cond Z E a;u_c D E a;u_reg E a;refine I (λp f=>?_);replace a:=E a f;refine⟨rfl,_,OO .enable (by simp) rfl rfl (by k_ne) rfl H.f_enable (x_enable_n L) (x_enable_b L) (x_enable_x L) (x_enable_f L),12,dG ?_⟩
   walk_nrm;u_c N E a;u_reg E a;u_op E a;u_conv H.underlying_tWgP H.room_tWg (WgLive.cell0 a).choose_spec E a;refine I (λo d=>?_);replace a:=E a d;refine⟨rfl,_,GI qd (by simp) rfl rfl (by k_ne) rfl H.f_acquire (x_acquire_n L) (x_acquire_b L) (x_acquire_x L) (x_acquire_f L) (by simp[dW,stA]),30,dG ?_⟩
   walk_nrm;u_c N E a
   iterate 2 u_c D E a
   u_reg E a;u_op E a;u_c N E a;u_cond ai E a;u_c kD E a;u_c o9 E a;u_leave0 H.f_wait E a
   grind[Goes.stop]
  ·refine⟨_,stepG_cas_miss (v:=(y:Int)*KK) (old:=8589934592) (n:=8589934593) rfl rfl (by k_ne) rfl H.f_casU64 (x_casU64_n L) (x_casU64_b L) (x_casU64_x L) cK (x_casU64_f L) rfl rfl rfl b.cellSt (b.thaw 0) (by simp only[KK];omega),30,dG ?_⟩
   walk_nrm;u_op E a;u_c N E a;u_c o9 E a;u_leave1 H.f_uCas E a;u_c N E a;u_cond ai E a;u_c kD E a;u_c stepG_inBlock E a;u_c stepG_inLoop E a;refine I (λi c=>?_);replace a:=E a c;exact⟨_,rfl,by simp,by simp,trivial,a⟩
end
end Go.Proofs.YtpdbmpbmepkikaaGreatDoor
