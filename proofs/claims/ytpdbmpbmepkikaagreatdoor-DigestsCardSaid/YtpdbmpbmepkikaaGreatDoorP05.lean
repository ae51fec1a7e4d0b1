/- Laws. -/
import Derived.Conc.CompanyDraw
import Derived.WalkKit
import Derived.Test.YtpdbmpbmepkikaaGreatDoorP04
set_option maxRecDepth 100000
set_option maxHeartbeats 400000
set_option linter.all false
open Go.Proofs.Tryz
open And renaming intro->bP
open Array renaming replicate->sH
open Bool renaming true->Z,false->ai
open Classical renaming choose->Fh
open Exists renaming intro->lG
open Go renaming Goroutine->aU,Frame->aX,undef->ak,World->av,Value->ay,Program->bU,stepG->bZ,Oper->dD,Func->dV,Item->eS,Trace->eo,FuncId->fb,runNT->gZ,Event->iW,deafBehind->jD,results->jN,doReturn->nC
open Go.CallKind renaming normal->er
open Go.Code renaming region->dQ,seq->eE
open Go.Conc renaming semEvents->AU,base->aY,Goes->cH,crowd->dw,served->j0,closeEvents->jY
open Go.ConcN renaming upd->bz,WgLive->jq
open Go.ConcR renaming mk->jo
open Go.Departure renaming mixedOrders->mE
open Go.FrameMode renaming returning->fC
open Go.GStep renaming go->bS,after->ud
open Go.GoStatus renaming running->dM
open Go.IntKind renaming i64->aH,u64->cK
open Go.Item renaming inRegion->aP,code->bD
open Go.Loc renaming mark->ia
open Go.Mark renaming acquire->qd
open Go.MemAct renaming ofEvent->gW,touch?->ri
open Go.MemOp renaming ofEvents->iC
open Go.Obj renaming cells->aF
open Go.Proofs.Tryz renaming prog->aC,f53->zf
open Go.Region renaming ready->iO,schedule->lZ
open Go.Region.linearise renaming go->wF
open Go.Result renaming ok->aV
open Go.Stepped renaming next->fQ
open Go.Trace renaming act?->CR
open Go.Value renaming int->Y,agg->bN,chan->cY
open Go.World renaming setChan->CO,setCell->jE,cell?->og,frozen?->wI
open Nat renaming lt_wfRel->Fb
open Option renaming some->U,none->V
open Or renaming inr->aA,inl->ax
open Relation renaming TransGen->sI
namespace Go.Proofs.YtpdbmpbmepkikaaGreatDoor
def acT:=@Nat.eq_zero_or_pos
def Ox:=@Go.Conc.crowd_pick
def Ux:=@Go.Conc.finishComm_recv
def JU:=@Array.empty_append
def Ow:=@Nat.pos_of_ne_zero
def Ov:=@Array.append_empty
def Eh:=@Nat.ne_of_gt
def eI:=@Go.Conc.goes_go
def I:=@Go.Conc.Goes.stop
def fT:=@Go.Conc.goes_oper_k
def nX:=@Go.Conc.listed_nil
def N:=@Go.Conc.stepG_region_end
section
open Go.Conc
open Go.ConcN (sumTo upd sumTo_upd upd_ne upd_same sumTo_congr le_sumTo WSit WgLive RW PayAt Has DWs EvW ShN AsideCell AtR0 RelBy bk_cell)
open Go.ConcR (KK WgAt stA smA wgBlock rd wr mk Bk)
open Go.Conc.Lib (WgLink)
variable{K:fy}{role:Nat->Option fo}{h j:Nat}{sp:Nat->Prop}{md md':Md}{ch R:Nat->Option fE}{cl cl':Nat->eU}{who yp:vi}{D D':Nat->dm}{T T':eo}{gs M:Array aU}{v v':av}{n i:Nat}{g:aU}{sl dF:Option (Nat×Nat)}
structure Bm(K:fy)(role:Nat->Option fo)(D:Nat->dm):Prop where
 outs:∀i j r r',role i=U r->role j=U r'->i≠j->0<i->r'.out≠r.out
 end_:∀i r,role i=U r->0<i->∀O g2 w,r.aM.home O g2 w->r.C∈O∧∃m,cH K.P ai (L O) (DO O) (yo K.P K.L K.Wg r O) m (j0 g2 (recvd r.aM.ok r.aM.z ai)) w
 pG:∀n,V2 n D<=2
theorem nL.cast(C:nL K role sp ch D):Bm K role D:=⟨C.outs,C.end_,C.pG⟩
theorem mh.fR(q:mh role sp ch D)(C:Bm K role D):nL K role sp ch D:=
 ⟨λi r b f c l=>(by
  obtain⟨e,a⟩:=q i r b c
  grind),λi r k b f c e d a=>(by rw[(q i r b c).2 k d] at a;grind),C.outs,C.end_,C.pG⟩
structure vl(md:Md)(cl:Nat->eU)(T:eo)(gs:Array aU)(v:av)(md':Md)(cl':Nat->eU)(T':eo)(M:Array aU)(v':av):Prop where
 size:M.size=gs.size
 left:Left cl (λ_=>False) v v'
 cls:∀b,b<v.heap.size->cl' b=cl b
 md:(∃p,md=.opn p)->md'=md
 ext:∃u,T'=T++u
theorem vl.trans{d}{c}{l}{e}{f}(a:vl md cl T gs v md' cl' T' M v')(b:vl md' cl' T' M v' d c l e f):vl md cl T gs v d c l e f:=
 ⟨b.size.trans a.size,a.left.trans a.cls b.left,λx k=>(b.cls x (cF k a.left.size)).trans (a.cls x k),λm=>(by rw[b.md (by rw[a.md m];grind),a.md m]),by obtain⟨u,rfl⟩:=a.ext;obtain⟨o,rfl⟩:=b.ext;grind⟩
theorem jQ.passed(G:jQ role h md ch cl D T gs v md' R cl' D' T' M v'):vl md cl T gs v md' cl' T' M v':=⟨G.size,G.left,G.cls,G.oX,G.ext⟩
theorem Left.sub{sp'}(L:Left cl sp v v')(hs:∀j,sp' j->sp j):Left cl sp' v v':=⟨L.size,λb e a=>L.block b e (a.imp id λx=>x.imp id λ⟨x,d,c⟩=>⟨x,hs x d,c⟩),L.os,L.tape,L.out⟩
theorem Inv.apX(I:Inv K role sp md ch cl who D T gs v)(F:sp i)(p)(N:K.live=Z)(Q:7<=(D i).stage)(o:∀j r,j≠i->role j=U r->r.aM.c≠p.aM.c):Inv K (bz role i (U p)) sp md ch cl who D T gs v:=by
 have a:∀j,j≠i->bz role i (U p) j=role j:=λj H=>cQ role _ H;refine⟨λj y d A=>?_,I.deaf,I.above,I.tr,I.own,I.chan,λj r b k d=>?_,λj r b z d=>?_,λj f L u s t k l E=>?_,I.wg,I.jR,λj r b C x=>?_,I.norel,λq O m J M=>?_,I.zero,λ_ _ _=>N⟩
 ·rw[a j (λe=>d (by grind))];exact I.gJ j y d A
 ·rw[a j (λe=>d (by grind))] at b;exact I.ny j r b k d
 ·rw[a j (λe=>d (by grind))] at b;exact I.out j r b z d
 ·by_cases w:j=i<;>by_cases B:f=i
  ·grind
  ·grind[upd_same]
  ·grind[upd_same]
  ·rw[a j w] at s;rw[a f B] at t;exact I.uniq j f L u s t k l E
 ·by_cases e:j=i
  ·grind
  ·rw[a j e] at b;exact I.rel j r b C x
 ·refine(I.qf q O m J M).imp id λP=>?_
  grind[upd_same]
theorem FU{gs}:kU (λ_=>False) gs:=λ_ _ h=>h.elim
theorem Inv.axF{rj:fo}{k p:Nat}{x:ay}(s:role j=U rj):∀(Q:Nat×Nat) (md:Md) (ch:Nat->Option fE) (cl:Nat->eU) (D:Nat->dm) (T:eo) (gs:Array aU) (v:av) (sl:Option (Nat×Nat)),nJ gs.size D=Q->Inv K role (λ_=>False) md ch cl (.pt p) D T gs v->mh role (λ_=>False) ch D->Bm K role D->
  ch rj.aM.c=U ⟨U x,ai,k⟩->SentAt T rj.aM.c k p->(∀i r y,role i=U r->i≠j->ch r.aM.c=U y->y.buf=V)->j<gs.size->(∀p,md=.opn p->p<=2)->
  ∃N md' cl' D' T' M v' dF J,gZ K.P N (dw gs v sl) T=(fQ (dw M v' dF),T')∧cM K role j md' (bz ch rj.aM.c (U ⟨V,ai,k+1⟩)) cl' (.hold j) D' T' M v'∧M[j]? =U (j0 J (recvd rj.aM.ok x Z))∧rj.aM.home (D' j).own J v'∧
   (D' j).stage=9∧(D' j).deaf=0∧mh role (λ_=>False) (bz ch rj.aM.c (U ⟨V,ai,k+1⟩)) D'∧vl md cl T gs v md' cl' T' M v':=by
 intro Q;refine(Prod.lex Fb Fb).wf.induction (C:=λQ=>∀(md:Md) (ch:Nat->Option fE) (cl:Nat->eU) (D:Nat->dm) (T:eo) (gs:Array aU) (v:av) (sl:Option (Nat×Nat)),nJ gs.size D=Q->Inv K role (λ_=>False) md ch cl (.pt p) D T gs v->mh role (λ_=>False) ch D->Bm K role D->
  ch rj.aM.c=U ⟨U x,ai,k⟩->SentAt T rj.aM.c k p->(∀i r y,role i=U r->i≠j->ch r.aM.c=U y->y.buf=V)->j<gs.size->(∀p,md=.opn p->p<=2)->
  ∃N md' cl' D' T' M v' dF J,gZ K.P N (dw gs v sl) T=(fQ (dw M v' dF),T')∧cM K role j md' (bz ch rj.aM.c (U ⟨V,ai,k+1⟩)) cl' (.hold j) D' T' M v'∧M[j]? =U (j0 J (recvd rj.aM.ok x Z))∧rj.aM.home (D' j).own J v'∧
   (D' j).stage=9∧(D' j).deaf=0∧mh role (λ_=>False) (bz ch rj.aM.c (U ⟨V,ai,k+1⟩)) D'∧vl md cl T gs v md' cl' T' M v') Q ?_
 intro Q ih md ch cl D T gs v sl Vd I q C hc A w z hp;have avZ:0<(D j).fuel:=by
  rcases acT (D j).fuel with h0|h0
  ·obtain⟨y,o,hb⟩:=I.ny j rj s (q j rj s id).1 id
   grind
  grind
 have QW:∃a,gs[j]? =U a∧a.status=dM:=by
  refine⟨gs[j],iq z,?_⟩;have Q1:=I.gJ j _ id (iq z);rw[s] at Q1;have h9:=(q j rj s id).1;rcases Q1 with⟨_,_,Vv⟩|⟨h8,_⟩|⟨h7,_⟩|⟨h7,_⟩
  ·rcases Vv.status with⟨h1,_⟩|⟨_,h1⟩
   ·grind
   grind
  ·omega
  ·omega
  grind
 obtain⟨a,haj,Q3⟩:=QW;obtain⟨i,g,d,dF,hi,hg,o⟩:=Ox (P:=K.P) (w:=v) (sl:=sl) (I.awake FU) ⟨j,a,haj,Q3⟩;rcases(I.at d).other (sl:=dF) (q.fR C) FU id hi hg hp with⟨md',R,cl',D',T',M,v',S,C',K4,Vh⟩|⟨r,B,y,hr,h9,X,f,t⟩
 ·obtain⟨ops,l,rfl⟩:=S.run;have L:=(oB.at I (q.fR C) d).trans ((I.at d).later id hi S C' K4 Vh);obtain⟨rfl,q'⟩:=L.calm q;obtain⟨N,uC,kT,D2,T2,uU,v2,gx,J,h1,h2,h3,h4,h5,h6,h7,h8⟩:=ih (nJ M.size D') (by rw[<-Vd,S.size];exact S.lt) md' _ cl' D' _ M v' dF rfl S.inv q' C'.cast hc (A.app _) w (by rw[S.size];grind) (λp KF=>hp p (L.opn p KF))
  refine⟨N+1,uC,kT,D2,T2,uU,v2,gx,J,?_,h2,h3,h4,h5,h6,h7,vl.trans ⟨S.size,L.left,L.cls,L.Gm,_,rfl⟩ h8⟩;simp only[gZ,o,l]
  grind
 ·have Aw:i=j:=by
   by_cases e:i=j
   ·exact e
   ·have:=w i r y hr e f;rcases t with t|⟨_,t,_⟩
    ·exact absurd this t
    ·rw[(q i r hr id).2 y f] at t;cases t
  subst Aw;rw[s] at hr;cases hr;rw[hc] at f;cases f;have F:i<gs.size:=z;obtain⟨we,ir,xV⟩:=I.chan _ _ hc;have EE:=ot we;have awf:(v.at d).heap[rj.aM.c]? =U (.chan 1 #[x] ai (k+1) k ai):=we;have l:=crowd_recv_buf (sl:=dF) hi (X.2.2.2.2.2 (v.at d)) awf (by simp) ((I.at d).Oc FU _)
  rw[Ux,BW,JU] at l;have awi:(#[x]:Array ay).getD 0 ak=x:=rfl;have Q0:(#[x]:Array ay).extract 1 (#[x]:Array ay).size= #[]:=rfl;rw[awi,Q0] at l;have EL:Deaf T i=0:=by rw[I.deaf i F];have Q1:=I.gJ i g id hi;rw[s] at Q1;rcases Q1 with⟨_,h0,_⟩|⟨h8,_⟩|⟨h7,_⟩|⟨h7,_⟩<;>first|exact h0|omega
  have qQ:(D i).deaf=0:=by rw[<-I.deaf i F];exact EL
  have qk:=Y0 i B.frame.fn B.frame.place rj.aM.c k 1;have Q2:∀W∈rL i B.frame.fn B.frame.place rj.aM.c k 1,W.act.low v.heap.size:=λW u=>by simp only[rL,fJ,dh,dJ,dO] at u;rcases u with rfl|rfl<;>exact EE
  have nA:∀W∈rL i B.frame.fn B.frame.place rj.aM.c k 1,W.act≠ .mark (.release (stA K.Wg)):=λW u=>by simp only[rL,fJ,dh,dJ,dO] at u;rcases u with rfl|rfl<;>simp
  have I1:=((I.at d).mute qk Q2 nA).pass (Tr.take I.tr A EL B.frame.fn B.frame.place 1 EE);obtain⟨I2,L2⟩:=(I1.more (sp':=(· =i)) λ_ h=>h.elim).Jr (c:=rj.aM.c) (st':=⟨V,ai,k+1⟩) hc (v':=(v.at d).setChan rj.aM.c 1 #[] ai (k+1) (k+1) ai) rfl (λ_ _ _ _ _ _ _=>⟨rfl,rfl⟩) (λH E m h8 hs _=>by have:=(q H E m id).1;omega)
  have I3:=I2.put (i:=i) F (g':=j0 B (recvd rj.aM.ok x Z)) (x':=D i) (λb hb=>hb) rfl (ax rfl) (λh=>h) (λO=>absurd rfl O) (λh=>h) (λ_ _ _ _ O=>absurd rfl O) (λ_ _ _ O=>absurd rfl O) (λO=>absurd rfl O);rw[uv] at I3;have q3:mh role (λ_=>False) (bz ch rj.aM.c (U ⟨V,ai,k+1⟩)) D:=λH E m hs=>by
   obtain⟨a1,a2⟩:=q H E m hs;refine⟨a1,λy o=>?_⟩;by_cases e:E.aM.c=rj.aM.c
   ·rw[e,cX] at o;cases o;rfl
   ·rw[cQ ch _ e] at o;exact a2 y o
  have q4:mh role (· =i) (bz ch rj.aM.c (U ⟨V,ai,k+1⟩)) D:=λH E m hs=>q3 H E m id;refine⟨1,md,cl,D,_,_,_,dF,B,pO (o.trans l),⟨I3,q4.fR C,λH E QX m Ex f=>?_,hp⟩,jJ F,?_,(q i rj s id).1,qQ,q3,⟨by simp,?_,λ_ _=>rfl,λ_=>rfl,_,rfl⟩⟩
  ·by_cases e:E.aM.c=rj.aM.c
   ·rw[e,cX] at f;cases f;exact⟨rfl,λh=>by cases h⟩
   ·rw[cQ ch _ e] at f;exact⟨w H E QX m Ex f,λh=>by rw[(q H E m id).2 QX f] at h;cases h⟩
  ·refine rj.aM.Jh _ _ (v.at d) _ ⟨λb hb=>?_,by simp[CO]⟩ X.2.2.2.2.1
   have:=(I.own i b hb).1;have kE:rj.aM.c≠b:=λe=>by rw[<-e,ir] at this;cases this
   show(v.heap.setIfInBounds rj.aM.c _)[b]? =_;rw[mz kE];rfl
  ·exact(Left.at cl _ v d).trans (λ_ _=>rfl) (L2.sub λ_ h=>h.elim)
theorem Inv.aaw(I:Inv K role sp md ch cl who D T gs v)(a:sp h)(k:h<gs.size)(rh)(A:K.live=Z)(s:(D h).stage=9)(w:(D h).deaf=0)(f:∀j r,j≠h->role j=U r->r.aM.c≠rh.aM.c){g'}
  (l:qi K.P (h==0) rh.aM n (D h).own g' v) (d:0<n) (p:∃m,ch rh.aM.c=U m):
  Inv K (bz role h (U rh)) (λj=>sp j∧j≠h) md ch cl who (bz D h ⟨9,n,(D h).own,0⟩) T (gs.setIfInBounds h g') v:=by
 refine((I.put (i:=h) k (g':=g') (x':=⟨9,n,(D h).own,0⟩) (λb x=>x) w.symm (ax s.symm) (λB=>by grind) (λd=>absurd a d) (λ_=>s) (λ_ _ _ _ d=>absurd a d) (λ_ _ _ d=>absurd a d) (λd=>absurd a d)).apX a rh A (by grind[upd_same]) f).fewer λj z o=>?_
 have e:=nq λe=>o ⟨z,e⟩;subst e;rw[cX,cX];refine⟨λy t=>?_,λr u _=>?_,λr _ C=>by grind⟩
 ·rw[jJ k] at t;cases t;exact ax ⟨rfl,rfl,l⟩
 ·cases u;obtain⟨m,q⟩:=p;exact⟨m,q,λE=>by grind⟩
theorem Inv.recvs(I:Inv K role sp md ch cl who D T gs v){x}{y}{c}(hs:¬sp x)(p:gs[x]? =U y)(t:∀r,role x=U r->(D x).stage=9->(D x).fuel=0->r.aM.c≠c):offersAt y c ai=[]:=by
 have f:=I.gJ x y hs p;cases l:role x with
 |none=>
  rw[l] at f;exact Oy (λd=>by rcases f.2.2.1.status with z|z<;>rw[z] at d<;>cases d) c ai
 |some r=>
  rw[l] at f;rcases f with⟨o,_,a⟩|⟨_,_,_,_,b⟩|⟨_,_,_,_,b⟩|⟨_,_,_,b⟩
  ·rcases a.status with⟨q,_⟩|⟨_,s⟩
   ·grind[offersAt_of_not_blocked]
   ·rcases a with⟨k,e,_⟩|⟨k,m,e,_⟩|⟨_,u,w,rfl,_⟩
    ·omega
    ·omega
    ·rw[offersAt_parked_recv,if_neg ((t r l) o s)]
  ·have:=o7 (λ_ _ x=>x.1) v (L.refl _ _) b
   grind[offersAt_of_not_blocked]
  ·have:=o7 (λ_ _ x=>x.1) v (nS _) b
   grind[offersAt_of_not_blocked]
  ·exact Oy (λd=>by rcases b.status with z|z<;>rw[z] at d<;>cases d) c ai
structure aBv(K:fy)(aaL:Nat->Option fo)(j:Nat)(rj:fo)(x:ay)(md:Md)(ch:Nat->Option fE)(cl:Nat->eU)(T:eo)(gs:Array aU)(v:av)(md':Md)(cl':Nat->eU)(D':Nat->dm)(T':eo)(M:Array aU)(v':av)(gj:aU)(k:Nat):Prop where
 hold:cM K aaL j md' (bz ch rj.aM.c (U ⟨V,ai,k⟩)) cl' (.hold j) D' T' M v'
 lN:M[j]? =U (j0 gj (recvd rj.aM.ok x Z))
 home:rj.aM.home (D' j).own gj v'
 nine:(D' j).stage=9
 deaf:(D' j).deaf=0
 uD:mh aaL (λ_=>False) (bz ch rj.aM.c (U ⟨V,ai,k⟩)) D'
 passed:vl md cl T gs v md' cl' T' M v'
theorem cM.send(H:cM K role h md ch cl (.hold h) D T gs v)(q:mh role (· =h) ch D)(hl:K.live=Z){a I:aU}{x z:ay}{c:Nat}(ha:gs[h]? =U a)(Vw:a.status=dM)(aea:∀w1,bZ K.P (h==0) a w1=.comm I #[scase c x z] Z .send w1 #[])
  {rj:fo} (E:j≠h) (X:role j=U rj) (hcj:rj.aM.c=c) (aFe:j<gs.size) (rh:fo) (h9:(D h).stage=9) (h0:(D h).deaf=0) (Vv:qi K.P (h==0) rh.aM n (D h).own (j0 I ak) v) (hn:0<n)
  {kh:Nat} (Q3:ch rh.aM.c=U ⟨V,ai,kh⟩) (Wb:rh.aM.c≠c) (ad6:∀i r,i≠h->role i=U r->r.aM.c≠rh.aM.c) (C:Bm K (bz role h (U rh)) D) (sl:Option (Nat×Nat)):
  ∃N md' cl' D' T' M v' dF Q1 k,gZ K.P N (dw gs v sl) T=(fQ (dw M v' dF),T')∧aBv K (bz role h (U rh)) j rj x md ch cl T gs v md' cl' D' T' M v' Q1 k:=by
 obtain⟨N,gS,F,gP,J,T1,QW,Q,d,oS,gx,r1,KC,pX,W,G1,Ht,L1⟩:=H.picked ha Vw sl;obtain⟨rfl,q1⟩:=G1.calm q;have I1:=W.inv.at d;have KR:h<QW.size:=(oZ.1 pX).1;have A:j<QW.size:=by rw[G1.size];grind
 obtain⟨y,hy⟩:∃y,QW[j]? =U y:=⟨_,iq A⟩;have ho:=I1.gJ j y E hy;rw[X] at ho;obtain⟨j9,jsh⟩:=q1 j rj X E;have aeb:qi K.P (h==0) rh.aM n (J h).own (j0 I ak) (Q.at d):=by rw[Ht];refine Vv.rely (L.trans _ _ _ ⟨λb Q0=>?_,L1.size⟩ (L.at _ _ d));obtain⟨e1,Q2⟩:=H.inv.own h b Q0;exact L1.block b Q2 (aA (aA ⟨h,rfl,e1⟩))
 have Pv:(J h).stage=9:=by grind
 have qQ:(J h).deaf=0:=by grind
 have atH:(J j).deaf=0:=by rcases ho with⟨_,e,_⟩|⟨h8,_⟩|⟨h7,_⟩|⟨h7,_⟩<;>first|grind|omega
 have auM:qi K.P (j==0) rj.aM (J j).fuel (J j).own y (Q.at d):=by rcases ho with⟨_,_,e⟩|⟨h8,_⟩|⟨h7,_⟩|⟨h7,_⟩<;>first|grind|omega
 obtain⟨st,gz,aEN⟩:=I1.ny j rj X j9 E;obtain⟨hbn,_⟩:=W.tH j rj st X E gz;have hsn:=jsh st gz;obtain⟨k,rfl⟩:∃k,st=⟨V,ai,k⟩:=by obtain⟨b,s,k⟩:=st;grind
 subst hcj;obtain⟨we,ir,xV⟩:=I1.chan _ _ gz;have EE:=ot we;have aeQ:(Q.at d).heap[rj.aM.c]? =U (.chan 1 #[] ai k k ai):=we;have hdT:Deaf T1 h=0:=by rw[W.inv.deaf h KR];grind
 have awa:Deaf T1 j=0:=by rw[W.inv.deaf j A];grind
 have t:∀i r,role i=U r->(J i).stage=9->i≠j->r.aM.c≠rj.aM.c:=λi r l P Aw e=>Aw (I1.uniq i j r rj l X P j9 e);have p:∀i,i≠h->bz role h (U rh) i=role i:=λi hi=>cQ role _ hi;have ahm:∀D2:Nat->dm,(∀i,(D2 i).stage=(J i).stage)->Bm K (bz role h (U rh)) D2:=λD2 h2=>⟨C.outs,C.end_,λn'=>by have e:V2 n' D2=V2 n' J:=zm λi _ _=>h2 i;rw[e];exact W.fR.pG n'⟩
 have Sl:∀i,(bz J h ⟨9,n,(J h).own,0⟩ i).stage=(J i).stage:=λi=>by
  grind[upd_same,upd_ne]
 have S:∀k' b',mh (bz role h (U rh)) (λ_=>False) (bz F rj.aM.c (U ⟨b',ai,k'⟩)) (bz J h ⟨9,n,(J h).own,0⟩):=λk' b' i r l _=>by
  have tS:∀c' o,(F c'=U o->o.shut=ai)->bz F rj.aM.c (U ⟨b',ai,k'⟩) c'=U o->o.shut=ai:=λc' o h1 h2=>by
   by_cases e:c'=rj.aM.c
   ·rw[e,cX] at h2;cases h2;rfl
   grind[upd_ne]
  rw[Sl];by_cases e:i=h
  ·subst e;rw[cX] at l;cases l;exact⟨Pv,λo f=>tS _ _ (λh1=>by rw[Q3] at h1;cases h1;rfl) f⟩
  ·rw[p i e] at l;obtain⟨a1,a2⟩:=q1 i r l e;exact⟨a1,λo f=>tS _ _ (a2 o) f⟩
 have abt:∀{T2:eo} {uU:Array aU} {v2:av},uU.size=QW.size->Left gP (λ_=>False) (Q.at d) v2->(∃u,T2=T1++u)->vl md cl T gs v gS gP T2 uU v2:=λh1 h2 h3=>
  G1.passed.trans ⟨h1,(Left.at gP _ Q d).trans (λ_ _=>rfl) h2,λ_ _=>rfl,λ_=>rfl,h3⟩
 by_cases hf:(J j).fuel=0
 ·
  rcases auM with⟨k',e,_⟩|⟨k',m,e,_⟩|⟨_,g0,Q1,rfl,kF⟩
  ·omega
  ·omega
  have hp:partners (QW.setIfInBounds h ph) rj.aM.c ai=[(j,0)]:=by
   rw[partners_one (stand_get (i:=h) E hy) λi y' Aw yR=>?_]
   ·rw[offersAt_parked_recv,dn rfl];rfl
   ·rcases getElem?_stand QW h i y' yR with⟨_,rfl⟩|⟨R,Ap⟩
    ·exact offersAt_ph _ _
    ·exact I1.recvs R Ap λr l P _=>t i r l P Aw
  have B:=crowd_send_meets (sl:=gx) pX (aea (Q.at d)) aeQ E hy hp;rw[Ux,finishComm_send,BW,JU] at B;have qk:=acs h j I.frame.fn I.frame.place Q1.frame.fn Q1.frame.place rj.aM.c k 1;have G8:∀op∈metAt h j I.frame.fn I.frame.place Q1.frame.fn Q1.frame.place rj.aM.c k 1,op.act.low Q.heap.size:=λop w=>by simp only[metAt,fJ,dh,dJ,dO] at w;rcases w with rfl|rfl|rfl|rfl<;>exact EE
  have nA:∀op∈metAt h j I.frame.fn I.frame.place Q1.frame.fn Q1.frame.place rj.aM.c k 1,op.act≠ .mark (.release (stA K.Wg)):=λop w=>by simp only[metAt,fJ,dh,dJ,dO] at w;rcases w with rfl|rfl|rfl|rfl<;>simp
  have I2:=(I1.mute qk G8 nA).pass (Tr.give W.inv.tr hdT awa I.frame.fn I.frame.place Q1.frame.fn Q1.frame.place k 1 EE);obtain⟨I3,L3⟩:=(I2.more (sp':=λi=>i=h∨i=j) λ_ h=>ax h).Jr (c:=rj.aM.c) (st':=⟨V,ai,k+1⟩) gz (v':=(Q.at d).setChan rj.aM.c 1 #[] ai (k+1) (k+1) ai) rfl (λ_ _ _ _ _ _ _=>⟨rfl,rfl⟩) (λi r l h8 hs _=>by have:=(q1 i r l λe=>hs (ax e)).1;omega)
  have I4:=I3.put (i:=j) A (g':=j0 Q1 (recvd rj.aM.ok x Z)) (x':=J j) (λb Q0=>Q0) rfl (ax rfl) (λh=>h) (λhn=>absurd (aA rfl) hn) (λh=>h) (λ_ _ _ _ hn=>absurd (aA rfl) hn) (λ_ _ _ hn=>absurd (aA rfl) hn) (λhn=>absurd (aA rfl) hn);rw[uv] at I4;have oa:∀O,(∀b∈O,∃i,gP b=.own i)->L O (Q.at d) ((Q.at d).setChan rj.aM.c 1 #[] ai (k+1) (k+1) ai):=λO hO=>⟨λb Q0=>by
   obtain⟨i,hi⟩:=hO b Q0;have R:rj.aM.c≠b:=λe=>by rw[<-e,ir] at hi;cases hi
   show(Q.heap.setIfInBounds rj.aM.c _)[b]? =_;rw[mz R];rfl,by simp[CO]⟩
  have I5:=I4.aaw (h:=h) (n:=n) (ax rfl) (by simpa using KR) rh hl Pv qQ ad6 (g':=j0 I ak) (aeb.rely (oa _ λb Q0=>⟨h,(W.inv.own h b Q0).1⟩)) hn ⟨⟨V,ai,kh⟩,by rw[cQ F _ Wb];exact Q3⟩
  have I6:=I5.more (sp':=(· =j)) λi hi=>hi.1.resolve_left hi.2;refine⟨N+1,gS,gP,_,_,_,_,gx,Q1,k+1,runNT_then r1 (pO (KC.trans B)),⟨I6,mh.fR (λi r l hs=>S (k+1) V i r l id) (ahm _ Sl),λi r o l hs f=>?_,W.bound⟩,?_,?_,?_,?_,S _ _,abt (by simp) (L3.sub λ_ h=>h.elim) ⟨_,rfl⟩⟩
  ·by_cases e:r.aM.c=rj.aM.c
   ·rw[e,cX] at f;cases f;exact⟨rfl,λh=>by cases h⟩
   ·rw[cQ F _ e] at f;by_cases Q2:i=h
    ·subst Q2;rw[cX] at l;cases l;rw[Q3] at f;cases f;exact⟨rfl,λh=>by cases h⟩
    ·rw[p i Q2] at l;exact W.tH i r o l Q2 f
  ·rw[mz (λe=>E e.symm)];exact jJ A
  ·rw[cQ J _ E];exact rj.aM.Jh _ _ _ _ (oa _ λb Q0=>⟨j,(W.inv.own j b Q0).1⟩) kF.2.2.2.2.1
  ·rw[cQ J _ E];exact j9
  ·rw[cQ J _ E];exact atH
 ·
  have hp:partners (QW.setIfInBounds h ph) rj.aM.c ai=[]:=partners_nil λi y' yR=>by
   rcases getElem?_stand QW h i y' yR with⟨_,rfl⟩|⟨R,Ap⟩
   ·exact offersAt_ph _ _
   ·refine I1.recvs R Ap λr l P KQ=>?_;by_cases e:i=j
    ·subst e;exact absurd KQ hf
    ·exact t i r l P e
  have B:=crowd_send_room (sl:=gx) pX (aea (Q.at d)) aeQ (by simp) hp
  rw[finishComm_send,BW,JU] at B;have qk:=aaq h I.frame.fn I.frame.place rj.aM.c k;have G8:∀op∈wV h I.frame.fn I.frame.place rj.aM.c k,op.act.low Q.heap.size:=λop w=>by simp only[wV,fJ,dh,dJ,dO] at w;rcases w with rfl|rfl<;>exact EE
  have nA:∀op∈wV h I.frame.fn I.frame.place rj.aM.c k,op.act≠ .mark (.release (stA K.Wg)):=λop w=>by simp only[wV,fJ,dh,dJ,dO] at w;rcases w with rfl|rfl<;>simp
  obtain⟨t1,t2⟩:=Tr.put W.inv.tr hdT I.frame.fn I.frame.place k EE;have I2:=(I1.mute qk G8 nA).pass t1;obtain⟨I3,L3⟩:=I2.Jr (c:=rj.aM.c) (st':=⟨U x,ai,k⟩) gz (v':=(Q.at d).setChan rj.aM.c 1 #[x] ai (k+1) k ai) rfl (λi r l P hs e KQ=>by
    by_cases Q2:i=j
    ·subst Q2;exact absurd KQ hf
    ·exact absurd e (t i r l P Q2)) (λi r l h8 hs _=>by have:=(q1 i r l hs).1;omega)
  have oa:∀O,(∀b∈O,∃i,gP b=.own i)->L O (Q.at d) ((Q.at d).setChan rj.aM.c 1 #[x] ai (k+1) k ai):=λO hO=>⟨λb Q0=>by
   obtain⟨i,hi⟩:=hO b Q0;have R:rj.aM.c≠b:=λe=>by rw[<-e,ir] at hi;cases hi
   show(Q.heap.setIfInBounds rj.aM.c _)[b]? =_;rw[mz R];rfl,by simp[CO]⟩
  have I5:=I3.aaw (h:=h) (n:=n) rfl KR rh hl Pv qQ ad6 (g':=j0 I ak) (aeb.rely (oa _ λb Q0=>⟨h,(W.inv.own h b Q0).1⟩)) hn ⟨⟨V,ai,kh⟩,by rw[cQ F _ Wb];exact Q3⟩
  have I6:=I5.fewer (sp:=λ_=>False) λi hi=>absurd hi.1 hi.2;obtain⟨N2,uC,kT,D2,T2,uU,v2,Bx,Q1,f1,f2,f3,f4,f5,f6,f7,f8⟩:=Inv.axF (j:=j) (rj:=rj) (k:=k) (x:=x) (by rw[p j E];exact X) _ _ _ _ _ _ _ _ gx rfl I6 (S k (U x)) (ahm _ Sl) (by rw[cX]) t2 (λi r o l Aw f=>by
    by_cases Q2:i=h
    ·subst Q2;rw[cX] at l;cases l;rw[cQ F _ Wb,Q3] at f;cases f;rfl
    ·rw[p i Q2] at l;have e:=t i r l (q1 i r l Q2).1 Aw;rw[cQ F _ e] at f;exact(W.tH i r o l Q2 f).1) (by simpa using A) W.bound
  have hup:bz (bz F rj.aM.c (U ⟨U x,ai,k⟩)) rj.aM.c (U ⟨V,ai,k+1⟩)=bz F rj.aM.c (U ⟨V,ai,k+1⟩):=funext λb=>by unfold bz;split<;>rfl
  rw[hup] at f2 f7;exact⟨N+(1+N2),uC,kT,D2,T2,uU,v2,Bx,Q1,k+1,runNT_then r1 (runNT_then (pO (KC.trans B)) f1),f2,f3,f4,f5,f6,f7,(abt (by simp) (L3.sub λ_ h=>h.elim) ⟨_,rfl⟩).trans f8⟩
theorem aan(h)(fn)(a)(c):iC h fn a (jY c)=mS h fn a c:=by simp[iC,jY,mS,gW]
theorem ai2{P}{a a'}(c:mayWake P a=Z)(b:a'.status=dM)(w)(y):woken P a a' w y=y.again w:=by
 unfold woken
 grind
theorem nK.ajk{P}{c}{q j}{r}{x}{y}{w w1}(h:nK P c q (U r) j x y w)(C:L x.own w w1)(J:jq c.tWg q w->jq c.tWg q w1){cap a b}{buf}{tm}(E:w1.heap[r.aM.c]? =U (.chan cap buf Z a b tm)):
  ∃l,l.stage=x.stage∧l.own=x.own∧l.deaf=x.deaf∧nK P c q (r) j l (y.again w1) w1∧(l.stage=9->0<l.fuel):=by
 rcases(h.rely C λ_=>J) with⟨t,f,s⟩|⟨B,f,p,o,d⟩|⟨F,f,p,o,d⟩|⟨A,p,o,s⟩
 ·rcases s with⟨k,e,d⟩|⟨k,m,e,H,d⟩|⟨e,M,I,rfl,u⟩
  ·rw[xz _ (ax (o7 (λ_ _ x=>x.choose_spec.1) w1 (L.refl _ _) d))];exact⟨x,rfl,rfl,rfl,ax ⟨t,f,ax ⟨k,e,d⟩⟩,λ_=>by omega⟩
  ·rw[xz _ (ax (o7 (λ_ _ x=>x.1) w1 (L.refl _ _) d))];exact⟨x,rfl,rfl,rfl,ax ⟨t,f,aA (ax ⟨k,m,e,H,d⟩)⟩,λ_=>by omega⟩
  ·rw[again_recv_closed E];refine⟨⟨9,1,x.own,0⟩,t.symm,rfl,f.symm,ax ⟨rfl,rfl,ax ⟨0,rfl,?_⟩⟩,λ_=>Nat.one_pos⟩;exact λN z=>⟨I,(u.rely z).tries _ _⟩
 ·rw[xz _ (ax (o7 (λ_ _ x=>x.1) w1 (L.refl _ _) d))];exact⟨x,rfl,rfl,rfl,aA (ax ⟨B,f,p,o,d⟩),λh=>by omega⟩
 ·rw[xz _ (ax (o7 (λ_ _ x=>x.1) w1 (nS _) d))];exact⟨x,rfl,rfl,rfl,aA (aA (ax ⟨F,f,p,o,d⟩)),λh=>by omega⟩
 ·rw[xz _ s.status];exact⟨x,rfl,rfl,rfl,aA (aA (aA ⟨A,p,o,s⟩)),λh=>by omega⟩
theorem aap{t:Type}(a:Array t)(i)(x)(h:a[i]? =U x):a.setIfInBounds i x=a:=by
 grind
theorem cM.closes(H:cM K role h md ch cl (.hold h) D T gs v)(hl:K.live=Z){a g':aU}{c k:Nat}(ha:gs[h]? =U a)(S:a.status=dM)(Vj:mayWake K.P a=Z)(VU:g'.status=dM)
  (z:∀w1,L (D h).own v w1->w1.heap[c]? =U (.chan 1 #[] ai k k ai)->jq K.L.tWg K.Wg w1->bZ K.P (h==0) a w1=bS g' (w1.setChan c 1 #[] Z k k ai) (jY c)) (hc:ch c=U ⟨V,ai,k⟩)
  {rj:fo} (t:j≠h) (x:role j=U rj) (A:rj.aM.c=c) (P:j<gs.size) (huq:∀i r,role i=U r->i≠h->r.aM.c=c->i=j) (EB:∀i r,role i=U r->i≠h->r.out≠c) (h0:(D h).deaf=0) (h7:h≠0->7<=(D h).stage) (oa:role h=V->h=0) (sl:Option (Nat×Nat)):
  ∃N gS o gP l M f m dF fn pl w Q,gZ K.P N (dw gs v sl) T=(fQ (dw w (m.setChan c 1 #[] Z k k ai) dF),M++mS h fn pl c)∧
   cM K role h gS o gP (.hold h) l M f m∧jQ role h md ch cl D T gs v gS o gP l M f m∧l h=D h∧Left cl (· =h) v m∧o c=U ⟨V,ai,k⟩∧
   Inv K role (· =h) gS (bz o c (U ⟨V,Z,k⟩)) gP (.hold h) Q (M++mS h fn pl c) w (m.setChan c 1 #[] Z k k ai)∧w[h]? =U g'∧w.size=f.size∧Q h=l h∧(∀i,(Q i).stage=(l i).stage∧(Q i).own=(l i).own∧(Q i).deaf=(l i).deaf)∧
   ((l j).stage=9->0<(Q j).fuel)∧Left gP (· =h) m (m.setChan c 1 #[] Z k k ai):=by
 obtain⟨N,gS,o,gP,l,M,f,m,d,oS,gx,r1,KC,pX,H1,G1,E,L1⟩:=H.picked ha S sl;have Hd:=H1.at d;have O:=Hd.inv;have KR:h<f.size:=by grind
 have B:j<f.size:=by rw[G1.size];exact P
 obtain⟨y,hy⟩:∃y,f[j]? =U y:=⟨_,iq B⟩;have ho:=O.gJ j y t hy;rw[x] at ho;have C:o c=U ⟨V,ai,k⟩:=by rw[<-A,G1.eT j rj x t,A];exact hc
 obtain⟨we,ir,xV⟩:=O.chan _ _ C;have Y:=ot we;have X:(m.at d).heap[c]? =U (.chan 1 #[] ai k k ai):=we;have I:=L1.trans G1.cls (Left.at gP _ m d);have R:L (D h).own v (m.at d):=⟨λb F=>by obtain⟨e1,e2⟩:=H.inv.own h b F;exact I.block b e2 (aA (aA ⟨h,rfl,e1⟩)),I.size⟩
 have hgo:=z (m.at d) R X (O.live hl)
 let v2:=(m.at d).setChan c 1 #[] Z k k ai
 have W:c<v2:=by simpa[v2,CO] using Y
 obtain⟨I2,L2⟩:=(O.more (sp':=λi=>i=h∨i=j) λ_ h=>ax h).Jr (c:=c) (st':=⟨V,Z,k⟩) C (v':=v2) rfl (λi r u h9 hs e _=>absurd (aA (huq i r u (λe=>hs (ax e)) e)) hs) (λi r u h8 hs e=>absurd e (EB i r u λe=>hs (ax e)));obtain⟨I3,_⟩:=I2.go_step (v':=v2) (g':=g') (es:=jY c) (x':=l h) (md':=gS) (cl':=gP) pX (aW _) (λ_ _ _=>rfl) (λ_ _=>rfl) (λb F=>I2.own h b F) (ahe W ir) ahd (by rw[E,h0];exact ahf 0)
  (λu h0=>absurd (oa u) h0) (λq=>absurd (ax rfl) q) (λh9=>⟨h9,λq=>absurd (ax rfl) q⟩) (λ_ q=>absurd (ax rfl) q) (λhl=>by obtain⟨st,sm,hw,mB⟩:=I2.wg hl;exact⟨st,sm,hw,by rw[uv];exact mB⟩) (λr u hh h6=>by have:=h7 (by omega);rw[E] at h6;omega)
 rw[uv,aan] at I3;have J:((f.map (woken K.P a g' v2)).setIfInBounds h g')[h]? =g':=jJ (by simpa using KR)
 have hgj:((f.map (woken K.P a g' v2)).setIfInBounds h g')[j]? =(y.again v2):=by rw[mz (λe=>t e.symm),pS,hy,ey,ai2 Vj VU]
 have p:L (l j).own (m.at d) v2:=⟨λb F=>by
  have:=(O.own j b F).1;have kE:c≠b:=λe=>by rw[<-e,ir] at this;cases this
  show(m.heap.setIfInBounds c _)[b]? =_;rw[mz kE];rfl,by simp[v2,CO]⟩
 obtain⟨x2,e1,e2,e3,ho2,ael⟩:=ho.ajk p (λ_=>I2.live hl) (cap:=1) (a:=k) (b:=k) (buf:= #[]) (tm:=ai) (by rw[A];show(m.heap.setIfInBounds c _)[c]? =_;exact jJ Y)
 have I4:=I3.put (i:=j) (by grind) (g':=y.again v2) (x':=x2) (λb F=>by rw[<-e2];exact F) e3 (ax e1) (λh=>by grind) (λq=>absurd (aA rfl) q) (λh=>by grind) (λ_ _ _ _ q=>absurd (aA rfl) q) (λ_ _ _ q=>absurd (aA rfl) q) (λq=>absurd (aA rfl) q)
 rw[aap _ _ _ hgj] at I4;have I5:=I4.fewer (sp:=(· =h)) λi hi hns=>by
  have e:i=j:=by grind
  subst e;rw[cX];refine⟨λy' yR=>?_,λr u h9=>?_,λr u h8=>?_⟩
  ·grind
  ·grind[upd_same]
  ·obtain⟨k',VR⟩:=O.out i r u (by grind) t
   grind[upd_ne]
 have Cc:∀i,(bz l j x2 i).stage=(l i).stage∧(bz l j x2 i).own=(l i).own∧(bz l j x2 i).deaf=(l i).deaf:=λi=>by
  grind[upd_same,upd_ne]
 exact⟨N+1,gS,o,gP,l,M,f,m.at d,gx,_,_,_,_,by rw[<-aan];grind[runNT_then,pO,runT_crowd_go],Hd,G1.trans (jQ.at _ _ _ _ _ _ _ _ _ d),E,I,C,
  I5,J,by simp,cQ l _ (λe=>t e.symm),Cc,λh9=>by grind[upd_same],L2.sub λ_ h=>ax h⟩
structure Found(K:fy)(role:Nat->Option fo)(rm:fo)(md:Md)(ch:Nat->Option fE)(cl:Nat->eU)(D:Nat->dm)(T:eo)(gs:Array aU)(v:av)(md':Md)(R:Nat->Option fE)(cl':Nat->eU)(D':Nat->dm)(T':eo)(M:Array aU)(v':av)(g0:aU):Prop where
 hold:cM K role 0 md' R cl' (.hold 0) D' T' M v'
 lN:M[0]? =U (j0 g0 (recvd rm.aM.ok rm.aM.z ai))
 home:rm.aM.home (D' 0).own g0 v'
 nine:(D' 0).stage=9
 deaf:(D' 0).deaf=0
 eT:∀j r,role j=U r->R r.aM.c=ch r.aM.c
 outs:∀j r,role j=U r->(D' j).stage=9->R r.out=ch r.out
 k9:∀j r st,role j=U r->ch r.aM.c=U st->st.shut=ai->(D j).stage=9->(D' j).stage=9
 ij:∀j,(D' j).stage=9->(D j).stage=9
 passed:vl md cl T gs v md' cl' T' M v'
theorem Inv.found{rm:fo}{k p:Nat}(A:role 0=U rm):∀(J:Nat×Nat) (md:Md) (ch:Nat->Option fE) (cl:Nat->eU) (D:Nat->dm) (T:eo) (gs:Array aU) (v:av) (sl:Option (Nat×Nat)),nJ gs.size D=J->Inv K role (λ_=>False) md ch cl (.pt p) D T gs v->nL K role (λ_=>False) ch D->
  ch rm.aM.c=U ⟨V,Z,k⟩->Db T rm.aM.c p->(∀i r o,role i=U r->i≠0->ch r.aM.c=U o->o.buf=V)->(D 0).stage=9->(∀p,md=.opn p->p<=2)->
  ∃N md' R cl' D' T' M v' dF Q1,gZ K.P N (dw gs v sl) T=(fQ (dw M v' dF),T')∧Found K role rm md ch cl D T gs v md' R cl' D' T' M v' Q1:=by
 intro J;refine(Prod.lex Fb Fb).wf.induction (C:=λJ=>∀(md:Md) (ch:Nat->Option fE) (cl:Nat->eU) (D:Nat->dm) (T:eo) (gs:Array aU) (v:av) (sl:Option (Nat×Nat)),nJ gs.size D=J->Inv K role (λ_=>False) md ch cl (.pt p) D T gs v->nL K role (λ_=>False) ch D->
  ch rm.aM.c=U ⟨V,Z,k⟩->Db T rm.aM.c p->(∀i r o,role i=U r->i≠0->ch r.aM.c=U o->o.buf=V)->(D 0).stage=9->(∀p,md=.opn p->p<=2)->
  ∃N md' R cl' D' T' M v' dF Q1,gZ K.P N (dw gs v sl) T=(fQ (dw M v' dF),T')∧Found K role rm md ch cl D T gs v md' R cl' D' T' M v' Q1) J ?_
 intro J ih md ch cl D T gs v sl Vd I C hc w y h9 hp;have avZ:0<(D 0).fuel:=by
  rcases acT (D 0).fuel with E|E
  ·obtain⟨o,f,hb⟩:=I.ny 0 rm A h9 id
   grind
  grind
 have q:0<gs.size:=I.zero;have ho:=I.gJ 0 _ id (iq q);rw[A] at ho;have O:(gs[0]'q).status=dM:=by
  rcases ho with⟨_,_,Q0⟩|⟨h8,_⟩|⟨h7,_⟩|⟨h7,_⟩
  ·rcases Q0.status with⟨h1,_⟩|⟨_,h1⟩
   ·grind
   grind
  ·omega
  ·omega
  grind
 have Q:(D 0).deaf=0:=by rcases ho with⟨_,e,_⟩|⟨h8,_⟩|⟨h7,_⟩|⟨h7,_⟩<;>first|grind|omega
 obtain⟨i,g,d,dF,hi,hg,f⟩:=Ox (P:=K.P) (w:=v) (sl:=sl) (I.awake FU) ⟨0,_,iq q,O⟩;rcases(I.at d).other (sl:=dF) C FU id hi hg hp with⟨md',R,cl',D',T',M,v',S,C',K4,Vh⟩|⟨r,B,o,l,hi9,z,x,t⟩
 ·obtain⟨ops,m,rfl⟩:=S.run;have L:=(oB.at I C d).trans ((I.at d).later id hi S C' K4 Vh);obtain⟨N,uC,pC,kT,D2,T2,uU,v2,gx,Q1,f1,F⟩:=ih (nJ M.size D') (by rw[<-Vd,S.size];exact S.lt) md' R cl' D' _ M v' dF rfl S.inv C' ((L.eT 0 rm A id).trans hc) (w.app _) (λi r o l E f=>y i r o l E (by rw[<-L.eT i r l id];exact f)) (L.k9 0 rm _ A id hc (aA rfl) h9) (λp KF=>hp p (L.opn p KF))
  refine⟨N+1,uC,pC,kT,D2,T2,uU,v2,gx,Q1,?_,F.hold,F.lN,F.home,F.nine,F.deaf,λj r l=>(F.eT j r l).trans (L.eT j r l id),λj r l s=>(F.outs j r l s).trans (L.outs j r l (F.ij j s)),λj r o l f hs s=>F.k9 j r o l ((L.eT j r l id).trans f) hs (L.k9 j r o l id f (ax hs) s),
   λj hj=>L.ij j (F.ij j hj),vl.trans ⟨S.size,L.left,L.cls,L.Gm,_,rfl⟩ F.passed⟩
  simp only[gZ,f,m]
  grind
 ·have KQ:i=0:=by
   by_cases e:i=0
   ·exact e
   ·have:=y i r o l e x;rcases t with t|⟨_,_,t⟩
    ·exact absurd this t
    ·exact t
  subst KQ;rw[A] at l;cases l;rw[hc] at x;cases x;obtain⟨c,ir,xV⟩:=I.chan _ _ hc;have W:=ot c;have X:(v.at d).heap[rm.aM.c]? =U (.chan 1 #[] Z k k ai):=c;have m:=crowd_recv_closed (sl:=dF) hi (z.2.2.2.2.2 (v.at d)) X ((I.at d).Oc FU _);rw[Ux,BW,JU] at m;have EL:Deaf T 0=0:=by rw[I.deaf 0 q];exact Q
  have qk:=WJ 0 B.frame.fn B.frame.place rm.aM.c;have Q2:∀a∈tY 0 B.frame.fn B.frame.place rm.aM.c,a.act.low v.heap.size:=λa u=>by simp only[tY,fJ,dh,dJ,dO] at u;subst u;exact W
  have nA:∀a∈tY 0 B.frame.fn B.frame.place rm.aM.c,a.act≠ .mark (.release (stA K.Wg)):=λa u=>by simp only[tY,fJ,dh,dJ,dO] at u;subst u;simp
  have I1:=((I.at d).mute qk Q2 nA).pass (Tr.found I.tr w EL B.frame.fn B.frame.place W);have I3:=(I1.more (sp':=(· =0)) λ_ h=>h.elim).put (i:=0) q (g':=j0 B (recvd rm.aM.ok rm.aM.z ai)) (x':=D 0) (λb hb=>hb) rfl (ax rfl) (λh=>h) (λH=>absurd rfl H) (λh=>h) (λ_ _ _ _ H=>absurd rfl H) (λ_ _ _ H=>absurd rfl H) (λH=>absurd rfl H);rw[uv] at I3;refine⟨1,md,ch,cl,D,_,_,_,dF,B,pO (f.trans m),⟨I3,⟨λi r l E hs hx j r' hr' Ex=>C.a i r l E id hx j r' hr' id,λi r o l E hs s f tS=>C.b i r o l E id s f tS,C.outs,C.end_,C.pG⟩,λj r o l hj f=>⟨y j r o l hj f,λ_=>Ow hj⟩,hp⟩,jJ q,z.2.2.2.2.1,h9,Q,λ_ _ _=>rfl,λ_ _ _ _=>rfl,λ_ _ _ _ _ _ h=>h,λ_ h=>h,
   ⟨by simp,Left.at cl _ v d,λ_ _=>rfl,λ_=>rfl,_,rfl⟩⟩
theorem cM.aow(H:cM K role h md ch cl (.hold h) D T gs v)(q:mh role (· =h) ch D)(hl:K.live=Z){a:aU}{r rm:fo}{k:Nat}(hr:role h=U r)(I:role 0=U rm)(hh:h≠0)(kF:yo K.P K.L K.Wg r (D h).own a v)(ha:gs[h]? =U a)(J:rm.aM.c=r.out)(hc:ch r.out=U ⟨V,ai,k⟩)
  (h9:(D h).stage=9) (h0:(D h).deaf=0) (hC:r.C∈(D h).own) (C:∀i l,role i=U l->i≠h->l.aM.c=r.out->i=0) (EB:∀i l,role i=U l->i≠h->l.out≠r.out) (hz:0<gs.size) {kr:Nat} (hcr:ch r.aM.c=U ⟨V,ai,kr⟩) (sl:Option (Nat×Nat)):
  ∃N md' R cl' D' T' M v' dF Q2,gZ K.P N (dw gs v sl) T=(fQ (dw M v' dF),T')∧Found K role rm md (bz ch r.out (U ⟨V,Z,k⟩)) cl (bz D h ⟨7,0,[],0⟩) T gs v md' R cl' D' T' M v' Q2:=by
 obtain⟨har,Pj,g',VU,jl⟩:=kF;have c:(h==0)=ai:=by grind
 obtain⟨N,gS,z,gP,D1,T1,sD,v1,oS,fn,pl,uU,w,r1,x,G1,B,L1,sx,I2,E,fP,PS,S,ael,L2⟩:=H.closes (j:=0) (rj:=rm) hl ha har Pj VU (λw1 fK xN Ev=>by grind) hc (λe=>hh e.symm) I J hz C EB h0 (λ_=>by omega) (λe=>by grind) sl
 obtain⟨rfl,W⟩:=G1.calm q;have Q0:L (D h).own v v1:=⟨λb c=>by obtain⟨e1,e2⟩:=H.inv.own h b c;exact L1.block b e2 (aA (aA ⟨h,rfl,e1⟩)),L1.size⟩
 obtain⟨P,ir,xV⟩:=x.inv.chan _ _ sx;obtain⟨_,m,hW⟩:=jl v1 k Q0 P (x.inv.live hl);have pq:h<sD.size:=by grind
 have Q:h<uU.size:=(oZ.1 E).1;have Pv:(w h).stage=9:=by grind
 have hdd:(w h).deaf=0:=by grind
 obtain⟨t1,t2⟩:=Tr.shut x.inv.tr (by rw[x.inv.deaf h pq,B];grind) fn pl (ot P) ir
 have I3:=(I2.pass (yp:=.pt (T1.size+1)) (by simpa[CO] using t1)).put (i:=h) Q (g':=g') (x':=⟨7,m,(w h).own,0⟩) (λb c=>c) hdd.symm (aA ⟨by simp,by omega⟩) (λh=>by grind) (λhn=>absurd rfl hn) (λh=>by grind) (λ_ _ _ h=>by grind) (λ_ _ h=>by grind) (λ_ h=>by grind)
 rw[aap _ _ _ E] at I3;have I4:=I3.fewer (sp:=λ_=>False) λi hi hns=>by
  subst hi;rw[cX];refine⟨λy hy=>?_,λ_ _ h=>by grind,λ_ _ h=>by simp at h⟩
  rw[E] at hy;cases hy;rw[hr];exact aA (aA (ax ⟨rfl,rfl,by omega,by rw[PS,B];exact hC,hW⟩))
 have t:∀i,i≠h->(bz w h ⟨7,m,(w h).own,0⟩ i).stage=(D1 i).stage:=λi hi=>by rw[cQ w _ hi];exact(S i).1
 have C4:nL K role (λ_=>False) (bz z r.out (U ⟨V,Z,k⟩)) (bz w h ⟨7,m,(w h).own,0⟩):=by
  have A:∀i l,role i=U l->0<i->(bz w h ⟨7,m,(w h).own,0⟩ i).stage=9->∀p,bz z r.out (U ⟨V,Z,k⟩) l.aM.c=U p->p.shut=ai:=λi l f s o p d=>by
   have Q1:i≠h:=λe=>by subst e;rw[cX] at o;simp at o
   have kE:l.aM.c≠r.out:=λe=>by have:=C i l f Q1 e;omega
   rw[cQ z _ kE] at d;exact(W i l f Q1).2 p d
  refine⟨λi l f s _ hx=>?_,λi l p f s _ o d u=>?_,x.fR.outs,x.fR.end_,λn'=>?_⟩
  ·exfalso;rcases hx with h8|⟨o,p,d,u⟩
   ·by_cases e:i=h
    ·subst e;rw[cX] at h8;simp at h8
    ·rw[t i e] at h8;have:=(W i l f e).1;omega
   ·rw[A i l f s o p d] at u;cases u
  ·rw[A i l f s o p d] at u;cases u
  ·refine bq (Da λi=>?_) (x.fR.pG n');by_cases e:i=h
   ·subst e;rw[cX,B,h9];simp
   ·rw[t i e];exact aW _
 obtain⟨N2,uC,pC,kT,D3,T2,PY,v3,Bx,Q2,f1,F⟩:=Inv.found I _ _ _ _ _ _ _ _ oS rfl I4 C4 (by rw[J,cX]) (by rw[J];exact t2) (λi l p f s d=>by
   by_cases e:l.aM.c=r.out
   ·rw[e,cX] at d;cases d;rfl
   ·rw[cQ z _ e] at d;by_cases eh:i=h
    ·subst eh;rw[hr] at f;cases f;rw[hcr] at d;cases d;rfl
    ·exact(x.tH i l p f eh d).1) (by
   rw[t 0 (λe=>hh e.symm)];exact(W 0 rm I λe=>hh e.symm).1) x.bound
 refine⟨N+N2,uC,pC,kT,D3,T2,PY,v3,Bx,Q2,runNT_then r1 f1,F.hold,F.lN,F.home,F.nine,F.deaf,F.eT,F.outs,λj l p f d hs O=>F.k9 j l p f d hs ?_,λj hj=>?_,(G1.passed.trans ⟨fP,L2.sub λ_ h=>h.elim,λ_ _=>rfl,λ_=>rfl,_,rfl⟩).trans F.passed⟩
 ·by_cases e:j=h
  ·subst e;rw[cX] at O;simp at O
  ·rw[t j e];exact(W j l f e).1
 ·have X:=F.ij j hj;by_cases e:j=h
  ·subst e;rw[cX] at X;simp at X
  ·rw[t j e] at X;rw[cQ D _ e];exact G1.ij j e X
theorem cM.azm(H:cM K role 0 md ch cl (.hold 0) D T gs v)(hl:K.live=Z){a g'}{r}{k}(ha:gs[0]? =U a)(z:a.status=dM)(I:mayWake K.P a=Z)(Q1:g'.status=dM)
  (w:∀F,F.heap[r.aM.c]? =U (.chan 1 #[] ai k k ai)->bZ K.P Z a F=bS g' (F.setChan r.aM.c 1 #[] Z k k ai) (jY r.aM.c)) (hc:ch r.aM.c=U ⟨V,ai,k⟩) (Q:j≠0) (u:role j=U r) (C:j<gs.size)
  (E:∀i d,role i=U d->i≠0->d.aM.c=r.aM.c->i=j) (t:∀i d,role i=U d->i≠0->d.out≠r.aM.c) (Q2:∀i i' r d,role i=U r->role i'=U d->i≠0->i'≠0->d.aM.c≠r.out)
  (A:(D j).stage=9->∃k,ch r.out=U ⟨V,ai,k⟩) (h0:(D 0).deaf=0) (sl):
  ∃N md' R cl' D' T' M v' dF,gZ K.P N (dw gs v sl) T=(fQ (dw M v' dF),T')∧cM K role 0 md' R cl' (.hold 0) D' T' M v'∧M[0]? =g'∧D' 0=D 0∧R r.aM.c=U ⟨V,Z,k⟩∧(∀i d,role i=U d->i≠0->i≠j->R d.aM.c=ch d.aM.c)∧
   (∀i d,role i=U d->i≠0->(D' i).stage=9->R d.out=ch d.out)∧(∀i,i≠0->(D' i).stage=9->(D i).stage=9)∧vl md cl T gs v md' cl' T' M v'∧L (D 0).own v v':=by
 obtain⟨N,Q3,o,gP,D1,T1,sD,v1,P,fn,pl,uU,D2,r1,y,x,X,J,sx,I2,hg2,fP,O,aEE,ael,Q0⟩:=H.closes (j:=j) (rj:=r) hl ha z I Q1 (λF _ hw _=>w F hw) hc Q u rfl C E t h0 (λe=>absurd rfl e) (λ_=>rfl) sl;have p:∀i,(D2 i).stage=(D1 i).stage:=by grind
 refine⟨N,Q3,_,gP,D2,_,uU,_,P,r1,⟨I2,⟨λi d f m s hx j' r2 S Ar=>Q2 i j' d r2 f S s Ar,λi d c f m s l q tS=>?_,y.fR.outs,y.fR.end_,λY=>?_⟩,λi d c f s q=>?_,y.bound⟩,hg2,O.trans X,cX _ _ _,λi d f m Aw=>?_,λi d f m l=>?_,λi m l=>?_,x.passed.trans ⟨fP,Q0.sub λ_ h=>h.elim,λ_ _=>rfl,λ_=>rfl,_,rfl⟩,?_⟩
 ·rw[p] at l;rw[cQ o _ (t i d f s)];by_cases e:d.aM.c=r.aM.c
  ·have B:=E i d f s e;subst B;rw[u] at f;cases f;obtain⟨k',W⟩:=A (x.ij i s l);exact⟨k',by rw[x.outs i r u l];exact W⟩
  ·rw[cQ o _ e] at q;exact y.fR.b i d c f m s l q tS
 ·have e:V2 Y D2=V2 Y D1:=by grind[zm]
  rw[e];exact y.fR.pG Y
 ·by_cases e:d.aM.c=r.aM.c
  ·grind[upd_same,Nat.pos_of_ne_zero]
  ·rw[cQ o _ e] at q;exact y.tH i d c f s q
 ·rw[cQ o _ (by grind)];exact x.eT i d f m
 ·rw[p] at l;rw[cQ o _ (t i d f m)];exact x.outs i d f l
 ·rw[p] at l;exact x.ij i m l
 ·refine⟨λb hb=>?_,bq J.size Q0.size⟩;obtain⟨e1,B⟩:=H.inv.own 0 b hb;rw[Q0.block b (cF B J.size) (aA (aA ⟨0,rfl,(x.cls b B).trans e1⟩))];exact J.block b B (aA (aA ⟨0,rfl,e1⟩))
deriving instance DecidableEq for eU
structure St where
 role:Nat->Option fo
 md:Md
 ch:Nat->Option fE
 cl:Nat->eU
 D:Nat->dm
 T:eo
 gs:Array aU
 v:av
 sl:Option (Nat×Nat)
def St.runs(P:bU)(s t:St):Prop:=∃N,gZ P N (dw s.gs s.v s.sl) s.T=(fQ (dw t.gs t.v t.sl),t.T)
theorem St.runs.trans{P}{s t u:St}(a:s.runs P t)(b:t.runs P u):s.runs P u:=by obtain⟨n,d⟩:=a;obtain⟨m,c⟩:=b;exact⟨n+m,runNT_then d c⟩
theorem St.runs.refl{P}(s:St):s.runs P s:=⟨0,rfl⟩
theorem BB{P}{s t:St}(h:s.runs P t):∃u,t.T=s.T++u:=by
 obtain⟨n,h⟩:=h
 grind[Jv]
structure Ok(K:fy)(h:Nat)(s:St)(a:aU):Prop where
 hold:cM K s.role h s.md s.ch s.cl (.hold h) s.D s.T s.gs s.v
 lN:s.gs[h]? =U a
 uD:mh s.role (· =h) s.ch s.D
 nine:(s.D h).stage=9
 deaf:(s.D h).deaf=0
 opn:∃p,s.md=.opn p
 ro:s.role h=V->h=0
structure Kept(h:Nat)(O:List Nat)(s t:St):Prop where
 size:t.gs.size=s.gs.size
 role:t.role=s.role
 md:t.md=s.md
 left:Left s.cl (λ_=>False) s.v t.v
 cls:∀b,b<s.v.heap.size->t.cl b=s.cl b
 rest:Rest h O s.cl s.v t.v
 nI:∀c st,s.ch c=U st->t.ch c=U st
 own:∀b∈(s.D h).own,b∈(t.D h).own
 v2:∀n,V2 n t.D<=V2 n s.D
theorem Kept.refl(h)(O)(s):Kept h O s s:=⟨rfl,rfl,rfl,Left.refl _ _ _,λ_ _=>rfl,λ_ _ _ _=>rfl,λ_ _ h=>h,λ_ h=>h,λ_=>aW _⟩
theorem Kept.trans{O}{s t u}(a:Kept h O s t)(b:Kept h O t u):Kept h O s u:=
 ⟨b.size.trans a.size,b.role.trans a.role,b.md.trans a.md,a.left.trans a.cls b.left,λx d=>(b.cls x (cF d a.left.size)).trans (a.cls x d),a.rest.trans a.left.size a.cls b.rest,λc e f=>b.nI c e (a.nI c e f),λx d=>b.own x (a.own x d),λn=>bq (b.v2 n) (a.v2 n)⟩
theorem Kept.more{O O'}{s t}(a:Kept h O s t)(c:∀b∈O,b∈O'):Kept h O' s t:=⟨a.size,a.role,a.md,a.left,a.cls,λb f d e=>a.rest b f d λx=>e (c b x),a.nI,a.own,a.v2⟩
theorem Ok.walk{s}{a}(H:Ok K h s a){O Rd}{Stop}(c:∀g w,Stop g w->g.status=dM)(r:cH K.P (h==0) (L (O++Rd)) (DH O Rd) Stop n a s.v)(z:∀b∈O,b∈(s.D h).own)
  (f:∀b∈Rd,b<s.v∧(s.cl b=.own h∨s.cl b=.eN)):∃t k,s.runs K.P t∧Ok K h t k∧Stop k t.v∧Kept h O s t∧t.D h=s.D h∧t.ch=s.ch:=by
 obtain⟨N,md',R,cl',D',T',M,v',dF,k,y,p,o,u,G,m,B⟩:=cM.walk c H.ro n (sl:=s.sl) H.hold H.lN r z (λb l=>⟨(f b l).1,(f b l).2.imp id λx=>⟨x,rfl⟩⟩) (λ_=>by rw[H.nine];simp) H.deaf
 obtain⟨rfl,q⟩:=G.calm H.uD;have d:=G.oX H.opn;exact⟨⟨s.role,md',s.ch,cl',D',T',M,v',dF⟩,k,⟨N,y⟩,⟨u,p,q,(congrArg dm.stage m).trans H.nine,(congrArg dm.deaf m).trans H.deaf,⟨_,d.trans H.opn.choose_spec⟩,H.ro⟩,o,⟨G.size,rfl,d,G.left,G.cls,B,λ_ _ h=>h,λb l=>(by grind),λn=>Da λj=>(by
  by_cases e:j=h
  ·grind
  ·exact G.ig j e)⟩,m,rfl⟩
theorem Ok.Uv{s}{a}(H:Ok K h s a)(J:a.status=dM){o:Nat->Obj}{f:Nat->aU}(x:∀C,L (s.D h).own s.v C->bZ K.P (h==0) a C=bS (f C) {C with heap:=C.heap.push (o C)} #[])(c)(hc:c=.own h∨c=.sh):
  ∃t b o',s.runs K.P t∧Ok K h t (f b)∧Kept h [] s t∧s.v<=b∧t.v=b+1∧t.v.heap[b]? =U o'∧t.cl b=c∧t.ch=s.ch∧(c=.own h->b∈(t.D h).own)∧((t.D h).own=if c=.own h then b::(s.D h).own else(s.D h).own)∧(∀op∈t.T,op.act.low b)∧t.ch b=V∧o'=o b:=by
 obtain⟨N,gS,ou,gP,m,T1,sD,v1,d,oS,gx,r1,z,X,B,y,p,A⟩:=H.hold.picked H.lN J s.sl;obtain⟨rfl,q1⟩:=y.calm H.uD;have E:=y.oX H.opn
 let O:Obj:=o v1
 let w:List Nat:=if c=.own h then v1::(s.D h).own else(s.D h).own
 let v2:av:={v1.at d with heap:=v1.heap.push O}
 have F:L (s.D h).own s.v (v1.at d):=⟨λb l=>by obtain⟨e1,e2⟩:=H.hold.inv.own h b l;exact A.block b e2 (aA (aA ⟨h,rfl,e1⟩)),A.size⟩
 have W:bZ K.P (h==0) a (v1.at d)=bS (f v1) v2 #[]:=x (v1.at d) F;have q:∀b,b<v1.heap.size->v2.heap[b]? =v1.heap[b]? :=λb l=>by grind
 have k:∀b,b<v1.heap.size->(λb=>if b=v1.heap.size then c else gP b) b=gP b:=by grind
 have I:v2.heap.size=v1+1:=by simp[v2]
 have S:=λb l=>B.inv.own h b (by rw[p];exact l)
 obtain⟨q2,q3,q4⟩:=(B.at d).step (sl:=gx) (a':=f v1) (es:= #[]) (x':=⟨(m h).stage,(m h).fuel,w,(m h).deaf⟩) (md':=gS) (cl':=λb=>if b=v1 then c else gP b) (v':=v2) X W (by grind) (λb l _=>q b l) (λb l=>k b l)
  (λb l=>by
   grind)
  (by simp) (by simp) rfl (by simp) rfl (λhl=>by
   obtain⟨st,sm,hw,R⟩:=B.inv.wg hl;refine⟨st,sm,?_,R.same rfl⟩;unfold WgAt at hw⊢
   grind) (λ_=>by rw[p];rw[H.nine];simp) B.bound
 rw[BW,Ov] at q3;rw[BW] at q2;have M:∀b∈(s.D h).own,b∈w:=λb l=>by
  grind
 have P:=runNT_then r1 (pO (z.trans q2));rw[Ov] at P;refine⟨⟨s.role,gS,s.ch,_,_,T1,_,v2,gx⟩,v1,O,⟨_,P⟩,⟨q3,q4,λj r hr hj=>?_,?_,?_,⟨_,E.trans H.opn.choose_spec⟩,H.ro⟩,⟨by show(Array.setIfInBounds _ _ _).size=_;rw[tJ,B2];exact y.size,rfl,E,?_,λb l=>?_,λb l Q _=>?_,λ_ _ h=>h,λb l=>?_,λn=>Da λj=>?_⟩,A.size,I,?_,dn rfl,rfl,λe=>?_,?_,B.inv.tr.seen,?_,rfl⟩
 ·show(bz m h _ j).stage=9∧_;rw[cQ m _ hj];exact q1 j r hr hj
 ·show(bz m h _ h).stage=9;rw[cX,p];exact H.nine
 ·show(bz m h _ h).deaf=0;rw[cX,p];exact H.deaf
 ·refine y.left.trans y.cls (cl':=gP) (v':=v1) ⟨by grind,λb l _=>q b l,rfl,rfl,rfl⟩
 ·show(if b=v1 then c else gP b)=_
  have:=A.size;rw[if_neg (by omega)];exact y.cls b l
 ·have:=A.size;rw[q b (by omega)];exact A.block b l (aA (aA ⟨h,rfl,Q⟩))
 ·show b∈(bz m h _ h).own
  grind[upd_same]
 ·show(bz m h _ j).stage<=_;by_cases e:j=h
  ·subst e;rw[cX,p];grind
  ·rw[cQ m _ e];exact y.ig j e
 ·grind
 ·show _∈(bz m h _ h).own;rw[cX];grind
 ·show(bz m h _ h).own=_;rw[cX]
 ·show s.ch v1=V;cases e:s.ch v1 with
  |none=>rfl
  |some st=>have:=ot (B.inv.chan _ _ e).1;omega
theorem Ok.reg{s}{a}(H:Ok K h s a){b}(A:s.v.heap[b]? =U (.chan 1 #[] ai 0 0 ai))(hs:s.cl b=.sh)(C:s.ch b=V)(y:K.live=Z->b≠K.Wg):Ok K h {s with ch:=bz s.ch b (U ⟨V,ai,0⟩)} a:=by
 have B:∀c d,s.ch c=U d->bz s.ch b (U ⟨V,ai,0⟩) c=d:=λc d t=>by
  grind[upd_ne]
 have o:∀c d,bz s.ch b (U ⟨V,ai,0⟩) c=U d->s.ch c=d∨d=⟨V,ai,0⟩:=λc d t=>by
  grind[upd_same,upd_ne]
 have I:=H.hold.inv;refine⟨⟨⟨I.gJ,I.deaf,I.above,I.tr,I.own,λc d t=>?_,λj r l q hs=>?_,λj r l w hs=>?_,I.uniq,I.wg,I.jR,I.rel,I.norel,I.qf,I.zero,I.idle⟩,⟨λi r l u hs z=>H.hold.fR.a i r l u hs (z.imp id λ⟨q,d,f,p⟩=>⟨q,d,?_,p⟩),λi r d l u hs q f p=>?_,H.hold.fR.outs,H.hold.fR.end_,H.hold.fR.pG⟩,λj r d l hs f=>?_,H.hold.bound⟩,H.lN,λj r l hs=>⟨(H.uD j r l hs).1,λd f=>?_⟩,H.nine,H.deaf,H.opn,H.ro⟩
 ·by_cases e:c=b
  ·subst e;have m:bz s.ch c (U ⟨V,ai,0⟩) c=d:=t;rw[cX] at m;cases m;exact⟨A,hs,y⟩
  ·have m:bz s.ch b (U ⟨V,ai,0⟩) c=d:=t;rw[cQ s.ch _ e] at m;exact I.chan c d m
 ·obtain⟨d,f,E⟩:=I.ny j r l q hs
  grind
 ·obtain⟨k,x⟩:=I.out j r l w hs
  grind
 ·rcases o _ _ f with e|e
  ·obtain⟨k,x⟩:=H.hold.fR.b i r d l u hs q e p
   grind
  grind
 ·rcases o _ _ f with e|e
  ·exact H.hold.tH j r d l hs e
  grind
 ·rcases o _ _ f with e|e
  ·exact(H.uD j r l hs).2 d e
  ·rw[e]
 grind
theorem Dy:∀n,sumTo n (λ_=>0)=0
 |0=>rfl
 |n+1=>by simp only[sumTo,Dy n]
theorem Ok.axq{s}{a}(H:Ok K h s a)(N:K.live=ai){b}(o:WgAt K.L.tWg b s.v 0 0)(t:s.cl b=.sh)(J:s.ch b=V)(l:∀w∈s.T,w.act.low b)(m:s.md=.opn 0):Ok {K with Wg:=b,live:=Z} h s a:=by
 have I:=H.hold.inv;have d:∀i,s.role i=V:=λi=>by
  cases e:s.role i with
  |none=>rfl
  |some r=>have:=I.idle i r e;grind
 have F:=H.ro (d h);have q:∀i,0<i->i<s.gs.size->(s.D i).stage=1:=λi u f=>by
  have k:=I.gJ i _ (by omega) (iq f)
  rw[d i] at k;exact k.2.1
 refine⟨⟨⟨λi g z C=>?_,I.deaf,I.above,I.tr,I.own,λc A B=>?_,I.ny,I.out,I.uniq,λ_=>⟨0,0,o,?_⟩,λ_=>t,λi r y=>(by grind),λx e=>?_,I.qf,I.zero,λ_ _ _=>rfl⟩,⟨H.hold.fR.a,H.hold.fR.b,H.hold.fR.outs,λi r y=>(by grind),H.hold.fR.pG⟩,H.hold.tH,H.hold.bound⟩,H.lN,H.uD,H.nine,H.deaf,H.opn,H.ro⟩
 ·have k:=I.gJ i g z C;rw[d i] at k⊢;exact k
 ·obtain⟨M,P,O⟩:=I.chan c A B
  grind
 ·rw[m];have E:V2 s.gs.size s.D=0:=by
   unfold V2;rw[yH (g:=λ_=>0) λi u=>?_]
   ·exact Dy _
   ·unfold fW
    grind
  exact⟨λi u f=>aA (q i u f),by grind,rfl⟩
 ·cases p:s.T[x]? with
  |none=>simp[CR,p] at e
  |some w=>
   simp only[CR,p,ey,ec] at e;have:=l w (tI p);rw[e] at this;exact Nat.lt_irrefl b this
theorem Ok.send{s}{a B}(H:Ok K h s a)(P:K.live=Z)(m:a.status=dM){x z}{rj rh}{kh}(d:∀E,bZ K.P (h==0) a E=.comm B #[scase rj.aM.c x z] Z .send E #[])(y:j≠h)(A:s.role j=U rj)(o:j<s.gs.size)
  (p:qi K.P (h==0) rh.aM n (s.D h).own (j0 B ak) s.v) (J:0<n) (u:s.ch rh.aM.c=U ⟨V,ai,kh⟩) (q:rh.aM.c≠rj.aM.c) (f:∀i r,i≠h->s.role i=U r->r.aM.c≠rh.aM.c) (C:Bm K (bz s.role h (U rh)) s.D):
  ∃t w k,s.runs K.P t∧Ok K j t (j0 w (recvd rj.aM.ok x Z))∧rj.aM.home (t.D j).own w t.v∧t.role=bz s.role h (rh)∧t.md=s.md∧t.ch=bz s.ch rj.aM.c (U ⟨V,ai,k⟩)∧t.gs.size=s.gs.size∧Left s.cl (λ_=>False) s.v t.v∧∀b,b<s.v.heap.size->t.cl b=s.cl b:=by
 obtain⟨N,md',cl',D',T',M,v',dF,w,k,L,F⟩:=H.hold.send (n:=n) H.uD P H.lN m d y A rfl o rh H.nine H.deaf p J u q f C s.sl;have l:=F.passed.md H.opn;exact⟨⟨bz s.role h (U rh),md',_,cl',D',T',M,v',dF⟩,w,k,⟨N,L⟩,⟨F.hold,F.lN,λi r I O=>F.uD i r I id,F.nine,F.deaf,⟨_,l.trans H.opn.choose_spec⟩,λe=>by
  grind[upd_ne]⟩,F.home,rfl,l,rfl,F.passed.size,F.passed.left,F.passed.cls⟩
theorem Ok.spawn{s}{a a' child}{p}(H:Ok K 0 s a)(hl:K.live=Z)(R:a.status=dM)(mC:s.md=.opn (p+1))(hgo:∀X,bZ K.P Z a X=.spawn a' child X #[])(r){O kx}
  (we:∀X,L (s.D 0).own s.v X->qi K.P ai r.aM n O child X) (hn:0<n) (hO:∀b∈O,b∈(s.D 0).own) (q:∀b∈kx,b∈(s.D 0).own∧b∉O) (au2:s.role s.gs.size=V) {k} (A:s.ch r.aM.c=U ⟨V,ai,k⟩)
  (y:∀j u,s.role j=U u->u.aM.c≠r.aM.c) (J:∀j u,s.role j=U u->u.out≠r.out) (P:∀O g2 w,r.aM.home O g2 w->r.C∈O∧∃m,cH K.P ai (L O) (DO O) (yo K.P K.L K.Wg r O) m (j0 g2 (recvd r.aM.ok r.aM.z ai)) w)
  (aeV:∀l,V2 l s.D<=1):
  ∃t,s.runs K.P t∧Ok K 0 t a'∧t.role=bz s.role s.gs.size (r)∧t.md=.opn p∧t.ch=s.ch∧t.gs.size=s.gs.size+1∧(t.D 0).own=kx∧(t.D s.gs.size).stage=9∧Left s.cl (λ_=>False) s.v t.v∧(∀b,b<s.v.heap.size->b∉O->t.cl b=s.cl b)∧L (s.D 0).own s.v t.v∧∀l,V2 l t.D<=V2 l s.D+1:=by
 obtain⟨N,gS,ou,W,o,T1,f,z,d,oS,gx,r1,M,pX,H1,E,I,L1⟩:=H.hold.picked H.lN R s.sl;obtain⟨rfl,q1⟩:=E.calm H.uD;have C:=(E.oX H.opn).trans mC;subst C;have hz:=H1.inv.zero;have kE:f.size≠0:=by omega
 have c:∀b∈(s.D 0).own,b∈(o 0).own:=λb x=>by grind
 have Q:L (s.D 0).own s.v (z.at d):=⟨λb x=>by obtain⟨e1,e2⟩:=H.hold.inv.own 0 b x;exact L1.block b e2 (aA (aA ⟨0,rfl,e1⟩)),L1.size⟩
 have hV:∀l,V2 l o<=V2 l s.D:=λl=>Da λj=>by
  by_cases e:j=0
  ·grind
  ·exact E.ig j e
 have PG:∀l,V2 l (bz (bz o 0 {o 0 with own:=kx}) f.size ⟨9,n,O,0⟩)<=V2 l o+1:=λl=>by
  have e0:V2 l (bz o 0 {o 0 with own:=kx})=V2 l o:=zm λi hi _=>by grind[upd_ne]
  rcases Ad f.size l with pq|Az
  ·grind[QT,fW]
  ·have e1:V2 l (bz (bz o 0 {o 0 with own:=kx}) f.size ⟨9,n,O,0⟩)=V2 l (bz o 0 {o 0 with own:=kx}):=zm λi _ hi=>by grind[upd_ne]
   omega
 have fP:=E.size;obtain⟨q2,q3,q4,q5⟩:=(H1.at d).spawn (sl:=gx) hl pX (hgo (z.at d)) r (n:=n) (O:=O) (kx:=kx) (ax ⟨rfl,rfl,by grind⟩) hn (λb x=>c b (hO b x)) (λb x=>⟨c b (q b x).1,(q b x).2⟩) (by grind) A y J P
  (λj u B hj=>q1 j u B (Eh hj)) (by rw[I];exact H.deaf) (λl=>by grind)
 have F:bz (bz o 0 {o 0 with own:=kx}) f.size ⟨9,n,O,0⟩ 0={o 0 with own:=kx}:=by grind[upd_ne,upd_same]
 refine⟨⟨bz s.role f.size (U r),.opn p,s.ch,_,_,_,_,z.at d,gx⟩,⟨_,runNT_then r1 (pO (M.trans q2))⟩,⟨q3,q4,λj u B hj=>?_,?_,?_,⟨_,rfl⟩,λ_=>rfl⟩,by rw[fP],rfl,rfl,by grind,?_,?_,?_,λb x hn=>?_,Q,λl=>?_⟩
 ·show(bz (bz o 0 _) f.size _ j).stage=9∧_;have S:bz s.role f.size (r) j=u:=B;by_cases e:j=f.size
  ·grind[upd_same]
  ·rw[cQ s.role _ e] at S;rw[cQ _ _ e,cQ o _ hj];exact q1 j u S hj
 ·show(bz (bz o 0 _) f.size _ 0).stage=9;rw[F,I];exact H.nine
 ·show(bz (bz o 0 _) f.size _ 0).deaf=0;rw[F,I];exact H.deaf
 ·show(bz (bz o 0 _) f.size _ 0).own=kx;rw[F]
 ·show(bz (bz o 0 _) f.size _ s.gs.size).stage=9
  grind[upd_same]
 ·exact E.left.trans E.cls (Left.at W _ z d)
 ·show(if b∈O then _ else W b)=_
  rw[if_neg hn];exact E.cls b x
 ·have:=PG l;have:=hV l;show V2 l (bz (bz o 0 _) f.size _)<=_;omega
variable{ρ eF:Nat->Nat}{I:H}{fs:Array dV}{nm:String->Bool}{X:fb->Prop}{w w':av}
structure sW(h:Nat)(s t:St):Prop where
 size:t.gs.size=s.gs.size
 role:t.role=s.role
 md:t.md=s.md
 ch:t.ch=s.ch
 D:t.D h=s.D h
 tR:s.v.heap.size<=t.v.heap.size
 own:∀b,b<s.v.heap.size->s.cl b=.own h->t.v.heap[b]? =s.v.heap[b]?
 cls:∀b,b<s.v.heap.size->t.cl b=s.cl b
 os:t.v.os=s.v.os
 tape:t.v.tape=s.v.tape
 out:t.v.output=s.v.output
 old:∀b,b<s.v.heap.size->s.cl b=.old->t.v.heap[b]? =s.v.heap[b]?
theorem Ok.tree (Q1 : mJ I K.P fs nm) (Q0 : Same I K.P fs nm X) {b } {bs B' } (O : zC I K.P (h == 0) B') {Done } (u : ∀ fr cs w, ¬ Done (r fr (cs ++ b :: bs)) w) {fr fr' } {cs cs' } (QX : Term (J K.P fs) Done (r fr (cs ++ b :: bs)) w)
    {s } (H : Ok K h s (r fr' (cs' ++ B'))) (y : ju ρ I K.P nm w fr fr') (z : gQ ρ I K.P nm w cs cs') (Q3 : fF ρ I K.P s.cl w s.v) :
    ∃ t eF w' l, (∀ x, x < w.heap.size → ρ x = eF x) ∧ w.heap.size ≤ w'.heap.size ∧ (∀ x, x < w.heap.size → I.F x = ai → w'.heap[x]? = w.heap[x]?) ∧ Term (J K.P fs) Done l w' ∧ sI (pK (J K.P fs) Done) (l, w') (r fr (cs ++ b :: bs), w) ∧ s.runs K.P t ∧ sW h s t ∧
      ((∃ k, Ok K h t k ∧ fF eF I K.P t.cl w' t.v ∧ Ends eF I K.P fs nm X b bs B' w' l k) ∨
       (B' = [] ∧ cM K t.role h t.md t.ch t.cl (.hold h) t.D t.T t.gs t.v ∧ ∃ x Q2 c d E F QW, l = r (b.finish x) bs ∧ RV eF I w' x Q2 ∧ stepT K.P (dw t.gs t.v t.sl) = (.ended (.done Q2) c, iC h F QW E) ∧ fF eF I K.P d w' c ∧ c.os = t.v.os ∧ c.output = t.v.output ∧ t.v.heap.size ≤ c ∧ (∀ x, x < t.v.heap.size → d x = t.cl x) ∧ (∀ x, x < t.v.heap.size → t.cl x ≠ .eN → c.heap[x]? = t.v.heap[x]?) ∧
          (∀ e ∈ E, (∀ x, (gW e).touch? = U x → ym d (.hold h) h x) ∧ (gW e).low c ∧ (∀ a, e.loc ≠ ia (.release a)) ∧ e.loc ≠ ia .disable ∧ e.loc ≠ ia .enable))) := by
  obtain ⟨N, o, w1, md', R, cl', D', T', M, v', dF, l, P, k2, S, Q, k5, L, f, p, k9, A⟩ := cM.tree Q1 Q0 H.ro O u QX s.sl rfl H.hold (fun _ => by rw [H.nine]; simp) H.deaf y z H.lN Q3
  obtain ⟨rfl, q⟩ := f.calm H.uD
  have m := f.md H.opn
  refine ⟨⟨s.role, md', s.ch, cl', D', T', M, v', dF⟩, o, w1, l, P, k2, S, Q, k5, ⟨N, k9⟩, ⟨f.size, rfl, m, rfl, p, f.tR, f.own, f.cls, f.os, f.tape, f.out, f.old⟩, ?_⟩
  rcases A with ⟨k, B, C, W⟩ | ⟨B, C⟩
  · exact ax ⟨k, ⟨L, B, q, (congrArg dm.stage p).trans H.nine, (congrArg dm.deaf p).trans H.deaf, ⟨_, m.trans H.opn.choose_spec⟩, H.ro⟩, C, W⟩
  grind
def Io(l:Array Bool):Nat:=(l.toList.filter id).length
theorem Ok.drawn{b:aX}{k:List eS}{cs:List aX}{ops:Array dD}{J:Array Bool->Act->St->Prop}
  (f:∀listed a s i l,J listed a s->i∈iO .any ops listed->Ok K h s (G (b.at a (aP ops (i::l)::k)) cs)->Io (listed.setIfInBounds i Z)=Io listed+1∧∃t m,s.runs K.P t∧Ok K h t (G (b.at m (aP ops l::k)) cs)∧J (listed.setIfInBounds i Z) m t):
  ∀(d t:Nat) (listed:Array Bool) (a:Act) (s:St),J listed a s->Ok K h s (G (b.at a (aP ops (wF .any ops d t listed [])::k)) cs)->
   ∃u m c,s.runs K.P u∧Ok K h u (G (b.at m (aP ops []::k)) cs)∧J c m u∧(iO .any ops c=[]∨Io c=Io listed+d)
 |0,t,listed,a,s,q,H=>⟨s,a,listed,.refl _,by simpa[wF] using H,q,aA rfl⟩
 |d+1,t,listed,a,s,q,H=>by
  simp only[wF] at H
  change Ok K h s (G (b.at a (aP ops (match(iO .any ops listed)[t % (iO .any ops listed).length]? with
   |some i=>wF .any ops d (t/ (iO .any ops listed).length) (listed.setIfInBounds i Z) [i]
   |none=> [].reverse)::k)) cs) at H
  cases r:(iO .any ops listed)[t % (iO .any ops listed).length]? with
  |none=>
   rw[r] at H;have o:iO .any ops listed=[]:=by
    cases O:iO .any ops listed with
    |nil=>rfl
    |cons x N=>
     grind[Nat.mod_lt]
   exact⟨s,a,listed,.refl _,H,q,ax o⟩
  |some i=>
   rw[r] at H;simp only[] at H;rw[linearise_go_acc,List.reverse_singleton,List.singleton_append] at H;obtain⟨Q,B,L,C,y,F⟩:=f listed a s i _ q (List.mem_of_getElem? r) H;obtain⟨E,z,M,w,I,A,p⟩:=Ok.drawn f d _ _ L B F y;exact⟨E,z,M,C.trans w,I,A,p.imp id λe=>by grind⟩
def RL(L:WgLink)(Wg:Nat)(w w1:av):Prop:=jq L.tWg Wg w->jq L.tWg Wg w1
def DQ(Wg:Nat)(w w':av)(es:Array iW):Prop:=w'=w∧∀e∈es,∃a,a.block=Wg∧(e=⟨ia (.read a),ai,Z⟩∨e=⟨ia (.write a),ai,Z⟩)
theorem RL.refl(L)(a)(w):RL L a w w:=id
theorem dq_none{a}{w}{es}(h:∀e∈es,False):DQ a w w es:=⟨rfl,λe b=>(h e b).elim⟩
abbrev GQ(P:bU)(L:WgLink)(Wg:Nat)(Stop:aU->av->Prop)(m:Nat)(g:aU)(w:av):Prop:=cH P Z (RL L Wg) (DQ Wg) Stop m g w
theorem aax{d}{e}(k:cl d=.sh){B}(l:d<B)(h:∃a,a.block=d∧(e=⟨ia (.read a),ai,Z⟩∨e=⟨ia (.write a),ai,Z⟩)):
  (∀x,(gW e).touch? =U x->ym cl who 0 x)∧(gW e).low B∧e.loc≠ia .disable∧e.loc≠ia .enable∧∀a,e.loc≠ia (.release a):=by
 obtain⟨a,m,rfl|rfl⟩:=h
 ·refine⟨λx c b f=>?_,by show a.block<B;grind,by simp,by simp,by simp⟩
  simp only[gW,ri,ec] at c
  grind[ox,Option.some.injEq]
 ·refine⟨λx c b f=>?_,by show a.block<B;grind,by simp,by simp,by simp⟩
  simp only[gW,ri,ec] at c
  grind[ox,Option.some.injEq]
theorem cM.MI(H:cM K role 0 md ch cl (.hold 0) D T gs v)(z:K.live=Z){a a'}{es}{st' k}(N:gs[0]? =U a)(C:bZ K.P Z a v=bS a' v' es)(d:Aside K.Wg v v')(t:WgAt K.L.tWg K.Wg v' st' k)(u:mI gs.size D md' st' k)
  (m:∀e∈es,Bk K.Wg e∨e=jo (qd (stA K.Wg))∨∃a,a.block=K.Wg∧(e=⟨ia (.read a),ai,Z⟩∨e=⟨ia (.write a),ai,Z⟩)) (r:∀p,md'=.opn p->p<=2):
  runT K.P (dw gs v sl) 0=(fQ (dw ((gs.map (woken K.P a a' v')).setIfInBounds 0 a') v' sl),iC 0 a.frame.fn a.frame.place es)∧
  cM K role 0 md' ch cl (.hold 0) (bz D 0 {D 0 with deaf:=jD (D 0).deaf es}) (T++iC 0 a.frame.fn a.frame.place es) ((gs.map (woken K.P a a' v')).setIfInBounds 0 a') v'∧((gs.map (woken K.P a a' v')).setIfInBounds 0 a')[0]? =a':=by
 have E:=H.inv.jR z;obtain⟨O,M,B,_⟩:=H.inv.wg z;have I:=ot B;have q:K.Wg<v':=by rw[d.size];grind
 refine H.step (x':={D 0 with deaf:=jD (D 0).deaf es}) N C (vF d.size.symm) (λb _ o=>d.block b λe=>o (aA (ax ⟨z,e⟩))) (λ_ _=>rfl) (λb F=>by rw[d.size];exact H.inv.own 0 b F) (λe A=>?_) (λe A=>?_) rfl (λ_ o=>absurd rfl o) rfl
  (λ_=>⟨st',k,t,u.congr λj Q _=>by grind[upd_ne]⟩) (λo=>absurd rfl o) r
 ·rcases m e A with(c|c|⟨x,wr,rfl,f⟩)|rfl|c
  ·obtain⟨l,w,s⟩:=e;simp only at c;subst c;exact⟨λx f=>by simp[gW,ri] at f,trivial⟩
  ·obtain⟨l,w,s⟩:=e;simp only at c;subst c;exact⟨λx f=>by simp[gW,ri] at f,trivial⟩
  ·refine⟨λy J b F=>?_,?_⟩
   ·simp only[B0,ri,ec] at J
    grind[ox,Option.some.injEq]
   ·rw[B0];show x.block<_;grind
  ·exact⟨λx f=>(by cases f),q⟩
  ·exact⟨(aax E q c).1,(aax (who:=.hold 0) E q c).2.1⟩
 ·rcases m e A with(c|c|⟨x,wr,rfl,f⟩)|rfl|c
  ·grind
  ·grind
  ·simp
  ·simp[jo]
  grind
theorem cM.yq(p:K.live=Z){Stop:aU->av->Prop}:∀(n:Nat) {md:Md} {ch:Nat->Option fE} {cl:Nat->eU} {D:Nat->dm} {T:eo} {gs:Array aU} {v:av} {sl:Option (Nat×Nat)} {a:aU},
  cM K role 0 md ch cl (.hold 0) D T gs v->gs[0]? =U a->GQ K.P K.L K.Wg Stop n a v->
  ∃N md' R cl' D' T' M v' dF Q0,gZ K.P N (dw gs v sl) T=(fQ (dw M v' dF),T')∧M[0]? =U Q0∧(∀W,RL K.L K.Wg v' W->Stop Q0 W)∧cM K role 0 md' R cl' (.hold 0) D' T' M v'∧jQ role 0 md ch cl D T gs v md' R cl' D' T' M v'∧D' 0=D 0∧Left cl (· =0) v v'
 |0,md,ch,cl,D,T,gs,v,sl,a,H,r,C=>⟨0,md,ch,cl,D,T,gs,v,sl,a,rfl,r,C,H,jQ.refl,rfl,Left.refl _ _ _⟩
 |n+1,md,ch,cl,D,T,gs,v,sl,a,H,r,C=>by
  rcases C with c|⟨l,b⟩
  ·exact⟨0,md,ch,cl,D,T,gs,v,sl,a,rfl,r,c,H,jQ.refl,rfl,Left.refl _ _ _⟩
  obtain⟨N,gS,ou,Q3,D1,T1,sD,Q,d,oS,gx,r1,k,w,m,u,J,P⟩:=H.picked r l sl;have o:=b (Q.at d) λ_=>(m.at d).inv.live p;cases f:bZ K.P Z a (Q.at d) with
  |go a2 w2 es=>
   rw[f,eI] at o;obtain⟨⟨rfl,E⟩,I⟩:=o;obtain⟨st,sm,Q1,s⟩:=(m.at d).inv.wg p;obtain⟨r2,y,z⟩:=(m.at d).MI (sl:=gx) p w f (.refl _ _) Q1 s (λe X=>aA (aA (E e X))) m.bound;rw[(deafBehind_still (λe X=>by grind) _)] at y
   rw[(uv D1 0)] at y;obtain⟨N3,L,S,Q2,D3,T3,t,v3,B,a3,r3,F,O,H3,G3,A,L3⟩:=cM.yq p n (sl:=gx) y z I;refine⟨N+(1+N3),L,S,Q2,D3,T3,t,v3,B,a3,runNT_then r1 (runNT_then (pO (k.trans r2)) r3),F,O,H3,((u.trans (jQ.at _ _ _ _ _ _ _ _ _ d)).trans (⟨by simp,Left.refl _ _ _,λ_ _=>rfl,λ_ _ _ _=>rfl,λ_=>rfl,λ_ _ x=>x,λ_ _=>aW _,⟨_,rfl⟩,λq=>⟨rfl,q⟩,λ_ _ _ _=>rfl,λ_ _ _ _ _ _ _ h=>h,rfl,λ_ h=>h⟩)).trans G3,A.trans J,(P.trans u.cls (Left.at Q3 _ Q d)).trans u.cls L3⟩
  |_=>rw[f] at o;exact o.elim
structure zy(role:Nat->Option fo)(ch:Nat->Option fE)(cl:Nat->eU)(D:Nat->dm)(T:eo)(gs:Array aU)(v:av)(R:Nat->Option fE)(cl':Nat->eU)(D':Nat->dm)(T':eo)(M:Array aU)(v':av):Prop where
 size:M.size=gs.size
 left:Left cl (· =0) v v'
 cls:∀b,b<v.heap.size->cl' b=cl b
 ij:∀j,j≠0->(D' j).stage=9->(D j).stage=9
 ig:∀j,j≠0->(D' j).stage<=(D j).stage
 ext:∃u,T'=T++u
 calm:mh role (· =0) ch D->R=ch∧mh role (· =0) R D'
 stage:(D' 0).stage=(D 0).stage
 own:(D' 0).own=(D 0).own
 eT:∀j r,role j=U r->j≠0->R r.aM.c=ch r.aM.c
theorem zy.trans{d}{e}{o}{p}{f}{k}(a:zy role ch cl D T gs v R cl' D' T' M v')(b:zy role R cl' D' T' M v' d e o p f k):zy role ch cl D T gs v d e o p f k:=
 ⟨b.size.trans a.size,a.left.trans a.cls b.left,λx l=>(b.cls x (cF l a.left.size)).trans (a.cls x l),λj c x=>a.ij j c (b.ij j c x),λj c=>bq (b.ig j c) (a.ig j c),(by obtain⟨u,rfl⟩:=a.ext;obtain⟨s,rfl⟩:=b.ext;grind),
  λq=>let⟨x,y⟩:=a.calm q;let⟨z,t⟩:=b.calm y;⟨z.trans x,t⟩,b.stage.trans a.stage,b.own.trans a.own,λj r m c=>(b.eT j r m c).trans (a.eT j r m c)⟩
theorem jQ.AK(G:jQ role 0 md ch cl D T gs v md' R cl' D' T' M v')(c:D' 0=D 0)(L:Left cl (· =0) v v'):zy role ch cl D T gs v R cl' D' T' M v':=⟨G.size,L,G.cls,G.ij,G.ig,G.ext,G.calm,(by grind),(by grind),λj r b a=>G.eT j r b a⟩
theorem cM.JB(H:cM K role 0 md ch cl (.hold 0) D T gs v)(I:K.live=Z){a:aU}(ha:gs[0]? =U a)(B:a.status=dM){Fv:aU->av->Array iW->Md->(Nat->dm)->Prop}
  (u:∀O l c J Q0,RL K.L K.Wg v O->WgAt K.L.tWg K.Wg O J Q0->mI gs.size c l J Q0->((∃p,md=.opn p)->l=md)->(∀p,l=.opn p->md=.opn p∧p<=2)->(∀j,j≠0->(c j).stage<=(D j).stage)->(∀n,V2 n c<=2)->∃t v' k s w m,bZ K.P Z a O=bS t v' k∧Aside K.Wg O v'∧WgAt K.L.tWg K.Wg v' s w∧mI gs.size c m s w∧
   (∀e∈k,Bk K.Wg e∨e=jo (qd (stA K.Wg))∨∃a,a.block=K.Wg∧(e=⟨ia (.read a),ai,Z⟩∨e=⟨ia (.write a),ai,Z⟩))∧(∀p,m=.opn p->p<=2)∧Fv t v' k m c) (sl:Option (Nat×Nat)):
  ∃N md' R cl' c A M v' dF t k S W,gZ K.P N (dw gs v sl) T=(fQ (dw M v' dF),A++iC 0 S W k)∧M[0]? =U t∧Fv t v' k md' c∧cM K role 0 md' R cl' (.hold 0) (bz c 0 {c 0 with deaf:=jD (c 0).deaf k}) (A++iC 0 S W k) M v'∧
   zy role ch cl D T gs v R cl' (bz c 0 {c 0 with deaf:=jD (c 0).deaf k}) (A++iC 0 S W k) M v'∧c 0=D 0∧Deaf A 0=(D 0).deaf:=by
 obtain⟨N,l,V,E,c,A,sD,v1,d,oS,gx,r1,z,X,o,x,y,L1⟩:=H.picked ha B sl;obtain⟨J,Q0,hw,mB⟩:=(o.at d).inv.wg I;obtain⟨t,v',k,s,w,m,Y,f,Q,aE1,L,lD,C⟩:=u (v1.at d) l c J Q0 (λ_=>(o.at d).inv.live I) hw (by rw[<-x.size];grind) x.oX (λp hp=>⟨x.opn p hp,o.bound p hp⟩) x.ig o.fR.pG
 obtain⟨r2,H2,P⟩:=(o.at d).MI (sl:=gx) I X Y f Q (by rw[x.size];grind) L lD
 refine⟨N+1,m,V,E,c,A,_,v',gx,t,k,_,_,runNT_then r1 (pO (z.trans r2)),P,C,H2,(((x.trans (jQ.at _ _ _ _ _ _ _ _ _ d)).AK y (L1.trans x.cls (Left.at E _ v1 d))).trans ⟨by simp,⟨vF f.size.symm,λb hb hx=>f.block b λe=>?_,f.os,f.tape,f.output⟩,λ_ _=>rfl,λj F hx=>?_,λj F=>?_,⟨_,rfl⟩,λq=>⟨rfl,λj r hr F=>?_⟩,(by rw[cX]),(by rw[cX]),λ_ _ _ _=>rfl⟩),y,by rw[o.inv.deaf 0 o.inv.zero,y]⟩
 ·subst e;rw[o.inv.jR I] at hx
  grind
 ·grind[upd_ne]
 ·rw[cQ c _ F];grind
 ·rw[cQ c _ F];exact q j r hr F
section
variable (P:Program) (L:WgLink) (Wg:Nat)
def FD(m:Mark)(k:aU->av->Prop)(g:aU)(w:av):Prop:=g.status=dM∧∃g',bZ P Z g w=bS g' w #[jo m]∧k g' w
def aBE(k:aU->av->Prop)(g:aU)(w:av):Prop:=
 g.status=dM∧∀v:Nat,v<=1->WgAt L.tWg Wg w (v*KK) 0->∃g',bZ P Z g w=bS g' (w.setCell (stA Wg) (Y cK ((v+1)*KK))) #[rd (stA Wg),wr (stA Wg)]∧k g' (w.setCell (stA Wg) (Y cK ((v+1)*KK)))
def Ri(E:aU):aU->av->Prop:=λg w=>
 ∃m,GQ P L Wg (FD P .disable λg w=>∃m,GQ P L Wg (aBE P L Wg λg w=>∃m,GQ P L Wg (FD P .enable λg w=>∃m,GQ P L Wg (λg _=>g=E) m g w) m g w) m g w) m g w
def IF(E:aU):aU->av->Prop:=λg w=>∃m,GQ P L Wg (FD P .enable λg w=>∃m,GQ P L Wg (FD P (qd (stA Wg)) λg w=>∃m,GQ P L Wg (λg _=>g=E) m g w) m g w) m g w
def aiF(E:aU)(g:aU)(w:av):Prop:=g.status=dM∧(WgAt L.tWg Wg w 0 0->∃g',bZ P Z g w=bS g' w #[rd (stA Wg)]∧IF P L Wg E g' w)
def Ye(E:aU)(g:aU)(w:av):Prop:=
 g.status=dM∧g.offers=V∧((∃st,WgAt L.tWg Wg w st 0)->bZ P Z g w=bS {g with status:=.blocked} w #[])∧
  (WgAt L.tWg Wg w 0 1->∃g',bZ P Z g w=bS g' (w.setCell (smA Wg) (Y .u32 0)) (AU (smA Wg))∧∃m,GQ P L Wg (aiF P L Wg E) m g' (w.setCell (smA Wg) (Y .u32 0)))
def aiG(Hd:aU->av->Prop)(E:aU)(vs:Nat)(g:aU)(w:av):Prop:=
 g.status=dM∧∀v:Nat,v<=2->WgAt L.tWg Wg w (v*KK) 0->
  (v=vs->∃g',bZ P Z g w=bS g' (w.setCell (stA Wg) (Y cK (v*KK+1))) #[rd (stA Wg),wr (stA Wg)]∧∃m,GQ P L Wg (Ye P L Wg E) m g' (w.setCell (stA Wg) (Y cK (v*KK+1))))∧
  (v≠vs->∃g',bZ P Z g w=bS g' w #[rd (stA Wg)]∧∃m,GQ P L Wg Hd m g' w)
def Rg(Hd:aU->av->Prop)(E:aU)(g:aU)(w:av):Prop:=
 g.status=dM∧∀v:Nat,v<=2->WgAt L.tWg Wg w (v*KK) 0->∃g',bZ P Z g w=bS g' w #[rd (stA Wg)]∧
  (v=0->IF P L Wg E g' w)∧(v≠0->∃m,GQ P L Wg (aiG P L Wg Hd E v) m g' w)
def ah7(Hd:aU->av->Prop):aU->av->Prop:=λg w=>∃m,GQ P L Wg (FD P .disable λg w=>∃m,GQ P L Wg Hd m g w) m g w
end
theorem ar3{b}{m}(h:m=.disable∨m=.enable∨m=qd (stA b)):∀e∈ #[jo m],Bk b e∨e=jo (qd (stA b))∨∃a,a.block=b∧(e=⟨ia (.read a),ai,Z⟩∨e=⟨ia (.write a),ai,Z⟩):=by
 intro e c;simp only[fJ,dh,dJ,dO] at c;subst c;rcases h with rfl|rfl|rfl
 ·exact ax (ax rfl)
 ·exact ax (aA (ax rfl))
 grind
theorem cM.Ju(H:cM K role 0 md ch cl (.hold 0) D T gs v)(Q0:K.live=Z){a}(ha:gs[0]? =U a){m}(hm:m=.disable∨m=.enable∨m=qd (stA K.Wg)){k}{n}(hG:GQ K.P K.L K.Wg (FD K.P m k) n a v)(sl):
  ∃N md' R cl' D' e M v' dF q d f,gZ K.P N (dw gs v sl) T=(fQ (dw M v' dF),e++iC 0 d f #[jo m])∧M[0]? =U q∧k q v'∧cM K role 0 md' R cl' (.hold 0) D' (e++iC 0 d f #[jo m]) M v'∧
   zy role ch cl D T gs v R cl' D' (e++iC 0 d f #[jo m]) M v'∧(D' 0).deaf=jD (D 0).deaf #[jo m]∧((∃p,md=.opn p)->md'=md)∧Deaf e 0=(D 0).deaf:=by
 obtain⟨N,c,W,gP,D1,e,sD,v1,A,a1,X,w,o,V,O,B,S⟩:=cM.yq Q0 n (sl:=sl) H ha hG;obtain⟨P,b,t,I,D2,T2,E,v2,s,a2,J,d,f,r2,x,⟨rfl,F,l⟩,H2,L,Y,EL⟩:=V.JB Q0 w (o v1 id).1 (Fv:=λq v' J b D1=>J= #[jo m]∧k q v'∧((∃p,c=.opn p)->b=c)) (λQ C Dx st sm hr Q1 r l u gz hV=>by obtain⟨_,g',y,F⟩:=o Q hr;exact⟨g',Q,_,st,sm,C,y,.refl _ _,Q1,r,ar3 hm,λp z=>(u p z).2,rfl,F,l⟩) A
 refine⟨N+P,b,t,I,_,T2,E,v2,s,a2,d,f,runNT_then X r2,x,F,H2,(O.AK B S).trans L,by grind[upd_same],λz=>?_,by grind⟩
 have e1:=O.oX z
 grind
theorem Bc(h:∀j,j≠0->(D' j).stage<=(D j).stage):V2 n D'<=V2 n D:=by
 have e:V2 n (bz D' 0 (D 0))=V2 n D':=zm λi a _=>by grind[upd_ne]
 rw[<-e];exact Da λj=>by
  by_cases e:j=0
  ·subst e;rw[cX];grind
  grind[upd_ne]
theorem aay{b}:∀e∈ #[rd (stA b),wr (stA b)],Bk b e∨e=jo (qd (stA b))∨∃a,a.block=b∧(e=⟨ia (.read a),ai,Z⟩∨e=⟨ia (.write a),ai,Z⟩):=by intro e c;simp only[fJ,dh,dJ,dO] at c;rcases c with rfl|rfl<;>exact ax (bk_cell _ _ rfl)
theorem Tm{b}:∀e∈ #[rd (stA b)],Bk b e∨e=jo (qd (stA b))∨∃a,a.block=b∧(e=⟨ia (.read a),ai,Z⟩∨e=⟨ia (.write a),ai,Z⟩):=by intro e c;simp only[fJ,dh,dJ,dO] at c;subst c;exact ax (bk_cell _ _ rfl)
theorem cM.add{p}(H:cM K role 0 (.opn p) ch cl (.hold 0) D T gs v)(d:K.live=Z)(hp:p<=1)(hVp:V2 gs.size D+p<=1){a J}(ha:gs[0]? =U a)(h0:(D 0).deaf=0)(hS:Ri K.P K.L K.Wg J a v)(sl):
  ∃N R cl' D' T' M v' dF,gZ K.P N (dw gs v sl) T=(fQ (dw M v' dF),T')∧M[0]? =J∧cM K role 0 (.opn (p+1)) R cl' (.hold 0) D' T' M v'∧zy role ch cl D T gs v R cl' D' T' M v'∧(D' 0).deaf=0:=by
 obtain⟨m1,G1⟩:=hS;obtain⟨N1,gS,ou,gP,D1,T1,sD,v1,oS,a1,fn1,pl1,r1,y,⟨m2,G2⟩,H1,B,d1,e1,_⟩:=H.Ju d ha (ax rfl) G1 sl;obtain rfl:=e1 ⟨p,rfl⟩;obtain⟨N2,e,pC,kT,D2,T2,b,v2,r,a2,r2,A,k,H2,l,c,L2⟩:=cM.yq d m2 (sl:=oS) H1 y G2;obtain rfl:=l.oX ⟨p,rfl⟩;obtain⟨N3,JJ,zh,yb,D3,T3,PY,v3,E,a3,V,fn3,pl3,r3,Q0,⟨rfl,rfl,m4,G4⟩,H3,g3,F,_⟩:=H2.JB d A (k v2 id).1
  (Fv:=λa' v' V e D1=>V= #[rd (stA K.Wg),wr (stA K.Wg)]∧e=.opn (p+1)∧∃m,GQ K.P K.L K.Wg (FD K.P .enable λg w=>∃m,GQ K.P K.L K.Wg (λg _=>g=J) m g w) m a' v') (λX Ui O st sm hr S q I KG Q1 hV=>by
   obtain rfl:=I ⟨p,rfl⟩;obtain⟨ho,rfl,rfl⟩:=q;have hle:V2 b.size O<=V2 gs.size D:=by rw[l.size,B.size];exact bq (Bc Q1) (bq (Bc l.ig) (Bc B.ig))
   obtain⟨g',z,hk⟩:=(k X hr).2 (V2 b.size O+p) (by omega) S
   refine⟨g',_,_,(((V2 b.size O+p:Nat):Int)+1)*KK,0,.opn (p+1),z,aside_setCell X (stA K.Wg) _,S.setSt _,⟨ho,?_,rfl⟩,aay,λp' KF=>by grind,rfl,rfl,hk⟩
   grind) r
 obtain⟨N4,Ol,yc,Ip,D4,T4,gs4,v4,Ss,a4,fn4,pl4,r4,C,⟨m5,P⟩,H4,g4,d4,e4,_⟩:=H3.Ju d Q0 (aA (ax rfl)) G4 E;obtain rfl:=e4 ⟨p+1,rfl⟩;obtain⟨N5,JI,o,x,D5,T5,s,W,Q,a5,r5,t,u,H5,L,f,L5⟩:=cM.yq d m5 (sl:=Ss) H4 C P;obtain rfl:=L.oX ⟨p+1,rfl⟩;obtain rfl:=u W id;refine⟨N1+(N2+(N3+(N4+N5))),o,x,D5,T5,s,W,Q,runNT_then r1 (runNT_then r2 (runNT_then r3 (runNT_then r4 r5))),t,H5,B.trans ((l.AK c L2).trans (g3.trans (g4.trans (L.AK f L5)))),?_⟩;rw[f,d4,cX,F,c,d1,h0];rfl
def zE(role:Nat->Option fo)(ch:Nat->Option fE):Prop:=∀i r,role i=U r->0<i->∃st,ch r.aM.c=U st∧st.shut=Z
theorem Inv.runs(I:Inv K role (· =0) md ch cl who D T gs v)(hs:zE role ch)(a:0<i)(k:i<gs.size)(t:2<=(D i).stage):∃g,gs[i]? =U g∧g.status=dM:=by
 refine⟨_,iq k,?_⟩;have c:=I.gJ i _ (Eh a) (iq k);cases e:role i with
 |none=>rw[e] at c;have:=c.2.1;omega
 |some r=>
  rw[e] at c;rcases c with⟨l,_,b⟩|⟨_,_,_,_,d⟩|⟨_,_,_,_,d⟩|⟨q,_,_,d⟩
  ·rcases b.status with⟨h,_⟩|⟨_,h⟩
   ·grind
   ·obtain⟨s,p,c⟩:=I.ny i r e l (Eh a);obtain⟨o,f,m⟩:=hs i r e a
    grind
  ·exact o7 (λ_ _ x=>x.1) v (L.refl _ _) d
  ·exact o7 (λ_ _ x=>x.1) v (nS _) d
  grind[Go.ConcN.WSit.running_of]
structure Wt(role:Nat->Option fo)(ch:Nat->Option fE)(cl:Nat->eU)(D:Nat->dm)(T:eo)(gs:Array aU)(v:av)(R:Nat->Option fE)(cl':Nat->eU)(D':Nat->dm)(T':eo)(M:Array aU)(v':av):Prop where
 size:M.size=gs.size
 left:Left cl (· =0) v v'
 cls:∀b,b<v.heap.size->cl' b=cl b
 ig:∀j,j≠0->(D' j).stage<=(D j).stage
 own:(D' 0).own=(D 0).own
 stage:(D' 0).stage=(D 0).stage
 eT:∀j r,role j=U r->j≠0->R r.aM.c=ch r.aM.c
theorem Wt.trans{d}{e}{o}{p}{f}{k}(a:Wt role ch cl D T gs v R cl' D' T' M v')(b:Wt role R cl' D' T' M v' d e o p f k):Wt role ch cl D T gs v d e o p f k:=
 ⟨b.size.trans a.size,a.left.trans a.cls b.left,λx l=>(b.cls x (cF l a.left.size)).trans (a.cls x l),λj c=>bq (b.ig j c) (a.ig j c),b.own.trans a.own,b.stage.trans a.stage,λj r m c=>(b.eT j r m c).trans (a.eT j r m c)⟩
theorem Wt.refl:Wt role ch cl D T gs v ch cl D T gs v:=⟨rfl,Left.refl _ _ _,λ_ _=>rfl,λ_ _=>aW _,rfl,rfl,λ_ _ _ _=>rfl⟩
theorem oB.wt(L:oB K role (· =0) md ch cl who D T gs v md' R cl' D' T' M v'):Wt role ch cl D T gs v R cl' D' T' M v':=⟨L.size,L.left,L.cls,λj _=>L.ig j,by rw[L.zL 0 rfl],by rw[L.zL 0 rfl],λj r b a=>L.eT j r b a⟩
theorem zE.later(h:zE role ch)(e:∀j r,role j=U r->j≠0->R r.aM.c=ch r.aM.c):zE role R:=λi r a b=>by
 obtain⟨d,k,f⟩:=h i r a b
 grind
theorem mI.amP{c b}(a:mI n D md c b)(f:∀p,md≠ .opn p)(q:md≠ .sema):∃i,0<i∧i<n∧2<=(D i).stage:=by
 cases md with
 |opn p=>grind
 |reg=>
  obtain⟨_,e,_⟩:=a;refine nq λd=>?_;have:V2 n D=0:=by
   unfold V2;rw[yH (g:=λ_=>0) λi k=>?_]
   ·grind[Dy]
   ·unfold fW
    grind
  omega
 |last=>
  obtain⟨l,o,m,h,_⟩:=a
  grind
 |sema=>grind
def Bd(K:fy)(role:Nat->Option fo)(E:aU)(ch:Nat->Option fE)(cl:Nat->eU)(D:Nat->dm)(T:eo)(gs:Array aU)(v:av)(sl:Option (Nat×Nat)):Prop:=
 ∃N R cl' D' T' M v' dF a',gZ K.P N (dw gs v sl) T=(fQ (dw M v' dF),T')∧M[0]? =U a'∧(∃m,GQ K.P K.L K.Wg (aiF K.P K.L K.Wg E) m a' v')∧cM K role 0 (.opn 0) R cl' (.hold 0) D' T' M v'∧Wt role ch cl D T gs v R cl' D' T' M v'∧(D' 0).deaf=1∧(∀i,0<i->i<gs.size->(D' i).stage=1)
theorem Bd.ux{f}{d:Nat}{N}(t:gZ K.P N (dw gs v sl) T=(fQ (dw M v' dF),T'))(w:Wt role ch cl D T gs v R cl' D' T' M v')(h:Bd K role f R cl' D' T' M v' dF):Bd K role f ch cl D T gs v sl:=by obtain⟨x,b,c,z,B,e,q,a,u,r,p,y,s,m,A,l⟩:=h;exact⟨N+x,b,c,z,B,e,q,a,u,runNT_then t r,p,y,s,w.trans m,A,λi o k=>l i o (by rw[w.size];grind)⟩
def Q4(K:fy)(role:Nat->Option fo)(a J:aU)(E:Nat×Nat):Prop:=∀(md:Md) (ch:Nat->Option fE) (cl:Nat->eU) (D:Nat->dm) (T:eo) (gs:Array aU) (v:av) (sl:Option (Nat×Nat)) (y:aU),nJ gs.size D=E->
  Inv K role (· =0) md ch cl (.hold 0) D T gs v->nL K role (· =0) ch D->Fy role (· =0) ch->zE role ch->(∀p,md≠ .opn p)->gs[0]? =U y->(y=a∨(y={a with status:=.blocked}∧md≠ .sema))->(D 0).deaf=1->Bd K role J ch cl D T gs v sl
theorem ayc{a:aU}(h:a.status=dM):{a with status:=dM}=a:=by cases a;grind
theorem aas(hl:K.live=Z){a Q3:aU}{Q:Nat×Nat}(X:∀N,Lt2 N Q->Q4 K role a Q3 N)(har:a.status=dM)(H:a.offers=V){y:aU}(w:nJ gs.size D=Q)(I:Inv K role (· =0) md ch cl (.hold 0) D T gs v)(C:nL K role (· =0) ch D)(E:Fy role (· =0) ch)(hs:zE role ch)(f:∀p,md≠ .opn p)
  (P:gs[0]? =U y) (Q1:y=a∨(y={a with status:=.blocked}∧md≠ .sema)) (hd:(D 0).deaf=1) {i d:Nat} {g:aU} (O:gs[i]? =U g) (Q2:g.status=dM) (c:i≠0) (F:stepT K.P (dw gs v sl)=runT K.P (dw gs (v.at d) dF) i):Bd K role Q3 ch cl D T gs v sl:=by
 have B:kU (· =0) gs:=by
  rintro j t rfl s
  grind
 rcases(I.at d).other (sl:=dF) C B c O Q2 (λp z=>absurd z (f p)) with⟨md',R,cl',D',T',M,v',S,J,k,x⟩|⟨r,g2,A,m,h9,Q0,l,W⟩
 ·obtain⟨QW,u,rfl⟩:=S.run;have L:=(oB.at I C d).trans ((I.at d).later c O S J k x);obtain⟨t,s,o⟩:=S.Bw 0 y rfl P;have q:∀p,md'≠ .opn p:=λp z=>f p (L.opn p z);have b:t=a∨(t={a with status:=.blocked}∧md'≠ .sema):=by
   rcases Q1 with rfl|⟨rfl,hm⟩
   ·rcases o with rfl|⟨hb,_⟩
    ·grind
    grind
   ·rcases o with rfl|⟨_,rfl⟩
    ·refine aA ⟨rfl,λe=>?_⟩;rcases S.sema e with h|h
     ·grind
     grind
    grind[ayc]
  refine Bd.ux (d:=d) (N:=1) ?_ L.wt (X (nJ M.size D') (by rw[<-w,S.size];exact S.lt) md' R cl' D' _ M v' dF t rfl S.inv J (λj r A m hs F=>E j r A m hs (by grind)) (hs.later λj r m hj=>k j r m hj) q s b (by rw[S.zL 0 rfl];grind))
  grind[pO]
 ·obtain⟨e1,e2⟩:=E i r A m c l
  grind
theorem aat(y:K.live=Z){a u}{z}(F:∀w,Lt2 w z->Q4 K role a u w)(l:a.status=dM)(b:a.offers=V)(f:nJ gs.size D=z)(I:Inv K role (· =0) md ch cl (.hold 0) D T gs v)(C:nL K role (· =0) ch D)(E:Fy role (· =0) ch)(hs:zE role ch)(c:∀p,md≠ .opn p)
  (A:gs[0]? =U {a with status:=.blocked}) (x:md≠ .sema) (B:(D 0).deaf=1):Bd K role u ch cl D T gs v sl:=by
 have m:kU (· =0) gs:=by
  rintro j O rfl H
  grind
 obtain⟨M,N,L,k⟩:=I.wg y;obtain⟨i,s,o,J⟩:=k.amP c x;obtain⟨g,r,q⟩:=I.runs hs s o J;obtain⟨i,g,d,dF,o,r,t⟩:=Ox (P:=K.P) (w:=v) (sl:=sl) (I.awake m) ⟨i,g,r,q⟩;refine aas y F l b f I C E hs c A (aA ⟨rfl,x⟩) B o r (λe=>?_) t
 grind
theorem Inv.sem(o:K.live=Z){a N:aU}(Q2:∀w1,jq K.L.tWg K.Wg w1->Ye K.P K.L K.Wg N a w1)(hb:∀n,V2 n D<=2)(J:Nat×Nat):Q4 K role a N J:=by
 refine(Prod.lex Fb Fb).wf.induction (C:=λJ=>Q4 K role a N J) J ?_;intro J R md ch cl D T gs v sl y x I C E Q m z hc M;obtain⟨q,c,r,f⟩:=Q2 v (I.live o);rcases hc with rfl|⟨rfl,Q1⟩
 ·have W:kU (· =0) gs:=by
   rintro j y' rfl yR
   grind
  obtain⟨i,g,d,dF,B,hg,t⟩:=Ox (P:=K.P) (w:=v) (sl:=sl) (I.awake W) ⟨0,y,z,q⟩;by_cases A:i=0
  ·subst A;have H:cM K role 0 md ch cl (.hold 0) D T gs (v.at d):=⟨I.at d,C,E,λp Q0=>absurd Q0 (m p)⟩;obtain⟨st,sm,O,l⟩:=H.inv.wg o;obtain⟨_,_,r,f⟩:=Q2 (v.at d) (H.inv.live o);have F:(∃st,WgAt K.L.tWg K.Wg (v.at d) st 0)->md≠ .sema->Bd K role N ch cl D T gs v sl:=λX Q1=>by
    obtain⟨L,u,s⟩:=H.MI (sl:=dF) o z (r X) (.refl _ _) O l (by simp) H.bound
    have e0:bz D 0 {D 0 with deaf:=jD (D 0).deaf #[]}=D:=uv D 0;rw[e0] at u;refine Bd.ux (d:=d) (N:=1) (pO (t.trans L)) ⟨by simp,Left.at _ _ _ _,λ_ _=>rfl,λ_ _=>aW _,rfl,rfl,λ_ _ _ _=>rfl⟩ (aat o R q c (by grind) u.inv u.fR u.tH Q m s Q1 M)
   cases md with
   |opn p=>grind
   |reg=>obtain⟨_,_,_,rfl⟩:=l;grind
   |last=>obtain⟨_,_,_,_,_,_,rfl⟩:=l;grind
   |sema=>
    obtain⟨h1,rfl,rfl⟩:=l;obtain⟨g',S,hk⟩:=f O;have hv:V2 gs.size D=0:=by
     unfold V2;rw[yH (g:=λ_=>0) λi B=>?_]
     ·grind[Dy]
     ·unfold fW
      grind
    obtain⟨L,u,s⟩:=H.MI (sl:=dF) (md':=.opn 0) o z S (aside_setCell _ (smA K.Wg) _) (O.setSm 0) ⟨λi B w=>aA (h1 i B w),by grind,rfl⟩ (λe he=>by
     simp[AU] at he;rcases he with rfl|rfl|rfl|rfl
     ·exact ax (ax rfl)
     ·exact ax (bk_cell _ _ rfl)
     ·exact ax (bk_cell _ _ rfl)
     ·exact ax (aA (ax rfl))) (λp Q0=>by grind)
    have k:=aside_setCell (v.at d) (smA K.Wg) (Y .u32 0);refine⟨1,ch,cl,_,_,_,_,dF,g',pO (t.trans L),s,hk,u,⟨by simp,(Left.at cl _ v d).trans (λ_ _=>rfl) (cl':=cl) ⟨vF k.size.symm,λb hb hx=>k.block b λe=>?_,k.os,k.tape,k.output⟩,λ_ _=>rfl,λj hj=>by rw[cQ D _ hj];grind,by rw[cX],by rw[cX],λ_ _ _ _=>rfl⟩,by rw[cX,M];rfl,λi B w=>by grind[upd_ne]⟩
    have e':b=K.Wg:=e;subst e';rw[I.jR o] at hx
    grind
  ·exact aas o R q c x I C E Q m z (ax rfl) M B hg A t
 ·exact aat o R q c x I C E Q m z Q1 M
theorem zy.wt(G:zy role ch cl D T gs v R cl' D' T' M v'):Wt role ch cl D T gs v R cl' D' T' M v':=⟨G.size,G.left,G.cls,G.ig,G.own,G.stage,G.eT⟩
def wM(K:fy)(role:Nat->Option fo)(E:aU)(ch:Nat->Option fE)(cl:Nat->eU)(D:Nat->dm)(T:eo)(gs:Array aU)(v:av)(sl:Option (Nat×Nat)):Prop:=
 ∃N R cl' D' T' M v' dF a',gZ K.P N (dw gs v sl) T=(fQ (dw M v' dF),T')∧M[0]? =U a'∧IF K.P K.L K.Wg E a' v'∧cM K role 0 (.opn 0) R cl' (.hold 0) D' T' M v'∧Wt role ch cl D T gs v R cl' D' T' M v'∧(D' 0).deaf=1∧(∀i,0<i->i<gs.size->(D' i).stage=1)
theorem wM.ux{e}{N}(s:gZ K.P N (dw gs v sl) T=(fQ (dw M v' dF),T'))(w:Wt role ch cl D T gs v R cl' D' T' M v')(h:wM K role e R cl' D' T' M v' dF):wM K role e ch cl D T gs v sl:=by obtain⟨u,b,c,y,A,d,p,a,t,r,o,x,q,l,z,k⟩:=h;exact⟨N+u,b,c,y,A,d,p,a,t,runNT_then s r,o,x,q,w.trans l,z,λi m f=>k i m (by rw[w.size];grind)⟩
theorem aBd(h:V2 n D=0):∀i,0<i->i<n->(D i).stage<5:=λi b a=>by
 have:=le_sumTo (f:=λx=>fW x (D x)) a;unfold V2 at h;rw[h] at this;unfold fW at this
 grind
theorem aBe(h:∀i,0<i->i<n->(D i).stage=1):V2 n D=0:=by
 unfold V2;rw[yH (g:=λ_=>0) λi a=>?_]
 ·grind[Dy]
 ·unfold fW
  grind
theorem cM.waitLoop(E:K.live=Z){Q1:aU}{Hd:aU->av->Prop}(hHd:∀g w,Hd g w->∃m,GQ K.P K.L K.Wg (Rg K.P K.L K.Wg Hd Q1) m g w):∀(Q0:Nat) {ch:Nat->Option fE} {cl:Nat->eU} {D:Nat->dm} {T:eo} {gs:Array aU} {v:av} {sl:Option (Nat×Nat)} {a:aU} {m:Nat},
  V2 gs.size D<=Q0->cM K role 0 (.opn 0) ch cl (.hold 0) D T gs v->zE role ch->gs[0]? =U a->(D 0).deaf=1->GQ K.P K.L K.Wg Hd m a v->wM K role Q1 ch cl D T gs v sl:=by
 intro Q0;induction Q0 using Nat.strongRecOn with
 |ind Q0 ih=>
 intro ch cl D T gs v sl a m hV H hs ha h1 hG;obtain⟨N1,gS,ou,gP,D1,T1,sD,v1,oS,a1,r1,pX,Cg,H1,G1,Ht,L1⟩:=cM.yq E m (sl:=sl) H ha hG;obtain rfl:=G1.oX ⟨0,rfl⟩;have W1:=(G1.AK Ht L1).wt;refine wM.ux r1 W1 ?_;have auT:=hs.later W1.eT;have Hp:V2 sD.size D1<=Q0:=bq (by rw[W1.size];exact Bc W1.ig) hV
 have Pw:(D1 0).deaf=1:=by grind
 obtain⟨m2,G2⟩:=hHd a1 v1 (Cg v1 id);obtain⟨N2,s,pC,kT,D2,T2,b,v2,gx,a2,r2,ha2,Ar,H2,g2,PS,L2⟩:=cM.yq E m2 (sl:=oS) H1 pX G2;obtain rfl:=g2.oX ⟨0,rfl⟩;have W2:=(g2.AK PS L2).wt;refine wM.ux r2 W2 ?_;have auS:=auT.later W2.eT;have awx:V2 b.size D2<=Q0:=bq (by rw[W2.size];exact Bc W2.ig) Hp
 have KZ:(D2 0).deaf=1:=by grind
 obtain⟨N3,JJ,zh,yb,l,T3,L,v3,Bx,a3,X,fn3,pl3,r3,Wl,⟨rfl,rfl,aFO,h3o,O,W⟩,H3,g3,hD3,_⟩:=H2.JB E ha2 (Ar v2 id).1
  (Fv:=λS v' X s f=>X= #[rd (stA K.Wg)]∧s=.opn 0∧V2 b.size f<=Q0∧OpenSt b.size f∧(V2 b.size f=0->IF K.P K.L K.Wg Q1 S v')∧(V2 b.size f≠0->∃m,GQ K.P K.L K.Wg (aiG K.P K.L K.Wg Hd Q1 (V2 b.size f)) m S v')) (λx Ui f st sm hr A k y KG z B=>by
   obtain rfl:=y ⟨0,rfl⟩;have c:=k;obtain⟨I,rfl,rfl⟩:=k;have hv:=B b.size;obtain⟨R,o,O,W⟩:=(Ar x hr).2 (V2 b.size f) (by omega) A
   exact⟨R,x,_,_,0,.opn 0,o,.refl _ _,A,c,Tm,λp' t=>by grind,rfl,rfl,bq (Bc z) awx,I,O,W⟩) gx
 have W3:=g3.wt;refine wM.ux r3 W3 ?_;have auR:=auS.later W3.eT;have KY:(bz l 0 {l 0 with deaf:=jD (l 0).deaf #[rd (stA K.Wg)]} 0).deaf=1:=by rw[cX,hD3,PS,Ht,h1];rfl
 have Wo:V2 L.size (bz l 0 {l 0 with deaf:=jD (l 0).deaf #[rd (stA K.Wg)]})=V2 b.size l:=by rw[W3.size];grind[zm,upd_ne]
 by_cases q:V2 b.size l=0
 ·
  have Vu:∀i,0<i->i<L.size->(bz l 0 {l 0 with deaf:=jD (l 0).deaf #[rd (stA K.Wg)]} i).stage=1:=λi J u=>by
   rw[cQ l _ (by omega)]
   have F:i<b.size:=by rw[<-W3.size];grind
   have:=aBd q i J F;rcases h3o i J F with h|h
   ·omega
   grind
  exact⟨0,zh,yb,_,_,L,v3,Bx,a3,rfl,Wl,O q,H3,Wt.refl,KY,Vu⟩
 ·obtain⟨m4,G4⟩:=W q;obtain⟨N4,Ol,yc,Ip,D4,T4,d,v4,Ss,a4,r4,ha4,O5,H4,g4,hD4,L4⟩:=cM.yq E m4 (sl:=Bx) H3 Wl G4;obtain rfl:=g4.oX ⟨0,rfl⟩;have W4:=(g4.AK hD4 L4).wt;refine wM.ux r4 W4 ?_;have auQ:=auR.later W4.eT;have KX:(D4 0).deaf=1:=by grind
  have EO:V2 d.size D4<=V2 b.size l:=by rw[<-Wo,W4.size];exact Bc W4.ig
  obtain⟨N5,JI,A2,A1,C,T5,gs5,v5,sl5,a5,es5,fn5,pl5,r5,Wk,r,H5,g5,hD5,_⟩:=H4.JB E ha4 (O5 v4 id).1
   (Fv:=λS v' X s f=>jD 1 X=1∧((s=.reg∧∃m,GQ K.P K.L K.Wg (Ye K.P K.L K.Wg Q1) m S v')∨(s=.opn 0∧V2 d.size f<V2 b.size l∧∃m,GQ K.P K.L K.Wg Hd m S v'))) (λx Ui f st sm hr A k y KG z B=>by
    obtain rfl:=y ⟨0,rfl⟩;have c:=k;obtain⟨I,rfl,rfl⟩:=k;have hv:=B d.size;have hle:V2 d.size f<=V2 d.size D4:=Bc z;obtain⟨avQ,Q⟩:=(O5 x hr).2 (V2 d.size f) (by omega) A
    by_cases e:V2 d.size f=V2 b.size l
    ·obtain⟨R,o,hk⟩:=avQ e;exact⟨R,_,_,_,0,.reg,o,aside_setCell x (stA K.Wg) _,A.setSt _,⟨I,by omega,by simp,rfl⟩,aay,λp' t=>(by cases t),rfl,ax ⟨rfl,hk⟩⟩
    ·obtain⟨R,o,hk⟩:=Q e;exact⟨R,x,_,_,0,.opn 0,o,.refl _ _,A,c,Tm,λp' t=>by cases t;omega,rfl,aA ⟨rfl,by omega,hk⟩⟩) Ss
  have W5:=g5.wt;refine wM.ux r5 W5 ?_;have Q2:=auQ.later W5.eT;obtain⟨P,r⟩:=r;have Hf:(bz C 0 {C 0 with deaf:=jD (C 0).deaf es5} 0).deaf=1:=by rw[cX,hD5,KX];exact P
  rcases r with⟨rfl,m6,G6⟩|⟨rfl,u,m6,G6⟩
  ·
   obtain⟨N6,Oj,Mh,QB,D6,T6,gs6,v6,sl6,a6,r6,ha6,Ew,H6,g6,hD6,L6⟩:=cM.yq E m6 (sl:=sl5) H5 Wk G6;have W6:=(g6.AK hD6 L6).wt;refine wM.ux r6 W6 ?_;have auO:=Q2.later W6.eT;have KW:(D6 0).deaf=1:=by rw[hD6];exact Hf
   obtain⟨N7,ch7,cl7,D7,T7,gs7,v7,sl7,a7,r7,ha7,⟨m7,G7⟩,H7,W7',KV,auH⟩:=Inv.sem (D:=D6) E (λx fK=>Ew x λ_=>fK) H6.fR.pG _ _ _ _ _ _ _ _ sl6 a6 rfl H6.inv H6.fR H6.tH auO (λp hp=>by have:=g6.opn p hp;cases this) ha6 (ax rfl) KW
   refine wM.ux r7 W7' ?_;have auF:gs7.size=gs6.size:=W7'.size;obtain⟨N8,md8,ch8,cl8,D8,T8,N,v8,sl8,a8,r8,ha8,GX,H8,g8,hD8,L8⟩:=cM.yq E m7 (sl:=sl7) H7 ha7 G7;obtain rfl:=g8.oX ⟨0,rfl⟩;have W8:=(g8.AK hD8 L8).wt;refine wM.ux r8 W8 ?_;have one:∀(D':Nat->dm) (M:Array aU),M.size=gs7.size->(∀j,j≠0->(D' j).stage<=(D7 j).stage)->OpenSt M.size D'->∀i,0<i->i<M.size->(D' i).stage=1:=λD' M e hle I i J u=>by
    have h7:=auH i J (by rw[<-auF,<-e];exact u)
    have:=hle i (by omega)
    rcases I i J u with h|h<;>omega
   obtain⟨N9,md9,ch9,cl9,D9,T9,gs9,v9,sl9,a9,es9,fn9,pl9,r9,ha9,⟨rfl,rfl,WB,hk9⟩,H9,g9,hD9,_⟩:=H8.JB E ha8 (GX v8 id).1
    (Fv:=λS v' X s f=>X= #[rd (stA K.Wg)]∧s=.opn 0∧(∀i,0<i->i<N.size->(f i).stage=1)∧IF K.P K.L K.Wg Q1 S v') (λx Ui f st sm hr A k y KG z B=>by
     obtain rfl:=y ⟨0,rfl⟩;have c:=k;obtain⟨I,rfl,rfl⟩:=k;have h1s:=one f N W8.size (λj hj=>bq (z j hj) (W8.ig j hj)) I;have q:V2 N.size f=0:=aBe h1s;rw[q] at A c;obtain⟨R,o,hk⟩:=(GX x hr).2 (by simpa using A)
     exact⟨R,x,_,_,0,.opn 0,o,.refl _ _,A,by rw[<-q];rw[<-q] at c;exact⟨I,rfl,rfl⟩,Tm,λp' t=>by cases t;omega,rfl,rfl,h1s,hk⟩) sl8
   have W9:=g9.wt;refine⟨N9,ch9,cl9,_,_,gs9,v9,sl9,a9,r9,ha9,hk9,H9,W9,?_,λi J u=>?_⟩
   ·rw[cX,hD9,hD8,KV];rfl
   ·rw[cQ D9 _ (by omega)];exact WB i J u
  ·
   have hV5:V2 gs5.size (bz C 0 {C 0 with deaf:=jD (C 0).deaf es5})=V2 d.size C:=by rw[W5.size];exact zm λi J _=>by rw[cQ C _ (by omega)]
   exact ih (V2 d.size C) (by omega) (vF hV5) H5 Q2 Wk Hf G6
theorem cM.drop(H:cM K role 0 (.opn 0) ch cl (.hold 0) D T gs v)(d:∀i,0<i->i<gs.size->(D i).stage=1):
  cM {K with n0:=T.size} (λ_=>V) 0 (.opn 0) ch cl (.hold 0) (λi=>if i=0 then D 0 else{D i with own:=[]}) T gs v:=by
 have I:=H.inv;have k:∀i,((λi=>if i=0 then D 0 else{D i with own:=[]}) i:dm).stage=(D i).stage:=λi=>by
  grind
 have u:∀i,((λi=>if i=0 then D 0 else{D i with own:=[]}) i:dm).deaf=(D i).deaf:=λi=>by
  grind
 refine⟨⟨λi g w x=>?_,λi B=>(I.deaf i B).trans (u i).symm,I.above,I.tr,λi b y=>?_,I.chan,λi r a=>(by grind),λi r a=>(by grind),λi j r E a=>(by grind),λC=>?_,I.jR,λi r a=>(by grind),I.norel,λF M z L=>?_,I.zero,λi r a=>(by grind)⟩,
  ⟨λi r a=>(by grind),λi r q a=>(by grind),λi j r E a=>(by grind),λi r a=>(by grind),λn=>?_⟩,λj r q a=>(by grind),H.bound⟩
 ·have c:0<i:=Ow w;have o:=(oZ.1 x).1;have t:=d i c o;have m:=I.gJ i g w x;simp only[Eh c,if_false];cases a:role i with
  |none=>rw[a] at m;exact⟨c,t,m.2.2.1,rfl⟩
  |some r=>
   rw[a] at m;rcases m with⟨h,_⟩|⟨h,_⟩|⟨h,_⟩|⟨_,_,_,l⟩
   ·omega
   ·omega
   ·omega
   ·refine⟨c,t,?_,rfl⟩;generalize f:(D i).stage=s at l;rw[t] at f;subst f;cases l with
    |quit J=>grind
 ·by_cases e:i=0
  ·subst e;exact I.own 0 b y
  grind
 ·obtain⟨q,A,l,p⟩:=I.wg C;exact⟨q,A,l,p.congr λj _ _=>k j⟩
 ·grind
 ·have e:V2 n (λi=>if i=0 then D 0 else{D i with own:=[]})=V2 n D:=zm λi _ _=>k i
  rw[e];exact H.fR.pG n
theorem atM{l}{b}(h:ox l=U b):l.isMemory=Z:=by cases l<;>first|rfl|cases h
theorem cM.alone(H:cM K (λ_=>V) 0 (.opn 0) ch cl (.hold 0) D T gs v)(m:T.HandedOver):
  cM {K with live:=ai,fL:=λl=>K.fL l∨∃b,ox l=U b∧cl b≠ .eN} (λ_=>V) 0 (.opn 0) (λ_=>V) (λb=>if cl b=.eN then .eN else .old) (.hold 0) (λi=>{D i with own:=[]}) T gs v:=by
 have I:=H.inv;refine⟨⟨λi g A t=>?_,I.deaf,I.above,⟨I.tr.clean,λi a b y f=>?_,I.tr.seen⟩,λi b f=>(by grind),λc w p=>(by grind),λi r d=>(by grind),λi r d=>(by grind),λi j r M d=>(by grind),λJ=>(by grind),λJ=>(by grind),λi r d=>(by grind),I.norel,I.qf,I.zero,λi r d=>(by grind)⟩,
  ⟨λi r d=>(by grind),λi r w d=>(by grind),λi j r M d=>(by grind),λi r d=>(by grind),H.fR.pG⟩,λj r w d=>(by grind),H.bound⟩
 ·obtain⟨E,N,L,O⟩:=I.gJ i g A t;exact⟨E,N,L,rfl⟩
 ·have F:=I.tr.known i a b y f;unfold Acc at F⊢;by_cases e:cl b=.eN
  ·grind
  ·simp only[e];obtain⟨x,u,o⟩:=Ag y;by_cases t:x.g=0
   ·grind[knows_own]
   ·by_cases p:T.counts i
    ·obtain⟨j,C,k⟩:=m i x.g (x3 u) t p;obtain⟨z,B,q⟩:=xI.1 C;exact ax ⟨j,z,B,q,aA k⟩
    ·refine aA ⟨aA ⟨b,f,e⟩,?_⟩;refine nq λs=>p ⟨a,?_,atM f,ax s⟩;simp[CR,u,o]
theorem abA{c T:eo}(h:c.HandedOver)(f:∃u,T=c++u)(e:∀b a,T[b]? =U a->c.size<=b->a.act.touch? ≠V->a.g=0):T.HandedOver:=by
 obtain⟨u,rfl⟩:=f;refine handedOver_app h λa d=>?_;by_cases l:a.act.touch? =V
 ·grind
 ·obtain⟨k,m⟩:=Array.mem_iff_getElem?.1 d;exact ax (e (c.size+k) a (by grind) (Nat.le_add_right _ _) l)
def Over(n0:Nat)(T:eo):Prop:=∃T0:eo,T0.HandedOver∧T0.size=n0∧∃u,T=T0++u
theorem Over.app{a}(h:Over a T)(u):Over a (T++u):=by obtain⟨e,c,b,d,rfl⟩:=h;exact⟨e,c,b,d++u,by grind⟩
theorem cM.over(H:cM K role 0 md ch cl (.hold 0) D T gs v)(Q2:Over K.n0 T)(L:∀i r,role i=U r->i<gs.size)(m:∀i,0<i->i<gs.size->(D i).stage=1){a:eo}{fn:fb}{A:String}(S:T=a++iC 0 fn A #[jo (qd (stA K.Wg))])(X:Deaf a 0=0):T.HandedOver:=by
 have I:=H.inv;have W:iC 0 fn A #[jo (qd (stA K.Wg))]= #[{g:=0,fn:=fn,pos:=A,act:=.mark (qd (stA K.Wg))}]:=by simp[iC,jo,gW]
 rw[W] at S;have M:T[a.size]? =U {g:=0,fn:=fn,pos:=A,act:=.mark (qd (stA K.Wg))}:=by grind
 have t:T.act? a.size=U (.mark (qd (stA K.Wg))):=Ae M;have q:T.g? a.size=U 0:=x3 M;have B:T.heard a.size:=⟨0,q,by rw[S,Ei (aW _)];exact X⟩
 have fP:T.size=a.size+1:=by grind
 intro i g d w Q;obtain⟨N,h1,h2,u,hu⟩:=Q2;rcases Ad i K.n0 with c|C
 ·have l:i<N.size:=by omega
  obtain⟨j,Q1,hb⟩:=h1 i g (by grind[g?_old]) w ((counts_old l).1 (by rw[<-hu];grind))
  have VS:j<N.size:=by
   unfold Trace.g? at Q1
   grind
  exact⟨j,by grind[g?_old],by grind[hb_app]⟩
 ·have E:∃y,T[i]? =U y∧y.g=g:=by
   unfold Trace.g? at d
   grind[Option.map_eq_some_iff]
  obtain⟨y,o,J⟩:=E;have b:y.act.touch? ≠V:=λe=>by obtain⟨x,E,_⟩:=Q;simp[CR,o,e] at E
  rcases I.qf i y o C b with F|F
  ·grind
  ·rw[J] at F;obtain⟨r,O⟩:=Option.isSome_iff_exists.1 F;have s:0<g:=Ow w;obtain⟨p,f⟩:=I.rel g r O s (by rw[m g s (L g r O)];omega)
   have P:p<T.size:=lt_of_act? f.act;have Q3:p≠a.size:=λe=>by have:=f.act;rw[e,t] at this;cases this
   have z:HappensBefore T p a.size:=.single (aA ⟨.marked (by omega) (aA f.act) t (λk _ _=>I.norel k),f.heard,B⟩)
   have Q0:i<=p:=Nat.le_of_not_lt λc=>f.after i c d Q;rcases Ad i p with c|R
   ·exact⟨a.size,q,.trans (.single (ax ⟨c,g,d,f.g⟩)) z⟩
   grind
theorem cM.joined(H:cM K role 0 (.opn 0) ch cl (.hold 0) D T gs v)(Q2:K.live=Z)(ho:Over K.n0 T)(oc:∀i r,role i=U r->i<gs.size){a gE:aU}(ha:gs[0]? =U a)(hE:IF K.P K.L K.Wg gE a v)(h1:(D 0).deaf=1)(x:∀i,0<i->i<gs.size->(D i).stage=1)(sl:Option (Nat×Nat)):
  ∃N t cl' D' T' M v' dF,gZ K.P N (dw gs v sl) T=(fQ (dw M v' dF),T')∧M[0]? =U gE∧cM t (λ_=>V) 0 (.opn 0) (λ_=>V) cl' (.hold 0) D' T' M v'∧t.P=K.P∧t.L=K.L∧t.live=ai∧Over t.n0 T'∧T'.HandedOver∧Left cl (λ_=>False) v v'∧(∀b,b<v.heap.size->∀c,(c=.eN∨c=.old)->cl b=c->cl' b=c)∧(D' 0).stage=(D 0).stage∧(D' 0).deaf=0∧M.size=gs.size:=by
 obtain⟨m1,G1⟩:=hE;obtain⟨N1,gS,ou,gP,D1,T1,sD,v1,Q0,a1,fn1,pl1,r1,O,⟨m2,G2⟩,H1,g1,d1,e1,_⟩:=H.Ju Q2 ha (aA (ax rfl)) G1 sl;obtain rfl:=e1 ⟨0,rfl⟩;have F:(D1 0).deaf=0:=by rw[d1,h1];rfl
 obtain⟨N2,uC,pC,kT,o,T2,Q1,v2,gx,a2,z,y,r2,R,⟨m3,G3⟩,Q,g2,d2,e2,aFr⟩:=H1.Ju Q2 O (aA (aA rfl)) G2 Q0;obtain rfl:=e2 ⟨0,rfl⟩;have KZ:(o 0).deaf=0:=by rw[d2,F];rfl
 have e:=g1.trans g2;have k:∀i,0<i->i<Q1.size->(o i).stage=1:=λi hi C=>by
  have h:=x i hi (by rw[<-e.size];grind)
  have hle:=e.ig i (by omega)
  have f:=Q.inv.gJ i _ (Eh hi) (iq C);cases X:role i with
  |none=>rw[X] at f;exact f.2.1
  |some r=>
   rw[X] at f;rcases f with⟨h9,_⟩|⟨h9,_⟩|⟨h9,_⟩|⟨_,_,_,A⟩
   ·omega
   ·omega
   ·omega
   ·have:1<=(o i).stage:=by generalize(o i).stage=s at A⊢;generalize(o i).fuel=m at A;generalize(o i).deaf=d at A;cases A<;>omega
    omega
 have I:Over K.n0 (T2++iC 0 z y #[jo (qd (stA K.Wg))]):=by obtain⟨u,hu⟩:=e.ext;rw[hu];exact ho.app u
 have w:=Q.over I (λi r X=>by rw[e.size];grind) k rfl (by grind)
 have H3:=Q.drop k;obtain⟨N4,Ol,yc,Ip,D4,T4,p,v4,B,a4,r4,L,E,H4,q,W,L4⟩:=cM.yq (K:={K with n0:=(T2++iC 0 z y #[jo (qd (stA K.Wg))]).size}) Q2 m3 (sl:=gx) H3 R G3;obtain rfl:=q.oX ⟨0,rfl⟩;obtain rfl:=E v4 id;have l:T4.HandedOver:=abA w q.ext λS op J hn ht=>by
  rcases H4.inv.qf S op J hn ht with h|h
  ·grind
  grind
 have fP:p.size=gs.size:=q.size.trans e.size;have hLL:Left cl (λ_=>False) v v4:=(e.left.trans e.cls L4).sub λ_ h=>h.elim;have aFw:∀b,b<v.heap.size->Ip b=cl b:=λb P=>(q.cls b (cF P e.left.size)).trans (e.cls b P);refine⟨N1+(N2+N4),_,_,_,T4,p,v4,B,runNT_then r1 (runNT_then r2 r4),L,H4.alone l,rfl,rfl,rfl,⟨_,w,rfl,q.ext⟩,l,hLL,λb P c hx hc=>?_,?_,?_,fP⟩
 ·grind
 ·rw[W];exact e.stage
 grind
theorem uV{r:GStep}{g'}{w'}{es'}(h:r.goes λg w a=>g=g'∧w=w'∧a=es'):r=bS g' w' es':=by
 cases r with
 |go g w a=>grind[goes_go]
 |_=>exact h.elim
theorem dh_none{O Rd}{w}{es}(h:∀e∈es,False):DH O Rd w w es:=⟨rfl,rfl,rfl,rfl,λ_ _=>rfl,λe a=>(h e a).elim⟩
theorem Xc{O}{w}{es}(h:∀e∈es,False):DO O w w es:=⟨rfl,rfl,rfl,rfl,rfl,λ_ _=>rfl,λe a=>(h e a).elim⟩
theorem Ok.walk_to{Q}{s}{a}(H:Ok K h s a)(O Rd){m}(f:(h==0)=m)(e:∀b∈O,b∈(s.D h).own)(d:∀b∈Rd,b<s.v.heap.size∧(s.cl b=.own h∨s.cl b=.eN))
  (c:∃n,cH K.P m (L (O++Rd)) (DH O Rd) (λg w=>g.status=dM∧∀t,t.v=w->s.runs K.P t->Ok K h t g->Kept h O s t->t.D h=s.D h->t.ch=s.ch->Q) n a s.v):Q:=by
 obtain⟨n,c⟩:=c;subst f;obtain⟨t,o,r,u,p,l,k,q⟩:=H.walk (λg w x=>x.1) c e d
 grind
theorem Ok.xu{Q}{s}{a}(H:Ok K h s a)(l:a.status=dM){m}(O:(h==0)=m)(c)(F:c=.own h∨c=.sh)
  (d:∀b,∃q k,(∀e,e.heap.size=b->L (s.D h).own s.v e->bZ K.P m a e=bS q {e with heap:=e.heap.push k} #[])∧
   ∀t,s.runs K.P t->Ok K h t q->Kept h [] s t->s.v.heap.size<=b->t.v=b+1->t.v.heap[b]? =k->t.cl b=c->t.ch=s.ch->(c=.own h->b∈(t.D h).own)->(t.D h).own=(if c=.own h then b::(s.D h).own else(s.D h).own)->(∀E∈t.T,E.act.low b)->t.ch b=V->Q):Q:=by
 classical
 subst O
 let f:Nat->aU:=λb=>Fh (d b)
 let o:Nat->Obj:=λb=>Fh (yI (d b))
 have p:=λb=>yI (yI (d b));obtain⟨t,b,R,r,M,A,z,J,C,y,N,w,P,x,u,B⟩:=H.Uv l (f:=f) (o:=o) (λe I=>(p e).1 e rfl I) c F;subst B;exact(p b).2 t r M A z J C y N w P x u
theorem gp{w:av}{b}{cs}{ty}{o}{x}(h:w.heap[b]? =U (aF cs ty))(a:cs[o]? =U x):w.cell? ⟨b,o,V⟩=U x:=by simp[og,h,a]
theorem ve{w:av}{b}{cs}{ty}(o)(h:w.heap[b]? =U (aF cs ty)):w.frozen? ⟨b,o,V⟩=ai:=by simp[wI,h]
theorem Mi{w:av}{b}{cs}{ty}(o)(x)(h:w.heap[b]? =U (aF cs ty)):w.setCell ⟨b,o,V⟩ x={w with heap:=w.heap.setIfInBounds b (aF (cs.setIfInBounds o x) ty)}:=by
 unfold jE;congr 1
 grind
theorem ow{w:av}{b}{cs}{ty}(o)(x)(h:w.heap[b]? =U (aF cs ty)):(w.setCell ⟨b,o,V⟩ x).heap[b]? =U (aF (cs.setIfInBounds o x) ty):=by
 grind[Mi,Array.getElem?_setIfInBounds_self_of_lt,Array.getElem?_eq_some_iff]
theorem agA{O Rd}{w}{b}{cs}{ty}{o}{x}(h:w.heap[b]? =U (aF cs ty))(k:b∈O){es}(d:∀e∈es,∃a wr,e=⟨.cell a,wr,ai⟩∧(a.block∈O∨a.block∈Rd)):DH O Rd w (w.setCell ⟨b,o,V⟩ x) es:=by rw[Mi o x h];exact⟨rfl,rfl,rfl,by simp,λc f=>mz λe=>f (by grind),d⟩
theorem DH.trans{O Rd}{w w1 f}{es es'}(a:DH O Rd w w1 es)(b:DH O Rd w1 f es'):DH O Rd w f (es++es'):=
 ⟨b.os.trans a.os,b.tape.trans a.tape,b.out.trans a.out,b.size.trans a.size,λc d=>(b.block c d).trans (a.block c d),λe k=>(Aj.1 k).elim (a.ev e) (b.ev e)⟩
theorem HG{O Rd}{w}{b}{cs}{ty}{o o'}{x x'}(h:w.heap[b]? =U (aF cs ty))(d:b∈O){es}(c:∀e∈es,∃a wr,e=⟨.cell a,wr,ai⟩∧(a.block∈O∨a.block∈Rd)):DH O Rd w ((w.setCell ⟨b,o,V⟩ x).setCell ⟨b,o',V⟩ x') es:=by
 have:=(agA (Rd:=Rd) (x:=x) (o:=o) h d (es:= #[]) (by simp)).trans (agA (Rd:=Rd) (x:=x') (o:=o') (ow o x h) d (es:=es) c)
 grind
theorem Ok.QE{Q}{s}{a}(H:Ok K h s a)(k:a.status=dM){m}(C:(h==0)=m)(E:K.live=ai)
  (f:∀b,∃o,(∀l,l.heap.size=b->L (s.D h).own s.v l->bZ K.P m a l=bS o {l with heap:=l.heap.push (.chan 1 #[] ai 0 0 ai)} #[])∧
   ∀t,s.runs K.P t->Ok K h t o->Kept h [] s t->s.v.heap.size<=b->t.v=b+1->t.ch=bz s.ch b (U ⟨V,ai,0⟩)->s.ch b=V->(t.D h).own=(s.D h).own->Q):Q:=by
 refine H.xu k C .sh (aA rfl) λb=>?_;obtain⟨o,w,z⟩:=f b;refine⟨o,_,w,λt r A d x B q y u M P J p=>?_⟩;refine z {t with ch:=bz t.ch b (U ⟨V,ai,0⟩)} r (A.reg q y p λe=>by grind) ⟨d.size,d.role,d.md,d.left,d.cls,d.rest,λc F I=>?_,d.own,d.v2⟩ x B (by rw[u]) (by grind) (by grind)
 grind[upd_ne]
end
section
open Go.Proofs
abbrev dK:Go.Conc.Lib.WgLink:={add:=55,done:=57,wait:=61,relMerge:=87,disable:=88,enable:=89,inBubble:=90,associate:=91,fatal:=92,uOr:=93,uAdd:=94,raceRead:=95,uLoad:=96,uStore:=97,disassociate:=98,semrelease:=99,acquire:=106,isAssociated:=107,uCas:=108,raceWrite:=109,semacquire:=110,orU64:=142,addU64:=143,loadU64:=144,storeU64:=145,casU64:=172,tWgP:=162,tUP:=164,tAssoc:=165,tWg:=125,tAU:=122,tU64:=120,tUint:=169,tU32:=123,tPU32:=170,tPAU:=223,tPU64:=225,tNoCopy:=117,tANoCopy:=118,tAlign64:=119}
theorem Dl:Go.Conc.Lib.WgLib aC dK:=
 ⟨func55,func57,func61,func87,func88,func89,func90,func91,func92,func93,func94,func95,func96,func97,func98,func99,func106,func107,func108,func109,func110,func142,func143,func144,func145,func172,underlying162,Tryz.runUnderlying162,sizeOf162,isAgg162,zeroValue162,underlying164,Tryz.runUnderlying164,sizeOf164,isAgg164,zeroValue164,underlying165,Tryz.runUnderlying165,sizeOf165,isAgg165,zeroValue165,underlying125,Tryz.runUnderlying125,sizeOf125,isAgg125,zeroValue125,underlying122,Tryz.runUnderlying122,sizeOf122,isAgg122,zeroValue122,underlying120,Tryz.runUnderlying120,sizeOf120,isAgg120,zeroValue120,underlying169,Tryz.runUnderlying169,sizeOf169,isAgg169,zeroValue169,underlying123,Tryz.runUnderlying123,sizeOf123,isAgg123,zeroValue123,underlying170,Tryz.runUnderlying170,sizeOf170,isAgg170,zeroValue170,underlying223,Tryz.runUnderlying223,sizeOf223,isAgg223,zeroValue223,underlying225,Tryz.runUnderlying225,sizeOf225,isAgg225,zeroValue225,underlying0,Tryz.runUnderlying0,sizeOf0,isAgg0,zeroValue0,underlying3,Tryz.runUnderlying3,sizeOf3,isAgg3,zeroValue3,underlying4,Tryz.runUnderlying4,sizeOf4,isAgg4,zeroValue4,underlying9,Tryz.runUnderlying9,sizeOf9,isAgg9,zeroValue9,underlying20,Tryz.runUnderlying20,sizeOf20,isAgg20,zeroValue20,underlying21,Tryz.runUnderlying21,sizeOf21,isAgg21,zeroValue21,(by kernel_rfl),(by kernel_rfl)⟩
end
section
open Go.Conc Go.RowKit Go.Conc.Lib Go.ConcR.Gen
open Go.ConcN (WgLive)
open Go.ConcN.Gen (WgLive.cell0 WgLive.cell1)
open Go.ConcR (KK WgAt stA smA wgBlock rd wr mk Bk)
class Qt(R:av->av->Prop)(D:av->av->Array iW->Prop):Prop where
 q:∀w,D w w #[]
 r:∀w,R w w
theorem dG{P:bU}{b:Bool}{R:av->av->Prop}{D:av->av->Array iW->Prop}[Q:Qt R D]{S:aU->av->Prop}:∀{n:Nat} {g:aU} {w:av},cH P b R Go.ConcR.DC0 S n g w->cH P b R D S n g w
 |0,_,_,h=>h
 |_+1,_,_,ax h=>ax h
 |_+1,g,w,aA ⟨d,h⟩=>aA ⟨d,λa r=>by
  have h:=h a r;cases c:bZ P b g a with
  |go f e i=>
   rw[c,eI] at h;rw[eI];obtain⟨⟨rfl,rfl⟩,h⟩:=h;exact⟨Q.q _,dG h⟩
  |_=>rw[c] at h;exact h⟩
theorem axr{P}{b}{R}{D}{S}{m}{g}{w}(k)(h:cH P b R D S m g w):cH P b R D S (m+k) g w:=by
 induction k with
 |zero=>exact h
 |succ k a=>exact a.more
theorem jT{P:bU}{b:Bool}{R:av->av->Prop}{D:av->av->Array iW->Prop}[Q:Qt R D]{m:Nat}{S:aU->av->Prop}:∀{n:Nat} {g:aU} {w:av},cH P b R Go.ConcR.DC0 (λg w=>cH P b R D S m g w) n g w->cH P b R D S (m+n) g w
 |0,_,w,h=>h w (Q.r w)
 |n+1,_,w,ax h=>axr (n+1) (h w (Q.r w))
 |_+1,g,w,aA ⟨d,h⟩=>aA ⟨d,λa r=>by
  have h:=h a r;cases c:bZ P b g a with
  |go f e i=>
   rw[c,eI] at h;rw[eI];obtain⟨⟨rfl,rfl⟩,h⟩:=h;exact⟨Q.q _,jT h⟩
  |_=>rw[c] at h;exact h⟩
theorem lift{P}{b}{R}{D}[Qt R D]{m}{S}{g}{w}(h:cH P b R Go.ConcR.DC0 (λg w=>cH P b R D S m g w) 60 g w):cH P b R D S (m+60) g w:=jT h
instance {L:WgLink} {Wg:Nat}:Qt (RL L Wg) (DQ Wg):=⟨λ_=>dq_none (by simp),λw=>RL.refl L Wg w⟩
theorem E{L}{a}{w w1}(h:jq L.tWg a w)(r:RL L a w w1):jq L.tWg a w1:=r h
theorem bd2:bits .and cK 8589934592 2147483648=0:=by decide
theorem be2:bits .and cK 8589934592 2147483647=0:=by decide
end
section
open Go.Proofs Go.Conc Go.RowKit Go.Conc.Lib Go.ConcR.Gen
open Go.ConcN (upd upd_ne upd_same WgLive)
open Go.ConcR (KK WgAt stA smA wgBlock rd wr mk Bk)
instance {O O' Rd:List Nat}:Qt (L O') (DH O Rd):=⟨λ_=>dh_none (by simp),L.refl O'⟩
instance {O O':List Nat}:Qt (L O') (DO O):=⟨λ_=>Xc (by simp),L.refl O'⟩
theorem A{O}{w w1}(h:True)(r:L O w w1):True:=trivial
noncomputable def rR:Array dD:=match zf.body.getD .skip with|eE _ (eE (dQ _ ops _) _)=>ops|_=> #[]
theorem aoU(t):lZ (aC.follows mE) rR t=[0,1,2,3]∨lZ (aC.follows mE) rR t=[1,0,2,3]:=by
 have n:aC.follows mE=Z:=by kernel_rfl
 have e:rR.size=4:=by kernel_rfl
 have m:iO .any rR #[ai,ai,ai,ai]=[0,1]:=by kernel_rfl
 have j:iO .any rR #[Z,ai,ai,ai]=[1]:=by kernel_rfl
 have g:iO .any rR #[ai,Z,ai,ai]=[0]:=by kernel_rfl
 have f:iO .any rR #[Z,Z,ai,ai]=[2]:=by kernel_rfl
 have d:iO .any rR #[Z,Z,Z,ai]=[3]:=by kernel_rfl
 have step:∀(c t:Nat) (l:Array Bool) (b:List Nat),wF .any rR (c+1) t l b=match(iO .any rR l)[t % (iO .any rR l).length]? with
   |some i=>wF .any rR c (t/ (iO .any rR l).length) (l.setIfInBounds i Z) (i::b)
   |none=>b.reverse:=λ_ _ _ _=>rfl
 have z:∀t b l,wF .any rR 0 t l b=b.reverse:=λ_ _ _=>rfl;simp only[lZ,n,Bool.true_or,iM,Region.linearise,e];have k:sH 4 ai= #[ai,ai,ai,ai]:=rfl;rw[k,step,m];rcases Nat.mod_two_eq_zero_or_one t with h|h
 ·left;simp[h,step,j,f,d,z,Nat.mod_one]
 ·right;simp[h,step,g,f,d,z,Nat.mod_one]
theorem afK{P}{main}{b:aX}{a}{e}{fn}{v}{es}{w}{K}{f:aX}{d}{ops}{i}{rest}{k}{cs}
  (g:b.kind=er) (n:a.defers=[]) (m:P.funcs[b.fn]? =U fn) (j:(jN fn a.tmps).run P w=aV v w) (l:(jN fn a.tmps).events P w #[]=es)
  (h:K (G (f.at (d.put ((ops[i]?).bind (·.dst)) v) (aP ops rest::k)) cs) w (seen P b.fn es)):
  (bZ P main (G {b.at a e with mode:=fC} (f.at d (aP ops (i::rest)::k)::cs)) w).goes K:=by
 have:bZ P main (G {b.at a e with mode:=fC} (f.at d (aP ops (i::rest)::k)::cs)) w=bS (G ((f.at d (aP ops (i::rest)::k)).finish v) cs) w (seen P b.fn es):=by simp[G,bZ,unwind,nC,Frame.at,g,n,m,j,l,ud]
 rw[this,Frame.finish_at];exact h
theorem Og(w):(Instr.makeChan 112 (Y aH 1)).run aC w=aV (cY (w)) (w.alloc (.chan 1 #[] ai 0 0 ai)):=by
 have h:(aC.info? 79).map (·.bytes)=U 24:=by kernel_rfl
 obtain⟨i,a,b⟩:=xI.1 h;simpa using run_makeChan (P:=aC) (w:=w) underlying112 a aH 1 (by omega) (by grind)
theorem Of(w)(es):(Instr.makeChan 112 (Y aH 1)).events aC w es=es:=by
 have h:(aC.info? 79).map (·.bytes)=U 24:=by kernel_rfl
 obtain⟨i,a,b⟩:=xI.1 h;simpa using events_makeChan (P:=aC) (w:=w) underlying112 a aH 1 (by omega) (by grind) es
section
variable {K:fy} {pF:aX} {pH:Act} {lg:Array dD} {pn:Nat} {oT:List Nat} {oY:List eS} {cs:List aX}
theorem acd(p:K.P=aC)(Q0:K.live=ai){Q:Prop}{s}(H:Ok K 0 s (G ((aY 53).at ⟨#[ak,ak,ak,ak],[]⟩ [bD (zf.body.getD .skip)]) (pF.at pH (aP lg (pn::oT)::oY)::cs)))
  (hQ:∀t S W,s.runs K.P t->Ok K 0 t (G (pF.at (pH.put ((lg[pn]?).bind (·.dst)) (bN #[cY (U S),cY (U W)])) (aP lg oT::oY)) cs)->Kept 0 [] s t->t.ch S=U ⟨V,ai,0⟩->t.ch W=U ⟨V,ai,0⟩->S≠W->s.v<=S->s.v<=W->Q):Q:=by
 simp only[zf,fO] at H;refine H.walk_to [] [] rfl (by simp) (by simp) ⟨608,?_⟩
 rw[p];have g:=trivial;refine dG ?_;u_c stepG_seq A g;u_reg A g;refine I (λl c=>⟨rfl,λt1 _ P H1 QX _ S=>?_⟩);refine H1.xu rfl rfl (.own 0) (ax rfl) λd=>?_;co_apply lG;co_apply lG;co_apply bP
 ·intro u k T;rw[p];co_apply uV;refine fT rfl rfl (by k_ne) (λK m=>?_)
  go_simp;exact m _ _ ⟨rfl,rfl,nX (by simp[go_sem])⟩
 intro t2 r2 H2 X n12 n22 O R Oe n62 n72 n82 n92;refine H2.walk_to [] [] rfl (by simp) (by simp) ⟨608,?_⟩
 rw[p];refine lift ?_;u_c N A g;u_c stepG_seq A g;refine I (λ_ c=>?_);replace g:=A g c;u_in A g;rw[stepG_region_draw];simp only[eI];refine⟨⟨rfl,rfl,rfl,rfl,λ_ _=>rfl,by simp⟩,?_⟩
 rename_i wd;have F:=aoU (wd.tape wd.drawn (.order (aY 53).fn 1));simp only[rR,zf,fO] at F;rcases F with F|F
 ·rw[F];refine I (λl c=>⟨rfl,λt3 _ Q2 H3 J d3 c3=>?_⟩);refine H3.QE rfl rfl Q0 λB=>?_;co_apply lG;co_apply bP
  ·intro u k T;rw[p];co_apply uV;refine fT rfl rfl (by k_ne) (λK m=>?_)
   have z:=Og u;go_simp
   try simp only[k]
   try walk_nrm
   exact m _ _ ⟨rfl,rfl,nX (by simp[go_sem,Of])⟩
  intro t4 r4 H4 Q1 x n24 w n44 n54;refine H4.QE rfl rfl Q0 λD=>?_;co_apply lG;co_apply bP
  ·intro u k T;rw[p];co_apply uV;refine fT rfl rfl (by k_ne) (λK m=>?_)
   have z:=Og u;go_simp
   try simp only[k]
   try walk_nrm
   exact m _ _ ⟨rfl,rfl,nX (by simp[go_sem,Of])⟩
  intro a r5 H5 k5 Ub TZ q TU n55;have o:=(J.trans Q1).trans k5;have g:a.v.heap[d]? =U (aF #[cY V,cY V] 114):=(o.rest d (by grind) R (by simp)).trans O
  refine H5.walk_to [d] [] rfl (λb k=>?_) (by simp) ⟨620,?_⟩
  ·grind
  rw[p];refine lift ?_;u_op (λ(h:_) (r:L ([d]++[]) _ _)=>(r.1 d (by simp)).trans h) g
  refine I (λ_ c=>?_);replace g:=(λ(h:_) (r:L ([d]++[]) _ _)=>(r.1 d (by simp)).trans h) g c
  u_in (λ(h:_) (r:L ([d]++[]) _ _)=>(r.1 d (by simp)).trans h) g
  refine fT rfl rfl (by k_ne) (λK m=>?_)
  have y:=gp (o:=0) g rfl;have qN:=ve 0 g;have j:=ow 0 (cY (U B)) g;have Q3:=gp (o:=1) j rfl;have jK:=ve 1 j;go_simp;refine m _ _ ⟨HG g (by simp) λe E=>?_,?_⟩
  ·have n:=mem_listed E;simp[go_sem,storedEv, *] at n
   grind
  have f:=ow 1 (cY (U D)) j;refine lift ?_;u_c N (λ(h:_) (r:L ([d]++[]) _ _)=>(r.1 d (by simp)).trans h) f
  u_c stepG_ret' (λ(h:_) (r:L ([d]++[]) _ _)=>(r.1 d (by simp)).trans h) f
  refine I (λ_ c=>?_);replace f:=(λ(h:_) (r:L ([d]++[]) _ _)=>(r.1 d (by simp)).trans h) f c
  u_in (λ(h:_) (r:L ([d]++[]) _ _)=>(r.1 d (by simp)).trans h) f
  have y:=gp (o:=0) f rfl;have Q3:=gp (o:=1) f rfl;refine afK (v:=bN #[cY (U B),cY (U D)]) rfl rfl func53 ?_ rfl ?_
  ·simp only[jN,zf];go_simp
  refine⟨⟨rfl,rfl,rfl,rfl,λ_ _=>rfl,λe E=>?_⟩,?_⟩
  ·have n:=mem_seen E;simp only[jN,zf] at n;simp[go_sem, *] at n
   grind
  refine I (λl c=>⟨rfl,λC v6 QW H6 k6 d6 M=>?_⟩);have kk:Kept 0 [] s C:=by
   have i:=(((QX.trans X).trans o).more (by simp)).trans k6
   refine⟨i.size,i.role,i.md,i.left,i.cls,λb k hc _=>i.rest b k hc λn=>?_,i.nI,i.own,i.v2⟩;simp only[dh,dJ,dO] at n;have:=QX.left.size;omega
  have s4:=bq (bq QX.left.size X.left.size) (bq J.left.size x);have e5:C.ch D=U ⟨V,ai,0⟩:=by rw[M,q,cX]
  have e4:C.ch B=U ⟨V,ai,0⟩:=by rw[M,q,cQ _ _ (by omega),w,cX]
  rw[<-p] at P Q2 QW;have hr:=((P.trans r2).trans (Q2.trans r4)).trans (r5.trans QW)
  grind
 ·rw[F];refine I (λl c=>⟨rfl,λt3 _ Q2 H3 J d3 c3=>?_⟩);refine H3.QE rfl rfl Q0 λB=>?_;co_apply lG;co_apply bP
  ·intro u k T;rw[p];co_apply uV;refine fT rfl rfl (by k_ne) (λK m=>?_)
   have z:=Og u;go_simp
   try simp only[k]
   try walk_nrm
   exact m _ _ ⟨rfl,rfl,nX (by simp[go_sem,Of])⟩
  intro t4 r4 H4 Q1 x n24 w n44 n54;refine H4.QE rfl rfl Q0 λD=>?_;co_apply lG;co_apply bP
  ·intro u k T;rw[p];co_apply uV;refine fT rfl rfl (by k_ne) (λK m=>?_)
   have z:=Og u;go_simp
   try simp only[k]
   try walk_nrm
   exact m _ _ ⟨rfl,rfl,nX (by simp[go_sem,Of])⟩
  intro a r5 H5 k5 Ub TZ q TU n55;have o:=(J.trans Q1).trans k5;have g:a.v.heap[d]? =U (aF #[cY V,cY V] 114):=(o.rest d (by grind) R (by simp)).trans O
  refine H5.walk_to [d] [] rfl (λb k=>?_) (by simp) ⟨620,?_⟩
  ·grind
  rw[p];refine lift ?_;u_op (λ(h:_) (r:L ([d]++[]) _ _)=>(r.1 d (by simp)).trans h) g
  refine I (λ_ c=>?_);replace g:=(λ(h:_) (r:L ([d]++[]) _ _)=>(r.1 d (by simp)).trans h) g c
  u_in (λ(h:_) (r:L ([d]++[]) _ _)=>(r.1 d (by simp)).trans h) g
  refine fT rfl rfl (by k_ne) (λK m=>?_)
  have y:=gp (o:=0) g rfl;have qN:=ve 0 g;have j:=ow 0 (cY (U D)) g;have Q3:=gp (o:=1) j rfl;have jK:=ve 1 j;go_simp;refine m _ _ ⟨HG g (by simp) λe E=>?_,?_⟩
  ·have n:=mem_listed E;simp[go_sem,storedEv, *] at n
   grind
  have f:=ow 1 (cY (U B)) j;refine lift ?_;u_c N (λ(h:_) (r:L ([d]++[]) _ _)=>(r.1 d (by simp)).trans h) f
  u_c stepG_ret' (λ(h:_) (r:L ([d]++[]) _ _)=>(r.1 d (by simp)).trans h) f
  refine I (λ_ c=>?_);replace f:=(λ(h:_) (r:L ([d]++[]) _ _)=>(r.1 d (by simp)).trans h) f c
  u_in (λ(h:_) (r:L ([d]++[]) _ _)=>(r.1 d (by simp)).trans h) f
  have y:=gp (o:=0) f rfl;have Q3:=gp (o:=1) f rfl;refine afK (v:=bN #[cY (U D),cY (U B)]) rfl rfl func53 ?_ rfl ?_
  ·simp only[jN,zf];go_simp
  refine⟨⟨rfl,rfl,rfl,rfl,λ_ _=>rfl,λe E=>?_⟩,?_⟩
  ·have n:=mem_seen E;simp only[jN,zf] at n;simp[go_sem, *] at n
   grind
  refine I (λl c=>⟨rfl,λC v6 QW H6 k6 d6 M=>?_⟩);have kk:Kept 0 [] s C:=by
   have i:=(((QX.trans X).trans o).more (by simp)).trans k6
   refine⟨i.size,i.role,i.md,i.left,i.cls,λb k hc _=>i.rest b k hc λn=>?_,i.nI,i.own,i.v2⟩;simp only[dh,dJ,dO] at n;have:=QX.left.size;omega
  have s4:=bq (bq QX.left.size X.left.size) (bq J.left.size x);have e5:C.ch D=U ⟨V,ai,0⟩:=by rw[M,q,cX]
  have e4:C.ch B=U ⟨V,ai,0⟩:=by rw[M,q,cQ _ _ (by omega),w,cX]
  rw[<-p] at P Q2 QW;have hr:=((P.trans r2).trans (Q2.trans r4)).trans (r5.trans QW)
  grind
end
end
section
open Go
def tk{α:Type}(f:Nat->α):Nat->Nat->List α
 |0,_=> []
 |n+1,i=>f i::tk f n (i+1)
theorem Y3{t:Type}(f:Nat->t):∀(l:List t) (i:Nat),(∀k (h:k<l.length),f (i+k)=l[k])->tk f l.length i=l
 | [],_,_=>rfl
 |a::l,i,h=>by
  have c:=h 0 (by simp)
  have:=Y3 f l (i+1) λk d=>by have:=h (k+1) (by grind);grind
  grind[tk]
theorem ahT(T):T=(tk (λk=>T.getD k ak) T.size 0).toArray:=by
 have:=Y3 (λk=>T.getD k ak) T.toList 0 λk h=>by simp at h;simp[h]
 grind
theorem oy(T:Array ay)(h:T.size=87):∃v0 v1 v2 v3 v4 v5 v6 v7 v8 v9 v10 L v12 lK x FJ t H Dr lJ K v21 Dq U p q B S Q FI I v31 g Dp s W m n A u v40 N V J FH mQ v46 z v j y v51 k i vv F mP G O o mO X P l mM C mL b w E v70 c v72 Dn r Y D a FG Dm f M Z mK R v85 d,T= #[v0,v1,v2,v3,v4,v5,v6,v7,v8,v9,v10,L,v12,lK,x,FJ,t,H,Dr,lJ,K,v21,Dq,U,p,q,B,S,Q,FI,I,v31,g,Dp,s,W,m,n,A,u,v40,N,V,J,FH,mQ,v46,z,v,j,y,v51,k,i,vv,F,mP,G,O,o,mO,X,P,l,mM,C,mL,b,w,E,v70,c,v72,Dn,r,Y,D,a,FG,Dm,f,M,Z,mK,R,v85,d]:=by have e:=ahT T;rw[h] at e;exact⟨_,_,_,_,_,_,_,_,_,_,_,_,_,_,_,_,_,_,_,_,_,_,_,_,_,_,_,_,_,_,_,_,_,_,_,_,_,_,_,_,_,_,_,_,_,_,_,_,_,_,_,_,_,_,_,_,_,_,_,_,_,_,_,_,_,_,_,_,_,_,_,_,_,_,_,_,_,_,_,_,_,_,_,_,_,_,_,e⟩
theorem QK(T:Array ay)(h:T.size=21):∃r v u o s n q t w p l k b a d f c i g m j,T= #[r,v,u,o,s,n,q,t,w,p,l,k,b,a,d,f,c,i,g,m,j]:=by have e:=ahT T;rw[h] at e;exact⟨_,_,_,_,_,_,_,_,_,_,_,_,_,_,_,_,_,_,_,_,_,e⟩
end
end Go.Proofs.YtpdbmpbmepkikaaGreatDoor
