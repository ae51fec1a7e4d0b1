/- Laws. -/
import Derived.Conc.CompanyDraw
import Derived.WalkKit
import Derived.Test.YtpdbmpbmepkikaaGreatDoorQ04
set_option maxRecDepth 100000
set_option maxHeartbeats 400000
set_option linter.all false
open Go.Proofs.Tryz
open And renaming intro->aM
open Array renaming replicate->tT
open Bool renaming true->Y,false->ai
open Classical renaming choose->G0
open Exists renaming intro->me
open Go renaming Goroutine->aX,Frame->aZ,undef->ak,World->ay,Value->az,Program->bW,stepG->cj,Oper->dJ,Trace->eB,Item->eY,Func->ep,FuncId->fq,runNT->ik,deafBehind->jZ,Event->jl,results->kA,doReturn->oz
open Go.CallKind renaming normal->eC
open Go.Code renaming seq->eI,region->ec
open Go.Conc renaming semEvents->Ce,base->bh,Goes->cK,crowd->dB,closeEvents->kM,served->kN
open Go.ConcN renaming upd->bE,WgLive->jK
open Go.ConcR renaming mk->jJ
open Go.Departure renaming mixedOrders->nG
open Go.FrameMode renaming returning->fH
open Go.GStep renaming go->bU,after->vj
open Go.GoStatus renaming running->dU
open Go.IntKind renaming i64->aC,u64->cO
open Go.Item renaming inRegion->aT,code->bF
open Go.Loc renaming mark->iq
open Go.Mark renaming acquire->rz
open Go.MemAct renaming ofEvent->ij,touch?->sG
open Go.MemOp renaming ofEvents->iI
open Go.Obj renaming cells->aH
open Go.Proofs.Tryz renaming f53->AG,prog->aF
open Go.Region renaming ready->iY,schedule->mK
open Go.Region.linearise renaming go->x5
open Go.Result renaming ok->aY
open Go.Stepped renaming next->fW
open Go.Trace renaming act?->EH
open Go.Value renaming int->V,agg->bJ,chan->de
open Go.World renaming setChan->ED,setCell->jk,cell?->pg,frozen?->x8
open Nat renaming lt_wfRel->GU
open Option renaming some->U,none->Z
open Or renaming inr->aA,inl->ax
open Relation renaming TransGen->tU
namespace Go.Proofs.YtpdbmpbmepkikaaGreatDoor
def agA:=@Nat.eq_zero_or_pos
def RP:=@Go.Conc.crowd_pick
def Yp:=@Go.Conc.finishComm_recv
def Mw:=@Array.empty_append
def Mv:=@Nat.pos_of_ne_zero
def RM:=@Array.append_empty
def FT:=@Nat.ne_of_gt
def eP:=@Go.Conc.goes_go
def I:=@Go.Conc.Goes.stop
def gh:=@Go.Conc.goes_oper_k
def oX:=@Go.Conc.listed_nil
def N:=@Go.Conc.stepG_region_end
section
open Go.Conc
open Go.ConcN (sumTo upd sumTo_upd upd_ne upd_same sumTo_congr le_sumTo WSit WgLive RW PayAt Has DWs EvW ShN AsideCell AtR0 RelBy bk_cell)
open Go.ConcR (KK WgAt stA smA wgBlock rd wr mk Bk)
open Go.Conc.Lib (WgLink)
variable{K:fG}{role:Nat->Option fC}{h j:Nat}{sp:Nat->Prop}{md md':Md}{ch z:Nat->Option fK}{cl cl':Nat->fa}{who zH:wZ}{D D':Nat->dw}{T T':eB}{gs R:Array aX}{v v':ay}{n i:Nat}{g:aX}{sl dK:Option<|Nat×Nat}
structure CM(K:fG)(role:Nat->Option fC)(D:Nat->dw):Prop where
 outs:∀i j r r',role i=U r->role j=U r'->i≠j->0<i->r'.out≠r.out
 end_:∀i r,role i=U r->0<i->∀O g2 w,r.aO.home O g2 w->r.C∈O/\∃m,cK K.P ai (L O) (DO O) (zG K.P K.L K.Wg r O) m (kN g2<|recvd r.aO.ok r.aO.z ai) w
 qA:∀n,V2 n D<=2
theorem oH.cast(C:oH K role sp ch D):CM K role D:=⟨C.outs,C.end_,C.qA⟩
theorem mV.ga(q:mV role sp ch D)(C:CM K role D):oH K role sp ch D:=⟨λi r b f c l=>by obtain⟨e,a⟩:=q i r b c;grind,λi r k b f c e d a=>by rw[(q i r b c).2 k d]at a;grind,C.outs,C.end_,C.qA⟩
structure xg(md:Md)(cl:Nat->fa)(T:eB)(gs:Array aX)(v:ay)(md':Md)(cl':Nat->fa)(T':eB)(R:Array aX)(v':ay):Prop where
 size:R.size=gs.size
 left:Left cl (λ_=>False) v v'
 cls:∀b,b<v.heap.size->cl' b=cl b
 md:(∃p,md=.opn p)->md'=md
 ext:∃u,T'=T++u
theorem xg.trans{d}{c}{l}{e}{f}(a:xg md cl T gs v md' cl' T' R v')(b:xg md' cl' T' R v' d c l e f):xg md cl T gs v d c l e f:=⟨b.size.trans a.size,a.left.trans a.cls b.left,λx k=>(b.cls x<|cE k a.left.size).trans<|a.cls x k,λm=>by rw[b.md<|by rw[a.md m];grind,a.md m],by obtain⟨u,rfl⟩:=a.ext;obtain⟨o,rfl⟩:=b.ext;grind⟩
theorem kD.passed(G:kD role h md ch cl D T gs v md' z cl' D' T' R v'):xg md cl T gs v md' cl' T' R v':=⟨G.size,G.left,G.cls,G.qd,G.ext⟩
theorem Left.sub{sp'}(L:Left cl sp v v')(hs:∀j,sp' j->sp j):Left cl sp' v v':=⟨L.size,λb e a=>L.block b e<|a.imp id λx=>x.imp id λ⟨x,d,c⟩=>⟨x,hs x d,c⟩,L.os,L.tape,L.out⟩
theorem Inv.atI(I:Inv K role sp md ch cl who D T gs v)(F:sp i)(p)(N:K.live=Y)(Q:7<=(D i).stage)(o:∀j r,j≠i->role j=U r->r.aO.c≠p.aO.c):Inv K (bE role i<|U p) sp md ch cl who D T gs v:=by
 have a:∀j,j≠i->bE role i (U p) j=role j:=λj H=>cT role _ H;refine⟨λj y d A=>?_,I.deaf,I.above,I.tr,I.own,I.chan,λj r b k d=>?_,λj r b z d=>?_,λj f L u s t k l E=>?_,I.wg,I.kE,λj r b C x=>?_,I.norel,λq O m J M=>?_,I.zero,λ_ _ _=>N⟩;.rw[a j λe=>d<|by grind];exact I.gP j y d A
 .rw[a j λe=>d<|by grind]at b;exact I.oq j r b k d
 .rw[a j λe=>d<|by grind]at b;exact I.out j r b z d
 .by_cases w:j=i<;>by_cases B:f=i;.grind
  .grind[upd_same]
  .grind[upd_same]
  .rw[a j w]at s;rw[a f B]at t;exact I.uniq j f L u s t k l E
 .by_cases e:j=i;.grind
  .rw[a j e]at b;exact I.rel j r b C x
 .refine(I.rA q O m J M).imp id λP=>?_;grind[upd_same]
theorem Io{gs}:lO (λ_=>False) gs:=λ_ _ h=>h.elim
theorem Inv.aBc{rj:fC}{k p:Nat}{x:az}(s:role j=U rj):∀(Q:Nat×Nat)(md:Md)(ch:Nat->Option fK)(cl:Nat->fa)(D:Nat->dw)(T:eB)(gs:Array aX)(v:ay)(sl:Option<|Nat×Nat),oE gs.size D=Q->Inv K role (λ_=>False) md ch cl (.pt p) D T gs v->mV role (λ_=>False) ch D->CM K role D->ch rj.aO.c=U ⟨U x,ai,k⟩->SentAt T rj.aO.c k p->(∀i r y,role i=U r->i≠j->ch r.aO.c=U y->y.buf=Z)->j<gs.size->(∀p,md=.opn p->p<=2)->∃N md' cl' D' T' R v' dK J,ik K.P N (dB gs v sl) T=(fW<|dB R v' dK,T')/\cP K role j md' (bE ch rj.aO.c<|U ⟨Z,ai,k+1⟩) cl' (.hold j) D' T' R v'/\R[j]?=U (kN J<|recvd rj.aO.ok x Y)/\rj.aO.home (D' j).own J v'/\(D' j).stage=9/\(D' j).deaf=0/\mV role (λ_=>False) (bE ch rj.aO.c<|U ⟨Z,ai,k+1⟩) D'/\xg md cl T gs v md' cl' T' R v':=by
 intro Q;refine(Prod.lex GU GU).wf.induction (C:=λQ=>∀(md:Md)(ch:Nat->Option fK)(cl:Nat->fa)(D:Nat->dw)(T:eB)(gs:Array aX)(v:ay)(sl:Option<|Nat×Nat),oE gs.size D=Q->Inv K role (λ_=>False) md ch cl (.pt p) D T gs v->mV role (λ_=>False) ch D->CM K role D->ch rj.aO.c=U ⟨U x,ai,k⟩->SentAt T rj.aO.c k p->(∀i r y,role i=U r->i≠j->ch r.aO.c=U y->y.buf=Z)->j<gs.size->(∀p,md=.opn p->p<=2)->∃N md' cl' D' T' R v' dK J,ik K.P N (dB gs v sl) T=(fW<|dB R v' dK,T')/\cP K role j md' (bE ch rj.aO.c<|U ⟨Z,ai,k+1⟩) cl' (.hold j) D' T' R v'/\R[j]?=U (kN J<|recvd rj.aO.ok x Y)/\rj.aO.home (D' j).own J v'/\(D' j).stage=9/\(D' j).deaf=0/\mV role (λ_=>False) (bE ch rj.aO.c<|U ⟨Z,ai,k+1⟩) D'/\xg md cl T gs v md' cl' T' R v') Q ?_;intro Q ih md ch cl D T gs v sl Y5 I q C hc A w QX hp;have azA:0<(D j).fuel:=by
  rcases agA (D j).fuel with h0|h0;.obtain⟨y,o,hb⟩:=I.oq j rj s (q j rj s id).1 id;grind
  grind
 have M:∃a,gs[j]?=U a/\a.status=dU:=by
  refine⟨gs[j],iy QX,?_⟩;have Q1:=I.gP j _ id<|iy QX;rw[s]at Q1;have h9:=(q j rj s id).1;rcases Q1 with⟨_,_,Zk⟩|⟨h8,_⟩|⟨h7,_⟩|⟨h7,_⟩
  .rcases Zk.status with⟨h1,_⟩|⟨_,h1⟩;.grind
   grind
  .omega
  .omega
  grind
 obtain⟨a,haj,Q2⟩:=M;obtain⟨i,g,d,dK,hi,hg,o⟩:=RP (P:=K.P) (w:=v) (sl:=sl) (I.awake Io) ⟨j,a,haj,Q2⟩;rcases(I.at d).other (sl:=dK) (q.ga C) Io id hi hg hp with⟨md',z,cl',D',T',R,v',S,C',NA,Y8⟩|⟨r,B,y,hr,h9,X,f,t⟩;.obtain⟨ops,l,rfl⟩:=S.run;have L:=(pI.at I (q.ga C) d).trans<|(I.at d).later id hi S C' NA Y8;obtain⟨rfl,q'⟩:=L.calm q;obtain⟨N,vM,lN,D2,T2,wH,v2,gH,J,h1,h2,h3,h4,h5,h6,h7,h8⟩:=ih (oE R.size D') (by rw[<-Y5,S.size];exact S.lt) md' _ cl' D' _ R v' dK rfl S.inv q' C'.cast hc (A.app _) w (by rw[S.size];grind) λp Na=>hp p<|L.opn p Na;refine⟨N+1,vM,lN,D2,T2,wH,v2,gH,J,?_,h2,h3,h4,h5,h6,h7,xg.trans ⟨S.size,L.left,L.cls,L.IX,_,rfl⟩ h8⟩;simp only[ik,o,l];grind
 .have wv:i=j:=by
   by_cases e:i=j;.exact e
   .have:=w i r y hr e f;rcases t with t|⟨_,t,_⟩;.exact absurd this t
    .rw[(q i r hr id).2 y f]at t;cases t
  subst wv;rw[s]at hr;cases hr;rw[hc]at f;cases f;have F:i<gs.size:=QX;obtain⟨xV,iz,xU⟩:=I.chan _ _ hc;have Gi:=pz xV;have azP:(v.at d).heap[rj.aO.c]?=U (.chan 1 #[x] ai (k+1) k ai):=xV;have l:=crowd_recv_buf (sl:=dK) hi (X.2.2.2.2.2<|v.at d) azP (by simp)<|(I.at d).Rq Io _;rw[Yp,Dp,Mw]at l;have azT:(#[x]:Array az).getD 0 ak=x:=rfl;have Q0:(#[x]:Array az).extract 1 (#[x]:Array az).size=#[]:=rfl;rw[azT,Q0]at l;have Gs:Deaf T i=0:=by rw[I.deaf i F];have Q1:=I.gP i g id hi;rw[s]at Q1;rcases Q1 with⟨_,h0,_⟩|⟨h8,_⟩|⟨h7,_⟩|⟨h7,_⟩<;>first|exact h0|omega
  have si:(D i).deaf=0:=by rw[<-I.deaf i F];exact Gs
  have qk:=acT i B.frame.fn B.frame.place rj.aO.c k 1;have Q3:∀W∈tc i B.frame.fn B.frame.place rj.aO.c k 1,W.act.low v.heap.size:=λW u=>by simp only[tc,fP,dj,dP,dY]at u;rcases u with rfl|rfl<;>exact Gi
  have ot:∀W∈tc i B.frame.fn B.frame.place rj.aO.c k 1,W.act≠.mark (.release<|stA K.Wg):=λW u=>by simp only[tc,fP,dj,dP,dY]at u;rcases u with rfl|rfl<;>simp
  have I1:=((I.at d).mute qk Q3 ot).pass<|Tr.take I.tr A Gs B.frame.fn B.frame.place 1 Gi;obtain⟨I2,L2⟩:=(I1.more (sp':=(.=i)) λ_ h=>h.elim).LP (c:=rj.aO.c) (st':=⟨Z,ai,k+1⟩) hc (v':=(v.at d).setChan rj.aO.c 1 #[] ai (k+1) (k+1) ai) rfl (λ_ _ _ _ _ _ _=>⟨rfl,rfl⟩) (λH E m h8 hs _=>by have:=(q H E m id).1;omega);have I3:=I2.put (i:=i) F (g':=kN B<|recvd rj.aO.ok x Y) (x':=D i) (λb hb=>hb) rfl (ax rfl) (λh=>h) (λO=>absurd rfl O) (λh=>h) (λ_ _ _ _ O=>absurd rfl O) (λ_ _ _ O=>absurd rfl O) λO=>absurd rfl O;rw[vD]at I3;have q3:mV role (λ_=>False) (bE ch rj.aO.c<|U ⟨Z,ai,k+1⟩) D:=λH E m hs=>by
   obtain⟨a1,a2⟩:=q H E m hs;refine⟨a1,λy o=>?_⟩;by_cases e:E.aO.c=rj.aO.c;.rw[e,dc]at o;cases o;rfl
   .rw[cT ch _ e]at o;exact a2 y o
  have q4:mV role (.=i) (bE ch rj.aO.c<|U ⟨Z,ai,k+1⟩) D:=λH E m hs=>q3 H E m id;refine⟨1,md,cl,D,_,_,_,dK,B,qI<|o.trans l,⟨I3,q4.ga C,λH E QW m Ga f=>?_,hp⟩,j5 F,?_,(q i rj s id).1,si,q3,⟨by simp,?_,λ_ _=>rfl,λ_=>rfl,_,rfl⟩⟩
  .by_cases e:E.aO.c=rj.aO.c;.rw[e,dc]at f;cases f;exact⟨rfl,λh=>by cases h⟩
   .rw[cT ch _ e]at f;exact⟨w H E QW m Ga f,λh=>by rw[(q H E m id).2 QW f]at h;cases h⟩
  .refine rj.aO.LD _ _ (v.at d) _ ⟨λb hb=>?_,by simp[ED]⟩ X.2.2.2.2.1;have:=(I.own i b hb).1;have lg:rj.aO.c≠b:=λe=>by rw[<-e,iz]at this;cases this
   show(v.heap.setIfInBounds rj.aO.c _)[b]?=_;rw[nu lg];rfl
  .exact(Left.at cl _ v d).trans (λ_ _=>rfl)<|L2.sub λ_ h=>h.elim
theorem Inv.aef(I:Inv K role sp md ch cl who D T gs v)(a:sp h)(k:h<gs.size)(rh)(A:K.live=Y)(s:(D h).stage=9)(w:(D h).deaf=0)(f:∀j r,j≠h->role j=U r->r.aO.c≠rh.aO.c){g'}(l:rC K.P (h==0) rh.aO n (D h).own g' v)(d:0<n)(p:∃m,ch rh.aO.c=U m):Inv K (bE role h<|U rh) (λj=>sp j/\j≠h) md ch cl who (bE D h ⟨9,n,(D h).own,0⟩) T (gs.setIfInBounds h g') v:=by
 refine((I.put (i:=h) k (g':=g') (x':=⟨9,n,(D h).own,0⟩) (λb x=>x) w.symm (ax s.symm) λB=>by grind (λd=>absurd a d) (λ_=>s) (λ_ _ _ _ d=>absurd a d) (λ_ _ _ d=>absurd a d) λd=>absurd a d).atI a rh A (by grind[upd_same]) f).fewer λj z o=>?_;have e:=oe λe=>o ⟨z,e⟩;subst e;rw[dc,dc];refine⟨λy t=>?_,λr u _=>?_,λr _ C=>by grind⟩;.rw[j5 k]at t;cases t;exact ax ⟨rfl,rfl,l⟩
 .cases u;obtain⟨m,q⟩:=p;exact⟨m,q,λE=>by grind⟩
theorem Inv.recvs(I:Inv K role sp md ch cl who D T gs v){x}{y}{c}(hs:¬sp x)(p:gs[x]?=U y)(t:∀r,role x=U r->(D x).stage=9->(D x).fuel=0->r.aO.c≠c):offersAt y c ai=[]:=by have f:=I.gP x y hs p;cases l:role x with|none=>rw[l]at f;exact RQ (λd=>by rcases f.2.2.1.status with z|z<;>rw[z]at d<;>cases d) c ai|some r=>
  rw[l]at f;rcases f with⟨o,_,a⟩|⟨_,_,_,_,b⟩|⟨_,_,_,_,b⟩|⟨_,_,_,b⟩
  .rcases a.status with⟨q,_⟩|⟨_,s⟩;.grind[offersAt_of_not_blocked]
   .rcases a with⟨k,e,_⟩|⟨k,m,e,_⟩|⟨_,u,w,rfl,_⟩;.omega
    .omega
    .rw[offersAt_parked_recv,if_neg<|(t r l) o s]
  .have:=qg (λ_ _ x=>x.1) v (L.refl _ _) b;grind[offersAt_of_not_blocked]
  .have:=qg (λ_ _ x=>x.1) v (oR _) b;grind[offersAt_of_not_blocked]
  .exact RQ (λd=>by rcases b.status with z|z<;>rw[z]at d<;>cases d) c ai
structure aEJ(K:fG)(aeu:Nat->Option fC)(j:Nat)(rj:fC)(x:az)(md:Md)(ch:Nat->Option fK)(cl:Nat->fa)(T:eB)(gs:Array aX)(v:ay)(md':Md)(cl':Nat->fa)(D':Nat->dw)(T':eB)(R:Array aX)(v':ay)(gj:aX)(k:Nat):Prop where
 hold:cP K aeu j md' (bE ch rj.aO.c<|U ⟨Z,ai,k⟩) cl' (.hold j) D' T' R v'
 mw:R[j]?=U (kN gj<|recvd rj.aO.ok x Y)home:rj.aO.home (D' j).own gj v'
 nine:(D' j).stage=9
 deaf:(D' j).deaf=0
 vN:mV aeu (λ_=>False) (bE ch rj.aO.c<|U ⟨Z,ai,k⟩) D'
 passed:xg md cl T gs v md' cl' T' R v'
theorem cP.send(H:cP K role h md ch cl (.hold h) D T gs v)(q:mV role (.=h) ch D)(hl:K.live=Y){a I:aX}{x z:az}{c:Nat}(ha:gs[h]?=U a)(Zl:a.status=dU)(ahP:∀w1,cj K.P (h==0) a w1=.comm I #[scase c x z] Y .send w1 #[]){rj:fC}(E:j≠h)(X:role j=U rj)(hcj:rj.aO.c=c)(aHg:j<gs.size)(rh:fC)(h9:(D h).stage=9)(h0:(D h).deaf=0)(Zk:rC K.P (h==0) rh.aO n (D h).own (kN I ak) v)(hn:0<n){kh:Nat}(M:ch rh.aO.c=U ⟨Z,ai,kh⟩)(Z8:rh.aO.c≠c)(ahK:∀i r,i≠h->role i=U r->r.aO.c≠rh.aO.c)(C:CM K (bE role h<|U rh) D)(sl:Option<|Nat×Nat):∃N md' cl' D' T' R v' dK Q2 k,ik K.P N (dB gs v sl) T=(fW<|dB R v' dK,T')/\aEJ K (bE role h<|U rh) j rj x md ch cl T gs v md' cl' D' T' R v' Q2 k:=by
 obtain⟨N,ic,F,gW,J,T1,QW,Q,d,pY,gH,r1,M8,qZ,W,G1,Kc,L1⟩:=H.picked ha Zl sl;obtain⟨rfl,q1⟩:=G1.calm q;have I1:=W.inv.at d;have Nq:h<QW.size:=(je.1 qZ).1;have A:j<QW.size:=by rw[G1.size];grind
 obtain⟨y,hy⟩:∃y,QW[j]?=U y:=⟨_,iy A⟩;have ho:=I1.gP j y E hy;rw[X]at ho;obtain⟨j9,jsh⟩:=q1 j rj X E;have ahQ:rC K.P (h==0) rh.aO n (J h).own (kN I ak)<|Q.at d:=by rw[Kc];refine Zk.rely<|L.trans _ _ _ ⟨λb Q0=>?_,L1.size⟩<|L.at _ _ d;obtain⟨e1,Q1⟩:=H.inv.own h b Q0;exact L1.block b Q1<|aA<|aA ⟨h,rfl,e1⟩
 have Ti:(J h).stage=9:=by grind
 have si:(J h).deaf=0:=by grind
 have axf:(J j).deaf=0:=by rcases ho with⟨_,e,_⟩|⟨h8,_⟩|⟨h7,_⟩|⟨h7,_⟩<;>first|grind|omega
 have ayq:rC K.P (j==0) rj.aO (J j).fuel (J j).own y<|Q.at d:=by rcases ho with⟨_,_,e⟩|⟨h8,_⟩|⟨h7,_⟩|⟨h7,_⟩<;>first|grind|omega
 obtain⟨st,gI,aGQ⟩:=I1.oq j rj X j9 E;obtain⟨hbn,_⟩:=W.uE j rj st X E gI;have hsn:=jsh st gI;obtain⟨k,rfl⟩:∃k,st=⟨Z,ai,k⟩:=by obtain⟨b,s,k⟩:=st;grind
 subst hcj;obtain⟨xV,iz,xU⟩:=I1.chan _ _ gI;have Gi:=pz xV;have aiy:(Q.at d).heap[rj.aO.c]?=U (.chan 1 #[] ai k k ai):=xV;have hdT:Deaf T1 h=0:=by rw[W.inv.deaf h Nq];grind
 have azL:Deaf T1 j=0:=by rw[W.inv.deaf j A];grind
 have t:∀i r,role i=U r->(J i).stage=9->i≠j->r.aO.c≠rj.aO.c:=λi r l P wv e=>wv<|I1.uniq i j r rj l X P j9 e;have p:∀i,i≠h->bE role h (U rh) i=role i:=λi hi=>cT role _ hi;have ak3:∀D2:Nat->dw,(∀i,(D2 i).stage=(J i).stage)->CM K (bE role h<|U rh) D2:=λD2 h2=>⟨C.outs,C.end_,λn'=>by have e:V2 n' D2=V2 n' J:=AM λi _ _=>h2 i;rw[e];exact W.ga.qA n'⟩;have VP:∀i,(bE J h ⟨9,n,(J h).own,0⟩ i).stage=(J i).stage:=λi=>by grind[upd_same,upd_ne]
 have S:∀k' b',mV (bE role h<|U rh) (λ_=>False) (bE F rj.aO.c<|U ⟨b',ai,k'⟩)<|bE J h ⟨9,n,(J h).own,0⟩:=λk' b' i r l _=>by
  have mD:∀c' o,(F c'=U o->o.shut=ai)->bE F rj.aO.c (U ⟨b',ai,k'⟩) c'=U o->o.shut=ai:=λc' o h1 h2=>by
   by_cases e:c'=rj.aO.c;.rw[e,dc]at h2;cases h2;rfl
   grind[upd_ne]
  rw[VP];by_cases e:i=h;.subst e;rw[dc]at l;cases l;exact⟨Ti,λo f=>mD _ _ λh1=>by rw[M]at h1;cases h1;rfl f⟩
  .rw[p i e]at l;obtain⟨a1,a2⟩:=q1 i r l e;exact⟨a1,λo f=>mD _ _ (a2 o) f⟩
 have afd:∀{T2:eB}{wH:Array aX}{v2:ay},wH.size=QW.size->Left gW (λ_=>False) (Q.at d) v2->(∃u,T2=T1++u)->xg md cl T gs v ic gW T2 wH v2:=λh1 h2 h3=>G1.passed.trans ⟨h1,(Left.at gW _ Q d).trans (λ_ _=>rfl) h2,λ_ _=>rfl,λ_=>rfl,h3⟩;by_cases hf:(J j).fuel=0
 .rcases ayq with⟨k',e,_⟩|⟨k',m,e,_⟩|⟨_,g0,Q2,rfl,kg⟩;.omega
  .omega
  have hp:partners (QW.setIfInBounds h ph) rj.aO.c ai=[(j,0)]:=by
   rw[partners_one (stand_get (i:=h) E hy) λi y' wv Ai=>?_];.rw[offersAt_parked_recv,dy rfl];rfl
   .rcases getElem?_stand QW h i y' Ai with⟨_,rfl⟩|⟨Q3,yQ⟩;.exact offersAt_ph _ _
    .exact I1.recvs Q3 yQ λr l P _=>t i r l P wv
  have B:=crowd_send_meets (sl:=gH) qZ (ahP<|Q.at d) aiy E hy hp;rw[Yp,finishComm_send,Dp,Mw]at B;have qk:=af8 h j I.frame.fn I.frame.place Q2.frame.fn Q2.frame.place rj.aO.c k 1;have JN:∀op∈metAt h j I.frame.fn I.frame.place Q2.frame.fn Q2.frame.place rj.aO.c k 1,op.act.low Q.heap.size:=λop w=>by simp only[metAt,fP,dj,dP,dY]at w;rcases w with rfl|rfl|rfl|rfl<;>exact Gi
  have ot:∀op∈metAt h j I.frame.fn I.frame.place Q2.frame.fn Q2.frame.place rj.aO.c k 1,op.act≠.mark (.release<|stA K.Wg):=λop w=>by simp only[metAt,fP,dj,dP,dY]at w;rcases w with rfl|rfl|rfl|rfl<;>simp
  have I2:=(I1.mute qk JN ot).pass<|Tr.give W.inv.tr hdT azL I.frame.fn I.frame.place Q2.frame.fn Q2.frame.place k 1 Gi;obtain⟨I3,L3⟩:=(I2.more (sp':=λi=>i=h\/i=j) λ_ h=>ax h).LP (c:=rj.aO.c) (st':=⟨Z,ai,k+1⟩) gI (v':=(Q.at d).setChan rj.aO.c 1 #[] ai (k+1) (k+1) ai) rfl (λ_ _ _ _ _ _ _=>⟨rfl,rfl⟩) (λi r l h8 hs _=>by have:=(q1 i r l λe=>hs<|ax e).1;omega);have I4:=I3.put (i:=j) A (g':=kN Q2<|recvd rj.aO.ok x Y) (x':=J j) (λb Q0=>Q0) rfl (ax rfl) (λh=>h) (λhn=>absurd (aA rfl) hn) (λh=>h) (λ_ _ _ _ hn=>absurd (aA rfl) hn) (λ_ _ _ hn=>absurd (aA rfl) hn) λhn=>absurd (aA rfl) hn;rw[vD]at I4;have oZ:∀O,(∀b∈O,∃i,gW b=.own i)->L O (Q.at d) ((Q.at d).setChan rj.aO.c 1 #[] ai (k+1) (k+1) ai):=λO hO=>⟨λb Q0=>by
   obtain⟨i,hi⟩:=hO b Q0;have Q3:rj.aO.c≠b:=λe=>by rw[<-e,iz]at hi;cases hi
   show(Q.heap.setIfInBounds rj.aO.c _)[b]?=_;rw[nu Q3];rfl,by simp[ED]⟩;have I5:=I4.aef (h:=h) (n:=n) (ax rfl) (by simpa using Nq) rh hl Ti si ahK (g':=kN I ak) (ahQ.rely<|oZ _ λb Q0=>⟨h,(W.inv.own h b Q0).1⟩) hn ⟨⟨Z,ai,kh⟩,by rw[cT F _ Z8];exact M⟩;have I6:=I5.more (sp':=(.=j)) λi hi=>hi.1.resolve_left hi.2;refine⟨N+1,ic,gW,_,_,_,_,gH,Q2,k+1,runNT_then r1<|qI<|M8.trans B,⟨I6,mV.ga (λi r l hs=>S (k+1) Z i r l id)<|ak3 _ VP,λi r o l hs f=>?_,W.bound⟩,?_,?_,?_,?_,S _ _,afd (by simp) (L3.sub λ_ h=>h.elim) ⟨_,rfl⟩⟩
  .by_cases e:r.aO.c=rj.aO.c;.rw[e,dc]at f;cases f;exact⟨rfl,λh=>by cases h⟩
   .rw[cT F _ e]at f;by_cases Q1:i=h;.subst Q1;rw[dc]at l;cases l;rw[M]at f;cases f;exact⟨rfl,λh=>by cases h⟩
    .rw[p i Q1]at l;exact W.uE i r o l Q1 f
  .rw[nu λe=>E e.symm];exact j5 A
  .rw[cT J _ E];exact rj.aO.LD _ _ _ _ (oZ _ λb Q0=>⟨j,(W.inv.own j b Q0).1⟩) kg.2.2.2.2.1
  .rw[cT J _ E];exact j9
  .rw[cT J _ E];exact axf
 .have hp:partners (QW.setIfInBounds h ph) rj.aO.c ai=[]:=partners_nil λi y' Ai=>by
   rcases getElem?_stand QW h i y' Ai with⟨_,rfl⟩|⟨Q3,yQ⟩;.exact offersAt_ph _ _
   .refine I1.recvs Q3 yQ λr l P Np=>?_;by_cases e:i=j;.subst e;exact absurd Np hf
    .exact t i r l P e
  have B:=crowd_send_room (sl:=gH) qZ (ahP<|Q.at d) aiy (by simp) hp;rw[finishComm_send,Dp,Mw]at B;have qk:=ad9 h I.frame.fn I.frame.place rj.aO.c k;have JN:∀op∈ym h I.frame.fn I.frame.place rj.aO.c k,op.act.low Q.heap.size:=λop w=>by simp only[ym,fP,dj,dP,dY]at w;rcases w with rfl|rfl<;>exact Gi
  have ot:∀op∈ym h I.frame.fn I.frame.place rj.aO.c k,op.act≠.mark (.release<|stA K.Wg):=λop w=>by simp only[ym,fP,dj,dP,dY]at w;rcases w with rfl|rfl<;>simp
  obtain⟨t1,t2⟩:=Tr.put W.inv.tr hdT I.frame.fn I.frame.place k Gi;have I2:=(I1.mute qk JN ot).pass t1;obtain⟨I3,L3⟩:=I2.LP (c:=rj.aO.c) (st':=⟨U x,ai,k⟩) gI (v':=(Q.at d).setChan rj.aO.c 1 #[x] ai (k+1) k ai) rfl (λi r l P hs e Np=>by
    by_cases Q1:i=j;.subst Q1;exact absurd Np hf
    .exact absurd e<|t i r l P Q1) (λi r l h8 hs _=>by have:=(q1 i r l hs).1;omega);have oZ:∀O,(∀b∈O,∃i,gW b=.own i)->L O (Q.at d) ((Q.at d).setChan rj.aO.c 1 #[x] ai (k+1) k ai):=λO hO=>⟨λb Q0=>by
   obtain⟨i,hi⟩:=hO b Q0;have Q3:rj.aO.c≠b:=λe=>by rw[<-e,iz]at hi;cases hi
   show(Q.heap.setIfInBounds rj.aO.c _)[b]?=_;rw[nu Q3];rfl,by simp[ED]⟩;have I5:=I3.aef (h:=h) (n:=n) rfl Nq rh hl Ti si ahK (g':=kN I ak) (ahQ.rely<|oZ _ λb Q0=>⟨h,(W.inv.own h b Q0).1⟩) hn ⟨⟨Z,ai,kh⟩,by rw[cT F _ Z8];exact M⟩;have I6:=I5.fewer (sp:=λ_=>False) λi hi=>absurd hi.1 hi.2;obtain⟨N2,vM,lN,D2,T2,wH,v2,C7,Q2,f1,f2,f3,f4,f5,f6,f7,f8⟩:=Inv.aBc (j:=j) (rj:=rj) (k:=k) (x:=x) (by rw[p j E];exact X) _ _ _ _ _ _ _ _ gH rfl I6 (S k<|U x) (ak3 _ VP) (by rw[dc]) t2 (λi r o l wv f=>by
    by_cases Q1:i=h;.subst Q1;rw[dc]at l;cases l;rw[cT F _ Z8,M]at f;cases f;rfl
    .rw[p i Q1]at l;have e:=t i r l (q1 i r l Q1).1 wv;rw[cT F _ e]at f;exact(W.uE i r o l Q1 f).1) (by simpa using A) W.bound;have hup:bE (bE F rj.aO.c<|U ⟨U x,ai,k⟩) rj.aO.c (U ⟨Z,ai,k+1⟩)=bE F rj.aO.c (U ⟨Z,ai,k+1⟩):=funext λb=>by unfold bE;split<;>rfl
  rw[hup]at f2 f7;exact⟨N+(1+N2),vM,lN,D2,T2,wH,v2,C7,Q2,k+1,runNT_then r1<|runNT_then (qI<|M8.trans B) f1,f2,f3,f4,f5,f6,f7,(afd (by simp) (L3.sub λ_ h=>h.elim) ⟨_,rfl⟩).trans f8⟩
theorem ad6(h)(fn)(a)(c):iI h fn a (kM c)=nW h fn a c:=by simp[iI,kM,nW,ij]
theorem amQ{P}{a a'}(c:mayWake P a=Y)(b:a'.status=dU)(w)(y):woken P a a' w y=y.again w:=by unfold woken;grind
theorem oF.am4{P}{c}{q j}{r}{x}{y}{w w1}(h:oF P c q (U r) j x y w)(C:L x.own w w1)(J:jK c.tWg q w->jK c.tWg q w1){cap a b}{buf}{tm}(E:w1.heap[r.aO.c]?=U (.chan cap buf Y a b tm)):∃l,l.stage=x.stage/\l.own=x.own/\l.deaf=x.deaf/\oF P c q r j l (y.again w1) w1/\(l.stage=9->0<l.fuel):=by
 rcases(h.rely C λ_=>J)with⟨t,f,s⟩|⟨B,f,p,o,d⟩|⟨F,f,p,o,d⟩|⟨A,p,o,s⟩
 .rcases s with⟨k,e,d⟩|⟨k,m,e,H,d⟩|⟨e,M,I,rfl,u⟩;.rw[yF _<|ax<|qg (λ_ _ x=>x.choose_spec.1) w1 (L.refl _ _) d];exact⟨x,rfl,rfl,rfl,ax ⟨t,f,ax ⟨k,e,d⟩⟩,λ_=>by omega⟩
  .rw[yF _<|ax<|qg (λ_ _ x=>x.1) w1 (L.refl _ _) d];exact⟨x,rfl,rfl,rfl,ax ⟨t,f,aA<|ax ⟨k,m,e,H,d⟩⟩,λ_=>by omega⟩
  .rw[again_recv_closed E];refine⟨⟨9,1,x.own,0⟩,t.symm,rfl,f.symm,ax ⟨rfl,rfl,ax ⟨0,rfl,?_⟩⟩,λ_=>Nat.one_pos⟩;exactλN z=>⟨I,(u.rely z).tries _ _⟩
 .rw[yF _<|ax<|qg (λ_ _ x=>x.1) w1 (L.refl _ _) d];exact⟨x,rfl,rfl,rfl,aA<|ax ⟨B,f,p,o,d⟩,λh=>by omega⟩
 .rw[yF _<|ax<|qg (λ_ _ x=>x.1) w1 (oR _) d];exact⟨x,rfl,rfl,rfl,aA<|aA<|ax ⟨F,f,p,o,d⟩,λh=>by omega⟩
 .rw[yF _ s.status];exact⟨x,rfl,rfl,rfl,aA<|aA<|aA ⟨A,p,o,s⟩,λh=>by omega⟩
theorem ad8{t:Type}(a:Array t)(i)(x)(h:a[i]?=U x):a.setIfInBounds i x=a:=by grind
theorem cP.closes(H:cP K role h md ch cl (.hold h) D T gs v)(hl:K.live=Y){a g':aX}{c k:Nat}(ha:gs[h]?=U a)(S:a.status=dU)(Za:mayWake K.P a=Y)(Ns:g'.status=dU)(z:∀w1,L (D h).own v w1->w1.heap[c]?=U (.chan 1 #[] ai k k ai)->jK K.L.tWg K.Wg w1->cj K.P (h==0) a w1=bU g' (w1.setChan c 1 #[] Y k k ai) (kM c))(hc:ch c=U ⟨Z,ai,k⟩){rj:fC}(t:j≠h)(s:role j=U rj)(A:rj.aO.c=c)(P:j<gs.size)(huq:∀i r,role i=U r->i≠h->r.aO.c=c->i=j)(Gg:∀i r,role i=U r->i≠h->r.out≠c)(h0:(D h).deaf=0)(h7:h≠0->7<=(D h).stage)(oZ:role h=Z->h=0)(sl:Option<|Nat×Nat):∃N ic o gW l M f m dK fn pl w Q,ik K.P N (dB gs v sl) T=(fW<|dB w (m.setChan c 1 #[] Y k k ai) dK,M++nW h fn pl c)/\cP K role h ic o gW (.hold h) l M f m/\kD role h md ch cl D T gs v ic o gW l M f m/\l h=D h/\Left cl (.=h) v m/\o c=U ⟨Z,ai,k⟩/\Inv K role (.=h) ic (bE o c<|U ⟨Z,Y,k⟩) gW (.hold h) Q (M++nW h fn pl c) w (m.setChan c 1 #[] Y k k ai)/\w[h]?=U g'/\w.size=f.size/\Q h=l h/\(∀i,(Q i).stage=(l i).stage/\(Q i).own=(l i).own/\(Q i).deaf=(l i).deaf)/\((l j).stage=9->0<(Q j).fuel)/\Left gW (.=h) m (m.setChan c 1 #[] Y k k ai):=by
 obtain⟨N,ic,o,gW,l,M,f,m,d,pY,gH,r1,M8,qZ,H1,G1,E,L1⟩:=H.picked ha S sl;have Hd:=H1.at d;have O:=Hd.inv;have Nq:h<f.size:=by grind
 have B:j<f.size:=by rw[G1.size];exact P
 obtain⟨y,hy⟩:∃y,f[j]?=U y:=⟨_,iy B⟩;have ho:=O.gP j y t hy;rw[s]at ho;have C:o c=U ⟨Z,ai,k⟩:=by rw[<-A,G1.eZ j rj s t,A];exact hc
 obtain⟨xV,iz,xU⟩:=O.chan _ _ C;have p:=pz xV;have X:(m.at d).heap[c]?=U (.chan 1 #[] ai k k ai):=xV;have I:=L1.trans G1.cls<|Left.at gW _ m d;have R:L (D h).own v<|m.at d:=⟨λb F=>by obtain⟨e1,e2⟩:=H.inv.own h b F;exact I.block b e2<|aA<|aA ⟨h,rfl,e1⟩,I.size⟩;have hgo:=z (m.at d) R X<|O.live hl;let v2:=(m.at d).setChan c 1 #[] Y k k ai;have W:c<v2:=by simpa[v2,ED]using p
 obtain⟨I2,L2⟩:=(O.more (sp':=λi=>i=h\/i=j) λ_ h=>ax h).LP (c:=c) (st':=⟨Z,Y,k⟩) C (v':=v2) rfl (λi r u h9 hs e _=>absurd (aA<|huq i r u (λe=>hs<|ax e) e) hs) λi r u h8 hs e=>absurd e<|Gg i r u λe=>hs<|ax e;obtain⟨I3,_⟩:=I2.go_step (v':=v2) (g':=g') (es:=kM c) (x':=l h) (md':=ic) (cl':=gW) qZ (aS _) (λ_ _ _=>rfl) (λ_ _=>rfl) (λb F=>I2.own h b F) (akV W iz) akU (by rw[E,h0];exact akW 0) (λu h0=>absurd (oZ u) h0) (λq=>absurd (ax rfl) q) (λh9=>⟨h9,λq=>absurd (ax rfl) q⟩) (λ_ q=>absurd (ax rfl) q) (λhl=>by obtain⟨st,sm,hw,ny⟩:=I2.wg hl;exact⟨st,sm,hw,by rw[vD];exact ny⟩) (λr u hh h6=>by have:=h7 (by omega);rw[E]at h6;omega);rw[vD,ad6]at I3;have J:((f.map<|woken K.P a g' v2).setIfInBounds h g')[h]?=g':=j5 (by simpa using Nq);have hgj:((f.map<|woken K.P a g' v2).setIfInBounds h g')[j]?=y.again v2:=by rw[nu λe=>t e.symm,qM,hy,eG,amQ Za Ns]
 have V:L (l j).own (m.at d) v2:=⟨λb F=>by
  have:=(O.own j b F).1;have lg:c≠b:=λe=>by rw[<-e,iz]at this;cases this
  show(m.heap.setIfInBounds c _)[b]?=_;rw[nu lg];rfl,by simp[v2,ED]⟩;obtain⟨x2,e1,e2,e3,ho2,ahZ⟩:=ho.am4 V (λ_=>I2.live hl) (cap:=1) (a:=k) (b:=k) (buf:=#[]) (tm:=ai) (by rw[A];show(m.heap.setIfInBounds c _)[c]?=_;exact j5 p);have I4:=I3.put (i:=j) (by grind) (g':=y.again v2) (x':=x2) (λb F=>by rw[<-e2];exact F) e3 (ax e1) λh=>by grind (λq=>absurd (aA rfl) q) λh=>by grind (λ_ _ _ _ q=>absurd (aA rfl) q) (λ_ _ _ q=>absurd (aA rfl) q) λq=>absurd (aA rfl) q;rw[ad8 _ _ _ hgj]at I4;have I5:=I4.fewer (sp:=(.=h)) λi hi hns=>by
  have e:i=j:=by grind
  subst e;rw[dc];refine⟨λy' Ai=>?_,λr u h9=>?_,λr u h8=>?_⟩;.grind
  .grind[upd_same]
  .obtain⟨k',ZL⟩:=O.out i r u (by grind) t;grind[upd_ne]
 have Aj:∀i,(bE l j x2 i).stage=(l i).stage/\(bE l j x2 i).own=(l i).own/\(bE l j x2 i).deaf=(l i).deaf:=λi=>by grind[upd_same,upd_ne]
 exact⟨N+1,ic,o,gW,l,M,f,m.at d,gH,_,_,_,_,by rw[<-ad6];grind[runNT_then,qI,runT_crowd_go],Hd,G1.trans<|kD.at _ _ _ _ _ _ _ _ _ d,E,I,C,I5,J,by simp,cT l _ λe=>t e.symm,Aj,λh9=>by grind[upd_same],L2.sub λ_ h=>ax h⟩
structure Found(K:fG)(role:Nat->Option fC)(rm:fC)(md:Md)(ch:Nat->Option fK)(cl:Nat->fa)(D:Nat->dw)(T:eB)(gs:Array aX)(v:ay)(md':Md)(z:Nat->Option fK)(cl':Nat->fa)(D':Nat->dw)(T':eB)(R:Array aX)(v':ay)(g0:aX):Prop where
 hold:cP K role 0 md' z cl' (.hold 0) D' T' R v'
 mw:R[0]?=U (kN g0<|recvd rm.aO.ok rm.aO.z ai)home:rm.aO.home (D' 0).own g0 v'
 nine:(D' 0).stage=9
 deaf:(D' 0).deaf=0
 eZ:∀j r,role j=U r->z r.aO.c=ch r.aO.c
 outs:∀j r,role j=U r->(D' j).stage=9->z r.out=ch r.out
 k9:∀j r st,role j=U r->ch r.aO.c=U st->st.shut=ai->(D j).stage=9->(D' j).stage=9
 iv:∀j,(D' j).stage=9->(D j).stage=9
 passed:xg md cl T gs v md' cl' T' R v'
theorem Inv.found{rm:fC}{k p:Nat}(A:role 0=U rm):∀(J:Nat×Nat)(md:Md)(ch:Nat->Option fK)(cl:Nat->fa)(D:Nat->dw)(T:eB)(gs:Array aX)(v:ay)(sl:Option<|Nat×Nat),oE gs.size D=J->Inv K role (λ_=>False) md ch cl (.pt p) D T gs v->oH K role (λ_=>False) ch D->ch rm.aO.c=U ⟨Z,Y,k⟩->EZ T rm.aO.c p->(∀i r o,role i=U r->i≠0->ch r.aO.c=U o->o.buf=Z)->(D 0).stage=9->(∀p,md=.opn p->p<=2)->∃N md' z cl' D' T' R v' dK M,ik K.P N (dB gs v sl) T=(fW<|dB R v' dK,T')/\Found K role rm md ch cl D T gs v md' z cl' D' T' R v' M:=by
 intro J;refine(Prod.lex GU GU).wf.induction (C:=λJ=>∀(md:Md)(ch:Nat->Option fK)(cl:Nat->fa)(D:Nat->dw)(T:eB)(gs:Array aX)(v:ay)(sl:Option<|Nat×Nat),oE gs.size D=J->Inv K role (λ_=>False) md ch cl (.pt p) D T gs v->oH K role (λ_=>False) ch D->ch rm.aO.c=U ⟨Z,Y,k⟩->EZ T rm.aO.c p->(∀i r o,role i=U r->i≠0->ch r.aO.c=U o->o.buf=Z)->(D 0).stage=9->(∀p,md=.opn p->p<=2)->∃N md' z cl' D' T' R v' dK M,ik K.P N (dB gs v sl) T=(fW<|dB R v' dK,T')/\Found K role rm md ch cl D T gs v md' z cl' D' T' R v' M) J ?_;intro J ih md ch cl D T gs v sl Y5 I C hc w y h9 hp;have azA:0<(D 0).fuel:=by
  rcases agA (D 0).fuel with E|E;.obtain⟨o,f,hb⟩:=I.oq 0 rm A h9 id;grind
  grind
 have q:0<gs.size:=I.zero;have ho:=I.gP 0 _ id<|iy q;rw[A]at ho;have O:(gs[0]'q).status=dU:=by
  rcases ho with⟨_,_,Q2⟩|⟨h8,_⟩|⟨h7,_⟩|⟨h7,_⟩
  .rcases Q2.status with⟨h1,_⟩|⟨_,h1⟩;.grind
   grind
  .omega
  .omega
  grind
 have Q:(D 0).deaf=0:=by rcases ho with⟨_,e,_⟩|⟨h8,_⟩|⟨h7,_⟩|⟨h7,_⟩<;>first|grind|omega
 obtain⟨i,g,d,dK,hi,hg,f⟩:=RP (P:=K.P) (w:=v) (sl:=sl) (I.awake Io) ⟨0,_,iy q,O⟩;rcases(I.at d).other (sl:=dK) C Io id hi hg hp with⟨md',z,cl',D',T',R,v',S,C',NA,Y8⟩|⟨r,B,o,l,hi9,Q0,x,t⟩;.obtain⟨ops,m,rfl⟩:=S.run;have L:=(pI.at I C d).trans<|(I.at d).later id hi S C' NA Y8;obtain⟨N,vM,qy,lN,D2,T2,wH,v2,gH,M,f1,F⟩:=ih (oE R.size D') (by rw[<-Y5,S.size];exact S.lt) md' z cl' D' _ R v' dK rfl S.inv C' ((L.eZ 0 rm A id).trans hc) (w.app _) (λi r o l E f=>y i r o l E<|by rw[<-L.eZ i r l id];exact f) (L.k9 0 rm _ A id hc (aA rfl) h9) λp Na=>hp p<|L.opn p Na;refine⟨N+1,vM,qy,lN,D2,T2,wH,v2,gH,M,?_,F.hold,F.mw,F.home,F.nine,F.deaf,λj r l=>(F.eZ j r l).trans<|L.eZ j r l id,λj r l s=>(F.outs j r l s).trans<|L.outs j r l<|F.iv j s,λj r o l f hs s=>F.k9 j r o l ((L.eZ j r l id).trans f) hs<|L.k9 j r o l id f (ax hs) s,λj hj=>L.iv j<|F.iv j hj,xg.trans ⟨S.size,L.left,L.cls,L.IX,_,rfl⟩ F.passed⟩;simp only[ik,f,m];grind
 .have Np:i=0:=by
   by_cases e:i=0;.exact e
   .have:=y i r o l e x;rcases t with t|⟨_,_,t⟩;.exact absurd this t
    .exact t
  subst Np;rw[A]at l;cases l;rw[hc]at x;cases x;obtain⟨c,iz,xU⟩:=I.chan _ _ hc;have W:=pz c;have X:(v.at d).heap[rm.aO.c]?=U (.chan 1 #[] Y k k ai):=c;have m:=crowd_recv_closed (sl:=dK) hi (Q0.2.2.2.2.2<|v.at d) X<|(I.at d).Rq Io _;rw[Yp,Dp,Mw]at m;have Gs:Deaf T 0=0:=by rw[I.deaf 0 q];exact Q
  have qk:=aaD 0 B.frame.fn B.frame.place rm.aO.c;have Q1:∀a∈ve 0 B.frame.fn B.frame.place rm.aO.c,a.act.low v.heap.size:=λa u=>by simp only[ve,fP,dj,dP,dY]at u;subst u;exact W
  have ot:∀a∈ve 0 B.frame.fn B.frame.place rm.aO.c,a.act≠.mark (.release<|stA K.Wg):=λa u=>by simp only[ve,fP,dj,dP,dY]at u;subst u;simp
  have I1:=((I.at d).mute qk Q1 ot).pass<|Tr.found I.tr w Gs B.frame.fn B.frame.place W;have I3:=(I1.more (sp':=(.=0)) λ_ h=>h.elim).put (i:=0) q (g':=kN B<|recvd rm.aO.ok rm.aO.z ai) (x':=D 0) (λb hb=>hb) rfl (ax rfl) (λh=>h) (λH=>absurd rfl H) (λh=>h) (λ_ _ _ _ H=>absurd rfl H) (λ_ _ _ H=>absurd rfl H) λH=>absurd rfl H;rw[vD]at I3;refine⟨1,md,ch,cl,D,_,_,_,dK,B,qI<|f.trans m,⟨I3,⟨λi r l E hs hx j r' hr' Ga=>C.a i r l E id hx j r' hr' id,λi r o l E hs s f mD=>C.b i r o l E id s f mD,C.outs,C.end_,C.qA⟩,λj r o l hj f=>⟨y j r o l hj f,λ_=>Mv hj⟩,hp⟩,j5 q,Q0.2.2.2.2.1,h9,Q,λ_ _ _=>rfl,λ_ _ _ _=>rfl,λ_ _ _ _ _ _ h=>h,λ_ h=>h,⟨by simp,Left.at cl _ v d,λ_ _=>rfl,λ_=>rfl,_,rfl⟩⟩
theorem cP.asg(H:cP K role h md ch cl (.hold h) D T gs v)(q:mV role (.=h) ch D)(hl:K.live=Y){a:aX}{r rm:fC}{k:Nat}(hr:role h=U r)(I:role 0=U rm)(hh:h≠0)(kg:zG K.P K.L K.Wg r (D h).own a v)(ha:gs[h]?=U a)(J:rm.aO.c=r.out)(hc:ch r.out=U ⟨Z,ai,k⟩)(h9:(D h).stage=9)(h0:(D h).deaf=0)(hC:r.C∈(D h).own)(C:∀i l,role i=U l->i≠h->l.aO.c=r.out->i=0)(Gg:∀i l,role i=U l->i≠h->l.out≠r.out)(hz:0<gs.size){kr:Nat}(hcr:ch r.aO.c=U ⟨Z,ai,kr⟩)(sl:Option<|Nat×Nat):∃N md' z cl' D' T' R v' dK Q2,ik K.P N (dB gs v sl) T=(fW<|dB R v' dK,T')/\Found K role rm md (bE ch r.out<|U ⟨Z,Y,k⟩) cl (bE D h ⟨7,0,[],0⟩) T gs v md' z cl' D' T' R v' Q2:=by
 obtain⟨har,SW,g',Ns,eK⟩:=kg;have P:(h==0)=ai:=by grind
 obtain⟨N,ic,Q1,gW,D1,T1,tP,v1,pY,fn,pl,wH,w,r1,x,G1,B,L1,sj,I2,E,fo,TC,S,ahZ,L2⟩:=H.closes (j:=0) (rj:=rm) hl ha har SW Ns λw1 fg yT yS=>by grind hc (λe=>hh e.symm) I J hz C Gg h0 λ_=>by omega λe=>by grind sl;obtain⟨rfl,W⟩:=G1.calm q;have M:L (D h).own v v1:=⟨λb P=>by obtain⟨e1,e2⟩:=H.inv.own h b P;exact L1.block b e2<|aA<|aA ⟨h,rfl,e1⟩,L1.size⟩;obtain⟨c,iz,xU⟩:=x.inv.chan _ _ sj;obtain⟨_,m,hW⟩:=eK v1 k M c<|x.inv.live hl;have lq:h<tP.size:=by grind
 have Q:h<wH.size:=(je.1 E).1;have Ti:(w h).stage=9:=by grind
 have hdd:(w h).deaf=0:=by grind
 obtain⟨t1,t2⟩:=Tr.shut x.inv.tr (by rw[x.inv.deaf h lq,B];grind) fn pl (pz c) iz;have I3:=(I2.pass (zH:=.pt<|T1.size+1)<|by simpa[ED]using t1).put (i:=h) Q (g':=g') (x':=⟨7,m,(w h).own,0⟩) (λb P=>P) hdd.symm (aA ⟨by simp,by omega⟩) λh=>by grind (λhn=>absurd rfl hn) λh=>by grind λ_ _ _ h=>by grind λ_ _ h=>by grind (λ_ h=>by grind);rw[ad8 _ _ _ E]at I3;have I4:=I3.fewer (sp:=λ_=>False) λi hi hns=>by subst hi;rw[dc];refine⟨λy hy=>?_,λ_ _ h=>by grind,λ_ _ h=>by simp at h⟩;rw[E]at hy;cases hy;rw[hr];exact aA<|aA<|ax ⟨rfl,rfl,by omega,by rw[TC,B];exact hC,hW⟩
 have t:∀i,i≠h->(bE w h ⟨7,m,(w h).own,0⟩ i).stage=(D1 i).stage:=λi hi=>by rw[cT w _ hi];exact(S i).1
 have C4:oH K role (λ_=>False) (bE Q1 r.out<|U ⟨Z,Y,k⟩)<|bE w h ⟨7,m,(w h).own,0⟩:=by
  have A:∀i l,role i=U l->0<i->(bE w h ⟨7,m,(w h).own,0⟩ i).stage=9->∀p,bE Q1 r.out (U ⟨Z,Y,k⟩) l.aO.c=U p->p.shut=ai:=λi l f s o p d=>by
   have Q0:i≠h:=λe=>by subst e;rw[dc]at o;simp at o
   have lg:l.aO.c≠r.out:=λe=>by have:=C i l f Q0 e;omega
   rw[cT Q1 _ lg]at d;exact(W i l f Q0).2 p d
  refine⟨λi l f s _ hx=>?_,λi l p f s _ o d u=>?_,x.ga.outs,x.ga.end_,λn'=>?_⟩
  .exfalso;rcases hx with h8|⟨o,p,d,u⟩
   .by_cases e:i=h;.subst e;rw[dc]at h8;simp at h8
    .rw[t i e]at h8;have:=(W i l f e).1;omega
   .rw[A i l f s o p d]at u;cases u
  .rw[A i l f s o p d]at u;cases u
  .refine bC (EY λi=>?_)<|x.ga.qA n';by_cases e:i=h;.subst e;rw[dc,B,h9];simp
   .rw[t i e];exact aS _
 obtain⟨N2,vM,qy,lN,D3,T2,TM,v3,C7,Q2,f1,F⟩:=Inv.found I _ _ _ _ _ _ _ _ pY rfl I4 C4 (by rw[J,dc]) (by rw[J];exact t2) (λi l p f s d=>by
   by_cases e:l.aO.c=r.out;.rw[e,dc]at d;cases d;rfl
   .rw[cT Q1 _ e]at d;by_cases eh:i=h;.subst eh;rw[hr]at f;cases f;rw[hcr]at d;cases d;rfl
    .exact(x.uE i l p f eh d).1) (by rw[t 0 λe=>hh e.symm];exact(W 0 rm I λe=>hh e.symm).1) x.bound;refine⟨N+N2,vM,qy,lN,D3,T2,TM,v3,C7,Q2,runNT_then r1 f1,F.hold,F.mw,F.home,F.nine,F.deaf,F.eZ,F.outs,λj l p f d hs O=>F.k9 j l p f d hs ?_,λj hj=>?_,(G1.passed.trans ⟨fo,L2.sub λ_ h=>h.elim,λ_ _=>rfl,λ_=>rfl,_,rfl⟩).trans F.passed⟩
 .by_cases e:j=h;.subst e;rw[dc]at O;simp at O
  .rw[t j e];exact(W j l f e).1
 .have X:=F.iv j hj;by_cases e:j=h;.subst e;rw[dc]at X;simp at X
  .rw[t j e]at X;rw[cT D _ e];exact G1.iv j e X
theorem cP.aCO(H:cP K role 0 md ch cl (.hold 0) D T gs v)(hl:K.live=Y){a g'}{r}{k}(ha:gs[0]?=U a)(Q2:a.status=dU)(I:mayWake K.P a=Y)(M:g'.status=dU)(w:∀F,F.heap[r.aO.c]?=U (.chan 1 #[] ai k k ai)->cj K.P Y a F=bU g' (F.setChan r.aO.c 1 #[] Y k k ai) (kM r.aO.c))(hc:ch r.aO.c=U ⟨Z,ai,k⟩)(Q:j≠0)(u:role j=U r)(C:j<gs.size)(E:∀i d,role i=U d->i≠0->d.aO.c=r.aO.c->i=j)(t:∀i d,role i=U d->i≠0->d.out≠r.aO.c)(Q1:∀i i' r d,role i=U r->role i'=U d->i≠0->i'≠0->d.aO.c≠r.out)(A:(D j).stage=9->∃k,ch r.out=U ⟨Z,ai,k⟩)(h0:(D 0).deaf=0)(sl):∃N md' z cl' D' T' R v' dK,ik K.P N (dB gs v sl) T=(fW<|dB R v' dK,T')/\cP K role 0 md' z cl' (.hold 0) D' T' R v'/\R[0]?=g'/\D' 0=D 0/\z r.aO.c=U ⟨Z,Y,k⟩/\(∀i d,role i=U d->i≠0->i≠j->z d.aO.c=ch d.aO.c)/\(∀i d,role i=U d->i≠0->(D' i).stage=9->z d.out=ch d.out)/\(∀i,i≠0->(D' i).stage=9->(D i).stage=9)/\xg md cl T gs v md' cl' T' R v'/\L (D 0).own v v':=by
 obtain⟨N,Q3,o,gW,D1,T1,tP,v1,P,fn,pl,wH,D2,r1,y,x,X,J,sj,I2,hg2,fo,O,aGI,ahZ,V⟩:=H.closes (j:=j) (rj:=r) hl ha Q2 I M (λF _ hw _=>w F hw) hc Q u rfl C E t h0 (λe=>absurd rfl e) (λ_=>rfl) sl;have p:∀i,(D2 i).stage=(D1 i).stage:=by grind
 refine⟨N,Q3,_,gW,D2,_,wH,_,P,r1,⟨I2,⟨λi d f m s hx j' r2 S BI=>Q1 i j' d r2 f S s BI,λi d c f m s l q mD=>?_,y.ga.outs,y.ga.end_,λQ0=>?_⟩,λi d c f s q=>?_,y.bound⟩,hg2,O.trans X,dc _ _ _,λi d f m wv=>?_,λi d f m l=>?_,λi m l=>?_,x.passed.trans ⟨fo,V.sub λ_ h=>h.elim,λ_ _=>rfl,λ_=>rfl,_,rfl⟩,?_⟩
 .rw[p]at l;rw[cT o _<|t i d f s];by_cases e:d.aO.c=r.aO.c;.have B:=E i d f s e;subst B;rw[u]at f;cases f;obtain⟨k',W⟩:=A<|x.iv i s l;exact⟨k',by rw[x.outs i r u l];exact W⟩
  .rw[cT o _ e]at q;exact y.ga.b i d c f m s l q mD
 .have e:V2 Q0 D2=V2 Q0 D1:=by grind[AM]
  rw[e];exact y.ga.qA Q0
 .by_cases e:d.aO.c=r.aO.c;.grind[upd_same,Nat.pos_of_ne_zero]
  .rw[cT o _ e]at q;exact y.uE i d c f s q
 .rw[cT o _<|by grind];exact x.eZ i d f m
 .rw[p]at l;rw[cT o _<|t i d f m];exact x.outs i d f l
 .rw[p]at l;exact x.iv i m l
 .refine⟨λb hb=>?_,bC J.size V.size⟩;obtain⟨e1,B⟩:=H.inv.own 0 b hb;rw[V.block b (cE B J.size)<|aA<|aA ⟨0,rfl,(x.cls b B).trans e1⟩];exact J.block b B<|aA<|aA ⟨0,rfl,e1⟩
deriving instance DecidableEq for fa
structure St where
 role:Nat->Option fC
 md:Md
 ch:Nat->Option fK
 cl:Nat->fa
 D:Nat->dw
 T:eB
 gs:Array aX
 v:ay
 sl:Option<|Nat×Nat
def St.runs(P:bW)(s t:St):Prop:=∃N,ik P N (dB s.gs s.v s.sl) s.T=(fW<|dB t.gs t.v t.sl,t.T)
theorem St.runs.trans{P}{s t u:St}(a:s.runs P t)(b:t.runs P u):s.runs P u:=by obtain⟨n,d⟩:=a;obtain⟨m,c⟩:=b;exact⟨n+m,runNT_then d c⟩
theorem St.runs.refl{P}(s:St):s.runs P s:=⟨0,rfl⟩
theorem Db{P}{s t:St}(h:s.runs P t):∃u,t.T=s.T++u:=by obtain⟨n,h⟩:=h;grind[LU]
structure Ok(K:fG)(h:Nat)(s:St)(a:aX):Prop where
 hold:cP K s.role h s.md s.ch s.cl (.hold h) s.D s.T s.gs s.v
 mw:s.gs[h]?=U a
 vN:mV s.role (.=h) s.ch s.D
 nine:(s.D h).stage=9
 deaf:(s.D h).deaf=0
 opn:∃p,s.md=.opn p
 ro:s.role h=Z->h=0
structure Kept(h:Nat)(O:List Nat)(s t:St):Prop where
 size:t.gs.size=s.gs.size
 role:t.role=s.role
 md:t.md=s.md
 left:Left s.cl (λ_=>False) s.v t.v
 cls:∀b,b<s.v.heap.size->t.cl b=s.cl b
 rest:Rest h O s.cl s.v t.v
 oD:∀c st,s.ch c=U st->t.ch c=U st
 own:∀b∈(s.D h).own,b∈(t.D h).own
 v2:∀n,V2 n t.D<=V2 n s.D
theorem Kept.refl(h)(O)(s):Kept h O s s:=⟨rfl,rfl,rfl,Left.refl _ _ _,λ_ _=>rfl,λ_ _ _ _=>rfl,λ_ _ h=>h,λ_ h=>h,λ_=>aS _⟩
theorem Kept.trans{O}{s t u}(a:Kept h O s t)(b:Kept h O t u):Kept h O s u:=⟨b.size.trans a.size,b.role.trans a.role,b.md.trans a.md,a.left.trans a.cls b.left,λx d=>(b.cls x<|cE d a.left.size).trans<|a.cls x d,a.rest.trans a.left.size a.cls b.rest,λc e f=>b.oD c e<|a.oD c e f,λx d=>b.own x<|a.own x d,λn=>bC (b.v2 n)<|a.v2 n⟩
theorem Kept.more{O O'}{s t}(a:Kept h O s t)(c:∀b∈O,b∈O'):Kept h O' s t:=⟨a.size,a.role,a.md,a.left,a.cls,λb f d e=>a.rest b f d λx=>e<|c b x,a.oD,a.own,a.v2⟩
theorem Ok.walk{s}{a}(H:Ok K h s a){O Rd}{Stop}(c:∀g w,Stop g w->g.status=dU)(r:cK K.P (h==0) (L<|O++Rd) (DH O Rd) Stop n a s.v)(B:∀b∈O,b∈(s.D h).own)(f:∀b∈Rd,b<s.v/\(s.cl b=.own h\/s.cl b=.eV)):∃t k,s.runs K.P t/\Ok K h t k/\Stop k t.v/\Kept h O s t/\t.D h=s.D h/\t.ch=s.ch:=by obtain⟨N,md',z,cl',D',T',R,v',dK,k,y,p,o,u,G,m,A⟩:=cP.walk c H.ro n (sl:=s.sl) H.hold H.mw r B (λb l=>⟨(f b l).1,(f b l).2.imp id λx=>⟨x,rfl⟩⟩) λ_=>by rw[H.nine];simp H.deaf;obtain⟨rfl,q⟩:=G.calm H.vN;have d:=G.qd H.opn;exact⟨⟨s.role,md',s.ch,cl',D',T',R,v',dK⟩,k,⟨N,y⟩,⟨u,p,q,(congrArg dw.stage m).trans H.nine,(congrArg dw.deaf m).trans H.deaf,⟨_,d.trans H.opn.choose_spec⟩,H.ro⟩,o,⟨G.size,rfl,d,G.left,G.cls,A,λ_ _ h=>h,λb l=>by grind,λn=>EY λj=>by
  by_cases e:j=h;.grind
  .exact G.iu j e⟩,m,rfl⟩
theorem Ok.Yl{s}{a}(H:Ok K h s a)(J:a.status=dU){o:Nat->Obj}{f:Nat->aX}(x:∀C,L (s.D h).own s.v C->cj K.P (h==0) a C=bU (f C) {C with heap:=C.heap.push<|o C} #[])(c)(hc:c=.own h∨c=.sh):∃t b o',s.runs K.P t∧Ok K h t (f b)∧Kept h [] s t∧s.v<=b∧t.v=b+1∧t.v.heap[b]?=U o'∧t.cl b=c∧t.ch=s.ch∧(c=.own h->b∈(t.D h).own)∧((t.D h).own=if c=.own h then b::(s.D h).own else(s.D h).own)∧(∀op∈t.T,op.act.low b)∧t.ch b=Z∧o'=o b:=by
 obtain⟨N,ic,pA,gW,m,T1,tP,v1,d,pY,gH,r1,z,X,B,y,p,A⟩:=H.hold.picked H.mw J s.sl;obtain⟨rfl,q1⟩:=y.calm H.vN;have E:=y.qd H.opn;let O:Obj:=o v1;let w:List Nat:=if c=.own h then v1::(s.D h).own else(s.D h).own;let v2:ay:={v1.at d with heap:=v1.heap.push O};have F:L (s.D h).own s.v<|v1.at d:=⟨λb l=>by obtain⟨e1,e2⟩:=H.hold.inv.own h b l;exact A.block b e2<|aA<|aA ⟨h,rfl,e1⟩,A.size⟩;have R:cj K.P (h==0) a (v1.at d)=bU (f v1) v2 #[]:=x (v1.at d) F;have q:∀b,b<v1.heap.size->v2.heap[b]?=v1.heap[b]?:=λb l=>by grind
 have k:∀b,b<v1.heap.size->(λb=>if b=v1.heap.size then c else gW b) b=gW b:=by grind
 have I:v2.heap.size=v1+1:=by simp[v2]
 have S:=λb l=>B.inv.own h b (by rw[p];exact l);obtain⟨q2,q3,q4⟩:=(B.at d).step (sl:=gH) (a':=f v1) (es:=#[]) (x':=⟨(m h).stage,(m h).fuel,w,(m h).deaf⟩) (md':=ic) (cl':=λb=>if b=v1 then c else gW b) (v':=v2) X R (by grind) (λb l _=>q b l) (λb l=>k b l) λb l=>by grind (by simp) (by simp) rfl (by simp) rfl λhl=>by obtain⟨st,sm,hw,W⟩:=B.inv.wg hl;refine⟨st,sm,?_,W.same rfl⟩;unfold WgAt at hw⊢;grind λ_=>by rw[p];rw[H.nine];simp B.bound;rw[Dp,RM]at q3;rw[Dp]at q2;have M:∀b∈(s.D h).own,b∈w:=λb l=>by grind
 have P:=runNT_then r1<|qI<|z.trans q2;rw[RM]at P;refine⟨⟨s.role,ic,s.ch,_,_,T1,_,v2,gH⟩,v1,O,⟨_,P⟩,⟨q3,q4,λj r hr hj=>?_,?_,?_,⟨_,E.trans H.opn.choose_spec⟩,H.ro⟩,⟨by show(Array.setIfInBounds _ _ _).size=_;rw[uH,Dy];exact y.size,rfl,E,?_,λb l=>?_,λb l Q _=>?_,λ_ _ h=>h,λb l=>?_,λn=>EY λj=>?_⟩,A.size,I,?_,dy rfl,rfl,λe=>?_,?_,B.inv.tr.seen,?_,rfl⟩;·show(bE m h _ j).stage=9∧_;rw[cT m _ hj];exact q1 j r hr hj
 ·show(bE m h _ h).stage=9;rw[dc,p];exact H.nine
 ·show(bE m h _ h).deaf=0;rw[dc,p];exact H.deaf
 ·refine y.left.trans y.cls (cl':=gW) (v':=v1) ⟨by grind,λb l _=>q b l,rfl,rfl,rfl⟩
 ·show(if b=v1 then c else gW b)=_;have:=A.size;rw[if_neg<|by omega];exact y.cls b l
 ·have:=A.size;rw[q b<|by omega];exact A.block b l<|aA<|aA ⟨h,rfl,Q⟩
 ·show b∈(bE m h _ h).own;grind[upd_same]
 ·show(bE m h _ j).stage<=_;by_cases e:j=h;·subst e;rw[dc,p];grind
  ·rw[cT m _ e];exact y.iu j e
 ·grind
 ·show _∈(bE m h _ h).own;rw[dc];grind
 ·show(bE m h _ h).own=_;rw[dc]
 ·show s.ch v1=Z;cases e:s.ch v1 with|none=>rfl|some st=>have:=pz (B.inv.chan _ _ e).1;omega
theorem Ok.reg{s}{a}(H:Ok K h s a){b}(A:s.v.heap[b]?=U (.chan 1 #[] ai 0 0 ai))(hs:s.cl b=.sh)(C:s.ch b=Z)(y:K.live=Y->b≠K.Wg):Ok K h {s with ch:=bE s.ch b<|U ⟨Z,ai,0⟩} a:=by
 have B:∀c d,s.ch c=U d->bE s.ch b (U ⟨Z,ai,0⟩) c=d:=λc d t=>by grind[upd_ne]
 have o:∀c d,bE s.ch b (U ⟨Z,ai,0⟩) c=U d->s.ch c=d\/d=⟨Z,ai,0⟩:=λc d t=>by grind[upd_same,upd_ne]
 have I:=H.hold.inv;refine⟨⟨⟨I.gP,I.deaf,I.above,I.tr,I.own,λc d t=>?_,λj r l q hs=>?_,λj r l w hs=>?_,I.uniq,I.wg,I.kE,I.rel,I.norel,I.rA,I.zero,I.idle⟩,⟨λi r l u hs z=>H.hold.ga.a i r l u hs<|z.imp id λ⟨q,d,f,p⟩=>⟨q,d,?_,p⟩,λi r d l u hs q f p=>?_,H.hold.ga.outs,H.hold.ga.end_,H.hold.ga.qA⟩,λj r d l hs f=>?_,H.hold.bound⟩,H.mw,λj r l hs=>⟨(H.vN j r l hs).1,λd f=>?_⟩,H.nine,H.deaf,H.opn,H.ro⟩
 .by_cases e:c=b;.subst e;have m:bE s.ch c (U ⟨Z,ai,0⟩) c=d:=t;rw[dc]at m;cases m;exact⟨A,hs,y⟩
  .have m:bE s.ch b (U ⟨Z,ai,0⟩) c=d:=t;rw[cT s.ch _ e]at m;exact I.chan c d m
 .obtain⟨d,f,E⟩:=I.oq j r l q hs;grind
 .obtain⟨k,x⟩:=I.out j r l w hs;grind
 .rcases o _ _ f with e|e;.obtain⟨k,x⟩:=H.hold.ga.b i r d l u hs q e p;grind
  grind
 .rcases o _ _ f with e|e;.exact H.hold.uE j r d l hs e
  grind
 .rcases o _ _ f with e|e;.exact(H.vN j r l hs).2 d e
  .rw[e]
 grind
theorem Fw:∀n,sumTo n (λ_=>0)=0|0=>rfl|n+1=>by simp only[sumTo,Fw n]
theorem Ok.aAY{s}{a}(H:Ok K h s a)(N:K.live=ai){b}(o:WgAt K.L.tWg b s.v 0 0)(t:s.cl b=.sh)(J:s.ch b=Z)(l:∀w∈s.T,w.act.low b)(m:s.md=.opn 0):Ok {K with Wg:=b,live:=Y} h s a:=by
 have I:=H.hold.inv;have d:∀i,s.role i=Z:=λi=>by cases e:s.role i with|none=>rfl|some r=>have:=I.idle i r e;grind
 have F:=H.ro<|d h;have q:∀i,0<i->i<s.gs.size->(s.D i).stage=1:=λi u f=>by have k:=I.gP i _ (by omega)<|iy f;rw[d i]at k;exact k.2.1
 refine⟨⟨⟨λi g z C=>?_,I.deaf,I.above,I.tr,I.own,λc A B=>?_,I.oq,I.out,I.uniq,λ_=>⟨0,0,o,?_⟩,λ_=>t,λi r y=>by grind,λx e=>?_,I.rA,I.zero,λ_ _ _=>rfl⟩,⟨H.hold.ga.a,H.hold.ga.b,H.hold.ga.outs,λi r y=>by grind,H.hold.ga.qA⟩,H.hold.uE,H.hold.bound⟩,H.mw,H.vN,H.nine,H.deaf,H.opn,H.ro⟩;·have k:=I.gP i g z C;rw[d i]at k⊢;exact k
 ·obtain⟨M,P,O⟩:=I.chan c A B;grind
 ·rw[m];have E:V2 s.gs.size s.D=0:=by
   unfold V2;rw[zY (g:=λ_=>0) λi u=>?_];·exact Fw _
   ·unfold gq;grind
  exact⟨λi u f=>aA<|q i u f,by grind,rfl⟩
 ·cases p:s.T[x]? with|none=>simp[EH,p]at e|some w=>simp only[EH,p,eG,ew]at e;have:=l w<|uG p;rw[e]at this;exact Nat.lt_irrefl b this
theorem Ok.send{s}{a B}(H:Ok K h s a)(M:K.live=Y)(m:a.status=dU){x z}{rj rh}{kh}(d:∀E,cj K.P (h==0) a E=.comm B #[scase rj.aO.c x z] Y .send E #[])(y:j≠h)(A:s.role j=U rj)(o:j<s.gs.size)(p:rC K.P (h==0) rh.aO n (s.D h).own (kN B ak) s.v)(J:0<n)(u:s.ch rh.aO.c=U ⟨Z,ai,kh⟩)(q:rh.aO.c≠rj.aO.c)(f:∀i r,i≠h->s.role i=U r->r.aO.c≠rh.aO.c)(C:CM K (bE s.role h<|U rh) s.D):∃t w k,s.runs K.P t/\Ok K j t (kN w<|recvd rj.aO.ok x Y)/\rj.aO.home (t.D j).own w t.v/\t.role=bE s.role h rh/\t.md=s.md/\t.ch=bE s.ch rj.aO.c (U ⟨Z,ai,k⟩)/\t.gs.size=s.gs.size/\Left s.cl (λ_=>False) s.v t.v/\∀b,b<s.v.heap.size->t.cl b=s.cl b:=by obtain⟨N,md',cl',D',T',R,v',dK,w,k,L,F⟩:=H.hold.send (n:=n) H.vN M H.mw m d y A rfl o rh H.nine H.deaf p J u q f C s.sl;have l:=F.passed.md H.opn;exact⟨⟨bE s.role h<|U rh,md',_,cl',D',T',R,v',dK⟩,w,k,⟨N,L⟩,⟨F.hold,F.mw,λi r I O=>F.vN i r I id,F.nine,F.deaf,⟨_,l.trans H.opn.choose_spec⟩,λe=>by grind[upd_ne]⟩,F.home,rfl,l,rfl,F.passed.size,F.passed.left,F.passed.cls⟩
theorem Ok.spawn{s}{a a' child}{p}(H:Ok K 0 s a)(hl:K.live=Y)(R:a.status=dU)(nA:s.md=.opn (p+1))(hgo:∀X,cj K.P Y a X=.spawn a' child X #[])(r){O kU}(xV:∀X,L (s.D 0).own s.v X->rC K.P ai r.aO n O child X)(hn:0<n)(hO:∀b∈O,b∈(s.D 0).own)(q:∀b∈kU,b∈(s.D 0).own/\b∉O)(ayG:s.role s.gs.size=Z){k}(A:s.ch r.aO.c=U ⟨Z,ai,k⟩)(y:∀j u,s.role j=U u->u.aO.c≠r.aO.c)(J:∀j u,s.role j=U u->u.out≠r.out)(c:∀O g2 w,r.aO.home O g2 w->r.C∈O/\∃m,cK K.P ai (L O) (DO O) (zG K.P K.L K.Wg r O) m (kN g2<|recvd r.aO.ok r.aO.z ai) w)(aiD:∀l,V2 l s.D<=1):∃t,s.runs K.P t/\Ok K 0 t a'/\t.role=bE s.role s.gs.size r/\t.md=.opn p/\t.ch=s.ch/\t.gs.size=s.gs.size+1/\(t.D 0).own=kU/\(t.D s.gs.size).stage=9/\Left s.cl (λ_=>False) s.v t.v/\(∀b,b<s.v.heap.size->b∉O->t.cl b=s.cl b)/\L (s.D 0).own s.v t.v/\∀l,V2 l t.D<=V2 l s.D+1:=by
 obtain⟨N,ic,pA,W,o,T1,f,Q0,d,pY,gH,r1,M,qZ,H1,E,I,L1⟩:=H.hold.picked H.mw R s.sl;obtain⟨rfl,q1⟩:=E.calm H.vN;have C:=(E.qd H.opn).trans nA;subst C;have hz:=H1.inv.zero;have lg:f.size≠0:=by omega
 have P:∀b∈(s.D 0).own,b∈(o 0).own:=λb x=>by grind
 have Q:L (s.D 0).own s.v<|Q0.at d:=⟨λb x=>by obtain⟨e1,e2⟩:=H.hold.inv.own 0 b x;exact L1.block b e2<|aA<|aA ⟨0,rfl,e1⟩,L1.size⟩;have hV:∀l,V2 l o<=V2 l s.D:=λl=>EY λj=>by
  by_cases e:j=0;.grind
  .exact E.iu j e
 have Tq:∀l,V2 l (bE (bE o 0 {o 0 with own:=kU}) f.size ⟨9,n,O,0⟩)<=V2 l o+1:=λl=>by
  have e0:V2 l (bE o 0 {o 0 with own:=kU})=V2 l o:=AM λi hi _=>by grind[upd_ne]
  rcases Bs f.size l with lq|BQ;.grind[UJ,gq]
  .have e1:V2 l (bE (bE o 0 {o 0 with own:=kU}) f.size ⟨9,n,O,0⟩)=V2 l (bE o 0 {o 0 with own:=kU}):=AM λi _ hi=>by grind[upd_ne]
   omega
 have fo:=E.size;obtain⟨q2,q3,q4,q5⟩:=(H1.at d).spawn (sl:=gH) hl qZ (hgo<|Q0.at d) r (n:=n) (O:=O) (kU:=kU) (ax ⟨rfl,rfl,by grind⟩) hn (λb x=>P b<|hO b x) (λb x=>⟨P b (q b x).1,(q b x).2⟩) (by grind) A y J c (λj u B hj=>q1 j u B<|FT hj) (by rw[I];exact H.deaf) (λl=>by grind);have F:bE (bE o 0 {o 0 with own:=kU}) f.size ⟨9,n,O,0⟩ 0={o 0 with own:=kU}:=by grind[upd_ne,upd_same]
 refine⟨⟨bE s.role f.size<|U r,.opn p,s.ch,_,_,_,_,Q0.at d,gH⟩,⟨_,runNT_then r1<|qI<|M.trans q2⟩,⟨q3,q4,λj u B hj=>?_,?_,?_,⟨_,rfl⟩,λ_=>rfl⟩,by rw[fo],rfl,rfl,by grind,?_,?_,?_,λb x hn=>?_,Q,λl=>?_⟩
 .show(bE (bE o 0 _) f.size _ j).stage=9/\_;have S:bE s.role f.size r j=u:=B;by_cases e:j=f.size;.grind[upd_same]
  .rw[cT s.role _ e]at S;rw[cT _ _ e,cT o _ hj];exact q1 j u S hj
 .show(bE (bE o 0 _) f.size _ 0).stage=9;rw[F,I];exact H.nine
 .show(bE (bE o 0 _) f.size _ 0).deaf=0;rw[F,I];exact H.deaf
 .show(bE (bE o 0 _) f.size _ 0).own=kU;rw[F]
 .show(bE (bE o 0 _) f.size _ s.gs.size).stage=9;grind[upd_same]
 .exact E.left.trans E.cls<|Left.at W _ Q0 d
 .show(if b∈O then _ else W b)=_;rw[if_neg hn];exact E.cls b x
 .have:=Tq l;have:=hV l;show V2 l (bE (bE o 0 _) f.size _)<=_;omega
variable{ρ eJ:Nat->Nat}{I:H}{fs:Array ep}{nm:String->Bool}{X:fq->Prop}{w w':ay}
structure ue(h:Nat)(s t:St):Prop where
 size:t.gs.size=s.gs.size
 role:t.role=s.role
 md:t.md=s.md
 ch:t.ch=s.ch
 D:t.D h=s.D h
 uT:s.v.heap.size<=t.v.heap.size
 own:∀b,b<s.v.heap.size->s.cl b=.own h->t.v.heap[b]?=s.v.heap[b]?
 cls:∀b,b<s.v.heap.size->t.cl b=s.cl b
 os:t.v.os=s.v.os
 tape:t.v.tape=s.v.tape
 out:t.v.output=s.v.output
 old:∀b,b<s.v.heap.size->s.cl b=.old->t.v.heap[b]?=s.v.heap[b]?
theorem Ok.tree(Q0:nM I K.P fs nm)(Q1:Same I K.P fs nm X){b}{bs B'}(O:AZ I K.P (h==0) B'){Done}(u:∀fr cs w,¬Done (r fr<|cs++b::bs) w){fr fr'}{cs cs'}(Q3:Term (J K.P fs) Done (r fr<|cs++b::bs) w){s}(H:Ok K h s<|r fr'<|cs'++B')(y:jN ρ I K.P nm w fr fr')(QX:gZ ρ I K.P nm w cs cs')(M:fL ρ I K.P s.cl w s.v):∃t eJ w' l,(∀x,x<w.heap.size→ρ x=eJ x)/\w.heap.size≤w'.heap.size/\(∀x,x<w.heap.size→I.F x=ai→w'.heap[x]?=w.heap[x]?)/\Term (J K.P fs) Done l w'/\tU (qF (J K.P fs) Done) (l,w') (r fr<|cs++b::bs,w)/\s.runs K.P t/\ue h s t/\((∃k,Ok K h t k/\fL eJ I K.P t.cl w' t.v/\Ends eJ I K.P fs nm X b bs B' w' l k)\/B'=[]/\cP K t.role h t.md t.ch t.cl (.hold h) t.D t.T t.gs t.v/\∃x Q2 c d E F QW,l=r (b.finish x) bs/\RV eJ I w' x Q2/\stepT K.P (dB t.gs t.v t.sl)=(.ended (.done Q2) c,iI h F QW E)/\fL eJ I K.P d w' c/\c.os=t.v.os/\c.output=t.v.output/\t.v.heap.size≤c/\(∀x,x<t.v.heap.size→d x=t.cl x)/\(∀x,x<t.v.heap.size→t.cl x≠.eV→c.heap[x]?=t.v.heap[x]?)/\∀e∈E,(∀x,(ij e).touch?=U x→zA d (.hold h) h x)/\(ij e).low c/\(∀a,e.loc≠iq (.release a))/\e.loc≠iq .disable/\e.loc≠iq .enable):=by
  obtain⟨N,o,w1,md',z,cl',D',T',R,v',dK,l,P,k2,S,Q,k5,L,f,p,k9,A⟩:=cP.tree Q0 Q1 H.ro O u Q3 s.sl rfl H.hold fun _=>by rw[H.nine];simp H.deaf y QX H.mw M;obtain⟨rfl,q⟩:=f.calm H.vN;have m:=f.md H.opn;refine⟨⟨s.role,md',s.ch,cl',D',T',R,v',dK⟩,o,w1,l,P,k2,S,Q,k5,⟨N,k9⟩,⟨f.size,rfl,m,rfl,p,f.uT,f.own,f.cls,f.os,f.tape,f.out,f.old⟩,?_⟩;rcases A with⟨k,B,C,W⟩|⟨B,C⟩;.exact ax ⟨k,⟨L,B,q,(congrArg dw.stage p).trans H.nine,(congrArg dw.deaf p).trans H.deaf,⟨_,m.trans H.opn.choose_spec⟩,H.ro⟩,C,W⟩
  grind
def KA(l:Array Bool):Nat:=(l.toList.filter id).length
theorem Ok.drawn{b:aZ}{k:List eY}{cs:List aZ}{ops:Array dJ}{J:Array Bool->Act->St->Prop}(f:∀listed a s i l,J listed a s->i∈iY .any ops listed->Ok K h s (G (b.at a<|aT ops (i::l)::k) cs)->KA (listed.setIfInBounds i Y)=KA listed+1/\∃t m,s.runs K.P t/\Ok K h t (G (b.at m<|aT ops l::k) cs)/\J (listed.setIfInBounds i Y) m t):∀(d t:Nat)(listed:Array Bool)(a:Act)(s:St),J listed a s->Ok K h s (G (b.at a<|aT ops (x5 .any ops d t listed [])::k) cs)->∃u m c,s.runs K.P u/\Ok K h u (G (b.at m<|aT ops []::k) cs)/\J c m u/\(iY .any ops c=[]\/KA c=KA listed+d)|0,t,listed,a,s,q,H=>⟨s,a,listed,.refl _,by simpa[x5]using H,q,aA rfl⟩|d+1,t,listed,a,s,q,H=>by simp only[x5]at H;change Ok K h s (G (b.at a<|aT ops (match(iY .any ops listed)[t%(iY .any ops listed).length]? with|some i=>x5 .any ops d (t/(iY .any ops listed).length) (listed.setIfInBounds i Y) [i]|none=>[].reverse)::k) cs)at H;cases r:(iY .any ops listed)[t%(iY .any ops listed).length]? with
  |none=>
   rw[r]at H;have o:iY .any ops listed=[]:=by cases O:iY .any ops listed with|nil=>rfl|cons x N=>grind[Nat.mod_lt]
   exact⟨s,a,listed,.refl _,H,q,ax o⟩|some i=>rw[r]at H;simp only[]at H;rw[linearise_go_acc,List.reverse_singleton,List.singleton_append]at H;obtain⟨Q,B,L,C,y,F⟩:=f listed a s i _ q (List.mem_of_getElem? r) H;obtain⟨E,z,M,w,I,A,p⟩:=Ok.drawn f d _ _ L B F y;exact⟨E,z,M,C.trans w,I,A,p.imp id λe=>by grind⟩
def RL(L:WgLink)(Wg:Nat)(w w1:ay):Prop:=jK L.tWg Wg w->jK L.tWg Wg w1
def DQ(Wg:Nat)(w w':ay)(es:Array jl):Prop:=w'=w/\∀e∈es,∃a,a.block=Wg/\(e=⟨iq<|.read a,ai,Y⟩\/e=⟨iq<|.write a,ai,Y⟩)
theorem RL.refl(L)(a)(w):RL L a w w:=id
theorem dq_none{a}{w}{es}(h:∀e∈es,False):DQ a w w es:=⟨rfl,λe b=>(h e b).elim⟩
abbrev GQ(P:bW)(L:WgLink)(Wg:Nat)(Stop:aX->ay->Prop)(m:Nat)(g:aX)(w:ay):Prop:=cK P Y (RL L Wg) (DQ Wg) Stop m g w
theorem aeg{d}{e}(k:cl d=.sh){B}(l:d<B)(h:∃a,a.block=d/\(e=⟨iq<|.read a,ai,Y⟩\/e=⟨iq<|.write a,ai,Y⟩)):(∀x,(ij e).touch?=U x->zA cl who 0 x)/\(ij e).low B/\e.loc≠iq .disable/\e.loc≠iq .enable/\∀a,e.loc≠iq (.release a):=by
 obtain⟨a,m,rfl|rfl⟩:=h;.refine⟨λx c b f=>?_,by show a.block<B;grind,by simp,by simp,by simp⟩;simp only[ij,sG,ew]at c;grind[pC,Option.some.injEq]
 .refine⟨λx c b f=>?_,by show a.block<B;grind,by simp,by simp,by simp⟩;simp only[ij,sG,ew]at c;grind[pC,Option.some.injEq]
theorem cP.PO(H:cP K role 0 md ch cl (.hold 0) D T gs v)(z:K.live=Y){a a'}{es}{st' k}(N:gs[0]?=U a)(C:cj K.P Y a v=bU a' v' es)(d:Aside K.Wg v v')(t:WgAt K.L.tWg K.Wg v' st' k)(u:nL gs.size D md' st' k)(m:∀e∈es,Bk K.Wg e\/e=jJ (rz<|stA K.Wg)\/∃a,a.block=K.Wg/\(e=⟨iq<|.read a,ai,Y⟩\/e=⟨iq<|.write a,ai,Y⟩))(r:∀p,md'=.opn p->p<=2):runT K.P (dB gs v sl) 0=(fW<|dB ((gs.map<|woken K.P a a' v').setIfInBounds 0 a') v' sl,iI 0 a.frame.fn a.frame.place es)/\cP K role 0 md' ch cl (.hold 0) (bE D 0 {D 0 with deaf:=jZ (D 0).deaf es}) (T++iI 0 a.frame.fn a.frame.place es) ((gs.map<|woken K.P a a' v').setIfInBounds 0 a') v'/\((gs.map<|woken K.P a a' v').setIfInBounds 0 a')[0]?=a':=by
 have E:=H.inv.kE z;obtain⟨O,M,B,_⟩:=H.inv.wg z;have I:=pz B;have q:K.Wg<v':=by rw[d.size];grind
 refine H.step (x':={D 0 with deaf:=jZ (D 0).deaf es}) N C (xF d.size.symm) (λb _ o=>d.block b λe=>o<|aA<|ax ⟨z,e⟩) (λ_ _=>rfl) (λb F=>by rw[d.size];exact H.inv.own 0 b F) (λe A=>?_) (λe A=>?_) rfl (λ_ o=>absurd rfl o) rfl (λ_=>⟨st',k,t,u.congr λj Q _=>by grind[upd_ne]⟩) (λo=>absurd rfl o) r
 .rcases m e A with(c|c|⟨x,wr,rfl,f⟩)|rfl|c;.obtain⟨l,w,s⟩:=e;simp only at c;subst c;exact⟨λx f=>by simp[ij,sG]at f,trivial⟩
  .obtain⟨l,w,s⟩:=e;simp only at c;subst c;exact⟨λx f=>by simp[ij,sG]at f,trivial⟩
  .refine⟨λy J b F=>?_,?_⟩;.simp only[Dv,sG,ew]at J;grind[pC,Option.some.injEq]
   .rw[Dv];show x.block<_;grind
  .exact⟨λx f=>(by cases f),q⟩
  .exact⟨(aeg E q c).1,(aeg (who:=.hold 0) E q c).2.1⟩
 .rcases m e A with(c|c|⟨x,wr,rfl,f⟩)|rfl|c;.grind
  .grind
  .simp
  .simp[jJ]
  grind
theorem cP.zI(p:K.live=Y){Stop:aX->ay->Prop}:∀(n:Nat){md:Md}{ch:Nat->Option fK}{cl:Nat->fa}{D:Nat->dw}{T:eB}{gs:Array aX}{v:ay}{sl:Option<|Nat×Nat}{a:aX},cP K role 0 md ch cl (.hold 0) D T gs v->gs[0]?=U a->GQ K.P K.L K.Wg Stop n a v->∃N md' z cl' D' T' R v' dK Q1,ik K.P N (dB gs v sl) T=(fW<|dB R v' dK,T')/\R[0]?=U Q1/\(∀W,RL K.L K.Wg v' W->Stop Q1 W)/\cP K role 0 md' z cl' (.hold 0) D' T' R v'/\kD role 0 md ch cl D T gs v md' z cl' D' T' R v'/\D' 0=D 0/\Left cl (.=0) v v'
 |0,md,ch,cl,D,T,gs,v,sl,a,H,r,C=>⟨0,md,ch,cl,D,T,gs,v,sl,a,rfl,r,C,H,kD.refl,rfl,Left.refl _ _ _⟩|n+1,md,ch,cl,D,T,gs,v,sl,a,H,r,C=>by
  rcases C with c|⟨l,b⟩;.exact⟨0,md,ch,cl,D,T,gs,v,sl,a,rfl,r,c,H,kD.refl,rfl,Left.refl _ _ _⟩
  obtain⟨N,ic,pA,Q2,D1,T1,tP,Q,d,pY,gH,r1,k,w,m,u,J,P⟩:=H.picked r l sl;have o:=b (Q.at d) λ_=>(m.at d).inv.live p;cases f:cj K.P Y a (Q.at d)with|go a2 w2 es=>rw[f,eP]at o;obtain⟨⟨rfl,E⟩,I⟩:=o;obtain⟨st,sm,Q0,s⟩:=(m.at d).inv.wg p;obtain⟨r2,y,Q3⟩:=(m.at d).PO (sl:=gH) p w f (.refl _ _) Q0 s (λe X=>aA<|aA<|E e X) m.bound;rw[deafBehind_still λe X=>by grind _]at y;rw[vD D1 0]at y;obtain⟨N3,L,S,M,D3,T3,t,v3,B,a3,r3,F,O,H3,G3,A,L3⟩:=cP.zI p n (sl:=gH) y Q3 I;refine⟨N+(1+N3),L,S,M,D3,T3,t,v3,B,a3,runNT_then r1<|runNT_then (qI<|k.trans r2) r3,F,O,H3,((u.trans<|kD.at _ _ _ _ _ _ _ _ _ d).trans ⟨by simp,Left.refl _ _ _,λ_ _=>rfl,λ_ _ _ _=>rfl,λ_=>rfl,λ_ _ x=>x,λ_ _=>aS _,⟨_,rfl⟩,λq=>⟨rfl,q⟩,λ_ _ _ _=>rfl,λ_ _ _ _ _ _ _ h=>h,rfl,λ_ h=>h⟩).trans G3,A.trans J,(P.trans u.cls<|Left.at Q2 _ Q d).trans u.cls L3⟩|_=>rw[f]at o;exact o.elim
structure AU(role:Nat->Option fC)(ch:Nat->Option fK)(cl:Nat->fa)(D:Nat->dw)(T:eB)(gs:Array aX)(v:ay)(z:Nat->Option fK)(cl':Nat->fa)(D':Nat->dw)(T':eB)(R:Array aX)(v':ay):Prop where
 size:R.size=gs.size
 left:Left cl (.=0) v v'
 cls:∀b,b<v.heap.size->cl' b=cl b
 iv:∀j,j≠0->(D' j).stage=9->(D j).stage=9
 iu:∀j,j≠0->(D' j).stage<=(D j).stage
 ext:∃u,T'=T++u
 calm:mV role (.=0) ch D->z=ch/\mV role (.=0) z D'
 stage:(D' 0).stage=(D 0).stage
 own:(D' 0).own=(D 0).own
 eZ:∀j r,role j=U r->j≠0->z r.aO.c=ch r.aO.c
theorem AU.trans{d}{e}{o}{p}{f}{k}(a:AU role ch cl D T gs v z cl' D' T' R v')(b:AU role z cl' D' T' R v' d e o p f k):AU role ch cl D T gs v d e o p f k:=⟨b.size.trans a.size,a.left.trans a.cls b.left,λx l=>(b.cls x<|cE l a.left.size).trans<|a.cls x l,λj c x=>a.iv j c<|b.iv j c x,λj c=>bC (b.iu j c)<|a.iu j c,by obtain⟨u,rfl⟩:=a.ext;obtain⟨s,rfl⟩:=b.ext;grind,λq=>let⟨x,y⟩:=a.calm q;let⟨B,t⟩:=b.calm y;⟨B.trans x,t⟩,b.stage.trans a.stage,b.own.trans a.own,λj r m c=>(b.eZ j r m c).trans<|a.eZ j r m c⟩
theorem kD.B6(G:kD role 0 md ch cl D T gs v md' z cl' D' T' R v')(c:D' 0=D 0)(L:Left cl (.=0) v v'):AU role ch cl D T gs v z cl' D' T' R v':=⟨G.size,L,G.cls,G.iv,G.iu,G.ext,G.calm,by grind,by grind,λj r b a=>G.eZ j r b a⟩
theorem cP.Mc(H:cP K role 0 md ch cl (.hold 0) D T gs v)(I:K.live=Y){a:aX}(ha:gs[0]?=U a)(B:a.status=dU){Hl:aX->ay->Array jl->Md->(Nat->dw)->Prop}(u:∀O l c J M,RL K.L K.Wg v O->WgAt K.L.tWg K.Wg O J M->nL gs.size c l J M->((∃p,md=.opn p)->l=md)->(∀p,l=.opn p->md=.opn p/\p<=2)->(∀j,j≠0->(c j).stage<=(D j).stage)->(∀n,V2 n c<=2)->∃t v' k s w m,cj K.P Y a O=bU t v' k/\Aside K.Wg O v'/\WgAt K.L.tWg K.Wg v' s w/\nL gs.size c m s w/\(∀e∈k,Bk K.Wg e\/e=jJ (rz<|stA K.Wg)\/∃a,a.block=K.Wg/\(e=⟨iq<|.read a,ai,Y⟩\/e=⟨iq<|.write a,ai,Y⟩))/\(∀p,m=.opn p->p<=2)/\Hl t v' k m c)(sl:Option<|Nat×Nat):∃N md' z cl' c A R v' dK t k S W,ik K.P N (dB gs v sl) T=(fW<|dB R v' dK,A++iI 0 S W k)/\R[0]?=U t/\Hl t v' k md' c/\cP K role 0 md' z cl' (.hold 0) (bE c 0 {c 0 with deaf:=jZ (c 0).deaf k}) (A++iI 0 S W k) R v'/\AU role ch cl D T gs v z cl' (bE c 0 {c 0 with deaf:=jZ (c 0).deaf k}) (A++iI 0 S W k) R v'/\c 0=D 0/\Deaf A 0=(D 0).deaf:=by
 obtain⟨N,l,V,E,c,A,tP,v1,d,pY,gH,r1,Q0,X,o,x,y,L1⟩:=H.picked ha B sl;obtain⟨J,M,hw,ny⟩:=(o.at d).inv.wg I;obtain⟨t,v',k,s,w,m,P,f,Q,aG5,L,l6,C⟩:=u (v1.at d) l c J M (λ_=>(o.at d).inv.live I) hw (by rw[<-x.size];grind) x.qd (λp hp=>⟨x.opn p hp,o.bound p hp⟩) x.iu o.ga.qA;obtain⟨r2,H2,Z⟩:=(o.at d).PO (sl:=gH) I X P f Q (by rw[x.size];grind) L l6;refine⟨N+1,m,V,E,c,A,_,v',gH,t,k,_,_,runNT_then r1<|qI<|Q0.trans r2,Z,C,H2,((x.trans<|kD.at _ _ _ _ _ _ _ _ _ d).B6 y<|L1.trans x.cls<|Left.at E _ v1 d).trans ⟨by simp,⟨xF f.size.symm,λb hb hx=>f.block b λe=>?_,f.os,f.tape,f.output⟩,λ_ _=>rfl,λj F hx=>?_,λj F=>?_,⟨_,rfl⟩,λq=>⟨rfl,λj r hr F=>?_⟩,by rw[dc],by rw[dc],λ_ _ _ _=>rfl⟩,y,by rw[o.inv.deaf 0 o.inv.zero,y]⟩;.subst e;rw[o.inv.kE I]at hx;grind
 .grind[upd_ne]
 .rw[cT c _ F];grind
 .rw[cT c _ F];exact q j r hr F
section
variable (P:Program) (L:WgLink) (Wg:Nat)
def Hv(m:Mark)(k:aX->ay->Prop)(g:aX)(w:ay):Prop:=g.status=dU/\∃g',cj P Y g w=bU g' w #[jJ m]/\k g' w
def aEQ(k:aX->ay->Prop)(g:aX)(w:ay):Prop:=g.status=dU/\∀v:Nat,v<=1->WgAt L.tWg Wg w (v*KK) 0->∃g',cj P Y g w=bU g' (w.setCell (stA Wg)<|V cO<|(v+1)*KK) #[rd<|stA Wg,wr<|stA Wg]/\k g' (w.setCell (stA Wg)<|V cO<|(v+1)*KK)
def U2(E:aX):aX->ay->Prop:=λg w=>∃m,GQ P L Wg (Hv P .disable λg w=>∃m,GQ P L Wg (aEQ P L Wg λg w=>∃m,GQ P L Wg (Hv P .enable λg w=>∃m,GQ P L Wg (λg _=>g=E) m g w) m g w) m g w) m g w
def KS(E:aX):aX->ay->Prop:=λg w=>∃m,GQ P L Wg (Hv P .enable λg w=>∃m,GQ P L Wg (Hv P (rz<|stA Wg) λg w=>∃m,GQ P L Wg (λg _=>g=E) m g w) m g w) m g w
def ams(E:aX)(g:aX)(w:ay):Prop:=g.status=dU/\(WgAt L.tWg Wg w 0 0->∃g',cj P Y g w=bU g' w #[rd<|stA Wg]/\KS P L Wg E g' w)
def abP(E:aX)(g:aX)(w:ay):Prop:=g.status=dU/\g.offers=Z/\((∃st,WgAt L.tWg Wg w st 0)->cj P Y g w=bU {g with status:=.blocked} w #[])/\(WgAt L.tWg Wg w 0 1->∃g',cj P Y g w=bU g' (w.setCell (smA Wg)<|V .u32 0) (Ce<|smA Wg)/\∃m,GQ P L Wg (ams P L Wg E) m g'<|w.setCell (smA Wg)<|V .u32 0)
def amt(Hd:aX->ay->Prop)(E:aX)(vs:Nat)(g:aX)(w:ay):Prop:=g.status=dU/\∀v:Nat,v<=2->WgAt L.tWg Wg w (v*KK) 0->(v=vs->∃g',cj P Y g w=bU g' (w.setCell (stA Wg)<|V cO<|v*KK+1) #[rd<|stA Wg,wr<|stA Wg]/\∃m,GQ P L Wg (abP P L Wg E) m g'<|w.setCell (stA Wg)<|V cO<|v*KK+1)/\(v≠vs->∃g',cj P Y g w=bU g' w #[rd<|stA Wg]/\∃m,GQ P L Wg Hd m g' w)
def U0(Hd:aX->ay->Prop)(E:aX)(g:aX)(w:ay):Prop:=g.status=dU/\∀v:Nat,v<=2->WgAt L.tWg Wg w (v*KK) 0->∃g',cj P Y g w=bU g' w #[rd<|stA Wg]/\(v=0->KS P L Wg E g' w)/\(v≠0->∃m,GQ P L Wg (amt P L Wg Hd E v) m g' w)
def alN(Hd:aX->ay->Prop):aX->ay->Prop:=λg w=>∃m,GQ P L Wg (Hv P .disable λg w=>∃m,GQ P L Wg Hd m g w) m g w
end
theorem avF{b}{m}(h:m=.disable\/m=.enable\/m=rz (stA b)):∀e∈#[jJ m],Bk b e\/e=jJ (rz<|stA b)\/∃a,a.block=b/\(e=⟨iq<|.read a,ai,Y⟩\/e=⟨iq<|.write a,ai,Y⟩):=by
 intro e c;simp only[fP,dj,dP,dY]at c;subst c;rcases h with rfl|rfl|rfl;.exact ax<|ax rfl
 .exact ax<|aA<|ax rfl
 grind
theorem cP.LS(H:cP K role 0 md ch cl (.hold 0) D T gs v)(M:K.live=Y){a}(ha:gs[0]?=U a){m}(hm:m=.disable\/m=.enable\/m=rz (stA K.Wg)){k}{n}(hG:GQ K.P K.L K.Wg (Hv K.P m k) n a v)(sl):∃N md' z cl' D' e R v' dK q d f,ik K.P N (dB gs v sl) T=(fW<|dB R v' dK,e++iI 0 d f #[jJ m])/\R[0]?=U q/\k q v'/\cP K role 0 md' z cl' (.hold 0) D' (e++iI 0 d f #[jJ m]) R v'/\AU role ch cl D T gs v z cl' D' (e++iI 0 d f #[jJ m]) R v'/\(D' 0).deaf=jZ (D 0).deaf #[jJ m]/\((∃p,md=.opn p)->md'=md)/\Deaf e 0=(D 0).deaf:=by obtain⟨N,c,W,gW,D1,e,tP,v1,A,a1,X,w,o,V,O,B,S⟩:=cP.zI M n (sl:=sl) H ha hG;obtain⟨Z,b,t,I,D2,T2,E,v2,s,a2,J,d,f,r2,x,⟨rfl,F,l⟩,H2,L,P,Gs⟩:=V.Mc M w (o v1 id).1 (Hl:=λq v' J b D1=>J=#[jJ m]/\k q v'/\((∃p,c=.opn p)->b=c)) (λQ C Dx st sm hr Q0 r l u gI hV=>by obtain⟨_,g',y,F⟩:=o Q hr;exact⟨g',Q,_,st,sm,C,y,.refl _ _,Q0,r,avF hm,λp Q1=>(u p Q1).2,rfl,F,l⟩) A;refine⟨N+Z,b,t,I,_,T2,E,v2,s,a2,d,f,runNT_then X r2,x,F,H2,(O.B6 B S).trans L,by grind[upd_same],λQ1=>?_,by grind⟩;have e1:=O.qd Q1;grind
theorem CE(h:∀j,j≠0->(D' j).stage<=(D j).stage):V2 n D'<=V2 n D:=by
 have e:V2 n (bE D' 0<|D 0)=V2 n D':=AM λi a _=>by grind[upd_ne]
 rw[<-e];exact EY λj=>by
  by_cases e:j=0;.subst e;rw[dc];grind
  grind[upd_ne]
theorem aeh{b}:∀e∈#[rd<|stA b,wr<|stA b],Bk b e\/e=jJ (rz<|stA b)\/∃a,a.block=b/\(e=⟨iq<|.read a,ai,Y⟩\/e=⟨iq<|.write a,ai,Y⟩):=by intro e c;simp only[fP,dj,dP,dY]at c;rcases c with rfl|rfl<;>exact ax<|bk_cell _ _ rfl
theorem WU{b}:∀e∈#[rd<|stA b],Bk b e\/e=jJ (rz<|stA b)\/∃a,a.block=b/\(e=⟨iq<|.read a,ai,Y⟩\/e=⟨iq<|.write a,ai,Y⟩):=by intro e c;simp only[fP,dj,dP,dY]at c;subst c;exact ax<|bk_cell _ _ rfl
theorem cP.add{p}(H:cP K role 0 (.opn p) ch cl (.hold 0) D T gs v)(d:K.live=Y)(hp:p<=1)(hVp:V2 gs.size D+p<=1){a J}(ha:gs[0]?=U a)(h0:(D 0).deaf=0)(hS:U2 K.P K.L K.Wg J a v)(sl):
  ∃N z cl' D' T' R v' dK,ik K.P N (dB gs v sl) T=(fW<|dB R v' dK,T')/\R[0]?=J/\cP K role 0 (.opn<|p+1) z cl' (.hold 0) D' T' R v'/\AU role ch cl D T gs v z cl' D' T' R v'/\(D' 0).deaf=0:=by obtain⟨m1,G1⟩:=hS;obtain⟨N1,ic,pA,gW,D1,T1,tP,v1,pY,a1,fn1,pl1,r1,y,⟨m2,G2⟩,H1,B,d1,e1,_⟩:=H.LS d ha (ax rfl) G1 sl;obtain rfl:=e1 ⟨p,rfl⟩;obtain⟨N2,e,qy,lN,D2,T2,b,v2,r,a2,r2,A,k,H2,l,c,L2⟩:=cP.zI d m2 (sl:=pY) H1 y G2;obtain rfl:=l.qd ⟨p,rfl⟩;obtain⟨N3,Ml,AI,zm,D3,T3,TM,v3,E,a3,V,fn3,pl3,r3,M,⟨rfl,rfl,m4,G4⟩,H3,g3,F,_⟩:=H2.Mc d A (k v2 id).1 (Hl:=λa' v' V e D1=>V=#[rd<|stA K.Wg,wr<|stA K.Wg]/\e=.opn (p+1)/\∃m,GQ K.P K.L K.Wg (Hv K.P .enable λg w=>∃m,GQ K.P K.L K.Wg (λg _=>g=J) m g w) m a' v') (λX X8 O st sm hr S q I iX P hV=>by
   obtain rfl:=I ⟨p,rfl⟩;obtain⟨ho,rfl,rfl⟩:=q;have hle:V2 b.size O<=V2 gs.size D:=by rw[l.size,B.size];exact bC (CE P)<|bC (CE l.iu)<|CE B.iu
   obtain⟨g',Q0,hk⟩:=(k X hr).2 (V2 b.size O+p) (by omega) S;refine⟨g',_,_,(((V2 b.size O+p:Nat):Int)+1)*KK,0,.opn<|p+1,Q0,aside_setCell X (stA K.Wg) _,S.setSt _,⟨ho,?_,rfl⟩,aeh,λp' Na=>by grind,rfl,rfl,hk⟩;grind) r;obtain⟨N4,Ry,zn,KB,D4,T4,gs4,v4,VW,a4,fn4,pl4,r4,C,⟨m5,Z⟩,H4,g4,d4,e4,_⟩:=H3.LS d M (aA<|ax rfl) G4 E;obtain rfl:=e4 ⟨p+1,rfl⟩;obtain⟨N5,Mk,o,x,D5,T5,s,W,Q,a5,r5,t,u,H5,L,f,L5⟩:=cP.zI d m5 (sl:=VW) H4 C Z;obtain rfl:=L.qd ⟨p+1,rfl⟩;obtain rfl:=u W id;refine⟨N1+(N2+(N3+(N4+N5))),o,x,D5,T5,s,W,Q,runNT_then r1<|runNT_then r2<|runNT_then r3<|runNT_then r4 r5,t,H5,B.trans<|(l.B6 c L2).trans<|g3.trans<|g4.trans<|L.B6 f L5,?_⟩;rw[f,d4,dc,F,c,d1,h0];rfl
def A1(role:Nat->Option fC)(ch:Nat->Option fK):Prop:=∀i r,role i=U r->0<i->∃st,ch r.aO.c=U st/\st.shut=Y
theorem Inv.runs(I:Inv K role (.=0) md ch cl who D T gs v)(hs:A1 role ch)(a:0<i)(k:i<gs.size)(t:2<=(D i).stage):∃g,gs[i]?=U g/\g.status=dU:=by refine⟨_,iy k,?_⟩;have c:=I.gP i _ (FT a)<|iy k;cases e:role i with|none=>rw[e]at c;have:=c.2.1;omega|some r=>
  rw[e]at c;rcases c with⟨l,_,b⟩|⟨_,_,_,_,d⟩|⟨_,_,_,_,d⟩|⟨q,_,_,d⟩
  .rcases b.status with⟨h,_⟩|⟨_,h⟩;.grind
   .obtain⟨s,p,c⟩:=I.oq i r e l<|FT a;obtain⟨o,f,m⟩:=hs i r e a;grind
  .exact qg (λ_ _ x=>x.1) v (L.refl _ _) d
  .exact qg (λ_ _ x=>x.1) v (oR _) d
  grind[Go.ConcN.WSit.running_of]
structure Wt(role:Nat->Option fC)(ch:Nat->Option fK)(cl:Nat->fa)(D:Nat->dw)(T:eB)(gs:Array aX)(v:ay)(z:Nat->Option fK)(cl':Nat->fa)(D':Nat->dw)(T':eB)(R:Array aX)(v':ay):Prop where
 size:R.size=gs.size
 left:Left cl (.=0) v v'
 cls:∀b,b<v.heap.size->cl' b=cl b
 iu:∀j,j≠0->(D' j).stage<=(D j).stage
 own:(D' 0).own=(D 0).own
 stage:(D' 0).stage=(D 0).stage
 eZ:∀j r,role j=U r->j≠0->z r.aO.c=ch r.aO.c
theorem Wt.trans{d}{e}{o}{p}{f}{k}(a:Wt role ch cl D T gs v z cl' D' T' R v')(b:Wt role z cl' D' T' R v' d e o p f k):Wt role ch cl D T gs v d e o p f k:=⟨b.size.trans a.size,a.left.trans a.cls b.left,λx l=>(b.cls x<|cE l a.left.size).trans<|a.cls x l,λj c=>bC (b.iu j c)<|a.iu j c,b.own.trans a.own,b.stage.trans a.stage,λj r m c=>(b.eZ j r m c).trans<|a.eZ j r m c⟩
theorem Wt.refl:Wt role ch cl D T gs v ch cl D T gs v:=⟨rfl,Left.refl _ _ _,λ_ _=>rfl,λ_ _=>aS _,rfl,rfl,λ_ _ _ _=>rfl⟩
theorem pI.wt(L:pI K role (.=0) md ch cl who D T gs v md' z cl' D' T' R v'):Wt role ch cl D T gs v z cl' D' T' R v':=⟨L.size,L.left,L.cls,λj _=>L.iu j,by rw[L.A8 0 rfl],by rw[L.A8 0 rfl],λj r b a=>L.eZ j r b a⟩
theorem A1.later(h:A1 role ch)(e:∀j r,role j=U r->j≠0->z r.aO.c=ch r.aO.c):A1 role z:=λi r a b=>by obtain⟨d,k,f⟩:=h i r a b;grind
theorem nL.aqA{c b}(a:nL n D md c b)(f:∀p,md≠.opn p)(q:md≠.sema):∃i,0<i/\i<n/\2<=(D i).stage:=by cases md with
 |opn p=>grind|reg=>
  obtain⟨_,e,_⟩:=a;refine oe λd=>?_;have:V2 n D=0:=by
   unfold V2;rw[zY (g:=λ_=>0) λi k=>?_];.grind[Fw]
   .unfold gq;grind
  omega|last=>obtain⟨l,o,m,h,_⟩:=a;grind|sema=>grind
def CF(K:fG)(role:Nat->Option fC)(E:aX)(ch:Nat->Option fK)(cl:Nat->fa)(D:Nat->dw)(T:eB)(gs:Array aX)(v:ay)(sl:Option<|Nat×Nat):Prop:=∃N z cl' D' T' R v' dK a',ik K.P N (dB gs v sl) T=(fW<|dB R v' dK,T')/\R[0]?=U a'/\(∃m,GQ K.P K.L K.Wg (ams K.P K.L K.Wg E) m a' v')/\cP K role 0 (.opn 0) z cl' (.hold 0) D' T' R v'/\Wt role ch cl D T gs v z cl' D' T' R v'/\(D' 0).deaf=1/\∀i,0<i->i<gs.size->(D' i).stage=1
theorem CF.vF{f}{d:Nat}{N}(t:ik K.P N (dB gs v sl) T=(fW<|dB R v' dK,T'))(w:Wt role ch cl D T gs v z cl' D' T' R v')(h:CF K role f z cl' D' T' R v' dK):CF K role f ch cl D T gs v sl:=by obtain⟨x,b,c,C,B,e,q,a,u,r,p,y,s,m,A,l⟩:=h;exact⟨N+x,b,c,C,B,e,q,a,u,runNT_then t r,p,y,s,w.trans m,A,λi o k=>l i o<|by rw[w.size];grind⟩
def UL(K:fG)(role:Nat->Option fC)(a J:aX)(E:Nat×Nat):Prop:=∀(md:Md)(ch:Nat->Option fK)(cl:Nat->fa)(D:Nat->dw)(T:eB)(gs:Array aX)(v:ay)(sl:Option<|Nat×Nat)(y:aX),oE gs.size D=E->Inv K role (.=0) md ch cl (.hold 0) D T gs v->oH K role (.=0) ch D->Hp role (.=0) ch->A1 role ch->(∀p,md≠.opn p)->gs[0]?=U y->y=a\/y={a with status:=.blocked}/\md≠.sema->(D 0).deaf=1->CF K role J ch cl D T gs v sl
theorem aBI{a:aX}(h:a.status=dU):{a with status:=dU}=a:=by cases a;grind
theorem aeb(hl:K.live=Y){a M:aX}{Q:Nat×Nat}(X:∀N,Lt2 N Q->UL K role a M N)(har:a.status=dU)(H:a.offers=Z){y:aX}(w:oE gs.size D=Q)(I:Inv K role (.=0) md ch cl (.hold 0) D T gs v)(C:oH K role (.=0) ch D)(E:Hp role (.=0) ch)(hs:A1 role ch)(f:∀p,md≠.opn p)(P:gs[0]?=U y)(Q2:y=a\/y={a with status:=.blocked}/\md≠.sema)(hd:(D 0).deaf=1){i d:Nat}{g:aX}(O:gs[i]?=U g)(Q1:g.status=dU)(c:i≠0)(F:stepT K.P (dB gs v sl)=runT K.P (dB gs (v.at d) dK) i):CF K role M ch cl D T gs v sl:=by
 have B:lO (.=0) gs:=by rintro j t rfl s;grind
 rcases(I.at d).other (sl:=dK) C B c O Q1 λp QW=>absurd QW<|f p with⟨md',z,cl',D',T',R,v',S,J,k,x⟩|⟨r,g2,A,m,h9,Q0,l,W⟩
 .obtain⟨Q3,u,rfl⟩:=S.run;have L:=(pI.at I C d).trans<|(I.at d).later c O S J k x;obtain⟨t,s,o⟩:=S.C5 0 y rfl P;have q:∀p,md'≠.opn p:=λp QW=>f p<|L.opn p QW;have b:t=a\/t={a with status:=.blocked}/\md'≠.sema:=by
   rcases Q2 with rfl|⟨rfl,hm⟩
   .rcases o with rfl|⟨hb,_⟩;.grind
    grind
   .rcases o with rfl|⟨_,rfl⟩
    .refine aA ⟨rfl,λe=>?_⟩;rcases S.sema e with h|h;.grind
     grind
    grind[aBI]
  refine CF.vF (d:=d) (N:=1) ?_ L.wt (X (oE R.size D') (by rw[<-w,S.size];exact S.lt) md' z cl' D' _ R v' dK t rfl S.inv J λj r A m hs F=>E j r A m hs<|by grind (hs.later λj r m hj=>k j r m hj) q s b<|by rw[S.A8 0 rfl];grind);grind[qI]
 .obtain⟨e1,e2⟩:=E i r A m c l;grind
theorem aec(y:K.live=Y){a u}{z}(F:∀w,Lt2 w z->UL K role a u w)(l:a.status=dU)(b:a.offers=Z)(f:oE gs.size D=z)(I:Inv K role (.=0) md ch cl (.hold 0) D T gs v)(C:oH K role (.=0) ch D)(E:Hp role (.=0) ch)(hs:A1 role ch)(c:∀p,md≠.opn p)(A:gs[0]?=U {a with status:=.blocked})(x:md≠.sema)(B:(D 0).deaf=1):CF K role u ch cl D T gs v sl:=by
 have m:lO (.=0) gs:=by rintro j O rfl H;grind
 obtain⟨M,N,L,k⟩:=I.wg y;obtain⟨i,s,o,J⟩:=k.aqA c x;obtain⟨g,r,q⟩:=I.runs hs s o J;obtain⟨i,g,d,dK,o,r,t⟩:=RP (P:=K.P) (w:=v) (sl:=sl) (I.awake m) ⟨i,g,r,q⟩;refine aeb y F l b f I C E hs c A (aA ⟨rfl,x⟩) B o r (λe=>?_) t;grind
theorem Inv.sem(o:K.live=Y){a N:aX}(Q1:∀w1,jK K.L.tWg K.Wg w1->abP K.P K.L K.Wg N a w1)(hb:∀n,V2 n D<=2)(J:Nat×Nat):UL K role a N J:=by
 refine(Prod.lex GU GU).wf.induction (C:=λJ=>UL K role a N J) J ?_;intro J R md ch cl D T gs v sl y x I C E Q m z hc M;obtain⟨q,c,r,f⟩:=Q1 v<|I.live o;rcases hc with rfl|⟨rfl,Q2⟩
 .have W:lO (.=0) gs:=by rintro j y' rfl Ai;grind
  obtain⟨i,g,d,dK,B,hg,t⟩:=RP (P:=K.P) (w:=v) (sl:=sl) (I.awake W) ⟨0,y,z,q⟩;by_cases A:i=0
  .subst A;have H:cP K role 0 md ch cl (.hold 0) D T gs<|v.at d:=⟨I.at d,C,E,λp Q0=>absurd Q0<|m p⟩;obtain⟨st,sm,O,l⟩:=H.inv.wg o;obtain⟨_,_,r,f⟩:=Q1 (v.at d)<|H.inv.live o;have F:(∃st,WgAt K.L.tWg K.Wg (v.at d) st 0)->md≠.sema->CF K role N ch cl D T gs v sl:=λX Q2=>by obtain⟨L,u,s⟩:=H.PO (sl:=dK) o z (r X) (.refl _ _) O l (by simp) H.bound;have e0:bE D 0 {D 0 with deaf:=jZ (D 0).deaf #[]}=D:=vD D 0;rw[e0]at u;refine CF.vF (d:=d) (N:=1) (qI<|t.trans L) ⟨by simp,Left.at _ _ _ _,λ_ _=>rfl,λ_ _=>aS _,rfl,rfl,λ_ _ _ _=>rfl⟩<|aec o R q c (by grind) u.inv u.ga u.uE Q m s Q2 M
   cases md with|opn p=>grind|reg=>obtain⟨_,_,_,rfl⟩:=l;grind|last=>obtain⟨_,_,_,_,_,_,rfl⟩:=l;grind|sema=>
    obtain⟨h1,rfl,rfl⟩:=l;obtain⟨g',S,hk⟩:=f O;have hv:V2 gs.size D=0:=by
     unfold V2;rw[zY (g:=λ_=>0) λi B=>?_];.grind[Fw]
     .unfold gq;grind
    obtain⟨L,u,s⟩:=H.PO (sl:=dK) (md':=.opn 0) o z S (aside_setCell _ (smA K.Wg) _) (O.setSm 0) ⟨λi B w=>aA<|h1 i B w,by grind,rfl⟩ (λe he=>by
     simp[Ce]at he;rcases he with rfl|rfl|rfl|rfl;.exact ax<|ax rfl
     .exact ax<|bk_cell _ _ rfl
     .exact ax<|bk_cell _ _ rfl
     .exact ax<|aA<|ax rfl) (λp Q0=>by grind);have k:=aside_setCell (v.at d) (smA K.Wg)<|V .u32 0;refine⟨1,ch,cl,_,_,_,_,dK,g',qI<|t.trans L,s,hk,u,⟨by simp,(Left.at cl _ v d).trans (λ_ _=>rfl) (cl':=cl) ⟨xF k.size.symm,λb hb hx=>k.block b λe=>?_,k.os,k.tape,k.output⟩,λ_ _=>rfl,λj hj=>by rw[cT D _ hj];grind,by rw[dc],by rw[dc],λ_ _ _ _=>rfl⟩,by rw[dc,M];rfl,λi B w=>by grind[upd_ne]⟩;have e':b=K.Wg:=e;subst e';rw[I.kE o]at hx;grind
  .exact aeb o R q c x I C E Q m z (ax rfl) M B hg A t
 .exact aec o R q c x I C E Q m z Q2 M
theorem AU.wt(G:AU role ch cl D T gs v z cl' D' T' R v'):Wt role ch cl D T gs v z cl' D' T' R v':=⟨G.size,G.left,G.cls,G.iu,G.own,G.stage,G.eZ⟩
def yb(K:fG)(role:Nat->Option fC)(E:aX)(ch:Nat->Option fK)(cl:Nat->fa)(D:Nat->dw)(T:eB)(gs:Array aX)(v:ay)(sl:Option<|Nat×Nat):Prop:=∃N z cl' D' T' R v' dK a',ik K.P N (dB gs v sl) T=(fW<|dB R v' dK,T')/\R[0]?=U a'/\KS K.P K.L K.Wg E a' v'/\cP K role 0 (.opn 0) z cl' (.hold 0) D' T' R v'/\Wt role ch cl D T gs v z cl' D' T' R v'/\(D' 0).deaf=1/\∀i,0<i->i<gs.size->(D' i).stage=1
theorem yb.vF{e}{N}(s:ik K.P N (dB gs v sl) T=(fW<|dB R v' dK,T'))(w:Wt role ch cl D T gs v z cl' D' T' R v')(h:yb K role e z cl' D' T' R v' dK):yb K role e ch cl D T gs v sl:=by obtain⟨u,b,c,y,A,d,p,a,t,r,o,x,q,l,B,k⟩:=h;exact⟨N+u,b,c,y,A,d,p,a,t,runNT_then s r,o,x,q,w.trans l,B,λi m f=>k i m<|by rw[w.size];grind⟩
theorem aEs(h:V2 n D=0):∀i,0<i->i<n->(D i).stage<5:=λi b a=>by have:=le_sumTo (f:=λx=>gq x<|D x) a;unfold V2 at h;rw[h]at this;unfold gq at this;grind
theorem aEt(h:∀i,0<i->i<n->(D i).stage=1):V2 n D=0:=by
 unfold V2;rw[zY (g:=λ_=>0) λi a=>?_];.grind[Fw]
 .unfold gq;grind
theorem cP.waitLoop(E:K.live=Y){Q0:aX}{Hd:aX->ay->Prop}(hHd:∀g w,Hd g w->∃m,GQ K.P K.L K.Wg (U0 K.P K.L K.Wg Hd Q0) m g w):∀(Q1:Nat){ch:Nat->Option fK}{cl:Nat->fa}{D:Nat->dw}{T:eB}{gs:Array aX}{v:ay}{sl:Option<|Nat×Nat}{a:aX}{m:Nat},V2 gs.size D<=Q1->cP K role 0 (.opn 0) ch cl (.hold 0) D T gs v->A1 role ch->gs[0]?=U a->(D 0).deaf=1->GQ K.P K.L K.Wg Hd m a v->yb K role Q0 ch cl D T gs v sl:=by intro Q1;induction Q1 using Nat.strongRecOn with|ind Q1 ih=>
 intro ch cl D T gs v sl a m hV H hs ha h1 hG;obtain⟨N1,ic,pA,gW,D1,T1,tP,v1,pY,a1,r1,qZ,DL,H1,G1,Kc,L1⟩:=cP.zI E m (sl:=sl) H ha hG;obtain rfl:=G1.qd ⟨0,rfl⟩;have W1:=(G1.B6 Kc L1).wt;refine yb.vF r1 W1 ?_;have ayx:=hs.later W1.eZ;have J6:V2 tP.size D1<=Q1:=bC (by rw[W1.size];exact CE W1.iu) hV;have Ny:(D1 0).deaf=1:=by grind
 obtain⟨m2,G2⟩:=hHd a1 v1<|DL v1 id;obtain⟨N2,s,qy,lN,D2,T2,b,v2,gH,a2,r2,ha2,BI,H2,g2,TC,L2⟩:=cP.zI E m2 (sl:=pY) H1 qZ G2;obtain rfl:=g2.qd ⟨0,rfl⟩;have W2:=(g2.B6 TC L2).wt;refine yb.vF r2 W2 ?_;have ayw:=ayx.later W2.eZ;have az9:V2 b.size D2<=Q1:=bC (by rw[W2.size];exact CE W2.iu) J6;have JX:(D2 0).deaf=1:=by grind
 obtain⟨N3,Ml,AI,zm,l,T3,L,v3,C7,a3,X,fn3,pl3,r3,ki,⟨rfl,rfl,aHO,h3o,O,W⟩,H3,g3,hD3,_⟩:=H2.Mc E ha2 (BI v2 id).1 (Hl:=λS v' X s f=>X=#[rd<|stA K.Wg]/\s=.opn 0/\V2 b.size f<=Q1/\OpenSt b.size f/\(V2 b.size f=0->KS K.P K.L K.Wg Q0 S v')/\(V2 b.size f≠0->∃m,GQ K.P K.L K.Wg (amt K.P K.L K.Wg Hd Q0<|V2 b.size f) m S v')) (λx X8 f st sm hr A k y iX z B=>by obtain rfl:=y ⟨0,rfl⟩;have c:=k;obtain⟨I,rfl,rfl⟩:=k;have hv:=B b.size;obtain⟨Q2,o,O,W⟩:=(BI x hr).2 (V2 b.size f) (by omega) A;exact⟨Q2,x,_,_,0,.opn 0,o,.refl _ _,A,c,WU,λp' t=>by grind,rfl,rfl,bC (CE z) az9,I,O,W⟩) gH;have W3:=g3.wt;refine yb.vF r3 W3 ?_;have ayv:=ayw.later W3.eZ;have JW:(bE l 0 {l 0 with deaf:=jZ (l 0).deaf #[rd<|stA K.Wg]} 0).deaf=1:=by rw[dc,hD3,TC,Kc,h1];rfl
 have hV3:V2 L.size (bE l 0 {l 0 with deaf:=jZ (l 0).deaf #[rd<|stA K.Wg]})=V2 b.size l:=by rw[W3.size];grind[AM,upd_ne]
 by_cases q:V2 b.size l=0
 .have Zj:∀i,0<i->i<L.size->(bE l 0 {l 0 with deaf:=jZ (l 0).deaf #[rd<|stA K.Wg]} i).stage=1:=λi J u=>by
   rw[cT l _<|by omega];have F:i<b.size:=by rw[<-W3.size];grind
   have:=aEs q i J F;rcases h3o i J F with h|h;.omega
   grind
  exact⟨0,AI,zm,_,_,L,v3,C7,a3,rfl,ki,O q,H3,Wt.refl,JW,Zj⟩
 .obtain⟨m4,G4⟩:=W q;obtain⟨N4,Ry,zn,KB,D4,T4,d,v4,VW,a4,r4,ha4,SJ,H4,g4,hD4,L4⟩:=cP.zI E m4 (sl:=C7) H3 ki G4;obtain rfl:=g4.qd ⟨0,rfl⟩;have W4:=(g4.B6 hD4 L4).wt;refine yb.vF r4 W4 ?_;have ayu:=ayv.later W4.eZ;have Nx:(D4 0).deaf=1:=by grind
  have Gw:V2 d.size D4<=V2 b.size l:=by rw[<-hV3,W4.size];exact CE W4.iu
  obtain⟨N5,Mk,Co,Cn,C,T5,gs5,v5,sl5,a5,es5,fn5,pl5,r5,ha5,r,H5,g5,hD5,_⟩:=H4.Mc E ha4 (SJ v4 id).1 (Hl:=λS v' X s f=>jZ 1 X=1/\((s=.reg/\∃m,GQ K.P K.L K.Wg (abP K.P K.L K.Wg Q0) m S v')\/s=.opn 0/\V2 d.size f<V2 b.size l/\∃m,GQ K.P K.L K.Wg Hd m S v')) (λx X8 f st sm hr A k y iX z B=>by
    obtain rfl:=y ⟨0,rfl⟩;have c:=k;obtain⟨I,rfl,rfl⟩:=k;have hv:=B d.size;have hle:V2 d.size f<=V2 d.size D4:=CE z;obtain⟨azr,Q⟩:=(SJ x hr).2 (V2 d.size f) (by omega) A;by_cases e:V2 d.size f=V2 b.size l;.obtain⟨Q2,o,hk⟩:=azr e;exact⟨Q2,_,_,_,0,.reg,o,aside_setCell x (stA K.Wg) _,A.setSt _,⟨I,by omega,by simp,rfl⟩,aeh,λp' t=>(by cases t),rfl,ax ⟨rfl,hk⟩⟩
    .obtain⟨Q2,o,hk⟩:=Q e;exact⟨Q2,x,_,_,0,.opn 0,o,.refl _ _,A,c,WU,λp' t=>by cases t;omega,rfl,aA ⟨rfl,by omega,hk⟩⟩) VW;have W5:=g5.wt;refine yb.vF r5 W5 ?_;have M:=ayu.later W5.eZ;obtain⟨P,r⟩:=r;have JV:(bE C 0 {C 0 with deaf:=jZ (C 0).deaf es5} 0).deaf=1:=by rw[dc,hD5,Nx];exact P
  rcases r with⟨rfl,m6,G6⟩|⟨rfl,u,m6,G6⟩
  .obtain⟨N6,Rx,OT,Us,D6,T6,gs6,v6,sl6,a6,r6,ha6,F8,H6,g6,hD6,L6⟩:=cP.zI E m6 (sl:=sl5) H5 ha5 G6;have W6:=(g6.B6 hD6 L6).wt;refine yb.vF r6 W6 ?_;have ays:=M.later W6.eZ;have Nw:(D6 0).deaf=1:=by rw[hD6];exact JV
   obtain⟨N7,ch7,cl7,D7,T7,gs7,v7,sl7,a7,r7,ha7,⟨m7,G7⟩,H7,W7',Nv,ayl⟩:=Inv.sem (D:=D6) E (λx fg=>F8 x λ_=>fg) H6.ga.qA _ _ _ _ _ _ _ _ sl6 a6 rfl H6.inv H6.ga H6.uE ays (λp hp=>by have:=g6.opn p hp;cases this) ha6 (ax rfl) Nw;refine yb.vF r7 W7' ?_;have ayj:gs7.size=gs6.size:=W7'.size;obtain⟨N8,md8,ch8,cl8,D8,T8,N,v8,sl8,a8,r8,ha8,JG,H8,g8,hD8,L8⟩:=cP.zI E m7 (sl:=sl7) H7 ha7 G7;obtain rfl:=g8.qd ⟨0,rfl⟩;have W8:=(g8.B6 hD8 L8).wt;refine yb.vF r8 W8 ?_;have one:∀(D':Nat->dw)(R:Array aX),R.size=gs7.size->(∀j,j≠0->(D' j).stage<=(D7 j).stage)->OpenSt R.size D'->∀i,0<i->i<R.size->(D' i).stage=1:=λD' R e hle I i J u=>by have h7:=ayl i J (by rw[<-ayj,<-e];exact u);have:=hle i (by omega);rcases I i J u with h|h<;>omega
   obtain⟨N9,md9,ch9,cl9,D9,T9,gs9,v9,sl9,a9,es9,fn9,pl9,r9,ha9,⟨rfl,rfl,h9o,hk9⟩,H9,g9,hD9,_⟩:=H8.Mc E ha8 (JG v8 id).1 (Hl:=λS v' X s f=>X=#[rd<|stA K.Wg]/\s=.opn 0/\(∀i,0<i->i<N.size->(f i).stage=1)/\KS K.P K.L K.Wg Q0 S v') (λx X8 f st sm hr A k y iX z B=>by obtain rfl:=y ⟨0,rfl⟩;have c:=k;obtain⟨I,rfl,rfl⟩:=k;have h1s:=one f N W8.size (λj hj=>bC (z j hj)<|W8.iu j hj) I;have q:V2 N.size f=0:=aEt h1s;rw[q]at A c;obtain⟨Q2,o,hk⟩:=(JG x hr).2 (by simpa using A);exact⟨Q2,x,_,_,0,.opn 0,o,.refl _ _,A,by rw[<-q];rw[<-q]at c;exact⟨I,rfl,rfl⟩,WU,λp' t=>by cases t;omega,rfl,rfl,h1s,hk⟩) sl8;have W9:=g9.wt;refine⟨N9,ch9,cl9,_,_,gs9,v9,sl9,a9,r9,ha9,hk9,H9,W9,?_,λi J u=>?_⟩;.rw[dc,hD9,hD8,Nv];rfl
   .rw[cT D9 _<|by omega];exact h9o i J u
  .have hV5:V2 gs5.size (bE C 0 {C 0 with deaf:=jZ (C 0).deaf es5})=V2 d.size C:=by rw[W5.size];exact AM λi J _=>by rw[cT C _<|by omega]
   exact ih (V2 d.size C) (by omega) (xF hV5) H5 M ha5 JV G6
theorem cP.drop(H:cP K role 0 (.opn 0) ch cl (.hold 0) D T gs v)(d:∀i,0<i->i<gs.size->(D i).stage=1):cP {K with n0:=T.size} (λ_=>Z) 0 (.opn 0) ch cl (.hold 0) (λi=>if i=0 then D 0 else{D i with own:=[]}) T gs v:=by
 have I:=H.inv;have k:∀i,((λi=>if i=0 then D 0 else{D i with own:=[]}) i:dw).stage=(D i).stage:=λi=>by grind
 have u:∀i,((λi=>if i=0 then D 0 else{D i with own:=[]}) i:dw).deaf=(D i).deaf:=λi=>by grind
 refine⟨⟨λi g w x=>?_,λi B=>(I.deaf i B).trans (u i).symm,I.above,I.tr,λi b y=>?_,I.chan,λi r a=>by grind,λi r a=>by grind,λi j r E a=>by grind,λC=>?_,I.kE,λi r a=>by grind,I.norel,λF M z L=>?_,I.zero,λi r a=>by grind⟩,⟨λi r a=>by grind,λi r q a=>by grind,λi j r E a=>by grind,λi r a=>by grind,λn=>?_⟩,λj r q a=>by grind,H.bound⟩;.have c:0<i:=Mv w;have o:=(je.1 x).1;have t:=d i c o;have m:=I.gP i g w x;simp only[FT c,if_false];cases a:role i with|none=>rw[a]at m;exact⟨c,t,m.2.2.1,rfl⟩|some r=>
   rw[a]at m;rcases m with⟨h,_⟩|⟨h,_⟩|⟨h,_⟩|⟨_,_,_,l⟩;.omega
   .omega
   .omega
   .refine⟨c,t,?_,rfl⟩;generalize f:(D i).stage=s at l;rw[t]at f;subst f;cases l with|quit J=>grind
 .by_cases e:i=0;.subst e;exact I.own 0 b y
  grind
 .obtain⟨q,A,l,p⟩:=I.wg C;exact⟨q,A,l,p.congr λj _ _=>k j⟩
 .grind
 .have e:V2 n (λi=>if i=0 then D 0 else{D i with own:=[]})=V2 n D:=AM λi _ _=>k i;rw[e];exact H.ga.qA n
theorem axj{l}{b}(h:pC l=U b):l.isMemory=Y:=by cases l<;>first|rfl|cases h
theorem cP.alone(H:cP K (λ_=>Z) 0 (.opn 0) ch cl (.hold 0) D T gs v)(m:T.HandedOver):cP {K with live:=ai,fR:=λl=>K.fR l∨∃b,pC l=U b∧cl b≠.eV} (λ_=>Z) 0 (.opn 0) (λ_=>Z) (λb=>if cl b=.eV then .eV else .old) (.hold 0) (λi=>{D i with own:=[]}) T gs v:=by
 have I:=H.inv;refine⟨⟨λi g A t=>?_,I.deaf,I.above,⟨I.tr.clean,λi a b y f=>?_,I.tr.seen⟩,λi b f=>by grind,λc w p=>by grind,λi r d=>by grind,λi r d=>by grind,λi j r M d=>by grind,λJ=>by grind,λJ=>by grind,λi r d=>by grind,I.norel,I.rA,I.zero,λi r d=>by grind⟩,⟨λi r d=>by grind,λi r w d=>by grind,λi j r M d=>by grind,λi r d=>by grind,H.ga.qA⟩,λj r w d=>by grind,H.bound⟩;·obtain⟨E,N,L,O⟩:=I.gP i g A t;exact⟨E,N,L,rfl⟩
 ·have F:=I.tr.known i a b y f;unfold Acc at F⊢;by_cases e:cl b=.eV;·grind
  ·simp only[e];obtain⟨x,u,o⟩:=Bv y;by_cases t:x.g=0;·grind[knows_own]
   ·by_cases p:T.counts i;·obtain⟨j,C,k⟩:=m i x.g (ze u) t p;obtain⟨z,B,q⟩:=yM.1 C;exact ax ⟨j,z,B,q,aA k⟩
    ·refine aA ⟨aA ⟨b,f,e⟩,?_⟩;refine oe λs=>p ⟨a,?_,axj f,ax s⟩;simp[EH,u,o]
theorem afl{c T:eB}(h:c.HandedOver)(f:∃u,T=c++u)(e:∀b a,T[b]?=U a->c.size<=b->a.act.touch?≠Z->a.g=0):T.HandedOver:=by
 obtain⟨u,rfl⟩:=f;refine handedOver_app h λa d=>?_;by_cases l:a.act.touch?=Z;.grind
 .obtain⟨k,m⟩:=Array.mem_iff_getElem?.1 d;exact ax<|e (c.size+k) a (by grind) (Nat.le_add_right _ _) l
def Over(n0:Nat)(T:eB):Prop:=∃T0:eB,T0.HandedOver/\T0.size=n0/\∃u,T=T0++u
theorem Over.app{a}(h:Over a T)(u):Over a<|T++u:=by obtain⟨e,c,b,d,rfl⟩:=h;exact⟨e,c,b,d++u,by grind⟩
theorem cP.over(H:cP K role 0 md ch cl (.hold 0) D T gs v)(Q3:Over K.n0 T)(L:∀i r,role i=U r->i<gs.size)(m:∀i,0<i->i<gs.size->(D i).stage=1){a:eB}{fn:fq}{A:String}(S:T=a++iI 0 fn A #[jJ<|rz<|stA K.Wg])(X:Deaf a 0=0):T.HandedOver:=by
 have I:=H.inv;have W:iI 0 fn A #[jJ<|rz<|stA K.Wg]=#[{g:=0,fn:=fn,pos:=A,act:=.mark<|rz<|stA K.Wg}]:=by simp[iI,jJ,ij]
 rw[W]at S;have M:T[a.size]?=U {g:=0,fn:=fn,pos:=A,act:=.mark<|rz<|stA K.Wg}:=by grind
 have t:T.act? a.size=U (.mark<|rz<|stA K.Wg):=Bt M;have q:T.g? a.size=U 0:=ze M;have B:T.heard a.size:=⟨0,q,by rw[S,FU<|aS _];exact X⟩;have fo:T.size=a.size+1:=by grind
 intro i g d w Q;obtain⟨N,h1,h2,u,hu⟩:=Q3;rcases Bs i K.n0 with c|C
 .have l:i<N.size:=by omega
  obtain⟨j,Q1,hb⟩:=h1 i g (by grind[g?_old]) w ((counts_old l).1<|by rw[<-hu];grind);have JQ:j<N.size:=by unfold Trace.g? at Q1;grind
  exact⟨j,by grind[g?_old],by grind[hb_app]⟩
 .have E:∃y,T[i]?=U y/\y.g=g:=by unfold Trace.g? at d;grind[Option.map_eq_some_iff]
  obtain⟨y,o,J⟩:=E;have b:y.act.touch?≠Z:=λe=>by obtain⟨x,E,_⟩:=Q;simp[EH,o,e]at E
  rcases I.rA i y o C b with F|F;.grind
  .rw[J]at F;obtain⟨r,O⟩:=Option.isSome_iff_exists.1 F;have s:0<g:=Mv w;obtain⟨p,f⟩:=I.rel g r O s (by rw[m g s<|L g r O];omega);have P:p<T.size:=lt_of_act? f.act;have Q2:p≠a.size:=λe=>by have:=f.act;rw[e,t]at this;cases this
   have z:HappensBefore T p a.size:=.single<|aA ⟨.marked (by omega) (aA f.act) t λk _ _=>I.norel k,f.heard,B⟩;have Q0:i<=p:=Nat.le_of_not_lt λc=>f.after i c d Q;rcases Bs i p with c|R;.exact⟨a.size,q,.trans (.single<|ax ⟨c,g,d,f.g⟩) z⟩
   grind
theorem cP.joined(H:cP K role 0 (.opn 0) ch cl (.hold 0) D T gs v)(M:K.live=Y)(ho:Over K.n0 T)(o7:∀i r,role i=U r->i<gs.size){a gE:aX}(ha:gs[0]?=U a)(hE:KS K.P K.L K.Wg gE a v)(h1:(D 0).deaf=1)(x:∀i,0<i->i<gs.size->(D i).stage=1)(sl:Option<|Nat×Nat):∃N t cl' D' T' R v' dK,ik K.P N (dB gs v sl) T=(fW<|dB R v' dK,T')∧R[0]?=U gE∧cP t (λ_=>Z) 0 (.opn 0) (λ_=>Z) cl' (.hold 0) D' T' R v'∧t.P=K.P∧t.L=K.L∧t.live=ai∧Over t.n0 T'∧T'.HandedOver∧Left cl (λ_=>False) v v'∧(∀b,b<v.heap.size->∀c,c=.eV∨c=.old->cl b=c->cl' b=c)∧(D' 0).stage=(D 0).stage∧(D' 0).deaf=0∧R.size=gs.size:=by
 obtain⟨m1,G1⟩:=hE;obtain⟨N1,ic,pA,gW,D1,T1,tP,v1,Q1,a1,fn1,pl1,r1,O,⟨m2,G2⟩,H1,g1,d1,e1,_⟩:=H.LS M ha (aA<|ax rfl) G1 sl;obtain rfl:=e1 ⟨0,rfl⟩;have F:(D1 0).deaf=0:=by rw[d1,h1];rfl
 obtain⟨N2,vM,qy,lN,o,T2,Q0,v2,gH,a2,z,y,r2,Q2,⟨m3,G3⟩,Q,g2,d2,e2,aHv⟩:=H1.LS M O (aA<|aA rfl) G2 Q1;obtain rfl:=e2 ⟨0,rfl⟩;have JX:(o 0).deaf=0:=by rw[d2,F];rfl
 have e:=g1.trans g2;have k:∀i,0<i->i<Q0.size->(o i).stage=1:=λi hi C=>by have h:=x i hi (by rw[<-e.size];grind);have hle:=e.iu i (by omega);have f:=Q.inv.gP i _ (FT hi)<|iy C;cases X:role i with|none=>rw[X]at f;exact f.2.1|some r=>
   rw[X]at f;rcases f with⟨h9,_⟩|⟨h9,_⟩|⟨h9,_⟩|⟨_,_,_,A⟩;·omega
   ·omega
   ·omega
   ·have:1<=(o i).stage:=by generalize(o i).stage=s at A⊢;generalize(o i).fuel=m at A;generalize(o i).deaf=d at A;cases A<;>omega
    omega
 have I:Over K.n0<|T2++iI 0 z y #[jJ<|rz<|stA K.Wg]:=by obtain⟨u,hu⟩:=e.ext;rw[hu];exact ho.app u
 have w:=Q.over I λi r X=>by rw[e.size];grind k rfl (by grind);have H3:=Q.drop k;obtain⟨N4,Ry,zn,KB,D4,T4,p,v4,B,a4,r4,L,E,H4,q,W,L4⟩:=cP.zI (K:={K with n0:=(T2++iI 0 z y #[jJ<|rz<|stA K.Wg]).size}) M m3 (sl:=gH) H3 Q2 G3;obtain rfl:=q.qd ⟨0,rfl⟩;obtain rfl:=E v4 id;have l:T4.HandedOver:=afl w q.ext λS op J hn ht=>by
  rcases H4.inv.rA S op J hn ht with h|h;·grind
  grind
 have fo:p.size=gs.size:=q.size.trans e.size;have hLL:Left cl (λ_=>False) v v4:=(e.left.trans e.cls L4).sub λ_ h=>h.elim;have aHA:∀b,b<v.heap.size->KB b=cl b:=λb P=>(q.cls b<|cE P e.left.size).trans<|e.cls b P;refine⟨N1+(N2+N4),_,_,_,T4,p,v4,B,runNT_then r1<|runNT_then r2 r4,L,H4.alone l,rfl,rfl,rfl,⟨_,w,rfl,q.ext⟩,l,hLL,λb P c hx hc=>?_,?_,?_,fo⟩;·grind
 ·rw[W];exact e.stage
 grind
theorem wI{r:GStep}{g'}{w'}{es'}(h:r.goes λg w a=>g=g'/\w=w'/\a=es'):r=bU g' w' es':=by cases r with|go g w a=>grind[goes_go]|_=>exact h.elim
theorem dh_none{O Rd}{w}{es}(h:∀e∈es,False):DH O Rd w w es:=⟨rfl,rfl,rfl,rfl,λ_ _=>rfl,λe a=>(h e a).elim⟩
theorem aaW{O}{w}{es}(h:∀e∈es,False):DO O w w es:=⟨rfl,rfl,rfl,rfl,rfl,λ_ _=>rfl,λe a=>(h e a).elim⟩
theorem Ok.walk_to{Q}{s}{a}(H:Ok K h s a)(O Rd){m}(f:(h==0)=m)(e:∀b∈O,b∈(s.D h).own)(d:∀b∈Rd,b<s.v.heap.size/\(s.cl b=.own h\/s.cl b=.eV))(c:∃n,cK K.P m (L<|O++Rd) (DH O Rd) (λg w=>g.status=dU/\∀t,t.v=w->s.runs K.P t->Ok K h t g->Kept h O s t->t.D h=s.D h->t.ch=s.ch->Q) n a s.v):Q:=by obtain⟨n,c⟩:=c;subst f;obtain⟨t,o,r,u,p,l,k,q⟩:=H.walk (λg w x=>x.1) c e d;grind
theorem Ok.yC{Q}{s}{a}(H:Ok K h s a)(l:a.status=dU){m}(O:(h==0)=m)(c)(F:c=.own h\/c=.sh)(d:∀b,∃q k,(∀e,e.heap.size=b->L (s.D h).own s.v e->cj K.P m a e=bU q {e with heap:=e.heap.push k} #[])/\∀t,s.runs K.P t->Ok K h t q->Kept h [] s t->s.v.heap.size<=b->t.v=b+1->t.v.heap[b]?=k->t.cl b=c->t.ch=s.ch->(c=.own h->b∈(t.D h).own)->(t.D h).own=(if c=.own h then b::(s.D h).own else(s.D h).own)->(∀E∈t.T,E.act.low b)->t.ch b=Z->Q):Q:=by classical subst O;let f:Nat->aX:=λb=>G0<|d b;let o:Nat->Obj:=λb=>G0<|zZ<|d b;have p:=λb=>zZ<|zZ<|d b;obtain⟨t,b,R,r,M,A,z,J,C,y,N,w,P,x,u,B⟩:=H.Yl l (f:=f) (o:=o) (λe I=>(p e).1 e rfl I) c F;subst B;exact(p b).2 t r M A z J C y N w P x u
theorem gB{w:ay}{b}{cs}{ty}{o}{x}(h:w.heap[b]?=U (aH cs ty))(a:cs[o]?=U x):w.cell? ⟨b,o,Z⟩=U x:=by simp[pg,h,a]
theorem wT{w:ay}{b}{cs}{ty}(o)(h:w.heap[b]?=U (aH cs ty)):w.frozen? ⟨b,o,Z⟩=ai:=by simp[x8,h]
theorem OU{w:ay}{b}{cs}{ty}(o)(x)(h:w.heap[b]?=U (aH cs ty)):w.setCell ⟨b,o,Z⟩ x={w with heap:=w.heap.setIfInBounds b<|aH (cs.setIfInBounds o x) ty}:=by unfold jk;congr 1;grind
theorem pB{w:ay}{b}{cs}{ty}(o)(x)(h:w.heap[b]?=U (aH cs ty)):(w.setCell ⟨b,o,Z⟩ x).heap[b]?=U (aH (cs.setIfInBounds o x) ty):=by grind[OU,Array.getElem?_setIfInBounds_self_of_lt,Array.getElem?_eq_some_iff]
theorem akj{O Rd}{w}{b}{cs}{ty}{o}{x}(h:w.heap[b]?=U (aH cs ty))(k:b∈O){es}(d:∀e∈es,∃a wr,e=⟨.cell a,wr,ai⟩/\(a.block∈O\/a.block∈Rd)):DH O Rd w (w.setCell ⟨b,o,Z⟩ x) es:=by rw[OU o x h];exact⟨rfl,rfl,rfl,by simp,λc f=>nu λe=>f<|by grind,d⟩
theorem DH.trans{O Rd}{w w1 f}{es es'}(a:DH O Rd w w1 es)(b:DH O Rd w1 f es'):DH O Rd w f<|es++es':=⟨b.os.trans a.os,b.tape.trans a.tape,b.out.trans a.out,b.size.trans a.size,λc d=>(b.block c d).trans<|a.block c d,λe k=>(BB.1 k).elim (a.ev e)<|b.ev e⟩
theorem Ko{O Rd}{w}{b}{cs}{ty}{o o'}{x x'}(h:w.heap[b]?=U (aH cs ty))(d:b∈O){es}(c:∀e∈es,∃a wr,e=⟨.cell a,wr,ai⟩/\(a.block∈O\/a.block∈Rd)):DH O Rd w ((w.setCell ⟨b,o,Z⟩ x).setCell ⟨b,o',Z⟩ x') es:=by have:=(akj (Rd:=Rd) (x:=x) (o:=o) h d (es:=#[])<|by simp).trans<|akj (Rd:=Rd) (x:=x') (o:=o') (pB o x h) d (es:=es) c;grind
theorem Ok.Uv{Q}{s}{a}(H:Ok K h s a)(k:a.status=dU){m}(C:(h==0)=m)(E:K.live=ai)(f:∀b,∃o,(∀l,l.heap.size=b->L (s.D h).own s.v l->cj K.P m a l=bU o {l with heap:=l.heap.push<|.chan 1 #[] ai 0 0 ai} #[])/\∀t,s.runs K.P t->Ok K h t o->Kept h [] s t->s.v.heap.size<=b->t.v=b+1->t.ch=bE s.ch b (U ⟨Z,ai,0⟩)->s.ch b=Z->(t.D h).own=(s.D h).own->Q):Q:=by refine H.yC k C .sh (aA rfl) λb=>?_;obtain⟨o,w,z⟩:=f b;refine⟨o,_,w,λt r A d x B q y u M P J p=>?_⟩;refine z {t with ch:=bE t.ch b<|U ⟨Z,ai,0⟩} r (A.reg q y p λe=>by grind) ⟨d.size,d.role,d.md,d.left,d.cls,d.rest,λc F I=>?_,d.own,d.v2⟩ x B (by rw[u]) (by grind) (by grind);grind[upd_ne]
end
section
open Go.Proofs
abbrev dQ:Go.Conc.Lib.WgLink:={add:=55,done:=57,wait:=61,relMerge:=87,disable:=88,enable:=89,inBubble:=90,associate:=91,fatal:=92,uOr:=93,uAdd:=94,raceRead:=95,uLoad:=96,uStore:=97,disassociate:=98,semrelease:=99,acquire:=106,isAssociated:=107,uCas:=108,raceWrite:=109,semacquire:=110,orU64:=142,addU64:=143,loadU64:=144,storeU64:=145,casU64:=172,tWgP:=162,tUP:=164,tAssoc:=165,tWg:=125,tAU:=122,tU64:=120,tUint:=169,tU32:=123,tPU32:=170,tPAU:=223,tPU64:=225,tNoCopy:=117,tANoCopy:=118,tAlign64:=119}
theorem Fg:Go.Conc.Lib.WgLib aF dQ:=⟨func55,func57,func61,func87,func88,func89,func90,func91,func92,func93,func94,func95,func96,func97,func98,func99,func106,func107,func108,func109,func110,func142,func143,func144,func145,func172,underlying162,Tryz.runUnderlying162,sizeOf162,isAgg162,zeroValue162,underlying164,Tryz.runUnderlying164,sizeOf164,isAgg164,zeroValue164,underlying165,Tryz.runUnderlying165,sizeOf165,isAgg165,zeroValue165,underlying125,Tryz.runUnderlying125,sizeOf125,isAgg125,zeroValue125,underlying122,Tryz.runUnderlying122,sizeOf122,isAgg122,zeroValue122,underlying120,Tryz.runUnderlying120,sizeOf120,isAgg120,zeroValue120,underlying169,Tryz.runUnderlying169,sizeOf169,isAgg169,zeroValue169,underlying123,Tryz.runUnderlying123,sizeOf123,isAgg123,zeroValue123,underlying170,Tryz.runUnderlying170,sizeOf170,isAgg170,zeroValue170,underlying223,Tryz.runUnderlying223,sizeOf223,isAgg223,zeroValue223,underlying225,Tryz.runUnderlying225,sizeOf225,isAgg225,zeroValue225,underlying0,Tryz.runUnderlying0,sizeOf0,isAgg0,zeroValue0,underlying3,Tryz.runUnderlying3,sizeOf3,isAgg3,zeroValue3,underlying4,Tryz.runUnderlying4,sizeOf4,isAgg4,zeroValue4,underlying9,Tryz.runUnderlying9,sizeOf9,isAgg9,zeroValue9,underlying20,Tryz.runUnderlying20,sizeOf20,isAgg20,zeroValue20,underlying21,Tryz.runUnderlying21,sizeOf21,isAgg21,zeroValue21,by kernel_rfl,by kernel_rfl⟩
end
section
open Go.Conc Go.RowKit Go.Conc.Lib Go.ConcR.Gen
open Go.ConcN (WgLive)
open Go.ConcN.Gen (WgLive.cell0 WgLive.cell1)
open Go.ConcR (KK WgAt stA smA wgBlock rd wr mk Bk)
class Qt(R:ay->ay->Prop)(D:ay->ay->Array jl->Prop):Prop where q:∀w,D w w #[]r:∀w,R w w
theorem dL{P:bW}{b:Bool}{R:ay->ay->Prop}{D:ay->ay->Array jl->Prop}[Q:Qt R D]{S:aX->ay->Prop}:∀{n:Nat}{g:aX}{w:ay},cK P b R Go.ConcR.DC0 S n g w->cK P b R D S n g w|0,_,_,h=>h|_+1,_,_,ax h=>ax h|_+1,g,w,aA ⟨d,h⟩=>aA ⟨d,λa r=>by have h:=h a r;cases c:cj P b g a with|go f e i=>rw[c,eP]at h;rw[eP];obtain⟨⟨rfl,rfl⟩,h⟩:=h;exact⟨Q.q _,dL h⟩|_=>rw[c]at h;exact h⟩
theorem aAZ{P}{b}{R}{D}{S}{m}{g}{w}(k)(h:cK P b R D S m g w):cK P b R D S (m+k) g w:=by induction k with|zero=>exact h|succ k a=>exact a.more
theorem kG{P:bW}{b:Bool}{R:ay->ay->Prop}{D:ay->ay->Array jl->Prop}[Q:Qt R D]{m:Nat}{S:aX->ay->Prop}:∀{n:Nat}{g:aX}{w:ay},cK P b R Go.ConcR.DC0 (λg w=>cK P b R D S m g w) n g w->cK P b R D S (m+n) g w|0,_,w,h=>h w<|Q.r w|n+1,_,w,ax h=>aAZ (n+1)<|h w<|Q.r w|_+1,g,w,aA ⟨d,h⟩=>aA ⟨d,λa r=>by have h:=h a r;cases c:cj P b g a with|go f e i=>rw[c,eP]at h;rw[eP];obtain⟨⟨rfl,rfl⟩,h⟩:=h;exact⟨Q.q _,kG h⟩|_=>rw[c]at h;exact h⟩
theorem lift{P}{b}{R}{D}[Qt R D]{m}{S}{g}{w}(h:cK P b R Go.ConcR.DC0 (λg w=>cK P b R D S m g w) 60 g w):cK P b R D S (m+60) g w:=kG h
instance{L:WgLink}{Wg:Nat}:Qt (RL L Wg)<|DQ Wg:=⟨λ_=>dq_none<|by simp,λw=>RL.refl L Wg w⟩
theorem E{L}{a}{w w1}(h:jK L.tWg a w)(r:RL L a w w1):jK L.tWg a w1:=r h
theorem bd2:bits .and cO 8589934592 2147483648=0:=by decide
theorem be2:bits .and cO 8589934592 2147483647=0:=by decide
end
section
open Go.Proofs Go.Conc Go.RowKit Go.Conc.Lib Go.ConcR.Gen
open Go.ConcN (upd upd_ne upd_same WgLive)
open Go.ConcR (KK WgAt stA smA wgBlock rd wr mk Bk)
instance{O O' Rd:List Nat}:Qt (L O')<|DH O Rd:=⟨λ_=>dh_none<|by simp,L.refl O'⟩
instance{O O':List Nat}:Qt (L O')<|DO O:=⟨λ_=>aaW<|by simp,L.refl O'⟩
theorem A{O}{w w1}(h:True)(r:L O w w1):True:=trivial
noncomputable def tq:Array dJ:=match AG.body.getD .skip with|eI _<|eI (ec _ ops _) _=>ops|_=>#[]
theorem asG(t):mK (aF.follows nG) tq t=[0,1,2,3]\/mK (aF.follows nG) tq t=[1,0,2,3]:=by
 have n:aF.follows nG=Y:=by kernel_rfl
 have e:tq.size=4:=by kernel_rfl
 have m:iY .any tq #[ai,ai,ai,ai]=[0,1]:=by kernel_rfl
 have j:iY .any tq #[Y,ai,ai,ai]=[1]:=by kernel_rfl
 have g:iY .any tq #[ai,Y,ai,ai]=[0]:=by kernel_rfl
 have f:iY .any tq #[Y,Y,ai,ai]=[2]:=by kernel_rfl
 have d:iY .any tq #[Y,Y,Y,ai]=[3]:=by kernel_rfl
 have step:∀(c t:Nat)(l:Array Bool)(b:List Nat),x5 .any tq (c+1) t l b=match(iY .any tq l)[t%(iY .any tq l).length]? with|some i=>x5 .any tq c (t/(iY .any tq l).length) (l.setIfInBounds i Y)<|i::b|none=>b.reverse:=λ_ _ _ _=>rfl;have z:∀t b l,x5 .any tq 0 t l b=b.reverse:=λ_ _ _=>rfl;simp only[mK,n,Bool.true_or,iW,Region.linearise,e];have k:tT 4 ai=#[ai,ai,ai,ai]:=rfl;rw[k,step,m];rcases Nat.mod_two_eq_zero_or_one t with h|h;.left;simp[h,step,j,f,d,z,Nat.mod_one]
 .right;simp[h,step,g,f,d,z,Nat.mod_one]
theorem ajv{P}{main}{b:aZ}{a}{e}{fn}{v}{es}{w}{K}{f:aZ}{d}{ops}{i}{rest}{k}{cs}(g:b.kind=eC)(n:a.defers=[])(m:P.funcs[b.fn]?=U fn)(j:(kA fn a.tmps).run P w=aY v w)(l:(kA fn a.tmps).events P w #[]=es)(h:K (G (f.at (d.put (ops[i]?.bind (·.dst)) v)<|aT ops rest::k) cs) w<|seen P b.fn es):(cj P main (G {b.at a e with mode:=fH}<|f.at d (aT ops (i::rest)::k)::cs) w).goes K:=by
 have:cj P main (G {b.at a e with mode:=fH}<|f.at d (aT ops (i::rest)::k)::cs) w=bU (G ((f.at d<|aT ops (i::rest)::k).finish v) cs) w (seen P b.fn es):=by simp[G,cj,unwind,oz,Frame.at,g,n,m,j,l,vj]
 rw[this,Frame.finish_at];exact h
theorem Ru(w):(Instr.makeChan 112<|V aC 1).run aF w=aY (de w) (w.alloc<|.chan 1 #[] ai 0 0 ai):=by
 have h:(aF.info? 79).map (·.bytes)=U 24:=by kernel_rfl
 obtain⟨i,a,b⟩:=yM.1 h;simpa using run_makeChan (P:=aF) (w:=w) underlying112 a aC 1 (by omega)<|by grind
theorem Rt(w)(es):(Instr.makeChan 112<|V aC 1).events aF w es=es:=by
 have h:(aF.info? 79).map (·.bytes)=U 24:=by kernel_rfl
 obtain⟨i,a,b⟩:=yM.1 h;simpa using events_makeChan (P:=aF) (w:=w) underlying112 a aC 1 (by omega) (by grind) es
section
variable {K:fG} {qz:aZ} {qB:Act} {lT:Array dJ} {qn:Nat} {pZ:List Nat} {qf:List eY} {cs:List aZ}
theorem afV(p:K.P=aF)(Q1:K.live=ai){Q:Prop}{s}(H:Ok K 0 s<|G ((bh 53).at ⟨#[ak,ak,ak,ak],[]⟩ [bF<|AG.body.getD .skip])<|qz.at qB (aT lT (qn::pZ)::qf)::cs)(hQ:∀t S W,s.runs K.P t->Ok K 0 t (G (qz.at (qB.put (lT[qn]?.bind (·.dst))<|bJ #[de<|U S,de<|U W])<|aT lT pZ::qf) cs)->Kept 0 [] s t->t.ch S=U ⟨Z,ai,0⟩->t.ch W=U ⟨Z,ai,0⟩->S≠W->s.v<=S->s.v<=W->Q):Q:=by
 simp only[AG,fV]at H;refine H.walk_to [] [] rfl (by simp) (by simp) ⟨608,?_⟩;rw[p];have g:=trivial;refine dL ?_;u_c stepG_seq A g;u_reg A g;refine I λl c=>⟨rfl,λt1 _ P H1 QX _ S=>?_⟩;refine H1.yC rfl rfl (.own 0) (ax rfl) λd=>?_;co_apply me;co_apply me;co_apply aM;·intro u k T;rw[p];co_apply wI;refine gh rfl rfl (by k_ne) λK m=>?_;go_simp;exact m _ _ ⟨rfl,rfl,oX<|by simp[go_sem]⟩
 intro t2 r2 H2 X n12 n22 O R Rs n62 n72 n82 n92;refine H2.walk_to [] [] rfl (by simp) (by simp) ⟨608,?_⟩;rw[p];refine lift ?_;u_c N A g;u_c stepG_seq A g;refine I λ_ c=>?_;replace g:=A g c;u_in A g;rw[stepG_region_draw];simp only[eP];refine⟨⟨rfl,rfl,rfl,rfl,λ_ _=>rfl,by simp⟩,?_⟩;rename_i wd;have F:=asG<|wd.tape wd.drawn<|.order (bh 53).fn 1;simp only[tq,AG,fV]at F;rcases F with F|F
 ·rw[F];refine I λl c=>⟨rfl,λt3 _ Q2 H3 J d3 c3=>?_⟩;refine H3.Uv rfl rfl Q1 λB=>?_;co_apply me;co_apply aM
  ·intro u k T;rw[p];co_apply wI;refine gh rfl rfl (by k_ne) λK m=>?_;have z:=Ru u;go_simp;try simp only[k]
   try walk_nrm
   exact m _ _ ⟨rfl,rfl,oX<|by simp[go_sem,Rt]⟩
  intro t4 r4 H4 Q0 x n24 w n44 n54;refine H4.Uv rfl rfl Q1 λD=>?_;co_apply me;co_apply aM
  ·intro u k T;rw[p];co_apply wI;refine gh rfl rfl (by k_ne) λK m=>?_;have z:=Ru u;go_simp;try simp only[k]
   try walk_nrm
   exact m _ _ ⟨rfl,rfl,oX<|by simp[go_sem,Rt]⟩
  intro a r5 H5 k5 XS XQ q XL n55;have o:=(J.trans Q0).trans k5;have g:a.v.heap[d]?=U (aH #[de Z,de Z] 114):=(o.rest d (by grind) R<|by simp).trans O;refine H5.walk_to [d] [] rfl (λb k=>?_) (by simp) ⟨620,?_⟩;·grind
  rw[p];refine lift ?_;u_op(λ(h:_)(r:L ([d]++[]) _ _)=>(r.1 d<|by simp).trans h)g;refine I λ_ c=>?_;replace g:=(λ(h:_)(r:L ([d]++[]) _ _)=>(r.1 d<|by simp).trans h) g c;u_in(λ(h:_)(r:L ([d]++[]) _ _)=>(r.1 d<|by simp).trans h)g;refine gh rfl rfl (by k_ne) λK m=>?_;have y:=gB (o:=0) g rfl;have rY:=wT 0 g;have j:=pB 0 (de<|U B) g;have Q3:=gB (o:=1) j rfl;have jv:=wT 1 j;go_simp;refine m _ _ ⟨Ko g (by simp) λe E=>?_,?_⟩;·have n:=mem_listed E;simp[go_sem,storedEv, *]at n;grind
  have f:=pB 1 (de<|U D) j;refine lift ?_;u_c N(λ(h:_)(r:L ([d]++[]) _ _)=>(r.1 d<|by simp).trans h)f;u_c stepG_ret'(λ(h:_)(r:L ([d]++[]) _ _)=>(r.1 d<|by simp).trans h)f;refine I λ_ c=>?_;replace f:=(λ(h:_)(r:L ([d]++[]) _ _)=>(r.1 d<|by simp).trans h) f c;u_in(λ(h:_)(r:L ([d]++[]) _ _)=>(r.1 d<|by simp).trans h)f;have y:=gB (o:=0) f rfl;have Q3:=gB (o:=1) f rfl;refine ajv (v:=bJ #[de<|U B,de<|U D]) rfl rfl func53 ?_ rfl ?_;·simp only[kA,AG];go_simp
  refine⟨⟨rfl,rfl,rfl,rfl,λ_ _=>rfl,λe E=>?_⟩,?_⟩;·have n:=mem_seen E;simp only[kA,AG]at n;simp[go_sem, *]at n;grind
  refine I λl c=>⟨rfl,λC v6 QW H6 k6 d6 M=>?_⟩;have kk:Kept 0 [] s C:=by have i:=(((QX.trans X).trans o).more<|by simp).trans k6;refine⟨i.size,i.role,i.md,i.left,i.cls,λb k hc _=>i.rest b k hc λn=>?_,i.oD,i.own,i.v2⟩;simp only[dj,dP,dY]at n;have:=QX.left.size;omega
  have s4:=bC (bC QX.left.size X.left.size)<|bC J.left.size x;have e5:C.ch D=U ⟨Z,ai,0⟩:=by rw[M,q,dc]
  have e4:C.ch B=U ⟨Z,ai,0⟩:=by rw[M,q,cT _ _<|by omega,w,dc]
  rw[<-p]at P Q2 QW;have hr:=((P.trans r2).trans<|Q2.trans r4).trans<|r5.trans QW;grind
 ·rw[F];refine I λl c=>⟨rfl,λt3 _ Q2 H3 J d3 c3=>?_⟩;refine H3.Uv rfl rfl Q1 λB=>?_;co_apply me;co_apply aM
  ·intro u k T;rw[p];co_apply wI;refine gh rfl rfl (by k_ne) λK m=>?_;have z:=Ru u;go_simp;try simp only[k]
   try walk_nrm
   exact m _ _ ⟨rfl,rfl,oX<|by simp[go_sem,Rt]⟩
  intro t4 r4 H4 Q0 x n24 w n44 n54;refine H4.Uv rfl rfl Q1 λD=>?_;co_apply me;co_apply aM
  ·intro u k T;rw[p];co_apply wI;refine gh rfl rfl (by k_ne) λK m=>?_;have z:=Ru u;go_simp;try simp only[k]
   try walk_nrm
   exact m _ _ ⟨rfl,rfl,oX<|by simp[go_sem,Rt]⟩
  intro a r5 H5 k5 XS XQ q XL n55;have o:=(J.trans Q0).trans k5;have g:a.v.heap[d]?=U (aH #[de Z,de Z] 114):=(o.rest d (by grind) R<|by simp).trans O;refine H5.walk_to [d] [] rfl (λb k=>?_) (by simp) ⟨620,?_⟩;·grind
  rw[p];refine lift ?_;u_op(λ(h:_)(r:L ([d]++[]) _ _)=>(r.1 d<|by simp).trans h)g;refine I λ_ c=>?_;replace g:=(λ(h:_)(r:L ([d]++[]) _ _)=>(r.1 d<|by simp).trans h) g c;u_in(λ(h:_)(r:L ([d]++[]) _ _)=>(r.1 d<|by simp).trans h)g;refine gh rfl rfl (by k_ne) λK m=>?_;have y:=gB (o:=0) g rfl;have rY:=wT 0 g;have j:=pB 0 (de<|U D) g;have Q3:=gB (o:=1) j rfl;have jv:=wT 1 j;go_simp;refine m _ _ ⟨Ko g (by simp) λe E=>?_,?_⟩;·have n:=mem_listed E;simp[go_sem,storedEv, *]at n;grind
  have f:=pB 1 (de<|U B) j;refine lift ?_;u_c N(λ(h:_)(r:L ([d]++[]) _ _)=>(r.1 d<|by simp).trans h)f;u_c stepG_ret'(λ(h:_)(r:L ([d]++[]) _ _)=>(r.1 d<|by simp).trans h)f;refine I λ_ c=>?_;replace f:=(λ(h:_)(r:L ([d]++[]) _ _)=>(r.1 d<|by simp).trans h) f c;u_in(λ(h:_)(r:L ([d]++[]) _ _)=>(r.1 d<|by simp).trans h)f;have y:=gB (o:=0) f rfl;have Q3:=gB (o:=1) f rfl;refine ajv (v:=bJ #[de<|U D,de<|U B]) rfl rfl func53 ?_ rfl ?_;·simp only[kA,AG];go_simp
  refine⟨⟨rfl,rfl,rfl,rfl,λ_ _=>rfl,λe E=>?_⟩,?_⟩;·have n:=mem_seen E;simp only[kA,AG]at n;simp[go_sem, *]at n;grind
  refine I λl c=>⟨rfl,λC v6 QW H6 k6 d6 M=>?_⟩;have kk:Kept 0 [] s C:=by have i:=(((QX.trans X).trans o).more<|by simp).trans k6;refine⟨i.size,i.role,i.md,i.left,i.cls,λb k hc _=>i.rest b k hc λn=>?_,i.oD,i.own,i.v2⟩;simp only[dj,dP,dY]at n;have:=QX.left.size;omega
  have s4:=bC (bC QX.left.size X.left.size)<|bC J.left.size x;have e5:C.ch D=U ⟨Z,ai,0⟩:=by rw[M,q,dc]
  have e4:C.ch B=U ⟨Z,ai,0⟩:=by rw[M,q,cT _ _<|by omega,w,dc]
  rw[<-p]at P Q2 QW;have hr:=((P.trans r2).trans<|Q2.trans r4).trans<|r5.trans QW;grind
end
end
section
open Go
def tk{α:Type}(f:Nat->α):Nat->Nat->List α|0,_=>[]|n+1,i=>f i::tk f n (i+1)
theorem acW{t:Type}(f:Nat->t):∀(l:List t)(i:Nat),(∀k(h:k<l.length),f (i+k)=l[k])->tk f l.length i=l
 |[],_,_=>rfl|a::l,i,h=>by
  have c:=h 0 (by simp);have:=acW f l (i+1) λk d=>by have:=h (k+1) (by grind);grind
  grind[tk]
theorem alz(T):T=(tk (λk=>T.getD k ak) T.size 0).toArray:=by
 have:=acW (λk=>T.getD k ak) T.toList 0 λk h=>by simp at h;simp[h]
 grind
theorem pD(T:Array az)(h:T.size=87):∃v0 v1 v2 v3 v4 v5 v6 v7 v8 v9 v10 L v12 lR x Fp t H CW mq K v21 Fo U p q B S Q HU I v31 g Fj s W m n A u v40 N V J HG nU v46 z v j y v51 k i xq F nT G O o nS X P l nQ C nP b w E v70 c v72 Fi r Y D a Hz Fh f M Z nO R v85 d,T=#[v0,v1,v2,v3,v4,v5,v6,v7,v8,v9,v10,L,v12,lR,x,Fp,t,H,CW,mq,K,v21,Fo,U,p,q,B,S,Q,HU,I,v31,g,Fj,s,W,m,n,A,u,v40,N,V,J,HG,nU,v46,z,v,j,y,v51,k,i,xq,F,nT,G,O,o,nS,X,P,l,nQ,C,nP,b,w,E,v70,c,v72,Fi,r,Y,D,a,Hz,Fh,f,M,Z,nO,R,v85,d]:=by have e:=alz T;rw[h]at e;exact⟨_,_,_,_,_,_,_,_,_,_,_,_,_,_,_,_,_,_,_,_,_,_,_,_,_,_,_,_,_,_,_,_,_,_,_,_,_,_,_,_,_,_,_,_,_,_,_,_,_,_,_,_,_,_,_,_,_,_,_,_,_,_,_,_,_,_,_,_,_,_,_,_,_,_,_,_,_,_,_,_,_,_,_,_,_,_,_,e⟩
theorem UC(T:Array az)(h:T.size=21):∃r v u o s n q t w p l k b a d f c i g m j,T=#[r,v,u,o,s,n,q,t,w,p,l,k,b,a,d,f,c,i,g,m,j]:=by have e:=alz T;rw[h]at e;exact⟨_,_,_,_,_,_,_,_,_,_,_,_,_,_,_,_,_,_,_,_,_,e⟩
end
end Go.Proofs.YtpdbmpbmepkikaaGreatDoor
