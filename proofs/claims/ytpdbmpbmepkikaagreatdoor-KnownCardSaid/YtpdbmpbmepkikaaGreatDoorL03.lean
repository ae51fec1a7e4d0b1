/- Laws. -/
import Derived.Conc.WgGenN3
import Derived.Conc.Token
import Derived.Conc.CompanyDraw
import Derived.WalkKit
import Derived.LaidEqlPtr
import Derived.Test.YtpdbmpbmepkikaaGreatDoorL02
set_option maxRecDepth 100000
set_option maxHeartbeats 400000
set_option linter.all false
open Go.Proofs.Tryz
open And renaming intro->aM
open Array renaming replicate->uy
open Bool renaming true->Z,false->ai
open Classical renaming choose->IG
open Exists renaming intro->mC
open Go renaming Goroutine->aX,Frame->aZ,undef->ak,World->ax,Value->az,Program->bZ,execOp->cS,stepG->cj,Oper->dG,Func->dY,yielded->dZ,Trace->eB,Item->eY,FuncId->fC,callFunc->iJ,runNT->ic,deafBehind->jZ,Event->jq,results->kD,doReturn->oE
open Go.Act renaming put->dj
open Go.CallKind renaming normal->eo
open Go.Code renaming region->dS,seq->eG
open Go.Conc renaming semEvents->CY,base->bh,Goes->cM,crowd->dw,closeEvents->kS,served->kU
open Go.ConcN renaming upd->bE,WgLive->jN
open Go.ConcR renaming mk->jK
open Go.Departure renaming mixedOrders->nM
open Go.Frame renaming enter->eP
open Go.FrameMode renaming returning->fI
open Go.GStep renaming go->bV,after->vT
open Go.GoStatus renaming running->dN
open Go.IntKind renaming i64->aG,u64->cP
open Go.Item renaming inRegion->aT,code->bF
open Go.Loc renaming mark->iA
open Go.Mark renaming acquire->rC
open Go.MemAct renaming ofEvent->iz,touch?->s9
open Go.MemOp renaming ofEvents->iQ
open Go.Obj renaming cells->aH
open Go.Proofs.Tryz renaming f53->Ba,prog->aD,f41->oG
open Go.Region renaming wanted->eW,ready->jh,schedule->mS
open Go.Region.linearise renaming go->yp
open Go.Result renaming ok->aW
open Go.Stepped renaming next->fR
open Go.Trace renaming act?->Fx
open Go.Value renaming int->Y,pointer->aF,agg->bO,tuple->bQ,chan->dc
open Go.World renaming setChan->Fu,setCell->jL,cell?->pz,frozen?->yu
open Nat renaming lt_wfRel->IA
open Option renaming some->U,none->V
open Or renaming inr->aB,inl->ay
open Relation renaming TransGen->uz
namespace Go.Proofs.YtpdbmpbmepkikaaGreatDoor
def B7:=@Go.Conc.touch_of
def B6:=@Go.Conc.getElem?_append_cases
def aIu:=@Go.Conc.touchAt_of
def GL:=@Go.Conc.deaf_old
def B4:=@Go.Conc.act?_of
def B3:=@Nat.lt_or_ge
def qp:=@Go.Conc.Goes.running
def yZ:=@Go.Conc.again_running
def Kc:=@Go.Conc.awake_of
def oS:=@Go.ConcN.RW.refl
def SK:=@Go.Conc.offersAt_of_not_blocked
def dm:=@Array.getElem?_eq_some_iff
def No:=@Go.Conc.mem_ofEvents
def nB:=@Array.getElem?_setIfInBounds_ne
def kg:=@Array.getElem?_setIfInBounds_self_of_lt
def da:=@Go.ConcN.upd_same
def cX:=@Go.ConcN.upd_ne
def Av:=@Go.ConcN.sumTo_congr
def YT:=@Go.Conc.runT_crowd_go
def xZ:=@Nat.le_of_eq
def Ep:=@Go.Conc.ofEvent_cell0
def YS:=@Go.Conc.getElem?_stand
def yY:=@Go.Conc.Goes.cases
def YR:=@Array.getElem?_push
def SJ:=@Go.Conc.finishComm_recv
def Kx:=@Array.empty_append
def Zt:=@Array.mem_iff_getElem?
def NM:=@Go.Conc.crowd_pick
def Tk:=@List.mem_append
def eH:=@Go.Conc.goes_go
def aiy:=@Nat.eq_zero_or_pos
def Tj:=@Nat.pos_of_ne_zero
def Ti:=@Array.append_empty
def GW:=@Nat.ne_of_gt
def I:=@Go.Conc.stepG_seq
def y:=@Go.Conc.Goes.stop
def gi:=@Go.Conc.goes_oper_k
def oW:=@Go.Conc.listed_nil
def N:=@Go.Conc.stepG_region_end
def kN:=@Go.Conc.mem_listed
def my:=@List.getElem?_toArray
def qu:=@List.getElem?_cons_succ
def nG:=@List.getElem?_cons_zero
section
open Go.Conc
open Go.ConcN (sumTo upd sumTo_upd upd_ne upd_same sumTo_congr le_sumTo WSit WgLive RW PayAt Has DWs EvW ShN AsideCell AtR0 RelBy bk_cell)
open Go.ConcR (KK WgAt stA smA wgBlock rd wr mk Bk)
open Go.Conc.Lib (WgLink)
inductive fe where|eV|own(i:Nat)|sh|old
inductive yy where|hold(g:Nat)|pt(p:Nat)
def pF:Loc->Option Nat|.cell a=>U a.block|.obj r=>U r|_=>V
def Mi(T:eB):yy->Nat->Prop|.hold g,i=>Knows T g i|.pt p,i=>Before T i p
theorem Mi.app{T}{who}{i}(u)(h:Mi T who i):Mi (T++u) who i:=by cases who with|hold g=>exact Knows.app u h|pt p=>exact Before.app u h
def Acc(cl:Nat->fe)(who:yy)(fS:Loc->Prop)(T:eB)(i:Nat)(a:Touch)(b:Nat):Prop:=match cl b with|.eV=>Mi T who i|.own k=>Knows T k i|.sh=>a.kind≠.plain/\(a.kind=.said->Knows T 0 i)|.old=>Knows T 0 i\/fS a.loc/\a.kind=.atomic
structure Tr(cl:Nat->fe)(who:yy)(fS:Loc->Prop)(B:Nat)(T:eB):Prop where
 clean:∀said,¬Race said T
 known:∀i a b,touchAt T i=U a->pF a.loc=U b->Acc cl who fS T i a b
 seen:∀op∈T,op.act.low B
variable {cl cl':Nat->fe} {who Bx:yy} {fS anM:Loc->Prop} {B B':Nat} {T u:eB} {g:Nat}
theorem azx{l}(h:l.isMemory=Z):∃b,pF l=U b:=by cases l<;>first|exact⟨_,rfl⟩|cases h
theorem aya{f:MemOp}{a}{b}(h:f.act.low B)(c:f.act.touch?=U a)(d:pF a.loc=U b):b<B:=by obtain⟨g,k,j,i⟩:=f;cases i with
 |access e=>simp only[s9,dX]at c;subst c;obtain⟨l,w,s⟩:=e;cases l<;>simp only[pF]at d<;>first|cases d;exact h|grind
 |mark m=>cases m with|read x=>cases c;cases d;exact h|write x=>cases c;cases d;exact h|_=>cases c
 |_=>cases c
theorem Acc.app{i b}{a}(u)(h:Acc cl who fS T i a b):Acc cl who fS (T++u) i a b:=by
 unfold Acc at h⊢;split;·rename_i e;rw[e]at h;exact h.app u
 ·grind[Knows.app]
 ·rename_i e;rw[e]at h;exact⟨h.1,λx=>(h.2 x).app u⟩
 ·rename_i e;rw[e]at h;exact h.imp (·.app u) id
theorem Tr.mono(h:Tr cl who fS B T)(c:B<=B'):Tr cl who fS B' T:=⟨h.clean,h.known,λd b=>MemAct.low_mono c<|h.seen d b⟩
def Ab(cl:Nat->fe)(who:yy)(g:Nat)(x:Touch):Prop:=∀b,pF x.loc=U b->match cl b with|.eV=>who=.hold g|.own k=>k=g|.sh=>x.kind≠.plain/\(x.kind=.said->g=0)|.old=>False
theorem Tr.app(h:Tr cl who fS B T)(z:∀j∈u,j.g=g)(v:∀j∈u,∀x,j.act.touch?=U x->Ab cl who g x)(y:∀j∈u,j.act.low B):Tr cl who fS B<|T++u:=by
 refine⟨λl=>noRace_append (h.clean l) z λi a r j s x o q=>?_,λi a b r m=>?_,seen_app h.seen y⟩;·obtain⟨b,m⟩:=azx q.2.1;have d:=v j s x o b<|q.1▸m;have f:=h.known i a b r m;unfold Acc at f;cases e:cl b with
  |eV=>rw[e]at d f;dsimp only at d f;rw[d]at f;exact f|own k=>grind|sh=>
   rw[e]at d f;rcases q.2.2.2 with w|w|⟨_,w,A⟩;·grind
   ·grind
   grind|old=>grind
 ·obtain⟨x,o,p⟩:=B7 r;rcases B6 o with⟨_,d⟩|⟨_,n⟩;·exact(h.known i a b (by grind[touchAt_of]) m).app u
  ·have t:=v x n a p b m;have f:Knows (T++u) g i:=by grind[knows_own]
   unfold Acc;cases e:cl b with|eV=>rw[e]at t;dsimp only at t⊢;rw[t];exact f|own k=>grind|sh=>grind|old=>grind
theorem Tr.mute(h:Tr cl who fS B T)(E:∀m∈u,m.act.touch?=V)(t:∀m∈u,m.act.low B):Tr cl who fS B<|T++u:=by
 refine⟨λk=>?_,λi a b o p=>?_,seen_app h.seen t⟩
 .rintro⟨i,j,l,⟨a,b,o,p,A⟩,z,C⟩;obtain⟨x,r,f⟩:=B7 o;obtain⟨y,w,q⟩:=B7 p;rcases B6 w with⟨D,n⟩|⟨_,s⟩
  .have d:T[i]?=U x:=by grind
   exact h.clean k ⟨i,j,l,⟨a,b,by simp[Fx,d,f],by simp[Fx,n,q],A⟩,λe=>z<|hb_app u e,λe=>C<|hb_app u e⟩
  grind
 .obtain⟨x,r,f⟩:=B7 o;rcases B6 r with⟨_,d⟩|⟨_,v⟩;.exact(h.known i a b (by grind[touchAt_of]) p).app u
  grind
theorem Tr.PX(h:Tr cl who fS B T)(j:∀i a b,touchAt T i=U a->pF a.loc=U b->b<B->Acc cl who fS T i a b->Acc cl' Bx anM T i a b):Tr cl' Bx anM B T:=⟨h.clean,λi a b e f=>by obtain⟨x,k,d⟩:=B7 e;exact j i a b e f (aya (h.seen x<|tR k) d f)<|h.known i a b e f,h.seen⟩
theorem Tr.fresh(h:Tr cl who fS B T)(e:∀b,b<B->cl' b=cl b):Tr cl' who fS B T:=h.PX λi a b _ _ c d=>by unfold Acc at d⊢;grind
theorem Tr.pass(h:Tr cl who fS B T)(d:∀i,Mi T who i->Mi T Bx i):Tr cl Bx fS B T:=h.PX λi a b _ _ _ c=>by
  unfold Acc at c⊢;split;·grind
  ·grind
  ·grind
  grind
def yI(h:Nat)(E:fC)(ph:String)(c k:Nat):eB:=#[{g:=h,fn:=E,pos:=ph,act:=.send c k},{g:=h,fn:=E,pos:=ph,act:=.sendDone c k}]
def tD(j:Nat)(U:fC)(E:String)(c k cap:Nat):eB:=#[{g:=j,fn:=U,pos:=E,act:=.recv c k cap},{g:=j,fn:=U,pos:=E,act:=.recvDone c k}]
def metAt(h j:Nat)(V:fC)(ph:String)(U:fC)(E:String)(c k cap:Nat):eB:=#[{g:=h,fn:=V,pos:=ph,act:=.send c k},{g:=j,fn:=U,pos:=E,act:=.recv c k cap},{g:=h,fn:=V,pos:=ph,act:=.sendDone c k},{g:=j,fn:=U,pos:=E,act:=.recvDone c k}]
def yA(u:eB):Prop:=(∀op∈u,op.act.touch?=V)/\∀g,∀op∈u,∀d,deafStep g d op=d
theorem yA.of{u}(h:∀b∈u,b.act.touch?=V/\b.act≠.mark .disable/\b.act≠.mark .enable):yA u:=by
 refine⟨λb c=>(h b c).1,λg b c d=>?_⟩;unfold deafStep;split;.grind
 .grind
 grind
theorem afk(h)(d)(e)(c k):yA<|yI h d e c k:=.of λf b=>by simp only[yI,fQ,di,dJ,dQ]at b;rcases b with rfl|rfl<;>exact⟨rfl,by simp,by simp⟩
theorem ad1(j)(d)(e)(c k cap):yA<|tD j d e c k cap:=.of λf b=>by simp only[tD,fQ,di,dJ,dQ]at b;rcases b with rfl|rfl<;>exact⟨rfl,by simp,by simp⟩
theorem ahx(h j)(d)(f)(e)(i)(c k cap):yA<|metAt h j d f e i c k cap:=.of λl b=>by simp only[metAt,fQ,di,dJ,dQ]at b;rcases b with rfl|rfl|rfl|rfl<;>exact⟨rfl,by simp,by simp⟩
theorem yA.Pp{u}(h:yA u)(g):∀k,k<=u.size->(T++u).deaf g (T.size+k)=Deaf T g
 |0,_=>GL<|aQ _|k+1,c=>by
  have b:(T++u)[T.size+k]?=U u[k]:=by grind
  rw[<-Nat.add_assoc,deaf_succ b,h.2 g _<|Nu _,h.Pp g k<|by omega]
theorem yA.deaf{u}(h:yA u)(g):Deaf (T++u) g=Deaf T g:=by have:=h.Pp (T:=T) g u.size<|aQ _;unfold Deaf;rw[Array.size_append];exact this
theorem zF{T:eB}{i}{a}(h:T[i]?=U a):T.g? i=U a.g:=by simp[Trace.g?,h]
def SentAt(T:eB)(c k p:Nat):Prop:=T.act? p=U (.send c k)/\T.heard p
def FO(T:eB)(c p:Nat):Prop:=T.act? p=U (.close c)/\T.heard p
theorem SentAt.app{c k p}(h:SentAt T c k p)(u):SentAt (T++u) c k p:=by have b:=lt_of_act? h.1;exact⟨by rw[act?_old b];exact h.1,(heard_old b).2 h.2⟩
theorem FO.app{c p}(h:FO T c p)(u):FO (T++u) c p:=by have b:=lt_of_act? h.1;exact⟨by rw[act?_old b];exact h.1,(heard_old b).2 h.2⟩
theorem Tr.put{h}(H:Tr cl (.hold h) fS B T)(y:Deaf T h=0)(j)(l){c}(k)(w:c<B):Tr cl (.pt T.size) fS B (T++yI h j l c k)∧SentAt (T++yI h j l c k) c k T.size:=by
 have o:(T++yI h j l c k)[T.size]?=U {g:=h,fn:=j,pos:=l,act:=.send c k}:=by simp[yI]
 have q:=afk h j l c k;refine⟨?_,by rw[B4 o],⟨h,zF o,by rw[GL<|aQ _];exact y⟩⟩;have v:=H.mute q.1 λD m=>by simp only[yI,fQ,di,dJ,dQ]at m;rcases m with rfl|rfl<;>exact w
 refine v.PX λi a b z A r C=>?_;unfold Acc at C⊢;split
 ·rename_i e;obtain⟨x,t,p⟩:=B7 z;rcases B6 t with⟨_,s⟩|⟨_,n⟩;·have f:=H.known i a b (by grind[touchAt_of]) A;unfold Acc at f;rw[e]at f;exact aB<|f.hb_new (aQ _) o rfl
  ·rw[q.1 x n]at p;grind
 ·grind
 ·grind
 grind
theorem Tr.take{j c k p}(H:Tr cl (.pt p) fS B T)(hs:SentAt T c k p)(o:Deaf T j=0)(e)(d)(cap)(m:c<B):Tr cl (.hold j) fS B<|T++tD j e d c k cap:=by
 have q:=ad1 j e d c k cap;have f:(T++tD j e d c k cap)[T.size+1]?=U {g:=j,fn:=e,pos:=d,act:=.recvDone c k}:=by simp[tD]
 have l:=H.mute q.1 λn b=>by simp only[tD,fQ,di,dJ,dQ]at b;rcases b with rfl|rfl<;>exact m
 exact l.pass λi h=>⟨T.size+1,_,f,rfl,aB<|Before.hb h<|.single<|aB ⟨.handOver (hs.app _).1<|B4 f,(hs.app _).2,⟨j,zF f,by rw[q.Pp j 1<|by grind];grind⟩⟩⟩
theorem Tr.give{h j:Nat}(H:Tr cl (.hold h) fS B T)(F:Deaf T h=0)(D:Deaf T j=0)(l:fC)(m:String)(o:fC)(n:String){c:Nat}(k cap:Nat)(E:c<B):Tr cl (.hold j) fS B<|T++metAt h j l m o n c k cap:=by
 have q:=ahx h j l m o n c k cap;have t:(T++metAt h j l m o n c k cap)[T.size]?=U {g:=h,fn:=l,pos:=m,act:=.send c k}:=by simp[metAt]
 have v:(T++metAt h j l m o n c k cap)[T.size+3]?=U {g:=j,fn:=o,pos:=n,act:=.recvDone c k}:=by simp[metAt]
 have r:HappensBefore (T++metAt h j l m o n c k cap) T.size<|T.size+3:=.single<|aB ⟨.handOver (B4 t)<|B4 v,⟨h,zF t,by rw[GL<|aQ _];exact F⟩,⟨j,zF v,by rw[q.Pp j 3<|by grind];grind⟩⟩;have C:Tr cl (.hold h) fS B<|T++metAt h j l m o n c k cap:=H.mute q.1 λL p=>by simp only[metAt,fQ,di,dJ,dQ]at p;rcases p with rfl|rfl|rfl|rfl<;>exact E
 refine C.PX λi a b I J y K=>?_;unfold Acc at K⊢;split
 ·rename_i e;obtain⟨x,A,w⟩:=B7 I;rcases B6 A with⟨_,z⟩|⟨_,s⟩;·have f:=H.known i a b (by grind[touchAt_of]) J;unfold Acc at f;rw[e]at f;exact⟨T.size+3,_,v,rfl,aB<|(Knows.hb_new f (aQ _) t rfl).trans r⟩
  ·rw[q.1 x s]at w;grind
 ·grind
 ·grind
 grind
def od(h:Nat)(E:fC)(ph:String)(c:Nat):eB:=#[{g:=h,fn:=E,pos:=ph,act:=.access ⟨.obj c,ai,Z⟩},{g:=h,fn:=E,pos:=ph,act:=.close c}]
theorem auo(h)(e)(f)(c):∀g,∀b∈od h e f c,∀d,deafStep g d b=d:=by intro g b a d;simp only[od,fQ,di,dJ,dQ]at a;rcases a with rfl|rfl<;>rfl
theorem Tr.aup{g}(H:Tr cl who fS B T)(h)(j){c}(i:c<B)(hs:cl c=.sh):Tr cl who fS B<|T++od g h j c:=by
 refine H.app (g:=g) (λf d=>?_) (λf d x e b k=>?_) λf d=>?_;.simp only[od,dJ]at d;grind
 .simp only[od,fQ,di,dJ,dQ]at d;rcases d with rfl|rfl;.simp only[s9]at e;simp only[pF]at k;grind
  .cases e
 .simp only[od,fQ,di,dJ,dQ]at d;rcases d with rfl|rfl<;>exact i
theorem aum{h}(i:Deaf T h=0)(b)(d)(c):FO (T++od h b d c) c<|T.size+1:=by
 have e:(T++od h b d c)[T.size+1]?=U {g:=h,fn:=b,pos:=d,act:=.close c}:=by simp[od]
 refine⟨by rw[B4 e],⟨h,zF e,?_⟩⟩;have f:(T++od h b d c)[T.size]?=U {g:=h,fn:=b,pos:=d,act:=.access ⟨.obj c,ai,Z⟩}:=by simp[od]
 rw[deaf_succ f,GL<|aQ _,auo h b d c h _<|by grind];exact i
theorem Tr.shut{h}(H:Tr cl (.hold h) fS B T)(p:Deaf T h=0)(b)(d){c}(o:c<B)(hs:cl c=.sh):Tr cl (.pt<|T.size+1) fS B (T++od h b d c)/\FO (T++od h b d c) c (T.size+1):=by
 refine⟨(H.aup (g:=h) b d o hs).pass λi m=>?_,aum p b d c⟩;have k:(T++od h b d c)[T.size+1]?=U {g:=h,fn:=b,pos:=d,act:=.close c}:=by simp[od]
 obtain⟨q,z,f,j,r⟩:=m;have n:=by have:=lt_size_of_getElem? f;simp[od]at this;omega
 refine r.trans ?_;rcases B3 q (T.size+1)with e|l;.exact aB<|hb_po e f k<|j.trans rfl
 .exact ay<|by omega
def vN(j:Nat)(U:fC)(E:String)(c:Nat):eB:=#[{g:=j,fn:=U,pos:=E,act:=.recvClosed c}]
theorem abv(j)(e)(d)(c):yA<|vN j e d c:=.of λf b=>by simp only[vN,fQ,di,dJ,dQ]at b;subst b;exact⟨rfl,by simp,by simp⟩
theorem Tr.aDm(H:Tr cl who fS B T)(j)(d)(e){c}(f:c<B):Tr cl who fS B<|T++vN j d e c:=H.mute (abv j d e c).1 λh b=>by simp only[vN,fQ,di,dJ,dQ]at b;subst b;exact f
theorem Tr.found{j c p}(H:Tr cl (.pt p) fS B T)(hs:FO T c p)(k:Deaf T j=0)(d)(b)(h:c<B):Tr cl (.hold j) fS B<|T++vN j d b c:=by
 have e:(T++vN j d b c)[T.size]?=U {g:=j,fn:=d,pos:=b,act:=.recvClosed c}:=by simp[vN]
 exact(H.aDm j d b h).pass λi f=>⟨T.size,_,e,rfl,aB<|Before.hb f<|.single<|aB ⟨.closed (hs.app _).1<|B4 e,(hs.app _).2,⟨j,zF e,by rw[GL<|aQ _];exact k⟩⟩⟩
def xE(k:Nat)(E:fC)(ph:String)(U:fC):eB:=#[{g:=0,fn:=E,pos:=ph,act:=.go k},{g:=k,fn:=U,pos:=ph,act:=.start}]
theorem am0(k)(d)(c)(e):yA<|xE k d c e:=.of λf b=>by simp only[xE,fQ,di,dJ,dQ]at b;rcases b with rfl|rfl<;>exact⟨rfl,by simp,by simp⟩
theorem Tr.born{k:Nat}(H:Tr cl (.hold 0) fS B T)(z:Deaf T 0=0)(F:Deaf T k=0)(j:fC)(f)(h)(A:∀b,b<B->cl' b=cl b∨cl b=.own 0∧cl' b=.own k):Tr cl' (.hold 0) fS B<|T++xE k j f h:=by
 have q:=am0 k j f h;have y:=H.mute q.1 λI l=>by simp only[xE,fQ,di,dJ,dQ]at l;rcases l with rfl|rfl<;>trivial
 have s:(T++xE k j f h)[T.size]?=U {g:=0,fn:=j,pos:=f,act:=.go k}:=by simp[xE]
 have n:(T++xE k j f h)[T.size+1]?=U {g:=k,fn:=h,pos:=f,act:=.start}:=by simp[xE]
 have m:HappensBefore (T++xE k j f h) T.size<|T.size+1:=.single<|aB ⟨.spawn (B4 s) (B4 n)<|zF n,⟨0,zF s,by rw[GL<|aQ _];exact z⟩,⟨k,zF n,by rw[q.Pp k 1<|by grind];grind⟩⟩;refine y.PX λi a b C D p o=>?_;rcases A b p with e|⟨e,E⟩;·unfold Acc at o⊢;grind
 ·unfold Acc;rw[E];obtain⟨x,w,t⟩:=B7 C;rcases B6 w with⟨_,v⟩|⟨_,r⟩;·have d:=H.known i a b (by grind[touchAt_of]) D;unfold Acc at d;rw[e]at d;exact⟨T.size+1,_,n,rfl,aB<|(Knows.hb_new d (aQ _) s rfl).trans m⟩
  ·rw[q.1 x r]at t;grind
instance aHT:Go.ConcR.Payload:=⟨0⟩
def L(O:List Nat)(w w1:ax):Prop:=(∀b∈O,w1.heap[b]?=w.heap[b]?)/\w.heap.size<=w1.heap.size
theorem L.refl(O)(w):L O w w:=⟨λ_ _=>rfl,aQ _⟩
theorem L.trans{O}(a b c)(h:L O a b)(k:L O b c):L O a c:=⟨λx e=>(k.1 x e).trans<|h.1 x e,bC h.2 k.2⟩
theorem L.at(O)(w)(d):L O w<|w.at d:=⟨λ_ _=>rfl,aQ _⟩
structure DO(O:List Nat)(w w':ax)(es:Array jq):Prop where
 os:w'.os=w.os
 tape:w'.tape=w.tape
 drawn:w'.drawn=w.drawn
 out:w'.output=w.output
 size:w'.heap.size=w.heap.size
 block:∀b,b∉O->w'.heap[b]?=w.heap[b]?
 ev:∀e∈es,∃a wr,e=⟨.cell a,wr,ai⟩/\a.block∈O
structure I7 where
 c:Nat
 z:az
 ok:Bool
 home:List Nat->aX->ax->Prop
 MD:∀O g w w1,L O w w1->home O g w->home O g w1
def AtR(P:bZ)(main:Bool)(s:I7)(O:List Nat)(g g2:aX)(w:ax):Prop:=g.status=dN/\g.frame=g2.frame/\g.callers=g2.callers/\g.dying=g2.dying/\s.home O g2 w/\∀w1,cj P main g w1=.comm g2 #[rcase s.c s.z] Z (.recv s.ok) w1 #[]
def AtB(P:bZ)(s:I7)(m:Nat)(O:List Nat)(g:aX)(w:ax):Prop:=g.status=dN/\∃obj,∀w1,L O w w1->∃g',g'.status=dN/\cj P ai g w1=bV g' {w1 with heap:=w1.heap.push obj} #[]/\cM P ai (L<|w1.heap.size::O) (DO<|w1.heap.size::O) (λg w=>∃g2,AtR P ai s (w1.heap.size::O) g g2 w) m g' {w1 with heap:=w1.heap.push obj}
def rH(P:bZ)(main:Bool)(s:I7)(n:Nat)(O:List Nat)(g:aX)(w:ax):Prop:=(∃k,n=k+1/\cM P main (L O) (DO O) (λg w=>∃g2,AtR P main s O g g2 w) k g w)\/(∃k m,n=k+m+3/\main=ai/\cM P main (L O) (DO O) (AtB P s m O) k g w)\/n=0/\∃g0 g2,g=parked g2 #[rcase s.c s.z] (.recv s.ok)/\AtR P main s O g0 g2 w
section
variable {P:bZ} {main:Bool} {s:I7} {O:List Nat} {g g2:aX} {w w1:ax} {n:Nat}
theorem AtR.rely(a:L O w w1)(h:AtR P main s O g g2 w):AtR P main s O g g2 w1:=⟨h.1,h.2.1,h.2.2.1,h.2.2.2.1,s.MD _ _ _ _ a h.2.2.2.2.1,h.2.2.2.2.2⟩
theorem AtR.tries(h:AtR P main s O g g2 w)(cs)(f):AtR P main s O {parked g2 cs f with status:=dN} g2 w:=by obtain⟨_,e,d,c,b,a⟩:=h;exact⟨rfl,rfl,rfl,rfl,b,λw=>by rw[<-a w];exact stepG_same e.symm d.symm c.symm w⟩
theorem rH.rely(b:L O w w1)(h:rH P main s n O g w):rH P main s n O g w1:=by
 rcases h with⟨k,rfl,h⟩|⟨k,m,rfl,d,h⟩|⟨rfl,c,g2,rfl,h⟩;.exact ay ⟨k,rfl,h.rely L.trans b⟩
 .exact aB<|ay ⟨k,m,rfl,d,h.rely L.trans b⟩
 .exact aB<|aB ⟨rfl,c,g2,rfl,h.rely b⟩
theorem rH.status(h:rH P main s n O g w):g.status=dN/\0<n\/g.status=.blocked/\n=0:=by
 rcases h with⟨k,rfl,h⟩|⟨k,m,rfl,c,h⟩|⟨rfl,b,g2,rfl,h⟩;.exact ay ⟨qp (λ_ _ x=>x.choose_spec.1) w (L.refl _ _) h,by omega⟩
 .exact ay ⟨qp (λ_ _ x=>x.1) w (L.refl _ _) h,by omega⟩
 .exact aB ⟨rfl,rfl⟩
theorem rH.again(h:rH P main s n O g w){cap a b}{buf}{tm}(o:n=0->w1.heap[s.c]?=U (.chan cap buf ai a b tm)):g.again w1=g:=by
 rcases h.status with⟨l,_⟩|⟨_,j⟩;.grind[again_running]
 .rcases h with⟨k,rfl,h⟩|⟨k,m,rfl,p,h⟩|⟨_,f,g2,rfl,h⟩;.omega
  .omega
  .exact again_all_open λi e=>by grind
end
structure fG where
 aO:I7
 out:Nat
 C:Nat
 val:az
abbrev ahb:Nat->Loc->Prop:=λ_ _=>False
abbrev WS(P:bZ)(L:WgLink)(Wg:Nat)(r:fG):Nat->Nat->Nat->aX->ax->Prop:=WSit P L.tWg Wg r.C 77 ahb ahb 0 1 r.val
abbrev W7(P:bZ)(L:WgLink)(Wg:Nat)(r:fG):Nat->aX->ax->Prop:=cM P ai (RW L.tWg Wg r.C 77 0 0) Go.ConcR.DC0<|AtR0 P L.tWg Wg r.C 77 0 1 r.val
def Ag(P:bZ)(C:WgLink)(Wg:Nat)(r:fG)(O:List Nat)(g:aX)(w:ax):Prop:=g.status=dN/\mayWake P g=Z/\∃g',g'.status=dN/\∀w1 k,L O w w1->w1.heap[r.out]?=U (.chan 1 #[] ai k k ai)->jN C.tWg Wg w1->cj P ai g w1=bV g' (w1.setChan r.out 1 #[] Z k k ai) (kS r.out)/\∃m,W7 P C Wg r m g'<|w1.setChan r.out 1 #[] Z k k ai
structure dn where
 stage:Nat
 fuel:Nat
 own:List Nat
 deaf:Nat
def oN(P:bZ)(C:WgLink)(Wg:Nat)(ro:Option fG)(i:Nat)(x:dn)(g:aX)(w:ax):Prop:=match ro with|none=>0<i/\x.stage=1/\QuitsD P x.fuel x.deaf g/\x.own=[]|some r=>x.stage=9/\x.deaf=0/\rH P (i==0) r.aO x.fuel x.own g w\/x.stage=8/\x.deaf=0/\0<i/\r.C∈x.own/\cM P ai (L x.own) (DO x.own) (Ag P C Wg r x.own) x.fuel g w\/x.stage=7/\x.deaf=0/\0<i/\r.C∈x.own/\W7 P C Wg r x.fuel g w\/x.stage<=6/\0<i/\r.C∈x.own/\WS P C Wg r x.stage x.fuel x.deaf g w
theorem RW.ag1{D:WgLink}{c C}{O}{w w1}(d:C∈O)(h:L O w w1)(i:jN D.tWg c w->jN D.tWg c w1):RW D.tWg c C 77 0 0 w w1:=⟨λb j=>by omega,i,λ⟨g,e,f⟩=>⟨g,(h.1 C d).trans e,f⟩,Go.ConcN.cell_of_block (h.1 C d) 0⟩
section
variable {P:bZ} {B:WgLink} {Wg i:Nat} {ro:Option fG} {x:dn} {g:aX} {w w1:ax}
theorem oN.rely(k:L x.own w w1)(m:(∃r,ro=U r)->jN B.tWg Wg w->jN B.tWg Wg w1)(h:oN P B Wg ro i x g w):oN P B Wg ro i x g w1:=by cases ro with|none=>exact h|some r=>
  rcases h with⟨e,f,d⟩|⟨e,f,d,l,j⟩|⟨e,f,d,l,j⟩|⟨e,f,d,j⟩;.exact ay ⟨e,f,d.rely k⟩
  .exact aB<|ay ⟨e,f,d,l,j.rely L.trans k⟩
  .exact aB<|aB<|ay ⟨e,f,d,l,Goes.rely (R:=RW B.tWg Wg r.C 77 0 0) (λ_ _ _ a b=>RW.trans a b) j<|RW.ag1 l k<|m ⟨r,rfl⟩⟩
  .exact aB<|aB<|aB ⟨e,f,d,WSit.rely j<|RW.ag1 d k<|m ⟨r,rfl⟩⟩
theorem oN.awake(h:oN P B Wg ro i x g w):awake g:=by cases ro with|none=>exact Kc<|h.2.2.1.status.elim ay λx=>aB<|aB x|some r=>
  rcases h with⟨e,d,c⟩|⟨e,d,c,f,b⟩|⟨e,d,c,f,b⟩|⟨e,d,c,b⟩;.exact Kc<|c.status.elim (λx=>ay x.1) λx=>aB<|ay x.1
  .exact Kc<|ay<|qp (λ_ _ x=>x.1) w (L.refl _ _) b
  .exact Kc<|ay<|qp (λ_ _ x=>x.1) w (oS _) b
  .exact Kc<|b.status.elim ay λx=>aB<|aB x
theorem oN.again{cap a b}{buf}{tm}(h:oN P B Wg ro i x g w)(m:∀r,ro=U r->x.stage=9->x.fuel=0->w1.heap[r.aO.c]?=U (.chan cap buf ai a b tm)):g.again w1=g:=by cases ro with|none=>exact yZ _ h.2.2.1.status|some r=>
  rcases h with⟨f,k,j⟩|⟨f,k,j,n,e⟩|⟨f,k,j,n,e⟩|⟨f,k,j,e⟩;.exact j.again λl=>m r rfl f l
  .exact yZ _<|ay<|qp (λ_ _ x=>x.1) w (L.refl _ _) e
  .exact yZ _<|ay<|qp (λ_ _ x=>x.1) w (oS _) e
  .exact yZ _ e.status
theorem oN.noSend(h:oN P B Wg ro i x g w)(c):offersAt g c Z=[]:=by cases ro with|none=>exact SK (λd=>by rcases h.2.2.1.status with z|z<;>rw[z]at d<;>cases d) c Z|some r=>
  rcases h with⟨j,l,f⟩|⟨j,l,f,n,b⟩|⟨j,l,f,n,b⟩|⟨j,l,f,b⟩
  .rcases f with⟨k,e,h⟩|⟨k,m,e,q,h⟩|⟨e,o,p,rfl,h⟩;.have:=qp (λ_ _ x=>x.choose_spec.1) w (L.refl _ _) h;grind[offersAt_of_not_blocked]
   .have:=qp (λ_ _ x=>x.1) w (L.refl _ _) h;grind[offersAt_of_not_blocked]
   grind[offersAt_parked_recv']
  .have:=qp (λ_ _ x=>x.1) w (L.refl _ _) b;grind[offersAt_of_not_blocked]
  .have:=qp (λ_ _ x=>x.1) w (oS _) b;grind[offersAt_of_not_blocked]
  .exact SK (λd=>by rcases b.status with z|z<;>rw[z]at d<;>cases d) c Z
end
structure fN where
 buf:Option az
 shut:Bool
 k:Nat
def fN.obj(st:fN):Obj:=.chan 1 (match st.buf with|none=>#[]|some x=>#[x]) st.shut (match st.buf with|none=>st.k|some _=>st.k+1) st.k ai
inductive Md where|opn(p:Nat)|reg|last|sema
def gu(i:Nat)(x:dn):Nat:=if 0<i/\5<=x.stage then 1 else 0
def V2(n:Nat)(D:Nat->dn):Nat:=sumTo n λi=>gu i<|D i
def OpenSt(n:Nat)(D:Nat->dn):Prop:=∀i,0<i->i<n->5<=(D i).stage\/(D i).stage=1
def nT(n:Nat)(D:Nat->dn):Md->Int->Int->Prop|.opn p,st,sm=>OpenSt n D/\st=((V2 n D+p:Nat):Int)*KK/\sm=0|.reg,st,sm=>OpenSt n D/\1<=V2 n D/\st=((V2 n D:Nat):Int)*KK+1/\sm=0|.last,st,sm=>∃l,0<l/\l<n/\((D l).stage=4\/(D l).stage=3\/(D l).stage=2)/\(∀i,0<i->i<n->i≠l->(D i).stage=1)/\st=(if(D l).stage=2 then 0 else 1)/\sm=0|.sema,st,sm=>(∀i,0<i->i<n->(D i).stage=1)/\st=0/\sm=1
structure fK where
 P:bZ
 L:WgLink
 Wg:Nat
 n0:Nat
 fS:Loc->Prop
 live:Bool
structure Inv(K:fK)(role:Nat->Option fG)(sp:Nat->Prop)(md:Md)(ch:Nat->Option fN)(cl:Nat->fe)(who:yy)(D:Nat->dn)(T:eB)(gs:Array aX)(v:ax):Prop where
 gV:∀i g,¬sp i->gs[i]?=U g->oN K.P K.L K.Wg (role i) i (D i) g v
 deaf:∀i,i<gs.size->Deaf T i=(D i).deaf
 above:∀j,gs.size<=j->Deaf T j=0
 tr:Tr cl who K.fS v.heap.size T
 own:∀i b,b∈(D i).own->cl b=.own i/\b<v.heap.size
 chan:∀c st,ch c=U st->v.heap[c]?=U st.obj/\cl c=.sh/\(K.live=Z->c≠K.Wg)oz:∀i r,role i=U r->(D i).stage=9->¬sp i->∃st,ch r.aO.c=U st/\((D i).fuel=0->st.buf=V/\st.shut=ai)out:∀i r,role i=U r->(D i).stage=8->¬sp i->∃k,ch r.out=U ⟨V,ai,k⟩uniq:∀i j r r',role i=U r->role j=U r'->(D i).stage=9->(D j).stage=9->r.aO.c=r'.aO.c->i=j
 wg:K.live=Z->∃st sm,WgAt K.L.tWg K.Wg v st sm/\nT gs.size D md st sm
 kI:K.live=Z->cl K.Wg=.sh
 rel:∀i r,role i=U r->0<i->(D i).stage<=6->∃p,RelBy (stA K.Wg) T i p
 norel:NoRelease (stA K.Wg) T
 rD:∀idx op,T[idx]?=U op->K.n0<=idx->op.act.touch?≠V->op.g=0\/(role op.g).isSome
 zero:0<gs.size
 idle:∀i r,role i=U r->K.live=Z
theorem pC{v:ax}{c}{o}(h:v.heap[c]?=U o):c<v.heap.size:=(dm.1 h).1
variable{K:fK}{role:Nat->Option fG}{sp:Nat->Prop}{md md':Md}{ch:Nat->Option fN}{cl cl':Nat->fe}{who:yy}{D:Nat->dn}{T:eB}{gs:Array aX}{v v':ax}
theorem Inv.at(I:Inv K role sp md ch cl who D T gs v)(d):Inv K role sp md ch cl who D T gs<|v.at d:=⟨λi g a b=>(I.gV i g a b).rely (L.at _ _ _) λ_=>id,I.deaf,I.above,I.tr,I.own,I.chan,I.oz,I.out,I.uniq,I.wg,I.kI,I.rel,I.norel,I.rD,I.zero,I.idle⟩
theorem Inv.live(I:Inv K role sp md ch cl who D T gs v)(a:K.live=Z):jN K.L.tWg K.Wg v:=let⟨st,sm,h,_⟩:=I.wg a;⟨st,sm,h⟩
theorem agO{a:fN}(d:a.buf=V)(c:a.shut=ai):a.obj=.chan 1 #[] ai a.k a.k ai:=by obtain⟨b,s,k⟩:=a;simp only at d c;subst d c;rfl
theorem arc{c i}{a}(I:Inv K role sp md ch cl who D T gs v)(b:ch c=U a):¬(cl c=.own i\/K.live=Z/\c=K.Wg\/cl c=.eV/\who=.hold i):=by obtain⟨_,e,d⟩:=I.chan c a b;grind
theorem Inv.go_step(I:Inv K role sp md ch cl who D T gs v){i:Nat}{g g':aX}{es:Array jq}{x':dn}(hi:gs[i]?=U g)(t:v.heap.size<=v'.heap.size)(B:∀b,b<v.heap.size->¬(cl b=.own i∨K.live=Z∧b=K.Wg∨cl b=.eV∧who=.hold i)->v'.heap[b]?=v.heap[b]?)(m:∀b,b<v.heap.size->cl' b=cl b)(aaj:∀b∈x'.own,cl' b=.own i∧b<v'.heap.size)(vJ:∀e∈es,(∀x,(iz e).touch?=U x->Ab cl' who i x)∧(iz e).low v'.heap.size)(oA:∀e∈es,e.loc≠iA (.release<|stA K.Wg))(Hv:jZ (D i).deaf es=x'.deaf)(aJi:role i=V->i≠0->∀e∈es,(iz e).touch?=V)(aI3:¬sp i->oN K.P K.L K.Wg (role i) i x' g' v')(h9:x'.stage=9->(D i).stage=9∧(¬sp i->0<x'.fuel))(h8:x'.stage=8->¬sp i->(D i).stage=8)(hwg:K.live=Z->∃st X,WgAt K.L.tWg K.Wg v' st X∧nT gs.size (bE D i x') md' st X)(hrel:∀r,role i=U r->0<i->x'.stage<=6->∃p,RelBy (stA K.Wg) (T++iQ i g.frame.fn g.frame.place es) i p):Inv K role sp md' ch cl' who (bE D i x') (T++iQ i g.frame.fn g.frame.place es) ((gs.map<|woken K.P g g' v').setIfInBounds i g') v'∧∀j y,j≠i->¬sp j->gs[j]?=U y->((gs.map<|woken K.P g g' v').setIfInBounds i g')[j]?=U y:=by
 have lH:i<gs.size:=by grind
 have f:∀M∈iQ i g.frame.fn g.frame.place es,M.g=i:=λM s=>by obtain⟨e,_,rfl⟩:=No s;rfl
 have Q0:((gs.map<|woken K.P g g' v').setIfInBounds i g').size=gs.size:=by simp
 have H:∀c st,ch c=U st->v'.heap[c]?=U st.obj:=λc st F=>by rw[B c (pC (I.chan c st F).1)<|arc I F];exact(I.chan c st F).1
 have oY:∀j,j≠i->L (D j).own v v':=λj a=>by
  refine⟨λb O=>?_,t⟩;obtain⟨Q,h2⟩:=I.own j b O;refine B b h2 ?_;rw[Q];rintro(h|⟨N,h⟩|⟨h,_⟩);·cases h;exact a rfl
  ·rw[h]at Q;rw[I.kI N]at Q;cases Q
  ·cases h
 have J:K.live=Z->jN K.L.tWg K.Wg v':=λN=>let⟨st,X,h,_⟩:=hwg N;⟨st,X,h⟩;have q:∀j y,j≠i->¬sp j->gs[j]?=U y->woken K.P g g' v' y=y:=λj y a n E=>by
  have ho:=I.gV j y n E;by_cases hx:∃r,role j=U r∧(D j).stage=9∧(D j).fuel=0;·obtain⟨r,l,d,S⟩:=hx;obtain⟨st,o,C⟩:=I.oz j r l d n;obtain⟨O,mM⟩:=C S;refine woken_of_again<|ho.again (cap:=1) (a:=st.k) (b:=st.k) (buf:=#[]) (tm:=ai) λr' u _ _=>?_;rw[l]at u;cases u;rw[H _ _ o,agO O mM]
  ·exact woken_of_again<|ho.again (cap:=1) (a:=0) (b:=0) (buf:=#[]) (tm:=ai) λr l d S=>absurd ⟨r,l,d,S⟩ hx
 have A:∀j,j≠i->((gs.map<|woken K.P g g' v').setIfInBounds i g')[j]?=gs[j]?.map (woken K.P g g' v'):=λj a=>by rw[nB λe=>a e.symm,qV]
 have aIX:((gs.map<|woken K.P g g' v').setIfInBounds i g')[i]?=U g':=kg (by simpa using lH);refine⟨?_,λj y a n E=>by rw[A j a,E,ee,q j y a n E]⟩;refine⟨λj y n E=>?_,λj a=>?_,λj a=>?_,?_,λj b O=>?_,λc st F=>?_,λj r l d n=>?_,λj r l w n=>?_,λj k r r' l u a hk F=>?_,?_,?_,λj r l a o=>?_,?_,λidx M s hn ht=>?_,by grind,I.idle⟩
 ·by_cases e:j=i;·grind[Option.some.inj,upd_same]
  ·rw[A j e]at E;obtain⟨y0,Q1,rfl⟩:=ze.1 E;rw[q j y0 e n Q1,cX D _ e];exact(I.gV j y0 n Q1).rely (oY j e) λ⟨r,l⟩_=>J<|I.idle j r l
 ·rw[Q0]at a;by_cases e:j=i;·subst e;rw[Deaf_own,da,I.deaf j a];exact Hv
  ·rw[Deaf_other T (λz=>e z.symm) _ f,cX D _ e];exact I.deaf j a
 ·rw[Q0]at a;rw[Deaf_other T (g':=i) (by omega) _ f];exact I.above j a
 ·refine Tr.app (g:=i) ((I.tr.fresh (cl':=cl') m).mono t) f (λM s x hx=>?_) λM s=>?_;all_goals grind[Go.Conc.mem_ofEvents]
 ·by_cases e:j=i;·grind[upd_same]
  ·rw[cX D _ e]at O;obtain⟨Q,h2⟩:=I.own j b O;grind
 ·obtain⟨Q,h2,h3⟩:=I.chan c st F;grind
 ·by_cases e:j=i;·subst e;rw[da]at d⊢;obtain⟨h9o,hf⟩:=h9 d;obtain⟨st,o,_⟩:=I.oz j r l h9o n;exact⟨st,o,λS=>by grind⟩
  ·rw[cX D _ e]at d⊢;exact I.oz j r l d n
 ·by_cases e:j=i;·subst e;rw[da]at w;exact I.out j r l (h8 w n) n
  ·rw[cX D _ e]at w;exact I.out j r l w n
 ·have W:∀j,(bE D i x' j).stage=9->(D j).stage=9:=λj a=>by grind[upd_same,upd_ne]
  exact I.uniq j k r r' l u (W j a) (W k hk) F
 ·grind
 ·intro N;rw[m _<|by obtain⟨st,X,h,_⟩:=I.wg N;exact pC h];exact I.kI N
 ·by_cases e:j=i;·grind[upd_same]
  ·rw[cX D _ e]at o;obtain⟨p,hp⟩:=I.rel j r l a o;exact⟨p,hp.appOther f λz=>e z.symm⟩
 ·exact I.norel.app<|Go.ConcN.norel_of oA
 ·rcases B6 s with⟨_,R⟩|⟨_,P⟩;·exact I.rD idx M R hn ht
  ·rw[f M P];by_cases S:i=0;·grind
   ·refine aB ?_;cases l:role i with|some r=>rfl|none=>grind[Go.Conc.mem_ofEvents]
variable{D':Nat->dn}{n:Nat}
theorem Bf(h:∀i,0<i->i<n->(D' i).stage=(D i).stage):V2 n D'=V2 n D:=Av λi b=>by unfold gu;grind
theorem nT.congr{g f}(c:nT n D md g f)(h:∀i,0<i->i<n->(D' i).stage=(D i).stage):nT n D' md g f:=by have e:=Bf h;cases md with|opn p=>exact⟨λi b d=>by rw[h i b d];exact c.1 i b d,by rw[e];exact c.2.1,c.2.2⟩|reg=>exact⟨λi b d=>by rw[h i b d];exact c.1 i b d,by rw[e];exact c.2.1,by rw[e];exact c.2.2.1,c.2.2.2⟩|last=>obtain⟨l,b,m,q,s,r,k⟩:=c;exact⟨l,b,m,by grind,λi o d j=>by grind,by grind,k⟩|sema=>exact⟨λi b d=>by rw[h i b d];exact c.1 i b d,c.2⟩
theorem nT.same{b c}{i}{x}(d:nT n D md b c)(h:x.stage=(D i).stage):nT n (bE D i x) md b c:=d.congr λj _ _=>by grind[upd_same,upd_ne]
theorem nT.counted{m k}{i}{x}(b:nT n D md m k)(o:i<n)(h:5<=(D i).stage)(w:5<=x.stage):nT n (bE D i x) md m k:=by
 by_cases r:0<i
 .have f:V2 n (bE D i x)=V2 n D:=Av λj g=>by
   by_cases e:j=i;.subst e;rw[da];unfold gu;grind
   grind[upd_ne]
  have d:OpenSt n D->OpenSt n (bE D i x):=λd j c g=>by
   by_cases e:j=i;.grind[upd_same]
   .rw[cX D _ e];exact d j c g
  cases md with|opn p=>exact⟨d b.1,by rw[f];exact b.2.1,b.2.2⟩|reg=>exact⟨d b.1,by rw[f];exact b.2.1,by rw[f];exact b.2.2.1,b.2.2.2⟩|last=>obtain⟨l,q,u,t,z,y,s⟩:=b;grind|sema=>have:=b.1 i r o;omega
 .exact b.congr λj c _=>by grind[upd_ne]
def oL(n:Nat)(D:Nat->dn):Nat×Nat:=(sumTo n λi=>(D i).stage,sumTo n λi=>(D i).fuel)
theorem anK{i}{x}(b:i<n)(f:x.stage=(D i).stage)(e:x.fuel<(D i).fuel):Lt2 (oL n<|bE D i x)<|oL n D:=by have d:=sumTo_upd D x dn.stage b;have c:=sumTo_upd D x dn.fuel b;unfold oL;grind
theorem acN{i}{x}(b:i<n)(d:x.stage<(D i).stage):Lt2 (oL n<|bE D i x)<|oL n D:=by have c:=sumTo_upd D x dn.stage b;exact Prod.Lex.left _ _<|by omega
structure Left(cl:Nat->fe)(sp:Nat->Prop)(v v':ax):Prop where
 size:v.heap.size<=v'.heap.size
 block:∀b,b<v.heap.size->(cl b=.eV\/cl b=.old\/∃h,sp h/\cl b=.own h)->v'.heap[b]?=v.heap[b]?
 os:v'.os=v.os
 tape:v'.tape=v.tape
 out:v'.output=v.output
theorem Left.refl(cl)(sp)(v):Left cl sp v v:=⟨aQ _,λ_ _ _=>rfl,rfl,rfl,rfl⟩
theorem Left.at(cl)(sp)(v)(d):Left cl sp v<|v.at d:=⟨aQ _,λ_ _ _=>rfl,rfl,rfl,rfl⟩
theorem Left.trans{u}(h:Left cl sp v v')(e:∀b,b<v.heap.size->cl' b=cl b)(k:Left cl' sp v' u):Left cl sp v u:=⟨bC h.size k.size,λb c d=>(k.block b (cB c h.size)<|by grind).trans<|h.block b c d,k.os.trans h.os,k.tape.trans h.tape,k.out.trans h.out⟩
def th(y y':aX):Prop:=y'=y\/y.status=.blocked/\y'={y with status:=dN}
theorem th.refl(y):th y y:=ay rfl
theorem th.trans{x y z}(h:th x y)(k:th y z):th x z:=by
 rcases h with rfl|⟨a,rfl⟩;.grind
 .rcases k with rfl|⟨b,_⟩;.exact aB ⟨a,rfl⟩
  grind
def l8(sp:Nat->Prop)(gs:Array aX):Prop:=∀h y,sp h->gs[h]?=U y->y.status=dN\/y.status=.blocked/\y.offers=V
theorem l8.again{y}(h:y.status=dN\/y.status=.blocked/\y.offers=V)(P)(a a')(w):th y<|woken P a a' w y:=by
 unfold woken;split
 .rcases h with h|⟨d,c⟩;.rw[yZ _<|ay h];exact ay rfl
  .right;unfold Goroutine.again;grind
 .exact ay rfl
theorem th.ok{y b}(h:y.status=dN\/y.status=.blocked/\y.offers=V)(k:th y b):b.status=dN\/b.status=.blocked/\b.offers=V:=by
 rcases k with rfl|⟨_,rfl⟩;.grind
 grind
structure uG(K:fK)(role:Nat->Option fG)(sp:Nat->Prop)(md:Md)(ch:Nat->Option fN)(cl:Nat->fe)(who:yy)(D:Nat->dn)(T:eB)(gs:Array aX)(v:ax)(sl:Option<|Nat×Nat)(i:Nat)(md':Md)(z:Nat->Option fN)(cl':Nat->fe)(D':Nat->dn)(T':eB)(R:Array aX)(v':ax):Prop where
 run:∃ops,runT K.P (dw gs v sl) i=(fR<|dw R v' sl,ops)/\T'=T++ops
 inv:Inv K role sp md' z cl' who D' T' R v'
 size:R.size=gs.size
 lt:Lt2 (oL gs.size D') (oL gs.size D)left:Left cl sp v v'
 cls:∀b,b<v.heap.size->cl' b=cl b
 BF:∀h,sp h->D' h=D h
 DN:∀h y,sp h->gs[h]?=U y->∃y',R[h]?=U y'/\th y y'
 sema:md'=.sema->md=.sema\/∀h y',sp h->R[h]?=U y'->y'.status=dN
 md:md'=md\/md=.reg/\md'=.last\/md=.last/\md'=.sema
 iE:∀j,(D' j).stage<=(D j).stage
 k9:∀j r st,role j=U r->ch r.aO.c=U st->st.shut=ai\/j=0->(D j).stage=9->(D' j).stage=9
 iF:∀j,(D' j).stage=9->(D j).stage=9
 st8:∀j,(D' j).stage=8->(D j).stage=8\/(D j).stage=9/\∃r st,role j=U r/\ch r.aO.c=U st/\st.shut=Z
section
variable {i:Nat} {g:aX} {sl:Option (Nat×Nat)}
theorem Inv.step1(I:Inv K role sp md ch cl who D T gs v)(R:l8 sp gs)(hs:¬sp i)(S:gs[i]?=U g){g':aX}{es:Array jq}{x':dn}(H:cj K.P (i==0) g v=bV g' v' es)(a:v.heap.size<=v'.heap.size)(d:∀b,b<v.heap.size->¬(cl b=.own i\/K.live=Z/\b=K.Wg)->v'.heap[b]?=v.heap[b]?)(C:v'.os=v.os)(l:v'.tape=v.tape)(s:v'.output=v.output)(t:∀b,b<v.heap.size->cl' b=cl b)(w:∀b∈x'.own,cl' b=.own i/\b<v'.heap.size)(E:∀e∈es,(∀x,(iz e).touch?=U x->Ab cl' who i x)/\(iz e).low v'.heap.size)(O:∀e∈es,e.loc≠iA (.release<|stA K.Wg))(L:jZ (D i).deaf es=x'.deaf)(o:role i=V->i≠0->∀e∈es,(iz e).touch?=V)(u:oN K.P K.L K.Wg (role i) i x' g' v')(B:x'.stage=9->(D i).stage=9/\0<x'.fuel)(h8:x'.stage=8->(D i).stage=8)(M:K.live=Z->∃W X,WgAt K.L.tWg K.Wg v' W X/\nT gs.size (bE D i x') md' W X)(q:∀r,role i=U r->0<i->x'.stage<=6->∃p,RelBy (stA K.Wg) (T++iQ i g.frame.fn g.frame.place es) i p)(lH:x'.stage<(D i).stage\/x'.stage=(D i).stage/\x'.fuel<(D i).fuel)(N:(D i).stage=9->x'.stage=9)(m:md'=.sema->md=.sema\/∀h P,sp h->((gs.map<|woken K.P g g' v').setIfInBounds i g')[h]?=U P->P.status=dN)(J:md'=md\/md=.reg/\md'=.last\/md=.last/\md'=.sema):∃md' cl' D' T' A v',uG K role sp md ch cl who D T gs v sl i md' ch cl' D' T' A v':=by
 have Q1:i<gs.size:=(dm.1 S).1;obtain⟨hI,Q0⟩:=I.go_step (x':=x') (md':=md') (cl':=cl') S a (λb Q hn=>d b Q λh=>hn<|h.imp id ay) t w E O L o (λ_=>u) (λh=>⟨(B h).1,λ_=>(B h).2⟩) (λh _=>h8 h) M q;refine⟨md',cl',bE D i x',_,_,v',⟨_,YT (sl:=sl) S H,rfl⟩,hI,by simp,?_,⟨a,λb Q c=>d b Q ?_,C,l,s⟩,t,λh z=>cX D _ λe=>hs<|e▸z,λh y z hy=>?_,m,J,λj=>?_,λj _ _ _ _ _ f=>?_,λj f=>?_,λj f=>ay ?_⟩;.grind[acN,anK]
 .rintro(h|⟨F,h⟩)
  .rcases c with c|c|⟨k,hk,c⟩;.grind
   .grind
   grind
  .rcases c with c|c|⟨k,hk,c⟩;.rw[h,I.kI F]at c;grind
   .rw[h,I.kI F]at c;grind
   .rw[h,I.kI F]at c;grind
 .have jH:i≠h:=λe=>hs<|e▸z;refine⟨woken K.P g g' v' y,?_,l8.again (R h y z hy) _ _ _ _⟩;grind
 .by_cases e:j=i;.subst e;rw[da];grind
  .rw[cX D _ e];exact aQ _
 .by_cases e:j=i;.subst e;rw[da];exact N f
  .rw[cX D _ e];exact f
 .by_cases e:j=i;.subst e;rw[da]at f;exact(B f).1
  .rw[cX D _ e]at f;exact f
 grind[upd_same,upd_ne]
theorem Inv.ayF(I:Inv K role sp md ch cl who D T gs v)(p:l8 sp gs)(hs:¬sp i)(y:gs[i]?=U g)(b:g.status=dN)(w:role i=V):∃md' cl' D' J f v',uG K role sp md ch cl who D T gs v sl i md' ch cl' D' J f v':=by have u:=I.gV i g hs y;rw[w]at u;obtain⟨s,z,d,B⟩:=u;cases A:(D i).fuel with|zero=>rw[A]at d;rw[d.1]at b;grind|succ k=>
  rw[A]at d;rcases d with⟨t,_⟩|⟨_,g',es,o,M,m⟩;.grind
  have O:(i==0)=ai:=by grind
  have a:=λe c=>touch_mute<|o e c;refine I.step1 p hs y (g':=g') (v':=v) (es:=es) (x':=⟨1,k,[],jZ (D i).deaf es⟩) (md':=md) (cl':=cl) (by grind) (aQ _) (λ_ _ _=>rfl) rfl rfl rfl (λ_ _=>rfl) (by simp) (λe c=>⟨λx N=>by grind,low_mute (o e c) _⟩) (λe c q=>?_) rfl (λ_ _=>a) (by rw[w];exact⟨s,rfl,m,rfl⟩) (by simp) (by simp) ?_ λr L=>by grind (aB ⟨z.symm,by grind⟩) λh=>by omega (λh=>ay h)<|ay rfl;.have:=o e c;obtain⟨l,wr,P⟩:=e;subst q;simp[Event.mute]at this
  .intro q;obtain⟨E,H,C,j⟩:=I.wg q;exact⟨E,H,C,j.same z.symm⟩
theorem Inv.XS(I:Inv K role sp md ch cl who D T gs v)(p:l8 sp gs)(hs:¬sp i)(F:gs[i]?=U g){g'}{es}{f'}(s:cj K.P (i==0) g v=bV g' v' es)(c:DO (D i).own v v' es)(y:∃r,role i=U r)(z:(D i).deaf=0)(j:oN K.P K.L K.Wg (role i) i ⟨(D i).stage,f',(D i).own,0⟩ g' v')(J:8<=(D i).stage)(q:(D i).stage=9->0<f')(m:f'<(D i).fuel):∃md' cl' D' E l v',uG K role sp md ch cl who D T gs v sl i md' ch cl' D' E l v':=by
 refine I.step1 p hs F (g':=g') (v':=v') (es:=es) (x':=⟨(D i).stage,f',(D i).own,0⟩) (md':=md) (cl':=cl) s (xZ c.size.symm) (λb f C=>c.block b λd=>C<|ay (I.own i b d).1) c.os c.tape c.out (λ_ _=>rfl) (λb f=>⟨(I.own i b f).1,by rw[c.size];exact(I.own i b f).2⟩) (λe k=>?_) (λe k=>?_) ?_ λh=>by grind j (λh=>⟨h,q h⟩) (λh=>h) ?_ λM _ _ H=>by grind (aB ⟨rfl,m⟩) (λh=>h) (λh=>ay h)<|ay rfl
 ·obtain⟨a,wr,rfl,d⟩:=c.ev e k;refine⟨λx t b f=>?_,?_⟩;·simp only[Ep,s9,dX]at t;subst t;simp only[pF,dX]at f;subst f;rw[(I.own i _ d).1]
  ·rw[c.size];exact(I.own i _ d).2
 ·obtain⟨a,wr,rfl,d⟩:=c.ev e k;simp
 ·rw[z];exact deafBehind_still λe k=>by obtain⟨a,wr,rfl,d⟩:=c.ev e k;grind 0
 ·intro u;obtain⟨A,B,w,o⟩:=I.wg u;refine⟨A,B,?_,o.same rfl⟩;unfold WgAt at w⊢;rw[c.block K.Wg λd=>by have:=(I.own i _ d).1;rw[I.kI u]at this;grind];grind
end
variable{z:Nat->Option fN}{Bx:yy}
theorem RelBy.quiet{a}{t u}{k r}(h:RelBy a t k r)(f:∀c∈u,c.act.touch?=V):RelBy a (t++u) k r:=h.app λi j g d=>by obtain⟨x,e,_⟩:=d;grind[touch_of,getElem?_append_cases]
theorem Inv.mute(I:Inv K role sp md ch cl who D T gs v){u}(c:yA u)(s:∀b∈u,b.act.low v.heap.size)(f:∀b∈u,b.act≠.mark (.release<|stA K.Wg)):Inv K role sp md ch cl who D (T++u) gs v:=⟨I.gV,λi q=>(c.deaf i).trans<|I.deaf i q,λj m=>(c.deaf j).trans<|I.above j m,I.tr.mute c.1 s,I.own,I.chan,I.oz,I.out,I.uniq,I.wg,I.kI,λi r t w k=>let⟨p,x⟩:=I.rel i r t w k;⟨p,RelBy.quiet x c.1⟩,I.norel.app f,λg b h o l=>by
   rcases B6 h with⟨_,d⟩|⟨_,e⟩;.exact I.rD g b d o l
   .exact absurd (c.1 b e) l,I.zero,I.idle⟩
theorem Inv.pass(I:Inv K role sp md ch cl who D T gs v)(h:Tr cl Bx K.fS v.heap.size T):Inv K role sp md ch cl Bx D T gs v:=⟨I.gV,I.deaf,I.above,h,I.own,I.chan,I.oz,I.out,I.uniq,I.wg,I.kI,I.rel,I.norel,I.rD,I.zero,I.idle⟩
theorem Inv.put(I:Inv K role sp md ch cl who D T gs v){i:Nat}(x:i<gs.size){g':aX}{x':dn}(s:∀b∈x'.own,b∈(D i).own)(C:x'.deaf=(D i).deaf)(q:x'.stage=(D i).stage∨5<=x'.stage∧5<=(D i).stage)(O:x'.stage<=6->(D i).stage<=6)(H:¬sp i->oN K.P K.L K.Wg (role i) i x' g' v)(N:x'.stage=9->(D i).stage=9)(S:∀r g,role i=U r->x'.stage=9->¬sp i->ch r.aO.c=U g->x'.fuel=0->g.buf=V∧g.shut=ai)(X:∀r,role i=U r->x'.stage=8->¬sp i->∃k,ch r.out=U ⟨V,ai,k⟩)(J:¬sp i->x'.stage=9->∀r,role i=U r->∃g,ch r.aO.c=U g):Inv K role sp md ch cl who (bE D i x') T (gs.setIfInBounds i g') v:=by
 have w:(gs.setIfInBounds i g')[i]?=U g':=kg x;refine⟨λj y o E=>?_,λj h=>?_,λj h=>I.above j<|by grind,I.tr,λj b u=>?_,I.chan,λj r f p o=>?_,λj r f t o=>?_,λj k r W f A h L Q=>?_,?_,I.kI,λj r f F d=>?_,I.norel,I.rD,by grind,I.idle⟩
 ·by_cases e:j=i;·grind[Option.some.inj,upd_same]
  ·rw[nB λz=>e z.symm]at E;rw[cX D _ e];exact I.gV j y o E
 ·by_cases e:j=i;·subst e;rw[da,C];exact I.deaf j x
  ·rw[cX D _ e];exact I.deaf j<|by grind
 ·by_cases e:j=i;·subst e;rw[da]at u;exact I.own j b<|s b u
  ·rw[cX D _ e]at u;exact I.own j b u
 ·by_cases e:j=i;·grind[upd_same]
  ·rw[cX D _ e]at p⊢;exact I.oz j r f p o
 ·by_cases e:j=i;·grind[upd_same]
  ·rw[cX D _ e]at t;exact I.out j r f t o
 ·have m:∀j,(bE D i x' j).stage=9->(D j).stage=9:=λj h=>by
   by_cases e:j=i;·subst e;rw[da]at h;exact N h
   grind[upd_ne]
  exact I.uniq j k r W f A (m j h) (m k L) Q
 ·intro P;obtain⟨g,R,M,l⟩:=I.wg P;rw[vj];refine⟨g,R,M,?_⟩;rcases q with q|⟨q,B⟩;·exact l.same q
  ·exact l.counted x B q
 ·by_cases e:j=i;·subst e;rw[da]at d;exact I.rel j r f F<|O d
  ·rw[cX D _ e]at d;exact I.rel j r f F d
theorem Inv.MM(I:Inv K role sp md ch cl who D T gs v){c:Nat}{g st':fN}(F:ch c=U g)(C:v'={v with heap:=v.heap.setIfInBounds c st'.obj})(s:∀j r,role j=U r->(D j).stage=9->¬sp j->r.aO.c=c->(D j).fuel=0->st'.buf=V∧st'.shut=ai)(z:∀j r,role j=U r->(D j).stage=8->¬sp j->r.out=c->∃k,st'=⟨V,ai,k⟩):Inv K role sp md (bE ch c<|U st') cl who D T gs v'∧Left cl sp v v':=by
 subst C;obtain⟨Q,f,S⟩:=I.chan c g F;have p:∀b,b≠c->(v.heap.setIfInBounds c st'.obj)[b]?=v.heap[b]?:=λb i=>nB λe=>i e.symm;have q:∀j,L (D j).own v {v with heap:=v.heap.setIfInBounds c st'.obj}:=λj=>⟨λb i=>p b λe=>by have:=(I.own j b i).1;grind,by simp⟩;have l:K.live=Z->∀g t,WgAt K.L.tWg K.Wg v g t->WgAt K.L.tWg K.Wg {v with heap:=v.heap.setIfInBounds c st'.obj} g t:=λu g t h=>by unfold WgAt at h⊢;grind
 refine⟨⟨λj y o E=>(I.gV j y o E).rely (q j) λ⟨r,m⟩⟨a,b,h⟩=>⟨a,b,l (I.idle j r m) a b h⟩,I.deaf,I.above,by simpa using I.tr,λj b i=>by simpa using I.own j b i,λd x w=>?_,λj r m A o=>?_,λj r m B o=>?_,I.uniq,λu=>let⟨a,b,h,J⟩:=I.wg u;⟨a,b,l u a b h,J⟩,I.kI,I.rel,I.norel,I.rD,I.zero,I.idle⟩,⟨by simp,λb i N=>p b λe=>?_,rfl,rfl,rfl⟩⟩
 ·by_cases e:d=c;·grind[upd_same,Option.some.inj]
  ·rw[cX ch _ e]at w;obtain⟨W,O,P⟩:=I.chan d x w;grind
 ·obtain⟨x,M,H⟩:=I.oz j r m A o;grind[upd_same,upd_ne]
 ·obtain⟨k,R⟩:=I.out j r m B o;grind[upd_same,upd_ne]
 grind
section
variable {i:Nat} {g:aX} {sl:Option (Nat×Nat)}
theorem Inv.Sq(I:Inv K role sp md ch cl who D T gs v)(b:l8 sp gs)(c):partners (gs.setIfInBounds i ph) c Z=[]:=partners_nil λx y e=>by
  rcases YS gs i x y e with⟨_,rfl⟩|⟨_,a⟩;.grind[offersAt_ph]
  .by_cases d:sp x
   .rcases b x y d a with h|⟨f,j⟩;.grind[offersAt_of_not_blocked]
    .unfold offersAt;grind
   .exact(I.gV x y d a).noSend c
theorem Ej(i)(fn)(a):iQ i fn a #[]=#[]:=rfl
theorem Inv.auI(I:Inv K role sp md ch cl who D T gs v)(q:l8 sp gs)(hs:¬sp i)(B:gs[i]?=U g)(E:g.status=dN){r:fG}(s:role i=U r)(p:(D i).stage=9):(∃md' cl' D' T' S v',uG K role sp md ch cl who D T gs v sl i md' ch cl' D' T' S v')∨∃A t,AtR K.P (i==0) r.aO (D i).own g A v∧ch r.aO.c=U t∧¬(t.buf=V∧t.shut=ai):=by
 have ho:=I.gV i g hs B;have C:i<gs.size:=(dm.1 B).1;rw[s]at ho;rcases ho with⟨_,O,M⟩|⟨h8,_⟩|⟨h7,_⟩|⟨h7,_⟩
 ·rcases M with⟨k,hn,W⟩|⟨k,m,hn,hm,W⟩|⟨_,g0,A,rfl,_⟩
  ·rcases yY W with d|⟨N,rfl,a⟩
   ·obtain⟨A,J⟩:=d v<|L.refl _ _;obtain⟨t,Q0,_⟩:=I.oz i r s p hs;by_cases f:t.buf=V∧t.shut=ai
    ·refine ay ⟨md,cl,bE D i ⟨9,0,(D i).own,0⟩,T,gs.setIfInBounds i<|parked A #[rcase r.aO.c r.aO.z]<|.recv r.aO.ok,v,?_⟩;have c:=(I.chan _ _ Q0).1;rw[agO f.1 f.2]at c;have hI:=I.put (i:=i) C (g':=parked A #[rcase r.aO.c r.aO.z]<|.recv r.aO.ok) (x':=⟨9,0,(D i).own,0⟩) (λb u=>u) O.symm (ay p.symm) λh=>by grind (λ_=>by rw[s];exact ay ⟨rfl,rfl,aB<|aB ⟨rfl,g,A,rfl,J⟩⟩) (λ_=>p) λr' st' z _ _ aIW _=>by grind λ_ _ h=>by grind (λ_ _ r' z=>by grind);refine⟨⟨#[],?_,by simp⟩,hI,by simp,anK C p.symm<|by grind,Left.refl _ _ _,λ_ _=>rfl,λh hh=>cX D _ λe=>hs<|by grind,λh y hh hy=>⟨y,by grind,th.refl y⟩,λh=>ay h,ay rfl,λj=>by
      by_cases e:j=i;·grind[upd_same,Nat.le_of_eq]
      ·rw[cX D _ e];grind,λj _ _ _ _ _ w=>by
      by_cases e:j=i;·subst e;rw[da]
      grind[upd_ne],λj w=>by
      by_cases e:j=i;·subst e;exact p
      ·rw[cX D _ e]at w;exact w,λj w=>ay<|by
      by_cases e:j=i;·subst e;rw[da]at w;simp at w
      ·rw[cX D _ e]at w;exact w⟩;have:=crowd_waits (sl:=sl) B (J.2.2.2.2.2 v) (λcc Q1=>by simp only[fQ,di,dJ,dQ]at Q1;subst Q1;exact ways_recv_none c<|I.Sq q _);grind[Ej]
    grind
   ·obtain⟨g',w',es,o,x,l⟩:=a v<|L.refl _ _;exact ay<|I.XS q hs B o x ⟨r,s⟩ O (f':=N+1) (by rw[s];exact ay ⟨p,rfl,ay ⟨N,rfl,l⟩⟩) (by omega) λ_=>by omega (by omega)
  ·rcases yY W with d|⟨N,rfl,a⟩
   ·obtain⟨_,X,F⟩:=d v<|L.refl _ _;obtain⟨g',Q,o,l⟩:=F v<|L.refl _ _;have H:(i==0)=ai:=hm;refine ay<|I.step1 q hs B (g':=g') (v':={v with heap:=v.heap.push X}) (es:=#[]) (x':=⟨9,m+1,v.heap.size::(D i).own,0⟩) (md':=md) (cl':=λb=>if b=v.heap.size then .own i else cl b) (by rw[H];exact o) (by simp) λb u _=>by simp only[YR];rw[if_neg<|by omega] rfl rfl rfl λb u=>by rw[if_neg<|by omega] (λb u=>?_) (by simp) (by simp) (by rw[O];rfl) (by simp) ?_ (λ_=>⟨p,by simp⟩) (by simp) ?_ (λ_ _ _ h=>by simp at h) (aB ⟨p.symm,by simp only;omega⟩) (λ_=>rfl) (λh=>ay h)<|ay rfl
    ·simp only[di]at u;rcases u with rfl|u;·exact⟨by rw[cJ rfl],by simp⟩
     ·obtain⟨a1,a2⟩:=I.own i b u;exact⟨by rw[if_neg<|by omega];exact a1,by simp;omega⟩
    ·rw[s];refine ay ⟨rfl,rfl,ay ⟨m,rfl,?_⟩⟩;rw[H];exact l
    ·intro hl;obtain⟨t,sm,R,P⟩:=I.wg hl;refine⟨t,sm,?_,P.same p.symm⟩;have:=pC R;unfold WgAt at R⊢;simp only[YR];rw[if_neg<|by omega];exact R
   ·obtain⟨g',w',es,o,x,l⟩:=a v<|L.refl _ _;exact ay<|I.XS q hs B o x ⟨r,s⟩ O (f':=N+m+3) (by rw[s];exact ay ⟨p,rfl,aB<|ay ⟨N,m,rfl,hm,l⟩⟩) (by omega) λ_=>by omega (by omega)
  ·cases E
 ·omega
 ·omega
 grind
theorem Inv.aul(I:Inv K role sp md ch cl who D T gs v)(F:l8 sp gs)(hs:¬sp i)(H:gs[i]?=U g){r:fG}(R:role i=U r)(h9:(D i).stage=9)(A:0<i){h:aX}{f:fN}(B:AtR K.P (i==0) r.aO (D i).own g h v)(J:ch r.aO.c=U f)(t:f.buf=V)(p:f.shut=Z)(N:∃k,ch r.out=U ⟨V,ai,k⟩)(o:r.C∈(D i).own/\∃m,cM K.P ai (L (D i).own) (DO (D i).own) (Ag K.P K.L K.Wg r (D i).own) m (kU h<|recvd r.aO.ok r.aO.z ai) v):∃md' cl' D' T' u v',uG K role sp md ch cl who D T gs v sl i md' ch cl' D' T' u v':=by
 have l:i<gs.size:=(dm.1 H).1;have Q:=I.gV i g hs H;have M:(D i).deaf=0:=by rw[R]at Q;rcases Q with⟨_,M,_⟩|⟨h8,_⟩|⟨h7,_⟩|⟨h7,_⟩<;>omega
 obtain⟨P,m,c⟩:=o;obtain⟨w,iv,Q0⟩:=I.chan _ _ J;have q:f.obj=.chan 1 #[] Z f.k f.k ai:=by obtain⟨b,s,k⟩:=f;simp only at t p;subst t p;rfl
 have E:=pC w;rw[q]at w;have a:=crowd_recv_closed (sl:=sl) H (B.2.2.2.2.2 v) w<|I.Sq F _;rw[SJ,Ej,Kx]at a;have h1:=I.mute (u:=vN i h.frame.fn h.frame.place r.aO.c) (abv _ _ _ _) (λW d=>by simp only[vN,fQ,di,dJ,dQ]at d;subst d;exact E) (λW d=>by simp only[vN,fQ,di,dJ,dQ]at d;grind);have X:=h1.put (i:=i) l (g':=kU h<|recvd r.aO.ok r.aO.z ai) (x':=⟨8,m,(D i).own,0⟩) (λb t=>t) M.symm (aB ⟨by simp,by omega⟩) λh=>by grind (λ_=>by rw[R];exact aB<|ay ⟨rfl,rfl,A,P,c⟩) λh=>by grind λ_ _ _ h=>by grind λr' x _ _=>by grind (λ_ h=>by grind);exact⟨md,cl,_,_,_,v,⟨_,a,rfl⟩,X,by simp,acN l<|by grind,Left.refl _ _ _,λ_ _=>rfl,λh hh=>cX D _ λe=>hs<|by grind,λh y hh hy=>⟨y,by grind,th.refl y⟩,λh=>ay h,ay rfl,λj=>by
  by_cases e:j=i;.grind[upd_same]
  .rw[cX D _ e];grind,λj r' C x O G9 S=>by grind[upd_ne],λj S=>by grind[upd_ne],λj S=>by grind[upd_ne]⟩
end
variable{sp':Nat->Prop}{i:Nat}{g:aX}{sl:Option<|Nat×Nat}
theorem Vi(D)(x)(f:i<n):V2 n (bE D i x)+gu i (D i)=V2 n D+gu i x:=by
 have c:V2 n (bE D i x)=sumTo n λj=>if j=i then gu i x else gu j<|D j:=Av λj _=>by
  by_cases e:j=i;.subst e;rw[da,cJ rfl]
  .rw[cX D _ e,if_neg e]
 have l:∀m,m<=i->sumTo m (λj=>if j=i then gu i x else gu j<|D j)=sumTo m λj=>gu j<|D j:=λm o=>Av λj h=>by grind
 have a:∀m,i<m->sumTo m (λj=>if j=i then gu i x else gu j<|D j)+gu i (D i)=sumTo m (λj=>gu j<|D j)+gu i x:=by intro m;induction m with|zero=>grind|succ m k=>
   rcases B3 i m with b|d;.simp only[sumTo];grind
   .simp only[sumTo];grind
 rw[c];exact a n f
theorem Inv.more(I:Inv K role sp md ch cl who D T gs v)(h:∀j,sp j->sp' j):Inv K role sp' md ch cl who D T gs v:=⟨λj y a e=>I.gV j y (λx=>a<|h j x) e,I.deaf,I.above,I.tr,I.own,I.chan,λj r b c a=>I.oz j r b c λx=>a<|h j x,λj r b d a=>I.out j r b d λx=>a<|h j x,I.uniq,I.wg,I.kI,I.rel,I.norel,I.rD,I.zero,I.idle⟩
theorem Inv.fewer(I:Inv K role sp' md ch cl who D T gs v)(h:∀j,sp' j->¬sp j->(∀y,gs[j]?=U y->oN K.P K.L K.Wg (role j) j (D j) y v)/\(∀r,role j=U r->(D j).stage=9->∃d,ch r.aO.c=U d/\((D j).fuel=0->d.buf=V/\d.shut=ai))/\∀r,role j=U r->(D j).stage=8->∃k,ch r.out=U ⟨V,ai,k⟩):Inv K role sp md ch cl who D T gs v:=⟨λj y e m=>by
  by_cases a:sp' j;.grind
  .exact I.gV j y a m,I.deaf,I.above,I.tr,I.own,I.chan,λj r b f e=>by
  by_cases a:sp' j;.grind
  .exact I.oz j r b f a,λj r b l e=>by
  by_cases a:sp' j;.grind
  .exact I.out j r b l a,I.uniq,I.wg,I.kI,I.rel,I.norel,I.rD,I.zero,I.idle⟩
theorem amJ{c B}(f:c<B)(hs:cl c=.sh):∀e∈kS c,(∀x,(iz e).touch?=U x->Ab cl who i x)/\(iz e).low B:=by
 intro e d;simp only[kS,fQ,di,dJ,dQ]at d;rcases d with rfl|rfl;.refine⟨λx a b h=>?_,f⟩;simp only[iz,s9]at a;simp only[pF]at h;grind
 .exact⟨λx a=>by simp[iz,s9]at a,f⟩
theorem amI{c}{a}:∀e∈kS c,e.loc≠iA (.release a):=by intro e b;simp only[kS,dJ]at b;grind
theorem amK{c}(d):jZ d (kS c)=d:=deafBehind_still λe a=>by simp only[kS,dJ]at a;grind d
theorem Inv.U0(I:Inv K role sp md ch cl who D T gs v)(F:l8 sp gs)(hs:¬sp i)(H:gs[i]?=U g){r:fG}(q:role i=U r)(E:(D i).stage=8)(Q:∀j d,role j=U d->¬sp j->d.aO.c≠r.out)(J:∀j d,role j=U d->j≠i->d.out≠r.out):∃md' z cl' D' X f v',uG K role sp md ch cl who D T gs v sl i md' z cl' D' X f v'/\(z=ch\/∃k,z=bE ch r.out (U ⟨V,Z,k⟩)/\role i=U r/\(D i).stage=8/\(D' i).stage<=7):=by
 have ho:=I.gV i g hs H;have Q2:i<gs.size:=(dm.1 H).1;rw[q]at ho;rcases ho with⟨h9,_⟩|⟨_,h0,B,hC,hg⟩|⟨h7,_⟩|⟨h7,_⟩;.omega
 .rcases yY hg with o|⟨k',hk',l⟩
  .obtain⟨_,TI,g',N,S⟩:=o v<|L.refl _ _;obtain⟨k,hk⟩:=I.out i r q E hs;obtain⟨hc,Q1,wZ⟩:=I.chan _ _ hk;obtain⟨C,m,hW⟩:=S v k (L.refl _ _) hc<|I.live<|I.idle i r q;have u:(i==0)=ai:=by grind
   obtain⟨Q0,A⟩:=(I.more (sp':=λj=>sp j\/j=i) λj h=>ay h).MM (c:=r.out) (st':=⟨V,Z,k⟩) hk (v':=v.setChan r.out 1 #[] Z k k ai) rfl (λj d p _ t e _=>absurd e<|Q j d p λh=>t<|ay h) λj d p h8' t e=>absurd e<|J j d p λh=>t<|aB h;obtain⟨I2,P⟩:=Q0.go_step (v':=v.setChan r.out 1 #[] Z k k ai) (g':=g') (es:=kS r.out) (x':=⟨7,m,(D i).own,0⟩) (md':=md) (cl':=cl) H (aQ _) (λ_ _ _=>rfl) (λ_ _=>rfl) (λb u=>Q0.own i b u) (amJ (by have:=pC hc;simpa[Fu]using this) Q1) amI (by grind[amK]) λh=>by grind (λh=>absurd (aB rfl) h) (by simp) (by simp) (by intro hl;obtain⟨st,sm,hw,O⟩:=Q0.wg hl;exact⟨st,sm,hw,O.counted Q2 (by omega)<|by simp⟩) (λ_ _ _ h=>by grind);have s:((gs.map<|woken K.P g g'<|v.setChan r.out 1 #[] Z k k ai).setIfInBounds i g')[i]?=U g':=kg (by grind);have I3:=I2.fewer (sp:=sp) λj a W=>by have e:j=i:=a.resolve_left W;subst e;rw[da];refine⟨λy M=>?_,λ_ _ h=>by grind,λ_ _ h=>by grind⟩;rw[s]at M;obtain rfl:=tQ M;rw[q];exact aB<|aB<|ay ⟨rfl,rfl,B,hC,hW⟩
   refine⟨md,_,cl,_,_,_,_,⟨⟨_,YT (sl:=sl) H<|by grind,rfl⟩,I3,by simp,acN Q2<|by grind,⟨A.size,λb u hx=>A.block b u<|hx.imp id λx=>x.imp id λ⟨h,w,e⟩=>⟨h,ay w,e⟩,A.os,A.tape,A.out⟩,λ_ _=>rfl,λh w=>cX D _ λe=>hs<|by rw[<-e];exact w,λh y w M=>?_,λh=>ay h,ay rfl,λj=>by
    by_cases e:j=i;.subst e;rw[da,E];simp
    .rw[cX D _ e];exact aQ _,λj _ _ _ _ _ a=>by
    by_cases e:j=i;.subst e;omega
    .rw[cX D _ e];exact a,λj a=>by
    by_cases e:j=i;.subst e;rw[da]at a;simp at a
    .rw[cX D _ e]at a;exact a,λj a=>ay<|by
    by_cases e:j=i;.subst e;exact E
    .rw[cX D _ e]at a;exact a⟩,aB ⟨k,rfl,q,E,by rw[da];simp⟩⟩;have jH:i≠h:=λe=>hs (by rw[e];exact w);refine⟨woken K.P g g' (v.setChan r.out 1 #[] Z k k ai) y,?_,l8.again (F h y w M) _ _ _ _⟩;grind
  .obtain⟨g',w',es,C,Q3,R⟩:=l v<|L.refl _ _;have u:(i==0)=ai:=by simp;omega
   obtain⟨md',cl',D',X,f,v',h⟩:=I.XS (sl:=sl) F hs H (by rw[u];exact C) Q3 ⟨r,q⟩ h0 (f':=k') (by rw[q];exact aB<|ay ⟨E,rfl,B,hC,R⟩) (by omega) λh=>by omega (by omega);exact⟨md',ch,cl',D',X,f,v',h,ay rfl⟩
 .omega
 grind
theorem Inv.Df(I:Inv K role sp md ch cl who D T gs v)(Q:l8 sp gs)(hs:¬sp i)(W:gs[i]?=U g){r:fG}(J:role i=U r)(u:0<i)(h6:(D i).stage<=6){g':aX}{es:Array jq}{st' d:Int}{x':dn}(hgo:cj K.P ai g v=bV g' v' es)(c:Aside K.Wg v v')(y:WgAt K.L.tWg K.Wg v' st' d)(f:∀e∈es,Bk K.Wg e)(L:∀P e,es[P]?=U e->(iz e).touch?=V\/0<jZ (D i).deaf (es.extract 0 P))(E:x'.own=(D i).own)(hC:r.C∈(D i).own)(R:WS K.P K.L K.Wg r x'.stage x'.fuel x'.deaf g' v')(M:jZ (D i).deaf es=x'.deaf)(k:nT gs.size (bE D i x') md' st' d)(B:x'.stage<(D i).stage\/x'.stage=(D i).stage/\x'.fuel<(D i).fuel)(j:md'=.sema->md=.sema\/∀h X,sp h->((gs.map<|woken K.P g g' v').setIfInBounds i g')[h]?=U X->X.status=dN)(H:md'=md\/md=.reg/\md'=.last\/md=.last/\md'=.sema):∃md' cl' D' T' A v',uG K role sp md ch cl who D T gs v sl i md' ch cl' D' T' A v':=by
 have z:i<gs.size:=(dm.1 W).1;have O:(i==0)=ai:=by grind
 have S:x'.stage<=6:=by grind
 have o:=I.idle i r J;obtain⟨st0,sm0,F,TM⟩:=I.wg o;have Q0:=pC F;refine I.step1 Q hs W (g':=g') (v':=v') (es:=es) (x':=x') (md':=md') (cl':=cl) (by grind) (xZ c.size.symm) (λb _ hn=>c.block b λe=>hn<|aB ⟨o,e⟩) c.os c.tape c.output (λ_ _=>rfl) (λb O=>by rw[E]at O;rw[c.size];exact I.own i b O) (λe C=>?_) (λe C hl=>?_) M λh=>by grind (by rw[J];exact aB<|aB<|aB ⟨S,u,by grind,R⟩) λh=>by omega λh=>by omega (λ_=>⟨st',d,y,k⟩) (λr' hr' _ _=>?_) B λh=>by omega j H
 .rcases f e C with m|m|⟨a,wr,rfl,N⟩;.obtain⟨l,w,s⟩:=e;simp only at m;subst m;exact⟨λx q=>by simp[iz,s9]at q,trivial⟩
  .obtain⟨l,w,s⟩:=e;simp only at m;subst m;exact⟨λx q=>by simp[iz,s9]at q,trivial⟩
  .refine⟨λx q b t=>?_,?_⟩;.simp only[Ep,s9,dX]at q;subst q;simp only[pF,dX]at t;subst t;rw[N,I.kI o];grind
   .show a.block<_;rw[N,c.size];grind
 .rcases f e C with m|m|⟨a,wr,rfl,N⟩;.grind
  .grind
  grind
 .obtain⟨p,hp⟩:=I.rel i r J u h6;exact⟨p,Go.ConcN.RelBy.book hp (I.deaf i z) _ _ f L⟩
theorem nT.isLast{f e}(c:nT n D md f e)(b:0<i)(d:i<n)(h:(D i).stage=4\/(D i).stage=3\/(D i).stage=2):md=.last/\(∀a,0<a->a<n->a≠i->(D a).stage=1)/\f=(if(D i).stage=2 then 0 else 1)/\e=0:=by cases md with|opn p=>have:=c.1 i b d;omega|reg=>have:=c.1 i b d;omega|last=>obtain⟨l,q,m,k,r,o,j⟩:=c;grind|sema=>have:=c.1 i b d;omega
theorem Inv.aEl(I:Inv K role sp md ch cl who D T gs v)(A:l8 sp gs)(hs:¬sp i)(Q1:gs[i]?=U g)(N:g.status=dN){r:fG}(Q:role i=U r)(h7:(D i).stage<=7)(L:∀p,md=.opn p->V2 gs.size D+p<=2147483646)(aJU:V2 gs.size D<=2147483646):∃md' cl' D' T' R v',uG K role sp md ch cl who D T gs v sl i md' ch cl' D' T' R v':=by
 have ho:=I.gV i g hs Q1;have t:i<gs.size:=(dm.1 Q1).1;rw[Q]at ho;have hdk:Deaf T i=(D i).deaf:=I.deaf i t;have TN:=I.idle i r Q;obtain⟨st,sm,j,z⟩:=I.wg TN;have aCj:=pC j;rcases ho with⟨h9,_⟩|⟨h8,_⟩|⟨E,h0,o,S,hW⟩|⟨h6,o,S,hW⟩;.omega
 .omega
 .have hb:(i==0)=ai:=by grind
  rcases yY hW with f|⟨P,hm',c⟩
  .obtain⟨_,aJC,g',d,w,hk⟩:=f v<|oS v;refine I.step1 A hs Q1 (g':=g') (v':=v) (es:=#[jK<|Mark.releaseMerge<|stA K.Wg]) (x':=⟨6,w,(D i).own,0⟩) (md':=md) (cl':=cl) (by grind) (aQ _) (λ_ _ _=>rfl) rfl rfl rfl (λ_ _=>rfl) (λb hb=>I.own i b hb) (λe k=>?_) (λe k=>?_) (by rw[h0];rfl) λh=>by grind (by rw[Q];exact aB<|aB<|aB ⟨by simp,o,S,.k1 hk⟩) (by simp) (by simp) (λ_=>⟨st,sm,j,z.counted t (by omega)<|by simp⟩) (λ_ _ _ _=>⟨_,Go.ConcN.RelBy.new (by grind) _ _⟩) (ay<|by grind) λh=>by omega (λh=>ay h)<|ay rfl;.simp only[fQ,di,dJ,dQ]at k;subst k;exact⟨λx F=>(by cases F),aCj⟩
   .simp only[fQ,di,dJ,dQ]at k;subst k;simp[jK]
  .obtain⟨g',w',X,d,⟨rfl,rfl⟩,B⟩:=c v<|oS v;refine I.step1 A hs Q1 (g':=g') (v':=w') (es:=#[]) (x':=⟨7,P,(D i).own,0⟩) (md':=md) (cl':=cl) (by grind) (aQ _) (λ_ _ _=>rfl) rfl rfl rfl (λ_ _=>rfl) (λb hb=>I.own i b hb) (by simp) (by simp) (by rw[h0];rfl) (by simp) (by rw[Q];exact aB<|aB<|ay ⟨rfl,rfl,o,S,B⟩) (by simp) (by simp) (λ_=>⟨st,sm,j,z.same E.symm⟩) λ_ _ _ h=>by grind (aB ⟨E.symm,by grind⟩) λh=>by omega (λh=>ay h)<|ay rfl
 generalize E:(D i).stage=s at hW;generalize hfu:(D i).fuel=m at hW;generalize u:(D i).deaf=dd at hW;have h6s:s<=6:=by omega
 have M:∀{g':aX}{P:Nat},cj K.P ai g v=bV g' v #[]->WS K.P K.L K.Wg r s P dd g' v->P+1=m->∃md' cl' D' T' R v',uG K role sp md ch cl who D T gs v sl i md' ch cl' D' T' R v':=by intro g' P d G9 hm;exact I.Df A hs Q1 Q o (by omega) (x':=⟨s,P,(D i).own,dd⟩) d (.refl _ _) j (by simp) (by simp) rfl S G9 (by rw[u];rfl) (z.same E.symm) (aB ⟨E.symm,by grind⟩) (λh=>ay h)<|ay rfl
 have bk2:∀e∈#[rd<|stA K.Wg,wr<|stA K.Wg],Bk K.Wg e:=by intro e k;simp at k;rcases k with rfl|rfl<;>exact bk_cell _ _ rfl
 have df2:∀H e,(#[rd<|stA K.Wg,wr<|stA K.Wg]:Array jq)[H]?=U e->(iz e).touch?=V\/0<jZ 1 ((#[rd<|stA K.Wg,wr<|stA K.Wg]:Array jq).extract 0 H):=by intro H e k;match H,k with|0,_=>exact aB<|by simp[jZ]|1,_=>exact aB<|by simp[jZ,rd]|H+2,k=>simp at k
 have df1:∀x H e,(#[x]:Array jq)[H]?=U e->(iz e).touch?=V\/0<jZ 1 ((#[x]:Array jq).extract 0 H):=by intro x H e k;match H,k with|0,_=>exact aB<|by simp[jZ]|H+1,k=>simp at k
 cases hW with|r0 h=>omega|k1 h=>
  rcases yY h with f|⟨P,rfl,c⟩;.obtain⟨_,g',d,w,hk⟩:=f v<|oS v;exact I.Df A hs Q1 Q o (by omega) (x':=⟨5,w,(D i).own,1⟩) d (.refl _ _) j (by intro e k;simp at k;subst k;exact ay rfl) (by intro H e k;exact ay<|by have:=tR k;simp at this;subst this;rfl) rfl S (.d1 hk) (by rw[u];rfl) (z.counted t (by omega)<|by simp) (ay<|by simp only;omega) (λh=>ay h)<|ay rfl
  .obtain⟨g',w',X,d,⟨rfl,rfl⟩,B⟩:=c v<|oS v;exact M d (.k1 B) rfl|d1 h=>
  rcases yY h with f|⟨P,rfl,c⟩
  .obtain⟨_,AW⟩:=f v<|oS v;have um:gu i (D i)=1:=by unfold gu;rw[cJ ⟨o,by omega⟩]
   have KZ:1<=V2 gs.size D:=by have:=le_sumTo (f:=λx=>gu x<|D x) t;unfold V2;omega
   have TB:∀q,gu i (⟨1,q,(D i).own,1⟩:dn)=0:=λq=>by unfold gu;rw[if_neg<|by simp]
   have opq:∀q,OpenSt gs.size D->OpenSt gs.size (bE D i ⟨1,q,(D i).own,1⟩):=λq h a C Q0=>by
    by_cases e:a=i;.subst e;rw[da];exact aB rfl
    .rw[cX D _ e];exact h a C Q0
   cases md with|opn p=>
    obtain⟨h1,rfl,rfl⟩:=z;have mz:=L p rfl;obtain⟨x,F⟩:∃x,V2 gs.size D+p=x+1:=⟨V2 gs.size D+p-1,by omega⟩;rw[F]at j;have ez:WgAt K.L.tWg K.Wg v (((x:Nat)+1)*KK+((0:Nat):Int)) 0:=by simpa using j
    obtain⟨g',d,_,O⟩:=AW x 0 (by omega) (by omega) ez;obtain⟨q,O⟩:=O (by omega);have zk:V2 gs.size (bE D i ⟨1,q,(D i).own,1⟩)+p=x:=by have:=Vi D (⟨1,q,(D i).own,1⟩:dn) t;have:=TB q;omega
    refine I.Df A hs Q1 Q o (by omega) (x':=⟨1,q,(D i).own,1⟩) (md':=.opn p) d (aside_setCell v (stA K.Wg) _) (j.setSt _) bk2 (by rw[u];exact df2) rfl S (.quit O) (by rw[u];rfl) ⟨opq q h1,?_,rfl⟩ (ay<|by simp only;omega) (λh=>ay h)<|ay rfl;rw[zk];simp|reg=>
    obtain⟨h1,h3,rfl,rfl⟩:=z;obtain⟨x,F⟩:∃x,V2 gs.size D=x+1:=⟨V2 gs.size D-1,by omega⟩;rw[F]at j;have ez:WgAt K.L.tWg K.Wg v (((x:Nat)+1)*KK+((1:Nat):Int)) 0:=by simpa using j
    obtain⟨g',d,hl,O⟩:=AW x 1 (by omega) (by omega) ez;by_cases EE:x=0
    .subst EE;obtain⟨w,hk⟩:=hl ⟨rfl,rfl⟩;refine I.Df A hs Q1 Q o (by omega) (x':=⟨4,w,(D i).own,1⟩) (md':=.last) d (aside_setCell v (stA K.Wg) _) (j.setSt _) bk2 (by rw[u];exact df2) rfl S (.d2 hk) (by rw[u];rfl) ⟨i,o,t,by rw[da];simp,λa C Q0 e=>?_,?_,rfl⟩ (ay<|by simp only;omega) (λh=>by cases h)<|aB<|ay ⟨rfl,rfl⟩
     .rw[cX D _ e];have h0:=Vi D (⟨0,0,[],0⟩:dn) t;have c0:gu i (⟨0,0,[],0⟩:dn)=0:=by unfold gu;rw[if_neg<|by simp]
      have:=le_sumTo (f:=λx=>gu x<|bE D i ⟨0,0,[],0⟩ x) Q0;simp only[cX D _ e]at this;have hz:gu a (D a)=0:=by unfold V2 at h0 F;omega
      have:=h1 a C Q0;unfold gu at hz;split at hz;.omega
      .rename_i hn;rcases this with h|h;.exact absurd ⟨C,h⟩ hn
       .exact h
     .rw[da];simp
    .obtain⟨q,O⟩:=O (by omega);have zk:V2 gs.size (bE D i ⟨1,q,(D i).own,1⟩)=x:=by have:=Vi D (⟨1,q,(D i).own,1⟩:dn) t;have:=TB q;omega
     refine I.Df A hs Q1 Q o (by omega) (x':=⟨1,q,(D i).own,1⟩) (md':=.reg) d (aside_setCell v (stA K.Wg) _) (j.setSt _) bk2 (by rw[u];exact df2) rfl S (.quit O) (by rw[u];rfl) ⟨opq q h1,by omega,?_,rfl⟩ (ay<|by simp only;omega) (λh=>ay h)<|ay rfl;rw[zk];simp|last=>
    obtain⟨l,hl0,hl,h2,h3,_⟩:=z;by_cases e:i=l;.subst e;omega
    .have:=h3 i o t e;omega|sema=>have:=z.1 i o t;omega
  .obtain⟨g',w',X,d,⟨rfl,rfl⟩,B⟩:=c v<|oS v;exact M d (.d1 B) rfl|d2 h=>
  rcases yY h with f|⟨P,rfl,c⟩;.obtain⟨_,F⟩:=f v<|oS v;obtain⟨rfl,J,rfl,rfl⟩:=z.isLast o t (by omega);simp only[E]at j;obtain⟨g',d,w,hk⟩:=F (by simpa using j);refine I.Df A hs Q1 Q o (by omega) (x':=⟨3,w,(D i).own,1⟩) (md':=.last) d (.refl _ _) j (by intro e k;simp at k;subst k;exact bk_cell _ _ rfl) (by rw[u];exact df1 _) rfl S (.d3 hk) (by rw[u];rfl) ⟨i,o,t,by rw[da];simp,λa C Q0 e=>by rw[cX D _ e];exact J a C Q0 e,by rw[da];simp,rfl⟩ (ay<|by simp only;omega) (λh=>by cases h)<|ay rfl
  .obtain⟨g',w',X,d,⟨rfl,rfl⟩,B⟩:=c v<|oS v;exact M d (.d2 B) rfl|d3 h=>
  rcases yY h with f|⟨P,rfl,c⟩;.obtain⟨_,F⟩:=f v<|oS v;obtain⟨rfl,J,rfl,rfl⟩:=z.isLast o t (by omega);simp only[E]at j;obtain⟨g',d,w,hk⟩:=F (by simpa using j);refine I.Df A hs Q1 Q o (by omega) (x':=⟨2,w,(D i).own,1⟩) (md':=.last) d (aside_setCell v (stA K.Wg) _) (j.setSt 0) (by intro e k;simp at k;subst k;exact bk_cell _ _ rfl) (by rw[u];exact df1 _) rfl S (.d4 hk) (by rw[u];rfl) ⟨i,o,t,by rw[da];simp,λa C Q0 e=>by rw[cX D _ e];exact J a C Q0 e,by rw[da];simp,rfl⟩ (ay<|by simp only;omega) (λh=>by cases h)<|ay rfl
  .obtain⟨g',w',X,d,⟨rfl,rfl⟩,B⟩:=c v<|oS v;exact M d (.d3 B) rfl|d4 h=>
  rcases yY h with f|⟨P,rfl,c⟩
  .obtain⟨_,TI,F⟩:=f v<|oS v;obtain⟨rfl,J,rfl,rfl⟩:=z.isLast o t (by omega);simp only[E]at j;obtain⟨g',d,q,O⟩:=F (by simpa using j);have aAK:g'.status=dN:=by cases q with|zero=>exact absurd O.2<|by decide|succ q=>exact O.elim λx=>absurd x.2<|by decide λx=>x.1
   refine I.Df A hs Q1 Q o (by omega) (x':=⟨1,q,(D i).own,1⟩) (md':=.sema) d (aside_setCell v (smA K.Wg) _) (j.setSm 1) (es:=CY<|smA K.Wg) ?_ ?_ rfl S (.quit O) (by rw[u];simp[jZ,CY]) ⟨λa C Q0=>?_,by simp,rfl⟩ (ay<|by simp only;omega) (λ_=>aB λh y' hh AK=>?_)<|aB<|aB ⟨rfl,rfl⟩
   .intro e k;simp[CY]at k;rcases k with rfl|rfl|rfl|rfl;.exact ay rfl
    .exact bk_cell _ _ rfl
    .exact bk_cell _ _ rfl
    .exact aB<|ay rfl
   .rw[u];intro H e k;match H,k with|0,k=>simp[CY]at k;subst k;exact ay rfl|1,_=>exact aB<|by simp[jZ,CY]|2,_=>exact aB<|by simp[jZ,CY]|3,k=>simp[CY]at k;subst k;exact ay rfl|H+4,k=>simp[CY]at k
   .by_cases e:a=i;.subst e;rw[da]
    .rw[cX D _ e];exact J a C Q0 e
   .have jH:i≠h:=λe=>hs (by rw[e];exact hh);rw[nB jH,qV]at AK;obtain⟨y,hy,rfl⟩:=ze.1 AK;have ZS:(mayWake K.P g&&g'.status !=.blocked&&g'.status !=.waiting)=Z:=by rw[TI,aAK];rfl
    unfold woken;rw[cJ ZS];rcases A h y hh hy with h1|⟨h1,h2⟩;.rw[yZ _<|ay h1];exact h1
    .unfold Goroutine.again;rw[h1,h2]
  .obtain⟨g',w',X,d,⟨rfl,rfl⟩,B⟩:=c v<|oS v;exact M d (.d4 B) rfl|quit h=>cases m with|zero=>rw[h.1]at N;cases N|succ q=>
   rcases h with⟨hf,_⟩|⟨_,g',X,W,c,O⟩;.rw[hf]at N;cases N
   .have Hx:∀e∈X,Bk K.Wg e:=λe k=>Go.ConcR.bk_of_mute<|W e k;have AL:∀H e,X[H]?=U e->(iz e).touch?=V\/0<jZ (D i).deaf (X.extract 0 H):=λH e k=>ay<|touch_mute<|W e<|tR k;exact I.Df A hs Q1 Q o (by omega) (x':=⟨1,q,(D i).own,jZ dd X⟩) (md':=md) (c v) (.refl _ _) j Hx AL rfl S (.quit O) (by rw[u]) (z.same E.symm) (aB ⟨E.symm,by simp only;omega⟩) (λh=>ay h)<|ay rfl
variable{T':eB}{R:Array aX}
structure oP(K:fK)(role:Nat->Option fG)(sp:Nat->Prop)(ch:Nat->Option fN)(D:Nat->dn):Prop where
 a:∀i r,role i=U r->0<i->¬sp i->((D i).stage=8\/(D i).stage=9/\∃st,ch r.aO.c=U st/\st.shut=Z)->∀j r',role j=U r'->¬sp j->r'.aO.c≠r.out
 b:∀i r st,role i=U r->0<i->¬sp i->(D i).stage=9->ch r.aO.c=U st->st.shut=Z->∃k,ch r.out=U ⟨V,ai,k⟩outs:∀i j r r',role i=U r->role j=U r'->i≠j->0<i->r'.out≠r.out
 end_:∀i r,role i=U r->0<i->∀O g2 w,r.aO.home O g2 w->r.C∈O/\∃m,cM K.P ai (L O) (DO O) (Ag K.P K.L K.Wg r O) m (kU g2<|recvd r.aO.ok r.aO.z ai) w
 qI:∀n,V2 n D<=2
theorem FM(h:∀j,(D' j).stage<=(D j).stage):V2 n D'<=V2 n D:=by unfold V2;induction n with|zero=>exact aQ _|succ n a=>
  simp only[sumTo];have:gu n (D' n)<=gu n (D n):=by unfold gu;grind
  omega
def nq(role:Nat->Option fG)(sp:Nat->Prop)(ch:Nat->Option fN)(D:Nat->dn):Prop:=∀j r,role j=U r->¬sp j->(D j).stage=9/\∀st,ch r.aO.c=U st->st.shut=ai
def Evt(K:fK)(role:Nat->Option fG)(ch:Nat->Option fN)(D:Nat->dn)(i:Nat)(g:aX)(v:ax):Prop:=∃r g2 st,role i=U r/\(D i).stage=9/\AtR K.P (i==0) r.aO (D i).own g g2 v/\ch r.aO.c=U st/\(st.buf≠V\/st.buf=V/\st.shut=Z/\i=0)
theorem Inv.other(I:Inv K role sp md ch cl who D T gs v)(C:oP K role sp ch D)(x:l8 sp gs)(hs:¬sp i)(B:gs[i]?=U g)(w:g.status=dN)(b:∀p,md=.opn p->p<=2):(∃md' z cl' D' T' R v',uG K role sp md ch cl who D T gs v sl i md' z cl' D' T' R v'/\oP K role sp z D'/\(∀j o,role j=U o->¬sp j->z o.aO.c=ch o.aO.c)/\(z=ch\/(D i).stage=8/\∃r k,role i=U r/\z=bE ch r.out (U ⟨V,Z,k⟩)/\(D' i).stage<=7))\/Evt K role ch D i g v:=by
 have c:i<gs.size:=(dm.1 B).1;have F:∀{md' cl' D' T' R v'},uG K role sp md ch cl who D T gs v sl i md' ch cl' D' T' R v'->oP K role sp ch D':=λS=>⟨λj r q Q2 l h=>C.a j r q Q2 l<|by
   rcases h with h|⟨h,s,d,f⟩
   .rcases S.st8 j h with h|⟨h,o,s,m,d,f⟩;.grind
    grind
   .exact aB ⟨S.iF j h,s,d,f⟩,λj r s q Q2 l y=>C.b j r s q Q2 l<|S.iF j y,C.outs,C.end_,λn=>bC (FM S.iE)<|C.qI n⟩;cases q:role i with|none=>obtain⟨md',cl',D',T',R,v',S⟩:=I.ayF (sl:=sl) x hs B w q;grind|some r=>
  have J:=I.gV i g hs B;rw[q]at J;have E:(D i).stage=9\/(D i).stage=8\/(D i).stage<=7:=by rcases J with⟨h,_⟩|⟨h,_⟩|⟨h,_⟩|⟨h,_⟩<;>omega
  rcases E with y|H|M
  .rcases I.auI (sl:=sl) x hs B w q y with⟨md',cl',D',T',R,v',S⟩|⟨Q1,s,A,d,hn⟩;.grind
   .by_cases N:s.buf=V
    .have f:s.shut=Z:=by grind
     by_cases Q2:i=0;.exact aB ⟨r,Q1,s,q,y,A,d,aB ⟨N,f,Q2⟩⟩
     .have u:0<i:=by omega
      obtain⟨md',cl',D',T',R,v',S⟩:=I.aul (sl:=sl) x hs B q y u A d N f (C.b i r s q u hs y d f)<|C.end_ i r q u _ _ _ A.2.2.2.2.1;grind
    .exact aB ⟨r,Q1,s,q,y,A,d,ay N⟩
  .have u:0<i:=by rcases J with⟨h,_⟩|⟨_,_,h,_⟩|⟨h,_⟩|⟨h,_⟩<;>omega
   have Q:=C.a i r q u hs<|ay H;obtain⟨md',z,cl',D',T',R,v',S,P⟩:=I.U0 (sl:=sl) x hs B q H Q λj o m X=>C.outs i j r o q m (λe=>X e.symm) u;rcases P with rfl|⟨k,rfl,_,_,M⟩;.grind
   .have t:∀j o,role j=U o->¬sp j->bE ch r.out (U ⟨V,Z,k⟩) o.aO.c=ch o.aO.c:=λj o m l=>cX ch _<|Q j o m l;refine ay ⟨md',_,cl',D',T',R,v',S,⟨λj o m Q2 l h=>C.a j o m Q2 l ?_,λj o s m Q2 l y d f=>?_,C.outs,C.end_,λn=>bC (FM S.iE)<|C.qI n⟩,t,aB ⟨H,r,k,rfl,rfl,M⟩⟩
    .rcases h with h|⟨h,s,d,f⟩
     .rcases S.st8 j h with h|⟨h,r2,s,Q0,d,f⟩;.grind
      grind
     .rw[t j o m l]at d;exact aB ⟨S.iF j h,s,d,f⟩
    .rw[t j o m l]at d;obtain⟨W,a⟩:=C.b j o s m Q2 l (S.iF j y) d f;have O:i≠j:=λe=>by grind
     exact⟨W,by rw[cX ch _<|C.outs i j r o q m O u];grind⟩
  .have:=C.qI gs.size;obtain⟨md',cl',D',T',R,v',S⟩:=I.aEl (sl:=sl) x hs B w q M λp L=>by have:=b p L;omega (by omega);exact ay ⟨md',ch,cl',D',T',R,v',S,F S,λ_ _ _ _=>rfl,ay rfl⟩
def IW(role:Nat->Option fG)(sp:Nat->Prop)(ch:Nat->Option fN):Prop:=∀j r st,role j=U r->¬sp j->ch r.aO.c=U st->st.buf=V/\(st.shut=Z->0<j)
theorem Inv.awake(I:Inv K role sp md ch cl who D T gs v)(a:l8 sp gs):∀g∈gs,awake g:=λg d=>by
 obtain⟨j,b⟩:=Zt.1 d;by_cases c:sp j;.exact Kc<|(a j g c b).elim ay λh=>aB<|ay h.1
 .exact(I.gV j g c b).awake
structure pJ(K:fK)(role:Nat->Option fG)(sp:Nat->Prop)(md:Md)(ch:Nat->Option fN)(cl:Nat->fe)(who:yy)(D:Nat->dn)(T:eB)(gs:Array aX)(v:ax)(md':Md)(z:Nat->Option fN)(cl':Nat->fe)(D':Nat->dn)(T':eB)(R:Array aX)(v':ax):Prop where
 inv:Inv K role sp md' z cl' who D' T' R v'
 gd:oP K role sp z D'
 size:R.size=gs.size
 left:Left cl sp v v'
 cls:∀b,b<v.heap.size->cl' b=cl b
 BF:∀h,sp h->D' h=D h
 DN:∀h y,sp h->gs[h]?=U y->∃y',R[h]?=U y'/\th y y'
 eZ:∀j r,role j=U r->¬sp j->z r.aO.c=ch r.aO.c
 sema:md'=.sema->md=.sema\/∀h y',sp h->R[h]?=U y'->y'.status=dN
 J4:(∃p,md=.opn p)->md'=md
 iF:∀j,(D' j).stage=9->(D j).stage=9
 iE:∀j,(D' j).stage<=(D j).stage
 opn:∀p,md'=.opn p->md=.opn p
 k9:∀j r st,role j=U r->¬sp j->ch r.aO.c=U st->st.shut=ai\/j=0->(D j).stage=9->(D' j).stage=9
 calm:nq role sp ch D->z=ch/\nq role sp z D'
 outs:∀j r,role j=U r->(D' j).stage=9->z r.out=ch r.out
theorem pJ.refl(I:Inv K role sp md ch cl who D T gs v)(C:oP K role sp ch D):pJ K role sp md ch cl who D T gs v md ch cl D T gs v:=⟨I,C,rfl,Left.refl _ _ _,λ_ _=>rfl,λ_ _=>rfl,λh y _ a=>⟨y,a,th.refl y⟩,λ_ _ _ _=>rfl,λh=>ay h,λ_=>rfl,λ_ h=>h,λ_=>aQ _,λ_ h=>h,λ_ _ _ _ _ _ _ h=>h,λh=>⟨rfl,h⟩,λ_ _ _ _=>rfl⟩
theorem l8.later(h:l8 sp gs)(l:R.size=gs.size)(k:∀j y,sp j->gs[j]?=U y->∃d,R[j]?=U d/\th y d):l8 sp R:=λj d e b=>by
 have a:j<gs.size:=by grind
 obtain⟨m,f,c⟩:=k j gs[j] e<|gW a;rw[b]at f;cases f;exact c.ok<|h j _ e<|gW a
theorem pJ.trans{u}{m}{t}{F}{J}{o}{C}(h:pJ K role sp md ch cl who D T gs v md' z cl' D' T' R v')(k:pJ K role sp md' z cl' who D' T' R v' u m t F J o C):pJ K role sp md ch cl who D T gs v u m t F J o C:=⟨k.inv,k.gd,k.size.trans h.size,h.left.trans h.cls k.left,λb H=>(k.cls b<|cB H h.left.size).trans<|h.cls b H,λx e=>(k.BF x e).trans<|h.BF x e,λx y e N=>by obtain⟨S,Q,M⟩:=h.DN x y e N;obtain⟨I,Q1,Q2⟩:=k.DN x S e Q;exact⟨I,Q1,M.trans Q2⟩,λj r f l=>(k.eZ j r f l).trans<|h.eZ j r f l,λe=>by
  rcases k.sema e with L|L
  .rcases h.sema L with B|B;.grind
   .refine aB λx I e Q0=>?_;obtain⟨W,X,O⟩:=k.DN x _ e (gW<|by rw[<-k.size];grind);rcases O with rfl|⟨_,rfl⟩;.grind
    grind
  grind,λA=>by rw[k.J4<|by rw[h.J4 A];grind,h.J4 A],λj P=>h.iF j<|k.iF j P,λj=>bC (k.iE j)<|h.iE j,λp A=>h.opn p<|k.opn p A,λj r E f l w s Q3=>k.k9 j r E f l ((h.eZ j r f l).trans w) s<|h.k9 j r E f l w s Q3,λq=>let⟨a,b⟩:=h.calm q;let⟨c,d⟩:=k.calm b;⟨c.trans a,d⟩,λj r f Q3=>(k.outs j r f Q3).trans<|h.outs j r f<|k.iF j Q3⟩
theorem uG.later(I:Inv K role sp md ch cl who D T gs v)(hs:¬sp i)(u:∀r,role i=U r->(D i).stage=8->0<i)(S:uG K role sp md ch cl who D T gs v sl i md' z cl' D' T' R v')(C:oP K role sp z D')(w:∀j l,role j=U l->¬sp j->z l.aO.c=ch l.aO.c)(t:z=ch\/(D i).stage=8/\∃r k,role i=U r/\z=bE ch r.out (U ⟨V,Z,k⟩)/\(D' i).stage<=7):pJ K role sp md ch cl who D T gs v md' z cl' D' T' R v':=⟨S.inv,C,S.size,S.left,S.cls,S.BF,S.DN,w,S.sema,λ⟨p,x⟩=>by
  rcases S.md with h|⟨h,_⟩|⟨h,_⟩;.grind
  .grind
  grind,S.iF,S.iE,λp x=>by
  rcases S.md with h|⟨_,h⟩|⟨_,h⟩;.grind
  .grind
  grind,λj r f b hs a d m=>S.k9 j r f b a d m,λq=>by
  have e:z=ch:=by
   rcases t with e|⟨s,r,k,b,_⟩;.grind
   .have:=(q i r b hs).1;omega
  refine⟨e,λj r b hs=>?_⟩;obtain⟨m,d⟩:=q j r b hs;obtain⟨f,a,_⟩:=I.oz j r b m hs;exact⟨S.k9 j r f b a (ay<|d f a) m,λf a=>d f<|by grind⟩,λj r b m=>by
  rcases t with e|⟨s,l,k,o,e,y⟩;.grind
  .rw[e,cX ch _<|C.outs i j l r o b λe=>by grind (u l o s)]⟩
theorem pJ.at(I:Inv K role sp md ch cl who D T gs v)(C:oP K role sp ch D)(d):pJ K role sp md ch cl who D T gs v md ch cl D T gs<|v.at d:=⟨I.at d,C,rfl,Left.at _ _ _ _,λ_ _=>rfl,λ_ _=>rfl,λh y _ a=>⟨y,a,th.refl y⟩,λ_ _ _ _=>rfl,λh=>ay h,λ_=>rfl,λ_ h=>h,λ_=>aQ _,λ_ h=>h,λ_ _ _ _ _ _ _ h=>h,λh=>⟨rfl,h⟩,λ_ _ _ _=>rfl⟩
theorem Inv.later(I:Inv K role sp md ch cl who D T gs v)(hs:¬sp i)(d:gs[i]?=U g)(S:uG K role sp md ch cl who D T gs v sl i md' z cl' D' T' R v')(C:oP K role sp z D')(l:∀j a,role j=U a->¬sp j->z a.aO.c=ch a.aO.c)(e:z=ch\/(D i).stage=8/\∃r k,role i=U r/\z=bE ch r.out (U ⟨V,Z,k⟩)/\(D' i).stage<=7):pJ K role sp md ch cl who D T gs v md' z cl' D' T' R v':=uG.later I hs λr f m=>by have b:=I.gV i g hs d;rw[f]at b;rcases b with⟨h,_⟩|⟨_,_,h,_⟩|⟨h,_⟩|⟨h,_⟩<;>omega S C l e
theorem Inv.picked{h:Nat}(w:sp h):∀(s:Nat×Nat)(md:Md)(ch:Nat->Option fN)(cl:Nat->fe)(D:Nat->dn)(T:eB)(gs:Array aX)(v:ax)(sl:Option<|Nat×Nat),oL gs.size D=s->Inv K role sp md ch cl who D T gs v->oP K role sp ch D->IW role sp ch->l8 sp gs->(∀p,md=.opn p->p<=2)->(∀j,sp j->j=h)->∀a,gs[h]?=U a->a.status=dN->∃N md' z cl' D' T' R v' d b c,ic K.P N (dw gs v sl) T=(fR<|dw R v' b,T')/\stepT K.P (dw R v' b)=runT K.P (dw R (v'.at d) c) h/\pJ K role sp md ch cl who D T gs v md' z cl' D' T' R v'/\R[h]?=U a:=by
 intro s;refine(Prod.lex IA IA).wf.induction (C:=λs=>∀(md:Md)(ch:Nat->Option fN)(cl:Nat->fe)(D:Nat->dn)(T:eB)(gs:Array aX)(v:ax)(sl:Option<|Nat×Nat),oL gs.size D=s->Inv K role sp md ch cl who D T gs v->oP K role sp ch D->IW role sp ch->l8 sp gs->(∀p,md=.opn p->p<=2)->(∀j,sp j->j=h)->∀a,gs[h]?=U a->a.status=dN->∃N md' z cl' D' T' R v' d b c,ic K.P N (dw gs v sl) T=(fR<|dw R v' b,T')/\stepT K.P (dw R v' b)=runT K.P (dw R (v'.at d) c) h/\pJ K role sp md ch cl who D T gs v md' z cl' D' T' R v'/\R[h]?=U a) s ?_;intro s ih md ch cl D T gs v sl y I C Q0 o hp l a F k;obtain⟨i,g,d,dI,W,hg,q⟩:=NM (P:=K.P) (w:=v) (sl:=sl) (I.awake o) ⟨h,a,F,k⟩;by_cases f:sp i;.have e:=l i f;subst e;exact⟨0,md,ch,cl,D,T,gs,v,d,sl,dI,rfl,q,pJ.refl I C,F⟩
 .rcases(I.at d).other (sl:=dI) C o f W hg hp with⟨md',z,cl',D',T',R,v',S,QW,hc,A⟩|⟨r,g2,E,B,h9,lI,t,vJ⟩
  .obtain⟨Q1,m,rfl⟩:=S.run;have L:=(pJ.at I C d).trans<|(I.at d).later f W S QW hc A;obtain⟨X,O,J⟩:=S.DN h a w F;have Q3:X=a:=by
    rcases J with rfl|⟨hb,_⟩;.rfl
    grind
   subst Q3;have x:IW role sp z:=λj r E B hs q=>Q0 j r E B hs (by grind);obtain⟨N,Q,QX,M,D2,T2,H,v2,d2,b,c,h1,h2,h3,h4⟩:=ih (oL R.size D') (by rw[<-y,S.size];exact S.lt) md' z cl' D' _ R v' dI rfl S.inv QW x (o.later S.size S.DN) λp Ol=>by
    rcases S.md with Q2|⟨_,Q2⟩|⟨_,Q2⟩;.grind
    .grind
    grind l X O k;refine⟨N+1,Q,QX,M,D2,T2,H,v2,d2,b,c,?_,h2,L.trans h3,h4⟩;simp only[ic,q,m];grind
  .obtain⟨e1,e2⟩:=Q0 i r E B f t;grind
variable{h:Nat}{dI:Option<|Nat×Nat}
structure cQ(K:fK)(role:Nat->Option fG)(h:Nat)(md:Md)(ch:Nat->Option fN)(cl:Nat->fe)(who:yy)(D:Nat->dn)(T:eB)(gs:Array aX)(v:ax):Prop where
 inv:Inv K role (.=h) md ch cl who D T gs v
 gd:oP K role (.=h) ch D
 vf:IW role (.=h) ch
 bound:∀p,md=.opn p->p<=2
structure kG(role:Nat->Option fG)(h:Nat)(md:Md)(ch:Nat->Option fN)(cl:Nat->fe)(D:Nat->dn)(T:eB)(gs:Array aX)(v:ax)(md':Md)(z:Nat->Option fN)(cl':Nat->fe)(D':Nat->dn)(T':eB)(R:Array aX)(v':ax):Prop where
 size:R.size=gs.size
 left:Left cl (λ_=>False) v v'
 cls:∀b,b<v.heap.size->cl' b=cl b
 eZ:∀j r,role j=U r->j≠h->z r.aO.c=ch r.aO.c
 qn:(∃p,md=.opn p)->md'=md
 iF:∀j,j≠h->(D' j).stage=9->(D j).stage=9
 iE:∀j,j≠h->(D' j).stage<=(D j).stage
 ext:∃u,T'=T++u
 calm:nq role (.=h) ch D->z=ch/\nq role (.=h) z D'
 outs:∀j r,role j=U r->(D' j).stage=9->z r.out=ch r.out
 k9:∀j r st,role j=U r->j≠h->ch r.aO.c=U st->st.shut=ai\/j=0->(D j).stage=9->(D' j).stage=9
 Xq:(D' h).stage=(D h).stage
 opn:∀p,md'=.opn p->md=.opn p
theorem kG.refl:kG role h md ch cl D T gs v md ch cl D T gs v:=⟨rfl,Left.refl _ _ _,λ_ _=>rfl,λ_ _ _ _=>rfl,λ_=>rfl,λ_ _ x=>x,λ_ _=>aQ _,⟨#[],by simp⟩,λq=>⟨rfl,q⟩,λ_ _ _ _=>rfl,λ_ _ _ _ _ _ _ h=>h,rfl,λ_ h=>h⟩
theorem kG.trans{m}{k}{l}{F}{H}{o}{A}(a:kG role h md ch cl D T gs v md' z cl' D' T' R v')(b:kG role h md' z cl' D' T' R v' m k l F H o A):kG role h md ch cl D T gs v m k l F H o A:=⟨b.size.trans a.size,a.left.trans a.cls b.left,λx B=>(b.cls x<|cB B a.left.size).trans<|a.cls x B,λj r d c=>(b.eZ j r d c).trans<|a.eZ j r d c,λw=>by rw[b.qn<|by rw[a.qn w];exact w,a.qn w],λj c x=>a.iF j c<|b.iF j c x,λj c=>bC (b.iE j c)<|a.iE j c,by obtain⟨u,rfl⟩:=a.ext;obtain⟨I,rfl⟩:=b.ext;grind,λq=>let⟨x,y⟩:=a.calm q;let⟨L,t⟩:=b.calm y;⟨L.trans x,t⟩,λj r d f=>(b.outs j r d f).trans<|a.outs j r d<|by
  by_cases e:j=h;.subst e;rw[<-b.Xq];exact f
  .exact b.iF j e f,λj r E d c s C f=>b.k9 j r E d c ((a.eZ j r d c).trans s) C<|a.k9 j r E d c s C f,b.Xq.trans a.Xq,λp w=>a.opn p<|b.opn p w⟩
theorem MT{P:bZ}:∀(N:Nat)(m:Machine)(T:eB)(m':Machine)(T':eB),ic P N m T=(fR m',T')->∃u,T'=T++u|0,m,T,m',T',h=>⟨#[],by simp only[ic]at h;grind⟩|N+1,m,T,m',T',h=>by simp only[ic]at h;cases b:stepT P m with|mk r a=>rw[b]at h;cases r with|ended o w=>cases h|next c=>obtain⟨u,rfl⟩:=MT N c (T++a) m' T' h;grind
theorem cQ.asw(H:cQ K role h md ch cl who D T gs v){a}(d:gs[h]?=U a)(b:a.status=dN):l8 (.=h) gs:=by rintro j y rfl c;grind
theorem cQ.picked(H:cQ K role h md ch cl who D T gs v){a}(s:gs[h]?=U a)(e:a.status=dN)(sl):∃N md' z cl' D' T' R v' d c f,ic K.P N (dw gs v sl) T=(fR<|dw R v' c,T')/\stepT K.P (dw R v' c)=runT K.P (dw R (v'.at d) f) h/\R[h]?=a/\cQ K role h md' z cl' who D' T' R v'/\kG role h md ch cl D T gs v md' z cl' D' T' R v'/\D' h=D h/\Left cl (.=h) v v':=by obtain⟨N,md',z,cl',D',T',R,v',d,c,f,t,A,L,C⟩:=Inv.picked (sp:=(.=h)) (h:=h) rfl _ md ch cl D T gs v sl rfl H.inv H.gd H.vf (H.asw s e) H.bound (λj m=>m) a s e;refine⟨N,md',z,cl',D',T',R,v',d,c,f,t,A,C,⟨L.inv,L.gd,λj r q l o k=>H.vf j r q l o<|by rw[<-L.eZ j r l o];exact k,λp B=>H.bound p<|L.opn p B⟩,⟨L.size,⟨L.left.size,λb y w=>L.left.block b y<|w.imp id λx=>x.imp id λ⟨_,x,_⟩=>x.elim,L.left.os,L.left.tape,L.left.out⟩,L.cls,λj r l m=>L.eZ j r l m,L.J4,λj _ x=>L.iF j x,λj _=>L.iE j,MT N _ _ _ _ t,L.calm,L.outs,λj r q l m k o u=>L.k9 j r q l m k o u,by rw[L.BF h rfl],L.opn⟩,L.BF h rfl,L.left⟩
theorem cQ.step(H:cQ K role h md ch cl who D T gs v){a a'}{es}{x'}(E:gs[h]?=U a)(A:cj K.P (h==0) a v=bV a' v' es)(c:v.heap.size<=v')(f:∀b,b<v.heap.size->¬(cl b=.own h\/K.live=Z/\b=K.Wg\/cl b=.eV/\who=.hold h)->v'.heap[b]?=v.heap[b]?)(z:∀b,b<v.heap.size->cl' b=cl b)(m:∀b∈x'.own,cl' b=.own h/\b<v')(y:∀e∈es,(∀x,(iz e).touch?=U x->Ab cl' who h x)/\(iz e).low v')(w:∀e∈es,e.loc≠iA (.release<|stA K.Wg))(B:jZ (D h).deaf es=x'.deaf)(d:role h=V->h≠0->∀e∈es,(iz e).touch?=V)(C:x'.stage=(D h).stage)(t:K.live=Z->∃q I,WgAt K.L.tWg K.Wg v' q I/\nT gs.size (bE D h x') md' q I)(F:h≠0->7<=x'.stage)(s:∀p,md'=.opn p->p<=2):runT K.P (dw gs v sl) h=(fR<|dw ((gs.map<|woken K.P a a' v').setIfInBounds h a') v' sl,iQ h a.frame.fn a.frame.place es)/\cQ K role h md' ch cl' who (bE D h x') (T++iQ h a.frame.fn a.frame.place es) ((gs.map<|woken K.P a a' v').setIfInBounds h a') v'/\((gs.map<|woken K.P a a' v').setIfInBounds h a')[h]?=a':=by
 have M:h<gs.size:=by grind
 obtain⟨J,_⟩:=H.inv.go_step (x':=x') (md':=md') (cl':=cl') (g':=a') (es:=es) E c f z m y w B d (λl=>absurd rfl l) (λe=>⟨by grind,λl=>absurd rfl l⟩) (λ_ l=>absurd rfl l) t (λr _ o N=>by grind);refine⟨YT (sl:=sl) E A,⟨J,⟨λj r u o k=>?_,λj r q u o k=>?_,H.gd.outs,H.gd.end_,λn=>?_⟩,H.vf,s⟩,kg<|by grind⟩;.rw[cX D _ k];exact H.gd.a j r u o k
 .rw[cX D _ k];exact H.gd.b j r q u o k
 .have:V2 n (bE D h x')<=V2 n D:=FM λj=>by
   by_cases e:j=h;.subst e;rw[da,C];grind
   .rw[cX D _ e];grind
  exact bC this<|H.gd.qI n
theorem cQ.at(H:cQ K role h md ch cl who D T gs v)(d):cQ K role h md ch cl who D T gs<|v.at d:=⟨H.inv.at d,H.gd,H.vf,H.bound⟩
theorem kG.at(role)(h)(md)(ch)(cl)(D)(T)(gs)(v)(d):kG role h md ch cl D T gs v md ch cl D T gs<|v.at d:=⟨rfl,Left.at _ _ _ _,λ_ _=>rfl,λ_ _ _ _=>rfl,λ_=>rfl,λ_ _ x=>x,λ_ _=>aQ _,⟨#[],by simp⟩,λq=>⟨rfl,q⟩,λ_ _ _ _=>rfl,λ_ _ _ _ _ _ _ h=>h,rfl,λ_ h=>h⟩
theorem wz(D:Nat->dn)(i):bE D i (D i)=D:=funext λj=>by grind[upd_same,upd_ne]
theorem qR{P}{m m'}{t}{ops}(hs:stepT P m=(fR m',ops)):ic P 1 m t=(fR m',t++ops):=by simp only[ic,hs]
structure DH(O Rd:List Nat)(w w':ax)(es:Array jq):Prop where
 os:w'.os=w.os
 tape:w'.tape=w.tape
 out:w'.output=w.output
 size:w'.heap.size=w.heap.size
 block:∀b,b∉O->w'.heap[b]?=w.heap[b]?
 ev:∀e∈es,∃a wr,e=⟨.cell a,wr,ai⟩/\(a.block∈O\/a.block∈Rd)
def Rest(h:Nat)(O:List Nat)(cl:Nat->fe)(v v':ax):Prop:=∀b,b<v.heap.size->cl b=.own h->b∉O->v'.heap[b]?=v.heap[b]?
theorem axW{b}(j:cl b=.own h\/cl b=.eV/\who=.hold h){a}(f:a.block=b)(wr):∀x,(iz ⟨.cell a,wr,ai⟩).touch?=U x->Ab cl who h x:=by intro x d c e;simp only[Ep,s9,dX]at d;grind[pF,Option.some.injEq]
theorem cQ.quiet(H:cQ K role h md ch cl who D T gs v){a a'}{es}(C:gs[h]?=U a)(s:cj K.P (h==0) a v=bV a' v' es){O Rd}(c:DH O Rd v v' es)(m:∀b∈O,b∈(D h).own)(o:∀b∈Rd,b<v∧(cl b=.own h∨cl b=.eV∧who=.hold h))(p:role h=V->h=0)(t:h≠0->7<=(D h).stage)(B:(D h).deaf=0):runT K.P (dw gs v sl) h=(fR<|dw ((gs.map<|woken K.P a a' v').setIfInBounds h a') v' sl,iQ h a.frame.fn a.frame.place es)∧cQ K role h md ch cl who D (T++iQ h a.frame.fn a.frame.place es) ((gs.map<|woken K.P a a' v').setIfInBounds h a') v'∧((gs.map<|woken K.P a a' v').setIfInBounds h a')[h]?=a'∧kG role h md ch cl D T gs v md ch cl D (T++iQ h a.frame.fn a.frame.place es) ((gs.map<|woken K.P a a' v').setIfInBounds h a') v'∧Rest h O cl v v':=by
 have d:∀b,b∈O∨b∈Rd->b<v∧(cl b=.own h∨cl b=.eV∧who=.hold h):=λb l=>l.elim (λx=>let⟨y,z⟩:=H.inv.own h b<|m b x;⟨z,ay y⟩)<|o b;have w:=λr=>c.block _ λx=>by have:=(H.inv.own h _<|m _ x).1;rw[H.inv.kI r]at this;grind
 obtain⟨E,u,F⟩:=H.step (sl:=sl) (x':=D h) (md':=md) (cl':=cl) C s (xZ c.size.symm) (λb _ f=>c.block b λx=>f<|ay (H.inv.own h b<|m b x).1) (λ_ _=>rfl) (λb l=>by rw[c.size];exact H.inv.own h b l) (λe j=>by obtain⟨x,wr,rfl,k⟩:=c.ev e j;obtain⟨y,z⟩:=d _ k;exact⟨axW z rfl wr,by rw[Ep];show x.block<_;rw[c.size];exact y⟩) λe j=>by obtain⟨x,wr,rfl,k⟩:=c.ev e j;simp (by rw[B];exact deafBehind_still λe j=>by obtain⟨x,wr,rfl,k⟩:=c.ev e j;grind 0) (λA f=>absurd (p A) f) rfl (λr=>let⟨st,sm,hw,I⟩:=H.inv.wg r;⟨st,sm,by unfold WgAt at hw⊢;grind,by grind[wz]⟩) t H.bound;rw[wz]at u;refine⟨E,u,F,⟨by simp,⟨xZ c.size.symm,λb l k=>c.block b λx=>?_,c.os,c.tape,c.out⟩,λ_ _=>rfl,λ_ _ _ _=>rfl,λ_=>rfl,λ_ _ x=>x,λ_ _=>aQ _,⟨_,rfl⟩,λq=>⟨rfl,q⟩,λ_ _ _ _=>rfl,λ_ _ _ _ _ _ _ h=>h,rfl,λ_ h=>h⟩,λb _ _ f=>c.block b f⟩;have:=(H.inv.own h b<|m b x).1;grind
theorem Left.rest{O}(L:Left cl (.=h) v v'):Rest h O cl v v':=λb c a _=>L.block b c<|aB<|aB ⟨h,rfl,a⟩
theorem Rest.trans{O}{f}(a:Rest h O cl v v')(hs:v.heap.size<=v')(j:∀b,b<v.heap.size->cl' b=cl b)(b:Rest h O cl' v' f):Rest h O cl v f:=λx d c e=>(b x (cB d hs) (by grind) e).trans<|a x d c e
theorem cQ.walk{O Rd:List Nat}{Stop:aX->ax->Prop}(k:∀g w,Stop g w->g.status=dN)(r:role h=V->h=0):∀(n:Nat){md:Md}{ch:Nat->Option fN}{cl:Nat->fe}{D:Nat->dn}{T:eB}{gs:Array aX}{v:ax}{sl:Option<|Nat×Nat}{a:aX},cQ K role h md ch cl who D T gs v->gs[h]?=U a->cM K.P (h==0) (L<|O++Rd) (DH O Rd) Stop n a v->(∀b∈O,b∈(D h).own)->(∀b∈Rd,b<v.heap.size/\(cl b=.own h\/cl b=.eV/\who=.hold h))->(h≠0->7<=(D h).stage)->(D h).deaf=0->∃N md' z cl' D' T' R v' dI a',ic K.P N (dw gs v sl) T=(fR<|dw R v' dI,T')/\R[h]?=U a'/\Stop a' v'/\cQ K role h md' z cl' who D' T' R v'/\kG role h md ch cl D T gs v md' z cl' D' T' R v'/\D' h=D h/\Rest h O cl v v'
 |0,md,ch,cl,D,T,gs,v,sl,a,H,QW,J,W,q,Q0,h0=>⟨0,md,ch,cl,D,T,gs,v,sl,a,rfl,QW,J v<|L.refl _ _,H,kG.refl,rfl,λ_ _ _ _=>rfl⟩|n+1,md,ch,cl,D,T,gs,v,sl,a,H,QW,J,W,q,Q0,h0=>by
  rcases J with f|⟨p,e⟩;.exact⟨0,md,ch,cl,D,T,gs,v,sl,a,rfl,QW,f v<|L.refl _ _,H,kG.refl,rfl,λ_ _ _ _=>rfl⟩
  obtain⟨N,iq,pD,s,D1,T1,uu,Q1,d,qg,gH,r1,m,C,H1,B,Q,o⟩:=H.picked QW p sl;have hR:L (O++Rd) v<|Q1.at d:=⟨λb l=>o.block b (by
    rcases Tk.1 l with x|x;.exact(H.inv.own h b<|W b x).2
    grind)<|by
    rcases Tk.1 l with x|x;.exact aB<|aB ⟨h,rfl,(H.inv.own h b<|W b x).1⟩
    grind,o.size⟩;have u:=e _ hR;cases j:cj K.P (h==0) a (Q1.at d)with|go a2 w2 es=>
   rw[j,eH]at u;obtain⟨hd,M⟩:=u;have t:∀b∈O,b∈(D1 h).own:=λb l=>by grind
   have c:∀b∈Rd,b<Q1/\(s b=.own h\/s b=.eV/\who=.hold h):=λb l=>by obtain⟨x,y⟩:=q b l;rw[B.cls b x];exact⟨cB x o.size,y⟩
   obtain⟨r2,H2,E,G2,R2⟩:=(H1.at d).quiet (sl:=gH) C j hd t c r (by grind) (by grind);obtain⟨N3,Q2,X,S,D3,T3,A,v3,I,a3,r3,QX,P,H3,G3,F,R3⟩:=cQ.walk k r n (sl:=gH) H2 E M t (λb l=>by rw[hd.size];exact c b l) (by grind) (by grind);have Q3:=(B.trans<|kG.at _ _ _ _ _ _ _ _ _ d).trans G2;refine⟨N+(1+N3),Q2,X,S,D3,T3,A,v3,I,a3,?_,QX,P,H3,Q3.trans G3,F.trans Q,?_⟩;.exact runNT_then r1<|runNT_then (qR<|m.trans r2) r3
   .exact((Left.rest o).trans o.size B.cls R2).trans Q3.left.size Q3.cls R3|_=>rw[j]at u;exact u.elim
variable{ρ eK:Nat->Nat}{I:H}{fs:Array dY}{nm:String->Bool}{X:fC->Prop}{w w':ax}
structure fM(ρ:Nat->Nat)(I:H)(q:bZ)(cl:Nat->fe)(w v:ax):Prop where
 os:v.os=w.os
 fair:Fair ρ q
 low:∀b,b<w.heap.size->ρ b<v.heap.size
 blk:∀b o,w.heap[b]?=U o->I.F b=Z->er I w.heap.size o=Z/\v.heap[ρ b]?=U (fa ρ o)kB:∀b,w.heap.size<=b->I.F b=Z
 CQ:q.globals.size<w.heap.size
 cls:∀b,b<w.heap.size->I.F b=Z->cl (ρ b)=.eV
 arg:∀A,I.arg=U A->(I.F A.g=ai/\ρ A.g=A.g/\w.heap[A.g]?=U (aH A.c A.e A.f)/\v.heap[A.g]?=U (aH A.c' A.e' A.f'))/\cl A.g=.eV
theorem fM.left{q}{sp}(M:fM ρ I q cl w v)(L:Left cl sp v v')(e:∀b,b<v.heap.size->cl' b=cl b):fM ρ I q cl' w v':=⟨L.os.trans M.os,M.fair,λb c=>cB (M.low b c) L.size,λb o c d=>by obtain⟨k,p⟩:=M.blk b o c d;have a:=(dm.1 c).1;exact⟨k,(L.block _ (M.low b a)<|ay<|M.cls b a d).trans p⟩,M.kB,M.CQ,λb c d=>(e _<|M.low b c).trans<|M.cls b c d,λA l=>by obtain⟨⟨s,m,r,j⟩,f⟩:=M.arg A l;have a:=(dm.1 j).1;exact⟨⟨s,m,r,(L.block _ a<|ay f).trans j⟩,(e _ a).trans f⟩⟩
theorem fM.afV{q}(M:fM ρ I q cl w v):dO ρ I (U w.drawn) w v:=⟨M.os,λi b=>by grind,M.fair.inj,M.blk,M.kB,λA a=>(M.arg A a).1⟩
structure Dk(role:Nat->Option fG)(h:Nat)(md:Md)(ch:Nat->Option fN)(cl:Nat->fe)(D:Nat->dn)(T:eB)(gs:Array aX)(v:ax)(md':Md)(z:Nat->Option fN)(cl':Nat->fe)(D':Nat->dn)(T':eB)(R:Array aX)(v':ax):Prop where
 size:R.size=gs.size
 vD:v.heap.size<=v'.heap.size
 own:∀b,b<v.heap.size->cl b=.own h->v'.heap[b]?=v.heap[b]?
 os:v'.os=v.os
 tape:v'.tape=v.tape
 out:v'.output=v.output
 cls:∀b,b<v.heap.size->cl' b=cl b
 eZ:∀j r,role j=U r->j≠h->z r.aO.c=ch r.aO.c
 md:(∃p,md=.opn p)->md'=md
 iF:∀j,j≠h->(D' j).stage=9->(D j).stage=9
 iE:∀j,j≠h->(D' j).stage<=(D j).stage
 ext:∃u,T'=T++u
 calm:nq role (.=h) ch D->z=ch/\nq role (.=h) z D'
 old:∀b,b<v.heap.size->cl b=.old->v'.heap[b]?=v.heap[b]?
theorem Dk.trans{k}{e}{f}{s}{B}{l}{o}(a:Dk role h md ch cl D T gs v md' z cl' D' T' R v')(b:Dk role h md' z cl' D' T' R v' k e f s B l o):Dk role h md ch cl D T gs v k e f s B l o:=⟨b.size.trans a.size,bC a.vD b.vD,λx c m=>(b.own x (cB c a.vD)<|by rw[a.cls x c];grind).trans<|a.own x c m,b.os.trans a.os,b.tape.trans a.tape,b.out.trans a.out,λx c=>(b.cls x<|cB c a.vD).trans<|a.cls x c,λj r p d=>(b.eZ j r p d).trans<|a.eZ j r p d,λA=>by rw[b.md<|by rw[a.md A];grind,a.md A],λj d x=>a.iF j d<|b.iF j d x,λj d=>bC (b.iE j d)<|a.iE j d,by obtain⟨u,rfl⟩:=a.ext;obtain⟨C,rfl⟩:=b.ext;grind,λq=>let⟨x,y⟩:=a.calm q;let⟨L,t⟩:=b.calm y;⟨L.trans x,t⟩,λx c m=>(b.old x (cB c a.vD)<|by rw[a.cls x c];grind).trans<|a.old x c m⟩
theorem kG.adk(a:kG role h md ch cl D T gs v md' z cl' D' T' R v')(c:∀b,b<v.heap.size->cl b=.own h->v'.heap[b]?=v.heap[b]?):Dk role h md ch cl D T gs v md' z cl' D' T' R v':=⟨a.size,a.left.size,c,a.left.os,a.left.tape,a.left.out,a.cls,a.eZ,a.qn,a.iF,a.iE,a.ext,a.calm,λx d e=>a.left.block x d<|aB<|ay e⟩
theorem alG{q:bZ}{n}{e}(r:yB ρ I n e)(k:∀b,b<n→I.F b=Z→cl (ρ b)=.eV){B}(f:∀b,b<n→ρ b<B)(o:∀A,I.arg=U A→cl A.g=.eV/\A.g<B):(∀x,(iz e).touch?=U x→Ab cl (.hold h) h x)/\(iz e).low B/\(∀a,e.loc≠iA (.release a))/\e.loc≠iA .disable/\e.loc≠iA .enable:=by
  rcases r with⟨b,t,y,p,s⟩|⟨m,u,rfl⟩|⟨A,a,z,E,rfl⟩
  . obtain⟨l,wr,C⟩:=e;subst s;rcases p with⟨a,H,rfl⟩|rfl
    . refine⟨fun x d c j=>?_,?_,by simp,by simp,by simp⟩
      . simp only[Ep,s9,dX]at d;simp only[pF]at j;have:cl (dA ρ a).block=.eV:=by show cl (ρ a.block)=.eV;grind
        grind
      .show ρ a.block<B;grind
    . refine⟨fun x d c j=>?_,?_,by simp,by simp,by simp⟩;.cases wr<;>(simp only[iz,s9]at d;simp only[pF]at j;grind)
      .cases wr<;>exact f b t
  .cases m<;>simp only[YB,ow]at u<;>exact⟨fun x d=>(by cases d),trivial,by simp,by simp,by simp⟩
  . refine⟨fun x d c j=>?_,?_,by simp,by simp,by simp⟩;.simp only[Ep,s9]at d;simp only[pF]at j;grind
    .show a.block<B;grind
inductive Ends(ρ:Nat->Nat)(I:H)(q:bZ)(fs:Array dY)(nm:String->Bool)(X:fC->Prop)(b:aZ)(bs B':List aZ)(N:Nat):aX->aX->Prop|back{x x':az}{b':aZ}{De:List aZ}(hB:B'=b'::De)(hx:RV ρ I N x x'):Ends ρ I q fs nm X b bs B' N (r (b.finish x) bs)<|r (b'.finish x') De|cut{f:fC}{mV qK:Array az}{fr fr':aZ}{cs cs':List aZ}(hx:X f\/I.cut f mV.size=Z)(ha:bD ρ I N mV qK)(h:pI ρ I q nm N fr fr')(t:ig ρ I q nm N cs cs'):Ends ρ I q fs nm X b bs B' N (r (eP (J q fs) f mV eo)<|fr::cs++b::bs)<|r (eP q f qK eo)<|fr'::cs'++B'
theorem cQ.aEj(hL:nU I K.P fs nm)(hS:Same I K.P fs nm X)(H:cQ K role h md ch cl (.hold h) D T gs v)(oY:role h=V->h=0)(fL:h≠0->7<=(D h).stage)(h0:(D h).deaf=0){b:aZ}{bs B':List aZ}(hB:Bt I K.P (h==0) B'){fr fr':aZ}{cs cs':List aZ}(CC:jP ρ I K.P nm w.heap.size fr fr')(iv:ig ρ I K.P nm w.heap.size cs cs')(ha:gs[h]?=U (r fr'<|cs'++B'))(M:fM ρ I K.P cl w v){f:qL->aX×ax}(hf:∀l:qL,(∃F,cj (J K.P fs) Z (r fr<|cs++b::bs) (World.re w l 0)=bV (f l).1 (f l).2 F)/\¬wu (f l).1)(sl:Option<|Nat×Nat):∃l eK md' z j cl' D' Q1 o c N d B O v' F,ic K.P N (dw gs v sl) T=(fR<|dw o c B,Q1)/\o[h]?=U (r fr'<|cs'++B')/\stepT K.P (dw o c B)=runT K.P (dw o (c.at d) O) h/\cQ K role h md' z j (.hold h) D' Q1 o c/\Dk role h md ch cl D T gs v md' z j D' Q1 o c/\D' h=D h/\(∀x,x<w.heap.size->ρ x=eK x)/\w.heap.size<=(f l).2.heap.size/\fM eK I K.P cl' (f l).2 v'/\(∀x,x<w.heap.size->I.F x=ai->(f l).2.heap[x]?=w.heap[x]?)/\(∀x,x<c.heap.size->cl' x=j x)/\c.heap.size<=v'.heap.size/\(∀x,x<c.heap.size->j x≠.eV->v'.heap[x]?=c.heap[x]?)/\v'.os=c.os/\v'.tape=c.tape/\v'.output=c.output/\(∀e∈F,(∀x,(iz e).touch?=U x->Ab cl' (.hold h) h x)/\(iz e).low v'.heap.size/\(∀a,e.loc≠iA (.release a))/\e.loc≠iA .disable/\e.loc≠iA .enable)/\∃k,cj K.P (h==0) (r fr'<|cs'++B') (c.at d)=RK.step k v' F/\After eK I K.P fs nm X b bs B' (f l).2.heap.size (f l).1 k:=by
 obtain⟨N,iq,pD,j,D1,Q1,o,c,d,B,O,r1,R,rf,H1,G1,K8,L1⟩:=H.picked ha rfl sl;have L:fM ρ I K.P j w<|c.at d:=(M.left L1 G1.cls).left (Left.at j (λ_=>False) c d) λ_ _=>rfl;let eK:=rz ρ w.heap.size c.heap.size;let l:qL:=λi=>c.tape<|d+i;have q:∀x,x<w.heap.size->ρ x=eK x:=λx Q3=>Pn _ _ _ _ Q3;have P:dO eK I V (World.re w l 0)<|c.at d:=dO.rz (v':=c.at d) L.afV L.low rfl (λ_ _ _=>rfl) λ_ _=>rfl;have m:∀i,eK (w.heap.size+i)=c.heap.size+i:=λi=>alY _ _ _ i;have s:Fair eK K.P:=Fair.rz M.fair L.low M.CQ;have S:we eK I V K.P fs nm X (World.re w l 0)<|c.at d:=⟨hL,hS,s,M.CQ,M.kB,P,m⟩;have hs:=WU (m:=Z) (m':=h==0) (b:=b) (bs:=bs) (B':=B') hB S (CC.re q)<|iv.re q;obtain⟨⟨es0,e0⟩,W⟩:=hf l;rw[e0]at hs;rcases hs with hd|⟨_,Q3⟩;.exact absurd hd.off W
 obtain⟨k,v',F,e1,Q0,C,Q,vJ⟩:=Q3 (λ_ hD=>by grind);have ga:v'.heap.size=c.heap.size+((f l).2.heap.size-w.heap.size):=Q.size;have E:w.heap.size<=(f l).2.heap.size:=Q.oQ;have u:∀x,x<(f l).2.heap.size->eK x<v'.heap.size:=λx Q3=>by
  rcases B3 x w.heap.size with p|Cz;.rw[<-q x p];have:=L.low x p;have e:(c.at d).heap.size=c.heap.size:=rfl;omega
  .have:=m<|x-w.heap.size;grind
 let cl':Nat->fe:=λx=>if x<c.heap.size then j x else .eV;have Q2:∀x,x<c.heap.size->cl' x=j x:=λx Q3=>cJ Q3;have t:∀x,x<(f l).2.heap.size->I.F x=Z->cl' (eK x)=.eV:=λx Q3 hF=>by
  rcases B3 x w.heap.size with p|Cz;.rw[<-q x p,Q2 _<|L.low x p];exact L.cls x p hF
  .have:=m<|x-w.heap.size;grind
 have QW:∀A,I.arg=U A->cl' A.g=.eV/\A.g<v'.heap.size:=λA Q0=>by obtain⟨⟨a1,a2,a3,a4⟩,a5⟩:=L.arg A Q0;grind
 refine⟨l,eK,iq,pD,j,cl',D1,Q1,o,c,N,d,B,O,v',F,r1,rf,R,H1,G1.adk λx Q3 hc=>L1.block x Q3<|aB<|aB ⟨h,rfl,hc⟩,K8,q,E,⟨C.os,s,u,C.blk,C.kB,cB M.CQ E,t,λA Q0=>⟨C.arg A Q0,(QW A Q0).1⟩⟩,λx Q3 hF=>Q.Pf x Q3 hF,Q2,by omega,λx Q3 hn=>?_,Q.os,Q.tape,Q.out,λe he=>alG (q:=K.P) (vJ e he) t u QW,k,e1,Q0⟩;exact Q.sV x Q3 λy hy hF e=>hn<|by rw[<-e,<-q y hy];exact L.cls y hy hF
def qN(P:bZ)(Done:aX->ax->Prop)(x y:aX×ax):Prop:=¬Done y.1 y.2/\∃τ es,cj P Z y.1 (World.re y.2 τ 0)=bV x.1 x.2 es
theorem Term.acc{P}{Done}{g}{w}(t:Term P Done g w):_root_.Acc (qN P Done) (g,w):=by induction t with|done h=>exact _root_.Acc.intro _ λy a=>absurd h a.1|step f h t d=>refine _root_.Acc.intro _ λy a=>?_;obtain⟨_,b,j,e⟩:=a;obtain⟨⟨c,k⟩,_⟩:=h b;grind
theorem cQ.tree(hL:nU I K.P fs nm)(hS:Same I K.P fs nm X)(oY:role h=V→h=0){b:aZ}{bs B':List aZ}(hB:Bt I K.P (h==0) B'){Done:aX→ax→Prop}(jo:∀fr cs w,¬Done (r fr<|cs++b::bs) w){gl:aX}{w:ax}(t:Term (J K.P fs) Done gl w):∀{ρ:Nat→Nat}{md:Md}{ch:Nat→Option fN}{cl:Nat→fe}{D:Nat→dn}{T:eB}{gs:Array aX}{v:ax}(sl:Option<|Nat×Nat){fr fr':aZ}{cs cs':List aZ},gl=r fr (cs++b::bs)→cQ K role h md ch cl (.hold h) D T gs v→(h≠0→7≤(D h).stage)→(D h).deaf=0→jP ρ I K.P nm w.heap.size fr fr'→ig ρ I K.P nm w.heap.size cs cs'→gs[h]?=U (r fr'<|cs'++B')→fM ρ I K.P cl w v→∃N eK w' md' z cl' D' T' R v' dI g1,(∀x,x<w.heap.size→ρ x=eK x)∧w.heap.size≤w'.heap.size∧(∀x,x<w.heap.size→I.F x=ai→w'.heap[x]?=w.heap[x]?)∧Term (J K.P fs) Done g1 w'∧uz (qN (J K.P fs) Done) (g1,w') (gl,w)∧cQ K role h md' z cl' (.hold h) D' T' R v'∧Dk role h md ch cl D T gs v md' z cl' D' T' R v'∧D' h=D h∧ic K.P N (dw gs v sl) T=(fR<|dw R v' dI,T')∧((∃Fg,R[h]?=U Fg∧fM eK I K.P cl' w' v'∧Ends eK I K.P fs nm X b bs B' w'.heap.size g1 Fg)∨B'=[]∧∃x x' p Q2 es fn pos,g1=r (b.finish x) bs∧RV eK I w'.heap.size x x'∧stepT K.P (dw R v' dI)=(.ended (.done x') p,iQ h fn pos es)∧fM eK I K.P Q2 w' p∧p.os=v'.os∧p.output=v'.output∧v'.heap.size≤p.heap.size∧(∀x,x<v'.heap.size→Q2 x=cl' x)∧(∀x,x<v'.heap.size→cl' x≠.eV→p.heap[x]?=v'.heap[x]?)∧∀e∈es,(∀x,(iz e).touch?=U x→Ab Q2 (.hold h) h x)∧(iz e).low p.heap.size∧(∀a,e.loc≠iA (.release a))∧e.loc≠iA .disable∧e.loc≠iA .enable):=by induction t with|done hd=>grind|@step gl w f hf ht ih=>
    intro ρ md ch cl D T gs v sl fr fr' cs cs' e H fL h0 CC iv ha M;subst e;obtain⟨τ,Qh,P,B,ie,l7,D1,T1,uu,v1,N,d,qg,gH,v2,es,r1,rf,Q,H1,W1,o,O,j,M2,l,Q0,Q3,c,ajA,aAp,L,A,k,hk,hA⟩:=H.aEj hL hS oY fL h0 hB CC iv ha M hf sl;have E:∀g',k=.go g'→∃m,stepT K.P (dw uu v1 qg)=(fR<|dw m v2 gH,iQ h fr'.fn (r fr'<|cs'++B').frame.place es)∧m[h]?=U g'∧cQ K role h P B l7 (.hold h) D1 (T1++iQ h fr'.fn (r fr'<|cs'++B').frame.place es) m v2∧Dk role h P B ie D1 T1 uu v1 P B l7 D1 (T1++iQ h fr'.fn (r fr'<|cs'++B').frame.place es) m v2:=by
      rintro g' rfl;have hWg:K.live=Z→v2.heap[K.Wg]?=v1.heap[K.Wg]?:=fun hl=>by obtain⟨st,sm,hw,nH⟩:=H1.inv.wg hl;exact c _ (pC hw)<|by rw[H1.inv.kI hl];simp
      obtain⟨q1,q2,q3⟩:=(H1.at d).step (sl:=gH) (a:=r fr'<|cs'++B') (a':=g') (es:=es) (x':=D1 h) (md':=P) (cl':=l7) (v':=v2) rf hk Q3 (fun x C hn=>c x C fun hi=>hn<|aB<|aB ⟨hi,rfl⟩) Q0 (fun x C=>by obtain⟨y,QW⟩:=H1.inv.own h x C;exact⟨(Q0 x QW).trans y,cB QW Q3⟩) (fun e he=>⟨(A e he).1,(A e he).2.1⟩) (fun e he=>(A e he).2.2.1 _) (by rw[o,h0];exact deafBehind_still (fun e he=>⟨(A e he).2.2.2.1,(A e he).2.2.2.2⟩) 0) (fun hr hn=>absurd (oY hr) hn) rfl (fun hl=>let⟨st,sm,hw,nH⟩:=H1.inv.wg hl;⟨st,sm,by unfold WgAt at hw⊢;rw[hWg hl];exact hw,by rw[wz];exact nH⟩) (by rw[o];exact fL) H1.bound;rw[wz]at q2;refine⟨_,Q.trans q1,q3,q2,⟨by simp,Q3,fun x C hc=>c x C<|by rw[hc];simp,ajA,aAp,L,Q0,fun _ _ _ _=>rfl,fun _=>rfl,fun _ _ x=>x,fun _ _=>aQ _,⟨_,rfl⟩,fun q=>⟨rfl,q⟩,fun x C hc=>c x C<|by rw[hc];simp⟩⟩
    have s:qN (J K.P fs) Done ((f τ).1,(f τ).2) (r fr<|cs++b::bs,w):=⟨jo _ _ _,τ,(hf τ).1⟩;generalize W:(f τ).1=g1 at hA s;have F:=ht τ;rw[W]at F;cases hA with|within h1 t1=>obtain⟨m,s1,Q1,H2,W2⟩:=E _ rfl;obtain⟨N3,ρ3,w3,Nb,Bc,zM,D3,T3,Ut,v3,DR,g3,k1,k2,k3,k4,k0,k5,k6,k7,k8,k9⟩:=ih τ gH W H2 (by rw[o];exact fL) (by rw[o];exact h0) h1 t1 Q1 M2;exact⟨N+(1+N3),ρ3,w3,Nb,Bc,zM,D3,T3,Ut,v3,DR,g3,fun x C=>(O x C).trans<|k1 x<|cB C j,bC j k2,fun x C hF=>(k3 x (cB C j) hF).trans<|l x C hF,k4,.trans (by rw[←W];rw[←W]at s;exact k0)<|.single s,k5,(W1.trans W2).trans k6,k7.trans o,runNT_then r1<|runNT_then (qR s1) k8,k9⟩|back CM S=>obtain⟨m,s1,Q1,H2,W2⟩:=E _ rfl;exact⟨N+1,Qh,_,P,B,l7,D1,_,m,v2,gH,_,O,j,l,F,.single s,H2,W1.trans W2,o,runNT_then r1<|qR s1,ay ⟨_,Q1,M2,.back CM S⟩⟩|fin CM S=>exact⟨N,Qh,_,P,B,ie,D1,T1,uu,v1,qg,_,O,j,l,F,.single s,H1,W1,o,r1,aB ⟨CM,_,_,v2,l7,es,_,_,rfl,S,Q.trans<|runT_many_ended rf hk,M2,ajA,L,Q3,Q0,c,A⟩⟩|cut S has h1 t1=>obtain⟨m,s1,Q1,H2,W2⟩:=E _ rfl;exact⟨N+1,Qh,_,P,B,l7,D1,_,m,v2,gH,_,O,j,l,F,.single s,H2,W1.trans W2,o,runNT_then r1<|qR s1,ay ⟨_,Q1,M2,.cut S has h1 t1⟩⟩
theorem cQ.spawn{p:Nat}(TN:K.live=Z)(H:cQ K role 0 (.opn<|p+1) ch cl (.hold 0) D T gs v){a a' child:aX}(ha:gs[0]?=U a)(hgo:cj K.P Z a v=.spawn a' child v #[])(r:fG){n:Nat}{O lu:List Nat}(yh:oN K.P K.L K.Wg (U r) gs.size ⟨9,n,O,0⟩ child v)(hn:0<n)(hO:∀b∈O,b∈(D 0).own)(Q0:∀b∈lu,b∈(D 0).own∧b∉O)(aAP:role gs.size=V){k:Nat}(u:ch r.aO.c=U ⟨V,ai,k⟩)(Q:∀j s,role j=U s->s.aO.c≠r.aO.c)(R:∀j s,role j=U s->s.out≠r.out)(Hs:∀O g2 w,r.aO.home O g2 w->r.C∈O∧∃m,cM K.P ai (L O) (DO O) (Ag K.P K.L K.Wg r O) m (kU g2<|recvd r.aO.ok r.aO.z ai) w)(hq:∀j s,role j=U s->0<j->(D j).stage=9∧∀M,ch s.aO.c=U M->M.shut=ai)(h0:(D 0).deaf=0)(akc:∀n',V2 n' (bE (bE D 0 {D 0 with own:=lu}) gs.size ⟨9,n,O,0⟩)<=2):runT K.P (dw gs v sl) 0=(fR<|dw ((gs.setIfInBounds 0 a').push child) v sl,xE gs.size a.frame.fn a.frame.place child.frame.fn)∧cQ K (bE role gs.size<|U r) 0 (.opn p) ch (λb=>if b∈O then .own gs.size else cl b) (.hold 0) (bE (bE D 0 {D 0 with own:=lu}) gs.size ⟨9,n,O,0⟩) (T++xE gs.size a.frame.fn a.frame.place child.frame.fn) ((gs.setIfInBounds 0 a').push child) v∧((gs.setIfInBounds 0 a').push child)[0]?=U a'∧((gs.setIfInBounds 0 a').push child).size=gs.size+1:=by
 have I:=H.inv;have hz:=I.zero;have aJc:gs.size≠0:=by omega
 have q:=am0 gs.size a.frame.fn a.frame.place child.frame.fn;have W:=runT_crowd_spawn (P:=K.P) (sl:=sl) (i:=0) ha<|show cj K.P (0==0) a v=_ from hgo;have TD:((iQ 0 a.frame.fn a.frame.place #[]).push {g:=0,fn:=a.frame.fn,pos:=a.frame.place,act:=.go gs.size}).push {g:=gs.size,fn:=child.frame.fn,pos:=a.frame.place,act:=.start}=xE gs.size a.frame.fn a.frame.place child.frame.fn:=rfl;rw[TD]at W;have jJ:∀b,b∉O->(λb=>if b∈O then fe.own gs.size else cl b) b=cl b:=λb E=>if_neg E;have hnO:∀b j,j≠0->cl b=.own j->b∉O:=λb j o E hO'=>by have:=(I.own 0 b<|hO b hO').1;grind
 have hnS:∀b,cl b=.sh->b∉O:=λb E hO'=>by have:=(I.own 0 b<|hO b hO').1;grind
 have ga:((gs.setIfInBounds 0 a').push child).size=gs.size+1:=by simp
 have get:∀j,j≠0->j<gs.size->((gs.setIfInBounds 0 a').push child)[j]?=gs[j]?:=λj o C=>by grind
 have aKe:((gs.setIfInBounds 0 a').push child)[gs.size]?=U child:=by grind
 have aDf:((gs.setIfInBounds 0 a').push child)[0]?=U a':=by grind
 have S:∀j,j≠0->j≠gs.size->bE (bE D 0 {D 0 with own:=lu}) gs.size ⟨9,n,O,0⟩ j=D j:=λj o vI=>by grind[upd_ne]
 have A:bE (bE D 0 {D 0 with own:=lu}) gs.size ⟨9,n,O,0⟩ gs.size=⟨9,n,O,0⟩:=da _ _ _;have xm:bE (bE D 0 {D 0 with own:=lu}) gs.size ⟨9,n,O,0⟩ 0={D 0 with own:=lu}:=by grind[upd_ne,upd_same]
 have d:∀j,j≠gs.size->bE role gs.size (U r) j=role j:=λj o=>cX role _ o;refine⟨W,⟨⟨λj y F hy=>?_,λj o=>?_,λj o=>?_,?_,λj b E=>?_,λc M hc=>?_,λj s f h9 F=>?_,λj s f h8 F=>?_,λj j' r1 r2 x t h9 h9' hc=>?_,?_,?_,λj s f o l=>?_,?_,λidx op z hn' ht=>?_,by grind,λ_ _ _=>TN⟩,⟨λj s f o F J j2 r2 Cs vE=>?_,λj s M f o F h9 l B=>?_,λj j2 r1 r2 x t o hj0=>?_,λj s f o=>?_,akc⟩,λj s M f F l=>?_,λp' Q1=>?_⟩,aDf,ga⟩
 ·by_cases e:j=gs.size;·grind[upd_same]
  ·have C:j<gs.size:=by have:=(dm.1 hy).1;omega
   rw[get j F C]at hy;rw[d j e,S j F e];exact I.gV j y F hy
 ·rw[q.deaf];by_cases e:j=gs.size;·subst e;rw[A];exact I.above _<|aQ _
  ·by_cases N:j=0;·subst N;rw[xm];exact I.deaf 0 hz
   ·rw[S j N e];exact I.deaf j<|by omega
 ·rw[q.deaf];exact I.above j<|by omega
 ·refine Tr.born I.tr (by rw[I.deaf 0 hz];exact h0) (I.above _<|aQ _) _ _ _ λb _=>?_;by_cases E:b∈O;·exact aB ⟨(I.own 0 b<|hO b E).1,cJ E⟩
  ·exact ay<|if_neg E
 ·by_cases e:j=gs.size;·subst e;rw[A]at E;exact⟨cJ E,(I.own 0 b<|hO b E).2⟩
  ·by_cases N:j=0;·subst N;rw[xm]at E;obtain⟨x,t⟩:=Q0 b E;obtain⟨X,h4⟩:=I.own 0 b x;exact⟨(if_neg t).trans X,h4⟩
   ·rw[S j N e]at E;obtain⟨X,h4⟩:=I.own j b E;exact⟨(if_neg<|hnO b j N X).trans X,h4⟩
 ·obtain⟨x,t,X⟩:=I.chan c M hc;exact⟨x,(if_neg<|hnS c t).trans t,X⟩
 ·by_cases e:j=gs.size;·subst e;rw[da]at f;cases f;rw[A];exact⟨_,u,λh=>by simp only at h;omega⟩
  ·rw[d j e]at f;have G9:j≠0:=F;rw[S j G9 e]at h9⊢;exact I.oz j s f h9 F
 ·by_cases e:j=gs.size;·subst e;rw[A]at h8;simp at h8
  ·rw[d j e]at f;rw[S j F e]at h8;exact I.out j s f h8 F
 ·have iF:∀j,j≠gs.size->(bE (bE D 0 {D 0 with own:=lu}) gs.size ⟨9,n,O,0⟩ j).stage=9->(D j).stage=9:=λj o J=>by
   by_cases N:j=0;·subst N;rw[xm]at J;exact J
   ·rw[S j N o]at J;exact J
  by_cases e1:j=gs.size<;>by_cases e2:j'=gs.size;·rw[e1,e2]
  ·subst e1;rw[da]at x;cases x;rw[d j' e2]at t;exact absurd hc.symm<|Q j' r2 t
  ·subst e2;rw[da]at t;cases t;rw[d j e1]at x;exact absurd hc<|Q j r1 x
  ·rw[d j e1]at x;rw[d j' e2]at t;exact I.uniq j j' r1 r2 x t (iF j e1 h9) (iF j' e2 h9') hc
 ·intro hl;obtain⟨M,sm,hw,x,t,X⟩:=I.wg hl;have N:V2 gs.size (bE (bE D 0 {D 0 with own:=lu}) gs.size ⟨9,n,O,0⟩)=V2 gs.size D:=Bf λj o C=>by rw[S j (by omega)<|by omega]
  have hv:V2 (gs.size+1) (bE (bE D 0 {D 0 with own:=lu}) gs.size ⟨9,n,O,0⟩)=V2 gs.size D+1:=by
   have um:gu gs.size (⟨9,n,O,0⟩:dn)=1:=by unfold gu;rw[cJ ⟨by omega,by simp⟩]
   show sumTo gs.size (λi=>gu i<|bE (bE D 0 {D 0 with own:=lu}) gs.size ⟨9,n,O,0⟩ i)+gu gs.size (bE (bE D 0 {D 0 with own:=lu}) gs.size ⟨9,n,O,0⟩ gs.size)=_;rw[A,um];unfold V2 at N;rw[N];rfl
  refine⟨M,sm,hw,?_⟩;rw[ga];refine⟨λj o C=>?_,?_,X⟩
  ·by_cases e:j=gs.size;·subst e;rw[A];exact ay<|by simp
   ·rw[S j (by omega) e];exact x j o<|by omega
  ·rw[hv,t];congr 1;omega
 ·intro hl;rw[if_neg<|hnS _<|I.kI hl];exact I.kI hl
 ·by_cases e:j=gs.size;·subst e;rw[A]at l;simp at l
  ·rw[d j e]at f;rw[S j (by omega) e]at l;obtain⟨p',Q1⟩:=I.rel j s f o l;exact⟨p',RelBy.quiet Q1 q.1⟩
 ·exact I.norel.app λop z=>by simp only[xE,fQ,di,dJ,dQ]at z;rcases z with rfl|rfl<;>simp
 ·rcases B6 z with⟨_,aAZ⟩|⟨_,aAY⟩
  ·refine(I.rD idx op aAZ hn' ht).imp id λJ=>?_;by_cases e:op.g=gs.size;·rw[e,da];rfl
   ·rw[d _ e];exact J
  ·exact absurd (q.1 op aAY) ht
 ·by_cases e:j=gs.size
  ·subst e;rw[da]at f;cases f;rw[A]at J;rcases J with J|⟨_,M,l,B⟩;·simp at J
   ·rw[u]at l;cases l;cases B
  ·rw[d j e]at f;rw[S j F e]at J;obtain⟨q1,q2⟩:=hq j s f o;rcases J with J|⟨_,M,l,B⟩;·omega
   ·have:=q2 M l;rw[this]at B;cases B
 ·by_cases e:j=gs.size;·subst e;rw[da]at f;cases f;rw[u]at l;cases l;cases B
  ·rw[d j e]at f;obtain⟨_,q2⟩:=hq j s f o;have:=q2 M l;rw[this]at B;cases B
 ·by_cases e1:j=gs.size<;>by_cases e2:j2=gs.size;·exact absurd (e1.trans e2.symm) o
  ·subst e1;rw[da]at x;cases x;rw[d j2 e2]at t;exact R j2 r2 t
  ·subst e2;rw[da]at t;cases t;rw[d j e1]at x;exactλe=>R j r1 x e.symm
  ·rw[d j e1]at x;rw[d j2 e2]at t;exact H.gd.outs j j2 r1 r2 x t o hj0
 ·by_cases e:j=gs.size;·subst e;rw[da]at f;cases f;exact Hs
  ·rw[d j e]at f;exact H.gd.end_ j s f o
 ·by_cases e:j=gs.size;·subst e;rw[da]at f;cases f;rw[u]at l;cases l;exact⟨rfl,λh=>by cases h⟩
  ·rw[d j e]at f;exact H.vf j s M f F l
 ·cases Q1;have:=H.bound (p+1) rfl;omega
variable{j:Nat}
structure Du(K:fK)(role:Nat->Option fG)(D:Nat->dn):Prop where
 outs:∀i j r r',role i=U r->role j=U r'->i≠j->0<i->r'.out≠r.out
 end_:∀i r,role i=U r->0<i->∀O g2 w,r.aO.home O g2 w->r.C∈O/\∃m,cM K.P ai (L O) (DO O) (Ag K.P K.L K.Wg r O) m (kU g2<|recvd r.aO.ok r.aO.z ai) w
 qI:∀n,V2 n D<=2
theorem oP.cast(C:oP K role sp ch D):Du K role D:=⟨C.outs,C.end_,C.qI⟩
theorem nq.gd(q:nq role sp ch D)(C:Du K role D):oP K role sp ch D:=⟨λi r b f c l=>by obtain⟨e,a⟩:=q i r b c;grind,λi r k b f c e d a=>by rw[(q i r b c).2 k d]at a;grind,C.outs,C.end_,C.qI⟩
structure xI(md:Md)(cl:Nat->fe)(T:eB)(gs:Array aX)(v:ax)(md':Md)(cl':Nat->fe)(T':eB)(R:Array aX)(v':ax):Prop where
 size:R.size=gs.size
 left:Left cl (λ_=>False) v v'
 cls:∀b,b<v.heap.size->cl' b=cl b
 md:(∃p,md=.opn p)->md'=md
 ext:∃u,T'=T++u
theorem xI.trans{d}{c}{l}{e}{f}(a:xI md cl T gs v md' cl' T' R v')(b:xI md' cl' T' R v' d c l e f):xI md cl T gs v d c l e f:=⟨b.size.trans a.size,a.left.trans a.cls b.left,λx k=>(b.cls x<|cB k a.left.size).trans<|a.cls x k,λm=>by rw[b.md<|by rw[a.md m];grind,a.md m],by obtain⟨u,rfl⟩:=a.ext;obtain⟨o,rfl⟩:=b.ext;grind⟩
theorem kG.passed(G:kG role h md ch cl D T gs v md' z cl' D' T' R v'):xI md cl T gs v md' cl' T' R v':=⟨G.size,G.left,G.cls,G.qn,G.ext⟩
theorem Left.sub{sp'}(L:Left cl sp v v')(hs:∀j,sp' j->sp j):Left cl sp' v v':=⟨L.size,λb e a=>L.block b e<|a.imp id λx=>x.imp id λ⟨x,d,c⟩=>⟨x,hs x d,c⟩,L.os,L.tape,L.out⟩
theorem Inv.avL(I:Inv K role sp md ch cl who D T gs v)(F:sp i)(p)(N:K.live=Z)(Q:7<=(D i).stage)(o:∀j r,j≠i->role j=U r->r.aO.c≠p.aO.c):Inv K (bE role i<|U p) sp md ch cl who D T gs v:=by
 have a:∀j,j≠i->bE role i (U p) j=role j:=λj H=>cX role _ H;refine⟨λj y d A=>?_,I.deaf,I.above,I.tr,I.own,I.chan,λj r b k d=>?_,λj r b z d=>?_,λj f L u s t k l E=>?_,I.wg,I.kI,λj r b C x=>?_,I.norel,λq O m J M=>?_,I.zero,λ_ _ _=>N⟩;.rw[a j λe=>d<|by grind];exact I.gV j y d A
 .rw[a j λe=>d<|by grind]at b;exact I.oz j r b k d
 .rw[a j λe=>d<|by grind]at b;exact I.out j r b z d
 .by_cases w:j=i<;>by_cases B:f=i;.grind
  .grind[upd_same]
  .grind[upd_same]
  .rw[a j w]at s;rw[a f B]at t;exact I.uniq j f L u s t k l E
 .by_cases e:j=i;.grind
  .rw[a j e]at b;exact I.rel j r b C x
 .refine(I.rD q O m J M).imp id λP=>?_;grind[upd_same]
theorem Jr{gs}:l8 (λ_=>False) gs:=λ_ _ h=>h.elim
theorem Inv.aDq{rj:fG}{k p:Nat}{x:az}(s:role j=U rj):∀(Q:Nat×Nat)(md:Md)(ch:Nat->Option fN)(cl:Nat->fe)(D:Nat->dn)(T:eB)(gs:Array aX)(v:ax)(sl:Option<|Nat×Nat),oL gs.size D=Q->Inv K role (λ_=>False) md ch cl (.pt p) D T gs v->nq role (λ_=>False) ch D->Du K role D->ch rj.aO.c=U ⟨U x,ai,k⟩->SentAt T rj.aO.c k p->(∀i r y,role i=U r->i≠j->ch r.aO.c=U y->y.buf=V)->j<gs.size->(∀p,md=.opn p->p<=2)->∃N md' cl' D' T' R v' dI J,ic K.P N (dw gs v sl) T=(fR<|dw R v' dI,T')/\cQ K role j md' (bE ch rj.aO.c<|U ⟨V,ai,k+1⟩) cl' (.hold j) D' T' R v'/\R[j]?=U (kU J<|recvd rj.aO.ok x Z)/\rj.aO.home (D' j).own J v'/\(D' j).stage=9/\(D' j).deaf=0/\nq role (λ_=>False) (bE ch rj.aO.c<|U ⟨V,ai,k+1⟩) D'/\xI md cl T gs v md' cl' T' R v':=by
 intro Q;refine(Prod.lex IA IA).wf.induction (C:=λQ=>∀(md:Md)(ch:Nat->Option fN)(cl:Nat->fe)(D:Nat->dn)(T:eB)(gs:Array aX)(v:ax)(sl:Option<|Nat×Nat),oL gs.size D=Q->Inv K role (λ_=>False) md ch cl (.pt p) D T gs v->nq role (λ_=>False) ch D->Du K role D->ch rj.aO.c=U ⟨U x,ai,k⟩->SentAt T rj.aO.c k p->(∀i r y,role i=U r->i≠j->ch r.aO.c=U y->y.buf=V)->j<gs.size->(∀p,md=.opn p->p<=2)->∃N md' cl' D' T' R v' dI J,ic K.P N (dw gs v sl) T=(fR<|dw R v' dI,T')/\cQ K role j md' (bE ch rj.aO.c<|U ⟨V,ai,k+1⟩) cl' (.hold j) D' T' R v'/\R[j]?=U (kU J<|recvd rj.aO.ok x Z)/\rj.aO.home (D' j).own J v'/\(D' j).stage=9/\(D' j).deaf=0/\nq role (λ_=>False) (bE ch rj.aO.c<|U ⟨V,ai,k+1⟩) D'/\xI md cl T gs v md' cl' T' R v') Q ?_;intro Q ih md ch cl D T gs v sl ZL I q C hc A w QX hp;have aBP:0<(D j).fuel:=by
  rcases aiy (D j).fuel with h0|h0;.obtain⟨y,o,hb⟩:=I.oz j rj s (q j rj s id).1 id;grind
  grind
 have M:∃a,gs[j]?=U a/\a.status=dN:=by
  refine⟨gs[j],gW QX,?_⟩;have Q1:=I.gV j _ id<|gW QX;rw[s]at Q1;have h9:=(q j rj s id).1;rcases Q1 with⟨_,_,aac⟩|⟨h8,_⟩|⟨h7,_⟩|⟨h7,_⟩
  .rcases aac.status with⟨h1,_⟩|⟨_,h1⟩;.grind
   grind
  .omega
  .omega
  grind
 obtain⟨a,haj,Q3⟩:=M;obtain⟨i,g,d,dI,hi,hg,o⟩:=NM (P:=K.P) (w:=v) (sl:=sl) (I.awake Jr) ⟨j,a,haj,Q3⟩;rcases(I.at d).other (sl:=dI) (q.gd C) Jr id hi hg hp with⟨md',z,cl',D',T',R,v',S,C',OS,ZP⟩|⟨r,B,y,hr,h9,X,f,t⟩;.obtain⟨ops,l,rfl⟩:=S.run;have L:=(pJ.at I (q.gd C) d).trans<|(I.at d).later id hi S C' OS ZP;obtain⟨rfl,q'⟩:=L.calm q;obtain⟨N,wL,l7,D2,T2,xp,v2,gH,J,h1,h2,h3,h4,h5,h6,h7,h8⟩:=ih (oL R.size D') (by rw[<-ZL,S.size];exact S.lt) md' _ cl' D' _ R v' dI rfl S.inv q' C'.cast hc (A.app _) w (by rw[S.size];grind) λp Ol=>hp p<|L.opn p Ol;refine⟨N+1,wL,l7,D2,T2,xp,v2,gH,J,?_,h2,h3,h4,h5,h6,h7,xI.trans ⟨S.size,L.left,L.cls,L.J4,_,rfl⟩ h8⟩;simp only[ic,o,l];grind
 .have Cw:i=j:=by
   by_cases e:i=j;.exact e
   .have:=w i r y hr e f;rcases t with t|⟨_,t,_⟩;.exact absurd this t
    .rw[(q i r hr id).2 y f]at t;cases t
  subst Cw;rw[s]at hr;cases hr;rw[hc]at f;cases f;have F:i<gs.size:=QX;obtain⟨yh,iv,wZ⟩:=I.chan _ _ hc;have Hj:=pC yh;have aB6:(v.at d).heap[rj.aO.c]?=U (.chan 1 #[x] ai (k+1) k ai):=yh;have l:=crowd_recv_buf (sl:=dI) hi (X.2.2.2.2.2<|v.at d) aB6 (by simp)<|(I.at d).Sq Jr _;rw[SJ,Ej,Kx]at l;have aB8:(#[x]:Array az).getD 0 ak=x:=rfl;have Q0:(#[x]:Array az).extract 1 (#[x]:Array az).size=#[]:=rfl;rw[aB8,Q0]at l;have Hv:Deaf T i=0:=by rw[I.deaf i F];have Q1:=I.gV i g id hi;rw[s]at Q1;rcases Q1 with⟨_,h0,_⟩|⟨h8,_⟩|⟨h7,_⟩|⟨h7,_⟩<;>first|exact h0|omega
  have sH:(D i).deaf=0:=by rw[<-I.deaf i F];exact Hv
  have qk:=ad1 i B.frame.fn B.frame.place rj.aO.c k 1;have Q2:∀W∈tD i B.frame.fn B.frame.place rj.aO.c k 1,W.act.low v.heap.size:=λW u=>by simp only[tD,fQ,di,dJ,dQ]at u;rcases u with rfl|rfl<;>exact Hj
  have oA:∀W∈tD i B.frame.fn B.frame.place rj.aO.c k 1,W.act≠.mark (.release<|stA K.Wg):=λW u=>by simp only[tD,fQ,di,dJ,dQ]at u;rcases u with rfl|rfl<;>simp
  have I1:=((I.at d).mute qk Q2 oA).pass<|Tr.take I.tr A Hv B.frame.fn B.frame.place 1 Hj;obtain⟨I2,L2⟩:=(I1.more (sp':=(.=i)) λ_ h=>h.elim).MM (c:=rj.aO.c) (st':=⟨V,ai,k+1⟩) hc (v':=(v.at d).setChan rj.aO.c 1 #[] ai (k+1) (k+1) ai) rfl (λ_ _ _ _ _ _ _=>⟨rfl,rfl⟩) (λH E m h8 hs _=>by have:=(q H E m id).1;omega);have I3:=I2.put (i:=i) F (g':=kU B<|recvd rj.aO.ok x Z) (x':=D i) (λb hb=>hb) rfl (ay rfl) (λh=>h) (λO=>absurd rfl O) (λh=>h) (λ_ _ _ _ O=>absurd rfl O) (λ_ _ _ O=>absurd rfl O) λO=>absurd rfl O;rw[wz]at I3;have q3:nq role (λ_=>False) (bE ch rj.aO.c<|U ⟨V,ai,k+1⟩) D:=λH E m hs=>by
   obtain⟨a1,a2⟩:=q H E m hs;refine⟨a1,λy o=>?_⟩;by_cases e:E.aO.c=rj.aO.c;.rw[e,da]at o;cases o;rfl
   .rw[cX ch _ e]at o;exact a2 y o
  have q4:nq role (.=i) (bE ch rj.aO.c<|U ⟨V,ai,k+1⟩) D:=λH E m hs=>q3 H E m id;refine⟨1,md,cl,D,_,_,_,dI,B,qR<|o.trans l,⟨I3,q4.gd C,λH E QW m G9 f=>?_,hp⟩,kg F,?_,(q i rj s id).1,sH,q3,⟨by simp,?_,λ_ _=>rfl,λ_=>rfl,_,rfl⟩⟩
  .by_cases e:E.aO.c=rj.aO.c;.rw[e,da]at f;cases f;exact⟨rfl,λh=>by cases h⟩
   .rw[cX ch _ e]at f;exact⟨w H E QW m G9 f,λh=>by rw[(q H E m id).2 QW f]at h;cases h⟩
  .refine rj.aO.MD _ _ (v.at d) _ ⟨λb hb=>?_,by simp[Fu]⟩ X.2.2.2.2.1;have:=(I.own i b hb).1;have jH:rj.aO.c≠b:=λe=>by rw[<-e,iv]at this;cases this
   show(v.heap.setIfInBounds rj.aO.c _)[b]?=_;rw[nB jH];rfl
  .exact(Left.at cl _ v d).trans (λ_ _=>rfl)<|L2.sub λ_ h=>h.elim
theorem Inv.afp(I:Inv K role sp md ch cl who D T gs v)(a:sp h)(k:h<gs.size)(rh)(A:K.live=Z)(s:(D h).stage=9)(w:(D h).deaf=0)(f:∀j r,j≠h->role j=U r->r.aO.c≠rh.aO.c){g'}(l:rH K.P (h==0) rh.aO n (D h).own g' v)(d:0<n)(p:∃m,ch rh.aO.c=U m):Inv K (bE role h<|U rh) (λj=>sp j/\j≠h) md ch cl who (bE D h ⟨9,n,(D h).own,0⟩) T (gs.setIfInBounds h g') v:=by
 refine((I.put (i:=h) k (g':=g') (x':=⟨9,n,(D h).own,0⟩) (λb x=>x) w.symm (ay s.symm) λB=>by grind (λd=>absurd a d) (λ_=>s) (λ_ _ _ _ d=>absurd a d) (λ_ _ _ d=>absurd a d) λd=>absurd a d).avL a rh A (by grind[upd_same]) f).fewer λj z o=>?_;have e:=ou λe=>o ⟨z,e⟩;subst e;rw[da,da];refine⟨λy t=>?_,λr u _=>?_,λr _ C=>by grind⟩;.rw[kg k]at t;cases t;exact ay ⟨rfl,rfl,l⟩
 .cases u;obtain⟨m,q⟩:=p;exact⟨m,q,λE=>by grind⟩
theorem Inv.recvs(I:Inv K role sp md ch cl who D T gs v){x}{y}{c}(hs:¬sp x)(p:gs[x]?=U y)(t:∀r,role x=U r->(D x).stage=9->(D x).fuel=0->r.aO.c≠c):offersAt y c ai=[]:=by have f:=I.gV x y hs p;cases l:role x with|none=>rw[l]at f;exact SK (λd=>by rcases f.2.2.1.status with z|z<;>rw[z]at d<;>cases d) c ai|some r=>
  rw[l]at f;rcases f with⟨o,_,a⟩|⟨_,_,_,_,b⟩|⟨_,_,_,_,b⟩|⟨_,_,_,b⟩
  .rcases a.status with⟨q,_⟩|⟨_,s⟩;.grind[offersAt_of_not_blocked]
   .rcases a with⟨k,e,_⟩|⟨k,m,e,_⟩|⟨_,u,w,rfl,_⟩;.omega
    .omega
    .rw[offersAt_parked_recv,if_neg<|(t r l) o s]
  .have:=qp (λ_ _ x=>x.1) v (L.refl _ _) b;grind[offersAt_of_not_blocked]
  .have:=qp (λ_ _ x=>x.1) v (oS _) b;grind[offersAt_of_not_blocked]
  .exact SK (λd=>by rcases b.status with z|z<;>rw[z]at d<;>cases d) c ai
structure aG1(K:fK)(afG:Nat->Option fG)(j:Nat)(rj:fG)(x:az)(md:Md)(ch:Nat->Option fN)(cl:Nat->fe)(T:eB)(gs:Array aX)(v:ax)(md':Md)(cl':Nat->fe)(D':Nat->dn)(T':eB)(R:Array aX)(v':ax)(gj:aX)(k:Nat):Prop where
 hold:cQ K afG j md' (bE ch rj.aO.c<|U ⟨V,ai,k⟩) cl' (.hold j) D' T' R v'
 mI:R[j]?=U (kU gj<|recvd rj.aO.ok x Z)home:rj.aO.home (D' j).own gj v'
 nine:(D' j).stage=9
 deaf:(D' j).deaf=0
 wM:nq afG (λ_=>False) (bE ch rj.aO.c<|U ⟨V,ai,k⟩) D'
 passed:xI md cl T gs v md' cl' T' R v'
theorem cQ.send(H:cQ K role h md ch cl (.hold h) D T gs v)(q:nq role (.=h) ch D)(hl:K.live=Z){a I:aX}{x z:az}{c:Nat}(ha:gs[h]?=U a)(Oe:a.status=dN)(ajg:∀w1,cj K.P (h==0) a w1=.comm I #[scase c x z] Z .send w1 #[]){rj:fG}(E:j≠h)(X:role j=U rj)(hcj:rj.aO.c=c)(aJw:j<gs.size)(rh:fG)(h9:(D h).stage=9)(h0:(D h).deaf=0)(aac:rH K.P (h==0) rh.aO n (D h).own (kU I ak) v)(hn:0<n){kh:Nat}(M:ch rh.aO.c=U ⟨V,ai,kh⟩)(aaW:rh.aO.c≠c)(ajc:∀i r,i≠h->role i=U r->r.aO.c≠rh.aO.c)(C:Du K (bE role h<|U rh) D)(sl:Option<|Nat×Nat):∃N md' cl' D' T' R v' dI Q1 k,ic K.P N (dw gs v sl) T=(fR<|dw R v' dI,T')/\aG1 K (bE role h<|U rh) j rj x md ch cl T gs v md' cl' D' T' R v' Q1 k:=by
 obtain⟨N,iq,F,ie,J,T1,QW,Q,d,qg,gH,r1,Oi,rf,W,G1,K8,L1⟩:=H.picked ha Oe sl;obtain⟨rfl,q1⟩:=G1.calm q;have I1:=W.inv.at d;have OH:h<QW.size:=(dm.1 rf).1;have A:j<QW.size:=by rw[G1.size];grind
 obtain⟨y,hy⟩:∃y,QW[j]?=U y:=⟨_,gW A⟩;have ho:=I1.gV j y E hy;rw[X]at ho;obtain⟨j9,jsh⟩:=q1 j rj X E;have ajh:rH K.P (h==0) rh.aO n (J h).own (kU I ak)<|Q.at d:=by rw[K8];refine aac.rely<|L.trans _ _ _ ⟨λb Q0=>?_,L1.size⟩<|L.at _ _ d;obtain⟨e1,Q2⟩:=H.inv.own h b Q0;exact L1.block b Q2<|aB<|aB ⟨h,rfl,e1⟩
 have TW:(J h).stage=9:=by grind
 have sH:(J h).deaf=0:=by grind
 have azs:(J j).deaf=0:=by rcases ho with⟨_,e,_⟩|⟨h8,_⟩|⟨h7,_⟩|⟨h7,_⟩<;>first|grind|omega
 have aAz:rH K.P (j==0) rj.aO (J j).fuel (J j).own y<|Q.at d:=by rcases ho with⟨_,_,e⟩|⟨h8,_⟩|⟨h7,_⟩|⟨h7,_⟩<;>first|grind|omega
 obtain⟨st,fL,aI5⟩:=I1.oz j rj X j9 E;obtain⟨hbn,_⟩:=W.vf j rj st X E fL;have hsn:=jsh st fL;obtain⟨k,rfl⟩:∃k,st=⟨V,ai,k⟩:=by obtain⟨b,s,k⟩:=st;grind
 subst hcj;obtain⟨yh,iv,wZ⟩:=I1.chan _ _ fL;have Hj:=pC yh;have aj7:(Q.at d).heap[rj.aO.c]?=U (.chan 1 #[] ai k k ai):=yh;have hdT:Deaf T1 h=0:=by rw[W.inv.deaf h OH];grind
 have aB1:Deaf T1 j=0:=by rw[W.inv.deaf j A];grind
 have t:∀i r,role i=U r->(J i).stage=9->i≠j->r.aO.c≠rj.aO.c:=λi r l P Cw e=>Cw<|I1.uniq i j r rj l X P j9 e;have p:∀i,i≠h->bE role h (U rh) i=role i:=λi hi=>cX role _ hi;have amQ:∀D2:Nat->dn,(∀i,(D2 i).stage=(J i).stage)->Du K (bE role h<|U rh) D2:=λD2 h2=>⟨C.outs,C.end_,λn'=>by have e:V2 n' D2=V2 n' J:=Bf λi _ _=>h2 i;rw[e];exact W.gd.qI n'⟩;have WH:∀i,(bE J h ⟨9,n,(J h).own,0⟩ i).stage=(J i).stage:=λi=>by grind[upd_same,upd_ne]
 have S:∀k' b',nq (bE role h<|U rh) (λ_=>False) (bE F rj.aO.c<|U ⟨b',ai,k'⟩)<|bE J h ⟨9,n,(J h).own,0⟩:=λk' b' i r l _=>by
  have mM:∀c' o,(F c'=U o->o.shut=ai)->bE F rj.aO.c (U ⟨b',ai,k'⟩) c'=U o->o.shut=ai:=λc' o h1 h2=>by
   by_cases e:c'=rj.aO.c;.rw[e,da]at h2;cases h2;rfl
   grind[upd_ne]
  rw[WH];by_cases e:i=h;.subst e;rw[da]at l;cases l;exact⟨TW,λo f=>mM _ _ λh1=>by rw[M]at h1;cases h1;rfl f⟩
  .rw[p i e]at l;obtain⟨a1,a2⟩:=q1 i r l e;exact⟨a1,λo f=>mM _ _ (a2 o) f⟩
 have agm:∀{T2:eB}{xp:Array aX}{v2:ax},xp.size=QW.size->Left ie (λ_=>False) (Q.at d) v2->(∃u,T2=T1++u)->xI md cl T gs v iq ie T2 xp v2:=λh1 h2 h3=>G1.passed.trans ⟨h1,(Left.at ie _ Q d).trans (λ_ _=>rfl) h2,λ_ _=>rfl,λ_=>rfl,h3⟩;by_cases hf:(J j).fuel=0
 .rcases aAz with⟨k',e,_⟩|⟨k',m,e,_⟩|⟨_,g0,Q1,rfl,lI⟩;.omega
  .omega
  have hp:partners (QW.setIfInBounds h ph) rj.aO.c ai=[(j,0)]:=by
   rw[partners_one (stand_get (i:=h) E hy) λi y' Cw AK=>?_];.rw[offersAt_parked_recv,cJ rfl];rfl
   .rcases YS QW h i y' AK with⟨_,rfl⟩|⟨Q3,Cn⟩;.exact offersAt_ph _ _
    .exact I1.recvs Q3 Cn λr l P _=>t i r l P Cw
  have B:=crowd_send_meets (sl:=gH) rf (ajg<|Q.at d) aj7 E hy hp;rw[SJ,finishComm_send,Ej,Kx]at B;have qk:=ahx h j I.frame.fn I.frame.place Q1.frame.fn Q1.frame.place rj.aO.c k 1;have KO:∀op∈metAt h j I.frame.fn I.frame.place Q1.frame.fn Q1.frame.place rj.aO.c k 1,op.act.low Q.heap.size:=λop w=>by simp only[metAt,fQ,di,dJ,dQ]at w;rcases w with rfl|rfl|rfl|rfl<;>exact Hj
  have oA:∀op∈metAt h j I.frame.fn I.frame.place Q1.frame.fn Q1.frame.place rj.aO.c k 1,op.act≠.mark (.release<|stA K.Wg):=λop w=>by simp only[metAt,fQ,di,dJ,dQ]at w;rcases w with rfl|rfl|rfl|rfl<;>simp
  have I2:=(I1.mute qk KO oA).pass<|Tr.give W.inv.tr hdT aB1 I.frame.fn I.frame.place Q1.frame.fn Q1.frame.place k 1 Hj;obtain⟨I3,L3⟩:=(I2.more (sp':=λi=>i=h\/i=j) λ_ h=>ay h).MM (c:=rj.aO.c) (st':=⟨V,ai,k+1⟩) fL (v':=(Q.at d).setChan rj.aO.c 1 #[] ai (k+1) (k+1) ai) rfl (λ_ _ _ _ _ _ _=>⟨rfl,rfl⟩) (λi r l h8 hs _=>by have:=(q1 i r l λe=>hs<|ay e).1;omega);have I4:=I3.put (i:=j) A (g':=kU Q1<|recvd rj.aO.ok x Z) (x':=J j) (λb Q0=>Q0) rfl (ay rfl) (λh=>h) (λhn=>absurd (aB rfl) hn) (λh=>h) (λ_ _ _ _ hn=>absurd (aB rfl) hn) (λ_ _ _ hn=>absurd (aB rfl) hn) λhn=>absurd (aB rfl) hn;rw[wz]at I4;have oY:∀O,(∀b∈O,∃i,ie b=.own i)->L O (Q.at d) ((Q.at d).setChan rj.aO.c 1 #[] ai (k+1) (k+1) ai):=λO hO=>⟨λb Q0=>by
   obtain⟨i,hi⟩:=hO b Q0;have Q3:rj.aO.c≠b:=λe=>by rw[<-e,iv]at hi;cases hi
   show(Q.heap.setIfInBounds rj.aO.c _)[b]?=_;rw[nB Q3];rfl,by simp[Fu]⟩;have I5:=I4.afp (h:=h) (n:=n) (ay rfl) (by simpa using OH) rh hl TW sH ajc (g':=kU I ak) (ajh.rely<|oY _ λb Q0=>⟨h,(W.inv.own h b Q0).1⟩) hn ⟨⟨V,ai,kh⟩,by rw[cX F _ aaW];exact M⟩;have I6:=I5.more (sp':=(.=j)) λi hi=>hi.1.resolve_left hi.2;refine⟨N+1,iq,ie,_,_,_,_,gH,Q1,k+1,runNT_then r1<|qR<|Oi.trans B,⟨I6,nq.gd (λi r l hs=>S (k+1) V i r l id)<|amQ _ WH,λi r o l hs f=>?_,W.bound⟩,?_,?_,?_,?_,S _ _,agm (by simp) (L3.sub λ_ h=>h.elim) ⟨_,rfl⟩⟩
  .by_cases e:r.aO.c=rj.aO.c;.rw[e,da]at f;cases f;exact⟨rfl,λh=>by cases h⟩
   .rw[cX F _ e]at f;by_cases Q2:i=h;.subst Q2;rw[da]at l;cases l;rw[M]at f;cases f;exact⟨rfl,λh=>by cases h⟩
    .rw[p i Q2]at l;exact W.vf i r o l Q2 f
  .rw[nB λe=>E e.symm];exact kg A
  .rw[cX J _ E];exact rj.aO.MD _ _ _ _ (oY _ λb Q0=>⟨j,(W.inv.own j b Q0).1⟩) lI.2.2.2.2.1
  .rw[cX J _ E];exact j9
  .rw[cX J _ E];exact azs
 .have hp:partners (QW.setIfInBounds h ph) rj.aO.c ai=[]:=partners_nil λi y' AK=>by
   rcases YS QW h i y' AK with⟨_,rfl⟩|⟨Q3,Cn⟩;.exact offersAt_ph _ _
   .refine I1.recvs Q3 Cn λr l P OF=>?_;by_cases e:i=j;.subst e;exact absurd OF hf
    .exact t i r l P e
  have B:=crowd_send_room (sl:=gH) rf (ajg<|Q.at d) aj7 (by simp) hp;rw[finishComm_send,Ej,Kx]at B;have qk:=afk h I.frame.fn I.frame.place rj.aO.c k;have KO:∀op∈yI h I.frame.fn I.frame.place rj.aO.c k,op.act.low Q.heap.size:=λop w=>by simp only[yI,fQ,di,dJ,dQ]at w;rcases w with rfl|rfl<;>exact Hj
  have oA:∀op∈yI h I.frame.fn I.frame.place rj.aO.c k,op.act≠.mark (.release<|stA K.Wg):=λop w=>by simp only[yI,fQ,di,dJ,dQ]at w;rcases w with rfl|rfl<;>simp
  obtain⟨t1,t2⟩:=Tr.put W.inv.tr hdT I.frame.fn I.frame.place k Hj;have I2:=(I1.mute qk KO oA).pass t1;obtain⟨I3,L3⟩:=I2.MM (c:=rj.aO.c) (st':=⟨U x,ai,k⟩) fL (v':=(Q.at d).setChan rj.aO.c 1 #[x] ai (k+1) k ai) rfl (λi r l P hs e OF=>by
    by_cases Q2:i=j;.subst Q2;exact absurd OF hf
    .exact absurd e<|t i r l P Q2) (λi r l h8 hs _=>by have:=(q1 i r l hs).1;omega);have oY:∀O,(∀b∈O,∃i,ie b=.own i)->L O (Q.at d) ((Q.at d).setChan rj.aO.c 1 #[x] ai (k+1) k ai):=λO hO=>⟨λb Q0=>by
   obtain⟨i,hi⟩:=hO b Q0;have Q3:rj.aO.c≠b:=λe=>by rw[<-e,iv]at hi;cases hi
   show(Q.heap.setIfInBounds rj.aO.c _)[b]?=_;rw[nB Q3];rfl,by simp[Fu]⟩;have I5:=I3.afp (h:=h) (n:=n) rfl OH rh hl TW sH ajc (g':=kU I ak) (ajh.rely<|oY _ λb Q0=>⟨h,(W.inv.own h b Q0).1⟩) hn ⟨⟨V,ai,kh⟩,by rw[cX F _ aaW];exact M⟩;have I6:=I5.fewer (sp:=λ_=>False) λi hi=>absurd hi.1 hi.2;obtain⟨N2,wL,l7,D2,T2,xp,v2,DR,Q1,f1,f2,f3,f4,f5,f6,f7,f8⟩:=Inv.aDq (j:=j) (rj:=rj) (k:=k) (x:=x) (by rw[p j E];exact X) _ _ _ _ _ _ _ _ gH rfl I6 (S k<|U x) (amQ _ WH) (by rw[da]) t2 (λi r o l Cw f=>by
    by_cases Q2:i=h;.subst Q2;rw[da]at l;cases l;rw[cX F _ aaW,M]at f;cases f;rfl
    .rw[p i Q2]at l;have e:=t i r l (q1 i r l Q2).1 Cw;rw[cX F _ e]at f;exact(W.vf i r o l Q2 f).1) (by simpa using A) W.bound;have hup:bE (bE F rj.aO.c<|U ⟨U x,ai,k⟩) rj.aO.c (U ⟨V,ai,k+1⟩)=bE F rj.aO.c (U ⟨V,ai,k+1⟩):=funext λb=>by unfold bE;split<;>rfl
  rw[hup]at f2 f7;exact⟨N+(1+N2),wL,l7,D2,T2,xp,v2,DR,Q1,k+1,runNT_then r1<|runNT_then (qR<|Oi.trans B) f1,f2,f3,f4,f5,f6,f7,(agm (by simp) (L3.sub λ_ h=>h.elim) ⟨_,rfl⟩).trans f8⟩
theorem afh(h)(fn)(a)(c):iQ h fn a (kS c)=od h fn a c:=by simp[iQ,kS,od,iz]
theorem aoJ{P}{a a'}(c:mayWake P a=Z)(b:a'.status=dN)(w)(y):woken P a a' w y=y.again w:=by unfold woken;grind
theorem oN.aoU{P}{c}{q j}{r}{x}{y}{w w1}(h:oN P c q (U r) j x y w)(C:L x.own w w1)(J:jN c.tWg q w->jN c.tWg q w1){cap a b}{buf}{tm}(E:w1.heap[r.aO.c]?=U (.chan cap buf Z a b tm)):∃l,l.stage=x.stage/\l.own=x.own/\l.deaf=x.deaf/\oN P c q r j l (y.again w1) w1/\(l.stage=9->0<l.fuel):=by
 rcases(h.rely C λ_=>J)with⟨t,f,s⟩|⟨B,f,p,o,d⟩|⟨F,f,p,o,d⟩|⟨A,p,o,s⟩
 .rcases s with⟨k,e,d⟩|⟨k,m,e,H,d⟩|⟨e,M,I,rfl,u⟩;.rw[yZ _<|ay<|qp (λ_ _ x=>x.choose_spec.1) w1 (L.refl _ _) d];exact⟨x,rfl,rfl,rfl,ay ⟨t,f,ay ⟨k,e,d⟩⟩,λ_=>by omega⟩
  .rw[yZ _<|ay<|qp (λ_ _ x=>x.1) w1 (L.refl _ _) d];exact⟨x,rfl,rfl,rfl,ay ⟨t,f,aB<|ay ⟨k,m,e,H,d⟩⟩,λ_=>by omega⟩
  .rw[again_recv_closed E];refine⟨⟨9,1,x.own,0⟩,t.symm,rfl,f.symm,ay ⟨rfl,rfl,ay ⟨0,rfl,?_⟩⟩,λ_=>Nat.one_pos⟩;exactλN z=>⟨I,(u.rely z).tries _ _⟩
 .rw[yZ _<|ay<|qp (λ_ _ x=>x.1) w1 (L.refl _ _) d];exact⟨x,rfl,rfl,rfl,aB<|ay ⟨B,f,p,o,d⟩,λh=>by omega⟩
 .rw[yZ _<|ay<|qp (λ_ _ x=>x.1) w1 (oS _) d];exact⟨x,rfl,rfl,rfl,aB<|aB<|ay ⟨F,f,p,o,d⟩,λh=>by omega⟩
 .rw[yZ _ s.status];exact⟨x,rfl,rfl,rfl,aB<|aB<|aB ⟨A,p,o,s⟩,λh=>by omega⟩
theorem afj{t:Type}(a:Array t)(i)(x)(h:a[i]?=U x):a.setIfInBounds i x=a:=by grind
theorem cQ.closes(H:cQ K role h md ch cl (.hold h) D T gs v)(hl:K.live=Z){a g':aX}{c k:Nat}(ha:gs[h]?=U a)(S:a.status=dN)(ZS:mayWake K.P a=Z)(OJ:g'.status=dN)(z:∀w1,L (D h).own v w1->w1.heap[c]?=U (.chan 1 #[] ai k k ai)->jN K.L.tWg K.Wg w1->cj K.P (h==0) a w1=bV g' (w1.setChan c 1 #[] Z k k ai) (kS c))(hc:ch c=U ⟨V,ai,k⟩){rj:fG}(t:j≠h)(x:role j=U rj)(A:rj.aO.c=c)(P:j<gs.size)(huq:∀i r,role i=U r->i≠h->r.aO.c=c->i=j)(AL:∀i r,role i=U r->i≠h->r.out≠c)(h0:(D h).deaf=0)(h7:h≠0->7<=(D h).stage)(oY:role h=V->h=0)(sl:Option<|Nat×Nat):∃N iq o ie l M f m dI fn pl w Q,ic K.P N (dw gs v sl) T=(fR<|dw w (m.setChan c 1 #[] Z k k ai) dI,M++od h fn pl c)/\cQ K role h iq o ie (.hold h) l M f m/\kG role h md ch cl D T gs v iq o ie l M f m/\l h=D h/\Left cl (.=h) v m/\o c=U ⟨V,ai,k⟩/\Inv K role (.=h) iq (bE o c<|U ⟨V,Z,k⟩) ie (.hold h) Q (M++od h fn pl c) w (m.setChan c 1 #[] Z k k ai)/\w[h]?=U g'/\w.size=f.size/\Q h=l h/\(∀i,(Q i).stage=(l i).stage/\(Q i).own=(l i).own/\(Q i).deaf=(l i).deaf)/\((l j).stage=9->0<(Q j).fuel)/\Left ie (.=h) m (m.setChan c 1 #[] Z k k ai):=by
 obtain⟨N,iq,o,ie,l,M,f,m,d,qg,gH,r1,Oi,rf,H1,G1,E,L1⟩:=H.picked ha S sl;have Hd:=H1.at d;have O:=Hd.inv;have OH:h<f.size:=by grind
 have B:j<f.size:=by rw[G1.size];exact P
 obtain⟨y,hy⟩:∃y,f[j]?=U y:=⟨_,gW B⟩;have ho:=O.gV j y t hy;rw[x]at ho;have C:o c=U ⟨V,ai,k⟩:=by rw[<-A,G1.eZ j rj x t,A];exact hc
 obtain⟨yh,iv,wZ⟩:=O.chan _ _ C;have Y:=pC yh;have X:(m.at d).heap[c]?=U (.chan 1 #[] ai k k ai):=yh;have I:=L1.trans G1.cls<|Left.at ie _ m d;have R:L (D h).own v<|m.at d:=⟨λb F=>by obtain⟨e1,e2⟩:=H.inv.own h b F;exact I.block b e2<|aB<|aB ⟨h,rfl,e1⟩,I.size⟩;have hgo:=z (m.at d) R X<|O.live hl;let v2:=(m.at d).setChan c 1 #[] Z k k ai;have W:c<v2:=by simpa[v2,Fu]using Y
 obtain⟨I2,L2⟩:=(O.more (sp':=λi=>i=h\/i=j) λ_ h=>ay h).MM (c:=c) (st':=⟨V,Z,k⟩) C (v':=v2) rfl (λi r u h9 hs e _=>absurd (aB<|huq i r u (λe=>hs<|ay e) e) hs) λi r u h8 hs e=>absurd e<|AL i r u λe=>hs<|ay e;obtain⟨I3,_⟩:=I2.go_step (v':=v2) (g':=g') (es:=kS c) (x':=l h) (md':=iq) (cl':=ie) rf (aQ _) (λ_ _ _=>rfl) (λ_ _=>rfl) (λb F=>I2.own h b F) (amJ W iv) amI (by rw[E,h0];exact amK 0) (λu h0=>absurd (oY u) h0) (λq=>absurd (ay rfl) q) (λh9=>⟨h9,λq=>absurd (ay rfl) q⟩) (λ_ q=>absurd (ay rfl) q) (λhl=>by obtain⟨st,sm,hw,nH⟩:=I2.wg hl;exact⟨st,sm,hw,by rw[wz];exact nH⟩) (λr u hh h6=>by have:=h7 (by omega);rw[E]at h6;omega);rw[wz,afh]at I3;have J:((f.map<|woken K.P a g' v2).setIfInBounds h g')[h]?=g':=kg (by simpa using OH);have hgj:((f.map<|woken K.P a g' v2).setIfInBounds h g')[j]?=y.again v2:=by rw[nB λe=>t e.symm,qV,hy,ee,aoJ ZS OJ]
 have p:L (l j).own (m.at d) v2:=⟨λb F=>by
  have:=(O.own j b F).1;have jH:c≠b:=λe=>by rw[<-e,iv]at this;cases this
  show(m.heap.setIfInBounds c _)[b]?=_;rw[nB jH];rfl,by simp[v2,Fu]⟩;obtain⟨x2,e1,e2,e3,zm,ajv⟩:=ho.aoU p (λ_=>I2.live hl) (cap:=1) (a:=k) (b:=k) (buf:=#[]) (tm:=ai) (by rw[A];show(m.heap.setIfInBounds c _)[c]?=_;exact kg Y);have I4:=I3.put (i:=j) (by grind) (g':=y.again v2) (x':=x2) (λb F=>by rw[<-e2];exact F) e3 (ay e1) λh=>by grind (λq=>absurd (aB rfl) q) λh=>by grind (λ_ _ _ _ q=>absurd (aB rfl) q) (λ_ _ _ q=>absurd (aB rfl) q) λq=>absurd (aB rfl) q;rw[afj _ _ _ hgj]at I4;have I5:=I4.fewer (sp:=(.=h)) λi hi hns=>by
  have e:i=j:=by grind
  subst e;rw[da];refine⟨λy' AK=>?_,λr u h9=>?_,λr u h8=>?_⟩;.grind
  .grind[upd_same]
  .obtain⟨k',hk'⟩:=O.out i r u (by grind) t;grind[upd_ne]
 have Cp:∀i,(bE l j x2 i).stage=(l i).stage/\(bE l j x2 i).own=(l i).own/\(bE l j x2 i).deaf=(l i).deaf:=λi=>by grind[upd_same,upd_ne]
 exact⟨N+1,iq,o,ie,l,M,f,m.at d,gH,_,_,_,_,by rw[<-afh];grind[runNT_then,qR,runT_crowd_go],Hd,G1.trans<|kG.at _ _ _ _ _ _ _ _ _ d,E,I,C,I5,J,by simp,cX l _ λe=>t e.symm,Cp,λh9=>by grind[upd_same],L2.sub λ_ h=>ay h⟩
structure Found(K:fK)(role:Nat->Option fG)(rm:fG)(md:Md)(ch:Nat->Option fN)(cl:Nat->fe)(D:Nat->dn)(T:eB)(gs:Array aX)(v:ax)(md':Md)(z:Nat->Option fN)(cl':Nat->fe)(D':Nat->dn)(T':eB)(R:Array aX)(v':ax)(g0:aX):Prop where
 hold:cQ K role 0 md' z cl' (.hold 0) D' T' R v'
 mI:R[0]?=U (kU g0<|recvd rm.aO.ok rm.aO.z ai)home:rm.aO.home (D' 0).own g0 v'
 nine:(D' 0).stage=9
 deaf:(D' 0).deaf=0
 eZ:∀j r,role j=U r->z r.aO.c=ch r.aO.c
 outs:∀j r,role j=U r->(D' j).stage=9->z r.out=ch r.out
 k9:∀j r st,role j=U r->ch r.aO.c=U st->st.shut=ai->(D j).stage=9->(D' j).stage=9
 iF:∀j,(D' j).stage=9->(D j).stage=9
 passed:xI md cl T gs v md' cl' T' R v'
theorem Inv.found{rm:fG}{k p:Nat}(A:role 0=U rm):∀(J:Nat×Nat)(md:Md)(ch:Nat->Option fN)(cl:Nat->fe)(D:Nat->dn)(T:eB)(gs:Array aX)(v:ax)(sl:Option<|Nat×Nat),oL gs.size D=J->Inv K role (λ_=>False) md ch cl (.pt p) D T gs v->oP K role (λ_=>False) ch D->ch rm.aO.c=U ⟨V,Z,k⟩->FO T rm.aO.c p->(∀i r o,role i=U r->i≠0->ch r.aO.c=U o->o.buf=V)->(D 0).stage=9->(∀p,md=.opn p->p<=2)->∃N md' z cl' D' T' R v' dI M,ic K.P N (dw gs v sl) T=(fR<|dw R v' dI,T')/\Found K role rm md ch cl D T gs v md' z cl' D' T' R v' M:=by
 intro J;refine(Prod.lex IA IA).wf.induction (C:=λJ=>∀(md:Md)(ch:Nat->Option fN)(cl:Nat->fe)(D:Nat->dn)(T:eB)(gs:Array aX)(v:ax)(sl:Option<|Nat×Nat),oL gs.size D=J->Inv K role (λ_=>False) md ch cl (.pt p) D T gs v->oP K role (λ_=>False) ch D->ch rm.aO.c=U ⟨V,Z,k⟩->FO T rm.aO.c p->(∀i r o,role i=U r->i≠0->ch r.aO.c=U o->o.buf=V)->(D 0).stage=9->(∀p,md=.opn p->p<=2)->∃N md' z cl' D' T' R v' dI M,ic K.P N (dw gs v sl) T=(fR<|dw R v' dI,T')/\Found K role rm md ch cl D T gs v md' z cl' D' T' R v' M) J ?_;intro J ih md ch cl D T gs v sl ZL I C hc w y h9 hp;have aBP:0<(D 0).fuel:=by
  rcases aiy (D 0).fuel with E|E;.obtain⟨o,f,hb⟩:=I.oz 0 rm A h9 id;grind
  grind
 have q:0<gs.size:=I.zero;have ho:=I.gV 0 _ id<|gW q;rw[A]at ho;have O:(gs[0]'q).status=dN:=by
  rcases ho with⟨_,_,Q0⟩|⟨h8,_⟩|⟨h7,_⟩|⟨h7,_⟩
  .rcases Q0.status with⟨h1,_⟩|⟨_,h1⟩;.grind
   grind
  .omega
  .omega
  grind
 have Q:(D 0).deaf=0:=by rcases ho with⟨_,e,_⟩|⟨h8,_⟩|⟨h7,_⟩|⟨h7,_⟩<;>first|grind|omega
 obtain⟨i,g,d,dI,hi,hg,f⟩:=NM (P:=K.P) (w:=v) (sl:=sl) (I.awake Jr) ⟨0,_,gW q,O⟩;rcases(I.at d).other (sl:=dI) C Jr id hi hg hp with⟨md',z,cl',D',T',R,v',S,C',OS,ZP⟩|⟨r,B,o,l,hi9,Q2,x,t⟩;.obtain⟨ops,m,rfl⟩:=S.run;have L:=(pJ.at I C d).trans<|(I.at d).later id hi S C' OS ZP;obtain⟨N,wL,qG,l7,D2,T2,xp,v2,gH,M,f1,F⟩:=ih (oL R.size D') (by rw[<-ZL,S.size];exact S.lt) md' z cl' D' _ R v' dI rfl S.inv C' ((L.eZ 0 rm A id).trans hc) (w.app _) (λi r o l E f=>y i r o l E<|by rw[<-L.eZ i r l id];exact f) (L.k9 0 rm _ A id hc (aB rfl) h9) λp Ol=>hp p<|L.opn p Ol;refine⟨N+1,wL,qG,l7,D2,T2,xp,v2,gH,M,?_,F.hold,F.mI,F.home,F.nine,F.deaf,λj r l=>(F.eZ j r l).trans<|L.eZ j r l id,λj r l s=>(F.outs j r l s).trans<|L.outs j r l<|F.iF j s,λj r o l f hs s=>F.k9 j r o l ((L.eZ j r l id).trans f) hs<|L.k9 j r o l id f (ay hs) s,λj hj=>L.iF j<|F.iF j hj,xI.trans ⟨S.size,L.left,L.cls,L.J4,_,rfl⟩ F.passed⟩;simp only[ic,f,m];grind
 .have OF:i=0:=by
   by_cases e:i=0;.exact e
   .have:=y i r o l e x;rcases t with t|⟨_,_,t⟩;.exact absurd this t
    .exact t
  subst OF;rw[A]at l;cases l;rw[hc]at x;cases x;obtain⟨c,iv,wZ⟩:=I.chan _ _ hc;have W:=pC c;have X:(v.at d).heap[rm.aO.c]?=U (.chan 1 #[] Z k k ai):=c;have m:=crowd_recv_closed (sl:=dI) hi (Q2.2.2.2.2.2<|v.at d) X<|(I.at d).Sq Jr _;rw[SJ,Ej,Kx]at m;have Hv:Deaf T 0=0:=by rw[I.deaf 0 q];exact Q
  have qk:=abv 0 B.frame.fn B.frame.place rm.aO.c;have Q1:∀a∈vN 0 B.frame.fn B.frame.place rm.aO.c,a.act.low v.heap.size:=λa u=>by simp only[vN,fQ,di,dJ,dQ]at u;subst u;exact W
  have oA:∀a∈vN 0 B.frame.fn B.frame.place rm.aO.c,a.act≠.mark (.release<|stA K.Wg):=λa u=>by simp only[vN,fQ,di,dJ,dQ]at u;subst u;simp
  have I1:=((I.at d).mute qk Q1 oA).pass<|Tr.found I.tr w Hv B.frame.fn B.frame.place W;have I3:=(I1.more (sp':=(.=0)) λ_ h=>h.elim).put (i:=0) q (g':=kU B<|recvd rm.aO.ok rm.aO.z ai) (x':=D 0) (λb hb=>hb) rfl (ay rfl) (λh=>h) (λH=>absurd rfl H) (λh=>h) (λ_ _ _ _ H=>absurd rfl H) (λ_ _ _ H=>absurd rfl H) λH=>absurd rfl H;rw[wz]at I3;refine⟨1,md,ch,cl,D,_,_,_,dI,B,qR<|f.trans m,⟨I3,⟨λi r l E hs hx j r' hr' G9=>C.a i r l E id hx j r' hr' id,λi r o l E hs s f mM=>C.b i r o l E id s f mM,C.outs,C.end_,C.qI⟩,λj r o l hj f=>⟨y j r o l hj f,λ_=>Tj hj⟩,hp⟩,kg q,Q2.2.2.2.2.1,h9,Q,λ_ _ _=>rfl,λ_ _ _ _=>rfl,λ_ _ _ _ _ _ h=>h,λ_ h=>h,⟨by simp,Left.at cl _ v d,λ_ _=>rfl,λ_=>rfl,_,rfl⟩⟩
theorem cQ.aun(H:cQ K role h md ch cl (.hold h) D T gs v)(q:nq role (.=h) ch D)(hl:K.live=Z){a:aX}{r rm:fG}{k:Nat}(hr:role h=U r)(I:role 0=U rm)(hh:h≠0)(lI:Ag K.P K.L K.Wg r (D h).own a v)(ha:gs[h]?=U a)(J:rm.aO.c=r.out)(hc:ch r.out=U ⟨V,ai,k⟩)(h9:(D h).stage=9)(h0:(D h).deaf=0)(hC:r.C∈(D h).own)(C:∀i l,role i=U l->i≠h->l.aO.c=r.out->i=0)(AL:∀i l,role i=U l->i≠h->l.out≠r.out)(hz:0<gs.size){kr:Nat}(hcr:ch r.aO.c=U ⟨V,ai,kr⟩)(sl:Option<|Nat×Nat):∃N md' z cl' D' T' R v' dI Q2,ic K.P N (dw gs v sl) T=(fR<|dw R v' dI,T')/\Found K role rm md (bE ch r.out<|U ⟨V,Z,k⟩) cl (bE D h ⟨7,0,[],0⟩) T gs v md' z cl' D' T' R v' Q2:=by
 obtain⟨har,TI,g',OJ,jJ⟩:=lI;have c:(h==0)=ai:=by grind
 obtain⟨N,iq,Q1,ie,D1,T1,uu,v1,qg,fn,pl,xp,w,r1,x,G1,B,L1,um,I2,E,ga,Un,S,ajv,L2⟩:=H.closes (j:=0) (rj:=rm) hl ha har TI OJ λw1 ez jW ug=>by grind hc (λe=>hh e.symm) I J hz C AL h0 λ_=>by omega λe=>by grind sl;obtain⟨rfl,W⟩:=G1.calm q;have M:L (D h).own v v1:=⟨λb c=>by obtain⟨e1,e2⟩:=H.inv.own h b c;exact L1.block b e2<|aB<|aB ⟨h,rfl,e1⟩,L1.size⟩;obtain⟨P,iv,wZ⟩:=x.inv.chan _ _ um;obtain⟨_,m,hW⟩:=jJ v1 k M P<|x.inv.live hl;have lH:h<uu.size:=by grind
 have Q:h<xp.size:=(dm.1 E).1;have TW:(w h).stage=9:=by grind
 have hdd:(w h).deaf=0:=by grind
 obtain⟨t1,t2⟩:=Tr.shut x.inv.tr (by rw[x.inv.deaf h lH,B];grind) fn pl (pC P) iv;have I3:=(I2.pass (Bx:=.pt<|T1.size+1)<|by simpa[Fu]using t1).put (i:=h) Q (g':=g') (x':=⟨7,m,(w h).own,0⟩) (λb c=>c) hdd.symm (aB ⟨by simp,by omega⟩) λh=>by grind (λhn=>absurd rfl hn) λh=>by grind λ_ _ _ h=>by grind λ_ _ h=>by grind (λ_ h=>by grind);rw[afj _ _ _ E]at I3;have I4:=I3.fewer (sp:=λ_=>False) λi hi hns=>by subst hi;rw[da];refine⟨λy hy=>?_,λ_ _ h=>by grind,λ_ _ h=>by simp at h⟩;rw[E]at hy;cases hy;rw[hr];exact aB<|aB<|ay ⟨rfl,rfl,by omega,by rw[Un,B];exact hC,hW⟩
 have t:∀i,i≠h->(bE w h ⟨7,m,(w h).own,0⟩ i).stage=(D1 i).stage:=λi hi=>by rw[cX w _ hi];exact(S i).1
 have C4:oP K role (λ_=>False) (bE Q1 r.out<|U ⟨V,Z,k⟩)<|bE w h ⟨7,m,(w h).own,0⟩:=by
  have A:∀i l,role i=U l->0<i->(bE w h ⟨7,m,(w h).own,0⟩ i).stage=9->∀p,bE Q1 r.out (U ⟨V,Z,k⟩) l.aO.c=U p->p.shut=ai:=λi l f s o p d=>by
   have Q0:i≠h:=λe=>by subst e;rw[da]at o;simp at o
   have jH:l.aO.c≠r.out:=λe=>by have:=C i l f Q0 e;omega
   rw[cX Q1 _ jH]at d;exact(W i l f Q0).2 p d
  refine⟨λi l f s _ hx=>?_,λi l p f s _ o d u=>?_,x.gd.outs,x.gd.end_,λn'=>?_⟩
  .exfalso;rcases hx with h8|⟨o,p,d,u⟩
   .by_cases e:i=h;.subst e;rw[da]at h8;simp at h8
    .rw[t i e]at h8;have:=(W i l f e).1;omega
   .rw[A i l f s o p d]at u;cases u
  .rw[A i l f s o p d]at u;cases u
  .refine bC (FM λi=>?_)<|x.gd.qI n';by_cases e:i=h;.subst e;rw[da,B,h9];simp
   .rw[t i e];exact aQ _
 obtain⟨N2,wL,qG,l7,D3,T2,Ut,v3,DR,Q2,f1,F⟩:=Inv.found I _ _ _ _ _ _ _ _ qg rfl I4 C4 (by rw[J,da]) (by rw[J];exact t2) (λi l p f s d=>by
   by_cases e:l.aO.c=r.out;.rw[e,da]at d;cases d;rfl
   .rw[cX Q1 _ e]at d;by_cases eh:i=h;.subst eh;rw[hr]at f;cases f;rw[hcr]at d;cases d;rfl
    .exact(x.vf i l p f eh d).1) (by rw[t 0 λe=>hh e.symm];exact(W 0 rm I λe=>hh e.symm).1) x.bound;refine⟨N+N2,wL,qG,l7,D3,T2,Ut,v3,DR,Q2,runNT_then r1 f1,F.hold,F.mI,F.home,F.nine,F.deaf,F.eZ,F.outs,λj l p f d hs O=>F.k9 j l p f d hs ?_,λj hj=>?_,(G1.passed.trans ⟨ga,L2.sub λ_ h=>h.elim,λ_ _=>rfl,λ_=>rfl,_,rfl⟩).trans F.passed⟩
 .by_cases e:j=h;.subst e;rw[da]at O;simp at O
  .rw[t j e];exact(W j l f e).1
 .have X:=F.iF j hj;by_cases e:j=h;.subst e;rw[da]at X;simp at X
  .rw[t j e]at X;rw[cX D _ e];exact G1.iF j e X
theorem cQ.aFb(H:cQ K role 0 md ch cl (.hold 0) D T gs v)(hl:K.live=Z){a g'}{r}{k}(ha:gs[0]?=U a)(Q2:a.status=dN)(I:mayWake K.P a=Z)(M:g'.status=dN)(w:∀F,F.heap[r.aO.c]?=U (.chan 1 #[] ai k k ai)->cj K.P Z a F=bV g' (F.setChan r.aO.c 1 #[] Z k k ai) (kS r.aO.c))(hc:ch r.aO.c=U ⟨V,ai,k⟩)(Q:j≠0)(u:role j=U r)(C:j<gs.size)(E:∀i d,role i=U d->i≠0->d.aO.c=r.aO.c->i=j)(t:∀i d,role i=U d->i≠0->d.out≠r.aO.c)(Q1:∀i i' r d,role i=U r->role i'=U d->i≠0->i'≠0->d.aO.c≠r.out)(A:(D j).stage=9->∃k,ch r.out=U ⟨V,ai,k⟩)(h0:(D 0).deaf=0)(sl):∃N md' z cl' D' T' R v' dI,ic K.P N (dw gs v sl) T=(fR<|dw R v' dI,T')/\cQ K role 0 md' z cl' (.hold 0) D' T' R v'/\R[0]?=g'/\D' 0=D 0/\z r.aO.c=U ⟨V,Z,k⟩/\(∀i d,role i=U d->i≠0->i≠j->z d.aO.c=ch d.aO.c)/\(∀i d,role i=U d->i≠0->(D' i).stage=9->z d.out=ch d.out)/\(∀i,i≠0->(D' i).stage=9->(D i).stage=9)/\xI md cl T gs v md' cl' T' R v'/\L (D 0).own v v':=by
 obtain⟨N,Q3,o,ie,D1,T1,uu,v1,P,fn,pl,xp,D2,r1,y,x,X,J,um,I2,hg2,ga,O,aIV,ajv,Q0⟩:=H.closes (j:=j) (rj:=r) hl ha Q2 I M (λF _ hw _=>w F hw) hc Q u rfl C E t h0 (λe=>absurd rfl e) (λ_=>rfl) sl;have p:∀i,(D2 i).stage=(D1 i).stage:=by grind
 refine⟨N,Q3,_,ie,D2,_,xp,_,P,r1,⟨I2,⟨λi d f m s hx j' r2 S vE=>Q1 i j' d r2 f S s vE,λi d c f m s l q mM=>?_,y.gd.outs,y.gd.end_,λY=>?_⟩,λi d c f s q=>?_,y.bound⟩,hg2,O.trans X,da _ _ _,λi d f m Cw=>?_,λi d f m l=>?_,λi m l=>?_,x.passed.trans ⟨ga,Q0.sub λ_ h=>h.elim,λ_ _=>rfl,λ_=>rfl,_,rfl⟩,?_⟩
 .rw[p]at l;rw[cX o _<|t i d f s];by_cases e:d.aO.c=r.aO.c;.have B:=E i d f s e;subst B;rw[u]at f;cases f;obtain⟨k',W⟩:=A<|x.iF i s l;exact⟨k',by rw[x.outs i r u l];exact W⟩
  .rw[cX o _ e]at q;exact y.gd.b i d c f m s l q mM
 .have e:V2 Y D2=V2 Y D1:=by grind[Bf]
  rw[e];exact y.gd.qI Y
 .by_cases e:d.aO.c=r.aO.c;.grind[upd_same,Nat.pos_of_ne_zero]
  .rw[cX o _ e]at q;exact y.vf i d c f s q
 .rw[cX o _<|by grind];exact x.eZ i d f m
 .rw[p]at l;rw[cX o _<|t i d f m];exact x.outs i d f l
 .rw[p]at l;exact x.iF i m l
 .refine⟨λb hb=>?_,bC J.size Q0.size⟩;obtain⟨e1,B⟩:=H.inv.own 0 b hb;rw[Q0.block b (cB B J.size)<|aB<|aB ⟨0,rfl,(x.cls b B).trans e1⟩];exact J.block b B<|aB<|aB ⟨0,rfl,e1⟩
deriving instance DecidableEq for fe
structure St where
 role:Nat->Option fG
 md:Md
 ch:Nat->Option fN
 cl:Nat->fe
 D:Nat->dn
 T:eB
 gs:Array aX
 v:ax
 sl:Option<|Nat×Nat
def St.runs(P:bZ)(s t:St):Prop:=∃N,ic P N (dw s.gs s.v s.sl) s.T=(fR<|dw t.gs t.v t.sl,t.T)
theorem St.runs.trans{P}{s t u:St}(a:s.runs P t)(b:t.runs P u):s.runs P u:=by obtain⟨n,d⟩:=a;obtain⟨m,c⟩:=b;exact⟨n+m,runNT_then d c⟩
theorem St.runs.refl{P}(s:St):s.runs P s:=⟨0,rfl⟩
theorem DW{P}{s t:St}(h:s.runs P t):∃u,t.T=s.T++u:=by obtain⟨n,h⟩:=h;grind[MT]
structure Ok(K:fK)(h:Nat)(s:St)(a:aX):Prop where
 hold:cQ K s.role h s.md s.ch s.cl (.hold h) s.D s.T s.gs s.v
 mI:s.gs[h]?=U a
 wM:nq s.role (.=h) s.ch s.D
 nine:(s.D h).stage=9
 deaf:(s.D h).deaf=0
 opn:∃p,s.md=.opn p
 ro:s.role h=V->h=0
structure Kept(h:Nat)(O:List Nat)(s t:St):Prop where
 size:t.gs.size=s.gs.size
 role:t.role=s.role
 md:t.md=s.md
 left:Left s.cl (λ_=>False) s.v t.v
 cls:∀b,b<s.v.heap.size->t.cl b=s.cl b
 rest:Rest h O s.cl s.v t.v
 oI:∀c st,s.ch c=U st->t.ch c=U st
 own:∀b∈(s.D h).own,b∈(t.D h).own
 v2:∀n,V2 n t.D<=V2 n s.D
theorem Kept.refl(h)(O)(s):Kept h O s s:=⟨rfl,rfl,rfl,Left.refl _ _ _,λ_ _=>rfl,λ_ _ _ _=>rfl,λ_ _ h=>h,λ_ h=>h,λ_=>aQ _⟩
theorem Kept.trans{O}{s t u}(a:Kept h O s t)(b:Kept h O t u):Kept h O s u:=⟨b.size.trans a.size,b.role.trans a.role,b.md.trans a.md,a.left.trans a.cls b.left,λx d=>(b.cls x<|cB d a.left.size).trans<|a.cls x d,a.rest.trans a.left.size a.cls b.rest,λc e f=>b.oI c e<|a.oI c e f,λx d=>b.own x<|a.own x d,λn=>bC (b.v2 n)<|a.v2 n⟩
theorem Kept.more{O O'}{s t}(a:Kept h O s t)(c:∀b∈O,b∈O'):Kept h O' s t:=⟨a.size,a.role,a.md,a.left,a.cls,λb f d e=>a.rest b f d λx=>e<|c b x,a.oI,a.own,a.v2⟩
theorem Ok.walk{s}{a}(H:Ok K h s a){O Rd}{Stop}(c:∀g w,Stop g w->g.status=dN)(r:cM K.P (h==0) (L<|O++Rd) (DH O Rd) Stop n a s.v)(C:∀b∈O,b∈(s.D h).own)(f:∀b∈Rd,b<s.v/\(s.cl b=.own h\/s.cl b=.eV)):∃t k,s.runs K.P t/\Ok K h t k/\Stop k t.v/\Kept h O s t/\t.D h=s.D h/\t.ch=s.ch:=by obtain⟨N,md',z,cl',D',T',R,v',dI,k,y,p,o,u,G,m,A⟩:=cQ.walk c H.ro n (sl:=s.sl) H.hold H.mI r C (λb l=>⟨(f b l).1,(f b l).2.imp id λx=>⟨x,rfl⟩⟩) λ_=>by rw[H.nine];simp H.deaf;obtain⟨rfl,q⟩:=G.calm H.wM;have d:=G.qn H.opn;exact⟨⟨s.role,md',s.ch,cl',D',T',R,v',dI⟩,k,⟨N,y⟩,⟨u,p,q,(congrArg dn.stage m).trans H.nine,(congrArg dn.deaf m).trans H.deaf,⟨_,d.trans H.opn.choose_spec⟩,H.ro⟩,o,⟨G.size,rfl,d,G.left,G.cls,A,λ_ _ h=>h,λb l=>by grind,λn=>FM λj=>by
  by_cases e:j=h;.grind
  .exact G.iE j e⟩,m,rfl⟩
theorem Ok.YP{s}{a}(H:Ok K h s a)(J:a.status=dN){o:Nat->Obj}{f:Nat->aX}(x:∀C,L (s.D h).own s.v C->cj K.P (h==0) a C=bV (f C) {C with heap:=C.heap.push<|o C} #[])(c)(hc:c=.own h∨c=.sh):∃t b o',s.runs K.P t∧Ok K h t (f b)∧Kept h [] s t∧s.v<=b∧t.v=b+1∧t.v.heap[b]?=U o'∧t.cl b=c∧t.ch=s.ch∧(c=.own h->b∈(t.D h).own)∧((t.D h).own=if c=.own h then b::(s.D h).own else(s.D h).own)∧(∀op∈t.T,op.act.low b)∧t.ch b=V∧o'=o b:=by
 obtain⟨N,iq,pD,ie,m,T1,uu,v1,d,qg,gH,r1,z,X,B,y,p,A⟩:=H.hold.picked H.mI J s.sl;obtain⟨rfl,q1⟩:=y.calm H.wM;have E:=y.qn H.opn;let O:Obj:=o v1;let w:List Nat:=if c=.own h then v1::(s.D h).own else(s.D h).own;let v2:ax:={v1.at d with heap:=v1.heap.push O};have F:L (s.D h).own s.v<|v1.at d:=⟨λb l=>by obtain⟨e1,e2⟩:=H.hold.inv.own h b l;exact A.block b e2<|aB<|aB ⟨h,rfl,e1⟩,A.size⟩;have W:cj K.P (h==0) a (v1.at d)=bV (f v1) v2 #[]:=x (v1.at d) F;have q:∀b,b<v1.heap.size->v2.heap[b]?=v1.heap[b]?:=λb l=>by grind
 have k:∀b,b<v1.heap.size->(λb=>if b=v1.heap.size then c else ie b) b=ie b:=by grind
 have I:v2.heap.size=v1+1:=by simp[v2]
 have S:=λb l=>B.inv.own h b (by rw[p];exact l);obtain⟨q2,q3,q4⟩:=(B.at d).step (sl:=gH) (a':=f v1) (es:=#[]) (x':=⟨(m h).stage,(m h).fuel,w,(m h).deaf⟩) (md':=iq) (cl':=λb=>if b=v1 then c else ie b) (v':=v2) X W (by grind) (λb l _=>q b l) (λb l=>k b l) λb l=>by grind (by simp) (by simp) rfl (by simp) rfl λhl=>by obtain⟨st,sm,hw,R⟩:=B.inv.wg hl;refine⟨st,sm,?_,R.same rfl⟩;unfold WgAt at hw⊢;grind λ_=>by rw[p];rw[H.nine];simp B.bound;rw[Ej,Ti]at q3;rw[Ej]at q2;have M:∀b∈(s.D h).own,b∈w:=λb l=>by grind
 have P:=runNT_then r1<|qR<|z.trans q2;rw[Ti]at P;refine⟨⟨s.role,iq,s.ch,_,_,T1,_,v2,gH⟩,v1,O,⟨_,P⟩,⟨q3,q4,λj r hr hj=>?_,?_,?_,⟨_,E.trans H.opn.choose_spec⟩,H.ro⟩,⟨by show(Array.setIfInBounds _ _ _).size=_;rw[vj,AB];exact y.size,rfl,E,?_,λb l=>?_,λb l Q _=>?_,λ_ _ h=>h,λb l=>?_,λn=>FM λj=>?_⟩,A.size,I,?_,cJ rfl,rfl,λe=>?_,?_,B.inv.tr.seen,?_,rfl⟩;·show(bE m h _ j).stage=9∧_;rw[cX m _ hj];exact q1 j r hr hj
 ·show(bE m h _ h).stage=9;rw[da,p];exact H.nine
 ·show(bE m h _ h).deaf=0;rw[da,p];exact H.deaf
 ·refine y.left.trans y.cls (cl':=ie) (v':=v1) ⟨by grind,λb l _=>q b l,rfl,rfl,rfl⟩
 ·show(if b=v1 then c else ie b)=_;have:=A.size;rw[if_neg<|by omega];exact y.cls b l
 ·have:=A.size;rw[q b<|by omega];exact A.block b l<|aB<|aB ⟨h,rfl,Q⟩
 ·show b∈(bE m h _ h).own;grind[upd_same]
 ·show(bE m h _ j).stage<=_;by_cases e:j=h;·subst e;rw[da,p];grind
  ·rw[cX m _ e];exact y.iE j e
 ·grind
 ·show _∈(bE m h _ h).own;rw[da];grind
 ·show(bE m h _ h).own=_;rw[da]
 ·show s.ch v1=V;cases e:s.ch v1 with|none=>rfl|some st=>have:=pC (B.inv.chan _ _ e).1;omega
theorem Ok.reg{s}{a}(H:Ok K h s a){b}(A:s.v.heap[b]?=U (.chan 1 #[] ai 0 0 ai))(hs:s.cl b=.sh)(C:s.ch b=V)(y:K.live=Z->b≠K.Wg):Ok K h {s with ch:=bE s.ch b<|U ⟨V,ai,0⟩} a:=by
 have B:∀c d,s.ch c=U d->bE s.ch b (U ⟨V,ai,0⟩) c=d:=λc d t=>by grind[upd_ne]
 have o:∀c d,bE s.ch b (U ⟨V,ai,0⟩) c=U d->s.ch c=d\/d=⟨V,ai,0⟩:=λc d t=>by grind[upd_same,upd_ne]
 have I:=H.hold.inv;refine⟨⟨⟨I.gV,I.deaf,I.above,I.tr,I.own,λc d t=>?_,λj r l q hs=>?_,λj r l w hs=>?_,I.uniq,I.wg,I.kI,I.rel,I.norel,I.rD,I.zero,I.idle⟩,⟨λi r l u hs z=>H.hold.gd.a i r l u hs<|z.imp id λ⟨q,d,f,p⟩=>⟨q,d,?_,p⟩,λi r d l u hs q f p=>?_,H.hold.gd.outs,H.hold.gd.end_,H.hold.gd.qI⟩,λj r d l hs f=>?_,H.hold.bound⟩,H.mI,λj r l hs=>⟨(H.wM j r l hs).1,λd f=>?_⟩,H.nine,H.deaf,H.opn,H.ro⟩
 .by_cases e:c=b;.subst e;have m:bE s.ch c (U ⟨V,ai,0⟩) c=d:=t;rw[da]at m;cases m;exact⟨A,hs,y⟩
  .have m:bE s.ch b (U ⟨V,ai,0⟩) c=d:=t;rw[cX s.ch _ e]at m;exact I.chan c d m
 .obtain⟨d,f,E⟩:=I.oz j r l q hs;grind
 .obtain⟨k,x⟩:=I.out j r l w hs;grind
 .rcases o _ _ f with e|e;.obtain⟨k,x⟩:=H.hold.gd.b i r d l u hs q e p;grind
  grind
 .rcases o _ _ f with e|e;.exact H.hold.vf j r d l hs e
  grind
 .rcases o _ _ f with e|e;.exact(H.wM j r l hs).2 d e
  .rw[e]
 grind
theorem Gc:∀n,sumTo n (λ_=>0)=0|0=>rfl|n+1=>by simp only[sumTo,Gc n]
theorem Ok.aDd{s}{a}(H:Ok K h s a)(N:K.live=ai){b}(o:WgAt K.L.tWg b s.v 0 0)(t:s.cl b=.sh)(J:s.ch b=V)(l:∀w∈s.T,w.act.low b)(m:s.md=.opn 0):Ok {K with Wg:=b,live:=Z} h s a:=by
 have I:=H.hold.inv;have d:∀i,s.role i=V:=λi=>by cases e:s.role i with|none=>rfl|some r=>have:=I.idle i r e;grind
 have F:=H.ro<|d h;have q:∀i,0<i->i<s.gs.size->(s.D i).stage=1:=λi u f=>by have k:=I.gV i _ (by omega)<|gW f;rw[d i]at k;exact k.2.1
 refine⟨⟨⟨λi g z C=>?_,I.deaf,I.above,I.tr,I.own,λc A B=>?_,I.oz,I.out,I.uniq,λ_=>⟨0,0,o,?_⟩,λ_=>t,λi r y=>by grind,λx e=>?_,I.rD,I.zero,λ_ _ _=>rfl⟩,⟨H.hold.gd.a,H.hold.gd.b,H.hold.gd.outs,λi r y=>by grind,H.hold.gd.qI⟩,H.hold.vf,H.hold.bound⟩,H.mI,H.wM,H.nine,H.deaf,H.opn,H.ro⟩;·have k:=I.gV i g z C;rw[d i]at k⊢;exact k
 ·obtain⟨M,P,O⟩:=I.chan c A B;grind
 ·rw[m];have E:V2 s.gs.size s.D=0:=by
   unfold V2;rw[Av (g:=λ_=>0) λi u=>?_];·exact Gc _
   ·unfold gu;grind
  exact⟨λi u f=>aB<|q i u f,by grind,rfl⟩
 ·cases p:s.T[x]? with|none=>simp[Fx,p]at e|some w=>simp only[Fx,p,ee,dX]at e;have:=l w<|tR p;rw[e]at this;exact Nat.lt_irrefl b this
theorem Ok.send{s}{a B}(H:Ok K h s a)(M:K.live=Z)(m:a.status=dN){x z}{rj rh}{kh}(d:∀E,cj K.P (h==0) a E=.comm B #[scase rj.aO.c x z] Z .send E #[])(y:j≠h)(A:s.role j=U rj)(o:j<s.gs.size)(p:rH K.P (h==0) rh.aO n (s.D h).own (kU B ak) s.v)(J:0<n)(u:s.ch rh.aO.c=U ⟨V,ai,kh⟩)(q:rh.aO.c≠rj.aO.c)(f:∀i r,i≠h->s.role i=U r->r.aO.c≠rh.aO.c)(C:Du K (bE s.role h<|U rh) s.D):∃t w k,s.runs K.P t/\Ok K j t (kU w<|recvd rj.aO.ok x Z)/\rj.aO.home (t.D j).own w t.v/\t.role=bE s.role h rh/\t.md=s.md/\t.ch=bE s.ch rj.aO.c (U ⟨V,ai,k⟩)/\t.gs.size=s.gs.size/\Left s.cl (λ_=>False) s.v t.v/\∀b,b<s.v.heap.size->t.cl b=s.cl b:=by obtain⟨N,md',cl',D',T',R,v',dI,w,k,L,F⟩:=H.hold.send (n:=n) H.wM M H.mI m d y A rfl o rh H.nine H.deaf p J u q f C s.sl;have l:=F.passed.md H.opn;exact⟨⟨bE s.role h<|U rh,md',_,cl',D',T',R,v',dI⟩,w,k,⟨N,L⟩,⟨F.hold,F.mI,λi r I O=>F.wM i r I id,F.nine,F.deaf,⟨_,l.trans H.opn.choose_spec⟩,λe=>by grind[upd_ne]⟩,F.home,rfl,l,rfl,F.passed.size,F.passed.left,F.passed.cls⟩
theorem Ok.spawn{s}{a a' child}{p}(H:Ok K 0 s a)(hl:K.live=Z)(R:a.status=dN)(nI:s.md=.opn (p+1))(hgo:∀X,cj K.P Z a X=.spawn a' child X #[])(r){O lu}(yh:∀X,L (s.D 0).own s.v X->rH K.P ai r.aO n O child X)(hn:0<n)(hO:∀b∈O,b∈(s.D 0).own)(q:∀b∈lu,b∈(s.D 0).own/\b∉O)(aAP:s.role s.gs.size=V){k}(A:s.ch r.aO.c=U ⟨V,ai,k⟩)(y:∀j u,s.role j=U u->u.aO.c≠r.aO.c)(J:∀j u,s.role j=U u->u.out≠r.out)(P:∀O g2 w,r.aO.home O g2 w->r.C∈O/\∃m,cM K.P ai (L O) (DO O) (Ag K.P K.L K.Wg r O) m (kU g2<|recvd r.aO.ok r.aO.z ai) w)(akc:∀l,V2 l s.D<=1):∃t,s.runs K.P t/\Ok K 0 t a'/\t.role=bE s.role s.gs.size r/\t.md=.opn p/\t.ch=s.ch/\t.gs.size=s.gs.size+1/\(t.D 0).own=lu/\(t.D s.gs.size).stage=9/\Left s.cl (λ_=>False) s.v t.v/\(∀b,b<s.v.heap.size->b∉O->t.cl b=s.cl b)/\L (s.D 0).own s.v t.v/\∀l,V2 l t.D<=V2 l s.D+1:=by
 obtain⟨N,iq,pD,W,o,T1,f,Q0,d,qg,gH,r1,M,rf,H1,E,I,L1⟩:=H.hold.picked H.mI R s.sl;obtain⟨rfl,q1⟩:=E.calm H.wM;have C:=(E.qn H.opn).trans nI;subst C;have hz:=H1.inv.zero;have jH:f.size≠0:=by omega
 have c:∀b∈(s.D 0).own,b∈(o 0).own:=λb x=>by grind
 have Q:L (s.D 0).own s.v<|Q0.at d:=⟨λb x=>by obtain⟨e1,e2⟩:=H.hold.inv.own 0 b x;exact L1.block b e2<|aB<|aB ⟨0,rfl,e1⟩,L1.size⟩;have hV:∀l,V2 l o<=V2 l s.D:=λl=>FM λj=>by
  by_cases e:j=0;.grind
  .exact E.iE j e
 have Ue:∀l,V2 l (bE (bE o 0 {o 0 with own:=lu}) f.size ⟨9,n,O,0⟩)<=V2 l o+1:=λl=>by
  have e0:V2 l (bE o 0 {o 0 with own:=lu})=V2 l o:=Bf λi hi _=>by grind[upd_ne]
  rcases B3 f.size l with lH|Cz;.grind[Vi,gu]
  .have e1:V2 l (bE (bE o 0 {o 0 with own:=lu}) f.size ⟨9,n,O,0⟩)=V2 l (bE o 0 {o 0 with own:=lu}):=Bf λi _ hi=>by grind[upd_ne]
   omega
 have ga:=E.size;obtain⟨q2,q3,q4,q5⟩:=(H1.at d).spawn (sl:=gH) hl rf (hgo<|Q0.at d) r (n:=n) (O:=O) (lu:=lu) (ay ⟨rfl,rfl,by grind⟩) hn (λb x=>c b<|hO b x) (λb x=>⟨c b (q b x).1,(q b x).2⟩) (by grind) A y J P (λj u B hj=>q1 j u B<|GW hj) (by rw[I];exact H.deaf) (λl=>by grind);have F:bE (bE o 0 {o 0 with own:=lu}) f.size ⟨9,n,O,0⟩ 0={o 0 with own:=lu}:=by grind[upd_ne,upd_same]
 refine⟨⟨bE s.role f.size<|U r,.opn p,s.ch,_,_,_,_,Q0.at d,gH⟩,⟨_,runNT_then r1<|qR<|M.trans q2⟩,⟨q3,q4,λj u B hj=>?_,?_,?_,⟨_,rfl⟩,λ_=>rfl⟩,by rw[ga],rfl,rfl,by grind,?_,?_,?_,λb x hn=>?_,Q,λl=>?_⟩
 .show(bE (bE o 0 _) f.size _ j).stage=9/\_;have S:bE s.role f.size r j=u:=B;by_cases e:j=f.size;.grind[upd_same]
  .rw[cX s.role _ e]at S;rw[cX _ _ e,cX o _ hj];exact q1 j u S hj
 .show(bE (bE o 0 _) f.size _ 0).stage=9;rw[F,I];exact H.nine
 .show(bE (bE o 0 _) f.size _ 0).deaf=0;rw[F,I];exact H.deaf
 .show(bE (bE o 0 _) f.size _ 0).own=lu;rw[F]
 .show(bE (bE o 0 _) f.size _ s.gs.size).stage=9;grind[upd_same]
 .exact E.left.trans E.cls<|Left.at W _ Q0 d
 .show(if b∈O then _ else W b)=_;rw[if_neg hn];exact E.cls b x
 .have:=Ue l;have:=hV l;show V2 l (bE (bE o 0 _) f.size _)<=_;omega
structure uK(h:Nat)(s t:St):Prop where
 size:t.gs.size=s.gs.size
 role:t.role=s.role
 md:t.md=s.md
 ch:t.ch=s.ch
 D:t.D h=s.D h
 vD:s.v.heap.size<=t.v.heap.size
 own:∀b,b<s.v.heap.size->s.cl b=.own h->t.v.heap[b]?=s.v.heap[b]?
 cls:∀b,b<s.v.heap.size->t.cl b=s.cl b
 os:t.v.os=s.v.os
 tape:t.v.tape=s.v.tape
 out:t.v.output=s.v.output
 old:∀b,b<s.v.heap.size->s.cl b=.old->t.v.heap[b]?=s.v.heap[b]?
theorem Ok.tree(Q1:nU I K.P fs nm)(Q0:Same I K.P fs nm X){b}{bs B'}(O:Bt I K.P (h==0) B'){Done}(u:∀fr cs w,¬Done (r fr<|cs++b::bs) w){fr fr'}{cs cs'}(Q3:Term (J K.P fs) Done (r fr<|cs++b::bs) w){s}(H:Ok K h s<|r fr'<|cs'++B')(y:jP ρ I K.P nm w fr fr')(QX:ig ρ I K.P nm w cs cs')(M:fM ρ I K.P s.cl w s.v):∃t eK w' l,(∀x,x<w.heap.size→ρ x=eK x)/\w.heap.size≤w'.heap.size/\(∀x,x<w.heap.size→I.F x=ai→w'.heap[x]?=w.heap[x]?)/\Term (J K.P fs) Done l w'/\uz (qN (J K.P fs) Done) (l,w') (r fr<|cs++b::bs,w)/\s.runs K.P t/\uK h s t/\((∃k,Ok K h t k/\fM eK I K.P t.cl w' t.v/\Ends eK I K.P fs nm X b bs B' w' l k)\/B'=[]/\cQ K t.role h t.md t.ch t.cl (.hold h) t.D t.T t.gs t.v/\∃x Q2 c d E F QW,l=r (b.finish x) bs/\RV eK I w' x Q2/\stepT K.P (dw t.gs t.v t.sl)=(.ended (.done Q2) c,iQ h F QW E)/\fM eK I K.P d w' c/\c.os=t.v.os/\c.output=t.v.output/\t.v.heap.size≤c/\(∀x,x<t.v.heap.size→d x=t.cl x)/\(∀x,x<t.v.heap.size→t.cl x≠.eV→c.heap[x]?=t.v.heap[x]?)/\∀e∈E,(∀x,(iz e).touch?=U x→Ab d (.hold h) h x)/\(iz e).low c/\(∀a,e.loc≠iA (.release a))/\e.loc≠iA .disable/\e.loc≠iA .enable):=by
  obtain⟨N,o,w1,md',z,cl',D',T',R,v',dI,l,P,k2,S,Q,k5,L,f,p,k9,A⟩:=cQ.tree Q1 Q0 H.ro O u Q3 s.sl rfl H.hold fun _=>by rw[H.nine];simp H.deaf y QX H.mI M;obtain⟨rfl,q⟩:=f.calm H.wM;have m:=f.md H.opn;refine⟨⟨s.role,md',s.ch,cl',D',T',R,v',dI⟩,o,w1,l,P,k2,S,Q,k5,⟨N,k9⟩,⟨f.size,rfl,m,rfl,p,f.vD,f.own,f.cls,f.os,f.tape,f.out,f.old⟩,?_⟩;rcases A with⟨k,B,C,W⟩|⟨B,C⟩;.exact ay ⟨k,⟨L,B,q,(congrArg dn.stage p).trans H.nine,(congrArg dn.deaf p).trans H.deaf,⟨_,m.trans H.opn.choose_spec⟩,H.ro⟩,C,W⟩
  grind
def LB(l:Array Bool):Nat:=(l.toList.filter id).length
theorem Ok.drawn{b:aZ}{k:List eY}{cs:List aZ}{ops:Array dG}{J:Array Bool->Act->St->Prop}(f:∀listed a s i l,J listed a s->i∈jh .any ops listed->Ok K h s (G (b.at a<|aT ops (i::l)::k) cs)->LB (listed.setIfInBounds i Z)=LB listed+1/\∃t m,s.runs K.P t/\Ok K h t (G (b.at m<|aT ops l::k) cs)/\J (listed.setIfInBounds i Z) m t):∀(d t:Nat)(listed:Array Bool)(a:Act)(s:St),J listed a s->Ok K h s (G (b.at a<|aT ops (yp .any ops d t listed [])::k) cs)->∃u m c,s.runs K.P u/\Ok K h u (G (b.at m<|aT ops []::k) cs)/\J c m u/\(jh .any ops c=[]\/LB c=LB listed+d)|0,t,listed,a,s,q,H=>⟨s,a,listed,.refl _,by simpa[yp]using H,q,aB rfl⟩|d+1,t,listed,a,s,q,H=>by simp only[yp]at H;change Ok K h s (G (b.at a<|aT ops (match(jh .any ops listed)[t%(jh .any ops listed).length]? with|some i=>yp .any ops d (t/(jh .any ops listed).length) (listed.setIfInBounds i Z) [i]|none=>[].reverse)::k) cs)at H;cases r:(jh .any ops listed)[t%(jh .any ops listed).length]? with
  |none=>
   rw[r]at H;have o:jh .any ops listed=[]:=by cases O:jh .any ops listed with|nil=>rfl|cons x N=>grind[Nat.mod_lt]
   exact⟨s,a,listed,.refl _,H,q,ay o⟩|some i=>rw[r]at H;simp only[]at H;rw[linearise_go_acc,List.reverse_singleton,List.singleton_append]at H;obtain⟨Q,B,L,C,y,F⟩:=f listed a s i _ q (List.mem_of_getElem? r) H;obtain⟨E,z,M,w,I,A,p⟩:=Ok.drawn f d _ _ L B F y;exact⟨E,z,M,C.trans w,I,A,p.imp id λe=>by grind⟩
def RL(L:WgLink)(Wg:Nat)(w w1:ax):Prop:=jN L.tWg Wg w->jN L.tWg Wg w1
def DQ(Wg:Nat)(w w':ax)(es:Array jq):Prop:=w'=w/\∀e∈es,∃a,a.block=Wg/\(e=⟨iA<|.read a,ai,Z⟩\/e=⟨iA<|.write a,ai,Z⟩)
theorem RL.refl(L)(a)(w):RL L a w w:=id
theorem dq_none{a}{w}{es}(h:∀e∈es,False):DQ a w w es:=⟨rfl,λe b=>(h e b).elim⟩
abbrev GQ(P:bZ)(L:WgLink)(Wg:Nat)(Stop:aX->ax->Prop)(m:Nat)(g:aX)(w:ax):Prop:=cM P Z (RL L Wg) (DQ Wg) Stop m g w
theorem afr{d}{e}(k:cl d=.sh){B}(l:d<B)(h:∃a,a.block=d/\(e=⟨iA<|.read a,ai,Z⟩\/e=⟨iA<|.write a,ai,Z⟩)):(∀x,(iz e).touch?=U x->Ab cl who 0 x)/\(iz e).low B/\e.loc≠iA .disable/\e.loc≠iA .enable/\∀a,e.loc≠iA (.release a):=by
 obtain⟨a,m,rfl|rfl⟩:=h;.refine⟨λx c b f=>?_,by show a.block<B;grind,by simp,by simp,by simp⟩;simp only[iz,s9,dX]at c;grind[pF,Option.some.injEq]
 .refine⟨λx c b f=>?_,by show a.block<B;grind,by simp,by simp,by simp⟩;simp only[iz,s9,dX]at c;grind[pF,Option.some.injEq]
theorem cQ.Qq(H:cQ K role 0 md ch cl (.hold 0) D T gs v)(z:K.live=Z){a a'}{es}{st' k}(N:gs[0]?=U a)(C:cj K.P Z a v=bV a' v' es)(d:Aside K.Wg v v')(t:WgAt K.L.tWg K.Wg v' st' k)(u:nT gs.size D md' st' k)(m:∀e∈es,Bk K.Wg e\/e=jK (rC<|stA K.Wg)\/∃a,a.block=K.Wg/\(e=⟨iA<|.read a,ai,Z⟩\/e=⟨iA<|.write a,ai,Z⟩))(r:∀p,md'=.opn p->p<=2):runT K.P (dw gs v sl) 0=(fR<|dw ((gs.map<|woken K.P a a' v').setIfInBounds 0 a') v' sl,iQ 0 a.frame.fn a.frame.place es)/\cQ K role 0 md' ch cl (.hold 0) (bE D 0 {D 0 with deaf:=jZ (D 0).deaf es}) (T++iQ 0 a.frame.fn a.frame.place es) ((gs.map<|woken K.P a a' v').setIfInBounds 0 a') v'/\((gs.map<|woken K.P a a' v').setIfInBounds 0 a')[0]?=a':=by
 have E:=H.inv.kI z;obtain⟨O,M,B,_⟩:=H.inv.wg z;have I:=pC B;have q:K.Wg<v':=by rw[d.size];grind
 refine H.step (x':={D 0 with deaf:=jZ (D 0).deaf es}) N C (xZ d.size.symm) (λb _ o=>d.block b λe=>o<|aB<|ay ⟨z,e⟩) (λ_ _=>rfl) (λb F=>by rw[d.size];exact H.inv.own 0 b F) (λe A=>?_) (λe A=>?_) rfl (λ_ o=>absurd rfl o) rfl (λ_=>⟨st',k,t,u.congr λj Q _=>by grind[upd_ne]⟩) (λo=>absurd rfl o) r
 .rcases m e A with(c|c|⟨x,wr,rfl,f⟩)|rfl|c;.obtain⟨l,w,s⟩:=e;simp only at c;subst c;exact⟨λx f=>by simp[iz,s9]at f,trivial⟩
  .obtain⟨l,w,s⟩:=e;simp only at c;subst c;exact⟨λx f=>by simp[iz,s9]at f,trivial⟩
  .refine⟨λy J b F=>?_,?_⟩;.simp only[Ep,s9,dX]at J;grind[pF,Option.some.injEq]
   .rw[Ep];show x.block<_;grind
  .exact⟨λx f=>(by cases f),q⟩
  .exact⟨(afr E q c).1,(afr (who:=.hold 0) E q c).2.1⟩
 .rcases m e A with(c|c|⟨x,wr,rfl,f⟩)|rfl|c;.grind
  .grind
  .simp
  .simp[jK]
  grind
theorem cQ.Ah(p:K.live=Z){Stop:aX->ax->Prop}:∀(n:Nat){md:Md}{ch:Nat->Option fN}{cl:Nat->fe}{D:Nat->dn}{T:eB}{gs:Array aX}{v:ax}{sl:Option<|Nat×Nat}{a:aX},cQ K role 0 md ch cl (.hold 0) D T gs v->gs[0]?=U a->GQ K.P K.L K.Wg Stop n a v->∃N md' z cl' D' T' R v' dI Q0,ic K.P N (dw gs v sl) T=(fR<|dw R v' dI,T')/\R[0]?=U Q0/\(∀W,RL K.L K.Wg v' W->Stop Q0 W)/\cQ K role 0 md' z cl' (.hold 0) D' T' R v'/\kG role 0 md ch cl D T gs v md' z cl' D' T' R v'/\D' 0=D 0/\Left cl (.=0) v v'
 |0,md,ch,cl,D,T,gs,v,sl,a,H,r,C=>⟨0,md,ch,cl,D,T,gs,v,sl,a,rfl,r,C,H,kG.refl,rfl,Left.refl _ _ _⟩|n+1,md,ch,cl,D,T,gs,v,sl,a,H,r,C=>by
  rcases C with c|⟨l,b⟩;.exact⟨0,md,ch,cl,D,T,gs,v,sl,a,rfl,r,c,H,kG.refl,rfl,Left.refl _ _ _⟩
  obtain⟨N,iq,pD,Q2,D1,T1,uu,Q,d,qg,gH,r1,k,w,m,u,J,P⟩:=H.picked r l sl;have o:=b (Q.at d) λ_=>(m.at d).inv.live p;cases f:cj K.P Z a (Q.at d)with|go a2 w2 es=>rw[f,eH]at o;obtain⟨⟨rfl,E⟩,I⟩:=o;obtain⟨st,sm,Q1,s⟩:=(m.at d).inv.wg p;obtain⟨r2,y,Q3⟩:=(m.at d).Qq (sl:=gH) p w f (.refl _ _) Q1 s (λe X=>aB<|aB<|E e X) m.bound;rw[deafBehind_still λe X=>by grind _]at y;rw[wz D1 0]at y;obtain⟨N3,L,S,M,D3,T3,t,v3,B,a3,r3,F,O,H3,G3,A,L3⟩:=cQ.Ah p n (sl:=gH) y Q3 I;refine⟨N+(1+N3),L,S,M,D3,T3,t,v3,B,a3,runNT_then r1<|runNT_then (qR<|k.trans r2) r3,F,O,H3,((u.trans<|kG.at _ _ _ _ _ _ _ _ _ d).trans ⟨by simp,Left.refl _ _ _,λ_ _=>rfl,λ_ _ _ _=>rfl,λ_=>rfl,λ_ _ x=>x,λ_ _=>aQ _,⟨_,rfl⟩,λq=>⟨rfl,q⟩,λ_ _ _ _=>rfl,λ_ _ _ _ _ _ _ h=>h,rfl,λ_ h=>h⟩).trans G3,A.trans J,(P.trans u.cls<|Left.at Q2 _ Q d).trans u.cls L3⟩|_=>rw[f]at o;exact o.elim
structure Bp(role:Nat->Option fG)(ch:Nat->Option fN)(cl:Nat->fe)(D:Nat->dn)(T:eB)(gs:Array aX)(v:ax)(z:Nat->Option fN)(cl':Nat->fe)(D':Nat->dn)(T':eB)(R:Array aX)(v':ax):Prop where
 size:R.size=gs.size
 left:Left cl (.=0) v v'
 cls:∀b,b<v.heap.size->cl' b=cl b
 iF:∀j,j≠0->(D' j).stage=9->(D j).stage=9
 iE:∀j,j≠0->(D' j).stage<=(D j).stage
 ext:∃u,T'=T++u
 calm:nq role (.=0) ch D->z=ch/\nq role (.=0) z D'
 stage:(D' 0).stage=(D 0).stage
 own:(D' 0).own=(D 0).own
 eZ:∀j r,role j=U r->j≠0->z r.aO.c=ch r.aO.c
theorem Bp.trans{d}{e}{o}{p}{f}{k}(a:Bp role ch cl D T gs v z cl' D' T' R v')(b:Bp role z cl' D' T' R v' d e o p f k):Bp role ch cl D T gs v d e o p f k:=⟨b.size.trans a.size,a.left.trans a.cls b.left,λx l=>(b.cls x<|cB l a.left.size).trans<|a.cls x l,λj c x=>a.iF j c<|b.iF j c x,λj c=>bC (b.iE j c)<|a.iE j c,by obtain⟨u,rfl⟩:=a.ext;obtain⟨s,rfl⟩:=b.ext;grind,λq=>let⟨x,y⟩:=a.calm q;let⟨C,t⟩:=b.calm y;⟨C.trans x,t⟩,b.stage.trans a.stage,b.own.trans a.own,λj r m c=>(b.eZ j r m c).trans<|a.eZ j r m c⟩
theorem kG.CO(G:kG role 0 md ch cl D T gs v md' z cl' D' T' R v')(c:D' 0=D 0)(L:Left cl (.=0) v v'):Bp role ch cl D T gs v z cl' D' T' R v':=⟨G.size,L,G.cls,G.iF,G.iE,G.ext,G.calm,by grind,by grind,λj r b a=>G.eZ j r b a⟩
theorem cQ.MZ(H:cQ K role 0 md ch cl (.hold 0) D T gs v)(I:K.live=Z){a:aX}(ha:gs[0]?=U a)(B:a.status=dN){IT:aX->ax->Array jq->Md->(Nat->dn)->Prop}(u:∀O l c J M,RL K.L K.Wg v O->WgAt K.L.tWg K.Wg O J M->nT gs.size c l J M->((∃p,md=.opn p)->l=md)->(∀p,l=.opn p->md=.opn p/\p<=2)->(∀j,j≠0->(c j).stage<=(D j).stage)->(∀n,V2 n c<=2)->∃t v' k s w m,cj K.P Z a O=bV t v' k/\Aside K.Wg O v'/\WgAt K.L.tWg K.Wg v' s w/\nT gs.size c m s w/\(∀e∈k,Bk K.Wg e\/e=jK (rC<|stA K.Wg)\/∃a,a.block=K.Wg/\(e=⟨iA<|.read a,ai,Z⟩\/e=⟨iA<|.write a,ai,Z⟩))/\(∀p,m=.opn p->p<=2)/\IT t v' k m c)(sl:Option<|Nat×Nat):∃N md' z cl' c A R v' dI t k S W,ic K.P N (dw gs v sl) T=(fR<|dw R v' dI,A++iQ 0 S W k)/\R[0]?=U t/\IT t v' k md' c/\cQ K role 0 md' z cl' (.hold 0) (bE c 0 {c 0 with deaf:=jZ (c 0).deaf k}) (A++iQ 0 S W k) R v'/\Bp role ch cl D T gs v z cl' (bE c 0 {c 0 with deaf:=jZ (c 0).deaf k}) (A++iQ 0 S W k) R v'/\c 0=D 0/\Deaf A 0=(D 0).deaf:=by
 obtain⟨N,l,V,E,c,A,uu,v1,d,qg,gH,r1,Q0,X,o,x,y,L1⟩:=H.picked ha B sl;obtain⟨J,M,hw,nH⟩:=(o.at d).inv.wg I;obtain⟨t,v',k,s,w,m,Y,f,Q,aJj,L,mz,C⟩:=u (v1.at d) l c J M (λ_=>(o.at d).inv.live I) hw (by rw[<-x.size];grind) x.qn (λp hp=>⟨x.opn p hp,o.bound p hp⟩) x.iE o.gd.qI;obtain⟨r2,H2,P⟩:=(o.at d).Qq (sl:=gH) I X Y f Q (by rw[x.size];grind) L mz;refine⟨N+1,m,V,E,c,A,_,v',gH,t,k,_,_,runNT_then r1<|qR<|Q0.trans r2,P,C,H2,((x.trans<|kG.at _ _ _ _ _ _ _ _ _ d).CO y<|L1.trans x.cls<|Left.at E _ v1 d).trans ⟨by simp,⟨xZ f.size.symm,λb hb hx=>f.block b λe=>?_,f.os,f.tape,f.output⟩,λ_ _=>rfl,λj F hx=>?_,λj F=>?_,⟨_,rfl⟩,λq=>⟨rfl,λj r hr F=>?_⟩,by rw[da],by rw[da],λ_ _ _ _=>rfl⟩,y,by rw[o.inv.deaf 0 o.inv.zero,y]⟩;.subst e;rw[o.inv.kI I]at hx;grind
 .grind[upd_ne]
 .rw[cX c _ F];grind
 .rw[cX c _ F];exact q j r hr F
section
variable (P:Program) (L:WgLink) (Wg:Nat)
def Jb(m:Mark)(k:aX->ax->Prop)(g:aX)(w:ax):Prop:=g.status=dN/\∃g',cj P Z g w=bV g' w #[jK m]/\k g' w
def aG7(k:aX->ax->Prop)(g:aX)(w:ax):Prop:=g.status=dN/\∀v:Nat,v<=1->WgAt L.tWg Wg w (v*KK) 0->∃g',cj P Z g w=bV g' (w.setCell (stA Wg)<|Y cP<|(v+1)*KK) #[rd<|stA Wg,wr<|stA Wg]/\k g' (w.setCell (stA Wg)<|Y cP<|(v+1)*KK)
def VD(E:aX):aX->ax->Prop:=λg w=>∃m,GQ P L Wg (Jb P .disable λg w=>∃m,GQ P L Wg (aG7 P L Wg λg w=>∃m,GQ P L Wg (Jb P .enable λg w=>∃m,GQ P L Wg (λg _=>g=E) m g w) m g w) m g w) m g w
def LZ(E:aX):aX->ax->Prop:=λg w=>∃m,GQ P L Wg (Jb P .enable λg w=>∃m,GQ P L Wg (Jb P (rC<|stA Wg) λg w=>∃m,GQ P L Wg (λg _=>g=E) m g w) m g w) m g w
def aoi(E:aX)(g:aX)(w:ax):Prop:=g.status=dN/\(WgAt L.tWg Wg w 0 0->∃g',cj P Z g w=bV g' w #[rd<|stA Wg]/\LZ P L Wg E g' w)
def ac5(E:aX)(g:aX)(w:ax):Prop:=g.status=dN/\g.offers=V/\((∃st,WgAt L.tWg Wg w st 0)->cj P Z g w=bV {g with status:=.blocked} w #[])/\(WgAt L.tWg Wg w 0 1->∃g',cj P Z g w=bV g' (w.setCell (smA Wg)<|Y .u32 0) (CY<|smA Wg)/\∃m,GQ P L Wg (aoi P L Wg E) m g'<|w.setCell (smA Wg)<|Y .u32 0)
def aoj(Hd:aX->ax->Prop)(E:aX)(vs:Nat)(g:aX)(w:ax):Prop:=g.status=dN/\∀v:Nat,v<=2->WgAt L.tWg Wg w (v*KK) 0->(v=vs->∃g',cj P Z g w=bV g' (w.setCell (stA Wg)<|Y cP<|v*KK+1) #[rd<|stA Wg,wr<|stA Wg]/\∃m,GQ P L Wg (ac5 P L Wg E) m g'<|w.setCell (stA Wg)<|Y cP<|v*KK+1)/\(v≠vs->∃g',cj P Z g w=bV g' w #[rd<|stA Wg]/\∃m,GQ P L Wg Hd m g' w)
def VB(Hd:aX->ax->Prop)(E:aX)(g:aX)(w:ax):Prop:=g.status=dN/\∀v:Nat,v<=2->WgAt L.tWg Wg w (v*KK) 0->∃g',cj P Z g w=bV g' w #[rd<|stA Wg]/\(v=0->LZ P L Wg E g' w)/\(v≠0->∃m,GQ P L Wg (aoj P L Wg Hd E v) m g' w)
def anH(Hd:aX->ax->Prop):aX->ax->Prop:=λg w=>∃m,GQ P L Wg (Jb P .disable λg w=>∃m,GQ P L Wg Hd m g w) m g w
end
theorem axO{b}{m}(h:m=.disable\/m=.enable\/m=rC (stA b)):∀e∈#[jK m],Bk b e\/e=jK (rC<|stA b)\/∃a,a.block=b/\(e=⟨iA<|.read a,ai,Z⟩\/e=⟨iA<|.write a,ai,Z⟩):=by
 intro e c;simp only[fQ,di,dJ,dQ]at c;subst c;rcases h with rfl|rfl|rfl;.exact ay<|ay rfl
 .exact ay<|aB<|ay rfl
 grind
theorem cQ.MP(H:cQ K role 0 md ch cl (.hold 0) D T gs v)(M:K.live=Z){a}(ha:gs[0]?=U a){m}(hm:m=.disable\/m=.enable\/m=rC (stA K.Wg)){k}{n}(hG:GQ K.P K.L K.Wg (Jb K.P m k) n a v)(sl):∃N md' z cl' D' e R v' dI q d f,ic K.P N (dw gs v sl) T=(fR<|dw R v' dI,e++iQ 0 d f #[jK m])/\R[0]?=U q/\k q v'/\cQ K role 0 md' z cl' (.hold 0) D' (e++iQ 0 d f #[jK m]) R v'/\Bp role ch cl D T gs v z cl' D' (e++iQ 0 d f #[jK m]) R v'/\(D' 0).deaf=jZ (D 0).deaf #[jK m]/\((∃p,md=.opn p)->md'=md)/\Deaf e 0=(D 0).deaf:=by obtain⟨N,c,W,ie,D1,e,uu,v1,A,a1,X,w,o,V,O,B,S⟩:=cQ.Ah M n (sl:=sl) H ha hG;obtain⟨P,b,t,I,D2,T2,E,v2,s,a2,J,d,f,r2,x,⟨rfl,F,l⟩,H2,L,Y,Hv⟩:=V.MZ M w (o v1 id).1 (IT:=λq v' J b D1=>J=#[jK m]/\k q v'/\((∃p,c=.opn p)->b=c)) (λQ C Dx st sm hr Q0 r l u fL hV=>by obtain⟨_,g',y,F⟩:=o Q hr;exact⟨g',Q,_,st,sm,C,y,.refl _ _,Q0,r,axO hm,λp Q1=>(u p Q1).2,rfl,F,l⟩) A;refine⟨N+P,b,t,I,_,T2,E,v2,s,a2,d,f,runNT_then X r2,x,F,H2,(O.CO B S).trans L,by grind[upd_same],λQ1=>?_,by grind⟩;have e1:=O.qn Q1;grind
theorem Dl(h:∀j,j≠0->(D' j).stage<=(D j).stage):V2 n D'<=V2 n D:=by
 have e:V2 n (bE D' 0<|D 0)=V2 n D':=Bf λi a _=>by grind[upd_ne]
 rw[<-e];exact FM λj=>by
  by_cases e:j=0;.subst e;rw[da];grind
  grind[upd_ne]
theorem afs{b}:∀e∈#[rd<|stA b,wr<|stA b],Bk b e\/e=jK (rC<|stA b)\/∃a,a.block=b/\(e=⟨iA<|.read a,ai,Z⟩\/e=⟨iA<|.write a,ai,Z⟩):=by intro e c;simp only[fQ,di,dJ,dQ]at c;rcases c with rfl|rfl<;>exact ay<|bk_cell _ _ rfl
theorem XL{b}:∀e∈#[rd<|stA b],Bk b e\/e=jK (rC<|stA b)\/∃a,a.block=b/\(e=⟨iA<|.read a,ai,Z⟩\/e=⟨iA<|.write a,ai,Z⟩):=by intro e c;simp only[fQ,di,dJ,dQ]at c;subst c;exact ay<|bk_cell _ _ rfl
theorem cQ.add{p}(H:cQ K role 0 (.opn p) ch cl (.hold 0) D T gs v)(d:K.live=Z)(hp:p<=1)(hVp:V2 gs.size D+p<=1){a J}(ha:gs[0]?=U a)(h0:(D 0).deaf=0)(hS:VD K.P K.L K.Wg J a v)(sl):
  ∃N z cl' D' T' R v' dI,ic K.P N (dw gs v sl) T=(fR<|dw R v' dI,T')/\R[0]?=J/\cQ K role 0 (.opn<|p+1) z cl' (.hold 0) D' T' R v'/\Bp role ch cl D T gs v z cl' D' T' R v'/\(D' 0).deaf=0:=by obtain⟨m1,G1⟩:=hS;obtain⟨N1,iq,pD,ie,D1,T1,uu,v1,qg,a1,fn1,pl1,r1,y,⟨m2,G2⟩,H1,B,d1,e1,_⟩:=H.MP d ha (ay rfl) G1 sl;obtain rfl:=e1 ⟨p,rfl⟩;obtain⟨N2,e,qG,l7,D2,T2,b,v2,r,a2,r2,A,k,H2,l,c,L2⟩:=cQ.Ah d m2 (sl:=qg) H1 y G2;obtain rfl:=l.qn ⟨p,rfl⟩;obtain⟨N3,Nb,Bc,zM,D3,T3,Ut,v3,E,a3,V,fn3,pl3,r3,M,⟨rfl,rfl,m4,G4⟩,H3,g3,F,_⟩:=H2.MZ d A (k v2 id).1 (IT:=λa' v' V e D1=>V=#[rd<|stA K.Wg,wr<|stA K.Wg]/\e=.opn (p+1)/\∃m,GQ K.P K.L K.Wg (Jb K.P .enable λg w=>∃m,GQ K.P K.L K.Wg (λg _=>g=J) m g w) m a' v') (λX YC O st sm hr S q I vF Q0 hV=>by
   obtain rfl:=I ⟨p,rfl⟩;obtain⟨ho,rfl,rfl⟩:=q;have hle:V2 b.size O<=V2 gs.size D:=by rw[l.size,B.size];exact bC (Dl Q0)<|bC (Dl l.iE)<|Dl B.iE
   obtain⟨g',Q1,hk⟩:=(k X hr).2 (V2 b.size O+p) (by omega) S;refine⟨g',_,_,(((V2 b.size O+p:Nat):Int)+1)*KK,0,.opn<|p+1,Q1,aside_setCell X (stA K.Wg) _,S.setSt _,⟨ho,?_,rfl⟩,afs,λp' Ol=>by grind,rfl,rfl,hk⟩;grind) r;obtain⟨N4,SA,zN,LC,D4,T4,gs4,v4,WM,a4,fn4,pl4,r4,C,⟨m5,P⟩,H4,g4,d4,e4,_⟩:=H3.MP d M (aB<|ay rfl) G4 E;obtain rfl:=e4 ⟨p+1,rfl⟩;obtain⟨N5,Na,o,x,D5,T5,s,W,Q,a5,r5,t,u,H5,L,f,L5⟩:=cQ.Ah d m5 (sl:=WM) H4 C P;obtain rfl:=L.qn ⟨p+1,rfl⟩;obtain rfl:=u W id;refine⟨N1+(N2+(N3+(N4+N5))),o,x,D5,T5,s,W,Q,runNT_then r1<|runNT_then r2<|runNT_then r3<|runNT_then r4 r5,t,H5,B.trans<|(l.CO c L2).trans<|g3.trans<|g4.trans<|L.CO f L5,?_⟩;rw[f,d4,da,F,c,d1,h0];rfl
def Bv(role:Nat->Option fG)(ch:Nat->Option fN):Prop:=∀i r,role i=U r->0<i->∃st,ch r.aO.c=U st/\st.shut=Z
theorem Inv.runs(I:Inv K role (.=0) md ch cl who D T gs v)(hs:Bv role ch)(a:0<i)(k:i<gs.size)(t:2<=(D i).stage):∃g,gs[i]?=U g/\g.status=dN:=by refine⟨_,gW k,?_⟩;have c:=I.gV i _ (GW a)<|gW k;cases e:role i with|none=>rw[e]at c;have:=c.2.1;omega|some r=>
  rw[e]at c;rcases c with⟨l,_,b⟩|⟨_,_,_,_,d⟩|⟨_,_,_,_,d⟩|⟨q,_,_,d⟩
  .rcases b.status with⟨h,_⟩|⟨_,h⟩;.grind
   .obtain⟨s,p,c⟩:=I.oz i r e l<|GW a;obtain⟨o,f,m⟩:=hs i r e a;grind
  .exact qp (λ_ _ x=>x.1) v (L.refl _ _) d
  .exact qp (λ_ _ x=>x.1) v (oS _) d
  grind[Go.ConcN.WSit.running_of]
structure Wt(role:Nat->Option fG)(ch:Nat->Option fN)(cl:Nat->fe)(D:Nat->dn)(T:eB)(gs:Array aX)(v:ax)(z:Nat->Option fN)(cl':Nat->fe)(D':Nat->dn)(T':eB)(R:Array aX)(v':ax):Prop where
 size:R.size=gs.size
 left:Left cl (.=0) v v'
 cls:∀b,b<v.heap.size->cl' b=cl b
 iE:∀j,j≠0->(D' j).stage<=(D j).stage
 own:(D' 0).own=(D 0).own
 stage:(D' 0).stage=(D 0).stage
 eZ:∀j r,role j=U r->j≠0->z r.aO.c=ch r.aO.c
theorem Wt.trans{d}{e}{o}{p}{f}{k}(a:Wt role ch cl D T gs v z cl' D' T' R v')(b:Wt role z cl' D' T' R v' d e o p f k):Wt role ch cl D T gs v d e o p f k:=⟨b.size.trans a.size,a.left.trans a.cls b.left,λx l=>(b.cls x<|cB l a.left.size).trans<|a.cls x l,λj c=>bC (b.iE j c)<|a.iE j c,b.own.trans a.own,b.stage.trans a.stage,λj r m c=>(b.eZ j r m c).trans<|a.eZ j r m c⟩
theorem Wt.refl:Wt role ch cl D T gs v ch cl D T gs v:=⟨rfl,Left.refl _ _ _,λ_ _=>rfl,λ_ _=>aQ _,rfl,rfl,λ_ _ _ _=>rfl⟩
theorem pJ.wt(L:pJ K role (.=0) md ch cl who D T gs v md' z cl' D' T' R v'):Wt role ch cl D T gs v z cl' D' T' R v':=⟨L.size,L.left,L.cls,λj _=>L.iE j,by rw[L.BF 0 rfl],by rw[L.BF 0 rfl],λj r b a=>L.eZ j r b a⟩
theorem Bv.later(h:Bv role ch)(e:∀j r,role j=U r->j≠0->z r.aO.c=ch r.aO.c):Bv role z:=λi r a b=>by obtain⟨d,k,f⟩:=h i r a b;grind
theorem nT.asD{c b}(a:nT n D md c b)(f:∀p,md≠.opn p)(q:md≠.sema):∃i,0<i/\i<n/\2<=(D i).stage:=by cases md with
 |opn p=>grind|reg=>
  obtain⟨_,e,_⟩:=a;refine ou λd=>?_;have:V2 n D=0:=by
   unfold V2;rw[Av (g:=λ_=>0) λi k=>?_];.grind[Gc]
   .unfold gu;grind
  omega|last=>obtain⟨l,o,m,h,_⟩:=a;grind|sema=>grind
def Dm(K:fK)(role:Nat->Option fG)(E:aX)(ch:Nat->Option fN)(cl:Nat->fe)(D:Nat->dn)(T:eB)(gs:Array aX)(v:ax)(sl:Option<|Nat×Nat):Prop:=∃N z cl' D' T' R v' dI a',ic K.P N (dw gs v sl) T=(fR<|dw R v' dI,T')/\R[0]?=U a'/\(∃m,GQ K.P K.L K.Wg (aoi K.P K.L K.Wg E) m a' v')/\cQ K role 0 (.opn 0) z cl' (.hold 0) D' T' R v'/\Wt role ch cl D T gs v z cl' D' T' R v'/\(D' 0).deaf=1/\∀i,0<i->i<gs.size->(D' i).stage=1
theorem Dm.wF{f}{d:Nat}{N}(t:ic K.P N (dw gs v sl) T=(fR<|dw R v' dI,T'))(w:Wt role ch cl D T gs v z cl' D' T' R v')(h:Dm K role f z cl' D' T' R v' dI):Dm K role f ch cl D T gs v sl:=by obtain⟨x,b,c,C,B,e,q,a,u,r,p,y,s,m,A,l⟩:=h;exact⟨N+x,b,c,C,B,e,q,a,u,runNT_then t r,p,y,s,w.trans m,A,λi o k=>l i o<|by rw[w.size];grind⟩
def Vm(K:fK)(role:Nat->Option fG)(a A:aX)(E:Nat×Nat):Prop:=∀(md:Md)(ch:Nat->Option fN)(cl:Nat->fe)(D:Nat->dn)(T:eB)(gs:Array aX)(v:ax)(sl:Option<|Nat×Nat)(y:aX),oL gs.size D=E->Inv K role (.=0) md ch cl (.hold 0) D T gs v->oP K role (.=0) ch D->IW role (.=0) ch->Bv role ch->(∀p,md≠.opn p)->gs[0]?=U y->y=a\/y={a with status:=.blocked}/\md≠.sema->(D 0).deaf=1->Dm K role A ch cl D T gs v sl
theorem aDW{a:aX}(h:a.status=dN):{a with status:=dN}=a:=by cases a;grind
theorem afm(hl:K.live=Z){a M:aX}{Q:Nat×Nat}(X:∀N,Lt2 N Q->Vm K role a M N)(har:a.status=dN)(H:a.offers=V){y:aX}(w:oL gs.size D=Q)(I:Inv K role (.=0) md ch cl (.hold 0) D T gs v)(C:oP K role (.=0) ch D)(E:IW role (.=0) ch)(hs:Bv role ch)(f:∀p,md≠.opn p)(P:gs[0]?=U y)(Q1:y=a\/y={a with status:=.blocked}/\md≠.sema)(hd:(D 0).deaf=1){i d:Nat}{g:aX}(O:gs[i]?=U g)(Q2:g.status=dN)(c:i≠0)(F:stepT K.P (dw gs v sl)=runT K.P (dw gs (v.at d) dI) i):Dm K role M ch cl D T gs v sl:=by
 have B:l8 (.=0) gs:=by rintro j t rfl s;grind
 rcases(I.at d).other (sl:=dI) C B c O Q2 λp QW=>absurd QW<|f p with⟨md',z,cl',D',T',R,v',S,J,k,x⟩|⟨r,g2,A,m,h9,Q0,l,W⟩
 .obtain⟨Q3,u,rfl⟩:=S.run;have L:=(pJ.at I C d).trans<|(I.at d).later c O S J k x;obtain⟨t,s,o⟩:=S.DN 0 y rfl P;have q:∀p,md'≠.opn p:=λp QW=>f p<|L.opn p QW;have b:t=a\/t={a with status:=.blocked}/\md'≠.sema:=by
   rcases Q1 with rfl|⟨rfl,hm⟩
   .rcases o with rfl|⟨hb,_⟩;.grind
    grind
   .rcases o with rfl|⟨_,rfl⟩
    .refine aB ⟨rfl,λe=>?_⟩;rcases S.sema e with h|h;.grind
     grind
    grind[aDW]
  refine Dm.wF (d:=d) (N:=1) ?_ L.wt (X (oL R.size D') (by rw[<-w,S.size];exact S.lt) md' z cl' D' _ R v' dI t rfl S.inv J λj r A m hs F=>E j r A m hs<|by grind (hs.later λj r m hj=>k j r m hj) q s b<|by rw[S.BF 0 rfl];grind);grind[qR]
 .obtain⟨e1,e2⟩:=E i r A m c l;grind
theorem afn(y:K.live=Z){a u}{z}(F:∀w,Lt2 w z->Vm K role a u w)(l:a.status=dN)(b:a.offers=V)(f:oL gs.size D=z)(I:Inv K role (.=0) md ch cl (.hold 0) D T gs v)(C:oP K role (.=0) ch D)(E:IW role (.=0) ch)(hs:Bv role ch)(c:∀p,md≠.opn p)(A:gs[0]?=U {a with status:=.blocked})(x:md≠.sema)(B:(D 0).deaf=1):Dm K role u ch cl D T gs v sl:=by
 have m:l8 (.=0) gs:=by rintro j O rfl H;grind
 obtain⟨M,N,L,k⟩:=I.wg y;obtain⟨i,s,o,J⟩:=k.asD c x;obtain⟨g,r,q⟩:=I.runs hs s o J;obtain⟨i,g,d,dI,o,r,t⟩:=NM (P:=K.P) (w:=v) (sl:=sl) (I.awake m) ⟨i,g,r,q⟩;refine afm y F l b f I C E hs c A (aB ⟨rfl,x⟩) B o r (λe=>?_) t;grind
theorem Inv.sem(o:K.live=Z){a N:aX}(Q2:∀w1,jN K.L.tWg K.Wg w1->ac5 K.P K.L K.Wg N a w1)(hb:∀n,V2 n D<=2)(J:Nat×Nat):Vm K role a N J:=by
 refine(Prod.lex IA IA).wf.induction (C:=λJ=>Vm K role a N J) J ?_;intro J R md ch cl D T gs v sl y x I C E Q m z hc M;obtain⟨q,c,r,f⟩:=Q2 v<|I.live o;rcases hc with rfl|⟨rfl,Q1⟩
 .have W:l8 (.=0) gs:=by rintro j y' rfl AK;grind
  obtain⟨i,g,d,dI,B,hg,t⟩:=NM (P:=K.P) (w:=v) (sl:=sl) (I.awake W) ⟨0,y,z,q⟩;by_cases A:i=0
  .subst A;have H:cQ K role 0 md ch cl (.hold 0) D T gs<|v.at d:=⟨I.at d,C,E,λp Q0=>absurd Q0<|m p⟩;obtain⟨st,sm,O,l⟩:=H.inv.wg o;obtain⟨_,_,r,f⟩:=Q2 (v.at d)<|H.inv.live o;have F:(∃st,WgAt K.L.tWg K.Wg (v.at d) st 0)->md≠.sema->Dm K role N ch cl D T gs v sl:=λX Q1=>by obtain⟨L,u,s⟩:=H.Qq (sl:=dI) o z (r X) (.refl _ _) O l (by simp) H.bound;have e0:bE D 0 {D 0 with deaf:=jZ (D 0).deaf #[]}=D:=wz D 0;rw[e0]at u;refine Dm.wF (d:=d) (N:=1) (qR<|t.trans L) ⟨by simp,Left.at _ _ _ _,λ_ _=>rfl,λ_ _=>aQ _,rfl,rfl,λ_ _ _ _=>rfl⟩<|afn o R q c (by grind) u.inv u.gd u.vf Q m s Q1 M
   cases md with|opn p=>grind|reg=>obtain⟨_,_,_,rfl⟩:=l;grind|last=>obtain⟨_,_,_,_,_,_,rfl⟩:=l;grind|sema=>
    obtain⟨h1,rfl,rfl⟩:=l;obtain⟨g',S,hk⟩:=f O;have hv:V2 gs.size D=0:=by
     unfold V2;rw[Av (g:=λ_=>0) λi B=>?_];.grind[Gc]
     .unfold gu;grind
    obtain⟨L,u,s⟩:=H.Qq (sl:=dI) (md':=.opn 0) o z S (aside_setCell _ (smA K.Wg) _) (O.setSm 0) ⟨λi B w=>aB<|h1 i B w,by grind,rfl⟩ (λe he=>by
     simp[CY]at he;rcases he with rfl|rfl|rfl|rfl;.exact ay<|ay rfl
     .exact ay<|bk_cell _ _ rfl
     .exact ay<|bk_cell _ _ rfl
     .exact ay<|aB<|ay rfl) (λp Q0=>by grind);have k:=aside_setCell (v.at d) (smA K.Wg)<|Y .u32 0;refine⟨1,ch,cl,_,_,_,_,dI,g',qR<|t.trans L,s,hk,u,⟨by simp,(Left.at cl _ v d).trans (λ_ _=>rfl) (cl':=cl) ⟨xZ k.size.symm,λb hb hx=>k.block b λe=>?_,k.os,k.tape,k.output⟩,λ_ _=>rfl,λj hj=>by rw[cX D _ hj];grind,by rw[da],by rw[da],λ_ _ _ _=>rfl⟩,by rw[da,M];rfl,λi B w=>by grind[upd_ne]⟩;have e':b=K.Wg:=e;subst e';rw[I.kI o]at hx;grind
  .exact afm o R q c x I C E Q m z (ay rfl) M B hg A t
 .exact afn o R q c x I C E Q m z Q1 M
theorem Bp.wt(G:Bp role ch cl D T gs v z cl' D' T' R v'):Wt role ch cl D T gs v z cl' D' T' R v':=⟨G.size,G.left,G.cls,G.iE,G.own,G.stage,G.eZ⟩
def yz(K:fK)(role:Nat->Option fG)(E:aX)(ch:Nat->Option fN)(cl:Nat->fe)(D:Nat->dn)(T:eB)(gs:Array aX)(v:ax)(sl:Option<|Nat×Nat):Prop:=∃N z cl' D' T' R v' dI a',ic K.P N (dw gs v sl) T=(fR<|dw R v' dI,T')/\R[0]?=U a'/\LZ K.P K.L K.Wg E a' v'/\cQ K role 0 (.opn 0) z cl' (.hold 0) D' T' R v'/\Wt role ch cl D T gs v z cl' D' T' R v'/\(D' 0).deaf=1/\∀i,0<i->i<gs.size->(D' i).stage=1
theorem yz.wF{e}{N}(s:ic K.P N (dw gs v sl) T=(fR<|dw R v' dI,T'))(w:Wt role ch cl D T gs v z cl' D' T' R v')(h:yz K role e z cl' D' T' R v' dI):yz K role e ch cl D T gs v sl:=by obtain⟨u,b,c,y,A,d,p,a,t,r,o,x,q,l,C,k⟩:=h;exact⟨N+u,b,c,y,A,d,p,a,t,runNT_then s r,o,x,q,w.trans l,C,λi m f=>k i m<|by rw[w.size];grind⟩
theorem aGI(h:V2 n D=0):∀i,0<i->i<n->(D i).stage<5:=λi b a=>by have:=le_sumTo (f:=λx=>gu x<|D x) a;unfold V2 at h;rw[h]at this;unfold gu at this;grind
theorem aGJ(h:∀i,0<i->i<n->(D i).stage=1):V2 n D=0:=by
 unfold V2;rw[Av (g:=λ_=>0) λi a=>?_];.grind[Gc]
 .unfold gu;grind
theorem cQ.waitLoop(E:K.live=Z){Q1:aX}{Hd:aX->ax->Prop}(hHd:∀g w,Hd g w->∃m,GQ K.P K.L K.Wg (VB K.P K.L K.Wg Hd Q1) m g w):∀(Q0:Nat){ch:Nat->Option fN}{cl:Nat->fe}{D:Nat->dn}{T:eB}{gs:Array aX}{v:ax}{sl:Option<|Nat×Nat}{a:aX}{m:Nat},V2 gs.size D<=Q0->cQ K role 0 (.opn 0) ch cl (.hold 0) D T gs v->Bv role ch->gs[0]?=U a->(D 0).deaf=1->GQ K.P K.L K.Wg Hd m a v->yz K role Q1 ch cl D T gs v sl:=by intro Q0;induction Q0 using Nat.strongRecOn with|ind Q0 ih=>
 intro ch cl D T gs v sl a m hV H hs ha h1 hG;obtain⟨N1,iq,pD,ie,D1,T1,uu,v1,qg,a1,r1,rf,EJ,H1,G1,K8,L1⟩:=cQ.Ah E m (sl:=sl) H ha hG;obtain rfl:=G1.qn ⟨0,rfl⟩;have W1:=(G1.CO K8 L1).wt;refine yz.wF r1 W1 ?_;have aAG:=hs.later W1.eZ;have KZ:V2 uu.size D1<=Q0:=bC (by rw[W1.size];exact Dl W1.iE) hV;have TY:(D1 0).deaf=1:=by grind
 obtain⟨m2,G2⟩:=hHd a1 v1<|EJ v1 id;obtain⟨N2,s,qG,l7,D2,T2,b,v2,gH,a2,r2,ha2,vE,H2,g2,Un,L2⟩:=cQ.Ah E m2 (sl:=qg) H1 rf G2;obtain rfl:=g2.qn ⟨0,rfl⟩;have W2:=(g2.CO Un L2).wt;refine yz.wF r2 W2 ?_;have aAF:=aAG.later W2.eZ;have aCm:V2 b.size D2<=Q0:=bC (by rw[W2.size];exact Dl W2.iE) KZ;have OQ:(D2 0).deaf=1:=by grind
 obtain⟨N3,Nb,Bc,zM,l,T3,L,v3,DR,a3,X,fn3,pl3,r3,oD,⟨rfl,rfl,aJ9,h3o,O,W⟩,H3,g3,hD3,_⟩:=H2.MZ E ha2 (vE v2 id).1 (IT:=λS v' X s f=>X=#[rd<|stA K.Wg]/\s=.opn 0/\V2 b.size f<=Q0/\OpenSt b.size f/\(V2 b.size f=0->LZ K.P K.L K.Wg Q1 S v')/\(V2 b.size f≠0->∃m,GQ K.P K.L K.Wg (aoj K.P K.L K.Wg Hd Q1<|V2 b.size f) m S v')) (λx YC f st sm hr A k y vF z B=>by obtain rfl:=y ⟨0,rfl⟩;have c:=k;obtain⟨I,rfl,rfl⟩:=k;have hv:=B b.size;obtain⟨Q2,o,O,W⟩:=(vE x hr).2 (V2 b.size f) (by omega) A;exact⟨Q2,x,_,_,0,.opn 0,o,.refl _ _,A,c,XL,λp' t=>by grind,rfl,rfl,bC (Dl z) aCm,I,O,W⟩) gH;have W3:=g3.wt;refine yz.wF r3 W3 ?_;have aAE:=aAF.later W3.eZ;have OP:(bE l 0 {l 0 with deaf:=jZ (l 0).deaf #[rd<|stA K.Wg]} 0).deaf=1:=by rw[da,hD3,Un,K8,h1];rfl
 have hV3:V2 L.size (bE l 0 {l 0 with deaf:=jZ (l 0).deaf #[rd<|stA K.Wg]})=V2 b.size l:=by rw[W3.size];grind[Bf,upd_ne]
 by_cases q:V2 b.size l=0
 .have aab:∀i,0<i->i<L.size->(bE l 0 {l 0 with deaf:=jZ (l 0).deaf #[rd<|stA K.Wg]} i).stage=1:=λi J u=>by
   rw[cX l _<|by omega];have F:i<b.size:=by rw[<-W3.size];grind
   have:=aGI q i J F;rcases h3o i J F with h|h;.omega
   grind
  exact⟨0,Bc,zM,_,_,L,v3,DR,a3,rfl,oD,O q,H3,Wt.refl,OP,aab⟩
 .obtain⟨m4,G4⟩:=W q;obtain⟨N4,SA,zN,LC,D4,T4,d,v4,WM,a4,r4,ha4,Tw,H4,g4,hD4,L4⟩:=cQ.Ah E m4 (sl:=DR) H3 oD G4;obtain rfl:=g4.qn ⟨0,rfl⟩;have W4:=(g4.CO hD4 L4).wt;refine yz.wF r4 W4 ?_;have aAD:=aAE.later W4.eZ;have OO:(D4 0).deaf=1:=by grind
  have HU:V2 d.size D4<=V2 b.size l:=by rw[<-hV3,W4.size];exact Dl W4.iE
  obtain⟨N5,Na,Da,C9,C,T5,gs5,v5,sl5,a5,es5,fn5,pl5,r5,ha5,r,H5,g5,hD5,_⟩:=H4.MZ E ha4 (Tw v4 id).1 (IT:=λS v' X s f=>jZ 1 X=1/\((s=.reg/\∃m,GQ K.P K.L K.Wg (ac5 K.P K.L K.Wg Q1) m S v')\/s=.opn 0/\V2 d.size f<V2 b.size l/\∃m,GQ K.P K.L K.Wg Hd m S v')) (λx YC f st sm hr A k y vF z B=>by
    obtain rfl:=y ⟨0,rfl⟩;have c:=k;obtain⟨I,rfl,rfl⟩:=k;have hv:=B d.size;have hle:V2 d.size f<=V2 d.size D4:=Dl z;obtain⟨aBE,Q⟩:=(Tw x hr).2 (V2 d.size f) (by omega) A;by_cases e:V2 d.size f=V2 b.size l;.obtain⟨Q2,o,hk⟩:=aBE e;exact⟨Q2,_,_,_,0,.reg,o,aside_setCell x (stA K.Wg) _,A.setSt _,⟨I,by omega,by simp,rfl⟩,afs,λp' t=>(by cases t),rfl,ay ⟨rfl,hk⟩⟩
    .obtain⟨Q2,o,hk⟩:=Q e;exact⟨Q2,x,_,_,0,.opn 0,o,.refl _ _,A,c,XL,λp' t=>by cases t;omega,rfl,aB ⟨rfl,by omega,hk⟩⟩) WM;have W5:=g5.wt;refine yz.wF r5 W5 ?_;have M:=aAD.later W5.eZ;obtain⟨P,r⟩:=r;have KT:(bE C 0 {C 0 with deaf:=jZ (C 0).deaf es5} 0).deaf=1:=by rw[da,hD5,OO];exact P
  rcases r with⟨rfl,m6,G6⟩|⟨rfl,u,m6,G6⟩
  .obtain⟨N6,Sz,PR,U1,D6,T6,gs6,v6,sl6,a6,r6,ha6,G8,H6,g6,hD6,L6⟩:=cQ.Ah E m6 (sl:=sl5) H5 ha5 G6;have W6:=(g6.CO hD6 L6).wt;refine yz.wF r6 W6 ?_;have aAB:=M.later W6.eZ;have ON:(D6 0).deaf=1:=by rw[hD6];exact KT
   obtain⟨N7,ch7,cl7,D7,T7,gs7,v7,sl7,a7,r7,ha7,⟨m7,G7⟩,H7,W7',OM,aAu⟩:=Inv.sem (D:=D6) E (λx ez=>G8 x λ_=>ez) H6.gd.qI _ _ _ _ _ _ _ _ sl6 a6 rfl H6.inv H6.gd H6.vf aAB (λp hp=>by have:=g6.opn p hp;cases this) ha6 (ay rfl) ON;refine yz.wF r7 W7' ?_;have aAr:gs7.size=gs6.size:=W7'.size;obtain⟨N8,md8,ch8,cl8,D8,T8,N,v8,sl8,a8,r8,ha8,KD,H8,g8,hD8,L8⟩:=cQ.Ah E m7 (sl:=sl7) H7 ha7 G7;obtain rfl:=g8.qn ⟨0,rfl⟩;have W8:=(g8.CO hD8 L8).wt;refine yz.wF r8 W8 ?_;have one:∀(D':Nat->dn)(R:Array aX),R.size=gs7.size->(∀j,j≠0->(D' j).stage<=(D7 j).stage)->OpenSt R.size D'->∀i,0<i->i<R.size->(D' i).stage=1:=λD' R e hle I i J u=>by have h7:=aAu i J (by rw[<-aAr,<-e];exact u);have:=hle i (by omega);rcases I i J u with h|h<;>omega
   obtain⟨N9,md9,ch9,cl9,D9,T9,gs9,v9,sl9,a9,es9,fn9,pl9,r9,ha9,⟨rfl,rfl,h9o,hk9⟩,H9,g9,hD9,_⟩:=H8.MZ E ha8 (KD v8 id).1 (IT:=λS v' X s f=>X=#[rd<|stA K.Wg]/\s=.opn 0/\(∀i,0<i->i<N.size->(f i).stage=1)/\LZ K.P K.L K.Wg Q1 S v') (λx YC f st sm hr A k y vF z B=>by obtain rfl:=y ⟨0,rfl⟩;have c:=k;obtain⟨I,rfl,rfl⟩:=k;have h1s:=one f N W8.size (λj hj=>bC (z j hj)<|W8.iE j hj) I;have q:V2 N.size f=0:=aGJ h1s;rw[q]at A c;obtain⟨Q2,o,hk⟩:=(KD x hr).2 (by simpa using A);exact⟨Q2,x,_,_,0,.opn 0,o,.refl _ _,A,by rw[<-q];rw[<-q]at c;exact⟨I,rfl,rfl⟩,XL,λp' t=>by cases t;omega,rfl,rfl,h1s,hk⟩) sl8;have W9:=g9.wt;refine⟨N9,ch9,cl9,_,_,gs9,v9,sl9,a9,r9,ha9,hk9,H9,W9,?_,λi J u=>?_⟩;.rw[da,hD9,hD8,OM];rfl
   .rw[cX D9 _<|by omega];exact h9o i J u
  .have hV5:V2 gs5.size (bE C 0 {C 0 with deaf:=jZ (C 0).deaf es5})=V2 d.size C:=by rw[W5.size];exact Bf λi J _=>by rw[cX C _<|by omega]
   exact ih (V2 d.size C) (by omega) (xZ hV5) H5 M ha5 KT G6
theorem cQ.drop(H:cQ K role 0 (.opn 0) ch cl (.hold 0) D T gs v)(d:∀i,0<i->i<gs.size->(D i).stage=1):cQ {K with n0:=T.size} (λ_=>V) 0 (.opn 0) ch cl (.hold 0) (λi=>if i=0 then D 0 else{D i with own:=[]}) T gs v:=by
 have I:=H.inv;have k:∀i,((λi=>if i=0 then D 0 else{D i with own:=[]}) i:dn).stage=(D i).stage:=λi=>by grind
 have u:∀i,((λi=>if i=0 then D 0 else{D i with own:=[]}) i:dn).deaf=(D i).deaf:=λi=>by grind
 refine⟨⟨λi g w x=>?_,λi B=>(I.deaf i B).trans (u i).symm,I.above,I.tr,λi b y=>?_,I.chan,λi r a=>by grind,λi r a=>by grind,λi j r E a=>by grind,λC=>?_,I.kI,λi r a=>by grind,I.norel,λF M z L=>?_,I.zero,λi r a=>by grind⟩,⟨λi r a=>by grind,λi r q a=>by grind,λi j r E a=>by grind,λi r a=>by grind,λn=>?_⟩,λj r q a=>by grind,H.bound⟩;.have c:0<i:=Tj w;have o:=(dm.1 x).1;have t:=d i c o;have m:=I.gV i g w x;simp only[GW c,ox];cases a:role i with|none=>rw[a]at m;exact⟨c,t,m.2.2.1,rfl⟩|some r=>
   rw[a]at m;rcases m with⟨h,_⟩|⟨h,_⟩|⟨h,_⟩|⟨_,_,_,l⟩;.omega
   .omega
   .omega
   .refine⟨c,t,?_,rfl⟩;generalize f:(D i).stage=s at l;rw[t]at f;subst f;cases l with|quit J=>grind
 .by_cases e:i=0;.subst e;exact I.own 0 b y
  grind
 .obtain⟨q,A,l,p⟩:=I.wg C;exact⟨q,A,l,p.congr λj _ _=>k j⟩
 .grind
 .have e:V2 n (λi=>if i=0 then D 0 else{D i with own:=[]})=V2 n D:=Bf λi _ _=>k i;rw[e];exact H.gd.qI n
theorem azw{l}{b}(h:pF l=U b):l.isMemory=Z:=by cases l<;>first|rfl|cases h
theorem cQ.alone(H:cQ K (λ_=>V) 0 (.opn 0) ch cl (.hold 0) D T gs v)(m:T.HandedOver):cQ {K with live:=ai,fS:=λl=>K.fS l∨∃b,pF l=U b∧cl b≠.eV} (λ_=>V) 0 (.opn 0) (λ_=>V) (λb=>if cl b=.eV then .eV else .old) (.hold 0) (λi=>{D i with own:=[]}) T gs v:=by
 have I:=H.inv;refine⟨⟨λi g A t=>?_,I.deaf,I.above,⟨I.tr.clean,λi a b y f=>?_,I.tr.seen⟩,λi b f=>by grind,λc w p=>by grind,λi r d=>by grind,λi r d=>by grind,λi j r M d=>by grind,λJ=>by grind,λJ=>by grind,λi r d=>by grind,I.norel,I.rD,I.zero,λi r d=>by grind⟩,⟨λi r d=>by grind,λi r w d=>by grind,λi j r M d=>by grind,λi r d=>by grind,H.gd.qI⟩,λj r w d=>by grind,H.bound⟩;·obtain⟨E,N,L,O⟩:=I.gV i g A t;exact⟨E,N,L,rfl⟩
 ·have F:=I.tr.known i a b y f;unfold Acc at F⊢;by_cases e:cl b=.eV;·grind
  ·simp only[e];obtain⟨x,u,o⟩:=B7 y;by_cases t:x.g=0;·grind[knows_own]
   ·by_cases p:T.counts i;·obtain⟨j,C,k⟩:=m i x.g (zF u) t p;obtain⟨z,B,q⟩:=ze.1 C;exact ay ⟨j,z,B,q,aB k⟩
    ·refine aB ⟨aB ⟨b,f,e⟩,?_⟩;refine ou λs=>p ⟨a,?_,azw f,ay s⟩;simp[Fx,u,o]
theorem agD{c T:eB}(h:c.HandedOver)(f:∃u,T=c++u)(e:∀b a,T[b]?=U a->c.size<=b->a.act.touch?≠V->a.g=0):T.HandedOver:=by
 obtain⟨u,rfl⟩:=f;refine handedOver_app h λa d=>?_;by_cases l:a.act.touch?=V;.grind
 .obtain⟨k,m⟩:=Zt.1 d;exact ay<|e (c.size+k) a (by grind) (Nat.le_add_right _ _) l
def Over(n0:Nat)(T:eB):Prop:=∃T0:eB,T0.HandedOver/\T0.size=n0/\∃u,T=T0++u
theorem Over.app{a}(h:Over a T)(u):Over a<|T++u:=by obtain⟨e,c,b,d,rfl⟩:=h;exact⟨e,c,b,d++u,by grind⟩
theorem cQ.over(H:cQ K role 0 md ch cl (.hold 0) D T gs v)(Q2:Over K.n0 T)(L:∀i r,role i=U r->i<gs.size)(m:∀i,0<i->i<gs.size->(D i).stage=1){a:eB}{fn:fC}{A:String}(S:T=a++iQ 0 fn A #[jK<|rC<|stA K.Wg])(X:Deaf a 0=0):T.HandedOver:=by
 have I:=H.inv;have W:iQ 0 fn A #[jK<|rC<|stA K.Wg]=#[{g:=0,fn:=fn,pos:=A,act:=.mark<|rC<|stA K.Wg}]:=by simp[iQ,jK,iz]
 rw[W]at S;have M:T[a.size]?=U {g:=0,fn:=fn,pos:=A,act:=.mark<|rC<|stA K.Wg}:=by grind
 have t:T.act? a.size=U (.mark<|rC<|stA K.Wg):=B4 M;have q:T.g? a.size=U 0:=zF M;have B:T.heard a.size:=⟨0,q,by rw[S,GL<|aQ _];exact X⟩;have ga:T.size=a.size+1:=by grind
 intro i g d w Q;obtain⟨N,h1,h2,u,hu⟩:=Q2;rcases B3 i K.n0 with c|C
 .have l:i<N.size:=by omega
  obtain⟨j,Q1,hb⟩:=h1 i g (by grind[g?_old]) w ((counts_old l).1<|by rw[<-hu];grind);have hjl:j<N.size:=by unfold Trace.g? at Q1;grind
  exact⟨j,by grind[g?_old],by grind[hb_app]⟩
 .have E:∃y,T[i]?=U y/\y.g=g:=by unfold Trace.g? at d;grind[Option.map_eq_some_iff]
  obtain⟨y,o,J⟩:=E;have b:y.act.touch?≠V:=λe=>by obtain⟨x,E,_⟩:=Q;simp[Fx,o,e]at E
  rcases I.rD i y o C b with F|F;.grind
  .rw[J]at F;obtain⟨r,O⟩:=Option.isSome_iff_exists.1 F;have s:0<g:=Tj w;obtain⟨p,f⟩:=I.rel g r O s (by rw[m g s<|L g r O];omega);have P:p<T.size:=lt_of_act? f.act;have Q3:p≠a.size:=λe=>by have:=f.act;rw[e,t]at this;cases this
   have z:HappensBefore T p a.size:=.single<|aB ⟨.marked (by omega) (aB f.act) t λk _ _=>I.norel k,f.heard,B⟩;have Q0:i<=p:=Nat.le_of_not_lt λc=>f.after i c d Q;rcases B3 i p with c|R;.exact⟨a.size,q,.trans (.single<|ay ⟨c,g,d,f.g⟩) z⟩
   grind
theorem cQ.joined(H:cQ K role 0 (.opn 0) ch cl (.hold 0) D T gs v)(M:K.live=Z)(ho:Over K.n0 T)(oZ:∀i r,role i=U r->i<gs.size){a gE:aX}(ha:gs[0]?=U a)(hE:LZ K.P K.L K.Wg gE a v)(h1:(D 0).deaf=1)(x:∀i,0<i->i<gs.size->(D i).stage=1)(sl:Option<|Nat×Nat):∃N t cl' D' T' R v' dI,ic K.P N (dw gs v sl) T=(fR<|dw R v' dI,T')∧R[0]?=U gE∧cQ t (λ_=>V) 0 (.opn 0) (λ_=>V) cl' (.hold 0) D' T' R v'∧t.P=K.P∧t.L=K.L∧t.live=ai∧Over t.n0 T'∧T'.HandedOver∧Left cl (λ_=>False) v v'∧(∀b,b<v.heap.size->∀c,c=.eV∨c=.old->cl b=c->cl' b=c)∧(D' 0).stage=(D 0).stage∧(D' 0).deaf=0∧R.size=gs.size:=by
 obtain⟨m1,G1⟩:=hE;obtain⟨N1,iq,pD,ie,D1,T1,uu,v1,Q0,a1,fn1,pl1,r1,O,⟨m2,G2⟩,H1,g1,d1,e1,_⟩:=H.MP M ha (aB<|ay rfl) G1 sl;obtain rfl:=e1 ⟨0,rfl⟩;have F:(D1 0).deaf=0:=by rw[d1,h1];rfl
 obtain⟨N2,wL,qG,l7,o,T2,Q1,v2,gH,a2,z,y,r2,Q2,⟨m3,G3⟩,Q,g2,d2,e2,aJL⟩:=H1.MP M O (aB<|aB rfl) G2 Q0;obtain rfl:=e2 ⟨0,rfl⟩;have OQ:(o 0).deaf=0:=by rw[d2,F];rfl
 have e:=g1.trans g2;have k:∀i,0<i->i<Q1.size->(o i).stage=1:=λi hi C=>by have h:=x i hi (by rw[<-e.size];grind);have hle:=e.iE i (by omega);have f:=Q.inv.gV i _ (GW hi)<|gW C;cases X:role i with|none=>rw[X]at f;exact f.2.1|some r=>
   rw[X]at f;rcases f with⟨h9,_⟩|⟨h9,_⟩|⟨h9,_⟩|⟨_,_,_,A⟩;·omega
   ·omega
   ·omega
   ·have:1<=(o i).stage:=by generalize(o i).stage=s at A⊢;generalize(o i).fuel=m at A;generalize(o i).deaf=d at A;cases A<;>omega
    omega
 have I:Over K.n0<|T2++iQ 0 z y #[jK<|rC<|stA K.Wg]:=by obtain⟨u,hu⟩:=e.ext;rw[hu];exact ho.app u
 have w:=Q.over I λi r X=>by rw[e.size];grind k rfl (by grind);have H3:=Q.drop k;obtain⟨N4,SA,zN,LC,D4,T4,p,v4,B,a4,r4,L,E,H4,q,W,L4⟩:=cQ.Ah (K:={K with n0:=(T2++iQ 0 z y #[jK<|rC<|stA K.Wg]).size}) M m3 (sl:=gH) H3 Q2 G3;obtain rfl:=q.qn ⟨0,rfl⟩;obtain rfl:=E v4 id;have l:T4.HandedOver:=agD w q.ext λS op J hn ht=>by
  rcases H4.inv.rD S op J hn ht with h|h;·grind
  grind
 have ga:p.size=gs.size:=q.size.trans e.size;have hLL:Left cl (λ_=>False) v v4:=(e.left.trans e.cls L4).sub λ_ h=>h.elim;have aJR:∀b,b<v.heap.size->LC b=cl b:=λb P=>(q.cls b<|cB P e.left.size).trans<|e.cls b P;refine⟨N1+(N2+N4),_,_,_,T4,p,v4,B,runNT_then r1<|runNT_then r2 r4,L,H4.alone l,rfl,rfl,rfl,⟨_,w,rfl,q.ext⟩,l,hLL,λb P c hx hc=>?_,?_,?_,ga⟩;·grind
 ·rw[W];exact e.stage
 grind
theorem xq{r:GStep}{g'}{w'}{es'}(h:r.goes λg w a=>g=g'/\w=w'/\a=es'):r=bV g' w' es':=by cases r with|go g w a=>grind[goes_go]|_=>exact h.elim
theorem dh_none{O Rd}{w}{es}(h:∀e∈es,False):DH O Rd w w es:=⟨rfl,rfl,rfl,rfl,λ_ _=>rfl,λe a=>(h e a).elim⟩
theorem abL{O}{w}{es}(h:∀e∈es,False):DO O w w es:=⟨rfl,rfl,rfl,rfl,rfl,λ_ _=>rfl,λe a=>(h e a).elim⟩
theorem Ok.walk_to{Q}{s}{a}(H:Ok K h s a)(O Rd){m}(f:(h==0)=m)(e:∀b∈O,b∈(s.D h).own)(d:∀b∈Rd,b<s.v.heap.size/\(s.cl b=.own h\/s.cl b=.eV))(c:∃n,cM K.P m (L<|O++Rd) (DH O Rd) (λg w=>g.status=dN/\∀t,t.v=w->s.runs K.P t->Ok K h t g->Kept h O s t->t.D h=s.D h->t.ch=s.ch->Q) n a s.v):Q:=by obtain⟨n,c⟩:=c;subst f;obtain⟨t,o,r,u,p,l,k,q⟩:=H.walk (λg w x=>x.1) c e d;grind
theorem Ok.yW{Q}{s}{a}(H:Ok K h s a)(l:a.status=dN){m}(O:(h==0)=m)(c)(F:c=.own h\/c=.sh)(d:∀b,∃q k,(∀e,e.heap.size=b->L (s.D h).own s.v e->cj K.P m a e=bV q {e with heap:=e.heap.push k} #[])/\∀t,s.runs K.P t->Ok K h t q->Kept h [] s t->s.v.heap.size<=b->t.v=b+1->t.v.heap[b]?=k->t.cl b=c->t.ch=s.ch->(c=.own h->b∈(t.D h).own)->(t.D h).own=(if c=.own h then b::(s.D h).own else(s.D h).own)->(∀E∈t.T,E.act.low b)->t.ch b=V->Q):Q:=by classical subst O;let f:Nat->aX:=λb=>IG<|d b;let o:Nat->Obj:=λb=>IG<|Aw<|d b;have p:=λb=>Aw<|Aw<|d b;obtain⟨t,b,R,r,M,A,z,J,C,y,N,w,P,x,u,B⟩:=H.YP l (f:=f) (o:=o) (λe I=>(p e).1 e rfl I) c F;subst B;exact(p b).2 t r M A z J C y N w P x u
theorem gC{w:ax}{b}{cs}{ty}{o}{x}(h:w.heap[b]?=U (aH cs ty))(a:cs[o]?=U x):w.cell? ⟨b,o,V⟩=U x:=by simp[pz,h,a]
theorem xC{w:ax}{b}{cs}{ty}(o)(h:w.heap[b]?=U (aH cs ty)):w.frozen? ⟨b,o,V⟩=ai:=by simp[yu,h]
theorem PS{w:ax}{b}{cs}{ty}(o)(x)(h:w.heap[b]?=U (aH cs ty)):w.setCell ⟨b,o,V⟩ x={w with heap:=w.heap.setIfInBounds b<|aH (cs.setIfInBounds o x) ty}:=by unfold jL;congr 1;grind
theorem pE{w:ax}{b}{cs}{ty}(o)(x)(h:w.heap[b]?=U (aH cs ty)):(w.setCell ⟨b,o,V⟩ x).heap[b]?=U (aH (cs.setIfInBounds o x) ty):=by grind[PS,Array.getElem?_setIfInBounds_self_of_lt,Array.getElem?_eq_some_iff]
theorem al6{O Rd}{w}{b}{cs}{ty}{o}{x}(h:w.heap[b]?=U (aH cs ty))(k:b∈O){es}(d:∀e∈es,∃a wr,e=⟨.cell a,wr,ai⟩/\(a.block∈O\/a.block∈Rd)):DH O Rd w (w.setCell ⟨b,o,V⟩ x) es:=by rw[PS o x h];exact⟨rfl,rfl,rfl,by simp,λc f=>nB λe=>f<|by grind,d⟩
theorem DH.trans{O Rd}{w w1 f}{es es'}(a:DH O Rd w w1 es)(b:DH O Rd w1 f es'):DH O Rd w f<|es++es':=⟨b.os.trans a.os,b.tape.trans a.tape,b.out.trans a.out,b.size.trans a.size,λc d=>(b.block c d).trans<|a.block c d,λe k=>(Ce.1 k).elim (a.ev e)<|b.ev e⟩
theorem Lj{O Rd}{w}{b}{cs}{ty}{o o'}{x x'}(h:w.heap[b]?=U (aH cs ty))(d:b∈O){es}(c:∀e∈es,∃a wr,e=⟨.cell a,wr,ai⟩/\(a.block∈O\/a.block∈Rd)):DH O Rd w ((w.setCell ⟨b,o,V⟩ x).setCell ⟨b,o',V⟩ x') es:=by have:=(al6 (Rd:=Rd) (x:=x) (o:=o) h d (es:=#[])<|by simp).trans<|al6 (Rd:=Rd) (x:=x') (o:=o') (pE o x h) d (es:=es) c;grind
theorem Ok.U4{Q}{s}{a}(H:Ok K h s a)(k:a.status=dN){m}(C:(h==0)=m)(E:K.live=ai)(f:∀b,∃o,(∀l,l.heap.size=b->L (s.D h).own s.v l->cj K.P m a l=bV o {l with heap:=l.heap.push<|.chan 1 #[] ai 0 0 ai} #[])/\∀t,s.runs K.P t->Ok K h t o->Kept h [] s t->s.v.heap.size<=b->t.v=b+1->t.ch=bE s.ch b (U ⟨V,ai,0⟩)->s.ch b=V->(t.D h).own=(s.D h).own->Q):Q:=by refine H.yW k C .sh (aB rfl) λb=>?_;obtain⟨o,w,z⟩:=f b;refine⟨o,_,w,λt r A d x B q y u M P J p=>?_⟩;refine z {t with ch:=bE t.ch b<|U ⟨V,ai,0⟩} r (A.reg q y p λe=>by grind) ⟨d.size,d.role,d.md,d.left,d.cls,d.rest,λc F I=>?_,d.own,d.v2⟩ x B (by rw[u]) (by grind) (by grind);grind[upd_ne]
end
section
open Go.Proofs
abbrev dL:Go.Conc.Lib.WgLink:={add:=55,done:=57,wait:=61,relMerge:=87,disable:=88,enable:=89,inBubble:=90,associate:=91,fatal:=92,uOr:=93,uAdd:=94,raceRead:=95,uLoad:=96,uStore:=97,disassociate:=98,semrelease:=99,acquire:=106,isAssociated:=107,uCas:=108,raceWrite:=109,semacquire:=110,orU64:=142,addU64:=143,loadU64:=144,storeU64:=145,casU64:=172,tWgP:=162,tUP:=164,tAssoc:=165,tWg:=125,tAU:=122,tU64:=120,tUint:=169,tU32:=123,tPU32:=170,tPAU:=223,tPU64:=225,tNoCopy:=117,tANoCopy:=118,tAlign64:=119}
theorem F1:Go.Conc.Lib.WgLib aD dL:=⟨func55,func57,func61,func87,func88,func89,func90,func91,func92,func93,func94,func95,func96,func97,func98,func99,func106,func107,func108,func109,func110,func142,func143,func144,func145,func172,underlying162,Tryz.runUnderlying162,sizeOf162,isAgg162,zeroValue162,underlying164,Tryz.runUnderlying164,sizeOf164,isAgg164,zeroValue164,underlying165,Tryz.runUnderlying165,sizeOf165,isAgg165,zeroValue165,underlying125,Tryz.runUnderlying125,sizeOf125,isAgg125,zeroValue125,underlying122,Tryz.runUnderlying122,sizeOf122,isAgg122,zeroValue122,underlying120,Tryz.runUnderlying120,sizeOf120,isAgg120,zeroValue120,underlying169,Tryz.runUnderlying169,sizeOf169,isAgg169,zeroValue169,underlying123,Tryz.runUnderlying123,sizeOf123,isAgg123,zeroValue123,underlying170,Tryz.runUnderlying170,sizeOf170,isAgg170,zeroValue170,underlying223,Tryz.runUnderlying223,sizeOf223,isAgg223,zeroValue223,underlying225,Tryz.runUnderlying225,sizeOf225,isAgg225,zeroValue225,underlying0,Tryz.runUnderlying0,sizeOf0,isAgg0,zeroValue0,underlying3,Tryz.runUnderlying3,sizeOf3,isAgg3,zeroValue3,underlying4,Tryz.runUnderlying4,sizeOf4,isAgg4,zeroValue4,underlying9,Tryz.runUnderlying9,sizeOf9,isAgg9,zeroValue9,underlying20,Tryz.runUnderlying20,sizeOf20,isAgg20,zeroValue20,underlying21,Tryz.runUnderlying21,sizeOf21,isAgg21,zeroValue21,by kernel_rfl,by kernel_rfl⟩
end
section
open Go.Conc Go.RowKit Go.Conc.Lib Go.ConcR.Gen
open Go.ConcN (WgLive)
open Go.ConcN.Gen (WgLive.cell0 WgLive.cell1)
open Go.ConcR (KK WgAt stA smA wgBlock rd wr mk Bk)
class Qt(R:ax->ax->Prop)(D:ax->ax->Array jq->Prop):Prop where q:∀w,D w w #[]r:∀w,R w w
theorem dH{P:bZ}{b:Bool}{R:ax->ax->Prop}{D:ax->ax->Array jq->Prop}[Q:Qt R D]{S:aX->ax->Prop}:∀{n:Nat}{g:aX}{w:ax},cM P b R Go.ConcR.DC0 S n g w->cM P b R D S n g w|0,_,_,h=>h|_+1,_,_,ay h=>ay h|_+1,g,w,aB ⟨d,h⟩=>aB ⟨d,λa r=>by have h:=h a r;cases c:cj P b g a with|go f e i=>rw[c,eH]at h;rw[eH];obtain⟨⟨rfl,rfl⟩,h⟩:=h;exact⟨Q.q _,dH h⟩|_=>rw[c]at h;exact h⟩
theorem aDe{P}{b}{R}{D}{S}{m}{g}{w}(k)(h:cM P b R D S m g w):cM P b R D S (m+k) g w:=by induction k with|zero=>exact h|succ k a=>exact a.more
theorem kK{P:bZ}{b:Bool}{R:ax->ax->Prop}{D:ax->ax->Array jq->Prop}[Q:Qt R D]{m:Nat}{S:aX->ax->Prop}:∀{n:Nat}{g:aX}{w:ax},cM P b R Go.ConcR.DC0 (λg w=>cM P b R D S m g w) n g w->cM P b R D S (m+n) g w|0,_,w,h=>h w<|Q.r w|n+1,_,w,ay h=>aDe (n+1)<|h w<|Q.r w|_+1,g,w,aB ⟨d,h⟩=>aB ⟨d,λa r=>by have h:=h a r;cases c:cj P b g a with|go f e i=>rw[c,eH]at h;rw[eH];obtain⟨⟨rfl,rfl⟩,h⟩:=h;exact⟨Q.q _,kK h⟩|_=>rw[c]at h;exact h⟩
theorem lift{P}{b}{R}{D}[Qt R D]{m}{S}{g}{w}(h:cM P b R Go.ConcR.DC0 (λg w=>cM P b R D S m g w) 60 g w):cM P b R D S (m+60) g w:=kK h
instance{L:WgLink}{Wg:Nat}:Qt (RL L Wg)<|DQ Wg:=⟨λ_=>dq_none<|by simp,λw=>RL.refl L Wg w⟩
theorem E{L}{a}{w w1}(h:jN L.tWg a w)(r:RL L a w w1):jN L.tWg a w1:=r h
theorem bd2:bits .and cP 8589934592 2147483648=0:=by decide
theorem be2:bits .and cP 8589934592 2147483647=0:=by decide
end
section
open Go.Proofs Go.Conc Go.RowKit Go.Conc.Lib Go.ConcR.Gen
open Go.ConcN (upd upd_ne upd_same WgLive)
open Go.ConcR (KK WgAt stA smA wgBlock rd wr mk Bk)
instance{O O' Rd:List Nat}:Qt (L O')<|DH O Rd:=⟨λ_=>dh_none<|by simp,L.refl O'⟩
instance{O O':List Nat}:Qt (L O')<|DO O:=⟨λ_=>abL<|by simp,L.refl O'⟩
theorem A{O}{w w1}(h:True)(r:L O w w1):True:=trivial
noncomputable def tJ:Array dG:=match Ba.body.getD .skip with|eG _<|eG (dS _ ops _) _=>ops|_=>#[]
theorem auM(t):mS (aD.follows nM) tJ t=[0,1,2,3]\/mS (aD.follows nM) tJ t=[1,0,2,3]:=by
 have n:aD.follows nM=Z:=by kernel_rfl
 have e:tJ.size=4:=by kernel_rfl
 have m:jh .any tJ #[ai,ai,ai,ai]=[0,1]:=by kernel_rfl
 have j:jh .any tJ #[Z,ai,ai,ai]=[1]:=by kernel_rfl
 have g:jh .any tJ #[ai,Z,ai,ai]=[0]:=by kernel_rfl
 have f:jh .any tJ #[Z,Z,ai,ai]=[2]:=by kernel_rfl
 have d:jh .any tJ #[Z,Z,Z,ai]=[3]:=by kernel_rfl
 have step:∀(c t:Nat)(l:Array Bool)(b:List Nat),yp .any tJ (c+1) t l b=match(jh .any tJ l)[t%(jh .any tJ l).length]? with|some i=>yp .any tJ c (t/(jh .any tJ l).length) (l.setIfInBounds i Z)<|i::b|none=>b.reverse:=λ_ _ _ _=>rfl;have z:∀t b l,yp .any tJ 0 t l b=b.reverse:=λ_ _ _=>rfl;simp only[mS,n,Bool.true_or,gL,Region.linearise,e];have k:uy 4 ai=#[ai,ai,ai,ai]:=rfl;rw[k,step,m];rcases Nat.mod_two_eq_zero_or_one t with h|h;.left;simp[h,step,j,f,d,z,Nat.mod_one]
 .right;simp[h,step,g,f,d,z,Nat.mod_one]
theorem ak5{P}{main}{b:aZ}{a}{e}{fn}{v}{es}{w}{K}{f:aZ}{d}{ops}{i}{rest}{k}{cs}(g:b.kind=eo)(n:a.defers=[])(m:P.funcs[b.fn]?=U fn)(j:(kD fn a.tmps).run P w=aW v w)(l:(kD fn a.tmps).events P w #[]=es)(h:K (G (f.at (d.put (ops[i]?.bind (·.dst)) v)<|aT ops rest::k) cs) w<|seen P b.fn es):(cj P main (G {b.at a e with mode:=fI}<|f.at d (aT ops (i::rest)::k)::cs) w).goes K:=by
 have:cj P main (G {b.at a e with mode:=fI}<|f.at d (aT ops (i::rest)::k)::cs) w=bV (G ((f.at d<|aT ops (i::rest)::k).finish v) cs) w (seen P b.fn es):=by simp[G,cj,unwind,oE,Frame.at,g,n,m,j,l,vT]
 rw[this,Frame.finish_at];exact h
theorem Sv(w):(Instr.makeChan 112<|Y aG 1).run aD w=aW (dc w) (w.alloc<|.chan 1 #[] ai 0 0 ai):=by
 have h:(aD.info? 79).map (·.bytes)=U 24:=by kernel_rfl
 obtain⟨i,a,b⟩:=ze.1 h;simpa using run_makeChan (P:=aD) (w:=w) underlying112 a aG 1 (by omega)<|by grind
theorem Su(w)(es):(Instr.makeChan 112<|Y aG 1).events aD w es=es:=by
 have h:(aD.info? 79).map (·.bytes)=U 24:=by kernel_rfl
 obtain⟨i,a,b⟩:=ze.1 h;simpa using events_makeChan (P:=aD) (w:=w) underlying112 a aG 1 (by omega) (by grind) es
section
variable {K:fK} {qH:aZ} {qJ:Act} {mh:Array dG} {qx:Nat} {qh:List Nat} {qo:List eY} {cs:List aZ}
theorem ahi(p:K.P=aD)(Q0:K.live=ai){Q:Prop}{s}(H:Ok K 0 s<|G ((bh 53).at ⟨#[ak,ak,ak,ak],[]⟩ [bF<|Ba.body.getD .skip])<|qH.at qJ (aT mh (qx::qh)::qo)::cs)(hQ:∀t S W,s.runs K.P t->Ok K 0 t (G (qH.at (qJ.put (mh[qx]?.bind (·.dst))<|bO #[dc<|U S,dc<|U W])<|aT mh qh::qo) cs)->Kept 0 [] s t->t.ch S=U ⟨V,ai,0⟩->t.ch W=U ⟨V,ai,0⟩->S≠W->s.v<=S->s.v<=W->Q):Q:=by
 simp only[Ba,fW]at H;refine H.walk_to [] [] rfl (by simp) (by simp) ⟨608,?_⟩;rw[p];have g:=trivial;refine dH ?_;u_c I A g;u_reg A g;refine y λl c=>⟨rfl,λt1 _ P H1 QW _ S=>?_⟩;refine H1.yW rfl rfl (.own 0) (ay rfl) λd=>?_;co_apply mC;co_apply mC;co_apply aM;·intro u k T;rw[p];co_apply xq;refine gi rfl rfl (by k_ne) λK m=>?_;go_simp;exact m _ _ ⟨rfl,rfl,oW<|by simp[go_sem]⟩
 intro t2 r2 H2 X n12 n22 O R Ss n62 n72 n82 n92;refine H2.walk_to [] [] rfl (by simp) (by simp) ⟨608,?_⟩;rw[p];refine lift ?_;u_c N A g;u_c I A g;refine y λ_ c=>?_;replace g:=A g c;u_in A g;rw[stepG_region_draw];simp only[eH];refine⟨⟨rfl,rfl,rfl,rfl,λ_ _=>rfl,by simp⟩,?_⟩;rename_i wd;have F:=auM<|wd.tape wd.drawn<|.order (bh 53).fn 1;simp only[tJ,Ba,fW]at F;rcases F with F|F
 ·rw[F];refine y λl c=>⟨rfl,λt3 _ Q2 H3 J d3 c3=>?_⟩;refine H3.U4 rfl rfl Q0 λB=>?_;co_apply mC;co_apply aM
  ·intro u k T;rw[p];co_apply xq;refine gi rfl rfl (by k_ne) λK m=>?_;have z:=Sv u;go_simp;try simp only[k]
   try walk_nrm
   exact m _ _ ⟨rfl,rfl,oW<|by simp[go_sem,Su]⟩
  intro t4 r4 H4 Q1 x n24 w n44 n54;refine H4.U4 rfl rfl Q0 λD=>?_;co_apply mC;co_apply aM
  ·intro u k T;rw[p];co_apply xq;refine gi rfl rfl (by k_ne) λK m=>?_;have z:=Sv u;go_simp;try simp only[k]
   try walk_nrm
   exact m _ _ ⟨rfl,rfl,oW<|by simp[go_sem,Su]⟩
  intro a r5 H5 k5 Yv Yt q Yn n55;have o:=(J.trans Q1).trans k5;have g:a.v.heap[d]?=U (aH #[dc V,dc V] 114):=(o.rest d (by grind) R<|by simp).trans O;refine H5.walk_to [d] [] rfl (λb k=>?_) (by simp) ⟨620,?_⟩;·grind
  rw[p];refine lift ?_;u_op(λ(h:_)(r:L ([d]++[]) _ _)=>(r.1 d<|by simp).trans h)g;refine y λ_ c=>?_;replace g:=(λ(h:_)(r:L ([d]++[]) _ _)=>(r.1 d<|by simp).trans h) g c;u_in(λ(h:_)(r:L ([d]++[]) _ _)=>(r.1 d<|by simp).trans h)g;refine gi rfl rfl (by k_ne) λK m=>?_;have QY:=gC (o:=0) g rfl;have qy:=xC 0 g;have j:=pE 0 (dc<|U B) g;have Q3:=gC (o:=1) j rfl;have ko:=xC 1 j;go_simp;refine m _ _ ⟨Lj g (by simp) λe E=>?_,?_⟩;·have n:=kN E;simp[go_sem,storedEv, *]at n;grind
  have f:=pE 1 (dc<|U D) j;refine lift ?_;u_c N(λ(h:_)(r:L ([d]++[]) _ _)=>(r.1 d<|by simp).trans h)f;u_c stepG_ret'(λ(h:_)(r:L ([d]++[]) _ _)=>(r.1 d<|by simp).trans h)f;refine y λ_ c=>?_;replace f:=(λ(h:_)(r:L ([d]++[]) _ _)=>(r.1 d<|by simp).trans h) f c;u_in(λ(h:_)(r:L ([d]++[]) _ _)=>(r.1 d<|by simp).trans h)f;have QY:=gC (o:=0) f rfl;have Q3:=gC (o:=1) f rfl;refine ak5 (v:=bO #[dc<|U B,dc<|U D]) rfl rfl func53 ?_ rfl ?_;·simp only[kD,Ba];go_simp
  refine⟨⟨rfl,rfl,rfl,rfl,λ_ _=>rfl,λe E=>?_⟩,?_⟩;·have n:=mem_seen E;simp only[kD,Ba]at n;simp[go_sem, *]at n;grind
  refine y λl c=>⟨rfl,λC v6 QX H6 k6 d6 M=>?_⟩;have kk:Kept 0 [] s C:=by have i:=(((QW.trans X).trans o).more<|by simp).trans k6;refine⟨i.size,i.role,i.md,i.left,i.cls,λb k hc _=>i.rest b k hc λn=>?_,i.oI,i.own,i.v2⟩;simp only[di,dJ,dQ]at n;have:=QW.left.size;omega
  have s4:=bC (bC QW.left.size X.left.size)<|bC J.left.size x;have e5:C.ch D=U ⟨V,ai,0⟩:=by rw[M,q,da]
  have e4:C.ch B=U ⟨V,ai,0⟩:=by rw[M,q,cX _ _<|by omega,w,da]
  rw[<-p]at P Q2 QX;have hr:=((P.trans r2).trans<|Q2.trans r4).trans<|r5.trans QX;grind
 ·rw[F];refine y λl c=>⟨rfl,λt3 _ Q2 H3 J d3 c3=>?_⟩;refine H3.U4 rfl rfl Q0 λB=>?_;co_apply mC;co_apply aM
  ·intro u k T;rw[p];co_apply xq;refine gi rfl rfl (by k_ne) λK m=>?_;have z:=Sv u;go_simp;try simp only[k]
   try walk_nrm
   exact m _ _ ⟨rfl,rfl,oW<|by simp[go_sem,Su]⟩
  intro t4 r4 H4 Q1 x n24 w n44 n54;refine H4.U4 rfl rfl Q0 λD=>?_;co_apply mC;co_apply aM
  ·intro u k T;rw[p];co_apply xq;refine gi rfl rfl (by k_ne) λK m=>?_;have z:=Sv u;go_simp;try simp only[k]
   try walk_nrm
   exact m _ _ ⟨rfl,rfl,oW<|by simp[go_sem,Su]⟩
  intro a r5 H5 k5 Yv Yt q Yn n55;have o:=(J.trans Q1).trans k5;have g:a.v.heap[d]?=U (aH #[dc V,dc V] 114):=(o.rest d (by grind) R<|by simp).trans O;refine H5.walk_to [d] [] rfl (λb k=>?_) (by simp) ⟨620,?_⟩;·grind
  rw[p];refine lift ?_;u_op(λ(h:_)(r:L ([d]++[]) _ _)=>(r.1 d<|by simp).trans h)g;refine y λ_ c=>?_;replace g:=(λ(h:_)(r:L ([d]++[]) _ _)=>(r.1 d<|by simp).trans h) g c;u_in(λ(h:_)(r:L ([d]++[]) _ _)=>(r.1 d<|by simp).trans h)g;refine gi rfl rfl (by k_ne) λK m=>?_;have QY:=gC (o:=0) g rfl;have qy:=xC 0 g;have j:=pE 0 (dc<|U D) g;have Q3:=gC (o:=1) j rfl;have ko:=xC 1 j;go_simp;refine m _ _ ⟨Lj g (by simp) λe E=>?_,?_⟩;·have n:=kN E;simp[go_sem,storedEv, *]at n;grind
  have f:=pE 1 (dc<|U B) j;refine lift ?_;u_c N(λ(h:_)(r:L ([d]++[]) _ _)=>(r.1 d<|by simp).trans h)f;u_c stepG_ret'(λ(h:_)(r:L ([d]++[]) _ _)=>(r.1 d<|by simp).trans h)f;refine y λ_ c=>?_;replace f:=(λ(h:_)(r:L ([d]++[]) _ _)=>(r.1 d<|by simp).trans h) f c;u_in(λ(h:_)(r:L ([d]++[]) _ _)=>(r.1 d<|by simp).trans h)f;have QY:=gC (o:=0) f rfl;have Q3:=gC (o:=1) f rfl;refine ak5 (v:=bO #[dc<|U D,dc<|U B]) rfl rfl func53 ?_ rfl ?_;·simp only[kD,Ba];go_simp
  refine⟨⟨rfl,rfl,rfl,rfl,λ_ _=>rfl,λe E=>?_⟩,?_⟩;·have n:=mem_seen E;simp only[kD,Ba]at n;simp[go_sem, *]at n;grind
  refine y λl c=>⟨rfl,λC v6 QX H6 k6 d6 M=>?_⟩;have kk:Kept 0 [] s C:=by have i:=(((QW.trans X).trans o).more<|by simp).trans k6;refine⟨i.size,i.role,i.md,i.left,i.cls,λb k hc _=>i.rest b k hc λn=>?_,i.oI,i.own,i.v2⟩;simp only[di,dJ,dQ]at n;have:=QW.left.size;omega
  have s4:=bC (bC QW.left.size X.left.size)<|bC J.left.size x;have e5:C.ch D=U ⟨V,ai,0⟩:=by rw[M,q,da]
  have e4:C.ch B=U ⟨V,ai,0⟩:=by rw[M,q,cX _ _<|by omega,w,da]
  rw[<-p]at P Q2 QX;have hr:=((P.trans r2).trans<|Q2.trans r4).trans<|r5.trans QX;grind
end
end
section
open Go
def tk{α:Type}(f:Nat->α):Nat->Nat->List α|0,_=>[]|n+1,i=>f i::tk f n (i+1)
theorem ad3{t:Type}(f:Nat->t):∀(l:List t)(i:Nat),(∀k(h:k<l.length),f (i+k)=l[k])->tk f l.length i=l
 |[],_,_=>rfl|a::l,i,h=>by
  have c:=h 0 (by simp);have:=ad3 f l (i+1) λk d=>by have:=h (k+1) (by grind);grind
  grind[tk]
theorem ano(T):T=(tk (λk=>T.getD k ak) T.size 0).toArray:=by
 have:=ad3 (λk=>T.getD k ak) T.toList 0 λk h=>by simp at h;simp[h]
 grind
theorem pG(T:Array az)(h:T.size=87):∃v0 v1 v2 v3 v4 v5 v6 v7 v8 v9 v10 L v12 mF x Jh t H F6 mE K v21 F5 U p q B S Q Jg I v31 g F4 s W m n A u v40 N V J Jf oa v46 z v j y v51 k i xO F nZ G O o nY X P l nX C nW b w E v70 c v72 F3 r Y D a Je F2 f M Z nV R v85 d,T=#[v0,v1,v2,v3,v4,v5,v6,v7,v8,v9,v10,L,v12,mF,x,Jh,t,H,F6,mE,K,v21,F5,U,p,q,B,S,Q,Jg,I,v31,g,F4,s,W,m,n,A,u,v40,N,V,J,Jf,oa,v46,z,v,j,y,v51,k,i,xO,F,nZ,G,O,o,nY,X,P,l,nX,C,nW,b,w,E,v70,c,v72,F3,r,Y,D,a,Je,F2,f,M,Z,nV,R,v85,d]:=by have e:=ano T;rw[h]at e;exact⟨_,_,_,_,_,_,_,_,_,_,_,_,_,_,_,_,_,_,_,_,_,_,_,_,_,_,_,_,_,_,_,_,_,_,_,_,_,_,_,_,_,_,_,_,_,_,_,_,_,_,_,_,_,_,_,_,_,_,_,_,_,_,_,_,_,_,_,_,_,_,_,_,_,_,_,_,_,_,_,_,_,_,_,_,_,_,_,e⟩
theorem Vb(T:Array az)(h:T.size=21):∃r v u o s n q t w p l k b a d f c i g m j,T=#[r,v,u,o,s,n,q,t,w,p,l,k,b,a,d,f,c,i,g,m,j]:=by have e:=ano T;rw[h]at e;exact⟨_,_,_,_,_,_,_,_,_,_,_,_,_,_,_,_,_,_,_,_,_,e⟩
end
section
open Go.Proofs Go.Conc Go.RowKit Go.Conc.Lib Go.ConcR.Gen
open Go.ConcN (upd upd_ne upd_same WgLive)
open Go.ConcR (KK WgAt stA smA wgBlock rd wr mk Bk)
theorem j5{x y}{o o'}{w w1}(h:w.heap[x]?=U o/\w.heap[y]?=U o')(r:L ([]++[x,y]) w w1):w1.heap[x]?=U o/\w1.heap[y]?=U o':=⟨(r.1 x<|by simp).trans h.1,(r.1 y<|by simp).trans h.2⟩
theorem JK{x y}{o o'}{w w1}(h:w.heap[x]?=U o/\w.heap[y]?=U o')(r:L ([x,y]++[]) w w1):w1.heap[x]?=U o/\w1.heap[y]?=U o':=⟨(r.1 x<|by simp).trans h.1,(r.1 y<|by simp).trans h.2⟩
noncomputable def ED:List eY:=match cV 1 with|eG (eG _ c) r=>[bF c,bF r]|_=>[]
theorem ahe:(Ba.name== "runtime.NumGoroutine")=ai:=by kernel_rfl
section
variable {K:fK} {C:List aZ}
theorem ar1(n:K.P=aD)(sO:K.L=dL)(hl:K.live=ai){Q:Prop}{s}{a b}{m}{Q3}{ops}(Uh:Q3.size=87)(Tx:Q3[0]?=U (.pointer<|U a)/\Q3[1]?=U (.pointer<|U b)/\Q3[2]?=U m/\Q3[6]?=U (.int .i64 0)/\Q3[7]?=U (.int .i64 0)/\Q3[22]?=U (.bool ai))(H:Ok K 0 s<|G ((bh 41).at ⟨Q3,[]⟩<|.inRegion ops []::ED) C)(nI:s.md=.opn 0)(hQ:∀t bw e8 e9 p r u q T,s.runs K.P t->Ok {K with Wg:=bw,live:=Z} 0 t (G ((bh 41).at ⟨T,[]⟩ [.code<|cV 4]) C)->T.size=87->T[0]?=U (.pointer a)/\T[1]?=U (.pointer b)/\T[2]?=U m/\T[6]?=U (.int .i64 0)/\T[7]?=U (.int .i64 0)/\T[8]?=U (.pointer e8)/\T[9]?=U (.pointer e9)/\T[10]?=U (.pointer bw)->Kept 0 [] s t->t.v.heap[e8]?=U (.cells #[.chan p,.chan r] 114)/\t.v.heap[e9]?=U (.cells #[.chan u,.chan q] 114)->e8∈(t.D 0).own/\e9∈(t.D 0).own/\e9≠e8->t.ch p=U ⟨V,ai,0⟩/\t.ch r=U ⟨V,ai,0⟩/\t.ch u=U ⟨V,ai,0⟩/\t.ch q=U ⟨V,ai,0⟩->p≠r/\u≠q/\p<u/\p<q/\r<u/\r<q->Q):Q:=by
 obtain⟨u0,u1,u2,u3,u4,u5,u6,u7,u8,u9,u10,u11,u12,u13,u14,u15,u16,u17,u18,u19,u20,u21,u22,u23,u24,u25,u26,u27,u28,u29,u30,u31,u32,u33,u34,u35,u36,u37,u38,u39,u40,u41,u42,u43,u44,u45,u46,u47,u48,u49,u50,u51,u52,u53,u54,u55,u56,u57,u58,u59,u60,u61,u62,u63,u64,u65,u66,u67,u68,u69,u70,u71,u72,u73,u74,u75,u76,u77,u78,u79,u80,u81,u82,u83,u84,u85,u86,rfl⟩:=pG Q3 Uh;simp only[my,qu,nG,dX]at Tx;obtain⟨rfl,rfl,rfl,rfl,rfl,rfl⟩:=Tx;simp only[ED,cV,eM,oG,fW]at H;refine H.walk_to [] [] rfl (by simp) (by simp) ⟨640,?_⟩;rw[n];have d:=trivial;refine dH ?_;u_c N A d;u_cond ai A d;u_c stepG_skip A d;u_c I A d;u_reg A d;u_call func53 ahe Ba A d;refine y λk i=>⟨rfl,λt1 v1 r1 H1 k1 d1 c1=>?_⟩;refine ahi n hl H1 λt2 p r r2 H2 k2 e1 f1 ne1 l1 m1=>?_;refine H2.walk_to [] [] rfl (by simp) (by simp) ⟨640,?_⟩;rw[n];clear d;have d:=trivial;walk_nrm;refine dH ?_;u_call func53 ahe Ba A d;refine y λk i=>⟨rfl,λt3 v3 r3 H3 W d3 c3=>?_⟩;refine ahi n hl H3 λt4 u q r4 H4 k4 e2 f2 ne2 l2 m2=>?_;simp only[dj]at H4;refine H4.yW rfl rfl (.own 0) (.inl rfl) λB=>?_;co_apply mC;co_apply mC;co_apply aM;.intro w1 M hR;rw[n];co_apply xq;refine gi rfl rfl (by k_ne) λK j=>?_;go_simp;exact j _ _ ⟨rfl,rfl,oW<|by simp[go_sem]⟩
 intro t5 r5 H5 k5 Yv Yt n35 Yn n55 n65 n75 n85 n95;refine H5.yW rfl rfl (.own 0) (.inl rfl) λR=>?_;co_apply mC;co_apply mC;co_apply aM;.intro w1 M hR;rw[n];co_apply xq;refine gi rfl rfl (by k_ne) λK j=>?_;go_simp;exact j _ _ ⟨rfl,rfl,oW<|by simp[go_sem]⟩
 intro t6 r6 H6 J Yu n26 n36 n46 n56 v n76 n86 n96;have i5:B<t5.v:=by rw[Yt];exact Nat.lt_succ_self _
 have f:t6.v.heap[B]?=U (.cells #[.chan V,.chan V] 114)/\t6.v.heap[R]?=U (.cells #[.chan V,.chan V] 114):=⟨(J.rest B i5 Yn<|by simp).trans n35,n36⟩;have l:R≠B:=by omega
 refine H6.walk_to [B,R] [] rfl (λb M=>?_) (by simp) ⟨660,?_⟩
 .simp only[di,dJ,dQ]at M;rcases M with rfl|rfl;.exact J.own _<|n65 rfl
  .exact v rfl
 rw[n];clear d;have d:=f;clear f;u_in JK d;refine gi rfl rfl (by k_ne) λK j=>?_;have Q2:=gC (o:=0) d.1 rfl;have D:=xC 0 d.1;have f:=pE 0 (.chan<|U p) d.1;have S:=gC (o:=1) f rfl;have O:=xC 1 f;go_simp;refine j _ _ ⟨Lj d.1 (by simp) λe he=>?_,?_⟩;.have P:=kN he;simp[go_sem,storedEv, *]at P;rcases P with rfl|rfl<;>exact⟨_,_,rfl,.inl<|by simp⟩
 have w:=show _/\_ from⟨pE 1 (.chan<|U r) f,((aside_setCell _ ⟨B,1,V⟩<|.chan<|U r).block _ l).trans<|((aside_setCell _ ⟨B,0,V⟩<|.chan<|U p).block _ l).trans d.2⟩;clear Q2 D S O f d j K;have d:=w;clear w;try walk_nrm
 u_in JK d;refine gi rfl rfl (by k_ne) λK j=>?_;have Q2:=gC (o:=0) d.2 rfl;have D:=xC 0 d.2;have f:=pE 0 (.chan<|U u) d.2;have S:=gC (o:=1) f rfl;have O:=xC 1 f;go_simp;refine j _ _ ⟨Lj d.2 (by simp) λe he=>?_,?_⟩;.have P:=kN he;simp[go_sem,storedEv, *]at P;rcases P with rfl|rfl<;>exact⟨_,_,rfl,.inl<|by simp⟩
 have w:=show _/\_ from⟨((aside_setCell _ ⟨R,1,V⟩<|.chan<|U q).block _<|Ne.symm l).trans<|((aside_setCell _ ⟨R,0,V⟩<|.chan<|U u).block _<|Ne.symm l).trans d.1,pE 1 (.chan<|U q) f⟩;clear Q2 D S O f d j K;have d:=w;try walk_nrm
 refine dH ?_;u_c N JK d;u_c I JK d;u_reg JK d;refine y λk i=>⟨rfl,λt7 v7 r7 H7 X d7 c7=>?_⟩;have F:=JK d i;rw[<-v7]at F;refine H7.yW rfl rfl .sh (.inr rfl) λb8=>?_;co_apply mC;co_apply mC;co_apply aM;.intro w1 M hR;rw[n];co_apply xq;refine gi rfl rfl (by k_ne) λK j=>?_;go_simp;exact j _ _ ⟨rfl,rfl,oW<|by simp[go_sem]⟩
 intro t8 r8 H8 L n18 n28 n38 n48 n58 n68 n78 n88 n98;have aBl:t8.md=.opn 0:=by rw[L.md,X.md,J.md,k5.md,k4.md,W.md,k2.md,k1.md,nI]
 have H9:=H8.aDd hl (b:=b8) (by rw[sO];exact n38) n48 n98 n88 aBl;refine Ok.walk_to H9 [] [] rfl (by simp) (by simp) ⟨608,?_⟩;rw[show({K with Wg:=b8,live:=Z}:fK).P=aD from n];have hT:=trivial;refine dH ?_;u_c N A hT;refine y λk i=>⟨rfl,λt9 v9 r9 H9' k9 d9 c9=>?_⟩;rw[<-n]at r1 r3 r7 r9 H9';have kk1:=((((k1.trans k2).trans W).trans k4).trans k5).trans J;have b5s:=bC (((k1.trans k2).trans W).trans k4).left.size Yv;have b6s:s.v<=R:=by omega
 have kk:Kept 0 [] s t9:=by have z:=(((kk1.more<|by simp).trans X).trans<|L.more<|by simp).trans (k9.more<|by simp);refine⟨z.size,z.role,z.md,z.left,z.cls,λb M hc _=>z.rest b M hc λP=>?_,z.oI,z.own,z.v2⟩;simp only[di,dJ,dQ]at P;omega
 have Q0:=L.trans k9;have Q1:=X.own _<|J.own _<|n65 rfl;have E:=X.own _<|v rfl;have g:∀x o,x∈(t7.D 0).own->t7.v.heap[x]?=U o->t9.v.heap[x]?=o:=λx o hx ho=>(Q0.rest x (H7.hold.inv.own 0 x hx).2 (H7.hold.inv.own 0 x hx).1<|by simp).trans ho;have k29:=λc g h=>k9.oI c g<|L.oI c g<|X.oI c g<|J.oI c g<|k5.oI c g<|k4.oI c g<|W.oI c g h;have k49:=λc g h=>k9.oI c g<|L.oI c g<|X.oI c g<|J.oI c g<|k5.oI c g h;have lx:=cB (pC (H2.hold.inv.chan _ _ e1).1) W.left.size;have ly:=cB (pC (H2.hold.inv.chan _ _ f1).1) W.left.size;refine hQ t9 b8 B R p r u q _ ((((((((r1.trans r2).trans r3).trans r4).trans r5).trans r6).trans r7).trans r8).trans r9) H9' rfl ⟨rfl,rfl,rfl,rfl,rfl,rfl,rfl,rfl⟩ kk ⟨g _ _ Q1 F.1,g _ _ E F.2⟩ ⟨Q0.own _ Q1,Q0.own _ E,l⟩ ⟨k29 _ _ e1,k29 _ _ f1,k49 _ _ e2,k49 _ _ f2⟩ ⟨ne1,ne2,by omega,by omega,by omega,by omega⟩
end
end
section
open Go.Conc
open Go.ConcN (sumTo upd sumTo_upd upd_ne upd_same sumTo_congr le_sumTo WSit WgLive RW PayAt Has DWs EvW ShN AsideCell AtR0 RelBy bk_cell)
open Go.ConcR (KK WgAt stA smA wgBlock rd wr mk Bk)
open Go.Conc.Lib (WgLink)
variable{K:fK}{role:Nat->Option fG}{h j:Nat}{sp:Nat->Prop}{md md':Md}{ch z:Nat->Option fN}{cl cl':Nat->fe}{who Bx:yy}{D D':Nat->dn}{T T':eB}{gs R:Array aX}{v v':ax}{n i:Nat}{g:aX}{sl dI:Option<|Nat×Nat}
theorem Ok.add{p:Nat}{s:St}{a U:aX}(H:Ok K 0 s a)(hl:K.live=Z)(A:s.md=.opn p)(hp:p<=1)(hV:V2 s.gs.size s.D+p<=1)(hS:VD K.P K.L K.Wg U a s.v):∃t,s.runs K.P t/\Ok K 0 t U/\t.md=.opn (p+1)/\t.role=s.role/\t.ch=s.ch/\t.gs.size=s.gs.size/\Left s.cl (.=0) s.v t.v/\(∀b,b<s.v.heap.size->t.cl b=s.cl b)/\(t.D 0).own=(s.D 0).own/\∀n,V2 n t.D<=V2 n s.D:=by have V:=H.hold;rw[A]at V;obtain⟨N,z,cl',D',T',R,v',dI,r1,E,H',G,hd⟩:=cQ.add V hl hp hV H.mI H.deaf hS s.sl;obtain⟨rfl,q⟩:=G.calm H.wM;exact⟨⟨s.role,.opn<|p+1,s.ch,cl',D',T',R,v',dI⟩,⟨N,r1⟩,⟨H',E,q,G.stage.trans H.nine,hd,⟨_,rfl⟩,H.ro⟩,rfl,rfl,rfl,G.size,G.left,G.cls,G.own,λn=>Dl G.iE⟩
end
section
open Go.Proofs Go.Conc Go.RowKit Go.Conc.Lib Go.ConcR.Gen
open Go.ConcN (upd upd_ne upd_same WgLive)
open Go.ConcR (KK WgAt stA smA wgBlock rd wr mk Bk)
theorem Pj{P}{f}{fn}{args}{w}(es)(b:P.funcs[f]?=U fn)(a:(fn.name== "runtime.NumGoroutine")=ai)(e:fn.body.isNone=ai):(iJ f args).events P w es=es:=by
 have d:¬fn.name= "runtime.NumGoroutine":=by grind
 have c:¬fn.body=V:=by grind
 simp[iJ,b,d,c]
def Dw(Wg:Nat):Prop:=∀(qH:aZ)(qJ:Act)(mh:Array dG)(qx:Nat)(qh:List Nat)(qo:List eY)(cs:List aZ)(w:ax),jN dL.tWg Wg w->VD aD dL Wg (G (qH.at (qJ.put (mh[qx]?.bind (·.dst))<|bQ #[])<|aT mh qh::qo) cs) (G ((bh dL.add).at ⟨#[aF<|U ⟨Wg,0,V⟩,Y aG 1,ak,ak,ak,ak,ak,ak,ak,ak,ak,ak,ak,ak,ak,ak,ak,ak,ak,ak,ak,ak,ak,ak,ak,ak,ak,ak,ak,ak,ak,ak,ak,ak,ak,ak,ak,ak,ak,ak,ak,ak,ak,ak,ak,ak,ak,ak,ak,ak,ak,ak,ak,ak,ak,ak,ak,ak,ak,ak,ak,ak,ak,ak,ak,ak,ak,ak,ak,ak,ak,ak,ak,ak,ak,ak,ak,ak,ak,ak,ak,ak,ak,ak,ak,ak,ak,ak,ak,ak,ak,ak,ak,ak,ak,ak,ak,ak,ak,ak,ak,ak,ak,ak,ak,ak,ak,ak,ak,ak,ak,ak,ak,ak,ak,ak,ak],[]⟩ [bF<|body_add dL])<|qH.at qJ (aT mh (qx::qh)::qo)::cs) w
theorem aet{P}{main}{b:aZ}{a}{k}{cs}{ops}{i}{rest}{o}{d}{f}{c}(w)(h:ops[i]?=U o)(e:eW o (dZ ops a.tmps)=Z)(g:b.kind≠.early)(j:(cS a.eval o).run P w=aW (.spawn d) w)(m:d.target=.fn f c)(l:(cS a.eval o).events P w #[]=#[]):cj P main (G (b.at a<|aT ops (i::rest)::k) cs) w=.spawn (G (b.at (a.put o.dst ak)<|aT ops rest::k) cs) (born P d) w #[]:=by rw[stepG_spawn h e g j m,oW l]
theorem ahd:(f54.name== "runtime.NumGoroutine")=ai:=by kernel_rfl
section
variable {K:fK} {C:List aZ}
theorem ar3(B:K.P=aD)(S:K.L=dL){Q:Prop}{s}{a b e8 e9 x1 y1 x2 y2 O}{m}{T}(hT:T.size=87)(hs:T[0]?=U (.pointer a)/\T[1]?=U (.pointer<|U b)/\T[2]?=U m/\T[6]?=U (.int .i64 0)/\T[7]?=U (.int .i64 0)/\T[8]?=U (.pointer e8)/\T[9]?=U (.pointer e9)/\T[10]?=U (.pointer O))(hc:s.v.heap[e8]?=U (.cells #[.chan x1,.chan y1] 114)/\s.v.heap[e9]?=U (.cells #[.chan<|U x2,.chan<|U y2] 114))(c:e8∈(s.D 0).own/\e9∈(s.D 0).own/\e9≠e8)(H:Ok K 0 s<|G ((bh 41).at ⟨T,[]⟩ [.code<|cV 4]) C)(hl:K.live=Z)(sM:K.Wg=O){p}(nI:s.md=.opn p)(hp:p<=1)(hV:∀n,V2 n s.D+p<=1)(hA:Dw K.Wg)(hQ:∀t q r gG gA,s.runs K.P t->Ok K 0 t gG->gG.status=.running->(∀M,cj aD Z gG M=.spawn gA (born aD ⟨.fn (.func 56) #[.pointer O,.pointer<|U ⟨q,0,V⟩,.pointer<|U ⟨r,0,V⟩],#[]⟩) M #[])->t.md=.opn (p+1)->(t.role=s.role/\t.ch=s.ch/\t.gs.size=s.gs.size/\Left s.cl (λ_=>False) s.v t.v/\(∀x,x<s.v.heap.size->t.cl x=s.cl x)/\∀n,V2 n t.D<=V2 n s.D)->((∀x∈(s.D 0).own,x∈(t.D 0).own)/\∀x∈(s.D 0).own,t.v.heap[x]?=s.v.heap[x]?)->q∈(t.D 0).own/\r∈(t.D 0).own/\s.v<=q/\q<r->t.v.heap[q]?=U (.cells #[.chan<|U x1,.chan<|U y1] 114)/\t.v.heap[r]?=U (.cells #[.func (.func 59) #[.pointer<|U a] #[]] 126)->(∃n l,(∀w,cM aD Z (L<|[]++[]) (DH [] []) (λg w=>g=G ((bh 41).at ⟨l,[]⟩ [.code<|cV 6]) C) n gA w)/\l.size=87/\l[0]?=U (.pointer a)/\l[1]?=U (.pointer b)/\l[2]?=U m/\l[6]?=U (.int .i64 0)/\l[7]?=U (.int .i64 0)/\l[8]?=U (.pointer e8)/\l[9]?=U (.pointer e9)/\l[10]?=U (.pointer O)/\l[11]?=U (.func (.func 54) #[] #[.pointer O]))->True->Q):Q:=by
 obtain⟨v0,v1,v2,v3,v4,v5,v6,v7,v8,v9,v10,v11,v12,mF,qc,Jh,qb,qa,F6,mE,v20,v21,F5,pZ,v24,QE,QD,QC,v28,Jg,v30,v31,uS,F4,V9,pY,V8,v37,pX,pW,v40,pV,pU,pS,Jf,oa,v46,pR,pQ,v49,QB,v51,V7,v53,xO,pP,nZ,V4,QA,v59,nY,pO,pM,V3,nX,Qv,nW,V0,VZ,VY,v70,Qu,v72,F3,VX,v75,v76,xN,Je,F2,v80,VW,Qs,nV,VV,v85,VU,rfl⟩:=pG T hT;simp only[my,qu,nG,dX]at hs;obtain⟨rfl,rfl,rfl,rfl,rfl,rfl,rfl,rfl⟩:=hs;simp only[cV,eM,oG,fW]at H;refine H.walk_to [] [e8,e9] rfl (by simp) (λb W=>?_) ⟨660,?_⟩
 .simp only[di,dJ,dQ]at W;rcases W with rfl|rfl;.exact⟨(H.hold.inv.own 0 _ c.1).2,.inl (H.hold.inv.own 0 _ c.1).1⟩
  .exact⟨(H.hold.inv.own 0 _ c.2.1).2,.inl (H.hold.inv.own 0 _ c.2.1).1⟩
 rw[B];have i:=hc;refine lift ?_;u_c I j5 i;u_reg j5 i;u_op j5 i;u_op j5 i;u_c N j5 i;u_c I j5 i;u_reg j5 i;u_op j5 i;refine y λ_ f=>?_;replace i:=j5 i f;clear f;u_in j5 i;refine gi rfl rfl (by k_ne) λK u=>?_;have sK:=gC (o:=0) i.1 rfl;have um:=gC (o:=1) i.1 rfl;go_simp;refine u _ _ ⟨⟨rfl,rfl,rfl,rfl,λ_ _=>rfl,λe he=>?_⟩,?_⟩;.have v:=kN he;simp[go_sem, *]at v;rcases v with rfl|rfl<;>exact⟨_,_,rfl,.inr<|by simp⟩
 clear sK um u K;refine lift ?_;u_op j5 i;u_op j5 i;refine y λ_ f=>?_;replace i:=j5 i f;u_in j5 i;refine goes_oper_e rfl rfl (by k_ne) λK E u hE=>?_;go_simp;refine hE _ _ _ ⟨⟨rfl,rfl,rfl,rfl,λ_ _=>rfl,λe he=>?_⟩,?_⟩;.have v:=kN he;have hz:=λargs w es=>Pj (P:=aD) (args:=args) (w:=w) es func54 ahd rfl;simp[go_sem,hz]at v
 clear u hE K E;rw[enter_at _ func54 rfl];walk_nrmf f54;refine dH ?_;u_c I j5 i;u_reg j5 i;refine y λQW f=>⟨rfl,λt1 v1 r1 H1 k1 d1 c1=>?_⟩;refine H1.yW rfl rfl (.own 0) (.inl rfl) λq=>?_;co_apply mC;co_apply mC;co_apply aM;.intro M W hR;rw[B];co_apply xq;refine gi rfl rfl (by k_ne) λK u=>?_;go_simp;exact u _ _ ⟨rfl,rfl,oW<|by simp[go_sem]⟩
 intro t2 r2 H2 k2 n12 n22 Yr Yp Ss Q3 n72 n82 n92;refine H2.yW rfl rfl (.own 0) (.inl rfl) λr=>?_;co_apply mC;co_apply mC;co_apply aM;.intro M W hR;rw[B];co_apply xq;refine gi rfl rfl (by k_ne) λK u=>?_;go_simp;exact u _ _ ⟨rfl,rfl,oW<|by simp[go_sem]⟩
 intro t3 r3 H3 k3 n13 n23 Yq Yo Ym Yl n73 n83 n93;refine H3.walk_to [] [] rfl (by simp) (by simp) ⟨660,?_⟩;rw[B];have d:=trivial;refine dH ?_;u_c N A d;u_c I A d;u_reg A d;u_call F1.f_add(nm_add dL)addFn A d;refine y λQW f=>⟨rfl,λX v4 r4 H4 R d4 c4=>?_⟩;have j:=((k1.trans k2).trans k3).trans R;have Q0:X.md=.opn p:=by rw[j.md,nI]
 have HU:V2 X.gs.size X.D+p<=1:=bC (Nat.add_le_add_right (j.v2 _) p)<|hV _;have J:jN dL.tWg K.Wg X.v:=by have:=H4.hold.inv.live hl;rwa[S]at this
 subst sM;obtain⟨t5,r5,H5,m5,yJ,Da,z5,D,Q2,o5,v5⟩:=H4.add hl Q0 hp HU (by rw[B,S];exact hA _ _ _ _ _ _ _ _ J);refine H5.walk_to [] [] rfl (by simp) (by simp) ⟨660,?_⟩;rw[B];walk_nrm;refine dH ?_;u_c N A d;u_reg A d;u_op A d;refine y λQW f=>⟨rfl,λt6 v6 r6 H6 o d6 c6=>?_⟩;have z:=R.own _<|k3.own _<|Q3 rfl;have Q1:=R.own _<|Yl rfl;have F:=λx k=>by obtain⟨h1,h2⟩:=H4.hold.inv.own 0 x k;exact(o.rest x (cB h2 D.size) ((Q2 x h2).trans h1)<|by simp).trans<|D.block x h2<|.inr<|.inr ⟨0,rfl,h1⟩
 refine hQ t6 q r _ _ ?_ H6 rfl (λM=>aet (d:=⟨.fn (.func 56) #[.pointer<|U ⟨K.Wg,0,V⟩,.pointer<|U ⟨q,0,V⟩,.pointer<|U ⟨r,0,V⟩],#[]⟩) M rfl rfl (by k_ne) ?_ rfl ?_) ?_ ?_ ?_ ?_ ?_ ?_ trivial;.rw[<-B]at r1 r4 r6;exact((((r1.trans r2).trans r3).trans r4).trans r5).trans r6
 .simp[go_sem]
 .simp[go_sem]
 .exact o.md.trans m5
 .refine⟨o.role.trans<|yJ.trans j.role,c6.trans<|Da.trans<|c4.trans<|Ym.trans<|Ss.trans c1,o.size.trans<|z5.trans j.size,(j.left.trans j.cls<|D.sub λ_ h=>h.elim).trans (λx k=>(Q2 x<|cB k j.left.size).trans<|j.cls x k) o.left,λx k=>?_,λn=>bC (o.v2 n)<|bC (v5 n)<|j.v2 n⟩;have h4:=cB k j.left.size;exact(o.cls x<|cB h4 D.size).trans<|(Q2 x h4).trans<|j.cls x k
 .exact⟨λx k=>o.own x<|by rw[o5];exact j.own x k,λx k=>(F x<|j.own x k).trans<|j.rest x (H.hold.inv.own 0 x k).2 (H.hold.inv.own 0 x k).1<|by simp⟩
 .refine⟨o.own _<|by rw[o5];exact z,o.own _<|by rw[o5];exact Q1,?_,?_⟩;.have:=k1.left.size;omega
  .omega
 .exact⟨(F q z).trans<|((k3.trans R).rest q (by omega) Yp<|by simp).trans Yr,(F r Q1).trans<|(R.rest r (by omega) Yo<|by simp).trans Yq⟩
 .refine⟨630,?_⟩;co_apply mC;co_apply aM;.intro w;refine dH ?_;u_c N A d;u_c stepG_end A d;u_leave0 func54 A d;u_c N A d;exact y λ_ _=>rfl
  .exact⟨rfl,rfl,rfl,rfl,rfl,rfl,rfl,rfl,rfl,rfl⟩
end
end
end Go.Proofs.YtpdbmpbmepkikaaGreatDoor
