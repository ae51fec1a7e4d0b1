/- Laws. -/
import Derived.Conc.WgGenN3
import Derived.Conc.Token
import Derived.Test.YtpdbmpbmepkikaaGreatDoorP03
set_option maxRecDepth 100000
set_option maxHeartbeats 400000
set_option linter.all false
open Go.Proofs.Tryz
open Bool renaming true->Z,false->ai
open Go renaming Goroutine->aU,Frame->aX,World->av,Value->ay,Program->bU,stepG->bZ,Func->dV,Trace->eo,FuncId->fb,runNT->gZ,Event->iW,deafBehind->jD
open Go.CallKind renaming normal->er
open Go.Conc renaming semEvents->AU,Goes->cH,crowd->dw,served->j0,closeEvents->jY
open Go.ConcN renaming upd->bz,WgLive->jq
open Go.ConcR renaming mk->jo
open Go.Frame renaming enter->eO
open Go.GStep renaming go->bS
open Go.GoStatus renaming running->dM
open Go.Loc renaming mark->ia
open Go.MemAct renaming ofEvent->gW,touch?->ri
open Go.MemOp renaming ofEvents->iC
open Go.Obj renaming cells->aF
open Go.Stepped renaming next->fQ
open Go.Trace renaming act?->CR
open Go.World renaming setChan->CO
open Nat renaming lt_wfRel->Fb
open Option renaming some->U,none->V
open Or renaming inr->aA,inl->ax
open Relation renaming TransGen->sI
namespace Go.Proofs.YtpdbmpbmepkikaaGreatDoor
def Ag:=@Go.Conc.touch_of
def Af:=@Go.Conc.getElem?_append_cases
def aEe:=@Go.Conc.touchAt_of
def Ei:=@Go.Conc.deaf_old
def Ae:=@Go.Conc.act?_of
def Ad:=@Nat.lt_or_ge
def o7:=@Go.Conc.Goes.running
def xz:=@Go.Conc.again_running
def Gt:=@Go.Conc.awake_of
def nS:=@Go.ConcN.RW.refl
def Oy:=@Go.Conc.offersAt_of_not_blocked
def oZ:=@Array.getElem?_eq_some_iff
def JV:=@Go.Conc.mem_ofEvents
def mz:=@Array.getElem?_setIfInBounds_ne
def jJ:=@Array.getElem?_setIfInBounds_self_of_lt
def cX:=@Go.ConcN.upd_same
def cQ:=@Go.ConcN.upd_ne
def yH:=@Go.ConcN.sumTo_congr
def Uz:=@Go.Conc.runT_crowd_go
def vF:=@Nat.le_of_eq
def B0:=@Go.Conc.ofEvent_cell0
def xy:=@Go.Conc.Goes.cases
def Uy:=@Array.getElem?_push
def acU:=@List.mem_append
section
open Go.Conc
open Go.ConcN (sumTo upd sumTo_upd upd_ne upd_same sumTo_congr le_sumTo WSit WgLive RW PayAt Has DWs EvW ShN AsideCell AtR0 RelBy bk_cell)
open Go.ConcR (KK WgAt stA smA wgBlock rd wr mk Bk)
open Go.Conc.Lib (WgLink)
inductive eU where
 |eN
 |own (i:Nat)
 |sh
 |old
inductive vi where
 |hold (g:Nat)
 |pt (p:Nat)
def ox:Loc->Option Nat
 |.cell a=>U a.block
 |.obj r=>U r
 |_=>V
def IS(T:eo):vi->Nat->Prop
 |.hold g,i=>Knows T g i
 |.pt p,i=>Before T i p
theorem IS.app{T}{who}{i}(u)(h:IS T who i):IS (T++u) who i:=by
 cases who with
 |hold g=>exact Knows.app u h
 |pt p=>exact Before.app u h
def Acc(cl:Nat->eU)(who:vi)(fL:Loc->Prop)(T:eo)(i:Nat)(a:Touch)(b:Nat):Prop:=
 match cl b with
 |.eN=>IS T who i
 |.own k=>Knows T k i
 |.sh=>a.kind≠ .plain∧(a.kind=.said->Knows T 0 i)
 |.old=>Knows T 0 i∨(fL a.loc∧a.kind=.atomic)
structure Tr(cl:Nat->eU)(who:vi)(fL:Loc->Prop)(B:Nat)(T:eo):Prop where
 clean:∀said,¬Race said T
 known:∀i a b,touchAt T i=U a->ox a.loc=U b->Acc cl who fL T i a b
 seen:∀op∈T,op.act.low B
variable {cl cl':Nat->eU} {who yp:vi} {fL aic:Loc->Prop} {B B':Nat} {T u:eo} {g:Nat}
theorem atN{l}(h:l.isMemory=Z):∃b,ox l=U b:=by cases l<;>first|exact⟨_,rfl⟩|cases h
theorem asn{f:MemOp}{a}{b}(h:f.act.low B)(c:f.act.touch? =U a)(d:ox a.loc=U b):b<B:=by
 obtain⟨g,k,j,i⟩:=f;cases i with
 |access e=>
  simp only[ri,ec] at c;subst c;obtain⟨l,w,s⟩:=e;cases l<;>simp only[ox] at d<;>first|cases d;exact h|grind
 |mark m=>
  cases m with
  |read x=>cases c;cases d;exact h
  |write x=>cases c;cases d;exact h
  |_=>cases c
 |_=>cases c
theorem Acc.app{i b}{a}(u)(h:Acc cl who fL T i a b):Acc cl who fL (T++u) i a b:=by
 unfold Acc at h⊢;split
 ·rename_i e;rw[e] at h;exact h.app u
 ·grind[Knows.app]
 ·rename_i e;rw[e] at h;exact⟨h.1,λx=>(h.2 x).app u⟩
 ·rename_i e;rw[e] at h;exact h.imp (·.app u) id
theorem Tr.mono(h:Tr cl who fL B T)(c:B<=B'):Tr cl who fL B' T:=⟨h.clean,h.known,λd b=>MemAct.low_mono c (h.seen d b)⟩
def ym(cl:Nat->eU)(who:vi)(g:Nat)(x:Touch):Prop:=
 ∀b,ox x.loc=U b->match cl b with
  |.eN=>who=.hold g
  |.own k=>k=g
  |.sh=>x.kind≠ .plain∧(x.kind=.said->g=0)
  |.old=>False
theorem Tr.app(h:Tr cl who fL B T)(z:∀j∈u,j.g=g)(v:∀j∈u,∀x,j.act.touch? =U x->ym cl who g x)(y:∀j∈u,j.act.low B):Tr cl who fL B (T++u):=by
 refine⟨λl=>noRace_append (h.clean l) z λi a r j s x o q=>?_,λi a b r m=>?_,seen_app h.seen y⟩
 ·obtain⟨b,m⟩:=atN q.2.1;have d:=v j s x o b (q.1▸m);have f:=h.known i a b r m;unfold Acc at f;cases e:cl b with
  |eN=>rw[e] at d f;dsimp only at d f;rw[d] at f;exact f
  |own k=>grind
  |sh=>
   rw[e] at d f;rcases q.2.2.2 with w|w|⟨_,w,A⟩
   ·grind
   ·grind
   grind
  |old=>grind
 ·obtain⟨x,o,p⟩:=Ag r;rcases Af o with⟨_,d⟩|⟨_,n⟩
  ·exact(h.known i a b (by grind[touchAt_of]) m).app u
  ·have t:=v x n a p b m;have f:Knows (T++u) g i:=by
    grind[knows_own]
   unfold Acc;cases e:cl b with
   |eN=>rw[e] at t;dsimp only at t⊢;rw[t];exact f
   |own k=>grind
   |sh=>grind
   |old=>grind
theorem Tr.mute(h:Tr cl who fL B T)(E:∀m∈u,m.act.touch? =V)(t:∀m∈u,m.act.low B):Tr cl who fL B (T++u):=by
 refine⟨λk=>?_,λi a b o p=>?_,seen_app h.seen t⟩
 ·rintro⟨i,j,l,⟨a,b,o,p,A⟩,z,C⟩;obtain⟨x,r,f⟩:=Ag o;obtain⟨y,w,q⟩:=Ag p;rcases Af w with⟨D,n⟩|⟨_,s⟩
  ·have d:T[i]? =U x:=by grind
   exact h.clean k ⟨i,j,l,⟨a,b,by simp[CR,d,f],by simp[CR,n,q],A⟩,λe=>z (hb_app u e),λe=>C (hb_app u e)⟩
  grind
 ·obtain⟨x,r,f⟩:=Ag o;rcases Af r with⟨_,d⟩|⟨_,v⟩
  ·exact(h.known i a b (by grind[touchAt_of]) p).app u
  grind
theorem Tr.Mn(h:Tr cl who fL B T)(j:∀i a b,touchAt T i=U a->ox a.loc=U b->b<B->Acc cl who fL T i a b->Acc cl' yp aic T i a b):Tr cl' yp aic B T:=
 ⟨h.clean,λi a b e f=>by obtain⟨x,k,d⟩:=Ag e;exact j i a b e f (asn (h.seen x (tI k)) d f) (h.known i a b e f),h.seen⟩
theorem Tr.fresh(h:Tr cl who fL B T)(e:∀b,b<B->cl' b=cl b):Tr cl' who fL B T:=
 h.Mn λi a b _ _ c d=>by unfold Acc at d⊢;grind
theorem Tr.pass(h:Tr cl who fL B T)(d:∀i,IS T who i->IS T yp i):Tr cl yp fL B T:=
 h.Mn λi a b _ _ _ c=>by
  unfold Acc at c⊢;split
  ·grind
  ·grind
  ·grind
  grind
def wV(h:Nat)(E:fb)(ph:String)(c k:Nat):eo:= #[{g:=h,fn:=E,pos:=ph,act:=.send c k},{g:=h,fn:=E,pos:=ph,act:=.sendDone c k}]
def rL(j:Nat)(J:fb)(E:String)(c k cap:Nat):eo:= #[{g:=j,fn:=J,pos:=E,act:=.recv c k cap},{g:=j,fn:=J,pos:=E,act:=.recvDone c k}]
def metAt(h j:Nat)(U:fb)(ph:String)(J:fb)(E:String)(c k cap:Nat):eo:=
 #[{g:=h,fn:=U,pos:=ph,act:=.send c k},{g:=j,fn:=J,pos:=E,act:=.recv c k cap},{g:=h,fn:=U,pos:=ph,act:=.sendDone c k},{g:=j,fn:=J,pos:=E,act:=.recvDone c k}]
def wN(u:eo):Prop:=(∀op∈u,op.act.touch? =V)∧∀g,∀op∈u,∀d,deafStep g d op=d
theorem wN.of{u}(h:∀b∈u,b.act.touch? =V∧b.act≠ .mark .disable∧b.act≠ .mark .enable):wN u:=by
 refine⟨λb c=>(h b c).1,λg b c d=>?_⟩;unfold deafStep;split
 ·grind
 ·grind
 grind
theorem aaq(h)(d)(e)(c k):wN (wV h d e c k):=.of λf b=>by simp only[wV,fJ,dh,dJ,dO] at b;rcases b with rfl|rfl<;>exact⟨rfl,by simp,by simp⟩
theorem Y0(j)(d)(e)(c k cap):wN (rL j d e c k cap):=.of λf b=>by simp only[rL,fJ,dh,dJ,dO] at b;rcases b with rfl|rfl<;>exact⟨rfl,by simp,by simp⟩
theorem acs(h j)(d)(f)(e)(i)(c k cap):wN (metAt h j d f e i c k cap):=.of λl b=>by simp only[metAt,fJ,dh,dJ,dO] at b;rcases b with rfl|rfl|rfl|rfl<;>exact⟨rfl,by simp,by simp⟩
theorem wN.LD{u}(h:wN u)(g):∀k,k<=u.size->(T++u).deaf g (T.size+k)=Deaf T g
 |0,_=>Ei (aW _)
 |k+1,c=>by
  have b:(T++u)[T.size+k]? =U u[k]:=by grind
  rw[<-Nat.add_assoc,deaf_succ b,h.2 g _ (UB _),h.LD g k (by omega)]
theorem wN.deaf{u}(h:wN u)(g):Deaf (T++u) g=Deaf T g:=by have:=h.LD (T:=T) g u.size (aW _);unfold Deaf;rw[Array.size_append];exact this
theorem x3{T:eo}{i}{a}(h:T[i]? =U a):T.g? i=U a.g:=by simp[Trace.g?,h]
def SentAt(T:eo)(c k p:Nat):Prop:=T.act? p=U (.send c k)∧T.heard p
def Db(T:eo)(c p:Nat):Prop:=T.act? p=U (.close c)∧T.heard p
theorem SentAt.app{c k p}(h:SentAt T c k p)(u):SentAt (T++u) c k p:=by have b:=lt_of_act? h.1;exact⟨by rw[act?_old b];exact h.1,(heard_old b).2 h.2⟩
theorem Db.app{c p}(h:Db T c p)(u):Db (T++u) c p:=by have b:=lt_of_act? h.1;exact⟨by rw[act?_old b];exact h.1,(heard_old b).2 h.2⟩
theorem Tr.put{h}(H:Tr cl (.hold h) fL B T)(y:Deaf T h=0)(j)(l){c}(k)(w:c<B):
  Tr cl (.pt T.size) fL B (T++wV h j l c k)∧SentAt (T++wV h j l c k) c k T.size:=by
 have o:(T++wV h j l c k)[T.size]? =U {g:=h,fn:=j,pos:=l,act:=.send c k}:=by simp[wV]
 have q:=aaq h j l c k;refine⟨?_,by rw[Ae o],⟨h,x3 o,by rw[Ei (aW _)];exact y⟩⟩
 have v:=H.mute q.1 λD m=>by simp only[wV,fJ,dh,dJ,dO] at m;rcases m with rfl|rfl<;>exact w
 refine v.Mn λi a b z A r C=>?_;unfold Acc at C⊢;split
 ·rename_i e;obtain⟨x,t,p⟩:=Ag z;rcases Af t with⟨_,s⟩|⟨_,n⟩
  ·have f:=H.known i a b (by grind[touchAt_of]) A
   unfold Acc at f;rw[e] at f;exact aA (f.hb_new (aW _) o rfl)
  ·rw[q.1 x n] at p;grind
 ·grind
 ·grind
 grind
theorem Tr.take{j c k p}(H:Tr cl (.pt p) fL B T)(hs:SentAt T c k p)(o:Deaf T j=0)(e)(d)(cap)(m:c<B):
  Tr cl (.hold j) fL B (T++rL j e d c k cap):=by
 have q:=Y0 j e d c k cap;have f:(T++rL j e d c k cap)[T.size+1]? =U {g:=j,fn:=e,pos:=d,act:=.recvDone c k}:=by simp[rL]
 have l:=H.mute q.1 λn b=>by simp only[rL,fJ,dh,dJ,dO] at b;rcases b with rfl|rfl<;>exact m
 exact l.pass λi h=>⟨T.size+1,_,f,rfl,aA (Before.hb h (.single (aA ⟨.handOver (hs.app _).1 (Ae f),(hs.app _).2,⟨j,x3 f,by rw[q.LD j 1 (by grind)];grind⟩⟩)))⟩
theorem Tr.give{h j:Nat}(H:Tr cl (.hold h) fL B T)(F:Deaf T h=0)(D:Deaf T j=0)(l:fb)(m:String)(o:fb)(n:String){c:Nat}(k cap:Nat)(E:c<B):
  Tr cl (.hold j) fL B (T++metAt h j l m o n c k cap):=by
 have q:=acs h j l m o n c k cap;have t:(T++metAt h j l m o n c k cap)[T.size]? =U {g:=h,fn:=l,pos:=m,act:=.send c k}:=by simp[metAt]
 have v:(T++metAt h j l m o n c k cap)[T.size+3]? =U {g:=j,fn:=o,pos:=n,act:=.recvDone c k}:=by simp[metAt]
 have r:HappensBefore (T++metAt h j l m o n c k cap) T.size (T.size+3):=
  .single (aA ⟨.handOver (Ae t) (Ae v),⟨h,x3 t,by rw[Ei (aW _)];exact F⟩,⟨j,x3 v,by rw[q.LD j 3 (by grind)];grind⟩⟩)
 have C:Tr cl (.hold h) fL B (T++metAt h j l m o n c k cap):=H.mute q.1 λL p=>by simp only[metAt,fJ,dh,dJ,dO] at p;rcases p with rfl|rfl|rfl|rfl<;>exact E
 refine C.Mn λi a b I J y K=>?_;unfold Acc at K⊢;split
 ·rename_i e;obtain⟨x,A,w⟩:=Ag I;rcases Af A with⟨_,z⟩|⟨_,s⟩
  ·have f:=H.known i a b (by grind[touchAt_of]) J
   unfold Acc at f;rw[e] at f;exact⟨T.size+3,_,v,rfl,aA ((Knows.hb_new f (aW _) t rfl).trans r)⟩
  ·rw[q.1 x s] at w;grind
 ·grind
 ·grind
 grind
def mS(h:Nat)(E:fb)(ph:String)(c:Nat):eo:= #[{g:=h,fn:=E,pos:=ph,act:=.access ⟨.obj c,ai,Z⟩},{g:=h,fn:=E,pos:=ph,act:=.close c}]
theorem aox(h)(e)(f)(c):∀g,∀b∈mS h e f c,∀d,deafStep g d b=d:=by intro g b a d;simp only[mS,fJ,dh,dJ,dO] at a;rcases a with rfl|rfl<;>rfl
theorem Tr.aoy{g}(H:Tr cl who fL B T)(h)(j){c}(i:c<B)(hs:cl c=.sh):Tr cl who fL B (T++mS g h j c):=by
 refine H.app (g:=g) (λf d=>?_) (λf d x e b k=>?_) λf d=>?_
 ·simp only[mS,dJ] at d
  grind
 ·simp only[mS,fJ,dh,dJ,dO] at d;rcases d with rfl|rfl
  ·simp only[ri] at e;simp only[ox] at k
   grind
  ·cases e
 ·simp only[mS,fJ,dh,dJ,dO] at d;rcases d with rfl|rfl<;>exact i
theorem aov{h}(i:Deaf T h=0)(b)(d)(c):Db (T++mS h b d c) c (T.size+1):=by
 have e:(T++mS h b d c)[T.size+1]? =U {g:=h,fn:=b,pos:=d,act:=.close c}:=by simp[mS]
 refine⟨by rw[Ae e],⟨h,x3 e,?_⟩⟩
 have f:(T++mS h b d c)[T.size]? =U {g:=h,fn:=b,pos:=d,act:=.access ⟨.obj c,ai,Z⟩}:=by simp[mS]
 rw[deaf_succ f,Ei (aW _),aox h b d c h _ (by grind)]
 exact i
theorem Tr.shut{h}(H:Tr cl (.hold h) fL B T)(p:Deaf T h=0)(b)(d){c}(o:c<B)(hs:cl c=.sh):
  Tr cl (.pt (T.size+1)) fL B (T++mS h b d c)∧Db (T++mS h b d c) c (T.size+1):=by
 refine⟨(H.aoy (g:=h) b d o hs).pass λi m=>?_,aov p b d c⟩;have k:(T++mS h b d c)[T.size+1]? =U {g:=h,fn:=b,pos:=d,act:=.close c}:=by simp[mS]
 obtain⟨q,z,f,j,r⟩:=m;have n:=by have:=lt_size_of_getElem? f;simp[mS] at this;omega
 refine r.trans ?_;rcases Ad q (T.size+1) with e|l
 ·exact aA (hb_po e f k (j.trans rfl))
 ·exact ax (by omega)
def tY(j:Nat)(J:fb)(E:String)(c:Nat):eo:= #[{g:=j,fn:=J,pos:=E,act:=.recvClosed c}]
theorem WJ(j)(e)(d)(c):wN (tY j e d c):=.of λf b=>by simp only[tY,fJ,dh,dJ,dO] at b;subst b;exact⟨rfl,by simp,by simp⟩
theorem Tr.axA(H:Tr cl who fL B T)(j)(d)(e){c}(f:c<B):Tr cl who fL B (T++tY j d e c):=
 H.mute (WJ j d e c).1 λh b=>by simp only[tY,fJ,dh,dJ,dO] at b;subst b;exact f
theorem Tr.found{j c p}(H:Tr cl (.pt p) fL B T)(hs:Db T c p)(k:Deaf T j=0)(d)(b)(h:c<B):Tr cl (.hold j) fL B (T++tY j d b c):=by
 have e:(T++tY j d b c)[T.size]? =U {g:=j,fn:=d,pos:=b,act:=.recvClosed c}:=by simp[tY]
 exact(H.axA j d b h).pass λi f=>⟨T.size,_,e,rfl,aA (Before.hb f (.single (aA ⟨.closed (hs.app _).1 (Ae e),(hs.app _).2,⟨j,x3 e,by rw[Ei (aW _)];exact k⟩⟩)))⟩
def vg(k:Nat)(E:fb)(ph:String)(J:fb):eo:= #[{g:=0,fn:=E,pos:=ph,act:=.go k},{g:=k,fn:=J,pos:=ph,act:=.start}]
theorem ahv(k)(d)(c)(e):wN (vg k d c e):=.of λf b=>by simp only[vg,fJ,dh,dJ,dO] at b;rcases b with rfl|rfl<;>exact⟨rfl,by simp,by simp⟩
theorem Tr.born{k:Nat}(H:Tr cl (.hold 0) fL B T)(z:Deaf T 0=0)(F:Deaf T k=0)(j:fb)(f)(h)(A:∀b,b<B->cl' b=cl b∨(cl b=.own 0∧cl' b=.own k)):
  Tr cl' (.hold 0) fL B (T++vg k j f h):=by
 have q:=ahv k j f h;have y:=H.mute q.1 λI l=>by simp only[vg,fJ,dh,dJ,dO] at l;rcases l with rfl|rfl<;>trivial
 have s:(T++vg k j f h)[T.size]? =U {g:=0,fn:=j,pos:=f,act:=.go k}:=by simp[vg]
 have n:(T++vg k j f h)[T.size+1]? =U {g:=k,fn:=h,pos:=f,act:=.start}:=by simp[vg]
 have m:HappensBefore (T++vg k j f h) T.size (T.size+1):=
  .single (aA ⟨.spawn (Ae s) (Ae n) (x3 n),⟨0,x3 s,by rw[Ei (aW _)];exact z⟩,⟨k,x3 n,by rw[q.LD k 1 (by grind)];grind⟩⟩)
 refine y.Mn λi a b C D p o=>?_;rcases A b p with e|⟨e,E⟩
 ·unfold Acc at o⊢;grind
 ·unfold Acc;rw[E];obtain⟨x,w,t⟩:=Ag C;rcases Af w with⟨_,v⟩|⟨_,r⟩
  ·have d:=H.known i a b (by grind[touchAt_of]) D
   unfold Acc at d;rw[e] at d;exact⟨T.size+1,_,n,rfl,aA ((Knows.hb_new d (aW _) s rfl).trans m)⟩
  ·rw[q.1 x r] at t;grind
instance aDD:Go.ConcR.Payload:=⟨0⟩
def L(O:List Nat)(w w1:av):Prop:=(∀b∈O,w1.heap[b]? =w.heap[b]?)∧w.heap.size<=w1.heap.size
theorem L.refl(O)(w):L O w w:=⟨λ_ _=>rfl,aW _⟩
theorem L.trans{O}(a b c)(h:L O a b)(k:L O b c):L O a c:=⟨λx e=>(k.1 x e).trans (h.1 x e),bq h.2 k.2⟩
theorem L.at(O)(w)(d):L O w (w.at d):=⟨λ_ _=>rfl,aW _⟩
structure DO(O:List Nat)(w w':av)(es:Array iW):Prop where
 os:w'.os=w.os
 tape:w'.tape=w.tape
 drawn:w'.drawn=w.drawn
 out:w'.output=w.output
 size:w'.heap.size=w.heap.size
 block:∀b,b∉O->w'.heap[b]? =w.heap[b]?
 ev:∀e∈es,∃a wr,e=⟨.cell a,wr,ai⟩∧a.block∈O
structure FB where
 c:Nat
 z:ay
 ok:Bool
 home:List Nat->aU->av->Prop
 Jh:∀O g w w1,L O w w1->home O g w->home O g w1
def AtR(P:bU)(main:Bool)(s:FB)(O:List Nat)(g g2:aU)(w:av):Prop:=
 g.status=dM∧g.frame=g2.frame∧g.callers=g2.callers∧g.dying=g2.dying∧s.home O g2 w∧∀w1,bZ P main g w1=.comm g2 #[rcase s.c s.z] Z (.recv s.ok) w1 #[]
def AtB(P:bU)(s:FB)(m:Nat)(O:List Nat)(g:aU)(w:av):Prop:=
 g.status=dM∧∃obj,∀w1,L O w w1->∃g',g'.status=dM∧bZ P ai g w1=bS g' {w1 with heap:=w1.heap.push obj} #[]∧
  cH P ai (L (w1.heap.size::O)) (DO (w1.heap.size::O)) (λg w=>∃g2,AtR P ai s (w1.heap.size::O) g g2 w) m g' {w1 with heap:=w1.heap.push obj}
def qi(P:bU)(main:Bool)(s:FB)(n:Nat)(O:List Nat)(g:aU)(w:av):Prop:=
 (∃k,n=k+1∧cH P main (L O) (DO O) (λg w=>∃g2,AtR P main s O g g2 w) k g w)∨
 (∃k m,n=k+m+3∧main=ai∧cH P main (L O) (DO O) (AtB P s m O) k g w)∨
 (n=0∧∃g0 g2,g=parked g2 #[rcase s.c s.z] (.recv s.ok)∧AtR P main s O g0 g2 w)
section
variable {P:bU} {main:Bool} {s:FB} {O:List Nat} {g g2:aU} {w w1:av} {n:Nat}
theorem AtR.rely(a:L O w w1)(h:AtR P main s O g g2 w):AtR P main s O g g2 w1:=⟨h.1,h.2.1,h.2.2.1,h.2.2.2.1,s.Jh _ _ _ _ a h.2.2.2.2.1,h.2.2.2.2.2⟩
theorem AtR.tries(h:AtR P main s O g g2 w)(cs)(f):AtR P main s O {parked g2 cs f with status:=dM} g2 w:=by obtain⟨_,e,d,c,b,a⟩:=h;exact⟨rfl,rfl,rfl,rfl,b,λw=>by rw[<-a w];exact stepG_same e.symm d.symm c.symm w⟩
theorem qi.rely(b:L O w w1)(h:qi P main s n O g w):qi P main s n O g w1:=by
 rcases h with⟨k,rfl,h⟩|⟨k,m,rfl,d,h⟩|⟨rfl,c,g2,rfl,h⟩
 ·exact ax ⟨k,rfl,h.rely L.trans b⟩
 ·exact aA (ax ⟨k,m,rfl,d,h.rely L.trans b⟩)
 ·exact aA (aA ⟨rfl,c,g2,rfl,h.rely b⟩)
theorem qi.status(h:qi P main s n O g w):(g.status=dM∧0<n)∨(g.status=.blocked∧n=0):=by
 rcases h with⟨k,rfl,h⟩|⟨k,m,rfl,c,h⟩|⟨rfl,b,g2,rfl,h⟩
 ·exact ax ⟨o7 (λ_ _ x=>x.choose_spec.1) w (L.refl _ _) h,by omega⟩
 ·exact ax ⟨o7 (λ_ _ x=>x.1) w (L.refl _ _) h,by omega⟩
 ·exact aA ⟨rfl,rfl⟩
theorem qi.again(h:qi P main s n O g w){cap a b}{buf}{tm}(o:n=0->w1.heap[s.c]? =U (.chan cap buf ai a b tm)):g.again w1=g:=by
 rcases h.status with⟨l,_⟩|⟨_,j⟩
 ·grind[again_running]
 ·rcases h with⟨k,rfl,h⟩|⟨k,m,rfl,p,h⟩|⟨_,f,g2,rfl,h⟩
  ·omega
  ·omega
  ·exact again_all_open λi e=>by
    grind
end
structure fo where
 aM:FB
 out:Nat
 C:Nat
 val:ay
abbrev ab4:Nat->Loc->Prop:=λ_ _=>False
abbrev WS(P:bU)(L:WgLink)(Wg:Nat)(r:fo):Nat->Nat->Nat->aU->av->Prop:=WSit P L.tWg Wg r.C 77 ab4 ab4 0 1 r.val
abbrev W7(P:bU)(L:WgLink)(Wg:Nat)(r:fo):Nat->aU->av->Prop:=cH P ai (RW L.tWg Wg r.C 77 0 0) Go.ConcR.DC0 (AtR0 P L.tWg Wg r.C 77 0 1 r.val)
def yo(P:bU)(C:WgLink)(Wg:Nat)(r:fo)(O:List Nat)(g:aU)(w:av):Prop:=
 g.status=dM∧mayWake P g=Z∧∃g',g'.status=dM∧∀w1 k,L O w w1->w1.heap[r.out]? =U (.chan 1 #[] ai k k ai)->jq C.tWg Wg w1->
  bZ P ai g w1=bS g' (w1.setChan r.out 1 #[] Z k k ai) (jY r.out)∧∃m,W7 P C Wg r m g' (w1.setChan r.out 1 #[] Z k k ai)
structure dm where
 stage:Nat
 fuel:Nat
 own:List Nat
 deaf:Nat
def nK(P:bU)(C:WgLink)(Wg:Nat)(ro:Option fo)(i:Nat)(x:dm)(g:aU)(w:av):Prop:=
 match ro with
 |none=>0<i∧x.stage=1∧QuitsD P x.fuel x.deaf g∧x.own=[]
 |some r=>
  (x.stage=9∧x.deaf=0∧qi P (i==0) r.aM x.fuel x.own g w)∨
  (x.stage=8∧x.deaf=0∧0<i∧r.C∈x.own∧cH P ai (L x.own) (DO x.own) (yo P C Wg r x.own) x.fuel g w)∨
  (x.stage=7∧x.deaf=0∧0<i∧r.C∈x.own∧W7 P C Wg r x.fuel g w)∨
  (x.stage<=6∧0<i∧r.C∈x.own∧WS P C Wg r x.stage x.fuel x.deaf g w)
theorem RW.abV{I:WgLink}{c C}{O}{w w1}(d:C∈O)(h:L O w w1)(i:jq I.tWg c w->jq I.tWg c w1):RW I.tWg c C 77 0 0 w w1:=
 ⟨λb j=>by omega,i,λ⟨g,e,f⟩=>⟨g,(h.1 C d).trans e,f⟩,Go.ConcN.cell_of_block (h.1 C d) 0⟩
section
variable {P:bU} {B:WgLink} {Wg i:Nat} {ro:Option fo} {x:dm} {g:aU} {w w1:av}
theorem nK.rely(k:L x.own w w1)(m:(∃r,ro=U r)->jq B.tWg Wg w->jq B.tWg Wg w1)(h:nK P B Wg ro i x g w):nK P B Wg ro i x g w1:=by
 cases ro with
 |none=>exact h
 |some r=>
  rcases h with⟨e,f,d⟩|⟨e,f,d,l,j⟩|⟨e,f,d,l,j⟩|⟨e,f,d,j⟩
  ·exact ax ⟨e,f,d.rely k⟩
  ·exact aA (ax ⟨e,f,d,l,j.rely L.trans k⟩)
  ·exact aA (aA (ax ⟨e,f,d,l,Goes.rely (R:=RW B.tWg Wg r.C 77 0 0) (λ_ _ _ a b=>RW.trans a b) j (RW.abV l k (m ⟨r,rfl⟩))⟩))
  ·exact aA (aA (aA ⟨e,f,d,WSit.rely j (RW.abV d k (m ⟨r,rfl⟩))⟩))
theorem nK.awake(h:nK P B Wg ro i x g w):awake g:=by
 cases ro with
 |none=>exact Gt (h.2.2.1.status.elim ax λx=>aA (aA x))
 |some r=>
  rcases h with⟨e,d,c⟩|⟨e,d,c,f,b⟩|⟨e,d,c,f,b⟩|⟨e,d,c,b⟩
  ·exact Gt (c.status.elim (λx=>ax x.1) λx=>aA (ax x.1))
  ·exact Gt (ax (o7 (λ_ _ x=>x.1) w (L.refl _ _) b))
  ·exact Gt (ax (o7 (λ_ _ x=>x.1) w (nS _) b))
  ·exact Gt (b.status.elim ax λx=>aA (aA x))
theorem nK.again{cap a b}{buf}{tm}(h:nK P B Wg ro i x g w)(m:∀r,ro=U r->x.stage=9->x.fuel=0->w1.heap[r.aM.c]? =U (.chan cap buf ai a b tm)):g.again w1=g:=by
 cases ro with
 |none=>exact xz _ h.2.2.1.status
 |some r=>
  rcases h with⟨f,k,j⟩|⟨f,k,j,n,e⟩|⟨f,k,j,n,e⟩|⟨f,k,j,e⟩
  ·exact j.again λl=>m r rfl f l
  ·exact xz _ (ax (o7 (λ_ _ x=>x.1) w (L.refl _ _) e))
  ·exact xz _ (ax (o7 (λ_ _ x=>x.1) w (nS _) e))
  ·exact xz _ e.status
theorem nK.noSend(h:nK P B Wg ro i x g w)(c):offersAt g c Z=[]:=by
 cases ro with
 |none=>exact Oy (λd=>by rcases h.2.2.1.status with z|z<;>rw[z] at d<;>cases d) c Z
 |some r=>
  rcases h with⟨j,l,f⟩|⟨j,l,f,n,b⟩|⟨j,l,f,n,b⟩|⟨j,l,f,b⟩
  ·rcases f with⟨k,e,h⟩|⟨k,m,e,q,h⟩|⟨e,o,p,rfl,h⟩
   ·have:=o7 (λ_ _ x=>x.choose_spec.1) w (L.refl _ _) h
    grind[offersAt_of_not_blocked]
   ·have:=o7 (λ_ _ x=>x.1) w (L.refl _ _) h
    grind[offersAt_of_not_blocked]
   grind[offersAt_parked_recv']
  ·have:=o7 (λ_ _ x=>x.1) w (L.refl _ _) b
   grind[offersAt_of_not_blocked]
  ·have:=o7 (λ_ _ x=>x.1) w (nS _) b
   grind[offersAt_of_not_blocked]
  ·exact Oy (λd=>by rcases b.status with z|z<;>rw[z] at d<;>cases d) c Z
end
structure fE where
 buf:Option ay
 shut:Bool
 k:Nat
def fE.obj(st:fE):Obj:=.chan 1 (match st.buf with|none=> #[]|some x=> #[x]) st.shut (match st.buf with|none=>st.k|some _=>st.k+1) st.k ai
inductive Md where
 |opn (p:Nat)
 |reg
 |last
 |sema
def fW(i:Nat)(x:dm):Nat:=if 0<i∧5<=x.stage then 1 else 0
def V2(n:Nat)(D:Nat->dm):Nat:=sumTo n λi=>fW i (D i)
def OpenSt(n:Nat)(D:Nat->dm):Prop:=∀i,0<i->i<n->5<=(D i).stage∨(D i).stage=1
def mI(n:Nat)(D:Nat->dm):Md->Int->Int->Prop
 |.opn p,st,sm=>OpenSt n D∧st=((V2 n D+p:Nat):Int)*KK∧sm=0
 |.reg,st,sm=>OpenSt n D∧1<=V2 n D∧st=((V2 n D:Nat):Int)*KK+1∧sm=0
 |.last,st,sm=>∃l,0<l∧l<n∧((D l).stage=4∨(D l).stage=3∨(D l).stage=2)∧(∀i,0<i->i<n->i≠l->(D i).stage=1)∧st=(if(D l).stage=2 then 0 else 1)∧sm=0
 |.sema,st,sm=>(∀i,0<i->i<n->(D i).stage=1)∧st=0∧sm=1
structure fy where
 P:bU
 L:WgLink
 Wg:Nat
 n0:Nat
 fL:Loc->Prop
 live:Bool
structure Inv(K:fy)(role:Nat->Option fo)(sp:Nat->Prop)(md:Md)(ch:Nat->Option fE)(cl:Nat->eU)(who:vi)(D:Nat->dm)(T:eo)(gs:Array aU)(v:av):Prop where
 gJ:∀i g,¬sp i->gs[i]? =U g->nK K.P K.L K.Wg (role i) i (D i) g v
 deaf:∀i,i<gs.size->Deaf T i=(D i).deaf
 above:∀j,gs.size<=j->Deaf T j=0
 tr:Tr cl who K.fL v.heap.size T
 own:∀i b,b∈(D i).own->cl b=.own i∧b<v.heap.size
 chan:∀c st,ch c=U st->v.heap[c]? =U st.obj∧cl c=.sh∧(K.live=Z->c≠K.Wg)
 ny:∀i r,role i=U r->(D i).stage=9->¬sp i->∃st,ch r.aM.c=U st∧((D i).fuel=0->st.buf=V∧st.shut=ai)
 out:∀i r,role i=U r->(D i).stage=8->¬sp i->∃k,ch r.out=U ⟨V,ai,k⟩
 uniq:∀i j r r',role i=U r->role j=U r'->(D i).stage=9->(D j).stage=9->r.aM.c=r'.aM.c->i=j
 wg:K.live=Z->∃st sm,WgAt K.L.tWg K.Wg v st sm∧mI gs.size D md st sm
 jR:K.live=Z->cl K.Wg=.sh
 rel:∀i r,role i=U r->0<i->(D i).stage<=6->∃p,RelBy (stA K.Wg) T i p
 norel:NoRelease (stA K.Wg) T
 qf:∀idx op,T[idx]? =U op->K.n0<=idx->op.act.touch? ≠V->op.g=0∨(role op.g).isSome
 zero:0<gs.size
 idle:∀i r,role i=U r->K.live=Z
theorem ot{v:av}{c}{o}(h:v.heap[c]? =U o):c<v.heap.size:=(oZ.1 h).1
variable{K:fy}{role:Nat->Option fo}{sp:Nat->Prop}{md md':Md}{ch:Nat->Option fE}{cl cl':Nat->eU}{who:vi}{D:Nat->dm}{T:eo}{gs:Array aU}{v v':av}
theorem Inv.at(I:Inv K role sp md ch cl who D T gs v)(d):Inv K role sp md ch cl who D T gs (v.at d):=
 ⟨λi g a b=>(I.gJ i g a b).rely (L.at _ _ _) λ_=>id,I.deaf,I.above,I.tr,I.own,I.chan,I.ny,I.out,I.uniq,I.wg,I.jR,I.rel,I.norel,I.qf,I.zero,I.idle⟩
theorem Inv.live(I:Inv K role sp md ch cl who D T gs v)(a:K.live=Z):jq K.L.tWg K.Wg v:=let⟨st,sm,h,_⟩:=I.wg a;⟨st,sm,h⟩
theorem abK{a:fE}(d:a.buf=V)(c:a.shut=ai):a.obj=.chan 1 #[] ai a.k a.k ai:=by obtain⟨b,s,k⟩:=a;simp only at d c;subst d c;rfl
theorem als{c i}{a}(I:Inv K role sp md ch cl who D T gs v)(b:ch c=U a):¬(cl c=.own i∨(K.live=Z∧c=K.Wg)∨(cl c=.eN∧who=.hold i)):=by
 obtain⟨_,e,d⟩:=I.chan c a b
 grind
theorem Inv.go_step(I:Inv K role sp md ch cl who D T gs v){i:Nat}{g g':aU}{es:Array iW}{x':dm}(hi:gs[i]? =U g)
  (t:v.heap.size<=v'.heap.size)
  (B:∀b,b<v.heap.size->¬(cl b=.own i∨(K.live=Z∧b=K.Wg)∨(cl b=.eN∧who=.hold i))->v'.heap[b]? =v.heap[b]?)
  (m:∀b,b<v.heap.size->cl' b=cl b)
  (VA:∀b∈x'.own,cl' b=.own i∧b<v'.heap.size)
  (tW:∀e∈es,(∀x,(gW e).touch? =U x->ym cl' who i x)∧(gW e).low v'.heap.size)
  (nA:∀e∈es,e.loc≠ia (.release (stA K.Wg)))
  (EL:jD (D i).deaf es=x'.deaf)
  (aE0:role i=V->i≠0->∀e∈es,(gW e).touch? =V)
  (aEL:¬sp i->nK K.P K.L K.Wg (role i) i x' g' v')
  (h9:x'.stage=9->(D i).stage=9∧(¬sp i->0<x'.fuel))
  (h8:x'.stage=8->¬sp i->(D i).stage=8)
  (hwg:K.live=Z->∃st X,WgAt K.L.tWg K.Wg v' st X∧mI gs.size (bz D i x') md' st X)
  (hrel:∀r,role i=U r->0<i->x'.stage<=6->∃p,RelBy (stA K.Wg) (T++iC i g.frame.fn g.frame.place es) i p):
  Inv K role sp md' ch cl' who (bz D i x') (T++iC i g.frame.fn g.frame.place es) ((gs.map (woken K.P g g' v')).setIfInBounds i g') v'∧
   (∀j y,j≠i->¬sp j->gs[j]? =U y->((gs.map (woken K.P g g' v')).setIfInBounds i g')[j]? =U y):=by
 have pq:i<gs.size:=by grind
 have f:∀M∈iC i g.frame.fn g.frame.place es,M.g=i:=λM s=>by obtain⟨e,_,rfl⟩:=JV s;rfl
 have Q0:((gs.map (woken K.P g g' v')).setIfInBounds i g').size=gs.size:=by simp
 have H:∀c st,ch c=U st->v'.heap[c]? =U st.obj:=λc st F=>by rw[B c (ot (I.chan c st F).1) (als I F)];exact(I.chan c st F).1
 have oa:∀j,j≠i->L (D j).own v v':=λj a=>by
  refine⟨λb O=>?_,t⟩;obtain⟨Q,h2⟩:=I.own j b O;refine B b h2 ?_;rw[Q];rintro(h|⟨N,h⟩|⟨h,_⟩)
  ·cases h;exact a rfl
  ·rw[h] at Q;rw[I.jR N] at Q;cases Q
  ·cases h
 have J:K.live=Z->jq K.L.tWg K.Wg v':=λN=>let⟨st,X,h,_⟩:=hwg N;⟨st,X,h⟩;have q:∀j y,j≠i->¬sp j->gs[j]? =U y->woken K.P g g' v' y=y:=λj y a n E=>by
  have ho:=I.gJ j y n E;by_cases hx:∃r,role j=U r∧(D j).stage=9∧(D j).fuel=0
  ·obtain⟨r,l,d,S⟩:=hx;obtain⟨st,o,C⟩:=I.ny j r l d n;obtain⟨O,tS⟩:=C S;refine woken_of_again (ho.again (cap:=1) (a:=st.k) (b:=st.k) (buf:= #[]) (tm:=ai) λr' u _ _=>?_);rw[l] at u;cases u;rw[H _ _ o,abK O tS]
  ·exact woken_of_again (ho.again (cap:=1) (a:=0) (b:=0) (buf:= #[]) (tm:=ai) λr l d S=>absurd ⟨r,l,d,S⟩ hx)
 have A:∀j,j≠i->((gs.map (woken K.P g g' v')).setIfInBounds i g')[j]? =(gs[j]?).map (woken K.P g g' v'):=λj a=>by rw[mz (λe=>a e.symm),pS]
 have aEG:((gs.map (woken K.P g g' v')).setIfInBounds i g')[i]? =U g':=jJ (by simpa using pq)
 refine⟨?_,λj y a n E=>by rw[A j a,E,ey,q j y a n E]⟩
 refine⟨λj y n E=>?_,λj a=>?_,λj a=>?_,?_,λj b O=>?_,λc st F=>?_,λj r l d n=>?_,λj r l w n=>?_,λj k r r' l u a hk F=>?_,?_,?_,λj r l a o=>?_,?_,λidx M s hn ht=>?_,by grind,I.idle⟩
 ·by_cases e:j=i
  ·grind[Option.some.inj,upd_same]
  ·rw[A j e] at E;obtain⟨y0,Q1,rfl⟩:=xI.1 E;rw[q j y0 e n Q1,cQ D _ e];exact(I.gJ j y0 n Q1).rely (oa j e) λ⟨r,l⟩ _=>J (I.idle j r l)
 ·rw[Q0] at a;by_cases e:j=i
  ·subst e;rw[Deaf_own,cX,I.deaf j a];exact EL
  ·rw[Deaf_other T (λz=>e z.symm) _ f,cQ D _ e];exact I.deaf j a
 ·rw[Q0] at a;rw[Deaf_other T (g':=i) (by omega) _ f]
  exact I.above j a
 ·refine Tr.app (g:=i) ((I.tr.fresh (cl':=cl') m).mono t) f (λM s x hx=>?_) λM s=>?_
  all_goals grind[Go.Conc.mem_ofEvents]
 ·by_cases e:j=i
  ·grind[upd_same]
  ·rw[cQ D _ e] at O;obtain⟨Q,h2⟩:=I.own j b O
   grind
 ·obtain⟨Q,h2,h3⟩:=I.chan c st F
  grind
 ·by_cases e:j=i
  ·subst e;rw[cX] at d⊢;obtain⟨WB,hf⟩:=h9 d;obtain⟨st,o,_⟩:=I.ny j r l WB n;exact⟨st,o,λS=>by grind⟩
  ·rw[cQ D _ e] at d⊢;exact I.ny j r l d n
 ·by_cases e:j=i
  ·subst e;rw[cX] at w;exact I.out j r l (h8 w n) n
  ·rw[cQ D _ e] at w;exact I.out j r l w n
 ·have W:∀j,(bz D i x' j).stage=9->(D j).stage=9:=λj a=>by
   grind[upd_same,upd_ne]
  exact I.uniq j k r r' l u (W j a) (W k hk) F
 ·grind
 ·intro N;rw[m _ (by obtain⟨st,X,h,_⟩:=I.wg N;exact ot h)];exact I.jR N
 ·by_cases e:j=i
  ·grind[upd_same]
  ·rw[cQ D _ e] at o;obtain⟨p,hp⟩:=I.rel j r l a o;exact⟨p,hp.appOther f (λz=>e z.symm)⟩
 ·exact I.norel.app (Go.ConcN.norel_of nA)
 ·rcases Af s with⟨_,R⟩|⟨_,P⟩
  ·exact I.qf idx M R hn ht
  ·rw[f M P];by_cases S:i=0
   ·grind
   ·refine aA ?_;cases l:role i with
    |some r=>rfl
    |none=>
     grind[Go.Conc.mem_ofEvents]
variable{D':Nat->dm}{n:Nat}
theorem zm(h:∀i,0<i->i<n->(D' i).stage=(D i).stage):V2 n D'=V2 n D:=yH λi b=>by
 unfold fW
 grind
theorem mI.congr{g f}(c:mI n D md g f)(h:∀i,0<i->i<n->(D' i).stage=(D i).stage):mI n D' md g f:=by
 have e:=zm h;cases md with
 |opn p=>exact⟨λi b d=>by rw[h i b d];exact c.1 i b d,by rw[e];exact c.2.1,c.2.2⟩
 |reg=>exact⟨λi b d=>by rw[h i b d];exact c.1 i b d,by rw[e];exact c.2.1,by rw[e];exact c.2.2.1,c.2.2.2⟩
 |last=>
  obtain⟨l,b,m,q,s,r,k⟩:=c;exact⟨l,b,m,by grind,λi o d j=>by grind,by grind,k⟩
 |sema=>exact⟨λi b d=>by rw[h i b d];exact c.1 i b d,c.2⟩
theorem mI.same{b c}{i}{x}(d:mI n D md b c)(h:x.stage=(D i).stage):mI n (bz D i x) md b c:=
 d.congr λj _ _=>by
  grind[upd_same,upd_ne]
theorem mI.counted{m k}{i}{x}(b:mI n D md m k)(o:i<n)(h:5<=(D i).stage)(w:5<=x.stage):mI n (bz D i x) md m k:=by
 by_cases r:0<i
 ·have f:V2 n (bz D i x)=V2 n D:=yH λj g=>by
   by_cases e:j=i
   ·subst e;rw[cX];unfold fW;grind
   grind[upd_ne]
  have d:OpenSt n D->OpenSt n (bz D i x):=λd j c g=>by
   by_cases e:j=i
   ·grind[upd_same]
   ·rw[cQ D _ e];exact d j c g
  cases md with
  |opn p=>exact⟨d b.1,by rw[f];exact b.2.1,b.2.2⟩
  |reg=>exact⟨d b.1,by rw[f];exact b.2.1,by rw[f];exact b.2.2.1,b.2.2.2⟩
  |last=>
   obtain⟨l,q,u,t,z,y,s⟩:=b
   grind
  |sema=>have:=b.1 i r o;omega
 ·exact b.congr λj c _=>by grind[upd_ne]
def nJ(n:Nat)(D:Nat->dm):Nat×Nat:=(sumTo n λi=>(D i).stage,sumTo n λi=>(D i).fuel)
theorem aia{i}{x}(b:i<n)(f:x.stage=(D i).stage)(e:x.fuel<(D i).fuel):Lt2 (nJ n (bz D i x)) (nJ n D):=by
 have d:=sumTo_upd D x dm.stage b;have c:=sumTo_upd D x dm.fuel b;unfold nJ
 grind
theorem XS{i}{x}(b:i<n)(d:x.stage<(D i).stage):Lt2 (nJ n (bz D i x)) (nJ n D):=by have c:=sumTo_upd D x dm.stage b;exact Prod.Lex.left _ _ (by omega)
structure Left(cl:Nat->eU)(sp:Nat->Prop)(v v':av):Prop where
 size:v.heap.size<=v'.heap.size
 block:∀b,b<v.heap.size->(cl b=.eN∨cl b=.old∨∃h,sp h∧cl b=.own h)->v'.heap[b]? =v.heap[b]?
 os:v'.os=v.os
 tape:v'.tape=v.tape
 out:v'.output=v.output
theorem Left.refl(cl)(sp)(v):Left cl sp v v:=⟨aW _,λ_ _ _=>rfl,rfl,rfl,rfl⟩
theorem Left.at(cl)(sp)(v)(d):Left cl sp v (v.at d):=⟨aW _,λ_ _ _=>rfl,rfl,rfl,rfl⟩
theorem Left.trans{u}(h:Left cl sp v v')(e:∀b,b<v.heap.size->cl' b=cl b)(k:Left cl' sp v' u):Left cl sp v u:=
 ⟨bq h.size k.size,λb c d=>(k.block b (cF c h.size) (by grind)).trans (h.block b c d),k.os.trans h.os,k.tape.trans h.tape,k.out.trans h.out⟩
def rz(y y':aU):Prop:=y'=y∨(y.status=.blocked∧y'={y with status:=dM})
theorem rz.refl(y):rz y y:=ax rfl
theorem rz.trans{x y z}(h:rz x y)(k:rz y z):rz x z:=by
 rcases h with rfl|⟨a,rfl⟩
 ·grind
 ·rcases k with rfl|⟨b,_⟩
  ·exact aA ⟨a,rfl⟩
  grind
def kU(sp:Nat->Prop)(gs:Array aU):Prop:=∀h y,sp h->gs[h]? =U y->y.status=dM∨(y.status=.blocked∧y.offers=V)
theorem kU.again{y}(h:y.status=dM∨(y.status=.blocked∧y.offers=V))(P)(a a')(w):rz y (woken P a a' w y):=by
 unfold woken;split
 ·rcases h with h|⟨d,c⟩
  ·rw[xz _ (ax h)];exact ax rfl
  ·right;unfold Goroutine.again
   grind
 ·exact ax rfl
theorem rz.ok{y b}(h:y.status=dM∨(y.status=.blocked∧y.offers=V))(k:rz y b):b.status=dM∨(b.status=.blocked∧b.offers=V):=by
 rcases k with rfl|⟨_,rfl⟩
 ·grind
 grind
structure sP(K:fy)(role:Nat->Option fo)(sp:Nat->Prop)(md:Md)(ch:Nat->Option fE)(cl:Nat->eU)(who:vi)(D:Nat->dm)(T:eo)(gs:Array aU)(v:av)(sl:Option (Nat×Nat))(i:Nat)
  (md':Md) (R:Nat->Option fE) (cl':Nat->eU) (D':Nat->dm) (T':eo) (M:Array aU) (v':av):Prop where
 run:∃ops,runT K.P (dw gs v sl) i=(fQ (dw M v' sl),ops)∧T'=T++ops
 inv:Inv K role sp md' R cl' who D' T' M v'
 size:M.size=gs.size
 lt:Lt2 (nJ gs.size D') (nJ gs.size D)
 left:Left cl sp v v'
 cls:∀b,b<v.heap.size->cl' b=cl b
 zL:∀h,sp h->D' h=D h
 Bw:∀h y,sp h->gs[h]? =U y->∃y',M[h]? =U y'∧rz y y'
 sema:md'=.sema->md=.sema∨∀h y',sp h->M[h]? =U y'->y'.status=dM
 md:md'=md∨md=.reg∧md'=.last∨md=.last∧md'=.sema
 ig:∀j,(D' j).stage<=(D j).stage
 k9:∀j r st,role j=U r->ch r.aM.c=U st->(st.shut=ai∨j=0)->(D j).stage=9->(D' j).stage=9
 ij:∀j,(D' j).stage=9->(D j).stage=9
 Zk:∀j,(D' j).stage=8->(D j).stage=8∨((D j).stage=9∧∃r st,role j=U r∧ch r.aM.c=U st∧st.shut=Z)
section
variable {i:Nat} {g:aU} {sl:Option (Nat×Nat)}
theorem Inv.step1(I:Inv K role sp md ch cl who D T gs v)(R:kU sp gs)(hs:¬sp i)(S:gs[i]? =U g){g':aU}{es:Array iW}{x':dm}(H:bZ K.P (i==0) g v=bS g' v' es)
  (a:v.heap.size<=v'.heap.size) (d:∀b,b<v.heap.size->¬(cl b=.own i∨(K.live=Z∧b=K.Wg))->v'.heap[b]? =v.heap[b]?) (C:v'.os=v.os) (l:v'.tape=v.tape) (s:v'.output=v.output)
  (t:∀b,b<v.heap.size->cl' b=cl b) (w:∀b∈x'.own,cl' b=.own i∧b<v'.heap.size)
  (E:∀e∈es,(∀x,(gW e).touch? =U x->ym cl' who i x)∧(gW e).low v'.heap.size) (O:∀e∈es,e.loc≠ia (.release (stA K.Wg)))
  (L:jD (D i).deaf es=x'.deaf) (o:role i=V->i≠0->∀e∈es,(gW e).touch? =V)
  (u:nK K.P K.L K.Wg (role i) i x' g' v') (B:x'.stage=9->(D i).stage=9∧0<x'.fuel) (h8:x'.stage=8->(D i).stage=8)
  (M:K.live=Z->∃W X,WgAt K.L.tWg K.Wg v' W X∧mI gs.size (bz D i x') md' W X)
  (q:∀r,role i=U r->0<i->x'.stage<=6->∃p,RelBy (stA K.Wg) (T++iC i g.frame.fn g.frame.place es) i p)
  (pq:x'.stage<(D i).stage∨(x'.stage=(D i).stage∧x'.fuel<(D i).fuel)) (N:(D i).stage=9->x'.stage=9)
  (m:md'=.sema->md=.sema∨∀h P,sp h->((gs.map (woken K.P g g' v')).setIfInBounds i g')[h]? =U P->P.status=dM)
  (J:md'=md∨md=.reg∧md'=.last∨md=.last∧md'=.sema):
  ∃md' cl' D' T' A v',sP K role sp md ch cl who D T gs v sl i md' ch cl' D' T' A v':=by
 have Q1:i<gs.size:=(oZ.1 S).1;obtain⟨hI,Q0⟩:=I.go_step (x':=x') (md':=md') (cl':=cl') S a (λb Q hn=>d b Q λh=>hn (h.imp id ax)) t w E O L o (λ_=>u) (λh=>⟨(B h).1,λ_=>(B h).2⟩) (λh _=>h8 h) M q;refine⟨md',cl',bz D i x',_,_,v',⟨_,Uz (sl:=sl) S H,rfl⟩,hI,by simp,?_,⟨a,λb Q c=>d b Q ?_,C,l,s⟩,t,λh z=>cQ D _ (λe=>hs (e▸z)),λh y z hy=>?_,m,J,λj=>?_,λj _ _ _ _ _ f=>?_,λj f=>?_,λj f=>ax ?_⟩
 ·grind[XS,aia]
 ·rintro(h|⟨F,h⟩)
  ·rcases c with c|c|⟨k,hk,c⟩
   ·grind
   ·grind
   grind
  ·rcases c with c|c|⟨k,hk,c⟩
   ·rw[h,I.jR F] at c;grind
   ·rw[h,I.jR F] at c;grind
   ·rw[h,I.jR F] at c;grind
 ·have kE:i≠h:=λe=>hs (e▸z);refine⟨woken K.P g g' v' y,?_,kU.again (R h y z hy) _ _ _ _⟩
  grind
 ·by_cases e:j=i
  ·subst e;rw[cX];grind
  ·rw[cQ D _ e];exact aW _
 ·by_cases e:j=i
  ·subst e;rw[cX];exact N f
  ·rw[cQ D _ e];exact f
 ·by_cases e:j=i
  ·subst e;rw[cX] at f;exact(B f).1
  ·rw[cQ D _ e] at f;exact f
 grind[upd_same,upd_ne]
theorem Inv.asS(I:Inv K role sp md ch cl who D T gs v)(p:kU sp gs)(hs:¬sp i)(y:gs[i]? =U g)(b:g.status=dM)(w:role i=V):
  ∃md' cl' D' J f v',sP K role sp md ch cl who D T gs v sl i md' ch cl' D' J f v':=by
 have u:=I.gJ i g hs y;rw[w] at u;obtain⟨s,z,d,B⟩:=u;cases A:(D i).fuel with
 |zero=>rw[A] at d;rw[d.1] at b;grind
 |succ k=>
  rw[A] at d;rcases d with⟨t,_⟩|⟨_,g',es,o,M,m⟩
  ·grind
  have O:(i==0)=ai:=by grind
  have a:=λe c=>touch_mute (o e c);refine I.step1 p hs y (g':=g') (v':=v) (es:=es) (x':=⟨1,k,[],jD (D i).deaf es⟩) (md':=md) (cl':=cl) (by grind) (aW _) (λ_ _ _=>rfl) rfl rfl rfl (λ_ _=>rfl) (by simp)
   (λe c=>⟨λx N=>(by grind),low_mute (o e c) _⟩) (λe c q=>?_) rfl (λ_ _=>a) (by rw[w];exact⟨s,rfl,m,rfl⟩) (by simp) (by simp) ?_ (λr L=>by grind) (aA ⟨z.symm,by grind⟩) (λh=>by omega) (λh=>ax h) (ax rfl)
  ·have:=o e c;obtain⟨l,wr,P⟩:=e;subst q;simp[Event.mute] at this
  ·intro q;obtain⟨E,H,C,j⟩:=I.wg q;exact⟨E,H,C,j.same z.symm⟩
theorem Inv.Tv(I:Inv K role sp md ch cl who D T gs v)(p:kU sp gs)(hs:¬sp i)(F:gs[i]? =U g){g'}{es}{f'}(s:bZ K.P (i==0) g v=bS g' v' es)(c:DO (D i).own v v' es)
  (y:∃r,role i=U r) (z:(D i).deaf=0) (j:nK K.P K.L K.Wg (role i) i ⟨(D i).stage,f',(D i).own,0⟩ g' v') (J:8<=(D i).stage) (q:(D i).stage=9->0<f') (m:f'<(D i).fuel):
  ∃md' cl' D' E l v',sP K role sp md ch cl who D T gs v sl i md' ch cl' D' E l v':=by
 refine I.step1 p hs F (g':=g') (v':=v') (es:=es) (x':=⟨(D i).stage,f',(D i).own,0⟩) (md':=md) (cl':=cl) s (vF c.size.symm) (λb f C=>c.block b λd=>C (ax (I.own i b d).1)) c.os c.tape c.out (λ_ _=>rfl)
  (λb f=>⟨(I.own i b f).1,by rw[c.size];exact(I.own i b f).2⟩) (λe k=>?_) (λe k=>?_) ?_ (λh=>by grind) j (λh=>⟨h,q h⟩) (λh=>h) ?_ (λM _ _ H=>by grind) (aA ⟨rfl,m⟩) (λh=>h) (λh=>ax h) (ax rfl)
 ·obtain⟨a,wr,rfl,d⟩:=c.ev e k;refine⟨λx t b f=>?_,?_⟩
  ·simp only[B0,ri,ec] at t;subst t;simp only[ox,ec] at f;subst f;rw[(I.own i _ d).1]
  ·rw[c.size];exact(I.own i _ d).2
 ·obtain⟨a,wr,rfl,d⟩:=c.ev e k;simp
 ·rw[z];exact deafBehind_still (λe k=>by obtain⟨a,wr,rfl,d⟩:=c.ev e k;grind) 0
 ·intro u;obtain⟨A,B,w,o⟩:=I.wg u;refine⟨A,B,?_,o.same rfl⟩;unfold WgAt at w⊢;rw[c.block K.Wg λd=>by have:=(I.own i _ d).1;rw[I.jR u] at this;grind]
  grind
end
variable{R:Nat->Option fE}{yp:vi}
theorem RelBy.quiet{a}{t u}{k r}(h:RelBy a t k r)(f:∀c∈u,c.act.touch? =V):RelBy a (t++u) k r:=
 h.app λi j g d=>by
  obtain⟨x,e,_⟩:=d
  grind[touch_of,getElem?_append_cases]
theorem Inv.mute(I:Inv K role sp md ch cl who D T gs v){u}(c:wN u)(s:∀b∈u,b.act.low v.heap.size)(f:∀b∈u,b.act≠ .mark (.release (stA K.Wg))):Inv K role sp md ch cl who D (T++u) gs v:=
 ⟨I.gJ,λi q=>(c.deaf i).trans (I.deaf i q),λj m=>(c.deaf j).trans (I.above j m),I.tr.mute c.1 s,I.own,I.chan,I.ny,I.out,I.uniq,I.wg,I.jR,
  λi r t w k=>let⟨p,x⟩:=I.rel i r t w k;⟨p,RelBy.quiet x c.1⟩,I.norel.app f,λg b h o l=>by
   rcases Af h with⟨_,d⟩|⟨_,e⟩
   ·exact I.qf g b d o l
   ·exact absurd (c.1 b e) l,I.zero,I.idle⟩
theorem Inv.pass(I:Inv K role sp md ch cl who D T gs v)(h:Tr cl yp K.fL v.heap.size T):Inv K role sp md ch cl yp D T gs v:=
 ⟨I.gJ,I.deaf,I.above,h,I.own,I.chan,I.ny,I.out,I.uniq,I.wg,I.jR,I.rel,I.norel,I.qf,I.zero,I.idle⟩
theorem Inv.put(I:Inv K role sp md ch cl who D T gs v){i:Nat}(x:i<gs.size){g':aU}{x':dm}(s:∀b∈x'.own,b∈(D i).own)(C:x'.deaf=(D i).deaf)(q:x'.stage=(D i).stage∨(5<=x'.stage∧5<=(D i).stage))(O:x'.stage<=6->(D i).stage<=6)
  (H:¬sp i->nK K.P K.L K.Wg (role i) i x' g' v) (N:x'.stage=9->(D i).stage=9)
  (S:∀r g,role i=U r->x'.stage=9->¬sp i->ch r.aM.c=U g->x'.fuel=0->g.buf=V∧g.shut=ai)
  (X:∀r,role i=U r->x'.stage=8->¬sp i->∃k,ch r.out=U ⟨V,ai,k⟩) (J:¬sp i->x'.stage=9->∀r,role i=U r->∃g,ch r.aM.c=U g):
  Inv K role sp md ch cl who (bz D i x') T (gs.setIfInBounds i g') v:=by
 have w:(gs.setIfInBounds i g')[i]? =U g':=jJ x;refine⟨λj y o E=>?_,λj h=>?_,λj h=>I.above j (by grind),I.tr,λj b u=>?_,I.chan,λj r f p o=>?_,λj r f t o=>?_,λj k r W f A h L Q=>?_,?_,I.jR,λj r f F d=>?_,I.norel,I.qf,by grind,I.idle⟩
 ·by_cases e:j=i
  ·grind[Option.some.inj,upd_same]
  ·rw[mz (λz=>e z.symm)] at E;rw[cQ D _ e];exact I.gJ j y o E
 ·by_cases e:j=i
  ·subst e;rw[cX,C];exact I.deaf j x
  ·rw[cQ D _ e];exact I.deaf j (by grind)
 ·by_cases e:j=i
  ·subst e;rw[cX] at u;exact I.own j b (s b u)
  ·rw[cQ D _ e] at u;exact I.own j b u
 ·by_cases e:j=i
  ·grind[upd_same]
  ·rw[cQ D _ e] at p⊢;exact I.ny j r f p o
 ·by_cases e:j=i
  ·grind[upd_same]
  ·rw[cQ D _ e] at t;exact I.out j r f t o
 ·have m:∀j,(bz D i x' j).stage=9->(D j).stage=9:=λj h=>by
   by_cases e:j=i
   ·subst e;rw[cX] at h;exact N h
   grind[upd_ne]
  exact I.uniq j k r W f A (m j h) (m k L) Q
 ·intro P;obtain⟨g,R,M,l⟩:=I.wg P;rw[tJ];refine⟨g,R,M,?_⟩;rcases q with q|⟨q,B⟩
  ·exact l.same q
  ·exact l.counted x B q
 ·by_cases e:j=i
  ·subst e;rw[cX] at d;exact I.rel j r f F (O d)
  ·rw[cQ D _ e] at d;exact I.rel j r f F d
theorem Inv.Jr(I:Inv K role sp md ch cl who D T gs v){c:Nat}{g st':fE}(F:ch c=U g)(C:v'={v with heap:=v.heap.setIfInBounds c st'.obj})
  (s:∀j r,role j=U r->(D j).stage=9->¬sp j->r.aM.c=c->(D j).fuel=0->st'.buf=V∧st'.shut=ai)
  (z:∀j r,role j=U r->(D j).stage=8->¬sp j->r.out=c->∃k,st'=⟨V,ai,k⟩):
  Inv K role sp md (bz ch c (U st')) cl who D T gs v'∧Left cl sp v v':=by
 subst C;obtain⟨Q,f,S⟩:=I.chan c g F;have p:∀b,b≠c->(v.heap.setIfInBounds c st'.obj)[b]? =v.heap[b]? :=λb i=>mz (λe=>i e.symm);have q:∀j,L (D j).own v {v with heap:=v.heap.setIfInBounds c st'.obj}:=λj=>
  ⟨λb i=>p b λe=>(by have:=(I.own j b i).1;grind),by simp⟩
 have l:K.live=Z->∀g t,WgAt K.L.tWg K.Wg v g t->WgAt K.L.tWg K.Wg {v with heap:=v.heap.setIfInBounds c st'.obj} g t:=λu g t h=>by
  unfold WgAt at h⊢
  grind
 refine⟨⟨λj y o E=>(I.gJ j y o E).rely (q j) λ⟨r,m⟩ ⟨a,b,h⟩=>⟨a,b,l (I.idle j r m) a b h⟩,I.deaf,I.above,by simpa using I.tr,λj b i=>by simpa using I.own j b i,λd x w=>?_,λj r m A o=>?_,λj r m B o=>?_,I.uniq,
  λu=>let⟨a,b,h,J⟩:=I.wg u;⟨a,b,l u a b h,J⟩,I.jR,I.rel,I.norel,I.qf,I.zero,I.idle⟩,⟨by simp,λb i N=>p b λe=>?_,rfl,rfl,rfl⟩⟩
 ·by_cases e:d=c
  ·grind[upd_same,Option.some.inj]
  ·rw[cQ ch _ e] at w;obtain⟨W,O,P⟩:=I.chan d x w
   grind
 ·obtain⟨x,M,H⟩:=I.ny j r m A o
  grind[upd_same,upd_ne]
 ·obtain⟨k,R⟩:=I.out j r m B o
  grind[upd_same,upd_ne]
 grind
section
variable {i:Nat} {g:aU} {sl:Option (Nat×Nat)}
theorem Inv.Oc(I:Inv K role sp md ch cl who D T gs v)(b:kU sp gs)(c):partners (gs.setIfInBounds i ph) c Z=[]:=
 partners_nil λx y e=>by
  rcases getElem?_stand gs i x y e with⟨_,rfl⟩|⟨_,a⟩
  ·grind[offersAt_ph]
  ·by_cases d:sp x
   ·rcases b x y d a with h|⟨f,j⟩
    ·grind[offersAt_of_not_blocked]
    ·unfold offersAt
     grind
   ·exact(I.gJ x y d a).noSend c
theorem BW(i)(fn)(a):iC i fn a #[]= #[]:=rfl
theorem Inv.aoQ(I:Inv K role sp md ch cl who D T gs v)(q:kU sp gs)(hs:¬sp i)(B:gs[i]? =U g)(E:g.status=dM){r:fo}(s:role i=U r)(p:(D i).stage=9):
  (∃md' cl' D' T' S v',sP K role sp md ch cl who D T gs v sl i md' ch cl' D' T' S v')∨
  (∃A t,AtR K.P (i==0) r.aM (D i).own g A v∧ch r.aM.c=U t∧¬(t.buf=V∧t.shut=ai)):=by
 have ho:=I.gJ i g hs B;have C:i<gs.size:=(oZ.1 B).1;rw[s] at ho;rcases ho with⟨_,O,M⟩|⟨h8,_⟩|⟨h7,_⟩|⟨h7,_⟩
 ·rcases M with⟨k,hn,W⟩|⟨k,m,hn,hm,W⟩|⟨_,g0,A,rfl,_⟩
  ·rcases xy W with d|⟨N,rfl,a⟩
   ·obtain⟨A,J⟩:=d v (L.refl _ _);obtain⟨t,Q0,_⟩:=I.ny i r s p hs;by_cases f:t.buf=V∧t.shut=ai
    ·
     refine ax ⟨md,cl,bz D i ⟨9,0,(D i).own,0⟩,T,gs.setIfInBounds i (parked A #[rcase r.aM.c r.aM.z] (.recv r.aM.ok)),v,?_⟩;have c:=(I.chan _ _ Q0).1;rw[abK f.1 f.2] at c;have hI:=I.put (i:=i) C (g':=parked A #[rcase r.aM.c r.aM.z] (.recv r.aM.ok)) (x':=⟨9,0,(D i).own,0⟩) (λb u=>u) O.symm (ax p.symm) (λh=>by grind) (λ_=>by rw[s];exact ax ⟨rfl,rfl,aA (aA ⟨rfl,g,A,rfl,J⟩)⟩) (λ_=>p)
      (λr' st' z _ _ aEF _=>by grind) (λ_ _ h=>by grind) (λ_ _ r' z=>by grind)
     refine⟨⟨#[],?_,by simp⟩,hI,by simp,aia C p.symm (by grind),Left.refl _ _ _,λ_ _=>rfl,λh hh=>cQ D _ (λe=>hs (by grind)),λh y hh hy=>⟨y,by grind,rz.refl y⟩,λh=>ax h,ax rfl,λj=>by
      by_cases e:j=i
      ·grind[upd_same,Nat.le_of_eq]
      ·rw[cQ D _ e];grind,λj _ _ _ _ _ w=>by
      by_cases e:j=i
      ·subst e;rw[cX]
      grind[upd_ne],λj w=>by
      by_cases e:j=i
      ·subst e;exact p
      ·rw[cQ D _ e] at w;exact w,λj w=>ax (by
      by_cases e:j=i
      ·subst e;rw[cX] at w;simp at w
      ·rw[cQ D _ e] at w;exact w)⟩
     have:=crowd_waits (sl:=sl) B (J.2.2.2.2.2 v) (λcc Q1=>by simp only[fJ,dh,dJ,dO] at Q1;subst Q1;exact ways_recv_none c (I.Oc q _))
     grind[BW]
    grind
   ·obtain⟨g',w',es,o,x,l⟩:=a v (L.refl _ _);exact ax (I.Tv q hs B o x ⟨r,s⟩ O (f':=N+1) (by rw[s];exact ax ⟨p,rfl,ax ⟨N,rfl,l⟩⟩) (by omega) (λ_=>by omega) (by omega))
  ·rcases xy W with d|⟨N,rfl,a⟩
   ·
    obtain⟨_,X,F⟩:=d v (L.refl _ _);obtain⟨g',Q,o,l⟩:=F v (L.refl _ _);have H:(i==0)=ai:=hm;refine ax (I.step1 q hs B (g':=g') (v':={v with heap:=v.heap.push X}) (es:= #[]) (x':=⟨9,m+1,v.heap.size::(D i).own,0⟩) (md':=md) (cl':=λb=>if b=v.heap.size then .own i else cl b) (by rw[H];exact o) (by simp)
     (λb u _=>by simp only[Uy];rw[if_neg (by omega)]) rfl rfl rfl (λb u=>by rw[if_neg (by omega)]) (λb u=>?_) (by simp) (by simp) (by rw[O];rfl) (by simp) ?_ (λ_=>⟨p,by simp⟩) (by simp) ?_ (λ_ _ _ h=>by simp at h) (aA ⟨p.symm,by simp only;omega⟩) (λ_=>rfl) (λh=>ax h) (ax rfl))
    ·simp only[dh] at u;rcases u with rfl|u
     ·exact⟨by rw[dn rfl],by simp⟩
     ·obtain⟨a1,a2⟩:=I.own i b u;exact⟨by rw[if_neg (by omega)];exact a1,by simp;omega⟩
    ·rw[s];refine ax ⟨rfl,rfl,ax ⟨m,rfl,?_⟩⟩;rw[H];exact l
    ·intro hl;obtain⟨t,sm,R,P⟩:=I.wg hl;refine⟨t,sm,?_,P.same p.symm⟩;have:=ot R;unfold WgAt at R⊢;simp only[Uy];rw[if_neg (by omega)]
     exact R
   ·obtain⟨g',w',es,o,x,l⟩:=a v (L.refl _ _);exact ax (I.Tv q hs B o x ⟨r,s⟩ O (f':=N+m+3) (by rw[s];exact ax ⟨p,rfl,aA (ax ⟨N,m,rfl,hm,l⟩)⟩) (by omega) (λ_=>by omega) (by omega))
  ·cases E
 ·omega
 ·omega
 grind
theorem Inv.aou(I:Inv K role sp md ch cl who D T gs v)(F:kU sp gs)(hs:¬sp i)(H:gs[i]? =U g){r:fo}(R:role i=U r)(h9:(D i).stage=9)(A:0<i){h:aU}{f:fE}(B:AtR K.P (i==0) r.aM (D i).own g h v)
  (J:ch r.aM.c=U f) (t:f.buf=V) (p:f.shut=Z) (N:∃k,ch r.out=U ⟨V,ai,k⟩)
  (o:r.C∈(D i).own∧∃m,cH K.P ai (L (D i).own) (DO (D i).own) (yo K.P K.L K.Wg r (D i).own) m (j0 h (recvd r.aM.ok r.aM.z ai)) v):
  ∃md' cl' D' T' u v',sP K role sp md ch cl who D T gs v sl i md' ch cl' D' T' u v':=by
 have l:i<gs.size:=(oZ.1 H).1;have Q:=I.gJ i g hs H;have M:(D i).deaf=0:=by rw[R] at Q;rcases Q with⟨_,M,_⟩|⟨h8,_⟩|⟨h7,_⟩|⟨h7,_⟩<;>omega
 obtain⟨P,m,c⟩:=o;obtain⟨w,ir,z⟩:=I.chan _ _ J;have q:f.obj=.chan 1 #[] Z f.k f.k ai:=by obtain⟨b,s,k⟩:=f;simp only at t p;subst t p;rfl
 have E:=ot w;rw[q] at w;have a:=crowd_recv_closed (sl:=sl) H (B.2.2.2.2.2 v) w (I.Oc F _);rw[finishComm_recv,BW,Array.empty_append] at a;have h1:=I.mute (u:=tY i h.frame.fn h.frame.place r.aM.c) (WJ _ _ _ _) (λW d=>by
  simp only[tY,fJ,dh,dJ,dO] at d;subst d;exact E) (λW d=>by
  simp only[tY,fJ,dh,dJ,dO] at d
  grind)
 have X:=h1.put (i:=i) l (g':=j0 h (recvd r.aM.ok r.aM.z ai)) (x':=⟨8,m,(D i).own,0⟩) (λb t=>t) M.symm (aA ⟨by simp,by omega⟩) (λh=>by grind) (λ_=>by rw[R];exact aA (ax ⟨rfl,rfl,A,P,c⟩)) (λh=>by grind)
  (λ_ _ _ h=>by grind) (λr' x _ _=>by grind) (λ_ h=>by grind)
 exact⟨md,cl,_,_,_,v,⟨_,a,rfl⟩,X,by simp,XS l (by grind),Left.refl _ _ _,λ_ _=>rfl,λh hh=>cQ D _ (λe=>hs (by grind)),
  λh y hh hy=>⟨y,by grind,rz.refl y⟩,λh=>ax h,ax rfl,λj=>by
  by_cases e:j=i
  ·grind[upd_same]
  ·rw[cQ D _ e];grind,λj r' C x O Ex S=>by
  grind[upd_ne],λj S=>by
  grind[upd_ne],λj S=>by
  grind[upd_ne]⟩
end
variable{sp':Nat->Prop}{i:Nat}{g:aU}{sl:Option (Nat×Nat)}
theorem QT(D)(x)(f:i<n):V2 n (bz D i x)+fW i (D i)=V2 n D+fW i x:=by
 have c:V2 n (bz D i x)=sumTo n (λj=>if j=i then fW i x else fW j (D j)):=yH λj _=>by
  by_cases e:j=i
  ·subst e;rw[cX,dn rfl]
  ·rw[cQ D _ e,if_neg e]
 have l:∀m,m<=i->sumTo m (λj=>if j=i then fW i x else fW j (D j))=sumTo m λj=>fW j (D j):=λm o=>yH λj h=>by grind
 have a:∀m,i<m->sumTo m (λj=>if j=i then fW i x else fW j (D j))+fW i (D i)=sumTo m (λj=>fW j (D j))+fW i x:=by
  intro m;induction m with
  |zero=>grind
  |succ m k=>
   rcases Ad i m with b|d
   ·simp only[sumTo]
    grind
   ·simp only[sumTo]
    grind
 rw[c];exact a n f
theorem Inv.more(I:Inv K role sp md ch cl who D T gs v)(h:∀j,sp j->sp' j):Inv K role sp' md ch cl who D T gs v:=
 ⟨λj y a e=>I.gJ j y (λx=>a (h j x)) e,I.deaf,I.above,I.tr,I.own,I.chan,λj r b c a=>I.ny j r b c λx=>a (h j x),λj r b d a=>I.out j r b d λx=>a (h j x),I.uniq,I.wg,I.jR,I.rel,I.norel,I.qf,I.zero,I.idle⟩
theorem Inv.fewer(I:Inv K role sp' md ch cl who D T gs v)(h:∀j,sp' j->¬sp j->(∀y,gs[j]? =U y->nK K.P K.L K.Wg (role j) j (D j) y v)∧
   (∀r,role j=U r->(D j).stage=9->∃d,ch r.aM.c=U d∧((D j).fuel=0->d.buf=V∧d.shut=ai))∧∀r,role j=U r->(D j).stage=8->∃k,ch r.out=U ⟨V,ai,k⟩):
  Inv K role sp md ch cl who D T gs v:=
 ⟨λj y e m=>by
  by_cases a:sp' j
  ·grind
  ·exact I.gJ j y a m,I.deaf,I.above,I.tr,I.own,I.chan,λj r b f e=>by
  by_cases a:sp' j
  ·grind
  ·exact I.ny j r b f a,λj r b l e=>by
  by_cases a:sp' j
  ·grind
  ·exact I.out j r b l a,I.uniq,I.wg,I.jR,I.rel,I.norel,I.qf,I.zero,I.idle⟩
theorem ahe{c B}(f:c<B)(hs:cl c=.sh):∀e∈jY c,(∀x,(gW e).touch? =U x->ym cl who i x)∧(gW e).low B:=by
 intro e d;simp only[jY,fJ,dh,dJ,dO] at d;rcases d with rfl|rfl
 ·refine⟨λx a b h=>?_,f⟩;simp only[gW,ri] at a;simp only[ox] at h
  grind
 ·exact⟨λx a=>by simp[gW,ri] at a,f⟩
theorem ahd{c}{a}:∀e∈jY c,e.loc≠ia (.release a):=by
 intro e b;simp only[jY,dJ] at b
 grind
theorem ahf{c}(d):jD d (jY c)=d:=deafBehind_still (λe a=>by
 simp only[jY,dJ] at a
 grind) d
theorem Inv.QA(I:Inv K role sp md ch cl who D T gs v)(F:kU sp gs)(hs:¬sp i)(H:gs[i]? =U g){r:fo}(q:role i=U r)(E:(D i).stage=8)
  (Q:∀j d,role j=U d->¬sp j->d.aM.c≠r.out) (J:∀j d,role j=U d->j≠i->d.out≠r.out):
  ∃md' R cl' D' X f v',sP K role sp md ch cl who D T gs v sl i md' R cl' D' X f v'∧(R=ch∨∃k,R=bz ch r.out (U ⟨V,Z,k⟩)∧role i=U r∧(D i).stage=8∧(D' i).stage<=7):=by
 have ho:=I.gJ i g hs H;have z:i<gs.size:=(oZ.1 H).1;rw[q] at ho;rcases ho with⟨h9,_⟩|⟨_,h0,B,hC,hg⟩|⟨h7,_⟩|⟨h7,_⟩
 ·omega
 ·rcases xy hg with o|⟨k',VR,l⟩
  ·obtain⟨_,Pj,g',N,S⟩:=o v (L.refl _ _);obtain⟨k,hk⟩:=I.out i r q E hs;obtain⟨hc,Q1,xV⟩:=I.chan _ _ hk;obtain⟨C,m,hW⟩:=S v k (L.refl _ _) hc (I.live (I.idle i r q));have u:(i==0)=ai:=by grind
   obtain⟨Q0,A⟩:=(I.more (sp':=λj=>sp j∨j=i) λj h=>ax h).Jr (c:=r.out) (st':=⟨V,Z,k⟩) hk (v':=v.setChan r.out 1 #[] Z k k ai) rfl (λj d p _ t e _=>absurd e (Q j d p λh=>t (ax h)))
    (λj d p h8' t e=>absurd e (J j d p λh=>t (aA h)))
   obtain⟨I2,P⟩:=Q0.go_step (v':=v.setChan r.out 1 #[] Z k k ai) (g':=g') (es:=jY r.out) (x':=⟨7,m,(D i).own,0⟩) (md':=md) (cl':=cl) H (aW _) (λ_ _ _=>rfl) (λ_ _=>rfl) (λb u=>Q0.own i b u) (ahe (by have:=ot hc;simpa[CO] using this) Q1) ahd
    (by grind[ahf]) (λh=>by grind) (λh=>absurd (aA rfl) h) (by simp) (by simp) (by intro hl;obtain⟨st,sm,hw,O⟩:=Q0.wg hl;exact⟨st,sm,hw,O.counted z (by omega) (by simp)⟩) (λ_ _ _ h=>by grind)
   have s:((gs.map (woken K.P g g' (v.setChan r.out 1 #[] Z k k ai))).setIfInBounds i g')[i]? =U g':=jJ (by grind)
   have I3:=I2.fewer (sp:=sp) λj a W=>by
    have e:j=i:=a.resolve_left W;subst e;rw[cX];refine⟨λy M=>?_,λ_ _ h=>by grind,λ_ _ h=>by grind⟩
    rw[s] at M;obtain rfl:=rY M;rw[q];exact aA (aA (ax ⟨rfl,rfl,B,hC,hW⟩))
   refine⟨md,_,cl,_,_,_,_,⟨⟨_,Uz (sl:=sl) H (by grind),rfl⟩,I3,by simp,XS z (by grind),⟨A.size,λb u hx=>A.block b u (hx.imp id λx=>x.imp id λ⟨h,w,e⟩=>⟨h,ax w,e⟩),A.os,A.tape,A.out⟩,λ_ _=>rfl,λh w=>cQ D _ (λe=>hs (by rw[<-e];exact w)),λh y w M=>?_,λh=>ax h,ax rfl,λj=>by
    by_cases e:j=i
    ·subst e;rw[cX,E];simp
    ·rw[cQ D _ e];exact aW _,λj _ _ _ _ _ a=>by
    by_cases e:j=i
    ·subst e;omega
    ·rw[cQ D _ e];exact a,λj a=>by
    by_cases e:j=i
    ·subst e;rw[cX] at a;simp at a
    ·rw[cQ D _ e] at a;exact a,λj a=>ax (by
    by_cases e:j=i
    ·subst e;exact E
    ·rw[cQ D _ e] at a;exact a)⟩,aA ⟨k,rfl,q,E,by rw[cX];simp⟩⟩
   have kE:i≠h:=λe=>hs (by rw[e];exact w)
   refine⟨woken K.P g g' (v.setChan r.out 1 #[] Z k k ai) y,?_,kU.again (F h y w M) _ _ _ _⟩
   grind
  ·obtain⟨g',w',es,C,Q3,Q2⟩:=l v (L.refl _ _);have u:(i==0)=ai:=by simp;omega
   obtain⟨md',cl',D',X,f,v',h⟩:=I.Tv (sl:=sl) F hs H (by rw[u];exact C) Q3 ⟨r,q⟩ h0 (f':=k') (by rw[q];exact aA (ax ⟨E,rfl,B,hC,Q2⟩)) (by omega) (λh=>by omega) (by omega)
   exact⟨md',ch,cl',D',X,f,v',h,ax rfl⟩
 ·omega
 grind
theorem Inv.A7(I:Inv K role sp md ch cl who D T gs v)(Q:kU sp gs)(hs:¬sp i)(W:gs[i]? =U g){r:fo}(J:role i=U r)(u:0<i)(h6:(D i).stage<=6){g':aU}{es:Array iW}{st' d:Int}{x':dm}(hgo:bZ K.P ai g v=bS g' v' es)
  (c:Aside K.Wg v v') (y:WgAt K.L.tWg K.Wg v' st' d) (f:∀e∈es,Bk K.Wg e) (L:∀P e,es[P]? =U e->(gW e).touch? =V∨0<jD (D i).deaf (es.extract 0 P)) (E:x'.own=(D i).own) (hC:r.C∈(D i).own)
  (R:WS K.P K.L K.Wg r x'.stage x'.fuel x'.deaf g' v') (M:jD (D i).deaf es=x'.deaf) (k:mI gs.size (bz D i x') md' st' d) (B:x'.stage<(D i).stage∨(x'.stage=(D i).stage∧x'.fuel<(D i).fuel))
  (j:md'=.sema->md=.sema∨∀h X,sp h->((gs.map (woken K.P g g' v')).setIfInBounds i g')[h]? =U X->X.status=dM) (H:md'=md∨md=.reg∧md'=.last∨md=.last∧md'=.sema):
  ∃md' cl' D' T' A v',sP K role sp md ch cl who D T gs v sl i md' ch cl' D' T' A v':=by
 have z:i<gs.size:=(oZ.1 W).1;have O:(i==0)=ai:=by grind
 have S:x'.stage<=6:=by grind
 have o:=I.idle i r J;obtain⟨st0,sm0,F,hm0⟩:=I.wg o;have Q0:=ot F;refine I.step1 Q hs W (g':=g') (v':=v') (es:=es) (x':=x') (md':=md') (cl':=cl) (by grind) (vF c.size.symm) (λb _ hn=>c.block b λe=>hn (aA ⟨o,e⟩)) c.os c.tape c.output (λ_ _=>rfl) (λb O=>by rw[E] at O;rw[c.size];exact I.own i b O)
  (λe C=>?_) (λe C hl=>?_) M (λh=>by grind) (by rw[J];exact aA (aA (aA ⟨S,u,by grind,R⟩))) (λh=>by omega) (λh=>by omega) (λ_=>⟨st',d,y,k⟩) (λr' hr' _ _=>?_) B (λh=>by omega) j H
 ·rcases f e C with m|m|⟨a,wr,rfl,N⟩
  ·obtain⟨l,w,s⟩:=e;simp only at m;subst m;exact⟨λx q=>by simp[gW,ri] at q,trivial⟩
  ·obtain⟨l,w,s⟩:=e;simp only at m;subst m;exact⟨λx q=>by simp[gW,ri] at q,trivial⟩
  ·refine⟨λx q b t=>?_,?_⟩
   ·simp only[B0,ri,ec] at q;subst q;simp only[ox,ec] at t;subst t;rw[N,I.jR o]
    grind
   ·show a.block<_;rw[N,c.size];grind
 ·rcases f e C with m|m|⟨a,wr,rfl,N⟩
  ·grind
  ·grind
  grind
 ·obtain⟨p,hp⟩:=I.rel i r J u h6;exact⟨p,Go.ConcN.RelBy.book hp (I.deaf i z) _ _ f L⟩
theorem mI.isLast{f e}(c:mI n D md f e)(b:0<i)(d:i<n)(h:(D i).stage=4∨(D i).stage=3∨(D i).stage=2):
  md=.last∧(∀a,0<a->a<n->a≠i->(D a).stage=1)∧f=(if(D i).stage=2 then 0 else 1)∧e=0:=by
 cases md with
 |opn p=>have:=c.1 i b d;omega
 |reg=>have:=c.1 i b d;omega
 |last=>
  obtain⟨l,q,m,k,r,o,j⟩:=c
  grind
 |sema=>have:=c.1 i b d;omega
theorem Inv.ayz(I:Inv K role sp md ch cl who D T gs v)(A:kU sp gs)(hs:¬sp i)(R:gs[i]? =U g)(N:g.status=dM){r:fo}(Q:role i=U r)(h7:(D i).stage<=7)
  (L:∀p,md=.opn p->V2 gs.size D+p<=2147483646) (aFz:V2 gs.size D<=2147483646):
  ∃md' cl' D' T' M v',sP K role sp md ch cl who D T gs v sl i md' ch cl' D' T' M v':=by
 have ho:=I.gJ i g hs R;have t:i<gs.size:=(oZ.1 R).1;rw[Q] at ho;have hdk:Deaf T i=(D i).deaf:=I.deaf i t;have Pn:=I.idle i r Q;obtain⟨st,sm,j,z⟩:=I.wg Pn;have awu:=ot j;rcases ho with⟨h9,_⟩|⟨h8,_⟩|⟨E,h0,o,S,hW⟩|⟨h6,o,S,hW⟩
 ·omega
 ·omega
 ·
  have hb:(i==0)=ai:=by grind
  rcases xy hW with f|⟨P,hm',c⟩
  ·obtain⟨_,aFj,g',d,w,hk⟩:=f v (nS v);refine I.step1 A hs R (g':=g') (v':=v) (es:= #[jo (Mark.releaseMerge (stA K.Wg))]) (x':=⟨6,w,(D i).own,0⟩) (md':=md) (cl':=cl) (by grind) (aW _) (λ_ _ _=>rfl) rfl rfl rfl (λ_ _=>rfl) (λb hb=>I.own i b hb)
    (λe k=>?_) (λe k=>?_) (by rw[h0];rfl) (λh=>by grind) (by rw[Q];exact aA (aA (aA ⟨by simp,o,S,.k1 hk⟩))) (by simp) (by simp) (λ_=>⟨st,sm,j,z.counted t (by omega) (by simp)⟩) (λ_ _ _ _=>⟨_,Go.ConcN.RelBy.new (by grind) _ _⟩) (ax (by grind)) (λh=>by omega) (λh=>ax h) (ax rfl)
   ·simp only[fJ,dh,dJ,dO] at k;subst k;exact⟨λx F=>(by cases F),awu⟩
   ·simp only[fJ,dh,dJ,dO] at k;subst k;simp[jo]
  ·obtain⟨g',w',X,d,⟨rfl,rfl⟩,B⟩:=c v (nS v);refine I.step1 A hs R (g':=g') (v':=w') (es:= #[]) (x':=⟨7,P,(D i).own,0⟩) (md':=md) (cl':=cl) (by grind) (aW _) (λ_ _ _=>rfl) rfl rfl rfl (λ_ _=>rfl) (λb hb=>I.own i b hb)
    (by simp) (by simp) (by rw[h0];rfl) (by simp) (by rw[Q];exact aA (aA (ax ⟨rfl,rfl,o,S,B⟩))) (by simp) (by simp) (λ_=>⟨st,sm,j,z.same E.symm⟩) (λ_ _ _ h=>by grind) (aA ⟨E.symm,by grind⟩) (λh=>by omega) (λh=>ax h) (ax rfl)
 generalize E:(D i).stage=s at hW;generalize hfu:(D i).fuel=m at hW;generalize u:(D i).deaf=dd at hW;have h6s:s<=6:=by omega
 have Q1:∀{g':aU} {P:Nat},bZ K.P ai g v=bS g' v #[]->WS K.P K.L K.Wg r s P dd g' v->P+1=m->∃md' cl' D' T' M v',sP K role sp md ch cl who D T gs v sl i md' ch cl' D' T' M v':=by intro g' P d Ex hm;exact I.A7 A hs R Q o (by omega) (x':=⟨s,P,(D i).own,dd⟩) d (.refl _ _) j (by simp) (by simp) rfl S Ex (by rw[u];rfl) (z.same E.symm) (aA ⟨E.symm,by grind⟩) (λh=>ax h) (ax rfl)
 have bk2:∀e∈ #[rd (stA K.Wg),wr (stA K.Wg)],Bk K.Wg e:=by intro e k;simp at k;rcases k with rfl|rfl<;>exact bk_cell _ _ rfl
 have Xf:∀H e,(#[rd (stA K.Wg),wr (stA K.Wg)]:Array iW)[H]? =U e->(gW e).touch? =V∨0<jD 1 ((#[rd (stA K.Wg),wr (stA K.Wg)]:Array iW).extract 0 H):=by
  intro H e k
  match H,k with
  |0,_=>exact aA (by simp[jD])
  |1,_=>exact aA (by simp[jD,rd])
  |H+2,k=>simp at k
 have df1:∀x H e,(#[x]:Array iW)[H]? =U e->(gW e).touch? =V∨0<jD 1 ((#[x]:Array iW).extract 0 H):=by
  intro x H e k
  match H,k with
  |0,_=>exact aA (by simp[jD])
  |H+1,k=>simp at k
 cases hW with
 |r0 h=>omega
 |k1 h=>
  rcases xy h with f|⟨P,rfl,c⟩
  ·obtain⟨_,g',d,w,hk⟩:=f v (nS v);exact I.A7 A hs R Q o (by omega) (x':=⟨5,w,(D i).own,1⟩) d (.refl _ _) j (by intro e k;simp at k;subst k;exact ax rfl) (by intro H e k;exact ax (by have:=tI k;simp at this;subst this;rfl)) rfl S (.d1 hk) (by rw[u];rfl)
    (z.counted t (by omega) (by simp)) (ax (by simp only;omega)) (λh=>ax h) (ax rfl)
  ·obtain⟨g',w',X,d,⟨rfl,rfl⟩,B⟩:=c v (nS v);exact Q1 d (.k1 B) rfl
 |d1 h=>
  rcases xy h with f|⟨P,rfl,c⟩
  ·obtain⟨_,PE⟩:=f v (nS v);have sx:fW i (D i)=1:=by unfold fW;rw[dn ⟨o,by omega⟩]
   have Hp:1<=V2 gs.size D:=by have:=le_sumTo (f:=λx=>fW x (D x)) t;unfold V2;omega
   have Pb:∀q,fW i (⟨1,q,(D i).own,1⟩:dm)=0:=λq=>by unfold fW;rw[if_neg (by simp)]
   have opq:∀q,OpenSt gs.size D->OpenSt gs.size (bz D i ⟨1,q,(D i).own,1⟩):=λq h a C Q0=>by
    by_cases e:a=i
    ·subst e;rw[cX];exact aA rfl
    ·rw[cQ D _ e];exact h a C Q0
   cases md with
   |opn p=>
    obtain⟨h1,rfl,rfl⟩:=z;have lD:=L p rfl;obtain⟨x,F⟩:∃x,V2 gs.size D+p=x+1:=⟨V2 gs.size D+p-1,by omega⟩
    rw[F] at j;have fK:WgAt K.L.tWg K.Wg v (((x:Nat)+1)*KK+((0:Nat):Int)) 0:=by simpa using j
    obtain⟨g',d,_,O⟩:=PE x 0 (by omega) (by omega) fK
    obtain⟨q,O⟩:=O (by omega)
    have Cf:V2 gs.size (bz D i ⟨1,q,(D i).own,1⟩)+p=x:=by have:=QT D (⟨1,q,(D i).own,1⟩:dm) t;have:=Pb q;omega
    refine I.A7 A hs R Q o (by omega) (x':=⟨1,q,(D i).own,1⟩) (md':=.opn p) d (aside_setCell v (stA K.Wg) _) (j.setSt _) bk2 (by rw[u];exact Xf) rfl S (.quit O) (by rw[u];rfl) ⟨opq q h1,?_,rfl⟩ (ax (by simp only;omega)) (λh=>ax h) (ax rfl)
    rw[Cf];simp
   |reg=>
    obtain⟨h1,h3,rfl,rfl⟩:=z;obtain⟨x,F⟩:∃x,V2 gs.size D=x+1:=⟨V2 gs.size D-1,by omega⟩
    rw[F] at j;have fK:WgAt K.L.tWg K.Wg v (((x:Nat)+1)*KK+((1:Nat):Int)) 0:=by simpa using j
    obtain⟨g',d,hl,O⟩:=PE x 1 (by omega) (by omega) fK
    by_cases Cd:x=0
    ·subst Cd;obtain⟨w,hk⟩:=hl ⟨rfl,rfl⟩;refine I.A7 A hs R Q o (by omega) (x':=⟨4,w,(D i).own,1⟩) (md':=.last) d (aside_setCell v (stA K.Wg) _) (j.setSt _) bk2 (by rw[u];exact Xf) rfl S (.d2 hk) (by rw[u];rfl) ⟨i,o,t,by rw[cX];simp,λa C Q0 e=>?_,?_,rfl⟩ (ax (by simp only;omega)) (λh=>by cases h) (aA (ax ⟨rfl,rfl⟩))
     ·rw[cQ D _ e];have h0:=QT D (⟨0,0,[],0⟩:dm) t;have c0:fW i (⟨0,0,[],0⟩:dm)=0:=by unfold fW;rw[if_neg (by simp)]
      have:=le_sumTo (f:=λx=>fW x (bz D i ⟨0,0,[],0⟩ x)) Q0;simp only[cQ D _ e] at this;have hz:fW a (D a)=0:=by unfold V2 at h0 F;omega
      have:=h1 a C Q0;unfold fW at hz;split at hz
      ·omega
      ·rename_i hn;rcases this with h|h
       ·exact absurd ⟨C,h⟩ hn
       ·exact h
     ·rw[cX];simp
    ·obtain⟨q,O⟩:=O (by omega)
     have Cf:V2 gs.size (bz D i ⟨1,q,(D i).own,1⟩)=x:=by have:=QT D (⟨1,q,(D i).own,1⟩:dm) t;have:=Pb q;omega
     refine I.A7 A hs R Q o (by omega) (x':=⟨1,q,(D i).own,1⟩) (md':=.reg) d (aside_setCell v (stA K.Wg) _) (j.setSt _) bk2 (by rw[u];exact Xf) rfl S (.quit O) (by rw[u];rfl) ⟨opq q h1,by omega,?_,rfl⟩ (ax (by simp only;omega)) (λh=>ax h) (ax rfl)
     rw[Cf];simp
   |last=>
    obtain⟨l,hl0,hl,h2,h3,_⟩:=z;by_cases e:i=l
    ·subst e;omega
    ·have:=h3 i o t e;omega
   |sema=>have:=z.1 i o t;omega
  ·obtain⟨g',w',X,d,⟨rfl,rfl⟩,B⟩:=c v (nS v);exact Q1 d (.d1 B) rfl
 |d2 h=>
  rcases xy h with f|⟨P,rfl,c⟩
  ·obtain⟨_,F⟩:=f v (nS v);obtain⟨rfl,J,rfl,rfl⟩:=z.isLast o t (by omega)
   simp only[E] at j;obtain⟨g',d,w,hk⟩:=F (by simpa using j)
   refine I.A7 A hs R Q o (by omega) (x':=⟨3,w,(D i).own,1⟩) (md':=.last) d (.refl _ _) j (by intro e k;simp at k;subst k;exact bk_cell _ _ rfl) (by rw[u];exact df1 _) rfl S (.d3 hk) (by rw[u];rfl)
    ⟨i,o,t,by rw[cX];simp,λa C Q0 e=>by rw[cQ D _ e];exact J a C Q0 e,by rw[cX];simp,rfl⟩ (ax (by simp only;omega)) (λh=>by cases h) (ax rfl)
  ·obtain⟨g',w',X,d,⟨rfl,rfl⟩,B⟩:=c v (nS v);exact Q1 d (.d2 B) rfl
 |d3 h=>
  rcases xy h with f|⟨P,rfl,c⟩
  ·obtain⟨_,F⟩:=f v (nS v);obtain⟨rfl,J,rfl,rfl⟩:=z.isLast o t (by omega)
   simp only[E] at j;obtain⟨g',d,w,hk⟩:=F (by simpa using j)
   refine I.A7 A hs R Q o (by omega) (x':=⟨2,w,(D i).own,1⟩) (md':=.last) d (aside_setCell v (stA K.Wg) _) (j.setSt 0) (by intro e k;simp at k;subst k;exact bk_cell _ _ rfl) (by rw[u];exact df1 _) rfl S (.d4 hk) (by rw[u];rfl)
    ⟨i,o,t,by rw[cX];simp,λa C Q0 e=>by rw[cQ D _ e];exact J a C Q0 e,by rw[cX];simp,rfl⟩ (ax (by simp only;omega)) (λh=>by cases h) (ax rfl)
  ·obtain⟨g',w',X,d,⟨rfl,rfl⟩,B⟩:=c v (nS v);exact Q1 d (.d3 B) rfl
 |d4 h=>
  rcases xy h with f|⟨P,rfl,c⟩
  ·obtain⟨_,Pj,F⟩:=f v (nS v);obtain⟨rfl,J,rfl,rfl⟩:=z.isLast o t (by omega)
   simp only[E] at j;obtain⟨g',d,q,O⟩:=F (by simpa using j)
   have auX:g'.status=dM:=by
    cases q with
    |zero=>exact absurd O.2 (by decide)
    |succ q=>exact O.elim (λx=>absurd x.2 (by decide)) (λx=>x.1)
   refine I.A7 A hs R Q o (by omega) (x':=⟨1,q,(D i).own,1⟩) (md':=.sema) d (aside_setCell v (smA K.Wg) _) (j.setSm 1) (es:=AU (smA K.Wg)) ?_ ?_ rfl S (.quit O) (by rw[u];simp[jD,AU]) ⟨λa C Q0=>?_,by simp,rfl⟩ (ax (by simp only;omega)) (λ_=>aA λh y' hh yR=>?_) (aA (aA ⟨rfl,rfl⟩))
   ·intro e k;simp[AU] at k;rcases k with rfl|rfl|rfl|rfl
    ·exact ax rfl
    ·exact bk_cell _ _ rfl
    ·exact bk_cell _ _ rfl
    ·exact aA (ax rfl)
   ·rw[u];intro H e k
    match H,k with
    |0,k=>simp[AU] at k;subst k;exact ax rfl
    |1,_=>exact aA (by simp[jD,AU])
    |2,_=>exact aA (by simp[jD,AU])
    |3,k=>simp[AU] at k;subst k;exact ax rfl
    |H+4,k=>simp[AU] at k
   ·by_cases e:a=i
    ·subst e;rw[cX]
    ·rw[cQ D _ e];exact J a C Q0 e
   ·have kE:i≠h:=λe=>hs (by rw[e];exact hh)
    rw[mz kE,pS] at yR;obtain⟨y,hy,rfl⟩:=xI.1 yR;have Vj:(mayWake K.P g&&g'.status !=.blocked&&g'.status !=.waiting)=Z:=by rw[Pj,auX];rfl
    unfold woken;rw[dn Vj];rcases A h y hh hy with h1|⟨h1,h2⟩
    ·rw[xz _ (ax h1)];exact h1
    ·unfold Goroutine.again;rw[h1,h2]
  ·obtain⟨g',w',X,d,⟨rfl,rfl⟩,B⟩:=c v (nS v);exact Q1 d (.d4 B) rfl
 |quit h=>
  cases m with
  |zero=>rw[h.1] at N;cases N
  |succ q=>
   rcases h with⟨hf,_⟩|⟨_,g',X,W,c,O⟩
   ·rw[hf] at N;cases N
   ·have hbk:∀e∈X,Bk K.Wg e:=λe k=>Go.ConcR.bk_of_mute (W e k);have EB:∀H e,X[H]? =U e->(gW e).touch? =V∨0<jD (D i).deaf (X.extract 0 H):=λH e k=>ax (touch_mute (W e (tI k)));exact I.A7 A hs R Q o (by omega) (x':=⟨1,q,(D i).own,jD dd X⟩) (md':=md) (c v) (.refl _ _) j hbk EB rfl S (.quit O) (by rw[u]) (z.same E.symm) (aA ⟨E.symm,by simp only;omega⟩) (λh=>ax h) (ax rfl)
variable{T':eo}{M:Array aU}
structure nL(K:fy)(role:Nat->Option fo)(sp:Nat->Prop)(ch:Nat->Option fE)(D:Nat->dm):Prop where
 a:∀i r,role i=U r->0<i->¬sp i->((D i).stage=8∨((D i).stage=9∧∃st,ch r.aM.c=U st∧st.shut=Z))->∀j r',role j=U r'->¬sp j->r'.aM.c≠r.out
 b:∀i r st,role i=U r->0<i->¬sp i->(D i).stage=9->ch r.aM.c=U st->st.shut=Z->∃k,ch r.out=U ⟨V,ai,k⟩
 outs:∀i j r r',role i=U r->role j=U r'->i≠j->0<i->r'.out≠r.out
 end_:∀i r,role i=U r->0<i->∀O g2 w,r.aM.home O g2 w->r.C∈O∧∃m,cH K.P ai (L O) (DO O) (yo K.P K.L K.Wg r O) m (j0 g2 (recvd r.aM.ok r.aM.z ai)) w
 pG:∀n,V2 n D<=2
theorem Da(h:∀j,(D' j).stage<=(D j).stage):V2 n D'<=V2 n D:=by
 unfold V2;induction n with
 |zero=>exact aW _
 |succ n a=>
  simp only[sumTo];have:fW n (D' n)<=fW n (D n):=by
   unfold fW
   grind
  omega
def mh(role:Nat->Option fo)(sp:Nat->Prop)(ch:Nat->Option fE)(D:Nat->dm):Prop:=∀j r,role j=U r->¬sp j->(D j).stage=9∧∀st,ch r.aM.c=U st->st.shut=ai
def Evt(K:fy)(role:Nat->Option fo)(ch:Nat->Option fE)(D:Nat->dm)(i:Nat)(g:aU)(v:av):Prop:=
 ∃r g2 st,role i=U r∧(D i).stage=9∧AtR K.P (i==0) r.aM (D i).own g g2 v∧ch r.aM.c=U st∧(st.buf≠V∨(st.buf=V∧st.shut=Z∧i=0))
theorem Inv.other(I:Inv K role sp md ch cl who D T gs v)(C:nL K role sp ch D)(x:kU sp gs)(hs:¬sp i)(B:gs[i]? =U g)(w:g.status=dM)(b:∀p,md=.opn p->p<=2):
  (∃md' R cl' D' T' M v',sP K role sp md ch cl who D T gs v sl i md' R cl' D' T' M v'∧nL K role sp R D'∧(∀j o,role j=U o->¬sp j->R o.aM.c=ch o.aM.c)∧(R=ch∨((D i).stage=8∧∃r k,role i=U r∧R=bz ch r.out (U ⟨V,Z,k⟩)∧(D' i).stage<=7)))∨Evt K role ch D i g v:=by
 have c:i<gs.size:=(oZ.1 B).1;have F:∀{md' cl' D' T' M v'},sP K role sp md ch cl who D T gs v sl i md' ch cl' D' T' M v'->nL K role sp ch D':=λS=>
  ⟨λj r q z l h=>C.a j r q z l (by
   rcases h with h|⟨h,s,d,f⟩
   ·rcases S.Zk j h with h|⟨h,o,s,m,d,f⟩
    ·grind
    grind
   ·exact aA ⟨S.ij j h,s,d,f⟩),λj r s q z l y=>C.b j r s q z l (S.ij j y),C.outs,C.end_,λn=>bq (Da S.ig) (C.pG n)⟩
 cases q:role i with
 |none=>
  obtain⟨md',cl',D',T',M,v',S⟩:=I.asS (sl:=sl) x hs B w q
  grind
 |some r=>
  have J:=I.gJ i g hs B;rw[q] at J;have E:(D i).stage=9∨(D i).stage=8∨(D i).stage<=7:=by rcases J with⟨h,_⟩|⟨h,_⟩|⟨h,_⟩|⟨h,_⟩<;>omega
  rcases E with y|H|Q1
  ·rcases I.aoQ (sl:=sl) x hs B w q y with⟨md',cl',D',T',M,v',S⟩|⟨Q2,s,A,d,hn⟩
   ·grind
   ·by_cases N:s.buf=V
    ·have f:s.shut=Z:=by
      grind
     by_cases z:i=0
     ·exact aA ⟨r,Q2,s,q,y,A,d,aA ⟨N,f,z⟩⟩
     ·have u:0<i:=by omega
      obtain⟨md',cl',D',T',M,v',S⟩:=I.aou (sl:=sl) x hs B q y u A d N f (C.b i r s q u hs y d f) (C.end_ i r q u _ _ _ A.2.2.2.2.1)
      grind
    ·exact aA ⟨r,Q2,s,q,y,A,d,ax N⟩
  ·have u:0<i:=by rcases J with⟨h,_⟩|⟨_,_,h,_⟩|⟨h,_⟩|⟨h,_⟩<;>omega
   have Q:=C.a i r q u hs (ax H);obtain⟨md',R,cl',D',T',M,v',S,P⟩:=I.QA (sl:=sl) x hs B q H Q (λj o m X=>C.outs i j r o q m (λe=>X e.symm) u);rcases P with rfl|⟨k,rfl,_,_,Q1⟩
   ·grind
   ·have t:∀j o,role j=U o->¬sp j->bz ch r.out (U ⟨V,Z,k⟩) o.aM.c=ch o.aM.c:=λj o m l=>cQ ch _ (Q j o m l);refine ax ⟨md',_,cl',D',T',M,v',S,⟨λj o m z l h=>C.a j o m z l ?_,λj o s m z l y d f=>?_,C.outs,C.end_,λn=>bq (Da S.ig) (C.pG n)⟩,t,aA ⟨H,r,k,rfl,rfl,Q1⟩⟩
    ·rcases h with h|⟨h,s,d,f⟩
     ·rcases S.Zk j h with h|⟨h,r2,s,Q0,d,f⟩
      ·grind
      grind
     ·rw[t j o m l] at d;exact aA ⟨S.ij j h,s,d,f⟩
    ·rw[t j o m l] at d;obtain⟨W,a⟩:=C.b j o s m z l (S.ij j y) d f;have O:i≠j:=λe=>by grind
     exact⟨W,by rw[cQ ch _ (C.outs i j r o q m O u)];grind⟩
  ·have:=C.pG gs.size;obtain⟨md',cl',D',T',M,v',S⟩:=I.ayz (sl:=sl) x hs B w q Q1 (λp L=>by have:=b p L;omega) (by omega)
   exact ax ⟨md',ch,cl',D',T',M,v',S,F S,λ_ _ _ _=>rfl,ax rfl⟩
def Fy(role:Nat->Option fo)(sp:Nat->Prop)(ch:Nat->Option fE):Prop:=∀j r st,role j=U r->¬sp j->ch r.aM.c=U st->st.buf=V∧(st.shut=Z->0<j)
theorem Inv.awake(I:Inv K role sp md ch cl who D T gs v)(a:kU sp gs):∀g∈gs,awake g:=λg d=>by
 obtain⟨j,b⟩:=Array.mem_iff_getElem?.1 d;by_cases c:sp j
 ·exact Gt ((a j g c b).elim ax λh=>aA (ax h.1))
 ·exact(I.gJ j g c b).awake
structure oB(K:fy)(role:Nat->Option fo)(sp:Nat->Prop)(md:Md)(ch:Nat->Option fE)(cl:Nat->eU)(who:vi)(D:Nat->dm)(T:eo)(gs:Array aU)(v:av)
  (md':Md) (R:Nat->Option fE) (cl':Nat->eU) (D':Nat->dm) (T':eo) (M:Array aU) (v':av):Prop where
 inv:Inv K role sp md' R cl' who D' T' M v'
 fR:nL K role sp R D'
 size:M.size=gs.size
 left:Left cl sp v v'
 cls:∀b,b<v.heap.size->cl' b=cl b
 zL:∀h,sp h->D' h=D h
 Bw:∀h y,sp h->gs[h]? =U y->∃y',M[h]? =U y'∧rz y y'
 eT:∀j r,role j=U r->¬sp j->R r.aM.c=ch r.aM.c
 sema:md'=.sema->md=.sema∨∀h y',sp h->M[h]? =U y'->y'.status=dM
 Gm:(∃p,md=.opn p)->md'=md
 ij:∀j,(D' j).stage=9->(D j).stage=9
 ig:∀j,(D' j).stage<=(D j).stage
 opn:∀p,md'=.opn p->md=.opn p
 k9:∀j r st,role j=U r->¬sp j->ch r.aM.c=U st->(st.shut=ai∨j=0)->(D j).stage=9->(D' j).stage=9
 calm:mh role sp ch D->R=ch∧mh role sp R D'
 outs:∀j r,role j=U r->(D' j).stage=9->R r.out=ch r.out
theorem oB.refl(I:Inv K role sp md ch cl who D T gs v)(C:nL K role sp ch D):oB K role sp md ch cl who D T gs v md ch cl D T gs v:=
 ⟨I,C,rfl,Left.refl _ _ _,λ_ _=>rfl,λ_ _=>rfl,λh y _ a=>⟨y,a,rz.refl y⟩,λ_ _ _ _=>rfl,λh=>ax h,λ_=>rfl,λ_ h=>h,λ_=>aW _,λ_ h=>h,λ_ _ _ _ _ _ _ h=>h,λh=>⟨rfl,h⟩,λ_ _ _ _=>rfl⟩
theorem kU.later(h:kU sp gs)(l:M.size=gs.size)(k:∀j y,sp j->gs[j]? =U y->∃d,M[j]? =U d∧rz y d):kU sp M:=λj d e b=>by
 have a:j<gs.size:=by grind
 obtain⟨m,f,c⟩:=k j gs[j] e (iq a);rw[b] at f;cases f;exact c.ok (h j _ e (iq a))
theorem oB.trans{u}{m}{t}{F}{J}{o}{C}(h:oB K role sp md ch cl who D T gs v md' R cl' D' T' M v')
  (k:oB K role sp md' R cl' who D' T' M v' u m t F J o C):oB K role sp md ch cl who D T gs v u m t F J o C:=
 ⟨k.inv,k.fR,k.size.trans h.size,h.left.trans h.cls k.left,λb H=>(k.cls b (cF H h.left.size)).trans (h.cls b H),λx e=>(k.zL x e).trans (h.zL x e),λx y e N=>by
  obtain⟨S,Q,Q2⟩:=h.Bw x y e N;obtain⟨I,Q1,Q3⟩:=k.Bw x S e Q;exact⟨I,Q1,Q2.trans Q3⟩,λj r f l=>(k.eT j r f l).trans (h.eT j r f l),λe=>by
  rcases k.sema e with L|L
  ·rcases h.sema L with B|B
   ·grind
   ·refine aA λx I e Q0=>?_;obtain⟨W,X,O⟩:=k.Bw x _ e (iq (by rw[<-k.size];grind))
    rcases O with rfl|⟨_,rfl⟩
    ·grind
    grind
  grind,λA=>by rw[k.Gm (by rw[h.Gm A];grind),h.Gm A],λj P=>h.ij j (k.ij j P),λj=>bq (k.ig j) (h.ig j),λp A=>h.opn p (k.opn p A),λj r E f l w s z=>k.k9 j r E f l ((h.eT j r f l).trans w) s (h.k9 j r E f l w s z),λq=>let⟨a,b⟩:=h.calm q;let⟨c,d⟩:=k.calm b;⟨c.trans a,d⟩,λj r f z=>(k.outs j r f z).trans (h.outs j r f (k.ij j z))⟩
theorem sP.later(I:Inv K role sp md ch cl who D T gs v)(hs:¬sp i)(u:∀r,role i=U r->(D i).stage=8->0<i)(S:sP K role sp md ch cl who D T gs v sl i md' R cl' D' T' M v')(C:nL K role sp R D')(w:∀j l,role j=U l->¬sp j->R l.aM.c=ch l.aM.c)(t:R=ch∨((D i).stage=8∧∃r k,role i=U r∧R=bz ch r.out (U ⟨V,Z,k⟩)∧(D' i).stage<=7)):oB K role sp md ch cl who D T gs v md' R cl' D' T' M v':=
 ⟨S.inv,C,S.size,S.left,S.cls,S.zL,S.Bw,w,S.sema,λ⟨p,x⟩=>(by
  rcases S.md with h|⟨h,_⟩|⟨h,_⟩
  ·grind
  ·grind
  grind),S.ij,S.ig,λp x=>(by
  rcases S.md with h|⟨_,h⟩|⟨_,h⟩
  ·grind
  ·grind
  grind),λj r f b hs a d m=>S.k9 j r f b a d m,λq=>by
  have e:R=ch:=by
   rcases t with e|⟨s,r,k,b,_⟩
   ·grind
   ·have:=(q i r b hs).1;omega
  refine⟨e,λj r b hs=>?_⟩;obtain⟨m,d⟩:=q j r b hs;obtain⟨f,a,_⟩:=I.ny j r b m hs;exact⟨S.k9 j r f b a (ax (d f a)) m,λf a=>d f (by grind)⟩,λj r b m=>by
  rcases t with e|⟨s,l,k,o,e,y⟩
  ·grind
  ·rw[e,cQ ch _ (C.outs i j l r o b (λe=>by grind) (u l o s))]⟩
theorem oB.at(I:Inv K role sp md ch cl who D T gs v)(C:nL K role sp ch D)(d):oB K role sp md ch cl who D T gs v md ch cl D T gs (v.at d):=
 ⟨I.at d,C,rfl,Left.at _ _ _ _,λ_ _=>rfl,λ_ _=>rfl,λh y _ a=>⟨y,a,rz.refl y⟩,λ_ _ _ _=>rfl,λh=>ax h,λ_=>rfl,λ_ h=>h,λ_=>aW _,λ_ h=>h,λ_ _ _ _ _ _ _ h=>h,λh=>⟨rfl,h⟩,λ_ _ _ _=>rfl⟩
theorem Inv.later(I:Inv K role sp md ch cl who D T gs v)(hs:¬sp i)(d:gs[i]? =U g)(S:sP K role sp md ch cl who D T gs v sl i md' R cl' D' T' M v')(C:nL K role sp R D')(l:∀j a,role j=U a->¬sp j->R a.aM.c=ch a.aM.c)(e:R=ch∨((D i).stage=8∧∃r k,role i=U r∧R=bz ch r.out (U ⟨V,Z,k⟩)∧(D' i).stage<=7)):oB K role sp md ch cl who D T gs v md' R cl' D' T' M v':=
 sP.later I hs (λr f m=>by have b:=I.gJ i g hs d;rw[f] at b;rcases b with⟨h,_⟩|⟨_,_,h,_⟩|⟨h,_⟩|⟨h,_⟩<;>omega) S C l e
theorem Inv.picked{h:Nat}(w:sp h):∀(s:Nat×Nat) (md:Md) (ch:Nat->Option fE) (cl:Nat->eU) (D:Nat->dm) (T:eo) (gs:Array aU) (v:av) (sl:Option (Nat×Nat)),nJ gs.size D=s->Inv K role sp md ch cl who D T gs v->nL K role sp ch D->Fy role sp ch->kU sp gs->
  (∀p,md=.opn p->p<=2)->(∀j,sp j->j=h)->∀a,gs[h]? =U a->a.status=dM->
  ∃N md' R cl' D' T' M v' d b c,gZ K.P N (dw gs v sl) T=(fQ (dw M v' b),T')∧stepT K.P (dw M v' b)=runT K.P (dw M (v'.at d) c) h∧oB K role sp md ch cl who D T gs v md' R cl' D' T' M v'∧M[h]? =U a:=by
 intro s;refine(Prod.lex Fb Fb).wf.induction (C:=λs=>∀(md:Md) (ch:Nat->Option fE) (cl:Nat->eU) (D:Nat->dm) (T:eo) (gs:Array aU) (v:av) (sl:Option (Nat×Nat)),nJ gs.size D=s->Inv K role sp md ch cl who D T gs v->nL K role sp ch D->Fy role sp ch->kU sp gs->
  (∀p,md=.opn p->p<=2)->(∀j,sp j->j=h)->∀a,gs[h]? =U a->a.status=dM->
  ∃N md' R cl' D' T' M v' d b c,gZ K.P N (dw gs v sl) T=(fQ (dw M v' b),T')∧stepT K.P (dw M v' b)=runT K.P (dw M (v'.at d) c) h∧oB K role sp md ch cl who D T gs v md' R cl' D' T' M v'∧M[h]? =U a) s ?_
 intro s ih md ch cl D T gs v sl y I C Q0 o hp l a F k;obtain⟨i,g,d,dF,W,hg,q⟩:=crowd_pick (P:=K.P) (w:=v) (sl:=sl) (I.awake o) ⟨h,a,F,k⟩;by_cases f:sp i
 ·have e:=l i f;subst e;exact⟨0,md,ch,cl,D,T,gs,v,d,sl,dF,rfl,q,oB.refl I C,F⟩
 ·rcases(I.at d).other (sl:=dF) C o f W hg hp with⟨md',R,cl',D',T',M,v',S,QX,hc,A⟩|⟨r,g2,E,B,h9,kF,t,tW⟩
  ·obtain⟨Q1,m,rfl⟩:=S.run;have L:=(oB.at I C d).trans ((I.at d).later f W S QX hc A);obtain⟨X,O,J⟩:=S.Bw h a w F;have Q3:X=a:=by
    rcases J with rfl|⟨hb,_⟩
    ·rfl
    grind
   subst Q3;have x:Fy role sp R:=λj r E B hs q=>Q0 j r E B hs (by grind)
   obtain⟨N,Q,z,QW,D2,T2,H,v2,d2,b,c,h1,h2,h3,h4⟩:=ih (nJ M.size D') (by rw[<-y,S.size];exact S.lt) md' R cl' D' _ M v' dF rfl S.inv QX x (o.later S.size S.Bw) (λp KF=>by
    rcases S.md with Q2|⟨_,Q2⟩|⟨_,Q2⟩
    ·grind
    ·grind
    grind) l X O k
   refine⟨N+1,Q,z,QW,D2,T2,H,v2,d2,b,c,?_,h2,L.trans h3,h4⟩;simp only[gZ,q,m]
   grind
  ·obtain⟨e1,e2⟩:=Q0 i r E B f t
   grind
variable{h:Nat}{dF:Option (Nat×Nat)}
structure cM(K:fy)(role:Nat->Option fo)(h:Nat)(md:Md)(ch:Nat->Option fE)(cl:Nat->eU)(who:vi)(D:Nat->dm)(T:eo)(gs:Array aU)(v:av):Prop where
 inv:Inv K role (· =h) md ch cl who D T gs v
 fR:nL K role (· =h) ch D
 tH:Fy role (· =h) ch
 bound:∀p,md=.opn p->p<=2
structure jQ(role:Nat->Option fo)(h:Nat)(md:Md)(ch:Nat->Option fE)(cl:Nat->eU)(D:Nat->dm)(T:eo)(gs:Array aU)(v:av)
  (md':Md) (R:Nat->Option fE) (cl':Nat->eU) (D':Nat->dm) (T':eo) (M:Array aU) (v':av):Prop where
 size:M.size=gs.size
 left:Left cl (λ_=>False) v v'
 cls:∀b,b<v.heap.size->cl' b=cl b
 eT:∀j r,role j=U r->j≠h->R r.aM.c=ch r.aM.c
 oX:(∃p,md=.opn p)->md'=md
 ij:∀j,j≠h->(D' j).stage=9->(D j).stage=9
 ig:∀j,j≠h->(D' j).stage<=(D j).stage
 ext:∃u,T'=T++u
 calm:mh role (· =h) ch D->R=ch∧mh role (· =h) R D'
 outs:∀j r,role j=U r->(D' j).stage=9->R r.out=ch r.out
 k9:∀j r st,role j=U r->j≠h->ch r.aM.c=U st->(st.shut=ai∨j=0)->(D j).stage=9->(D' j).stage=9
 SX:(D' h).stage=(D h).stage
 opn:∀p,md'=.opn p->md=.opn p
theorem jQ.refl:jQ role h md ch cl D T gs v md ch cl D T gs v:=⟨rfl,Left.refl _ _ _,λ_ _=>rfl,λ_ _ _ _=>rfl,λ_=>rfl,λ_ _ x=>x,λ_ _=>aW _,⟨#[],by simp⟩,λq=>⟨rfl,q⟩,λ_ _ _ _=>rfl,λ_ _ _ _ _ _ _ h=>h,rfl,λ_ h=>h⟩
theorem jQ.trans{m}{k}{l}{F}{H}{o}{A}(a:jQ role h md ch cl D T gs v md' R cl' D' T' M v')
  (b:jQ role h md' R cl' D' T' M v' m k l F H o A):jQ role h md ch cl D T gs v m k l F H o A:=
 ⟨b.size.trans a.size,a.left.trans a.cls b.left,λx B=>(b.cls x (cF B a.left.size)).trans (a.cls x B),λj r d c=>(b.eT j r d c).trans (a.eT j r d c),λw=>(by rw[b.oX (by rw[a.oX w];exact w),a.oX w]),
  λj c x=>a.ij j c (b.ij j c x),λj c=>bq (b.ig j c) (a.ig j c),(by obtain⟨u,rfl⟩:=a.ext;obtain⟨I,rfl⟩:=b.ext;grind),λq=>let⟨x,y⟩:=a.calm q;let⟨z,t⟩:=b.calm y;⟨z.trans x,t⟩,λj r d f=>(b.outs j r d f).trans (a.outs j r d (by
  by_cases e:j=h
  ·subst e;rw[<-b.SX];exact f
  ·exact b.ij j e f)),λj r E d c s C f=>b.k9 j r E d c ((a.eT j r d c).trans s) C (a.k9 j r E d c s C f),b.SX.trans a.SX,λp w=>a.opn p (b.opn p w)⟩
theorem Jv{P:bU}:∀(N:Nat) (m:Machine) (T:eo) (m':Machine) (T':eo),gZ P N m T=(fQ m',T')->∃u,T'=T++u
 |0,m,T,m',T',h=>⟨#[],by simp only[gZ] at h;grind⟩
 |N+1,m,T,m',T',h=>by
  simp only[gZ] at h;cases b:stepT P m with
  |mk r a=>
   rw[b] at h;cases r with
   |ended o w=>cases h
   |next c=>
    obtain⟨u,rfl⟩:=Jv N c (T++a) m' T' h
    grind
theorem cM.amG(H:cM K role h md ch cl who D T gs v){a}(d:gs[h]? =U a)(b:a.status=dM):kU (· =h) gs:=by
 rintro j y rfl c
 grind
theorem cM.picked(H:cM K role h md ch cl who D T gs v){a}(s:gs[h]? =U a)(e:a.status=dM)(sl):
  ∃N md' R cl' D' T' M v' d c f,gZ K.P N (dw gs v sl) T=(fQ (dw M v' c),T')∧stepT K.P (dw M v' c)=runT K.P (dw M (v'.at d) f) h∧M[h]? =a∧
   cM K role h md' R cl' who D' T' M v'∧jQ role h md ch cl D T gs v md' R cl' D' T' M v'∧D' h=D h∧Left cl (· =h) v v':=by
 obtain⟨N,md',R,cl',D',T',M,v',d,c,f,t,A,L,z⟩:=Inv.picked (sp:=(· =h)) (h:=h) rfl _ md ch cl D T gs v sl rfl H.inv H.fR H.tH (H.amG s e) H.bound (λj m=>m) a s e;refine⟨N,md',R,cl',D',T',M,v',d,c,f,t,A,z,⟨L.inv,L.fR,λj r q l o k=>H.tH j r q l o (by rw[<-L.eT j r l o];exact k),λp B=>H.bound p (L.opn p B)⟩,⟨L.size,⟨L.left.size,λb y w=>L.left.block b y (w.imp id λx=>x.imp id λ⟨_,x,_⟩=>x.elim),L.left.os,L.left.tape,L.left.out⟩,L.cls,λj r l m=>L.eT j r l m,L.Gm,λj _ x=>L.ij j x,λj _=>L.ig j,Jv N _ _ _ _ t,L.calm,L.outs,λj r q l m k o u=>L.k9 j r q l m k o u,(by rw[L.zL h rfl]),L.opn⟩,L.zL h rfl,L.left⟩
theorem cM.step(H:cM K role h md ch cl who D T gs v){a a'}{es}{x'}(E:gs[h]? =U a)(A:bZ K.P (h==0) a v=bS a' v' es)
  (c:v.heap.size<=v') (f:∀b,b<v.heap.size->¬(cl b=.own h∨(K.live=Z∧b=K.Wg)∨(cl b=.eN∧who=.hold h))->v'.heap[b]? =v.heap[b]?)
  (z:∀b,b<v.heap.size->cl' b=cl b) (m:∀b∈x'.own,cl' b=.own h∧b<v')
  (y:∀e∈es,(∀x,(gW e).touch? =U x->ym cl' who h x)∧(gW e).low v') (w:∀e∈es,e.loc≠ia (.release (stA K.Wg)))
  (B:jD (D h).deaf es=x'.deaf) (d:role h=V->h≠0->∀e∈es,(gW e).touch? =V) (C:x'.stage=(D h).stage)
  (t:K.live=Z->∃q I,WgAt K.L.tWg K.Wg v' q I∧mI gs.size (bz D h x') md' q I) (F:h≠0->7<=x'.stage) (s:∀p,md'=.opn p->p<=2):
  runT K.P (dw gs v sl) h=(fQ (dw ((gs.map (woken K.P a a' v')).setIfInBounds h a') v' sl),iC h a.frame.fn a.frame.place es)∧
  cM K role h md' ch cl' who (bz D h x') (T++iC h a.frame.fn a.frame.place es) ((gs.map (woken K.P a a' v')).setIfInBounds h a') v'∧((gs.map (woken K.P a a' v')).setIfInBounds h a')[h]? =a':=by
 have M:h<gs.size:=by grind
 obtain⟨J,_⟩:=H.inv.go_step (x':=x') (md':=md') (cl':=cl') (g':=a') (es:=es) E c f z m y w B d (λl=>absurd rfl l) (λe=>⟨by grind,λl=>absurd rfl l⟩) (λ_ l=>absurd rfl l) t
  (λr _ o N=>by grind)
 refine⟨Uz (sl:=sl) E A,⟨J,⟨λj r u o k=>?_,λj r q u o k=>?_,H.fR.outs,H.fR.end_,λn=>?_⟩,H.tH,s⟩,jJ (by grind)⟩
 ·rw[cQ D _ k];exact H.fR.a j r u o k
 ·rw[cQ D _ k];exact H.fR.b j r q u o k
 ·have:V2 n (bz D h x')<=V2 n D:=Da λj=>by
   by_cases e:j=h
   ·subst e;rw[cX,C];grind
   ·rw[cQ D _ e];grind
  exact bq this (H.fR.pG n)
theorem cM.at(H:cM K role h md ch cl who D T gs v)(d):cM K role h md ch cl who D T gs (v.at d):=⟨H.inv.at d,H.fR,H.tH,H.bound⟩
theorem jQ.at(role)(h)(md)(ch)(cl)(D)(T)(gs)(v)(d):jQ role h md ch cl D T gs v md ch cl D T gs (v.at d):=
 ⟨rfl,Left.at _ _ _ _,λ_ _=>rfl,λ_ _ _ _=>rfl,λ_=>rfl,λ_ _ x=>x,λ_ _=>aW _,⟨#[],by simp⟩,λq=>⟨rfl,q⟩,λ_ _ _ _=>rfl,λ_ _ _ _ _ _ _ h=>h,rfl,λ_ h=>h⟩
theorem uv(D:Nat->dm)(i):bz D i (D i)=D:=funext λj=>by
 grind[upd_same,upd_ne]
theorem pO{P}{m m'}{t}{ops}(hs:stepT P m=(fQ m',ops)):gZ P 1 m t=(fQ m',t++ops):=by simp only[gZ,hs]
structure DH(O Rd:List Nat)(w w':av)(es:Array iW):Prop where
 os:w'.os=w.os
 tape:w'.tape=w.tape
 out:w'.output=w.output
 size:w'.heap.size=w.heap.size
 block:∀b,b∉O->w'.heap[b]? =w.heap[b]?
 ev:∀e∈es,∃a wr,e=⟨.cell a,wr,ai⟩∧(a.block∈O∨a.block∈Rd)
def Rest(h:Nat)(O:List Nat)(cl:Nat->eU)(v v':av):Prop:=∀b,b<v.heap.size->cl b=.own h->b∉O->v'.heap[b]? =v.heap[b]?
theorem asb{b}(j:cl b=.own h∨(cl b=.eN∧who=.hold h)){a}(f:a.block=b)(wr):∀x,(gW ⟨.cell a,wr,ai⟩).touch? =U x->ym cl who h x:=by
 intro x d c e;simp only[B0,ri,ec] at d
 grind[ox,Option.some.injEq]
theorem cM.quiet(H:cM K role h md ch cl who D T gs v){a a'}{es}(C:gs[h]? =U a)(s:bZ K.P (h==0) a v=bS a' v' es){O Rd}(c:DH O Rd v v' es)
  (m:∀b∈O,b∈(D h).own) (o:∀b∈Rd,b<v∧(cl b=.own h∨(cl b=.eN∧who=.hold h))) (p:role h=V->h=0) (t:h≠0->7<=(D h).stage) (B:(D h).deaf=0):
  runT K.P (dw gs v sl) h=(fQ (dw ((gs.map (woken K.P a a' v')).setIfInBounds h a') v' sl),iC h a.frame.fn a.frame.place es)∧
  cM K role h md ch cl who D (T++iC h a.frame.fn a.frame.place es) ((gs.map (woken K.P a a' v')).setIfInBounds h a') v'∧((gs.map (woken K.P a a' v')).setIfInBounds h a')[h]? =a'∧
  jQ role h md ch cl D T gs v md ch cl D (T++iC h a.frame.fn a.frame.place es) ((gs.map (woken K.P a a' v')).setIfInBounds h a') v'∧Rest h O cl v v':=by
 have d:∀b,b∈O∨b∈Rd->b<v∧(cl b=.own h∨(cl b=.eN∧who=.hold h)):=λb l=>l.elim (λx=>let⟨y,z⟩:=H.inv.own h b (m b x);⟨z,ax y⟩) (o b);have w:=λr=>c.block _ λx=>by have:=(H.inv.own h _ (m _ x)).1;rw[H.inv.jR r] at this;grind
 obtain⟨E,u,F⟩:=H.step (sl:=sl) (x':=D h) (md':=md) (cl':=cl) C s (vF c.size.symm) (λb _ f=>c.block b λx=>f (ax (H.inv.own h b (m b x)).1)) (λ_ _=>rfl) (λb l=>by rw[c.size];exact H.inv.own h b l)
  (λe j=>by obtain⟨x,wr,rfl,k⟩:=c.ev e j;obtain⟨y,z⟩:=d _ k;exact⟨asb z rfl wr,by rw[B0];show x.block<_;rw[c.size];exact y⟩)
  (λe j=>by obtain⟨x,wr,rfl,k⟩:=c.ev e j;simp) (by rw[B];exact deafBehind_still (λe j=>by obtain⟨x,wr,rfl,k⟩:=c.ev e j;grind) 0)
  (λA f=>absurd (p A) f) rfl (λr=>let⟨st,sm,hw,J⟩:=H.inv.wg r;⟨st,sm,by unfold WgAt at hw⊢;grind,by grind[uv]⟩) t H.bound
 rw[uv] at u;refine⟨E,u,F,⟨by simp,⟨vF c.size.symm,λb l k=>c.block b λx=>?_,c.os,c.tape,c.out⟩,λ_ _=>rfl,λ_ _ _ _=>rfl,λ_=>rfl,λ_ _ x=>x,λ_ _=>aW _,⟨_,rfl⟩,λq=>⟨rfl,q⟩,λ_ _ _ _=>rfl,λ_ _ _ _ _ _ _ h=>h,rfl,λ_ h=>h⟩,λb _ _ f=>c.block b f⟩
 have:=(H.inv.own h b (m b x)).1
 grind
theorem Left.rest{O}(L:Left cl (· =h) v v'):Rest h O cl v v':=λb c a _=>L.block b c (aA (aA ⟨h,rfl,a⟩))
theorem Rest.trans{O}{f}(a:Rest h O cl v v')(hs:v.heap.size<=v')(j:∀b,b<v.heap.size->cl' b=cl b)(b:Rest h O cl' v' f):Rest h O cl v f:=λx d c e=>
 (b x (cF d hs) (by grind) e).trans (a x d c e)
theorem cM.walk{O Rd:List Nat}{Stop:aU->av->Prop}(k:∀g w,Stop g w->g.status=dM)(r:role h=V->h=0):∀(n:Nat) {md:Md} {ch:Nat->Option fE} {cl:Nat->eU} {D:Nat->dm} {T:eo} {gs:Array aU} {v:av} {sl:Option (Nat×Nat)} {a:aU},
  cM K role h md ch cl who D T gs v->gs[h]? =U a->cH K.P (h==0) (L (O++Rd)) (DH O Rd) Stop n a v->(∀b∈O,b∈(D h).own)->(∀b∈Rd,b<v.heap.size∧(cl b=.own h∨(cl b=.eN∧who=.hold h)))->(h≠0->7<=(D h).stage)->(D h).deaf=0->
  ∃N md' R cl' D' T' M v' dF a',gZ K.P N (dw gs v sl) T=(fQ (dw M v' dF),T')∧M[h]? =U a'∧Stop a' v'∧cM K role h md' R cl' who D' T' M v'∧jQ role h md ch cl D T gs v md' R cl' D' T' M v'∧D' h=D h∧Rest h O cl v v'
 |0,md,ch,cl,D,T,gs,v,sl,a,H,z,J,W,q,Q0,h0=>⟨0,md,ch,cl,D,T,gs,v,sl,a,rfl,z,J v (L.refl _ _),H,jQ.refl,rfl,λ_ _ _ _=>rfl⟩
 |n+1,md,ch,cl,D,T,gs,v,sl,a,H,z,J,W,q,Q0,h0=>by
  rcases J with f|⟨p,e⟩
  ·exact⟨0,md,ch,cl,D,T,gs,v,sl,a,rfl,z,f v (L.refl _ _),H,jQ.refl,rfl,λ_ _ _ _=>rfl⟩
  obtain⟨N,gS,ou,s,D1,T1,sD,Q1,d,oS,gx,r1,m,C,H1,B,Q,o⟩:=H.picked z p sl;have hR:L (O++Rd) v (Q1.at d):=⟨λb l=>o.block b (by
    rcases acU.1 l with x|x
    ·exact(H.inv.own h b (W b x)).2
    grind) (by
    rcases acU.1 l with x|x
    ·exact aA (aA ⟨h,rfl,(H.inv.own h b (W b x)).1⟩)
    grind),o.size⟩
  have u:=e _ hR;cases j:bZ K.P (h==0) a (Q1.at d) with
  |go a2 w2 es=>
   rw[j,goes_go] at u;obtain⟨hd,Q3⟩:=u;have t:∀b∈O,b∈(D1 h).own:=λb l=>by grind
   have c:∀b∈Rd,b<Q1∧(s b=.own h∨(s b=.eN∧who=.hold h)):=λb l=>by obtain⟨x,y⟩:=q b l;rw[B.cls b x];exact⟨cF x o.size,y⟩
   obtain⟨r2,H2,E,G2,R2⟩:=(H1.at d).quiet (sl:=gx) C j hd t c r (by grind) (by grind)
   obtain⟨N3,Q2,X,S,D3,T3,A,v3,I,a3,r3,QX,P,H3,G3,F,R3⟩:=cM.walk k r n (sl:=gx) H2 E Q3 t (λb l=>by rw[hd.size];exact c b l) (by grind) (by grind)
   have QW:=((B.trans (jQ.at _ _ _ _ _ _ _ _ _ d)).trans G2);refine⟨N+(1+N3),Q2,X,S,D3,T3,A,v3,I,a3,?_,QX,P,H3,QW.trans G3,F.trans Q,?_⟩
   ·exact runNT_then r1 (runNT_then (pO (m.trans r2)) r3)
   ·exact((Left.rest o).trans o.size B.cls R2).trans QW.left.size QW.cls R3
  |_=>rw[j] at u;exact u.elim
variable{ρ eF:Nat->Nat}{I:H}{fs:Array dV}{nm:String->Bool}{X:fb->Prop}{w w':av}
structure fF(ρ:Nat->Nat)(I:H)(q:bU)(cl:Nat->eU)(w v:av):Prop where
 os:v.os=w.os
 fair:Fair ρ q
 low:∀b,b<w.heap.size->ρ b<v.heap.size
 blk:∀b o,w.heap[b]? =U o->I.F b=Z->ew I w.heap.size o=Z∧v.heap[ρ b]? =U (eV ρ o)
 jM:∀b,w.heap.size<=b->I.F b=Z
 AL:q.globals.size<w.heap.size
 cls:∀b,b<w.heap.size->I.F b=Z->cl (ρ b)=.eN
 arg:∀A,I.arg=U A->(I.F A.g=ai∧ρ A.g=A.g∧w.heap[A.g]? =U (aF A.c A.e A.f)∧v.heap[A.g]? =U (aF A.c' A.e' A.f'))∧cl A.g=.eN
theorem fF.left{q}{sp}(M:fF ρ I q cl w v)(L:Left cl sp v v')(e:∀b,b<v.heap.size->cl' b=cl b):fF ρ I q cl' w v':=
 ⟨L.os.trans M.os,M.fair,λb c=>cF (M.low b c) L.size,λb o c d=>by
  obtain⟨k,p⟩:=M.blk b o c d;have a:=(oZ.1 c).1;exact⟨k,(L.block _ (M.low b a) (ax (M.cls b a d))).trans p⟩,M.jM,M.AL,λb c d=>(e _ (M.low b c)).trans (M.cls b c d),λA l=>by
  obtain⟨⟨s,m,r,j⟩,f⟩:=M.arg A l;have a:=(oZ.1 j).1;exact⟨⟨s,m,r,(L.block _ a (ax f)).trans j⟩,(e _ a).trans f⟩⟩
theorem fF.aaZ{q}(M:fF ρ I q cl w v):dN ρ I (U w.drawn) w v:=
 ⟨M.os,λi b=>by grind,M.fair.inj,M.blk,M.jM,λA a=>(M.arg A a).1⟩
structure Bb(role:Nat->Option fo)(h:Nat)(md:Md)(ch:Nat->Option fE)(cl:Nat->eU)(D:Nat->dm)(T:eo)(gs:Array aU)(v:av)
  (md':Md) (R:Nat->Option fE) (cl':Nat->eU) (D':Nat->dm) (T':eo) (M:Array aU) (v':av):Prop where
 size:M.size=gs.size
 tR:v.heap.size<=v'.heap.size
 own:∀b,b<v.heap.size->cl b=.own h->v'.heap[b]? =v.heap[b]?
 os:v'.os=v.os
 tape:v'.tape=v.tape
 out:v'.output=v.output
 cls:∀b,b<v.heap.size->cl' b=cl b
 eT:∀j r,role j=U r->j≠h->R r.aM.c=ch r.aM.c
 md:(∃p,md=.opn p)->md'=md
 ij:∀j,j≠h->(D' j).stage=9->(D j).stage=9
 ig:∀j,j≠h->(D' j).stage<=(D j).stage
 ext:∃u,T'=T++u
 calm:mh role (· =h) ch D->R=ch∧mh role (· =h) R D'
 old:∀b,b<v.heap.size->cl b=.old->v'.heap[b]? =v.heap[b]?
theorem Bb.trans{k}{e}{f}{s}{B}{l}{o}(a:Bb role h md ch cl D T gs v md' R cl' D' T' M v')
  (b:Bb role h md' R cl' D' T' M v' k e f s B l o):Bb role h md ch cl D T gs v k e f s B l o:=
 ⟨b.size.trans a.size,bq a.tR b.tR,λx c m=>(b.own x (cF c a.tR) (by rw[a.cls x c];grind)).trans (a.own x c m),b.os.trans a.os,b.tape.trans a.tape,b.out.trans a.out,λx c=>(b.cls x (cF c a.tR)).trans (a.cls x c),
  λj r p d=>(b.eT j r p d).trans (a.eT j r p d),λA=>(by rw[b.md (by rw[a.md A];grind),a.md A]),λj d x=>a.ij j d (b.ij j d x),λj d=>bq (b.ig j d) (a.ig j d),(by obtain⟨u,rfl⟩:=a.ext;obtain⟨C,rfl⟩:=b.ext;grind),λq=>let⟨x,y⟩:=a.calm q;let⟨z,t⟩:=b.calm y;⟨z.trans x,t⟩,λx c m=>(b.old x (cF c a.tR) (by rw[a.cls x c];grind)).trans (a.old x c m)⟩
theorem jQ.Yq(a:jQ role h md ch cl D T gs v md' R cl' D' T' M v')(c:∀b,b<v.heap.size->cl b=.own h->v'.heap[b]? =v.heap[b]?):Bb role h md ch cl D T gs v md' R cl' D' T' M v':=
 ⟨a.size,a.left.size,c,a.left.os,a.left.tape,a.left.out,a.cls,a.eT,a.oX,a.ij,a.ig,a.ext,a.calm,λx d e=>a.left.block x d (aA (ax e))⟩
theorem agh {q : bU} {n } {e } (r : wP ρ I n e) (k : ∀ b, b < n → I.F b = Z → cl (ρ b) = .eN) {B } (f : ∀ b, b < n → ρ b < B) (o : ∀ A, I.arg = U A → cl A.g = .eN ∧ A.g < B) :
    (∀ x, (gW e).touch? = U x → ym cl (.hold h) h x) ∧ (gW e).low B ∧ (∀ a, e.loc ≠ ia (.release a)) ∧ e.loc ≠ ia .disable ∧ e.loc ≠ ia .enable := by
  rcases r with ⟨b, t, y, p, s⟩ | ⟨m, u, rfl⟩ | ⟨A, a, z, E, rfl⟩
  · obtain ⟨l, wr, C⟩ := e
    subst s
    rcases p with ⟨a, H, rfl⟩ | rfl
    · refine ⟨fun x d c j => ?_, ?_, by simp, by simp, by simp⟩
      · simp only [B0, ri, ec] at d
        simp only [ox] at j
        have : cl (dA ρ a).block = .eN := by show cl (ρ a.block) = .eN; grind
        grind
      · show ρ a.block < B; grind
    · refine ⟨fun x d c j => ?_, ?_, by simp, by simp, by simp⟩
      · cases wr <;>
          (simp only [gW, ri] at d
           simp only [ox] at j
           grind)
      · cases wr <;> exact f b t
  · cases m <;> simp only [Uh, nT] at u <;> exact ⟨fun x d => (by cases d), trivial, by simp, by simp, by simp⟩
  · refine ⟨fun x d c j => ?_, ?_, by simp, by simp, by simp⟩
    · simp only [B0, ri] at d
      simp only [ox] at j
      grind
    · show a.block < B; grind
inductive Ends(ρ:Nat->Nat)(I:H)(q:bU)(fs:Array dV)(nm:String->Bool)(X:fb->Prop)(b:aX)(bs B':List aX)(N:Nat):aU->aU->Prop
 |back {x x':ay} {b':aX} {A6:List aX} (hB:B'=b'::A6) (hx:RV ρ I N x x'):Ends ρ I q fs nm X b bs B' N (r (b.finish x) bs) (r (b'.finish x') A6)
 |cut {f:fb} {l7 pI:Array ay} {fr fr':aX} {cs cs':List aX} (hx:X f∨I.cut f l7.size=Z) (ha:bu ρ I N l7 pI) (h:oA ρ I q nm N fr fr') (t:gQ ρ I q nm N cs cs'):
   Ends ρ I q fs nm X b bs B' N (r (eO (J q fs) f l7 er) (fr::cs++b::bs)) (r (eO q f pI er) (fr'::cs'++B'))
theorem cM.ayx(hL:mJ I K.P fs nm)(hS:Same I K.P fs nm X)(H:cM K role h md ch cl (.hold h) D T gs v)(oa:role h=V->h=0)(gz:h≠0->7<=(D h).stage)(h0:(D h).deaf=0){b:aX}{bs B':List aX}(hB:zC I K.P (h==0) B')
  {fr fr':aX} {cs cs':List aX} (AB:ju ρ I K.P nm w.heap.size fr fr') (ir:gQ ρ I K.P nm w.heap.size cs cs') (ha:gs[h]? =U (r fr' (cs'++B'))) (M:fF ρ I K.P cl w v) {f:pJ->aU×av}
  (hf:∀l:pJ,(∃F,bZ (J K.P fs) Z (r fr (cs++b::bs)) (World.re w l 0)=bS (f l).1 (f l).2 F)∧¬ur (f l).1) (sl:Option (Nat×Nat)):
  ∃l eF md' R j cl' D' Q1 o c N d B O v' F,gZ K.P N (dw gs v sl) T=(fQ (dw o c B),Q1)∧o[h]? =U (r fr' (cs'++B'))∧stepT K.P (dw o c B)=runT K.P (dw o (c.at d) O) h∧
   cM K role h md' R j (.hold h) D' Q1 o c∧Bb role h md ch cl D T gs v md' R j D' Q1 o c∧D' h=D h∧(∀x,x<w.heap.size->ρ x=eF x)∧w.heap.size<=(f l).2.heap.size∧fF eF I K.P cl' (f l).2 v'∧
   (∀x,x<w.heap.size->I.F x=ai->(f l).2.heap[x]? =w.heap[x]?)∧(∀x,x<c.heap.size->cl' x=j x)∧c.heap.size<=v'.heap.size∧(∀x,x<c.heap.size->j x≠ .eN->v'.heap[x]? =c.heap[x]?)∧v'.os=c.os∧v'.tape=c.tape∧v'.output=c.output∧
   (∀e∈F,(∀x,(gW e).touch? =U x->ym cl' (.hold h) h x)∧(gW e).low v'.heap.size∧(∀a,e.loc≠ia (.release a))∧e.loc≠ia .disable∧e.loc≠ia .enable)∧
   ∃k,bZ K.P (h==0) (r fr' (cs'++B')) (c.at d)=RK.step k v' F∧After eF I K.P fs nm X b bs B' (f l).2.heap.size (f l).1 k:=by
 obtain⟨N,gS,ou,j,D1,Q1,o,c,d,B,O,r1,QW,pX,H1,G1,Ht,L1⟩:=H.picked ha rfl sl;have L:fF ρ I K.P j w (c.at d):=(M.left L1 G1.cls).left (Left.at j (λ_=>False) c d) (λ_ _=>rfl)
 let eF:=qb ρ w.heap.size c.heap.size
 let l:pJ:=λi=>c.tape (d+i)
 have q:∀x,x<w.heap.size->ρ x=eF x:=λx Q3=>LA _ _ _ _ Q3;have P:dN eF I V (World.re w l 0) (c.at d):=dN.qb (v':=c.at d) L.aaZ L.low rfl (λ_ _ _=>rfl) λ_ _=>rfl;have m:∀i,eF (w.heap.size+i)=c.heap.size+i:=λi=>ags _ _ _ i;have s:Fair eF K.P:=Fair.qb M.fair L.low M.AL;have S:uk eF I V K.P fs nm X (World.re w l 0) (c.at d):=⟨hL,hS,s,M.AL,M.jM,P,m⟩;have hs:=SA (m:=Z) (m':=(h==0)) (b:=b) (bs:=bs) (B':=B') hB S (AB.re q) (ir.re q);obtain⟨⟨es0,e0⟩,W⟩:=hf l;rw[e0] at hs;rcases hs with hd|⟨_,Q3⟩
 ·exact absurd hd.off W
 obtain⟨k,v',F,e1,Q0,C,Q,tW⟩:=Q3 (λ_ hD=>by grind)
 have fP:v'.heap.size=c.heap.size+((f l).2.heap.size-w.heap.size):=Q.size;have E:w.heap.size<=(f l).2.heap.size:=Q.nM;have u:∀x,x<(f l).2.heap.size->eF x<v'.heap.size:=λx Q3=>by
  rcases Ad x w.heap.size with p|Az
  ·rw[<-q x p];have:=L.low x p;have e:(c.at d).heap.size=c.heap.size:=rfl;omega
  ·have:=m (x-w.heap.size)
   grind
 let cl':Nat->eU:=λx=>if x<c.heap.size then j x else .eN
 have Q2:∀x,x<c.heap.size->cl' x=j x:=λx Q3=>dn Q3;have t:∀x,x<(f l).2.heap.size->I.F x=Z->cl' (eF x)=.eN:=λx Q3 hF=>by
  rcases Ad x w.heap.size with p|Az
  ·rw[<-q x p,Q2 _ (L.low x p)];exact L.cls x p hF
  ·have:=m (x-w.heap.size)
   grind
 have z:∀A,I.arg=U A->cl' A.g=.eN∧A.g<v'.heap.size:=λA Q0=>by
  obtain⟨⟨a1,a2,a3,a4⟩,a5⟩:=L.arg A Q0
  grind
 refine⟨l,eF,gS,ou,j,cl',D1,Q1,o,c,N,d,B,O,v',F,r1,pX,QW,H1,G1.Yq (λx Q3 hc=>L1.block x Q3 (aA (aA ⟨h,rfl,hc⟩))),Ht,q,E,⟨C.os,s,u,C.blk,C.jM,cF M.AL E,t,λA Q0=>⟨C.arg A Q0,(z A Q0).1⟩⟩,λx Q3 hF=>Q.Lr x Q3 hF,
  Q2,by omega,λx Q3 hn=>?_,Q.os,Q.tape,Q.out,λe he=>agh (q:=K.P) (tW e he) t u z,k,e1,Q0⟩
 exact Q.qX x Q3 λy hy hF e=>hn (by rw[<-e,<-q y hy];exact L.cls y hy hF)
def pK(P:bU)(Done:aU->av->Prop)(x y:aU×av):Prop:=¬Done y.1 y.2∧∃τ es,bZ P Z y.1 (World.re y.2 τ 0)=bS x.1 x.2 es
theorem Term.acc{P}{Done}{g}{w}(t:Term P Done g w):_root_.Acc (pK P Done) (g,w):=by
 induction t with
 |done h=>exact _root_.Acc.intro _ λy a=>absurd h a.1
 |step f h t d=>
  refine _root_.Acc.intro _ λy a=>?_;obtain⟨_,b,j,e⟩:=a;obtain⟨⟨c,k⟩,_⟩:=h b
  grind
theorem cM.tree (hL : mJ I K.P fs nm) (hS : Same I K.P fs nm X) (oa : role h = V → h = 0) {b : aX} {bs B' : List aX} (hB : zC I K.P (h == 0) B') {Done : aU → av → Prop} (jX : ∀ fr cs w, ¬ Done (r fr (cs ++ b :: bs)) w) {gl : aU} {w : av} (t : Term (J K.P fs) Done gl w) :
    ∀ {ρ : Nat → Nat} {md : Md} {ch : Nat → Option fE} {cl : Nat → eU} {D : Nat → dm} {T : eo} {gs : Array aU} {v : av} (sl : Option (Nat × Nat)) {fr fr' : aX} {cs cs' : List aX}, gl = r fr (cs ++ b :: bs) → cM K role h md ch cl (.hold h) D T gs v → (h ≠ 0 → 7 ≤ (D h).stage) → (D h).deaf = 0 →
      ju ρ I K.P nm w.heap.size fr fr' → gQ ρ I K.P nm w.heap.size cs cs' → gs[h]? = U (r fr' (cs' ++ B')) → fF ρ I K.P cl w v →
      ∃ N eF w' md' R cl' D' T' M v' dF g1, (∀ x, x < w.heap.size → ρ x = eF x) ∧ w.heap.size ≤ w'.heap.size ∧ (∀ x, x < w.heap.size → I.F x = ai → w'.heap[x]? = w.heap[x]?) ∧ Term (J K.P fs) Done g1 w' ∧ sI (pK (J K.P fs) Done) (g1, w') (gl, w) ∧ cM K role h md' R cl' (.hold h) D' T' M v' ∧ Bb role h md ch cl D T gs v md' R cl' D' T' M v' ∧ D' h = D h ∧
        gZ K.P N (dw gs v sl) T = (fQ (dw M v' dF), T') ∧
        ((∃ CF, M[h]? = U CF ∧ fF eF I K.P cl' w' v' ∧ Ends eF I K.P fs nm X b bs B' w'.heap.size g1 CF) ∨
         (B' = [] ∧ ∃ x x' p QW es fn pos, g1 = r (b.finish x) bs ∧ RV eF I w'.heap.size x x' ∧ stepT K.P (dw M v' dF) = (.ended (.done x') p, iC h fn pos es) ∧ fF eF I K.P QW w' p ∧ p.os = v'.os ∧ p.output = v'.output ∧ v'.heap.size ≤ p.heap.size ∧ (∀ x, x < v'.heap.size → QW x = cl' x) ∧ (∀ x, x < v'.heap.size → cl' x ≠ .eN → p.heap[x]? = v'.heap[x]?) ∧
            (∀ e ∈ es, (∀ x, (gW e).touch? = U x → ym QW (.hold h) h x) ∧ (gW e).low p.heap.size ∧ (∀ a, e.loc ≠ ia (.release a)) ∧ e.loc ≠ ia .disable ∧ e.loc ≠ ia .enable))) := by
  induction t with
  | done hd =>
    grind
  | @step gl w f hf ht ih =>
    intro ρ md ch cl D T gs v sl fr fr' cs cs' e H gz h0 AB ir ha Q2
    subst e
    obtain ⟨τ, Mz, P, B, gP, kT, D1, T1, sD, v1, N, d, oS, gx, v2, es, r1, pX, Q, H1, W1, o, O, j, M2, l, Q0, Q3, c, aep, auD, L, A, k, hk, hA⟩ := H.ayx hL hS oa gz h0 hB AB ir ha Q2 hf sl
    have E : ∀ g', k = .go g' → ∃ m, stepT K.P (dw sD v1 oS) = (fQ (dw m v2 gx), iC h fr'.fn (r fr' (cs' ++ B')).frame.place es) ∧ m[h]? = U g' ∧
        cM K role h P B kT (.hold h) D1 (T1 ++ iC h fr'.fn (r fr' (cs' ++ B')).frame.place es) m v2 ∧ Bb role h P B gP D1 T1 sD v1 P B kT D1 (T1 ++ iC h fr'.fn (r fr' (cs' ++ B')).frame.place es) m v2 := by
      rintro g' rfl
      have hWg : K.live = Z → v2.heap[K.Wg]? = v1.heap[K.Wg]? := fun hl => by
        obtain ⟨st, sm, hw, mB⟩ := H1.inv.wg hl
        exact c _ (ot hw) (by rw [H1.inv.jR hl]; simp)
      obtain ⟨q1, q2, q3⟩ := (H1.at d).step (sl := gx) (a := r fr' (cs' ++ B')) (a' := g') (es := es) (x' := D1 h) (md' := P) (cl' := kT) (v' := v2) pX hk Q3 (fun x C hn => c x C fun hi => hn (aA (aA ⟨hi, rfl⟩))) Q0
        (fun x C => by obtain ⟨y, z⟩ := H1.inv.own h x C; exact ⟨(Q0 x z).trans y, cF z Q3⟩) (fun e he => ⟨(A e he).1, (A e he).2.1⟩) (fun e he => (A e he).2.2.1 _) (by rw [o, h0]; exact deafBehind_still (fun e he => ⟨(A e he).2.2.2.1, (A e he).2.2.2.2⟩) 0)
        (fun hr hn => absurd (oa hr) hn) rfl (fun hl => let ⟨st, sm, hw, mB⟩ := H1.inv.wg hl; ⟨st, sm, by unfold WgAt at hw ⊢; rw [hWg hl]; exact hw, by rw [uv]; exact mB⟩) (by rw [o]; exact gz) H1.bound
      rw [uv] at q2
      refine ⟨_, Q.trans q1, q3, q2, ⟨by simp, Q3, fun x C hc => c x C (by rw [hc]; simp), aep, auD, L, Q0, fun _ _ _ _ => rfl, fun _ => rfl, fun _ _ x => x, fun _ _ => aW _, ⟨_, rfl⟩, fun q => ⟨rfl, q⟩, fun x C hc => c x C (by rw [hc]; simp)⟩⟩
    have s : pK (J K.P fs) Done ((f τ).1, (f τ).2) (r fr (cs ++ b :: bs), w) := ⟨jX _ _ _, τ, (hf τ).1⟩
    generalize W : (f τ).1 = g1 at hA s
    have F := ht τ
    rw [W] at F
    cases hA with
    | within h1 t1 =>
      obtain ⟨m, s1, Q1, H2, W2⟩ := E _ rfl
      obtain ⟨N3, ρ3, w3, JJ, zh, yb, D3, T3, PY, v3, Bx, g3, k1, k2, k3, k4, k0, k5, k6, k7, k8, k9⟩ := ih τ gx W H2 (by rw [o]; exact gz) (by rw [o]; exact h0) h1 t1 Q1 M2
      exact ⟨N + (1 + N3), ρ3, w3, JJ, zh, yb, D3, T3, PY, v3, Bx, g3, fun x C => (O x C).trans (k1 x (cF C j)), bq j k2, fun x C hF => (k3 x (cF C j) hF).trans (l x C hF), k4, .trans (by rw [← W]; rw [← W] at s; exact k0) (.single s), k5, (W1.trans W2).trans k6, k7.trans o, runNT_then r1 (runNT_then (pO s1) k8), k9⟩
    | back EX S =>
      obtain ⟨m, s1, Q1, H2, W2⟩ := E _ rfl
      exact ⟨N + 1, Mz, _, P, B, kT, D1, _, m, v2, gx, _, O, j, l, F, .single s, H2, W1.trans W2, o, runNT_then r1 (pO s1), ax ⟨_, Q1, M2, .back EX S⟩⟩
    | fin EX S =>
      exact ⟨N, Mz, _, P, B, gP, D1, T1, sD, v1, oS, _, O, j, l, F, .single s, H1, W1, o, r1, aA ⟨EX, _, _, v2, kT, es, _, _, rfl, S, Q.trans (runT_many_ended pX hk), M2, aep, L, Q3, Q0, c, A⟩⟩
    | cut S has h1 t1 =>
      obtain ⟨m, s1, Q1, H2, W2⟩ := E _ rfl
      exact ⟨N + 1, Mz, _, P, B, kT, D1, _, m, v2, gx, _, O, j, l, F, .single s, H2, W1.trans W2, o, runNT_then r1 (pO s1), ax ⟨_, Q1, M2, .cut S has h1 t1⟩⟩
theorem cM.spawn{p:Nat}(Pn:K.live=Z)(H:cM K role 0 (.opn (p+1)) ch cl (.hold 0) D T gs v){a a' child:aU}(ha:gs[0]? =U a)(hgo:bZ K.P Z a v=.spawn a' child v #[])(r:fo){n:Nat}{O kx:List Nat}
  (we:nK K.P K.L K.Wg (U r) gs.size ⟨9,n,O,0⟩ child v) (hn:0<n) (hO:∀b∈O,b∈(D 0).own) (Q0:∀b∈kx,b∈(D 0).own∧b∉O) (au2:role gs.size=V) {k:Nat} (u:ch r.aM.c=U ⟨V,ai,k⟩)
  (Q:∀j s,role j=U s->s.aM.c≠r.aM.c) (R:∀j s,role j=U s->s.out≠r.out) (EJ:∀O g2 w,r.aM.home O g2 w->r.C∈O∧∃m,cH K.P ai (L O) (DO O) (yo K.P K.L K.Wg r O) m (j0 g2 (recvd r.aM.ok r.aM.z ai)) w)
  (hq:∀j s,role j=U s->0<j->(D j).stage=9∧∀M,ch s.aM.c=U M->M.shut=ai) (h0:(D 0).deaf=0) (aeV:∀n',V2 n' (bz (bz D 0 {D 0 with own:=kx}) gs.size ⟨9,n,O,0⟩)<=2):
  runT K.P (dw gs v sl) 0=(fQ (dw ((gs.setIfInBounds 0 a').push child) v sl),vg gs.size a.frame.fn a.frame.place child.frame.fn)∧
  cM K (bz role gs.size (U r)) 0 (.opn p) ch (λb=>if b∈O then .own gs.size else cl b) (.hold 0) (bz (bz D 0 {D 0 with own:=kx}) gs.size ⟨9,n,O,0⟩) (T++vg gs.size a.frame.fn a.frame.place child.frame.fn) ((gs.setIfInBounds 0 a').push child) v∧
  ((gs.setIfInBounds 0 a').push child)[0]? =U a'∧((gs.setIfInBounds 0 a').push child).size=gs.size+1:=by
 have I:=H.inv;have hz:=I.zero;have aEV:gs.size≠0:=by omega
 have q:=ahv gs.size a.frame.fn a.frame.place child.frame.fn;have W:=runT_crowd_spawn (P:=K.P) (sl:=sl) (i:=0) ha (show bZ K.P (0==0) a v=_ from hgo);have Pe:((iC 0 a.frame.fn a.frame.place #[]).push {g:=0,fn:=a.frame.fn,pos:=a.frame.place,act:=.go gs.size}).push {g:=gs.size,fn:=child.frame.fn,pos:=a.frame.place,act:=.start}=vg gs.size a.frame.fn a.frame.place child.frame.fn:=rfl;rw[Pe] at W;have jl:∀b,b∉O->(λb=>if b∈O then eU.own gs.size else cl b) b=cl b:=λb E=>if_neg E
 have hnO:∀b j,j≠0->cl b=.own j->b∉O:=λb j o E Wv=>by have:=(I.own 0 b (hO b Wv)).1;grind
 have hnS:∀b,cl b=.sh->b∉O:=λb E Wv=>by have:=(I.own 0 b (hO b Wv)).1;grind
 have fP:((gs.setIfInBounds 0 a').push child).size=gs.size+1:=by simp
 have get:∀j,j≠0->j<gs.size->((gs.setIfInBounds 0 a').push child)[j]? =gs[j]? :=λj o C=>by
  grind
 have aFU:((gs.setIfInBounds 0 a').push child)[gs.size]? =U child:=by grind
 have axs:((gs.setIfInBounds 0 a').push child)[0]? =U a':=by
  grind
 have S:∀j,j≠0->j≠gs.size->bz (bz D 0 {D 0 with own:=kx}) gs.size ⟨9,n,O,0⟩ j=D j:=λj o Av=>by grind[upd_ne]
 have A:bz (bz D 0 {D 0 with own:=kx}) gs.size ⟨9,n,O,0⟩ gs.size=⟨9,n,O,0⟩:=cX _ _ _;have wm:bz (bz D 0 {D 0 with own:=kx}) gs.size ⟨9,n,O,0⟩ 0={D 0 with own:=kx}:=by grind[upd_ne,upd_same]
 have d:∀j,j≠gs.size->bz role gs.size (U r) j=role j:=λj o=>cQ role _ o;refine⟨W,⟨⟨λj y F hy=>?_,λj o=>?_,λj o=>?_,?_,λj b E=>?_,λc M hc=>?_,λj s f h9 F=>?_,λj s f h8 F=>?_,λj j' r1 r2 x t h9 h9' hc=>?_,?_,?_,λj s f o l=>?_,?_,λidx op z hn' ht=>?_,by grind,λ_ _ _=>Pn⟩,
  ⟨λj s f o F J j2 r2 As Ar=>?_,λj s M f o F h9 l B=>?_,λj j2 r1 r2 x t o hj0=>?_,λj s f o=>?_,aeV⟩,λj s M f F l=>?_,λp' Q1=>?_⟩,axs,fP⟩
 ·by_cases e:j=gs.size
  ·grind[upd_same]
  ·have C:j<gs.size:=by have:=(oZ.1 hy).1;omega
   rw[get j F C] at hy;rw[d j e,S j F e];exact I.gJ j y F hy
 ·rw[q.deaf];by_cases e:j=gs.size
  ·subst e;rw[A];exact I.above _ (aW _)
  ·by_cases N:j=0
   ·subst N;rw[wm];exact I.deaf 0 hz
   ·rw[S j N e];exact I.deaf j (by omega)
 ·rw[q.deaf];exact I.above j (by omega)
 ·refine Tr.born I.tr (by rw[I.deaf 0 hz];exact h0) (I.above _ (aW _)) _ _ _ λb _=>?_
  by_cases E:b∈O
  ·exact aA ⟨(I.own 0 b (hO b E)).1,dn E⟩
  ·exact ax (if_neg E)
 ·by_cases e:j=gs.size
  ·subst e;rw[A] at E;exact⟨dn E,(I.own 0 b (hO b E)).2⟩
  ·by_cases N:j=0
   ·subst N;rw[wm] at E;obtain⟨x,t⟩:=Q0 b E;obtain⟨X,h4⟩:=I.own 0 b x;exact⟨(if_neg t).trans X,h4⟩
   ·rw[S j N e] at E;obtain⟨X,h4⟩:=I.own j b E;exact⟨(if_neg (hnO b j N X)).trans X,h4⟩
 ·obtain⟨x,t,X⟩:=I.chan c M hc;exact⟨x,(if_neg (hnS c t)).trans t,X⟩
 ·by_cases e:j=gs.size
  ·subst e;rw[cX] at f;cases f;rw[A];exact⟨_,u,λh=>by simp only at h;omega⟩
  ·rw[d j e] at f;have Ex:j≠0:=F;rw[S j Ex e] at h9⊢;exact I.ny j s f h9 F
 ·by_cases e:j=gs.size
  ·subst e;rw[A] at h8;simp at h8
  ·rw[d j e] at f;rw[S j F e] at h8;exact I.out j s f h8 F
 ·have ij:∀j,j≠gs.size->(bz (bz D 0 {D 0 with own:=kx}) gs.size ⟨9,n,O,0⟩ j).stage=9->(D j).stage=9:=λj o J=>by
   by_cases N:j=0
   ·subst N;rw[wm] at J;exact J
   ·rw[S j N o] at J;exact J
  by_cases e1:j=gs.size<;>by_cases e2:j'=gs.size
  ·rw[e1,e2]
  ·subst e1;rw[cX] at x;cases x;rw[d j' e2] at t;exact absurd hc.symm (Q j' r2 t)
  ·subst e2;rw[cX] at t;cases t;rw[d j e1] at x;exact absurd hc (Q j r1 x)
  ·rw[d j e1] at x;rw[d j' e2] at t;exact I.uniq j j' r1 r2 x t (ij j e1 h9) (ij j' e2 h9') hc
 ·intro hl;obtain⟨M,sm,hw,x,t,X⟩:=I.wg hl;have N:V2 gs.size (bz (bz D 0 {D 0 with own:=kx}) gs.size ⟨9,n,O,0⟩)=V2 gs.size D:=zm λj o C=>by rw[S j (by omega) (by omega)]
  have hv:V2 (gs.size+1) (bz (bz D 0 {D 0 with own:=kx}) gs.size ⟨9,n,O,0⟩)=V2 gs.size D+1:=by
   have sx:fW gs.size (⟨9,n,O,0⟩:dm)=1:=by unfold fW;rw[dn ⟨by omega,by simp⟩]
   show sumTo gs.size (λi=>fW i (bz (bz D 0 {D 0 with own:=kx}) gs.size ⟨9,n,O,0⟩ i))+fW gs.size (bz (bz D 0 {D 0 with own:=kx}) gs.size ⟨9,n,O,0⟩ gs.size)=_;rw[A,sx];unfold V2 at N;rw[N];rfl
  refine⟨M,sm,hw,?_⟩;rw[fP];refine⟨λj o C=>?_,?_,X⟩
  ·by_cases e:j=gs.size
   ·subst e;rw[A];exact ax (by simp)
   ·rw[S j (by omega) e];exact x j o (by omega)
  ·rw[hv,t];congr 1;omega
 ·intro hl;rw[if_neg (hnS _ (I.jR hl))];exact I.jR hl
 ·by_cases e:j=gs.size
  ·subst e;rw[A] at l;simp at l
  ·rw[d j e] at f;rw[S j (by omega) e] at l
   obtain⟨p',Q1⟩:=I.rel j s f o l;exact⟨p',RelBy.quiet Q1 q.1⟩
 ·exact I.norel.app λop z=>by simp only[vg,fJ,dh,dJ,dO] at z;rcases z with rfl|rfl<;>simp
 ·rcases Af z with⟨_,avd⟩|⟨_,avc⟩
  ·refine(I.qf idx op avd hn' ht).imp id λJ=>?_;by_cases e:op.g=gs.size
   ·rw[e,cX];rfl
   ·rw[d _ e];exact J
  ·exact absurd (q.1 op avc) ht
 ·by_cases e:j=gs.size
  ·subst e;rw[cX] at f;cases f;rw[A] at J;rcases J with J|⟨_,M,l,B⟩
   ·simp at J
   ·rw[u] at l;cases l;cases B
  ·rw[d j e] at f;rw[S j F e] at J;obtain⟨q1,q2⟩:=hq j s f o;rcases J with J|⟨_,M,l,B⟩
   ·omega
   ·have:=q2 M l;rw[this] at B;cases B
 ·by_cases e:j=gs.size
  ·subst e;rw[cX] at f;cases f;rw[u] at l;cases l;cases B
  ·rw[d j e] at f;obtain⟨_,q2⟩:=hq j s f o;have:=q2 M l;rw[this] at B;cases B
 ·by_cases e1:j=gs.size<;>by_cases e2:j2=gs.size
  ·exact absurd (e1.trans e2.symm) o
  ·subst e1;rw[cX] at x;cases x;rw[d j2 e2] at t;exact R j2 r2 t
  ·subst e2;rw[cX] at t;cases t;rw[d j e1] at x;exact λe=>R j r1 x e.symm
  ·rw[d j e1] at x;rw[d j2 e2] at t;exact H.fR.outs j j2 r1 r2 x t o hj0
 ·by_cases e:j=gs.size
  ·subst e;rw[cX] at f;cases f;exact EJ
  ·rw[d j e] at f;exact H.fR.end_ j s f o
 ·by_cases e:j=gs.size
  ·subst e;rw[cX] at f;cases f;rw[u] at l;cases l;exact⟨rfl,λh=>by cases h⟩
  ·rw[d j e] at f;exact H.tH j s M f F l
 ·cases Q1;have:=H.bound (p+1) rfl;omega
end
end Go.Proofs.YtpdbmpbmepkikaaGreatDoor
