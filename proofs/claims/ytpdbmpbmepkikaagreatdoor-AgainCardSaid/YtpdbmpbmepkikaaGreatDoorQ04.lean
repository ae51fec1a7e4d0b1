/- Laws. -/
import Derived.Conc.WgGenN3
import Derived.Conc.Token
import Derived.Test.YtpdbmpbmepkikaaGreatDoorQ03
set_option maxRecDepth 100000
set_option maxHeartbeats 400000
set_option linter.all false
open Go.Proofs.Tryz
open Bool renaming true->Y,false->ai
open Go renaming Goroutine->aX,Frame->aZ,World->ay,Value->az,Program->bW,stepG->cj,Trace->eB,Func->ep,FuncId->fq,runNT->ik,deafBehind->jZ,Event->jl
open Go.CallKind renaming normal->eC
open Go.Conc renaming semEvents->Ce,Goes->cK,crowd->dB,closeEvents->kM,served->kN
open Go.ConcN renaming upd->bE,WgLive->jK
open Go.ConcR renaming mk->jJ
open Go.Frame renaming enter->eW
open Go.GStep renaming go->bU
open Go.GoStatus renaming running->dU
open Go.Loc renaming mark->iq
open Go.MemAct renaming ofEvent->ij,touch?->sG
open Go.MemOp renaming ofEvents->iI
open Go.Obj renaming cells->aH
open Go.Stepped renaming next->fW
open Go.Trace renaming act?->EH
open Go.Value renaming int->V
open Go.World renaming setChan->ED
open Nat renaming lt_wfRel->GU
open Option renaming some->U,none->Z
open Or renaming inr->aA,inl->ax
open Relation renaming TransGen->tU
namespace Go.Proofs.YtpdbmpbmepkikaaGreatDoor
def Bv:=@Go.Conc.touch_of
def Bu:=@Go.Conc.getElem?_append_cases
def aGi:=@Go.Conc.touchAt_of
def FU:=@Go.Conc.deaf_old
def Bt:=@Go.Conc.act?_of
def Bs:=@Nat.lt_or_ge
def qg:=@Go.Conc.Goes.running
def yF:=@Go.Conc.again_running
def I9:=@Go.Conc.awake_of
def oR:=@Go.ConcN.RW.refl
def RQ:=@Go.Conc.offersAt_of_not_blocked
def je:=@Array.getElem?_eq_some_iff
def Mx:=@Go.Conc.mem_ofEvents
def nu:=@Array.getElem?_setIfInBounds_ne
def j5:=@Array.getElem?_setIfInBounds_self_of_lt
def dc:=@Go.ConcN.upd_same
def cT:=@Go.ConcN.upd_ne
def zY:=@Go.ConcN.sumTo_congr
def Yr:=@Go.Conc.runT_crowd_go
def xF:=@Nat.le_of_eq
def Dv:=@Go.Conc.ofEvent_cell0
def yE:=@Go.Conc.Goes.cases
def Yq:=@Array.getElem?_push
def agB:=@List.mem_append
section
open Go.Conc
open Go.ConcN (sumTo upd sumTo_upd upd_ne upd_same sumTo_congr le_sumTo WSit WgLive RW PayAt Has DWs EvW ShN AsideCell AtR0 RelBy bk_cell)
open Go.ConcR (KK WgAt stA smA wgBlock rd wr mk Bk)
open Go.Conc.Lib (WgLink)
inductive fa where|eV|own(i:Nat)|sh|old
inductive wZ where|hold(g:Nat)|pt(p:Nat)
def pC:Loc->Option Nat|.cell a=>U a.block|.obj r=>U r|_=>Z
def La(T:eB):wZ->Nat->Prop|.hold g,i=>Knows T g i|.pt p,i=>Before T i p
theorem La.app{T}{who}{i}(u)(h:La T who i):La (T++u) who i:=by cases who with|hold g=>exact Knows.app u h|pt p=>exact Before.app u h
def Acc(cl:Nat->fa)(who:wZ)(fR:Loc->Prop)(T:eB)(i:Nat)(a:Touch)(b:Nat):Prop:=match cl b with|.eV=>La T who i|.own k=>Knows T k i|.sh=>a.kind≠.plain/\(a.kind=.said->Knows T 0 i)|.old=>Knows T 0 i\/fR a.loc/\a.kind=.atomic
structure Tr(cl:Nat->fa)(who:wZ)(fR:Loc->Prop)(B:Nat)(T:eB):Prop where
 clean:∀said,¬Race said T
 known:∀i a b,touchAt T i=U a->pC a.loc=U b->Acc cl who fR T i a b
 seen:∀op∈T,op.act.low B
variable {cl cl':Nat->fa} {who zH:wZ} {fR alS:Loc->Prop} {B B':Nat} {T u:eB} {g:Nat}
theorem axk{l}(h:l.isMemory=Y):∃b,pC l=U b:=by cases l<;>first|exact⟨_,rfl⟩|cases h
theorem avY{f:MemOp}{a}{b}(h:f.act.low B)(c:f.act.touch?=U a)(d:pC a.loc=U b):b<B:=by obtain⟨g,k,j,i⟩:=f;cases i with
 |access e=>simp only[sG,ew]at c;subst c;obtain⟨l,w,s⟩:=e;cases l<;>simp only[pC]at d<;>first|cases d;exact h|grind
 |mark m=>cases m with|read x=>cases c;cases d;exact h|write x=>cases c;cases d;exact h|_=>cases c
 |_=>cases c
theorem Acc.app{i b}{a}(u)(h:Acc cl who fR T i a b):Acc cl who fR (T++u) i a b:=by
 unfold Acc at h⊢;split;·rename_i e;rw[e]at h;exact h.app u
 ·grind[Knows.app]
 ·rename_i e;rw[e]at h;exact⟨h.1,λx=>(h.2 x).app u⟩
 ·rename_i e;rw[e]at h;exact h.imp (·.app u) id
theorem Tr.mono(h:Tr cl who fR B T)(c:B<=B'):Tr cl who fR B' T:=⟨h.clean,h.known,λd b=>MemAct.low_mono c<|h.seen d b⟩
def zA(cl:Nat->fa)(who:wZ)(g:Nat)(x:Touch):Prop:=∀b,pC x.loc=U b->match cl b with|.eV=>who=.hold g|.own k=>k=g|.sh=>x.kind≠.plain/\(x.kind=.said->g=0)|.old=>False
theorem Tr.app(h:Tr cl who fR B T)(z:∀j∈u,j.g=g)(v:∀j∈u,∀x,j.act.touch?=U x->zA cl who g x)(y:∀j∈u,j.act.low B):Tr cl who fR B<|T++u:=by
 refine⟨λl=>noRace_append (h.clean l) z λi a r j s x o q=>?_,λi a b r m=>?_,seen_app h.seen y⟩;·obtain⟨b,m⟩:=axk q.2.1;have d:=v j s x o b<|q.1▸m;have f:=h.known i a b r m;unfold Acc at f;cases e:cl b with
  |eV=>rw[e]at d f;dsimp only at d f;rw[d]at f;exact f|own k=>grind|sh=>
   rw[e]at d f;rcases q.2.2.2 with w|w|⟨_,w,A⟩;·grind
   ·grind
   grind|old=>grind
 ·obtain⟨x,o,p⟩:=Bv r;rcases Bu o with⟨_,d⟩|⟨_,n⟩;·exact(h.known i a b (by grind[touchAt_of]) m).app u
  ·have t:=v x n a p b m;have f:Knows (T++u) g i:=by grind[knows_own]
   unfold Acc;cases e:cl b with|eV=>rw[e]at t;dsimp only at t⊢;rw[t];exact f|own k=>grind|sh=>grind|old=>grind
theorem Tr.mute(h:Tr cl who fR B T)(E:∀m∈u,m.act.touch?=Z)(t:∀m∈u,m.act.low B):Tr cl who fR B<|T++u:=by
 refine⟨λk=>?_,λi a b o p=>?_,seen_app h.seen t⟩
 .rintro⟨i,j,l,⟨a,b,o,p,A⟩,z,C⟩;obtain⟨x,r,f⟩:=Bv o;obtain⟨y,w,q⟩:=Bv p;rcases Bu w with⟨D,n⟩|⟨_,s⟩
  .have d:T[i]?=U x:=by grind
   exact h.clean k ⟨i,j,l,⟨a,b,by simp[EH,d,f],by simp[EH,n,q],A⟩,λe=>z<|hb_app u e,λe=>C<|hb_app u e⟩
  grind
 .obtain⟨x,r,f⟩:=Bv o;rcases Bu r with⟨_,d⟩|⟨_,v⟩;.exact(h.known i a b (by grind[touchAt_of]) p).app u
  grind
theorem Tr.Pf(h:Tr cl who fR B T)(j:∀i a b,touchAt T i=U a->pC a.loc=U b->b<B->Acc cl who fR T i a b->Acc cl' zH alS T i a b):Tr cl' zH alS B T:=⟨h.clean,λi a b e f=>by obtain⟨x,k,d⟩:=Bv e;exact j i a b e f (avY (h.seen x<|uG k) d f)<|h.known i a b e f,h.seen⟩
theorem Tr.fresh(h:Tr cl who fR B T)(e:∀b,b<B->cl' b=cl b):Tr cl' who fR B T:=h.Pf λi a b _ _ c d=>by unfold Acc at d⊢;grind
theorem Tr.pass(h:Tr cl who fR B T)(d:∀i,La T who i->La T zH i):Tr cl zH fR B T:=h.Pf λi a b _ _ _ c=>by
  unfold Acc at c⊢;split;·grind
  ·grind
  ·grind
  grind
def ym(h:Nat)(E:fq)(ph:String)(c k:Nat):eB:=#[{g:=h,fn:=E,pos:=ph,act:=.send c k},{g:=h,fn:=E,pos:=ph,act:=.sendDone c k}]
def tc(j:Nat)(J:fq)(E:String)(c k cap:Nat):eB:=#[{g:=j,fn:=J,pos:=E,act:=.recv c k cap},{g:=j,fn:=J,pos:=E,act:=.recvDone c k}]
def metAt(h j:Nat)(U:fq)(ph:String)(J:fq)(E:String)(c k cap:Nat):eB:=#[{g:=h,fn:=U,pos:=ph,act:=.send c k},{g:=j,fn:=J,pos:=E,act:=.recv c k cap},{g:=h,fn:=U,pos:=ph,act:=.sendDone c k},{g:=j,fn:=J,pos:=E,act:=.recvDone c k}]
def yc(u:eB):Prop:=(∀op∈u,op.act.touch?=Z)/\∀g,∀op∈u,∀d,deafStep g d op=d
theorem yc.of{u}(h:∀b∈u,b.act.touch?=Z/\b.act≠.mark .disable/\b.act≠.mark .enable):yc u:=by
 refine⟨λb c=>(h b c).1,λg b c d=>?_⟩;unfold deafStep;split;.grind
 .grind
 grind
theorem ad9(h)(d)(e)(c k):yc<|ym h d e c k:=.of λf b=>by simp only[ym,fP,dj,dP,dY]at b;rcases b with rfl|rfl<;>exact⟨rfl,by simp,by simp⟩
theorem acT(j)(d)(e)(c k cap):yc<|tc j d e c k cap:=.of λf b=>by simp only[tc,fP,dj,dP,dY]at b;rcases b with rfl|rfl<;>exact⟨rfl,by simp,by simp⟩
theorem af8(h j)(d)(f)(e)(i)(c k cap):yc<|metAt h j d f e i c k cap:=.of λl b=>by simp only[metAt,fP,dj,dP,dY]at b;rcases b with rfl|rfl|rfl|rfl<;>exact⟨rfl,by simp,by simp⟩
theorem yc.Ou{u}(h:yc u)(g):∀k,k<=u.size->(T++u).deaf g (T.size+k)=Deaf T g
 |0,_=>FU<|aS _|k+1,c=>by
  have b:(T++u)[T.size+k]?=U u[k]:=by grind
  rw[<-Nat.add_assoc,deaf_succ b,h.2 g _<|Yu _,h.Ou g k<|by omega]
theorem yc.deaf{u}(h:yc u)(g):Deaf (T++u) g=Deaf T g:=by have:=h.Ou (T:=T) g u.size<|aS _;unfold Deaf;rw[Array.size_append];exact this
theorem ze{T:eB}{i}{a}(h:T[i]?=U a):T.g? i=U a.g:=by simp[Trace.g?,h]
def SentAt(T:eB)(c k p:Nat):Prop:=T.act? p=U (.send c k)/\T.heard p
def EZ(T:eB)(c p:Nat):Prop:=T.act? p=U (.close c)/\T.heard p
theorem SentAt.app{c k p}(h:SentAt T c k p)(u):SentAt (T++u) c k p:=by have b:=lt_of_act? h.1;exact⟨by rw[act?_old b];exact h.1,(heard_old b).2 h.2⟩
theorem EZ.app{c p}(h:EZ T c p)(u):EZ (T++u) c p:=by have b:=lt_of_act? h.1;exact⟨by rw[act?_old b];exact h.1,(heard_old b).2 h.2⟩
theorem Tr.put{h}(H:Tr cl (.hold h) fR B T)(y:Deaf T h=0)(j)(l){c}(k)(w:c<B):Tr cl (.pt T.size) fR B (T++ym h j l c k)∧SentAt (T++ym h j l c k) c k T.size:=by
 have o:(T++ym h j l c k)[T.size]?=U {g:=h,fn:=j,pos:=l,act:=.send c k}:=by simp[ym]
 have q:=ad9 h j l c k;refine⟨?_,by rw[Bt o],⟨h,ze o,by rw[FU<|aS _];exact y⟩⟩;have v:=H.mute q.1 λD m=>by simp only[ym,fP,dj,dP,dY]at m;rcases m with rfl|rfl<;>exact w
 refine v.Pf λi a b z A r C=>?_;unfold Acc at C⊢;split
 ·rename_i e;obtain⟨x,t,p⟩:=Bv z;rcases Bu t with⟨_,s⟩|⟨_,n⟩;·have f:=H.known i a b (by grind[touchAt_of]) A;unfold Acc at f;rw[e]at f;exact aA<|f.hb_new (aS _) o rfl
  ·rw[q.1 x n]at p;grind
 ·grind
 ·grind
 grind
theorem Tr.take{j c k p}(H:Tr cl (.pt p) fR B T)(hs:SentAt T c k p)(o:Deaf T j=0)(e)(d)(cap)(m:c<B):Tr cl (.hold j) fR B<|T++tc j e d c k cap:=by
 have q:=acT j e d c k cap;have f:(T++tc j e d c k cap)[T.size+1]?=U {g:=j,fn:=e,pos:=d,act:=.recvDone c k}:=by simp[tc]
 have l:=H.mute q.1 λn b=>by simp only[tc,fP,dj,dP,dY]at b;rcases b with rfl|rfl<;>exact m
 exact l.pass λi h=>⟨T.size+1,_,f,rfl,aA<|Before.hb h<|.single<|aA ⟨.handOver (hs.app _).1<|Bt f,(hs.app _).2,⟨j,ze f,by rw[q.Ou j 1<|by grind];grind⟩⟩⟩
theorem Tr.give{h j:Nat}(H:Tr cl (.hold h) fR B T)(F:Deaf T h=0)(D:Deaf T j=0)(l:fq)(m:String)(o:fq)(n:String){c:Nat}(k cap:Nat)(E:c<B):Tr cl (.hold j) fR B<|T++metAt h j l m o n c k cap:=by
 have q:=af8 h j l m o n c k cap;have t:(T++metAt h j l m o n c k cap)[T.size]?=U {g:=h,fn:=l,pos:=m,act:=.send c k}:=by simp[metAt]
 have v:(T++metAt h j l m o n c k cap)[T.size+3]?=U {g:=j,fn:=o,pos:=n,act:=.recvDone c k}:=by simp[metAt]
 have r:HappensBefore (T++metAt h j l m o n c k cap) T.size<|T.size+3:=.single<|aA ⟨.handOver (Bt t)<|Bt v,⟨h,ze t,by rw[FU<|aS _];exact F⟩,⟨j,ze v,by rw[q.Ou j 3<|by grind];grind⟩⟩;have C:Tr cl (.hold h) fR B<|T++metAt h j l m o n c k cap:=H.mute q.1 λL p=>by simp only[metAt,fP,dj,dP,dY]at p;rcases p with rfl|rfl|rfl|rfl<;>exact E
 refine C.Pf λi a b I J y K=>?_;unfold Acc at K⊢;split
 ·rename_i e;obtain⟨x,A,w⟩:=Bv I;rcases Bu A with⟨_,z⟩|⟨_,s⟩;·have f:=H.known i a b (by grind[touchAt_of]) J;unfold Acc at f;rw[e]at f;exact⟨T.size+3,_,v,rfl,aA<|(Knows.hb_new f (aS _) t rfl).trans r⟩
  ·rw[q.1 x s]at w;grind
 ·grind
 ·grind
 grind
def nW(h:Nat)(E:fq)(ph:String)(c:Nat):eB:=#[{g:=h,fn:=E,pos:=ph,act:=.access ⟨.obj c,ai,Y⟩},{g:=h,fn:=E,pos:=ph,act:=.close c}]
theorem ash(h)(e)(f)(c):∀g,∀b∈nW h e f c,∀d,deafStep g d b=d:=by intro g b a d;simp only[nW,fP,dj,dP,dY]at a;rcases a with rfl|rfl<;>rfl
theorem Tr.asi{g}(H:Tr cl who fR B T)(h)(j){c}(i:c<B)(hs:cl c=.sh):Tr cl who fR B<|T++nW g h j c:=by
 refine H.app (g:=g) (λf d=>?_) (λf d x e b k=>?_) λf d=>?_;.simp only[nW,dP]at d;grind
 .simp only[nW,fP,dj,dP,dY]at d;rcases d with rfl|rfl;.simp only[sG]at e;simp only[pC]at k;grind
  .cases e
 .simp only[nW,fP,dj,dP,dY]at d;rcases d with rfl|rfl<;>exact i
theorem asf{h}(i:Deaf T h=0)(b)(d)(c):EZ (T++nW h b d c) c<|T.size+1:=by
 have e:(T++nW h b d c)[T.size+1]?=U {g:=h,fn:=b,pos:=d,act:=.close c}:=by simp[nW]
 refine⟨by rw[Bt e],⟨h,ze e,?_⟩⟩;have f:(T++nW h b d c)[T.size]?=U {g:=h,fn:=b,pos:=d,act:=.access ⟨.obj c,ai,Y⟩}:=by simp[nW]
 rw[deaf_succ f,FU<|aS _,ash h b d c h _<|by grind];exact i
theorem Tr.shut{h}(H:Tr cl (.hold h) fR B T)(p:Deaf T h=0)(b)(d){c}(o:c<B)(hs:cl c=.sh):Tr cl (.pt<|T.size+1) fR B (T++nW h b d c)/\EZ (T++nW h b d c) c (T.size+1):=by
 refine⟨(H.asi (g:=h) b d o hs).pass λi m=>?_,asf p b d c⟩;have k:(T++nW h b d c)[T.size+1]?=U {g:=h,fn:=b,pos:=d,act:=.close c}:=by simp[nW]
 obtain⟨q,z,f,j,r⟩:=m;have n:=by have:=lt_size_of_getElem? f;simp[nW]at this;omega
 refine r.trans ?_;rcases Bs q (T.size+1)with e|l;.exact aA<|hb_po e f k<|j.trans rfl
 .exact ax<|by omega
def ve(j:Nat)(J:fq)(E:String)(c:Nat):eB:=#[{g:=j,fn:=J,pos:=E,act:=.recvClosed c}]
theorem aaD(j)(e)(d)(c):yc<|ve j e d c:=.of λf b=>by simp only[ve,fP,dj,dP,dY]at b;subst b;exact⟨rfl,by simp,by simp⟩
theorem Tr.aA7(H:Tr cl who fR B T)(j)(d)(e){c}(f:c<B):Tr cl who fR B<|T++ve j d e c:=H.mute (aaD j d e c).1 λh b=>by simp only[ve,fP,dj,dP,dY]at b;subst b;exact f
theorem Tr.found{j c p}(H:Tr cl (.pt p) fR B T)(hs:EZ T c p)(k:Deaf T j=0)(d)(b)(h:c<B):Tr cl (.hold j) fR B<|T++ve j d b c:=by
 have e:(T++ve j d b c)[T.size]?=U {g:=j,fn:=d,pos:=b,act:=.recvClosed c}:=by simp[ve]
 exact(H.aA7 j d b h).pass λi f=>⟨T.size,_,e,rfl,aA<|Before.hb f<|.single<|aA ⟨.closed (hs.app _).1<|Bt e,(hs.app _).2,⟨j,ze e,by rw[FU<|aS _];exact k⟩⟩⟩
def wU(k:Nat)(E:fq)(ph:String)(J:fq):eB:=#[{g:=0,fn:=E,pos:=ph,act:=.go k},{g:=k,fn:=J,pos:=ph,act:=.start}]
theorem alc(k)(d)(c)(e):yc<|wU k d c e:=.of λf b=>by simp only[wU,fP,dj,dP,dY]at b;rcases b with rfl|rfl<;>exact⟨rfl,by simp,by simp⟩
theorem Tr.born{k:Nat}(H:Tr cl (.hold 0) fR B T)(z:Deaf T 0=0)(F:Deaf T k=0)(j:fq)(f)(h)(A:∀b,b<B->cl' b=cl b∨cl b=.own 0∧cl' b=.own k):Tr cl' (.hold 0) fR B<|T++wU k j f h:=by
 have q:=alc k j f h;have y:=H.mute q.1 λI l=>by simp only[wU,fP,dj,dP,dY]at l;rcases l with rfl|rfl<;>trivial
 have s:(T++wU k j f h)[T.size]?=U {g:=0,fn:=j,pos:=f,act:=.go k}:=by simp[wU]
 have n:(T++wU k j f h)[T.size+1]?=U {g:=k,fn:=h,pos:=f,act:=.start}:=by simp[wU]
 have m:HappensBefore (T++wU k j f h) T.size<|T.size+1:=.single<|aA ⟨.spawn (Bt s) (Bt n)<|ze n,⟨0,ze s,by rw[FU<|aS _];exact z⟩,⟨k,ze n,by rw[q.Ou k 1<|by grind];grind⟩⟩;refine y.Pf λi a b C D p o=>?_;rcases A b p with e|⟨e,E⟩;·unfold Acc at o⊢;grind
 ·unfold Acc;rw[E];obtain⟨x,w,t⟩:=Bv C;rcases Bu w with⟨_,v⟩|⟨_,r⟩;·have d:=H.known i a b (by grind[touchAt_of]) D;unfold Acc at d;rw[e]at d;exact⟨T.size+1,_,n,rfl,aA<|(Knows.hb_new d (aS _) s rfl).trans m⟩
  ·rw[q.1 x r]at t;grind
instance aFI:Go.ConcR.Payload:=⟨0⟩
def L(O:List Nat)(w w1:ay):Prop:=(∀b∈O,w1.heap[b]?=w.heap[b]?)/\w.heap.size<=w1.heap.size
theorem L.refl(O)(w):L O w w:=⟨λ_ _=>rfl,aS _⟩
theorem L.trans{O}(a b c)(h:L O a b)(k:L O b c):L O a c:=⟨λx e=>(k.1 x e).trans<|h.1 x e,bC h.2 k.2⟩
theorem L.at(O)(w)(d):L O w<|w.at d:=⟨λ_ _=>rfl,aS _⟩
structure DO(O:List Nat)(w w':ay)(es:Array jl):Prop where
 os:w'.os=w.os
 tape:w'.tape=w.tape
 drawn:w'.drawn=w.drawn
 out:w'.output=w.output
 size:w'.heap.size=w.heap.size
 block:∀b,b∉O->w'.heap[b]?=w.heap[b]?
 ev:∀e∈es,∃a wr,e=⟨.cell a,wr,ai⟩/\a.block∈O
structure Ht where
 c:Nat
 z:az
 ok:Bool
 home:List Nat->aX->ay->Prop
 LD:∀O g w w1,L O w w1->home O g w->home O g w1
def AtR(P:bW)(main:Bool)(s:Ht)(O:List Nat)(g g2:aX)(w:ay):Prop:=g.status=dU/\g.frame=g2.frame/\g.callers=g2.callers/\g.dying=g2.dying/\s.home O g2 w/\∀w1,cj P main g w1=.comm g2 #[rcase s.c s.z] Y (.recv s.ok) w1 #[]
def AtB(P:bW)(s:Ht)(m:Nat)(O:List Nat)(g:aX)(w:ay):Prop:=g.status=dU/\∃obj,∀w1,L O w w1->∃g',g'.status=dU/\cj P ai g w1=bU g' {w1 with heap:=w1.heap.push obj} #[]/\cK P ai (L<|w1.heap.size::O) (DO<|w1.heap.size::O) (λg w=>∃g2,AtR P ai s (w1.heap.size::O) g g2 w) m g' {w1 with heap:=w1.heap.push obj}
def rC(P:bW)(main:Bool)(s:Ht)(n:Nat)(O:List Nat)(g:aX)(w:ay):Prop:=(∃k,n=k+1/\cK P main (L O) (DO O) (λg w=>∃g2,AtR P main s O g g2 w) k g w)\/(∃k m,n=k+m+3/\main=ai/\cK P main (L O) (DO O) (AtB P s m O) k g w)\/n=0/\∃g0 g2,g=parked g2 #[rcase s.c s.z] (.recv s.ok)/\AtR P main s O g0 g2 w
section
variable {P:bW} {main:Bool} {s:Ht} {O:List Nat} {g g2:aX} {w w1:ay} {n:Nat}
theorem AtR.rely(a:L O w w1)(h:AtR P main s O g g2 w):AtR P main s O g g2 w1:=⟨h.1,h.2.1,h.2.2.1,h.2.2.2.1,s.LD _ _ _ _ a h.2.2.2.2.1,h.2.2.2.2.2⟩
theorem AtR.tries(h:AtR P main s O g g2 w)(cs)(f):AtR P main s O {parked g2 cs f with status:=dU} g2 w:=by obtain⟨_,e,d,c,b,a⟩:=h;exact⟨rfl,rfl,rfl,rfl,b,λw=>by rw[<-a w];exact stepG_same e.symm d.symm c.symm w⟩
theorem rC.rely(b:L O w w1)(h:rC P main s n O g w):rC P main s n O g w1:=by
 rcases h with⟨k,rfl,h⟩|⟨k,m,rfl,d,h⟩|⟨rfl,c,g2,rfl,h⟩;.exact ax ⟨k,rfl,h.rely L.trans b⟩
 .exact aA<|ax ⟨k,m,rfl,d,h.rely L.trans b⟩
 .exact aA<|aA ⟨rfl,c,g2,rfl,h.rely b⟩
theorem rC.status(h:rC P main s n O g w):g.status=dU/\0<n\/g.status=.blocked/\n=0:=by
 rcases h with⟨k,rfl,h⟩|⟨k,m,rfl,c,h⟩|⟨rfl,b,g2,rfl,h⟩;.exact ax ⟨qg (λ_ _ x=>x.choose_spec.1) w (L.refl _ _) h,by omega⟩
 .exact ax ⟨qg (λ_ _ x=>x.1) w (L.refl _ _) h,by omega⟩
 .exact aA ⟨rfl,rfl⟩
theorem rC.again(h:rC P main s n O g w){cap a b}{buf}{tm}(o:n=0->w1.heap[s.c]?=U (.chan cap buf ai a b tm)):g.again w1=g:=by
 rcases h.status with⟨l,_⟩|⟨_,j⟩;.grind[again_running]
 .rcases h with⟨k,rfl,h⟩|⟨k,m,rfl,p,h⟩|⟨_,f,g2,rfl,h⟩;.omega
  .omega
  .exact again_all_open λi e=>by grind
end
structure fC where
 aO:Ht
 out:Nat
 C:Nat
 val:az
abbrev afP:Nat->Loc->Prop:=λ_ _=>False
abbrev WS(P:bW)(L:WgLink)(Wg:Nat)(r:fC):Nat->Nat->Nat->aX->ay->Prop:=WSit P L.tWg Wg r.C 77 afP afP 0 1 r.val
abbrev W7(P:bW)(L:WgLink)(Wg:Nat)(r:fC):Nat->aX->ay->Prop:=cK P ai (RW L.tWg Wg r.C 77 0 0) Go.ConcR.DC0<|AtR0 P L.tWg Wg r.C 77 0 1 r.val
def zG(P:bW)(C:WgLink)(Wg:Nat)(r:fC)(O:List Nat)(g:aX)(w:ay):Prop:=g.status=dU/\mayWake P g=Y/\∃g',g'.status=dU/\∀w1 k,L O w w1->w1.heap[r.out]?=U (.chan 1 #[] ai k k ai)->jK C.tWg Wg w1->cj P ai g w1=bU g' (w1.setChan r.out 1 #[] Y k k ai) (kM r.out)/\∃m,W7 P C Wg r m g'<|w1.setChan r.out 1 #[] Y k k ai
structure dw where
 stage:Nat
 fuel:Nat
 own:List Nat
 deaf:Nat
def oF(P:bW)(C:WgLink)(Wg:Nat)(ro:Option fC)(i:Nat)(x:dw)(g:aX)(w:ay):Prop:=match ro with|none=>0<i/\x.stage=1/\QuitsD P x.fuel x.deaf g/\x.own=[]|some r=>x.stage=9/\x.deaf=0/\rC P (i==0) r.aO x.fuel x.own g w\/x.stage=8/\x.deaf=0/\0<i/\r.C∈x.own/\cK P ai (L x.own) (DO x.own) (zG P C Wg r x.own) x.fuel g w\/x.stage=7/\x.deaf=0/\0<i/\r.C∈x.own/\W7 P C Wg r x.fuel g w\/x.stage<=6/\0<i/\r.C∈x.own/\WS P C Wg r x.stage x.fuel x.deaf g w
theorem RW.afG{I:WgLink}{c C}{O}{w w1}(d:C∈O)(h:L O w w1)(i:jK I.tWg c w->jK I.tWg c w1):RW I.tWg c C 77 0 0 w w1:=⟨λb j=>by omega,i,λ⟨g,e,f⟩=>⟨g,(h.1 C d).trans e,f⟩,Go.ConcN.cell_of_block (h.1 C d) 0⟩
section
variable {P:bW} {B:WgLink} {Wg i:Nat} {ro:Option fC} {x:dw} {g:aX} {w w1:ay}
theorem oF.rely(k:L x.own w w1)(m:(∃r,ro=U r)->jK B.tWg Wg w->jK B.tWg Wg w1)(h:oF P B Wg ro i x g w):oF P B Wg ro i x g w1:=by cases ro with|none=>exact h|some r=>
  rcases h with⟨e,f,d⟩|⟨e,f,d,l,j⟩|⟨e,f,d,l,j⟩|⟨e,f,d,j⟩;.exact ax ⟨e,f,d.rely k⟩
  .exact aA<|ax ⟨e,f,d,l,j.rely L.trans k⟩
  .exact aA<|aA<|ax ⟨e,f,d,l,Goes.rely (R:=RW B.tWg Wg r.C 77 0 0) (λ_ _ _ a b=>RW.trans a b) j<|RW.afG l k<|m ⟨r,rfl⟩⟩
  .exact aA<|aA<|aA ⟨e,f,d,WSit.rely j<|RW.afG d k<|m ⟨r,rfl⟩⟩
theorem oF.awake(h:oF P B Wg ro i x g w):awake g:=by cases ro with|none=>exact I9<|h.2.2.1.status.elim ax λx=>aA<|aA x|some r=>
  rcases h with⟨e,d,c⟩|⟨e,d,c,f,b⟩|⟨e,d,c,f,b⟩|⟨e,d,c,b⟩;.exact I9<|c.status.elim (λx=>ax x.1) λx=>aA<|ax x.1
  .exact I9<|ax<|qg (λ_ _ x=>x.1) w (L.refl _ _) b
  .exact I9<|ax<|qg (λ_ _ x=>x.1) w (oR _) b
  .exact I9<|b.status.elim ax λx=>aA<|aA x
theorem oF.again{cap a b}{buf}{tm}(h:oF P B Wg ro i x g w)(m:∀r,ro=U r->x.stage=9->x.fuel=0->w1.heap[r.aO.c]?=U (.chan cap buf ai a b tm)):g.again w1=g:=by cases ro with|none=>exact yF _ h.2.2.1.status|some r=>
  rcases h with⟨f,k,j⟩|⟨f,k,j,n,e⟩|⟨f,k,j,n,e⟩|⟨f,k,j,e⟩;.exact j.again λl=>m r rfl f l
  .exact yF _<|ax<|qg (λ_ _ x=>x.1) w (L.refl _ _) e
  .exact yF _<|ax<|qg (λ_ _ x=>x.1) w (oR _) e
  .exact yF _ e.status
theorem oF.noSend(h:oF P B Wg ro i x g w)(c):offersAt g c Y=[]:=by cases ro with|none=>exact RQ (λd=>by rcases h.2.2.1.status with z|z<;>rw[z]at d<;>cases d) c Y|some r=>
  rcases h with⟨j,l,f⟩|⟨j,l,f,n,b⟩|⟨j,l,f,n,b⟩|⟨j,l,f,b⟩
  .rcases f with⟨k,e,h⟩|⟨k,m,e,q,h⟩|⟨e,o,p,rfl,h⟩;.have:=qg (λ_ _ x=>x.choose_spec.1) w (L.refl _ _) h;grind[offersAt_of_not_blocked]
   .have:=qg (λ_ _ x=>x.1) w (L.refl _ _) h;grind[offersAt_of_not_blocked]
   grind[offersAt_parked_recv']
  .have:=qg (λ_ _ x=>x.1) w (L.refl _ _) b;grind[offersAt_of_not_blocked]
  .have:=qg (λ_ _ x=>x.1) w (oR _) b;grind[offersAt_of_not_blocked]
  .exact RQ (λd=>by rcases b.status with z|z<;>rw[z]at d<;>cases d) c Y
end
structure fK where
 buf:Option az
 shut:Bool
 k:Nat
def fK.obj(st:fK):Obj:=.chan 1 (match st.buf with|none=>#[]|some x=>#[x]) st.shut (match st.buf with|none=>st.k|some _=>st.k+1) st.k ai
inductive Md where|opn(p:Nat)|reg|last|sema
def gq(i:Nat)(x:dw):Nat:=if 0<i/\5<=x.stage then 1 else 0
def V2(n:Nat)(D:Nat->dw):Nat:=sumTo n λi=>gq i<|D i
def OpenSt(n:Nat)(D:Nat->dw):Prop:=∀i,0<i->i<n->5<=(D i).stage\/(D i).stage=1
def nL(n:Nat)(D:Nat->dw):Md->Int->Int->Prop|.opn p,st,sm=>OpenSt n D/\st=((V2 n D+p:Nat):Int)*KK/\sm=0|.reg,st,sm=>OpenSt n D/\1<=V2 n D/\st=((V2 n D:Nat):Int)*KK+1/\sm=0|.last,st,sm=>∃l,0<l/\l<n/\((D l).stage=4\/(D l).stage=3\/(D l).stage=2)/\(∀i,0<i->i<n->i≠l->(D i).stage=1)/\st=(if(D l).stage=2 then 0 else 1)/\sm=0|.sema,st,sm=>(∀i,0<i->i<n->(D i).stage=1)/\st=0/\sm=1
structure fG where
 P:bW
 L:WgLink
 Wg:Nat
 n0:Nat
 fR:Loc->Prop
 live:Bool
structure Inv(K:fG)(role:Nat->Option fC)(sp:Nat->Prop)(md:Md)(ch:Nat->Option fK)(cl:Nat->fa)(who:wZ)(D:Nat->dw)(T:eB)(gs:Array aX)(v:ay):Prop where
 gP:∀i g,¬sp i->gs[i]?=U g->oF K.P K.L K.Wg (role i) i (D i) g v
 deaf:∀i,i<gs.size->Deaf T i=(D i).deaf
 above:∀j,gs.size<=j->Deaf T j=0
 tr:Tr cl who K.fR v.heap.size T
 own:∀i b,b∈(D i).own->cl b=.own i/\b<v.heap.size
 chan:∀c st,ch c=U st->v.heap[c]?=U st.obj/\cl c=.sh/\(K.live=Y->c≠K.Wg)oq:∀i r,role i=U r->(D i).stage=9->¬sp i->∃st,ch r.aO.c=U st/\((D i).fuel=0->st.buf=Z/\st.shut=ai)out:∀i r,role i=U r->(D i).stage=8->¬sp i->∃k,ch r.out=U ⟨Z,ai,k⟩uniq:∀i j r r',role i=U r->role j=U r'->(D i).stage=9->(D j).stage=9->r.aO.c=r'.aO.c->i=j
 wg:K.live=Y->∃st sm,WgAt K.L.tWg K.Wg v st sm/\nL gs.size D md st sm
 kE:K.live=Y->cl K.Wg=.sh
 rel:∀i r,role i=U r->0<i->(D i).stage<=6->∃p,RelBy (stA K.Wg) T i p
 norel:NoRelease (stA K.Wg) T
 rA:∀idx op,T[idx]?=U op->K.n0<=idx->op.act.touch?≠Z->op.g=0\/(role op.g).isSome
 zero:0<gs.size
 idle:∀i r,role i=U r->K.live=Y
theorem pz{v:ay}{c}{o}(h:v.heap[c]?=U o):c<v.heap.size:=(je.1 h).1
variable{K:fG}{role:Nat->Option fC}{sp:Nat->Prop}{md md':Md}{ch:Nat->Option fK}{cl cl':Nat->fa}{who:wZ}{D:Nat->dw}{T:eB}{gs:Array aX}{v v':ay}
theorem Inv.at(I:Inv K role sp md ch cl who D T gs v)(d):Inv K role sp md ch cl who D T gs<|v.at d:=⟨λi g a b=>(I.gP i g a b).rely (L.at _ _ _) λ_=>id,I.deaf,I.above,I.tr,I.own,I.chan,I.oq,I.out,I.uniq,I.wg,I.kE,I.rel,I.norel,I.rA,I.zero,I.idle⟩
theorem Inv.live(I:Inv K role sp md ch cl who D T gs v)(a:K.live=Y):jK K.L.tWg K.Wg v:=let⟨st,sm,h,_⟩:=I.wg a;⟨st,sm,h⟩
theorem afv{a:fK}(d:a.buf=Z)(c:a.shut=ai):a.obj=.chan 1 #[] ai a.k a.k ai:=by obtain⟨b,s,k⟩:=a;simp only at d c;subst d c;rfl
theorem apg{c i}{a}(I:Inv K role sp md ch cl who D T gs v)(b:ch c=U a):¬(cl c=.own i\/K.live=Y/\c=K.Wg\/cl c=.eV/\who=.hold i):=by obtain⟨_,e,d⟩:=I.chan c a b;grind
theorem Inv.go_step(I:Inv K role sp md ch cl who D T gs v){i:Nat}{g g':aX}{es:Array jl}{x':dw}(hi:gs[i]?=U g)(t:v.heap.size<=v'.heap.size)(B:∀b,b<v.heap.size->¬(cl b=.own i∨K.live=Y∧b=K.Wg∨cl b=.eV∧who=.hold i)->v'.heap[b]?=v.heap[b]?)(Q0:∀b,b<v.heap.size->cl' b=cl b)(Zs:∀b∈x'.own,cl' b=.own i∧b<v'.heap.size)(uX:∀e∈es,(∀x,(ij e).touch?=U x->zA cl' who i x)∧(ij e).low v'.heap.size)(ot:∀e∈es,e.loc≠iq (.release<|stA K.Wg))(Gs:jZ (D i).deaf es=x'.deaf)(aG4:role i=Z->i≠0->∀e∈es,(ij e).touch?=Z)(aGO:¬sp i->oF K.P K.L K.Wg (role i) i x' g' v')(h9:x'.stage=9->(D i).stage=9∧(¬sp i->0<x'.fuel))(h8:x'.stage=8->¬sp i->(D i).stage=8)(hwg:K.live=Y->∃st X,WgAt K.L.tWg K.Wg v' st X∧nL gs.size (bE D i x') md' st X)(hrel:∀r,role i=U r->0<i->x'.stage<=6->∃p,RelBy (stA K.Wg) (T++iI i g.frame.fn g.frame.place es) i p):Inv K role sp md' ch cl' who (bE D i x') (T++iI i g.frame.fn g.frame.place es) ((gs.map<|woken K.P g g' v').setIfInBounds i g') v'∧∀j y,j≠i->¬sp j->gs[j]?=U y->((gs.map<|woken K.P g g' v').setIfInBounds i g')[j]?=U y:=by
 have lq:i<gs.size:=by grind
 have f:∀M∈iI i g.frame.fn g.frame.place es,M.g=i:=λM s=>by obtain⟨e,_,rfl⟩:=Mx s;rfl
 have m:((gs.map<|woken K.P g g' v').setIfInBounds i g').size=gs.size:=by simp
 have H:∀c st,ch c=U st->v'.heap[c]?=U st.obj:=λc st F=>by rw[B c (pz (I.chan c st F).1)<|apg I F];exact(I.chan c st F).1
 have oZ:∀j,j≠i->L (D j).own v v':=λj a=>by
  refine⟨λb O=>?_,t⟩;obtain⟨Q,h2⟩:=I.own j b O;refine B b h2 ?_;rw[Q];rintro(h|⟨N,h⟩|⟨h,_⟩);·cases h;exact a rfl
  ·rw[h]at Q;rw[I.kE N]at Q;cases Q
  ·cases h
 have J:K.live=Y->jK K.L.tWg K.Wg v':=λN=>let⟨st,X,h,_⟩:=hwg N;⟨st,X,h⟩;have q:∀j y,j≠i->¬sp j->gs[j]?=U y->woken K.P g g' v' y=y:=λj y a n E=>by
  have ho:=I.gP j y n E;by_cases hx:∃r,role j=U r∧(D j).stage=9∧(D j).fuel=0;·obtain⟨r,l,d,S⟩:=hx;obtain⟨st,o,C⟩:=I.oq j r l d n;obtain⟨O,mD⟩:=C S;refine woken_of_again<|ho.again (cap:=1) (a:=st.k) (b:=st.k) (buf:=#[]) (tm:=ai) λr' u _ _=>?_;rw[l]at u;cases u;rw[H _ _ o,afv O mD]
  ·exact woken_of_again<|ho.again (cap:=1) (a:=0) (b:=0) (buf:=#[]) (tm:=ai) λr l d S=>absurd ⟨r,l,d,S⟩ hx
 have A:∀j,j≠i->((gs.map<|woken K.P g g' v').setIfInBounds i g')[j]?=gs[j]?.map (woken K.P g g' v'):=λj a=>by rw[nu λe=>a e.symm,qM]
 have aGK:((gs.map<|woken K.P g g' v').setIfInBounds i g')[i]?=U g':=j5 (by simpa using lq);refine⟨?_,λj y a n E=>by rw[A j a,E,eG,q j y a n E]⟩;refine⟨λj y n E=>?_,λj a=>?_,λj a=>?_,?_,λj b O=>?_,λc st F=>?_,λj r l d n=>?_,λj r l w n=>?_,λj k r r' l u a hk F=>?_,?_,?_,λj r l a o=>?_,?_,λidx M s hn ht=>?_,by grind,I.idle⟩
 ·by_cases e:j=i;·grind[Option.some.inj,upd_same]
  ·rw[A j e]at E;obtain⟨y0,Q1,rfl⟩:=yM.1 E;rw[q j y0 e n Q1,cT D _ e];exact(I.gP j y0 n Q1).rely (oZ j e) λ⟨r,l⟩_=>J<|I.idle j r l
 ·rw[m]at a;by_cases e:j=i;·subst e;rw[Deaf_own,dc,I.deaf j a];exact Gs
  ·rw[Deaf_other T (λz=>e z.symm) _ f,cT D _ e];exact I.deaf j a
 ·rw[m]at a;rw[Deaf_other T (g':=i) (by omega) _ f];exact I.above j a
 ·refine Tr.app (g:=i) ((I.tr.fresh (cl':=cl') Q0).mono t) f (λM s x hx=>?_) λM s=>?_;all_goals grind[Go.Conc.mem_ofEvents]
 ·by_cases e:j=i;·grind[upd_same]
  ·rw[cT D _ e]at O;obtain⟨Q,h2⟩:=I.own j b O;grind
 ·obtain⟨Q,h2,h3⟩:=I.chan c st F;grind
 ·by_cases e:j=i;·subst e;rw[dc]at d⊢;obtain⟨h9o,hf⟩:=h9 d;obtain⟨st,o,_⟩:=I.oq j r l h9o n;exact⟨st,o,λS=>by grind⟩
  ·rw[cT D _ e]at d⊢;exact I.oq j r l d n
 ·by_cases e:j=i;·subst e;rw[dc]at w;exact I.out j r l (h8 w n) n
  ·rw[cT D _ e]at w;exact I.out j r l w n
 ·have W:∀j,(bE D i x' j).stage=9->(D j).stage=9:=λj a=>by grind[upd_same,upd_ne]
  exact I.uniq j k r r' l u (W j a) (W k hk) F
 ·grind
 ·intro N;rw[Q0 _<|by obtain⟨st,X,h,_⟩:=I.wg N;exact pz h];exact I.kE N
 ·by_cases e:j=i;·grind[upd_same]
  ·rw[cT D _ e]at o;obtain⟨p,hp⟩:=I.rel j r l a o;exact⟨p,hp.appOther f λz=>e z.symm⟩
 ·exact I.norel.app<|Go.ConcN.norel_of ot
 ·rcases Bu s with⟨_,R⟩|⟨_,P⟩;·exact I.rA idx M R hn ht
  ·rw[f M P];by_cases S:i=0;·grind
   ·refine aA ?_;cases l:role i with|some r=>rfl|none=>grind[Go.Conc.mem_ofEvents]
variable{D':Nat->dw}{n:Nat}
theorem AM(h:∀i,0<i->i<n->(D' i).stage=(D i).stage):V2 n D'=V2 n D:=zY λi b=>by unfold gq;grind
theorem nL.congr{g f}(c:nL n D md g f)(h:∀i,0<i->i<n->(D' i).stage=(D i).stage):nL n D' md g f:=by have e:=AM h;cases md with|opn p=>exact⟨λi b d=>by rw[h i b d];exact c.1 i b d,by rw[e];exact c.2.1,c.2.2⟩|reg=>exact⟨λi b d=>by rw[h i b d];exact c.1 i b d,by rw[e];exact c.2.1,by rw[e];exact c.2.2.1,c.2.2.2⟩|last=>obtain⟨l,b,m,q,s,r,k⟩:=c;exact⟨l,b,m,by grind,λi o d j=>by grind,by grind,k⟩|sema=>exact⟨λi b d=>by rw[h i b d];exact c.1 i b d,c.2⟩
theorem nL.same{b c}{i}{x}(d:nL n D md b c)(h:x.stage=(D i).stage):nL n (bE D i x) md b c:=d.congr λj _ _=>by grind[upd_same,upd_ne]
theorem nL.counted{m k}{i}{x}(b:nL n D md m k)(o:i<n)(h:5<=(D i).stage)(w:5<=x.stage):nL n (bE D i x) md m k:=by
 by_cases r:0<i
 .have f:V2 n (bE D i x)=V2 n D:=zY λj g=>by
   by_cases e:j=i;.subst e;rw[dc];unfold gq;grind
   grind[upd_ne]
  have d:OpenSt n D->OpenSt n (bE D i x):=λd j c g=>by
   by_cases e:j=i;.grind[upd_same]
   .rw[cT D _ e];exact d j c g
  cases md with|opn p=>exact⟨d b.1,by rw[f];exact b.2.1,b.2.2⟩|reg=>exact⟨d b.1,by rw[f];exact b.2.1,by rw[f];exact b.2.2.1,b.2.2.2⟩|last=>obtain⟨l,q,u,t,z,y,s⟩:=b;grind|sema=>have:=b.1 i r o;omega
 .exact b.congr λj c _=>by grind[upd_ne]
def oE(n:Nat)(D:Nat->dw):Nat×Nat:=(sumTo n λi=>(D i).stage,sumTo n λi=>(D i).fuel)
theorem alQ{i}{x}(b:i<n)(f:x.stage=(D i).stage)(e:x.fuel<(D i).fuel):Lt2 (oE n<|bE D i x)<|oE n D:=by have d:=sumTo_upd D x dw.stage b;have c:=sumTo_upd D x dw.fuel b;unfold oE;grind
theorem abA{i}{x}(b:i<n)(d:x.stage<(D i).stage):Lt2 (oE n<|bE D i x)<|oE n D:=by have c:=sumTo_upd D x dw.stage b;exact Prod.Lex.left _ _<|by omega
structure Left(cl:Nat->fa)(sp:Nat->Prop)(v v':ay):Prop where
 size:v.heap.size<=v'.heap.size
 block:∀b,b<v.heap.size->(cl b=.eV\/cl b=.old\/∃h,sp h/\cl b=.own h)->v'.heap[b]?=v.heap[b]?
 os:v'.os=v.os
 tape:v'.tape=v.tape
 out:v'.output=v.output
theorem Left.refl(cl)(sp)(v):Left cl sp v v:=⟨aS _,λ_ _ _=>rfl,rfl,rfl,rfl⟩
theorem Left.at(cl)(sp)(v)(d):Left cl sp v<|v.at d:=⟨aS _,λ_ _ _=>rfl,rfl,rfl,rfl⟩
theorem Left.trans{u}(h:Left cl sp v v')(e:∀b,b<v.heap.size->cl' b=cl b)(k:Left cl' sp v' u):Left cl sp v u:=⟨bC h.size k.size,λb c d=>(k.block b (cE c h.size)<|by grind).trans<|h.block b c d,k.os.trans h.os,k.tape.trans h.tape,k.out.trans h.out⟩
def sN(y y':aX):Prop:=y'=y\/y.status=.blocked/\y'={y with status:=dU}
theorem sN.refl(y):sN y y:=ax rfl
theorem sN.trans{x y z}(h:sN x y)(k:sN y z):sN x z:=by
 rcases h with rfl|⟨a,rfl⟩;.grind
 .rcases k with rfl|⟨b,_⟩;.exact aA ⟨a,rfl⟩
  grind
def lO(sp:Nat->Prop)(gs:Array aX):Prop:=∀h y,sp h->gs[h]?=U y->y.status=dU\/y.status=.blocked/\y.offers=Z
theorem lO.again{y}(h:y.status=dU\/y.status=.blocked/\y.offers=Z)(P)(a a')(w):sN y<|woken P a a' w y:=by
 unfold woken;split
 .rcases h with h|⟨d,c⟩;.rw[yF _<|ax h];exact ax rfl
  .right;unfold Goroutine.again;grind
 .exact ax rfl
theorem sN.ok{y b}(h:y.status=dU\/y.status=.blocked/\y.offers=Z)(k:sN y b):b.status=dU\/b.status=.blocked/\b.offers=Z:=by
 rcases k with rfl|⟨_,rfl⟩;.grind
 grind
structure ua(K:fG)(role:Nat->Option fC)(sp:Nat->Prop)(md:Md)(ch:Nat->Option fK)(cl:Nat->fa)(who:wZ)(D:Nat->dw)(T:eB)(gs:Array aX)(v:ay)(sl:Option<|Nat×Nat)(i:Nat)(md':Md)(z:Nat->Option fK)(cl':Nat->fa)(D':Nat->dw)(T':eB)(R:Array aX)(v':ay):Prop where
 run:∃ops,runT K.P (dB gs v sl) i=(fW<|dB R v' sl,ops)/\T'=T++ops
 inv:Inv K role sp md' z cl' who D' T' R v'
 size:R.size=gs.size
 lt:Lt2 (oE gs.size D') (oE gs.size D)left:Left cl sp v v'
 cls:∀b,b<v.heap.size->cl' b=cl b
 A8:∀h,sp h->D' h=D h
 C5:∀h y,sp h->gs[h]?=U y->∃y',R[h]?=U y'/\sN y y'
 sema:md'=.sema->md=.sema\/∀h y',sp h->R[h]?=U y'->y'.status=dU
 md:md'=md\/md=.reg/\md'=.last\/md=.last/\md'=.sema
 iu:∀j,(D' j).stage<=(D j).stage
 k9:∀j r st,role j=U r->ch r.aO.c=U st->st.shut=ai\/j=0->(D j).stage=9->(D' j).stage=9
 iv:∀j,(D' j).stage=9->(D j).stage=9
 st8:∀j,(D' j).stage=8->(D j).stage=8\/(D j).stage=9/\∃r st,role j=U r/\ch r.aO.c=U st/\st.shut=Y
section
variable {i:Nat} {g:aX} {sl:Option (Nat×Nat)}
theorem Inv.step1(I:Inv K role sp md ch cl who D T gs v)(R:lO sp gs)(hs:¬sp i)(S:gs[i]?=U g){g':aX}{es:Array jl}{x':dw}(H:cj K.P (i==0) g v=bU g' v' es)(a:v.heap.size<=v'.heap.size)(d:∀b,b<v.heap.size->¬(cl b=.own i\/K.live=Y/\b=K.Wg)->v'.heap[b]?=v.heap[b]?)(C:v'.os=v.os)(l:v'.tape=v.tape)(s:v'.output=v.output)(t:∀b,b<v.heap.size->cl' b=cl b)(w:∀b∈x'.own,cl' b=.own i/\b<v'.heap.size)(E:∀e∈es,(∀x,(ij e).touch?=U x->zA cl' who i x)/\(ij e).low v'.heap.size)(O:∀e∈es,e.loc≠iq (.release<|stA K.Wg))(L:jZ (D i).deaf es=x'.deaf)(o:role i=Z->i≠0->∀e∈es,(ij e).touch?=Z)(u:oF K.P K.L K.Wg (role i) i x' g' v')(B:x'.stage=9->(D i).stage=9/\0<x'.fuel)(h8:x'.stage=8->(D i).stage=8)(M:K.live=Y->∃W X,WgAt K.L.tWg K.Wg v' W X/\nL gs.size (bE D i x') md' W X)(q:∀r,role i=U r->0<i->x'.stage<=6->∃p,RelBy (stA K.Wg) (T++iI i g.frame.fn g.frame.place es) i p)(lq:x'.stage<(D i).stage\/x'.stage=(D i).stage/\x'.fuel<(D i).fuel)(N:(D i).stage=9->x'.stage=9)(m:md'=.sema->md=.sema\/∀h P,sp h->((gs.map<|woken K.P g g' v').setIfInBounds i g')[h]?=U P->P.status=dU)(J:md'=md\/md=.reg/\md'=.last\/md=.last/\md'=.sema):∃md' cl' D' T' A v',ua K role sp md ch cl who D T gs v sl i md' ch cl' D' T' A v':=by
 have Q0:i<gs.size:=(je.1 S).1;obtain⟨hI,Q1⟩:=I.go_step (x':=x') (md':=md') (cl':=cl') S a (λb Q hn=>d b Q λh=>hn<|h.imp id ax) t w E O L o (λ_=>u) (λh=>⟨(B h).1,λ_=>(B h).2⟩) (λh _=>h8 h) M q;refine⟨md',cl',bE D i x',_,_,v',⟨_,Yr (sl:=sl) S H,rfl⟩,hI,by simp,?_,⟨a,λb Q c=>d b Q ?_,C,l,s⟩,t,λh z=>cT D _ λe=>hs<|e▸z,λh y z hy=>?_,m,J,λj=>?_,λj _ _ _ _ _ f=>?_,λj f=>?_,λj f=>ax ?_⟩;.grind[abA,alQ]
 .rintro(h|⟨F,h⟩)
  .rcases c with c|c|⟨k,hk,c⟩;.grind
   .grind
   grind
  .rcases c with c|c|⟨k,hk,c⟩;.rw[h,I.kE F]at c;grind
   .rw[h,I.kE F]at c;grind
   .rw[h,I.kE F]at c;grind
 .have lg:i≠h:=λe=>hs<|e▸z;refine⟨woken K.P g g' v' y,?_,lO.again (R h y z hy) _ _ _ _⟩;grind
 .by_cases e:j=i;.subst e;rw[dc];grind
  .rw[cT D _ e];exact aS _
 .by_cases e:j=i;.subst e;rw[dc];exact N f
  .rw[cT D _ e];exact f
 .by_cases e:j=i;.subst e;rw[dc]at f;exact(B f).1
  .rw[cT D _ e]at f;exact f
 grind[upd_same,upd_ne]
theorem Inv.awr(I:Inv K role sp md ch cl who D T gs v)(p:lO sp gs)(hs:¬sp i)(y:gs[i]?=U g)(b:g.status=dU)(w:role i=Z):∃md' cl' D' J f v',ua K role sp md ch cl who D T gs v sl i md' ch cl' D' J f v':=by have u:=I.gP i g hs y;rw[w]at u;obtain⟨s,z,d,B⟩:=u;cases A:(D i).fuel with|zero=>rw[A]at d;rw[d.1]at b;grind|succ k=>
  rw[A]at d;rcases d with⟨t,_⟩|⟨_,g',es,o,M,m⟩;.grind
  have O:(i==0)=ai:=by grind
  have a:=λe c=>touch_mute<|o e c;refine I.step1 p hs y (g':=g') (v':=v) (es:=es) (x':=⟨1,k,[],jZ (D i).deaf es⟩) (md':=md) (cl':=cl) (by grind) (aS _) (λ_ _ _=>rfl) rfl rfl rfl (λ_ _=>rfl) (by simp) (λe c=>⟨λx N=>by grind,low_mute (o e c) _⟩) (λe c q=>?_) rfl (λ_ _=>a) (by rw[w];exact⟨s,rfl,m,rfl⟩) (by simp) (by simp) ?_ λr L=>by grind (aA ⟨z.symm,by grind⟩) λh=>by omega (λh=>ax h)<|ax rfl;.have:=o e c;obtain⟨l,wr,P⟩:=e;subst q;simp[Event.mute]at this
  .intro q;obtain⟨E,H,C,j⟩:=I.wg q;exact⟨E,H,C,j.same z.symm⟩
theorem Inv.Xi(I:Inv K role sp md ch cl who D T gs v)(p:lO sp gs)(hs:¬sp i)(F:gs[i]?=U g){g'}{es}{f'}(s:cj K.P (i==0) g v=bU g' v' es)(c:DO (D i).own v v' es)(y:∃r,role i=U r)(z:(D i).deaf=0)(j:oF K.P K.L K.Wg (role i) i ⟨(D i).stage,f',(D i).own,0⟩ g' v')(J:8<=(D i).stage)(q:(D i).stage=9->0<f')(m:f'<(D i).fuel):∃md' cl' D' E l v',ua K role sp md ch cl who D T gs v sl i md' ch cl' D' E l v':=by
 refine I.step1 p hs F (g':=g') (v':=v') (es:=es) (x':=⟨(D i).stage,f',(D i).own,0⟩) (md':=md) (cl':=cl) s (xF c.size.symm) (λb f C=>c.block b λd=>C<|ax (I.own i b d).1) c.os c.tape c.out (λ_ _=>rfl) (λb f=>⟨(I.own i b f).1,by rw[c.size];exact(I.own i b f).2⟩) (λe k=>?_) (λe k=>?_) ?_ λh=>by grind j (λh=>⟨h,q h⟩) (λh=>h) ?_ λM _ _ H=>by grind (aA ⟨rfl,m⟩) (λh=>h) (λh=>ax h)<|ax rfl
 ·obtain⟨a,wr,rfl,d⟩:=c.ev e k;refine⟨λx t b f=>?_,?_⟩;·simp only[Dv,sG,ew]at t;subst t;simp only[pC,ew]at f;subst f;rw[(I.own i _ d).1]
  ·rw[c.size];exact(I.own i _ d).2
 ·obtain⟨a,wr,rfl,d⟩:=c.ev e k;simp
 ·rw[z];exact deafBehind_still λe k=>by obtain⟨a,wr,rfl,d⟩:=c.ev e k;grind 0
 ·intro u;obtain⟨A,B,w,o⟩:=I.wg u;refine⟨A,B,?_,o.same rfl⟩;unfold WgAt at w⊢;rw[c.block K.Wg λd=>by have:=(I.own i _ d).1;rw[I.kE u]at this;grind];grind
end
variable{z:Nat->Option fK}{zH:wZ}
theorem RelBy.quiet{a}{t u}{k r}(h:RelBy a t k r)(f:∀c∈u,c.act.touch?=Z):RelBy a (t++u) k r:=h.app λi j g d=>by obtain⟨x,e,_⟩:=d;grind[touch_of,getElem?_append_cases]
theorem Inv.mute(I:Inv K role sp md ch cl who D T gs v){u}(c:yc u)(s:∀b∈u,b.act.low v.heap.size)(f:∀b∈u,b.act≠.mark (.release<|stA K.Wg)):Inv K role sp md ch cl who D (T++u) gs v:=⟨I.gP,λi q=>(c.deaf i).trans<|I.deaf i q,λj m=>(c.deaf j).trans<|I.above j m,I.tr.mute c.1 s,I.own,I.chan,I.oq,I.out,I.uniq,I.wg,I.kE,λi r t w k=>let⟨p,x⟩:=I.rel i r t w k;⟨p,RelBy.quiet x c.1⟩,I.norel.app f,λg b h o l=>by
   rcases Bu h with⟨_,d⟩|⟨_,e⟩;.exact I.rA g b d o l
   .exact absurd (c.1 b e) l,I.zero,I.idle⟩
theorem Inv.pass(I:Inv K role sp md ch cl who D T gs v)(h:Tr cl zH K.fR v.heap.size T):Inv K role sp md ch cl zH D T gs v:=⟨I.gP,I.deaf,I.above,h,I.own,I.chan,I.oq,I.out,I.uniq,I.wg,I.kE,I.rel,I.norel,I.rA,I.zero,I.idle⟩
theorem Inv.put(I:Inv K role sp md ch cl who D T gs v){i:Nat}(x:i<gs.size){g':aX}{x':dw}(s:∀b∈x'.own,b∈(D i).own)(C:x'.deaf=(D i).deaf)(q:x'.stage=(D i).stage∨5<=x'.stage∧5<=(D i).stage)(O:x'.stage<=6->(D i).stage<=6)(H:¬sp i->oF K.P K.L K.Wg (role i) i x' g' v)(N:x'.stage=9->(D i).stage=9)(S:∀r g,role i=U r->x'.stage=9->¬sp i->ch r.aO.c=U g->x'.fuel=0->g.buf=Z∧g.shut=ai)(X:∀r,role i=U r->x'.stage=8->¬sp i->∃k,ch r.out=U ⟨Z,ai,k⟩)(J:¬sp i->x'.stage=9->∀r,role i=U r->∃g,ch r.aO.c=U g):Inv K role sp md ch cl who (bE D i x') T (gs.setIfInBounds i g') v:=by
 have w:(gs.setIfInBounds i g')[i]?=U g':=j5 x;refine⟨λj y o E=>?_,λj h=>?_,λj h=>I.above j<|by grind,I.tr,λj b u=>?_,I.chan,λj r f p o=>?_,λj r f t o=>?_,λj k r W f A h L Q=>?_,?_,I.kE,λj r f F d=>?_,I.norel,I.rA,by grind,I.idle⟩
 ·by_cases e:j=i;·grind[Option.some.inj,upd_same]
  ·rw[nu λz=>e z.symm]at E;rw[cT D _ e];exact I.gP j y o E
 ·by_cases e:j=i;·subst e;rw[dc,C];exact I.deaf j x
  ·rw[cT D _ e];exact I.deaf j<|by grind
 ·by_cases e:j=i;·subst e;rw[dc]at u;exact I.own j b<|s b u
  ·rw[cT D _ e]at u;exact I.own j b u
 ·by_cases e:j=i;·grind[upd_same]
  ·rw[cT D _ e]at p⊢;exact I.oq j r f p o
 ·by_cases e:j=i;·grind[upd_same]
  ·rw[cT D _ e]at t;exact I.out j r f t o
 ·have m:∀j,(bE D i x' j).stage=9->(D j).stage=9:=λj h=>by
   by_cases e:j=i;·subst e;rw[dc]at h;exact N h
   grind[upd_ne]
  exact I.uniq j k r W f A (m j h) (m k L) Q
 ·intro P;obtain⟨g,R,M,l⟩:=I.wg P;rw[uH];refine⟨g,R,M,?_⟩;rcases q with q|⟨q,B⟩;·exact l.same q
  ·exact l.counted x B q
 ·by_cases e:j=i;·subst e;rw[dc]at d;exact I.rel j r f F<|O d
  ·rw[cT D _ e]at d;exact I.rel j r f F d
theorem Inv.LP(I:Inv K role sp md ch cl who D T gs v){c:Nat}{g st':fK}(F:ch c=U g)(C:v'={v with heap:=v.heap.setIfInBounds c st'.obj})(s:∀j r,role j=U r->(D j).stage=9->¬sp j->r.aO.c=c->(D j).fuel=0->st'.buf=Z∧st'.shut=ai)(z:∀j r,role j=U r->(D j).stage=8->¬sp j->r.out=c->∃k,st'=⟨Z,ai,k⟩):Inv K role sp md (bE ch c<|U st') cl who D T gs v'∧Left cl sp v v':=by
 subst C;obtain⟨Q,f,S⟩:=I.chan c g F;have p:∀b,b≠c->(v.heap.setIfInBounds c st'.obj)[b]?=v.heap[b]?:=λb i=>nu λe=>i e.symm;have q:∀j,L (D j).own v {v with heap:=v.heap.setIfInBounds c st'.obj}:=λj=>⟨λb i=>p b λe=>by have:=(I.own j b i).1;grind,by simp⟩;have l:K.live=Y->∀g t,WgAt K.L.tWg K.Wg v g t->WgAt K.L.tWg K.Wg {v with heap:=v.heap.setIfInBounds c st'.obj} g t:=λu g t h=>by unfold WgAt at h⊢;grind
 refine⟨⟨λj y o E=>(I.gP j y o E).rely (q j) λ⟨r,m⟩⟨a,b,h⟩=>⟨a,b,l (I.idle j r m) a b h⟩,I.deaf,I.above,by simpa using I.tr,λj b i=>by simpa using I.own j b i,λd x w=>?_,λj r m A o=>?_,λj r m B o=>?_,I.uniq,λu=>let⟨a,b,h,J⟩:=I.wg u;⟨a,b,l u a b h,J⟩,I.kE,I.rel,I.norel,I.rA,I.zero,I.idle⟩,⟨by simp,λb i N=>p b λe=>?_,rfl,rfl,rfl⟩⟩
 ·by_cases e:d=c;·grind[upd_same,Option.some.inj]
  ·rw[cT ch _ e]at w;obtain⟨V,O,P⟩:=I.chan d x w;grind
 ·obtain⟨x,M,H⟩:=I.oq j r m A o;grind[upd_same,upd_ne]
 ·obtain⟨k,R⟩:=I.out j r m B o;grind[upd_same,upd_ne]
 grind
section
variable {i:Nat} {g:aX} {sl:Option (Nat×Nat)}
theorem Inv.Rq(I:Inv K role sp md ch cl who D T gs v)(b:lO sp gs)(c):partners (gs.setIfInBounds i ph) c Y=[]:=partners_nil λx y e=>by
  rcases getElem?_stand gs i x y e with⟨_,rfl⟩|⟨_,a⟩;.grind[offersAt_ph]
  .by_cases d:sp x
   .rcases b x y d a with h|⟨f,j⟩;.grind[offersAt_of_not_blocked]
    .unfold offersAt;grind
   .exact(I.gP x y d a).noSend c
theorem Dp(i)(fn)(a):iI i fn a #[]=#[]:=rfl
theorem Inv.asC(I:Inv K role sp md ch cl who D T gs v)(q:lO sp gs)(hs:¬sp i)(B:gs[i]?=U g)(E:g.status=dU){r:fC}(s:role i=U r)(p:(D i).stage=9):(∃md' cl' D' T' S v',ua K role sp md ch cl who D T gs v sl i md' ch cl' D' T' S v')∨∃A t,AtR K.P (i==0) r.aO (D i).own g A v∧ch r.aO.c=U t∧¬(t.buf=Z∧t.shut=ai):=by
 have ho:=I.gP i g hs B;have C:i<gs.size:=(je.1 B).1;rw[s]at ho;rcases ho with⟨_,O,M⟩|⟨h8,_⟩|⟨h7,_⟩|⟨h7,_⟩
 ·rcases M with⟨k,hn,W⟩|⟨k,m,hn,hm,W⟩|⟨_,g0,A,rfl,_⟩
  ·rcases yE W with d|⟨N,rfl,a⟩
   ·obtain⟨A,J⟩:=d v<|L.refl _ _;obtain⟨t,z,_⟩:=I.oq i r s p hs;by_cases f:t.buf=Z∧t.shut=ai
    ·refine ax ⟨md,cl,bE D i ⟨9,0,(D i).own,0⟩,T,gs.setIfInBounds i<|parked A #[rcase r.aO.c r.aO.z]<|.recv r.aO.ok,v,?_⟩;have c:=(I.chan _ _ z).1;rw[afv f.1 f.2]at c;have hI:=I.put (i:=i) C (g':=parked A #[rcase r.aO.c r.aO.z]<|.recv r.aO.ok) (x':=⟨9,0,(D i).own,0⟩) (λb u=>u) O.symm (ax p.symm) λh=>by grind (λ_=>by rw[s];exact ax ⟨rfl,rfl,aA<|aA ⟨rfl,g,A,rfl,J⟩⟩) (λ_=>p) λr' st' Q0 _ _ aGJ _=>by grind λ_ _ h=>by grind (λ_ _ r' Q0=>by grind);refine⟨⟨#[],?_,by simp⟩,hI,by simp,alQ C p.symm<|by grind,Left.refl _ _ _,λ_ _=>rfl,λh hh=>cT D _ λe=>hs<|by grind,λh y hh hy=>⟨y,by grind,sN.refl y⟩,λh=>ax h,ax rfl,λj=>by
      by_cases e:j=i;·grind[upd_same,Nat.le_of_eq]
      ·rw[cT D _ e];grind,λj _ _ _ _ _ w=>by
      by_cases e:j=i;·subst e;rw[dc]
      grind[upd_ne],λj w=>by
      by_cases e:j=i;·subst e;exact p
      ·rw[cT D _ e]at w;exact w,λj w=>ax<|by
      by_cases e:j=i;·subst e;rw[dc]at w;simp at w
      ·rw[cT D _ e]at w;exact w⟩;have:=crowd_waits (sl:=sl) B (J.2.2.2.2.2 v) (λcc Q1=>by simp only[fP,dj,dP,dY]at Q1;subst Q1;exact ways_recv_none c<|I.Rq q _);grind[Dp]
    grind
   ·obtain⟨g',w',es,o,x,l⟩:=a v<|L.refl _ _;exact ax<|I.Xi q hs B o x ⟨r,s⟩ O (f':=N+1) (by rw[s];exact ax ⟨p,rfl,ax ⟨N,rfl,l⟩⟩) (by omega) λ_=>by omega (by omega)
  ·rcases yE W with d|⟨N,rfl,a⟩
   ·obtain⟨_,X,F⟩:=d v<|L.refl _ _;obtain⟨g',Q,o,l⟩:=F v<|L.refl _ _;have H:(i==0)=ai:=hm;refine ax<|I.step1 q hs B (g':=g') (v':={v with heap:=v.heap.push X}) (es:=#[]) (x':=⟨9,m+1,v.heap.size::(D i).own,0⟩) (md':=md) (cl':=λb=>if b=v.heap.size then .own i else cl b) (by rw[H];exact o) (by simp) λb u _=>by simp only[Yq];rw[if_neg<|by omega] rfl rfl rfl λb u=>by rw[if_neg<|by omega] (λb u=>?_) (by simp) (by simp) (by rw[O];rfl) (by simp) ?_ (λ_=>⟨p,by simp⟩) (by simp) ?_ (λ_ _ _ h=>by simp at h) (aA ⟨p.symm,by simp only;omega⟩) (λ_=>rfl) (λh=>ax h)<|ax rfl
    ·simp only[dj]at u;rcases u with rfl|u;·exact⟨by rw[dy rfl],by simp⟩
     ·obtain⟨a1,a2⟩:=I.own i b u;exact⟨by rw[if_neg<|by omega];exact a1,by simp;omega⟩
    ·rw[s];refine ax ⟨rfl,rfl,ax ⟨m,rfl,?_⟩⟩;rw[H];exact l
    ·intro hl;obtain⟨t,sm,R,P⟩:=I.wg hl;refine⟨t,sm,?_,P.same p.symm⟩;have:=pz R;unfold WgAt at R⊢;simp only[Yq];rw[if_neg<|by omega];exact R
   ·obtain⟨g',w',es,o,x,l⟩:=a v<|L.refl _ _;exact ax<|I.Xi q hs B o x ⟨r,s⟩ O (f':=N+m+3) (by rw[s];exact ax ⟨p,rfl,aA<|ax ⟨N,m,rfl,hm,l⟩⟩) (by omega) λ_=>by omega (by omega)
  ·cases E
 ·omega
 ·omega
 grind
theorem Inv.ase(I:Inv K role sp md ch cl who D T gs v)(F:lO sp gs)(hs:¬sp i)(H:gs[i]?=U g){r:fC}(R:role i=U r)(h9:(D i).stage=9)(A:0<i){h:aX}{f:fK}(B:AtR K.P (i==0) r.aO (D i).own g h v)(J:ch r.aO.c=U f)(t:f.buf=Z)(p:f.shut=Y)(N:∃k,ch r.out=U ⟨Z,ai,k⟩)(o:r.C∈(D i).own/\∃m,cK K.P ai (L (D i).own) (DO (D i).own) (zG K.P K.L K.Wg r (D i).own) m (kN h<|recvd r.aO.ok r.aO.z ai) v):∃md' cl' D' T' u v',ua K role sp md ch cl who D T gs v sl i md' ch cl' D' T' u v':=by
 have l:i<gs.size:=(je.1 H).1;have Q:=I.gP i g hs H;have M:(D i).deaf=0:=by rw[R]at Q;rcases Q with⟨_,M,_⟩|⟨h8,_⟩|⟨h7,_⟩|⟨h7,_⟩<;>omega
 obtain⟨c,m,P⟩:=o;obtain⟨w,iz,Q0⟩:=I.chan _ _ J;have q:f.obj=.chan 1 #[] Y f.k f.k ai:=by obtain⟨b,s,k⟩:=f;simp only at t p;subst t p;rfl
 have E:=pz w;rw[q]at w;have a:=crowd_recv_closed (sl:=sl) H (B.2.2.2.2.2 v) w<|I.Rq F _;rw[finishComm_recv,Dp,Array.empty_append]at a;have h1:=I.mute (u:=ve i h.frame.fn h.frame.place r.aO.c) (aaD _ _ _ _) (λW d=>by simp only[ve,fP,dj,dP,dY]at d;subst d;exact E) (λW d=>by simp only[ve,fP,dj,dP,dY]at d;grind);have X:=h1.put (i:=i) l (g':=kN h<|recvd r.aO.ok r.aO.z ai) (x':=⟨8,m,(D i).own,0⟩) (λb t=>t) M.symm (aA ⟨by simp,by omega⟩) λh=>by grind (λ_=>by rw[R];exact aA<|ax ⟨rfl,rfl,A,c,P⟩) λh=>by grind λ_ _ _ h=>by grind λr' x _ _=>by grind (λ_ h=>by grind);exact⟨md,cl,_,_,_,v,⟨_,a,rfl⟩,X,by simp,abA l<|by grind,Left.refl _ _ _,λ_ _=>rfl,λh hh=>cT D _ λe=>hs<|by grind,λh y hh hy=>⟨y,by grind,sN.refl y⟩,λh=>ax h,ax rfl,λj=>by
  by_cases e:j=i;.grind[upd_same]
  .rw[cT D _ e];grind,λj r' C x O Ga S=>by grind[upd_ne],λj S=>by grind[upd_ne],λj S=>by grind[upd_ne]⟩
end
variable{sp':Nat->Prop}{i:Nat}{g:aX}{sl:Option<|Nat×Nat}
theorem UJ(D)(x)(f:i<n):V2 n (bE D i x)+gq i (D i)=V2 n D+gq i x:=by
 have c:V2 n (bE D i x)=sumTo n λj=>if j=i then gq i x else gq j<|D j:=zY λj _=>by
  by_cases e:j=i;.subst e;rw[dc,dy rfl]
  .rw[cT D _ e,if_neg e]
 have l:∀m,m<=i->sumTo m (λj=>if j=i then gq i x else gq j<|D j)=sumTo m λj=>gq j<|D j:=λm o=>zY λj h=>by grind
 have a:∀m,i<m->sumTo m (λj=>if j=i then gq i x else gq j<|D j)+gq i (D i)=sumTo m (λj=>gq j<|D j)+gq i x:=by intro m;induction m with|zero=>grind|succ m k=>
   rcases Bs i m with b|d;.simp only[sumTo];grind
   .simp only[sumTo];grind
 rw[c];exact a n f
theorem Inv.more(I:Inv K role sp md ch cl who D T gs v)(h:∀j,sp j->sp' j):Inv K role sp' md ch cl who D T gs v:=⟨λj y a e=>I.gP j y (λx=>a<|h j x) e,I.deaf,I.above,I.tr,I.own,I.chan,λj r b c a=>I.oq j r b c λx=>a<|h j x,λj r b d a=>I.out j r b d λx=>a<|h j x,I.uniq,I.wg,I.kE,I.rel,I.norel,I.rA,I.zero,I.idle⟩
theorem Inv.fewer(I:Inv K role sp' md ch cl who D T gs v)(h:∀j,sp' j->¬sp j->(∀y,gs[j]?=U y->oF K.P K.L K.Wg (role j) j (D j) y v)/\(∀r,role j=U r->(D j).stage=9->∃d,ch r.aO.c=U d/\((D j).fuel=0->d.buf=Z/\d.shut=ai))/\∀r,role j=U r->(D j).stage=8->∃k,ch r.out=U ⟨Z,ai,k⟩):Inv K role sp md ch cl who D T gs v:=⟨λj y e m=>by
  by_cases a:sp' j;.grind
  .exact I.gP j y a m,I.deaf,I.above,I.tr,I.own,I.chan,λj r b f e=>by
  by_cases a:sp' j;.grind
  .exact I.oq j r b f a,λj r b l e=>by
  by_cases a:sp' j;.grind
  .exact I.out j r b l a,I.uniq,I.wg,I.kE,I.rel,I.norel,I.rA,I.zero,I.idle⟩
theorem akV{c B}(f:c<B)(hs:cl c=.sh):∀e∈kM c,(∀x,(ij e).touch?=U x->zA cl who i x)/\(ij e).low B:=by
 intro e d;simp only[kM,fP,dj,dP,dY]at d;rcases d with rfl|rfl;.refine⟨λx a b h=>?_,f⟩;simp only[ij,sG]at a;simp only[pC]at h;grind
 .exact⟨λx a=>by simp[ij,sG]at a,f⟩
theorem akU{c}{a}:∀e∈kM c,e.loc≠iq (.release a):=by intro e b;simp only[kM,dP]at b;grind
theorem akW{c}(d):jZ d (kM c)=d:=deafBehind_still λe a=>by simp only[kM,dP]at a;grind d
theorem Inv.Ur(I:Inv K role sp md ch cl who D T gs v)(F:lO sp gs)(hs:¬sp i)(H:gs[i]?=U g){r:fC}(q:role i=U r)(E:(D i).stage=8)(Q:∀j d,role j=U d->¬sp j->d.aO.c≠r.out)(J:∀j d,role j=U d->j≠i->d.out≠r.out):∃md' z cl' D' X f v',ua K role sp md ch cl who D T gs v sl i md' z cl' D' X f v'/\(z=ch\/∃k,z=bE ch r.out (U ⟨Z,Y,k⟩)/\role i=U r/\(D i).stage=8/\(D' i).stage<=7):=by
 have ho:=I.gP i g hs H;have Q2:i<gs.size:=(je.1 H).1;rw[q]at ho;rcases ho with⟨h9,_⟩|⟨_,h0,B,hC,hg⟩|⟨h7,_⟩|⟨h7,_⟩;.omega
 .rcases yE hg with o|⟨k',ZL,l⟩
  .obtain⟨_,SW,g',N,S⟩:=o v<|L.refl _ _;obtain⟨k,hk⟩:=I.out i r q E hs;obtain⟨hc,Q0,xU⟩:=I.chan _ _ hk;obtain⟨C,m,hW⟩:=S v k (L.refl _ _) hc<|I.live<|I.idle i r q;have u:(i==0)=ai:=by grind
   obtain⟨Q1,A⟩:=(I.more (sp':=λj=>sp j\/j=i) λj h=>ax h).LP (c:=r.out) (st':=⟨Z,Y,k⟩) hk (v':=v.setChan r.out 1 #[] Y k k ai) rfl (λj d p _ t e _=>absurd e<|Q j d p λh=>t<|ax h) λj d p h8' t e=>absurd e<|J j d p λh=>t<|aA h;obtain⟨I2,P⟩:=Q1.go_step (v':=v.setChan r.out 1 #[] Y k k ai) (g':=g') (es:=kM r.out) (x':=⟨7,m,(D i).own,0⟩) (md':=md) (cl':=cl) H (aS _) (λ_ _ _=>rfl) (λ_ _=>rfl) (λb u=>Q1.own i b u) (akV (by have:=pz hc;simpa[ED]using this) Q0) akU (by grind[akW]) λh=>by grind (λh=>absurd (aA rfl) h) (by simp) (by simp) (by intro hl;obtain⟨st,sm,hw,O⟩:=Q1.wg hl;exact⟨st,sm,hw,O.counted Q2 (by omega)<|by simp⟩) (λ_ _ _ h=>by grind);have s:((gs.map<|woken K.P g g'<|v.setChan r.out 1 #[] Y k k ai).setIfInBounds i g')[i]?=U g':=j5 (by grind);have I3:=I2.fewer (sp:=sp) λj a W=>by have e:j=i:=a.resolve_left W;subst e;rw[dc];refine⟨λy M=>?_,λ_ _ h=>by grind,λ_ _ h=>by grind⟩;rw[s]at M;obtain rfl:=tE M;rw[q];exact aA<|aA<|ax ⟨rfl,rfl,B,hC,hW⟩
   refine⟨md,_,cl,_,_,_,_,⟨⟨_,Yr (sl:=sl) H<|by grind,rfl⟩,I3,by simp,abA Q2<|by grind,⟨A.size,λb u hx=>A.block b u<|hx.imp id λx=>x.imp id λ⟨h,w,e⟩=>⟨h,ax w,e⟩,A.os,A.tape,A.out⟩,λ_ _=>rfl,λh w=>cT D _ λe=>hs<|by rw[<-e];exact w,λh y w M=>?_,λh=>ax h,ax rfl,λj=>by
    by_cases e:j=i;.subst e;rw[dc,E];simp
    .rw[cT D _ e];exact aS _,λj _ _ _ _ _ a=>by
    by_cases e:j=i;.subst e;omega
    .rw[cT D _ e];exact a,λj a=>by
    by_cases e:j=i;.subst e;rw[dc]at a;simp at a
    .rw[cT D _ e]at a;exact a,λj a=>ax<|by
    by_cases e:j=i;.subst e;exact E
    .rw[cT D _ e]at a;exact a⟩,aA ⟨k,rfl,q,E,by rw[dc];simp⟩⟩;have lg:i≠h:=λe=>hs (by rw[e];exact w);refine⟨woken K.P g g' (v.setChan r.out 1 #[] Y k k ai) y,?_,lO.again (F h y w M) _ _ _ _⟩;grind
  .obtain⟨g',w',es,C,Q3,R⟩:=l v<|L.refl _ _;have u:(i==0)=ai:=by simp;omega
   obtain⟨md',cl',D',X,f,v',h⟩:=I.Xi (sl:=sl) F hs H (by rw[u];exact C) Q3 ⟨r,q⟩ h0 (f':=k') (by rw[q];exact aA<|ax ⟨E,rfl,B,hC,R⟩) (by omega) λh=>by omega (by omega);exact⟨md',ch,cl',D',X,f,v',h,ax rfl⟩
 .omega
 grind
theorem Inv.Cu(I:Inv K role sp md ch cl who D T gs v)(Q:lO sp gs)(hs:¬sp i)(W:gs[i]?=U g){r:fC}(J:role i=U r)(u:0<i)(h6:(D i).stage<=6){g':aX}{es:Array jl}{st' d:Int}{x':dw}(hgo:cj K.P ai g v=bU g' v' es)(c:Aside K.Wg v v')(y:WgAt K.L.tWg K.Wg v' st' d)(f:∀e∈es,Bk K.Wg e)(L:∀Q0 e,es[Q0]?=U e->(ij e).touch?=Z\/0<jZ (D i).deaf (es.extract 0 Q0))(E:x'.own=(D i).own)(hC:r.C∈(D i).own)(R:WS K.P K.L K.Wg r x'.stage x'.fuel x'.deaf g' v')(M:jZ (D i).deaf es=x'.deaf)(k:nL gs.size (bE D i x') md' st' d)(B:x'.stage<(D i).stage\/x'.stage=(D i).stage/\x'.fuel<(D i).fuel)(j:md'=.sema->md=.sema\/∀h X,sp h->((gs.map<|woken K.P g g' v').setIfInBounds i g')[h]?=U X->X.status=dU)(H:md'=md\/md=.reg/\md'=.last\/md=.last/\md'=.sema):∃md' cl' D' T' A v',ua K role sp md ch cl who D T gs v sl i md' ch cl' D' T' A v':=by
 have z:i<gs.size:=(je.1 W).1;have O:(i==0)=ai:=by grind
 have S:x'.stage<=6:=by grind
 have o:=I.idle i r J;obtain⟨st0,sm0,F,hm0⟩:=I.wg o;have P:=pz F;refine I.step1 Q hs W (g':=g') (v':=v') (es:=es) (x':=x') (md':=md') (cl':=cl) (by grind) (xF c.size.symm) (λb _ hn=>c.block b λe=>hn<|aA ⟨o,e⟩) c.os c.tape c.output (λ_ _=>rfl) (λb O=>by rw[E]at O;rw[c.size];exact I.own i b O) (λe C=>?_) (λe C hl=>?_) M λh=>by grind (by rw[J];exact aA<|aA<|aA ⟨S,u,by grind,R⟩) λh=>by omega λh=>by omega (λ_=>⟨st',d,y,k⟩) (λr' hr' _ _=>?_) B λh=>by omega j H
 .rcases f e C with m|m|⟨a,wr,rfl,N⟩;.obtain⟨l,w,s⟩:=e;simp only at m;subst m;exact⟨λx q=>by simp[ij,sG]at q,trivial⟩
  .obtain⟨l,w,s⟩:=e;simp only at m;subst m;exact⟨λx q=>by simp[ij,sG]at q,trivial⟩
  .refine⟨λx q b t=>?_,?_⟩;.simp only[Dv,sG,ew]at q;subst q;simp only[pC,ew]at t;subst t;rw[N,I.kE o];grind
   .show a.block<_;rw[N,c.size];grind
 .rcases f e C with m|m|⟨a,wr,rfl,N⟩;.grind
  .grind
  grind
 .obtain⟨p,hp⟩:=I.rel i r J u h6;exact⟨p,Go.ConcN.RelBy.book hp (I.deaf i z) _ _ f L⟩
theorem nL.isLast{f e}(c:nL n D md f e)(b:0<i)(d:i<n)(h:(D i).stage=4\/(D i).stage=3\/(D i).stage=2):md=.last/\(∀a,0<a->a<n->a≠i->(D a).stage=1)/\f=(if(D i).stage=2 then 0 else 1)/\e=0:=by cases md with|opn p=>have:=c.1 i b d;omega|reg=>have:=c.1 i b d;omega|last=>obtain⟨l,q,m,k,r,o,j⟩:=c;grind|sema=>have:=c.1 i b d;omega
theorem Inv.aB5(I:Inv K role sp md ch cl who D T gs v)(A:lO sp gs)(hs:¬sp i)(Q1:gs[i]?=U g)(N:g.status=dU){r:fC}(Q:role i=U r)(h7:(D i).stage<=7)(L:∀p,md=.opn p->V2 gs.size D+p<=2147483646)(aHC:V2 gs.size D<=2147483646):∃md' cl' D' T' R v',ua K role sp md ch cl who D T gs v sl i md' ch cl' D' T' R v':=by
 have ho:=I.gP i g hs Q1;have t:i<gs.size:=(je.1 Q1).1;rw[Q]at ho;have hdk:Deaf T i=(D i).deaf:=I.deaf i t;have S4:=I.idle i r Q;obtain⟨st,sm,j,z⟩:=I.wg S4;have az6:=pz j;rcases ho with⟨h9,_⟩|⟨h8,_⟩|⟨E,h0,o,S,hW⟩|⟨h6,o,S,hW⟩;.omega
 .omega
 .have hb:(i==0)=ai:=by grind
  rcases yE hW with f|⟨Q0,hm',c⟩
  .obtain⟨_,aHl,g',d,w,hk⟩:=f v<|oR v;refine I.step1 A hs Q1 (g':=g') (v':=v) (es:=#[jJ<|Mark.releaseMerge<|stA K.Wg]) (x':=⟨6,w,(D i).own,0⟩) (md':=md) (cl':=cl) (by grind) (aS _) (λ_ _ _=>rfl) rfl rfl rfl (λ_ _=>rfl) (λb hb=>I.own i b hb) (λe k=>?_) (λe k=>?_) (by rw[h0];rfl) λh=>by grind (by rw[Q];exact aA<|aA<|aA ⟨by simp,o,S,.k1 hk⟩) (by simp) (by simp) (λ_=>⟨st,sm,j,z.counted t (by omega)<|by simp⟩) (λ_ _ _ _=>⟨_,Go.ConcN.RelBy.new (by grind) _ _⟩) (ax<|by grind) λh=>by omega (λh=>ax h)<|ax rfl;.simp only[fP,dj,dP,dY]at k;subst k;exact⟨λx F=>(by cases F),az6⟩
   .simp only[fP,dj,dP,dY]at k;subst k;simp[jJ]
  .obtain⟨g',w',X,d,⟨rfl,rfl⟩,B⟩:=c v<|oR v;refine I.step1 A hs Q1 (g':=g') (v':=w') (es:=#[]) (x':=⟨7,Q0,(D i).own,0⟩) (md':=md) (cl':=cl) (by grind) (aS _) (λ_ _ _=>rfl) rfl rfl rfl (λ_ _=>rfl) (λb hb=>I.own i b hb) (by simp) (by simp) (by rw[h0];rfl) (by simp) (by rw[Q];exact aA<|aA<|ax ⟨rfl,rfl,o,S,B⟩) (by simp) (by simp) (λ_=>⟨st,sm,j,z.same E.symm⟩) λ_ _ _ h=>by grind (aA ⟨E.symm,by grind⟩) λh=>by omega (λh=>ax h)<|ax rfl
 generalize E:(D i).stage=s at hW;generalize hfu:(D i).fuel=m at hW;generalize u:(D i).deaf=dd at hW;have h6s:s<=6:=by omega
 have M:∀{g':aX}{Q0:Nat},cj K.P ai g v=bU g' v #[]->WS K.P K.L K.Wg r s Q0 dd g' v->Q0+1=m->∃md' cl' D' T' R v',ua K role sp md ch cl who D T gs v sl i md' ch cl' D' T' R v':=by intro g' Q0 d Ga hm;exact I.Cu A hs Q1 Q o (by omega) (x':=⟨s,Q0,(D i).own,dd⟩) d (.refl _ _) j (by simp) (by simp) rfl S Ga (by rw[u];rfl) (z.same E.symm) (aA ⟨E.symm,by grind⟩) (λh=>ax h)<|ax rfl
 have bk2:∀e∈#[rd<|stA K.Wg,wr<|stA K.Wg],Bk K.Wg e:=by intro e k;simp at k;rcases k with rfl|rfl<;>exact bk_cell _ _ rfl
 have df2:∀H e,(#[rd<|stA K.Wg,wr<|stA K.Wg]:Array jl)[H]?=U e->(ij e).touch?=Z\/0<jZ 1 ((#[rd<|stA K.Wg,wr<|stA K.Wg]:Array jl).extract 0 H):=by intro H e k;match H,k with|0,_=>exact aA<|by simp[jZ]|1,_=>exact aA<|by simp[jZ,rd]|H+2,k=>simp at k
 have df1:∀x H e,(#[x]:Array jl)[H]?=U e->(ij e).touch?=Z\/0<jZ 1 ((#[x]:Array jl).extract 0 H):=by intro x H e k;match H,k with|0,_=>exact aA<|by simp[jZ]|H+1,k=>simp at k
 cases hW with|r0 h=>omega|k1 h=>
  rcases yE h with f|⟨Q0,rfl,c⟩;.obtain⟨_,g',d,w,hk⟩:=f v<|oR v;exact I.Cu A hs Q1 Q o (by omega) (x':=⟨5,w,(D i).own,1⟩) d (.refl _ _) j (by intro e k;simp at k;subst k;exact ax rfl) (by intro H e k;exact ax<|by have:=uG k;simp at this;subst this;rfl) rfl S (.d1 hk) (by rw[u];rfl) (z.counted t (by omega)<|by simp) (ax<|by simp only;omega) (λh=>ax h)<|ax rfl
  .obtain⟨g',w',X,d,⟨rfl,rfl⟩,B⟩:=c v<|oR v;exact M d (.k1 B) rfl|d1 h=>
  rcases yE h with f|⟨Q0,rfl,c⟩
  .obtain⟨_,Tp⟩:=f v<|oR v;have sj:gq i (D i)=1:=by unfold gq;rw[dy ⟨o,by omega⟩]
   have J6:1<=V2 gs.size D:=by have:=le_sumTo (f:=λx=>gq x<|D x) t;unfold V2;omega
   have JJ:∀q,gq i (⟨1,q,(D i).own,1⟩:dw)=0:=λq=>by unfold gq;rw[if_neg<|by simp]
   have opq:∀q,OpenSt gs.size D->OpenSt gs.size (bE D i ⟨1,q,(D i).own,1⟩):=λq h a C P=>by
    by_cases e:a=i;.subst e;rw[dc];exact aA rfl
    .rw[cT D _ e];exact h a C P
   cases md with|opn p=>
    obtain⟨h1,rfl,rfl⟩:=z;have l6:=L p rfl;obtain⟨x,F⟩:∃x,V2 gs.size D+p=x+1:=⟨V2 gs.size D+p-1,by omega⟩;rw[F]at j;have fg:WgAt K.L.tWg K.Wg v (((x:Nat)+1)*KK+((0:Nat):Int)) 0:=by simpa using j
    obtain⟨g',d,_,O⟩:=Tp x 0 (by omega) (by omega) fg;obtain⟨q,O⟩:=O (by omega);have we:V2 gs.size (bE D i ⟨1,q,(D i).own,1⟩)+p=x:=by have:=UJ D (⟨1,q,(D i).own,1⟩:dw) t;have:=JJ q;omega
    refine I.Cu A hs Q1 Q o (by omega) (x':=⟨1,q,(D i).own,1⟩) (md':=.opn p) d (aside_setCell v (stA K.Wg) _) (j.setSt _) bk2 (by rw[u];exact df2) rfl S (.quit O) (by rw[u];rfl) ⟨opq q h1,?_,rfl⟩ (ax<|by simp only;omega) (λh=>ax h)<|ax rfl;rw[we];simp|reg=>
    obtain⟨h1,h3,rfl,rfl⟩:=z;obtain⟨x,F⟩:∃x,V2 gs.size D=x+1:=⟨V2 gs.size D-1,by omega⟩;rw[F]at j;have fg:WgAt K.L.tWg K.Wg v (((x:Nat)+1)*KK+((1:Nat):Int)) 0:=by simpa using j
    obtain⟨g',d,hl,O⟩:=Tp x 1 (by omega) (by omega) fg;by_cases iO:x=0
    .subst iO;obtain⟨w,hk⟩:=hl ⟨rfl,rfl⟩;refine I.Cu A hs Q1 Q o (by omega) (x':=⟨4,w,(D i).own,1⟩) (md':=.last) d (aside_setCell v (stA K.Wg) _) (j.setSt _) bk2 (by rw[u];exact df2) rfl S (.d2 hk) (by rw[u];rfl) ⟨i,o,t,by rw[dc];simp,λa C P e=>?_,?_,rfl⟩ (ax<|by simp only;omega) (λh=>by cases h)<|aA<|ax ⟨rfl,rfl⟩
     .rw[cT D _ e];have h0:=UJ D (⟨0,0,[],0⟩:dw) t;have c0:gq i (⟨0,0,[],0⟩:dw)=0:=by unfold gq;rw[if_neg<|by simp]
      have:=le_sumTo (f:=λx=>gq x<|bE D i ⟨0,0,[],0⟩ x) P;simp only[cT D _ e]at this;have hz:gq a (D a)=0:=by unfold V2 at h0 F;omega
      have:=h1 a C P;unfold gq at hz;split at hz;.omega
      .rename_i hn;rcases this with h|h;.exact absurd ⟨C,h⟩ hn
       .exact h
     .rw[dc];simp
    .obtain⟨q,O⟩:=O (by omega);have we:V2 gs.size (bE D i ⟨1,q,(D i).own,1⟩)=x:=by have:=UJ D (⟨1,q,(D i).own,1⟩:dw) t;have:=JJ q;omega
     refine I.Cu A hs Q1 Q o (by omega) (x':=⟨1,q,(D i).own,1⟩) (md':=.reg) d (aside_setCell v (stA K.Wg) _) (j.setSt _) bk2 (by rw[u];exact df2) rfl S (.quit O) (by rw[u];rfl) ⟨opq q h1,by omega,?_,rfl⟩ (ax<|by simp only;omega) (λh=>ax h)<|ax rfl;rw[we];simp|last=>
    obtain⟨l,hl0,hl,h2,h3,_⟩:=z;by_cases e:i=l;.subst e;omega
    .have:=h3 i o t e;omega|sema=>have:=z.1 i o t;omega
  .obtain⟨g',w',X,d,⟨rfl,rfl⟩,B⟩:=c v<|oR v;exact M d (.d1 B) rfl|d2 h=>
  rcases yE h with f|⟨Q0,rfl,c⟩;.obtain⟨_,F⟩:=f v<|oR v;obtain⟨rfl,J,rfl,rfl⟩:=z.isLast o t (by omega);simp only[E]at j;obtain⟨g',d,w,hk⟩:=F (by simpa using j);refine I.Cu A hs Q1 Q o (by omega) (x':=⟨3,w,(D i).own,1⟩) (md':=.last) d (.refl _ _) j (by intro e k;simp at k;subst k;exact bk_cell _ _ rfl) (by rw[u];exact df1 _) rfl S (.d3 hk) (by rw[u];rfl) ⟨i,o,t,by rw[dc];simp,λa C P e=>by rw[cT D _ e];exact J a C P e,by rw[dc];simp,rfl⟩ (ax<|by simp only;omega) (λh=>by cases h)<|ax rfl
  .obtain⟨g',w',X,d,⟨rfl,rfl⟩,B⟩:=c v<|oR v;exact M d (.d2 B) rfl|d3 h=>
  rcases yE h with f|⟨Q0,rfl,c⟩;.obtain⟨_,F⟩:=f v<|oR v;obtain⟨rfl,J,rfl,rfl⟩:=z.isLast o t (by omega);simp only[E]at j;obtain⟨g',d,w,hk⟩:=F (by simpa using j);refine I.Cu A hs Q1 Q o (by omega) (x':=⟨2,w,(D i).own,1⟩) (md':=.last) d (aside_setCell v (stA K.Wg) _) (j.setSt 0) (by intro e k;simp at k;subst k;exact bk_cell _ _ rfl) (by rw[u];exact df1 _) rfl S (.d4 hk) (by rw[u];rfl) ⟨i,o,t,by rw[dc];simp,λa C P e=>by rw[cT D _ e];exact J a C P e,by rw[dc];simp,rfl⟩ (ax<|by simp only;omega) (λh=>by cases h)<|ax rfl
  .obtain⟨g',w',X,d,⟨rfl,rfl⟩,B⟩:=c v<|oR v;exact M d (.d3 B) rfl|d4 h=>
  rcases yE h with f|⟨Q0,rfl,c⟩
  .obtain⟨_,SW,F⟩:=f v<|oR v;obtain⟨rfl,J,rfl,rfl⟩:=z.isLast o t (by omega);simp only[E]at j;obtain⟨g',d,q,O⟩:=F (by simpa using j);have ayB:g'.status=dU:=by cases q with|zero=>exact absurd O.2<|by decide|succ q=>exact O.elim λx=>absurd x.2<|by decide λx=>x.1
   refine I.Cu A hs Q1 Q o (by omega) (x':=⟨1,q,(D i).own,1⟩) (md':=.sema) d (aside_setCell v (smA K.Wg) _) (j.setSm 1) (es:=Ce<|smA K.Wg) ?_ ?_ rfl S (.quit O) (by rw[u];simp[jZ,Ce]) ⟨λa C P=>?_,by simp,rfl⟩ (ax<|by simp only;omega) (λ_=>aA λh y' hh Ai=>?_)<|aA<|aA ⟨rfl,rfl⟩
   .intro e k;simp[Ce]at k;rcases k with rfl|rfl|rfl|rfl;.exact ax rfl
    .exact bk_cell _ _ rfl
    .exact bk_cell _ _ rfl
    .exact aA<|ax rfl
   .rw[u];intro H e k;match H,k with|0,k=>simp[Ce]at k;subst k;exact ax rfl|1,_=>exact aA<|by simp[jZ,Ce]|2,_=>exact aA<|by simp[jZ,Ce]|3,k=>simp[Ce]at k;subst k;exact ax rfl|H+4,k=>simp[Ce]at k
   .by_cases e:a=i;.subst e;rw[dc]
    .rw[cT D _ e];exact J a C P e
   .have lg:i≠h:=λe=>hs (by rw[e];exact hh);rw[nu lg,qM]at Ai;obtain⟨y,hy,rfl⟩:=yM.1 Ai;have Za:(mayWake K.P g&&g'.status !=.blocked&&g'.status !=.waiting)=Y:=by rw[SW,ayB];rfl
    unfold woken;rw[dy Za];rcases A h y hh hy with h1|⟨h1,h2⟩;.rw[yF _<|ax h1];exact h1
    .unfold Goroutine.again;rw[h1,h2]
  .obtain⟨g',w',X,d,⟨rfl,rfl⟩,B⟩:=c v<|oR v;exact M d (.d4 B) rfl|quit h=>cases m with|zero=>rw[h.1]at N;cases N|succ q=>
   rcases h with⟨hf,_⟩|⟨_,g',X,W,c,O⟩;.rw[hf]at N;cases N
   .have hbk:∀e∈X,Bk K.Wg e:=λe k=>Go.ConcR.bk_of_mute<|W e k;have Gg:∀H e,X[H]?=U e->(ij e).touch?=Z\/0<jZ (D i).deaf (X.extract 0 H):=λH e k=>ax<|touch_mute<|W e<|uG k;exact I.Cu A hs Q1 Q o (by omega) (x':=⟨1,q,(D i).own,jZ dd X⟩) (md':=md) (c v) (.refl _ _) j hbk Gg rfl S (.quit O) (by rw[u]) (z.same E.symm) (aA ⟨E.symm,by simp only;omega⟩) (λh=>ax h)<|ax rfl
variable{T':eB}{R:Array aX}
structure oH(K:fG)(role:Nat->Option fC)(sp:Nat->Prop)(ch:Nat->Option fK)(D:Nat->dw):Prop where
 a:∀i r,role i=U r->0<i->¬sp i->((D i).stage=8\/(D i).stage=9/\∃st,ch r.aO.c=U st/\st.shut=Y)->∀j r',role j=U r'->¬sp j->r'.aO.c≠r.out
 b:∀i r st,role i=U r->0<i->¬sp i->(D i).stage=9->ch r.aO.c=U st->st.shut=Y->∃k,ch r.out=U ⟨Z,ai,k⟩outs:∀i j r r',role i=U r->role j=U r'->i≠j->0<i->r'.out≠r.out
 end_:∀i r,role i=U r->0<i->∀O g2 w,r.aO.home O g2 w->r.C∈O/\∃m,cK K.P ai (L O) (DO O) (zG K.P K.L K.Wg r O) m (kN g2<|recvd r.aO.ok r.aO.z ai) w
 qA:∀n,V2 n D<=2
theorem EY(h:∀j,(D' j).stage<=(D j).stage):V2 n D'<=V2 n D:=by unfold V2;induction n with|zero=>exact aS _|succ n a=>
  simp only[sumTo];have:gq n (D' n)<=gq n (D n):=by unfold gq;grind
  omega
def mV(role:Nat->Option fC)(sp:Nat->Prop)(ch:Nat->Option fK)(D:Nat->dw):Prop:=∀j r,role j=U r->¬sp j->(D j).stage=9/\∀st,ch r.aO.c=U st->st.shut=ai
def Evt(K:fG)(role:Nat->Option fC)(ch:Nat->Option fK)(D:Nat->dw)(i:Nat)(g:aX)(v:ay):Prop:=∃r g2 st,role i=U r/\(D i).stage=9/\AtR K.P (i==0) r.aO (D i).own g g2 v/\ch r.aO.c=U st/\(st.buf≠Z\/st.buf=Z/\st.shut=Y/\i=0)
theorem Inv.other(I:Inv K role sp md ch cl who D T gs v)(C:oH K role sp ch D)(x:lO sp gs)(hs:¬sp i)(B:gs[i]?=U g)(w:g.status=dU)(b:∀p,md=.opn p->p<=2):(∃md' z cl' D' T' R v',ua K role sp md ch cl who D T gs v sl i md' z cl' D' T' R v'/\oH K role sp z D'/\(∀j o,role j=U o->¬sp j->z o.aO.c=ch o.aO.c)/\(z=ch\/(D i).stage=8/\∃r k,role i=U r/\z=bE ch r.out (U ⟨Z,Y,k⟩)/\(D' i).stage<=7))\/Evt K role ch D i g v:=by
 have Q0:i<gs.size:=(je.1 B).1;have F:∀{md' cl' D' T' R v'},ua K role sp md ch cl who D T gs v sl i md' ch cl' D' T' R v'->oH K role sp ch D':=λS=>⟨λj r q Q2 l h=>C.a j r q Q2 l<|by
   rcases h with h|⟨h,s,d,f⟩
   .rcases S.st8 j h with h|⟨h,o,s,m,d,f⟩;.grind
    grind
   .exact aA ⟨S.iv j h,s,d,f⟩,λj r s q Q2 l y=>C.b j r s q Q2 l<|S.iv j y,C.outs,C.end_,λn=>bC (EY S.iu)<|C.qA n⟩;cases q:role i with|none=>obtain⟨md',cl',D',T',R,v',S⟩:=I.awr (sl:=sl) x hs B w q;grind|some r=>
  have J:=I.gP i g hs B;rw[q]at J;have E:(D i).stage=9\/(D i).stage=8\/(D i).stage<=7:=by rcases J with⟨h,_⟩|⟨h,_⟩|⟨h,_⟩|⟨h,_⟩<;>omega
  rcases E with y|H|M
  .rcases I.asC (sl:=sl) x hs B w q y with⟨md',cl',D',T',R,v',S⟩|⟨Q1,s,A,d,hn⟩;.grind
   .by_cases N:s.buf=Z
    .have f:s.shut=Y:=by grind
     by_cases Q2:i=0;.exact aA ⟨r,Q1,s,q,y,A,d,aA ⟨N,f,Q2⟩⟩
     .have u:0<i:=by omega
      obtain⟨md',cl',D',T',R,v',S⟩:=I.ase (sl:=sl) x hs B q y u A d N f (C.b i r s q u hs y d f)<|C.end_ i r q u _ _ _ A.2.2.2.2.1;grind
    .exact aA ⟨r,Q1,s,q,y,A,d,ax N⟩
  .have u:0<i:=by rcases J with⟨h,_⟩|⟨_,_,h,_⟩|⟨h,_⟩|⟨h,_⟩<;>omega
   have Q:=C.a i r q u hs<|ax H;obtain⟨md',z,cl',D',T',R,v',S,P⟩:=I.Ur (sl:=sl) x hs B q H Q λj o m X=>C.outs i j r o q m (λe=>X e.symm) u;rcases P with rfl|⟨k,rfl,_,_,M⟩;.grind
   .have t:∀j o,role j=U o->¬sp j->bE ch r.out (U ⟨Z,Y,k⟩) o.aO.c=ch o.aO.c:=λj o m l=>cT ch _<|Q j o m l;refine ax ⟨md',_,cl',D',T',R,v',S,⟨λj o m Q2 l h=>C.a j o m Q2 l ?_,λj o s m Q2 l y d f=>?_,C.outs,C.end_,λn=>bC (EY S.iu)<|C.qA n⟩,t,aA ⟨H,r,k,rfl,rfl,M⟩⟩
    .rcases h with h|⟨h,s,d,f⟩
     .rcases S.st8 j h with h|⟨h,r2,s,c,d,f⟩;.grind
      grind
     .rw[t j o m l]at d;exact aA ⟨S.iv j h,s,d,f⟩
    .rw[t j o m l]at d;obtain⟨W,a⟩:=C.b j o s m Q2 l (S.iv j y) d f;have O:i≠j:=λe=>by grind
     exact⟨W,by rw[cT ch _<|C.outs i j r o q m O u];grind⟩
  .have:=C.qA gs.size;obtain⟨md',cl',D',T',R,v',S⟩:=I.aB5 (sl:=sl) x hs B w q M λp L=>by have:=b p L;omega (by omega);exact ax ⟨md',ch,cl',D',T',R,v',S,F S,λ_ _ _ _=>rfl,ax rfl⟩
def Hp(role:Nat->Option fC)(sp:Nat->Prop)(ch:Nat->Option fK):Prop:=∀j r st,role j=U r->¬sp j->ch r.aO.c=U st->st.buf=Z/\(st.shut=Y->0<j)
theorem Inv.awake(I:Inv K role sp md ch cl who D T gs v)(a:lO sp gs):∀g∈gs,awake g:=λg d=>by
 obtain⟨j,b⟩:=Array.mem_iff_getElem?.1 d;by_cases c:sp j;.exact I9<|(a j g c b).elim ax λh=>aA<|ax h.1
 .exact(I.gP j g c b).awake
structure pI(K:fG)(role:Nat->Option fC)(sp:Nat->Prop)(md:Md)(ch:Nat->Option fK)(cl:Nat->fa)(who:wZ)(D:Nat->dw)(T:eB)(gs:Array aX)(v:ay)(md':Md)(z:Nat->Option fK)(cl':Nat->fa)(D':Nat->dw)(T':eB)(R:Array aX)(v':ay):Prop where
 inv:Inv K role sp md' z cl' who D' T' R v'
 ga:oH K role sp z D'
 size:R.size=gs.size
 left:Left cl sp v v'
 cls:∀b,b<v.heap.size->cl' b=cl b
 A8:∀h,sp h->D' h=D h
 C5:∀h y,sp h->gs[h]?=U y->∃y',R[h]?=U y'/\sN y y'
 eZ:∀j r,role j=U r->¬sp j->z r.aO.c=ch r.aO.c
 sema:md'=.sema->md=.sema\/∀h y',sp h->R[h]?=U y'->y'.status=dU
 IX:(∃p,md=.opn p)->md'=md
 iv:∀j,(D' j).stage=9->(D j).stage=9
 iu:∀j,(D' j).stage<=(D j).stage
 opn:∀p,md'=.opn p->md=.opn p
 k9:∀j r st,role j=U r->¬sp j->ch r.aO.c=U st->st.shut=ai\/j=0->(D j).stage=9->(D' j).stage=9
 calm:mV role sp ch D->z=ch/\mV role sp z D'
 outs:∀j r,role j=U r->(D' j).stage=9->z r.out=ch r.out
theorem pI.refl(I:Inv K role sp md ch cl who D T gs v)(C:oH K role sp ch D):pI K role sp md ch cl who D T gs v md ch cl D T gs v:=⟨I,C,rfl,Left.refl _ _ _,λ_ _=>rfl,λ_ _=>rfl,λh y _ a=>⟨y,a,sN.refl y⟩,λ_ _ _ _=>rfl,λh=>ax h,λ_=>rfl,λ_ h=>h,λ_=>aS _,λ_ h=>h,λ_ _ _ _ _ _ _ h=>h,λh=>⟨rfl,h⟩,λ_ _ _ _=>rfl⟩
theorem lO.later(h:lO sp gs)(l:R.size=gs.size)(k:∀j y,sp j->gs[j]?=U y->∃d,R[j]?=U d/\sN y d):lO sp R:=λj d e b=>by
 have a:j<gs.size:=by grind
 obtain⟨m,f,c⟩:=k j gs[j] e<|iy a;rw[b]at f;cases f;exact c.ok<|h j _ e<|iy a
theorem pI.trans{u}{m}{t}{F}{J}{o}{C}(h:pI K role sp md ch cl who D T gs v md' z cl' D' T' R v')(k:pI K role sp md' z cl' who D' T' R v' u m t F J o C):pI K role sp md ch cl who D T gs v u m t F J o C:=⟨k.inv,k.ga,k.size.trans h.size,h.left.trans h.cls k.left,λb H=>(k.cls b<|cE H h.left.size).trans<|h.cls b H,λx e=>(k.A8 x e).trans<|h.A8 x e,λx y e N=>by obtain⟨S,Q,M⟩:=h.C5 x y e N;obtain⟨I,Q0,Q2⟩:=k.C5 x S e Q;exact⟨I,Q0,M.trans Q2⟩,λj r f l=>(k.eZ j r f l).trans<|h.eZ j r f l,λe=>by
  rcases k.sema e with L|L
  .rcases h.sema L with B|B;.grind
   .refine aA λx I e Q1=>?_;obtain⟨W,X,O⟩:=k.C5 x _ e (iy<|by rw[<-k.size];grind);rcases O with rfl|⟨_,rfl⟩;.grind
    grind
  grind,λA=>by rw[k.IX<|by rw[h.IX A];grind,h.IX A],λj P=>h.iv j<|k.iv j P,λj=>bC (k.iu j)<|h.iu j,λp A=>h.opn p<|k.opn p A,λj r E f l w s Q3=>k.k9 j r E f l ((h.eZ j r f l).trans w) s<|h.k9 j r E f l w s Q3,λq=>let⟨a,b⟩:=h.calm q;let⟨c,d⟩:=k.calm b;⟨c.trans a,d⟩,λj r f Q3=>(k.outs j r f Q3).trans<|h.outs j r f<|k.iv j Q3⟩
theorem ua.later(I:Inv K role sp md ch cl who D T gs v)(hs:¬sp i)(u:∀r,role i=U r->(D i).stage=8->0<i)(S:ua K role sp md ch cl who D T gs v sl i md' z cl' D' T' R v')(C:oH K role sp z D')(w:∀j l,role j=U l->¬sp j->z l.aO.c=ch l.aO.c)(t:z=ch\/(D i).stage=8/\∃r k,role i=U r/\z=bE ch r.out (U ⟨Z,Y,k⟩)/\(D' i).stage<=7):pI K role sp md ch cl who D T gs v md' z cl' D' T' R v':=⟨S.inv,C,S.size,S.left,S.cls,S.A8,S.C5,w,S.sema,λ⟨p,x⟩=>by
  rcases S.md with h|⟨h,_⟩|⟨h,_⟩;.grind
  .grind
  grind,S.iv,S.iu,λp x=>by
  rcases S.md with h|⟨_,h⟩|⟨_,h⟩;.grind
  .grind
  grind,λj r f b hs a d m=>S.k9 j r f b a d m,λq=>by
  have e:z=ch:=by
   rcases t with e|⟨s,r,k,b,_⟩;.grind
   .have:=(q i r b hs).1;omega
  refine⟨e,λj r b hs=>?_⟩;obtain⟨m,d⟩:=q j r b hs;obtain⟨f,a,_⟩:=I.oq j r b m hs;exact⟨S.k9 j r f b a (ax<|d f a) m,λf a=>d f<|by grind⟩,λj r b m=>by
  rcases t with e|⟨s,l,k,o,e,y⟩;.grind
  .rw[e,cT ch _<|C.outs i j l r o b λe=>by grind (u l o s)]⟩
theorem pI.at(I:Inv K role sp md ch cl who D T gs v)(C:oH K role sp ch D)(d):pI K role sp md ch cl who D T gs v md ch cl D T gs<|v.at d:=⟨I.at d,C,rfl,Left.at _ _ _ _,λ_ _=>rfl,λ_ _=>rfl,λh y _ a=>⟨y,a,sN.refl y⟩,λ_ _ _ _=>rfl,λh=>ax h,λ_=>rfl,λ_ h=>h,λ_=>aS _,λ_ h=>h,λ_ _ _ _ _ _ _ h=>h,λh=>⟨rfl,h⟩,λ_ _ _ _=>rfl⟩
theorem Inv.later(I:Inv K role sp md ch cl who D T gs v)(hs:¬sp i)(d:gs[i]?=U g)(S:ua K role sp md ch cl who D T gs v sl i md' z cl' D' T' R v')(C:oH K role sp z D')(l:∀j a,role j=U a->¬sp j->z a.aO.c=ch a.aO.c)(e:z=ch\/(D i).stage=8/\∃r k,role i=U r/\z=bE ch r.out (U ⟨Z,Y,k⟩)/\(D' i).stage<=7):pI K role sp md ch cl who D T gs v md' z cl' D' T' R v':=ua.later I hs λr f m=>by have b:=I.gP i g hs d;rw[f]at b;rcases b with⟨h,_⟩|⟨_,_,h,_⟩|⟨h,_⟩|⟨h,_⟩<;>omega S C l e
theorem Inv.picked{h:Nat}(w:sp h):∀(s:Nat×Nat)(md:Md)(ch:Nat->Option fK)(cl:Nat->fa)(D:Nat->dw)(T:eB)(gs:Array aX)(v:ay)(sl:Option<|Nat×Nat),oE gs.size D=s->Inv K role sp md ch cl who D T gs v->oH K role sp ch D->Hp role sp ch->lO sp gs->(∀p,md=.opn p->p<=2)->(∀j,sp j->j=h)->∀a,gs[h]?=U a->a.status=dU->∃N md' z cl' D' T' R v' d b c,ik K.P N (dB gs v sl) T=(fW<|dB R v' b,T')/\stepT K.P (dB R v' b)=runT K.P (dB R (v'.at d) c) h/\pI K role sp md ch cl who D T gs v md' z cl' D' T' R v'/\R[h]?=U a:=by
 intro s;refine(Prod.lex GU GU).wf.induction (C:=λs=>∀(md:Md)(ch:Nat->Option fK)(cl:Nat->fa)(D:Nat->dw)(T:eB)(gs:Array aX)(v:ay)(sl:Option<|Nat×Nat),oE gs.size D=s->Inv K role sp md ch cl who D T gs v->oH K role sp ch D->Hp role sp ch->lO sp gs->(∀p,md=.opn p->p<=2)->(∀j,sp j->j=h)->∀a,gs[h]?=U a->a.status=dU->∃N md' z cl' D' T' R v' d b c,ik K.P N (dB gs v sl) T=(fW<|dB R v' b,T')/\stepT K.P (dB R v' b)=runT K.P (dB R (v'.at d) c) h/\pI K role sp md ch cl who D T gs v md' z cl' D' T' R v'/\R[h]?=U a) s ?_;intro s ih md ch cl D T gs v sl y I C Q0 o hp l a F k;obtain⟨i,g,d,dK,W,hg,q⟩:=crowd_pick (P:=K.P) (w:=v) (sl:=sl) (I.awake o) ⟨h,a,F,k⟩;by_cases f:sp i;.have e:=l i f;subst e;exact⟨0,md,ch,cl,D,T,gs,v,d,sl,dK,rfl,q,pI.refl I C,F⟩
 .rcases(I.at d).other (sl:=dK) C o f W hg hp with⟨md',z,cl',D',T',R,v',S,QW,hc,A⟩|⟨r,g2,E,B,h9,kg,t,uX⟩
  .obtain⟨Q1,m,rfl⟩:=S.run;have L:=(pI.at I C d).trans<|(I.at d).later f W S QW hc A;obtain⟨X,O,J⟩:=S.C5 h a w F;have Q2:X=a:=by
    rcases J with rfl|⟨hb,_⟩;.rfl
    grind
   subst Q2;have x:Hp role sp z:=λj r E B hs q=>Q0 j r E B hs (by grind);obtain⟨N,Q,QX,M,D2,T2,H,v2,d2,b,c,h1,h2,h3,h4⟩:=ih (oE R.size D') (by rw[<-y,S.size];exact S.lt) md' z cl' D' _ R v' dK rfl S.inv QW x (o.later S.size S.C5) λp Na=>by
    rcases S.md with Q3|⟨_,Q3⟩|⟨_,Q3⟩;.grind
    .grind
    grind l X O k;refine⟨N+1,Q,QX,M,D2,T2,H,v2,d2,b,c,?_,h2,L.trans h3,h4⟩;simp only[ik,q,m];grind
  .obtain⟨e1,e2⟩:=Q0 i r E B f t;grind
variable{h:Nat}{dK:Option<|Nat×Nat}
structure cP(K:fG)(role:Nat->Option fC)(h:Nat)(md:Md)(ch:Nat->Option fK)(cl:Nat->fa)(who:wZ)(D:Nat->dw)(T:eB)(gs:Array aX)(v:ay):Prop where
 inv:Inv K role (.=h) md ch cl who D T gs v
 ga:oH K role (.=h) ch D
 uE:Hp role (.=h) ch
 bound:∀p,md=.opn p->p<=2
structure kD(role:Nat->Option fC)(h:Nat)(md:Md)(ch:Nat->Option fK)(cl:Nat->fa)(D:Nat->dw)(T:eB)(gs:Array aX)(v:ay)(md':Md)(z:Nat->Option fK)(cl':Nat->fa)(D':Nat->dw)(T':eB)(R:Array aX)(v':ay):Prop where
 size:R.size=gs.size
 left:Left cl (λ_=>False) v v'
 cls:∀b,b<v.heap.size->cl' b=cl b
 eZ:∀j r,role j=U r->j≠h->z r.aO.c=ch r.aO.c
 qd:(∃p,md=.opn p)->md'=md
 iv:∀j,j≠h->(D' j).stage=9->(D j).stage=9
 iu:∀j,j≠h->(D' j).stage<=(D j).stage
 ext:∃u,T'=T++u
 calm:mV role (.=h) ch D->z=ch/\mV role (.=h) z D'
 outs:∀j r,role j=U r->(D' j).stage=9->z r.out=ch r.out
 k9:∀j r st,role j=U r->j≠h->ch r.aO.c=U st->st.shut=ai\/j=0->(D j).stage=9->(D' j).stage=9
 Wv:(D' h).stage=(D h).stage
 opn:∀p,md'=.opn p->md=.opn p
theorem kD.refl:kD role h md ch cl D T gs v md ch cl D T gs v:=⟨rfl,Left.refl _ _ _,λ_ _=>rfl,λ_ _ _ _=>rfl,λ_=>rfl,λ_ _ x=>x,λ_ _=>aS _,⟨#[],by simp⟩,λq=>⟨rfl,q⟩,λ_ _ _ _=>rfl,λ_ _ _ _ _ _ _ h=>h,rfl,λ_ h=>h⟩
theorem kD.trans{m}{k}{l}{F}{H}{o}{A}(a:kD role h md ch cl D T gs v md' z cl' D' T' R v')(b:kD role h md' z cl' D' T' R v' m k l F H o A):kD role h md ch cl D T gs v m k l F H o A:=⟨b.size.trans a.size,a.left.trans a.cls b.left,λx B=>(b.cls x<|cE B a.left.size).trans<|a.cls x B,λj r d c=>(b.eZ j r d c).trans<|a.eZ j r d c,λw=>by rw[b.qd<|by rw[a.qd w];exact w,a.qd w],λj c x=>a.iv j c<|b.iv j c x,λj c=>bC (b.iu j c)<|a.iu j c,by obtain⟨u,rfl⟩:=a.ext;obtain⟨I,rfl⟩:=b.ext;grind,λq=>let⟨x,y⟩:=a.calm q;let⟨L,t⟩:=b.calm y;⟨L.trans x,t⟩,λj r d f=>(b.outs j r d f).trans<|a.outs j r d<|by
  by_cases e:j=h;.subst e;rw[<-b.Wv];exact f
  .exact b.iv j e f,λj r E d c s C f=>b.k9 j r E d c ((a.eZ j r d c).trans s) C<|a.k9 j r E d c s C f,b.Wv.trans a.Wv,λp w=>a.opn p<|b.opn p w⟩
theorem LU{P:bW}:∀(N:Nat)(m:Machine)(T:eB)(m':Machine)(T':eB),ik P N m T=(fW m',T')->∃u,T'=T++u|0,m,T,m',T',h=>⟨#[],by simp only[ik]at h;grind⟩|N+1,m,T,m',T',h=>by simp only[ik]at h;cases b:stepT P m with|mk r a=>rw[b]at h;cases r with|ended o w=>cases h|next c=>obtain⟨u,rfl⟩:=LU N c (T++a) m' T' h;grind
theorem cP.aqr(H:cP K role h md ch cl who D T gs v){a}(d:gs[h]?=U a)(b:a.status=dU):lO (.=h) gs:=by rintro j y rfl c;grind
theorem cP.picked(H:cP K role h md ch cl who D T gs v){a}(s:gs[h]?=U a)(e:a.status=dU)(sl):∃N md' z cl' D' T' R v' d c f,ik K.P N (dB gs v sl) T=(fW<|dB R v' c,T')/\stepT K.P (dB R v' c)=runT K.P (dB R (v'.at d) f) h/\R[h]?=a/\cP K role h md' z cl' who D' T' R v'/\kD role h md ch cl D T gs v md' z cl' D' T' R v'/\D' h=D h/\Left cl (.=h) v v':=by obtain⟨N,md',z,cl',D',T',R,v',d,c,f,t,A,L,C⟩:=Inv.picked (sp:=(.=h)) (h:=h) rfl _ md ch cl D T gs v sl rfl H.inv H.ga H.uE (H.aqr s e) H.bound (λj m=>m) a s e;refine⟨N,md',z,cl',D',T',R,v',d,c,f,t,A,C,⟨L.inv,L.ga,λj r q l o k=>H.uE j r q l o<|by rw[<-L.eZ j r l o];exact k,λp B=>H.bound p<|L.opn p B⟩,⟨L.size,⟨L.left.size,λb y w=>L.left.block b y<|w.imp id λx=>x.imp id λ⟨_,x,_⟩=>x.elim,L.left.os,L.left.tape,L.left.out⟩,L.cls,λj r l m=>L.eZ j r l m,L.IX,λj _ x=>L.iv j x,λj _=>L.iu j,LU N _ _ _ _ t,L.calm,L.outs,λj r q l m k o u=>L.k9 j r q l m k o u,by rw[L.A8 h rfl],L.opn⟩,L.A8 h rfl,L.left⟩
theorem cP.step(H:cP K role h md ch cl who D T gs v){a a'}{es}{x'}(E:gs[h]?=U a)(A:cj K.P (h==0) a v=bU a' v' es)(c:v.heap.size<=v')(f:∀b,b<v.heap.size->¬(cl b=.own h\/K.live=Y/\b=K.Wg\/cl b=.eV/\who=.hold h)->v'.heap[b]?=v.heap[b]?)(z:∀b,b<v.heap.size->cl' b=cl b)(m:∀b∈x'.own,cl' b=.own h/\b<v')(y:∀e∈es,(∀x,(ij e).touch?=U x->zA cl' who h x)/\(ij e).low v')(w:∀e∈es,e.loc≠iq (.release<|stA K.Wg))(B:jZ (D h).deaf es=x'.deaf)(d:role h=Z->h≠0->∀e∈es,(ij e).touch?=Z)(C:x'.stage=(D h).stage)(t:K.live=Y->∃q I,WgAt K.L.tWg K.Wg v' q I/\nL gs.size (bE D h x') md' q I)(F:h≠0->7<=x'.stage)(s:∀p,md'=.opn p->p<=2):runT K.P (dB gs v sl) h=(fW<|dB ((gs.map<|woken K.P a a' v').setIfInBounds h a') v' sl,iI h a.frame.fn a.frame.place es)/\cP K role h md' ch cl' who (bE D h x') (T++iI h a.frame.fn a.frame.place es) ((gs.map<|woken K.P a a' v').setIfInBounds h a') v'/\((gs.map<|woken K.P a a' v').setIfInBounds h a')[h]?=a':=by
 have M:h<gs.size:=by grind
 obtain⟨J,_⟩:=H.inv.go_step (x':=x') (md':=md') (cl':=cl') (g':=a') (es:=es) E c f z m y w B d (λl=>absurd rfl l) (λe=>⟨by grind,λl=>absurd rfl l⟩) (λ_ l=>absurd rfl l) t (λr _ o N=>by grind);refine⟨Yr (sl:=sl) E A,⟨J,⟨λj r u o k=>?_,λj r q u o k=>?_,H.ga.outs,H.ga.end_,λn=>?_⟩,H.uE,s⟩,j5<|by grind⟩;.rw[cT D _ k];exact H.ga.a j r u o k
 .rw[cT D _ k];exact H.ga.b j r q u o k
 .have:V2 n (bE D h x')<=V2 n D:=EY λj=>by
   by_cases e:j=h;.subst e;rw[dc,C];grind
   .rw[cT D _ e];grind
  exact bC this<|H.ga.qA n
theorem cP.at(H:cP K role h md ch cl who D T gs v)(d):cP K role h md ch cl who D T gs<|v.at d:=⟨H.inv.at d,H.ga,H.uE,H.bound⟩
theorem kD.at(role)(h)(md)(ch)(cl)(D)(T)(gs)(v)(d):kD role h md ch cl D T gs v md ch cl D T gs<|v.at d:=⟨rfl,Left.at _ _ _ _,λ_ _=>rfl,λ_ _ _ _=>rfl,λ_=>rfl,λ_ _ x=>x,λ_ _=>aS _,⟨#[],by simp⟩,λq=>⟨rfl,q⟩,λ_ _ _ _=>rfl,λ_ _ _ _ _ _ _ h=>h,rfl,λ_ h=>h⟩
theorem vD(D:Nat->dw)(i):bE D i (D i)=D:=funext λj=>by grind[upd_same,upd_ne]
theorem qI{P}{m m'}{t}{ops}(hs:stepT P m=(fW m',ops)):ik P 1 m t=(fW m',t++ops):=by simp only[ik,hs]
structure DH(O Rd:List Nat)(w w':ay)(es:Array jl):Prop where
 os:w'.os=w.os
 tape:w'.tape=w.tape
 out:w'.output=w.output
 size:w'.heap.size=w.heap.size
 block:∀b,b∉O->w'.heap[b]?=w.heap[b]?
 ev:∀e∈es,∃a wr,e=⟨.cell a,wr,ai⟩/\(a.block∈O\/a.block∈Rd)
def Rest(h:Nat)(O:List Nat)(cl:Nat->fa)(v v':ay):Prop:=∀b,b<v.heap.size->cl b=.own h->b∉O->v'.heap[b]?=v.heap[b]?
theorem avN{b}(j:cl b=.own h\/cl b=.eV/\who=.hold h){a}(f:a.block=b)(wr):∀x,(ij ⟨.cell a,wr,ai⟩).touch?=U x->zA cl who h x:=by intro x d c e;simp only[Dv,sG,ew]at d;grind[pC,Option.some.injEq]
theorem cP.quiet(H:cP K role h md ch cl who D T gs v){a a'}{es}(C:gs[h]?=U a)(s:cj K.P (h==0) a v=bU a' v' es){O Rd}(c:DH O Rd v v' es)(m:∀b∈O,b∈(D h).own)(o:∀b∈Rd,b<v∧(cl b=.own h∨cl b=.eV∧who=.hold h))(p:role h=Z->h=0)(t:h≠0->7<=(D h).stage)(B:(D h).deaf=0):runT K.P (dB gs v sl) h=(fW<|dB ((gs.map<|woken K.P a a' v').setIfInBounds h a') v' sl,iI h a.frame.fn a.frame.place es)∧cP K role h md ch cl who D (T++iI h a.frame.fn a.frame.place es) ((gs.map<|woken K.P a a' v').setIfInBounds h a') v'∧((gs.map<|woken K.P a a' v').setIfInBounds h a')[h]?=a'∧kD role h md ch cl D T gs v md ch cl D (T++iI h a.frame.fn a.frame.place es) ((gs.map<|woken K.P a a' v').setIfInBounds h a') v'∧Rest h O cl v v':=by
 have d:∀b,b∈O∨b∈Rd->b<v∧(cl b=.own h∨cl b=.eV∧who=.hold h):=λb l=>l.elim (λx=>let⟨y,z⟩:=H.inv.own h b<|m b x;⟨z,ax y⟩)<|o b;have w:=λr=>c.block _ λx=>by have:=(H.inv.own h _<|m _ x).1;rw[H.inv.kE r]at this;grind
 obtain⟨E,u,F⟩:=H.step (sl:=sl) (x':=D h) (md':=md) (cl':=cl) C s (xF c.size.symm) (λb _ f=>c.block b λx=>f<|ax (H.inv.own h b<|m b x).1) (λ_ _=>rfl) (λb l=>by rw[c.size];exact H.inv.own h b l) (λe j=>by obtain⟨x,wr,rfl,k⟩:=c.ev e j;obtain⟨y,z⟩:=d _ k;exact⟨avN z rfl wr,by rw[Dv];show x.block<_;rw[c.size];exact y⟩) λe j=>by obtain⟨x,wr,rfl,k⟩:=c.ev e j;simp (by rw[B];exact deafBehind_still λe j=>by obtain⟨x,wr,rfl,k⟩:=c.ev e j;grind 0) (λA f=>absurd (p A) f) rfl (λr=>let⟨st,sm,hw,J⟩:=H.inv.wg r;⟨st,sm,by unfold WgAt at hw⊢;grind,by grind[vD]⟩) t H.bound;rw[vD]at u;refine⟨E,u,F,⟨by simp,⟨xF c.size.symm,λb l k=>c.block b λx=>?_,c.os,c.tape,c.out⟩,λ_ _=>rfl,λ_ _ _ _=>rfl,λ_=>rfl,λ_ _ x=>x,λ_ _=>aS _,⟨_,rfl⟩,λq=>⟨rfl,q⟩,λ_ _ _ _=>rfl,λ_ _ _ _ _ _ _ h=>h,rfl,λ_ h=>h⟩,λb _ _ f=>c.block b f⟩;have:=(H.inv.own h b<|m b x).1;grind
theorem Left.rest{O}(L:Left cl (.=h) v v'):Rest h O cl v v':=λb c a _=>L.block b c<|aA<|aA ⟨h,rfl,a⟩
theorem Rest.trans{O}{f}(a:Rest h O cl v v')(hs:v.heap.size<=v')(j:∀b,b<v.heap.size->cl' b=cl b)(b:Rest h O cl' v' f):Rest h O cl v f:=λx d c e=>(b x (cE d hs) (by grind) e).trans<|a x d c e
theorem cP.walk{O Rd:List Nat}{Stop:aX->ay->Prop}(k:∀g w,Stop g w->g.status=dU)(r:role h=Z->h=0):∀(n:Nat){md:Md}{ch:Nat->Option fK}{cl:Nat->fa}{D:Nat->dw}{T:eB}{gs:Array aX}{v:ay}{sl:Option<|Nat×Nat}{a:aX},cP K role h md ch cl who D T gs v->gs[h]?=U a->cK K.P (h==0) (L<|O++Rd) (DH O Rd) Stop n a v->(∀b∈O,b∈(D h).own)->(∀b∈Rd,b<v.heap.size/\(cl b=.own h\/cl b=.eV/\who=.hold h))->(h≠0->7<=(D h).stage)->(D h).deaf=0->∃N md' z cl' D' T' R v' dK a',ik K.P N (dB gs v sl) T=(fW<|dB R v' dK,T')/\R[h]?=U a'/\Stop a' v'/\cP K role h md' z cl' who D' T' R v'/\kD role h md ch cl D T gs v md' z cl' D' T' R v'/\D' h=D h/\Rest h O cl v v'
 |0,md,ch,cl,D,T,gs,v,sl,a,H,QW,J,W,q,Q0,h0=>⟨0,md,ch,cl,D,T,gs,v,sl,a,rfl,QW,J v<|L.refl _ _,H,kD.refl,rfl,λ_ _ _ _=>rfl⟩|n+1,md,ch,cl,D,T,gs,v,sl,a,H,QW,J,W,q,Q0,h0=>by
  rcases J with f|⟨p,e⟩;.exact⟨0,md,ch,cl,D,T,gs,v,sl,a,rfl,QW,f v<|L.refl _ _,H,kD.refl,rfl,λ_ _ _ _=>rfl⟩
  obtain⟨N,ic,pA,s,D1,T1,tP,Q2,d,pY,gH,r1,m,C,H1,B,Q,o⟩:=H.picked QW p sl;have hR:L (O++Rd) v<|Q2.at d:=⟨λb l=>o.block b (by
    rcases agB.1 l with x|x;.exact(H.inv.own h b<|W b x).2
    grind)<|by
    rcases agB.1 l with x|x;.exact aA<|aA ⟨h,rfl,(H.inv.own h b<|W b x).1⟩
    grind,o.size⟩;have u:=e _ hR;cases j:cj K.P (h==0) a (Q2.at d)with|go a2 w2 es=>
   rw[j,goes_go]at u;obtain⟨hd,M⟩:=u;have t:∀b∈O,b∈(D1 h).own:=λb l=>by grind
   have c:∀b∈Rd,b<Q2/\(s b=.own h\/s b=.eV/\who=.hold h):=λb l=>by obtain⟨x,y⟩:=q b l;rw[B.cls b x];exact⟨cE x o.size,y⟩
   obtain⟨r2,H2,E,G2,R2⟩:=(H1.at d).quiet (sl:=gH) C j hd t c r (by grind) (by grind);obtain⟨N3,Q1,X,S,D3,T3,A,v3,I,a3,r3,QX,P,H3,G3,F,R3⟩:=cP.walk k r n (sl:=gH) H2 E M t (λb l=>by rw[hd.size];exact c b l) (by grind) (by grind);have Q3:=(B.trans<|kD.at _ _ _ _ _ _ _ _ _ d).trans G2;refine⟨N+(1+N3),Q1,X,S,D3,T3,A,v3,I,a3,?_,QX,P,H3,Q3.trans G3,F.trans Q,?_⟩;.exact runNT_then r1<|runNT_then (qI<|m.trans r2) r3
   .exact((Left.rest o).trans o.size B.cls R2).trans Q3.left.size Q3.cls R3|_=>rw[j]at u;exact u.elim
variable{ρ eJ:Nat->Nat}{I:H}{fs:Array ep}{nm:String->Bool}{X:fq->Prop}{w w':ay}
structure fL(ρ:Nat->Nat)(I:H)(q:bW)(cl:Nat->fa)(w v:ay):Prop where
 os:v.os=w.os
 fair:Fair ρ q
 low:∀b,b<w.heap.size->ρ b<v.heap.size
 blk:∀b o,w.heap[b]?=U o->I.F b=Y->eF I w.heap.size o=Y/\v.heap[ρ b]?=U (fb ρ o)kx:∀b,w.heap.size<=b->I.F b=Y
 B7:q.globals.size<w.heap.size
 cls:∀b,b<w.heap.size->I.F b=Y->cl (ρ b)=.eV
 arg:∀A,I.arg=U A->(I.F A.g=ai/\ρ A.g=A.g/\w.heap[A.g]?=U (aH A.c A.e A.f)/\v.heap[A.g]?=U (aH A.c' A.e' A.f'))/\cl A.g=.eV
theorem fL.left{q}{sp}(M:fL ρ I q cl w v)(L:Left cl sp v v')(e:∀b,b<v.heap.size->cl' b=cl b):fL ρ I q cl' w v':=⟨L.os.trans M.os,M.fair,λb c=>cE (M.low b c) L.size,λb o c d=>by obtain⟨k,p⟩:=M.blk b o c d;have a:=(je.1 c).1;exact⟨k,(L.block _ (M.low b a)<|ax<|M.cls b a d).trans p⟩,M.kx,M.B7,λb c d=>(e _<|M.low b c).trans<|M.cls b c d,λA l=>by obtain⟨⟨s,m,r,j⟩,f⟩:=M.arg A l;have a:=(je.1 j).1;exact⟨⟨s,m,r,(L.block _ a<|ax f).trans j⟩,(e _ a).trans f⟩⟩
theorem fL.aeI{q}(M:fL ρ I q cl w v):dV ρ I (U w.drawn) w v:=⟨M.os,λi b=>by grind,M.fair.inj,M.blk,M.kx,λA a=>(M.arg A a).1⟩
structure Cz(role:Nat->Option fC)(h:Nat)(md:Md)(ch:Nat->Option fK)(cl:Nat->fa)(D:Nat->dw)(T:eB)(gs:Array aX)(v:ay)(md':Md)(z:Nat->Option fK)(cl':Nat->fa)(D':Nat->dw)(T':eB)(R:Array aX)(v':ay):Prop where
 size:R.size=gs.size
 uT:v.heap.size<=v'.heap.size
 own:∀b,b<v.heap.size->cl b=.own h->v'.heap[b]?=v.heap[b]?
 os:v'.os=v.os
 tape:v'.tape=v.tape
 out:v'.output=v.output
 cls:∀b,b<v.heap.size->cl' b=cl b
 eZ:∀j r,role j=U r->j≠h->z r.aO.c=ch r.aO.c
 md:(∃p,md=.opn p)->md'=md
 iv:∀j,j≠h->(D' j).stage=9->(D j).stage=9
 iu:∀j,j≠h->(D' j).stage<=(D j).stage
 ext:∃u,T'=T++u
 calm:mV role (.=h) ch D->z=ch/\mV role (.=h) z D'
 old:∀b,b<v.heap.size->cl b=.old->v'.heap[b]?=v.heap[b]?
theorem Cz.trans{k}{e}{f}{s}{B}{l}{o}(a:Cz role h md ch cl D T gs v md' z cl' D' T' R v')(b:Cz role h md' z cl' D' T' R v' k e f s B l o):Cz role h md ch cl D T gs v k e f s B l o:=⟨b.size.trans a.size,bC a.uT b.uT,λx c m=>(b.own x (cE c a.uT)<|by rw[a.cls x c];grind).trans<|a.own x c m,b.os.trans a.os,b.tape.trans a.tape,b.out.trans a.out,λx c=>(b.cls x<|cE c a.uT).trans<|a.cls x c,λj r p d=>(b.eZ j r p d).trans<|a.eZ j r p d,λA=>by rw[b.md<|by rw[a.md A];grind,a.md A],λj d x=>a.iv j d<|b.iv j d x,λj d=>bC (b.iu j d)<|a.iu j d,by obtain⟨u,rfl⟩:=a.ext;obtain⟨C,rfl⟩:=b.ext;grind,λq=>let⟨x,y⟩:=a.calm q;let⟨L,t⟩:=b.calm y;⟨L.trans x,t⟩,λx c m=>(b.old x (cE c a.uT)<|by rw[a.cls x c];grind).trans<|a.old x c m⟩
theorem kD.ab1(a:kD role h md ch cl D T gs v md' z cl' D' T' R v')(c:∀b,b<v.heap.size->cl b=.own h->v'.heap[b]?=v.heap[b]?):Cz role h md ch cl D T gs v md' z cl' D' T' R v':=⟨a.size,a.left.size,c,a.left.os,a.left.tape,a.left.out,a.cls,a.eZ,a.qd,a.iv,a.iu,a.ext,a.calm,λx d e=>a.left.block x d<|aA<|ax e⟩
theorem aj1{q:bW}{n}{e}(r:yf ρ I n e)(k:∀b,b<n→I.F b=Y→cl (ρ b)=.eV){B}(f:∀b,b<n→ρ b<B)(o:∀A,I.arg=U A→cl A.g=.eV/\A.g<B):(∀x,(ij e).touch?=U x→zA cl (.hold h) h x)/\(ij e).low B/\(∀a,e.loc≠iq (.release a))/\e.loc≠iq .disable/\e.loc≠iq .enable:=by
  rcases r with⟨b,t,y,p,s⟩|⟨m,u,rfl⟩|⟨A,a,z,E,rfl⟩
  . obtain⟨l,wr,C⟩:=e;subst s;rcases p with⟨a,H,rfl⟩|rfl
    . refine⟨fun x d c j=>?_,?_,by simp,by simp,by simp⟩
      . simp only[Dv,sG,ew]at d;simp only[pC]at j;have:cl (dH ρ a).block=.eV:=by show cl (ρ a.block)=.eV;grind
        grind
      .show ρ a.block<B;grind
    . refine⟨fun x d c j=>?_,?_,by simp,by simp,by simp⟩;.cases wr<;>(simp only[ij,sG]at d;simp only[pC]at j;grind)
      .cases wr<;>exact f b t
  .cases m<;>simp only[X6,oT]at u<;>exact⟨fun x d=>(by cases d),trivial,by simp,by simp,by simp⟩
  . refine⟨fun x d c j=>?_,?_,by simp,by simp,by simp⟩;.simp only[Dv,sG]at d;simp only[pC]at j;grind
    .show a.block<B;grind
inductive Ends(ρ:Nat->Nat)(I:H)(q:bW)(fs:Array ep)(nm:String->Bool)(X:fq->Prop)(b:aZ)(bs B':List aZ)(N:Nat):aX->aX->Prop|back{x x':az}{b':aZ}{Ct:List aZ}(hB:B'=b'::Ct)(hx:RV ρ I N x x'):Ends ρ I q fs nm X b bs B' N (r (b.finish x) bs)<|r (b'.finish x') Ct|cut{f:fq}{mP qC:Array az}{fr fr':aZ}{cs cs':List aZ}(hx:X f\/I.cut f mP.size=Y)(ha:bD ρ I N mP qC)(h:pG ρ I q nm N fr fr')(t:gZ ρ I q nm N cs cs'):Ends ρ I q fs nm X b bs B' N (r (eW (J q fs) f mP eC)<|fr::cs++b::bs)<|r (eW q f qC eC)<|fr'::cs'++B'
theorem cP.aB3(hL:nM I K.P fs nm)(hS:Same I K.P fs nm X)(H:cP K role h md ch cl (.hold h) D T gs v)(oZ:role h=Z->h=0)(gI:h≠0->7<=(D h).stage)(h0:(D h).deaf=0){b:aZ}{bs B':List aZ}(hB:AZ I K.P (h==0) B'){fr fr':aZ}{cs cs':List aZ}(yY:jN ρ I K.P nm w.heap.size fr fr')(iz:gZ ρ I K.P nm w.heap.size cs cs')(ha:gs[h]?=U (r fr'<|cs'++B'))(M:fL ρ I K.P cl w v){f:qD->aX×ay}(hf:∀l:qD,(∃F,cj (J K.P fs) Y (r fr<|cs++b::bs) (World.re w l 0)=bU (f l).1 (f l).2 F)/\¬vz (f l).1)(sl:Option<|Nat×Nat):∃l eJ md' z j cl' D' Q0 o c N d B O v' F,ik K.P N (dB gs v sl) T=(fW<|dB o c B,Q0)/\o[h]?=U (r fr'<|cs'++B')/\stepT K.P (dB o c B)=runT K.P (dB o (c.at d) O) h/\cP K role h md' z j (.hold h) D' Q0 o c/\Cz role h md ch cl D T gs v md' z j D' Q0 o c/\D' h=D h/\(∀x,x<w.heap.size->ρ x=eJ x)/\w.heap.size<=(f l).2.heap.size/\fL eJ I K.P cl' (f l).2 v'/\(∀x,x<w.heap.size->I.F x=ai->(f l).2.heap[x]?=w.heap[x]?)/\(∀x,x<c.heap.size->cl' x=j x)/\c.heap.size<=v'.heap.size/\(∀x,x<c.heap.size->j x≠.eV->v'.heap[x]?=c.heap[x]?)/\v'.os=c.os/\v'.tape=c.tape/\v'.output=c.output/\(∀e∈F,(∀x,(ij e).touch?=U x->zA cl' (.hold h) h x)/\(ij e).low v'.heap.size/\(∀a,e.loc≠iq (.release a))/\e.loc≠iq .disable/\e.loc≠iq .enable)/\∃k,cj K.P (h==0) (r fr'<|cs'++B') (c.at d)=RK.step k v' F/\After eJ I K.P fs nm X b bs B' (f l).2.heap.size (f l).1 k:=by
 obtain⟨N,ic,pA,j,D1,Q0,o,c,d,B,O,r1,R,qZ,H1,G1,Kc,L1⟩:=H.picked ha rfl sl;have L:fL ρ I K.P j w<|c.at d:=(M.left L1 G1.cls).left (Left.at j (λ_=>False) c d) λ_ _=>rfl;let eJ:=rq ρ w.heap.size c.heap.size;let l:qD:=λi=>c.tape<|d+i;have q:∀x,x<w.heap.size->ρ x=eJ x:=λx Q3=>Oo _ _ _ _ Q3;have P:dV eJ I Z (World.re w l 0)<|c.at d:=dV.rq (v':=c.at d) L.aeI L.low rfl (λ_ _ _=>rfl) λ_ _=>rfl;have m:∀i,eJ (w.heap.size+i)=c.heap.size+i:=λi=>akb _ _ _ i;have s:Fair eJ K.P:=Fair.rq M.fair L.low M.B7;have S:vq eJ I Z K.P fs nm X (World.re w l 0)<|c.at d:=⟨hL,hS,s,M.B7,M.kx,P,m⟩;have hs:=V3 (m:=Y) (m':=h==0) (b:=b) (bs:=bs) (B':=B') hB S (yY.re q)<|iz.re q;obtain⟨⟨es0,e0⟩,W⟩:=hf l;rw[e0]at hs;rcases hs with hd|⟨_,Q3⟩;.exact absurd hd.off W
 obtain⟨k,v',F,e1,Q1,C,Q,uX⟩:=Q3 (λ_ hD=>by grind);have fo:v'.heap.size=c.heap.size+((f l).2.heap.size-w.heap.size):=Q.size;have E:w.heap.size<=(f l).2.heap.size:=Q.oM;have u:∀x,x<(f l).2.heap.size->eJ x<v'.heap.size:=λx Q3=>by
  rcases Bs x w.heap.size with p|BQ;.rw[<-q x p];have:=L.low x p;have e:(c.at d).heap.size=c.heap.size:=rfl;omega
  .have:=m<|x-w.heap.size;grind
 let cl':Nat->fa:=λx=>if x<c.heap.size then j x else .eV;have Q2:∀x,x<c.heap.size->cl' x=j x:=λx Q3=>dy Q3;have t:∀x,x<(f l).2.heap.size->I.F x=Y->cl' (eJ x)=.eV:=λx Q3 hF=>by
  rcases Bs x w.heap.size with p|BQ;.rw[<-q x p,Q2 _<|L.low x p];exact L.cls x p hF
  .have:=m<|x-w.heap.size;grind
 have QW:∀A,I.arg=U A->cl' A.g=.eV/\A.g<v'.heap.size:=λA Q1=>by obtain⟨⟨a1,a2,a3,a4⟩,a5⟩:=L.arg A Q1;grind
 refine⟨l,eJ,ic,pA,j,cl',D1,Q0,o,c,N,d,B,O,v',F,r1,qZ,R,H1,G1.ab1 λx Q3 hc=>L1.block x Q3<|aA<|aA ⟨h,rfl,hc⟩,Kc,q,E,⟨C.os,s,u,C.blk,C.kx,cE M.B7 E,t,λA Q1=>⟨C.arg A Q1,(QW A Q1).1⟩⟩,λx Q3 hF=>Q.Of x Q3 hF,Q2,by omega,λx Q3 hn=>?_,Q.os,Q.tape,Q.out,λe he=>aj1 (q:=K.P) (uX e he) t u QW,k,e1,Q1⟩;exact Q.sC x Q3 λy hy hF e=>hn<|by rw[<-e,<-q y hy];exact L.cls y hy hF
def qF(P:bW)(Done:aX->ay->Prop)(x y:aX×ay):Prop:=¬Done y.1 y.2/\∃τ es,cj P Y y.1 (World.re y.2 τ 0)=bU x.1 x.2 es
theorem Term.acc{P}{Done}{g}{w}(t:Term P Done g w):_root_.Acc (qF P Done) (g,w):=by induction t with|done h=>exact _root_.Acc.intro _ λy a=>absurd h a.1|step f h t d=>refine _root_.Acc.intro _ λy a=>?_;obtain⟨_,b,j,e⟩:=a;obtain⟨⟨c,k⟩,_⟩:=h b;grind
theorem cP.tree(hL:nM I K.P fs nm)(hS:Same I K.P fs nm X)(oZ:role h=Z→h=0){b:aZ}{bs B':List aZ}(hB:AZ I K.P (h==0) B'){Done:aX→ay→Prop}(jX:∀fr cs w,¬Done (r fr<|cs++b::bs) w){gl:aX}{w:ay}(t:Term (J K.P fs) Done gl w):∀{ρ:Nat→Nat}{md:Md}{ch:Nat→Option fK}{cl:Nat→fa}{D:Nat→dw}{T:eB}{gs:Array aX}{v:ay}(sl:Option<|Nat×Nat){fr fr':aZ}{cs cs':List aZ},gl=r fr (cs++b::bs)→cP K role h md ch cl (.hold h) D T gs v→(h≠0→7≤(D h).stage)→(D h).deaf=0→jN ρ I K.P nm w.heap.size fr fr'→gZ ρ I K.P nm w.heap.size cs cs'→gs[h]?=U (r fr'<|cs'++B')→fL ρ I K.P cl w v→∃N eJ w' md' z cl' D' T' R v' dK g1,(∀x,x<w.heap.size→ρ x=eJ x)∧w.heap.size≤w'.heap.size∧(∀x,x<w.heap.size→I.F x=ai→w'.heap[x]?=w.heap[x]?)∧Term (J K.P fs) Done g1 w'∧tU (qF (J K.P fs) Done) (g1,w') (gl,w)∧cP K role h md' z cl' (.hold h) D' T' R v'∧Cz role h md ch cl D T gs v md' z cl' D' T' R v'∧D' h=D h∧ik K.P N (dB gs v sl) T=(fW<|dB R v' dK,T')∧((∃Eu,R[h]?=U Eu∧fL eJ I K.P cl' w' v'∧Ends eJ I K.P fs nm X b bs B' w'.heap.size g1 Eu)∨B'=[]∧∃x x' p Q2 es fn pos,g1=r (b.finish x) bs∧RV eJ I w'.heap.size x x'∧stepT K.P (dB R v' dK)=(.ended (.done x') p,iI h fn pos es)∧fL eJ I K.P Q2 w' p∧p.os=v'.os∧p.output=v'.output∧v'.heap.size≤p.heap.size∧(∀x,x<v'.heap.size→Q2 x=cl' x)∧(∀x,x<v'.heap.size→cl' x≠.eV→p.heap[x]?=v'.heap[x]?)∧∀e∈es,(∀x,(ij e).touch?=U x→zA Q2 (.hold h) h x)∧(ij e).low p.heap.size∧(∀a,e.loc≠iq (.release a))∧e.loc≠iq .disable∧e.loc≠iq .enable):=by induction t with|done hd=>grind|@step gl w f hf ht ih=>
    intro ρ md ch cl D T gs v sl fr fr' cs cs' e H gI h0 yY iz ha M;subst e;obtain⟨τ,Pz,Q0,B,gW,lN,D1,T1,tP,v1,N,d,pY,gH,v2,es,r1,qZ,Q,H1,W1,o,O,j,M2,l,P,Q3,c,ah3,ayh,L,A,k,hk,hA⟩:=H.aB3 hL hS oZ gI h0 hB yY iz ha M hf sl;have E:∀g',k=.go g'→∃m,stepT K.P (dB tP v1 pY)=(fW<|dB m v2 gH,iI h fr'.fn (r fr'<|cs'++B').frame.place es)∧m[h]?=U g'∧cP K role h Q0 B lN (.hold h) D1 (T1++iI h fr'.fn (r fr'<|cs'++B').frame.place es) m v2∧Cz role h Q0 B gW D1 T1 tP v1 Q0 B lN D1 (T1++iI h fr'.fn (r fr'<|cs'++B').frame.place es) m v2:=by
      rintro g' rfl;have hWg:K.live=Y→v2.heap[K.Wg]?=v1.heap[K.Wg]?:=fun hl=>by obtain⟨st,sm,hw,ny⟩:=H1.inv.wg hl;exact c _ (pz hw)<|by rw[H1.inv.kE hl];simp
      obtain⟨q1,q2,q3⟩:=(H1.at d).step (sl:=gH) (a:=r fr'<|cs'++B') (a':=g') (es:=es) (x':=D1 h) (md':=Q0) (cl':=lN) (v':=v2) qZ hk Q3 (fun x C hn=>c x C fun hi=>hn<|aA<|aA ⟨hi,rfl⟩) P (fun x C=>by obtain⟨y,QW⟩:=H1.inv.own h x C;exact⟨(P x QW).trans y,cE QW Q3⟩) (fun e he=>⟨(A e he).1,(A e he).2.1⟩) (fun e he=>(A e he).2.2.1 _) (by rw[o,h0];exact deafBehind_still (fun e he=>⟨(A e he).2.2.2.1,(A e he).2.2.2.2⟩) 0) (fun hr hn=>absurd (oZ hr) hn) rfl (fun hl=>let⟨st,sm,hw,ny⟩:=H1.inv.wg hl;⟨st,sm,by unfold WgAt at hw⊢;rw[hWg hl];exact hw,by rw[vD];exact ny⟩) (by rw[o];exact gI) H1.bound;rw[vD]at q2;refine⟨_,Q.trans q1,q3,q2,⟨by simp,Q3,fun x C hc=>c x C<|by rw[hc];simp,ah3,ayh,L,P,fun _ _ _ _=>rfl,fun _=>rfl,fun _ _ x=>x,fun _ _=>aS _,⟨_,rfl⟩,fun q=>⟨rfl,q⟩,fun x C hc=>c x C<|by rw[hc];simp⟩⟩
    have s:qF (J K.P fs) Done ((f τ).1,(f τ).2) (r fr<|cs++b::bs,w):=⟨jX _ _ _,τ,(hf τ).1⟩;generalize W:(f τ).1=g1 at hA s;have F:=ht τ;rw[W]at F;cases hA with|within h1 t1=>obtain⟨m,s1,Q1,H2,W2⟩:=E _ rfl;obtain⟨N3,ρ3,w3,Ml,AI,zm,D3,T3,TM,v3,C7,g3,k1,k2,k3,k4,k0,k5,k6,k7,k8,k9⟩:=ih τ gH W H2 (by rw[o];exact gI) (by rw[o];exact h0) h1 t1 Q1 M2;exact⟨N+(1+N3),ρ3,w3,Ml,AI,zm,D3,T3,TM,v3,C7,g3,fun x C=>(O x C).trans<|k1 x<|cE C j,bC j k2,fun x C hF=>(k3 x (cE C j) hF).trans<|l x C hF,k4,.trans (by rw[←W];rw[←W]at s;exact k0)<|.single s,k5,(W1.trans W2).trans k6,k7.trans o,runNT_then r1<|runNT_then (qI s1) k8,k9⟩|back GG S=>obtain⟨m,s1,Q1,H2,W2⟩:=E _ rfl;exact⟨N+1,Pz,_,Q0,B,lN,D1,_,m,v2,gH,_,O,j,l,F,.single s,H2,W1.trans W2,o,runNT_then r1<|qI s1,ax ⟨_,Q1,M2,.back GG S⟩⟩|fin GG S=>exact⟨N,Pz,_,Q0,B,gW,D1,T1,tP,v1,pY,_,O,j,l,F,.single s,H1,W1,o,r1,aA ⟨GG,_,_,v2,lN,es,_,_,rfl,S,Q.trans<|runT_many_ended qZ hk,M2,ah3,L,Q3,P,c,A⟩⟩|cut S has h1 t1=>obtain⟨m,s1,Q1,H2,W2⟩:=E _ rfl;exact⟨N+1,Pz,_,Q0,B,lN,D1,_,m,v2,gH,_,O,j,l,F,.single s,H2,W1.trans W2,o,runNT_then r1<|qI s1,ax ⟨_,Q1,M2,.cut S has h1 t1⟩⟩
theorem cP.spawn{p:Nat}(S4:K.live=Y)(H:cP K role 0 (.opn<|p+1) ch cl (.hold 0) D T gs v){a a' child:aX}(ha:gs[0]?=U a)(hgo:cj K.P Y a v=.spawn a' child v #[])(r:fC){n:Nat}{O kU:List Nat}(xV:oF K.P K.L K.Wg (U r) gs.size ⟨9,n,O,0⟩ child v)(hn:0<n)(hO:∀b∈O,b∈(D 0).own)(z:∀b∈kU,b∈(D 0).own∧b∉O)(ayG:role gs.size=Z){k:Nat}(u:ch r.aO.c=U ⟨Z,ai,k⟩)(Q:∀j s,role j=U s->s.aO.c≠r.aO.c)(R:∀j s,role j=U s->s.out≠r.out)(Gq:∀O g2 w,r.aO.home O g2 w->r.C∈O∧∃m,cK K.P ai (L O) (DO O) (zG K.P K.L K.Wg r O) m (kN g2<|recvd r.aO.ok r.aO.z ai) w)(hq:∀j s,role j=U s->0<j->(D j).stage=9∧∀M,ch s.aO.c=U M->M.shut=ai)(h0:(D 0).deaf=0)(aiD:∀n',V2 n' (bE (bE D 0 {D 0 with own:=kU}) gs.size ⟨9,n,O,0⟩)<=2):runT K.P (dB gs v sl) 0=(fW<|dB ((gs.setIfInBounds 0 a').push child) v sl,wU gs.size a.frame.fn a.frame.place child.frame.fn)∧cP K (bE role gs.size<|U r) 0 (.opn p) ch (λb=>if b∈O then .own gs.size else cl b) (.hold 0) (bE (bE D 0 {D 0 with own:=kU}) gs.size ⟨9,n,O,0⟩) (T++wU gs.size a.frame.fn a.frame.place child.frame.fn) ((gs.setIfInBounds 0 a').push child) v∧((gs.setIfInBounds 0 a').push child)[0]?=U a'∧((gs.setIfInBounds 0 a').push child).size=gs.size+1:=by
 have I:=H.inv;have hz:=I.zero;have aGZ:gs.size≠0:=by omega
 have q:=alc gs.size a.frame.fn a.frame.place child.frame.fn;have W:=runT_crowd_spawn (P:=K.P) (sl:=sl) (i:=0) ha<|show cj K.P (0==0) a v=_ from hgo;have SQ:((iI 0 a.frame.fn a.frame.place #[]).push {g:=0,fn:=a.frame.fn,pos:=a.frame.place,act:=.go gs.size}).push {g:=gs.size,fn:=child.frame.fn,pos:=a.frame.place,act:=.start}=wU gs.size a.frame.fn a.frame.place child.frame.fn:=rfl;rw[SQ]at W;have eK:∀b,b∉O->(λb=>if b∈O then fa.own gs.size else cl b) b=cl b:=λb E=>if_neg E;have hnO:∀b j,j≠0->cl b=.own j->b∉O:=λb j o E hO'=>by have:=(I.own 0 b<|hO b hO').1;grind
 have hnS:∀b,cl b=.sh->b∉O:=λb E hO'=>by have:=(I.own 0 b<|hO b hO').1;grind
 have fo:((gs.setIfInBounds 0 a').push child).size=gs.size+1:=by simp
 have get:∀j,j≠0->j<gs.size->((gs.setIfInBounds 0 a').push child)[j]?=gs[j]?:=λj o C=>by grind
 have aHT:((gs.setIfInBounds 0 a').push child)[gs.size]?=U child:=by grind
 have aA0:((gs.setIfInBounds 0 a').push child)[0]?=U a':=by grind
 have S:∀j,j≠0->j≠gs.size->bE (bE D 0 {D 0 with own:=kU}) gs.size ⟨9,n,O,0⟩ j=D j:=λj o BM=>by grind[upd_ne]
 have A:bE (bE D 0 {D 0 with own:=kU}) gs.size ⟨9,n,O,0⟩ gs.size=⟨9,n,O,0⟩:=dc _ _ _;have vc:bE (bE D 0 {D 0 with own:=kU}) gs.size ⟨9,n,O,0⟩ 0={D 0 with own:=kU}:=by grind[upd_ne,upd_same]
 have d:∀j,j≠gs.size->bE role gs.size (U r) j=role j:=λj o=>cT role _ o;refine⟨W,⟨⟨λj y F hy=>?_,λj o=>?_,λj o=>?_,?_,λj b E=>?_,λc M hc=>?_,λj s f h9 F=>?_,λj s f h8 F=>?_,λj j' r1 r2 x t h9 h9' hc=>?_,?_,?_,λj s f o l=>?_,?_,λidx op Q0 hn' ht=>?_,by grind,λ_ _ _=>S4⟩,⟨λj s f o F J j2 r2 BJ BI=>?_,λj s M f o F h9 l B=>?_,λj j2 r1 r2 x t o hj0=>?_,λj s f o=>?_,aiD⟩,λj s M f F l=>?_,λp' Q1=>?_⟩,aA0,fo⟩
 ·by_cases e:j=gs.size;·grind[upd_same]
  ·have C:j<gs.size:=by have:=(je.1 hy).1;omega
   rw[get j F C]at hy;rw[d j e,S j F e];exact I.gP j y F hy
 ·rw[q.deaf];by_cases e:j=gs.size;·subst e;rw[A];exact I.above _<|aS _
  ·by_cases N:j=0;·subst N;rw[vc];exact I.deaf 0 hz
   ·rw[S j N e];exact I.deaf j<|by omega
 ·rw[q.deaf];exact I.above j<|by omega
 ·refine Tr.born I.tr (by rw[I.deaf 0 hz];exact h0) (I.above _<|aS _) _ _ _ λb _=>?_;by_cases E:b∈O;·exact aA ⟨(I.own 0 b<|hO b E).1,dy E⟩
  ·exact ax<|if_neg E
 ·by_cases e:j=gs.size;·subst e;rw[A]at E;exact⟨dy E,(I.own 0 b<|hO b E).2⟩
  ·by_cases N:j=0;·subst N;rw[vc]at E;obtain⟨x,t⟩:=z b E;obtain⟨X,h4⟩:=I.own 0 b x;exact⟨(if_neg t).trans X,h4⟩
   ·rw[S j N e]at E;obtain⟨X,h4⟩:=I.own j b E;exact⟨(if_neg<|hnO b j N X).trans X,h4⟩
 ·obtain⟨x,t,X⟩:=I.chan c M hc;exact⟨x,(if_neg<|hnS c t).trans t,X⟩
 ·by_cases e:j=gs.size;·subst e;rw[dc]at f;cases f;rw[A];exact⟨_,u,λh=>by simp only at h;omega⟩
  ·rw[d j e]at f;have Ga:j≠0:=F;rw[S j Ga e]at h9⊢;exact I.oq j s f h9 F
 ·by_cases e:j=gs.size;·subst e;rw[A]at h8;simp at h8
  ·rw[d j e]at f;rw[S j F e]at h8;exact I.out j s f h8 F
 ·have iv:∀j,j≠gs.size->(bE (bE D 0 {D 0 with own:=kU}) gs.size ⟨9,n,O,0⟩ j).stage=9->(D j).stage=9:=λj o J=>by
   by_cases N:j=0;·subst N;rw[vc]at J;exact J
   ·rw[S j N o]at J;exact J
  by_cases e1:j=gs.size<;>by_cases e2:j'=gs.size;·rw[e1,e2]
  ·subst e1;rw[dc]at x;cases x;rw[d j' e2]at t;exact absurd hc.symm<|Q j' r2 t
  ·subst e2;rw[dc]at t;cases t;rw[d j e1]at x;exact absurd hc<|Q j r1 x
  ·rw[d j e1]at x;rw[d j' e2]at t;exact I.uniq j j' r1 r2 x t (iv j e1 h9) (iv j' e2 h9') hc
 ·intro hl;obtain⟨M,sm,hw,x,t,X⟩:=I.wg hl;have N:V2 gs.size (bE (bE D 0 {D 0 with own:=kU}) gs.size ⟨9,n,O,0⟩)=V2 gs.size D:=AM λj o C=>by rw[S j (by omega)<|by omega]
  have hv:V2 (gs.size+1) (bE (bE D 0 {D 0 with own:=kU}) gs.size ⟨9,n,O,0⟩)=V2 gs.size D+1:=by
   have sj:gq gs.size (⟨9,n,O,0⟩:dw)=1:=by unfold gq;rw[dy ⟨by omega,by simp⟩]
   show sumTo gs.size (λi=>gq i<|bE (bE D 0 {D 0 with own:=kU}) gs.size ⟨9,n,O,0⟩ i)+gq gs.size (bE (bE D 0 {D 0 with own:=kU}) gs.size ⟨9,n,O,0⟩ gs.size)=_;rw[A,sj];unfold V2 at N;rw[N];rfl
  refine⟨M,sm,hw,?_⟩;rw[fo];refine⟨λj o C=>?_,?_,X⟩
  ·by_cases e:j=gs.size;·subst e;rw[A];exact ax<|by simp
   ·rw[S j (by omega) e];exact x j o<|by omega
  ·rw[hv,t];congr 1;omega
 ·intro hl;rw[if_neg<|hnS _<|I.kE hl];exact I.kE hl
 ·by_cases e:j=gs.size;·subst e;rw[A]at l;simp at l
  ·rw[d j e]at f;rw[S j (by omega) e]at l;obtain⟨p',Q1⟩:=I.rel j s f o l;exact⟨p',RelBy.quiet Q1 q.1⟩
 ·exact I.norel.app λop Q0=>by simp only[wU,fP,dj,dP,dY]at Q0;rcases Q0 with rfl|rfl<;>simp
 ·rcases Bu Q0 with⟨_,ayR⟩|⟨_,ayQ⟩
  ·refine(I.rA idx op ayR hn' ht).imp id λJ=>?_;by_cases e:op.g=gs.size;·rw[e,dc];rfl
   ·rw[d _ e];exact J
  ·exact absurd (q.1 op ayQ) ht
 ·by_cases e:j=gs.size
  ·subst e;rw[dc]at f;cases f;rw[A]at J;rcases J with J|⟨_,M,l,B⟩;·simp at J
   ·rw[u]at l;cases l;cases B
  ·rw[d j e]at f;rw[S j F e]at J;obtain⟨q1,q2⟩:=hq j s f o;rcases J with J|⟨_,M,l,B⟩;·omega
   ·have:=q2 M l;rw[this]at B;cases B
 ·by_cases e:j=gs.size;·subst e;rw[dc]at f;cases f;rw[u]at l;cases l;cases B
  ·rw[d j e]at f;obtain⟨_,q2⟩:=hq j s f o;have:=q2 M l;rw[this]at B;cases B
 ·by_cases e1:j=gs.size<;>by_cases e2:j2=gs.size;·exact absurd (e1.trans e2.symm) o
  ·subst e1;rw[dc]at x;cases x;rw[d j2 e2]at t;exact R j2 r2 t
  ·subst e2;rw[dc]at t;cases t;rw[d j e1]at x;exactλe=>R j r1 x e.symm
  ·rw[d j e1]at x;rw[d j2 e2]at t;exact H.ga.outs j j2 r1 r2 x t o hj0
 ·by_cases e:j=gs.size;·subst e;rw[dc]at f;cases f;exact Gq
  ·rw[d j e]at f;exact H.ga.end_ j s f o
 ·by_cases e:j=gs.size;·subst e;rw[dc]at f;cases f;rw[u]at l;cases l;exact⟨rfl,λh=>by cases h⟩
  ·rw[d j e]at f;exact H.uE j s M f F l
 ·cases Q1;have:=H.bound (p+1) rfl;omega
end
end Go.Proofs.YtpdbmpbmepkikaaGreatDoor
