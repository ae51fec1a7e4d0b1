/- Laws. -/
import Derived.Conc.Listed
import Derived.Test.YtpdbmpbmepkikaaGreatDoorP01
set_option maxRecDepth 100000
set_option maxHeartbeats 400000
set_option linter.all false
open Array renaming replicate->sH
open Bool renaming true->Z,false->ai
open Decidable renaming decide->cq
open Go renaming method->AT,runtimePanic->AW,Goroutine->aU,Frame->aX,undef->ak,World->av,Value->ay,Program->bU,execOp->cT,Sem->cy,Oper->dD,Func->dV,yielded->dY,TypeId->dZ,Addr->eK,Item->eS,FuncId->fb,Operand->iI,Event->iW,callFunc->iu,zeroValue->kG,MapEntry->l6,doReturn->nC,underlying->oq,boundsPanic->sK,unsupported->ua
open Go.BoundsCode renaming index->zc
open Go.Builtin renaming firstCells->E9,ssaWrapNilChk_->Mg,delete_->Ql,append_->Xl,min_->agQ,max_->agR,copy_->agS,nextslicecap->ay7,len_->x7,zeroCells->zb
open Go.CallKind renaming normal->er
open Go.Code renaming region->dQ,seq->eE
open Go.Deferred renaming ofValue->L9
open Go.Departure renaming mixedOrders->mE
open Go.Extern renaming findNext->Xk
open Go.Fn renaming yield->A0,func->ep
open Go.Frame renaming eval->LL,oper?->LM,round->Xj,enter->eO,pos->oe,finish->sJ
open Go.FrameMode renaming returning->fC
open Go.GStep renaming go->bS,ended->ff,after->ud
open Go.GoStatus renaming running->dM
open Go.Instr renaming next->AX,sameBits->C0,sureAddr->CV,loadAt->CW,entry->Fc,typeAssert->Fi,endRound->Qg,mapUpdate->Qk,takeDeferred->Qn,keyThatStays->Xm,indexAt->wE,fieldAt->x8
open Go.IntKind renaming i64->aH
open Go.Item renaming inRangeFunc->CX,endRangeFunc->Ii,inRegion->aP,code->bD,inBlock->lI
open Go.LoopState renaming ready->CU
open Go.Next renaming value->fV,enter->jr
open Go.Obj renaming map->iP,mapIter->uc,deferred->wG,loop->ze
open Go.Op renaming assign->oh
open Go.Operand renaming tmp->cu,const->gB
open Go.Outcome renaming stuck->jO
open Go.Region renaming wanted->eP,schedule->lZ
open Go.Result renaming ok->aV,halt->dL
open Go.Target renaming collected->Ie
open Go.TypeDesc renaming unsafePointer->Qh
open Go.Unsupported renaming noEntry->wH
open Go.Value renaming slice->aD,pointer->aE,string->aG,tuple->bO,bool->cz,func->dH
open Go.stepG renaming oper->CS,exec->va,apply->vb
open List renaming range->lW
open Option renaming some->U,none->V
open Or renaming inr->aA,inl->ax
open Pure renaming pure->bH
namespace Go.Proofs.YtpdbmpbmepkikaaGreatDoor
def aEf:=@Option.isNone_iff_eq_none
def B2:=@Array.size_map
def JY:=@Array.mem_map
def dn:=@if_pos
def o8:=@Bool.false_ne_true
def acX:=@Array.toList_zip
def kK:=@Bool.or_eq_true
def nT:=@Bool.false_eq_true
def xC:=@Option.bind_some
def iz:=@Array.getD_eq_getD_getElem?
def fO:=@Option.getD_some
def mA:=@List.mem_singleton
def uE:=@List.mem_cons_of_mem
def gU:=@List.forall_mem_cons
def xB:=@Array.getElem?_eq_none
section
variable{ρ:Nat->Nat}{I:H}{q:bU}{fs:Array dV}{N M:Nat}{α β:Type}
theorem Yg(f:ay->ay)(p:ay->ay->Bool):∀(l m:List ay),(∀x∈l,∀y∈m,p (f x) (f y)=p x y)->((l.map f).zip (m.map f)).all (λx=>p x.1 x.2)=(l.zip m).all λx=>p x.1 x.2
 | [],_,_=>by simp
 |_::_,[],_=>by simp
 |x::l,y::m,h=>by simp only[fS,List.zip_cons_cons,List.all_cons];rw[h x (by simp) y (by simp),Yg f p l m λa c b d=>h a (by simp[c]) b (by simp[d])]
theorem abF(c:Fair ρ q)(a b:Option eK):(a.map (dA ρ)==b.map (dA ρ))=(a==b):=by
 cases a<;>cases b<;>try rfl
 rename_i a b;simp only[ey];show(dA ρ a==dA ρ b)=(a==b);exact QH c.inj a b
theorem aoY(h:Fair ρ q)(n):∀(a b),S I N a=Z->S I N b=Z->C0 n (F ρ a) (F ρ b)=C0 n a b:=by
 induction n with
 |zero=>
  intro a b c d;cases a<;>(try (simp[S] at c;done))<;>cases b<;>(try (simp[S] at d;done))<;>simp only[F,C0]
  all_goals grind[abF,S,Option.isNone_iff_eq_none]
 |succ n g=>
  intro a b c d;cases a<;>(try (simp[S] at c;done))<;>cases b<;>(try (simp[S] at d;done))<;>simp only[F,C0]
  ·grind[abF]
  ·grind[S,Option.isNone_iff_eq_none]
  ·grind[S]
  ·have e:=bu.BV (ρ:=ρ) c;have f:=bu.BV (ρ:=ρ) d;rw[e.2,f.2,B2,B2,xE,xE];congr 1;exact Yg (F ρ) (C0 n) _ _ λx j y i=>g x y (e.1 x (by grind)) (f.1 y (by grind))
theorem anR(d:Fair ρ q){a a' b g}(e:RV ρ I N a a')(c:RV ρ I N b g):W ρ I (J q fs) q (RV ρ I) N (Xm a b) (Xm a' g):=by
 unfold Xm;rw[e.2,c.2,aoY d _ _ _ e.1 c.1];split
 ·exact .pure' ⟨c.1,rfl⟩
 ·refine W.bind' (DG _) ?_;rintro M n _ f rfl;refine .pure' ?_;split
  ·exact⟨eX f c.1,rfl⟩
  ·exact⟨eX f e.1,rfl⟩
theorem Ns{r c}{es es'}(a:I.blk N r=Z)(h:jv ρ I N es es'):W ρ I (J q fs) q RU N (setObj r (iP es c)) (setObj (ρ r) (iP es' c)):=by
 have e:iP es' c=eV ρ (iP es c):=by rw[h.2];simp[eV]
 rw[e];exact Jl a (by simpa only[ew,kC] using h.1) (by simp)
theorem jv.modify{es es'}(h:jv ρ I N es es')(i){k k' v v'}(b:RV ρ I N k k')(a:RV ρ I N v v'):
  jv ρ I N (es.modify i λe=>{e with key:=k,val:=v}) (es'.modify i λe=>{e with key:=k',val:=v'}):=by
 refine⟨λe c=>?_,?_⟩
 ·obtain⟨j,d,rfl⟩:=Array.mem_iff_getElem.1 c;rw[Array.getElem_modify];split
  ·simp[pP,b.1,a.1]
  ·exact h.1 _ (Array.getElem_mem _)
 ·rw[h.2,b.2,a.2];refine Array.ext_getElem? λj=>?_;simp only[yM,pS];split
  ·cases es[j]? <;>rfl
  ·rfl
theorem jv.push{es es'}(h:jv ρ I N es es')(c){k k' v v'}(d:RV ρ I N k k')(b:RV ρ I N v v'):jv ρ I N (es.push {key:=k,val:=v,born:=c}) (es'.push {key:=k',val:=v',born:=c}):=by
 refine⟨λe a=>?_,by rw[h.2,Array.map_push,d.2,b.2];rfl⟩
 rcases Array.mem_push.1 a with a|rfl
 ·exact h.1 e a
 ·simp[pP,d.1,b.1]
theorem jv.atD{es es'}(h:jv ρ I N es es')(i:Nat){k k'}(c:RV ρ I N k k'):RV ρ I N (((es[i]?).map (·.key)).getD k) (((es'[i]?).map (·.key)).getD k'):=by
 rw[h.2,pS];cases b:es[i]? with
 |none=>exact c
 |some e=>
  have:=h.1 e (tI b);simp only[pP,cS] at this;exact⟨this.1,rfl⟩
theorem ZM(g:Fair ρ q)(t){m m' k k' v v'}(A:RV ρ I N m m')(f:RV ρ I N k k')(h:RV ρ I N v v'):W ρ I (J q fs) q RU N (Qk t m k v) (Qk t m' k' v'):=by
 unfold Qk;refine W.bind' (gq t) ?_;rintro M d _ D rfl;cases d<;>try exact T _ _
 rename_i w j;obtain⟨p,rfl⟩:=A;cases m<;>try exact T _ _
 rename_i r;cases r with
 |none=>grind[FY]
 |some r=>
  simp only[F,ey];have n:I.blk M r=Z:=H.eu (by grind[S]) D
  refine W.bind' (uA n) ?_;rintro K o z G ⟨R,rfl⟩;cases o<;>try exact T _ _
  rename_i l c;simp only[eV];have b:jv ρ I K l (l.map (ko ρ)):=⟨by grind[ew,Array.all_eq_true_iff_forall_mem],rfl⟩
  refine W.bind' (NB _ _ _ _ _ _ (f.mono (by omega))) ?_
  rintro L _ _ u _;refine W.bind' (SR g _ (f.mono (by omega)) (b.mono u)) ?_
  rintro O o z Q0 ⟨B,rfl⟩;have e:I.blk O r=Z:=by grind[H.eu]
  cases o with
  |none=>
   exact Ns e ((b.mono (by omega)).push c (f.mono (by omega)) (h.mono (by omega)))
  |some x=>
   obtain⟨i,y⟩:=x;simp only[ey];refine W.bind' (anR g ((b.mono (by omega)).atD i (f.mono (by omega))) (f.mono (by omega))) ?_
   rintro P a E C s;exact Ns (H.eu e C) ((b.mono (by omega)).modify i s (h.mono (by omega)))
theorem an1(v:Fair ρ q)(n)(t){j f}(A:bu ρ I N j f):W ρ I (J q fs) q (RV ρ I) N (Ql n t j) (Ql n t f):=by
 unfold Ql;cases n[0]? with
 |none=>grind[T]
 |some mt=>
 cases G:j[0]? with
 |none=>grind[T]
 |some m=>
 cases R:j[1]? with
 |none=>grind[T]
 |some k=>
 obtain⟨Q2,D⟩:=A.get G;obtain⟨p,C⟩:=A.get R;rw[D,C];dsimp only;refine W.bind' (gq mt) ?_;rintro M d _ B rfl;cases d<;>try exact T _ _
 rename_i Q1 QY;have u:RV ρ I N k (F ρ k):=⟨p,rfl⟩;have b:∀K (s w:cy Unit),W ρ I (J q fs) q RU K s w->W ρ I (J q fs) q (RV ρ I) K (do s;bH (bO #[])) (do w;bH (bO #[])):=λK s w h=>
  W.bind' h λL _ _ _ _=>.pure' (RV.plain rfl)
 cases m<;>try exact .dead (z.bind (.halt _) _)
 rename_i r;cases r with
 |none=>exact b M _ _ (NB _ _ _ _ _ _ (u.mono B))
 |some r=>
  simp only[F,ey];have E:I.blk M r=Z:=H.eu (by grind[S]) B
  refine W.bind' (uA E) ?_;rintro K o P Q0 ⟨QX,rfl⟩;cases o<;>try exact .dead (z.bind (.halt _) _)
  rename_i l c;simp only[eV];have a:jv ρ I K l (l.map (ko ρ)):=⟨by grind[ew,Array.all_eq_true_iff_forall_mem],rfl⟩
  rw[a.isEmpty];refine W.bind' (NB _ _ _ _ _ _ (u.mono (by omega))) ?_
  rintro L _ _ Q3 _;refine W.bind' (SR v _ (u.mono (by omega)) (a.mono Q3)) ?_
  rintro O o P X ⟨Q,rfl⟩;have g:I.blk O r=Z:=by grind[H.eu]
  cases o with
  |none=>exact b O _ _ (Ns g (a.mono (by omega)))
  |some x=>
   obtain⟨i,y⟩:=x;simp only[ey];refine b O _ _ (Ns g ?_);have h:=a.mono (M:=O) (by omega)
   unfold Array.eraseIdxIfInBounds;by_cases hi:i<l.size
   ·rw[dif_pos hi,dif_pos (by grind)]
    refine⟨λe QW=>h.1 e (Array.mem_of_mem_eraseIdx QW),?_⟩
    grind
   grind
theorem SH(c:∀b,N<=b->I.F b=Z){o}(d:ew I N o=Z):W ρ I (J q fs) q (RV ρ I) N (do bH (aE (U ⟨<-newObj o,0,V⟩))) (do bH (aE (U ⟨<-newObj (eV ρ o),0,V⟩))):=by refine W.bind' (F0 (c N (aW _)) d) ?_;rintro L r f g ⟨rfl,_,rfl,e⟩;exact .pure' (RV.ptr ⟨e,rfl⟩)
theorem ans(f:∀b,N<=b->I.F b=Z)(t){x x'}(l:RV ρ I N x x'):W ρ I (J q fs) q (RV ρ I) N (Instr.range t x) (Instr.range t x'):=by
 refine W.bind' (gq t) ?_;rintro M d _ j rfl;obtain⟨g,rfl⟩:=l;cases d<;>try exact .dead (z.bind (.halt _) _)
 case string=>
  cases x<;>try exact .dead (z.bind (.halt _) _)
  rename_i s;have:=SH (ρ:=ρ) (q:=q) (fs:=fs) (N:=M) (λb i=>f b (by omega)) (o:=.stringIter s 0) (by simp[ew])
  exact this
 case map k e=>
  cases x<;>try exact .dead (z.bind (.halt _) _)
  rename_i r;cases r with
  |none=>
   have:=SH (ρ:=ρ) (q:=q) (fs:=fs) (N:=M) (λb i=>f b (by omega)) (o:=uc V 0 #[] 0) (by simp[ew])
   exact this
  |some m=>
   have h:=H.eu (by simpa[S] using g) j
   refine W.bind' (uA h) ?_;rintro K o v n ⟨p,rfl⟩;cases o<;>try exact .dead (z.bind (.halt _) _)
   rename_i u c;have:=SH (ρ:=ρ) (q:=q) (fs:=fs) (N:=K) (λb i=>f b (by omega)) (o:=uc (U m) c #[] c) (by simpa[ew] using H.eu h n)
   exact this
theorem axQ(p)(b:∀e,p (ko ρ e)=p e)(es:Array l6):(es.map (ko ρ)).filter p=(es.filter p).map (ko ρ):=by rw[Array.filter_map];congr 1;exact congrArg (λf=>es.filter f) (funext b)
theorem jv.filter{es es'}(h:jv ρ I N es es')(p)(c:∀e,p (ko ρ e)=p e):jv ρ I N (es.filter p) (es'.filter p):=
 ⟨λe b=>h.1 e (Array.mem_filter.1 b).1,by rw[h.2,axQ p c]⟩
theorem jv.append{es es' c b}(h:jv ρ I N es es')(k:jv ρ I N c b):jv ρ I N (es++c) (es'++b):=
 ⟨λe d=>(Aj.1 d).elim (h.1 e) (k.1 e),by rw[h.2,k.2,Array.map_append]⟩
theorem anx(ty:dZ)(i:Bool){x x':ay}(E:RV ρ I N x x'):W ρ I (J q fs) q (RV ρ I) N (AX x i ty) (AX x' i ty):=by
 unfold AX;obtain⟨QX,rfl⟩:=E;cases x<;>try exact T _ _
 rename_i a;cases a with
 |none=>grind[T]
 |some a=>
 obtain⟨r,B,QY⟩:=a;cases B with
 |succ _=>grind[T]
 |zero=>
 have QW:I.blk N r=Z:=by simpa[S] using QX
 have k:∀K,W ρ I (J q fs) q (RV ρ I) K (bH (bO #[cz ai])) (bH (bO #[cz ai])):=λK=>.pure' (RV.plain rfl);simp only[F,ey,dA];refine W.bind' (uA QW) ?_;rintro M o Q2 Qw ⟨Q3,rfl⟩;have Qx:I.blk M r=Z:=H.eu QW Qw;cases o<;>try exact T _ _
 case stringIter s pos=>
  cases i with
  |false=>grind[T]
  |true=>
   simp only[eV];split
   ·refine W.bind' (Jl (o:=.stringIter s (pos+(Utf8.decode s pos).2)) Qx (by simp[ew]) (by simp)) ?_
    rintro K _ _ R _;exact .pure' (RV.plain rfl)
   grind
 case mapIter m since seen last=>
  cases i with
  |true=>grind[T]
  |false=>
  cases m with
  |none=>exact k M
  |some m=>
   simp only[eV,ey];have P:I.blk M m=Z:=by simpa[ew] using Q3
   refine W.bind' (uA P) ?_;rintro K o Q2 R ⟨D,rfl⟩;cases o<;>try exact T _ _
   rename_i l p;simp only[eV];have t:jv ρ I K l (l.map (ko ρ)):=⟨by simpa only[ew,kC] using D,rfl⟩
   generalize b:l.map (ko ρ)=h at t⊢;have Q1:(!seen.isEmpty&& !h.isEmpty&&h.all (·.born≥last))=(!seen.isEmpty&& !l.isEmpty&&l.all (·.born≥last)):=by rw[t.isEmpty,<-b,Array.all_map];rfl
   rw[Q1];split
   ·exact .dead (z.bind (.halt _) _)
   ·have G:=t.filter (λe=> !seen.contains e.born) λe=>rfl;have c:=G.filter (·.born<since) λe=>rfl;have f:=G.filter (·.born≥since) λe=>rfl;have w:=c.append f;generalize((l.filter λe=> !seen.contains e.born).filter (·.born<since))=d at c w⊢;generalize((h.filter λe=> !seen.contains e.born).filter (·.born<since))=j at c w⊢;generalize((l.filter λe=> !seen.contains e.born).filter (·.born≥since))=v at f w⊢;generalize((h.filter λe=> !seen.contains e.born).filter (·.born≥since))=A at f w⊢;have X:((if j.isEmpty=Z then #[V] else #[])++(j++A).map U:Array (Option l6))=((if d.isEmpty=Z then #[V] else #[])++(d++v).map U).map λo:Option l6=>o.map (ko ρ):=by rw[c.isEmpty,w.2];split<;>simp<;>rfl
    have y:∀e,U e∈((if d.isEmpty=Z then #[V] else #[])++(d++v).map U:Array (Option l6))->pP I K e=Z:=λe g=>by
     rcases Aj.1 g with g|g
     ·split at g<;>simp at g
     ·obtain⟨e',C,E⟩:=JY.1 g;cases E;exact w.1 _ C
    rw[X];generalize((if d.isEmpty=Z then #[V] else #[])++(d++v).map U:Array (Option l6))=u at y⊢
    rw[B2];refine W.bind' (DG _) ?_;rintro L n _ QZ rfl;rw[pS];cases Q0:u[n]? with
    |none=>exact T _ _
    |some o=>
     cases o with
     |none=>exact k L
     |some e=>
      have g:=abS QZ (y e (tI Q0));simp only[pP,cS] at g;simp only[ey];refine W.bind' (Jl (o:=uc (U m) since (seen.push e.born) p) (H.eu Qx (by omega)) (by simpa[ew] using H.eu P (by omega)) (by simp)) ?_
      rintro O _ _ Q _;refine .pure' (RV.tuple (vs:= #[cz Z,e.key,e.val]) (vs':= #[cz Z,(ko ρ e).key,(ko ρ e).val]) ?_);exact((bu.nil.push (RV.plain rfl)).push ⟨eX Q g.1,rfl⟩).push ⟨eX Q g.2,rfl⟩
theorem axN(p)(b:∀e,p (ko ρ e)=p e)(es:Array l6):(es.map (ko ρ)).find? p=(es.find? p).map (ko ρ):=by rw[Array.find?_map];congr 1;exact congrArg (λf=>es.find? f) (funext b)
theorem anX{x x':ay}(s:RV ρ I N x x'):W ρ I (J q fs) q (RV ρ I) N (Fc x) (Fc x'):=by
 unfold Fc;obtain⟨j,rfl⟩:=s;cases x<;>try grind[T]
 rename_i a;cases a with
 |none=>grind[T]
 |some a=>
 obtain⟨r,h,n⟩:=a;cases h with
 |succ _=>grind[T]
 |zero=>
 have t:I.blk N r=Z:=by simpa[S] using j
 simp only[F,ey,dA];refine W.bind' (uA t) ?_;rintro M o v A ⟨p,rfl⟩;cases o<;>try exact T _ _
 rename_i m i f g;cases m with
 |none=>grind[T]
 |some m=>
  simp only[eV,ey];have w:I.blk M m=Z:=by simpa[ew] using p
  cases f.back? with
  |none=>grind[T]
  |some c=>
  refine W.bind' (uA w) ?_;rintro K o v P ⟨d,rfl⟩;cases o<;>try exact T _ _
  rename_i u l;simp only[eV];split
  ·exact .dead (z.bind (.halt _) _)
  ·rw[axN (ρ:=ρ) (λe=>e.born==c) (λe=>rfl)];cases y:u.find? (λe=>e.born==c) with
   |none=>exact ik _ _
   |some e=>
    simp only[ew,kC] at d;have k:=d e (Array.mem_of_find?_eq_some y);simp only[pP,cS] at k;refine .pure' (RV.tuple (vs:= #[e.key,e.val]) (vs':= #[(ko ρ e).key,(ko ρ e).val]) ?_);exact(bu.nil.push ⟨k.1,rfl⟩).push ⟨k.2,rfl⟩
theorem anb (r : ru q) (n b : dZ) (g : Bool) {x x' : ay} (l : RV ρ I N x x') : W ρ I (J q fs) q (RV ρ I) N (Fi x n b g) (Fi x' n b g) := by
  unfold Fi
  have e : ∀ K (v f : ay), RV ρ I K v f → W ρ I (J q fs) q (RV ρ I) K (bH (if g then bO #[v, cz Z] else v)) (bH (if g then bO #[f, cz Z] else f)) := fun K v f h => by
    split
    · exact .pure' (RV.tuple (vs := #[v, cz Z]) (vs' := #[f, cz Z]) ((bu.nil.push h).push (RV.plain rfl)))
    · exact .pure' h
  have c : ∀ K (s d : Option dZ) (m : String), W ρ I (J q fs) q (RV ρ I) K
      (if g = Z then do bH (bO #[← kG b, cz ai]) else AW (.typeAssertion s d b m) : cy ay)
      (if g = Z then do bH (bO #[← kG b, cz ai]) else AW (.typeAssertion s d b m) : cy ay) := fun K s d m => by
    split
    · refine W.bind' (By r b) ?_
      rintro L v f t ⟨h, _⟩
      exact .pure' (RV.tuple (vs := #[v, cz ai]) (vs' := #[f, cz ai]) ((bu.nil.push h).push (RV.plain rfl)))
    grind[FY]
  refine W.bind' (gq b) ?_
  rintro M d _ o rfl
  have j := l.mono o
  obtain ⟨k, rfl⟩ := l
  cases x <;> cases d <;> first
    | exact T _ _
    | exact c M _ _ _
    | (simp only [F]
       split
       · exact e M _ _ ⟨eX o (by simpa [S] using k), rfl⟩
       · exact c M _ _ _)
    | (refine W.bind' (qp _) ?_
       rintro K i _ p ⟨rfl, _⟩
       split
       · exact e K _ _ (j.mono p)
       · exact c K _ _ _)
theorem ZR (c : Array dZ) (t : dZ) {B A : Array ay} (i : bu ρ I N B A) : W ρ I (J q fs) q (RV ρ I) N (x7 c t B) (x7 c t A) := by
  unfold x7
  cases c[0]? with
  | none => grind[T]
  | some t =>
  cases h : B[0]? with
  | none => grind[T]
  | some x =>
  obtain ⟨b, g⟩ := i.get h
  rw [g]
  dsimp only
  refine W.bind' (gq t) ?_
  rintro M d _ k rfl
  have f : ∀ K (n : Nat), W ρ I (J q fs) q (RV ρ I) K (bH (goInt n)) (bH (goInt n)) := fun K n => .pure' (RV.plain rfl)
  rcases x with v | ⟨u, m⟩ | ⟨_, _⟩ | ⟨_, _, _⟩ | l | _ | ⟨_, _, _⟩ | (_ | r) | (_ | r) | ⟨_, _, _⟩ | _ | ⟨_, _⟩ | _ | _ | _ <;> (try (simp [S] at b; done)) <;> cases d <;> first
    | exact T _ _
    | exact f M _
    | (refine W.bind' (gq _) ?_
       rintro K e _ j rfl
       grind[T])
    | (simp only [F, ey]
       refine W.bind' (uA (H.eu (by simpa [S] using b) k)) ?_
       rintro K o s j ⟨p, rfl⟩
       cases o <;> first
         | grind[T]
         | (simp only [eV, B2]; exact f K _))
theorem SK{x x'}(b:RV ρ I N x x'):W ρ I (J q fs) q RD N (Builtin.lenOf x) (Builtin.lenOf x'):=by obtain⟨c,rfl⟩:=b;cases x<;>first|exact .pure rfl|exact T _ _
theorem SQ (s n ) {x x' } (e : RV ρ I N x x') : W ρ I (J q fs) q (bu ρ I) N (E9 s n x) (E9 s n x') := by
  obtain ⟨c, rfl⟩ := e
  rcases x with f | ⟨i, h⟩ | ⟨_, _⟩ | ⟨_, _, _⟩ | g | _ | ⟨(_ | a), _, _⟩ | (_ | r) | (_ | r) | ⟨_, _, _⟩ | _ | ⟨_, _⟩ | _ | _ | _ <;> first
    | exact T _ _
    | exact .pure bu.nil
    | exact Nu ⟨by simpa [S] using c, rfl⟩ _
    | (refine .pure (bu.plain fun v d => ?_)
       obtain ⟨_, _, rfl⟩ := JY.1 d
       rfl)
theorem bu.zeroCells{v}(h:n v=Z)(a):bu ρ I N (zb v.cells a) (zb v.cells a):=by
 unfold zb
 grind[bu.plain,Tp,JA]
theorem aoi(hF:∀b,N<=b->I.F b=Z)(hz:ru q)(ts:Array dZ)(t:dZ){QZ A:Array ay}(ha:bu ρ I N QZ A):W ρ I (J q fs) q (RV ρ I) N (Xl ts t QZ) (Xl ts t A):=by
 unfold Xl;cases ts[0]? with
 |none=>grind[T]
 |some st=>
 cases h0:QZ[0]? with
 |none=>grind[T]
 |some s=>
 cases h1:QZ[1]? with
 |none=>grind[T]
 |some x=>
 obtain⟨Cg,e0⟩:=ha.get h0;obtain⟨nZ,e1⟩:=ha.get h1;rw[e0,e1];dsimp only;refine W.bind' (gq st) ?_;rintro M d _ hM rfl;cases d<;>try exact T _ _
 rename_i e;cases s<;>try exact T _ _
 rename_i r f k;simp only[F];have Q1:RV ρ I N x (F ρ x):=⟨nZ,rfl⟩;have Vt:RV ρ I N (aD r f k) (aD (r.map (dA ρ)) f k):=⟨Cg,rfl⟩;refine W.bind' (mq e) ?_;rintro K g _ hK rfl;have w:∀(L:Nat) (p:Bool) (n:Nat),K<=L->W ρ I (J q fs) q (RV ρ I) L
   (let m:cy (Array ay):=
     if !p then E9 g n x
     else if n*g=0 then bH #[]
     else do bH (zb (<-kG e).cells n)
    let j:=f+n
    if j<=k then do
     let u<-m
     if let U a:=r then storeCells (a.add (f*g)) u.toList
     bH (aD r j k)
    else do
     if(j:Int)>aH.max∧(p∨(<-typeInfo e).bytes=0) then AW (.error "growslice: len out of range")
     if ay7 j k*(<-typeInfo e).bytes>2^48 then(if p then AW (.error "growslice: len out of range") else do
      if !(<-Builtin.mayShare g f n r x) then mark .noRoom
      ua (.resourceLimit "append: a slice or a string whose bytes no memory bears"))
     let o<-choose (.appendCap j k e)
     askRoom (o*(<-typeInfo e).bytes)
     let C<-E9 g f (aD r f k)
     let u<-m
     let y:=zb (<-kG e).cells (o-j)
     bH (aD (U (<-newRow e (C++u++y))) j o):cy ay)
   (let m:cy (Array ay):=
     if !p then E9 g n (F ρ x)
     else if n*g=0 then bH #[]
     else do bH (zb (<-kG e).cells n)
    let j:=f+n
    if j<=k then do
     let u<-m
     if let U a:=r.map (dA ρ) then storeCells (a.add (f*g)) u.toList
     bH (aD (r.map (dA ρ)) j k)
    else do
     if(j:Int)>aH.max∧(p∨(<-typeInfo e).bytes=0) then AW (.error "growslice: len out of range")
     if ay7 j k*(<-typeInfo e).bytes>2^48 then(if p then AW (.error "growslice: len out of range") else do
      if !(<-Builtin.mayShare g f n (r.map (dA ρ)) (F ρ x)) then mark .noRoom
      ua (.resourceLimit "append: a slice or a string whose bytes no memory bears"))
     let o<-choose (.appendCap j k e)
     askRoom (o*(<-typeInfo e).bytes)
     let C<-E9 g f (aD (r.map (dA ρ)) f k)
     let u<-m
     let y:=zb (<-kG e).cells (o-j)
     bH (aD (U (<-newRow e (C++u++y))) j o):cy ay):=λL p n hL=>by
  have D:∀(O:Nat),L<=O->W ρ I (J q fs) q (bu ρ I) O
    (if !p then E9 g n x
     else if n*g=0 then bH #[]
     else do bH (zb (<-kG e).cells n):cy (Array ay))
    (if !p then E9 g n (F ρ x)
     else if n*g=0 then bH #[]
     else do bH (zb (<-kG e).cells n):cy (Array ay)):=λO hO=>by
   split
   ·exact SQ _ _ (Q1.mono (by omega))
   ·split
    ·exact .pure' bu.nil
    ·refine W.bind' (By hz e) ?_;rintro P v v' hP ⟨hv,R⟩;refine .pure' ?_;rw[hv.2,(rP (ρ:=ρ) (I:=I) (N:=P) R).2];exact bu.zeroCells R n
  dsimp only;by_cases hn:f+n<=k
  ·rw[dn hn,dn hn];refine W.bind' (D L (aW _)) ?_;rintro O u c hO B;cases r with
   |none=>exact .pure' (RV.plain rfl)
   |some a=>
    have QX:RA ρ I N a (dA ρ a):=⟨by simpa[S] using Cg,rfl⟩
    simp only[ey];refine W.bind' (Sz 0 ((QX.mono (by omega)).add (f*g)) B) ?_
    rintro P _ _ hP _;exact .pure' ⟨by simpa[S] using H.eu QX.1 (by omega),rfl⟩
  ·rw[if_neg hn,if_neg hn];refine W.bind' (qp e) ?_;rintro O i _ hO ⟨rfl,hi⟩;split
   ·exact .dead (z.bind (kQ _ _) _)
   ·refine W.bind' (qp e) ?_;rintro P i _ hP ⟨rfl,hi⟩;split
    ·refine .dead (z.bind ?_ _);split
     ·exact kQ _ _
     ·refine z.then _ λb=>?_;split
      ·exact z.then _ λ_=>.halt _
      ·exact .halt _
    ·refine W.bind' (DG _) ?_;rintro Q Q3 _ hQ rfl;refine W.bind' (qp e) ?_;rintro QY i _ hS ⟨rfl,hi⟩;refine W.bind' (aaj _) ?_;rintro QZ _ _ hT _;refine W.bind' (SQ _ _ (Vt.mono (by omega))) ?_
     rintro QW C aDL hU hold;refine W.bind' (D QW (by omega)) ?_
     rintro Q0 u c hV B;refine W.bind' (By hz e) ?_;rintro Q2 Qw z' hW ⟨hzv,R⟩;have E:bu ρ I Q2 (zb Qw.cells (Q3-(f+n))) (zb z'.cells (Q3-(f+n))):=by rw[hzv.2,(rP (ρ:=ρ) (I:=I) (N:=Q2) R).2];exact bu.zeroCells R _
     refine W.bind' (FZ (λb hb=>hF b (by omega)) e (((hold.mono (by omega)).append (B.mono (by omega))).append E)) ?_
     rintro X a a' hX QX;exact .pure' ⟨by simpa[S] using QX.1,by rw[QX.2];simp[F]⟩
 cases ts[1]? with
 |none=>
  refine W.bind' (R:=RD) (.pure' rfl) ?_;rintro P Qw _ hP rfl;cases Qw with
  |true=>
   rw[dn rfl,dn rfl];refine W.bind' (F3 (Q1.mono (by omega))) ?_
   rintro L l _ hL rfl;by_cases h:aH.wrap l<0
   ·refine .dead ?_;rw[dn h];exact z.bind (kQ _ _) _
   ·rw[if_neg h,if_neg h];refine W.bind' (qp e) ?_;rintro Q i _ hQ ⟨rfl,hi⟩;by_cases G:aH.wrap l* ↑i.bytes>2^48
    ·refine .dead ?_;rw[dn G];exact z.then _ λ_=>z.bind (kQ _ _) _
    ·rw[if_neg G,if_neg G];exact w Q Z (aH.wrap l).toNat (by omega)
  |false=>
   rw[if_neg o8,if_neg o8];refine W.bind' (SK (Q1.mono (by omega))) ?_
   rintro L n _ hL rfl;exact w L ai n (by omega)
 |some xt=>
  refine W.bind' (gq xt) ?_;rintro O d _ hO rfl;refine W.bind' (R:=RD) (.pure' rfl) ?_;rintro P Qw _ hP rfl;cases Qw with
  |true=>
   rw[dn rfl,dn rfl];refine W.bind' (F3 (Q1.mono (by omega))) ?_
   rintro L l _ hL rfl;by_cases h:aH.wrap l<0
   ·refine .dead ?_;rw[dn h];exact z.bind (kQ _ _) _
   ·rw[if_neg h,if_neg h];refine W.bind' (qp e) ?_;rintro Q i _ hQ ⟨rfl,hi⟩;by_cases G:aH.wrap l* ↑i.bytes>2^48
    ·refine .dead ?_;rw[dn G];exact z.then _ λ_=>z.bind (kQ _ _) _
    ·rw[if_neg G,if_neg G];exact w Q Z (aH.wrap l).toNat (by omega)
  |false=>
   rw[if_neg o8,if_neg o8];refine W.bind' (SK (Q1.mono (by omega))) ?_
   rintro L n _ hL rfl;exact w L ai n (by omega)
theorem an3(h:Array dZ)(t:dZ){R A:Array ay}(m:bu ρ I N R A):W ρ I (J q fs) q (RV ρ I) N (agS h t R) (agS h t A):=by
 unfold agS;cases h[0]? with
 |none=>grind[T]
 |some w=>
 cases v:R[0]? with
 |none=>grind[T]
 |some s=>
 cases B:R[1]? with
 |none=>grind[T]
 |some x=>
 obtain⟨j,u⟩:=m.get v;obtain⟨i,r⟩:=m.get B;rw[u,r];dsimp only;refine W.bind' (gq w) ?_;rintro M d _ z rfl;cases d<;>try grind[T]
 rename_i e;cases s<;>try exact T _ _
 rename_i c o l;simp only[F];have k:RV ρ I N x (F ρ x):=⟨i,rfl⟩;refine W.bind' (SK (k.mono z)) ?_;rintro K n _ D rfl;refine W.bind' (mq e) ?_;rintro L p _ E rfl;refine W.bind' (SQ _ _ (k.mono (by omega))) ?_
 rintro O g f G y;cases c with
 |none=>exact .pure' (RV.plain rfl)
 |some a=>
  have C:RA ρ I N a (dA ρ a):=⟨by simpa[S] using j,rfl⟩
  simp only[ey];refine W.bind' (Sz 0 (C.mono (by omega)) y) ?_
  rintro P _ _ H _;exact .pure' (RV.plain rfl)
theorem SP{f}(d:∀N x y,S I N x=Z->S I N y=Z->W ρ I (J q fs) q (RV ρ I) N (f x y) (f (F ρ x) (F ρ y))):∀(l:List ay) (N) (x),S I N x=Z->(∀y∈l,S I N y=Z)->
  W ρ I (J q fs) q (RV ρ I) N (l.foldlM f x) ((l.map (F ρ)).foldlM f (F ρ x))
 | [],N,x,c,_=>.pure' ⟨c,rfl⟩
 |y::l,N,x,c,h=>by
  refine W.bind' (d N x y c (h y (by simp))) ?_
  rintro M v j g ⟨e,rfl⟩;exact SP d l M v e λz i=>eX g (h z (by grind))
theorem anF(N)(x y)(j:S I N x=Z)(b:S I N y=Z):W ρ I (J q fs) q (RV ρ I) N (Builtin.max2 x y) (Builtin.max2 (F ρ x) (F ρ y)):=by
 rcases x with d|⟨m,g⟩|⟨_,_⟩|⟨_,_,_⟩|f|(_|c)|⟨_,_,_⟩|_|_|⟨_,_,_⟩|_|⟨_,_⟩|_|_|_<;>
  rcases y with e|⟨h,i⟩|⟨_,_⟩|⟨_,_,_⟩|k|(_|l)|⟨_,_,_⟩|_|_|⟨_,_,_⟩|_|⟨_,_⟩|_|_|_<;>(try (simp[S] at b))<;>first
  |exact T _ _
  |exact ik _ _
  |exact .pure (RV.plain rfl)
theorem anA(N)(x y)(j:S I N x=Z)(b:S I N y=Z):W ρ I (J q fs) q (RV ρ I) N (Builtin.min2 x y) (Builtin.min2 (F ρ x) (F ρ y)):=by
 rcases x with d|⟨m,g⟩|⟨_,_⟩|⟨_,_,_⟩|f|(_|c)|⟨_,_,_⟩|_|_|⟨_,_,_⟩|_|⟨_,_⟩|_|_|_<;>
  rcases y with e|⟨h,i⟩|⟨_,_⟩|⟨_,_,_⟩|k|(_|l)|⟨_,_,_⟩|_|_|⟨_,_,_⟩|_|⟨_,_⟩|_|_|_<;>(try (simp[S] at b))<;>first
  |exact T _ _
  |exact ik _ _
  |exact .pure (RV.plain rfl)
theorem anG(d)(t){c b}(e:bu ρ I N c b):W ρ I (J q fs) q (RV ρ I) N (agR d t c) (agR d t b):=by
 unfold agR;rw[e.2,xE];have:=e.1;cases g:c.toList with
 |nil=>grind[T]
 |cons x l=>
  have h:∀v∈x::l,S I N v=Z:=λv f=>this v (by grind)
  grind[SP,anF]
theorem anB(d)(t){c b}(e:bu ρ I N c b):W ρ I (J q fs) q (RV ρ I) N (agQ d t c) (agQ d t b):=by
 unfold agQ;rw[e.2,xE];have:=e.1;cases g:c.toList with
 |nil=>grind[T]
 |cons x l=>
  have h:∀v∈x::l,S I N v=Z:=λv f=>this v (by grind)
  grind[SP,anA]
inductive Be(ρ:Nat->Nat)(I:H)(N:Nat):Place->Place->Prop
 |val {v v':ay} (h:RV ρ I N v v'):Be ρ I N (.val v) (.val v')
 |var {a a':eK} (h:RA ρ I N a a'):Be ρ I N (.var a) (.var a')
theorem Be.mono{x x'}(h:Be ρ I N x x')(a:N<=M):Be ρ I M x x':=by
 cases h with
 |val h=>exact .val (h.mono a)
 |var h=>exact .var (h.mono a)
theorem Nw(t){x x'}(h:Be ρ I N x x'):W ρ I (J q fs) q (RV ρ I) N (x.get t) (x'.get t):=by
 cases h with
 |val h=>exact .pure' h
 |var h=>exact Bz t h
theorem Nz:∀(l:List FieldStep) (t:dZ) (N:Nat) (x x':Place),Be ρ I N x x'->W ρ I (J q fs) q (λN a b=>a.1=b.1∧Be ρ I N a.2 b.2) N (follow l t x) (follow l t x')
 | [],t,N,x,x',h=>by unfold follow;exact .pure' ⟨rfl,h⟩
 |s::c,t,N,x,x',h=>by
  rw[follow,follow];refine W.bind' (gq s.struct) ?_;rintro M d _ i rfl;cases d<;>try exact T _ _
  rename_i e;dsimp only;cases e[s.index]? with
  |none=>grind[T]
  |some f=>
  dsimp only;by_cases hd:s.deref=Z
  ·rw[dn hd,dn hd];refine W.bind' (Nw t (h.mono i)) ?_;rintro K v u w m;refine W.bind' (Jq m) ?_;rintro L a r y n;refine W.bind' (SS n f) ?_;rintro O b j k g;exact Nz c f.type O _ _ (.var g)
  ·rw[if_neg hd,if_neg hd];cases h with
   |var h=>
    refine W.bind' (SS (h.mono i) f) ?_;rintro O b j k g;exact Nz c f.type O _ _ (.var g)
   |val h=>
    obtain⟨o,rfl⟩:=h;rename_i v;cases v<;>try exact T _ _
    rename_i p;simp only[F];refine W.bind' (uz _ _ (bu.yg o (by omega))) ?_
    rintro O b j k g;exact Nz c f.type O _ _ (.val g)
theorem ayT(p)(c)(t)(a b):z p (Mg c t #[aE V,aG a,aG b]):=by
 unfold Mg;refine z.then _ λn=>?_;dsimp only;by_cases E:(n==1)=Z
 ·rw[dn E];exact z.bind (kQ _ _) _
 ·rw[if_neg E];split
  ·refine z.then _ λd=>?_;split
   ·refine z.then _ λi=>?_;split
    ·split
     ·split
      ·grind[kQ]
      ·exact .halt _
     ·exact .halt _
    ·exact .halt _
   ·exact .halt _
  ·exact .halt _
theorem am7(c)(t)(a b){x x'}(h:RV ρ I N x x'):W ρ I (J q fs) q (RV ρ I) N (Mg c t #[x,aG a,aG b]) (Mg c t #[x',a,b]):=by
 have d:=h;obtain⟨i,rfl⟩:=h;rcases x with e|⟨j,g⟩|⟨_,_⟩|⟨_,_,_⟩|f|(_|p)|⟨_,_,_⟩|_|_|⟨_,_,_⟩|_|⟨_,_⟩|_|_|_<;>first
  |exact T _ _
  |exact .dead (ayT _ _ _ _ _)
  |exact .pure d
theorem anr(t)(p)(w){x x'}(h:Be ρ I N x x'):W ρ I (J q fs) q (RV ρ I) N (receiverAt t x p w) (receiverAt t x' p w):=by
 unfold receiverAt;refine W.bind' (gq t) ?_;rintro M d _ g rfl;have j:∀(b:dZ) (K:Nat) (v e:ay),RV ρ I K v e->W ρ I (J q fs) q (RV ρ I) K (do loadVar b (<-asAddr v)) (do loadVar b (<-asAddr e)):=λb K v e f=>by
  refine W.bind' (Jq f) ?_
  grind[Bz]
 have a:∀b:dZ,W ρ I (J q fs) q (RV ρ I) M
   (do
    let a<-x.get t
    let a<-match w with
     |some c=>Mg #[t] t #[a,strVal "",strVal c]
     |none=>bH a
    loadVar b (<-asAddr a))
   (do
    let a<-x'.get t
    let a<-match w with
     |some c=>Mg #[t] t #[a,strVal "",strVal c]
     |none=>bH a
    loadVar b (<-asAddr a)):=λb=>by
  refine W.bind' (Nw t (h.mono g)) ?_;rintro K v e k f;cases w with
  |none=>grind
  |some c=>
   refine W.bind' (am7 _ _ _ _ f) ?_
   grind
 have i:=Nw (ρ:=ρ) (I:=I) (q:=q) (fs:=fs) t (h.mono g);cases p with
 |true=>
  cases h with
  |val h=>grind[T]
  |var h=>cases d<;>first|exact i|exact .pure' (RV.ptr (h.mono g))
 |false=>
  cases h with
  |val h=>cases d<;>first|exact a _|exact i
  |var h=>cases d<;>first|exact a _|exact i
def X4(q:bU)(I:H)(name:String):Prop:=∀t i m f p,q.info? t=U i->i.methods.find? (·.name==name)=U m->m.func=U (f,p)->I.T f=Z
theorem anD(c)(w:X4 q I c)(d):∀(t) (N) (v v'),RV ρ I N v v'->W ρ I (J q fs) q (λN a b=>a.1=b.1∧I.T a.1=Z∧RV ρ I N a.2 b.2) N (AT d t v c) (AT d t v' c):=by
 induction d with
 |zero=>intro t N v v' _;exact ik _ _
 |succ d z=>
  intro t N v v' j;rw[AT,AT];refine W.bind' (qp t) ?_;rintro M i _ y ⟨rfl,A⟩;cases s:i.methods.find? (·.name==c) with
  |none=>grind[T]
  |some m=>
  dsimp only;refine W.bind' (Nz _ t M _ _ (.val (j.mono y))) ?_;rintro K ⟨g,x⟩ ⟨B,F⟩ E ⟨rfl,e⟩;dsimp only;cases C:m.func with
  |none=>
   refine W.bind' (Nw g e) ?_;rintro L u h r ⟨l,rfl⟩;cases u<;>try exact T _ _
   ·rename_i o n;exact z o L n _ ⟨by grind[S],rfl⟩
   grind[FY]
  |some k=>
   obtain⟨f,p⟩:=k;refine W.bind' (anr g p _ e) ?_;rintro L u h r D;exact .pure' ⟨rfl,w t i m f p A s C,D⟩
inductive RN(ρ:Nat->Nat)(I:H)(q:bU)(N:Nat):Next->Next->Prop
 |value {v v':ay} (h:RV ρ I N v v'):RN ρ I q N (fV v) (fV v')
 |skip:RN ρ I q N .skip .skip
 |enter {f:fb} {l7 pI:Array ay} (hf:I.T f=Z) (hb:∃fn c,q.funcs[f]? =U fn∧fn.body=U c) (h:bu ρ I N l7 pI):RN ρ I q N (jr f l7) (jr f pI)
 |Xg {f:fb} {l7 pI:Array ay} (hc:I.cut f l7.size=Z) (h:bu ρ I N l7 pI):RN ρ I q N (jr f l7) (jr f pI)
 |round {l:Nat} {f:fb} {ts FL:Array ay} {a b:Code} (hl:I.blk N l=Z) (hf:I.T f=Z) (h:bu ρ I N ts FL) (ha:I.gh a=Z) (hb:I.gh b=Z):RN ρ I q N (.round l f ts a b) (.round (ρ l) f FL a b)
theorem iS{s b}(h:W ρ I (J q fs) q (RV ρ I) N s b):W ρ I (J q fs) q (RN ρ I q) N (do bH (fV (<-s))) (do bH (fV (<-b))):=
 W.bind' h λ_ _ _ _ c=>.pure' (.value c)
theorem Sw{s b}(h:W ρ I (J q fs) q RU N s b):W ρ I (J q fs) q (RN ρ I q) N (do s;bH .skip) (do b;bH .skip):=
 W.bind' h λ_ _ _ _ _=>.pure' .skip
def rD(q:bU)(fs:Array dV)(e:Array ay->cy ay):Prop:=
 ∀(ρ:Nat->Nat) (I:H) (N:Nat),(∀b,N<=b->I.F b=Z)->Fair ρ q->ru q->q.globals.size<N->I.F q.globals.size=Z->∀E pI,bu ρ I N E pI->W ρ I (J q fs) q (RV ρ I) N (e E) (e pI)
structure Q7(I:H)(q:bU)(fs:Array dV):Prop where
 jM:I.F q.globals.size=Z
 fn:∀f,I.T f=Z->∃fn o,fs[f]? =U fn∧q.funcs[f]? =U o∧o.name=fn.name∧(fn.name== "runtime.NumGoroutine")=ai∧
  ((∃b b',fn.body=U b∧o.body=U b')∨(o=fn∧fn.body=V∧Xk fn=V∧∃e,Extern.find fn=U e∧rD q fs e)∨
   (o=fn∧fn.body=V∧Xk fn=V∧Extern.find fn=V∧(fn.name.endsWith ".init" && !fn.name.startsWith "(" && !fn.name.startsWith "gosem.")=ai))
def Yd(I:H)(q:bU)(fs:Array dV):Prop:=∀f n,I.cut f n=Z->∃fn o,fs[f]? =U fn∧q.funcs[f]? =U o∧(fn.name== "runtime.NumGoroutine")=ai∧(o.name== "runtime.NumGoroutine")=ai∧fn.body.isNone=ai∧o.body.isNone=ai
theorem an6(r:Yd I q fs){f}{d b}(i:I.cut f d.size=Z)(h:bu ρ I N d b):W ρ I (J q fs) q (RN ρ I q) N (iu f d) (iu f b):=by
 refine W.bind' lM ?_;rintro M p e l ⟨rfl,rfl⟩;obtain⟨m,o,j,n,k,g,s,c⟩:=r f _ i;show W ρ I (J e fs) e (RN ρ I e) M (match fs[f]? with|none=>_|some m=>_) _
 rw[j,n];dsimp only;rw[k,g,s,c];exact .pure' (.Xg i (h.mono l))
theorem aag(A:∀b,N<=b->I.F b=Z)(k:Fair ρ q)(y:ru q)(x:q.globals.size<N)(r:Q7 I q fs){f}(u:I.T f=Z){n d}(h:bu ρ I N n d):
  W ρ I (J q fs) q (RN ρ I q) N (iu f n) (iu f d):=by
 refine W.bind' lM ?_;rintro M p l t ⟨rfl,rfl⟩;obtain⟨w,m,v,o,z,C,s⟩:=r.fn f u;show W ρ I (J l fs) l (RN ρ I l) M (match fs[f]? with|none=>_|some w=>_) _
 rw[v,o];dsimp only;rw[z,C];rcases s with⟨b,B,g,c⟩|⟨rfl,g,c,e,j,i⟩|⟨rfl,g,c,j,i⟩
 ·rw[g,c];exact .pure' (.enter u ⟨m,B,o,c⟩ (h.mono t))
 ·rw[g];refine W.mark rfl ?_;simp only[c,j];exact iS (i ρ I M (λb s=>A b (by omega)) k y (by omega) r.jM _ _ (h.mono t))
 ·rw[g];refine W.mark rfl ?_;simp only[c,j,i];exact ik _ _
theorem an5(w:∀b,N<=b->I.F b=Z)(g:Fair ρ q)(o:ru q)(n:q.globals.size<N)(m:Q7 I q fs){c}(s:X4 q I c){x x'}(k:RV ρ I N x x'){i d}(h:bu ρ I N i d):
  W ρ I (J q fs) q (RN ρ I q) N (callMethod x c i) (callMethod x' c d):=by
 unfold callMethod;obtain⟨e,rfl⟩:=k;cases x<;>try grind[T]
 ·rename_i t v;refine W.bind' lM ?_;rintro M p B u ⟨rfl,rfl⟩;refine W.bind' (anD c s _ t M v _ ⟨eX u (by simpa[S] using e),rfl⟩) ?_
  rintro K ⟨f,r⟩ ⟨C,A⟩ j ⟨rfl,y,l⟩;refine aag (λb z=>w b (by omega)) g o (by omega) m y ?_
  exact(bu.nil.push l).append (h.mono (by omega))
 grind[FY]
theorem Jo{l}(c:I.blk N l=Z):W ρ I (J q fs) q (λN r b=>mY I N r=Z∧b=BH ρ r) N (Instr.getLoop l) (Instr.getLoop (ρ l)):=by refine W.bind' (uA c) ?_;rintro M o f e ⟨d,rfl⟩;cases o<;>first|grind[T]|exact .pure' ⟨d,rfl⟩
theorem afV(f:ay->ay):∀(l:List (Tmp×ay)) (d:Array ay),(l.map λx=>(x.1,f x.2)).foldl (λc x=>c.setIfInBounds x.1 x.2) (d.map f)=(l.foldl (λc x=>c.setIfInBounds x.1 x.2) d).map f
 | [],_=>rfl
 |x::l,d=>by
  simp only[fS,List.foldl_cons];rw[<-afV f l];congr 1
  grind
theorem afU{P:ay->Prop}:∀(l:List (Tmp×ay)) (d:Array ay),(∀x∈l,P x.2)->(∀v∈d,P v)->∀v∈l.foldl (λc x=>c.setIfInBounds x.1 x.2) d,P v
 | [],_,_,h=>h
 |x::l,d,e,h=>by
  refine afU l _ (λy f=>e y (by grind)) λv g=>?_
  grind
theorem Yf(f:ay->ay):∀(d:List Tmp) (e),d.zip (e.map f)=(d.zip e).map λx=>(x.1,f x.2)
 | [],_=>by simp
 |_::_,[]=>by simp
 |p::d,a::e=>by simp[Yf f d e]
theorem bu.params{g d j e}(f:Array Tmp)(i:bu ρ I N g d)(h:bu ρ I N j e):
  bu ρ I N ((f.zip j).foldl (λc (t,a)=>c.setIfInBounds t a) g) ((f.zip e).foldl (λc (t,a)=>c.setIfInBounds t a) d):=by
 rw[<-J4,<-J4,acX,acX,h.2,xE,Yf,i.2];refine⟨afU _ _ (λx k=>?_) i.1,afV (F ρ) _ _⟩;exact h.1 _ (by simpa using(List.of_mem_zip k).2)
theorem mY.parts{r}(h:mY I N r=Z):(∀v∈r.tmps,S I N v=Z)∧I.gh r.assign=Z∧I.gh r.body=Z∧(∀c,r.pending=U c->I.gh c=Z)∧I.T r.fn=Z∧I.blk N r.defers=Z:=by
 simp only[mY,cS,kC] at h
 grind
theorem mY.of{r}(e:∀v∈r.tmps,S I N v=Z)(d:I.gh r.assign=Z)(a:I.gh r.body=Z)(g:∀c,r.pending=U c->I.gh c=Z)(f:I.T r.fn=Z)(b:I.blk N r.defers=Z):mY I N r=Z:=by
 simp only[mY,cS,kC];refine⟨⟨⟨⟨⟨e,d⟩,a⟩,?_⟩,f⟩,b⟩;cases h:r.pending with
 |none=>rfl
 |some c=>grind
theorem am6{l}(e:I.blk N l=Z){d b}(h:bu ρ I N d b):W ρ I (J q fs) q (RN ρ I q) N (Instr.yield l d) (Instr.yield (ρ l) b):=by
 refine W.bind' (Jo e) ?_;rintro M r p c ⟨i,rfl⟩;rw[h.size];have m:(BH ρ r).params=r.params:=rfl;rw[m];split
 ·exact .dead (z.bind (.halt _) _)
 ·obtain⟨f,j,g,o,k,n⟩:=mY.parts i;exact .pure' (RN.round (H.eu e c) k (bu.params _ ⟨f,rfl⟩ (h.mono c)) j g)
theorem SB{l}{r}(c:I.blk N l=Z)(b:mY I N r=Z):W ρ I (J q fs) q RU N (setObj l (ze r)) (setObj (ρ l) (ze (BH ρ r))):=
 Jl (o:=ze r) c b (by simp)
theorem aod{l}(b:I.blk N l=Z):W ρ I (J q fs) q RU N (Instr.beginRound l) (Instr.beginRound (ρ l)):=by
 refine W.bind' (Jo b) ?_;rintro M r k d ⟨h,rfl⟩;obtain⟨f,i,g,e,j,c⟩:=mY.parts h;refine W.bind' (SB (r:={r with state:=.busy}) (H.eu b d) (mY.of f i g e j c)) ?_;rintro K _ _ m _;show W ρ I (J q fs) q RU K (match r.state with|CU=>_|.done=>_|.busy=>_|.exhausted=>_) (match r.state with|CU=>_|.done=>_|.busy=>_|.exhausted=>_)
 cases r.state<;>first|exact .pure' trivial|grind[FY]
theorem anZ{l}(b:I.blk N l=Z){j}(d:∀c,j=U c->I.gh c=Z):W ρ I (J q fs) q (RV ρ I) N (Qg l j) (Qg (ρ l) j):=by
 refine W.bind' (Jo b) ?_;rintro M r o f ⟨i,rfl⟩;obtain⟨g,k,h,n,m,e⟩:=mY.parts i;refine W.bind' (SB (r:={r with state:=if j.isNone then CU else .done,pending:=j}) (H.eu b f) (mY.of g k h d m e)) ?_
 rintro K _ _ p _;exact .pure' (RV.plain rfl)
theorem an0{l}(d:I.blk N l=Z):W ρ I (J q fs) q (λN j m=>j=m∧∀c,j=U c->I.gh c=Z) N (Instr.endLoop l) (Instr.endLoop (ρ l)):=by
 refine W.bind' (Jo d) ?_;rintro M r p f ⟨i,rfl⟩;obtain⟨g,n,h,b,o,e⟩:=mY.parts i;have k:(BH ρ r).state=r.state:=rfl;rw[k];split
 ·exact .dead (z.bind (kQ _ _) _)
 ·refine W.bind' (SB (r:={r with state:=.exhausted}) (H.eu d f) (mY.of g n h b o e)) ?_;rintro K _ _ s _;exact .pure' ⟨rfl,b⟩
def Dc(ρ:Nat->Nat)(I:H)(N:Nat)(ds E:List Deferred):Prop:=
 ∃l:List Nat,(∀r∈l,I.blk N r=Z)∧ds=l.map (λr=>{target:=Ie r,args:= #[]})∧E=l.map (λr=>{target:=Ie (ρ r),args:= #[]})
theorem Dc.mono{ds b}(h:Dc ρ I N ds b)(g:N<=M):Dc ρ I M ds b:=by obtain⟨l,f,e,c⟩:=h;exact⟨l,λr d=>H.eu (f r d) g,e,c⟩
theorem anc{r}(e:I.blk N r=Z):W ρ I (J q fs) q (λ_ a b=>a=[]∧b=[]) N (Qn r) (Qn (ρ r)):=by
 refine W.bind' (uA e) ?_;rintro M o i f ⟨g,rfl⟩;cases o<;>try grind[T]
 rename_i d;cases d with
 |none=>grind[T]
 |some d=>
  have:=by simpa[ew] using g
  subst this;refine W.bind' (Jl (o:=wG V) (H.eu e f) (by simp[ew]) (by simp)) ?_
  rintro K _ _ h _;exact .pure' ⟨rfl,rfl⟩
def rT(I:H)(q:bU):iI->Bool
 |gB v=>n v
 |cu _=>Z
 |.global g=>cq (g<q.globals.size)&&I.F g
 |.func f=>I.T f
def Zc:Builtin->Bool
 |.append|.len|.max|.min|.copy|.delete=>Z
 |_=>ai
def FN(I:H)(nm:String->Bool)(K:iI->Bool)(c:Call):Bool:=
 c.args.all K&&match c.callee with
 |.builtin b=>Zc b
 |.value f=>K f||(match f with|.func g=>I.cut g c.args.size|_=>ai)
 |.invoke r name=>K r&&nm name
def Gj(q:bU)(t:dZ):Bool:=match q.underlying t with|some Qh=>ai|_=>Z
def yx(I:H)(q:bU)(nm:String->Bool)(K:iI->Bool):Op->Bool
 |.move x|oh x=>K x
 |.pick c a b=>K c&&K a&&K b
 |.alloc _=>Z
 |.box _ x=>K x
 |.build _ ps=>ps.all λx=>K x.2
 |.buildSlice _ _ ps=>ps.all λx=>K x.2
 |.load _ a=>K a
 |.store _ a x=>K a&&K x
 |.nilCheck x=>K x
 |.binOp _ _ x y _=>K x&&K y
 |.unOp _ _ x=>K x
 |.convert s d x=>K x&&Gj q s&&Gj q d
 |.sliceToArrayPointer _ x=>K x
 |.makeInterface _ x=>K x
 |.makeFunc fn first cap=>(match fn with|ep f=>I.T f|_=>ai)&&first.all (K)&&cap.all (K)
 |.makeMap _ r=>r.all (K)
 |.makeSlice _ l c=>K l&&K c
 |.slice _ x lo hi mx=>K x&&lo.all (K)&&hi.all (K)&&mx.all (K)
 |.fieldAddr _ x _=>K x
 |.field _ x _=>K x
 |.indexAddr _ x i=>K x&&K i
 |.index _ x i=>K x&&K i
 |.lookup _ x i _=>K x&&K i
 |.mapUpdate _ m k x=>K m&&K k&&K x
 |.insert _ m k x=>K m&&K k&&K x
 |.range _ x=>K x
 |.next x _=>K x
 |.entry x=>K x
 |.typeAssert x _ _ _=>K x
 |.extract x _=>K x
 |.call c=>FN I nm K c
 |.panic x=>K x
 |_=>ai
def Bu(I:H)(q:bU)(nm:String->Bool):Op->Bool:=yx I q nm (rT I q)
variable {K:iI->Bool}
theorem bu.map{e d}(h:∀x,K x=Z->RV ρ I N (e x) (d x)){xs:Array iI}(b:xs.all (K)=Z):bu ρ I N (xs.map e) (xs.map d):=by
 simp only[kC] at b;refine⟨λv f=>?_,?_⟩
 ·obtain⟨x,c,rfl⟩:=JY.1 f;exact(h x (b x c)).1
 ·rw[Array.map_map];exact JW λx c=>(h x (b x c)).2
theorem zv.map{e c:iI->ay}(h:∀x,K x=Z->RV ρ I N (e x) (c x)){xs:Array (Nat×iI)}(b:xs.all (λx=>K x.2)=Z):zv ρ I N (xs.map λ(i,x)=>(i,e x)) (xs.map λ(i,x)=>(i,c x)):=by
 simp only[kC] at b;refine⟨λv f=>?_,?_⟩
 ·obtain⟨x,d,rfl⟩:=JY.1 f;exact(h x.2 (b x d)).1
 ·rw[Array.map_map];refine JW λx d=>?_;show(x.1,c x.2)=(x.1,F ρ (e x.2));rw[(h x.2 (b x d)).2]
theorem RO.map{e b}(h:∀x,K x=Z->RV ρ I N (e x) (b x)){o:Option iI}(c:o.all (K)=Z):RO ρ I N (o.map e) (o.map b):=by
 cases o with
 |none=>exact⟨by simp,rfl⟩
 |some x=>
  have:=h x (by grind)
  exact⟨by rintro v ⟨⟩;exact this.1,by simp[this.2]⟩
theorem ayU(p)(x):z p (Instr.panic x):=by
 unfold Instr.panic;split
 ·exact .halt _
 ·refine z.then _ λn=>?_;split
  ·exact .halt _
  grind[kQ]
 ·exact .halt _
theorem an9(i:∀b,N<=b->I.F b=Z)(e:Fair ρ q)(g:ru q){b}(j:Zc b=Z)(c)(t)(cs){f d}(h:bu ρ I N f d):
  W ρ I (J q fs) q (RN ρ I q) N (builtin b c t cs f) (builtin b c t cs d):=by
 cases b<;>first
  |exact absurd j (by decide)
  |exact iS (aoi i g c t h)
  |exact iS (ZR c t h)
  |exact iS (anG c t h)
  |exact iS (anB c t h)
  |exact iS (an3 c t h)
  |exact iS (an1 e c t h)
structure mJ(I:H)(q:bU)(fs:Array dV)(nm:String->Bool):Prop where
 MA:ru q
 kin:Q7 I q fs
 named:∀s,nm s=Z->X4 q I s
 LG:Yd I q fs
theorem aaf{nm}(n:mJ I q fs nm)(s:∀b,N<=b->I.F b=Z)(j:Fair ρ q)(i:q.globals.size<N){f f'}(t:RV ρ I N f f'){m h}(p:bu ρ I N m h):
  W ρ I (J q fs) q (RN ρ I q) N (L9 f m>>=λd=>invoke d.target d.args) (L9 f' h>>=λd=>invoke d.target d.args):=by
 obtain⟨e,rfl⟩:=t;cases f<;>try exact T _ _
 ·rename_i r c k;simp only[S,cS] at e;have o:bu ρ I N c (mU ρ c):=⟨by grind[DR,Array.all_eq_true_iff_forall_mem],wY ρ c⟩
  cases r with
  |func g=>exact aag s j n.MA i n.kin (by simpa[tG] using e.1.1) ((o.append p).append (⟨by grind[DR,Array.all_eq_true_iff_forall_mem],wY ρ k⟩))
  |yield l=>exact am6 (by simpa[tG] using e.1.1) (o.append p)
  |_=>simp[tG] at e
 ·exact .dead (kQ _ .nilDeref)
theorem an7{nm:String->Bool}(p:mJ I q fs nm)(w:∀b,N<=b->I.F b=Z)(o:Fair ρ q)(s:q.globals.size<N){e j:iI->ay}(h:∀x,K x=Z->RV ρ I N (e x) (j x))(E:∀g,e (.func g)=dH (ep g) #[] #[])(v:∀g,j (.func g)=dH (ep g) #[] #[]){c:Call}(k:FN I nm K c=Z)(t:dZ):
  W ρ I (J q fs) q (RN ρ I q) N (do let d<-resolve e c t;invoke d.target d.args) (do let d<-resolve j c t;invoke d.target d.args):=by
 obtain⟨l,i,C⟩:=c;simp only[FN,cS] at k;obtain⟨B,k⟩:=k;have u:=bu.map h B;cases l with
 |builtin b=>exact an9 w o p.MA k _ _ _ u
 |invoke r n=>
  simp only[cS] at k;have y:=h r k.1;have m:=(bu.nil.push y).append u;show W ρ I (J q fs) q (RN ρ I q) N (invoke (.fn (.method n) #[]) (#[e r]++i.map e)) (invoke (.fn (.method n) #[]) (#[j r]++i.map j));have z:(#[e r]++i.map e)[0]? =U (e r):=by grind
  have A:(#[j r]++i.map j)[0]? =U (j r):=by grind
  unfold invoke;simp only[z,A];exact an5 w o p.MA s p.kin (p.named _ k.2) y (m.size▸m.extract _ _)
 |value f=>
  rcases kK _ _▸k with k|k
  ·exact aaf p w o s (h f k) u
  ·cases f with
   |func g=>
    show W ρ I (J q fs) q (RN ρ I q) N (L9 (e (.func g)) (i.map e)>>=λd=>invoke d.target d.args) (L9 (j (.func g)) (i.map j)>>=λd=>invoke d.target d.args);rw[E g,v g];have D:(#[]++i.map e++ #[])=i.map e:=by simp
    have G:(#[]++i.map j++ #[])=i.map j:=by simp
    show W ρ I (J q fs) q (RN ρ I q) N (iu g (#[]++i.map e++ #[])) (iu g (#[]++i.map j++ #[]));rw[D,G];exact an6 p.LG (by grind) u
   |_=>grind
theorem Z8{nm:String->Bool}(O:mJ I q fs nm)(w:∀b,N<=b->I.F b=Z)(u:Fair ρ q)(H:q.globals.size<N){e L:iI->ay}(h:∀x,K x=Z->RV ρ I N (e x) (L x))(R:∀g,e (.func g)=dH (ep g) #[] #[])(G:∀g,L (.func g)=dH (ep g) #[] #[]){o:dD}(j:yx I q nm K o.op=Z):
  W ρ I (J q fs) q (RN ρ I q) N (cT e o) (cT L o):=by
 obtain⟨Q,op,A,P,Q0⟩:=o;have Q3:=O.MA;cases op<;>simp only[yx,cS,nT] at j
 case move x=>exact .pure' (.value (h x j))
 case assign x=>exact .pure' (.value (h x j))
 case pick c a b=>
  refine W.bind' (aak (h c j.1.1)) ?_;rintro M b _ B rfl;refine .pure' (.value ?_);split
  ·exact(h _ j.1.2).mono B
  ·exact(h _ j.2).mono B
 case alloc t=>exact iS (aoj w Q3 t)
 case box t x=>exact iS (aoc w t (h x j))
 case build t ps=>exact iS (aob Q3 t (zv.map h j))
 case buildSlice t n ps=>exact iS (aoa w Q3 t n (zv.map h j))
 case load t a=>exact iS (ZP t (h a j))
 case store t a x=>exact Sw (ani t (h a j.1) (h x j.2))
 case nilCheck x=>
  obtain⟨D,C⟩:=h x j;unfold cT;dsimp only;rw[C];have E:=h x j;rw[C] at E;generalize e x=v at D E⊢;rcases v with Q1|⟨T,X⟩|⟨_,_⟩|⟨_,_,_⟩|Q2|(_|p)|⟨_,_,_⟩|_|_|⟨fn,_,_⟩|_|⟨_,_⟩|_|_|_<;>first
   |exact .pure (.value E)
   |exact .dead (kQ _ .nilDeref)
   |(cases fn<;>first
     |exact .pure (.value E)
     |(simp[S,tG] at D;done))
 case binOp op t x y yt=>
  refine iS (W.bind' (aac op t x y (h x j.1) (h y j.2)) ?_);rintro M _ _ B _;exact aah (λb f=>w b (by omega)) u op t ((h x j.1).mono B) ((h y j.2).mono B)
 case unOp op t x=>exact iS (ana op (h x j))
 case convert s d x=>
  refine iS (an4 w Q3 s d ?_ ?_ (h x j.1.1))
  ·intro e;have:=j.1.2;rw[Gj,e] at this;grind
  ·intro e;have:=j.2;rw[Gj,e] at this;grind
 case sliceToArrayPointer t x=>exact iS (aog t (h x j))
 case makeInterface t x=>exact iS (anM t (h x j))
 case makeFunc fn first cap=>
  have D:=bu.map h j.1.2;have C:=bu.map h j.2;cases fn<;>simp only[nT,false_and] at j;refine iS (.pure' ⟨?_,?_⟩)
  ·simp only[S,tG,DR,cS,kC];exact⟨⟨j.1.1,D.1⟩,C.1⟩
  ·simp only[F,zR,wY,D.2,C.2]
 case makeMap t r=>exact iS (anL w t (RO.map h j))
 case makeSlice t l c=>exact iS (anK w Q3 t (h l j.1) (h c j.2))
 case slice t x lo hi mx=>exact iS (ank t (h x j.1.1.1) (RO.map h j.1.1.2) (RO.map h j.1.2) (RO.map h j.2))
 case fieldAddr t x i=>exact iS (Z6 t i (h x j))
 case field t x i=>exact iS (anU t i (h x j))
 case indexAddr t x i=>exact iS (ZS t (h x j.1) (h i j.2))
 case index t x i=>exact iS (anT t (h x j.1) (h i j.2))
 case lookup t x i ok=>exact iS (anN u Q3 t ok (h x j.1) (h i j.2))
 case mapUpdate t m k x=>exact Sw (ZM u t (h m j.1.1) (h k j.1.2) (h x j.2))
 case insert t m k x=>exact Sw (ZM u t (h m j.1.1) (h k j.1.2) (h x j.2))
 case range t x=>exact iS (ans w t (h x j))
 case next x s=>exact iS (anx _ s (h x j))
 case entry x=>exact iS (anX (h x j))
 case typeAssert x a b ok=>exact iS (anb Q3 a b ok (h x j))
 case extract x i=>exact iS (Z7 i (h x j))
 case call c=>exact an7 O w u H h R G j A
 case panic x=>exact .dead (z.bind (ayU _ _) _)
variable{nm:String->Bool}{L:Option Nat}
def ie(I:H)(q:bU)(nm:String->Bool):Code->Bool
 |.skip|.exit _|.ret|.refuse _=>Z
 |dQ _ ops _=>ops.all λo=>Bu I q nm o.op
 |eE a b=>ie I q nm a&&ie I q nm b
 |.cond c a b=>rT I q c&&ie I q nm a&&ie I q nm b
 |.block _ b=>ie I q nm b
 |.loop b=>ie I q nm b
 |.rangeFunc f _ a b=>rT I q f&&ie I q nm a&&ie I q nm b
 |_=>ai
def iK(ρ:Nat->Nat):eS->eS
 |CX l=>CX (ρ l)
 |Ii l=>Ii (ρ l)
 |i=>i
def rW(I:H)(q:bU)(nm:String->Bool)(N:Nat):eS->Bool
 |bD c=>I.gh c
 |lI _=>Z
 |.inLoop c=>I.gh c
 |aP ops _=>ops.all λo=>Bu I q nm o.op
 |CX l=>I.blk N l
 |Ii l=>I.blk N l
 |.beginRound=>Z
 |_=>ai
theorem N0(a:N<=M){i}(h:rW I q nm N i=Z):rW I q nm M i=Z:=by cases i<;>first|exact h|exact H.eu h a
structure eW(ρ:Nat->Nat)(I:H)(q:bU)(nm:String->Bool)(N:Nat)(a b:aX):Prop where
 fn:b.fn=a.fn
 here:I.T a.fn=Z
 tmps:bu ρ I N a.tmps b.tmps
 todo:b.todo=a.todo.map (iK ρ)
 items:∀i∈a.todo,rW I q nm N i=Z
 defers:Dc ρ I N a.defers b.defers
 mode:b.mode=a.mode
 vC:a.mode=.run∨a.mode=fC
 qG:a.kind=er
 vS:b.kind=er
 round:b.roundOf=a.roundOf.map ρ
 rounds:∀l,a.roundOf=U l->I.blk N l=Z
theorem eW.mono{a b}(h:eW ρ I q nm N a b)(d:N<=M):eW ρ I q nm M a b:=
 ⟨h.fn,h.here,h.tmps.mono d,h.todo,λi e=>N0 d (h.items i e),h.defers.mono d,h.mode,h.vC,h.qG,h.vS,h.round,λl f=>H.eu (h.rounds l f) d⟩
def l8(I:H)(v v':ay):Prop:=(v'=v∧(v=ak∨(∃n c,v=aD V n c)∨∃A a,I.arg=U A∧a.block=A.g∧A.lo<=a.off∧(v=aE (U a)∨∃n c,v=aD (U a) n c)))∨∃a c,v=aD V 0 0∧v'=aD a 0 c
theorem l8.undef{I}:l8 I ak ak:=ax ⟨rfl,ax rfl⟩
theorem l8.left{I}{v v'}(h:l8 I v v'):l8 I v v:=by
 rcases h with⟨_,h⟩|⟨_,_,rfl,_⟩
 ·exact ax ⟨rfl,h⟩
 ·exact ax ⟨rfl,aA (ax ⟨_,_,rfl⟩)⟩
def rV(I:H)(q:bU)(D:Nat->Bool):iI->Bool
 |cu t=> !D t
 |x=>rT I q x
def WT(q:bU)(s:dZ)(i:Nat):Bool:=match q.underlying s with
 |some (.struct fs)=>(match fs[i]? with|some f=>(match q.info? f.type with|some j=>cq (j.size≠0)|none=>ai)|none=>ai)
 |_=>ai
def zH(D:Nat->Bool):iI->Bool
 |cu t=>D t
 |_=>ai
def C7(I:H)(q:bU)(D E:Nat->Bool):Nat->List iI->Bool
 |_,[]=>Z
 |j,x::l=>(if E j then zH D x else rV I q D x)&&C7 I q D E (j+1) l
def Ia(I:H)(q:bU)(D:Nat->Bool)(o:dD):Bool:=match o.op with
 |.move x|oh x=>zH D x&&o.dst.all D
 |.indexAddr _ x i=>zH D x&&rV I q D i&&o.dst.all D
 |.fieldAddr s x f=>zH D x&&WT q s f&&o.dst.all D
 |.load _ x=>zH D x&&o.dst.all λd=> !D d
 |.call c=>(o.dst.all λd=> !D d)&&(match c.callee with
  |.builtin .len=>(match c.args.toList with| [x]=>zH D x|_=>ai)
  |.value (.func f)=>I.DF f&&C7 I q D (I.D f) 0 c.args.toList
  |_=>ai)
 |_=>ai
def CL(I:H)(q:bU)(nm:String->Bool)(D:Nat->Bool)(o:dD):Bool:=(yx I q nm (rV I q D) o.op&&o.dst.all λd=> !D d)||Ia I q D o
def lF(I:H)(q:bU)(nm:String->Bool)(D:Nat->Bool):Code->Bool
 |.skip|.exit _|.ret|.refuse _=>Z
 |dQ _ ops _=>ops.all (CL I q nm D)
 |eE a b=>lF I q nm D a&&lF I q nm D b
 |.cond c a b=>rV I q D c&&lF I q nm D a&&lF I q nm D b
 |.block _ b=>lF I q nm D b
 |.loop b=>lF I q nm D b
 |_=>ai
def CM(I:H)(q:bU)(nm:String->Bool)(D:Nat->Bool):eS->Bool
 |bD c=>lF I q nm D c
 |lI _=>Z
 |.inLoop c=>lF I q nm D c
 |aP ops _=>ops.all (CL I q nm D)
 |_=>ai
structure rA(ρ:Nat->Nat)(I:H)(N:Nat)(D:Nat->Bool)(ts FL:Array ay):Prop where
 size:FL.size=ts.size
 here:∀t v,ts[t]? =U v->D t=ai->S I N v=Z∧FL[t]? =U (F ρ v)
 arg:∀t v,ts[t]? =U v->D t=Z->∃v',FL[t]? =U v'∧l8 I v v'
theorem rA.mono{D}{d b}(h:rA ρ I N D d b)(f:N<=M):rA ρ I M D d b:=⟨h.size,λt v e c=>⟨eX f (h.here t v e c).1,(h.here t v e c).2⟩,h.arg⟩
theorem rA.set {D } {g c } (h : rA ρ I N D g c) {d } {x x' } (i : (D d = ai → S I N x = Z ∧ x' = F ρ x) ∧ (D d = Z → l8 I x x')) : rA ρ I N D (g.setIfInBounds d x) (c.setIfInBounds d x') := by
  refine ⟨by simp [h.size], fun t v b f => ?_, fun t v b f => ?_⟩ <;>
    (rw [Array.getElem?_setIfInBounds] at b ⊢
     rw [h.size]
     by_cases e : d = t
     · grind
     · rw [if_neg e] at b ⊢
       first
       | exact h.here t v b f
       | exact h.arg t v b f)
structure fN(ρ:Nat->Nat)(I:H)(q:bU)(nm:String->Bool)(N:Nat)(a b:aX):Prop where
 fn:b.fn=a.fn
 here:I.T a.fn=Z
 df:I.DF a.fn=Z
 tmps:rA ρ I N (I.D a.fn) a.tmps b.tmps
 todo:b.todo=a.todo
 E5:∀i∈a.todo,CM I q nm (I.D a.fn) i=Z
 E7:a.defers=[]
 Qb:b.defers=[]
 mode:b.mode=a.mode
 vC:a.mode=.run∨a.mode=fC
 qG:a.kind=er
 vS:b.kind=er
 F7:a.roundOf=V
 NG:b.roundOf=V
theorem fN.mono{a b}(h:fN ρ I q nm N a b)(c:N<=M):fN ρ I q nm M a b:=
 ⟨h.fn,h.here,h.df,h.tmps.mono c,h.todo,h.E5,h.E7,h.Qb,h.mode,h.vC,h.qG,h.vS,h.F7,h.NG⟩
def IE(I:H)(a:aX):Prop:=∀ops i rest k,a.todo=aP ops (i::rest)::k->∀o,ops[i]? =U o->(o.dst.all λd=> !I.D a.fn d)=Z
theorem fN.WO{a b:aX}(h:fN ρ I q nm N a b){x x':ay}(s:∀ops i p k,a.todo=aP ops (i::p)::k->∀o d,ops[i]? =U o->o.dst=U d->(I.D a.fn d=ai->S I N x=Z∧x'=F ρ x)∧(I.D a.fn d=Z->l8 I x x')):fN ρ I q nm N (a.finish x) (b.finish x'):=by
 obtain⟨B,E,C,t,Q3,e,y,v,u,n,g,m,f,r⟩:=h;obtain⟨W,Q,w,Q2,R,T,ro⟩:=a;obtain⟨c,K,H,A,J,G,Q1⟩:=b;simp only at B E C t Q3 e y v u n g m f r s;have P:=Q3.symm;subst P
 match w,e,s with
 | [],e,_=>exact⟨B,E,C,t,rfl,e,y,v,u,n,g,m,f,r⟩
 |i::k,e,s=>
  have X:∀j∈k,CM I q nm (I.D W) j=Z:=λj z=>e j (by grind)
  have D:=e i (by simp)
  cases i<;>try exact⟨B,E,C,t,rfl,e,y,v,u,n,g,m,f,r⟩
  case inRegion ops l=>
   match l,e,s with
   | [],e,_=>exact⟨B,E,C,t,rfl,e,y,v,u,n,g,m,f,r⟩
   |i::p,e,s=>
    refine⟨B,E,C,?_,rfl,?_,y,v,u,n,g,m,f,r⟩
    ·simp only[sJ];cases Q0:ops[i]? with
     |none=>grind
     |some o=>
      cases O:o.dst with
      |none=>simp only[xC,O];exact t
      |some d=>
       simp only[xC,O];exact t.set (s ops i p k rfl o d Q0 O)
    ·intro j z;simp only[sJ,dh] at z;rcases z with rfl|z
     ·exact D
     ·exact X j z
  all_goals cases D
theorem fN.finish{a b}(h:fN ρ I q nm N a b)(j:IE I a){x x'}(n:RV ρ I N x x'):fN ρ I q nm N (a.finish x) (b.finish x'):=
 h.WO λg i f k l o d m p=>by have:=j g i f k l o m;exact⟨λ_=>n,λe=>by grind⟩
def ju(ρ:Nat->Nat)(I:H)(q:bU)(nm:String->Bool)(N:Nat)(a b:aX):Prop:=eW ρ I q nm N a b∨fN ρ I q nm N a b
def oA(ρ:Nat->Nat)(I:H)(q:bU)(nm:String->Bool)(N:Nat)(a b:aX):Prop:=eW ρ I q nm N a b∨(fN ρ I q nm N a b∧IE I a)
theorem oA.mono{a b}(h:oA ρ I q nm N a b)(d:N<=M):oA ρ I q nm M a b:=h.imp (·.mono d) λ⟨x,y⟩=>⟨x.mono d,y⟩
theorem oA.top{a b}(h:oA ρ I q nm N a b):ju ρ I q nm N a b:=h.imp id λ⟨x,_⟩=>x
inductive gQ(ρ:Nat->Nat)(I:H)(q:bU)(nm:String->Bool)(N:Nat):List aX->List aX->Prop
 |nil:gQ ρ I q nm N [] []
 |cons {a b:aX} {l m:List aX} (h:oA ρ I q nm N a b) (t:gQ ρ I q nm N l m):gQ ρ I q nm N (a::l) (b::m)
theorem gQ.mono{l m}(h:gQ ρ I q nm N l m)(c:N<=M):gQ ρ I q nm M l m:=by
 induction h with
 |nil=>exact .nil
 |cons h _ b=>exact .cons (h.mono c) b
def r(fr:aX)(cs:List aX):aU:={frame:=fr,callers:=cs,status:=dM,dying:=V}
inductive RK where
 |go (g:aU)
 |fin (x:ay)
def RK.step:RK->av->Array iW->GStep
 |.go g,v,es=>bS g v es
 |.fin x,v,es=>ff (.done x) v es
def zC(I:H)(q:bU)(m':Bool)(B':List aX):Prop:=(∃b' A6,B'=b'::A6)∨(B'=[]∧m'=Z∧∀f,I.T f=Z->q.inits.idxOf? f=V)
inductive After(ρ:Nat->Nat)(I:H)(q:bU)(fs:Array dV)(nm:String->Bool)(X:fb->Prop)(b:aX)(bs:List aX)(B':List aX)(N:Nat):aU->RK->Prop
 |within {fr fr':aX} {cs cs':List aX} (h:ju ρ I q nm N fr fr') (t:gQ ρ I q nm N cs cs'):After ρ I q fs nm X b bs B' N (r fr (cs++b::bs)) (.go (r fr' (cs'++B')))
 |back {v v':ay} {b':aX} {A6:List aX} (hB:B'=b'::A6) (h:RV ρ I N v v'):After ρ I q fs nm X b bs B' N (r (b.finish v) bs) (.go (r (b'.finish v') A6))
 |fin {v v':ay} (hB:B'=[]) (h:RV ρ I N v v'):After ρ I q fs nm X b bs B' N (r (b.finish v) bs) (.fin v')
 |cut {f:fb} {l7 pI:Array ay} {fr fr':aX} {cs cs':List aX} (hx:X f∨I.cut f l7.size=Z) (ha:bu ρ I N l7 pI) (h:oA ρ I q nm N fr fr') (t:gQ ρ I q nm N cs cs'):
   After ρ I q fs nm X b bs B' N (r (eO (J q fs) f l7 er) (fr::cs++b::bs)) (.go (r (eO q f pI er) (fr'::cs'++B')))
def ur(g:aU):Prop:=∃c,g.frame.mode=.panicking c
def IN(I:H)(N:Nat)(ds:List Deferred):Prop:=∀d∈ds,∃r,d={target:=Ie r,args:= #[]}∧I.blk N r=Z
def FA(I:H)(B:List aX)(g:aU)(w:av):Prop:=
 ∃f cs c w0,g=r f (cs++B)∧f.mode=.panicking c∧IN I w0.heap.size f.defers∧(∀x∈cs,IN I w0.heap.size x.defers)∧Whole I w0∧iZ w0 w
theorem FA.off{B}{g}{w}(h:FA I B g w):ur g:=by obtain⟨f,a,c,b,rfl,h,_⟩:=h;exact⟨c,h⟩
theorem eW.marks{a b}(h:eW ρ I q nm N a b)(g:N<=M):IN I M a.defers:=by
 obtain⟨l,f,e,_⟩:=h.defers;intro d c
 grind[H.eu]
theorem fN.acw{a b}(h:fN ρ I q nm N a b):IN I M a.defers:=by
 rw[h.E7];intro d c
 grind
theorem gQ.marks{l m}(h:gQ ρ I q nm N l m)(c:N<=M):∀x∈l,IN I M x.defers:=by
 induction h with
 |nil=>simp
 |cons h _ d=>
  intro x b;rcases dh.1 b with rfl|b
  ·exact h.elim (·.marks c) (·.1.acw)
  grind
theorem ju.marks{a b}(h:ju ρ I q nm N a b)(d:N<=M):IN I M a.defers:=h.elim (·.marks d) (·.acw)
def u(ρ:Nat->Nat)(I:H)(L:Option Nat)(B:List aX)(A:Nat->aU->RK->Prop)(w v:av)(r r':GStep):Prop:=
 match r with
 |bS g1 w1 _=>FA I B g1 w1∨(w.drawn<=w1.drawn∧((∀D,L=U D->w1.drawn<=D)->∃J v1 E,r'=RK.step J v1 E∧A w1.heap.size g1 J∧dN ρ I L w1 v1∧fg ρ I w v w1 v1∧∀e∈E,wP ρ I w1.heap.size e))
 |ff _ _ _=>True
 |_=>False
variable {A:Nat->aU->RK->Prop} {B:List aX} {w v w1 v1:av}
theorem u.after{r k}{es es'}(h:u ρ I L B A w1 v1 r k)(j:fg ρ I w v w1 v1)(c:∀i,ρ (w.heap.size+i)=v.heap.size+i)(n:∀e∈es',wP ρ I w1.heap.size e):u ρ I L B A w v (r.after es) (k.after es'):=by
 cases r<;>first|exact trivial|exact h.elim|skip
 rcases h with h|⟨o,h⟩
 ·exact ax h
 ·refine aA ⟨bq j.CJ o,λp=>?_⟩;obtain⟨g,l,d,rfl,s,m,f,t⟩:=h p;refine⟨g,l,es'++d,by cases g<;>rfl,s,m,j.trans f c,λe b=>?_⟩
  rcases Aj.1 b with b|b
  ·exact(n e b).more f.nM
  grind
theorem u.go{g g'}(b:dN ρ I L w v)(h:A w.heap.size g (.go g')):u ρ I L B A w v (bS g w) (bS g' v):=
 aA ⟨aW _,λ_=>⟨.go g',v, #[],rfl,h,b,fg.refl _ _,by simp⟩⟩
theorem u.past{e}{es}{b}(c:w.drawn<=w1.drawn)(d:¬ ∀D,L=U D->w1.drawn<=D):u ρ I L B A w v (bS e w1 es) b:=aA ⟨c,λh=>absurd h d⟩
theorem u.beyond{r g c}{f}{es}(h:u ρ I V B A w1 f r c)(i:w.drawn<=w1.drawn)(e:¬ ∀D,L=U D->w1.drawn<=D):u ρ I L B A w v (r.after es) g:=by
 cases r<;>first|exact trivial|exact h.elim|skip
 rcases h with h|⟨b,h⟩
 ·exact ax h
 ·exact u.past (bq i b) λj=>e λD d=>bq b (j D d)
theorem dN.full{w v}(h:dN ρ I L w v):dN ρ I V w {v with tape:=w.tape,drawn:=w.drawn}:=⟨h.os,λi _=>rfl,h.inj,h.blk,h.jM,h.arg⟩
theorem u.off{b}{es}{c}(h:FA I B b w1):u ρ I L B A w v (bS b w1 es) c:=ax h
theorem Jy(fr:aX)(vs):(fr.raise vs).defers=fr.defers:=by
 unfold Frame.raise
 grind
theorem ju.Xb{b}{bs}{fr fr'}{cs cs'}{vs}(h:ju ρ I q nm N fr fr')(t:gQ ρ I q nm N cs cs'){w0 w1}(d:N<=w0.heap.size)(e:Whole I w0)(g:iZ w0 w1):
  FA I (b::bs) (r (fr.raise vs) (cs++b::bs)) w1:=by
 obtain⟨c,f⟩:∃c,(fr.raise vs).mode=.panicking c:=by unfold Frame.raise;split<;>exact⟨_,rfl⟩
 exact⟨fr.raise vs,cs,c,w0,rfl,f,by rw[Jy];exact h.marks d,t.marks d,e,g⟩
theorem raise_mode(fr:aX)(vs):∃c,(fr.raise vs).mode=.panicking c:=by unfold Frame.raise;split<;>exact⟨_,rfl⟩
theorem eW.finish{a b:aX}(h:eW ρ I q nm N a b){x x':ay}(Q:RV ρ I N x x'):eW ρ I q nm N (a.finish x) (b.finish x'):=by
 obtain⟨s,t,m,S,u,o,r,p,n,f,d,e⟩:=h;obtain⟨X,O,z,D,P,R,Q1⟩:=a;obtain⟨W,H,E,C,J,F,Q0⟩:=b;simp only at s t m S u o r p n f d e;subst S
 match z with
 | []=>exact⟨s,t,m,rfl,u,o,r,p,n,f,d,e⟩
 |i::k=>
  have c:∀j∈k,rW I q nm N j=Z:=λj g=>u j (by grind)
  have K:=u i (by simp)
  cases i<;>try exact⟨s,t,m,rfl,u,o,r,p,n,f,d,e⟩
  case inRegion ops l=>
   match l with
   | []=>exact⟨s,t,m,rfl,u,o,r,p,n,f,d,e⟩
   |i::T=>
    refine⟨s,t,?_,rfl,?_,o,r,p,n,f,d,e⟩
    ·simp only[sJ,fS,iK];split
     ·refine⟨λy G=>?_,?_⟩
      ·rcases Array.mem_or_eq_of_mem_setIfInBounds G with G|rfl
       ·exact m.1 y G
       ·exact Q.1
      ·rw[m.2,Q.2]
       grind
     grind
    ·intro j g;simp only[sJ,dh] at g;rcases g with rfl|g
     ·exact K
     grind
  case inRangeFunc l=>
   refine⟨s,t,m,rfl,?_,o,r,p,n,f,d,e⟩;intro j g;simp only[sJ,dh] at g;rcases g with rfl|g
   ·exact K
   grind
  case beginRound=>exact⟨s,t,m,rfl,c,o,r,p,n,f,d,e⟩
  all_goals cases K
theorem oA.finish{a b}(h:oA ρ I q nm N a b){x x'}(d:RV ρ I N x x'):ju ρ I q nm N (a.finish x) (b.finish x'):=h.imp (·.finish d) λh=>h.1.finish h.2 d
def zQ(D:Nat->Bool):ResultVar->Bool
 |.tmp t=> !D t
 |.cell a _=> !D a
structure Same(I:H)(q:bU)(fs:Array dV)(nm:String->Bool)(X:fb->Prop):Prop where
 gh:∀c,I.gh c=ie I q nm c
 res:∀f,I.T f=Z->(fs[f]?).map (·.results)=(q.funcs[f]?).map (·.results)
 same:∀f,I.T f=Z->¬X f->fs[f]? =q.funcs[f]? ∧∀fn b,q.funcs[f]? =U fn->fn.body=U b->I.gh b=Z
 Xd:∀f,I.DF f=Z->I.T f=Z∧¬X f∧∃fn c,q.funcs[f]? =U fn∧fn.body=U c∧lF I q nm (I.D f) c=Z∧fn.results.all (zQ (I.D f))=Z∧(fn.name== "runtime.NumGoroutine")=ai
theorem tu:n ak=Z:=rfl
theorem bu.replicate(n):bu ρ I N (sH n ak) (sH n ak):=bu.plain λv a=>by
 grind[tu]
theorem eW.eval{a b}(h:eW ρ I q nm N a b)(d:Fair ρ q)(k:q.globals.size<N):∀x,rT I q x=Z->RV ρ I N (a.eval x) (b.eval x):=by
 intro x c;cases x with
 |tmp t=>
  show RV ρ I N (a.tmps.getD t ak) (b.tmps.getD t ak);rw[iz,iz];cases e:a.tmps[t]? with
  |none=>rw[h.tmps.get_none e];exact RV.plain tu
  |some v=>obtain⟨i,j⟩:=h.tmps.get e;rw[j];exact⟨i,rfl⟩
 |const v=>exact RV.plain c
 |global g=>
  simp only[rT,cS,fI] at c;refine RV.ptr (a:=g) ⟨H.iQ.2 ⟨by grind,c.2⟩,?_⟩
  show(g:eK)={block:=ρ g,off:=0,spot:=V};rw[d.fix g (by omega)]
 |func f=>exact⟨by simpa[LL,rT,S,tG,oV,nQ] using c,by simp[LL,F,zR,mU,oU]⟩
theorem agm(f)(a)(k)(h:fs[f]? =q.funcs[f]?):eO (J q fs) f a k=eO q f a k:=by have e:(J q fs).funcs[f]? =q.funcs[f]? :=h;unfold eO;rw[e]
variable {X:fb->Prop} {b:aX} {bs B':List aX} {w v:av}
theorem eW.yX(n:Same I q fs nm X){f}(l:I.T f=Z)(o:¬X f)(r:∃d c,q.funcs[f]? =U d∧d.body=U c){e a}(h:bu ρ I N e a):
  eW ρ I q nm N (eO (J q fs) f e er) (eO q f a er):=by
 obtain⟨m,p⟩:=n.same f l o;obtain⟨d,c,g,k⟩:=r;rw[agm f e er m];unfold eO;rw[g];refine⟨rfl,l,?_,?_,?_,⟨[],by simp,rfl,rfl⟩,rfl,ax rfl,rfl,rfl,rfl,by simp⟩
 ·simp only[ey,fO,h.size];exact h.append (bu.replicate _)
 ·rfl
 ·intro i j;simp only[xC,k,fO,mA] at j;subst j;exact p d c g k
theorem eW.aaJ(r:Same I q fs nm X){l}{f}{e d}{a c}(p:I.blk N l=Z)(j:I.T f=Z)(h:bu ρ I N e d)(n:I.gh a=Z)(k:I.gh c=Z):
  eW ρ I q nm N (Xj l f e a c er) (Xj (ρ l) f d a c er):=by
 refine⟨rfl,j,h,rfl,?_,⟨[],by simp,rfl,rfl⟩,rfl,ax rfl,rfl,rfl,rfl,?_⟩
 ·intro i g;simp only[Xj,dh,dJ,dO] at g;rcases g with rfl|rfl|rfl
  ·exact n
  ·rfl
  ·exact k
 ·rintro m o;simp only[Xj,ec] at o
  grind
theorem eW.DY{fr fr'}(h:eW ρ I q nm N fr fr'):∀d x y z k,fr.todo≠ .call d x y z::k:=λd x y z k e=>by
 have:=h.items (.call d x y z) (by grind)
 cases this
theorem eW.JF{fr fr'}(h:eW ρ I q nm N fr fr'):∀d x y z k,fr'.todo≠ .call d x y z::k:=λd x y z k e=>by
 rw[h.todo] at e;cases a:fr.todo with
 |nil=>grind
 |cons i l=>
  rw[a,fS] at e;have c:iK ρ i=.call d x y z:=by grind
  cases i<;>simp only[iK] at c<;>try cases c
  exact h.DY _ _ _ _ _ a
theorem kept{P}{fn}{b}{es}{Q:iW->Prop}(h:∀e∈es,Q e):∀e∈seen P fn (if b=Z then #[] else es),Q e:=λe c=>by
 have:=Conc.mem_seen c
 grind
theorem SU(hL:mJ I q fs nm)(K:Same I q fs nm X){fr fr'}{cs cs'}(h:eW ρ I q nm w fr fr')(t:gQ ρ I q nm w cs cs'){s y}
  (hs:W ρ I (J q fs) q (RN ρ I q) w s y) (QW:dN ρ I L w v) (d:∀i,ρ (w+i)=v+i):
  u ρ I L (b::bs) (After ρ I q fs nm X b bs B') w v (vb (J q fs) Z fr (cs++b::bs) V s w) (vb q Z fr' (cs'++B') V y v):=by
 have m:=W.alike hs w v #[] #[] rfl QW d;have n1:=h.DY;have n2:=h.JF;unfold vb;simp only[if_true];have C:=W.alike (L:=V) hs w {v with tape:=w.tape,drawn:=w.drawn} #[] #[] rfl QW.full d;generalize s.runT (J q fs) w #[]=R at m C⊢;generalize y.runT q {v with tape:=w.tape,drawn:=w.drawn} #[]=R2 at C;generalize y.runT q v #[]=S at m⊢;obtain⟨r,es⟩:=R;obtain⟨r',Q0⟩:=S;cases r with
 |halt x G=>
  obtain⟨o,w0,O,E,B⟩:=m;cases x<;>first|exact trivial|exact absurd o o8|skip
  case panic p=>exact u.off (ju.Xb (ax h) t O E B)
  case unsupported QX=>
   cases QX<;>first|exact trivial|cases o
 |ok a G=>
  obtain⟨Q,m⟩:=m;by_cases Cm:∀D,L=U D->G.drawn<=D
  case neg=>
   obtain⟨_,_,_,_,A,_,_,_⟩:=C.2 (by simp)
   cases A<;>exact u.past Q Cm
  obtain⟨b0,v1,c,e,A,k,n,hE⟩:=m Cm;obtain⟨rfl,rfl⟩:=Prod.mk.inj e;have g:=n.nM;have j:∀e∈(#[]++c:Array iW),wP ρ I G e:=by grind
  cases A with
  |value Q1=>exact u.after (u.go k (.within (ax ((h.mono g).finish Q1)) (t.mono g))) n d (kept j)
  |skip=>exact u.after (u.go k (.within (ax ((h.mono g).finish (RV.plain tu))) (t.mono g))) n d (kept j)
  |enter H F l=>
   refine u.after ?_ n d (kept j);dsimp only;split
   ·grind
   ·split
    ·grind
    ·rename_i f l7 Q3 _ _ _ _;refine u.go k ?_;by_cases o:X f
     ·exact .cut (ax o) l (ax (h.mono g)) (t.mono g)
     ·exact .within (cs:=fr::cs) (cs':=fr'::cs') (ax (eW.yX K H o F l)) (.cons (ax (h.mono g)) (t.mono g))
  |Xg P l=>
   refine u.after ?_ n d (kept j);dsimp only;split
   ·grind
   ·split
    ·grind
    ·exact u.go k (.cut (aA P) l (ax (h.mono g)) (t.mono g))
  |round T H z Q2 F=>
   refine u.after (u.go k ?_) n d (kept j);exact .within (cs:=fr::cs) (cs':=fr'::cs') (ax (eW.aaJ K T H z Q2 F)) (.cons (ax (h.mono g)) (t.mono g))
variable{X:fb->Prop}{b:aX}{bs B':List aX}{w v:av}{m m':Bool}
theorem NA(g:zC I q m' B'){fr fr'}{cs cs'}(d:fr.kind=er)(a:fr'.kind=er)(l:I.T fr'.fn=Z)(t:gQ ρ I q nm w cs cs'){x x'}(f:RV ρ I w x x')(c:dN ρ I L w v):
  u ρ I L (b::bs) (After ρ I q fs nm X b bs B') w v (nC (J q fs) m fr (cs++b::bs) V x w) (nC q m' fr' (cs'++B') V x' v):=by
 cases t with
 |nil=>
  rcases g with⟨k,j,rfl⟩|⟨rfl,rfl,i⟩
  ·unfold nC;rw[d,a];exact u.go c (.back rfl f)
  ·have e:nC q Z fr' ([]++[]) V x' v=ff (.done x') v:=by
    unfold nC
    grind
   rw[e];unfold nC;rw[d];exact aA ⟨aW _,λ_=>⟨.fin x',v, #[],rfl,.fin rfl f,c,fg.refl _ _,by simp⟩⟩
 |cons h t=>
  unfold nC;rw[d,a];exact u.go c (.within (h.finish f) t)
theorem fg.shift{w1 e}(d:fg ρ I w v w1 e)(c:∀i,ρ (w+i)=v+i):∀i,ρ (w1+i)=e+i:=λi=>by
 have g:=d.size;have f:=d.nM;have:=c (w1-w+i)
 grind
theorem u.of_run{Q2 c}{R}{fn}{s}{t}{A}{B}(hs:W ρ I (J q fs) q R w s t)(F:dN ρ I L w v)(h:∀i,ρ (w+i)=v+i)
  {f:Result Q2->GStep} {f':Result c->GStep}
  (H:∀(L) a G d j,w.heap.size<=d.heap.size->R d.heap.size a G->dN ρ I L d j->(∀i,ρ (d+i)=j+i)->u ρ I L B A d j (f (aV a d)) (f' (aV G j)))
  (Q:∀x d,(∃E,w.heap.size<=E.heap.size∧Whole I E∧iZ E d)->(∃o p QX,f (dL x d)=ff o p QX)∨∃g p QX,f (dL x d)=bS g p QX∧FA I B g p):
  u ρ I L B A w v (ud (seen (J q fs) fn (s.runT (J q fs) w #[]).2) (f (s.runT (J q fs) w #[]).1)) (ud (seen q fn (t.runT q v #[]).2) (f' (t.runT q v #[]).1)):=by
 have l:=W.alike hs w v #[] #[] rfl F h;have y:=W.alike (L:=V) hs w {v with tape:=w.tape,drawn:=w.drawn} #[] #[] rfl F.full h;generalize s.runT (J q fs) w #[]=P at l y⊢;generalize t.runT q {v with tape:=w.tape,drawn:=w.drawn} #[]=P2 at y;generalize t.runT q v #[]=S at l⊢;obtain⟨r,QX⟩:=P;obtain⟨Q0,T⟩:=S;cases r with
 |halt x d=>
  dsimp only;rcases Q x d l.2 with⟨o,p,K,e⟩|⟨g,p,K,e,Q1⟩
  ·rw[e];exact trivial
  ·rw[e];exact u.off Q1
 |ok a d=>
  obtain⟨O,l⟩:=l;by_cases Cm:∀D,L=U D->d.drawn<=D
  case neg=>
   obtain⟨C,j,QW,e,z,k,n,Q3⟩:=y.2 (by simp)
   exact u.beyond (H V a C d j n.nM z k (n.shift h)) O Cm
  obtain⟨C,j,QW,e,z,k,n,Q3⟩:=l Cm;obtain⟨rfl,rfl⟩:=Prod.mk.inj e;refine u.after (H L a C d j n.nM z k (n.shift h)) n h λe he=>?_
  grind[Conc.mem_seen]
theorem WV(id:Nat):∀l:List eS,exitTo id (l.map (iK ρ))=(exitTo id l).map λl=>l.map (iK ρ)
 | []=>rfl
 |i::l=>by
  cases i<;>simp only[fS,iK,exitTo]<;>try exact WV id l
  split
  ·rfl
  ·exact WV id l
theorem Lt(id:Nat):∀(l k:List eS),exitTo id l=U k->∀i∈k,i∈l
 | [],k,h,i,a=>by simp[exitTo] at h
 |j::l,k,h,i,a=>by
  cases j<;>simp only[exitTo] at h
  case inBlock=>
   split at h
   ·grind
   ·exact uE _ (Lt id l k h i a)
  all_goals exact uE _ (Lt id l k h i a)
structure uk(ρ:Nat->Nat)(I:H)(L:Option Nat)(q:bU)(fs:Array dV)(nm:String->Bool)(X:fb->Prop)(w v:av):Prop where
 lay:mJ I q fs nm
 same:Same I q fs nm X
 fair:Fair ρ q
 low:q.globals.size<w.heap.size
 free:∀b,w.heap.size<=b->I.F b=Z
 ku:dN ρ I L w v
 shift:∀i,ρ (w.heap.size+i)=v.heap.size+i
theorem eW.to{fr fr'}(h:eW ρ I q nm N fr fr'){l}(a:∀i∈l,rW I q nm N i=Z):eW ρ I q nm N {fr with todo:=l} {fr' with todo:=l.map (iK ρ)}:=
 ⟨h.fn,h.here,h.tmps,rfl,a,h.defers,h.mode,h.vC,h.qG,h.vS,h.round,h.rounds⟩
theorem eW.ret{fr fr'}(h:eW ρ I q nm N fr fr'):eW ρ I q nm N {fr with mode:=fC} {fr' with mode:=fC}:=
 ⟨h.fn,h.here,h.tmps,h.todo,h.items,h.defers,rfl,aA rfl,h.qG,h.vS,h.round,h.rounds⟩
theorem anQ(k:zC I q m' B')(S:uk ρ I L q fs nm X w v){fr fr'}{cs cs'}(h:eW ρ I q nm w fr fr')(t:gQ ρ I q nm w cs cs'){j}{lost lost'}:(∀c,j=U c->I.gh c=Z)->
  u ρ I L (b::bs) (After ρ I q fs nm X b bs B') w v
   (match fr.roundOf with
    |none=>if j matches V|some .ret then bS (r {fr with mode:=fC} (cs++b::bs)) w else ff (jO lost (fr.pos (J q fs))) w
    |some l=>
     let(C,es):=(Qg l j).runT (J q fs) w #[]
     ud (seen (J q fs) fr.fn es)<|match C with
     |aV x w=>nC (J q fs) m fr (cs++b::bs) V x w
     |dL _ w=>ff (jO lost' (fr.pos (J q fs))) w)
   (match fr'.roundOf with
    |none=>if j matches V|some .ret then bS (r {fr' with mode:=fC} (cs'++B')) v else ff (jO lost (fr'.pos q)) v
    |some l=>
     let(C,es):=(Qg l j).runT q v #[]
     ud (seen q fr'.fn es)<|match C with
     |aV x w=>nC q m' fr' (cs'++B') V x w
     |dL _ w=>ff (jO lost' (fr'.pos q)) w):=by
 intro o;have f:=h.round;cases d:fr.roundOf with
 |none=>
  rw[d,Gw] at f;have e:=h.ret;rw[d,f] at e;rw[f];have g:=u.go (B:=b::bs) (A:=After ρ I q fs nm X b bs B') S.ku (.within (ax e) t);cases j with
  |none=>exact g
  |some c=>cases c<;>first|exact g|exact trivial
 |some l=>
  rw[d,ey] at f;rw[f];rw[h.fn];refine u.of_run (R:=RV ρ I) (f:=λC=>match C with
     |aV x w=>nC (J q fs) m fr (cs++b::bs) V x w
     |dL _ w=>ff (jO lost' (fr.pos (J q fs))) w) (f':=λC=>match C with
     |aV x w=>nC q m' fr' (cs'++B') V x w
     |dL _ w=>ff (jO lost' (fr'.pos q)) w) (anZ (h.rounds l d) o) S.ku S.shift ?_ ?_
  ·intro L a s y P p n i _;exact NA k h.qG h.vS (by rw[h.fn];exact h.here) (t.mono p) n i
  grind
theorem eW.Yn{fr fr'}(h:eW ρ I q nm N fr fr'){i}{k}(c:fr.todo=i::k):fr'.todo=iK ρ i::k.map (iK ρ)∧rW I q nm N i=Z∧∀j∈k,rW I q nm N j=Z:=by refine⟨by rw[h.todo,c,fS],h.items i (by grind),λj d=>h.items j (by grind)⟩
theorem eW.enterLoop{fr fr'}(h:eW ρ I q nm N fr fr'){l}{k}{ds c}(e:I.blk N l=Z)(s:∀j∈k,rW I q nm N j=Z)(f:Dc ρ I N ds c):
  eW ρ I q nm N {fr with todo:=CX l::k,defers:=ds++fr.defers} {fr' with todo:=CX (ρ l)::k.map (iK ρ),defers:=c++fr'.defers}:=by
 refine⟨h.fn,h.here,h.tmps,rfl,?_,?_,h.mode,h.vC,h.qG,h.vS,h.round,h.rounds⟩
 ·intro j d;rcases dh.1 d with rfl|d
  ·exact e
  grind
 ·obtain⟨g,p,x,t⟩:=f;obtain⟨i,o,y,n⟩:=h.defers;refine⟨g++i,λr u=>?_,by grind,by grind⟩
  grind
theorem anY(G:∀b,N<=b->I.F b=Z){fn}(t:I.T fn=Z){j g}(D:bu ρ I N j g)(h){a c}(R:I.gh a=Z)(P:I.gh c=Z){p n}(u:n=p.map ρ)(C:∀l,p=U l->I.blk N l=Z):
  W ρ I (J q fs) q (λN x y=>I.blk N x.1=Z∧y.1=ρ x.1∧Dc ρ I N x.2 y.2) N (Instr.enterLoop fn j h a c p) (Instr.enterLoop fn g h a c n):=by
 subst u;have k:∀(K d) (B i),N<=K->I.blk K d=Z->Dc ρ I K B i->
   W ρ I (J q fs) q (λN x y=>I.blk N x.1=Z∧y.1=ρ x.1∧Dc ρ I N x.2 y.2) K
    (do bH (<-newObj (ze {state:=CU,pending:=V,fn,tmps:=j,params:=h,assign:=a,body:=c,defers:=d}),B))
    (do bH (<-newObj (ze {state:=CU,pending:=V,fn,tmps:=g,params:=h,assign:=a,body:=c,defers:=ρ d}),i)):=λK d B i o Q s=>by
  have e:ze {state:=CU,pending:=V,fn,tmps:=g,params:=h,assign:=a,body:=c,defers:=ρ d}=eV ρ (ze {state:=CU,pending:=V,fn,tmps:=j,params:=h,assign:=a,body:=c,defers:=d}):=by simp only[eV,BH,D.2]
  have E:=F0 (ρ:=ρ) (q:=q) (fs:=fs) (o:=ze {state:=CU,pending:=V,fn,tmps:=j,params:=h,assign:=a,body:=c,defers:=d}) (G K o)
   (mY.of (r:={state:=CU,pending:=V,fn,tmps:=j,params:=h,assign:=a,body:=c,defers:=d}) (D.mono o).1 R P (by simp) t Q)
  rw[<-e] at E;refine W.bind' E ?_;rintro L r H z ⟨rfl,_,rfl,A⟩;exact .pure' ⟨A,rfl,s.mono z⟩
 cases p with
 |some l=>
  refine W.bind' (Jo (C l rfl)) ?_;rintro K r H o ⟨O,rfl⟩;obtain⟨T,f,Q0,F,S,Q1⟩:=mY.parts O;exact k K r.defers [] [] o Q1 ⟨[],by simp,rfl,rfl⟩
 |none=>
  refine W.bind' (F0 (ρ:=ρ) (I:=I) (q:=q) (fs:=fs) (o:=wG (U [])) (G N (aW _)) (by simp[ew])) ?_
  rintro L r H z ⟨rfl,_,rfl,A⟩;exact k L r _ _ z A ⟨[r],by grind,rfl,rfl⟩
theorem uk.later{L'}(S:uk ρ I L q fs nm X w v){w1 d}(e:w.heap.size<=w1.heap.size)(f:dN ρ I L' w1 d)(c:∀i,ρ (w1.heap.size+i)=d.heap.size+i):uk ρ I L' q fs nm X w1 d:=
 ⟨S.lay,S.same,S.fair,bq S.low e,λb g=>S.free b (bq e g),f,c⟩
theorem anv(S:uk ρ I L q fs nm X w v){fr fr'}{cs cs'}(h:eW ρ I q nm w.heap.size fr fr')(t:gQ ρ I q nm w.heap.size cs cs'){ops}{i}{l}{k}(n:fr.todo=aP ops (i::l)::k):
  u ρ I L (b::bs) (After ρ I q fs nm X b bs B') w v (CS (J q fs) Z fr (cs++b::bs) V w) (CS q Z fr' (cs'++B') V v):=by
 obtain⟨f,g,P⟩:=h.Yn n;have r:fr.oper? =ops[i]? :=by unfold LM;grind
 have p:fr'.oper? =ops[i]? :=by unfold LM;rw[f];rfl
 unfold CS;rw[r,p];cases j:ops[i]? with
 |none=>exact trivial
 |some o=>
  simp only[rW,kC] at g;have d:=g o (tI j);have s:∀c,o.op≠ .defer c:=λc e=>by rw[e] at d;cases d
  have:=SU (b:=b) (bs:=bs) (B':=B') S.lay S.same h t (Z8 S.lay S.free S.fair S.low (h.eval S.fair S.low) (λ_=>rfl) (λ_=>rfl) d) S.ku S.shift
  grind
theorem aiO(ops){e c}(h:bu ρ I N e c)(j):dY ops c j=dY ops e j:=by
 unfold dY;cases (ops[j]?).bind (·.dst) with
 |none=>rfl
 |some d=>
  simp only[xC];rw[h.2,pS];cases e[d]? with
  |none=>rfl
  |some v=>cases v<;>rfl
theorem aaX(e)(f)(l):resolve e {callee:=.value f,args:= #[gB (dH (A0 l) #[] #[])],argTypes:= #[]} 0=L9 (e f) #[e (gB (dH (A0 l) #[] #[]))]:=by simp[resolve]
theorem aai{p q}(x)(f:dN ρ I L w v):(∃n,(choose x).run p w=aV n w∧(choose x).run q v=aV n v)∨
  (∃n,(choose x).run p w=aV n {w with drawn:=w.drawn+1}∧(choose x).run q v=aV n {v with drawn:=v.drawn+1})∨
  ∃n,(choose x).run p w=aV n {w with drawn:=w.drawn+1}∧¬ ∀D,L=U D->w.drawn+1<=D:=by
 by_cases c:x.forced=Z
 ·exact ax ⟨0,by simp[c],by simp[c]⟩
 ·by_cases d:∀D,L=U D->w.drawn+1<=D
  ·have e:v.tape v.drawn=w.tape w.drawn:=f.tape 0 λD g=>d D g;exact aA (ax ⟨x.cut (w.tape w.drawn x),by simp[c],by simp[c,e]⟩)
  ·exact aA (aA ⟨x.cut (w.tape w.drawn x),by simp[c],d⟩)
theorem anW(hB:zC I q m' B')(QY:uk ρ I L q fs nm X w v){fr fr':aX}{cs cs':List aX}(h:eW ρ I q nm w.heap.size fr fr')(t:gQ ρ I q nm w.heap.size cs cs'):
  u ρ I L (b::bs) (After ρ I q fs nm X b bs B') w v (va (J q fs) m Z fr (cs++b::bs) V w) (va q m' Z fr' (cs'++B') V v):=by
 have tm:=QY.same.gh;have Ky:=h.todo;obtain⟨fn,C,todo,y,G,H,Q⟩:=fr;obtain⟨o,A,aDe,s,QX,E,K⟩:=fr';simp only at Ky;subst Ky;have QW:∀l:List eS,(∀i∈l,rW I q nm w.heap.size i=Z)->u ρ I L (b::bs) (After ρ I q fs nm X b bs B') w v (bS (r (⟨fn,C,l,y,G,H,Q⟩:aX) (cs++b::bs)) w) (bS (r (⟨o,A,l.map (iK ρ),s,QX,E,K⟩:aX) (cs'++B')) v):=
  λl hl=>u.go QY.ku (.within (ax (h.to hl)) t)
 have fin:∀x x',RV ρ I w.heap.size x x'->u ρ I L (b::bs) (After ρ I q fs nm X b bs B') w v (bS (r ((⟨fn,C,todo,y,G,H,Q⟩:aX).finish x) (cs++b::bs)) w) (bS (r ((⟨o,A,todo.map (iK ρ),s,QX,E,K⟩:aX).finish x') (cs'++B')) v):=
  λx x' hx=>u.go QY.ku (.within (ax (h.finish hx)) t)
 have D:=λ(j:Option Code) (l1 l2:String)=>anQ (m:=m) (m':=m') (b:=b) (bs:=bs) (B':=B') hB (lost:=l1) (lost':=l2) (j:=j) QY h t;have tW:=h.eval QY.fair QY.low;unfold va;cases todo with
 |nil=>exact D V _ _ (by simp)
 |cons i k=>
  obtain⟨_,O,Q2⟩:=h.Yn rfl;cases i with
  |call _ _ _ _=>cases O
  |extern _ _=>cases O
  |inScope _=>cases O
  |inBlock id=>exact QW k Q2
  |inLoop c=>exact QW (bD c:: .inLoop c::k) (gU.2 ⟨O,gU.2 ⟨O,Q2⟩⟩)
  |inRangeFunc l=>exact trivial
  |endRangeFunc l=>
   have tV:o=fn:=h.fn;subst tV;refine u.of_run (fn:=o) (f:=λQZ=>match QZ with
    |aV Q0 w=>bS {frame:=(⟨o,C,(Q0.map bD).toList++k,y,G,H,Q⟩:aX),callers:=cs++b::bs,status:=dM,dying:=V} w
    |dL (.panic v) w=>bS {frame:=(⟨o,C,Ii l::k,y,G,H,Q⟩:aX).raise [{v,recovered:=ai}],callers:=cs++b::bs,status:=dM,dying:=V} w
    |dL _ w=>ff (jO "range over a function: no such loop" ((⟨o,C,Ii l::k,y,G,H,Q⟩:aX).pos (J q fs))) w) (f':=λQZ=>match QZ with
    |aV Q0 w=>bS {frame:=(⟨o,A,(Q0.map bD).toList++k.map (iK ρ),s,QX,E,K⟩:aX),callers:=cs'++B',status:=dM,dying:=V} w
    |dL (.panic v) w=>bS {frame:=(⟨o,A,Ii (ρ l)::k.map (iK ρ),s,QX,E,K⟩:aX).raise [{v,recovered:=ai}],callers:=cs'++B',status:=dM,dying:=V} w
    |dL _ w=>ff (jO "range over a function: no such loop" ((⟨o,A,Ii (ρ l)::k.map (iK ρ),s,QX,E,K⟩:aX).pos q)) w) (an0 O) QY.ku QY.shift ?_ ?_
   ·rintro L j _ R Q3 hN ⟨rfl,hj⟩ T _;have Cq:∀i∈(j.map bD).toList++k,rW I q nm R.heap.size i=Z:=λi O=>by
     rcases List.mem_append.1 O with O|O
     ·cases j with
      |none=>grind
      |some c=>
       simp only[ey,Option.toList_some,mA] at O;subst O;exact hj c rfl
     grind[N0]
    have e:((j.map bD).toList++k).map (iK ρ)=(j.map bD).toList++k.map (iK ρ):=by rw[List.map_append];cases j<;>rfl
    have:=u.go (B:=b::bs) (A:=After ρ I q fs nm X b bs B') T (.within (ax ((h.mono hN).to Cq)) (t.mono hN));rw[e] at this;exact this
   ·rintro x R ⟨w0,h0,hWh,VT⟩;cases x<;>first|exact ax ⟨_,_,_,rfl⟩|exact aA ⟨_,_,_,rfl,ju.Xb (ax h) t h0 hWh VT⟩
  |beginRound=>
   refine SU QY.lay QY.same h t ?_ QY.ku QY.shift;have hr:K=Q.map ρ:=h.round;subst hr;cases Q with
   |none=>exact .dead (z.bind (.halt _) _)
   |some l=>
    refine W.bind' (aod (h.rounds l rfl)) ?_;rintro M _ _ hM _;exact .pure' .skip
  |inRegion B l=>
   cases l with
   |nil=>exact QW k Q2
   |cons i l=>
    have hy:dY B A=dY B C:=funext (aiO B h.tmps);have h1:=anv (b:=b) (bs:=bs) (B':=B') QY h t rfl;have h2:=fin ak ak (RV.plain tu);by_cases hw:((B[i]?).map (eP · (dY B C))).getD ai=Z
    ·have hw':((B[i]?).map (eP · (dY B A))).getD ai=Z:=by rw[hy];exact hw
     show u _ _ _ _ _ w v (if((B[i]?).map (eP · (dY B C))).getD ai=Z then _ else _) (if((B[i]?).map (eP · (dY B A))).getD ai=Z then _ else _)
     rw[dn hw,dn hw'];exact h1
    ·have hw':¬((B[i]?).map (eP · (dY B A))).getD ai=Z:=by rw[hy];exact hw
     show u _ _ _ _ _ w v (if((B[i]?).map (eP · (dY B C))).getD ai=Z then _ else _) (if((B[i]?).map (eP · (dY B A))).getD ai=Z then _ else _)
     rw[if_neg hw,if_neg hw'];exact h2
  |code c=>
   have P:ie I q nm c=Z:=by rw[<-tm];exact O
   cases c with
   |scope _=>cases P
   |label _=>cases P
   |goto _=>cases P
   |refuse _=>exact trivial
   |ret=>exact D (U .ret) _ _ (by rintro c ⟨⟩;exact O)
   |skip=>exact QW k Q2
   |seq a c=>
    simp only[ie,cS] at P;exact QW (bD a::bD c::k) (gU.2 ⟨(tm _).trans P.1,gU.2 ⟨(tm _).trans P.2,Q2⟩⟩)
   |block id c=>exact QW (bD c::lI id::k) (gU.2 ⟨(tm _).trans P,gU.2 ⟨rfl,Q2⟩⟩)
   |loop c=>exact QW (bD c:: .inLoop c::k) (gU.2 ⟨(tm _).trans P,gU.2 ⟨(tm _).trans P,Q2⟩⟩)
   |cond x a c=>
    simp only[ie,cS] at P;obtain⟨e1,e2⟩:=tW x P.1.1;have Q1:∀(Qx u':ay) (Qy o':Outcome),u'=F ρ Qx->u ρ I L (b::bs) (After ρ I q fs nm X b bs B') w v
      (match Qx with
       |cz Qw=>bS (r ⟨fn,C,bD (if Qw then a else c)::k,y,G,H,Q⟩ (cs++b::bs)) w
       |_=>ff Qy w)
      (match u' with
       |cz Qw=>bS (r ⟨o,A,bD (if Qw then a else c)::k.map (iK ρ),s,QX,E,K⟩ (cs'++B')) v
       |_=>ff o' v):=by
     rintro Qx _ Qy o' rfl;cases Qx<;>try exact trivial
     rename_i Qw;cases Qw with
     |true=>exact QW (bD a::k) (gU.2 ⟨(tm _).trans P.1.2,Q2⟩)
     |false=>exact QW (bD c::k) (gU.2 ⟨(tm _).trans P.2,Q2⟩)
    exact Q1 _ _ _ _ e2
   |exit id=>
    have Q1:∀(Qy o':Option (List eS)) (g g':GStep),o'=Qy.map (λl=>l.map (iK ρ))->(∀l,Qy=U l->∀i∈l,rW I q nm w.heap.size i=Z)->u ρ I L (b::bs) (After ρ I q fs nm X b bs B') w v g g'->
      u ρ I L (b::bs) (After ρ I q fs nm X b bs B') w v (Qy.elim g λl=>bS (r ⟨fn,C,l,y,G,H,Q⟩ (cs++b::bs)) w) (o'.elim g' λl=>bS (r ⟨o,A,l,s,QX,E,K⟩ (cs'++B')) v):=by
     rintro Qy _ g g' rfl ho hg;cases Qy with
     |none=>exact hg
     |some l=>exact QW l (ho l rfl)
    exact Q1 (exitTo id k) _ _ _ (WV id k) (λl hl i O=>Q2 i (Lt id k l hl i O)) (D (U (.exit id)) _ _ (by rintro c ⟨⟩;exact O))
   |region id B d=>
    have Pe:rW I q nm w.heap.size (aP B [])=Z:=P;cases d with
    |false=>exact QW (aP B (lW B.size)::k) (gU.2 ⟨Pe,Q2⟩)
    |true=>
     have tV:o=fn:=h.fn;subst tV;have go2:∀(n:Nat) (R Q3:av),dN ρ I L R Q3->fg ρ I w v R Q3->R.heap.size=w.heap.size->u ρ I L (b::bs) (After ρ I q fs nm X b bs B') w v
       (bS (r ⟨o,C,aP B (lZ (q.follows mE) B n)::k,y,G,H,Q⟩ (cs++b::bs)) R)
       (bS (r ⟨o,A,aP B (lZ (q.follows mE) B n)::k.map (iK ρ),s,QX,E,K⟩ (cs'++B')) Q3):=λn R Q3 T hT hs=>
      aA ⟨hT.CJ,λ_=>⟨_,Q3, #[],rfl,.within (ax ((h.mono (by omega)).to (l:=aP B (lZ (q.follows mE) B n)::k) (gU.2 ⟨Pe,λi O=>N0 (by omega) (Q2 i O)⟩))) (t.mono (by omega)),T,hT,by simp⟩⟩
     have Q1:∀(n:Nat) (R Q3:av) (QZ r':Result Nat),QZ=aV n R->r'=aV n Q3->dN ρ I L R Q3->fg ρ I w v R Q3->R.heap.size=w.heap.size->u ρ I L (b::bs) (After ρ I q fs nm X b bs B') w v
       (match QZ with
        |aV t w=>bS (r ⟨o,C,aP B (lZ ((J q fs).follows mE) B t)::k,y,G,H,Q⟩ (cs++b::bs)) w
        |dL _ w=>ff (jO "order" (oe (J q fs) ⟨o,C,bD (dQ id B Z)::k,y,G,H,Q⟩)) w)
       (match r' with
        |aV t w=>bS (r ⟨o,A,aP B (lZ (q.follows mE) B t)::k.map (iK ρ),s,QX,E,K⟩ (cs'++B')) w
        |dL _ w=>ff (jO "order" (oe q ⟨o,A,bD (dQ id B Z)::k.map (iK ρ),s,QX,E,K⟩)) w):=by
      rintro n R Q3 _ _ rfl rfl T hT hs;exact go2 n R Q3 T hT hs
     rcases aai (p:=J q fs) (q:=q) (.order o id) QY.ku with⟨n,e1,e2⟩|⟨n,e1,e2⟩|⟨n,e1,hn⟩
     ·exact Q1 n w v _ _ e1 e2 QY.ku (fg.refl _ _) rfl
     ·exact Q1 n _ _ _ _ e1 e2 QY.ku.draw (fg.draw _ _) rfl
     ·have U0:∀(QZ:Result Nat) (g:GStep),QZ=aV n {w with drawn:=w.drawn+1}->u ρ I L (b::bs) (After ρ I q fs nm X b bs B') w v
       (match QZ with
        |aV t w=>bS (r ⟨o,C,aP B (lZ ((J q fs).follows mE) B t)::k,y,G,H,Q⟩ (cs++b::bs)) w
        |dL _ w=>ff (jO "order" (oe (J q fs) ⟨o,C,bD (dQ id B Z)::k,y,G,H,Q⟩)) w) g:=by
       rintro _ g rfl;exact u.past (GH _) hn
      exact U0 _ _ e1
   |rangeFunc f ps a c=>
    simp only[ie,cS] at P;have tV:o=fn:=h.fn;subst tV;have oa:K=Q.map ρ:=h.round;refine u.of_run (q:=q) (fs:=fs) (fn:=o) (f:=λQZ=>match QZ with
     |aV (l,mark) w=>vb (J q fs) Z ⟨o,C,CX l::k,mark++y,G,H,Q⟩ (cs++b::bs) V
       (do let d<-resolve (LL ⟨o,C,CX l::k,mark++y,G,H,Q⟩) {callee:=.value f,args:= #[gB (dH (A0 l) #[] #[])],argTypes:= #[]} 0;invoke d.target d.args) w
     |dL _ w=>ff (jO "range over a function: no such loop" (oe (J q fs) ⟨o,C,bD (.rangeFunc f ps a c)::k,y,G,H,Q⟩)) w)
     (f':=λQZ=>match QZ with
     |aV (l,mark) w=>vb q Z ⟨o,A,CX l::k.map (iK ρ),mark++s,QX,E,K⟩ (cs'++B') V
       (do let d<-resolve (LL ⟨o,A,CX l::k.map (iK ρ),mark++s,QX,E,K⟩) {callee:=.value f,args:= #[gB (dH (A0 l) #[] #[])],argTypes:= #[]} 0;invoke d.target d.args) w
     |dL _ w=>ff (jO "range over a function: no such loop" (oe q ⟨o,A,bD (.rangeFunc f ps a c)::k.map (iK ρ),s,QX,E,K⟩)) w)
     (anY QY.free h.here h.tmps ps ((tm _).trans P.1.2) ((tm _).trans P.2) oa h.rounds) QY.ku QY.shift ?_ ?_
    ·rintro L ⟨l,mk⟩ ⟨l',mk'⟩ R Q3 hN ⟨hl,su,VE⟩ T ae1;dsimp only at hl su VE;subst su;have S1:=QY.later hN T ae1;have h1:=eW.enterLoop (h.mono hN) (l:=l) (k:=k) hl (λj hj=>N0 hN (Q2 j hj)) VE;refine SU S1.lay S1.same h1 (t.mono hN) ?_ T ae1;rw[aaX,aaX];refine aaf S1.lay S1.free S1.fair S1.low ((h1.eval S1.fair S1.low) f P.1.1) ?_;exact bu.nil.push (v:=dH (A0 l) #[] #[]) (v':=dH (A0 (ρ l)) #[] #[]) ⟨by simpa[S,tG,oV,nQ] using hl,by simp[F,zR,mU,oU]⟩
    ·intro x R _;exact ax ⟨_,_,_,rfl⟩
def Q6(I:H):Nat->ay->ay->Prop:=λ_ v v'=>l8 I v v'
def zD(I:H)(a:eK):Prop:=∃A,I.arg=U A∧a.block=A.g∧A.lo<=a.off
theorem zD.add{a}(h:zD I a)(n):zD I (a.add n):=by
 obtain⟨A,e,d,f⟩:=h;unfold Addr.add;split
 ·exact⟨A,e,d,f⟩
 ·exact⟨A,e,d,by grind⟩
theorem zD.ptr{a}(h:zD I a):l8 I (aE (U a)) (aE (U a)):=by obtain⟨A,f,e,d⟩:=h;exact ax ⟨rfl,aA (aA ⟨A,a,f,e,d,ax rfl⟩)⟩
theorem SV{x x'}(h:l8 I x x'):W ρ I (J q fs) q (λ_ a i=>zD I a∧i=a) N (CV x) (CV x'):=by
 rcases h with⟨rfl,rfl|⟨n,c,rfl⟩|⟨A,a,g,f,e,rfl|⟨n,c,rfl⟩⟩⟩|⟨a,c,rfl,rfl⟩
 ·exact T _ _
 ·exact T _ _
 ·exact .pure ⟨⟨A,g,f,e⟩,rfl⟩
 ·exact T _ _
 ·exact T _ _
theorem aop(t:dZ){x y i e:ay}(r:l8 I x y)(B:RV ρ I N i e):W ρ I (J q fs) q (Q6 I) N (wE t x i) (wE t y e):=by
 rcases r with⟨rfl,s⟩|⟨a,c,rfl,rfl⟩
 rotate_left
 ·unfold wE;refine W.bind' (F2 B) ?_;rintro M ⟨k,n⟩ _ F rfl;refine .dead ?_;refine z.then _ λd=>?_;cases d<;>first
   |exact z.bind (.halt _) _
   |exact(show z (J q fs) (oq t>>=λ_=>sK k n 0 zc) from z.then _ λ_=>Qd _ _ _ _ _)
 unfold wE;refine W.bind' (F2 B) ?_;rintro M ⟨k,n⟩ _ F rfl;dsimp only;have o:∀(K:Nat) (g:Option eK) (f:Nat) (j:dZ),(∀b,g=U b->zD I b∨f=0)->W ρ I (J q fs) q (Q6 I) K
   (do
    let l:=f<=1&&(match<-oq t with|.array .. =>Z|_=>ai)
    match g with
    |some a=>
     if 0<=n∧n<f then bH (aE (U (a.add (n.toNat*(<-sizeOf j)))))
     else if l then ua (wH "op/indexAddr.an index out of range at an array of length 0 or 1 (ledger 616)")
     else sK k n f zc
    |none=>sK k n 0 zc:cy ay)
   (do
    let l:=f<=1&&(match<-oq t with|.array .. =>Z|_=>ai)
    match g with
    |some a=>
     if 0<=n∧n<f then bH (aE (U (a.add (n.toNat*(<-sizeOf j)))))
     else if l then ua (wH "op/indexAddr.an index out of range at an array of length 0 or 1 (ledger 616)")
     else sK k n f zc
    |none=>sK k n 0 zc:cy ay):=λK g f j p=>by
  refine W.bind' (gq t) ?_;rintro L d _ D rfl;cases g with
  |none=>grind[Jp]
  |some a=>
   by_cases u:0<=n∧n<f
   ·simp only[u,and_self,if_true];refine W.bind' (mq j) ?_;rintro O C _ S rfl;rcases p a rfl with p|p
    ·exact .pure' (p.add _).ptr
    grind
   ·simp only[u,if_false];refine .dead ?_;have:∀b:Bool,z (J q fs) (if b=Z then ua (wH "op/indexAddr.an index out of range at an array of length 0 or 1 (ledger 616)") else sK k n (↑f) zc:cy ay):=λb=>by
     split
     ·exact .halt _
     grind[Qd]
    exact this _
 refine W.bind' (gq t) ?_;rintro K d _ R rfl;split
 ·rename_i T E;refine W.bind' (SV (ax ⟨rfl,s⟩)) ?_;rintro L _ a D ⟨Q,rfl⟩;exact o L (U a) T E (λb p=>by grind)
 ·rename_i x j g f c;refine o K g f j λb p=>?_;subst p;rcases s with h|⟨n,c,h⟩|⟨A,a,G,P,H,h|⟨n,c,h⟩⟩
  ·cases h
  ·grind
  ·grind
  ·cases h;exact ax ⟨A,G,P,H⟩
 ·exact .dead (z.bind (.halt _) _)
theorem anm(t):W ρ I (J q fs) q (λ_ a b=>a=b∧∃i,q.info? t=U i∧a=i.size) N (sizeOf t) (sizeOf t):=by refine W.bind' (qp t) ?_;rintro M a b e ⟨rfl,d⟩;exact .pure' ⟨rfl,_,d,rfl⟩
theorem aoq(s)(i)(hs:WT q s i=Z){x x'}(h:l8 I x x'):W ρ I (J q fs) q (Q6 I) N (x8 s x i) (x8 s x' i):=by
 refine W.bind' (Sv s) ?_;rintro M d _ u ⟨rfl,o⟩;unfold WT at hs;rw[o] at hs;split
 ·rename_i e;simp only at hs;cases l:e[i]? with
  |none=>grind
  |some f=>
   rw[l] at hs;simp only at hs⊢;refine W.bind' (SV h) ?_;rintro K _ a y ⟨p,rfl⟩;refine W.bind' (R:=λ_ b k=>zD I b∧k=b) ?_ ?_
   ·refine W.bind' (anm _) ?_;rintro L n _ r ⟨rfl,j,g,rfl⟩;rw[g] at hs;simp only[fI] at hs;rw[if_neg hs];exact .pure' ⟨p.add _,rfl⟩
   ·rintro L _ b r ⟨t,rfl⟩;exact .pure' t.ptr
 grind
theorem aam{a}(h:zD I a):W ρ I (J q fs) q (RV ρ I) N (load a) (load a):=by obtain⟨A,g,f,d⟩:=h;exact .Gq g f d λv e=>.pure (RV.plain e)
theorem aom{a}(k:zD I a)(i n):∀{N} {e d},bu ρ I N e d->W ρ I (J q fs) q (bu ρ I) N (loadCellsFrom a i n e) (loadCellsFrom a i n d):=by
 induction n generalizing i with
 |zero=>intro N e d h;exact .pure h
 |succ n j=>
  intro N e d h;refine W.bind' (aam (k.add i)) ?_;rintro M v l g f;exact j (i+1) ((h.mono g).push f)
theorem aon(t){x x'}(h:l8 I x x'):W ρ I (J q fs) q (RV ρ I) N (CW t x) (CW t x'):=by
 refine W.bind' (SV h) ?_;rintro M _ a e ⟨g,rfl⟩;refine W.bind' (SL t) ?_;rintro M b _ e rfl;split
 ·refine W.bind' (mq t) ?_;rintro K n _ j rfl;refine W.bind' (aom g 0 n bu.nil) ?_;rintro L i f k d;exact .pure (RV.agg d)
 grind[aam]
theorem aoo (i : Array dZ) (t : dZ) {x x' : ay} (h : l8 I x x') : W ρ I (J q fs) q (RV ρ I) N (x7 i t #[x]) (x7 i t #[x']) := by
  unfold x7
  cases i[0]? with
  | none => grind[T]
  | some t =>
  have j : (#[x] : Array ay)[0]? = U x := rfl
  have g : (#[x'] : Array ay)[0]? = U x' := rfl
  rw [j, g]
  dsimp only
  refine W.bind' (gq t) ?_
  rintro M d _ k rfl
  have s : ∀ K (n : Nat), W ρ I (J q fs) q (RV ρ I) K (bH (goInt n)) (bH (goInt n)) := fun K n => .pure' (RV.plain rfl)
  rcases h with ⟨rfl, rfl | ⟨n, c, rfl⟩ | ⟨A, a, l, r, o, rfl | ⟨n, c, rfl⟩⟩⟩ | ⟨a, c, rfl, rfl⟩ <;> cases d <;> first
    | exact T _ _
    | grind
    | (refine W.bind' (gq _) ?_
       rintro K e _ p rfl
       grind[T])
theorem fN.eval{a b}(h:fN ρ I q nm N a b)(e:Fair ρ q)(l:q.globals.size<N):∀x,rV I q (I.D a.fn) x=Z->RV ρ I N (a.eval x) (b.eval x):=by
 intro x d;cases x with
 |tmp t=>
  simp only[rV,Bool.not_eq_true'] at d;show RV ρ I N (a.tmps.getD t ak) (b.tmps.getD t ak);rw[iz,iz];cases i:a.tmps[t]? with
  |none=>rw[xB (by rw[h.tmps.size];grind)];exact RV.plain tu
  |some v=>obtain⟨j,k⟩:=h.tmps.here t v i d;rw[k];exact⟨j,rfl⟩
 |const v=>exact RV.plain d
 |global g=>
  simp only[rV,rT,cS,fI] at d;refine RV.ptr (a:=⟨g,0,V⟩) ⟨H.iQ.2 ⟨by grind,d.2⟩,?_⟩
  show(⟨g,0,V⟩:eK)={block:=ρ g,off:=0,spot:=V};rw[e.fix g (by omega)]
 |func f=>exact⟨by simpa[LL,rV,rT,S,tG,oV,nQ] using d,by simp[LL,F,zR,mU,oU]⟩
theorem fN.E3{a b}(h:fN ρ I q nm N a b){x}(d:zH (I.D a.fn) x=Z):l8 I (a.eval x) (b.eval x):=by
 cases x<;>try (cases d)
 rename_i t;show l8 I (a.tmps.getD t ak) (b.tmps.getD t ak);rw[iz,iz];cases e:a.tmps[t]? with
 |none=>rw[xB (by rw[h.tmps.size];grind)];exact l8.undef
 |some v=>obtain⟨g,f,i⟩:=h.tmps.arg t v e d;grind
theorem rA.args {a b } (h : fN ρ I q nm N a b) (f : Fair ρ q) (k : q.globals.size < N) {E } {xs : Array iI} (i : C7 I q (I.D a.fn) E 0 xs.toList = Z) : rA ρ I N E (xs.map a.eval) (xs.map b.eval) := by
  have g : ∀ (l ) (j ), C7 I q (I.D a.fn) E j l = Z → ∀ t x, l[t]? = U x → (if E (j + t) then zH (I.D a.fn) x else rV I q (I.D a.fn) x) = Z := by
    intro l
    induction l with
    | nil => grind
    | cons y l r =>
      intro j n t x i
      simp only [C7] at n
      cases t with
      | zero => grind
      | succ t =>
        grind
  have z : ∀ t x, xs[t]? = U x → (if E t then zH (I.D a.fn) x else rV I q (I.D a.fn) x) = Z := fun t x p => by
    have := g xs.toList 0 i t x (by grind)
    grind
  refine ⟨by simp, fun t v d o => ?_, fun t v d o => ?_⟩ <;>
    (rw [pS] at d ⊢
     obtain ⟨x, e, rfl⟩ := xI.1 d
     rw [e])
  · obtain ⟨s, u⟩ := h.eval f k x (by grind)
    grind
  · exact ⟨_, rfl, h.E3 (x := x) (by grind)⟩
inductive Bf(ρ:Nat->Nat)(I:H)(q:bU)(fr:aX)(N:Nat):Next->Next->Prop
 |gh {n n':Next} (hw:IE I fr) (h:RN ρ I q N n n'):Bf ρ I q fr N n n'
 |arg {v v':ay} (hd:∀ops i rest k,fr.todo=aP ops (i::rest)::k->∀o,ops[i]? =U o->o.dst.all (I.D fr.fn)=Z) (h:l8 I v v'):Bf ρ I q fr N (fV v) (fV v')
 |enter {f:fb} {l7 pI:Array ay} (hw:IE I fr) (hf:I.DF f=Z) (h:rA ρ I N (I.D f) l7 pI):Bf ρ I q fr N (jr f l7) (jr f pI)
theorem aos(i:Same I q fs nm X){fr}{f}(k:IE I fr)(j:I.DF f=Z){g d}(h:rA ρ I N (I.D f) g d):W ρ I (J q fs) q (Bf ρ I q fr) N (iu f g) (iu f d):=by
 refine W.bind' lM ?_;rintro M p e o ⟨rfl,rfl⟩;obtain⟨r,u,s,c,l,t,_,_,n⟩:=i.Xd f j;show W ρ I (J e fs) e (Bf ρ I e fr) M (match fs[f]? with|none=>_|some s=>_) _
 rw[((i.same f r u).1),l];dsimp only;rw[n,t];exact .pure' (.enter k j (h.mono o))
theorem fN.yX (n : Same I q fs nm X) {f } (o : I.DF f = Z) {g e } (h : rA ρ I N (I.D f) g e) : fN ρ I q nm N (eO (J q fs) f g er) (eO q f e er) := by
  obtain ⟨l, x, y, c, p, s, u, _, _⟩ := n.Xd f o
  rw [agm f g er (n.same f l x).1]
  unfold eO
  rw [p]
  refine ⟨rfl, l, o, ?_, rfl, ?_, rfl, rfl, rfl, ax rfl, rfl, rfl, rfl, rfl⟩
  · refine ⟨by simp [h.size], fun t v d j => ?_, fun t v d j => ?_⟩ <;>
      (rw [Array.getElem?_append] at d ⊢
       rw [h.size]
       by_cases r : t < g.size
       · rw [dn r] at d ⊢
         first
         | exact h.here t v d j
         | exact h.arg t v d j
       · grind[rP,tu,l8.undef])
  · intro i k
    simp only [xC, s, mA] at k
    subst k
    exact u
theorem aor(S:uk ρ I L q fs nm X w v){fr fr':aX}(h:fN ρ I q nm w.heap.size fr fr'){ops:Array dD}{i:Nat}{l:List Nat}{k:List eS}(ht:fr.todo=aP ops (i::l)::k){o:dD}(ho:ops[i]? =U o)(n:CL I q nm (I.D fr.fn) o=Z):
  W ρ I (J q fs) q (Bf ρ I q fr) w.heap.size (cT fr.eval o) (cT fr'.eval o):=by
 have r:∀{Q:dD->Prop},Q o->∀ops i A k,fr.todo=aP ops (i::A)::k->∀o,ops[i]? =U o->Q o:=λhQ R i' H k' e o' he=>by
  grind
 have G:(o.dst.all λd=> !I.D fr.fn d)=Z->IE I fr:=λe=>r (Q:=λo=>(o.dst.all λd=> !I.D fr.fn d)=Z) e;have K:=h.eval S.fair S.low;unfold CL at n;rw[kK] at n;rcases n with n|n
 ·rw[cS] at n;exact(Z8 S.lay S.free S.fair S.low K (λ_=>rfl) (λ_=>rfl) n.1).mono λM a b P D=>.gh (G n.2) D
 ·obtain⟨B,Q2,u,T,O,guard⟩:=o;have val:∀{s E:cy ay},B.all (I.D fr.fn)=Z->W ρ I (J q fs) q (Q6 I) w.heap.size s E->W ρ I (J q fs) q (Bf ρ I q fr) w.heap.size (do bH (fV (<-s)):cy Next) (do bH (fV (<-E)):cy Next):=λp Q3=>by refine W.bind' Q3 ?_;rintro M x Q1 P z;exact .pure' (.arg (r (Q:=λo=>o.dst.all (I.D fr.fn)=Z) p) z)
  have g:∀{s E:cy ay},(B.all λd=> !I.D fr.fn d)=Z->W ρ I (J q fs) q (RV ρ I) w.heap.size s E->W ρ I (J q fs) q (Bf ρ I q fr) w.heap.size (do bH (fV (<-s)):cy Next) (do bH (fV (<-E)):cy Next):=λp Q3=>by refine W.bind' Q3 ?_;rintro M x Q1 P z;exact .pure' (.gh (G p) (.value z))
  cases Q2<;>simp only[Ia,cS,nT] at n
  case move x=>exact .pure' (.arg (r (Q:=λo=>o.dst.all (I.D fr.fn)=Z) n.2) (h.E3 n.1))
  case assign x=>exact .pure' (.arg (r (Q:=λo=>o.dst.all (I.D fr.fn)=Z) n.2) (h.E3 n.1))
  case indexAddr t x i=>
   have z:=h.E3 n.1.1;show W ρ I (J q fs) q _ _ (do bH (fV (<-wE t (fr.eval x) (fr.eval i))):cy Next) (do bH (fV (<-wE t (fr'.eval x) (fr'.eval i))):cy Next)
   grind[aop]
  case fieldAddr s x f=>
   have z:=h.E3 n.1.1;show W ρ I (J q fs) q _ _ (do bH (fV (<-x8 s (fr.eval x) f)):cy Next) (do bH (fV (<-x8 s (fr'.eval x) f)):cy Next)
   grind[aoq]
  case load t x=>
   have z:=h.E3 n.1;show W ρ I (J q fs) q _ _ (do bH (fV (<-CW t (fr.eval x))):cy Next) (do bH (fV (<-CW t (fr'.eval x))):cy Next)
   grind[aon]
  case call c=>
   obtain⟨F,j,C⟩:=c;obtain⟨p,y⟩:=n;simp only at y;split at y
   ·rename_i e1;split at y
    ·rename_i x e2;have z:=h.E3 y;have Q0:j= #[x]:=by
      obtain⟨l⟩:=j;simp only at e2
      grind
     subst Q0;show W ρ I (J q fs) q _ _ (do bH (fV (<-x7 C u (#[x].map fr.eval))):cy Next) (do bH (fV (<-x7 C u (#[x].map fr'.eval))):cy Next)
     grind[aoo]
    grind
   ·rename_i _ f;simp only[cS] at y;show W ρ I (J q fs) q _ _ (iu f (#[]++j.map fr.eval++ #[])) (iu f (#[]++j.map fr'.eval++ #[]));have h1:(#[]++j.map fr.eval++ #[]:Array ay)=j.map fr.eval:=by simp
    have h2:(#[]++j.map fr'.eval++ #[]:Array ay)=j.map fr'.eval:=by simp
    rw[h1,h2];exact aos S.same (G p) y.1 (rA.args h S.fair S.low y.2)
   grind
end
end Go.Proofs.YtpdbmpbmepkikaaGreatDoor
