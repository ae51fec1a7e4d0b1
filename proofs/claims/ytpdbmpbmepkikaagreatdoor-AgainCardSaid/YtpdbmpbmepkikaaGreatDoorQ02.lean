/- Laws. -/
import Derived.Conc.Listed
import Derived.Test.YtpdbmpbmepkikaaGreatDoorQ01
set_option maxRecDepth 100000
set_option maxHeartbeats 400000
set_option linter.all false
open Array renaming replicate->tT
open Bool renaming true->Y,false->ai
open Decidable renaming decide->cg
open Go renaming method->Cd,runtimePanic->Cg,Goroutine->aX,Frame->aZ,undef->ak,World->ay,Value->az,Program->bW,execOp->cX,Sem->cz,Oper->dJ,Addr->eT,Item->eY,Func->ep,yielded->eu,TypeId->ey,FuncId->fq,callFunc->iA,Operand->iT,Event->jl,zeroValue->lu,MapEntry->mL,doReturn->oz,underlying->pq,boundsPanic->tW,unsupported->vh
open Go.BoundsCode renaming index->AE
open Go.Builtin renaming zeroCells->AD,firstCells->GR,ssaWrapNilChk_->OR,delete_->Uh,nextslicecap->aCA,append_->aa6,max_->akA,copy_->akB,min_->akz,len_->zk
open Go.CallKind renaming normal->eC
open Go.Code renaming seq->eI,region->ec
open Go.Deferred renaming ofValue->OM
open Go.Departure renaming mixedOrders->nG
open Go.Extern renaming findNext->aa5
open Go.Fn renaming yield->Cm,func->ez
open Go.Frame renaming eval->OA,oper?->OB,round->aa4,enter->eW,pos->o9,finish->tV
open Go.FrameMode renaming returning->fH
open Go.GStep renaming go->bU,ended->fx,after->vj
open Go.GoStatus renaming running->dU
open Go.Instr renaming next->Ci,sureAddr->EK,loadAt->EL,sameBits->EO,typeAssert->G5,entry->GV,endRound->Uc,mapUpdate->Ug,takeDeferred->Uj,keyThatStays->aa7,indexAt->xZ,fieldAt->zl
open Go.IntKind renaming i64->aC
open Go.Item renaming inRangeFunc->EM,endRangeFunc->Kv,inRegion->aT,code->bF,inBlock->mh
open Go.LoopState renaming ready->EJ
open Go.Next renaming value->gp,enter->jL
open Go.Obj renaming loop->AF,map->iZ,mapIter->vi,deferred->x6
open Go.Op renaming assign->pn
open Go.Operand renaming tmp->cx,const->gJ
open Go.Outcome renaming stuck->kB
open Go.Region renaming wanted->eX,schedule->mK
open Go.Result renaming ok->aY,halt->dR
open Go.Target renaming collected->Ku
open Go.TypeDesc renaming unsafePointer->Ud
open Go.Unsupported renaming noEntry->x7
open Go.Value renaming string->aD,slice->aE,pointer->aG,tuple->bO,bool->bQ,func->dM
open Go.stepG renaming oper->EI,exec->wM,apply->wN
open List renaming range->mJ
open Option renaming some->U,none->Z
open Or renaming inr->aA,inl->ax
open Pure renaming pure->bI
namespace Go.Proofs.YtpdbmpbmepkikaaGreatDoor
def aGj:=@Option.isNone_iff_eq_none
def Dy:=@Array.size_map
def MA:=@Array.mem_map
def dy:=@if_pos
def qh:=@Bool.false_ne_true
def agE:=@Array.toList_zip
def lF:=@Bool.or_eq_true
def oT:=@Bool.false_eq_true
def yI:=@Option.bind_some
def iE:=@Array.getD_eq_getD_getElem?
def fV:=@Option.getD_some
def mA:=@List.mem_singleton
def vO:=@List.mem_cons_of_mem
def ig:=@List.forall_mem_cons
def yH:=@Array.getElem?_eq_none
section
variable{ρ:Nat->Nat}{I:H}{q:bW}{fs:Array ep}{N M:Nat}{α β:Type}
theorem abR(f:az->az)(p:az->az->Bool):∀(l m:List az),(∀x∈l,∀y∈m,p (f x) (f y)=p x y)->((l.map f).zip<|m.map f).all (λx=>p x.1 x.2)=(l.zip m).all λx=>p x.1 x.2|[],_,_=>by simp|_::_,[],_=>by simp|x::l,y::m,h=>by simp only[gd,List.zip_cons_cons,List.all_cons];rw[h x (by simp) y<|by simp,abR f p l m λa c b d=>h a (by simp[c]) b<|by simp[d]]
theorem afq(c:Fair ρ q)(a b:Option eT):(a.map (dH ρ)==b.map (dH ρ))=(a==b):=by
 cases a<;>cases b<;>try rfl
 rename_i a b;simp only[eG];show(dH ρ a==dH ρ b)=(a==b);exact Ux c.inj a b
theorem asK(h:Fair ρ q)(n):∀(a b),S I N a=Y->S I N b=Y->EO n (F ρ a) (F ρ b)=EO n a b:=by induction n with|zero=>intro a b c d;cases a<;>(try(simp[S]at c;done))<;>cases b<;>(try(simp[S]at d;done))<;>simp only[F,EO];all_goals grind[afq,S,Option.isNone_iff_eq_none]|succ n g=>
  intro a b c d;cases a<;>(try(simp[S]at c;done))<;>cases b<;>(try(simp[S]at d;done))<;>simp only[F,EO];.grind[afq]
  .grind[S,Option.isNone_iff_eq_none]
  .grind[S]
  .have e:=bD.Dn (ρ:=ρ) c;have f:=bD.Dn (ρ:=ρ) d;rw[e.2,f.2,Dy,Dy,yK,yK];congr 1;exact abR (F ρ) (EO n) _ _ λx j y i=>g x y (e.1 x<|by grind)<|f.1 y<|by grind
theorem arB(d:Fair ρ q){a a' b g}(e:RV ρ I N a a')(c:RV ρ I N b g):W ρ I (J q fs) q (RV ρ I) N (aa7 a b)<|aa7 a' g:=by
 unfold aa7;rw[e.2,c.2,asK d _ _ _ e.1 c.1];split;.exact .pure' ⟨c.1,rfl⟩
 .refine W.bind' (Fz _) ?_;rintro M n _ f rfl;refine .pure' ?_;split;.exact⟨ff f c.1,rfl⟩
  .exact⟨ff f e.1,rfl⟩
theorem Qv{r c}{es es'}(a:I.blk N r=Y)(h:jO ρ I N es es'):W ρ I (J q fs) q RU N (setObj r<|iZ es c)<|setObj (ρ r)<|iZ es' c:=by
 have e:iZ es' c=fb ρ (iZ es c):=by rw[h.2];simp[fb]
 rw[e];exact LJ a (by simpa only[eF,kZ]using h.1)<|by simp
theorem jO.modify{es es'}(h:jO ρ I N es es')(i){k k' v v'}(b:RV ρ I N k k')(a:RV ρ I N v v'):jO ρ I N (es.modify i λe=>{e with key:=k,val:=v})<|es'.modify i λe=>{e with key:=k',val:=v'}:=by
 refine⟨λe c=>?_,?_⟩
 .obtain⟨j,d,rfl⟩:=Array.mem_iff_getElem.1 c;rw[Array.getElem_modify];split;.simp[qK,b.1,a.1]
  .exact h.1 _<|Array.getElem_mem _
 .rw[h.2,b.2,a.2];refine Array.ext_getElem? λj=>?_;simp only[Ae,qM];split;.cases es[j]?<;>rfl
  .rfl
theorem jO.push{es es'}(h:jO ρ I N es es')(c){k k' v v'}(d:RV ρ I N k k')(b:RV ρ I N v v'):jO ρ I N (es.push {key:=k,val:=v,born:=c})<|es'.push {key:=k',val:=v',born:=c}:=by
 refine⟨λe a=>?_,by rw[h.2,Array.map_push,d.2,b.2];rfl⟩;rcases Array.mem_push.1 a with a|rfl;.exact h.1 e a
 .simp[qK,d.1,b.1]
theorem jO.axa{es es'}(h:jO ρ I N es es')(i:Nat){k k'}(c:RV ρ I N k k'):RV ρ I N ((es[i]?.map (·.key)).getD k) ((es'[i]?.map (·.key)).getD k'):=by rw[h.2,qM];cases b:es[i]? with|none=>exact c|some e=>have:=h.1 e<|uG b;simp only[qK,cV]at this;exact⟨this.1,rfl⟩
theorem adD(g:Fair ρ q)(t){m m' k k' v v'}(A:RV ρ I N m m')(f:RV ρ I N k k')(h:RV ρ I N v v'):W ρ I (J q fs) q RU N (Ug t m k v)<|Ug t m' k' v':=by
 unfold Ug;refine W.bind' (gC t) ?_;rintro M d _ D rfl;cases d<;>try exact T _ _
 rename_i w j;obtain⟨p,rfl⟩:=A;cases m<;>try exact T _ _
 rename_i r;cases r with|none=>grind[It]|some r=>
  simp only[F,eG];have n:I.blk M r=Y:=H.eD (by grind[S]) D;refine W.bind' (vI n) ?_;rintro K o z G⟨R,rfl⟩;cases o<;>try exact T _ _
  rename_i l c;simp only[fb];have b:jO ρ I K l<|l.map<|kS ρ:=⟨by grind[eF,Array.all_eq_true_iff_forall_mem],rfl⟩;refine W.bind' (QI _ _ _ _ _ _<|f.mono<|by omega) ?_;rintro L _ _ u _;refine W.bind' (Wo g _ (f.mono<|by omega)<|b.mono u) ?_;rintro O o z Q0⟨B,rfl⟩;have e:I.blk O r=Y:=by grind[H.eD]
  cases o with|none=>exact Qv e<|(b.mono<|by omega).push c (f.mono<|by omega)<|h.mono<|by omega|some x=>obtain⟨i,y⟩:=x;simp only[eG];refine W.bind' (arB g ((b.mono<|by omega).axa i<|f.mono<|by omega)<|f.mono<|by omega) ?_;rintro P a E C s;exact Qv (H.eD e C)<|(b.mono<|by omega).modify i s<|h.mono<|by omega
theorem arL(v:Fair ρ q)(n)(t){j f}(A:bD ρ I N j f):W ρ I (J q fs) q (RV ρ I) N (Uh n t j)<|Uh n t f:=by unfold Uh;cases n[0]? with|none=>grind[T]|some mt=>cases G:j[0]? with|none=>grind[T]|some m=>cases R:j[1]? with|none=>grind[T]|some k=>
 obtain⟨Q2,D⟩:=A.get G;obtain⟨p,C⟩:=A.get R;rw[D,C];dsimp only;refine W.bind' (gC mt) ?_;rintro M d _ B rfl;cases d<;>try exact T _ _
 rename_i Q1 z;have u:RV ρ I N k<|F ρ k:=⟨p,rfl⟩;have b:∀K(s w:cz Unit),W ρ I (J q fs) q RU K s w->W ρ I (J q fs) q (RV ρ I) K (do s;bI<|bO #[]) (do w;bI<|bO #[]):=λK s w h=>W.bind' h λL _ _ _ _=>.pure'<|RV.plain rfl;cases m<;>try exact .dead<|y.bind (.halt _) _
 rename_i r;cases r with|none=>exact b M _ _<|QI _ _ _ _ _ _<|u.mono B|some r=>
  simp only[F,eG];have E:I.blk M r=Y:=H.eD (by grind[S]) B;refine W.bind' (vI E) ?_;rintro K o P Q0⟨QX,rfl⟩;cases o<;>try exact .dead<|y.bind (.halt _) _
  rename_i l c;simp only[fb];have a:jO ρ I K l<|l.map<|kS ρ:=⟨by grind[eF,Array.all_eq_true_iff_forall_mem],rfl⟩;rw[a.isEmpty];refine W.bind' (QI _ _ _ _ _ _<|u.mono<|by omega) ?_;rintro L _ _ Q3 _;refine W.bind' (Wo v _ (u.mono<|by omega)<|a.mono Q3) ?_;rintro O o P X⟨Q,rfl⟩;have g:I.blk O r=Y:=by grind[H.eD]
  cases o with|none=>exact b O _ _<|Qv g<|a.mono<|by omega|some x=>
   obtain⟨i,QY⟩:=x;simp only[eG];refine b O _ _<|Qv g ?_;have h:=a.mono (M:=O) (by omega);unfold Array.eraseIdxIfInBounds;by_cases hi:i<l.size;.rw[dif_pos hi,dif_pos<|by grind];refine⟨λe QW=>h.1 e<|Array.mem_of_mem_eraseIdx QW,?_⟩;grind
   grind
theorem Wb(c:∀b,N<=b->I.F b=Y){o}(d:eF I N o=Y):W ρ I (J q fs) q (RV ρ I) N (do bI<|aG<|U ⟨<-newObj o,0,Z⟩) (do bI<|aG<|U ⟨<-newObj<|fb ρ o,0,Z⟩):=by refine W.bind' (Iv (c N<|aS _) d) ?_;rintro L r f g⟨rfl,_,rfl,e⟩;exact .pure'<|RV.ptr ⟨e,rfl⟩
theorem ara(f:∀b,N<=b->I.F b=Y)(t){x x'}(l:RV ρ I N x x'):W ρ I (J q fs) q (RV ρ I) N (Instr.range t x)<|Instr.range t x':=by
 refine W.bind' (gC t) ?_;rintro M d _ j rfl;obtain⟨g,rfl⟩:=l;cases d<;>try exact .dead<|y.bind (.halt _) _
 case string=>
  cases x<;>try exact .dead<|y.bind (.halt _) _
  rename_i s;have:=Wb (ρ:=ρ) (q:=q) (fs:=fs) (N:=M) (λb i=>f b<|by omega) (o:=.stringIter s 0) (by simp[eF]);exact this
 case map k e=>
  cases x<;>try exact .dead<|y.bind (.halt _) _
  rename_i r;cases r with|none=>have:=Wb (ρ:=ρ) (q:=q) (fs:=fs) (N:=M) (λb i=>f b<|by omega) (o:=vi Z 0 #[] 0) (by simp[eF]);exact this|some m=>
   have h:=H.eD (by simpa[S]using g) j;refine W.bind' (vI h) ?_;rintro K o v n⟨p,rfl⟩;cases o<;>try exact .dead<|y.bind (.halt _) _
   rename_i u c;have:=Wb (ρ:=ρ) (q:=q) (fs:=fs) (N:=K) (λb i=>f b<|by omega) (o:=vi (U m) c #[] c) (by simpa[eF]using H.eD h n);exact this
theorem aBn(p)(b:∀e,p (kS ρ e)=p e)(es:Array mL):(es.map<|kS ρ).filter p=(es.filter p).map (kS ρ):=by rw[Array.filter_map];congr 1;exact congrArg (λf=>es.filter f)<|funext b
theorem jO.filter{es es'}(h:jO ρ I N es es')(p)(c:∀e,p (kS ρ e)=p e):jO ρ I N (es.filter p)<|es'.filter p:=⟨λe b=>h.1 e (Array.mem_filter.1 b).1,by rw[h.2,aBn p c]⟩
theorem jO.append{es es' c b}(h:jO ρ I N es es')(k:jO ρ I N c b):jO ρ I N (es++c)<|es'++b:=⟨λe d=>(BB.1 d).elim (h.1 e)<|k.1 e,by rw[h.2,k.2,Array.map_append]⟩
theorem arf(ty:ey)(i:Bool){x x':az}(E:RV ρ I N x x'):W ρ I (J q fs) q (RV ρ I) N (Ci x i ty)<|Ci x' i ty:=by
 unfold Ci;obtain⟨QX,rfl⟩:=E;cases x<;>try exact T _ _
 rename_i a;cases a with|none=>grind[T]|some a=>obtain⟨r,B,QY⟩:=a;cases B with|succ _=>grind[T]|zero=>
 have QW:I.blk N r=Y:=by simpa[S]using QX
 have k:∀K,W ρ I (J q fs) q (RV ρ I) K (bI<|bO #[bQ ai])<|bI<|bO #[bQ ai]:=λK=>.pure'<|RV.plain rfl;simp only[F,eG,dH];refine W.bind' (vI QW) ?_;rintro M o Q1 Qw⟨Q3,rfl⟩;have z:I.blk M r=Y:=H.eD QW Qw;cases o<;>try exact T _ _
 case stringIter s pos=>cases i with|false=>grind[T]|true=>
   simp only[fb];split;·refine W.bind' (LJ (o:=.stringIter s<|pos+(Utf8.decode s pos).2) z (by simp[eF])<|by simp) ?_;rintro K _ _ R _;exact .pure'<|RV.plain rfl
   grind
 case mapIter m since seen last=>cases i with|true=>grind[T]|false=>cases m with|none=>exact k M|some m=>
   simp only[fb,eG];have P:I.blk M m=Y:=by simpa[eF]using Q3
   refine W.bind' (vI P) ?_;rintro K o Q1 R⟨D,rfl⟩;cases o<;>try exact T _ _
   rename_i l p;simp only[fb];have t:jO ρ I K l<|l.map<|kS ρ:=⟨by simpa only[eF,kZ]using D,rfl⟩;generalize b:l.map (kS ρ)=h at t⊢;have Q2:(!seen.isEmpty&&!h.isEmpty&&h.all (·.born≥last))=(!seen.isEmpty&&!l.isEmpty&&l.all (·.born≥last)):=by rw[t.isEmpty,<-b,Array.all_map];rfl
   rw[Q2];split;·exact .dead<|y.bind (.halt _) _
   ·have G:=t.filter (λe=>!seen.contains e.born) λe=>rfl;have c:=G.filter (·.born<since) λe=>rfl;have f:=G.filter (·.born≥since) λe=>rfl;have w:=c.append f;generalize((l.filter λe=>!seen.contains e.born).filter (·.born<since))=d at c w⊢;generalize((h.filter λe=>!seen.contains e.born).filter (·.born<since))=j at c w⊢;generalize((l.filter λe=>!seen.contains e.born).filter (·.born≥since))=v at f w⊢;generalize((h.filter λe=>!seen.contains e.born).filter (·.born≥since))=A at f w⊢;have X:((if j.isEmpty=Y then#[Z]else#[])++(j++A).map U:Array<|Option mL)=((if d.isEmpty=Y then#[Z]else#[])++(d++v).map U).map λo:Option mL=>o.map<|kS ρ:=by rw[c.isEmpty,w.2];split<;>simp<;>rfl
    have Qx:∀e,U e∈((if d.isEmpty=Y then#[Z]else#[])++(d++v).map U:Array<|Option mL)->qK I K e=Y:=λe g=>by
     rcases BB.1 g with g|g;·split at g<;>simp at g
     ·obtain⟨e',C,E⟩:=MA.1 g;cases E;exact w.1 _ C
    rw[X];generalize((if d.isEmpty=Y then#[Z]else#[])++(d++v).map U:Array<|Option mL)=u at Qx⊢;rw[Dy];refine W.bind' (Fz _) ?_;rintro L n _ QZ rfl;rw[qM];cases Q0:u[n]? with|none=>exact T _ _|some o=>cases o with|none=>exact k L|some e=>have g:=afD QZ<|Qx e<|uG Q0;simp only[qK,cV]at g;simp only[eG];refine W.bind' (LJ (o:=vi (U m) since (seen.push e.born) p) (H.eD z<|by omega) (by simpa[eF]using H.eD P<|by omega)<|by simp) ?_;rintro O _ _ Q _;refine .pure'<|RV.tuple (vs:=#[bQ Y,e.key,e.val]) (vs':=#[bQ Y,(kS ρ e).key,(kS ρ e).val]) ?_;exact((bD.nil.push<|RV.plain rfl).push ⟨ff Q g.1,rfl⟩).push ⟨ff Q g.2,rfl⟩
theorem aBk(p)(b:∀e,p (kS ρ e)=p e)(es:Array mL):(es.map<|kS ρ).find? p=(es.find? p).map (kS ρ):=by rw[Array.find?_map];congr 1;exact congrArg (λf=>es.find? f)<|funext b
theorem arH{x x':az}(s:RV ρ I N x x'):W ρ I (J q fs) q (RV ρ I) N (GV x)<|GV x':=by
 unfold GV;obtain⟨j,rfl⟩:=s;cases x<;>try grind[T]
 rename_i a;cases a with|none=>grind[T]|some a=>obtain⟨r,h,n⟩:=a;cases h with|succ _=>grind[T]|zero=>
 have t:I.blk N r=Y:=by simpa[S]using j
 simp only[F,eG,dH];refine W.bind' (vI t) ?_;rintro M o v A⟨p,rfl⟩;cases o<;>try exact T _ _
 rename_i m i f g;cases m with|none=>grind[T]|some m=>
  simp only[fb,eG];have w:I.blk M m=Y:=by simpa[eF]using p
  cases f.back? with|none=>grind[T]|some c=>
  refine W.bind' (vI w) ?_;rintro K o v z⟨d,rfl⟩;cases o<;>try exact T _ _
  rename_i u l;simp only[fb];split;.exact .dead<|y.bind (.halt _) _
  .rw[aBk (ρ:=ρ) (λe=>e.born==c) λe=>rfl];cases C:u.find? λe=>e.born==c with|none=>exact iw _ _|some e=>simp only[eF,kZ]at d;have k:=d e<|Array.mem_of_find?_eq_some C;simp only[qK,cV]at k;refine .pure'<|RV.tuple (vs:=#[e.key,e.val]) (vs':=#[(kS ρ e).key,(kS ρ e).val]) ?_;exact(bD.nil.push ⟨k.1,rfl⟩).push ⟨k.2,rfl⟩
theorem aqU(r:sK q)(n b:ey)(g:Bool){x x':az}(l:RV ρ I N x x'):W ρ I (J q fs) q (RV ρ I) N (G5 x n b g)<|G5 x' n b g:=by
  unfold G5;have e:∀K(v f:az),RV ρ I K v f→W ρ I (J q fs) q (RV ρ I) K (bI<|if g then bO #[v,bQ Y]else v) (bI<|if g then bO #[f,bQ Y]else f):=fun K v f h=>by
    split;.exact .pure'<|RV.tuple (vs:=#[v,bQ Y]) (vs':=#[f,bQ Y])<|(bD.nil.push h).push<|RV.plain rfl
    .exact .pure' h
  have c:∀K(s d:Option ey)(m:String),W ρ I (J q fs) q (RV ρ I) K (if g=Y then do bI<|bO #[←lu b,bQ ai]else Cg<|.typeAssertion s d b m:cz az) (if g=Y then do bI<|bO #[←lu b,bQ ai]else Cg<|.typeAssertion s d b m:cz az):=fun K s d m=>by
    split;.refine W.bind' (C8 r b) ?_;rintro L v f t⟨h,_⟩;exact .pure'<|RV.tuple (vs:=#[v,bQ ai]) (vs':=#[f,bQ ai])<|(bD.nil.push h).push<|RV.plain rfl
    grind[It]
  refine W.bind' (gC b) ?_;rintro M d _ o rfl;have j:=l.mono o;obtain⟨k,rfl⟩:=l;cases x<;>cases d<;>first
    |exact T _ _|exact c M _ _ _
    | (simp only[F];split;.exact e M _ _ ⟨ff o<|by simpa[S]using k,rfl⟩
       .exact c M _ _ _)
    | (refine W.bind' (rH _) ?_;rintro K i _ p⟨rfl,_⟩;split;.exact e K _ _<|j.mono p
       .exact c K _ _ _)
theorem adI(c:Array ey)(t:ey){B A:Array az}(i:bD ρ I N B A):W ρ I (J q fs) q (RV ρ I) N (zk c t B)<|zk c t A:=by unfold zk;cases c[0]? with|none=>grind[T]|some t=>cases h:B[0]? with|none=>grind[T]|some x=>obtain⟨b,g⟩:=i.get h;rw[g];dsimp only;refine W.bind' (gC t) ?_;rintro M d _ k rfl;have f:∀K(n:Nat),W ρ I (J q fs) q (RV ρ I) K (bI<|goInt n)<|bI<|goInt n:=fun K n=>.pure'<|RV.plain rfl;rcases x with v|⟨u,m⟩|⟨_,_⟩|⟨_,_,_⟩|l|_|⟨_,_,_⟩|(_|r)|(_|r)|⟨_,_,_⟩|_|⟨_,_⟩|_|_|_<;>(try(simp[S]at b;done))<;>cases d<;>first|exact T _ _|exact f M _|(refine W.bind' (gC _) ?_;rintro K e _ j rfl;grind[T])|(simp only[F,eG];refine W.bind' (vI<|H.eD (by simpa[S]using b) k) ?_;rintro K o s j⟨p,rfl⟩;cases o<;>first|grind[T]|(simp only[fb,Dy];exact f K _))
theorem Wh{x x'}(b:RV ρ I N x x'):W ρ I (J q fs) q RD N (Builtin.lenOf x)<|Builtin.lenOf x':=by obtain⟨c,rfl⟩:=b;cases x<;>first|exact .pure rfl|exact T _ _
theorem Wn(s n){x x'}(e:RV ρ I N x x'):W ρ I (J q fs) q (bD ρ I) N (GR s n x)<|GR s n x':=by obtain⟨c,rfl⟩:=e;rcases x with f|⟨i,h⟩|⟨_,_⟩|⟨_,_,_⟩|g|_|⟨(_|a),_,_⟩|(_|r)|(_|r)|⟨_,_,_⟩|_|⟨_,_⟩|_|_|_<;>first|exact T _ _|exact .pure bD.nil|exact QB ⟨by simpa[S]using c,rfl⟩ _|(refine .pure<|bD.plain fun v d=>?_;obtain⟨_,_,rfl⟩:=MA.1 d;rfl)
theorem bD.zeroCells{v}(h:n v=Y)(a):bD ρ I N (AD v.cells a)<|AD v.cells a:=by unfold AD;grind[bD.plain,WY,Ma]
theorem ar2(hF:∀b,N<=b->I.F b=Y)(hz:sK q)(ts:Array ey)(t:ey){QZ A:Array az}(ha:bD ρ I N QZ A):W ρ I (J q fs) q (RV ρ I) N (aa6 ts t QZ)<|aa6 ts t A:=by unfold aa6;cases ts[0]? with|none=>grind[T]|some st=>cases h0:QZ[0]? with|none=>grind[T]|some s=>cases h1:QZ[1]? with|none=>grind[T]|some x=>
 obtain⟨DL,e0⟩:=ha.get h0;obtain⟨oY,e1⟩:=ha.get h1;rw[e0,e1];dsimp only;refine W.bind' (gC st) ?_;rintro M d _ hM rfl;cases d<;>try exact T _ _
 rename_i e;cases s<;>try exact T _ _
 rename_i r f k;simp only[F];have Q0:RV ρ I N x<|F ρ x:=⟨oY,rfl⟩;have F7:RV ρ I N (aE r f k)<|aE (r.map<|dH ρ) f k:=⟨DL,rfl⟩;refine W.bind' (mZ e) ?_;rintro K g _ hK rfl;have w:∀(L:Nat)(p:Bool)(n:Nat),K<=L->W ρ I (J q fs) q (RV ρ I) L (let m:cz<|Array az:=if !p then GR g n x else if n*g=0 then bI #[]else do bI<|AD (<-lu e).cells n
    let j:=f+n;if j<=k then do
     let u<-m;if let U a:=r then storeCells (a.add<|f*g) u.toList
     bI (aE r j k)else do
     if(j:Int)>aC.max/\(p\/(<-typeInfo e).bytes=0)then Cg<|.error "growslice: len out of range"
     if aCA j k*(<-typeInfo e).bytes>2^48 then(if p then Cg<|.error "growslice: len out of range"else do
      if !(<-Builtin.mayShare g f n r x)then mark .noRoom
      vh<|.resourceLimit "append: a slice or a string whose bytes no memory bears")
     let o<-choose (.appendCap j k e)askRoom (o*(<-typeInfo e).bytes)let C<-GR g f (aE r f k)let u<-m;let Qw:=AD (<-lu e).cells (o-j)bI<|aE (U<|<-newRow e<|C++u++Qw) j o:cz az) (let m:cz<|Array az:=if !p then GR g n (F ρ x)else if n*g=0 then bI #[]else do bI<|AD (<-lu e).cells n
    let j:=f+n;if j<=k then do
     let u<-m;if let U a:=r.map (dH ρ)then storeCells (a.add<|f*g) u.toList
     bI (aE (r.map<|dH ρ) j k)else do
     if(j:Int)>aC.max/\(p\/(<-typeInfo e).bytes=0)then Cg<|.error "growslice: len out of range"
     if aCA j k*(<-typeInfo e).bytes>2^48 then(if p then Cg<|.error "growslice: len out of range"else do
      if !(<-Builtin.mayShare g f n (r.map<|dH ρ)<|F ρ x)then mark .noRoom
      vh<|.resourceLimit "append: a slice or a string whose bytes no memory bears")
     let o<-choose (.appendCap j k e)askRoom (o*(<-typeInfo e).bytes)let C<-GR g f (aE (r.map<|dH ρ) f k)let u<-m;let Qw:=AD (<-lu e).cells (o-j)bI<|aE (U<|<-newRow e<|C++u++Qw) j o:cz az):=λL p n hL=>by
  have D:∀(O:Nat),L<=O->W ρ I (J q fs) q (bD ρ I) O (if !p then GR g n x else if n*g=0 then bI #[]else do bI<|AD (<-lu e).cells n:cz<|Array az) (if !p then GR g n (F ρ x)else if n*g=0 then bI #[]else do bI<|AD (<-lu e).cells n:cz<|Array az):=λO hO=>by
   split;.exact Wn _ _<|Q0.mono<|by omega
   .split;.exact .pure' bD.nil
    .refine W.bind' (C8 hz e) ?_;rintro P v v' hP⟨hv,R⟩;refine .pure' ?_;rw[hv.2,(tj (ρ:=ρ) (I:=I) (N:=P) R).2];exact bD.zeroCells R n
  dsimp only;by_cases hn:f+n<=k;.rw[dy hn,dy hn];refine W.bind' (D L<|aS _) ?_;rintro O u c hO B;cases r with|none=>exact .pure'<|RV.plain rfl|some a=>have QX:RA ρ I N a<|dH ρ a:=⟨by simpa[S]using DL,rfl⟩;simp only[eG];refine W.bind' (V1 0 ((QX.mono<|by omega).add<|f*g) B) ?_;rintro P _ _ hP _;exact .pure' ⟨by simpa[S]using H.eD QX.1<|by omega,rfl⟩
  .rw[if_neg hn,if_neg hn];refine W.bind' (rH e) ?_;rintro O i _ hO⟨rfl,hi⟩;split;.exact .dead<|y.bind (lK _ _) _
   .refine W.bind' (rH e) ?_;rintro P i _ hP⟨rfl,hi⟩;split
    .refine .dead<|y.bind ?_ _;split;.exact lK _ _
     .refine y.then _ λb=>?_;split;.exact y.then _ λ_=>.halt _
      .exact .halt _
    .refine W.bind' (Fz _) ?_;rintro Q Q3 _ hQ rfl;refine W.bind' (rH e) ?_;rintro QY i _ hS⟨rfl,hi⟩;refine W.bind' (ad2 _) ?_;rintro QZ _ _ hT _;refine W.bind' (Wn _ _<|F7.mono<|by omega) ?_;rintro QW C aFQ hU hold;refine W.bind' (D QW<|by omega) ?_;rintro Q1 u c hV B;refine W.bind' (C8 hz e) ?_;rintro Q2 z z' hW⟨hzv,R⟩;have E:bD ρ I Q2 (AD z.cells<|Q3-(f+n))<|AD z'.cells<|Q3-(f+n):=by rw[hzv.2,(tj (ρ:=ρ) (I:=I) (N:=Q2) R).2];exact bD.zeroCells R _
     refine W.bind' (Iu λb hb=>hF b<|by omega e<|((hold.mono<|by omega).append<|B.mono<|by omega).append E) ?_;rintro X a a' hX QX;exact .pure' ⟨by simpa[S]using QX.1,by rw[QX.2];simp[F]⟩
 cases ts[1]? with
 |none=>refine W.bind' (R:=RD) (.pure' rfl) ?_;rintro P z _ hP rfl;cases z with
  |true=>
   rw[dy rfl,dy rfl];refine W.bind' (Iz<|Q0.mono<|by omega) ?_;rintro L l _ hL rfl;by_cases h:aC.wrap l<0;.refine .dead ?_;rw[dy h];exact y.bind (lK _ _) _
   .rw[if_neg h,if_neg h];refine W.bind' (rH e) ?_;rintro Q i _ hQ⟨rfl,hi⟩;by_cases G:aC.wrap l*↑i.bytes>2^48;.refine .dead ?_;rw[dy G];exact y.then _ λ_=>y.bind (lK _ _) _
    .rw[if_neg G,if_neg G];exact w Q Y (aC.wrap l).toNat<|by omega|false=>rw[if_neg qh,if_neg qh];refine W.bind' (Wh<|Q0.mono<|by omega) ?_;rintro L n _ hL rfl;exact w L ai n<|by omega
 |some xt=>refine W.bind' (gC xt) ?_;rintro O d _ hO rfl;refine W.bind' (R:=RD) (.pure' rfl) ?_;rintro P z _ hP rfl;cases z with
  |true=>
   rw[dy rfl,dy rfl];refine W.bind' (Iz<|Q0.mono<|by omega) ?_;rintro L l _ hL rfl;by_cases h:aC.wrap l<0;.refine .dead ?_;rw[dy h];exact y.bind (lK _ _) _
   .rw[if_neg h,if_neg h];refine W.bind' (rH e) ?_;rintro Q i _ hQ⟨rfl,hi⟩;by_cases G:aC.wrap l*↑i.bytes>2^48;.refine .dead ?_;rw[dy G];exact y.then _ λ_=>y.bind (lK _ _) _
    .rw[if_neg G,if_neg G];exact w Q Y (aC.wrap l).toNat<|by omega|false=>rw[if_neg qh,if_neg qh];refine W.bind' (Wh<|Q0.mono<|by omega) ?_;rintro L n _ hL rfl;exact w L ai n<|by omega
theorem arN(h:Array ey)(t:ey){b A:Array az}(m:bD ρ I N b A):W ρ I (J q fs) q (RV ρ I) N (akB h t b)<|akB h t A:=by unfold akB;cases h[0]? with|none=>grind[T]|some w=>cases v:b[0]? with|none=>grind[T]|some s=>cases B:b[1]? with|none=>grind[T]|some x=>
 obtain⟨j,u⟩:=m.get v;obtain⟨i,r⟩:=m.get B;rw[u,r];dsimp only;refine W.bind' (gC w) ?_;rintro M d _ z rfl;cases d<;>try grind[T]
 rename_i e;cases s<;>try exact T _ _
 rename_i c o l;simp only[F];have k:RV ρ I N x<|F ρ x:=⟨i,rfl⟩;refine W.bind' (Wh<|k.mono z) ?_;rintro K n _ D rfl;refine W.bind' (mZ e) ?_;rintro L p _ E rfl;refine W.bind' (Wn _ _<|k.mono<|by omega) ?_;rintro O g f G y;cases c with|none=>exact .pure'<|RV.plain rfl|some a=>have C:RA ρ I N a<|dH ρ a:=⟨by simpa[S]using j,rfl⟩;simp only[eG];refine W.bind' (V1 0 (C.mono<|by omega) y) ?_;rintro P _ _ H _;exact .pure'<|RV.plain rfl
theorem Wm{f}(d:∀N x y,S I N x=Y->S I N y=Y->W ρ I (J q fs) q (RV ρ I) N (f x y) (f (F ρ x)<|F ρ y)):∀(l:List az)(N)(x),S I N x=Y->(∀y∈l,S I N y=Y)->W ρ I (J q fs) q (RV ρ I) N (l.foldlM f x) ((l.map<|F ρ).foldlM f<|F ρ x)|[],N,x,c,_=>.pure' ⟨c,rfl⟩|y::l,N,x,c,h=>by refine W.bind' (d N x y c<|h y<|by simp) ?_;rintro M v j g⟨e,rfl⟩;exact Wm d l M v e λz i=>ff g<|h z<|by grind
theorem aro(N)(x y)(j:S I N x=Y)(b:S I N y=Y):W ρ I (J q fs) q (RV ρ I) N (Builtin.max2 x y)<|Builtin.max2 (F ρ x)<|F ρ y:=by rcases x with d|⟨m,g⟩|⟨_,_⟩|⟨_,_,_⟩|f|(_|c)|⟨_,_,_⟩|_|_|⟨_,_,_⟩|_|⟨_,_⟩|_|_|_<;>rcases y with e|⟨h,i⟩|⟨_,_⟩|⟨_,_,_⟩|k|(_|l)|⟨_,_,_⟩|_|_|⟨_,_,_⟩|_|⟨_,_⟩|_|_|_<;>(try(simp[S]at b))<;>first|exact T _ _|exact iw _ _|exact .pure<|RV.plain rfl
theorem ari(N)(x y)(j:S I N x=Y)(b:S I N y=Y):W ρ I (J q fs) q (RV ρ I) N (Builtin.min2 x y)<|Builtin.min2 (F ρ x)<|F ρ y:=by rcases x with d|⟨m,g⟩|⟨_,_⟩|⟨_,_,_⟩|f|(_|c)|⟨_,_,_⟩|_|_|⟨_,_,_⟩|_|⟨_,_⟩|_|_|_<;>rcases y with e|⟨h,i⟩|⟨_,_⟩|⟨_,_,_⟩|k|(_|l)|⟨_,_,_⟩|_|_|⟨_,_,_⟩|_|⟨_,_⟩|_|_|_<;>(try(simp[S]at b))<;>first|exact T _ _|exact iw _ _|exact .pure<|RV.plain rfl
theorem arp(d)(t){c b}(e:bD ρ I N c b):W ρ I (J q fs) q (RV ρ I) N (akA d t c)<|akA d t b:=by unfold akA;rw[e.2,yK];have:=e.1;cases g:c.toList with|nil=>grind[T]|cons x l=>have h:∀v∈x::l,S I N v=Y:=λv f=>this v (by grind);grind[Wm,aro]
theorem arj(d)(t){c b}(e:bD ρ I N c b):W ρ I (J q fs) q (RV ρ I) N (akz d t c)<|akz d t b:=by unfold akz;rw[e.2,yK];have:=e.1;cases g:c.toList with|nil=>grind[T]|cons x l=>have h:∀v∈x::l,S I N v=Y:=λv f=>this v (by grind);grind[Wm,ari]
inductive CG(ρ:Nat->Nat)(I:H)(N:Nat):Place->Place->Prop|val{v v':az}(h:RV ρ I N v v'):CG ρ I N (.val v)<|.val v'|var{a a':eT}(h:RA ρ I N a a'):CG ρ I N (.var a)<|.var a'
theorem CG.mono{x x'}(h:CG ρ I N x x')(a:N<=M):CG ρ I M x x':=by cases h with|val h=>exact .val<|h.mono a|var h=>exact .var<|h.mono a
theorem QD(t){x x'}(h:CG ρ I N x x'):W ρ I (J q fs) q (RV ρ I) N (x.get t)<|x'.get t:=by cases h with|val h=>exact .pure' h|var h=>exact C9 t h
theorem QG:∀(l:List FieldStep)(t:ey)(N:Nat)(x x':Place),CG ρ I N x x'->W ρ I (J q fs) q (λN a b=>a.1=b.1/\CG ρ I N a.2 b.2) N (follow l t x) (follow l t x')
 |[],t,N,x,x',h=>by unfold follow;exact .pure' ⟨rfl,h⟩|s::c,t,N,x,x',h=>by
  rw[follow,follow];refine W.bind' (gC s.struct) ?_;rintro M d _ i rfl;cases d<;>try exact T _ _
  rename_i e;dsimp only;cases e[s.index]? with|none=>grind[T]|some f=>
  dsimp only;by_cases hd:s.deref=Y;.rw[dy hd,dy hd];refine W.bind' (QD t<|h.mono i) ?_;rintro K v u w m;refine W.bind' (LO m) ?_;rintro L a r y n;refine W.bind' (Wp n f) ?_;rintro O b j k g;exact QG c f.type O _ _<|.var g
  .rw[if_neg hd,if_neg hd];cases h with|var h=>refine W.bind' (Wp (h.mono i) f) ?_;rintro O b j k g;exact QG c f.type O _ _<|.var g|val h=>
    obtain⟨o,rfl⟩:=h;rename_i v;cases v<;>try exact T _ _
    rename_i p;simp only[F];refine W.bind' (vH _ _<|bD.zw o<|by omega) ?_;rintro O b j k g;exact QG c f.type O _ _<|.val g
theorem aCl(p)(c)(t)(a b):y p<|OR c t #[aG Z,aD a,aD b]:=by
 unfold OR;refine y.then _ λn=>?_;dsimp only;by_cases E:(n==1)=Y;.rw[dy E];exact y.bind (lK _ _) _
 .rw[if_neg E];split
  .refine y.then _ λd=>?_;split
   .refine y.then _ λi=>?_;split
    .split
     .split;.grind[lK]
      .exact .halt _
     .exact .halt _
    .exact .halt _
   .exact .halt _
  .exact .halt _
theorem aqQ(c)(t)(a b){x x'}(h:RV ρ I N x x'):W ρ I (J q fs) q (RV ρ I) N (OR c t #[x,aD a,aD b])<|OR c t #[x',a,b]:=by have d:=h;obtain⟨i,rfl⟩:=h;rcases x with e|⟨j,g⟩|⟨_,_⟩|⟨_,_,_⟩|f|(_|p)|⟨_,_,_⟩|_|_|⟨_,_,_⟩|_|⟨_,_⟩|_|_|_<;>first|exact T _ _|exact .dead<|aCl _ _ _ _ _|exact .pure d
theorem aq9(t)(p)(w){x x'}(h:CG ρ I N x x'):W ρ I (J q fs) q (RV ρ I) N (receiverAt t x p w)<|receiverAt t x' p w:=by
 unfold receiverAt;refine W.bind' (gC t) ?_;rintro M d _ g rfl;have j:∀(b:ey)(K:Nat)(v e:az),RV ρ I K v e->W ρ I (J q fs) q (RV ρ I) K (do loadVar b<|<-asAddr v) (do loadVar b<|<-asAddr e):=λb K v e f=>by refine W.bind' (LO f) ?_;grind[C9]
 have a:∀b:ey,W ρ I (J q fs) q (RV ρ I) M (do
    let a<-x.get t;let a<-match w with|some c=>OR #[t] t #[a,strVal "",strVal c]|none=>bI a
    loadVar b<|<-asAddr a) (do
    let a<-x'.get t;let a<-match w with|some c=>OR #[t] t #[a,strVal "",strVal c]|none=>bI a
    loadVar b<|<-asAddr a):=λb=>by refine W.bind' (QD t<|h.mono g) ?_;rintro K v e k f;cases w with|none=>grind|some c=>refine W.bind' (aqQ _ _ _ _ f) ?_;grind
 have i:=QD (ρ:=ρ) (I:=I) (q:=q) (fs:=fs) t<|h.mono g;cases p with
 |true=>cases h with|val h=>grind[T]|var h=>cases d<;>first|exact i|exact .pure'<|RV.ptr<|h.mono g
 |false=>cases h with
  |val h=>cases d<;>first|exact a _|exact i
  |var h=>cases d<;>first|exact a _|exact i
def abE(q:bW)(I:H)(name:String):Prop:=∀t i m f p,q.info? t=U i->i.methods.find? (·.name==name)=U m->m.func=U (f,p)->I.T f=Y
theorem arl(c)(w:abE q I c)(d):∀(t)(N)(v v'),RV ρ I N v v'->W ρ I (J q fs) q (λN a b=>a.1=b.1∧I.T a.1=Y∧RV ρ I N a.2 b.2) N (Cd d t v c) (Cd d t v' c):=by induction d with|zero=>intro t N v v' _;exact iw _ _|succ d z=>intro t N v v' j;rw[Cd,Cd];refine W.bind' (rH t) ?_;rintro M i _ y⟨rfl,A⟩;cases s:i.methods.find? (·.name==c)with|none=>grind[T]|some m=>dsimp only;refine W.bind' (QG _ t M _ _<|.val<|j.mono y) ?_;rintro K⟨g,x⟩⟨B,F⟩E⟨rfl,e⟩;dsimp only;cases C:m.func with
  |none=>
   refine W.bind' (QD g e) ?_;rintro L u h r⟨l,rfl⟩;cases u<;>try exact T _ _
   ·rename_i o n;exact z o L n _ ⟨by grind[S],rfl⟩
   grind[It]|some k=>obtain⟨f,p⟩:=k;refine W.bind' (aq9 g p _ e) ?_;rintro L u h r D;exact .pure' ⟨rfl,w t i m f p A s C,D⟩
inductive RN(ρ:Nat->Nat)(I:H)(q:bW)(N:Nat):Next->Next->Prop|value{v v':az}(h:RV ρ I N v v'):RN ρ I q N (gp v)<|gp v'|skip:RN ρ I q N .skip .skip|enter{f:fq}{mP qC:Array az}(hf:I.T f=Y)(hb:∃fn c,q.funcs[f]?=U fn/\fn.body=U c)(h:bD ρ I N mP qC):RN ρ I q N (jL f mP)<|jL f qC|aa1{f:fq}{mP qC:Array az}(hc:I.cut f mP.size=Y)(h:bD ρ I N mP qC):RN ρ I q N (jL f mP)<|jL f qC|round{l:Nat}{f:fq}{ts Ic:Array az}{a b:Code}(hl:I.blk N l=Y)(hf:I.T f=Y)(h:bD ρ I N ts Ic)(ha:I.gx a=Y)(hb:I.gx b=Y):RN ρ I q N (.round l f ts a b)<|.round (ρ l) f Ic a b
theorem jc{s b}(h:W ρ I (J q fs) q (RV ρ I) N s b):W ρ I (J q fs) q (RN ρ I q) N (do bI<|gp<|<-s) (do bI<|gp<|<-b):=W.bind' h λ_ _ _ _ c=>.pure'<|.value c
theorem VZ{s b}(h:W ρ I (J q fs) q RU N s b):W ρ I (J q fs) q (RN ρ I q) N (do s;bI .skip) (do b;bI .skip):=W.bind' h λ_ _ _ _ _=>.pure' .skip
def sU(q:bW)(fs:Array ep)(e:Array az->cz az):Prop:=∀(ρ:Nat->Nat)(I:H)(N:Nat),(∀b,N<=b->I.F b=Y)->Fair ρ q->sK q->q.globals.size<N->I.F q.globals.size=Y->∀E qC,bD ρ I N E qC->W ρ I (J q fs) q (RV ρ I) N (e E) (e qC)
structure UO(I:H)(q:bW)(fs:Array ep):Prop where
 kx:I.F q.globals.size=Y
 fn:∀f,I.T f=Y->∃fn o,fs[f]?=U fn/\q.funcs[f]?=U o/\o.name=fn.name/\(fn.name== "runtime.NumGoroutine")=ai/\((∃b b',fn.body=U b/\o.body=U b')\/(o=fn/\fn.body=Z/\aa5 fn=Z/\∃e,Extern.find fn=U e/\sU q fs e)\/o=fn/\fn.body=Z/\aa5 fn=Z/\Extern.find fn=Z/\(fn.name.endsWith ".init"&&!fn.name.startsWith "("&&!fn.name.startsWith "gosem.")=ai)
def abO(I:H)(q:bW)(fs:Array ep):Prop:=∀f n,I.cut f n=Y->∃fn o,fs[f]?=U fn/\q.funcs[f]?=U o/\(fn.name== "runtime.NumGoroutine")=ai/\(o.name== "runtime.NumGoroutine")=ai/\fn.body.isNone=ai/\o.body.isNone=ai
theorem arQ(r:abO I q fs){f}{d b}(i:I.cut f d.size=Y)(h:bD ρ I N d b):W ρ I (J q fs) q (RN ρ I q) N (iA f d)<|iA f b:=by refine W.bind' mu ?_;rintro M p e l⟨rfl,rfl⟩;obtain⟨m,o,j,n,k,g,s,c⟩:=r f _ i;show W ρ I (J e fs) e (RN ρ I e) M (match fs[f]? with|none=>_|some m=>_) _;rw[j,n];dsimp only;rw[k,g,s,c];exact .pure'<|.aa1 i<|h.mono l
theorem adZ(A:∀b,N<=b->I.F b=Y)(k:Fair ρ q)(y:sK q)(x:q.globals.size<N)(r:UO I q fs){f}(u:I.T f=Y){n d}(h:bD ρ I N n d):W ρ I (J q fs) q (RN ρ I q) N (iA f n)<|iA f d:=by
 refine W.bind' mu ?_;rintro M p l t⟨rfl,rfl⟩;obtain⟨w,m,v,o,z,C,s⟩:=r.fn f u;show W ρ I (J l fs) l (RN ρ I l) M (match fs[f]? with|none=>_|some w=>_) _;rw[v,o];dsimp only;rw[z,C];rcases s with⟨b,B,g,c⟩|⟨rfl,g,c,e,j,i⟩|⟨rfl,g,c,j,i⟩;.rw[g,c];exact .pure'<|.enter u ⟨m,B,o,c⟩<|h.mono t
 .rw[g];refine W.mark rfl ?_;simp only[c,j];exact jc<|i ρ I M λb s=>A b<|by omega k y (by omega) r.kx _ _<|h.mono t
 .rw[g];refine W.mark rfl ?_;simp only[c,j,i];exact iw _ _
theorem arP(w:∀b,N<=b->I.F b=Y)(g:Fair ρ q)(o:sK q)(n:q.globals.size<N)(m:UO I q fs){c}(s:abE q I c){x x'}(k:RV ρ I N x x'){i d}(h:bD ρ I N i d):W ρ I (J q fs) q (RN ρ I q) N (callMethod x c i)<|callMethod x' c d:=by
 unfold callMethod;obtain⟨e,rfl⟩:=k;cases x<;>try grind[T]
 .rename_i t v;refine W.bind' mu ?_;rintro M p B u⟨rfl,rfl⟩;refine W.bind' (arl c s _ t M v _ ⟨ff u<|by simpa[S]using e,rfl⟩) ?_;rintro K⟨f,r⟩⟨C,A⟩j⟨rfl,y,l⟩;refine adZ λb z=>w b<|by omega g o (by omega) m y ?_;exact(bD.nil.push l).append<|h.mono<|by omega
 grind[It]
theorem LM{l}(c:I.blk N l=Y):W ρ I (J q fs) q (λN r b=>oa I N r=Y/\b=Dg ρ r) N (Instr.getLoop l)<|Instr.getLoop<|ρ l:=by refine W.bind' (vI c) ?_;rintro M o f e⟨d,rfl⟩;cases o<;>first|grind[T]|exact .pure' ⟨d,rfl⟩
theorem ajG(f:az->az):∀(l:List<|Tmp×az)(d:Array az),(l.map λx=>(x.1,f x.2)).foldl (λc x=>c.setIfInBounds x.1 x.2) (d.map f)=(l.foldl (λc x=>c.setIfInBounds x.1 x.2) d).map f|[],_=>rfl|x::l,d=>by simp only[gd,List.foldl_cons];rw[<-ajG f l];congr 1;grind
theorem ajF{P:az->Prop}:∀(l:List<|Tmp×az)(d:Array az),(∀x∈l,P x.2)->(∀v∈d,P v)->∀v∈l.foldl (λc x=>c.setIfInBounds x.1 x.2) d,P v|[],_,_,h=>h|x::l,d,e,h=>by refine ajF l _ λy f=>e y<|by grind λv g=>?_;grind
theorem abQ(f:az->az):∀(d:List Tmp)(e),d.zip (e.map f)=(d.zip e).map λx=>(x.1,f x.2)|[],_=>by simp|_::_,[]=>by simp|p::d,a::e=>by simp[abQ f d e]
theorem bD.params{g d j e}(f:Array Tmp)(i:bD ρ I N g d)(h:bD ρ I N j e):bD ρ I N ((f.zip j).foldl (λc(t,a)=>c.setIfInBounds t a) g)<|(f.zip e).foldl (λc(t,a)=>c.setIfInBounds t a) d:=by rw[<-MC,<-MC,agE,agE,h.2,yK,abQ,i.2];refine⟨ajF _ _ (λx k=>?_) i.1,ajG (F ρ) _ _⟩;exact h.1 _<|by simpa using(List.of_mem_zip k).2
theorem oa.parts{r}(h:oa I N r=Y):(∀v∈r.tmps,S I N v=Y)/\I.gx r.assign=Y/\I.gx r.body=Y/\(∀c,r.pending=U c->I.gx c=Y)/\I.T r.fn=Y/\I.blk N r.defers=Y:=by simp only[oa,cV,kZ]at h;grind
theorem oa.of{r}(e:∀v∈r.tmps,S I N v=Y)(d:I.gx r.assign=Y)(a:I.gx r.body=Y)(g:∀c,r.pending=U c->I.gx c=Y)(f:I.T r.fn=Y)(b:I.blk N r.defers=Y):oa I N r=Y:=by simp only[oa,cV,kZ];refine⟨⟨⟨⟨⟨e,d⟩,a⟩,?_⟩,f⟩,b⟩;cases h:r.pending with|none=>rfl|some c=>grind
theorem aqP{l}(e:I.blk N l=Y){d b}(h:bD ρ I N d b):W ρ I (J q fs) q (RN ρ I q) N (Instr.yield l d)<|Instr.yield (ρ l) b:=by
 refine W.bind' (LM e) ?_;rintro M r p c⟨i,rfl⟩;rw[h.size];have m:(Dg ρ r).params=r.params:=rfl;rw[m];split;.exact .dead<|y.bind (.halt _) _
 .obtain⟨f,j,g,o,k,n⟩:=oa.parts i;exact .pure'<|RN.round (H.eD e c) k (bD.params _ ⟨f,rfl⟩<|h.mono c) j g
theorem V4{l}{r}(c:I.blk N l=Y)(b:oa I N r=Y):W ρ I (J q fs) q RU N (setObj l<|AF r)<|setObj (ρ l)<|AF<|Dg ρ r:=LJ (o:=AF r) c b<|by simp
theorem arX{l}(b:I.blk N l=Y):W ρ I (J q fs) q RU N (Instr.beginRound l)<|Instr.beginRound<|ρ l:=by refine W.bind' (LM b) ?_;rintro M r k d⟨h,rfl⟩;obtain⟨f,i,g,e,j,c⟩:=oa.parts h;refine W.bind' (V4 (r:={r with state:=.busy}) (H.eD b d)<|oa.of f i g e j c) ?_;rintro K _ _ m _;show W ρ I (J q fs) q RU K (match r.state with|EJ=>_|.done=>_|.busy=>_|.exhausted=>_)<|match r.state with|EJ=>_|.done=>_|.busy=>_|.exhausted=>_;cases r.state<;>first|exact .pure' trivial|grind[It]
theorem arJ{l}(b:I.blk N l=Y){j}(d:∀c,j=U c->I.gx c=Y):W ρ I (J q fs) q (RV ρ I) N (Uc l j)<|Uc (ρ l) j:=by refine W.bind' (LM b) ?_;rintro M r o f⟨i,rfl⟩;obtain⟨g,k,h,n,m,e⟩:=oa.parts i;refine W.bind' (V4 (r:={r with state:=if j.isNone then EJ else .done,pending:=j}) (H.eD b f)<|oa.of g k h d m e) ?_;rintro K _ _ p _;exact .pure'<|RV.plain rfl
theorem arK{l}(d:I.blk N l=Y):W ρ I (J q fs) q (λN j m=>j=m/\∀c,j=U c->I.gx c=Y) N (Instr.endLoop l)<|Instr.endLoop<|ρ l:=by
 refine W.bind' (LM d) ?_;rintro M r p f⟨i,rfl⟩;obtain⟨g,n,h,b,o,e⟩:=oa.parts i;have k:(Dg ρ r).state=r.state:=rfl;rw[k];split;.exact .dead<|y.bind (lK _ _) _
 .refine W.bind' (V4 (r:={r with state:=.exhausted}) (H.eD d f)<|oa.of g n h b o e) ?_;rintro K _ _ s _;exact .pure' ⟨rfl,b⟩
def E0(ρ:Nat->Nat)(I:H)(N:Nat)(ds E:List Deferred):Prop:=∃l:List Nat,(∀r∈l,I.blk N r=Y)/\ds=l.map (λr=>{target:=Ku r,args:=#[]})/\E=l.map λr=>{target:=Ku<|ρ r,args:=#[]}
theorem E0.mono{ds b}(h:E0 ρ I N ds b)(g:N<=M):E0 ρ I M ds b:=by obtain⟨l,f,e,c⟩:=h;exact⟨l,λr d=>H.eD (f r d) g,e,c⟩
theorem aqV{r}(e:I.blk N r=Y):W ρ I (J q fs) q (λ_ a b=>a=[]/\b=[]) N (Uj r)<|Uj<|ρ r:=by
 refine W.bind' (vI e) ?_;rintro M o i f⟨g,rfl⟩;cases o<;>try grind[T]
 rename_i d;cases d with|none=>grind[T]|some d=>
  have:=by simpa[eF]using g
  subst this;refine W.bind' (LJ (o:=x6 Z) (H.eD e f) (by simp[eF])<|by simp) ?_;rintro K _ _ h _;exact .pure' ⟨rfl,rfl⟩
def tw(I:H)(q:bW):iT->Bool|gJ v=>n v|cx _=>Y|.global g=>cg (g<q.globals.size)&&I.F g|.func f=>I.T f
def ac4:Builtin->Bool|.append|.len|.max|.min|.copy|.delete=>Y|_=>ai
def Ih(I:H)(nm:String->Bool)(K:iT->Bool)(c:Call):Bool:=c.args.all K&&match c.callee with|.builtin b=>ac4 b|.value f=>K f||(match f with|.func g=>I.cut g c.args.size|_=>ai)|.invoke r name=>K r&&nm name
def IU(q:bW)(t:ey):Bool:=match q.underlying t with|some Ud=>ai|_=>Y
def zN(I:H)(q:bW)(nm:String->Bool)(K:iT->Bool):Op->Bool|.move x|pn x=>K x|.pick c a b=>K c&&K a&&K b|.alloc _=>Y|.box _ x=>K x|.build _ ps=>ps.all λx=>K x.2|.buildSlice _ _ ps=>ps.all λx=>K x.2|.load _ a=>K a|.store _ a x=>K a&&K x|.nilCheck x=>K x|.binOp _ _ x y _=>K x&&K y|.unOp _ _ x=>K x|.convert s d x=>K x&&IU q s&&IU q d|.sliceToArrayPointer _ x=>K x|.makeInterface _ x=>K x|.makeFunc fn first cap=>(match fn with|ez f=>I.T f|_=>ai)&&first.all K&&cap.all K|.makeMap _ r=>r.all K|.makeSlice _ l c=>K l&&K c|.slice _ x lo hi mx=>K x&&lo.all K&&hi.all K&&mx.all K|.fieldAddr _ x _=>K x|.field _ x _=>K x|.indexAddr _ x i=>K x&&K i|.index _ x i=>K x&&K i|.lookup _ x i _=>K x&&K i|.mapUpdate _ m k x=>K m&&K k&&K x|.insert _ m k x=>K m&&K k&&K x|.range _ x=>K x|.next x _=>K x|.entry x=>K x|.typeAssert x _ _ _=>K x|.extract x _=>K x|.call c=>Ih I nm K c|.panic x=>K x|_=>ai
def CZ(I:H)(q:bW)(nm:String->Bool):Op->Bool:=zN I q nm<|tw I q
variable {K:iT->Bool}
theorem bD.map{e d}(h:∀x,K x=Y->RV ρ I N (e x) (d x)){xs:Array iT}(b:xs.all K=Y):bD ρ I N (xs.map e)<|xs.map d:=by
 simp only[kZ]at b;refine⟨λv f=>?_,?_⟩;.obtain⟨x,c,rfl⟩:=MA.1 f;exact(h x<|b x c).1
 .rw[Array.map_map];exact My λx c=>(h x<|b x c).2
theorem AT.map{e c:iT->az}(h:∀x,K x=Y->RV ρ I N (e x) (c x)){xs:Array<|Nat×iT}(b:xs.all (λx=>K x.2)=Y):AT ρ I N (xs.map λ(i,x)=>(i,e x))<|xs.map λ(i,x)=>(i,c x):=by
 simp only[kZ]at b;refine⟨λv f=>?_,?_⟩;.obtain⟨x,d,rfl⟩:=MA.1 f;exact(h x.2<|b x d).1
 .rw[Array.map_map];refine My λx d=>?_;show(x.1,c x.2)=(x.1,F ρ<|e x.2);rw[(h x.2<|b x d).2]
theorem RO.map{e b}(h:∀x,K x=Y->RV ρ I N (e x) (b x)){o:Option iT}(c:o.all K=Y):RO ρ I N (o.map e)<|o.map b:=by cases o with|none=>exact⟨by simp,rfl⟩|some x=>have:=h x (by grind);exact⟨by rintro v⟨⟩;exact this.1,by simp[this.2]⟩
theorem aCm(p)(x):y p<|Instr.panic x:=by
 unfold Instr.panic;split;.exact .halt _
 .refine y.then _ λn=>?_;split;.exact .halt _
  grind[lK]
 .exact .halt _
theorem arT(i:∀b,N<=b->I.F b=Y)(e:Fair ρ q)(g:sK q){b}(j:ac4 b=Y)(c)(t)(cs){f d}(h:bD ρ I N f d):W ρ I (J q fs) q (RN ρ I q) N (builtin b c t cs f)<|builtin b c t cs d:=by cases b<;>first|exact absurd j<|by decide|exact jc<|ar2 i g c t h|exact jc<|adI c t h|exact jc<|arp c t h|exact jc<|arj c t h|exact jc<|arN c t h|exact jc<|arL e c t h
structure nM(I:H)(q:bW)(fs:Array ep)(nm:String->Bool):Prop where
 PC:sK q
 kin:UO I q fs
 named:∀s,nm s=Y->abE q I s
 Ov:abO I q fs
theorem adY{nm}(n:nM I q fs nm)(s:∀b,N<=b->I.F b=Y)(j:Fair ρ q)(i:q.globals.size<N){f f'}(t:RV ρ I N f f'){m h}(p:bD ρ I N m h):W ρ I (J q fs) q (RN ρ I q) N (OM f m>>=λd=>invoke d.target d.args)<|OM f' h>>=λd=>invoke d.target d.args:=by
 obtain⟨e,rfl⟩:=t;cases f<;>try exact T _ _
 .rename_i r c k;simp only[S,cV]at e;have o:bD ρ I N c<|nX ρ c:=⟨by grind[FG,Array.all_eq_true_iff_forall_mem],yo ρ c⟩;cases r with|func g=>exact adZ s j n.PC i n.kin (by simpa[uD]using e.1.1)<|(o.append p).append ⟨by grind[FG,Array.all_eq_true_iff_forall_mem],yo ρ k⟩|yield l=>exact aqP (by simpa[uD]using e.1.1)<|o.append p|_=>simp[uD]at e
 .exact .dead<|lK _ .nilDeref
theorem arR{nm:String->Bool}(p:nM I q fs nm)(w:∀b,N<=b->I.F b=Y)(o:Fair ρ q)(s:q.globals.size<N){e j:iT->az}(h:∀x,K x=Y->RV ρ I N (e x) (j x))(E:∀g,e (.func g)=dM (ez g) #[] #[])(v:∀g,j (.func g)=dM (ez g) #[] #[]){c:Call}(k:Ih I nm K c=Y)(t:ey):W ρ I (J q fs) q (RN ρ I q) N (do let d<-resolve e c t;invoke d.target d.args) (do let d<-resolve j c t;invoke d.target d.args):=by
 obtain⟨l,i,C⟩:=c;simp only[Ih,cV]at k;obtain⟨B,k⟩:=k;have u:=bD.map h B;cases l with|builtin b=>exact arT w o p.PC k _ _ _ u|invoke r n=>
  simp only[cV]at k;have y:=h r k.1;have m:=(bD.nil.push y).append u;show W ρ I (J q fs) q (RN ρ I q) N (invoke (.fn (.method n) #[])<|#[e r]++i.map e)<|invoke (.fn (.method n) #[])<|#[j r]++i.map j;have z:(#[e r]++i.map e)[0]?=U (e r):=by grind
  have A:(#[j r]++i.map j)[0]?=U (j r):=by grind
  unfold invoke;simp only[z,A];exact arP w o p.PC s p.kin (p.named _ k.2) y<|m.size▸m.extract _ _|value f=>
  rcases lF _ _▸k with k|k;.exact adY p w o s (h f k) u
  .cases f with|func g=>
    show W ρ I (J q fs) q (RN ρ I q) N (OM (e<|.func g) (i.map e)>>=λd=>invoke d.target d.args)<|OM (j<|.func g) (i.map j)>>=λd=>invoke d.target d.args;rw[E g,v g];have D:#[]++i.map e++#[]=i.map e:=by simp
    have G:#[]++i.map j++#[]=i.map j:=by simp
    show W ρ I (J q fs) q (RN ρ I q) N (iA g<|#[]++i.map e++#[])<|iA g<|#[]++i.map j++#[];rw[D,G];exact arQ p.Ov (by grind) u|_=>grind
theorem adR{nm:String->Bool}(O:nM I q fs nm)(w:∀b,N<=b->I.F b=Y)(u:Fair ρ q)(H:q.globals.size<N){e L:iT->az}(h:∀x,K x=Y->RV ρ I N (e x) (L x))(R:∀g,e (.func g)=dM (ez g) #[] #[])(G:∀g,L (.func g)=dM (ez g) #[] #[]){o:dJ}(j:zN I q nm K o.op=Y):W ρ I (J q fs) q (RN ρ I q) N (cX e o)<|cX L o:=by
 obtain⟨Q,op,A,P,Q0⟩:=o;have z:=O.PC;cases op<;>simp only[zN,cV,oT]at j;case move x=>exact .pure'<|.value<|h x j
 case assign x=>exact .pure'<|.value<|h x j
 case pick c a b=>
  refine W.bind' (ad3<|h c j.1.1) ?_;rintro M b _ B rfl;refine .pure'<|.value ?_;split;·exact(h _ j.1.2).mono B
  ·exact(h _ j.2).mono B
 case alloc t=>exact jc<|ar3 w z t
 case box t x=>exact jc<|arW w t<|h x j
 case build t ps=>exact jc<|arV z t<|AT.map h j
 case buildSlice t n ps=>exact jc<|arU w z t n<|AT.map h j
 case load t a=>exact jc<|adG t<|h a j
 case store t a x=>exact VZ<|aq0 t (h a j.1)<|h x j.2
 case nilCheck x=>obtain⟨D,C⟩:=h x j;unfold cX;dsimp only;rw[C];have E:=h x j;rw[C]at E;generalize e x=v at D E⊢;rcases v with Q1|⟨T,X⟩|⟨_,_⟩|⟨_,_,_⟩|Q2|(_|p)|⟨_,_,_⟩|_|_|⟨fn,_,_⟩|_|⟨_,_⟩|_|_|_<;>first|exact .pure<|.value E|exact .dead<|lK _ .nilDeref|(cases fn<;>first|exact .pure<|.value E|(simp[S,uD]at D;done))
 case binOp op t x Q3 yt=>refine jc<|W.bind' (adV op t x Q3 (h x j.1)<|h Q3 j.2) ?_;rintro M _ _ B _;exact ad0 λb f=>w b<|by omega u op t ((h x j.1).mono B)<|(h Q3 j.2).mono B
 case unOp op t x=>exact jc<|aqT op<|h x j
 case convert s d x=>
  refine jc<|arO w z s d ?_ ?_<|h x j.1.1;·intro e;have:=j.1.2;rw[IU,e]at this;grind
  ·intro e;have:=j.2;rw[IU,e]at this;grind
 case sliceToArrayPointer t x=>exact jc<|ar0 t<|h x j
 case makeInterface t x=>exact jc<|arw t<|h x j
 case makeFunc fn first cap=>
  have D:=bD.map h j.1.2;have C:=bD.map h j.2;cases fn<;>simp only[oT,false_and]at j;refine jc<|.pure' ⟨?_,?_⟩;·simp only[S,uD,FG,cV,kZ];exact⟨⟨j.1.1,D.1⟩,C.1⟩
  ·simp only[F,Bf,yo,D.2,C.2]
 case makeMap t r=>exact jc<|arv w t<|RO.map h j
 case makeSlice t l c=>exact jc<|aru w z t (h l j.1)<|h c j.2
 case slice t x lo hi mx=>exact jc<|aq2 t (h x j.1.1.1) (RO.map h j.1.1.2) (RO.map h j.1.2)<|RO.map h j.2
 case fieldAddr t x i=>exact jc<|adP t i<|h x j
 case field t x i=>exact jc<|arE t i<|h x j
 case indexAddr t x i=>exact jc<|adJ t (h x j.1)<|h i j.2
 case index t x i=>exact jc<|arD t (h x j.1)<|h i j.2
 case lookup t x i ok=>exact jc<|arx u z t ok (h x j.1)<|h i j.2
 case mapUpdate t m k x=>exact VZ<|adD u t (h m j.1.1) (h k j.1.2)<|h x j.2
 case insert t m k x=>exact VZ<|adD u t (h m j.1.1) (h k j.1.2)<|h x j.2
 case range t x=>exact jc<|ara w t<|h x j
 case next x s=>exact jc<|arf _ s<|h x j
 case entry x=>exact jc<|arH<|h x j
 case typeAssert x a b ok=>exact jc<|aqU z a b ok<|h x j
 case extract x i=>exact jc<|adQ i<|h x j
 case call c=>exact arR O w u H h R G j A
 case panic x=>exact .dead<|y.bind (aCm _ _) _
variable{nm:String->Bool}{L:Option Nat}
def ir(I:H)(q:bW)(nm:String->Bool):Code->Bool|.skip|.exit _|.ret|.refuse _=>Y|ec _ ops _=>ops.all λo=>CZ I q nm o.op|eI a b=>ir I q nm a&&ir I q nm b|.cond c a b=>tw I q c&&ir I q nm a&&ir I q nm b|.block _ b=>ir I q nm b|.loop b=>ir I q nm b|.rangeFunc f _ a b=>tw I q f&&ir I q nm a&&ir I q nm b|_=>ai
def iV(ρ:Nat->Nat):eY->eY|EM l=>EM<|ρ l|Kv l=>Kv<|ρ l|i=>i
def tC(I:H)(q:bW)(nm:String->Bool)(N:Nat):eY->Bool|bF c=>I.gx c|mh _=>Y|.inLoop c=>I.gx c|aT ops _=>ops.all λo=>CZ I q nm o.op|EM l=>I.blk N l|Kv l=>I.blk N l|.beginRound=>Y|_=>ai
theorem Rn(a:N<=M){i}(h:tC I q nm N i=Y):tC I q nm M i=Y:=by cases i<;>first|exact h|exact H.eD h a
structure fe(ρ:Nat->Nat)(I:H)(q:bW)(nm:String->Bool)(N:Nat)(a b:aZ):Prop where
 fn:b.fn=a.fn
 here:I.T a.fn=Y
 tmps:bD ρ I N a.tmps b.tmps
 todo:b.todo=a.todo.map (iV ρ)items:∀i∈a.todo,tC I q nm N i=Y
 defers:E0 ρ I N a.defers b.defers
 mode:b.mode=a.mode
 xB:a.mode=.run\/a.mode=fH
 rS:a.kind=eC
 xJ:b.kind=eC
 round:b.roundOf=a.roundOf.map ρ
 rounds:∀l,a.roundOf=U l->I.blk N l=Y
theorem fe.mono{a b}(h:fe ρ I q nm N a b)(d:N<=M):fe ρ I q nm M a b:=⟨h.fn,h.here,h.tmps.mono d,h.todo,λi e=>Rn d<|h.items i e,h.defers.mono d,h.mode,h.xB,h.rS,h.xJ,h.round,λl f=>H.eD (h.rounds l f) d⟩
def mQ(I:H)(v v':az):Prop:=v'=v/\(v=ak\/(∃n c,v=aE Z n c)\/∃A a,I.arg=U A/\a.block=A.g/\A.lo<=a.off/\(v=aG (U a)\/∃n c,v=aE (U a) n c))\/∃a c,v=aE Z 0 0/\v'=aE a 0 c
theorem mQ.undef{I}:mQ I ak ak:=ax ⟨rfl,ax rfl⟩
theorem mQ.left{I}{v v'}(h:mQ I v v'):mQ I v v:=by
 rcases h with⟨_,h⟩|⟨_,_,rfl,_⟩;.exact ax ⟨rfl,h⟩
 .exact ax ⟨rfl,aA<|ax ⟨_,_,rfl⟩⟩
def tB(I:H)(q:bW)(D:Nat->Bool):iT->Bool|cx t=>!D t|x=>tw I q x
def aaL(q:bW)(s:ey)(i:Nat):Bool:=match q.underlying s with|some<|.struct fs=>(match fs[i]? with|some f=>(match q.info? f.type with|some j=>cg<|j.size≠0|none=>ai)|none=>ai)|_=>ai
def A3(D:Nat->Bool):iT->Bool|cx t=>D t|_=>ai
def ET(I:H)(q:bW)(D E:Nat->Bool):Nat->List iT->Bool|_,[]=>Y|j,x::l=>(if E j then A3 D x else tB I q D x)&&ET I q D E (j+1) l
def Kr(I:H)(q:bW)(D:Nat->Bool)(o:dJ):Bool:=match o.op with|.move x|pn x=>A3 D x&&o.dst.all D|.indexAddr _ x i=>A3 D x&&tB I q D i&&o.dst.all D|.fieldAddr s x f=>A3 D x&&aaL q s f&&o.dst.all D|.load _ x=>A3 D x&&o.dst.all λd=>!D d|.call c=>(o.dst.all λd=>!D d)&&(match c.callee with|.builtin .len=>(match c.args.toList with|[x]=>A3 D x|_=>ai)|.value<|.func f=>I.DF f&&ET I q D (I.D f) 0 c.args.toList|_=>ai)|_=>ai
def EA(I:H)(q:bW)(nm:String->Bool)(D:Nat->Bool)(o:dJ):Bool:=(zN I q nm (tB I q D) o.op&&o.dst.all λd=>!D d)||Kr I q D o
def l9(I:H)(q:bW)(nm:String->Bool)(D:Nat->Bool):Code->Bool|.skip|.exit _|.ret|.refuse _=>Y|ec _ ops _=>ops.all<|EA I q nm D|eI a b=>l9 I q nm D a&&l9 I q nm D b|.cond c a b=>tB I q D c&&l9 I q nm D a&&l9 I q nm D b|.block _ b=>l9 I q nm D b|.loop b=>l9 I q nm D b|_=>ai
def EB(I:H)(q:bW)(nm:String->Bool)(D:Nat->Bool):eY->Bool|bF c=>l9 I q nm D c|mh _=>Y|.inLoop c=>l9 I q nm D c|aT ops _=>ops.all<|EA I q nm D|_=>ai
structure sO(ρ:Nat->Nat)(I:H)(N:Nat)(D:Nat->Bool)(ts Ic:Array az):Prop where
 size:Ic.size=ts.size
 here:∀t v,ts[t]?=U v->D t=ai->S I N v=Y/\Ic[t]?=U (F ρ v)arg:∀t v,ts[t]?=U v->D t=Y->∃v',Ic[t]?=U v'/\mQ I v v'
theorem sO.mono{D}{d b}(h:sO ρ I N D d b)(f:N<=M):sO ρ I M D d b:=⟨h.size,λt v e c=>⟨ff f (h.here t v e c).1,(h.here t v e c).2⟩,h.arg⟩
theorem sO.set{D}{g c}(h:sO ρ I N D g c){d}{x x'}(i:(D d=ai→S I N x=Y∧x'=F ρ x)∧(D d=Y→mQ I x x')):sO ρ I N D (g.setIfInBounds d x)<|c.setIfInBounds d x':=by refine⟨by simp[h.size],fun t v b f=>?_,fun t v b f=>?_⟩<;>
    (rw[Array.getElem?_setIfInBounds]at b⊢;rw[h.size];by_cases e:d=t;·grind
     ·rw[if_neg e]at b⊢;first|exact h.here t v b f|exact h.arg t v b f)
structure fT(ρ:Nat->Nat)(I:H)(q:bW)(nm:String->Bool)(N:Nat)(a b:aZ):Prop where
 fn:b.fn=a.fn
 here:I.T a.fn=Y
 df:I.DF a.fn=Y
 tmps:sO ρ I N (I.D a.fn) a.tmps b.tmps
 todo:b.todo=a.todo
 GN:∀i∈a.todo,EB I q nm (I.D a.fn) i=Y
 GO:a.defers=[]TX:b.defers=[]mode:b.mode=a.mode
 xB:a.mode=.run\/a.mode=fH
 rS:a.kind=eC
 xJ:b.kind=eC
 IC:a.roundOf=Z
 QS:b.roundOf=Z
theorem fT.mono{a b}(h:fT ρ I q nm N a b)(c:N<=M):fT ρ I q nm M a b:=⟨h.fn,h.here,h.df,h.tmps.mono c,h.todo,h.GN,h.GO,h.TX,h.mode,h.xB,h.rS,h.xJ,h.IC,h.QS⟩
def KR(I:H)(a:aZ):Prop:=∀ops i rest k,a.todo=aT ops (i::rest)::k->∀o,ops[i]?=U o->(o.dst.all λd=>!I.D a.fn d)=Y
theorem fT.aaI{a b:aZ}(h:fT ρ I q nm N a b){x x':az}(s:∀ops i p k,a.todo=aT ops (i::p)::k->∀o d,ops[i]?=U o->o.dst=U d->(I.D a.fn d=ai->S I N x=Y/\x'=F ρ x)/\(I.D a.fn d=Y->mQ I x x')):fT ρ I q nm N (a.finish x)<|b.finish x':=by obtain⟨B,E,C,t,Q3,e,y,v,u,n,g,m,f,r⟩:=h;obtain⟨W,Q,w,Q2,R,T,ro⟩:=a;obtain⟨c,K,H,A,J,G,Q0⟩:=b;simp only at B E C t Q3 e y v u n g m f r s;have P:=Q3.symm;subst P;match w,e,s with
 |[],e,_=>exact⟨B,E,C,t,rfl,e,y,v,u,n,g,m,f,r⟩|i::k,e,s=>
  have X:∀j∈k,EB I q nm (I.D W) j=Y:=λj z=>e j (by grind);have D:=e i (by simp);cases i<;>try exact⟨B,E,C,t,rfl,e,y,v,u,n,g,m,f,r⟩
  case inRegion ops l=>match l,e,s with
   |[],e,_=>exact⟨B,E,C,t,rfl,e,y,v,u,n,g,m,f,r⟩|i::p,e,s=>
    refine⟨B,E,C,?_,rfl,?_,y,v,u,n,g,m,f,r⟩;.simp only[tV];cases Q1:ops[i]? with|none=>grind|some o=>cases O:o.dst with|none=>simp only[yI,O];exact t|some d=>simp only[yI,O];exact t.set<|s ops i p k rfl o d Q1 O
    .intro j z;simp only[tV,dj]at z;rcases z with rfl|z;.exact D
     .exact X j z
  all_goals cases D
theorem fT.finish{a b}(h:fT ρ I q nm N a b)(j:KR I a){x x'}(n:RV ρ I N x x'):fT ρ I q nm N (a.finish x)<|b.finish x':=h.aaI λg i f k l o d m p=>by have:=j g i f k l o m;exact⟨λ_=>n,λe=>by grind⟩
def jN(ρ:Nat->Nat)(I:H)(q:bW)(nm:String->Bool)(N:Nat)(a b:aZ):Prop:=fe ρ I q nm N a b\/fT ρ I q nm N a b
def pG(ρ:Nat->Nat)(I:H)(q:bW)(nm:String->Bool)(N:Nat)(a b:aZ):Prop:=fe ρ I q nm N a b\/fT ρ I q nm N a b/\KR I a
theorem pG.mono{a b}(h:pG ρ I q nm N a b)(d:N<=M):pG ρ I q nm M a b:=h.imp (·.mono d) λ⟨x,y⟩=>⟨x.mono d,y⟩
theorem pG.top{a b}(h:pG ρ I q nm N a b):jN ρ I q nm N a b:=h.imp id λ⟨x,_⟩=>x
inductive gZ(ρ:Nat->Nat)(I:H)(q:bW)(nm:String->Bool)(N:Nat):List aZ->List aZ->Prop|nil:gZ ρ I q nm N [] []|cons{a b:aZ}{l m:List aZ}(h:pG ρ I q nm N a b)(t:gZ ρ I q nm N l m):gZ ρ I q nm N (a::l)<|b::m
theorem gZ.mono{l m}(h:gZ ρ I q nm N l m)(c:N<=M):gZ ρ I q nm M l m:=by induction h with|nil=>exact .nil|cons h _ b=>exact .cons (h.mono c) b
def r(fr:aZ)(cs:List aZ):aX:={frame:=fr,callers:=cs,status:=dU,dying:=Z}
inductive RK where|go(g:aX)|fin(x:az)
def RK.step:RK->ay->Array jl->GStep|.go g,v,es=>bU g v es|.fin x,v,es=>fx (.done x) v es
def AZ(I:H)(q:bW)(m':Bool)(B':List aZ):Prop:=(∃b' Ct,B'=b'::Ct)\/B'=[]/\m'=Y/\∀f,I.T f=Y->q.inits.idxOf? f=Z
inductive After(ρ:Nat->Nat)(I:H)(q:bW)(fs:Array ep)(nm:String->Bool)(X:fq->Prop)(b:aZ)(bs:List aZ)(B':List aZ)(N:Nat):aX->RK->Prop|within{fr fr':aZ}{cs cs':List aZ}(h:jN ρ I q nm N fr fr')(t:gZ ρ I q nm N cs cs'):After ρ I q fs nm X b bs B' N (r fr<|cs++b::bs)<|.go<|r fr'<|cs'++B'|back{v v':az}{b':aZ}{Ct:List aZ}(hB:B'=b'::Ct)(h:RV ρ I N v v'):After ρ I q fs nm X b bs B' N (r (b.finish v) bs)<|.go<|r (b'.finish v') Ct|fin{v v':az}(hB:B'=[])(h:RV ρ I N v v'):After ρ I q fs nm X b bs B' N (r (b.finish v) bs)<|.fin v'|cut{f:fq}{mP qC:Array az}{fr fr':aZ}{cs cs':List aZ}(hx:X f\/I.cut f mP.size=Y)(ha:bD ρ I N mP qC)(h:pG ρ I q nm N fr fr')(t:gZ ρ I q nm N cs cs'):After ρ I q fs nm X b bs B' N (r (eW (J q fs) f mP eC)<|fr::cs++b::bs)<|.go<|r (eW q f qC eC)<|fr'::cs'++B'
def vz(g:aX):Prop:=∃c,g.frame.mode=.panicking c
def K7(I:H)(N:Nat)(ds:List Deferred):Prop:=∀d∈ds,∃r,d={target:=Ku r,args:=#[]}/\I.blk N r=Y
def Hs(I:H)(B:List aZ)(g:aX)(w:ay):Prop:=∃f cs c w0,g=r f (cs++B)/\f.mode=.panicking c/\K7 I w0.heap.size f.defers/\(∀x∈cs,K7 I w0.heap.size x.defers)/\Whole I w0/\jo w0 w
theorem Hs.off{B}{g}{w}(h:Hs I B g w):vz g:=by obtain⟨f,a,c,b,rfl,h,_⟩:=h;exact⟨c,h⟩
theorem fe.marks{a b}(h:fe ρ I q nm N a b)(g:N<=M):K7 I M a.defers:=by obtain⟨l,f,e,_⟩:=h.defers;intro d c;grind[H.eD]
theorem fT.agb{a b}(h:fT ρ I q nm N a b):K7 I M a.defers:=by rw[h.GO];intro d c;grind
theorem gZ.marks{l m}(h:gZ ρ I q nm N l m)(c:N<=M):∀x∈l,K7 I M x.defers:=by induction h with|nil=>simp|cons h _ d=>
  intro x b;rcases dj.1 b with rfl|b;·exact h.elim (·.marks c) (·.1.agb)
  grind
theorem jN.marks{a b}(h:jN ρ I q nm N a b)(d:N<=M):K7 I M a.defers:=h.elim (·.marks d) (·.agb)
def u(ρ:Nat->Nat)(I:H)(L:Option Nat)(B:List aZ)(A:Nat->aX->RK->Prop)(w v:ay)(r r':GStep):Prop:=match r with|bU g1 w1 _=>Hs I B g1 w1\/w.drawn<=w1.drawn/\((∀D,L=U D->w1.drawn<=D)->∃J v1 E,r'=RK.step J v1 E/\A w1.heap.size g1 J/\dV ρ I L w1 v1/\fy ρ I w v w1 v1/\∀e∈E,yf ρ I w1.heap.size e)|fx _ _ _=>True|_=>False
variable {A:Nat->aX->RK->Prop} {B:List aZ} {w v w1 v1:ay}
theorem u.after{r k}{es es'}(h:u ρ I L B A w1 v1 r k)(j:fy ρ I w v w1 v1)(c:∀i,ρ (w.heap.size+i)=v.heap.size+i)(n:∀e∈es',yf ρ I w1.heap.size e):u ρ I L B A w v (r.after es)<|k.after es':=by
 cases r<;>first|exact trivial|exact h.elim|skip
 rcases h with h|⟨o,h⟩;.exact ax h
 .refine aA ⟨bC j.Ey o,λp=>?_⟩;obtain⟨g,l,d,rfl,s,m,f,t⟩:=h p;refine⟨g,l,es'++d,by cases g<;>rfl,s,m,j.trans f c,λe b=>?_⟩;rcases BB.1 b with b|b;.exact(n e b).more f.oM
  grind
theorem u.go{g g'}(b:dV ρ I L w v)(h:A w.heap.size g<|.go g'):u ρ I L B A w v (bU g w)<|bU g' v:=aA ⟨aS _,λ_=>⟨.go g',v,#[],rfl,h,b,fy.refl _ _,by simp⟩⟩
theorem u.past{e}{es}{b}(c:w.drawn<=w1.drawn)(d:¬∀D,L=U D->w1.drawn<=D):u ρ I L B A w v (bU e w1 es) b:=aA ⟨c,λh=>absurd h d⟩
theorem u.beyond{r g c}{f}{es}(h:u ρ I Z B A w1 f r c)(i:w.drawn<=w1.drawn)(e:¬∀D,L=U D->w1.drawn<=D):u ρ I L B A w v (r.after es) g:=by
 cases r<;>first|exact trivial|exact h.elim|skip
 rcases h with h|⟨b,h⟩;.exact ax h
 .exact u.past (bC i b) λj=>e λD d=>bC b<|j D d
theorem dV.full{w v}(h:dV ρ I L w v):dV ρ I Z w {v with tape:=w.tape,drawn:=w.drawn}:=⟨h.os,λi _=>rfl,h.inj,h.blk,h.kx,h.arg⟩
theorem u.off{b}{es}{c}(h:Hs I B b w1):u ρ I L B A w v (bU b w1 es) c:=ax h
theorem LZ(fr:aZ)(vs):(fr.raise vs).defers=fr.defers:=by unfold Frame.raise;grind
theorem jN.aaV{b}{bs}{fr fr'}{cs cs'}{vs}(h:jN ρ I q nm N fr fr')(t:gZ ρ I q nm N cs cs'){w0 w1}(d:N<=w0.heap.size)(e:Whole I w0)(g:jo w0 w1):Hs I (b::bs) (r (fr.raise vs)<|cs++b::bs) w1:=by
 obtain⟨c,f⟩:∃c,(fr.raise vs).mode=.panicking c:=by unfold Frame.raise;split<;>exact⟨_,rfl⟩
 exact⟨fr.raise vs,cs,c,w0,rfl,f,by rw[LZ];exact h.marks d,t.marks d,e,g⟩
theorem raise_mode(fr:aZ)(vs):∃c,(fr.raise vs).mode=.panicking c:=by unfold Frame.raise;split<;>exact⟨_,rfl⟩
theorem fe.finish{a b:aZ}(h:fe ρ I q nm N a b){x x':az}(Q:RV ρ I N x x'):fe ρ I q nm N (a.finish x)<|b.finish x':=by obtain⟨s,t,m,S,u,o,r,p,n,f,d,e⟩:=h;obtain⟨X,O,z,D,P,R,Q0⟩:=a;obtain⟨W,H,E,C,J,F,Q1⟩:=b;simp only at s t m S u o r p n f d e;subst S;match z with
 |[]=>exact⟨s,t,m,rfl,u,o,r,p,n,f,d,e⟩|i::k=>
  have c:∀j∈k,tC I q nm N j=Y:=λj g=>u j (by grind);have K:=u i (by simp);cases i<;>try exact⟨s,t,m,rfl,u,o,r,p,n,f,d,e⟩
  case inRegion ops l=>match l with
   |[]=>exact⟨s,t,m,rfl,u,o,r,p,n,f,d,e⟩|i::T=>
    refine⟨s,t,?_,rfl,?_,o,r,p,n,f,d,e⟩
    .simp only[tV,gd,iV];split
     .refine⟨λy G=>?_,?_⟩
      .rcases Array.mem_or_eq_of_mem_setIfInBounds G with G|rfl;.exact m.1 y G
       .exact Q.1
      .rw[m.2,Q.2];grind
     grind
    .intro j g;simp only[tV,dj]at g;rcases g with rfl|g;.exact K
     grind
  case inRangeFunc l=>
   refine⟨s,t,m,rfl,?_,o,r,p,n,f,d,e⟩;intro j g;simp only[tV,dj]at g;rcases g with rfl|g;.exact K
   grind
  case beginRound=>exact⟨s,t,m,rfl,c,o,r,p,n,f,d,e⟩
  all_goals cases K
theorem pG.finish{a b}(h:pG ρ I q nm N a b){x x'}(d:RV ρ I N x x'):jN ρ I q nm N (a.finish x)<|b.finish x':=h.imp (·.finish d) λh=>h.1.finish h.2 d
def Be(D:Nat->Bool):ResultVar->Bool|.tmp t=>!D t|.cell a _=>!D a
structure Same(I:H)(q:bW)(fs:Array ep)(nm:String->Bool)(X:fq->Prop):Prop where
 gx:∀c,I.gx c=ir I q nm c
 res:∀f,I.T f=Y->fs[f]?.map (·.results)=q.funcs[f]?.map (·.results)same:∀f,I.T f=Y->¬X f->fs[f]?=q.funcs[f]?∧∀fn b,q.funcs[f]?=U fn->fn.body=U b->I.gx b=Y
 aaX:∀f,I.DF f=Y->I.T f=Y∧¬X f∧∃fn c,q.funcs[f]?=U fn∧fn.body=U c∧l9 I q nm (I.D f) c=Y∧fn.results.all (Be<|I.D f)=Y∧(fn.name== "runtime.NumGoroutine")=ai
theorem uu:n ak=Y:=rfl
theorem bD.replicate(n):bD ρ I N (tT n ak)<|tT n ak:=bD.plain λv a=>by grind[uu]
theorem fe.eval{a b}(h:fe ρ I q nm N a b)(d:Fair ρ q)(k:q.globals.size<N):∀x,tw I q x=Y->RV ρ I N (a.eval x) (b.eval x):=by intro x c;cases x with
 |tmp t=>show RV ρ I N (a.tmps.getD t ak)<|b.tmps.getD t ak;rw[iE,iE];cases e:a.tmps[t]? with|none=>rw[h.tmps.get_none e];exact RV.plain uu|some v=>obtain⟨i,j⟩:=h.tmps.get e;rw[j];exact⟨i,rfl⟩
 |const v=>exact RV.plain c|global g=>simp only[tw,cV,fO]at c;refine RV.ptr (a:=g) ⟨H.ja.2 ⟨by grind,c.2⟩,?_⟩;show(g:eT)={block:=ρ g,off:=0,spot:=Z};rw[d.fix g<|by omega]|func f=>exact⟨by simpa[OA,tw,S,uD,qb,oP]using c,by simp[OA,F,Bf,nX,qa]⟩
theorem aj6(f)(a)(k)(h:fs[f]?=q.funcs[f]?):eW (J q fs) f a k=eW q f a k:=by have e:(J q fs).funcs[f]?=q.funcs[f]?:=h;unfold eW;rw[e]
variable {X:fq->Prop} {b:aZ} {bs B':List aZ} {w v:ay}
theorem fe.Ay(n:Same I q fs nm X){f}(l:I.T f=Y)(o:¬X f)(r:∃d c,q.funcs[f]?=U d/\d.body=U c){e a}(h:bD ρ I N e a):fe ρ I q nm N (eW (J q fs) f e eC)<|eW q f a eC:=by
 obtain⟨m,p⟩:=n.same f l o;obtain⟨d,c,g,k⟩:=r;rw[aj6 f e eC m];unfold eW;rw[g];refine⟨rfl,l,?_,?_,?_,⟨[],by simp,rfl,rfl⟩,rfl,ax rfl,rfl,rfl,rfl,by simp⟩;.simp only[eG,fV,h.size];exact h.append<|bD.replicate _
 .rfl
 .intro i j;simp only[yI,k,fV,mA]at j;subst j;exact p d c g k
theorem fe.aes(r:Same I q fs nm X){l}{f}{e d}{a c}(p:I.blk N l=Y)(j:I.T f=Y)(h:bD ρ I N e d)(n:I.gx a=Y)(k:I.gx c=Y):fe ρ I q nm N (aa4 l f e a c eC)<|aa4 (ρ l) f d a c eC:=by
 refine⟨rfl,j,h,rfl,?_,⟨[],by simp,rfl,rfl⟩,rfl,ax rfl,rfl,rfl,rfl,?_⟩
 .intro i g;simp only[aa4,dj,dP,dY]at g;rcases g with rfl|rfl|rfl;.exact n
  .rfl
  .exact k
 .rintro m o;simp only[aa4,ew]at o;grind
theorem fe.FM{fr fr'}(h:fe ρ I q nm N fr fr'):∀d x y z k,fr.todo≠.call d x y z::k:=λd x y z k e=>by have:=h.items (.call d x y z) (by grind);cases this
theorem fe.Mh{fr fr'}(h:fe ρ I q nm N fr fr'):∀d x y z k,fr'.todo≠.call d x y z::k:=λd x y z k e=>by rw[h.todo]at e;cases a:fr.todo with|nil=>grind|cons i l=>
  rw[a,gd]at e;have c:iV ρ i=.call d x y z:=by grind
  cases i<;>simp only[iV]at c<;>try cases c
  exact h.FM _ _ _ _ _ a
theorem kept{P}{fn}{b}{es}{Q:jl->Prop}(h:∀e∈es,Q e):∀e∈seen P fn<|if b=Y then#[]else es,Q e:=λe c=>by have:=Conc.mem_seen c;grind
theorem Wq(hL:nM I q fs nm)(K:Same I q fs nm X){fr fr'}{cs cs'}(h:fe ρ I q nm w fr fr')(t:gZ ρ I q nm w cs cs'){s y}(hs:W ρ I (J q fs) q (RN ρ I q) w s y)(QW:dV ρ I L w v)(d:∀i,ρ (w+i)=v+i):u ρ I L (b::bs) (After ρ I q fs nm X b bs B') w v (wN (J q fs) Y fr (cs++b::bs) Z s w)<|wN q Y fr' (cs'++B') Z y v:=by have m:=W.alike hs w v #[] #[] rfl QW d;have n1:=h.FM;have n2:=h.Mh;unfold wN;simp only[if_true];have C:=W.alike (L:=Z) hs w {v with tape:=w.tape,drawn:=w.drawn} #[] #[] rfl QW.full d;generalize s.runT (J q fs) w #[]=R at m C⊢;generalize y.runT q {v with tape:=w.tape,drawn:=w.drawn} #[]=R2 at C;generalize y.runT q v #[]=S at m⊢;obtain⟨r,es⟩:=R;obtain⟨r',Q0⟩:=S;cases r with
 |halt x G=>
  obtain⟨o,w0,O,E,B⟩:=m;cases x<;>first|exact trivial|exact absurd o qh|skip
  case panic p=>exact u.off<|jN.aaV (ax h) t O E B
  case unsupported QX=>cases QX<;>first|exact trivial|cases o
 |ok a G=>
  obtain⟨Q,m⟩:=m;by_cases DX:∀D,L=U D->G.drawn<=D;case neg=>obtain⟨_,_,_,_,A,_,_,_⟩:=C.2 (by simp);cases A<;>exact u.past Q DX
  obtain⟨b0,v1,c,e,A,k,n,hE⟩:=m DX;obtain⟨rfl,rfl⟩:=Prod.mk.inj e;have g:=n.oM;have j:∀e∈(#[]++c:Array jl),yf ρ I G e:=by grind
  cases A with|value Q2=>exact u.after (u.go k<|.within (ax<|(h.mono g).finish Q2)<|t.mono g) n d<|kept j|skip=>exact u.after (u.go k<|.within (ax<|(h.mono g).finish<|RV.plain uu)<|t.mono g) n d<|kept j|enter H F l=>
   refine u.after ?_ n d<|kept j;dsimp only;split;·grind
   ·split;·grind
    ·rename_i f mP Q3 _ _ _ _;refine u.go k ?_;by_cases o:X f;·exact .cut (ax o) l (ax<|h.mono g)<|t.mono g
     ·exact .within (cs:=fr::cs) (cs':=fr'::cs') (ax<|fe.Ay K H o F l)<|.cons (ax<|h.mono g)<|t.mono g|aa1 P l=>
   refine u.after ?_ n d<|kept j;dsimp only;split;·grind
   ·split;·grind
    ·exact u.go k<|.cut (aA P) l (ax<|h.mono g)<|t.mono g|round T H z Q1 F=>refine u.after (u.go k ?_) n d<|kept j;exact .within (cs:=fr::cs) (cs':=fr'::cs') (ax<|fe.aes K T H z Q1 F)<|.cons (ax<|h.mono g)<|t.mono g
variable{X:fq->Prop}{b:aZ}{bs B':List aZ}{w v:ay}{m m':Bool}
theorem QH(g:AZ I q m' B'){fr fr'}{cs cs'}(d:fr.kind=eC)(a:fr'.kind=eC)(l:I.T fr'.fn=Y)(t:gZ ρ I q nm w cs cs'){x x'}(f:RV ρ I w x x')(c:dV ρ I L w v):u ρ I L (b::bs) (After ρ I q fs nm X b bs B') w v (oz (J q fs) m fr (cs++b::bs) Z x w)<|oz q m' fr' (cs'++B') Z x' v:=by
 cases t with|nil=>
  rcases g with⟨k,j,rfl⟩|⟨rfl,rfl,i⟩;.unfold oz;rw[d,a];exact u.go c<|.back rfl f
  .have e:oz q Y fr' ([]++[]) Z x' v=fx (.done x') v:=by unfold oz;grind
   rw[e];unfold oz;rw[d];exact aA ⟨aS _,λ_=>⟨.fin x',v,#[],rfl,.fin rfl f,c,fy.refl _ _,by simp⟩⟩|cons h t=>unfold oz;rw[d,a];exact u.go c<|.within (h.finish f) t
theorem fy.shift{w1 e}(d:fy ρ I w v w1 e)(c:∀i,ρ (w+i)=v+i):∀i,ρ (w1+i)=e+i:=λi=>by have g:=d.size;have f:=d.oM;have:=c<|w1-w+i;grind
theorem u.of_run{Q1 c}{R}{fn}{s}{t}{A}{B}(hs:W ρ I (J q fs) q R w s t)(F:dV ρ I L w v)(h:∀i,ρ (w+i)=v+i){f:Result Q1->GStep}{f':Result c->GStep}(H:∀(L)a G d j,w.heap.size<=d.heap.size->R d.heap.size a G->dV ρ I L d j->(∀i,ρ (d+i)=j+i)->u ρ I L B A d j (f<|aY a d) (f'<|aY G j))(Q:∀x d,(∃E,w.heap.size<=E.heap.size∧Whole I E∧jo E d)->(∃o p QX,f (dR x d)=fx o p QX)∨∃g p QX,f (dR x d)=bU g p QX∧Hs I B g p):u ρ I L B A w v (vj (seen (J q fs) fn (s.runT (J q fs) w #[]).2)<|f (s.runT (J q fs) w #[]).1)<|vj (seen q fn (t.runT q v #[]).2)<|f' (t.runT q v #[]).1:=by have l:=W.alike hs w v #[] #[] rfl F h;have y:=W.alike (L:=Z) hs w {v with tape:=w.tape,drawn:=w.drawn} #[] #[] rfl F.full h;generalize s.runT (J q fs) w #[]=P at l y⊢;generalize t.runT q {v with tape:=w.tape,drawn:=w.drawn} #[]=P2 at y;generalize t.runT q v #[]=S at l⊢;obtain⟨r,QX⟩:=P;obtain⟨Q0,T⟩:=S;cases r with
 |halt x d=>
  dsimp only;rcases Q x d l.2 with⟨o,p,K,e⟩|⟨g,p,K,e,Q2⟩;·rw[e];exact trivial
  ·rw[e];exact u.off Q2|ok a d=>
  obtain⟨O,l⟩:=l;by_cases DX:∀D,L=U D->d.drawn<=D;case neg=>obtain⟨C,j,QW,e,z,k,n,Q3⟩:=y.2 (by simp);exact u.beyond (H Z a C d j n.oM z k<|n.shift h) O DX
  obtain⟨C,j,QW,e,z,k,n,Q3⟩:=l DX;obtain⟨rfl,rfl⟩:=Prod.mk.inj e;refine u.after (H L a C d j n.oM z k<|n.shift h) n h λe he=>?_;grind[Conc.mem_seen]
theorem aaN(id:Nat):∀l:List eY,exitTo id (l.map<|iV ρ)=(exitTo id l).map λl=>l.map<|iV ρ
 |[]=>rfl|i::l=>by
  cases i<;>simp only[gd,iV,exitTo]<;>try exact aaN id l
  split;.rfl
  .exact aaN id l
theorem Oh(id:Nat):∀(l k:List eY),exitTo id l=U k->∀i∈k,i∈l
 |[],k,h,i,a=>by simp[exitTo]at h|j::l,k,h,i,a=>by
  cases j<;>simp only[exitTo]at h;case inBlock=>
   split at h;.grind
   .exact vO _<|Oh id l k h i a
  all_goals exact vO _<|Oh id l k h i a
structure vq(ρ:Nat->Nat)(I:H)(L:Option Nat)(q:bW)(fs:Array ep)(nm:String->Bool)(X:fq->Prop)(w v:ay):Prop where
 lay:nM I q fs nm
 same:Same I q fs nm X
 fair:Fair ρ q
 low:q.globals.size<w.heap.size
 free:∀b,w.heap.size<=b->I.F b=Y
 kT:dV ρ I L w v
 shift:∀i,ρ (w.heap.size+i)=v.heap.size+i
theorem fe.to{fr fr'}(h:fe ρ I q nm N fr fr'){l}(a:∀i∈l,tC I q nm N i=Y):fe ρ I q nm N {fr with todo:=l} {fr' with todo:=l.map<|iV ρ}:=⟨h.fn,h.here,h.tmps,rfl,a,h.defers,h.mode,h.xB,h.rS,h.xJ,h.round,h.rounds⟩
theorem fe.ret{fr fr'}(h:fe ρ I q nm N fr fr'):fe ρ I q nm N {fr with mode:=fH} {fr' with mode:=fH}:=⟨h.fn,h.here,h.tmps,h.todo,h.items,h.defers,rfl,aA rfl,h.rS,h.xJ,h.round,h.rounds⟩
theorem arA(k:AZ I q m' B')(S:vq ρ I L q fs nm X w v){fr fr'}{cs cs'}(h:fe ρ I q nm w fr fr')(t:gZ ρ I q nm w cs cs'){j}{lost lost'}:(∀c,j=U c->I.gx c=Y)->u ρ I L (b::bs) (After ρ I q fs nm X b bs B') w v (match fr.roundOf with|none=>if j matches Z|some .ret then bU (r {fr with mode:=fH}<|cs++b::bs) w else fx (kB lost<|fr.pos<|J q fs) w|some l=>let(C,es):=(Uc l j).runT (J q fs) w #[];vj (seen (J q fs) fr.fn es)<|match C with|aY x w=>oz (J q fs) m fr (cs++b::bs) Z x w|dR _ w=>fx (kB lost'<|fr.pos<|J q fs) w) (match fr'.roundOf with|none=>if j matches Z|some .ret then bU (r {fr' with mode:=fH}<|cs'++B') v else fx (kB lost<|fr'.pos q) v|some l=>let(C,es):=(Uc l j).runT q v #[];vj (seen q fr'.fn es)<|match C with|aY x w=>oz q m' fr' (cs'++B') Z x w|dR _ w=>fx (kB lost'<|fr'.pos q) w):=by intro o;have f:=h.round;cases d:fr.roundOf with
 |none=>rw[d,Jc]at f;have e:=h.ret;rw[d,f]at e;rw[f];have g:=u.go (B:=b::bs) (A:=After ρ I q fs nm X b bs B') S.kT<|.within (ax e) t;cases j with|none=>exact g|some c=>cases c<;>first|exact g|exact trivial
 |some l=>
  rw[d,eG]at f;rw[f];rw[h.fn];refine u.of_run (R:=RV ρ I) (f:=λC=>match C with|aY x w=>oz (J q fs) m fr (cs++b::bs) Z x w|dR _ w=>fx (kB lost'<|fr.pos<|J q fs) w) (f':=λC=>match C with|aY x w=>oz q m' fr' (cs'++B') Z x w|dR _ w=>fx (kB lost'<|fr'.pos q) w) (arJ (h.rounds l d) o) S.kT S.shift ?_ ?_;.intro L a s y Q0 p n i _;exact QH k h.rS h.xJ (by rw[h.fn];exact h.here) (t.mono p) n i
  grind
theorem fe.abZ{fr fr'}(h:fe ρ I q nm N fr fr'){i}{k}(c:fr.todo=i::k):fr'.todo=iV ρ i::k.map (iV ρ)/\tC I q nm N i=Y/\∀j∈k,tC I q nm N j=Y:=by refine⟨by rw[h.todo,c,gd],h.items i<|by grind,λj d=>h.items j<|by grind⟩
theorem fe.enterLoop{fr fr'}(h:fe ρ I q nm N fr fr'){l}{k}{ds c}(e:I.blk N l=Y)(s:∀j∈k,tC I q nm N j=Y)(f:E0 ρ I N ds c):fe ρ I q nm N {fr with todo:=EM l::k,defers:=ds++fr.defers} {fr' with todo:=EM (ρ l)::k.map (iV ρ),defers:=c++fr'.defers}:=by
 refine⟨h.fn,h.here,h.tmps,rfl,?_,?_,h.mode,h.xB,h.rS,h.xJ,h.round,h.rounds⟩
 .intro j d;rcases dj.1 d with rfl|d;.exact e
  grind
 .obtain⟨g,p,x,t⟩:=f;obtain⟨i,o,y,n⟩:=h.defers;refine⟨g++i,λr u=>?_,by grind,by grind⟩;grind
theorem arI(G:∀b,N<=b->I.F b=Y){fn}(t:I.T fn=Y){j g}(D:bD ρ I N j g)(h){a c}(R:I.gx a=Y)(P:I.gx c=Y){p n}(u:n=p.map ρ)(C:∀l,p=U l->I.blk N l=Y):W ρ I (J q fs) q (λN x y=>I.blk N x.1=Y/\y.1=ρ x.1/\E0 ρ I N x.2 y.2) N (Instr.enterLoop fn j h a c p)<|Instr.enterLoop fn g h a c n:=by
 subst u;have k:∀(K d)(B i),N<=K->I.blk K d=Y->E0 ρ I K B i->W ρ I (J q fs) q (λN x y=>I.blk N x.1=Y/\y.1=ρ x.1/\E0 ρ I N x.2 y.2) K (do bI (<-newObj<|AF {state:=EJ,pending:=Z,fn,tmps:=j,params:=h,assign:=a,body:=c,defers:=d},B)) (do bI (<-newObj<|AF {state:=EJ,pending:=Z,fn,tmps:=g,params:=h,assign:=a,body:=c,defers:=ρ d},i)):=λK d B i o Q s=>by
  have e:AF {state:=EJ,pending:=Z,fn,tmps:=g,params:=h,assign:=a,body:=c,defers:=ρ d}=fb ρ (AF {state:=EJ,pending:=Z,fn,tmps:=j,params:=h,assign:=a,body:=c,defers:=d}):=by simp only[fb,Dg,D.2]
  have E:=Iv (ρ:=ρ) (q:=q) (fs:=fs) (o:=AF {state:=EJ,pending:=Z,fn,tmps:=j,params:=h,assign:=a,body:=c,defers:=d}) (G K o)<|oa.of (r:={state:=EJ,pending:=Z,fn,tmps:=j,params:=h,assign:=a,body:=c,defers:=d}) (D.mono o).1 R P (by simp) t Q;rw[<-e]at E;refine W.bind' E ?_;rintro L r H z⟨rfl,_,rfl,A⟩;exact .pure' ⟨A,rfl,s.mono z⟩
 cases p with|some l=>refine W.bind' (LM<|C l rfl) ?_;rintro K r H o⟨O,rfl⟩;obtain⟨f,T,Q0,F,S,Q1⟩:=oa.parts O;exact k K r.defers [] [] o Q1 ⟨[],by simp,rfl,rfl⟩|none=>refine W.bind' (Iv (ρ:=ρ) (I:=I) (q:=q) (fs:=fs) (o:=x6<|U []) (G N<|aS _)<|by simp[eF]) ?_;rintro L r H z⟨rfl,_,rfl,A⟩;exact k L r _ _ z A ⟨[r],by grind,rfl,rfl⟩
theorem vq.later{L'}(S:vq ρ I L q fs nm X w v){w1 d}(e:w.heap.size<=w1.heap.size)(f:dV ρ I L' w1 d)(c:∀i,ρ (w1.heap.size+i)=d.heap.size+i):vq ρ I L' q fs nm X w1 d:=⟨S.lay,S.same,S.fair,bC S.low e,λb g=>S.free b<|bC e g,f,c⟩
theorem ard(S:vq ρ I L q fs nm X w v){fr fr'}{cs cs'}(h:fe ρ I q nm w.heap.size fr fr')(t:gZ ρ I q nm w.heap.size cs cs'){ops}{i}{l}{k}(n:fr.todo=aT ops (i::l)::k):u ρ I L (b::bs) (After ρ I q fs nm X b bs B') w v (EI (J q fs) Y fr (cs++b::bs) Z w)<|EI q Y fr' (cs'++B') Z v:=by
 obtain⟨f,g,C⟩:=h.abZ n;have r:fr.oper?=ops[i]?:=by unfold OB;grind
 have p:fr'.oper?=ops[i]?:=by unfold OB;rw[f];rfl
 unfold EI;rw[r,p];cases j:ops[i]? with|none=>exact trivial|some o=>
  simp only[tC,kZ]at g;have d:=g o<|uG j;have s:∀c,o.op≠.defer c:=λc e=>by rw[e]at d;cases d
  have:=Wq (b:=b) (bs:=bs) (B':=B') S.lay S.same h t (adR S.lay S.free S.fair S.low (h.eval S.fair S.low) (λ_=>rfl) (λ_=>rfl) d) S.kT S.shift;grind
theorem amB(ops){e c}(h:bD ρ I N e c)(j):eu ops c j=eu ops e j:=by unfold eu;cases ops[j]?.bind (·.dst)with|none=>rfl|some d=>simp only[yI];rw[h.2,qM];cases e[d]? with|none=>rfl|some v=>cases v<;>rfl
theorem aeG(e)(f)(l):resolve e {callee:=.value f,args:=#[gJ<|dM (Cm l) #[] #[]],argTypes:=#[]} 0=OM (e f) #[e<|gJ<|dM (Cm l) #[] #[]]:=by simp[resolve]
theorem ad1{p q}(x)(f:dV ρ I L w v):(∃n,(choose x).run p w=aY n w/\(choose x).run q v=aY n v)\/(∃n,(choose x).run p w=aY n {w with drawn:=w.drawn+1}/\(choose x).run q v=aY n {v with drawn:=v.drawn+1})\/∃n,(choose x).run p w=aY n {w with drawn:=w.drawn+1}/\¬∀D,L=U D->w.drawn+1<=D:=by
 by_cases c:x.forced=Y;.exact ax ⟨0,by simp[c],by simp[c]⟩
 .by_cases d:∀D,L=U D->w.drawn+1<=D;.have e:v.tape v.drawn=w.tape w.drawn:=f.tape 0 λD g=>d D g;exact aA<|ax ⟨x.cut<|w.tape w.drawn x,by simp[c],by simp[c,e]⟩
  .exact aA<|aA ⟨x.cut<|w.tape w.drawn x,by simp[c],d⟩
theorem arG(hB:AZ I q m' B')(QY:vq ρ I L q fs nm X w v){fr fr':aZ}{cs cs':List aZ}(h:fe ρ I q nm w.heap.size fr fr')(t:gZ ρ I q nm w.heap.size cs cs'):u ρ I L (b::bs) (After ρ I q fs nm X b bs B') w v (wM (J q fs) m Y fr (cs++b::bs) Z w)<|wM q m' Y fr' (cs'++B') Z v:=by have tm:=QY.same.gx;have M5:=h.todo;obtain⟨fn,C,todo,Qw,G,H,Q⟩:=fr;obtain⟨o,A,aFd,s,QX,E,K⟩:=fr';simp only at M5;subst M5;have QW:∀l:List eY,(∀i∈l,tC I q nm w.heap.size i=Y)->u ρ I L (b::bs) (After ρ I q fs nm X b bs B') w v (bU (r (⟨fn,C,l,Qw,G,H,Q⟩:aZ)<|cs++b::bs) w) (bU (r (⟨o,A,l.map<|iV ρ,s,QX,E,K⟩:aZ)<|cs'++B') v):=λl hl=>u.go QY.kT<|.within (ax<|h.to hl) t;have fin:∀x x',RV ρ I w.heap.size x x'->u ρ I L (b::bs) (After ρ I q fs nm X b bs B') w v (bU (r ((⟨fn,C,todo,Qw,G,H,Q⟩:aZ).finish x)<|cs++b::bs) w) (bU (r ((⟨o,A,todo.map<|iV ρ,s,QX,E,K⟩:aZ).finish x')<|cs'++B') v):=λx x' hx=>u.go QY.kT<|.within (ax<|h.finish hx) t;have D:=λ(j:Option Code)(l1 l2:String)=>arA (m:=m) (m':=m') (b:=b) (bs:=bs) (B':=B') hB (lost:=l1) (lost':=l2) (j:=j) QY h t;have uX:=h.eval QY.fair QY.low;unfold wM;cases todo with|nil=>exact D Z _ _<|by simp|cons i k=>obtain⟨_,O,Q1⟩:=h.abZ rfl;cases i with
  |call _ _ _ _=>cases O|extern _ _=>cases O|inScope _=>cases O|inBlock id=>exact QW k Q1|inLoop c=>exact QW (bF c::.inLoop c::k)<|ig.2 ⟨O,ig.2 ⟨O,Q1⟩⟩|inRangeFunc l=>exact trivial|endRangeFunc l=>
   have qp:o=fn:=h.fn;subst qp;refine u.of_run (fn:=o) (f:=λQZ=>match QZ with|aY Q0 w=>bU {frame:=(⟨o,C,(Q0.map bF).toList++k,Qw,G,H,Q⟩:aZ),callers:=cs++b::bs,status:=dU,dying:=Z} w|dR (.panic v) w=>bU {frame:=(⟨o,C,Kv l::k,Qw,G,H,Q⟩:aZ).raise [{v,recovered:=ai}],callers:=cs++b::bs,status:=dU,dying:=Z} w|dR _ w=>fx (kB "range over a function: no such loop"<|(⟨o,C,Kv l::k,Qw,G,H,Q⟩:aZ).pos<|J q fs) w) (f':=λQZ=>match QZ with|aY Q0 w=>bU {frame:=(⟨o,A,(Q0.map bF).toList++k.map (iV ρ),s,QX,E,K⟩:aZ),callers:=cs'++B',status:=dU,dying:=Z} w|dR (.panic v) w=>bU {frame:=(⟨o,A,Kv (ρ l)::k.map (iV ρ),s,QX,E,K⟩:aZ).raise [{v,recovered:=ai}],callers:=cs'++B',status:=dU,dying:=Z} w|dR _ w=>fx (kB "range over a function: no such loop"<|(⟨o,A,Kv (ρ l)::k.map (iV ρ),s,QX,E,K⟩:aZ).pos q) w) (arK O) QY.kT QY.shift ?_ ?_
   .rintro L j _ R Q3 hN⟨rfl,hj⟩T _;have Eb:∀i∈(j.map bF).toList++k,tC I q nm R.heap.size i=Y:=λi O=>by
     rcases List.mem_append.1 O with O|O;.cases j with|none=>grind|some c=>simp only[eG,Option.toList_some,mA]at O;subst O;exact hj c rfl
     grind[Rn]
    have e:((j.map bF).toList++k).map (iV ρ)=(j.map bF).toList++k.map (iV ρ):=by rw[List.map_append];cases j<;>rfl
    have:=u.go (B:=b::bs) (A:=After ρ I q fs nm X b bs B') T<|.within (ax<|(h.mono hN).to Eb)<|t.mono hN;rw[e]at this;exact this
   .rintro x R⟨w0,h0,hWh,ZM⟩;cases x<;>first|exact ax ⟨_,_,_,rfl⟩|exact aA ⟨_,_,_,rfl,jN.aaV (ax h) t h0 hWh ZM⟩
  |beginRound=>refine Wq QY.lay QY.same h t ?_ QY.kT QY.shift;have hr:K=Q.map ρ:=h.round;subst hr;cases Q with|none=>exact .dead<|y.bind (.halt _) _|some l=>refine W.bind' (arX<|h.rounds l rfl) ?_;rintro M _ _ hM _;exact .pure' .skip
  |inRegion B l=>cases l with|nil=>exact QW k Q1|cons i l=>
    have hy:eu B A=eu B C:=funext<|amB B h.tmps;have h1:=ard (b:=b) (bs:=bs) (B':=B') QY h t rfl;have h2:=fin ak ak<|RV.plain uu;by_cases hw:(B[i]?.map (eX .<|eu B C)).getD ai=Y
    .have hw':(B[i]?.map (eX .<|eu B A)).getD ai=Y:=by rw[hy];exact hw
     show u _ _ _ _ _ w v (if(B[i]?.map (eX .<|eu B C)).getD ai=Y then _ else _) (if(B[i]?.map (eX .<|eu B A)).getD ai=Y then _ else _);rw[dy hw,dy hw'];exact h1
    .have hw':¬(B[i]?.map (eX .<|eu B A)).getD ai=Y:=by rw[hy];exact hw
     show u _ _ _ _ _ w v (if(B[i]?.map (eX .<|eu B C)).getD ai=Y then _ else _) (if(B[i]?.map (eX .<|eu B A)).getD ai=Y then _ else _);rw[if_neg hw,if_neg hw'];exact h2
  |code c=>
   have P:ir I q nm c=Y:=by rw[<-tm];exact O
   cases c with
   |scope _=>cases P|label _=>cases P|goto _=>cases P|refuse _=>exact trivial|ret=>exact D (U .ret) _ _<|by rintro c⟨⟩;exact O|skip=>exact QW k Q1|seq a c=>simp only[ir,cV]at P;exact QW (bF a::bF c::k)<|ig.2 ⟨(tm _).trans P.1,ig.2 ⟨(tm _).trans P.2,Q1⟩⟩|block id c=>exact QW (bF c::mh id::k)<|ig.2 ⟨(tm _).trans P,ig.2 ⟨rfl,Q1⟩⟩|loop c=>exact QW (bF c::.inLoop c::k)<|ig.2 ⟨(tm _).trans P,ig.2 ⟨(tm _).trans P,Q1⟩⟩|cond x a c=>
    simp only[ir,cV]at P;obtain⟨e1,e2⟩:=uX x P.1.1;have Q2:∀(Qx u':az)(Qy o':Outcome),u'=F ρ Qx->u ρ I L (b::bs) (After ρ I q fs nm X b bs B') w v (match Qx with|bQ z=>bU (r ⟨fn,C,bF (if z then a else c)::k,Qw,G,H,Q⟩<|cs++b::bs) w|_=>fx Qy w) (match u' with|bQ z=>bU (r ⟨o,A,bF (if z then a else c)::k.map (iV ρ),s,QX,E,K⟩<|cs'++B') v|_=>fx o' v):=by
     rintro Qx _ Qy o' rfl;cases Qx<;>try exact trivial
     rename_i z;cases z with|true=>exact QW (bF a::k)<|ig.2 ⟨(tm _).trans P.1.2,Q1⟩|false=>exact QW (bF c::k)<|ig.2 ⟨(tm _).trans P.2,Q1⟩
    exact Q2 _ _ _ _ e2|exit id=>
    have Q2:∀(Qy o':Option<|List eY)(g g':GStep),o'=Qy.map (λl=>l.map<|iV ρ)->(∀l,Qy=U l->∀i∈l,tC I q nm w.heap.size i=Y)->u ρ I L (b::bs) (After ρ I q fs nm X b bs B') w v g g'->u ρ I L (b::bs) (After ρ I q fs nm X b bs B') w v (Qy.elim g λl=>bU (r ⟨fn,C,l,Qw,G,H,Q⟩<|cs++b::bs) w) (o'.elim g' λl=>bU (r ⟨o,A,l,s,QX,E,K⟩<|cs'++B') v):=by rintro Qy _ g g' rfl ho hg;cases Qy with|none=>exact hg|some l=>exact QW l<|ho l rfl
    exact Q2 (exitTo id k) _ _ _ (aaN id k) (λl hl i O=>Q1 i<|Oh id k l hl i O)<|D (U<|.exit id) _ _<|by rintro c⟨⟩;exact O|region id B d=>have SQ:tC I q nm w.heap.size (aT B [])=Y:=P;cases d with|false=>exact QW (aT B (mJ B.size)::k)<|ig.2 ⟨SQ,Q1⟩|true=>
     have qp:o=fn:=h.fn;subst qp;have go2:∀(n:Nat)(R Q3:ay),dV ρ I L R Q3->fy ρ I w v R Q3->R.heap.size=w.heap.size->u ρ I L (b::bs) (After ρ I q fs nm X b bs B') w v (bU (r ⟨o,C,aT B (mK (q.follows nG) B n)::k,Qw,G,H,Q⟩<|cs++b::bs) R) (bU (r ⟨o,A,aT B (mK (q.follows nG) B n)::k.map (iV ρ),s,QX,E,K⟩<|cs'++B') Q3):=λn R Q3 T hT hs=>aA ⟨hT.Ey,λ_=>⟨_,Q3,#[],rfl,.within (ax<|(h.mono<|by omega).to (l:=aT B (mK (q.follows nG) B n)::k)<|ig.2 ⟨SQ,λi O=>Rn (by omega)<|Q1 i O⟩)<|t.mono<|by omega,T,hT,by simp⟩⟩;have Q2:∀(n:Nat)(R Q3:ay)(QZ r':Result Nat),QZ=aY n R->r'=aY n Q3->dV ρ I L R Q3->fy ρ I w v R Q3->R.heap.size=w.heap.size->u ρ I L (b::bs) (After ρ I q fs nm X b bs B') w v (match QZ with|aY t w=>bU (r ⟨o,C,aT B (mK ((J q fs).follows nG) B t)::k,Qw,G,H,Q⟩<|cs++b::bs) w|dR _ w=>fx (kB "order"<|o9 (J q fs) ⟨o,C,bF (ec id B Y)::k,Qw,G,H,Q⟩) w) (match r' with|aY t w=>bU (r ⟨o,A,aT B (mK (q.follows nG) B t)::k.map (iV ρ),s,QX,E,K⟩<|cs'++B') w|dR _ w=>fx (kB "order"<|o9 q ⟨o,A,bF (ec id B Y)::k.map (iV ρ),s,QX,E,K⟩) w):=by rintro n R Q3 _ _ rfl rfl T hT hs;exact go2 n R Q3 T hT hs
     rcases ad1 (p:=J q fs) (q:=q) (.order o id) QY.kT with⟨n,e1,e2⟩|⟨n,e1,e2⟩|⟨n,e1,hn⟩;.exact Q2 n w v _ _ e1 e2 QY.kT (fy.refl _ _) rfl
     .exact Q2 n _ _ _ _ e1 e2 QY.kT.draw (fy.draw _ _) rfl
     .have YR:∀(QZ:Result Nat)(g:GStep),QZ=aY n {w with drawn:=w.drawn+1}->u ρ I L (b::bs) (After ρ I q fs nm X b bs B') w v (match QZ with|aY t w=>bU (r ⟨o,C,aT B (mK ((J q fs).follows nG) B t)::k,Qw,G,H,Q⟩<|cs++b::bs) w|dR _ w=>fx (kB "order"<|o9 (J q fs) ⟨o,C,bF (ec id B Y)::k,Qw,G,H,Q⟩) w) g:=by rintro _ g rfl;exact u.past (Jp _) hn
      exact YR _ _ e1
   |rangeFunc f ps a c=>
    simp only[ir,cV]at P;have qp:o=fn:=h.fn;subst qp;have oZ:K=Q.map ρ:=h.round;refine u.of_run (q:=q) (fs:=fs) (fn:=o) (f:=λQZ=>match QZ with|aY (l,mark) w=>wN (J q fs) Y ⟨o,C,EM l::k,mark++Qw,G,H,Q⟩ (cs++b::bs) Z (do let d<-resolve (OA ⟨o,C,EM l::k,mark++Qw,G,H,Q⟩) {callee:=.value f,args:=#[gJ<|dM (Cm l) #[] #[]],argTypes:=#[]} 0;invoke d.target d.args) w|dR _ w=>fx (kB "range over a function: no such loop"<|o9 (J q fs) ⟨o,C,bF (.rangeFunc f ps a c)::k,Qw,G,H,Q⟩) w) (f':=λQZ=>match QZ with|aY (l,mark) w=>wN q Y ⟨o,A,EM l::k.map (iV ρ),mark++s,QX,E,K⟩ (cs'++B') Z (do let d<-resolve (OA ⟨o,A,EM l::k.map (iV ρ),mark++s,QX,E,K⟩) {callee:=.value f,args:=#[gJ<|dM (Cm l) #[] #[]],argTypes:=#[]} 0;invoke d.target d.args) w|dR _ w=>fx (kB "range over a function: no such loop"<|o9 q ⟨o,A,bF (.rangeFunc f ps a c)::k.map (iV ρ),s,QX,E,K⟩) w) (arI QY.free h.here h.tmps ps ((tm _).trans P.1.2) ((tm _).trans P.2) oZ h.rounds) QY.kT QY.shift ?_ ?_;.rintro L⟨l,mk⟩⟨l',mk'⟩R Q3 hN⟨hl,tM,ZA⟩T aiM;dsimp only at hl tM ZA;subst tM;have S1:=QY.later hN T aiM;have h1:=fe.enterLoop (h.mono hN) (l:=l) (k:=k) hl (λj hj=>Rn hN<|Q1 j hj) ZA;refine Wq S1.lay S1.same h1 (t.mono hN) ?_ T aiM;rw[aeG,aeG];refine adY S1.lay S1.free S1.fair S1.low ((h1.eval S1.fair S1.low) f P.1.1) ?_;exact bD.nil.push (v:=dM (Cm l) #[] #[]) (v':=dM (Cm<|ρ l) #[] #[]) ⟨by simpa[S,uD,qb,oP]using hl,by simp[F,Bf,nX,qa]⟩
    .intro x R _;exact ax ⟨_,_,_,rfl⟩
def UN(I:H):Nat->az->az->Prop:=λ_ v v'=>mQ I v v'
def A0(I:H)(a:eT):Prop:=∃A,I.arg=U A/\a.block=A.g/\A.lo<=a.off
theorem A0.add{a}(h:A0 I a)(n):A0 I<|a.add n:=by
 obtain⟨A,e,d,f⟩:=h;unfold Addr.add;split;.exact⟨A,e,d,f⟩
 .exact⟨A,e,d,by grind⟩
theorem A0.ptr{a}(h:A0 I a):mQ I (aG<|U a)<|aG<|U a:=by obtain⟨A,f,e,d⟩:=h;exact ax ⟨rfl,aA<|aA ⟨A,a,f,e,d,ax rfl⟩⟩
theorem Ws{x x'}(h:mQ I x x'):W ρ I (J q fs) q (λ_ a i=>A0 I a/\i=a) N (EK x)<|EK x':=by
 rcases h with⟨rfl,rfl|⟨n,c,rfl⟩|⟨A,a,g,f,e,rfl|⟨n,c,rfl⟩⟩⟩|⟨a,c,rfl,rfl⟩;.exact T _ _
 .exact T _ _
 .exact .pure ⟨⟨A,g,f,e⟩,rfl⟩
 .exact T _ _
 .exact T _ _
theorem ar9(t:ey){x e i z:az}(r:mQ I x e)(B:RV ρ I N i z):W ρ I (J q fs) q (UN I) N (xZ t x i)<|xZ t e z:=by
 rcases r with⟨rfl,s⟩|⟨a,c,rfl,rfl⟩;rotate_left;.unfold xZ;refine W.bind' (Iy B) ?_;rintro M⟨k,n⟩_ F rfl;refine .dead ?_;refine y.then _ λd=>?_;cases d<;>first|exact y.bind (.halt _) _|exact show y (J q fs) (pq t>>=λ_=>tW k n 0 AE)from y.then _ λ_=>TZ _ _ _ _ _
 unfold xZ;refine W.bind' (Iy B) ?_;rintro M⟨k,n⟩_ F rfl;dsimp only;have o:∀(K:Nat)(g:Option eT)(f:Nat)(j:ey),(∀b,g=U b->A0 I b\/f=0)->W ρ I (J q fs) q (UN I) K (do let l:=f<=1&&match<-pq t with|.array ..=>Y|_=>ai match g with|some a=>if 0<=n/\n<f then bI<|aG<|U<|a.add<|n.toNat*(<-sizeOf j)else if l then vh<|x7 "op/indexAddr.an index out of range at an array of length 0 or 1 (ledger 616)"else tW k n f AE|none=>tW k n 0 AE:cz az) (do let l:=f<=1&&match<-pq t with|.array ..=>Y|_=>ai match g with|some a=>if 0<=n/\n<f then bI<|aG<|U<|a.add<|n.toNat*(<-sizeOf j)else if l then vh<|x7 "op/indexAddr.an index out of range at an array of length 0 or 1 (ledger 616)"else tW k n f AE|none=>tW k n 0 AE:cz az):=λK g f j p=>by refine W.bind' (gC t) ?_;rintro L d _ D rfl;cases g with|none=>grind[LN]|some a=>
   by_cases u:0<=n/\n<f
   .simp only[u,and_self,if_true];refine W.bind' (mZ j) ?_;rintro O C _ S rfl;rcases p a rfl with p|p;.exact .pure' (p.add _).ptr
    grind
   .simp only[u,if_false];refine .dead ?_;have:∀b:Bool,y (J q fs) (if b=Y then vh<|x7 "op/indexAddr.an index out of range at an array of length 0 or 1 (ledger 616)"else tW k n ↑f AE:cz az):=λb=>by
     split;.exact .halt _
     grind[TZ]
    exact this _
 refine W.bind' (gC t) ?_;rintro K d _ R rfl;split;.rename_i T E;refine W.bind' (Ws<|ax ⟨rfl,s⟩) ?_;rintro L _ a D⟨Q,rfl⟩;exact o L (U a) T E λb p=>by grind
 .rename_i x j g f c;refine o K g f j λb p=>?_;subst p;rcases s with h|⟨n,c,h⟩|⟨A,a,G,P,H,h|⟨n,c,h⟩⟩;.cases h
  .grind
  .grind
  .cases h;exact ax ⟨A,G,P,H⟩
 .exact .dead<|y.bind (.halt _) _
theorem aq4(t):W ρ I (J q fs) q (λ_ a b=>a=b/\∃i,q.info? t=U i/\a=i.size) N (sizeOf t)<|sizeOf t:=by refine W.bind' (rH t) ?_;rintro M a b e⟨rfl,d⟩;exact .pure' ⟨rfl,_,d,rfl⟩
theorem asa(s)(i)(hs:aaL q s i=Y){x x'}(h:mQ I x x'):W ρ I (J q fs) q (UN I) N (zl s x i)<|zl s x' i:=by
 refine W.bind' (VY s) ?_;rintro M d _ u⟨rfl,o⟩;unfold aaL at hs;rw[o]at hs;split;·rename_i e;simp only at hs;cases l:e[i]? with|none=>grind|some f=>
   rw[l]at hs;simp only at hs⊢;refine W.bind' (Ws h) ?_;rintro K _ a y⟨p,rfl⟩;refine W.bind' (R:=λ_ b k=>A0 I b∧k=b) ?_ ?_;·refine W.bind' (aq4 _) ?_;rintro L n _ r⟨rfl,j,g,rfl⟩;rw[g]at hs;simp only[fO]at hs;rw[if_neg hs];exact .pure' ⟨p.add _,rfl⟩
   ·rintro L _ b r⟨t,rfl⟩;exact .pure' t.ptr
 grind
theorem ad5{a}(h:A0 I a):W ρ I (J q fs) q (RV ρ I) N (load a)<|load a:=by obtain⟨A,g,f,d⟩:=h;exact .I0 g f d λv e=>.pure<|RV.plain e
theorem ar6{a}(k:A0 I a)(i n):∀{N}{e d},bD ρ I N e d->W ρ I (J q fs) q (bD ρ I) N (loadCellsFrom a i n e) (loadCellsFrom a i n d):=by induction n generalizing i with|zero=>intro N e d h;exact .pure h|succ n j=>intro N e d h;refine W.bind' (ad5<|k.add i) ?_;rintro M v l g f;exact j (i+1)<|(h.mono g).push f
theorem ar7(t){x x'}(h:mQ I x x'):W ρ I (J q fs) q (RV ρ I) N (EL t x)<|EL t x':=by
 refine W.bind' (Ws h) ?_;rintro M _ a e⟨g,rfl⟩;refine W.bind' (Wi t) ?_;rintro M b _ e rfl;split;.refine W.bind' (mZ t) ?_;rintro K n _ j rfl;refine W.bind' (ar6 g 0 n bD.nil) ?_;rintro L i f k d;exact .pure<|RV.agg d
 grind[ad5]
theorem ar8(i:Array ey)(t:ey){x x':az}(h:mQ I x x'):W ρ I (J q fs) q (RV ρ I) N (zk i t #[x])<|zk i t #[x']:=by unfold zk;cases i[0]? with|none=>grind[T]|some t=>have j:(#[x]:Array az)[0]?=U x:=rfl;have g:(#[x']:Array az)[0]?=U x':=rfl;rw[j,g];dsimp only;refine W.bind' (gC t) ?_;rintro M d _ k rfl;have s:∀K(n:Nat),W ρ I (J q fs) q (RV ρ I) K (bI<|goInt n)<|bI<|goInt n:=fun K n=>.pure'<|RV.plain rfl;rcases h with⟨rfl,rfl|⟨n,c,rfl⟩|⟨A,a,l,r,o,rfl|⟨n,c,rfl⟩⟩⟩|⟨a,c,rfl,rfl⟩<;>cases d<;>first|exact T _ _|grind|(refine W.bind' (gC _) ?_;rintro K e _ p rfl;grind[T])
theorem fT.eval{a b}(h:fT ρ I q nm N a b)(e:Fair ρ q)(l:q.globals.size<N):∀x,tB I q (I.D a.fn) x=Y->RV ρ I N (a.eval x) (b.eval x):=by intro x d;cases x with
 |tmp t=>simp only[tB,Bool.not_eq_true']at d;show RV ρ I N (a.tmps.getD t ak)<|b.tmps.getD t ak;rw[iE,iE];cases i:a.tmps[t]? with|none=>rw[yH<|by rw[h.tmps.size];grind];exact RV.plain uu|some v=>obtain⟨j,k⟩:=h.tmps.here t v i d;rw[k];exact⟨j,rfl⟩
 |const v=>exact RV.plain d|global g=>simp only[tB,tw,cV,fO]at d;refine RV.ptr (a:=⟨g,0,Z⟩) ⟨H.ja.2 ⟨by grind,d.2⟩,?_⟩;show(⟨g,0,Z⟩:eT)={block:=ρ g,off:=0,spot:=Z};rw[e.fix g<|by omega]|func f=>exact⟨by simpa[OA,tB,tw,S,uD,qb,oP]using d,by simp[OA,F,Bf,nX,qa]⟩
theorem fT.GL{a b}(h:fT ρ I q nm N a b){x}(d:A3 (I.D a.fn) x=Y):mQ I (a.eval x)<|b.eval x:=by
 cases x<;>try(cases d)
 rename_i t;show mQ I (a.tmps.getD t ak)<|b.tmps.getD t ak;rw[iE,iE];cases e:a.tmps[t]? with|none=>rw[yH<|by rw[h.tmps.size];grind];exact mQ.undef|some v=>obtain⟨g,f,i⟩:=h.tmps.arg t v e d;grind
theorem sO.args{a b}(h:fT ρ I q nm N a b)(f:Fair ρ q)(k:q.globals.size<N){E}{xs:Array iT}(i:ET I q (I.D a.fn) E 0 xs.toList=Y):sO ρ I N E (xs.map a.eval)<|xs.map b.eval:=by
  have g:∀(l)(j),ET I q (I.D a.fn) E j l=Y→∀t x,l[t]?=U x→(if E (j+t)then A3 (I.D a.fn) x else tB I q (I.D a.fn) x)=Y:=by intro l;induction l with|nil=>grind|cons y l r=>intro j n t x i;simp only[ET]at n;cases t with|zero=>grind|succ t=>grind
  have z:∀t x,xs[t]?=U x→(if E t then A3 (I.D a.fn) x else tB I q (I.D a.fn) x)=Y:=fun t x p=>by have:=g xs.toList 0 i t x (by grind);grind
  refine⟨by simp,fun t v d o=>?_,fun t v d o=>?_⟩<;>(rw[qM]at d⊢;obtain⟨x,e,rfl⟩:=yM.1 d;rw[e]);·obtain⟨s,u⟩:=h.eval f k x (by grind);grind
  ·exact⟨_,rfl,h.GL (x:=x)<|by grind⟩
inductive CH(ρ:Nat->Nat)(I:H)(q:bW)(fr:aZ)(N:Nat):Next->Next->Prop|gx{n n':Next}(hw:KR I fr)(h:RN ρ I q N n n'):CH ρ I q fr N n n'|arg{v v':az}(hd:∀ops i rest k,fr.todo=aT ops (i::rest)::k->∀o,ops[i]?=U o->o.dst.all (I.D fr.fn)=Y)(h:mQ I v v'):CH ρ I q fr N (gp v)<|gp v'|enter{f:fq}{mP qC:Array az}(hw:KR I fr)(hf:I.DF f=Y)(h:sO ρ I N (I.D f) mP qC):CH ρ I q fr N (jL f mP)<|jL f qC
theorem asc(i:Same I q fs nm X){fr}{f}(k:KR I fr)(j:I.DF f=Y){g d}(h:sO ρ I N (I.D f) g d):W ρ I (J q fs) q (CH ρ I q fr) N (iA f g)<|iA f d:=by refine W.bind' mu ?_;rintro M p e o⟨rfl,rfl⟩;obtain⟨r,u,s,c,l,t,_,_,n⟩:=i.aaX f j;show W ρ I (J e fs) e (CH ρ I e fr) M (match fs[f]? with|none=>_|some s=>_) _;rw[(i.same f r u).1,l];dsimp only;rw[n,t];exact .pure'<|.enter k j<|h.mono o
theorem fT.Ay(n:Same I q fs nm X){f}(o:I.DF f=Y){g e}(h:sO ρ I N (I.D f) g e):fT ρ I q nm N (eW (J q fs) f g eC)<|eW q f e eC:=by
  obtain⟨l,x,y,c,p,s,u,_,_⟩:=n.aaX f o;rw[aj6 f g eC (n.same f l x).1];unfold eW;rw[p];refine⟨rfl,l,o,?_,rfl,?_,rfl,rfl,rfl,ax rfl,rfl,rfl,rfl,rfl⟩;·refine⟨by simp[h.size],fun t v d j=>?_,fun t v d j=>?_⟩<;>
      (rw[Array.getElem?_append]at d⊢;rw[h.size];by_cases r:t<g.size;·rw[dy r]at d⊢;first|exact h.here t v d j|exact h.arg t v d j
       ·grind[tj,uu,mQ.undef])
  ·intro i k;simp only[yI,s,mA]at k;subst k;exact u
theorem asb(S:vq ρ I L q fs nm X w v){fr fr':aZ}(h:fT ρ I q nm w.heap.size fr fr'){ops:Array dJ}{i:Nat}{l:List Nat}{k:List eY}(ht:fr.todo=aT ops (i::l)::k){o:dJ}(ho:ops[i]?=U o)(n:EA I q nm (I.D fr.fn) o=Y):W ρ I (J q fs) q (CH ρ I q fr) w.heap.size (cX fr.eval o)<|cX fr'.eval o:=by
 have r:∀{Q:dJ->Prop},Q o->∀ops i A k,fr.todo=aT ops (i::A)::k->∀o,ops[i]?=U o->Q o:=λhQ R i' H k' e o' he=>by grind
 have G:(o.dst.all λd=>!I.D fr.fn d)=Y->KR I fr:=λe=>r (Q:=λo=>(o.dst.all λd=>!I.D fr.fn d)=Y) e;have K:=h.eval S.fair S.low;unfold EA at n;rw[lF]at n;rcases n with n|n;.rw[cV]at n;exact(adR S.lay S.free S.fair S.low K (λ_=>rfl) (λ_=>rfl) n.1).mono λM a b P D=>.gx (G n.2) D
 .obtain⟨B,Q2,u,T,O,guard⟩:=o;have val:∀{s E:cz az},B.all (I.D fr.fn)=Y->W ρ I (J q fs) q (UN I) w.heap.size s E->W ρ I (J q fs) q (CH ρ I q fr) w.heap.size (do bI<|gp<|<-s:cz Next) (do bI<|gp<|<-E:cz Next):=λp Q3=>by refine W.bind' Q3 ?_;rintro M x Q0 P z;exact .pure'<|.arg (r (Q:=λo=>o.dst.all (I.D fr.fn)=Y) p) z
  have g:∀{s E:cz az},(B.all λd=>!I.D fr.fn d)=Y->W ρ I (J q fs) q (RV ρ I) w.heap.size s E->W ρ I (J q fs) q (CH ρ I q fr) w.heap.size (do bI<|gp<|<-s:cz Next) (do bI<|gp<|<-E:cz Next):=λp Q3=>by refine W.bind' Q3 ?_;rintro M x Q0 P z;exact .pure'<|.gx (G p)<|.value z
  cases Q2<;>simp only[Kr,cV,oT]at n;case move x=>exact .pure'<|.arg (r (Q:=λo=>o.dst.all (I.D fr.fn)=Y) n.2)<|h.GL n.1
  case assign x=>exact .pure'<|.arg (r (Q:=λo=>o.dst.all (I.D fr.fn)=Y) n.2)<|h.GL n.1
  case indexAddr t x i=>have z:=h.GL n.1.1;show W ρ I (J q fs) q _ _ (do bI<|gp<|<-xZ t (fr.eval x)<|fr.eval i:cz Next) (do bI<|gp<|<-xZ t (fr'.eval x)<|fr'.eval i:cz Next);grind[ar9]
  case fieldAddr s x f=>have z:=h.GL n.1.1;show W ρ I (J q fs) q _ _ (do bI<|gp<|<-zl s (fr.eval x) f:cz Next) (do bI<|gp<|<-zl s (fr'.eval x) f:cz Next);grind[asa]
  case load t x=>have z:=h.GL n.1;show W ρ I (J q fs) q _ _ (do bI<|gp<|<-EL t<|fr.eval x:cz Next) (do bI<|gp<|<-EL t<|fr'.eval x:cz Next);grind[ar7]
  case call c=>
   obtain⟨F,j,C⟩:=c;obtain⟨p,y⟩:=n;simp only at y;split at y
   .rename_i e1;split at y
    .rename_i x e2;have z:=h.GL y;have Q1:j=#[x]:=by obtain⟨l⟩:=j;simp only at e2;grind
     subst Q1;show W ρ I (J q fs) q _ _ (do bI<|gp<|<-zk C u<|#[x].map fr.eval:cz Next) (do bI<|gp<|<-zk C u<|#[x].map fr'.eval:cz Next);grind[ar8]
    grind
   .rename_i _ f;simp only[cV]at y;show W ρ I (J q fs) q _ _ (iA f<|#[]++j.map fr.eval++#[])<|iA f<|#[]++j.map fr'.eval++#[];have h1:(#[]++j.map fr.eval++#[]:Array az)=j.map fr.eval:=by simp
    have h2:(#[]++j.map fr'.eval++#[]:Array az)=j.map fr'.eval:=by simp
    rw[h1,h2];exact asc S.same (G p) y.1<|sO.args h S.fair S.low y.2
   grind
end
end Go.Proofs.YtpdbmpbmepkikaaGreatDoor
