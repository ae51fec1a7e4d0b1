/- Laws. -/
import GoSem.Dispatch
import GoSem.Op.String
import Derived.Lib.Hide
import Derived.Conc.Listed
set_option maxRecDepth 100000
set_option maxHeartbeats 400000
set_option linter.all false
open Array renaming range->IF,replicate->uy
open Bool renaming true->Z,false->ai
open Decidable renaming decide->bP
open Go renaming runtimePanic->C0,method->CX,store->Fv,markStringish->Py,Goroutine->aX,Frame->aZ,undef->ak,World->ax,Value->az,Program->bZ,execOp->cS,stepG->cj,Sem->cz,Oper->dG,TypeId->dV,Func->dY,yielded->dZ,Addr->eF,Item->eY,FuncId->fC,binOp->gF,callFunc->iJ,Operand->ja,Event->jq,results->kD,zeroValue->kQ,MapEntry->mU,doReturn->oE,underlying->pB,getObj->rB,boundsPanic->uC,unsupported->vR
open Go.BoundsCode renaming index->A7
open Go.Builtin renaming zeroCells->A6,firstCells->Iw,unsafeAdd_->LA,ssaWrapNilChk_->PN,delete_->UQ,holdsCells->aE2,nextslicecap->aEX,append_->abY,min_->amm,max_->amn,copy_->amo,len_->zK
open Go.CallKind renaming normal->eo
open Go.Code renaming region->dS,seq->eG
open Go.Conv renaming stringToRunes->amv,runesToString->amw,bytesToString->amx,stringToBytes->amy
open Go.Deferred renaming ofValue->PG
open Go.Departure renaming mixedOrders->nM
open Go.Extern renaming findNext->abX
open Go.Fn renaming yield->C8,func->ei
open Go.Frame renaming eval->Pv,oper?->Pw,round->abW,enter->eP,pos->pq,finish->uB
open Go.FrameMode renaming returning->fI
open Go.GStep renaming go->bV,ended->fy,after->vT
open Go.GoStatus renaming running->dN
open Go.Instr renaming checkKey->C5,findNow->C7,sliceBound->CS,entry->CZ,sureAddr->FB,loadAt->FC,sameNow->FE,sameBits->FF,extract->ID,typeAssert->II,makeMap->Lt,findKey->Lv,index->PC,lookup->Px,endRound->UM,storeAt->UO,mapUpdate->UP,takeDeferred->US,arrayAt->aE0,findAsking->ab3,keyThatStays->abZ,makeSlice->amr,fill->ux,indexAt->yo,next->zJ,fieldAt->zL
open Go.IntKind renaming i64->aG
open Go.Item renaming inRangeFunc->FD,endRangeFunc->Lu,inRegion->aT,code->bF,inBlock->mD
open Go.Loc renaming mark->iA
open Go.LoopState renaming ready->FA
open Go.Mode renaming plain->lZ,atomic->qE
open Go.Next renaming value->gq,enter->jO
open Go.Obj renaming loop->A9,cells->aH,map->iY,deferred->uA,mapIter->vS
open Go.Op renaming eqGuardIn->IE,bytesLess->Ls,maxDepth->Pu,stringOp->Pz,assign->pA,equalIn->s8
open Go.Operand renaming tmp->cy,const->gO
open Go.Outcome renaming stuck->kE
open Go.Program renaming alikeButTags->aEY
open Go.Region renaming wanted->eW,schedule->mS
open Go.Result renaming ok->aW,halt->dM
open Go.Sem renaming runT->fu,bind->xB
open Go.Target renaming collected->Lq
open Go.TypeDesc renaming unsafePointer->UN
open Go.Unsupported renaming noEntry->yq
open Go.Value renaming cells->A8,int->Y,slice->aC,string->aE,pointer->aF,agg->bO,tuple->bQ,map->bW,bool->cx,func->dF,chan->dc,iface->iK,nilIface->nO
open Go.World renaming farLoad->abT,freeze->aml,setCell->jL,cell?->pz,frozen?->yu
open Go.stepG renaming oper->Fy,apply->xA,exec->xz
open List renaming range->mR
open Option renaming some->U,none->V
open Or renaming inr->aB,inl->ay
open Pure renaming pure->bI
namespace Go.Proofs.YtpdbmpbmepkikaaGreatDoor
def cG:=@Bool.and_eq_true
def eU:=@decide_eq_true_eq
def Es:=@Option.all_some
def ee:=@Option.map_some
def lE:=@Array.all_eq_true_iff_forall_mem
def Np:=@Array.map_congr_left
def aQ:=@Nat.le_refl
def bC:=@Nat.le_trans
def cB:=@Nat.lt_of_lt_of_le
def AH:=@Go.Sem.runT.eq_def
def Tg:=@Nat.le_of_succ_le
def ox:=@if_false
def zf:=@Array.getElem?_modify
def gL:=@if_true
def ze:=@Option.map_eq_some_iff
def aiu:=@Array.size_push
def cJ:=@if_pos
def Ko:=@Nat.le_succ
def Ce:=@Array.mem_append
def gW:=@Array.getElem?_eq_getElem
def fQ:=@List.mem_toArray
def di:=@List.mem_cons
def dJ:=@List.not_mem_nil
def dQ:=@or_false
def ow:=@Bool.false_eq_true
def vj:=@Array.size_setIfInBounds
def AB:=@Array.size_map
def tR:=@Array.mem_of_getElem?
def qV:=@Array.getElem?_map
def Y5:=@Array.mem_push
def ah7:=@Array.map_append
def YW:=@Array.mem_iff_getElem
def Nu:=@Array.getElem_mem
def YV:=@Array.ext_getElem?
def za:=@Array.toList_map
def gh:=@List.map_cons
def Ay:=@List.foldl_cons
def ah3:=@Array.toList_zipIdx
def Nt:=@Array.foldl_toList
def GO:=@List.mapM_cons
def GN:=@Array.mapM_eq_mapM_toList
def ah2:=@Option.isSome_map
def dX:=@Option.some.injEq
def Ns:=@beq_eq_false_iff_ne
def qs:=@List.map_nil
def Nr:=@Array.forIn_toList
def ah1:=@Std.Legacy.Range.forIn_eq_forIn_range'
def Kh:=@Option.map_none
def jT:=@Bool.or_eq_true
def Kg:=@Array.mem_map
def ah0:=@Array.mem_replicate
def aIv:=@Option.isNone_iff_eq_none
def wP:=@dif_pos
def qq:=@Bool.false_ne_true
def ahZ:=@Array.toList_zip
def y9:=@Option.bind_some
def iM:=@Array.getD_eq_getD_getElem?
def fW:=@Option.getD_some
def mu:=@List.mem_singleton
def Nq:=@Prod.mk.inj
def vh:=@List.mem_cons_of_mem
def iu:=@List.forall_mem_cons
def x3:=@Array.getElem?_eq_none
def SL:=@List.mapM_nil
def GM:=@dif_neg
section
instance:CoeOut ax Nat:=⟨λw=>w.heap.size⟩
instance:Coe Nat eF:=⟨λb=>⟨b,0,V⟩⟩
instance:Coe ByteArray az:=⟨aE⟩
instance:Coe Int az:=⟨Y aG⟩
instance:Coe Nat az:=⟨λn=>Y aG n⟩
instance:Coe Bool az:=⟨cx⟩
structure cH(A B:Prop):Prop where
 a:A
 b:B
structure gR(A B C:Prop):Prop where
 a:A
 b:B
 c:C
structure uJ(A B C D:Prop):Prop where
 a:A
 b:B
 c:C
 d:D
structure Dr(A B C D E:Prop):Prop where
 a:A
 b:B
 c:C
 d:D
 e:E
structure Bm(A B C D E F:Prop):Prop where
 a:A
 b:B
 c:C
 d:D
 e:E
 f:F
structure FU(A B C D E F G:Prop):Prop where
 a:A
 b:B
 c:C
 d:D
 e:E
 f:F
 g:G
structure FT(A B C D E F G H:Prop):Prop where
 a:A
 b:B
 c:C
 d:D
 e:E
 f:F
 g:G
 h:H
structure Hq9(A B C D E F G H I:Prop):Prop where
 a:A
 b:B
 c:C
 d:D
 e:E
 f:F
 g:G
 h:H
 i:I
structure an1(A B C D E F G H I J:Prop):Prop where
 a:A
 b:B
 c:C
 d:D
 e:E
 f:F
 g:G
 h:H
 i:I
 j:J
structure an0(A B C D E F G H I J K:Prop):Prop where
 a:A
 b:B
 c:C
 d:D
 e:E
 f:F
 g:G
 h:H
 i:I
 j:J
 k:K
structure aGQ(A B C D E F G H I J K L:Prop):Prop where
 a:A
 b:B
 c:C
 d:D
 e:E
 f:F
 g:G
 h:H
 i:I
 j:J
 k:K
 l:L
theorem ex{α}(e:α):∃x,x=e:=⟨_,rfl⟩
theorem kp{p:Prop}(h:p):p:=h
structure s where
 name:ByteArray
 field:ByteArray
 c:Int
 r:Int
 value:ByteArray deriving DecidableEq
def iN(n f:ByteArray):ByteArray:=n++⟨#[46]⟩++f++⟨#[0]⟩
def s.key(x:s):ByteArray:=iN x.name x.field
def Us(a b:ByteArray):Bool:=!(Ls a.toList b.toList||a.toList==b.toList)
def wN(c r c' r':Int):Bool:=bP (c'<c)||bP (c=c')&&bP (r'<r)
def yP(a b:s):Bool:=if a.c=b.c/\a.r=b.r then Us a.value b.value else wN a.c a.r b.c b.r
def fE:List s->s->List s|[],x=>[x]|y::l,x=>if y.key=x.key then(if yP x y then x::l else y::l)else y::fE l x
section
variable (ρ:Nat->Nat)
def dA(a:eF):eF:={a with block:=ρ a.block}
def BM:Fn->Fn|C8 l=>C8<|ρ l|f=>f
mutual
def F:az->az|cx b=>cx b|Y k n=>Y k n|.float k b=>.float k b|.complex k a b=>.complex k a b|aE s=>aE s|aF a=>aF<|a.map<|dA ρ|aC a n c=>aC (a.map<|dA ρ) n c|bW r=>bW<|r.map ρ|dc r=>dc<|r.map ρ|dF fn first cap=>dF (BM ρ fn) (oe first)<|oe cap|.nilFunc=>.nilFunc|iK t v=>iK t<|F v|nO=>nO|bO cs=>bO<|oe cs|bQ vs=>bQ (oe vs)def oe:Array az->Array az|⟨l⟩=>⟨qi l⟩def qi:List az->List az|[]=>[]|v::l=>F v::qi l
end
theorem avr(l):qi ρ l=l.map (F ρ):=by induction l with|nil=>grind[qi]|cons v l a=>grind[qi]
theorem yL(l):oe ρ l=l.map (F ρ):=by cases l with|mk l=>grind[oe,avr]
end
mutual
def n:az->Bool|dF _ _ _=>ai|iK _ v=>n v|bO cs=>JP cs|bQ vs=>JP vs|aF a=>a.isNone|aC a _ _=>a.isNone|bW r=>r.isNone|dc r=>r.isNone|cx _|Y _ _|aE _|.nilFunc|nO=>Z|.float _ _|.complex _ _ _=>ai
def JP:Array az->Bool|⟨l⟩=>Ed l
def Ed:List az->Bool|[]=>Z|v::l=>n v&&Ed l
end
structure Dv where
 g:Nat
 lo:Nat
 c:Array az
 e:dV
 f:Nat×Nat
 c':Array az
 e':dV
 f':Nat×Nat
 rel:∀i x,lo<=i->c[i]?=U x->n x=Z/\c'[i]?=U x
structure H where
 T:fC->Bool
 F:Nat->Bool
 gx:Code->Bool
 cut:fC->Nat->Bool
 D:fC->Nat->Bool:=λ_ _=>ai
 DF:fC->Bool:=λ_=>ai
 arg:Option Dv:=V
def H.blk(I:H)(N b:Nat):Bool:=bP (b<N)&&I.F b
theorem H.ey{I:H}{N M b}(h:I.blk N b=Z)(a:N<=M):I.blk M b=Z:=by simp only[H.blk,cG,eU]at h⊢;grind
section
variable (I:H) (N:Nat)
def ve:Fn->Bool|ei f=>I.T f|C8 l=>I.blk N l|_=>ai
mutual
def S:az->Bool|dF fn first cap=>ve I N fn&&qj first&&qj cap|iK _ v=>S v|bO cs=>qj cs|bQ vs=>qj vs|aF a=>a.all λa=>I.blk N a.block|aC a _ _=>a.all λa=>I.blk N a.block|bW r=>r.all λr=>I.blk N r|dc r=>r.isNone|cx _|Y _ _|aE _|.nilFunc|nO=>Z|.float _ _|.complex _ _ _=>ai
def qj:Array az->Bool|⟨l⟩=>oR l
def oR:List az->Bool|[]=>Z|v::l=>S v&&oR l
end
theorem awI(l):oR I N l=l.all (S I N):=by induction l with|nil=>grind[oR]|cons v l a=>grind[oR]
theorem Gw(l):qj I N l=l.all (S I N):=by cases l with|mk l=>grind[qj,awI]
end
section
variable {I:H} {N M:Nat}
theorem awL{f}(h:ve I N f=Z)(a:N<=M):ve I M f=Z:=by cases f<;>first|exact h|exact H.ey h a
mutual
theorem ff(hN:N<=M):∀{v:az},S I N v=Z->S I M v=Z|dF fn first cap,h=>by simp only[S,cG]at h⊢;exact⟨⟨awL h.1.1 hN,Sj hN h.1.2⟩,Sj hN h.2⟩|iK t v,h=>by simp only[S]at h⊢;exact ff hN h|bO cs,h=>by simp only[S]at h⊢;exact Sj hN h|bQ cs,h=>by simp only[S]at h⊢;exact Sj hN h|aF V,h=>by simp[S]|aF<|U a,h=>by simp only[S,Es]at h⊢;exact H.ey h hN|aC V _ _,h=>by simp[S]|aC (U a) _ _,h=>by simp only[S,Es]at h⊢;exact H.ey h hN|bW V,h=>by simp[S]|bW<|U a,h=>by simp only[S,Es]at h⊢;exact H.ey h hN|dc r,h=>by simp only[S]at h⊢;exact h|cx _,_=>by simp[S]|Y _ _,_=>by simp[S]|.float _ _,h=>by simp[S]at h|.complex _ _ _,h=>by simp[S]at h|aE _,_=>by simp[S]|.nilFunc,_=>by simp[S]|nO,_=>by simp[S]theorem Sj(hN:N<=M):∀{v:Array az},qj I N v=Z->qj I M v=Z|⟨l⟩,h=>by simp only[qj]at h⊢;exact agW hN h
theorem agW(hN:N<=M):∀{v:List az},oR I N v=Z->oR I M v=Z|[],_=>by simp[oR]|v::l,h=>by simp only[oR,cG]at h⊢;exact⟨ff hN h.1,agW hN h.2⟩end
end
section
variable {I:H} {N:Nat} {ρ σ:Nat->Nat} (sx:∀b,b<N->ρ b=σ b)
include sx
theorem XK{a}(h:I.blk N a.block=Z):dA ρ a=dA σ a:=by simp only[H.blk,cG,eU]at h;grind[dA]
theorem avu{f}(h:ve I N f=Z):BM ρ f=BM σ f:=by
 cases f<;>try rfl
 simp only[ve,H.blk,cG,eU]at h;grind[BM]
mutual
theorem Ea:∀{v:az},S I N v=Z->F ρ v=F σ v|dF fn first cap,h=>by simp only[S,cG]at h;simp only[F];rw[avu sx h.1.1,RM h.1.2,RM h.2]|iK t v,h=>by simp only[S]at h;simp only[F];rw[Ea h]|bO cs,h=>by simp only[S]at h;simp only[F];rw[RM h]|bQ cs,h=>by simp only[S]at h;simp only[F];rw[RM h]|aF V,h=>by simp[F]|aF<|U a,h=>by simp only[S,Es]at h;simp only[F,ee];rw[XK sx h]|aC V _ _,h=>by simp[F]|aC (U a) _ _,h=>by simp only[S,Es]at h;simp only[F,ee];rw[XK sx h]|bW V,h=>by simp[F]|bW<|U r,h=>by simp only[S,Es,H.blk,cG,eU]at h;simp only[F,ee];rw[sx _ h.1]|dc V,h=>by simp[F]|dc<|U r,h=>by simp[S]at h|cx _,_=>by simp[F]|Y _ _,_=>by simp[F]|.float _ _,_=>by simp[F]|.complex _ _ _,_=>by simp[F]|aE _,_=>by simp[F]|.nilFunc,_=>by simp[F]|nO,_=>by simp[F]theorem RM:∀{v:Array az},qj I N v=Z->oe ρ v=oe σ v|⟨l⟩,h=>by simp only[qj]at h;simp only[oe];rw[afX h]theorem afX:∀{v:List az},oR I N v=Z->qi ρ v=qi σ v|[],_=>by simp[qi]|v::l,h=>by simp only[oR,cG]at h;simp only[qi];rw[Ea h.1,afX h.2]end
end
section
variable (ρ:Nat->Nat)
def lg(e:mU):mU:={key:=F ρ e.key,val:=F ρ e.val,born:=e.born}
def Eb(l:Loop):Loop:={l with tmps:=l.tmps.map<|F ρ,defers:=ρ l.defers}
def fa:Obj->Obj|aH c e f=>aH (c.map<|F ρ) e f|iY es c=>iY (es.map<|lg ρ) c|vS m s E st=>vS (m.map ρ) s E st|A9 l=>A9<|Eb ρ l|.number a l=>.number (dA ρ a) l|o=>o
end
section
variable (I:H) (N:Nat)
def qU(e:mU):Bool:=S I N e.key&&S I N e.val
def oq(l:Loop):Bool:=l.tmps.all (S I N)&&I.gx l.assign&&I.gx l.body&&(l.pending.all λc=>I.gx c)&&I.T l.fn&&I.blk N l.defers
def er:Obj->Bool|aH c _ _=>c.all<|S I N|iY es _=>es.all<|qU I N|.stringIter _ _=>Z|vS m _ _ _=>m.all λm=>I.blk N m|A9 l=>oq I N l|uA ds=>ds.all λl=>l.isEmpty|.number a _=>I.blk N a.block|_=>ai
end
section
variable {I:H} {N M:Nat}
theorem agX(c:N<=M){o}(h:er I N o=Z):er I M o=Z:=by
 cases o<;>simp only[er,lE]at h⊢;case cells=>grind[ff]
 case map=>intro x b;have:=h x b;simp only[qU]at this⊢;grind[ff]
 case mapIter m _ _ _=>cases m with|none=>simp|some m=>grind[H.ey]
 case loop l=>simp only[oq,cG]at h⊢;grind[ff,H.ey]
 case number=>grind[H.ey]
 all_goals grind
theorem XJ{ρ σ}(c:∀b,b<N->ρ b=σ b){o}(h:er I N o=Z):fa ρ o=fa σ o:=by
 cases o<;>simp only[er,lE]at h<;>simp only[fa];case cells=>grind[Array.map_congr_left,Ea]
 case map=>rw[Np λx d=>?_];have:=h x d;simp only[qU]at this;simp only[lg];grind[Ea]
 case mapIter m _ _ _=>cases m with|none=>simp|some m=>simp only[H.blk,cG]at h;grind
 case loop l=>simp only[oq,cG,lE,H.blk]at h;simp only[Eb];grind[Array.map_congr_left,Ea]
 grind[XK]
end
def YB:Mark->Bool|.noRoom|.extern _=>Z|_=>ai
def soft:Halt->Bool|.unsupported<|.initOrder _=>ai|.unsupported _=>Z|.stuck _=>Z|.panic _=>Z|_=>ai
def js(w w':ax):Prop:=w.heap.size<=w'.heap.size/\∀b,b<w.heap.size->w'.heap[b]?=w.heap[b]?
theorem js.refl(w):js w w:=⟨aQ _,λ_ _=>rfl⟩
theorem js.trans{u v w}(h:js u v)(k:js v w):js u w:=⟨bC h.1 k.1,λb c=>(k.2 b<|cB c h.1).trans<|h.2 b c⟩
theorem js.push(w)(o):js w {w with heap:=w.heap.push o}:=⟨by simp,λb a=>by grind⟩
def u{α:Type}(p:bZ)(s:cz α):Prop:=∀(w:ax)(es:Array jq),∃h w',(s.runT p w es).1=dM h w'/\soft h=Z/\js w w'
inductive W{α β:Type}(ρ:Nat->Nat)(I:H)(p q:bZ)(R:Nat->α->β->Prop):Nat->cz α->cz β->Prop|pure{N a b}(h:R N a b):W ρ I p q R N (.pure a)<|.pure b|load{N a k k'}(ha:I.blk N a.block=Z)(h:∀v,S I N v=Z->W ρ I p q R N (k v) (k'<|F ρ v)):W ρ I p q R N (.load lZ a k)<|.load lZ (dA ρ a) k'|J8{N a k k'}{A:Dv}(hA:I.arg=U A)(hg:a.block=A.g)(TO:A.lo<=a.off)(h:∀v,n v=Z->W ρ I p q R N (k v) (k' v)):W ρ I p q R N (.load lZ a k)<|.load lZ a k'|store{N a v k k'}(ha:I.blk N a.block=Z)(hv:S I N v=Z)(h:W ρ I p q R N k k'):W ρ I p q R N (.store lZ a v k)<|.store lZ (dA ρ a) (F ρ v) k'|new{N o k k'}(ho:er I N o=Z)(h:W ρ I p q R (N+1) (k N)<|k'<|ρ N):W ρ I p q R N (.new o k)<|.new (fa ρ o) k'|shape{N r k k'}(hr:I.blk N r=Z)(h:∀s,W ρ I p q R N (k s)<|k' s):W ρ I p q R N (.shape r k)<|.shape (ρ r) k'|freeze{N a d k k'}(ha:I.blk N a.block=Z)(h:W ρ I p q R N k k'):W ρ I p q R N (.freeze a d k)<|.freeze (dA ρ a) d k'|frozen{N a k k'}(ha:I.blk N a.block=Z)(h:∀b,W ρ I p q R N (k b)<|k' b):W ρ I p q R N (.frozen a k)<|.frozen (dA ρ a) k'|getObj{N r k k'}(hr:I.blk N r=Z)(h:∀o,er I N o=Z->W ρ I p q R N (k o) (k'<|fa ρ o)):W ρ I p q R N (.getObj r k)<|.getObj (ρ r) k'|setObj{N r o k k'}(hr:I.blk N r=Z)(ho:er I N o=Z)(hc:∀c e f,o≠aH c e f)(h:W ρ I p q R N k k'):W ρ I p q R N (.setObj r o k)<|.setObj (ρ r) (fa ρ o) k'|choose{N x k k'}(h:∀d,W ρ I p q R N (k d)<|k' d):W ρ I p q R N (.choose x k)<|.choose x k'|program{N k k'}(h:W ρ I p q R N (k p)<|k' q):W ρ I p q R N (.program k)<|.program k'|mark{N m k k'}(hm:YB m=Z)(h:W ρ I p q R N k k'):W ρ I p q R N (.mark m k)<|.mark m k'|dead{N s s'}(hd:u p s):W ρ I p q R N s s'
variable {ρ:Nat->Nat} {I:H} {p q:bZ}
theorem u.halt{b}(h)(hs:soft h=Z:=by rfl):u p (.halt h:cz b):=λw c=>⟨h,w,by rw[fu],hs,js.refl w⟩
theorem u.program{c}{k:bZ->cz c}(h:u p<|k p):u p<|.program k:=λw b=>h w b
theorem afx{t g:Type}(s:cz t)(k:t→cz g):∀(w:ax)(es:Array jq),(s.bind k).runT p w es=match s.runT p w es with|(aW a f,e)=>(k a).runT p f e|(dM h f,e)=>(dM h f,e):=by induction s with
  |pure a=>intro w es;simp[xB,fu]|load m a k d=>intro w es;simp only[xB,fu];grind|store m a v k d=>intro w es;cases v<;>simp only[xB,fu];all_goals first
      |rfl
      | (split;.grind
         grind)
  |new o k d=>intro w es;simp only[xB,fu];grind|shape r k d=>intro w es;simp only[xB,fu];grind|freeze a n k d=>intro w es;simp only[xB,fu];grind|frozen a k d=>intro w es;simp only[xB,fu];grind|getObj r k d=>
    intro w es;simp only[xB];rw[AH,AH p<|.getObj r k];simp only;split;.rfl
    .grind
    grind|setObj r o k d=>
    intro w es;simp only[xB];rw[AH,AH p<|.setObj r o k];simp only;split;.rfl
    .exact d _ _
    grind|choose x k d=>
    intro w es;simp only[xB,fu];split;.exact d _ _ _
    .exact d _ _ _|sys c k d=>intro w es;simp only[xB,fu];exact d _ _ _|program k d=>intro w es;simp only[xB,fu];exact d _ _ _|mark m k d=>intro w es;simp only[xB,fu];exact d _ _|halt h=>intro w es;simp only[xB,fu]
theorem u.bind{d c}{s}(h:u p s)(k:d->cz c):u p<|s.bind k:=λw b=>by obtain⟨x,i,e,f,g⟩:=h w b;grind[afx]
class inductive Calm{α:Type}:cz α->Prop|pure(a:α):Calm<|.pure a|new{o:Obj}{k:Nat->cz α}(h:∀n,Calm<|k n):Calm<|.new o k|shape{r:Nat}{k:Option (dV×Nat)->cz α}(h:∀n,Calm<|k n):Calm<|.shape r k|frozen{a:eF}{k:Bool->cz α}(h:∀n,Calm<|k n):Calm<|.frozen a k|choose{x:Question}{k:Nat->cz α}(h:∀n,Calm<|k n):Calm<|.choose x k|sys{c:Sys}{k:SysRet->cz α}(h:∀n,Calm<|k n):Calm<|.sys c k|program{k:bZ->cz α}(h:∀n,Calm<|k n):Calm<|.program k|mark{m:Mark}{k:cz α}(h:Calm k):Calm<|.mark m k|halt{h:Halt}(hs:soft h=Z):Calm<|.halt h
theorem Calm.bind{g f}{s}{k:g->cz f}(h:Calm s)(e:∀a,Calm<|k a):Calm<|s.bind k:=by induction h with|pure a=>exact e a|new _ c=>exact .new c|shape _ c=>exact .shape c|frozen _ c=>exact .frozen c|choose _ c=>exact .choose c|sys _ c=>exact .sys c|program _ c=>exact .program c|mark _ c=>exact .mark c|halt d=>exact .halt d
theorem aFX{e}(k:Ask e):∀w:ax,(w.ask k).2.heap=w.heap:=by induction k with|done a=>intro w;rfl|ask d c k f=>intro w;rw[World.ask];grind
theorem arZ(w)(c):js w (w.sys c).2:=by
 have h:=aFX (Kernel.perform c w.os) w;unfold World.sys;split;.grind[js.refl]
 .exact⟨by grind,λb _=>by grind⟩
theorem Calm.Il{g}{s:cz g}(h:Calm s):∀(w)(es),match(s.runT p w es).1 with|aW _ c=>js w c|dM x c=>soft x=Z/\js w c:=by
 have e:∀{w u}{r:Result g},js w u->(match r with|aW _ c=>js u c|dM x c=>soft x=Z/\js u c)->match r with|aW _ c=>js w c|dM x c=>soft x=Z/\js w c:=by intro w u r f h;cases r with|ok a c=>exact f.trans h|halt x c=>exact⟨h.1,f.trans h.2⟩
 induction h with|pure a=>intro w es;rw[fu];grind[js.refl]|new _ d=>intro w es;rw[fu];grind[js.push]|shape _ d=>intro w es;rw[fu];grind|frozen _ d=>intro w es;rw[fu];grind|choose _ d=>
  rename_i x k _;intro w es;rw[fu];by_cases i:x.forced=Z;.grind
  .rw[if_neg i];exact d _ {w with drawn:=w.drawn+1} _|sys _ d=>intro w es;rw[fu];grind[arZ]|program _ d=>intro w es;rw[fu];grind|mark _ d=>intro w es;rw[fu];grind|halt j=>intro w es;rw[fu];grind[js.refl]
theorem IJ:Calm program:=.program λ_=>.pure _
theorem aFE(x):Calm<|choose x:=.choose λ_=>.pure _
theorem aFC(m):Calm<|mark m:=.mark<|.pure _
theorem amV(t):Calm<|typeInfo t:=by
 refine .bind IJ λp=>?_;split;.exact .pure _
 .exact .halt rfl
theorem amT(t):Calm<|pB t:=by
 refine .bind IJ λp=>?_;split;.exact .pure _
 .exact .halt rfl
theorem amU(t):Calm<|typeStr t:=by
 refine .bind (amV t) λi=>?_;dsimp only;split;.exact .halt rfl
 .exact .pure _
theorem aFD(t):Calm<|elemOf t:=by
 refine .bind (amT t) λd=>?_;split;.exact .pure _
 .exact .halt rfl
theorem aFA(t)(cs):Calm<|newRow t cs:=.new λ_=>.pure _
theorem aFz(t)(v):Calm<|newVar t v:=aFA t v.cells
theorem aFw(b)(s):Calm (if b=Z then Functor.map (.==1) (choose<|.extern "runtime.boundsError.signed" 2)else bI s):=by
 split;.exact .choose λ_=>.pure _
 .exact .pure _
theorem amW(a)(n):Calm<|aE2 a n:=by refine .shape λs=>?_;cases s<;>exact .pure _
theorem aFB(a n c)(o)(x):Calm<|Builtin.mayShare a n c o x:=by
 have e:∀t,Calm (do
   if !t then return Z
   match x with|aC (U b) _ _=>do bI (!(<-aE2 b<|c*a)||o.any (·.block==b.block))|_=>bI ai):=λt=>by cases t with|false=>exact .pure _|true=>
   show Calm<|match x with|aC (U b) _ _=>_|_=>bI ai;split;·exact .bind (amW _ _) λ_=>.pure _
   ·exact .pure _
 cases o with|none=>exact e Z|some b=>exact Calm.bind (amW _ _) λh=>Calm.bind (s:=frozen _) (.frozen λ_=>.pure _) λf=>e _
theorem aFx:Calm Instr.panicnil:=by
 refine Calm.bind (s:=sys .env) (.sys λr=>.pure _) λr=>?_;cases r<;>first|exact .halt rfl|skip
 exact Calm.bind IJ λ_=>.pure _
attribute [instance] IJ aFE aFC amV amT amU aFD aFz aFw aFB aFx Calm.pure
instance{α:Type}(a:α):Calm<|bI a:=.pure a
instance{α β:Type}{f:α->β}{s:cz α}[h:Calm s]:Calm<|Functor.map f s:=.bind h λ_=>.pure _
instance{α:Type}{x:Question}{k:Nat->cz α}[h:∀n,Calm<|k n]:Calm<|.choose x k:=.choose h
theorem u.then{l i}(s){k:l->cz i}(h:∀a,u p<|k a)[j:Calm s]:u p<|s.bind k:=λw f=>by rw[afx];have o:=j.Il (p:=p) w f;cases m:s.runT p w f with|mk r c=>cases r with|ok a d=>obtain⟨x,t,e,n,g⟩:=h a d c;grind[js.trans]|halt x d=>grind
theorem W.bind{C z t r}{R:Nat->C->z->Prop}{Q:Nat->t->r->Prop}{N}{s}{m}{k}{k'}(h:W ρ I p q R N s m)(e:∀M a b,N<=M->R M a b->W ρ I p q Q M (k a) (k' b)):W ρ I p q Q N (s.bind k)<|m.bind k':=by induction h with|pure h=>exact e _ _ _ (aQ _) h|load f _ d=>exact .load f λv g=>d v g e|J8 A B l _ d=>exact .J8 A B l λv g=>d v g e|store f g _ d=>exact .store f g<|d e|new i _ d=>exact .new i<|d λM a b y=>e M a b<|Tg y|shape j _ d=>exact .shape j λs=>d s e|freeze f _ d=>exact .freeze f<|d e|frozen f _ d=>exact .frozen f λb=>d b e|getObj j _ d=>exact .getObj j λo i=>d o i e|setObj j i u _ d=>exact .setObj j i u<|d e|choose _ d=>exact .choose λn=>d n e|program _ d=>exact .program<|d e|mark x _ d=>exact .mark x<|d e|dead w=>exact .dead<|w.bind _
theorem W.bind'{j i g e}{R:Nat->j->i->Prop}{Q:Nat->g->e->Prop}{N}{s}{d}{k}{k'}(h:W ρ I p q R N s d)(f:∀M a b,N<=M->R M a b->W ρ I p q Q M (k a) (k' b)):W ρ I p q Q N (s>>=k)<|d>>=k':=h.bind f
theorem W.pure'{e d}{R:Nat->e->d->Prop}{N}{a}{b}(h:R N a b):W ρ I p q R N (bI a)<|bI b:=.pure h
theorem W.mono{z r}{R Q:Nat->z->r->Prop}{N}{s}{l}(h:W ρ I p q R N s l)(e:∀M a b,N<=M->R M a b->Q M a b):W ρ I p q Q N s l:=by induction h with|pure h=>exact .pure<|e _ _ _ (aQ _) h|load f _ d=>exact .load f λv g=>d v g e|J8 t x k _ d=>exact .J8 t x k λv g=>d v g e|store f g _ d=>exact .store f g<|d e|new i _ d=>exact .new i<|d λM a b m=>e M a b<|Tg m|shape j _ d=>exact .shape j λs=>d s e|freeze f _ d=>exact .freeze f<|d e|frozen f _ d=>exact .frozen f λb=>d b e|getObj j _ d=>exact .getObj j λo i=>d o i e|setObj j i u _ d=>exact .setObj j i u<|d e|choose _ d=>exact .choose λn=>d n e|program _ d=>exact .program<|d e|mark y _ d=>exact .mark y<|d e|dead w=>exact .dead w
structure dO(ρ:Nat->Nat)(I:H)(L:Option Nat)(w v:ax):Prop where
 os:v.os=w.os
 tape:∀i,(∀D,L=U D->w.drawn+i<D)->v.tape (v.drawn+i)=w.tape (w.drawn+i)inj:∀a b,ρ a=ρ b->a=b
 blk:∀b o,w.heap[b]?=U o->I.F b=Z->er I w.heap.size o=Z/\v.heap[ρ b]?=U (fa ρ o)kB:∀b,w.heap.size<=b->I.F b=Z
 arg:∀A,I.arg=U A->I.F A.g=ai/\ρ A.g=A.g/\w.heap[A.g]?=U (aH A.c A.e A.f)/\v.heap[A.g]?=U (aH A.c' A.e' A.f')
structure fD(ρ:Nat->Nat)(I:H)(w v w' v':ax):Prop where
 tape:v'.tape=v.tape
 os:v'.os=v.os
 oQ:w.heap.size<=w'.heap.size
 size:v'.heap.size=v.heap.size+(w'.heap.size-w.heap.size)out:v'.output=v.output
 sV:∀c,c<v.heap.size->(∀b,b<w.heap.size->I.F b=Z->ρ b≠c)->v'.heap[c]?=v.heap[c]?
 Fo:w.drawn<=w'.drawn
 drawn:v'.drawn=v.drawn+(w'.drawn-w.drawn)ad8:w'.tape=w.tape
 JS:w'.output=w.output
 Pf:∀b,b<w.heap.size->I.F b=ai->w'.heap[b]?=w.heap[b]?
variable {ρ:Nat->Nat} {I:H} {L:Option Nat} {p q:bZ}
theorem fD.refl(w v):fD ρ I w v w v:=⟨rfl,rfl,aQ _,by omega,rfl,λ_ _ _=>rfl,aQ _,by omega,rfl,rfl,λ_ _ _=>rfl⟩
theorem fD.trans{w v w1 g j l}(h:fD ρ I w v w1 g)(k:fD ρ I w1 g j l)(d:∀i,ρ (w.heap.size+i)=v.heap.size+i):fD ρ I w v j l:=⟨k.tape.trans h.tape,k.os.trans h.os,bC h.oQ k.oQ,by have:=h.size;have:=k.size;have:=h.oQ;have:=k.oQ;omega,k.out.trans h.out,λc n o=>(k.sV c (by have:=h.size;omega) λb e s=>by
   rcases Nat.lt_or_ge b w.heap.size with m|r;.grind
   .have:=d<|b-w.heap.size;grind).trans<|h.sV c n o,bC h.Fo k.Fo,by have:=h.drawn;have:=k.drawn;have:=h.Fo;have:=k.Fo;omega,k.ad8.trans h.ad8,k.JS.trans h.JS,λb e f=>(k.Pf b (cB e h.oQ) f).trans<|h.Pf b e f⟩
def yB(ρ:Nat->Nat)(I:H)(n:Nat)(e:jq):Prop:=(∃b,b<n/\I.F b=Z/\((∃a:eF,a.block=b/\e.loc=.cell (dA ρ a))\/e.loc=.obj (ρ b))/\e.sync=ai)\/(∃m,YB m=Z/\e=⟨iA m,ai,Z⟩)\/∃A a,I.arg=U A/\a.block=A.g/\e=⟨.cell a,ai,ai⟩
theorem yB.more{n n'}{e}(h:yB ρ I n e)(c:n<=n'):yB ρ I n' e:=by
 rcases h with⟨b,a,h⟩|h;.exact ay ⟨b,by omega,h⟩
 .exact aB h
theorem H.ji{N b}:I.blk N b=Z↔b<N/\I.F b=Z:=by simp[H.blk]
theorem dO.cell{w v}(g:dO ρ I L w v){a}{x}(j:I.blk w.heap.size a.block=Z)(h:w.cell? a=U x):S I w.heap.size x=Z/\v.cell? (dA ρ a)=U (F ρ x):=by
 unfold pz at h;split at h
 .rename_i c e f k;obtain⟨d,i⟩:=g.blk _ _ k (H.ji.1 j).2;split at h;.grind
  .refine⟨?_,?_⟩;.simp only[er]at d;grind
   .show(match v.heap[ρ a.block]? with|some<|aH c _ _=>if a.spot.isSome=Z then V else c[a.off]?|_=>V)=_;rw[i];simp only[fa,ox];grind
 grind
theorem dO.aw8{w v}(f:dO ρ I L w v){a}(g:I.blk w.heap.size a.block=Z)(q)(d):∀r,w.farLoad q a d≠.ok r:=by
 intro r e;unfold abT at e;split at e;.rename_i b u h;have:=(f.blk _ _ h (H.ji.1 g).2).1;simp[er]at this
 grind
theorem dO.aw7{w v}(f:dO ρ I L w v){a}(g:I.blk w.heap.size a.block=Z)(q)(x)(d):∀r,w.farStore q a x d≠.ok r:=by
 intro r e;unfold World.farStore at e;split at e;.rename_i b u h;have:=(f.blk _ _ h (H.ji.1 g).2).1;simp[er]at this
 grind
theorem dO.aeB{w v}(d:dO ρ I L w v){a}(e:I.blk w.heap.size a.block=Z)(c):soft (w.noCell a c)=Z:=by
 unfold World.noCell;split;.rename_i f;have:=(d.blk _ _ f (H.ji.1 e).2).1;simp[er]at this
 .rfl
 .rfl
theorem dO.asF{w v}(c:dO ρ I L w v){a}(d:I.blk w.heap.size a.block=Z)(q)(b){e}(h:w.farLoad q a b=.error e):soft e=Z:=by
 unfold abT at h;split at h
 .split at h;.grind
  .cases h;rfl
 .cases h;exact c.aeB d _
theorem dO.asE{w v}(c:dO ρ I L w v){a}(d:I.blk w.heap.size a.block=Z)(q)(x)(b){e}(h:w.farStore q a x b=.error e):soft e=Z:=by
 unfold World.farStore at h;split at h
 .split at h;.grind
  .cases h;rfl
 .cases h;exact c.aeB d _
theorem size_setCell(w:ax)(a)(x):(w.setCell a x).heap.size=w.heap.size:=by simp[jL]
theorem WN(w:ax)(a)(n):(w.freeze a n).heap.size=w.heap.size:=by unfold aml;grind
theorem dO.modify{w v}(c:dO ρ I L w v)(r)(s:I.F r=Z)(f g)(t:∀o,er I w.heap.size o=Z->er I w.heap.size (f o)=Z∧g (fa ρ o)=fa ρ (f o)):dO ρ I L {w with heap:=w.heap.modify r f} {v with heap:=v.heap.modify (ρ r) g}:=by
 refine⟨c.os,c.tape,c.inj,λb o h i=>?_,λb h=>c.kB b<|by grind,λA k=>?_⟩;rotate_left;·obtain⟨x,l,y,z⟩:=c.arg A k;have B:ρ r≠A.g:=λe=>λe=>by grind (c.inj _ _<|e.trans l.symm);grind
 simp only[zf,Array.size_modify]at h⊢;by_cases d:r=b;·subst d;simp only[gL]at h⊢;obtain⟨m,j,rfl⟩:=ze.1 h;obtain⟨n,u⟩:=c.blk _ _ j i;grind
 ·rw[if_neg d]at h;rw[if_neg λe=>d<|c.inj _ _ e];exact c.blk _ _ h i
theorem fD.modify(w v)(r)(f g)(d:I.blk w.heap.size r=Z):fD ρ I w v {w with heap:=w.heap.modify r f} {v with heap:=v.heap.modify (ρ r) g}:=⟨rfl,rfl,by simp,by simp,rfl,λc h e=>by simp only[zf];rw[if_neg<|e r (H.ji.1 d).1 (H.ji.1 d).2],aQ _,by simp,rfl,rfl,λb j i=>by grind[H.ji]⟩
theorem dO.push{w v}(c:dO ρ I L w v)(o)(i:er I w.heap.size o=Z)(g:ρ w.heap.size=v.heap.size):dO ρ I L {w with heap:=w.heap.push o} {v with heap:=v.heap.push<|fa ρ o}:=by
 refine⟨c.os,c.tape,c.inj,λb m d f=>?_,λb d=>c.kB b<|by grind,λA j=>?_⟩;rotate_left;·obtain⟨n,k,r,s⟩:=c.arg A j;grind
 simp only[Array.getElem?_push,aiu]at d⊢;by_cases e:b=w.heap.size;·subst e;rw[cJ rfl]at d;cases d;exact⟨agX (Ko _) i,by grind⟩
 ·rw[if_neg e]at d;obtain⟨h,l⟩:=c.blk _ _ d f;refine⟨agX (Ko _) h,?_⟩;grind
theorem fD.push(w v)(o):fD ρ I w v {w with heap:=w.heap.push o} {v with heap:=v.heap.push<|fa ρ o}:=⟨rfl,rfl,by simp,by simp,rfl,λc d _=>by grind,aQ _,by simp,rfl,rfl,λb e _=>by grind⟩
structure Whole(I:H)(w:ax):Prop where
 blk:∀b o,w.heap[b]?=U o->I.F b=Z->er I w.heap.size o=Z
 kB:∀b,w.heap.size<=b->I.F b=Z
theorem dO.whole{w v}(h:dO ρ I L w v):Whole I w:=⟨λb o d c=>(h.blk b o d c).1,h.kB⟩
def Alike{α β:Type}(ρ:Nat->Nat)(I:H)(L:Option Nat)(R:Nat->α->β->Prop)(w v:ax)(es':Array jq)(r:Result α)(r':Result β×Array jq):Prop:=match r with|aW a w'=>w.drawn<=w'.drawn/\((∀D,L=U D->w'.drawn<=D)->∃b v' E,r'=(aW b v',es'++E)/\R w'.heap.size a b/\dO ρ I L w' v'/\fD ρ I w v w' v'/\∀e∈E,yB ρ I w'.heap.size e)|dM h w'=>soft h=Z/\∃w0,w.heap.size<=w0.heap.size/\Whole I w0/\js w0 w'
theorem Alike.step{E o}{R:Nat->E->o->Prop}{w v w1 l}{es' e0}{r}{k}(h:Alike ρ I L R w1 l (es'++e0) r k)(g:fD ρ I w v w1 l)(f:∀i,ρ (w.heap.size+i)=v.heap.size+i)(x:∀e∈e0,yB ρ I w1.heap.size e):Alike ρ I L R w v es' r k:=by match r,h with
 |aW a G,⟨A,h⟩=>
  refine⟨bC g.Fo A,λB=>?_⟩;obtain⟨b,s,n,F,C,t,j,H⟩:=h B;refine⟨b,s,e0++n,by grind,C,t,g.trans j f,λe d=>?_⟩;rcases Ce.1 d with d|d;.exact(x e d).more j.oQ
  grind|dM _ _,⟨y,D,u,m,z⟩=>exact⟨y,D,bC g.oQ u,m,z⟩
theorem Alike.halt{e d}{R:Nat->e->d->Prop}{w v}{es'}{h}{c}(b:Whole I w)(hs:soft h=Z:=by rfl):Alike ρ I L R w v es' (dM h w) c:=⟨hs,w,aQ _,b,js.refl w⟩
theorem Alike.now{g f}{R:Nat->g->f->Prop}{w v w1 d}{es'}{r}{c}(h:Alike ρ I L R w1 d es' r c)(e:fD ρ I w v w1 d)(b:∀i,ρ (w.heap.size+i)=v.heap.size+i):Alike ρ I L R w v es' r c:=by have:=Alike.step (e0:=#[]) (es':=es') (by simpa using h) e b (by simp);grind
theorem awJ{N}(a:eF)(x)(f:S I N x=Z)(o)(e:er I N o=Z):er I N ((λ|aH c d frozen=>aH (if a.spot.isSome then c else c.setIfInBounds a.off x) d frozen|o=>o) o)=Z:=by simp only[er]at e⊢;grind
theorem awK{N}(a:eF)(n)(o)(g:er I N o=Z):er I N ((λ|aH c d (e,f)=>aH c d<|if e==f then(a.off,a.off+n)else(min e a.off,max f<|a.off+n)|o=>o) o)=Z:=by cases o<;>exact g
theorem Ry(h:Array Obj)(r)(o):h.setIfInBounds r o=h.modify r λ_=>o:=by grind
theorem afu{e}(m)(a)(x)(k:cz e)(w)(es)(f:∀c,x≠bO c)(g:∀c,x≠bQ c):fu p (.store m a x k) w es=match w.cell? a with|some _=>if w.frozen? a then(dM (.unsupported<|.unsafePointer "a write to bytes that a string shares") w,es)else k.runT p (w.setCell a x)<|es.push ⟨.cell a,Z,m==qE⟩|none=>match w.farStore p a x (m==qE)with|.ok (w,d)=>k.runT p w (es++d.toArray.map (⟨.cell .,Z,m==qE⟩))|.error h=>(dM h w,es):=by cases x<;>first|rfl|grind
theorem au5{e}(m)(a)(x)(k:cz e)(w)(es)(d:(∃c,x=bO c)\/∃c,x=bQ c):fu p (.store m a x k) w es=(dM (.stuck "store: not the value of one cell") w,es):=by rcases d with⟨c,rfl⟩|⟨c,rfl⟩<;>rfl
theorem aGx(x:az):((∃c,x=bO c)\/∃c,x=bQ c)\/(∀c,x≠bO c)/\∀c,x≠bQ c:=by grind
theorem dO.setCell{w v}(h:dO ρ I L w v)(a)(d:I.F a.block=Z)(x)(c:S I w.heap.size x=Z):dO ρ I L (w.setCell a x)<|v.setCell (dA ρ a)<|F ρ x:=by
 refine h.modify a.block d _ _ λo e=>⟨awJ a x c o e,?_⟩;cases o<;>try rfl
 simp only[fa,dA];congr 1;grind
theorem dO.frozen{w v}(h:dO ρ I L w v){a}(e:I.blk w.heap.size a.block=Z):v.frozen? (dA ρ a)=w.frozen? a:=by obtain⟨c,i⟩:=H.ji.1 e;obtain⟨j,f⟩:=h.blk a.block _ (gW c) i;unfold yu;show(match v.heap[ρ a.block]? with|some<|aH _ _ (d,g)=>d<=a.off&&a.off<g|_=>ai)=_;rw[f,gW c];cases w.heap[a.block]<;>rfl
theorem dO.freeze{w v}(h:dO ρ I L w v)(a)(c:I.F a.block=Z)(n):dO ρ I L (w.freeze a n)<|v.freeze (dA ρ a) n:=by
 unfold aml;split;.grind
 .refine h.modify a.block c _ _ λo d=>⟨awK a n o d,?_⟩;cases o<;>rfl
theorem fD.freeze(w v)(a)(n)(c:I.blk w.heap.size a.block=Z):fD ρ I w v (w.freeze a n)<|v.freeze (dA ρ a) n:=by
 unfold aml;split;.grind[fD.refl]
 .exact fD.modify w v a.block _ _ c
theorem dO.shape{w v}(h:dO ρ I L w v){r}(c:I.blk w.heap.size r=Z):v.shape? (ρ r)=w.shape? r:=by obtain⟨b,e⟩:=H.ji.1 c;obtain⟨f,d⟩:=h.blk r _ (gW b) e;unfold World.shape?;rw[d,gW b];cases w.heap[r]<;>simp[fa]
theorem dO.draw{w v}(h:dO ρ I L w v):dO ρ I L {w with drawn:=w.drawn+1} {v with drawn:=v.drawn+1}:=⟨h.os,λi b=>by have:=h.tape (i+1) (λD c=>by grind);grind,h.inj,h.blk,h.kB,h.arg⟩
theorem fD.draw(w v):fD ρ I w v {w with drawn:=w.drawn+1} {v with drawn:=v.drawn+1}:=⟨rfl,rfl,aQ _,by simp,rfl,λ_ _ _=>rfl,Ko _,by simp,rfl,rfl,λ_ _ _=>rfl⟩
theorem agU{N}{o}(h:er I N o=Z):o.isChan=ai/\(fa ρ o).isChan=ai:=by cases o<;>simp_all[er,Obj.isChan,fa]
theorem afw{b}(r)(k:Obj->cz b)(w)(es){o}(g:w.heap[r]?=U o)(d:∀c e f,o≠aH c e f):fu p (.getObj r k) w es=(k o).runT p w (es.push ⟨.obj r,ai,o.isChan⟩):=by rw[AH];grind
theorem afv{d}(r)(o)(k:cz d)(w)(es){b}(h:w.heap[r]?=U b)(g:∀c e f,b≠aH c e f):fu p (.setObj r o k) w es=k.runT p {w with heap:=w.heap.setIfInBounds r o} (es.push ⟨.obj r,Z,o.isChan⟩):=by rw[AH];grind
theorem W.anx{t β:Type}{R:Nat->t->β->Prop}{N:Nat}{s:cz t}{X:cz β}(O:L=V∨∀(N:Nat)(s:cz t)(X:cz β),W ρ I p q R N s X->∀(w v:ax)(es:Array jq),w.heap.size=N->dO ρ I V w v->(∀i,ρ (w.heap.size+i)=v.heap.size+i)->∀a K,(s.runT p w es).1=aW a K->w.drawn<=K.drawn)(h:W ρ I p q R N s X):∀(w v:ax)(es es':Array jq),w.heap.size=N->dO ρ I L w v->(∀i,ρ (w.heap.size+i)=v.heap.size+i)->Alike ρ I L R w v es' (s.runT p w es).1 (X.runT q v es'):=by induction h with
 |pure h=>intro w v es es' j g d;subst j;exact⟨aQ _,λ_=>⟨_,v,#[],by simp[fu],h,g,fD.refl _ _,by simp⟩⟩|load z _ l=>intro w v es es' j g d;subst j;rename_i a k QW _;rw[fu];cases QX:w.cell? a with|some x=>obtain⟨S,M⟩:=g.cell z QX;rw[fu,M];refine Alike.step (e0:=#[⟨.cell<|dA ρ a,ai,lZ==qE⟩]) (by simpa using l x S w v (es.push ⟨.cell a,ai,lZ==qE⟩) (es'.push ⟨.cell<|dA ρ a,ai,lZ==qE⟩) rfl g d) (fD.refl _ _) d ?_;intro e B;simp only[fQ,di,dJ,dQ]at B;subst B;exact ay ⟨a.block,(H.ji.1 z).1,(H.ji.1 z).2,ay ⟨a,rfl,rfl⟩,rfl⟩|none=>cases P:w.farLoad p a (lZ==qE)with|ok r=>exact absurd P<|g.aw8 z p _ r|error e=>exact Alike.halt g.whole<|g.asF z p _ P
 |J8 hA hg TO _ l=>intro w v es es' j g d;subst j;rename_i a k QW A _;obtain⟨a1,a2,a3,a4⟩:=g.arg A hA;rw[fu];cases QX:w.cell? a with|some x=>
   have Q:A.c[a.off]?=U x∧v.cell? a=A.c'[a.off]?:=by unfold pz at QX⊢;grind
   obtain⟨hp,OS⟩:=A.rel a.off x TO Q.1;rw[fu,Q.2.trans OS];refine Alike.step (e0:=#[⟨.cell a,ai,lZ==qE⟩]) (by simpa using l x hp w v (es.push ⟨.cell a,ai,lZ==qE⟩) (es'.push ⟨.cell a,ai,lZ==qE⟩) rfl g d) (fD.refl _ _) d ?_;intro e B;simp only[fQ,di,dJ,dQ]at B;subst B;exact aB<|aB ⟨A,a,hA,hg,rfl⟩|none=>
   have P:w.farLoad p a (lZ==qE)=.error (.stuck "load: no such cell"):=by unfold abT World.noCell;grind
   simp only[P];exact Alike.halt g.whole
 |store z hv _ l=>
  intro w v es es' j g d;subst j;rename_i a x k QW _;rcases aGx x with Q|⟨Q,hy⟩;·rw[au5 lZ a x k w es Q];exact Alike.halt g.whole
  ·have ZR:∀c,F ρ x≠bO c:=λc e=>by cases x<;>simp_all[F]
   have AK:∀c,F ρ x≠bQ c:=λc e=>by cases x<;>simp_all[F]
   rw[afu lZ a x k w es Q hy];rw[afu lZ (dA ρ a) (F ρ x) QW v es' ZR AK];cases QX:w.cell? a with
   |some u=>obtain⟨S,M⟩:=g.cell z QX;rw[M];simp only;rw[g.frozen z];cases hz:w.frozen? a with|true=>simp only[gL];exact Alike.halt g.whole|false=>simp only[ow,ox];have hT:fD ρ I w v (w.setCell a x)<|v.setCell (dA ρ a)<|F ρ x:=fD.modify w v a.block _ _ z;have:=l (w.setCell a x) (v.setCell (dA ρ a)<|F ρ x) (es.push ⟨.cell a,Z,lZ==qE⟩) (es'.push ⟨.cell<|dA ρ a,Z,lZ==qE⟩) (size_setCell _ _ _) (g.setCell a (H.ji.1 z).2 x hv) (by grind[size_setCell]);refine Alike.step (e0:=#[⟨.cell<|dA ρ a,Z,lZ==qE⟩]) (by simpa using this) hT d ?_;intro e B;simp only[fQ,di,dJ,dQ]at B;subst B;exact ay ⟨a.block,by rw[size_setCell];exact(H.ji.1 z).1,(H.ji.1 z).2,ay ⟨a,rfl,rfl⟩,rfl⟩
   |none=>cases P:w.farStore p a x (lZ==qE)with|ok r=>exact absurd P<|g.aw7 z p x _ r|error e=>exact Alike.halt g.whole<|g.asE z p x _ P
 |new Q3 hk l=>
  intro w v es es' j g d;subst j;rename_i o k QW;rw[fu,fu];have h0:ρ w.heap.size=v.heap.size:=by simpa using d 0
  have:=l {w with heap:=w.heap.push o} {v with heap:=v.heap.push<|fa ρ o} es es' (by simp) (g.push o Q3 h0) (λi=>by simp only[aiu];have:=d<|i+1;rw[show w.heap.size+1+i=w.heap.size+(i+1)by omega,this];omega);rw[h0]at this;exact Alike.now this (fD.push w v o) d|shape C _ l=>intro w v es es' j g d;subst j;rw[fu,fu,g.shape C];exact l _ w v es es' rfl g d|freeze z _ l=>intro w v es es' j g d;subst j;rename_i a n k QW _;rw[fu,fu];have:=l (w.freeze a n) (v.freeze (dA ρ a) n) es es' (WN _ _ _) (g.freeze a (H.ji.1 z).2 n) (by rw[WN,WN];exact d);exact Alike.now this (fD.freeze w v a n z) d|frozen z _ l=>intro w v es es' j g d;subst j;rw[fu,fu,g.frozen z];exact l _ w v es es' rfl g d|getObj C _ l=>
  intro w v es es' j g d;subst j;rename_i r k QW _;by_cases E:∃o,w.heap[r]?=U o∧∀c e f,o≠aH c e f;·obtain⟨o,J,E⟩:=E;obtain⟨S,M⟩:=g.blk _ _ J (H.ji.1 C).2;obtain⟨c1,c2⟩:=agU (ρ:=ρ) S;rw[afw r k w es J E];rw[afw (ρ r) QW v es' M λc e f=>by cases o<;>first|exact absurd rfl<|E _ _ _|simp[fa]];have:=l o S w v (es.push ⟨.obj r,ai,o.isChan⟩) (es'.push ⟨.obj<|ρ r,ai,(fa ρ o).isChan⟩) rfl g d;refine Alike.step (e0:=#[⟨.obj<|ρ r,ai,(fa ρ o).isChan⟩]) (by simpa using this) (fD.refl _ _) d ?_;intro e B;simp only[fQ,di,dJ,dQ]at B;subst B;exact ay ⟨r,(H.ji.1 C).1,(H.ji.1 C).2,aB rfl,c2⟩
  ·have:∃G,fu p (.getObj r k) w es=(dM (.stuck G) w,es):=by
    rw[AH];simp only;split;·exact⟨_,rfl⟩
    ·rename_i o QX J;exact absurd ⟨o,J,λc e f=>QX c e f⟩ E
    ·exact⟨_,rfl⟩
   obtain⟨G,Q2⟩:=this;rw[Q2];exact Alike.halt g.whole|setObj C Q3 QX _ l=>
  intro w v es es' j g d;subst j;rename_i r o k QW _;obtain⟨c1,c2⟩:=agU (ρ:=ρ) Q3;by_cases E:∃o,w.heap[r]?=U o∧∀c e f,o≠aH c e f
  ·obtain⟨o0,J,E⟩:=E;obtain⟨S,M⟩:=g.blk _ _ J (H.ji.1 C).2;rw[afv r o k w es J E];rw[afv (ρ r) (fa ρ o) QW v es' M λc e f=>by cases o0<;>first|exact absurd rfl<|E _ _ _|simp[fa]];have Hz:dO ρ I L {w with heap:=w.heap.setIfInBounds r o} {v with heap:=v.heap.setIfInBounds (ρ r)<|fa ρ o}:=by rw[Ry,Ry];exact g.modify r (H.ji.1 C).2 _ _ λ_ _=>⟨Q3,rfl⟩
   have hT:fD ρ I w v {w with heap:=w.heap.setIfInBounds r o} {v with heap:=v.heap.setIfInBounds (ρ r)<|fa ρ o}:=by rw[Ry,Ry];exact fD.modify w v r _ _ C
   have:=l {w with heap:=w.heap.setIfInBounds r o} {v with heap:=v.heap.setIfInBounds (ρ r)<|fa ρ o} (es.push ⟨.obj r,Z,o.isChan⟩) (es'.push ⟨.obj<|ρ r,Z,(fa ρ o).isChan⟩) (by simp) Hz (by simp only[vj];exact d);refine Alike.step (e0:=#[⟨.obj<|ρ r,Z,(fa ρ o).isChan⟩]) (by simpa using this) hT d ?_;intro e B;simp only[fQ,di,dJ,dQ]at B;subst B;exact ay ⟨r,by simp only[vj];exact(H.ji.1 C).1,(H.ji.1 C).2,aB rfl,c2⟩
  ·have:∃G,fu p (.setObj r o k) w es=(dM (.stuck G) w,es):=by
    rw[AH];simp only;split;·exact⟨_,rfl⟩
    ·rename_i o' QX J;exact absurd ⟨o',J,λc e f=>QX c e f⟩ E
    ·exact⟨_,rfl⟩
   obtain⟨G,Q2⟩:=this;rw[Q2];exact Alike.halt g.whole|choose hk l=>
  intro w v es es' j g d;subst j;rename_i x k QW;rw[fu,fu];split;·exact l 0 w v es es' rfl g d
  ·by_cases hl:∀D,L=U D->w.drawn<D
   ·have e0:v.tape v.drawn=w.tape w.drawn:=by simpa using g.tape 0<|by simpa using hl
    rw[e0];exact Alike.now (l (x.cut<|w.tape w.drawn x) {w with drawn:=w.drawn+1} {v with drawn:=v.drawn+1} es es' rfl g.draw d) (fD.draw w v) d
   ·have hex:∃D,L=U D∧D<=w.drawn:=by refine Classical.byContradiction λE=>hl λD b=>?_;refine Nat.lt_of_not_le λT=>E ⟨D,b,T⟩
    obtain⟨D,b,T⟩:=hex;rcases O with Q1|Q1;·rw[Q1]at b;cases b
    ·have Q0:dO ρ I V {w with drawn:=w.drawn+1} {v with tape:=w.tape,drawn:=w.drawn+1}:=⟨g.os,λi _=>rfl,g.inj,g.blk,g.kB,g.arg⟩;cases C:(fu p (k<|x.cut<|w.tape w.drawn x) {w with drawn:=w.drawn+1} es).1 with|halt y K=>have:=l (x.cut<|w.tape w.drawn x) {w with drawn:=w.drawn+1} {v with drawn:=v.drawn+1} es es' rfl g.draw d;rw[C]at this;exact this|ok a K=>have:w.drawn+1<=K.drawn:=Q1 _ _ _ (hk<|x.cut<|w.tape w.drawn x) {w with drawn:=w.drawn+1} {v with tape:=w.tape,drawn:=w.drawn+1} es rfl Q0 d a K C;exact⟨by omega,λhLD=>absurd (hLD D b)<|by omega⟩
 |program _ l=>intro w v es es' j g d;rw[fu,fu];exact l w v es es' j g d|mark Q1 _ l=>intro w v es es' j g d;subst j;rename_i m k QW _;rw[fu,fu];have:=l w v (es.push ⟨iA m,ai,Z⟩) (es'.push ⟨iA m,ai,Z⟩) rfl g d;refine Alike.step (e0:=#[⟨iA m,ai,Z⟩]) (by simpa using this) (fD.refl _ _) d ?_;intro e B;simp only[fQ,di,dJ,dQ]at B;exact aB<|ay ⟨m,Q1,B⟩|dead hd=>intro w v es es' j g d;obtain⟨x,K,e,hs,hg⟩:=hd w es;rw[e];exact⟨hs,w,aQ _,g.whole,hg⟩
theorem W.alike{k g}{R:Nat->k->g->Prop}{N}{s}{d}(h:W ρ I p q R N s d):∀(w v)(es es'),w.heap.size=N->dO ρ I L w v->(∀i,ρ (w.heap.size+i)=v.heap.size+i)->Alike ρ I L R w v es' (s.runT p w es).1 (d.runT q v es'):=W.anx (aB λN s d h w v es j f c a l e=>by have:=W.anx (L:=V) (ay rfl) h w v es #[] j f c;rw[e]at this;exact this.1) h
def J(q:bZ)(fs:Array dY):bZ:={q with funcs:=fs}
section
variable {I:H} {N:Nat} {ρ:Nat->Nat}
mutual
theorem qT:∀{v:az},n v=Z->S I N v=Z/\F ρ v=v|dF _ _ _,h=>by simp[n]at h|iK t v,h=>by simp only[n]at h;obtain⟨h1,h2⟩:=qT h;exact⟨by simpa[S]using h1,by simp only[F,h2]⟩|bO cs,h=>by simp only[n]at h;obtain⟨h1,h2⟩:=agf h;exact⟨by simpa[S]using h1,by simp only[F,h2]⟩|bQ cs,h=>by simp only[n]at h;obtain⟨h1,h2⟩:=agf h;exact⟨by simpa[S]using h1,by simp only[F,h2]⟩|aF V,_=>by simp[S,F]|aF<|U a,h=>by simp[n]at h|aC V _ _,_=>by simp[S,F]|aC (U a) _ _,h=>by simp[n]at h|bW V,_=>by simp[S,F]|bW<|U a,h=>by simp[n]at h|dc V,_=>by simp[S,F]|dc<|U a,h=>by simp[n]at h|cx _,_=>by simp[S,F]|Y _ _,_=>by simp[S,F]|.float _ _,h=>by simp[n]at h|.complex _ _ _,h=>by simp[n]at h|aE _,_=>by simp[S,F]|.nilFunc,_=>by simp[S,F]|nO,_=>by simp[S,F]theorem agf:∀{v:Array az},JP v=Z->qj I N v=Z/\oe ρ v=v|⟨l⟩,h=>by simp only[JP]at h;obtain⟨h1,h2⟩:=agh h;exact⟨by simpa[qj]using h1,by simp only[oe,h2]⟩theorem agh:∀{v:List az},Ed v=Z->oR I N v=Z/\qi ρ v=v|[],_=>by simp[oR,qi]|v::l,h=>by simp only[Ed,cG]at h;obtain⟨h1,h2⟩:=qT h.1;obtain⟨h3,h4⟩:=agh h.2;exact⟨by simp[oR,h1,h3],by simp only[qi,h2,h4]⟩end
end
section
variable (ρ:Nat->Nat) (I:H)
def RV:Nat->az->az->Prop:=λN v v'=>S I N v=Z/\v'=F ρ v
def RA:Nat->eF->eF->Prop:=λN a a'=>I.blk N a.block=Z/\a'=dA ρ a
def bD:Nat->Array az->Array az->Prop:=λN vs vs'=>(∀v∈vs,S I N v=Z)/\vs'=vs.map (F ρ)
def RU:Nat->Unit->Unit->Prop:=λ_ _ _=>True
end
def RD{α:Type}:Nat->α->α->Prop:=λ_ a b=>a=b
variable {ρ:Nat->Nat} {I:H} {q:bZ} {fs:Array dY} {N M:Nat}
theorem RV.mono{v v'}(h:RV ρ I N v v')(a:N<=M):RV ρ I M v v':=⟨ff a h.1,h.2⟩
theorem RA.mono{a a'}(h:RA ρ I N a a')(b:N<=M):RA ρ I M a a':=⟨H.ey h.1 b,h.2⟩
theorem bD.mono{v v'}(h:bD ρ I N v v')(c:N<=M):bD ρ I M v v':=⟨λx b=>ff c<|h.1 x b,h.2⟩
theorem bD.size{v v'}(h:bD ρ I N v v'):v'.size=v.size:=by rw[h.2,AB]
theorem bD.get{v v'}(h:bD ρ I N v v'){i:Nat}{x}(b:v[i]?=U x):S I N x=Z/\v'[i]?=U (F ρ x):=⟨h.1 x<|tR b,by rw[h.2,qV,b];rfl⟩
theorem bD.get_none{v v'}(h:bD ρ I N v v'){i:Nat}(a:v[i]?=V):v'[i]?=V:=by rw[h.2,qV,a];rfl
theorem RV.plain{v}(h:n v=Z):RV ρ I N v v:=⟨(qT (ρ:=ρ) h).1,(qT (I:=I) (N:=N) h).2.symm⟩
theorem RV.ptr{a a'}(h:RA ρ I N a a'):RV ρ I N (aF<|U a)<|aF<|U a':=⟨by simp[S,h.1],by simp[F,h.2]⟩
theorem RV.agg{vs vs'}(h:bD ρ I N vs vs'):RV ρ I N (bO vs)<|bO vs':=⟨by simp only[S,Gw,lE];exact h.1,by simp only[F,yL,h.2]⟩
theorem RV.tuple{vs vs'}(h:bD ρ I N vs vs'):RV ρ I N (bQ vs)<|bQ vs':=⟨by simp only[S,Gw,lE];exact h.1,by simp only[F,yL,h.2]⟩
theorem bD.Ei{vs}(h:S I N (bO vs)=Z):bD ρ I N vs<|oe ρ vs:=⟨by simpa only[S,Gw,lE]using h,yL ρ vs⟩
theorem bD.awM{vs}(h:S I N (bQ vs)=Z):bD ρ I N vs<|oe ρ vs:=⟨by simpa only[S,Gw,lE]using h,yL ρ vs⟩
theorem bD.nil:bD ρ I N #[] #[]:=⟨λv h=>by grind,by simp⟩
theorem bD.push{vs vs'}{v v'}(h:bD ρ I N vs vs')(c:RV ρ I N v v'):bD ρ I N (vs.push v)<|vs'.push v':=by
 refine⟨λx b=>?_,by rw[h.2,c.2,Array.map_push]⟩;rcases Y5.1 b with b|rfl;.exact h.1 x b
 .exact c.1
theorem bD.append{vs vs' e c}(h:bD ρ I N vs vs')(d:bD ρ I N e c):bD ρ I N (vs++e)<|vs'++c:=by
 refine⟨λx b=>?_,by rw[h.2,d.2,ah7]⟩;rcases Ce.1 b with b|b;.exact h.1 x b
 .exact d.1 x b
theorem bD.extract{vs vs'}(h:bD ρ I N vs vs')(i j):bD ρ I N (vs.extract i j)<|vs'.extract i j:=by refine⟨λx b=>?_,by rw[h.2,Array.map_extract]⟩;obtain⟨k,c,rfl⟩:=YW.1 b;rw[Array.getElem_extract];exact h.1 _<|Nu _
theorem bD.plain{vs}(h:∀v∈vs,n v=Z):bD ρ I N vs vs:=by refine⟨λv c=>(RV.plain (ρ:=ρ)<|h v c).1,?_⟩;refine YV λi=>?_;rw[qV];cases b:vs[i]? with|none=>rfl|some x=>simp only[ee];rw[<-(RV.plain (ρ:=ρ) (I:=I) (N:=N)<|h x<|tR b).2]
theorem bD.cells{v v'}(h:RV ρ I N v v'):bD ρ I N v.cells v'.cells:=by obtain⟨b,rfl⟩:=h;cases v<;>first|exact bD.Ei b|exact⟨λx a=>by simp only[A8,fQ]at a;grind,by simp[A8,F]⟩
theorem RA.add{a a'}(h:RA ρ I N a a')(n):RA ρ I N (a.add n)<|a'.add n:=by
 obtain⟨c,rfl⟩:=h;unfold Addr.add;split;.exact⟨c,rfl⟩
 .exact⟨c,rfl⟩
structure tf(q:bZ):Prop where
 zero:∀t i v,q.info? t=U i->i.zero=U v->n v=Z
 whole:∀t k,q.underlying t≠U (.float k)real:∀t k,q.underlying t≠U (.complex k)
variable {α β γ δ:Type}
theorem T{R:Nat->α->β->Prop}(b)(s):W ρ I (J q fs) q R N (stuck b) s:=.dead<|.halt _
theorem iG{R:Nat->α->β->Prop}(u)(s)(hs:soft (.unsupported u)=Z:=by rfl):W ρ I (J q fs) q R N (vR u) s:=.dead<|.halt _ hs
theorem mG:W ρ I (J q fs) q (λ_ a b=>a=J q fs/\b=q) N program program:=.program<|.pure ⟨rfl,rfl⟩
theorem rO(t):W ρ I (J q fs) q (λ_ a b=>a=b/\q.info? t=U a) N (typeInfo t)<|typeInfo t:=by refine W.bind' mG ?_;rintro M a b e⟨rfl,d⟩;rw[d];show W ρ I (J q fs) q _ M (match q.info? t with|some i=>bI i|none=>stuck "no such type") _;cases q.info? t with|some i=>exact .pure ⟨rfl,rfl⟩|none=>grind[T]
theorem gD(t):W ρ I (J q fs) q RD N (pB t)<|pB t:=by refine W.bind' mG ?_;rintro M a b e⟨rfl,d⟩;rw[d];show W ρ I (J q fs) q _ M (match q.underlying t with|some i=>bI i|none=>stuck "no such type") _;cases q.underlying t with|some i=>exact .pure rfl|none=>grind[T]
theorem DT(d:tf q)(t):W ρ I (J q fs) q (λN a b=>RV ρ I N a b/\n a=Z) N (kQ t)<|kQ t:=by
 refine W.bind' (rO t) ?_;rintro M a b g⟨rfl,f⟩;split;.rename_i v e;have:=d.zero t a v f e;exact .pure ⟨RV.plain this,this⟩
 .exact iG _ _
theorem nu(t):W ρ I (J q fs) q RD N (sizeOf t)<|sizeOf t:=by refine W.bind' (rO t) ?_;rintro M a b d⟨rfl,e⟩;exact .pure rfl
theorem Xf(t):W ρ I (J q fs) q RD N (isAgg t)<|isAgg t:=by refine W.bind' (gD t) ?_;rintro M a b d rfl;split<;>exact .pure rfl
theorem aeS{a a'}(h:RA ρ I N a a'):W ρ I (J q fs) q (RV ρ I) N (load a)<|load a':=by obtain⟨d,rfl⟩:=h;exact .load d λv c=>.pure ⟨c,rfl⟩
theorem as6{a a'}{v v'}(h:RA ρ I N a a')(c:RV ρ I N v v'):W ρ I (J q fs) q RU N (Fv a v)<|Fv a' v':=by obtain⟨e,rfl⟩:=h;obtain⟨d,rfl⟩:=c;exact .store e d<|.pure trivial
theorem BG{r}(h:I.blk N r=Z):W ρ I (J q fs) q RD N (shape r)<|shape<|ρ r:=.shape h λs=>.pure rfl
theorem aeX{a a'}(h:RA ρ I N a a')(n):W ρ I (J q fs) q RU N (freeze a n)<|freeze a' n:=by obtain⟨c,rfl⟩:=h;exact .freeze c<|.pure trivial
theorem Rt{a a'}(h:RA ρ I N a a'):W ρ I (J q fs) q RD N (frozen a)<|frozen a':=by obtain⟨d,rfl⟩:=h;exact .frozen d λb=>.pure rfl
theorem wI{r}(h:I.blk N r=Z):W ρ I (J q fs) q (λN o b=>er I N o=Z/\b=fa ρ o) N (rB r)<|rB<|ρ r:=.getObj h λo c=>.pure ⟨c,rfl⟩
theorem MG{r}{o}(h:I.blk N r=Z)(d:er I N o=Z)(b:∀c e f,o≠aH c e f):W ρ I (J q fs) q RU N (setObj r o)<|setObj (ρ r)<|fa ρ o:=.setObj h d b<|.pure trivial
theorem Jz(c:I.F N=Z){o}(d:er I N o=Z):W ρ I (J q fs) q (λM r b=>r=N/\M=N+1/\b=ρ N/\I.blk M r=Z) N (newObj o)<|newObj<|fa ρ o:=.new d<|.pure ⟨rfl,rfl,rfl,H.ji.2 ⟨by omega,c⟩⟩
theorem Gl(x):W ρ I (J q fs) q RD N (choose x)<|choose x:=.choose λn=>.pure rfl
theorem atv:W ρ I (J q fs) q RU N (mark .noRoom)<|mark .noRoom:=.mark rfl<|.pure trivial
theorem afd(n):W ρ I (J q fs) q RU N (askRoom n)<|askRoom n:=by
 unfold askRoom;split;.exact atv
 .exact .pure trivial
theorem atC{a a'}(i n):∀{N}{d c},RA ρ I N a a'->bD ρ I N d c->W ρ I (J q fs) q (bD ρ I) N (loadCellsFrom a i n d) (loadCellsFrom a' i n c):=by induction n generalizing i with|zero=>intro N d c _ h;exact .pure h|succ n j=>intro N d c f h;refine W.bind' (aeS<|f.add i) ?_;rintro M v k e g;exact j (i+1) (f.mono e)<|(h.mono e).push g
theorem Rq{a a'}(h:RA ρ I N a a')(n):W ρ I (J q fs) q (bD ρ I) N (loadCells a n)<|loadCells a' n:=atC 0 n h bD.nil
theorem aeI{a a'}:∀(vs){N}(i),RA ρ I N a a'->(∀v∈vs,S I N v=Z)->W ρ I (J q fs) q RU N (storeCells a vs i) (storeCells a' (vs.map<|F ρ) i)|[],_,_,_,_=>.pure trivial|v::vs,N,i,e,h=>by refine W.bind' (as6 (e.add i) ⟨h v<|by simp,rfl⟩) ?_;rintro M _ _ d _;exact aeI vs (i+1) (e.mono d) λx f=>ff d<|h x<|by grind
theorem WT{a a'}{vs vs'}(i)(c:RA ρ I N a a')(h:bD ρ I N vs vs'):W ρ I (J q fs) q RU N (storeCells a vs.toList i)<|storeCells a' vs'.toList i:=by rw[h.2,za];exact aeI _ _ c λv d=>h.1 v<|by grind
theorem DU{a a'}(t)(h:RA ρ I N a a'):W ρ I (J q fs) q (RV ρ I) N (loadVar t a)<|loadVar t a':=by
 refine W.bind' (Xf t) ?_;rintro M b _ d rfl;split;.refine W.bind' (nu t) ?_;rintro K n _ g rfl;refine W.bind' (Rq (h.mono<|bC d g) n) ?_;rintro L i f j e;exact .pure<|RV.agg e
 .exact aeS<|h.mono d
theorem Rl{a a'}{v v'}(t)(h:RA ρ I N a a')(e:RV ρ I N v v'):W ρ I (J q fs) q RU N (storeVar t a v)<|storeVar t a' v':=by
 have d:=bD.cells e;refine W.bind' (nu t) ?_;rintro M n _ c rfl;rw[d.size];split;.exact .dead<|u.bind (.halt _) _
 .exact WT 0 (h.mono c)<|d.mono c
theorem Jy(c:∀b,N<=b->I.F b=Z){vs vs'}(e)(h:bD ρ I N vs vs'):W ρ I (J q fs) q (RA ρ I) N (newRow e vs)<|newRow e vs':=by
 unfold newRow;have d:aH vs' e (0,0)=fa ρ (aH vs e (0,0)):=by rw[h.2];rfl
 rw[d];refine W.bind' (Jz (c N<|aQ _)<|by simp only[er,lE];exact h.1) ?_;rintro M r i g⟨rfl,rfl,rfl,f⟩;exact .pure ⟨f,rfl⟩
theorem Xa(c:∀b,N<=b->I.F b=Z){v v'}(t)(h:RV ρ I N v v'):W ρ I (J q fs) q (RA ρ I) N (newVar t v)<|newVar t v':=Jy c t<|bD.cells h
theorem wH{vs vs'}(t)(c)(h:bD ρ I N vs vs'):W ρ I (J q fs) q (RV ρ I) N (part t vs c)<|part t vs' c:=by
 refine W.bind' (Xf t) ?_;rintro M b _ d rfl;split;.refine W.bind' (nu t) ?_;rintro K n _ g rfl;exact .pure<|RV.agg<|(h.mono<|bC d g).extract _ _
 .cases f:vs[c]? with|some x=>obtain⟨e,i⟩:=h.get f;rw[i];exact .pure ⟨ff d e,rfl⟩|none=>grind[T]
theorem lW(p)(e):u p (C0 e:cz α):=by refine u.program ?_;cases e<;>first|exact .halt _|exact u.then _ λa=>u.then _ λb=>u.then _ λb=>.halt _
theorem UJ(p)(k)(x y)(c):u p (uC k x y c:cz α):=by
 unfold uC;split;.exact u.then _ λ_=>lW _ _
 .exact u.then _ λ_=>lW _ _
theorem Jw{R:Nat->α->β->Prop}(e)(s):W ρ I (J q fs) q R N (C0 e) s:=.dead<|lW _ _
theorem MK{R:Nat->α->β->Prop}(k)(x y)(c)(s):W ρ I (J q fs) q R N (uC k x y c) s:=.dead<|UJ _ _ _ _ _
theorem JB{v v'}(h:RV ρ I N v v'):W ρ I (J q fs) q RD N (asIntOf v)<|asIntOf v':=by obtain⟨-,rfl⟩:=h;cases v<;>first|exact .pure rfl|exact T _ _|(rename_i a;cases a<;>first|exact T _ _|exact iG _ _)
theorem JC{v v'}(h:RV ρ I N v v'):W ρ I (J q fs) q RD N (asInt v)<|asInt v':=by refine W.bind' (JB h) ?_;rintro M a _ c rfl;exact .pure rfl
theorem afe{v v'}(h:RV ρ I N v v'):W ρ I (J q fs) q RD N (asBool v)<|asBool v':=by obtain⟨-,rfl⟩:=h;cases v<;>first|exact .pure rfl|exact T _ _
theorem at4{v v'}(h:RV ρ I N v v'):W ρ I (J q fs) q (bD ρ I) N (asAgg v)<|asAgg v':=by obtain⟨b,rfl⟩:=h;cases v<;>first|exact .pure<|bD.Ei b|exact T _ _
theorem RA.rS{a}(h:S I N (aF<|U a)=Z):RA ρ I N a<|dA ρ a:=⟨by simpa[S]using h,rfl⟩
theorem ML{v v'}(h:RV ρ I N v v'):W ρ I (J q fs) q (RA ρ I) N (asAddr v)<|asAddr v':=by obtain⟨c,rfl⟩:=h;cases v<;>first
    |exact T _ _
    | (rename_i a;rcases a with _|a;.exact .dead<|lW _ .nilDeref
       .exact .pure<|RA.rS c)
theorem MF{v v'}(h:RV ρ I N v v'):W ρ I (J q fs) q (RA ρ I) N (FB v)<|FB v':=by obtain⟨c,rfl⟩:=h;cases v<;>first
    |exact T _ _
    | (rename_i a;rcases a with _|a;.exact T _ _
       .exact .pure<|RA.rS c)
structure Fair(ρ:Nat->Nat)(q:bZ):Prop where
 inj:∀a b,ρ a=ρ b->a=b
 fix:∀b,b<=q.globals.size->ρ b=b
 over:∀b,q.globals.size<b->q.globals.size<ρ b
variable {ρ:Nat->Nat} {I:H} {q:bZ} {fs:Array dY} {N M:Nat} {α β:Type}
theorem alk(f:az->az)(b):∀(l:List<|az×Nat)(cs:Array az),(l.map λx=>(f x.1,x.2)).foldl (λcs x=>cs.setIfInBounds (b+x.2) x.1) (cs.map f)=(l.foldl (λcs x=>cs.setIfInBounds (b+x.2) x.1) cs).map f|[],_=>rfl|x::l,cs=>by simp only[gh,Ay];rw[<-alk f b l];congr 1;grind
theorem alj{P:az->Prop}(b):∀(l:List<|az×Nat)(cs:Array az),(∀x∈l,P x.1)->(∀v∈cs,P v)->∀v∈l.foldl (λcs x=>cs.setIfInBounds (b+x.2) x.1) cs,P v|[],_,_,h=>h|x::l,cs,c,h=>by refine alj b l _ λy d=>c y<|by grind λv e=>?_;grind
theorem zipIdx_map(f:az->az)(cs:Array az):(cs.map f).zipIdx.toList=cs.zipIdx.toList.map λx=>(f x.1,x.2):=by rw[ah3,ah3,za,List.zipIdx_map];rfl
theorem aFk(v):(F ρ v).cells=v.cells.map (F ρ):=by cases v<;>simp[F,A8,yL]
theorem alB(b):∀(d)(cs),ux b (cs.map<|F ρ) (d.map λx=>(x.1,F ρ x.2))=(ux b cs d).map λc=>c.map<|F ρ|[],cs=>by simp[ux]|(i,v)::d,cs=>by simp only[gh,ux];cases b i with|none=>rfl|some g=>
   obtain⟨e,f⟩:=g;simp only[aFk,AB];split;.rfl
   .rw[<-alB b d];congr 1;rw[<-Nt,<-Nt,zipIdx_map];exact alk (F ρ) e _ _
theorem alA{P:az->Prop}(d):∀(b)(cs),(∀x∈b,∀c∈x.2.cells,P c)->(∀v∈cs,P v)->∀c,ux d cs b=U c->∀v∈c,P v|[],cs,_,h,c,e=>by simp only[ux]at e;grind|(i,v)::b,cs,k,h,c,e=>by simp only[ux]at e;cases f:d i with|none=>grind|some m=>
   obtain⟨g,j⟩:=m;rw[f]at e;simp only at e;split at e;.grind
   .refine alA d b _ λx l=>k x<|by grind ?_ c e;rw[<-Nt];refine alj g _ _ (λx l=>?_) h;exact k (i,v) (by simp) x.1<|by grind
def Bl(ρ:Nat->Nat)(I:H)(N:Nat)(ps E:Array<|Nat×az):Prop:=(∀x∈ps,S I N x.2=Z)/\E=ps.map λx=>(x.1,F ρ x.2)
theorem Bl.mono{b a}(h:Bl ρ I N b a)(d:N<=M):Bl ρ I M b a:=⟨λx c=>ff d<|h.1 x c,h.2⟩
theorem abB{e d}{cs cs'}(b)(h:Bl ρ I N e d)(f:bD ρ I N cs cs'):ux b cs e.toList=V/\ux b cs' d.toList=V\/∃r g,ux b cs e.toList=U r/\ux b cs' d.toList=U g/\bD ρ I N r g:=by
 have k:ux b cs' d.toList=(ux b cs e.toList).map λc=>c.map<|F ρ:=by rw[h.2,f.2,za];grind[alB]
 cases i:ux b cs e.toList with|none=>grind|some r=>refine aB ⟨r,r.map<|F ρ,rfl,by grind,?_,rfl⟩;refine alA (P:=λv=>S I N v=Z) b _ _ (λx j c f=>?_) f.1 r i;have:=h.1 x (by grind);exact(bD.cells (ρ:=ρ) ⟨this,rfl⟩).1 c f
theorem aeQ{t s:Type}{f:t->cz s}(c:∀N x,W ρ I (J q fs) q RD N (f x)<|f x):∀(l:List t)(N),W ρ I (J q fs) q RD N (l.mapM f)<|l.mapM f|[],N=>.pure' rfl|x::l,N=>by rw[GO];refine W.bind' (c N x) ?_;rintro M a _ d rfl;refine W.bind' (aeQ c l M) ?_;rintro K b _ e rfl;exact .pure' rfl
theorem atw{t s:Type}{f:t->cz s}(b:∀N x,W ρ I (J q fs) q RD N (f x)<|f x)(l:Array t)(N):W ρ I (J q fs) q RD N (l.mapM f)<|l.mapM f:=by rw[GN];refine W.bind (aeQ b _ N) ?_;rintro M a _ c rfl;exact .pure rfl
theorem aua(e:∀b,N<=b->I.F b=Z)(c:tf q)(t):W ρ I (J q fs) q (RV ρ I) N (Instr.alloc t Z<|bQ #[])<|Instr.alloc t Z<|bQ #[]:=by refine W.bind' (DT c t) ?_;rintro M z j g⟨d,_⟩;refine W.bind' (Xa λb k=>e b<|by omega t d) ?_;rintro K a h i f;exact .pure'<|RV.ptr f
theorem at1(d:∀b,N<=b->I.F b=Z)(t){v v'}(h:RV ρ I N v v'):W ρ I (J q fs) q (RV ρ I) N (Instr.box t v)<|Instr.box t v':=by refine W.bind' (Xa d t h) ?_;rintro K a f e c;exact .pure'<|RV.ptr c
theorem at0(u:tf q)(t){p e}(h:Bl ρ I N p e):W ρ I (J q fs) q (RV ρ I) N (Instr.build t p)<|Instr.build t e:=by
 refine W.bind' (DT u t) ?_;rintro M z w o⟨s,_⟩;have l:=bD.cells s;refine W.bind' (gD t) ?_;rintro K d _ m rfl;split
 .refine W.bind' (atw (λN f=>W.bind' (nu f.type)<|by rintro M a _ o rfl;exact .pure' rfl) _ _) ?_;rintro L b _ k rfl;rcases abB (λx=>b[x]?) (h.mono<|bC o<|bC m k) (l.mono<|bC m k)with⟨g,j⟩|⟨r,v,g,j,n⟩;.grind[T]
  .rw[g,j];exact .pure'<|RV.agg n
 .refine W.bind' (nu _) ?_;rintro L c _ k rfl;rcases abB (λi=>U (i*c,c)) (h.mono<|bC o<|bC m k) (l.mono<|bC m k)with⟨g,j⟩|⟨r,v,g,j,n⟩;.grind[T]
  .rw[g,j];exact .pure'<|RV.agg n
 grind[T]
theorem MY{v}(h:n v=Z):∀c∈v.cells,n c=Z:=by
 cases v<;>simp only[A8]<;>try grind
 rename_i a;obtain⟨l⟩:=a;simp only[n,JP]at h;induction l with|nil=>grind|cons v l b=>simp only[Ed]at h;grind
theorem XO{T:Array az}(h:∀c∈T,n c=Z)(i:Nat):n T[i]! =Z:=by rw[getElem!_def];cases a:T[i]? with|none=>rfl|some x=>grind
theorem atZ(e:∀b,N<=b->I.F b=Z)(G:tf q)(t)(g){Q2 o}(h:Bl ρ I N Q2 o):W ρ I (J q fs) q (RV ρ I) N (Instr.buildSlice t g Q2)<|Instr.buildSlice t g o:=by
 refine W.bind' (gD t) ?_;rintro M d _ H rfl;split
 .rename_i j;refine W.bind' (nu j) ?_;rintro K f _ E rfl;dsimp only;split;.exact .dead<|u.bind (.halt _) _
  .have Q3:∀(L)(l:Array az),K<=L->(∀c∈l,n c=Z)->W ρ I (J q fs) q (RV ρ I) L (match ux (λi=>U (i*f,f)) ((IF<|g*f).map (l[.%l.size]!)) Q2.toList with|some k=>do bI<|aC (U<|<-newRow j k) g g|_=>stuck "buildSlice: a part of the wrong size") (match ux (λi=>U (i*f,f)) ((IF<|g*f).map (l[.%l.size]!)) o.toList with|some k=>do bI<|aC (U<|<-newRow j k) g g|_=>stuck "buildSlice: a part of the wrong size"):=λL l s m=>by
    have p:bD ρ I L ((IF<|g*f).map (l[.%l.size]!)) ((IF<|g*f).map (l[.%l.size]!)):=bD.plain λx R=>by grind[XO]
    rcases abB (λi=>U (i*f,f)) (h.mono<|bC H<|bC E s) p with⟨w,y⟩|⟨r,Q1,w,y,D⟩;.grind[T]
    .rw[w,y];refine W.bind' (Jy λb Q0=>e b<|by omega j D) ?_;rintro O a P A z;exact .pure' ⟨by simp[S,z.1],by simp[F,z.2]⟩
   split;.exact W.bind' (R:=λ_(a b)=>a=b/\∀c∈a,n c=Z) (.pure' ⟨rfl,by simp⟩)<|by rintro L l _ s⟨rfl,m⟩;exact Q3 L l s m
   .refine W.bind' (DT G j) ?_;rintro L v Q s⟨C,B⟩;refine W.bind' (R:=λ_(a b)=>a=b/\∀c∈a,n c=Z) (.pure' ⟨?_,MY B⟩) (by rintro O l _ A⟨rfl,m⟩;exact Q3 O l (bC s A) m);rw[C.2,(qT (ρ:=ρ) (I:=I) (N:=N) B).2]
 grind[T]
variable{ρ:Nat->Nat}{I:H}{q:bZ}{fs:Array dY}{N M:Nat}{α β:Type}
theorem aeR(t){v v'}(h:RV ρ I N v v'):W ρ I (J q fs) q (RV ρ I) N (FC t v)<|FC t v':=by refine W.bind' (MF h) ?_;grind[DU]
theorem as5(t){v v' x x'}(h:RV ρ I N v v')(d:RV ρ I N x x'):W ρ I (J q fs) q RU N (UO t v x)<|UO t v' x':=by refine W.bind' (MF h) ?_;rintro M a f c e;exact Rl t e<|d.mono c
theorem RV.slice{a}{n c}(h:S I N (aC a n c)=Z):∀b,a=U b->RA ρ I N b (dA ρ b):=by rintro b rfl;exact⟨by simpa[S]using h,rfl⟩
theorem RV.mkSlice{a a'}(n c)(h:∀b,a=U b->I.blk N b.block=Z)(e:a'=a.map (dA ρ)):RV ρ I N (aC a n c)<|aC a' n c:=by subst e;refine⟨?_,rfl⟩;cases a with|none=>simp[S]|some a=>simpa[S]using h a rfl
theorem aeU(t:dV){x x' i v:az}(y:RV ρ I N x x')(C:RV ρ I N i v):W ρ I (J q fs) q (RV ρ I) N (yo t x i)<|yo t x' v:=by
 unfold yo;refine W.bind' (JB C) ?_;rintro M⟨k,n⟩_ P rfl;dsimp only;have l:∀(K:Nat)(f:Option eF)(g:Nat)(h:dV),M<=K->(∀b,f=U b->I.blk K b.block=Z)->W ρ I (J q fs) q (RV ρ I) K (do let j:=g<=1&&match<-pB t with|.array ..=>Z|_=>ai match f with|some a=>if 0<=n/\n<g then bI<|aF<|U<|a.add<|n.toNat*(<-sizeOf h)else if j then vR<|yq "op/indexAddr.an index out of range at an array of length 0 or 1 (ledger 616)"else uC k n g A7|none=>uC k n 0 A7:cz az) (do let j:=g<=1&&match<-pB t with|.array ..=>Z|_=>ai match f.map (dA ρ)with|some a=>if 0<=n/\n<g then bI<|aF<|U<|a.add<|n.toNat*(<-sizeOf h)else if j then vR<|yq "op/indexAddr.an index out of range at an array of length 0 or 1 (ledger 616)"else uC k n g A7|none=>uC k n 0 A7:cz az):=λK f g h p m=>by refine W.bind' (gD t) ?_;rintro L d _ A rfl;cases f with|none=>grind[MK]|some a=>
   simp only[ee];by_cases s:0<=n/\n<g;.simp only[s,and_self,gL];refine W.bind' (nu h) ?_;rintro O w _ F rfl;exact .pure'<|RV.ptr<|RA.add (a:=a) ⟨H.ey (m a rfl)<|by omega,rfl⟩ _
   .simp only[s,ox];refine .dead ?_;have:∀b:Bool,u (J q fs) (if b=Z then vR<|yq "op/indexAddr.an index out of range at an array of length 0 or 1 (ledger 616)"else uC k n ↑g A7:cz az):=λb=>by
     split;.exact .halt _
     grind[UJ]
    exact this _
 refine W.bind' (gD t) ?_;rintro K d _ p rfl;obtain⟨o,rfl⟩:=y;split;.rename_i D B;refine W.bind' (MF ⟨ff (bC P p) o,rfl⟩) ?_;rintro L a E A r;have:=l L (U a) D B (by omega) (λb m=>by cases m;exact r.1);rw[ee,<-r.2]at this;grind
 .rename_i x h f g c;have z:=RV.slice (ρ:=ρ)<|ff (bC P p) o;exact l K f g h (by omega) λb m=>(z b m).1
 .exact .dead<|u.bind (.halt _) _
theorem Rn{v v'}(y)(c)(h:RV ρ I N v v'):W ρ I (J q fs) q RD N (CS v y c)<|CS v' y c:=by
 refine W.bind' (JB h) ?_;rintro M⟨k,n⟩_ b rfl;dsimp only;split;.exact .pure' rfl
 grind[MK]
def RO(ρ:Nat->Nat)(I:H)(N:Nat)(o o':Option az):Prop:=(∀v,o=U v->S I N v=Z)/\o'=o.map (F ρ)
theorem RO.mono{o o'}(h:RO ρ I N o o')(c:N<=M):RO ρ I M o o':=⟨λv b=>ff c<|h.1 v b,h.2⟩
theorem Rm(s)(b cap){d k i j mx As}(o:RO ρ I N d k)(n:RO ρ I N i j)(p:RO ρ I N mx As):W ρ I (J q fs) q RD N (Instr.sliceBounds s b cap d i mx)<|Instr.sliceBounds s b cap k j As:=by
 obtain⟨o,rfl⟩:=o;obtain⟨n,rfl⟩:=n;obtain⟨p,rfl⟩:=p;have e:∀(K h m:Nat),N<=K->W ρ I (J q fs) q RD K (do
    let l<-match d with|some v=>CS v h<|if mx.isSome then .slice3C else .sliceB|none=>bI 0
    bI (l,h,m)) (do
    let l<-match d.map (F ρ)with|some v=>CS v h<|if(mx.map<|F ρ).isSome then .slice3C else .sliceB|none=>bI 0
    bI (l,h,m)):=λK h m f=>by cases d with|none=>exact .pure' rfl|some v=>simp only[ah2];refine W.bind' (Rn h _ ⟨ff f<|o v rfl,rfl⟩) ?_;rintro L l _ g rfl;exact .pure' rfl
 have c:∀(K m),N<=K->W ρ I (J q fs) q RD K (do
    let h<-match i,mx with|some v,U _=>CS v m .slice3B|some v,V=>CS v m<|if s then .sliceAcap else .sliceAlen|none,V=>bI b|none,U _=>stuck "Slice: max without high"
    let l<-match d with|some v=>CS v h<|if mx.isSome then .slice3C else .sliceB|none=>bI 0
    bI (l,h,m)) (do
    let h<-match i.map<|F ρ,mx.map (F ρ)with|some v,U _=>CS v m .slice3B|some v,V=>CS v m<|if s then .sliceAcap else .sliceAlen|none,V=>bI b|none,U _=>stuck "Slice: max without high"
    let l<-match d.map (F ρ)with|some v=>CS v h<|if(mx.map<|F ρ).isSome then .slice3C else .sliceB|none=>bI 0
    bI (l,h,m)):=λK m f=>by cases i with
  |none=>cases mx with|none=>exact e K b m f|some w=>exact .dead<|u.bind (.halt _) _
  |some v=>cases mx with|none=>refine W.bind' (Rn m _ ⟨ff f<|n v rfl,rfl⟩) ?_;rintro L l _ g rfl;exact e L l m<|bC f g|some w=>refine W.bind' (Rn m _ ⟨ff f<|n v rfl,rfl⟩) ?_;rintro L l _ g rfl;exact e L l m<|bC f g
 cases mx with|none=>exact c N cap<|aQ _|some w=>refine W.bind' (Rn cap _ ⟨p w rfl,rfl⟩) ?_;rintro L m _ g rfl;exact c L m g
theorem as8(t:dV){x x':az}{y n A k mx As:Option az}(B:RV ρ I N x x')(s:RO ρ I N y n)(w:RO ρ I N A k)(v:RO ρ I N mx As):W ρ I (J q fs) q (RV ρ I) N (Instr.slice t x y A mx)<|Instr.slice t x' n k As:=by
 unfold Instr.slice;refine W.bind' (gD t) ?_;rintro M d _ i rfl;obtain⟨j,rfl⟩:=B;have e:As.isSome=mx.isSome:=by rw[v.2,ah2]
 split
 .simp only[F];rw[e];split;.exact .dead<|u.bind (.halt _) _
  .refine W.bind' (Rm ai _ _ (s.mono i) (w.mono i) (mx:=V) (As:=V) ⟨by simp,rfl⟩) ?_;rintro K⟨l,h,m⟩_ z rfl;exact .pure'<|RV.plain rfl
 .simp only[F];refine W.bind' (Rm Z _ _ (s.mono i) (w.mono i)<|v.mono i) ?_;rintro K⟨l,h,m⟩_ z rfl;refine W.bind' (nu _) ?_;rintro L f _ C rfl;have p:=RV.slice (ρ:=ρ) j;refine .pure'<|RV.mkSlice _ _ (λb g=>?_) ?_
  .split at g;.exact H.ey (p b g).1<|by omega
   .obtain⟨c,r,rfl⟩:=ze.1 g;exact H.ey ((p c r).add<|l*f).1<|by omega
  .split;.rfl
   .simp only[Option.map_map];refine Option.map_congr λc r=>?_;exact((p c r).add<|l*f).2
 .refine W.bind' (ML ⟨ff i j,rfl⟩) ?_;rintro K a D z o;refine W.bind' (gD _) ?_;rintro L d _ C rfl;split
  .refine W.bind' (Rm ai _ _ (s.mono<|by omega) (w.mono<|by omega)<|v.mono<|by omega) ?_;rintro O⟨l,h,m⟩_ R rfl;refine W.bind' (nu _) ?_;rintro P f _ E rfl;refine .pure'<|RV.mkSlice _ _ (λb g=>?_) ?_
   .simp only[dX]at g;subst g;split;.exact H.ey o.1<|by omega
    .exact H.ey (o.add<|l*f).1<|by omega
   .simp only[ee,dX];split;.exact o.2
    .exact(o.add<|l*f).2
  grind[T]
 grind[T]
theorem as7(t){x x'}{k i r g mx As}(n:RV ρ I N x x')(p:RO ρ I N k i)(u:RO ρ I N r g)(s:RO ρ I N mx As):W ρ I (J q fs) q (RV ρ I) N (Instr.sliceAt t x k r mx)<|Instr.sliceAt t x' i g As:=by
 refine W.bind' (gD t) ?_;rintro M d _ f rfl;split
 .refine W.bind' (MF<|n.mono f) ?_;rintro K a v w j;refine W.bind' (Rm ai _ _ (p.mono<|by omega) (u.mono<|by omega)<|s.mono<|by omega) ?_;rintro O⟨l,h,m⟩_ z rfl;refine W.bind' (nu _) ?_;rintro P e _ y rfl;refine .pure'<|RV.mkSlice _ _ (λb o=>?_) ?_
  .simp only[dX]at o;subst o;split;.exact H.ey j.1<|by omega
   .exact H.ey (j.add<|l*e).1<|by omega
  .simp only[ee,dX];split;.exact j.2
   .exact(j.add<|l*e).2
 .exact as8 t (n.mono f) (p.mono f) (u.mono f)<|s.mono f
theorem at5(t){x x'}(h:RV ρ I N x x'):W ρ I (J q fs) q (RV ρ I) N (aE0 t x)<|aE0 t x':=by
 refine W.bind' (gD t) ?_;rintro M d _ f rfl;split
 .obtain⟨e,rfl⟩:=h;split
  .simp only[F];rename_i a g c;split;.grind[Jw]
   .refine .pure' ⟨?_,rfl⟩;cases a with|none=>simp[S]|some a=>simpa[S]using H.ey ((RV.slice (ρ:=ρ) e) a rfl).1 f
  grind[T]
 grind[T]
theorem atz(t){x x'}(b:RV ρ I N x x'):W ρ I (J q fs) q (RV ρ I) N (Instr.makeInterface t x)<|Instr.makeInterface t x':=by
 refine W.bind' (gD t) ?_;rintro M d _ c rfl;split;.grind[T]
 .exact .pure' ⟨by simpa[S]using ff c b.1,by simp only[F,b.2]⟩
theorem aty(i:∀b,N<=b->I.F b=Z)(t){r c}(h:RO ρ I N r c):W ρ I (J q fs) q (RV ρ I) N (Lt t r)<|Lt t c:=by
 unfold Lt;obtain⟨j,rfl⟩:=h;have f:∀K,N<=K->W ρ I (J q fs) q (RV ρ I) K (do bI<|bW<|U<|<-newObj<|iY #[] 0) (do bI<|bW<|U<|<-newObj<|iY #[] 0):=λK k=>by
  have e:iY #[] 0=fa ρ (iY #[] 0):=by simp[fa]
  have h:=Jz (ρ:=ρ) (q:=q) (fs:=fs) (o:=iY #[] 0) (i K k) (by simp[er]);rw[<-e]at h;refine W.bind' h ?_;rintro L r c m⟨rfl,_,rfl,l⟩;exact .pure' ⟨by simpa[S]using l,rfl⟩
 cases r with|none=>grind|some v=>
  refine W.bind' (gD t) ?_;rintro M d _ g rfl;split;.refine W.bind' (JC ⟨ff g<|j v rfl,rfl⟩) ?_;grind
  .exact .dead<|u.bind (.halt _) _
theorem atx(B:∀b,N<=b->I.F b=Z)(z:tf q)(t:dV){l l' c v:az}(C:RV ρ I N l l')(y:RV ρ I N c v):W ρ I (J q fs) q (RV ρ I) N (amr t l c)<|amr t l' v:=by
 unfold amr;refine W.bind' (gD t) ?_;rintro M d _ A rfl;split
 .rename_i f;refine W.bind' (JC<|C.mono A) ?_;rintro K s _ H rfl;refine W.bind' (JC<|y.mono<|by omega) ?_;rintro L m _ Q0 rfl;refine W.bind' (rO f) ?_;rintro O i _ e⟨rfl,Q3⟩;dsimp only;split
  .refine .dead ?_;split;.exact u.bind (lW _ _) _
   .split;.exact u.bind (lW _ _) _
    .exact u.then _ λ_=>u.bind (lW _ _) _
  .refine W.bind' (afd _) ?_;rintro P _ _ Q2 _;refine W.bind' (nu f) ?_;rintro Q g _ X rfl;have k:∀(Q1:Nat)(h:Array az),Q<=Q1->(∀c∈h,n c=Z)->W ρ I (J q fs) q (RV ρ I) Q1 (do let a<-newRow f ((IF<|(aG.wrap m).toNat*g).map (h[.%h.size]!))bI<|aC (U a) (aG.wrap s).toNat (aG.wrap m).toNat:cz az) (do let a<-newRow f ((IF<|(aG.wrap m).toNat*g).map (h[.%h.size]!))bI<|aC (U a) (aG.wrap s).toNat (aG.wrap m).toNat:cz az):=λQ1 h o j=>by
    have QX:bD ρ I Q1 ((IF<|(aG.wrap m).toNat*g).map (h[.%h.size]!)) ((IF<|(aG.wrap m).toNat*g).map (h[.%h.size]!)):=bD.plain λx G=>by grind[XO]
    refine W.bind' (Jy λb R=>B b<|by omega f QX) ?_;rintro V a D p r;exact .pure' ⟨by simp[S,r.1],by simp[F,r.2]⟩
   split;.exact W.bind' (R:=λ_(a b:Array az)=>a=b/\∀c∈a,n c=Z) (.pure' ⟨rfl,by simp⟩)<|by rintro Q1 h _ o⟨rfl,j⟩;exact k Q1 h o j
   .refine W.bind' (DT z f) ?_;rintro Q1 Y E o⟨w,QW⟩;refine W.bind' (R:=λ_(a b:Array az)=>a=b/\∀c∈a,n c=Z) (.pure' ⟨?_,MY QW⟩) (by rintro V h _ p⟨rfl,j⟩;exact k V h (bC o p) j);rw[w.2,(qT (ρ:=ρ) (I:=I) (N:=N) QW).2]
 grind[T]
theorem atH(t)(i){x x'}(b:RV ρ I N x x'):W ρ I (J q fs) q (RV ρ I) N (Instr.field t x i)<|Instr.field t x' i:=by
 refine W.bind' (gD t) ?_;rintro M d _ c rfl;split
 .split;.refine W.bind' (at4<|b.mono c) ?_;grind[wH]
  grind[T]
 grind[T]
theorem atG(t){x x' i f}(h:RV ρ I N x x')(g:RV ρ I N i f):W ρ I (J q fs) q (RV ρ I) N (PC t x i)<|PC t x' f:=by
 refine W.bind' (JB g) ?_;rintro M⟨k,n⟩_ j rfl;refine W.bind' (gD t) ?_;rintro K d _ m rfl;obtain⟨c,rfl⟩:=h;split
 .simp only[F];split;.refine W.bind' (nu _) ?_;rintro L e _ o rfl;exact wH _ _<|(bD.Ei c).mono<|by omega
  grind[MK]
 .simp only[F];rename_i s;cases l:if 0<=n then s[n.toNat]? else V with|some b=>exact .pure'<|RV.plain rfl|none=>grind[MK]
 grind[T]
theorem ae1(i){x x'}(f:RV ρ I N x x'):W ρ I (J q fs) q (RV ρ I) N (ID x i)<|ID x' i:=by
 unfold ID;obtain⟨b,rfl⟩:=f;split;.simp only[F];rename_i e;cases c:e[i]? with|some v=>obtain⟨d,g⟩:=(bD.awM (ρ:=ρ) b).get c;rw[g];exact .pure' ⟨d,rfl⟩|none=>grind[T]
 grind[T]
theorem RA.blk{a a'}(h:RA ρ I N a a'):I.blk N a.block=Z/\a'.block=ρ a.block:=⟨h.1,by rw[h.2];rfl⟩
theorem aeE{r}(h:I.blk N r=Z):W ρ I (J q fs) q (λ_ a b=>a=V/\b=V) N (viewAt r)<|viewAt<|ρ r:=by
 unfold viewAt;refine W.bind' (BG h) ?_;rintro M s _ c rfl;split;.exact .pure' ⟨rfl,rfl⟩
 .refine W.bind' (wI<|H.ey h c) ?_;rintro K o f e⟨d,rfl⟩;cases o<;>first|exact .pure' ⟨rfl,rfl⟩|cases d
theorem aeL{r}(h:I.blk N r=Z):W ρ I (J q fs) q (λN a b=>a=V/\b=V\/∃x y l,a=U (x,l)/\b=(y,l)/\RA ρ I N x y) N (numberAt r)<|numberAt<|ρ r:=by
 unfold numberAt;refine W.bind' (BG h) ?_;rintro M s _ d rfl;split;.exact .pure'<|ay ⟨rfl,rfl⟩
 .refine W.bind' (wI<|H.ey h d) ?_;rintro K o f e⟨c,rfl⟩;cases o<;>first|exact .pure'<|ay ⟨rfl,rfl⟩|cases c|exact .pure'<|aB ⟨_,_,_,rfl,rfl,c,rfl⟩
theorem JA{a a'}(h:RA ρ I N a a'):W ρ I (J q fs) q (λN x y=>RA ρ I N x.1 y.1/\x.2=y.2) N (behindNumber a)<|behindNumber a':=by
 unfold behindNumber;obtain⟨b,rfl⟩:=h;refine W.bind' (aeL b) ?_;rintro M _ _ d(⟨rfl,rfl⟩|⟨x,y,l,rfl,rfl,c⟩);.exact .pure' ⟨⟨H.ey b d,rfl⟩,rfl⟩
 .exact .pure' ⟨c,rfl⟩
theorem WZ{a a'}(h:RA ρ I N a a'):W ρ I (J q fs) q RU N (noView a)<|noView a':=by unfold noView;obtain⟨b,rfl⟩:=h;refine W.bind' (aeE b) ?_;rintro M _ _ c⟨rfl,rfl⟩;exact .pure' trivial
theorem amZ(d):∀(t)(a),byteOfCell (J q fs) d t a=byteOfCell q d t a:=by induction d with|zero=>intro t a;rfl|succ d b=>intro t a;rw[byteOfCell,byteOfCell];simp only[b];rfl
theorem Gm{a a'}(h:RA ρ I N a a'):W ρ I (J q fs) q RD N (byteOf a)<|byteOf a':=by
 unfold byteOf;have f:a'.spot=a.spot:=by rw[h.2];rfl
 have d:a'.off=a.off:=by rw[h.2];rfl
 rw[f,d];split;.exact .pure' rfl
 .refine W.bind' mG ?_;rintro M p b c⟨rfl,rfl⟩;refine W.bind' (WZ<|h.mono c) ?_;rintro K _ _ k _;rw[h.blk.2];refine W.bind' (BG<|H.ey h.1<|by omega) ?_;rintro L s _ l rfl;split
  .rename_i e n;have g:(J b fs).cellsOf e=b.cellsOf e:=rfl;have j:(J b fs).bytesOf e=b.bytesOf e:=rfl;have i:(J b fs).depth=b.depth:=rfl;dsimp only;rw[g,i,amZ,j];split;.exact .pure' rfl
   .split;.exact .pure' rfl
    grind[T]
  grind[T]
theorem atg{a a'}(h:RA ρ I N a a')(c b):W ρ I (J q fs) q (RA ρ I) N (partAt a c b)<|partAt a' c b:=by
 unfold partAt;refine W.bind' (Gm h) ?_;rintro M x _ f rfl;dsimp only;have d:RA ρ I M {block:=a.block,off:=a.off+c} {block:=a'.block,off:=a'.off+c}:=⟨H.ey h.1 f,by rw[h.2];rfl⟩;refine W.bind' (Gm d) ?_;rintro K y _ e rfl;split;.exact .pure'<|d.mono e
 .exact .pure' ⟨(d.mono e).1,by rw[h.2];rfl⟩
theorem Xm{a a'}(h:RA ρ I N a a')(f):W ρ I (J q fs) q (RA ρ I) N (fieldPlace a f)<|fieldPlace a' f:=by
 unfold fieldPlace;refine W.bind' (nu _) ?_;rintro M x _ b rfl;split;.exact atg (h.mono b) _ _
 .exact .pure'<|(h.mono b).add _
theorem ae0(s)(i){x x'}(h:RV ρ I N x x'):W ρ I (J q fs) q (RV ρ I) N (zL s x i)<|zL s x' i:=by
 unfold zL;refine W.bind' (gD s) ?_;rintro M d _ c rfl;split
 .split;.refine W.bind' (MF<|h.mono c) ?_;rintro K a g k e;refine W.bind' (Xm e _) ?_;rintro L b j l f;exact .pure'<|RV.ptr f
  grind[T]
 grind[T]
theorem aeH{a a'}(h:RA ρ I N a a'):W ρ I (J q fs) q RD N (stringish a)<|stringish a':=by
 unfold stringish;refine W.bind' (Rt h) ?_;rintro M b _ c rfl;split;.exact .pure' rfl
 .rw[h.blk.2];refine W.bind' (BG<|H.ey h.1 c) ?_;rintro K s _ d rfl;split;.rename_i e n;exact Rt (a:={block:=a.block,off:=n}) ⟨H.ey h.1<|by omega,rfl⟩
  .exact .pure' rfl
theorem aeM{a a'}(h:RA ρ I N a a'):W ρ I (J q fs) q RD N (do bI<|(<-shape a.block)matches U (_,0)) (do bI<|(<-shape a'.block)matches U (_,0)):=by rw[h.blk.2];refine W.bind' (BG h.1) ?_;rintro M s _ b rfl;exact .pure' rfl
theorem atq{a a' b c}(h:RA ρ I N a a')(d:RA ρ I N b c):W ρ I (J q fs) q RD N (mayBeOne a b)<|mayBeOne a' c:=by unfold mayBeOne;dsimp only;refine W.bind' (aeH h) ?_;rintro M f _ e rfl;refine W.bind' (aeH<|d.mono e) ?_;rintro K i _ l rfl;refine W.bind' (aeM<|h.mono<|by omega) ?_;rintro L k _ m rfl;refine W.bind' (aeM<|d.mono<|by omega) ?_;rintro O g _ j rfl;exact .pure' rfl
theorem U5{ρ}(d:∀a b,ρ a=ρ b->a=b)(a b):(dA ρ a==dA ρ b)=(a==b):=by
 have:dA ρ a=dA ρ b↔a=b:=by
  constructor;.intro h;cases a;cases b;grind[dA,Addr.mk.injEq]
  grind
 grind
theorem aeJ(c:Fair ρ q){a a' b g}(d:RA ρ I N a a')(f:RA ρ I N b g):W ρ I (J q fs) q RD N (sameAddr a b)<|sameAddr a' g:=by
 unfold sameAddr;have i:(a'.block==g.block)=(a.block==b.block):=by
  rw[d.blk.2,f.blk.2];by_cases h:a.block=b.block;.simp[h]
  .rw[Ns.2 h,Ns.2 λe=>h<|c.inj _ _ e]
 have k:(a'==g)=(a==b):=by rw[d.2,f.2];exact U5 c.inj a b
 rw[i,k];split;.exact .pure' rfl
 .refine W.bind' (Rt d) ?_;rintro M l _ j rfl;refine W.bind' (Rt<|f.mono j) ?_;rintro K p _ s rfl;split;.exact .dead<|u.bind (.halt _) _
  .refine W.bind' (WZ<|d.mono<|by omega) ?_;rintro L _ _ t _;refine W.bind' (WZ<|f.mono<|by omega) ?_;rintro O _ _ r _;refine W.bind' (atq (d.mono<|by omega)<|f.mono<|by omega) ?_;rintro P m _ o rfl;split;.refine W.bind' (Gl _) ?_;rintro Q n _ v rfl;exact .pure' rfl
   .exact .pure' rfl
theorem ata(c:Fair ρ q){a b}(d:∀x,a=U x->I.blk N x.block=Z)(e:∀x,b=U x->I.blk N x.block=Z):W ρ I (J q fs) q RD N (samePointer a b)<|samePointer (a.map<|dA ρ)<|b.map<|dA ρ:=by
 cases a<;>cases b;.exact .pure' rfl
 .exact .pure' rfl
 .exact .pure' rfl
 .exact aeJ c ⟨d _ rfl,rfl⟩ ⟨e _ rfl,rfl⟩
def Me{σ τ:Type}(R:Nat->σ->τ->Prop)(N:Nat)(a:ForInStep σ)(b:ForInStep τ):Prop:=(∃x y,a=.done x/\b=.done y/\R N x y)\/∃x y,a=.yield x/\b=.yield y/\R N x y
theorem Ru{t σ s:Type}{R:Nat->σ->s->Prop}(k:∀N M a b,N<=M->R N a b->R M a b)(g:t->t){f:t->σ->cz (ForInStep σ)}{f':t->s->cz (ForInStep s)}:∀(l:List t)(N:Nat)(a:σ)(b:s),(∀x∈l,∀M a b,N<=M->R M a b->W ρ I (J q fs) q (Me R) M (f x a) (f' (g x) b))->R N a b->W ρ I (J q fs) q R N (forIn l a f) (forIn (l.map g) b f')
 |[],N,a,b,_,h=>by simp only[qs,List.forIn_nil];exact .pure' h|x::l,N,a,b,d,h=>by
  simp only[gh,List.forIn_cons];refine W.bind' (d x (by simp) N a b (aQ _) h) ?_;rintro M n m e(⟨u,v,rfl,rfl,c⟩|⟨u,v,rfl,rfl,c⟩);.exact .pure' c
  .exact Ru k g l M u v (λy i K a b j=>d y (by simp[i]) K a b<|bC e j) c
theorem Xi{t σ s:Type}{R:Nat->σ->s->Prop}(g:∀N M a b,N<=M->R N a b->R M a b){f}{f'}(l:Array t)(N)(a)(b)(e:∀x∈l,∀M a b,N<=M->R M a b->W ρ I (J q fs) q (Me R) M (f x a) (f' x b))(h:R N a b):W ρ I (J q fs) q R N (forIn l a f)<|forIn l b f':=by rw[<-Nr,<-Nr];have:=Ru (ρ:=ρ) (I:=I) (q:=q) (fs:=fs) g id l.toList N a b (f:=f) (f':=f') (λx i M a b d=>e x (by grind) M a b d) h;grind[List.map_id]
theorem Xh{σ d}{R:Nat->σ->d->Prop}(i:∀N M a b,N<=M->R N a b->R M a b){f}{f'}(n)(N)(a)(b)(g:∀x M a b,N<=M->R M a b->W ρ I (J q fs) q (Me R) M (f x a) (f' x b))(h:R N a b):W ρ I (J q fs) q R N (forIn [0:n] a f)<|forIn [0:n] b f':=by rw[ah1,ah1];have:=Ru (ρ:=ρ) (I:=I) (q:=q) (fs:=fs) i id (List.range' 0 (Std.Legacy.Range.size [0:n]) 1) N a b (f:=f) (f':=f') (λx j M a b e=>g x M a b e) h;grind[List.map_id]
theorem bD.zV{cs}(h:S I N (bO cs)=Z)(a:N<=M):bD ρ I M cs<|oe ρ cs:=(bD.Ei h).mono a
theorem anw(d):∀(t u),(J q fs).alikeButTags d t u=q.alikeButTags d t u:=by induction d with|zero=>intro t u;rfl|succ d a=>intro t u;rw[aEY,aEY];simp only[a];rfl
theorem ajX(t):(J q fs).stoodInHeld t=q.stoodInHeld t:=by unfold Program.stoodInHeld Program.stoodInAs;have:(J q fs).depth=q.depth:=rfl;simp only[anw,this];rfl
theorem akZ(d):∀(t),(J q fs).eqGuardType d t=q.eqGuardType d t:=by induction d with|zero=>intro t;rfl|succ d a=>intro t;rw[Program.eqGuardType,Program.eqGuardType];simp only[a];rfl
theorem ae3(j:Fair ρ q)(d):∀(N)(t)(x x' y QW),RV ρ I N x x'->RV ρ I N y QW->W ρ I (J q fs) q RD N (s8 d t x y) (s8 d t x' QW):=by induction d with|zero=>intro N t x x' y QW _ _;exact iG _ _|succ d R=>
  intro N t x x' y QW QX X;rw[s8,s8];refine W.bind' (gD t) ?_;rintro M Q1 _ w rfl;obtain⟨l,rfl⟩:=QX;obtain⟨k,rfl⟩:=X;split;case h_1=>exact .pure' rfl
  case h_2=>simp only[F];split;exact .pure' rfl;grind[T]
  case h_3=>exact .pure' rfl
  case h_4=>exact .pure' rfl
  case h_5 a b=>
   simp only[F,ee];refine W.bind' (JA<|RA.rS<|ff w l) ?_;rintro K Qw E o⟨A,_⟩;refine W.bind' (JA<|RA.rS<|ff (bC w o) k) ?_;rintro L v H C⟨B,_⟩;refine W.bind' mG ?_;rintro L' p D Fa⟨rfl,rfl⟩;have e1:(E.1.block==H.1.block&&bP (E.1.block<D.globals.size))=(Qw.1.block==v.1.block&&bP (Qw.1.block<(J D fs).globals.size)):=by
    show _=(Qw.1.block==v.1.block&&bP (Qw.1.block<D.globals.size));rw[(A.mono C).blk.2,B.blk.2];congr 1
    .by_cases h:Qw.1.block=v.1.block;.simp[h]
     .rw[Ns.2 h,Ns.2 λe=>h<|j.inj _ _ e]
    .by_cases h:Qw.1.block<=D.globals.size;.rw[j.fix _ h]
     .have:=j.over Qw.1.block (by omega);grind
   rw[e1];split;.refine W.bind' (Gm<|A.mono<|by omega) ?_;rintro O m _ QZ rfl;refine W.bind' (Gm<|B.mono<|by omega) ?_;rintro P n _ G rfl;exact .pure' rfl
   .refine W.bind' (rO t) ?_;rintro O i _ QZ⟨rfl,_⟩;split
    .have:(E.1==H.1)=(Qw.1==v.1):=by rw[A.2,B.2];exact U5 j.inj _ _
     rw[this];split;.exact .pure' rfl
     .exact iG _ _
    .exact iG _ _
  case h_6=>exact iG _ _
  case h_7=>exact iG _ _
  case h_8=>simp only[F];split;exact .pure' rfl;grind[T]
  case h_9=>simp only[F];split;exact .pure' rfl;grind[T]
  case h_10=>exact .pure' rfl
  case h_11 b=>simp only[F,Kh];exact .pure'<|by simp[RD]
  case h_12 a _=>cases a<;>first|exact .pure' rfl|simp_all
  case h_13 a b=>
   simp only[F,ee];refine W.bind' (nu _) ?_;rintro K n _ o rfl;rw[U5 j.inj];split;.exact aeJ j ((RA.rS (ρ:=ρ)<|ff w l).mono o)<|(RA.rS (ρ:=ρ)<|ff w k).mono o
   .split;.exact .pure' rfl
    .refine W.bind' (Gl _) ?_;rintro L c _ C rfl;exact .pure' rfl
  case h_14=>exact ata j (λx QX=>by subst QX;exact(RA.rS (ρ:=ρ)<|ff w l).1) λx QX=>by subst QX;exact(RA.rS (ρ:=ρ)<|ff w k).1
  case h_15=>rename_i a b;cases a<;>cases b<;>first|exact .pure' rfl|simp[S]at l|simp[S]at k
  case h_16=>exact .pure' rfl
  case h_17=>exact .pure' rfl
  case h_18=>exact .pure' rfl
  case h_19=>
   rename_i tx vx ty vy;simp only[F];split;.exact .pure' rfl
   .refine W.bind' (rO _) ?_;rintro K i _ o⟨rfl,_⟩;split
    .refine .dead ?_;exact u.then _ λp=>u.then _ λD=>by
      split;.exact u.bind (.halt _) _
      .exact u.then _ λ_=>lW _ _
    .exact R K tx _ _ _ _ ⟨ff (bC w o)<|by grind[S],rfl⟩ ⟨ff (bC w o)<|by grind[S],rfl⟩
  case h_20=>
   rename_i s Q3 Q2;simp only[F];refine W.bind' mG ?_;rintro K p D o⟨rfl,rfl⟩;rw[ajX];split;.exact .dead<|u.bind (.halt _) _
   .refine W.bind' (R:=RD) (Xi (λN M a b _ h=>h) s K _ _ (λf hf L a b C z=>?_) rfl) ?_
    .cases z;split
     .refine W.bind' (wH _ _<|bD.zV l<|by omega) ?_;rintro O Qw E QZ A;refine W.bind' (wH _ _<|bD.zV k<|by omega) ?_;rintro P v H G B;refine W.bind' (R P _ _ _ _ _ (A.mono G) B) ?_;rintro Q b _ Q0 rfl;split;.exact .pure'<|ay ⟨_,_,rfl,rfl,rfl⟩
      .exact .pure'<|aB ⟨_,_,rfl,rfl,rfl⟩
     .exact .pure'<|aB ⟨_,_,rfl,rfl,rfl⟩
    .rintro L r _ C rfl;split<;>exact .pure' rfl
  case h_21=>
   rename_i QY g Q3 Q2;simp only[F];refine W.bind' (nu _) ?_;rintro K n _ o rfl;refine W.bind' (R:=RD) (Xh (λN M a b _ h=>h) QY K _ _ (λi L a b C z=>?_) rfl) ?_
   .cases z;refine W.bind' (wH _ _<|bD.zV l<|by omega) ?_;rintro O Qw E QZ A;refine W.bind' (wH _ _<|bD.zV k<|by omega) ?_;rintro P v H G B;refine W.bind' (R P _ _ _ _ _ (A.mono G) B) ?_;rintro Q b _ Q0 rfl;split;.exact .pure'<|ay ⟨_,_,rfl,rfl,rfl⟩
    .exact .pure'<|aB ⟨_,_,rfl,rfl,rfl⟩
   .rintro L r _ C rfl;split<;>exact .pure' rfl
  case h_22 b _ _=>simp only[F,Kh];exact .pure'<|by simp[RD]
  case h_23 a _ _ _ _ _=>cases a<;>first|exact .pure' rfl|simp_all
  case h_24 b=>simp only[F,Kh];exact .pure'<|by simp[RD]
  case h_25 a _=>cases a<;>first|exact .pure' rfl|simp_all
  case h_26=>exact .pure' rfl
  case h_27=>exact .pure' rfl
  case h_28=>exact .pure' rfl
  all_goals exact T _ _
theorem aFm(d):∀(t)(b),cellOfByte (J q fs) d t b=cellOfByte q d t b:=by induction d with|zero=>intro t b;rfl|succ d a=>intro t b;rw[cellOfByte,cellOfByte];simp only[a];rfl
theorem aFn(d)(t)(c o)(b):cellAtBytes (J q fs) d t c o b=cellAtBytes q d t c o b:=by unfold cellAtBytes;simp only[aFm,amZ];rfl
theorem Rj(d)(t){x x' y i}(m:RV ρ I N x x')(o:RV ρ I N y i):W ρ I (J q fs) q (RV ρ I) N (LA d t #[x,y])<|LA d t #[x',i]:=by
 obtain⟨h,rfl⟩:=m;cases x<;>first|exact T _ _|skip
 rename_i b;show W ρ I (J q fs) q (RV ρ I) N (LA d t #[aF b,y])<|LA d t #[aF<|b.map<|dA ρ,i];unfold LA;refine W.bind' (JC o) ?_;rintro M n _ j rfl;dsimp only;cases b with
 |none=>
  split;.exact iG _ _
  .split;.exact .dead<|u.bind (.halt _) _
   .exact iG _ _|some a=>
  have c:=RA.rS (ρ:=ρ) h;simp only[ee];split;.rw[c.blk.2];refine W.bind' (aeE<|H.ey c.1 j) ?_;rintro K _ _ v⟨rfl,rfl⟩;exact .pure'<|RV.ptr<|c.mono<|by omega
  .split;.exact .dead<|u.bind (.halt _) _
   .rw[c.blk.2];refine W.bind' (BG<|H.ey c.1 j) ?_;rintro K s _ v rfl;split
    .rename_i e g;refine W.bind' mG ?_;rintro L p f w⟨rfl,rfl⟩;have r:(J f fs).cellsOf e=f.cellsOf e:=rfl;have P:(J f fs).depth=f.depth:=rfl;rw[aFn,r,P];have l:(dA ρ a).off=a.off:=rfl;rw[l];split;.rename_i off _;exact .pure'<|RV.ptr (a:={a with off}) ⟨H.ey c.1<|by omega,rfl⟩
     .exact iG _ _
    .exact iG _ _
theorem at3(d:∀b,N<=b->I.F b=Z){a a'}(h:RA ρ I N a a')(l):W ρ I (J q fs) q (RV ρ I) N (asNumber a l)<|asNumber a' l:=by
 unfold asNumber;have e:Obj.number a' l=fa ρ (.number a l):=by rw[h.2];simp[fa]
 have c:=Jz (ρ:=ρ) (q:=q) (fs:=fs) (o:=.number a l) (d N<|aQ _) (by simpa[er]using h.1);rw[<-e]at c;refine W.bind' c ?_;rintro L r g i⟨rfl,_,rfl,f⟩;exact .pure'<|RV.ptr ⟨f,rfl⟩
theorem Xc(G:∀b,N<=b->I.F b=Z)(t){x x' y i}(w:RV ρ I N x x')(h:RV ρ I N y i):W ρ I (J q fs) q (RV ρ I) N (movedNumber t x y)<|movedNumber t x' i:=by
 unfold movedNumber;refine W.bind' (gD t) ?_;rintro M d _ s rfl;dsimp only;have r:W ρ I (J q fs) q (RV ρ I) M (do
    let aF<|U n:=x|Builtin.unsafeAdd_ #[] t #[x,y]
    let(a,lost)<-behindNumber n;match<-LA #[] t #[aF a,y]with|aF<|U b=>asNumber b lost|v=>bI v) (do
    let aF<|U n:=x'|Builtin.unsafeAdd_ #[] t #[x',i]
    let(a,lost)<-behindNumber n;match<-LA #[] t #[aF a,i]with|aF<|U b=>asNumber b lost|v=>bI v):=by
  have h:=h.mono s;obtain⟨g,rfl⟩:=w.mono s;by_cases hp:∃n,x=aF (U n)
  ·obtain⟨n,rfl⟩:=hp;simp only[F,ee];refine W.bind' (JA<|RA.rS g) ?_;rintro K⟨a,l⟩⟨B,A⟩z⟨p,P⟩;simp only at p P⊢;subst P;refine W.bind' (Rj _ _ (RV.ptr p)<|h.mono z) ?_;rintro L v C D⟨m,rfl⟩;have j:(∃b,v=aF (U b))∨∀b,v≠aF (U b):=by grind
   rcases j with⟨b,rfl⟩|E;·grind[F,at3,RA.rS]
   ·have k:∀b,F ρ v≠aF (U b):=λb e=>by
     cases v<;>simp only[F]at e<;>try cases e
     rename_i o;cases o with|none=>simp at e|some c=>grind
    split;·grind
    ·exact .pure' ⟨m,rfl⟩
  ·have k:∀b,F ρ x≠aF (U b):=λb e=>by
    cases x<;>simp only[F]at e<;>try cases e
    rename_i o;cases o with|none=>simp at e|some c=>grind
   split;·grind
   ·exact Rj _ _ ⟨g,rfl⟩ h
 split;·exact .dead<|u.halt _
 grind
theorem atl(t){x x' y h}(f:RV ρ I N x x')(i:RV ρ I N y h):W ρ I (J q fs) q (RV ρ I) N (movedPointer t x y)<|movedPointer t x' h:=by
 unfold movedPointer;by_cases hp:∃n,x=aF (U n)
 .obtain⟨n,rfl⟩:=hp;have d:=f;obtain⟨a,rfl⟩:=f;have k:=RA.rS (ρ:=ρ) a;simp only[F,ee];refine W.bind' (aeL k.1) ?_;rintro M _ _ g(⟨rfl,rfl⟩|⟨P,v,l,rfl,rfl,m⟩);.exact Rj #[] t (d.mono g)<|i.mono g
  .exact .dead<|u.halt _
 .have j:∀b,F ρ x≠aF (U b):=λb e=>by
   cases x<;>simp only[F]at e<;>try cases e
   rename_i o;cases o with|none=>simp at e|some c=>grind
  obtain⟨a,rfl⟩:=f;split;.grind
  .exact Rj #[] t ⟨a,rfl⟩ i
theorem aeG(c:Fair ρ q){a a' b d}(f:RA ρ I N a a')(g:RA ρ I N b d):W ρ I (J q fs) q RD N (Op.twoPlaces a b)<|Op.twoPlaces a' d:=by
 unfold Op.twoPlaces;refine W.bind' mG ?_;rintro M p e j⟨rfl,rfl⟩;by_cases h:(a.block !=b.block||decide (a.block≥(J e fs).globals.size))=Z;·dsimp only;rw[cJ h];exact .dead<|u.bind (.halt _) _
 ·have k:¬(a'.block !=d.block||decide (a'.block≥e.globals.size))=Z:=by
   simp only[jT,bne_iff_ne,ne_eq,eU,not_or,Decidable.not_not]at h⊢;rw[f.blk.2,g.blk.2,h.1];have i:a.block<e.globals.size:=by grind[J]
   refine⟨rfl,?_⟩;rw[<-h.1,c.fix _<|by omega];omega
  dsimp only;rw[if_neg h,if_neg k];refine W.bind' (Gm<|f.mono j) ?_;rintro K x _ l rfl;refine W.bind' (Gm<|g.mono<|by omega) ?_;rintro L y _ m rfl;exact .pure' rfl
theorem aub(c:Fair ρ q)(k){a a' b d}(e:RA ρ I N a a')(f:RA ρ I N b d):W ρ I (J q fs) q (RV ρ I) N (Op.addrSub k a b)<|Op.addrSub k a' d:=by unfold Op.addrSub;refine W.bind' (aeG c e f) ?_;rintro M⟨x,y⟩_ g rfl;exact .pure'<|RV.plain rfl
theorem auc(c:Fair ρ q)(e){a a' b d}(f:RA ρ I N a a')(g:RA ρ I N b d):W ρ I (J q fs) q (RV ρ I) N (Op.addrCmp e a b)<|Op.addrCmp e a' d:=by unfold Op.addrCmp;refine W.bind' (aeG c f g) ?_;rintro M⟨x,y⟩_ h rfl;dsimp only;split<;>first|exact .pure'<|RV.plain rfl|exact iG _ _
theorem aff(k)(n){a a'}(b:RA ρ I N a a'):W ρ I (J q fs) q (RV ρ I) N (Op.addrMod k a n)<|Op.addrMod k a' n:=by
 unfold Op.addrMod;rw[b.blk.2];refine W.bind' (BG b.1) ?_;rintro M s _ c rfl;split
 .refine W.bind' (rO _) ?_;rintro K i _ d⟨rfl,_⟩;dsimp only;split;.exact .dead<|u.bind (.halt _) _
  .refine W.bind' (Gm<|b.mono<|by omega) ?_;rintro L x _ e rfl;exact .pure'<|RV.plain rfl
 .exact iG _ _
theorem asY(b){x x'}(d:RV ρ I N x x'):W ρ I (J q fs) q (RV ρ I) N (Op.unary b x)<|Op.unary b x':=by obtain⟨c,rfl⟩:=d;cases b<;>cases x<;>first|exact T _ _|exact .pure<|RV.plain rfl|(simp[S]at c;done)|(rename_i a;cases a<;>first|exact T _ _|exact iG _ _)
theorem atF(c)(t)(k k')(a b):W ρ I (J q fs) q (RV ρ I) N (gF c t (Y k a)<|Y k' b)<|gF c t (Y k a)<|Y k' b:=by cases c<;>(unfold gF;dsimp only[Op.shift,Op.intArith,Op.intDiv,Op.intBits,Op.intCmp];repeat' split)<;>first|exact T _ _|exact .dead<|lW _ _|exact .pure'<|RV.plain rfl|exact .pure<|RV.plain rfl
theorem as3(c)(a b):W ρ I (J q fs) q (RV ρ I) N (Pz c a b)<|Pz c a b:=by cases c<;>(unfold Pz;dsimp only;repeat' split)<;>first|exact T _ _|exact iG _ _|exact .pure'<|RV.plain rfl|exact .pure<|RV.plain rfl
theorem aFL(c)(t)(a b):gF c t (aE a) (aE b)=Pz c a b:=by cases c<;>rfl
theorem as4(c)(t)(a b):W ρ I (J q fs) q (RV ρ I) N (gF c t (aE a)<|aE b)<|gF c t a b:=by grind[aFL,as3]
theorem ae4(c:Fair ρ q)(t)(f:Bool->Bool){x x' y a}(d:RV ρ I N x x')(e:RV ρ I N y a):W ρ I (J q fs) q (RV ρ I) N (do bI<|f<|<-Op.equal t x y) (do bI<|f<|<-Op.equal t x' a):=by refine W.bind' (ae3 c _ N t x x' y a d e) ?_;rintro M b _ g rfl;exact .pure'<|RV.plain rfl
set_option maxHeartbeats 2000000 in
theorem afb(k:∀b,N≤b→I.F b=Z)(e:Fair ρ q)(j)(t){x x' y p}(n:RV ρ I N x x')(m:RV ρ I N y p):W ρ I (J q fs) q (RV ρ I) N (gF j t x y)<|gF j t x' p:=by
  have a:=n;have c:=m;obtain⟨i,rfl⟩:=n;obtain⟨f,rfl⟩:=m;rcases x with H|⟨E,w⟩|⟨_,_⟩|⟨_,_,_⟩|s|(_|G)|⟨_,_,_⟩|_|_|⟨_,_,_⟩|_|⟨_,_⟩|_|_|_<;>(try(simp[S]at i;done))<;>rcases y with F|⟨L,A⟩|⟨_,_⟩|⟨_,_,_⟩|B|(_|D)|⟨_,_,_⟩|_|_|⟨_,_,_⟩|_|⟨_,_⟩|_|_|_<;>(try(simp[S]at f;done))<;>first|exact atF j t _ _ _ _|exact as4 j t _ _|skip
  all_goals(cases j<;>first|exact T _ _|exact ae4 e t id a c|exact ae4 e t (!.) a c|exact iG _ _|exact Xc k t c a|exact Xc k t a<|RV.plain rfl|skip)
  all_goals first|(refine W.bind' (gD t) ?_;rintro M d _ g rfl;split<;>first|exact atl t (a.mono g)<|c.mono g|exact Xc fun b C=>k b<|by omega t (a.mono g)<|c.mono g)|(refine W.bind' (JA<|RA.rS i) ?_;rintro M u v g⟨l,_⟩;first|exact aff _ _ l|(refine W.bind' (JA<|RA.rS<|ff g f) ?_;rintro K r z o⟨h,_⟩;first|exact aub e _ (l.mono o) h|exact auc e _ (l.mono o) h))|(refine W.bind' (JA<|RA.rS f) ?_;grind[aff])
theorem ae5(d):∀(N)(t)(x x' y j),RV ρ I N x x'->RV ρ I N y j->W ρ I (J q fs) q RD N (IE d t x y) (IE d t x' j):=by induction d with|zero=>intro N t x x' y j _ _;exact iG _ _|succ d p=>
  intro N t x x' y j hx hy;rw[IE,IE];refine W.bind' (gD t) ?_;rintro M s _ D rfl;obtain⟨g,rfl⟩:=hx;obtain⟨e,rfl⟩:=hy;split;case h_1=>exact .pure' rfl
  case h_2=>
   rename_i fields xs ys;simp only[F];refine W.bind' (R:=RD) (Xi (λN M a b _ h=>h) fields M _ _ (λf E L a b l c=>?_) rfl) ?_
   .cases c;split
    .refine W.bind' (wH _ _<|bD.zV g<|by omega) ?_;rintro O u w A o;refine W.bind' (wH _ _<|bD.zV e<|by omega) ?_;rintro P v z m k;refine W.bind' (p P _ _ _ _ _ (o.mono m) k) ?_;rintro Q b _ B rfl;split;.exact .pure'<|ay ⟨_,_,rfl,rfl,rfl⟩
     .exact .pure'<|aB ⟨_,_,rfl,rfl,rfl⟩
    .exact .pure'<|aB ⟨_,_,rfl,rfl,rfl⟩
   .rintro L r _ l rfl;split<;>exact .pure' rfl
  case h_3=>
   rename_i len elem xs ys;simp only[F];refine W.bind' (nu _) ?_;rintro K n _ C rfl;refine W.bind' (R:=RD) (Xh (λN M a b _ h=>h) len K _ _ (λi L a b l c=>?_) rfl) ?_
   .cases c;refine W.bind' (wH _ _<|bD.zV g<|by omega) ?_;rintro O u w A o;refine W.bind' (wH _ _<|bD.zV e<|by omega) ?_;rintro P v z m k;refine W.bind' (p P _ _ _ _ _ (o.mono m) k) ?_;rintro Q b _ B rfl;split;.exact .pure'<|ay ⟨_,_,rfl,rfl,rfl⟩
    .exact .pure'<|aB ⟨_,_,rfl,rfl,rfl⟩
   .rintro L r _ l rfl;split<;>exact .pure' rfl
  case h_4 h1 h2 h3=>
   split;case h_1 ms _ _ hx hy=>
    cases x<;>simp only[F]at hx<;>try cases hx
    cases y<;>simp only[F]at hy<;>try cases hy
    grind
   case h_2 fields xs ys _ _ hx hy=>
    cases x<;>simp only[F]at hx<;>try cases hx
    cases y<;>simp only[F]at hy<;>try cases hy
    grind
   case h_3 len elem xs ys _ _ hx hy=>
    cases x<;>simp only[F]at hx<;>try cases hx
    cases y<;>simp only[F]at hy<;>try cases hy
    grind
   case h_4=>exact .pure' rfl
theorem ae6(f)(t)(x y){a a' b h}(i:RV ρ I N a a')(j:RV ρ I N b h):W ρ I (J q fs) q RU N (eqGuard f t x y a b)<|eqGuard f t x y a' h:=by
  have e:=i;have c:=j;obtain⟨m,rfl⟩:=i;obtain⟨k,rfl⟩:=j;unfold eqGuard;have d:W ρ I (J q fs) q RU N (do match a,b with
      |nO,nO=>
        if x matches gO _||y matches gO _ then return
        if←IE Pu t a b then vR<|yq "binop/eql: two nil values of an interface type with methods, neither of them the literal nil"|bO _,bO _=>
        if !(←program).eqGuardType (←program).depth t then return
        if←IE Pu t a b then vR<|yq "binop/eql: two nil values of an interface type with methods, in a part of a struct or an array"|_,_=>bI ():cz Unit) (do match F ρ a,F ρ b with
      |nO,nO=>
        if x matches gO _||y matches gO _ then return
        if←IE Pu t (F ρ a) (F ρ b)then vR<|yq "binop/eql: two nil values of an interface type with methods, neither of them the literal nil"|bO _,bO _=>
        if !(←program).eqGuardType (←program).depth t then return
        if←IE Pu t (F ρ a) (F ρ b)then vR<|yq "binop/eql: two nil values of an interface type with methods, in a part of a struct or an array"|_,_=>bI ():cz Unit):=by cases a<;>cases b<;>first
      |exact .pure trivial|(simp only[F];cases x<;>cases y<;>first
           |exact .pure trivial
           | (refine W.bind' (ae5 _ _ _ _ _ _ _ e c) ?_;rintro M b _ l rfl;split;.exact iG _ _
              .exact .pure' trivial))
      | (simp only[F];refine W.bind' mG ?_;rintro M p g l⟨rfl,rfl⟩;refine W.bind' mG ?_;rintro K p g o⟨rfl,rfl⟩;have n:(J g fs).depth=g.depth:=rfl;rw[akZ,n];split;.exact .pure' trivial
         . refine W.bind' (ae5 _ _ _ _ _ _ _ (e.mono<|by omega)<|c.mono<|by omega) ?_;rintro L b _ r rfl;split;.exact iG _ _
           .exact .pure' trivial)
  cases f<;>first|exact d|exact .pure' trivial
theorem as2(g:∀b,N<=b->I.F b=Z)(e)(s):W ρ I (J q fs) q (RV ρ I) N (amy e s)<|amy e s:=by
 unfold amy;refine W.bind' (Gl _) ?_;rintro M i _ k rfl;refine W.bind' (Jy λb m=>g b<|by omega e<|bD.plain λv c=>?_) ?_
 .rcases Ce.1 c with c|c;.obtain⟨_,_,rfl⟩:=Kg.1 c;rfl
  .obtain⟨_,rfl⟩:=ah0.1 c;rfl
 rintro K a h l d;have j:W ρ I (J q fs) q RU K (Py a)<|Py h:=by
  unfold Py;rw[d.blk.2];refine W.bind' (BG d.1) ?_;rintro L o _ f rfl;split;.exact aeX (a:={block:=a.block,off:=_}) ⟨H.ey d.1 f,rfl⟩ 1
  .exact .pure' trivial
 refine W.bind' j ?_;rintro L _ _ f _;exact .pure' ⟨by simpa[S]using H.ey d.1 f,by rw[d.2];simp[F]⟩
theorem Me.yield{σ a}{R:Nat->σ->a->Prop}{x}{y}(h:R N x y):Me R N (.yield x)<|.yield y:=aB ⟨_,_,rfl,rfl,h⟩
theorem aeY{σ d}{R:Nat->σ->d->Prop}(i:∀N M a b,N<=M->R N a b->R M a b){f}{f'}{l l'}(h:bD ρ I N l l')(a)(b)(g:∀x M a b,S I N x=Z->N<=M->R M a b->W ρ I (J q fs) q (Me R) M (f x a) (f' (F ρ x) b))(c:R N a b):W ρ I (J q fs) q R N (forIn l a f)<|forIn l' b f':=by rw[h.2,<-Nr,<-Nr,za];exact Ru (ρ:=ρ) (I:=I) (q:=q) (fs:=fs) i (F ρ) l.toList N a b (f:=f) (f':=f') (λx j M a b e=>g x M a b (h.1 x<|by grind) e) c
theorem atX{x x'}(g:RV ρ I N x x'):W ρ I (J q fs) q (RV ρ I) N (amx x)<|amx x':=by
 obtain⟨e,rfl⟩:=g;unfold amx;cases x<;>first|exact T _ _|skip
 rename_i a n c;cases a with|none=>exact .pure'<|RV.plain rfl|some a=>
  simp only[F,ee];refine W.bind' (Rq ⟨by grind[S],rfl⟩ n) ?_;rintro M l j m f;refine W.bind' (R:=RD) (aeY (λN M a b _ h=>h) f _ _ (λy K a b o i d=>?_) rfl) ?_
  .cases d;split;.rename_i k;exact .pure'<|.yield rfl
   .exact .dead<|u.bind (.halt _) _
  .rintro K s _ i rfl;exact .pure'<|RV.plain rfl
theorem atb{x x'}(g:RV ρ I N x x'):W ρ I (J q fs) q (RV ρ I) N (amw x)<|amw x':=by
 obtain⟨e,rfl⟩:=g;unfold amw;cases x<;>first|exact T _ _|skip
 rename_i a n c;cases a with|none=>exact .pure'<|RV.plain rfl|some a=>
  simp only[F,ee];refine W.bind' (Rq ⟨by grind[S],rfl⟩ n) ?_;rintro M l j m f;refine W.bind' (R:=RD) (aeY (λN M a b _ h=>h) f _ _ (λy K a b o i d=>?_) rfl) ?_
  .cases d;split;.rename_i k;exact .pure'<|.yield rfl
   .exact .dead<|u.bind (.halt _) _
  .rintro K s _ i rfl;exact .pure'<|RV.plain rfl
theorem au2(s)(b):∀(i)(a),(∀v∈a,n v=Z)->∀v∈Conv.runesFrom s b i a,n v=Z:=by induction b with|zero=>intro i a h;exact h|succ b d=>
  intro i a h;unfold Conv.runesFrom;split
  .refine d _ _ λv c=>?_;rcases Y5.1 c with c|rfl;.grind
   .rfl
  grind
theorem as1(f:∀b,N<=b->I.F b=Z)(e)(s):W ρ I (J q fs) q (RV ρ I) N (amv e s)<|amv e s:=by
 unfold amv;dsimp only;refine W.bind' (Gl _) ?_;rintro M g _ h rfl;refine W.bind' (Jy λb k=>f b<|by omega e<|bD.plain λv c=>?_) ?_
 .rcases Ce.1 c with c|c;.grind[au2]
  .obtain⟨_,rfl⟩:=ah0.1 c;rfl
 rintro K a i j d;exact .pure' ⟨by simpa[S]using d.1,by rw[d.2];simp[F]⟩
theorem WO(t):W ρ I (J q fs) q (λ_ a b=>a=b/\q.underlying t=U a) N (pB t)<|pB t:=by unfold pB;refine W.bind' mG ?_;rintro M a b d⟨rfl,c⟩;rw[c];show W ρ I (J q fs) q _ M (match q.underlying t with|some i=>bI i|none=>stuck "no such type") _;cases q.underlying t with|some i=>exact .pure ⟨rfl,rfl⟩|none=>grind[T]
theorem atu{a a'}(b:RA ρ I N a a'):W ρ I (J q fs) q RU N (Py a)<|Py a':=by
 unfold Py;rw[b.blk.2];refine W.bind' (BG b.1) ?_;rintro L o _ c rfl;split;.exact aeX (a:={block:=a.block,off:=_}) ⟨H.ey b.1 c,rfl⟩ 1
 .exact .pure' trivial
set_option maxHeartbeats 1000000 in
theorem atT(hF:∀b,N≤b→I.F b=Z)(hz:tf q)(f dst)(h1:q.underlying f≠U UN)(A:q.underlying dst≠U UN){x x'}(hx:RV ρ I N x x'):W ρ I (J q fs) q (RV ρ I) N (convert f dst x)<|convert f dst x':=by
  unfold convert;refine W.bind' (WO f) ?_;rintro M d _ C⟨rfl,E⟩;refine W.bind' (WO dst) ?_;rintro K e _ o⟨rfl,Q⟩;have j:=hx.mono<|bC C o;have w:∀k,d≠.float k:=fun k e=>hz.whole f k (by grind);have r:∀k,e≠.float k:=fun k e=>hz.whole dst k (by grind);have n3:∀k,e≠.complex k:=fun k e=>hz.real dst k (by grind);have y:d≠UN:=fun e=>h1 (by grind);have n5:e≠UN:=fun e=>A (by grind);have h:∀b,K≤b→I.F b=Z:=by grind
  obtain⟨B,rfl⟩:=j;rcases x with xb|⟨G,xn⟩|⟨_,_⟩|⟨_,_,_⟩|xs|(_|D)|⟨(_|D),_,_⟩|_|_|⟨_,_,_⟩|_|⟨_,_⟩|_|_|_<;>(try(simp[S]at B;done))<;>cases d<;>(try(first|exact absurd rfl<|w _|exact absurd rfl y))<;>cases e<;>(try(first|exact absurd rfl<|r _|exact absurd rfl n5))<;>first
    |exact iG _ _|exact .pure<|RV.plain rfl
    | (refine W.bind' (gD _) ?_;rintro L u _ i rfl;generalize(f==dst)=z;split;.refine W.bind' (atu (a:=D) ⟨H.ey (by simpa[S]using B) i,rfl⟩) ?_;rintro O _ _ P _;exact .pure' ⟨ff (by omega) B,rfl⟩
       .exact iG _ _)|(refine W.bind' (gD _) ?_;rintro L u _ i rfl;cases u<;>first|exact T _ _|exact iG _ _|(rename_i k;cases k<;>first|exact T _ _|exact iG _ _|exact as2 fun b p=>h b<|by omega _ _|exact as1 fun b p=>h b<|by omega _ _|exact atX ⟨ff i B,rfl⟩|exact atb ⟨ff i B,rfl⟩|skip))|skip
  all_goals trace_state
theorem anQ:∀N M a b,N<=M->RU N a b->RU M a b:=λ_ _ _ _ _ h=>h
theorem Rx(c)(d):∀(N)(t)(x x'),RV ρ I N x x'->W ρ I (J q fs) q RU N (C5 c d t x) (C5 c d t x'):=by induction d with|zero=>intro N t x x' _;exact iG _ _|succ d k=>
  intro N t x x' o;rw[C5,C5];refine W.bind' (gD t) ?_;rintro M f _ s rfl;obtain⟨e,rfl⟩:=o;cases f<;>try exact .pure' trivial
  case array len elem=>
   cases x<;>try exact T _ _
   rename_i l;simp only[F];refine W.bind' (Xh (R:=RU) anQ len M _ _ (λi L a b h j=>?_) trivial) λL _ _ h _=>.pure' trivial;refine W.bind' (nu _) ?_;rintro O n _ y rfl;refine W.bind' (wH _ _<|bD.zV e<|by omega) ?_;rintro P v m r g;refine W.bind' (k P _ _ _ g) ?_;rintro Q _ _ Q0 _;exact .pure'<|aB ⟨_,_,rfl,rfl,trivial⟩
  case struct fields=>
   cases x<;>try exact T _ _
   rename_i l;simp only[F];refine W.bind' (Xi (R:=RU) anQ fields M _ _ (λi w L a b h j=>?_) trivial) λL _ _ h _=>.pure' trivial;split;.refine W.bind' (wH _ _<|bD.zV e<|by omega) ?_;rintro P v m r g;refine W.bind' (k P _ _ _ g) ?_;rintro Q _ _ Q0 _;exact .pure'<|aB ⟨_,_,rfl,rfl,trivial⟩
   .exact .pure'<|aB ⟨_,_,rfl,rfl,trivial⟩
  case interface ms=>
   cases x<;>try exact T _ _
   .rename_i t v;simp only[F];refine W.bind' (rO _) ?_;rintro K i _ p⟨rfl,_⟩;split
    .refine .dead ?_;split;.exact u.bind (lW _ _) _
     .exact u.then _ λ_=>u.bind (lW _ _) _
    .exact k K _ _ _ ⟨ff (bC s p)<|by grind[S],rfl⟩
   .exact .pure' trivial
def jQ(ρ:Nat->Nat)(I:H)(N:Nat)(es es':Array mU):Prop:=(∀e∈es,qU I N e=Z)/\es'=es.map (lg ρ)
theorem agY{e}(a:N<=M)(h:qU I N e=Z):qU I M e=Z:=by simp only[qU,cG]at h⊢;grind[ff]
theorem jQ.mono{es es'}(h:jQ ρ I N es es')(c:N<=M):jQ ρ I M es es':=⟨λe b=>by have:=h.1 e b;simp only[qU,cG]at this⊢;grind[ff],h.2⟩
theorem alx(a:TypeDesc)(k:az):∀(es:List mU)(i:Nat),C7 a (F ρ k) (es.map<|lg ρ) i=(C7 a k es i).map λo=>o.map λx=>(x.1,F ρ x.2)
 |[],i=>rfl|e::es,i=>by
  have c:FE a (F ρ k) (lg ρ e).key=FE a k e.key:=by show FE a (F ρ k) (F ρ e.key)=_;cases k<;>cases d:e.key<;>cases a<;>simp[FE,F]
  simp only[gh,C7,c];cases FE a k e.key with|none=>rfl|some b=>cases b with|true=>rfl|false=>exact alx a k es<|i+1
theorem aly(a:TypeDesc)(k:az):∀(es:List mU)(i j:Nat)(v:az),C7 a k es i=U (U (j,v))->∃e∈es,e.val=v
 |[],i,j,v,h=>by simp[C7]at h|e::es,i,j,v,h=>by
  simp only[C7]at h;split at h;.grind
  .obtain⟨d,b,c⟩:=aly a k es _ _ _ h;grind
  grind
def RF(ρ:Nat->Nat)(I:H)(N:Nat)(o o':Option<|Nat×az):Prop:=(∀x,o=U x->S I N x.2=Z)/\o'=o.map λx=>(x.1,F ρ x.2)
theorem aeZ(a:Fair ρ q)(t:dV){k k':az}:∀(es:List mU)(N i:Nat),RV ρ I N k k'->(∀e∈es,qU I N e=Z)->W ρ I (J q fs) q (RF ρ I) N (ab3 t k es i) (ab3 t k' (es.map<|lg ρ) i)
 |[],N,i,_,_=>by simp only[qs,ab3];exact .pure' ⟨by simp,rfl⟩|e::es,N,i,f,h=>by
  simp only[gh,ab3];have c:=h e (by simp);simp only[qU,cG]at c;refine W.bind' (ae3 a _ N t _ _ _ _ f ⟨c.1,rfl⟩) ?_;rintro M b _ d rfl;split;.exact .pure' ⟨by grind[ff],rfl⟩
  .exact aeZ a t es M (i+1) (f.mono d) λe c=>agY d<|h e<|by simp[c]
theorem Xl(b:Fair ρ q)(t){k k'}{es es'}(f:RV ρ I N k k')(h:jQ ρ I N es es'):W ρ I (J q fs) q (RF ρ I) N (Lv t k es.toList)<|Lv t k' es'.toList:=by unfold Lv;refine W.bind' (gD t) ?_;rintro M d _ c rfl;rw[h.2,za,f.2,alx];cases g:C7 d k es.toList 0 with|none=>simp only[Kh];exact aeZ b t es.toList M 0 ⟨ff c f.1,rfl⟩ λe i=>(h.mono c).1 e<|by grind|some o=>simp only[ee];refine .pure' ⟨?_,rfl⟩;rintro⟨j,v⟩rfl;obtain⟨e,i,rfl⟩:=aly _ _ _ _ _ _ g;have:=h.1 e (by grind);simp only[qU,cG]at this;grind[ff]
theorem jQ.empty:jQ ρ I N #[] #[]:=⟨by simp,by simp⟩
theorem jQ.isEmpty{es es'}(h:jQ ρ I N es es'):es'.isEmpty=es.isEmpty:=by rw[h.2];simp[Array.isEmpty]
theorem atA(n:Fair ρ q)(D:tf q)(t)(k){x x' i m}(z:RV ρ I N x x')(Q1:RV ρ I N i m):W ρ I (J q fs) q (RV ρ I) N (Px t x i k)<|Px t x' m k:=by
 unfold Px;refine W.bind' (gD t) ?_;rintro M d _ E rfl;cases d<;>try exact T _ _
 rename_i f e;dsimp only;have h:∀(K:Nat)(j g:Array mU),M<=K->jQ ρ I K j g->W ρ I (J q fs) q (RV ρ I) K (do
    C5 j.isEmpty 10000 f i;let(v,Q)<-match<-Lv f i j.toList with|some (_,v)=>bI (v,Z)|none=>bI (<-kQ e,ai)
    bI<|if k then bQ #[v,Q]else v:cz az) (do
    C5 g.isEmpty 10000 f m;let(v,Q)<-match<-Lv f m g.toList with|some (_,v)=>bI (v,Z)|none=>bI (<-kQ e,ai)
    bI<|if k then bQ #[v,Q]else v:cz az):=λK j g s l=>by
  rw[l.isEmpty];refine W.bind' (Rx _ _ _ _ _ _<|Q1.mono<|by omega) ?_;rintro L _ _ A _;refine W.bind' (Xl n _ (Q1.mono<|by omega)<|l.mono A) ?_;rintro O o B R⟨y,rfl⟩;have w:∀(P:Nat)(v:az)(b:Bool),S I P v=Z->W ρ I (J q fs) q (RV ρ I) P (bI<|if k then bQ #[v,b]else v) (bI<|if k then bQ #[F ρ v,b]else F ρ v):=λP v b p=>by
   split;.exact .pure'<|RV.tuple (vs:=#[v,b]) (vs':=#[F ρ v,b])<|(bD.nil.push ⟨p,rfl⟩).push<|RV.plain rfl
   .exact .pure' ⟨p,rfl⟩
  cases o with|some x=>grind|none=>simp only[Kh];refine W.bind' (DT D e) ?_;rintro P v G Q0⟨⟨C,rfl⟩,_⟩;grind
 obtain⟨a,rfl⟩:=z;cases x<;>try exact .dead<|u.bind (.halt _) _
 rename_i r;cases r with|none=>exact h M #[] #[] (aQ _) jQ.empty|some r=>
  simp only[F,ee];refine W.bind' (wI<|H.ey (by grind[S]) E) ?_;rintro K o B s⟨y,rfl⟩;cases o<;>first|exact .dead<|u.bind (.halt _) _|skip
  rename_i j c;exact h K j _ s ⟨by grind[er,Array.all_eq_true_iff_forall_mem],rfl⟩
theorem ac7(f:az->az)(p:az->az->Bool):∀(l m:List az),(∀x∈l,∀y∈m,p (f x) (f y)=p x y)->((l.map f).zip<|m.map f).all (λx=>p x.1 x.2)=(l.zip m).all λx=>p x.1 x.2|[],_,_=>by simp|_::_,[],_=>by simp|x::l,y::m,h=>by simp only[gh,List.zip_cons_cons,List.all_cons];rw[h x (by simp) y<|by simp,ac7 f p l m λa c b d=>h a (by simp[c]) b<|by simp[d]]
theorem agI(c:Fair ρ q)(a b:Option eF):(a.map (dA ρ)==b.map (dA ρ))=(a==b):=by
 cases a<;>cases b<;>try rfl
 rename_i a b;simp only[ee];show(dA ρ a==dA ρ b)=(a==b);exact U5 c.inj a b
theorem auQ(h:Fair ρ q)(n):∀(a b),S I N a=Z->S I N b=Z->FF n (F ρ a) (F ρ b)=FF n a b:=by induction n with|zero=>intro a b c d;cases a<;>(try(simp[S]at c;done))<;>cases b<;>(try(simp[S]at d;done))<;>simp only[F,FF];all_goals grind[agI,S,Option.isNone_iff_eq_none]|succ n g=>
  intro a b c d;cases a<;>(try(simp[S]at c;done))<;>cases b<;>(try(simp[S]at d;done))<;>simp only[F,FF];.grind[agI]
  .grind[S,Option.isNone_iff_eq_none]
  .grind[S]
  .have e:=bD.Ei (ρ:=ρ) c;have f:=bD.Ei (ρ:=ρ) d;rw[e.2,f.2,AB,AB,za,za];congr 1;exact ac7 (F ρ) (FF n) _ _ λx j y i=>g x y (e.1 x<|by grind)<|f.1 y<|by grind
theorem atE(d:Fair ρ q){a a' b g}(e:RV ρ I N a a')(c:RV ρ I N b g):W ρ I (J q fs) q (RV ρ I) N (abZ a b)<|abZ a' g:=by
 unfold abZ;rw[e.2,c.2,auQ d _ _ _ e.1 c.1];split;.exact .pure' ⟨c.1,rfl⟩
 .refine W.bind' (Gl _) ?_;rintro M n _ f rfl;refine .pure' ?_;split;.exact⟨ff f c.1,rfl⟩
  .exact⟨ff f e.1,rfl⟩
theorem Ro{r c}{es es'}(a:I.blk N r=Z)(h:jQ ρ I N es es'):W ρ I (J q fs) q RU N (setObj r<|iY es c)<|setObj (ρ r)<|iY es' c:=by
 have e:iY es' c=fa ρ (iY es c):=by rw[h.2];simp[fa]
 rw[e];exact MG a (by simpa only[er,lE]using h.1)<|by simp
theorem jQ.modify{es es'}(h:jQ ρ I N es es')(i){k k' v v'}(b:RV ρ I N k k')(a:RV ρ I N v v'):jQ ρ I N (es.modify i λe=>{e with key:=k,val:=v})<|es'.modify i λe=>{e with key:=k',val:=v'}:=by
 refine⟨λe c=>?_,?_⟩
 .obtain⟨j,d,rfl⟩:=YW.1 c;rw[Array.getElem_modify];split;.simp[qU,b.1,a.1]
  .exact h.1 _<|Nu _
 .rw[h.2,b.2,a.2];refine YV λj=>?_;simp only[zf,qV];split;.cases es[j]?<;>rfl
  .rfl
theorem jQ.push{es es'}(h:jQ ρ I N es es')(c){k k' v v'}(d:RV ρ I N k k')(b:RV ρ I N v v'):jQ ρ I N (es.push {key:=k,val:=v,born:=c})<|es'.push {key:=k',val:=v',born:=c}:=by
 refine⟨λe a=>?_,by rw[h.2,Array.map_push,d.2,b.2];rfl⟩;rcases Y5.1 a with a|rfl;.exact h.1 e a
 .simp[qU,d.1,b.1]
theorem jQ.azo{es es'}(h:jQ ρ I N es es')(i:Nat){k k'}(c:RV ρ I N k k'):RV ρ I N ((es[i]?.map (·.key)).getD k) ((es'[i]?.map (·.key)).getD k'):=by rw[h.2,qV];cases b:es[i]? with|none=>exact c|some e=>have:=h.1 e<|tR b;simp only[qU,cG]at this;exact⟨this.1,rfl⟩
theorem aeO(g:Fair ρ q)(t){m m' k k' v v'}(A:RV ρ I N m m')(f:RV ρ I N k k')(h:RV ρ I N v v'):W ρ I (J q fs) q RU N (UP t m k v)<|UP t m' k' v':=by
 unfold UP;refine W.bind' (gD t) ?_;rintro M d _ D rfl;cases d<;>try exact T _ _
 rename_i w j;obtain⟨p,rfl⟩:=A;cases m<;>try exact T _ _
 rename_i r;cases r with|none=>grind[Jw]|some r=>
  simp only[F,ee];have n:I.blk M r=Z:=H.ey (by grind[S]) D;refine W.bind' (wI n) ?_;rintro K o z G⟨R,rfl⟩;cases o<;>try exact T _ _
  rename_i l c;simp only[fa];have b:jQ ρ I K l<|l.map<|lg ρ:=⟨by grind[er,Array.all_eq_true_iff_forall_mem],rfl⟩;refine W.bind' (Rx _ _ _ _ _ _<|f.mono<|by omega) ?_;rintro L _ _ u _;refine W.bind' (Xl g _ (f.mono<|by omega)<|b.mono u) ?_;rintro O o z Q0⟨B,rfl⟩;have e:I.blk O r=Z:=by grind[H.ey]
  cases o with|none=>exact Ro e<|(b.mono<|by omega).push c (f.mono<|by omega)<|h.mono<|by omega|some x=>obtain⟨i,y⟩:=x;simp only[ee];refine W.bind' (atE g ((b.mono<|by omega).azo i<|f.mono<|by omega)<|f.mono<|by omega) ?_;rintro P a E C s;exact Ro (H.ey e C)<|(b.mono<|by omega).modify i s<|h.mono<|by omega
theorem atP(v:Fair ρ q)(n)(t){j f}(A:bD ρ I N j f):W ρ I (J q fs) q (RV ρ I) N (UQ n t j)<|UQ n t f:=by unfold UQ;cases n[0]? with|none=>grind[T]|some mt=>cases G:j[0]? with|none=>grind[T]|some m=>cases R:j[1]? with|none=>grind[T]|some k=>
 obtain⟨Q2,D⟩:=A.get G;obtain⟨p,C⟩:=A.get R;rw[D,C];dsimp only;refine W.bind' (gD mt) ?_;rintro M d _ B rfl;cases d<;>try exact T _ _
 rename_i Q1 z;have QY:RV ρ I N k<|F ρ k:=⟨p,rfl⟩;have b:∀K(s w:cz Unit),W ρ I (J q fs) q RU K s w->W ρ I (J q fs) q (RV ρ I) K (do s;bI<|bQ #[]) (do w;bI<|bQ #[]):=λK s w h=>W.bind' h λL _ _ _ _=>.pure'<|RV.plain rfl;cases m<;>try exact .dead<|u.bind (.halt _) _
 rename_i r;cases r with|none=>exact b M _ _<|Rx _ _ _ _ _ _<|QY.mono B|some r=>
  simp only[F,ee];have E:I.blk M r=Z:=H.ey (by grind[S]) B;refine W.bind' (wI E) ?_;rintro K o P Q0⟨QX,rfl⟩;cases o<;>try exact .dead<|u.bind (.halt _) _
  rename_i l c;simp only[fa];have a:jQ ρ I K l<|l.map<|lg ρ:=⟨by grind[er,Array.all_eq_true_iff_forall_mem],rfl⟩;rw[a.isEmpty];refine W.bind' (Rx _ _ _ _ _ _<|QY.mono<|by omega) ?_;rintro L _ _ Q3 _;refine W.bind' (Xl v _ (QY.mono<|by omega)<|a.mono Q3) ?_;rintro O o P X⟨Q,rfl⟩;have g:I.blk O r=Z:=by grind[H.ey]
  cases o with|none=>exact b O _ _<|Ro g<|a.mono<|by omega|some x=>
   obtain⟨i,y⟩:=x;simp only[ee];refine b O _ _<|Ro g ?_;have h:=a.mono (M:=O) (by omega);unfold Array.eraseIdxIfInBounds;by_cases hi:i<l.size;.rw[wP hi,wP<|by grind];refine⟨λe QW=>h.1 e<|Array.mem_of_mem_eraseIdx QW,?_⟩;grind
   grind
theorem Xb(c:∀b,N<=b->I.F b=Z){o}(d:er I N o=Z):W ρ I (J q fs) q (RV ρ I) N (do bI<|aF<|U ⟨<-newObj o,0,V⟩) (do bI<|aF<|U ⟨<-newObj<|fa ρ o,0,V⟩):=by refine W.bind' (Jz (c N<|aQ _) d) ?_;rintro L r f g⟨rfl,_,rfl,e⟩;exact .pure'<|RV.ptr ⟨e,rfl⟩
theorem atf(f:∀b,N<=b->I.F b=Z)(t){x x'}(l:RV ρ I N x x'):W ρ I (J q fs) q (RV ρ I) N (Instr.range t x)<|Instr.range t x':=by
 refine W.bind' (gD t) ?_;rintro M d _ j rfl;obtain⟨g,rfl⟩:=l;cases d<;>try exact .dead<|u.bind (.halt _) _
 case string=>
  cases x<;>try exact .dead<|u.bind (.halt _) _
  rename_i s;have:=Xb (ρ:=ρ) (q:=q) (fs:=fs) (N:=M) (λb i=>f b<|by omega) (o:=.stringIter s 0) (by simp[er]);exact this
 case map k e=>
  cases x<;>try exact .dead<|u.bind (.halt _) _
  rename_i r;cases r with|none=>have:=Xb (ρ:=ρ) (q:=q) (fs:=fs) (N:=M) (λb i=>f b<|by omega) (o:=vS V 0 #[] 0) (by simp[er]);exact this|some m=>
   have h:=H.ey (by simpa[S]using g) j;refine W.bind' (wI h) ?_;rintro K o v n⟨p,rfl⟩;cases o<;>try exact .dead<|u.bind (.halt _) _
   rename_i P c;have:=Xb (ρ:=ρ) (q:=q) (fs:=fs) (N:=K) (λb i=>f b<|by omega) (o:=vS (U m) c #[] c) (by simpa[er]using H.ey h n);exact this
theorem aDC(p)(b:∀e,p (lg ρ e)=p e)(es:Array mU):(es.map<|lg ρ).filter p=(es.filter p).map (lg ρ):=by rw[Array.filter_map];congr 1;exact congrArg (λf=>es.filter f)<|funext b
theorem jQ.filter{es es'}(h:jQ ρ I N es es')(p)(c:∀e,p (lg ρ e)=p e):jQ ρ I N (es.filter p)<|es'.filter p:=⟨λe b=>h.1 e (Array.mem_filter.1 b).1,by rw[h.2,aDC p c]⟩
theorem jQ.append{es es' c b}(h:jQ ρ I N es es')(k:jQ ρ I N c b):jQ ρ I N (es++c)<|es'++b:=⟨λe d=>(Ce.1 d).elim (h.1 e)<|k.1 e,by rw[h.2,k.2,ah7]⟩
theorem atk(ty:dV)(i:Bool){x x':az}(E:RV ρ I N x x'):W ρ I (J q fs) q (RV ρ I) N (zJ x i ty)<|zJ x' i ty:=by
 unfold zJ;obtain⟨QX,rfl⟩:=E;cases x<;>try exact T _ _
 rename_i a;cases a with|none=>grind[T]|some a=>obtain⟨r,B,QY⟩:=a;cases B with|succ _=>grind[T]|zero=>
 have QW:I.blk N r=Z:=by simpa[S]using QX
 have k:∀K,W ρ I (J q fs) q (RV ρ I) K (bI<|bQ #[cx ai])<|bI<|bQ #[cx ai]:=λK=>.pure'<|RV.plain rfl;simp only[F,ee,dA];refine W.bind' (wI QW) ?_;rintro M o Q2 Qw⟨Q3,rfl⟩;have z:I.blk M r=Z:=H.ey QW Qw;cases o<;>try exact T _ _
 case stringIter s pos=>cases i with|false=>grind[T]|true=>
   simp only[fa];split;·refine W.bind' (MG (o:=.stringIter s<|pos+(Utf8.decode s pos).2) z (by simp[er])<|by simp) ?_;rintro K _ _ R _;exact .pure'<|RV.plain rfl
   grind
 case mapIter m since seen last=>cases i with|true=>grind[T]|false=>cases m with|none=>exact k M|some m=>
   simp only[fa,ee];have P:I.blk M m=Z:=by simpa[er]using Q3
   refine W.bind' (wI P) ?_;rintro K o Q2 R⟨D,rfl⟩;cases o<;>try exact T _ _
   rename_i l p;simp only[fa];have t:jQ ρ I K l<|l.map<|lg ρ:=⟨by simpa only[er,lE]using D,rfl⟩;generalize b:l.map (lg ρ)=h at t⊢;have Q1:(!seen.isEmpty&&!h.isEmpty&&h.all (·.born≥last))=(!seen.isEmpty&&!l.isEmpty&&l.all (·.born≥last)):=by rw[t.isEmpty,<-b,Array.all_map];rfl
   rw[Q1];split;·exact .dead<|u.bind (.halt _) _
   ·have G:=t.filter (λe=>!seen.contains e.born) λe=>rfl;have c:=G.filter (·.born<since) λe=>rfl;have f:=G.filter (·.born≥since) λe=>rfl;have w:=c.append f;generalize((l.filter λe=>!seen.contains e.born).filter (·.born<since))=d at c w⊢;generalize((h.filter λe=>!seen.contains e.born).filter (·.born<since))=j at c w⊢;generalize((l.filter λe=>!seen.contains e.born).filter (·.born≥since))=v at f w⊢;generalize((h.filter λe=>!seen.contains e.born).filter (·.born≥since))=A at f w⊢;have X:((if j.isEmpty=Z then#[V]else#[])++(j++A).map U:Array<|Option mU)=((if d.isEmpty=Z then#[V]else#[])++(d++v).map U).map λo:Option mU=>o.map<|lg ρ:=by rw[c.isEmpty,w.2];split<;>simp<;>rfl
    have y:∀e,U e∈((if d.isEmpty=Z then#[V]else#[])++(d++v).map U:Array<|Option mU)->qU I K e=Z:=λe g=>by
     rcases Ce.1 g with g|g;·split at g<;>simp at g
     ·obtain⟨e',C,E⟩:=Kg.1 g;cases E;exact w.1 _ C
    rw[X];generalize((if d.isEmpty=Z then#[V]else#[])++(d++v).map U:Array<|Option mU)=Qx at y⊢;rw[AB];refine W.bind' (Gl _) ?_;rintro L n _ QZ rfl;rw[qV];cases Q0:Qx[n]? with|none=>exact T _ _|some o=>cases o with|none=>exact k L|some e=>have g:=agY QZ<|y e<|tR Q0;simp only[qU,cG]at g;simp only[ee];refine W.bind' (MG (o:=vS (U m) since (seen.push e.born) p) (H.ey z<|by omega) (by simpa[er]using H.ey P<|by omega)<|by simp) ?_;rintro O _ _ Q _;refine .pure'<|RV.tuple (vs:=#[cx Z,e.key,e.val]) (vs':=#[cx Z,(lg ρ e).key,(lg ρ e).val]) ?_;exact((bD.nil.push<|RV.plain rfl).push ⟨ff Q g.1,rfl⟩).push ⟨ff Q g.2,rfl⟩
theorem aDy(p)(b:∀e,p (lg ρ e)=p e)(es:Array mU):(es.map<|lg ρ).find? p=(es.find? p).map (lg ρ):=by rw[Array.find?_map];congr 1;exact congrArg (λf=>es.find? f)<|funext b
theorem atL{x x':az}(s:RV ρ I N x x'):W ρ I (J q fs) q (RV ρ I) N (CZ x)<|CZ x':=by
 unfold CZ;obtain⟨j,rfl⟩:=s;cases x<;>try grind[T]
 rename_i a;cases a with|none=>grind[T]|some a=>obtain⟨r,h,n⟩:=a;cases h with|succ _=>grind[T]|zero=>
 have t:I.blk N r=Z:=by simpa[S]using j
 simp only[F,ee,dA];refine W.bind' (wI t) ?_;rintro M o v A⟨p,rfl⟩;cases o<;>try exact T _ _
 rename_i m i f g;cases m with|none=>grind[T]|some m=>
  simp only[fa,ee];have w:I.blk M m=Z:=by simpa[er]using p
  cases f.back? with|none=>grind[T]|some c=>
  refine W.bind' (wI w) ?_;rintro K o v z⟨d,rfl⟩;cases o<;>try exact T _ _
  rename_i P l;simp only[fa];split;.exact .dead<|u.bind (.halt _) _
  .rw[aDy (ρ:=ρ) (λe=>e.born==c) λe=>rfl];cases y:P.find? λe=>e.born==c with|none=>exact iG _ _|some e=>simp only[er,lE]at d;have k:=d e<|Array.mem_of_find?_eq_some y;simp only[qU,cG]at k;refine .pure'<|RV.tuple (vs:=#[e.key,e.val]) (vs':=#[(lg ρ e).key,(lg ρ e).val]) ?_;exact(bD.nil.push ⟨k.1,rfl⟩).push ⟨k.2,rfl⟩
theorem asZ(r:tf q)(n b:dV)(g:Bool){x x':az}(l:RV ρ I N x x'):W ρ I (J q fs) q (RV ρ I) N (II x n b g)<|II x' n b g:=by
  unfold II;have e:∀K(v f:az),RV ρ I K v f→W ρ I (J q fs) q (RV ρ I) K (bI<|if g then bQ #[v,cx Z]else v) (bI<|if g then bQ #[f,cx Z]else f):=fun K v f h=>by
    split;.exact .pure'<|RV.tuple (vs:=#[v,cx Z]) (vs':=#[f,cx Z])<|(bD.nil.push h).push<|RV.plain rfl
    .exact .pure' h
  have c:∀K(s d:Option dV)(m:String),W ρ I (J q fs) q (RV ρ I) K (if g=Z then do bI<|bQ #[←kQ b,cx ai]else C0<|.typeAssertion s d b m:cz az) (if g=Z then do bI<|bQ #[←kQ b,cx ai]else C0<|.typeAssertion s d b m:cz az):=fun K s d m=>by
    split;.refine W.bind' (DT r b) ?_;rintro L v f t⟨h,_⟩;exact .pure'<|RV.tuple (vs:=#[v,cx ai]) (vs':=#[f,cx ai])<|(bD.nil.push h).push<|RV.plain rfl
    grind[Jw]
  refine W.bind' (gD b) ?_;rintro M d _ o rfl;have j:=l.mono o;obtain⟨k,rfl⟩:=l;cases x<;>cases d<;>first
    |exact T _ _|exact c M _ _ _
    | (simp only[F];split;.exact e M _ _ ⟨ff o<|by simpa[S]using k,rfl⟩
       .exact c M _ _ _)
    | (refine W.bind' (rO _) ?_;rintro K i _ p⟨rfl,_⟩;split;.exact e K _ _<|j.mono p
       .exact c K _ _ _)
theorem aeT(c:Array dV)(t:dV){B A:Array az}(i:bD ρ I N B A):W ρ I (J q fs) q (RV ρ I) N (zK c t B)<|zK c t A:=by unfold zK;cases c[0]? with|none=>grind[T]|some t=>cases h:B[0]? with|none=>grind[T]|some x=>obtain⟨b,g⟩:=i.get h;rw[g];dsimp only;refine W.bind' (gD t) ?_;rintro M d _ k rfl;have f:∀K(n:Nat),W ρ I (J q fs) q (RV ρ I) K (bI<|goInt n)<|bI<|goInt n:=fun K n=>.pure'<|RV.plain rfl;rcases x with v|⟨u,m⟩|⟨_,_⟩|⟨_,_,_⟩|l|_|⟨_,_,_⟩|(_|r)|(_|r)|⟨_,_,_⟩|_|⟨_,_⟩|_|_|_<;>(try(simp[S]at b;done))<;>cases d<;>first|exact T _ _|exact f M _|(refine W.bind' (gD _) ?_;rintro K e _ j rfl;grind[T])|(simp only[F,ee];refine W.bind' (wI<|H.ey (by simpa[S]using b) k) ?_;rintro K o s j⟨p,rfl⟩;cases o<;>first|grind[T]|(simp only[fa,AB];exact f K _))
theorem Xe{x x'}(b:RV ρ I N x x'):W ρ I (J q fs) q RD N (Builtin.lenOf x)<|Builtin.lenOf x':=by obtain⟨c,rfl⟩:=b;cases x<;>first|exact .pure rfl|exact T _ _
theorem Xk(s n){x x'}(e:RV ρ I N x x'):W ρ I (J q fs) q (bD ρ I) N (Iw s n x)<|Iw s n x':=by obtain⟨c,rfl⟩:=e;rcases x with f|⟨i,h⟩|⟨_,_⟩|⟨_,_,_⟩|g|_|⟨(_|a),_,_⟩|(_|r)|(_|r)|⟨_,_,_⟩|_|⟨_,_⟩|_|_|_<;>first|exact T _ _|exact .pure bD.nil|exact Rq ⟨by simpa[S]using c,rfl⟩ _|(refine .pure<|bD.plain fun v d=>?_;obtain⟨_,_,rfl⟩:=Kg.1 d;rfl)
theorem bD.zeroCells{v}(h:n v=Z)(a):bD ρ I N (A6 v.cells a)<|A6 v.cells a:=by unfold A6;grind[bD.plain,XO,MY]
theorem at7(hF:∀b,N<=b->I.F b=Z)(hz:tf q)(ts:Array dV)(t:dV){QZ A:Array az}(ha:bD ρ I N QZ A):W ρ I (J q fs) q (RV ρ I) N (abY ts t QZ)<|abY ts t A:=by unfold abY;cases ts[0]? with|none=>grind[T]|some st=>cases h0:QZ[0]? with|none=>grind[T]|some s=>cases h1:QZ[1]? with|none=>grind[T]|some x=>
 obtain⟨EJ,e0⟩:=ha.get h0;obtain⟨oX,e1⟩:=ha.get h1;rw[e0,e1];dsimp only;refine W.bind' (gD st) ?_;rintro M d _ hM rfl;cases d<;>try exact T _ _
 rename_i e;cases s<;>try exact T _ _
 rename_i r f k;simp only[F];have Q1:RV ρ I N x<|F ρ x:=⟨oX,rfl⟩;have hsv:RV ρ I N (aC r f k)<|aC (r.map<|dA ρ) f k:=⟨EJ,rfl⟩;refine W.bind' (nu e) ?_;rintro K g _ hK rfl;have w:∀(L:Nat)(p:Bool)(n:Nat),K<=L->W ρ I (J q fs) q (RV ρ I) L (let m:cz<|Array az:=if !p then Iw g n x else if n*g=0 then bI #[]else do bI<|A6 (<-kQ e).cells n
    let j:=f+n;if j<=k then do
     let Qw<-m;if let U a:=r then storeCells (a.add<|f*g) Qw.toList
     bI (aC r j k)else do
     if(j:Int)>aG.max/\(p\/(<-typeInfo e).bytes=0)then C0<|.error "growslice: len out of range"
     if aEX j k*(<-typeInfo e).bytes>2^48 then(if p then C0<|.error "growslice: len out of range"else do
      if !(<-Builtin.mayShare g f n r x)then mark .noRoom
      vR<|.resourceLimit "append: a slice or a string whose bytes no memory bears")
     let o<-choose (.appendCap j k e)askRoom (o*(<-typeInfo e).bytes)let C<-Iw g f (aC r f k)let Qw<-m;let y:=A6 (<-kQ e).cells (o-j)bI<|aC (U<|<-newRow e<|C++Qw++y) j o:cz az) (let m:cz<|Array az:=if !p then Iw g n (F ρ x)else if n*g=0 then bI #[]else do bI<|A6 (<-kQ e).cells n
    let j:=f+n;if j<=k then do
     let Qw<-m;if let U a:=r.map (dA ρ)then storeCells (a.add<|f*g) Qw.toList
     bI (aC (r.map<|dA ρ) j k)else do
     if(j:Int)>aG.max/\(p\/(<-typeInfo e).bytes=0)then C0<|.error "growslice: len out of range"
     if aEX j k*(<-typeInfo e).bytes>2^48 then(if p then C0<|.error "growslice: len out of range"else do
      if !(<-Builtin.mayShare g f n (r.map<|dA ρ)<|F ρ x)then mark .noRoom
      vR<|.resourceLimit "append: a slice or a string whose bytes no memory bears")
     let o<-choose (.appendCap j k e)askRoom (o*(<-typeInfo e).bytes)let C<-Iw g f (aC (r.map<|dA ρ) f k)let Qw<-m;let y:=A6 (<-kQ e).cells (o-j)bI<|aC (U<|<-newRow e<|C++Qw++y) j o:cz az):=λL p n hL=>by
  have D:∀(O:Nat),L<=O->W ρ I (J q fs) q (bD ρ I) O (if !p then Iw g n x else if n*g=0 then bI #[]else do bI<|A6 (<-kQ e).cells n:cz<|Array az) (if !p then Iw g n (F ρ x)else if n*g=0 then bI #[]else do bI<|A6 (<-kQ e).cells n:cz<|Array az):=λO hO=>by
   split;.exact Xk _ _<|Q1.mono<|by omega
   .split;.exact .pure' bD.nil
    .refine W.bind' (DT hz e) ?_;rintro P v v' hP⟨hv,R⟩;refine .pure' ?_;rw[hv.2,(qT (ρ:=ρ) (I:=I) (N:=P) R).2];exact bD.zeroCells R n
  dsimp only;by_cases hn:f+n<=k;.rw[cJ hn,cJ hn];refine W.bind' (D L<|aQ _) ?_;rintro O Qw c hO B;cases r with|none=>exact .pure'<|RV.plain rfl|some a=>have QX:RA ρ I N a<|dA ρ a:=⟨by simpa[S]using EJ,rfl⟩;simp only[ee];refine W.bind' (WT 0 ((QX.mono<|by omega).add<|f*g) B) ?_;rintro P _ _ hP _;exact .pure' ⟨by simpa[S]using H.ey QX.1<|by omega,rfl⟩
  .rw[if_neg hn,if_neg hn];refine W.bind' (rO e) ?_;rintro O i _ hO⟨rfl,hi⟩;split;.exact .dead<|u.bind (lW _ _) _
   .refine W.bind' (rO e) ?_;rintro P i _ hP⟨rfl,hi⟩;split
    .refine .dead<|u.bind ?_ _;split;.exact lW _ _
     .refine u.then _ λb=>?_;split;.exact u.then _ λ_=>.halt _
      .exact .halt _
    .refine W.bind' (Gl _) ?_;rintro Q Q3 _ hQ rfl;refine W.bind' (rO e) ?_;rintro QY i _ hS⟨rfl,hi⟩;refine W.bind' (afd _) ?_;rintro QZ _ _ hT _;refine W.bind' (Xk _ _<|hsv.mono<|by omega) ?_;rintro QW C aH1 hU hold;refine W.bind' (D QW<|by omega) ?_;rintro Q0 Qw c hV B;refine W.bind' (DT hz e) ?_;rintro Q2 z z' hW⟨hzv,R⟩;have E:bD ρ I Q2 (A6 z.cells<|Q3-(f+n))<|A6 z'.cells<|Q3-(f+n):=by rw[hzv.2,(qT (ρ:=ρ) (I:=I) (N:=Q2) R).2];exact bD.zeroCells R _
     refine W.bind' (Jy λb hb=>hF b<|by omega e<|((hold.mono<|by omega).append<|B.mono<|by omega).append E) ?_;rintro X a a' hX QX;exact .pure' ⟨by simpa[S]using QX.1,by rw[QX.2];simp[F]⟩
 cases ts[1]? with
 |none=>refine W.bind' (R:=RD) (.pure' rfl) ?_;rintro P z _ hP rfl;cases z with
  |true=>
   rw[cJ rfl,cJ rfl];refine W.bind' (JC<|Q1.mono<|by omega) ?_;rintro L l _ hL rfl;by_cases h:aG.wrap l<0;.refine .dead ?_;rw[cJ h];exact u.bind (lW _ _) _
   .rw[if_neg h,if_neg h];refine W.bind' (rO e) ?_;rintro Q i _ hQ⟨rfl,hi⟩;by_cases G:aG.wrap l*↑i.bytes>2^48;.refine .dead ?_;rw[cJ G];exact u.then _ λ_=>u.bind (lW _ _) _
    .rw[if_neg G,if_neg G];exact w Q Z (aG.wrap l).toNat<|by omega|false=>rw[if_neg qq,if_neg qq];refine W.bind' (Xe<|Q1.mono<|by omega) ?_;rintro L n _ hL rfl;exact w L ai n<|by omega
 |some xt=>refine W.bind' (gD xt) ?_;rintro O d _ hO rfl;refine W.bind' (R:=RD) (.pure' rfl) ?_;rintro P z _ hP rfl;cases z with
  |true=>
   rw[cJ rfl,cJ rfl];refine W.bind' (JC<|Q1.mono<|by omega) ?_;rintro L l _ hL rfl;by_cases h:aG.wrap l<0;.refine .dead ?_;rw[cJ h];exact u.bind (lW _ _) _
   .rw[if_neg h,if_neg h];refine W.bind' (rO e) ?_;rintro Q i _ hQ⟨rfl,hi⟩;by_cases G:aG.wrap l*↑i.bytes>2^48;.refine .dead ?_;rw[cJ G];exact u.then _ λ_=>u.bind (lW _ _) _
    .rw[if_neg G,if_neg G];exact w Q Z (aG.wrap l).toNat<|by omega|false=>rw[if_neg qq,if_neg qq];refine W.bind' (Xe<|Q1.mono<|by omega) ?_;rintro L n _ hL rfl;exact w L ai n<|by omega
theorem atS(h:Array dV)(t:dV){b A:Array az}(m:bD ρ I N b A):W ρ I (J q fs) q (RV ρ I) N (amo h t b)<|amo h t A:=by unfold amo;cases h[0]? with|none=>grind[T]|some w=>cases v:b[0]? with|none=>grind[T]|some s=>cases B:b[1]? with|none=>grind[T]|some x=>
 obtain⟨j,u⟩:=m.get v;obtain⟨i,r⟩:=m.get B;rw[u,r];dsimp only;refine W.bind' (gD w) ?_;rintro M d _ z rfl;cases d<;>try grind[T]
 rename_i e;cases s<;>try exact T _ _
 rename_i c o l;simp only[F];have k:RV ρ I N x<|F ρ x:=⟨i,rfl⟩;refine W.bind' (Xe<|k.mono z) ?_;rintro K n _ D rfl;refine W.bind' (nu e) ?_;rintro L p _ E rfl;refine W.bind' (Xk _ _<|k.mono<|by omega) ?_;rintro O g f G y;cases c with|none=>exact .pure'<|RV.plain rfl|some a=>have C:RA ρ I N a<|dA ρ a:=⟨by simpa[S]using j,rfl⟩;simp only[ee];refine W.bind' (WT 0 (C.mono<|by omega) y) ?_;rintro P _ _ H _;exact .pure'<|RV.plain rfl
theorem Xj{f}(d:∀N x y,S I N x=Z->S I N y=Z->W ρ I (J q fs) q (RV ρ I) N (f x y) (f (F ρ x)<|F ρ y)):∀(l:List az)(N)(x),S I N x=Z->(∀y∈l,S I N y=Z)->W ρ I (J q fs) q (RV ρ I) N (l.foldlM f x) ((l.map<|F ρ).foldlM f<|F ρ x)|[],N,x,c,_=>.pure' ⟨c,rfl⟩|y::l,N,x,c,h=>by refine W.bind' (d N x y c<|h y<|by simp) ?_;rintro M v j g⟨e,rfl⟩;exact Xj d l M v e λz i=>ff g<|h z<|by grind
theorem atr(N)(x y)(j:S I N x=Z)(b:S I N y=Z):W ρ I (J q fs) q (RV ρ I) N (Builtin.max2 x y)<|Builtin.max2 (F ρ x)<|F ρ y:=by rcases x with d|⟨m,g⟩|⟨_,_⟩|⟨_,_,_⟩|f|(_|c)|⟨_,_,_⟩|_|_|⟨_,_,_⟩|_|⟨_,_⟩|_|_|_<;>rcases y with e|⟨h,i⟩|⟨_,_⟩|⟨_,_,_⟩|k|(_|l)|⟨_,_,_⟩|_|_|⟨_,_,_⟩|_|⟨_,_⟩|_|_|_<;>(try(simp[S]at b))<;>first|exact T _ _|exact iG _ _|exact .pure<|RV.plain rfl
theorem atm(N)(x y)(j:S I N x=Z)(b:S I N y=Z):W ρ I (J q fs) q (RV ρ I) N (Builtin.min2 x y)<|Builtin.min2 (F ρ x)<|F ρ y:=by rcases x with d|⟨m,g⟩|⟨_,_⟩|⟨_,_,_⟩|f|(_|c)|⟨_,_,_⟩|_|_|⟨_,_,_⟩|_|⟨_,_⟩|_|_|_<;>rcases y with e|⟨h,i⟩|⟨_,_⟩|⟨_,_,_⟩|k|(_|l)|⟨_,_,_⟩|_|_|⟨_,_,_⟩|_|⟨_,_⟩|_|_|_<;>(try(simp[S]at b))<;>first|exact T _ _|exact iG _ _|exact .pure<|RV.plain rfl
theorem att(d)(t){c b}(e:bD ρ I N c b):W ρ I (J q fs) q (RV ρ I) N (amn d t c)<|amn d t b:=by unfold amn;rw[e.2,za];have:=e.1;cases g:c.toList with|nil=>grind[T]|cons x l=>have h:∀v∈x::l,S I N v=Z:=λv f=>this v (by grind);grind[Xj,atr]
theorem atn(d)(t){c b}(e:bD ρ I N c b):W ρ I (J q fs) q (RV ρ I) N (amm d t c)<|amm d t b:=by unfold amm;rw[e.2,za];have:=e.1;cases g:c.toList with|nil=>grind[T]|cons x l=>have h:∀v∈x::l,S I N v=Z:=λv f=>this v (by grind);grind[Xj,atm]
inductive Dn(ρ:Nat->Nat)(I:H)(N:Nat):Place->Place->Prop|val{v v':az}(h:RV ρ I N v v'):Dn ρ I N (.val v)<|.val v'|var{a a':eF}(h:RA ρ I N a a'):Dn ρ I N (.var a)<|.var a'
theorem Dn.mono{x x'}(h:Dn ρ I N x x')(a:N<=M):Dn ρ I M x x':=by cases h with|val h=>exact .val<|h.mono a|var h=>exact .var<|h.mono a
theorem Rs(t){x x'}(h:Dn ρ I N x x'):W ρ I (J q fs) q (RV ρ I) N (x.get t)<|x'.get t:=by cases h with|val h=>exact .pure' h|var h=>exact DU t h
theorem Rv:∀(l:List FieldStep)(t:dV)(N:Nat)(x x':Place),Dn ρ I N x x'->W ρ I (J q fs) q (λN a b=>a.1=b.1/\Dn ρ I N a.2 b.2) N (follow l t x) (follow l t x')
 |[],t,N,x,x',h=>by unfold follow;exact .pure' ⟨rfl,h⟩|s::c,t,N,x,x',h=>by
  rw[follow,follow];refine W.bind' (gD s.struct) ?_;rintro M d _ i rfl;cases d<;>try exact T _ _
  rename_i e;dsimp only;cases e[s.index]? with|none=>grind[T]|some f=>
  dsimp only;by_cases hd:s.deref=Z;.rw[cJ hd,cJ hd];refine W.bind' (Rs t<|h.mono i) ?_;rintro K v u w m;refine W.bind' (ML m) ?_;rintro L a r y n;refine W.bind' (Xm n f) ?_;rintro O b j k g;exact Rv c f.type O _ _<|.var g
  .rw[if_neg hd,if_neg hd];cases h with|var h=>refine W.bind' (Xm (h.mono i) f) ?_;rintro O b j k g;exact Rv c f.type O _ _<|.var g|val h=>
    obtain⟨o,rfl⟩:=h;rename_i v;cases v<;>try exact T _ _
    rename_i p;simp only[F];refine W.bind' (wH _ _<|bD.zV o<|by omega) ?_;rintro O b j k g;exact Rv c f.type O _ _<|.val g
theorem aEJ(p)(c)(t)(a b):u p<|PN c t #[aF V,aE a,aE b]:=by
 unfold PN;refine u.then _ λn=>?_;dsimp only;by_cases E:(n==1)=Z;.rw[cJ E];exact u.bind (lW _ _) _
 .rw[if_neg E];split
  .refine u.then _ λd=>?_;split
   .refine u.then _ λi=>?_;split
    .split
     .split;.grind[lW]
      .exact .halt _
     .exact .halt _
    .exact .halt _
   .exact .halt _
  .exact .halt _
theorem asV(c)(t)(a b){x x'}(h:RV ρ I N x x'):W ρ I (J q fs) q (RV ρ I) N (PN c t #[x,aE a,aE b])<|PN c t #[x',a,b]:=by have d:=h;obtain⟨i,rfl⟩:=h;rcases x with e|⟨j,g⟩|⟨_,_⟩|⟨_,_,_⟩|f|(_|p)|⟨_,_,_⟩|_|_|⟨_,_,_⟩|_|⟨_,_⟩|_|_|_<;>first|exact T _ _|exact .dead<|aEJ _ _ _ _ _|exact .pure d
theorem ate(t)(p)(w){x x'}(h:Dn ρ I N x x'):W ρ I (J q fs) q (RV ρ I) N (receiverAt t x p w)<|receiverAt t x' p w:=by
 unfold receiverAt;refine W.bind' (gD t) ?_;rintro M d _ g rfl;have j:∀(b:dV)(K:Nat)(v e:az),RV ρ I K v e->W ρ I (J q fs) q (RV ρ I) K (do loadVar b<|<-asAddr v) (do loadVar b<|<-asAddr e):=λb K v e f=>by refine W.bind' (ML f) ?_;grind[DU]
 have a:∀b:dV,W ρ I (J q fs) q (RV ρ I) M (do
    let a<-x.get t;let a<-match w with|some c=>PN #[t] t #[a,strVal "",strVal c]|none=>bI a
    loadVar b<|<-asAddr a) (do
    let a<-x'.get t;let a<-match w with|some c=>PN #[t] t #[a,strVal "",strVal c]|none=>bI a
    loadVar b<|<-asAddr a):=λb=>by refine W.bind' (Rs t<|h.mono g) ?_;rintro K v e k f;cases w with|none=>grind|some c=>refine W.bind' (asV _ _ _ _ f) ?_;grind
 have i:=Rs (ρ:=ρ) (I:=I) (q:=q) (fs:=fs) t<|h.mono g;cases p with
 |true=>cases h with|val h=>grind[T]|var h=>cases d<;>first|exact i|exact .pure'<|RV.ptr<|h.mono g
 |false=>cases h with
  |val h=>cases d<;>first|exact a _|exact i
  |var h=>cases d<;>first|exact a _|exact i
def acR(q:bZ)(I:H)(name:String):Prop:=∀t i m f p,q.info? t=U i->i.methods.find? (·.name==name)=U m->m.func=U (f,p)->I.T f=Z
theorem atp(c)(w:acR q I c)(d):∀(t)(N)(v v'),RV ρ I N v v'->W ρ I (J q fs) q (λN a b=>a.1=b.1∧I.T a.1=Z∧RV ρ I N a.2 b.2) N (CX d t v c) (CX d t v' c):=by induction d with|zero=>intro t N v v' _;exact iG _ _|succ d z=>intro t N v v' j;rw[CX,CX];refine W.bind' (rO t) ?_;rintro M i _ y⟨rfl,A⟩;cases s:i.methods.find? (·.name==c)with|none=>grind[T]|some m=>dsimp only;refine W.bind' (Rv _ t M _ _<|.val<|j.mono y) ?_;rintro K⟨g,x⟩⟨B,F⟩E⟨rfl,e⟩;dsimp only;cases C:m.func with
  |none=>
   refine W.bind' (Rs g e) ?_;rintro L u h r⟨l,rfl⟩;cases u<;>try exact T _ _
   ·rename_i o n;exact z o L n _ ⟨by grind[S],rfl⟩
   grind[Jw]|some k=>obtain⟨f,p⟩:=k;refine W.bind' (ate g p _ e) ?_;rintro L u h r D;exact .pure' ⟨rfl,w t i m f p A s C,D⟩
inductive RN(ρ:Nat->Nat)(I:H)(q:bZ)(N:Nat):Next->Next->Prop|value{v v':az}(h:RV ρ I N v v'):RN ρ I q N (gq v)<|gq v'|skip:RN ρ I q N .skip .skip|enter{f:fC}{mV qK:Array az}(hf:I.T f=Z)(hb:∃fn c,q.funcs[f]?=U fn/\fn.body=U c)(h:bD ρ I N mV qK):RN ρ I q N (jO f mV)<|jO f qK|abS{f:fC}{mV qK:Array az}(hc:I.cut f mV.size=Z)(h:bD ρ I N mV qK):RN ρ I q N (jO f mV)<|jO f qK|round{l:Nat}{f:fC}{ts Ji:Array az}{a b:Code}(hl:I.blk N l=Z)(hf:I.T f=Z)(h:bD ρ I N ts Ji)(ha:I.gx a=Z)(hb:I.gx b=Z):RN ρ I q N (.round l f ts a b)<|.round (ρ l) f Ji a b
theorem jk{s b}(h:W ρ I (J q fs) q (RV ρ I) N s b):W ρ I (J q fs) q (RN ρ I q) N (do bI<|gq<|<-s) (do bI<|gq<|<-b):=W.bind' h λ_ _ _ _ c=>.pure'<|.value c
theorem WQ{s b}(h:W ρ I (J q fs) q RU N s b):W ρ I (J q fs) q (RN ρ I q) N (do s;bI .skip) (do b;bI .skip):=W.bind' h λ_ _ _ _ _=>.pure' .skip
def tw(q:bZ)(fs:Array dY)(e:Array az->cz az):Prop:=∀(ρ:Nat->Nat)(I:H)(N:Nat),(∀b,N<=b->I.F b=Z)->Fair ρ q->tf q->q.globals.size<N->I.F q.globals.size=Z->∀E qK,bD ρ I N E qK->W ρ I (J q fs) q (RV ρ I) N (e E) (e qK)
structure Vr(I:H)(q:bZ)(fs:Array dY):Prop where
 kB:I.F q.globals.size=Z
 fn:∀f,I.T f=Z->∃fn P,fs[f]?=U fn/\q.funcs[f]?=U P/\P.name=fn.name/\(fn.name== "runtime.NumGoroutine")=ai/\((∃b b',fn.body=U b/\P.body=U b')\/(P=fn/\fn.body=V/\abX fn=V/\∃e,Extern.find fn=U e/\tw q fs e)\/P=fn/\fn.body=V/\abX fn=V/\Extern.find fn=V/\(fn.name.endsWith ".init"&&!fn.name.startsWith "("&&!fn.name.startsWith "gosem.")=ai)
def ac3(I:H)(q:bZ)(fs:Array dY):Prop:=∀f n,I.cut f n=Z->∃fn P,fs[f]?=U fn/\q.funcs[f]?=U P/\(fn.name== "runtime.NumGoroutine")=ai/\(P.name== "runtime.NumGoroutine")=ai/\fn.body.isNone=ai/\P.body.isNone=ai
theorem atV(r:ac3 I q fs){f}{d b}(i:I.cut f d.size=Z)(h:bD ρ I N d b):W ρ I (J q fs) q (RN ρ I q) N (iJ f d)<|iJ f b:=by refine W.bind' mG ?_;rintro M p e l⟨rfl,rfl⟩;obtain⟨m,o,j,n,k,g,s,c⟩:=r f _ i;show W ρ I (J e fs) e (RN ρ I e) M (match fs[f]? with|none=>_|some m=>_) _;rw[j,n];dsimp only;rw[k,g,s,c];exact .pure'<|.abS i<|h.mono l
theorem afa(A:∀b,N<=b->I.F b=Z)(k:Fair ρ q)(y:tf q)(x:q.globals.size<N)(r:Vr I q fs){f}(u:I.T f=Z){n d}(h:bD ρ I N n d):W ρ I (J q fs) q (RN ρ I q) N (iJ f n)<|iJ f d:=by
 refine W.bind' mG ?_;rintro M p l t⟨rfl,rfl⟩;obtain⟨w,m,v,o,z,C,s⟩:=r.fn f u;show W ρ I (J l fs) l (RN ρ I l) M (match fs[f]? with|none=>_|some w=>_) _;rw[v,o];dsimp only;rw[z,C];rcases s with⟨b,B,g,c⟩|⟨rfl,g,c,e,j,i⟩|⟨rfl,g,c,j,i⟩;.rw[g,c];exact .pure'<|.enter u ⟨m,B,o,c⟩<|h.mono t
 .rw[g];refine W.mark rfl ?_;simp only[c,j];exact jk<|i ρ I M λb s=>A b<|by omega k y (by omega) r.kB _ _<|h.mono t
 .rw[g];refine W.mark rfl ?_;simp only[c,j,i];exact iG _ _
theorem atU(w:∀b,N<=b->I.F b=Z)(g:Fair ρ q)(o:tf q)(n:q.globals.size<N)(m:Vr I q fs){c}(s:acR q I c){x x'}(k:RV ρ I N x x'){i d}(h:bD ρ I N i d):W ρ I (J q fs) q (RN ρ I q) N (callMethod x c i)<|callMethod x' c d:=by
 unfold callMethod;obtain⟨e,rfl⟩:=k;cases x<;>try grind[T]
 .rename_i t v;refine W.bind' mG ?_;rintro M p B u⟨rfl,rfl⟩;refine W.bind' (atp c s _ t M v _ ⟨ff u<|by simpa[S]using e,rfl⟩) ?_;rintro K⟨f,r⟩⟨C,A⟩j⟨rfl,y,l⟩;refine afa λb z=>w b<|by omega g o (by omega) m y ?_;exact(bD.nil.push l).append<|h.mono<|by omega
 grind[Jw]
theorem MJ{l}(c:I.blk N l=Z):W ρ I (J q fs) q (λN r b=>oq I N r=Z/\b=Eb ρ r) N (Instr.getLoop l)<|Instr.getLoop<|ρ l:=by refine W.bind' (wI c) ?_;rintro M o f e⟨d,rfl⟩;cases o<;>first|grind[T]|exact .pure' ⟨d,rfl⟩
theorem ali(f:az->az):∀(l:List<|Tmp×az)(d:Array az),(l.map λx=>(x.1,f x.2)).foldl (λc x=>c.setIfInBounds x.1 x.2) (d.map f)=(l.foldl (λc x=>c.setIfInBounds x.1 x.2) d).map f|[],_=>rfl|x::l,d=>by simp only[gh,Ay];rw[<-ali f l];congr 1;grind
theorem alh{P:az->Prop}:∀(l:List<|Tmp×az)(d:Array az),(∀x∈l,P x.2)->(∀v∈d,P v)->∀v∈l.foldl (λc x=>c.setIfInBounds x.1 x.2) d,P v|[],_,_,h=>h|x::l,d,e,h=>by refine alh l _ λy f=>e y<|by grind λv g=>?_;grind
theorem ac6(f:az->az):∀(d:List Tmp)(e),d.zip (e.map f)=(d.zip e).map λx=>(x.1,f x.2)|[],_=>by simp|_::_,[]=>by simp|p::d,a::e=>by simp[ac6 f d e]
theorem bD.params{g d j e}(f:Array Tmp)(i:bD ρ I N g d)(h:bD ρ I N j e):bD ρ I N ((f.zip j).foldl (λc(t,a)=>c.setIfInBounds t a) g)<|(f.zip e).foldl (λc(t,a)=>c.setIfInBounds t a) d:=by rw[<-Nt,<-Nt,ahZ,ahZ,h.2,za,ac6,i.2];refine⟨alh _ _ (λx k=>?_) i.1,ali (F ρ) _ _⟩;exact h.1 _<|by simpa using(List.of_mem_zip k).2
theorem oq.parts{r}(h:oq I N r=Z):(∀v∈r.tmps,S I N v=Z)/\I.gx r.assign=Z/\I.gx r.body=Z/\(∀c,r.pending=U c->I.gx c=Z)/\I.T r.fn=Z/\I.blk N r.defers=Z:=by simp only[oq,cG,lE]at h;grind
theorem oq.of{r}(e:∀v∈r.tmps,S I N v=Z)(d:I.gx r.assign=Z)(a:I.gx r.body=Z)(g:∀c,r.pending=U c->I.gx c=Z)(f:I.T r.fn=Z)(b:I.blk N r.defers=Z):oq I N r=Z:=by simp only[oq,cG,lE];refine⟨⟨⟨⟨⟨e,d⟩,a⟩,?_⟩,f⟩,b⟩;cases h:r.pending with|none=>rfl|some c=>grind
theorem asU{l}(e:I.blk N l=Z){d b}(h:bD ρ I N d b):W ρ I (J q fs) q (RN ρ I q) N (Instr.yield l d)<|Instr.yield (ρ l) b:=by
 refine W.bind' (MJ e) ?_;rintro M r p c⟨i,rfl⟩;rw[h.size];have m:(Eb ρ r).params=r.params:=rfl;rw[m];split;.exact .dead<|u.bind (.halt _) _
 .obtain⟨f,j,g,o,k,n⟩:=oq.parts i;exact .pure'<|RN.round (H.ey e c) k (bD.params _ ⟨f,rfl⟩<|h.mono c) j g
theorem WV{l}{r}(c:I.blk N l=Z)(b:oq I N r=Z):W ρ I (J q fs) q RU N (setObj l<|A9 r)<|setObj (ρ l)<|A9<|Eb ρ r:=MG (o:=A9 r) c b<|by simp
theorem at2{l}(b:I.blk N l=Z):W ρ I (J q fs) q RU N (Instr.beginRound l)<|Instr.beginRound<|ρ l:=by refine W.bind' (MJ b) ?_;rintro M r k d⟨h,rfl⟩;obtain⟨f,i,g,e,j,c⟩:=oq.parts h;refine W.bind' (WV (r:={r with state:=.busy}) (H.ey b d)<|oq.of f i g e j c) ?_;rintro K _ _ m _;show W ρ I (J q fs) q RU K (match r.state with|FA=>_|.done=>_|.busy=>_|.exhausted=>_)<|match r.state with|FA=>_|.done=>_|.busy=>_|.exhausted=>_;cases r.state<;>first|exact .pure' trivial|grind[Jw]
theorem atN{l}(b:I.blk N l=Z){j}(d:∀c,j=U c->I.gx c=Z):W ρ I (J q fs) q (RV ρ I) N (UM l j)<|UM (ρ l) j:=by refine W.bind' (MJ b) ?_;rintro M r o f⟨i,rfl⟩;obtain⟨g,k,h,n,m,e⟩:=oq.parts i;refine W.bind' (WV (r:={r with state:=if j.isNone then FA else .done,pending:=j}) (H.ey b f)<|oq.of g k h d m e) ?_;rintro K _ _ p _;exact .pure'<|RV.plain rfl
theorem atO{l}(d:I.blk N l=Z):W ρ I (J q fs) q (λN j m=>j=m/\∀c,j=U c->I.gx c=Z) N (Instr.endLoop l)<|Instr.endLoop<|ρ l:=by
 refine W.bind' (MJ d) ?_;rintro M r p f⟨i,rfl⟩;obtain⟨g,n,h,b,o,e⟩:=oq.parts i;have k:(Eb ρ r).state=r.state:=rfl;rw[k];split;.exact .dead<|u.bind (lW _ _) _
 .refine W.bind' (WV (r:={r with state:=.exhausted}) (H.ey d f)<|oq.of g n h b o e) ?_;rintro K _ _ s _;exact .pure' ⟨rfl,b⟩
def FP(ρ:Nat->Nat)(I:H)(N:Nat)(ds E:List Deferred):Prop:=∃l:List Nat,(∀r∈l,I.blk N r=Z)/\ds=l.map (λr=>{target:=Lq r,args:=#[]})/\E=l.map λr=>{target:=Lq<|ρ r,args:=#[]}
theorem FP.mono{ds b}(h:FP ρ I N ds b)(g:N<=M):FP ρ I M ds b:=by obtain⟨l,f,e,c⟩:=h;exact⟨l,λr d=>H.ey (f r d) g,e,c⟩
theorem as0{r}(e:I.blk N r=Z):W ρ I (J q fs) q (λ_ a b=>a=[]/\b=[]) N (US r)<|US<|ρ r:=by
 refine W.bind' (wI e) ?_;rintro M o i f⟨g,rfl⟩;cases o<;>try grind[T]
 rename_i d;cases d with|none=>grind[T]|some d=>
  have:=by simpa[er]using g
  subst this;refine W.bind' (MG (o:=uA V) (H.ey e f) (by simp[er])<|by simp) ?_;rintro K _ _ h _;exact .pure' ⟨rfl,rfl⟩
def tL(I:H)(q:bZ):ja->Bool|gO v=>n v|cy _=>Z|.global g=>bP (g<q.globals.size)&&I.F g|.func f=>I.T f
def aeb:Builtin->Bool|.append|.len|.max|.min|.copy|.delete=>Z|_=>ai
def Jl(I:H)(nm:String->Bool)(K:ja->Bool)(c:Call):Bool:=c.args.all K&&match c.callee with|.builtin b=>aeb b|.value f=>K f||(match f with|.func g=>I.cut g c.args.size|_=>ai)|.invoke r name=>K r&&nm name
def JY(q:bZ)(t:dV):Bool:=match q.underlying t with|some UN=>ai|_=>Z
def Al(I:H)(q:bZ)(nm:String->Bool)(K:ja->Bool):Op->Bool|.move x|pA x=>K x|.pick c a b=>K c&&K a&&K b|.alloc _=>Z|.box _ x=>K x|.build _ ps=>ps.all λx=>K x.2|.buildSlice _ _ ps=>ps.all λx=>K x.2|.load _ a=>K a|.store _ a x=>K a&&K x|.nilCheck x=>K x|.binOp _ _ x y _=>K x&&K y|.unOp _ _ x=>K x|.convert s d x=>K x&&JY q s&&JY q d|.sliceToArrayPointer _ x=>K x|.makeInterface _ x=>K x|.makeFunc fn first cap=>(match fn with|ei f=>I.T f|_=>ai)&&first.all K&&cap.all K|.makeMap _ r=>r.all K|.makeSlice _ l c=>K l&&K c|.slice _ x lo hi mx=>K x&&lo.all K&&hi.all K&&mx.all K|.fieldAddr _ x _=>K x|.field _ x _=>K x|.indexAddr _ x i=>K x&&K i|.index _ x i=>K x&&K i|.lookup _ x i _=>K x&&K i|.mapUpdate _ m k x=>K m&&K k&&K x|.insert _ m k x=>K m&&K k&&K x|.range _ x=>K x|.next x _=>K x|.entry x=>K x|.typeAssert x _ _ _=>K x|.extract x _=>K x|.call c=>Jl I nm K c|.panic x=>K x|_=>ai
def DL(I:H)(q:bZ)(nm:String->Bool):Op->Bool:=Al I q nm<|tL I q
variable {K:ja->Bool}
theorem bD.map{e d}(h:∀x,K x=Z->RV ρ I N (e x) (d x)){xs:Array ja}(b:xs.all K=Z):bD ρ I N (xs.map e)<|xs.map d:=by
 simp only[lE]at b;refine⟨λv f=>?_,?_⟩;.obtain⟨x,c,rfl⟩:=Kg.1 f;exact(h x<|b x c).1
 .rw[Array.map_map];exact Np λx c=>(h x<|b x c).2
theorem Bl.map{e c:ja->az}(h:∀x,K x=Z->RV ρ I N (e x) (c x)){xs:Array<|Nat×ja}(b:xs.all (λx=>K x.2)=Z):Bl ρ I N (xs.map λ(i,x)=>(i,e x))<|xs.map λ(i,x)=>(i,c x):=by
 simp only[lE]at b;refine⟨λv f=>?_,?_⟩;.obtain⟨x,d,rfl⟩:=Kg.1 f;exact(h x.2<|b x d).1
 .rw[Array.map_map];refine Np λx d=>?_;show(x.1,c x.2)=(x.1,F ρ<|e x.2);rw[(h x.2<|b x d).2]
theorem RO.map{e b}(h:∀x,K x=Z->RV ρ I N (e x) (b x)){o:Option ja}(c:o.all K=Z):RO ρ I N (o.map e)<|o.map b:=by cases o with|none=>exact⟨by simp,rfl⟩|some x=>have:=h x (by grind);exact⟨by rintro v⟨⟩;exact this.1,by simp[this.2]⟩
theorem aEK(p)(x):u p<|Instr.panic x:=by
 unfold Instr.panic;split;.exact .halt _
 .refine u.then _ λn=>?_;split;.exact .halt _
  grind[lW]
 .exact .halt _
theorem atY(i:∀b,N<=b->I.F b=Z)(e:Fair ρ q)(g:tf q){b}(j:aeb b=Z)(c)(t)(cs){f d}(h:bD ρ I N f d):W ρ I (J q fs) q (RN ρ I q) N (builtin b c t cs f)<|builtin b c t cs d:=by cases b<;>first|exact absurd j<|by decide|exact jk<|at7 i g c t h|exact jk<|aeT c t h|exact jk<|att c t h|exact jk<|atn c t h|exact jk<|atS c t h|exact jk<|atP e c t h
structure nU(I:H)(q:bZ)(fs:Array dY)(nm:String->Bool):Prop where
 Qi:tf q
 kin:Vr I q fs
 named:∀s,nm s=Z->acR q I s
 Pq:ac3 I q fs
theorem ae9{nm}(n:nU I q fs nm)(s:∀b,N<=b->I.F b=Z)(j:Fair ρ q)(i:q.globals.size<N){f f'}(t:RV ρ I N f f'){m h}(p:bD ρ I N m h):W ρ I (J q fs) q (RN ρ I q) N (PG f m>>=λd=>invoke d.target d.args)<|PG f' h>>=λd=>invoke d.target d.args:=by
 obtain⟨e,rfl⟩:=t;cases f<;>try exact T _ _
 .rename_i r c k;simp only[S,cG]at e;have o:bD ρ I N c<|oe ρ c:=⟨by grind[Gw,Array.all_eq_true_iff_forall_mem],yL ρ c⟩;cases r with|func g=>exact afa s j n.Qi i n.kin (by simpa[ve]using e.1.1)<|(o.append p).append ⟨by grind[Gw,Array.all_eq_true_iff_forall_mem],yL ρ k⟩|yield l=>exact asU (by simpa[ve]using e.1.1)<|o.append p|_=>simp[ve]at e
 .exact .dead<|lW _ .nilDeref
theorem atW{nm:String->Bool}(p:nU I q fs nm)(w:∀b,N<=b->I.F b=Z)(o:Fair ρ q)(s:q.globals.size<N){e j:ja->az}(h:∀x,K x=Z->RV ρ I N (e x) (j x))(E:∀g,e (.func g)=dF (ei g) #[] #[])(v:∀g,j (.func g)=dF (ei g) #[] #[]){c:Call}(k:Jl I nm K c=Z)(t:dV):W ρ I (J q fs) q (RN ρ I q) N (do let d<-resolve e c t;invoke d.target d.args) (do let d<-resolve j c t;invoke d.target d.args):=by
 obtain⟨l,i,C⟩:=c;simp only[Jl,cG]at k;obtain⟨B,k⟩:=k;have u:=bD.map h B;cases l with|builtin b=>exact atY w o p.Qi k _ _ _ u|invoke r n=>
  simp only[cG]at k;have y:=h r k.1;have m:=(bD.nil.push y).append u;show W ρ I (J q fs) q (RN ρ I q) N (invoke (.fn (.method n) #[])<|#[e r]++i.map e)<|invoke (.fn (.method n) #[])<|#[j r]++i.map j;have z:(#[e r]++i.map e)[0]?=U (e r):=by grind
  have A:(#[j r]++i.map j)[0]?=U (j r):=by grind
  unfold invoke;simp only[z,A];exact atU w o p.Qi s p.kin (p.named _ k.2) y<|m.size▸m.extract _ _|value f=>
  rcases jT _ _▸k with k|k;.exact ae9 p w o s (h f k) u
  .cases f with|func g=>
    show W ρ I (J q fs) q (RN ρ I q) N (PG (e<|.func g) (i.map e)>>=λd=>invoke d.target d.args)<|PG (j<|.func g) (i.map j)>>=λd=>invoke d.target d.args;rw[E g,v g];have D:#[]++i.map e++#[]=i.map e:=by simp
    have G:#[]++i.map j++#[]=i.map j:=by simp
    show W ρ I (J q fs) q (RN ρ I q) N (iJ g<|#[]++i.map e++#[])<|iJ g<|#[]++i.map j++#[];rw[D,G];exact atV p.Pq (by grind) u|_=>grind
theorem ae2{nm:String->Bool}(O:nU I q fs nm)(w:∀b,N<=b->I.F b=Z)(Q3:Fair ρ q)(H:q.globals.size<N){e L:ja->az}(h:∀x,K x=Z->RV ρ I N (e x) (L x))(R:∀g,e (.func g)=dF (ei g) #[] #[])(G:∀g,L (.func g)=dF (ei g) #[] #[]){o:dG}(j:Al I q nm K o.op=Z):W ρ I (J q fs) q (RN ρ I q) N (cS e o)<|cS L o:=by
 obtain⟨Q,op,A,P,Q0⟩:=o;have z:=O.Qi;cases op<;>simp only[Al,cG,ow]at j;case move x=>exact .pure'<|.value<|h x j
 case assign x=>exact .pure'<|.value<|h x j
 case pick c a b=>
  refine W.bind' (afe<|h c j.1.1) ?_;rintro M b _ B rfl;refine .pure'<|.value ?_;split;·exact(h _ j.1.2).mono B
  ·exact(h _ j.2).mono B
 case alloc t=>exact jk<|aua w z t
 case box t x=>exact jk<|at1 w t<|h x j
 case build t ps=>exact jk<|at0 z t<|Bl.map h j
 case buildSlice t n ps=>exact jk<|atZ w z t n<|Bl.map h j
 case load t a=>exact jk<|aeR t<|h a j
 case store t a x=>exact WQ<|as5 t (h a j.1)<|h x j.2
 case nilCheck x=>obtain⟨D,C⟩:=h x j;unfold cS;dsimp only;rw[C];have E:=h x j;rw[C]at E;generalize e x=v at D E⊢;rcases v with Q1|⟨T,X⟩|⟨_,_⟩|⟨_,_,_⟩|Q2|(_|p)|⟨_,_,_⟩|_|_|⟨fn,_,_⟩|_|⟨_,_⟩|_|_|_<;>first|exact .pure<|.value E|exact .dead<|lW _ .nilDeref|(cases fn<;>first|exact .pure<|.value E|(simp[S,ve]at D;done))
 case binOp op t x y yt=>refine jk<|W.bind' (ae6 op t x y (h x j.1)<|h y j.2) ?_;rintro M _ _ B _;exact afb λb f=>w b<|by omega Q3 op t ((h x j.1).mono B)<|(h y j.2).mono B
 case unOp op t x=>exact jk<|asY op<|h x j
 case convert s d x=>
  refine jk<|atT w z s d ?_ ?_<|h x j.1.1;·intro e;have:=j.1.2;rw[JY,e]at this;grind
  ·intro e;have:=j.2;rw[JY,e]at this;grind
 case sliceToArrayPointer t x=>exact jk<|at5 t<|h x j
 case makeInterface t x=>exact jk<|atz t<|h x j
 case makeFunc fn first cap=>
  have D:=bD.map h j.1.2;have C:=bD.map h j.2;cases fn<;>simp only[ow,false_and]at j;refine jk<|.pure' ⟨?_,?_⟩;·simp only[S,ve,Gw,cG,lE];exact⟨⟨j.1.1,D.1⟩,C.1⟩
  ·simp only[F,BM,yL,D.2,C.2]
 case makeMap t r=>exact jk<|aty w t<|RO.map h j
 case makeSlice t l c=>exact jk<|atx w z t (h l j.1)<|h c j.2
 case slice t x lo hi mx=>exact jk<|as7 t (h x j.1.1.1) (RO.map h j.1.1.2) (RO.map h j.1.2)<|RO.map h j.2
 case fieldAddr t x i=>exact jk<|ae0 t i<|h x j
 case field t x i=>exact jk<|atH t i<|h x j
 case indexAddr t x i=>exact jk<|aeU t (h x j.1)<|h i j.2
 case index t x i=>exact jk<|atG t (h x j.1)<|h i j.2
 case lookup t x i ok=>exact jk<|atA Q3 z t ok (h x j.1)<|h i j.2
 case mapUpdate t m k x=>exact WQ<|aeO Q3 t (h m j.1.1) (h k j.1.2)<|h x j.2
 case insert t m k x=>exact WQ<|aeO Q3 t (h m j.1.1) (h k j.1.2)<|h x j.2
 case range t x=>exact jk<|atf w t<|h x j
 case next x s=>exact jk<|atk _ s<|h x j
 case entry x=>exact jk<|atL<|h x j
 case typeAssert x a b ok=>exact jk<|asZ z a b ok<|h x j
 case extract x i=>exact jk<|ae1 i<|h x j
 case call c=>exact atW O w Q3 H h R G j A
 case panic x=>exact .dead<|u.bind (aEK _ _) _
variable{nm:String->Bool}{L:Option Nat}
def iD(I:H)(q:bZ)(nm:String->Bool):Code->Bool|.skip|.exit _|.ret|.refuse _=>Z|dS _ ops _=>ops.all λo=>DL I q nm o.op|eG a b=>iD I q nm a&&iD I q nm b|.cond c a b=>tL I q c&&iD I q nm a&&iD I q nm b|.block _ b=>iD I q nm b|.loop b=>iD I q nm b|.rangeFunc f _ a b=>tL I q f&&iD I q nm a&&iD I q nm b|_=>ai
def jc(ρ:Nat->Nat):eY->eY|FD l=>FD<|ρ l|Lu l=>Lu<|ρ l|i=>i
def tO(I:H)(q:bZ)(nm:String->Bool)(N:Nat):eY->Bool|bF c=>I.gx c|mD _=>Z|.inLoop c=>I.gx c|aT ops _=>ops.all λo=>DL I q nm o.op|FD l=>I.blk N l|Lu l=>I.blk N l|.beginRound=>Z|_=>ai
theorem Sl(a:N<=M){i}(h:tO I q nm N i=Z):tO I q nm M i=Z:=by cases i<;>first|exact h|exact H.ey h a
structure fb(ρ:Nat->Nat)(I:H)(q:bZ)(nm:String->Bool)(N:Nat)(a b:aZ):Prop where
 fn:b.fn=a.fn
 here:I.T a.fn=Z
 tmps:bD ρ I N a.tmps b.tmps
 todo:b.todo=a.todo.map (jc ρ)items:∀i∈a.todo,tO I q nm N i=Z
 defers:FP ρ I N a.defers b.defers
 mode:b.mode=a.mode
 xV:a.mode=.run\/a.mode=fI
 sg:a.kind=eo
 x7:b.kind=eo
 round:b.roundOf=a.roundOf.map ρ
 rounds:∀l,a.roundOf=U l->I.blk N l=Z
theorem fb.mono{a b}(h:fb ρ I q nm N a b)(d:N<=M):fb ρ I q nm M a b:=⟨h.fn,h.here,h.tmps.mono d,h.todo,λi e=>Sl d<|h.items i e,h.defers.mono d,h.mode,h.xV,h.sg,h.x7,h.round,λl f=>H.ey (h.rounds l f) d⟩
def mX(I:H)(v v':az):Prop:=v'=v/\(v=ak\/(∃n c,v=aC V n c)\/∃A a,I.arg=U A/\a.block=A.g/\A.lo<=a.off/\(v=aF (U a)\/∃n c,v=aC (U a) n c))\/∃a c,v=aC V 0 0/\v'=aC a 0 c
theorem mX.undef{I}:mX I ak ak:=ay ⟨rfl,ay rfl⟩
theorem mX.left{I}{v v'}(h:mX I v v'):mX I v v:=by
 rcases h with⟨_,h⟩|⟨_,_,rfl,_⟩;.exact ay ⟨rfl,h⟩
 .exact ay ⟨rfl,aB<|ay ⟨_,_,rfl⟩⟩
def tN(I:H)(q:bZ)(D:Nat->Bool):ja->Bool|cy t=>!D t|x=>tL I q x
def abC(q:bZ)(s:dV)(i:Nat):Bool:=match q.underlying s with|some<|.struct fs=>(match fs[i]? with|some f=>(match q.info? f.type with|some j=>bP<|j.size≠0|none=>ai)|none=>ai)|_=>ai
def Bz(D:Nat->Bool):ja->Bool|cy t=>D t|_=>ai
def FI(I:H)(q:bZ)(D E:Nat->Bool):Nat->List ja->Bool|_,[]=>Z|j,x::l=>(if E j then Bz D x else tN I q D x)&&FI I q D E (j+1) l
def Lm(I:H)(q:bZ)(D:Nat->Bool)(o:dG):Bool:=match o.op with|.move x|pA x=>Bz D x&&o.dst.all D|.indexAddr _ x i=>Bz D x&&tN I q D i&&o.dst.all D|.fieldAddr s x f=>Bz D x&&abC q s f&&o.dst.all D|.load _ x=>Bz D x&&o.dst.all λd=>!D d|.call c=>(o.dst.all λd=>!D d)&&(match c.callee with|.builtin .len=>(match c.args.toList with|[x]=>Bz D x|_=>ai)|.value<|.func f=>I.DF f&&FI I q D (I.D f) 0 c.args.toList|_=>ai)|_=>ai
def Fq(I:H)(q:bZ)(nm:String->Bool)(D:Nat->Bool)(o:dG):Bool:=(Al I q nm (tN I q D) o.op&&o.dst.all λd=>!D d)||Lm I q D o
def mB(I:H)(q:bZ)(nm:String->Bool)(D:Nat->Bool):Code->Bool|.skip|.exit _|.ret|.refuse _=>Z|dS _ ops _=>ops.all<|Fq I q nm D|eG a b=>mB I q nm D a&&mB I q nm D b|.cond c a b=>tN I q D c&&mB I q nm D a&&mB I q nm D b|.block _ b=>mB I q nm D b|.loop b=>mB I q nm D b|_=>ai
def Fs(I:H)(q:bZ)(nm:String->Bool)(D:Nat->Bool):eY->Bool|bF c=>mB I q nm D c|mD _=>Z|.inLoop c=>mB I q nm D c|aT ops _=>ops.all<|Fq I q nm D|_=>ai
structure tn(ρ:Nat->Nat)(I:H)(N:Nat)(D:Nat->Bool)(ts Ji:Array az):Prop where
 size:Ji.size=ts.size
 here:∀t v,ts[t]?=U v->D t=ai->S I N v=Z/\Ji[t]?=U (F ρ v)arg:∀t v,ts[t]?=U v->D t=Z->∃v',Ji[t]?=U v'/\mX I v v'
theorem tn.mono{D}{d b}(h:tn ρ I N D d b)(f:N<=M):tn ρ I M D d b:=⟨h.size,λt v e c=>⟨ff f (h.here t v e c).1,(h.here t v e c).2⟩,h.arg⟩
theorem tn.set{D}{g c}(h:tn ρ I N D g c){d}{x x'}(i:(D d=ai→S I N x=Z∧x'=F ρ x)∧(D d=Z→mX I x x')):tn ρ I N D (g.setIfInBounds d x)<|c.setIfInBounds d x':=by refine⟨by simp[h.size],fun t v b f=>?_,fun t v b f=>?_⟩<;>
    (rw[Array.getElem?_setIfInBounds]at b⊢;rw[h.size];by_cases e:d=t;·grind
     ·rw[if_neg e]at b⊢;first|exact h.here t v b f|exact h.arg t v b f)
structure fU(ρ:Nat->Nat)(I:H)(q:bZ)(nm:String->Bool)(N:Nat)(a b:aZ):Prop where
 fn:b.fn=a.fn
 here:I.T a.fn=Z
 df:I.DF a.fn=Z
 tmps:tn ρ I N (I.D a.fn) a.tmps b.tmps
 todo:b.todo=a.todo
 Ir:∀i∈a.todo,Fs I q nm (I.D a.fn) i=Z
 Iu:a.defers=[]UH:b.defers=[]mode:b.mode=a.mode
 xV:a.mode=.run\/a.mode=fI
 sg:a.kind=eo
 x7:b.kind=eo
 JI:a.roundOf=V
 RE:b.roundOf=V
theorem fU.mono{a b}(h:fU ρ I q nm N a b)(c:N<=M):fU ρ I q nm M a b:=⟨h.fn,h.here,h.df,h.tmps.mono c,h.todo,h.Ir,h.Iu,h.UH,h.mode,h.xV,h.sg,h.x7,h.JI,h.RE⟩
def LW(I:H)(a:aZ):Prop:=∀ops i rest k,a.todo=aT ops (i::rest)::k->∀o,ops[i]?=U o->(o.dst.all λd=>!I.D a.fn d)=Z
theorem fU.abz{a b:aZ}(h:fU ρ I q nm N a b){x x':az}(s:∀ops i p k,a.todo=aT ops (i::p)::k->∀o d,ops[i]?=U o->o.dst=U d->(I.D a.fn d=ai->S I N x=Z/\x'=F ρ x)/\(I.D a.fn d=Z->mX I x x')):fU ρ I q nm N (a.finish x)<|b.finish x':=by obtain⟨B,E,C,t,Q3,e,y,v,u,n,g,m,f,r⟩:=h;obtain⟨W,Q,w,Q2,R,T,ro⟩:=a;obtain⟨c,K,H,A,J,G,Q1⟩:=b;simp only at B E C t Q3 e y v u n g m f r s;have P:=Q3.symm;subst P;match w,e,s with
 |[],e,_=>exact⟨B,E,C,t,rfl,e,y,v,u,n,g,m,f,r⟩|i::k,e,s=>
  have X:∀j∈k,Fs I q nm (I.D W) j=Z:=λj z=>e j (by grind);have D:=e i (by simp);cases i<;>try exact⟨B,E,C,t,rfl,e,y,v,u,n,g,m,f,r⟩
  case inRegion ops l=>match l,e,s with
   |[],e,_=>exact⟨B,E,C,t,rfl,e,y,v,u,n,g,m,f,r⟩|i::p,e,s=>
    refine⟨B,E,C,?_,rfl,?_,y,v,u,n,g,m,f,r⟩;.simp only[uB];cases Q0:ops[i]? with|none=>grind|some o=>cases O:o.dst with|none=>simp only[y9,O];exact t|some d=>simp only[y9,O];exact t.set<|s ops i p k rfl o d Q0 O
    .intro j z;simp only[uB,di]at z;rcases z with rfl|z;.exact D
     .exact X j z
  all_goals cases D
theorem fU.finish{a b}(h:fU ρ I q nm N a b)(j:LW I a){x x'}(n:RV ρ I N x x'):fU ρ I q nm N (a.finish x)<|b.finish x':=h.abz λg i f k l o d m p=>by have:=j g i f k l o m;exact⟨λ_=>n,λe=>by grind⟩
def jP(ρ:Nat->Nat)(I:H)(q:bZ)(nm:String->Bool)(N:Nat)(a b:aZ):Prop:=fb ρ I q nm N a b\/fU ρ I q nm N a b
def pI(ρ:Nat->Nat)(I:H)(q:bZ)(nm:String->Bool)(N:Nat)(a b:aZ):Prop:=fb ρ I q nm N a b\/fU ρ I q nm N a b/\LW I a
theorem pI.mono{a b}(h:pI ρ I q nm N a b)(d:N<=M):pI ρ I q nm M a b:=h.imp (·.mono d) λ⟨x,y⟩=>⟨x.mono d,y⟩
theorem pI.top{a b}(h:pI ρ I q nm N a b):jP ρ I q nm N a b:=h.imp id λ⟨x,_⟩=>x
inductive ig(ρ:Nat->Nat)(I:H)(q:bZ)(nm:String->Bool)(N:Nat):List aZ->List aZ->Prop|nil:ig ρ I q nm N [] []|cons{a b:aZ}{l m:List aZ}(h:pI ρ I q nm N a b)(t:ig ρ I q nm N l m):ig ρ I q nm N (a::l)<|b::m
theorem ig.mono{l m}(h:ig ρ I q nm N l m)(c:N<=M):ig ρ I q nm M l m:=by induction h with|nil=>exact .nil|cons h _ b=>exact .cons (h.mono c) b
def r(fr:aZ)(cs:List aZ):aX:={frame:=fr,callers:=cs,status:=dN,dying:=V}
inductive RK where|go(g:aX)|fin(x:az)
def RK.step:RK->ax->Array jq->GStep|.go g,v,es=>bV g v es|.fin x,v,es=>fy (.done x) v es
def Bt(I:H)(q:bZ)(m':Bool)(B':List aZ):Prop:=(∃b' De,B'=b'::De)\/B'=[]/\m'=Z/\∀f,I.T f=Z->q.inits.idxOf? f=V
inductive After(ρ:Nat->Nat)(I:H)(q:bZ)(fs:Array dY)(nm:String->Bool)(X:fC->Prop)(b:aZ)(bs:List aZ)(B':List aZ)(N:Nat):aX->RK->Prop|within{fr fr':aZ}{cs cs':List aZ}(h:jP ρ I q nm N fr fr')(t:ig ρ I q nm N cs cs'):After ρ I q fs nm X b bs B' N (r fr<|cs++b::bs)<|.go<|r fr'<|cs'++B'|back{v v':az}{b':aZ}{De:List aZ}(hB:B'=b'::De)(h:RV ρ I N v v'):After ρ I q fs nm X b bs B' N (r (b.finish v) bs)<|.go<|r (b'.finish v') De|fin{v v':az}(hB:B'=[])(h:RV ρ I N v v'):After ρ I q fs nm X b bs B' N (r (b.finish v) bs)<|.fin v'|cut{f:fC}{mV qK:Array az}{fr fr':aZ}{cs cs':List aZ}(hx:X f\/I.cut f mV.size=Z)(ha:bD ρ I N mV qK)(h:pI ρ I q nm N fr fr')(t:ig ρ I q nm N cs cs'):After ρ I q fs nm X b bs B' N (r (eP (J q fs) f mV eo)<|fr::cs++b::bs)<|.go<|r (eP q f qK eo)<|fr'::cs'++B'
def wu(g:aX):Prop:=∃c,g.frame.mode=.panicking c
def Mf(I:H)(N:Nat)(ds:List Deferred):Prop:=∀d∈ds,∃r,d={target:=Lq r,args:=#[]}/\I.blk N r=Z
def I0(I:H)(B:List aZ)(g:aX)(w:ax):Prop:=∃f cs c w0,g=r f (cs++B)/\f.mode=.panicking c/\Mf I w0.heap.size f.defers/\(∀x∈cs,Mf I w0.heap.size x.defers)/\Whole I w0/\js w0 w
theorem I0.off{B}{g}{w}(h:I0 I B g w):wu g:=by obtain⟨f,a,c,b,rfl,h,_⟩:=h;exact⟨c,h⟩
theorem fb.marks{a b}(h:fb ρ I q nm N a b)(g:N<=M):Mf I M a.defers:=by obtain⟨l,f,e,_⟩:=h.defers;intro d c;grind[H.ey]
theorem fU.ahA{a b}(h:fU ρ I q nm N a b):Mf I M a.defers:=by rw[h.Iu];intro d c;grind
theorem ig.marks{l m}(h:ig ρ I q nm N l m)(c:N<=M):∀x∈l,Mf I M x.defers:=by induction h with|nil=>simp|cons h _ d=>
  intro x b;rcases di.1 b with rfl|b;·exact h.elim (·.marks c) (·.1.ahA)
  grind
theorem jP.marks{a b}(h:jP ρ I q nm N a b)(d:N<=M):Mf I M a.defers:=h.elim (·.marks d) (·.ahA)
def o(ρ:Nat->Nat)(I:H)(L:Option Nat)(B:List aZ)(A:Nat->aX->RK->Prop)(w v:ax)(r r':GStep):Prop:=match r with|bV g1 w1 _=>I0 I B g1 w1\/w.drawn<=w1.drawn/\((∀D,L=U D->w1.drawn<=D)->∃C v1 E,r'=RK.step C v1 E/\A w1.heap.size g1 C/\dO ρ I L w1 v1/\fD ρ I w v w1 v1/\∀e∈E,yB ρ I w1.heap.size e)|fy _ _ _=>True|_=>False
variable {A:Nat->aX->RK->Prop} {B:List aZ} {w v w1 v1:ax}
theorem o.after{r k}{es es'}(h:o ρ I L B A w1 v1 r k)(j:fD ρ I w v w1 v1)(c:∀i,ρ (w.heap.size+i)=v.heap.size+i)(n:∀e∈es',yB ρ I w1.heap.size e):o ρ I L B A w v (r.after es)<|k.after es':=by
 cases r<;>first|exact trivial|exact h.elim|skip
 rcases h with h|⟨P,h⟩;.exact ay h
 .refine aB ⟨bC j.Fo P,λp=>?_⟩;obtain⟨g,l,d,rfl,s,m,f,t⟩:=h p;refine⟨g,l,es'++d,by cases g<;>rfl,s,m,j.trans f c,λe b=>?_⟩;rcases Ce.1 b with b|b;.exact(n e b).more f.oQ
  grind
theorem o.go{g g'}(b:dO ρ I L w v)(h:A w.heap.size g<|.go g'):o ρ I L B A w v (bV g w)<|bV g' v:=aB ⟨aQ _,λ_=>⟨.go g',v,#[],rfl,h,b,fD.refl _ _,by simp⟩⟩
theorem o.past{e}{es}{b}(c:w.drawn<=w1.drawn)(d:¬∀D,L=U D->w1.drawn<=D):o ρ I L B A w v (bV e w1 es) b:=aB ⟨c,λh=>absurd h d⟩
theorem o.beyond{r g c}{f}{es}(h:o ρ I V B A w1 f r c)(i:w.drawn<=w1.drawn)(e:¬∀D,L=U D->w1.drawn<=D):o ρ I L B A w v (r.after es) g:=by
 cases r<;>first|exact trivial|exact h.elim|skip
 rcases h with h|⟨b,h⟩;.exact ay h
 .exact o.past (bC i b) λj=>e λD d=>bC b<|j D d
theorem dO.full{w v}(h:dO ρ I L w v):dO ρ I V w {v with tape:=w.tape,drawn:=w.drawn}:=⟨h.os,λi _=>rfl,h.inj,h.blk,h.kB,h.arg⟩
theorem o.off{b}{es}{c}(h:I0 I B b w1):o ρ I L B A w v (bV b w1 es) c:=ay h
theorem MW(fr:aZ)(vs):(fr.raise vs).defers=fr.defers:=by unfold Frame.raise;grind
theorem jP.abK{b}{bs}{fr fr'}{cs cs'}{vs}(h:jP ρ I q nm N fr fr')(t:ig ρ I q nm N cs cs'){w0 w1}(d:N<=w0.heap.size)(e:Whole I w0)(g:js w0 w1):I0 I (b::bs) (r (fr.raise vs)<|cs++b::bs) w1:=by
 obtain⟨c,f⟩:∃c,(fr.raise vs).mode=.panicking c:=by unfold Frame.raise;split<;>exact⟨_,rfl⟩
 exact⟨fr.raise vs,cs,c,w0,rfl,f,by rw[MW];exact h.marks d,t.marks d,e,g⟩
theorem raise_mode(fr:aZ)(vs):∃c,(fr.raise vs).mode=.panicking c:=by unfold Frame.raise;split<;>exact⟨_,rfl⟩
theorem fb.finish{a b:aZ}(h:fb ρ I q nm N a b){x x':az}(Q:RV ρ I N x x'):fb ρ I q nm N (a.finish x)<|b.finish x':=by obtain⟨s,t,m,S,u,o,r,p,n,f,d,e⟩:=h;obtain⟨X,O,z,D,P,R,Q1⟩:=a;obtain⟨W,H,E,C,J,F,Q0⟩:=b;simp only at s t m S u o r p n f d e;subst S;match z with
 |[]=>exact⟨s,t,m,rfl,u,o,r,p,n,f,d,e⟩|i::k=>
  have c:∀j∈k,tO I q nm N j=Z:=λj g=>u j (by grind);have K:=u i (by simp);cases i<;>try exact⟨s,t,m,rfl,u,o,r,p,n,f,d,e⟩
  case inRegion ops l=>match l with
   |[]=>exact⟨s,t,m,rfl,u,o,r,p,n,f,d,e⟩|i::T=>
    refine⟨s,t,?_,rfl,?_,o,r,p,n,f,d,e⟩
    .simp only[uB,gh,jc];split
     .refine⟨λy G=>?_,?_⟩
      .rcases Array.mem_or_eq_of_mem_setIfInBounds G with G|rfl;.exact m.1 y G
       .exact Q.1
      .rw[m.2,Q.2];grind
     grind
    .intro j g;simp only[uB,di]at g;rcases g with rfl|g;.exact K
     grind
  case inRangeFunc l=>
   refine⟨s,t,m,rfl,?_,o,r,p,n,f,d,e⟩;intro j g;simp only[uB,di]at g;rcases g with rfl|g;.exact K
   grind
  case beginRound=>exact⟨s,t,m,rfl,c,o,r,p,n,f,d,e⟩
  all_goals cases K
theorem pI.finish{a b}(h:pI ρ I q nm N a b){x x'}(d:RV ρ I N x x'):jP ρ I q nm N (a.finish x)<|b.finish x':=h.imp (·.finish d) λh=>h.1.finish h.2 d
def BL(D:Nat->Bool):ResultVar->Bool|.tmp t=>!D t|.cell a _=>!D a
structure Same(I:H)(q:bZ)(fs:Array dY)(nm:String->Bool)(X:fC->Prop):Prop where
 gx:∀c,I.gx c=iD I q nm c
 res:∀f,I.T f=Z->fs[f]?.map (·.results)=q.funcs[f]?.map (·.results)same:∀f,I.T f=Z->¬X f->fs[f]?=q.funcs[f]?∧∀fn b,q.funcs[f]?=U fn->fn.body=U b->I.gx b=Z
 abM:∀f,I.DF f=Z->I.T f=Z∧¬X f∧∃fn c,q.funcs[f]?=U fn∧fn.body=U c∧mB I q nm (I.D f) c=Z∧fn.results.all (BL<|I.D f)=Z∧(fn.name== "runtime.NumGoroutine")=ai
theorem uU:n ak=Z:=rfl
theorem bD.replicate(n):bD ρ I N (uy n ak)<|uy n ak:=bD.plain λv a=>by grind[uU]
theorem fb.eval{a b}(h:fb ρ I q nm N a b)(d:Fair ρ q)(k:q.globals.size<N):∀x,tL I q x=Z->RV ρ I N (a.eval x) (b.eval x):=by intro x c;cases x with
 |tmp t=>show RV ρ I N (a.tmps.getD t ak)<|b.tmps.getD t ak;rw[iM,iM];cases e:a.tmps[t]? with|none=>rw[h.tmps.get_none e];exact RV.plain uU|some v=>obtain⟨i,j⟩:=h.tmps.get e;rw[j];exact⟨i,rfl⟩
 |const v=>exact RV.plain c|global g=>simp only[tL,cG,eU]at c;refine RV.ptr (a:=g) ⟨H.ji.2 ⟨by grind,c.2⟩,?_⟩;show(g:eF)={block:=ρ g,off:=0,spot:=V};rw[d.fix g<|by omega]|func f=>exact⟨by simpa[Pv,tL,S,ve,qj,oR]using c,by simp[Pv,F,BM,oe,qi]⟩
theorem alM(f)(a)(k)(h:fs[f]?=q.funcs[f]?):eP (J q fs) f a k=eP q f a k:=by have e:(J q fs).funcs[f]?=q.funcs[f]?:=h;unfold eP;rw[e]
variable {X:fC->Prop} {b:aZ} {bs B':List aZ} {w v:ax}
theorem fb.A1(n:Same I q fs nm X){f}(l:I.T f=Z)(o:¬X f)(r:∃d c,q.funcs[f]?=U d/\d.body=U c){e a}(h:bD ρ I N e a):fb ρ I q nm N (eP (J q fs) f e eo)<|eP q f a eo:=by
 obtain⟨m,p⟩:=n.same f l o;obtain⟨d,c,g,k⟩:=r;rw[alM f e eo m];unfold eP;rw[g];refine⟨rfl,l,?_,?_,?_,⟨[],by simp,rfl,rfl⟩,rfl,ay rfl,rfl,rfl,rfl,by simp⟩;.simp only[ee,fW,h.size];exact h.append<|bD.replicate _
 .rfl
 .intro i j;simp only[y9,k,fW,mu]at j;subst j;exact p d c g k
theorem fb.afE(r:Same I q fs nm X){l}{f}{e d}{a c}(p:I.blk N l=Z)(j:I.T f=Z)(h:bD ρ I N e d)(n:I.gx a=Z)(k:I.gx c=Z):fb ρ I q nm N (abW l f e a c eo)<|abW (ρ l) f d a c eo:=by
 refine⟨rfl,j,h,rfl,?_,⟨[],by simp,rfl,rfl⟩,rfl,ay rfl,rfl,rfl,rfl,?_⟩
 .intro i g;simp only[abW,di,dJ,dQ]at g;rcases g with rfl|rfl|rfl;.exact n
  .rfl
  .exact k
 .rintro m o;simp only[abW,dX]at o;grind
theorem fb.GC{fr fr'}(h:fb ρ I q nm N fr fr'):∀d x y z k,fr.todo≠.call d x y z::k:=λd x y z k e=>by have:=h.items (.call d x y z) (by grind);cases this
theorem fb.M8{fr fr'}(h:fb ρ I q nm N fr fr'):∀d x y z k,fr'.todo≠.call d x y z::k:=λd x y z k e=>by rw[h.todo]at e;cases a:fr.todo with|nil=>grind|cons i l=>
  rw[a,gh]at e;have c:jc ρ i=.call d x y z:=by grind
  cases i<;>simp only[jc]at c<;>try cases c
  exact h.GC _ _ _ _ _ a
theorem kept{P}{fn}{b}{es}{Q:jq->Prop}(h:∀e∈es,Q e):∀e∈seen P fn<|if b=Z then#[]else es,Q e:=λe c=>by have:=Conc.mem_seen c;grind
theorem Xn(hL:nU I q fs nm)(K:Same I q fs nm X){fr fr'}{cs cs'}(h:fb ρ I q nm w fr fr')(t:ig ρ I q nm w cs cs'){s y}(hs:W ρ I (J q fs) q (RN ρ I q) w s y)(QW:dO ρ I L w v)(d:∀i,ρ (w+i)=v+i):o ρ I L (b::bs) (After ρ I q fs nm X b bs B') w v (xA (J q fs) Z fr (cs++b::bs) V s w)<|xA q Z fr' (cs'++B') V y v:=by have m:=W.alike hs w v #[] #[] rfl QW d;have n1:=h.GC;have n2:=h.M8;unfold xA;simp only[gL];have C:=W.alike (L:=V) hs w {v with tape:=w.tape,drawn:=w.drawn} #[] #[] rfl QW.full d;generalize s.runT (J q fs) w #[]=R at m C⊢;generalize y.runT q {v with tape:=w.tape,drawn:=w.drawn} #[]=R2 at C;generalize y.runT q v #[]=S at m⊢;obtain⟨r,es⟩:=R;obtain⟨r',Q0⟩:=S;cases r with
 |halt x G=>
  obtain⟨QX,w0,O,E,B⟩:=m;cases x<;>first|exact trivial|exact absurd QX qq|skip
  case panic p=>exact o.off<|jP.abK (ay h) t O E B
  case unsupported u=>cases u<;>first|exact trivial|cases QX
 |ok a G=>
  obtain⟨Q,m⟩:=m;by_cases ET:∀D,L=U D->G.drawn<=D;case neg=>obtain⟨_,_,_,_,A,_,_,_⟩:=C.2 (by simp);cases A<;>exact o.past Q ET
  obtain⟨b0,v1,c,e,A,k,n,hE⟩:=m ET;obtain⟨rfl,rfl⟩:=Nq e;have g:=n.oQ;have j:∀e∈(#[]++c:Array jq),yB ρ I G e:=by grind
  cases A with|value Q1=>exact o.after (o.go k<|.within (ay<|(h.mono g).finish Q1)<|t.mono g) n d<|kept j|skip=>exact o.after (o.go k<|.within (ay<|(h.mono g).finish<|RV.plain uU)<|t.mono g) n d<|kept j|enter H F l=>
   refine o.after ?_ n d<|kept j;dsimp only;split;·grind
   ·split;·grind
    ·rename_i f mV Q3 _ _ _ _;refine o.go k ?_;by_cases QX:X f;·exact .cut (ay QX) l (ay<|h.mono g)<|t.mono g
     ·exact .within (cs:=fr::cs) (cs':=fr'::cs') (ay<|fb.A1 K H QX F l)<|.cons (ay<|h.mono g)<|t.mono g|abS P l=>
   refine o.after ?_ n d<|kept j;dsimp only;split;·grind
   ·split;·grind
    ·exact o.go k<|.cut (aB P) l (ay<|h.mono g)<|t.mono g|round T H z Q2 F=>refine o.after (o.go k ?_) n d<|kept j;exact .within (cs:=fr::cs) (cs':=fr'::cs') (ay<|fb.afE K T H z Q2 F)<|.cons (ay<|h.mono g)<|t.mono g
variable{X:fC->Prop}{b:aZ}{bs B':List aZ}{w v:ax}{m m':Bool}
theorem Rw(g:Bt I q m' B'){fr fr'}{cs cs'}(d:fr.kind=eo)(a:fr'.kind=eo)(l:I.T fr'.fn=Z)(t:ig ρ I q nm w cs cs'){x x'}(f:RV ρ I w x x')(c:dO ρ I L w v):o ρ I L (b::bs) (After ρ I q fs nm X b bs B') w v (oE (J q fs) m fr (cs++b::bs) V x w)<|oE q m' fr' (cs'++B') V x' v:=by
 cases t with|nil=>
  rcases g with⟨k,j,rfl⟩|⟨rfl,rfl,i⟩;.unfold oE;rw[d,a];exact o.go c<|.back rfl f
  .have e:oE q Z fr' ([]++[]) V x' v=fy (.done x') v:=by unfold oE;grind
   rw[e];unfold oE;rw[d];exact aB ⟨aQ _,λ_=>⟨.fin x',v,#[],rfl,.fin rfl f,c,fD.refl _ _,by simp⟩⟩|cons h t=>unfold oE;rw[d,a];exact o.go c<|.within (h.finish f) t
theorem fD.shift{w1 e}(d:fD ρ I w v w1 e)(c:∀i,ρ (w+i)=v+i):∀i,ρ (w1+i)=e+i:=λi=>by have g:=d.size;have f:=d.oQ;have:=c<|w1-w+i;grind
theorem o.of_run{Q2 c}{R}{fn}{s}{t}{A}{B}(hs:W ρ I (J q fs) q R w s t)(F:dO ρ I L w v)(h:∀i,ρ (w+i)=v+i){f:Result Q2->GStep}{f':Result c->GStep}(H:∀(L)a G d j,w.heap.size<=d.heap.size->R d.heap.size a G->dO ρ I L d j->(∀i,ρ (d+i)=j+i)->o ρ I L B A d j (f<|aW a d) (f'<|aW G j))(Q:∀x d,(∃E,w.heap.size<=E.heap.size∧Whole I E∧js E d)->(∃QX p u,f (dM x d)=fy QX p u)∨∃g p u,f (dM x d)=bV g p u∧I0 I B g p):o ρ I L B A w v (vT (seen (J q fs) fn (s.runT (J q fs) w #[]).2)<|f (s.runT (J q fs) w #[]).1)<|vT (seen q fn (t.runT q v #[]).2)<|f' (t.runT q v #[]).1:=by have l:=W.alike hs w v #[] #[] rfl F h;have y:=W.alike (L:=V) hs w {v with tape:=w.tape,drawn:=w.drawn} #[] #[] rfl F.full h;generalize s.runT (J q fs) w #[]=P at l y⊢;generalize t.runT q {v with tape:=w.tape,drawn:=w.drawn} #[]=P2 at y;generalize t.runT q v #[]=S at l⊢;obtain⟨r,u⟩:=P;obtain⟨Q0,T⟩:=S;cases r with
 |halt x d=>
  dsimp only;rcases Q x d l.2 with⟨QX,p,K,e⟩|⟨g,p,K,e,Q1⟩;·rw[e];exact trivial
  ·rw[e];exact o.off Q1|ok a d=>
  obtain⟨O,l⟩:=l;by_cases ET:∀D,L=U D->d.drawn<=D;case neg=>obtain⟨C,j,QW,e,z,k,n,Q3⟩:=y.2 (by simp);exact o.beyond (H V a C d j n.oQ z k<|n.shift h) O ET
  obtain⟨C,j,QW,e,z,k,n,Q3⟩:=l ET;obtain⟨rfl,rfl⟩:=Nq e;refine o.after (H L a C d j n.oQ z k<|n.shift h) n h λe he=>?_;grind[Conc.mem_seen]
theorem abE(id:Nat):∀l:List eY,exitTo id (l.map<|jc ρ)=(exitTo id l).map λl=>l.map<|jc ρ
 |[]=>rfl|i::l=>by
  cases i<;>simp only[gh,jc,exitTo]<;>try exact abE id l
  split;.rfl
  .exact abE id l
theorem Ph(id:Nat):∀(l k:List eY),exitTo id l=U k->∀i∈k,i∈l
 |[],k,h,i,a=>by simp[exitTo]at h|j::l,k,h,i,a=>by
  cases j<;>simp only[exitTo]at h;case inBlock=>
   split at h;.grind
   .exact vh _<|Ph id l k h i a
  all_goals exact vh _<|Ph id l k h i a
structure we(ρ:Nat->Nat)(I:H)(L:Option Nat)(q:bZ)(fs:Array dY)(nm:String->Bool)(X:fC->Prop)(w v:ax):Prop where
 lay:nU I q fs nm
 same:Same I q fs nm X
 fair:Fair ρ q
 low:q.globals.size<w.heap.size
 free:∀b,w.heap.size<=b->I.F b=Z
 lq:dO ρ I L w v
 shift:∀i,ρ (w.heap.size+i)=v.heap.size+i
theorem fb.to{fr fr'}(h:fb ρ I q nm N fr fr'){l}(a:∀i∈l,tO I q nm N i=Z):fb ρ I q nm N {fr with todo:=l} {fr' with todo:=l.map<|jc ρ}:=⟨h.fn,h.here,h.tmps,rfl,a,h.defers,h.mode,h.xV,h.sg,h.x7,h.round,h.rounds⟩
theorem fb.ret{fr fr'}(h:fb ρ I q nm N fr fr'):fb ρ I q nm N {fr with mode:=fI} {fr' with mode:=fI}:=⟨h.fn,h.here,h.tmps,h.todo,h.items,h.defers,rfl,aB rfl,h.sg,h.x7,h.round,h.rounds⟩
theorem atD(k:Bt I q m' B')(S:we ρ I L q fs nm X w v){fr fr'}{cs cs'}(h:fb ρ I q nm w fr fr')(t:ig ρ I q nm w cs cs'){j}{lost lost'}:(∀c,j=U c->I.gx c=Z)->o ρ I L (b::bs) (After ρ I q fs nm X b bs B') w v (match fr.roundOf with|none=>if j matches V|some .ret then bV (r {fr with mode:=fI}<|cs++b::bs) w else fy (kE lost<|fr.pos<|J q fs) w|some l=>let(C,es):=(UM l j).runT (J q fs) w #[];vT (seen (J q fs) fr.fn es)<|match C with|aW x w=>oE (J q fs) m fr (cs++b::bs) V x w|dM _ w=>fy (kE lost'<|fr.pos<|J q fs) w) (match fr'.roundOf with|none=>if j matches V|some .ret then bV (r {fr' with mode:=fI}<|cs'++B') v else fy (kE lost<|fr'.pos q) v|some l=>let(C,es):=(UM l j).runT q v #[];vT (seen q fr'.fn es)<|match C with|aW x w=>oE q m' fr' (cs'++B') V x w|dM _ w=>fy (kE lost'<|fr'.pos q) w):=by intro P;have f:=h.round;cases d:fr.roundOf with
 |none=>rw[d,Kh]at f;have e:=h.ret;rw[d,f]at e;rw[f];have g:=o.go (B:=b::bs) (A:=After ρ I q fs nm X b bs B') S.lq<|.within (ay e) t;cases j with|none=>exact g|some c=>cases c<;>first|exact g|exact trivial
 |some l=>
  rw[d,ee]at f;rw[f];rw[h.fn];refine o.of_run (R:=RV ρ I) (f:=λC=>match C with|aW x w=>oE (J q fs) m fr (cs++b::bs) V x w|dM _ w=>fy (kE lost'<|fr.pos<|J q fs) w) (f':=λC=>match C with|aW x w=>oE q m' fr' (cs'++B') V x w|dM _ w=>fy (kE lost'<|fr'.pos q) w) (atN (h.rounds l d) P) S.lq S.shift ?_ ?_;.intro L a s y u p n i _;exact Rw k h.sg h.x7 (by rw[h.fn];exact h.here) (t.mono p) n i
  grind
theorem fb.adi{fr fr'}(h:fb ρ I q nm N fr fr'){i}{k}(c:fr.todo=i::k):fr'.todo=jc ρ i::k.map (jc ρ)/\tO I q nm N i=Z/\∀j∈k,tO I q nm N j=Z:=by refine⟨by rw[h.todo,c,gh],h.items i<|by grind,λj d=>h.items j<|by grind⟩
theorem fb.enterLoop{fr fr'}(h:fb ρ I q nm N fr fr'){l}{k}{ds c}(e:I.blk N l=Z)(s:∀j∈k,tO I q nm N j=Z)(f:FP ρ I N ds c):fb ρ I q nm N {fr with todo:=FD l::k,defers:=ds++fr.defers} {fr' with todo:=FD (ρ l)::k.map (jc ρ),defers:=c++fr'.defers}:=by
 refine⟨h.fn,h.here,h.tmps,rfl,?_,?_,h.mode,h.xV,h.sg,h.x7,h.round,h.rounds⟩
 .intro j d;rcases di.1 d with rfl|d;.exact e
  grind
 .obtain⟨g,p,x,t⟩:=f;obtain⟨i,o,y,n⟩:=h.defers;refine⟨g++i,λr u=>?_,by grind,by grind⟩;grind
theorem atM(G:∀b,N<=b->I.F b=Z){fn}(t:I.T fn=Z){j g}(D:bD ρ I N j g)(h){a c}(R:I.gx a=Z)(P:I.gx c=Z){p n}(u:n=p.map ρ)(C:∀l,p=U l->I.blk N l=Z):W ρ I (J q fs) q (λN x y=>I.blk N x.1=Z/\y.1=ρ x.1/\FP ρ I N x.2 y.2) N (Instr.enterLoop fn j h a c p)<|Instr.enterLoop fn g h a c n:=by
 subst u;have k:∀(K d)(B i),N<=K->I.blk K d=Z->FP ρ I K B i->W ρ I (J q fs) q (λN x y=>I.blk N x.1=Z/\y.1=ρ x.1/\FP ρ I N x.2 y.2) K (do bI (<-newObj<|A9 {state:=FA,pending:=V,fn,tmps:=j,params:=h,assign:=a,body:=c,defers:=d},B)) (do bI (<-newObj<|A9 {state:=FA,pending:=V,fn,tmps:=g,params:=h,assign:=a,body:=c,defers:=ρ d},i)):=λK d B i o Q s=>by
  have e:A9 {state:=FA,pending:=V,fn,tmps:=g,params:=h,assign:=a,body:=c,defers:=ρ d}=fa ρ (A9 {state:=FA,pending:=V,fn,tmps:=j,params:=h,assign:=a,body:=c,defers:=d}):=by simp only[fa,Eb,D.2]
  have E:=Jz (ρ:=ρ) (q:=q) (fs:=fs) (o:=A9 {state:=FA,pending:=V,fn,tmps:=j,params:=h,assign:=a,body:=c,defers:=d}) (G K o)<|oq.of (r:={state:=FA,pending:=V,fn,tmps:=j,params:=h,assign:=a,body:=c,defers:=d}) (D.mono o).1 R P (by simp) t Q;rw[<-e]at E;refine W.bind' E ?_;rintro L r H z⟨rfl,_,rfl,A⟩;exact .pure' ⟨A,rfl,s.mono z⟩
 cases p with|some l=>refine W.bind' (MJ<|C l rfl) ?_;rintro K r H o⟨O,rfl⟩;obtain⟨T,f,Q0,F,S,Q1⟩:=oq.parts O;exact k K r.defers [] [] o Q1 ⟨[],by simp,rfl,rfl⟩|none=>refine W.bind' (Jz (ρ:=ρ) (I:=I) (q:=q) (fs:=fs) (o:=uA<|U []) (G N<|aQ _)<|by simp[er]) ?_;rintro L r H z⟨rfl,_,rfl,A⟩;exact k L r _ _ z A ⟨[r],by grind,rfl,rfl⟩
theorem we.later{L'}(S:we ρ I L q fs nm X w v){w1 d}(e:w.heap.size<=w1.heap.size)(f:dO ρ I L' w1 d)(c:∀i,ρ (w1.heap.size+i)=d.heap.size+i):we ρ I L' q fs nm X w1 d:=⟨S.lay,S.same,S.fair,bC S.low e,λb g=>S.free b<|bC e g,f,c⟩
theorem ati(S:we ρ I L q fs nm X w v){fr fr'}{cs cs'}(h:fb ρ I q nm w.heap.size fr fr')(t:ig ρ I q nm w.heap.size cs cs'){ops}{i}{l}{k}(n:fr.todo=aT ops (i::l)::k):o ρ I L (b::bs) (After ρ I q fs nm X b bs B') w v (Fy (J q fs) Z fr (cs++b::bs) V w)<|Fy q Z fr' (cs'++B') V v:=by
 obtain⟨f,g,u⟩:=h.adi n;have r:fr.oper?=ops[i]?:=by unfold Pw;grind
 have p:fr'.oper?=ops[i]?:=by unfold Pw;rw[f];rfl
 unfold Fy;rw[r,p];cases j:ops[i]? with|none=>exact trivial|some P=>
  simp only[tO,lE]at g;have d:=g P<|tR j;have s:∀c,P.op≠.defer c:=λc e=>by rw[e]at d;cases d
  have:=Xn (b:=b) (bs:=bs) (B':=B') S.lay S.same h t (ae2 S.lay S.free S.fair S.low (h.eval S.fair S.low) (λ_=>rfl) (λ_=>rfl) d) S.lq S.shift;grind
theorem aou(ops){e c}(h:bD ρ I N e c)(j):dZ ops c j=dZ ops e j:=by unfold dZ;cases ops[j]?.bind (·.dst)with|none=>rfl|some d=>simp only[y9];rw[h.2,qV];cases e[d]? with|none=>rfl|some v=>cases v<;>rfl
theorem afT(e)(f)(l):resolve e {callee:=.value f,args:=#[gO<|dF (C8 l) #[] #[]],argTypes:=#[]} 0=PG (e f) #[e<|gO<|dF (C8 l) #[] #[]]:=by simp[resolve]
theorem afc{p q}(x)(f:dO ρ I L w v):(∃n,(choose x).run p w=aW n w/\(choose x).run q v=aW n v)\/(∃n,(choose x).run p w=aW n {w with drawn:=w.drawn+1}/\(choose x).run q v=aW n {v with drawn:=v.drawn+1})\/∃n,(choose x).run p w=aW n {w with drawn:=w.drawn+1}/\¬∀D,L=U D->w.drawn+1<=D:=by
 by_cases c:x.forced=Z;.exact ay ⟨0,by simp[c],by simp[c]⟩
 .by_cases d:∀D,L=U D->w.drawn+1<=D;.have e:v.tape v.drawn=w.tape w.drawn:=f.tape 0 λD g=>d D g;exact aB<|ay ⟨x.cut<|w.tape w.drawn x,by simp[c],by simp[c,e]⟩
  .exact aB<|aB ⟨x.cut<|w.tape w.drawn x,by simp[c],d⟩
theorem atJ(hB:Bt I q m' B')(QY:we ρ I L q fs nm X w v){fr fr':aZ}{cs cs':List aZ}(h:fb ρ I q nm w.heap.size fr fr')(t:ig ρ I q nm w.heap.size cs cs'):o ρ I L (b::bs) (After ρ I q fs nm X b bs B') w v (xz (J q fs) m Z fr (cs++b::bs) V w)<|xz q m' Z fr' (cs'++B') V v:=by have tm:=QY.same.gx;have Od:=h.todo;obtain⟨fn,C,todo,y,G,H,Q⟩:=fr;obtain⟨P,A,aHu,s,QX,E,K⟩:=fr';simp only at Od;subst Od;have QW:∀l:List eY,(∀i∈l,tO I q nm w.heap.size i=Z)->o ρ I L (b::bs) (After ρ I q fs nm X b bs B') w v (bV (r (⟨fn,C,l,y,G,H,Q⟩:aZ)<|cs++b::bs) w) (bV (r (⟨P,A,l.map<|jc ρ,s,QX,E,K⟩:aZ)<|cs'++B') v):=λl hl=>o.go QY.lq<|.within (ay<|h.to hl) t;have fin:∀x x',RV ρ I w.heap.size x x'->o ρ I L (b::bs) (After ρ I q fs nm X b bs B') w v (bV (r ((⟨fn,C,todo,y,G,H,Q⟩:aZ).finish x)<|cs++b::bs) w) (bV (r ((⟨P,A,todo.map<|jc ρ,s,QX,E,K⟩:aZ).finish x')<|cs'++B') v):=λx x' hx=>o.go QY.lq<|.within (ay<|h.finish hx) t;have D:=λ(j:Option Code)(l1 l2:String)=>atD (m:=m) (m':=m') (b:=b) (bs:=bs) (B':=B') hB (lost:=l1) (lost':=l2) (j:=j) QY h t;have vJ:=h.eval QY.fair QY.low;unfold xz;cases todo with|nil=>exact D V _ _<|by simp|cons i k=>obtain⟨_,O,Q2⟩:=h.adi rfl;cases i with
  |call _ _ _ _=>cases O|extern _ _=>cases O|inScope _=>cases O|inBlock id=>exact QW k Q2|inLoop c=>exact QW (bF c::.inLoop c::k)<|iu.2 ⟨O,iu.2 ⟨O,Q2⟩⟩|inRangeFunc l=>exact trivial|endRangeFunc l=>
   have qz:P=fn:=h.fn;subst qz;refine o.of_run (fn:=P) (f:=λQZ=>match QZ with|aW Q0 w=>bV {frame:=(⟨P,C,(Q0.map bF).toList++k,y,G,H,Q⟩:aZ),callers:=cs++b::bs,status:=dN,dying:=V} w|dM (.panic v) w=>bV {frame:=(⟨P,C,Lu l::k,y,G,H,Q⟩:aZ).raise [{v,recovered:=ai}],callers:=cs++b::bs,status:=dN,dying:=V} w|dM _ w=>fy (kE "range over a function: no such loop"<|(⟨P,C,Lu l::k,y,G,H,Q⟩:aZ).pos<|J q fs) w) (f':=λQZ=>match QZ with|aW Q0 w=>bV {frame:=(⟨P,A,(Q0.map bF).toList++k.map (jc ρ),s,QX,E,K⟩:aZ),callers:=cs'++B',status:=dN,dying:=V} w|dM (.panic v) w=>bV {frame:=(⟨P,A,Lu (ρ l)::k.map (jc ρ),s,QX,E,K⟩:aZ).raise [{v,recovered:=ai}],callers:=cs'++B',status:=dN,dying:=V} w|dM _ w=>fy (kE "range over a function: no such loop"<|(⟨P,A,Lu (ρ l)::k.map (jc ρ),s,QX,E,K⟩:aZ).pos q) w) (atO O) QY.lq QY.shift ?_ ?_
   .rintro L j _ R Q3 hN⟨rfl,hj⟩T _;have EX:∀i∈(j.map bF).toList++k,tO I q nm R.heap.size i=Z:=λi O=>by
     rcases List.mem_append.1 O with O|O;.cases j with|none=>grind|some c=>simp only[ee,Option.toList_some,mu]at O;subst O;exact hj c rfl
     grind[Sl]
    have e:((j.map bF).toList++k).map (jc ρ)=(j.map bF).toList++k.map (jc ρ):=by rw[List.map_append];cases j<;>rfl
    have:=o.go (B:=b::bs) (A:=After ρ I q fs nm X b bs B') T<|.within (ay<|(h.mono hN).to EX)<|t.mono hN;rw[e]at this;exact this
   .rintro x R⟨w0,h0,hWh,KQ⟩;cases x<;>first|exact ay ⟨_,_,_,rfl⟩|exact aB ⟨_,_,_,rfl,jP.abK (ay h) t h0 hWh KQ⟩
  |beginRound=>refine Xn QY.lay QY.same h t ?_ QY.lq QY.shift;have hr:K=Q.map ρ:=h.round;subst hr;cases Q with|none=>exact .dead<|u.bind (.halt _) _|some l=>refine W.bind' (at2<|h.rounds l rfl) ?_;rintro M _ _ hM _;exact .pure' .skip
  |inRegion B l=>cases l with|nil=>exact QW k Q2|cons i l=>
    have hy:dZ B A=dZ B C:=funext<|aou B h.tmps;have h1:=ati (b:=b) (bs:=bs) (B':=B') QY h t rfl;have h2:=fin ak ak<|RV.plain uU;by_cases hw:(B[i]?.map (eW .<|dZ B C)).getD ai=Z
    .have hw':(B[i]?.map (eW .<|dZ B A)).getD ai=Z:=by rw[hy];exact hw
     show o _ _ _ _ _ w v (if(B[i]?.map (eW .<|dZ B C)).getD ai=Z then _ else _) (if(B[i]?.map (eW .<|dZ B A)).getD ai=Z then _ else _);rw[cJ hw,cJ hw'];exact h1
    .have hw':¬(B[i]?.map (eW .<|dZ B A)).getD ai=Z:=by rw[hy];exact hw
     show o _ _ _ _ _ w v (if(B[i]?.map (eW .<|dZ B C)).getD ai=Z then _ else _) (if(B[i]?.map (eW .<|dZ B A)).getD ai=Z then _ else _);rw[if_neg hw,if_neg hw'];exact h2
  |code c=>
   have Qy:iD I q nm c=Z:=by rw[<-tm];exact O
   cases c with
   |scope _=>cases Qy|label _=>cases Qy|goto _=>cases Qy|refuse _=>exact trivial|ret=>exact D (U .ret) _ _<|by rintro c⟨⟩;exact O|skip=>exact QW k Q2|seq a c=>simp only[iD,cG]at Qy;exact QW (bF a::bF c::k)<|iu.2 ⟨(tm _).trans Qy.1,iu.2 ⟨(tm _).trans Qy.2,Q2⟩⟩|block id c=>exact QW (bF c::mD id::k)<|iu.2 ⟨(tm _).trans Qy,iu.2 ⟨rfl,Q2⟩⟩|loop c=>exact QW (bF c::.inLoop c::k)<|iu.2 ⟨(tm _).trans Qy,iu.2 ⟨(tm _).trans Qy,Q2⟩⟩|cond x a c=>
    simp only[iD,cG]at Qy;obtain⟨e1,e2⟩:=vJ x Qy.1.1;have Q1:∀(Qw u':az)(Qx o':Outcome),u'=F ρ Qw->o ρ I L (b::bs) (After ρ I q fs nm X b bs B') w v (match Qw with|cx z=>bV (r ⟨fn,C,bF (if z then a else c)::k,y,G,H,Q⟩<|cs++b::bs) w|_=>fy Qx w) (match u' with|cx z=>bV (r ⟨P,A,bF (if z then a else c)::k.map (jc ρ),s,QX,E,K⟩<|cs'++B') v|_=>fy o' v):=by
     rintro Qw _ Qx o' rfl;cases Qw<;>try exact trivial
     rename_i z;cases z with|true=>exact QW (bF a::k)<|iu.2 ⟨(tm _).trans Qy.1.2,Q2⟩|false=>exact QW (bF c::k)<|iu.2 ⟨(tm _).trans Qy.2,Q2⟩
    exact Q1 _ _ _ _ e2|exit id=>
    have Q1:∀(Qx o':Option<|List eY)(g g':GStep),o'=Qx.map (λl=>l.map<|jc ρ)->(∀l,Qx=U l->∀i∈l,tO I q nm w.heap.size i=Z)->o ρ I L (b::bs) (After ρ I q fs nm X b bs B') w v g g'->o ρ I L (b::bs) (After ρ I q fs nm X b bs B') w v (Qx.elim g λl=>bV (r ⟨fn,C,l,y,G,H,Q⟩<|cs++b::bs) w) (o'.elim g' λl=>bV (r ⟨P,A,l,s,QX,E,K⟩<|cs'++B') v):=by rintro Qx _ g g' rfl ho hg;cases Qx with|none=>exact hg|some l=>exact QW l<|ho l rfl
    exact Q1 (exitTo id k) _ _ _ (abE id k) (λl hl i O=>Q2 i<|Ph id k l hl i O)<|D (U<|.exit id) _ _<|by rintro c⟨⟩;exact O|region id B d=>have TD:tO I q nm w.heap.size (aT B [])=Z:=Qy;cases d with|false=>exact QW (aT B (mR B.size)::k)<|iu.2 ⟨TD,Q2⟩|true=>
     have qz:P=fn:=h.fn;subst qz;have go2:∀(n:Nat)(R Q3:ax),dO ρ I L R Q3->fD ρ I w v R Q3->R.heap.size=w.heap.size->o ρ I L (b::bs) (After ρ I q fs nm X b bs B') w v (bV (r ⟨P,C,aT B (mS (q.follows nM) B n)::k,y,G,H,Q⟩<|cs++b::bs) R) (bV (r ⟨P,A,aT B (mS (q.follows nM) B n)::k.map (jc ρ),s,QX,E,K⟩<|cs'++B') Q3):=λn R Q3 T hT hs=>aB ⟨hT.Fo,λ_=>⟨_,Q3,#[],rfl,.within (ay<|(h.mono<|by omega).to (l:=aT B (mS (q.follows nM) B n)::k)<|iu.2 ⟨TD,λi O=>Sl (by omega)<|Q2 i O⟩)<|t.mono<|by omega,T,hT,by simp⟩⟩;have Q1:∀(n:Nat)(R Q3:ax)(QZ r':Result Nat),QZ=aW n R->r'=aW n Q3->dO ρ I L R Q3->fD ρ I w v R Q3->R.heap.size=w.heap.size->o ρ I L (b::bs) (After ρ I q fs nm X b bs B') w v (match QZ with|aW t w=>bV (r ⟨P,C,aT B (mS ((J q fs).follows nM) B t)::k,y,G,H,Q⟩<|cs++b::bs) w|dM _ w=>fy (kE "order"<|pq (J q fs) ⟨P,C,bF (dS id B Z)::k,y,G,H,Q⟩) w) (match r' with|aW t w=>bV (r ⟨P,A,aT B (mS (q.follows nM) B t)::k.map (jc ρ),s,QX,E,K⟩<|cs'++B') w|dM _ w=>fy (kE "order"<|pq q ⟨P,A,bF (dS id B Z)::k.map (jc ρ),s,QX,E,K⟩) w):=by rintro n R Q3 _ _ rfl rfl T hT hs;exact go2 n R Q3 T hT hs
     rcases afc (p:=J q fs) (q:=q) (.order P id) QY.lq with⟨n,e1,e2⟩|⟨n,e1,e2⟩|⟨n,e1,hn⟩;.exact Q1 n w v _ _ e1 e2 QY.lq (fD.refl _ _) rfl
     .exact Q1 n _ _ _ _ e1 e2 QY.lq.draw (fD.draw _ _) rfl
     .have Zv:∀(QZ:Result Nat)(g:GStep),QZ=aW n {w with drawn:=w.drawn+1}->o ρ I L (b::bs) (After ρ I q fs nm X b bs B') w v (match QZ with|aW t w=>bV (r ⟨P,C,aT B (mS ((J q fs).follows nM) B t)::k,y,G,H,Q⟩<|cs++b::bs) w|dM _ w=>fy (kE "order"<|pq (J q fs) ⟨P,C,bF (dS id B Z)::k,y,G,H,Q⟩) w) g:=by rintro _ g rfl;exact o.past (Ko _) hn
      exact Zv _ _ e1
   |rangeFunc f ps a c=>
    simp only[iD,cG]at Qy;have qz:P=fn:=h.fn;subst qz;have oY:K=Q.map ρ:=h.round;refine o.of_run (q:=q) (fs:=fs) (fn:=P) (f:=λQZ=>match QZ with|aW (l,mark) w=>xA (J q fs) Z ⟨P,C,FD l::k,mark++y,G,H,Q⟩ (cs++b::bs) V (do let d<-resolve (Pv ⟨P,C,FD l::k,mark++y,G,H,Q⟩) {callee:=.value f,args:=#[gO<|dF (C8 l) #[] #[]],argTypes:=#[]} 0;invoke d.target d.args) w|dM _ w=>fy (kE "range over a function: no such loop"<|pq (J q fs) ⟨P,C,bF (.rangeFunc f ps a c)::k,y,G,H,Q⟩) w) (f':=λQZ=>match QZ with|aW (l,mark) w=>xA q Z ⟨P,A,FD l::k.map (jc ρ),mark++s,QX,E,K⟩ (cs'++B') V (do let d<-resolve (Pv ⟨P,A,FD l::k.map (jc ρ),mark++s,QX,E,K⟩) {callee:=.value f,args:=#[gO<|dF (C8 l) #[] #[]],argTypes:=#[]} 0;invoke d.target d.args) w|dM _ w=>fy (kE "range over a function: no such loop"<|pq q ⟨P,A,bF (.rangeFunc f ps a c)::k.map (jc ρ),s,QX,E,K⟩) w) (atM QY.free h.here h.tmps ps ((tm _).trans Qy.1.2) ((tm _).trans Qy.2) oY h.rounds) QY.lq QY.shift ?_ ?_;.rintro L⟨l,mk⟩⟨l',mk'⟩R Q3 hN⟨hl,uj,hmk⟩T aki;dsimp only at hl uj hmk;subst uj;have S1:=QY.later hN T aki;have h1:=fb.enterLoop (h.mono hN) (l:=l) (k:=k) hl (λj hj=>Sl hN<|Q2 j hj) hmk;refine Xn S1.lay S1.same h1 (t.mono hN) ?_ T aki;rw[afT,afT];refine ae9 S1.lay S1.free S1.fair S1.low ((h1.eval S1.fair S1.low) f Qy.1.1) ?_;exact bD.nil.push (v:=dF (C8 l) #[] #[]) (v':=dF (C8<|ρ l) #[] #[]) ⟨by simpa[S,ve,qj,oR]using hl,by simp[F,BM,oe,qi]⟩
    .intro x R _;exact ay ⟨_,_,_,rfl⟩
def Vo(I:H):Nat->az->az->Prop:=λ_ v v'=>mX I v v'
def Bu(I:H)(a:eF):Prop:=∃A,I.arg=U A/\a.block=A.g/\A.lo<=a.off
theorem Bu.add{a}(h:Bu I a)(n):Bu I<|a.add n:=by
 obtain⟨A,e,d,f⟩:=h;unfold Addr.add;split;.exact⟨A,e,d,f⟩
 .exact⟨A,e,d,by grind⟩
theorem Bu.ptr{a}(h:Bu I a):mX I (aF<|U a)<|aF<|U a:=by obtain⟨A,f,e,d⟩:=h;exact ay ⟨rfl,aB<|aB ⟨A,a,f,e,d,ay rfl⟩⟩
theorem Xo{x x'}(h:mX I x x'):W ρ I (J q fs) q (λ_ a i=>Bu I a/\i=a) N (FB x)<|FB x':=by
 rcases h with⟨rfl,rfl|⟨n,c,rfl⟩|⟨A,a,g,f,e,rfl|⟨n,c,rfl⟩⟩⟩|⟨a,c,rfl,rfl⟩;.exact T _ _
 .exact T _ _
 .exact .pure ⟨⟨A,g,f,e⟩,rfl⟩
 .exact T _ _
 .exact T _ _
theorem aug(t:dV){x y i z:az}(r:mX I x y)(B:RV ρ I N i z):W ρ I (J q fs) q (Vo I) N (yo t x i)<|yo t y z:=by
 rcases r with⟨rfl,s⟩|⟨a,c,rfl,rfl⟩;rotate_left;.unfold yo;refine W.bind' (JB B) ?_;rintro M⟨k,n⟩_ F rfl;refine .dead ?_;refine u.then _ λd=>?_;cases d<;>first|exact u.bind (.halt _) _|exact show u (J q fs) (pB t>>=λ_=>uC k n 0 A7)from u.then _ λ_=>UJ _ _ _ _ _
 unfold yo;refine W.bind' (JB B) ?_;rintro M⟨k,n⟩_ F rfl;dsimp only;have o:∀(K:Nat)(g:Option eF)(f:Nat)(j:dV),(∀b,g=U b->Bu I b\/f=0)->W ρ I (J q fs) q (Vo I) K (do let l:=f<=1&&match<-pB t with|.array ..=>Z|_=>ai match g with|some a=>if 0<=n/\n<f then bI<|aF<|U<|a.add<|n.toNat*(<-sizeOf j)else if l then vR<|yq "op/indexAddr.an index out of range at an array of length 0 or 1 (ledger 616)"else uC k n f A7|none=>uC k n 0 A7:cz az) (do let l:=f<=1&&match<-pB t with|.array ..=>Z|_=>ai match g with|some a=>if 0<=n/\n<f then bI<|aF<|U<|a.add<|n.toNat*(<-sizeOf j)else if l then vR<|yq "op/indexAddr.an index out of range at an array of length 0 or 1 (ledger 616)"else uC k n f A7|none=>uC k n 0 A7:cz az):=λK g f j p=>by refine W.bind' (gD t) ?_;rintro L d _ D rfl;cases g with|none=>grind[MK]|some a=>
   by_cases e:0<=n/\n<f
   .simp only[e,and_self,gL];refine W.bind' (nu j) ?_;rintro O C _ S rfl;rcases p a rfl with p|p;.exact .pure' (p.add _).ptr
    grind
   .simp only[e,ox];refine .dead ?_;have:∀b:Bool,u (J q fs) (if b=Z then vR<|yq "op/indexAddr.an index out of range at an array of length 0 or 1 (ledger 616)"else uC k n ↑f A7:cz az):=λb=>by
     split;.exact .halt _
     grind[UJ]
    exact this _
 refine W.bind' (gD t) ?_;rintro K d _ R rfl;split;.rename_i T E;refine W.bind' (Xo<|ay ⟨rfl,s⟩) ?_;rintro L _ a D⟨Q,rfl⟩;exact o L (U a) T E λb p=>by grind
 .rename_i x j g f c;refine o K g f j λb p=>?_;subst p;rcases s with h|⟨n,c,h⟩|⟨A,a,G,P,H,h|⟨n,c,h⟩⟩;.cases h
  .grind
  .grind
  .cases h;exact ay ⟨A,G,P,H⟩
 .exact .dead<|u.bind (.halt _) _
theorem as9(t):W ρ I (J q fs) q (λ_ a b=>a=b/\∃i,q.info? t=U i/\a=i.size) N (sizeOf t)<|sizeOf t:=by refine W.bind' (rO t) ?_;rintro M a b e⟨rfl,d⟩;exact .pure' ⟨rfl,_,d,rfl⟩
theorem auh(s)(i)(hs:abC q s i=Z){x x'}(h:mX I x x'):W ρ I (J q fs) q (Vo I) N (zL s x i)<|zL s x' i:=by
 refine W.bind' (WO s) ?_;rintro M d _ u⟨rfl,o⟩;unfold abC at hs;rw[o]at hs;split;·rename_i e;simp only at hs;cases l:e[i]? with|none=>grind|some f=>
   rw[l]at hs;simp only at hs⊢;refine W.bind' (Xo h) ?_;rintro K _ a y⟨p,rfl⟩;refine W.bind' (R:=λ_ b k=>Bu I b∧k=b) ?_ ?_;·refine W.bind' (as9 _) ?_;rintro L n _ r⟨rfl,j,g,rfl⟩;rw[g]at hs;simp only[eU]at hs;rw[if_neg hs];exact .pure' ⟨p.add _,rfl⟩
   ·rintro L _ b r⟨t,rfl⟩;exact .pure' t.ptr
 grind
theorem afg{a}(h:Bu I a):W ρ I (J q fs) q (RV ρ I) N (load a)<|load a:=by obtain⟨A,g,f,d⟩:=h;exact .J8 g f d λv e=>.pure<|RV.plain e
theorem aud{a}(k:Bu I a)(i n):∀{N}{e d},bD ρ I N e d->W ρ I (J q fs) q (bD ρ I) N (loadCellsFrom a i n e) (loadCellsFrom a i n d):=by induction n generalizing i with|zero=>intro N e d h;exact .pure h|succ n j=>intro N e d h;refine W.bind' (afg<|k.add i) ?_;rintro M v l g f;exact j (i+1)<|(h.mono g).push f
theorem aue(t){x x'}(h:mX I x x'):W ρ I (J q fs) q (RV ρ I) N (FC t x)<|FC t x':=by
 refine W.bind' (Xo h) ?_;rintro M _ a e⟨g,rfl⟩;refine W.bind' (Xf t) ?_;rintro M b _ e rfl;split;.refine W.bind' (nu t) ?_;rintro K n _ j rfl;refine W.bind' (aud g 0 n bD.nil) ?_;rintro L i f k d;exact .pure<|RV.agg d
 grind[afg]
theorem auf(i:Array dV)(t:dV){x x':az}(h:mX I x x'):W ρ I (J q fs) q (RV ρ I) N (zK i t #[x])<|zK i t #[x']:=by unfold zK;cases i[0]? with|none=>grind[T]|some t=>have j:(#[x]:Array az)[0]?=U x:=rfl;have g:(#[x']:Array az)[0]?=U x':=rfl;rw[j,g];dsimp only;refine W.bind' (gD t) ?_;rintro M d _ k rfl;have s:∀K(n:Nat),W ρ I (J q fs) q (RV ρ I) K (bI<|goInt n)<|bI<|goInt n:=fun K n=>.pure'<|RV.plain rfl;rcases h with⟨rfl,rfl|⟨n,c,rfl⟩|⟨A,a,l,r,o,rfl|⟨n,c,rfl⟩⟩⟩|⟨a,c,rfl,rfl⟩<;>cases d<;>first|exact T _ _|grind|(refine W.bind' (gD _) ?_;rintro K e _ p rfl;grind[T])
theorem fU.eval{a b}(h:fU ρ I q nm N a b)(e:Fair ρ q)(l:q.globals.size<N):∀x,tN I q (I.D a.fn) x=Z->RV ρ I N (a.eval x) (b.eval x):=by intro x d;cases x with
 |tmp t=>simp only[tN,Bool.not_eq_true']at d;show RV ρ I N (a.tmps.getD t ak)<|b.tmps.getD t ak;rw[iM,iM];cases i:a.tmps[t]? with|none=>rw[x3<|by rw[h.tmps.size];grind];exact RV.plain uU|some v=>obtain⟨j,k⟩:=h.tmps.here t v i d;rw[k];exact⟨j,rfl⟩
 |const v=>exact RV.plain d|global g=>simp only[tN,tL,cG,eU]at d;refine RV.ptr (a:=⟨g,0,V⟩) ⟨H.ji.2 ⟨by grind,d.2⟩,?_⟩;show(⟨g,0,V⟩:eF)={block:=ρ g,off:=0,spot:=V};rw[e.fix g<|by omega]|func f=>exact⟨by simpa[Pv,tN,tL,S,ve,qj,oR]using d,by simp[Pv,F,BM,oe,qi]⟩
theorem fU.Ip{a b}(h:fU ρ I q nm N a b){x}(d:Bz (I.D a.fn) x=Z):mX I (a.eval x)<|b.eval x:=by
 cases x<;>try(cases d)
 rename_i t;show mX I (a.tmps.getD t ak)<|b.tmps.getD t ak;rw[iM,iM];cases e:a.tmps[t]? with|none=>rw[x3<|by rw[h.tmps.size];grind];exact mX.undef|some v=>obtain⟨g,f,i⟩:=h.tmps.arg t v e d;grind
theorem tn.args{a b}(h:fU ρ I q nm N a b)(f:Fair ρ q)(k:q.globals.size<N){E}{xs:Array ja}(i:FI I q (I.D a.fn) E 0 xs.toList=Z):tn ρ I N E (xs.map a.eval)<|xs.map b.eval:=by
  have g:∀(l)(j),FI I q (I.D a.fn) E j l=Z→∀t x,l[t]?=U x→(if E (j+t)then Bz (I.D a.fn) x else tN I q (I.D a.fn) x)=Z:=by intro l;induction l with|nil=>grind|cons y l r=>intro j n t x i;simp only[FI]at n;cases t with|zero=>grind|succ t=>grind
  have z:∀t x,xs[t]?=U x→(if E t then Bz (I.D a.fn) x else tN I q (I.D a.fn) x)=Z:=fun t x p=>by have:=g xs.toList 0 i t x (by grind);grind
  refine⟨by simp,fun t v d o=>?_,fun t v d o=>?_⟩<;>(rw[qV]at d⊢;obtain⟨x,e,rfl⟩:=ze.1 d;rw[e]);·obtain⟨s,u⟩:=h.eval f k x (by grind);grind
  ·exact⟨_,rfl,h.Ip (x:=x)<|by grind⟩
inductive Dp(ρ:Nat->Nat)(I:H)(q:bZ)(fr:aZ)(N:Nat):Next->Next->Prop|gx{n n':Next}(hw:LW I fr)(h:RN ρ I q N n n'):Dp ρ I q fr N n n'|arg{v v':az}(hd:∀ops i rest k,fr.todo=aT ops (i::rest)::k->∀o,ops[i]?=U o->o.dst.all (I.D fr.fn)=Z)(h:mX I v v'):Dp ρ I q fr N (gq v)<|gq v'|enter{f:fC}{mV qK:Array az}(hw:LW I fr)(hf:I.DF f=Z)(h:tn ρ I N (I.D f) mV qK):Dp ρ I q fr N (jO f mV)<|jO f qK
theorem auj(i:Same I q fs nm X){fr}{f}(k:LW I fr)(j:I.DF f=Z){g d}(h:tn ρ I N (I.D f) g d):W ρ I (J q fs) q (Dp ρ I q fr) N (iJ f g)<|iJ f d:=by refine W.bind' mG ?_;rintro M p e o⟨rfl,rfl⟩;obtain⟨r,u,s,c,l,t,_,_,n⟩:=i.abM f j;show W ρ I (J e fs) e (Dp ρ I e fr) M (match fs[f]? with|none=>_|some s=>_) _;rw[(i.same f r u).1,l];dsimp only;rw[n,t];exact .pure'<|.enter k j<|h.mono o
theorem fU.A1(n:Same I q fs nm X){f}(o:I.DF f=Z){g e}(h:tn ρ I N (I.D f) g e):fU ρ I q nm N (eP (J q fs) f g eo)<|eP q f e eo:=by
  obtain⟨l,x,y,c,p,s,u,_,_⟩:=n.abM f o;rw[alM f g eo (n.same f l x).1];unfold eP;rw[p];refine⟨rfl,l,o,?_,rfl,?_,rfl,rfl,rfl,ay rfl,rfl,rfl,rfl,rfl⟩;·refine⟨by simp[h.size],fun t v d j=>?_,fun t v d j=>?_⟩<;>
      (rw[Array.getElem?_append]at d⊢;rw[h.size];by_cases r:t<g.size;·rw[cJ r]at d⊢;first|exact h.here t v d j|exact h.arg t v d j
       ·grind[qT,uU,mX.undef])
  ·intro i k;simp only[y9,s,mu]at k;subst k;exact u
theorem aui(S:we ρ I L q fs nm X w v){fr fr':aZ}(h:fU ρ I q nm w.heap.size fr fr'){ops:Array dG}{i:Nat}{l:List Nat}{k:List eY}(ht:fr.todo=aT ops (i::l)::k){o:dG}(ho:ops[i]?=U o)(n:Fq I q nm (I.D fr.fn) o=Z):W ρ I (J q fs) q (Dp ρ I q fr) w.heap.size (cS fr.eval o)<|cS fr'.eval o:=by
 have r:∀{Q:dG->Prop},Q o->∀ops i A k,fr.todo=aT ops (i::A)::k->∀o,ops[i]?=U o->Q o:=λhQ R i' H k' e o' he=>by grind
 have G:(o.dst.all λd=>!I.D fr.fn d)=Z->LW I fr:=λe=>r (Q:=λo=>(o.dst.all λd=>!I.D fr.fn d)=Z) e;have K:=h.eval S.fair S.low;unfold Fq at n;rw[jT]at n;rcases n with n|n;.rw[cG]at n;exact(ae2 S.lay S.free S.fair S.low K (λ_=>rfl) (λ_=>rfl) n.1).mono λM a b P D=>.gx (G n.2) D
 .obtain⟨B,Q2,u,T,O,guard⟩:=o;have val:∀{s E:cz az},B.all (I.D fr.fn)=Z->W ρ I (J q fs) q (Vo I) w.heap.size s E->W ρ I (J q fs) q (Dp ρ I q fr) w.heap.size (do bI<|gq<|<-s:cz Next) (do bI<|gq<|<-E:cz Next):=λp Q3=>by refine W.bind' Q3 ?_;rintro M x Q1 P z;exact .pure'<|.arg (r (Q:=λo=>o.dst.all (I.D fr.fn)=Z) p) z
  have g:∀{s E:cz az},(B.all λd=>!I.D fr.fn d)=Z->W ρ I (J q fs) q (RV ρ I) w.heap.size s E->W ρ I (J q fs) q (Dp ρ I q fr) w.heap.size (do bI<|gq<|<-s:cz Next) (do bI<|gq<|<-E:cz Next):=λp Q3=>by refine W.bind' Q3 ?_;rintro M x Q1 P z;exact .pure'<|.gx (G p)<|.value z
  cases Q2<;>simp only[Lm,cG,ow]at n;case move x=>exact .pure'<|.arg (r (Q:=λo=>o.dst.all (I.D fr.fn)=Z) n.2)<|h.Ip n.1
  case assign x=>exact .pure'<|.arg (r (Q:=λo=>o.dst.all (I.D fr.fn)=Z) n.2)<|h.Ip n.1
  case indexAddr t x i=>have z:=h.Ip n.1.1;show W ρ I (J q fs) q _ _ (do bI<|gq<|<-yo t (fr.eval x)<|fr.eval i:cz Next) (do bI<|gq<|<-yo t (fr'.eval x)<|fr'.eval i:cz Next);grind[aug]
  case fieldAddr s x f=>have z:=h.Ip n.1.1;show W ρ I (J q fs) q _ _ (do bI<|gq<|<-zL s (fr.eval x) f:cz Next) (do bI<|gq<|<-zL s (fr'.eval x) f:cz Next);grind[auh]
  case load t x=>have z:=h.Ip n.1;show W ρ I (J q fs) q _ _ (do bI<|gq<|<-FC t<|fr.eval x:cz Next) (do bI<|gq<|<-FC t<|fr'.eval x:cz Next);grind[aue]
  case call c=>
   obtain⟨F,j,C⟩:=c;obtain⟨p,y⟩:=n;simp only at y;split at y
   .rename_i e1;split at y
    .rename_i x e2;have z:=h.Ip y;have Q0:j=#[x]:=by obtain⟨l⟩:=j;simp only at e2;grind
     subst Q0;show W ρ I (J q fs) q _ _ (do bI<|gq<|<-zK C u<|#[x].map fr.eval:cz Next) (do bI<|gq<|<-zK C u<|#[x].map fr'.eval:cz Next);grind[auf]
    grind
   .rename_i _ f;simp only[cG]at y;show W ρ I (J q fs) q _ _ (iJ f<|#[]++j.map fr.eval++#[])<|iJ f<|#[]++j.map fr'.eval++#[];have h1:(#[]++j.map fr.eval++#[]:Array az)=j.map fr.eval:=by simp
    have h2:(#[]++j.map fr'.eval++#[]:Array az)=j.map fr'.eval:=by simp
    rw[h1,h2];exact auj S.same (G p) y.1<|tn.args h S.fair S.low y.2
   grind
theorem fU.GC{fr fr'}(h:fU ρ I q nm N fr fr'):∀d x y z k,fr.todo≠.call d x y z::k:=λd x y z k e=>by have:=h.Ir (.call d x y z) (by grind);cases this
theorem fU.M8{fr fr'}(h:fU ρ I q nm N fr fr'):∀d x y z k,fr'.todo≠.call d x y z::k:=λd x y z k e=>h.GC d x y z k<|h.todo.symm.trans e
theorem at6(hL:nU I q fs nm)(c:Same I q fs nm X){fr fr':aZ}{cs cs':List aZ}(h:fU ρ I q nm w.heap.size fr fr')(t:ig ρ I q nm w.heap.size cs cs'){s K:cz Next}(hs:W ρ I (J q fs) q (Dp ρ I q fr) w.heap.size s K)(hW:dO ρ I L w v)(g:∀i,ρ (w.heap.size+i)=v.heap.size+i):o ρ I L (b::bs) (After ρ I q fs nm X b bs B') w v (xA (J q fs) Z fr (cs++b::bs) V s w)<|xA q Z fr' (cs'++B') V K v:=by have E:=W.alike hs w v #[] #[] rfl hW g;have n1:=h.GC;have Q3:=h.M8;unfold xA;simp only[gL];have S:=W.alike (L:=V) hs w {v with tape:=w.tape,drawn:=w.drawn} #[] #[] rfl hW.full g;generalize s.runT (J q fs) w #[]=R at E S⊢;generalize K.runT q {v with tape:=w.tape,drawn:=w.drawn} #[]=R2 at S;generalize K.runT q v #[]=R' at E⊢;obtain⟨r,es⟩:=R;obtain⟨r',es'⟩:=R';cases r with
 |halt x G=>
  obtain⟨F,w0,h0,T,Q⟩:=E;cases x<;>first|exact trivial|exact absurd F qq|skip
  case panic p=>exact o.off<|jP.abK (aB h) t h0 T Q
  case unsupported u=>cases u<;>first|exact trivial|cases F
 |ok a G=>
  obtain⟨P,E⟩:=E;by_cases n:∀D,L=U D->G.drawn<=D;case neg=>obtain⟨_,_,_,_,C,_,_,_⟩:=S.2 (by simp);cases C with|gx QW C=>cases C<;>exact o.past P n|arg=>exact o.past P n|enter=>exact o.past P n
  obtain⟨b0,v1,e1,e,C,l,B,hE⟩:=E n;obtain⟨rfl,rfl⟩:=Nq e;have A:w.heap.size<=G.heap.size:=B.oQ;have j:∀e∈(#[]++e1:Array jq),yB ρ I G.heap.size e:=by grind
  cases C with|arg Q2 hv=>refine o.after (o.go l<|.within (aB<|(h.mono A).abz λops i Q0 k ht QX d ho hd'=>?_)<|t.mono A) B g<|kept j;grind|enter QW H y=>
   refine o.after ?_ B g<|kept j;dsimp only;split;·grind
   ·split;·rename_i e;grind
    ·exact o.go l<|.within (cs:=fr::cs) (cs':=fr'::cs') (aB<|fU.A1 c H y)<|.cons (aB ⟨h.mono A,QW⟩)<|t.mono A|gx QW C=>have z:pI ρ I q nm G.heap.size fr fr':=aB ⟨h.mono A,QW⟩;cases C with
   |value hv=>exact o.after (o.go l<|.within (z.finish hv)<|t.mono A) B g<|kept j|skip=>exact o.after (o.go l<|.within (z.finish<|RV.plain uU)<|t.mono A) B g<|kept j|enter H Q1 y=>
    refine o.after ?_ B g<|kept j;dsimp only;split;·rename_i e;exact absurd e<|n1 _ _ _ _ _
    ·split;·rename_i e;exact absurd e<|Q3 _ _ _ _ _
     ·rename_i f mV qK _ _ _ _;refine o.go l ?_;by_cases F:X f;·exact .cut (ay F) y z<|t.mono A
      ·exact .within (cs:=fr::cs) (cs':=fr'::cs') (ay<|fb.A1 c H F Q1 y)<|.cons z<|t.mono A|abS hc y=>
    refine o.after ?_ B g<|kept j;dsimp only;split;·rename_i e;exact absurd e<|n1 _ _ _ _ _
    ·split;·rename_i e;exact absurd e<|Q3 _ _ _ _ _
     ·exact o.go l<|.cut (aB hc) y z<|t.mono A|round hl H O ha Q1=>refine o.after (o.go l ?_) B g<|kept j;exact .within (cs:=fr::cs) (cs':=fr'::cs') (ay<|fb.afE c hl H O ha Q1)<|.cons z<|t.mono A
theorem aov{D}(ops){e c}(h:tn ρ I N D e c)(j):dZ ops c j=dZ ops e j:=by unfold dZ;cases ops[j]?.bind (·.dst)with|none=>rfl|some d=>simp only[y9];cases g:e[d]? with|none=>rw[x3<|by rw[h.size];grind]|some v=>cases f:D d with|true=>obtain⟨l,i,k⟩:=h.arg d v g f;rw[i];rcases k with⟨rfl,_⟩|⟨_,_,rfl,rfl⟩<;>rfl|false=>rw[(h.here d v g f).2];cases v<;>rfl
theorem fU.to{fr fr'}(h:fU ρ I q nm N fr fr'){l}(c:∀i∈l,Fs I q nm (I.D fr.fn) i=Z):fU ρ I q nm N {fr with todo:=l} {fr' with todo:=l}:=⟨h.fn,h.here,h.df,h.tmps,rfl,c,h.Iu,h.UH,h.mode,h.xV,h.sg,h.x7,h.JI,h.RE⟩
theorem fU.ret{fr fr'}(h:fU ρ I q nm N fr fr'):fU ρ I q nm N {fr with mode:=fI} {fr' with mode:=fI}:=⟨h.fn,h.here,h.df,h.tmps,h.todo,h.Ir,h.Iu,h.UH,rfl,aB rfl,h.sg,h.x7,h.JI,h.RE⟩
theorem ath(S:we ρ I L q fs nm X w v){fr fr'}{cs cs'}(h:fU ρ I q nm w.heap.size fr fr')(t:ig ρ I q nm w.heap.size cs cs'){ops}{i}{l}{k}(g:fr.todo=aT ops (i::l)::k):o ρ I L (b::bs) (After ρ I q fs nm X b bs B') w v (Fy (J q fs) Z fr (cs++b::bs) V w)<|Fy q Z fr' (cs'++B') V v:=by
 have n:=h.todo.trans g;have j:=h.Ir (aT ops<|i::l) (by grind);have r:fr.oper?=ops[i]?:=by unfold Pw;grind
 have p:fr'.oper?=ops[i]?:=by unfold Pw;grind
 unfold Fy;rw[r,p];cases f:ops[i]? with|none=>exact trivial|some P=>
  simp only[Fs,lE]at j;have d:=j P<|tR f;have s:∀c,P.op≠.defer c:=λc e=>by unfold Fq Al Lm at d;grind
  have:=at6 (b:=b) (bs:=bs) (B':=B') S.lay S.same h t (aui S h g f d) S.lq S.shift;grind
def RVl(ρ:Nat->Nat)(I:H)(N:Nat)(l l':List az):Prop:=(∀v∈l,S I N v=Z)/\l'=l.map (F ρ)
theorem atc{D:Nat->Bool}{fn k:dY}(o:k.results=fn.results)(u:fn.results.all (BL D)=Z){T A:Array az}(h:tn ρ I N D T A):W ρ I (J q fs) q (RV ρ I) N (kD fn T)<|kD k A:=by
 have f:∀{M:Nat}(t:Nat),N<=M->D t=ai->RV ρ I M (T.getD t ak) (A.getD t ak):=λ{M}t g C=>by rw[iM,iM];cases E:T[t]? with|none=>rw[x3<|by rw[h.size];grind];exact RV.plain uU|some v=>obtain⟨i,H⟩:=h.here t v E C;rw[H];exact⟨ff g i,rfl⟩
 unfold kD;rw[o,GN,GN];simp only[lE]at u;have p:∀(l:List ResultVar)(M:Nat),N<=M->(∀r∈l,BL D r=Z)->W ρ I (J q fs) q (RVl ρ I) M (l.mapM λ|.tmp t=>bI<|T.getD t ak|.cell a t=>do loadVar t<|<-asAddr<|T.getD a ak) (l.mapM λ|.tmp t=>bI<|A.getD t ak|.cell a t=>do loadVar t<|<-asAddr<|A.getD a ak):=by intro l;induction l with|nil=>intro M g _;rw[SL,SL];exact .pure' ⟨by simp,rfl⟩|cons x l F=>
   intro M g n;rw[GO,GO];have s:=n x (by simp);refine W.bind' (R:=RV ρ I) ?_ ?_;.cases x with|tmp t=>exact .pure'<|f t g<|by simpa[BL]using s|cell a t=>refine W.bind' (ML<|f a g<|by simpa[BL]using s) ?_;grind[DU]
   .rintro K a P B⟨R,rfl⟩;refine W.bind' (F K (bC g B) λr o=>n r<|by grind) ?_;rintro O c S d⟨Q,rfl⟩;refine .pure' ⟨λv y=>?_,rfl⟩;grind[ff]
 have i:=p fn.results.toList N (aQ _) λr o=>u r (by grind);show W ρ I (J q fs) q (RV ρ I) N (Functor.map List.toArray _>>=_)<|Functor.map List.toArray _>>=_;refine W.bind' (R:=bD ρ I) (W.bind i (k':=λl=>.pure l.toArray) (k:=λl=>.pure l.toArray) ?_) ?_;.rintro M l Q0 g⟨n,rfl⟩;exact .pure ⟨λv y=>n v<|by grind,by simp⟩
 .rintro M G z g e;refine .pure' ?_;have j:=e.size;by_cases i:G.size=1;.rw[wP i,wP<|by rw[j];exact i];refine⟨e.1 _<|Nu _,?_⟩;obtain⟨_,rfl⟩:=e;simp
  .rw[GM i,GM<|by rw[j];exact i];exact RV.tuple e
theorem asW(F:Bt I q m' B')(S:we ρ I L q fs nm X w v){fr fr'}{cs cs'}(h:fU ρ I q nm w.heap.size fr fr')(t:ig ρ I q nm w.heap.size cs cs')(E:fr.mode=fI):o ρ I L (b::bs) (After ρ I q fs nm X b bs B') w v (unwind (J q fs) m fr (cs++b::bs) V w)<|unwind q m' fr' (cs'++B') V v:=by
 have z:=h.mode.trans E;obtain⟨C,j,k,p,D,l,B⟩:=fr;obtain⟨P,i,e,Q2,y,g,n⟩:=fr';subst E z;have u:=h.fn;subst u;have O:=h.Iu;have R:=h.UH;subst O R;obtain⟨K,Q,f,c,G,a,d,Q1,_⟩:=S.same.abM P h.df;show o _ _ _ _ _ w v (match fs[P]? with|none=>_|some C=>_)<|match q.funcs[P]? with|none=>_|some C=>_;rw[(S.same.same P K Q).1,G];refine o.of_run (q:=q) (fs:=fs) (fn:=P) (f:=λr=>match r with|aW x w=>oE (J q fs) m ⟨P,j,k,[],fI,l,B⟩ (cs++b::bs) V x w|dM (.stuck s) w=>fy (kE s<|pq (J q fs) ⟨P,j,k,[],fI,l,B⟩) w|dM _ w=>fy (kE "return: the result variables cannot be read"<|pq (J q fs) ⟨P,j,k,[],fI,l,B⟩) w) (f':=λr=>match r with|aW x w=>oE q m' ⟨P,i,e,[],fI,g,n⟩ (cs'++B') V x w|dM (.stuck s) w=>fy (kE s<|pq q ⟨P,i,e,[],fI,g,n⟩) w|dM _ w=>fy (kE "return: the result variables cannot be read"<|pq q ⟨P,i,e,[],fI,g,n⟩) w) (atc rfl Q1 h.tmps) S.lq S.shift ?_ ?_;.intro L x Q0 Q3 W T H A _;exact Rw F h.sg h.x7 h.here (t.mono T) H A
 .intro x Q3 _;cases x<;>exact ay ⟨_,_,_,rfl⟩
theorem atI(hB:Bt I q m' B')(S:we ρ I L q fs nm X w v){fr fr':aZ}{cs cs':List aZ}(h:fU ρ I q nm w.heap.size fr fr')(t:ig ρ I q nm w.heap.size cs cs'):o ρ I L (b::bs) (After ρ I q fs nm X b bs B') w v (xz (J q fs) m Z fr (cs++b::bs) V w)<|xz q m' Z fr' (cs'++B') V v:=by
 have Od:=h.todo;have KG:=h.JI;have Cs:=h.RE;obtain⟨D,A,todo,p,H,E,ro⟩:=fr;obtain⟨G,y,Q2,s,Q3,B,ro'⟩:=fr';simp only at Od KG Cs;subst Od KG Cs;have C:∀l:List eY,(∀i∈l,Fs I q nm (I.D D) i=Z)->o ρ I L (b::bs) (After ρ I q fs nm X b bs B') w v (bV (r (⟨D,A,l,p,H,E,V⟩:aZ)<|cs++b::bs) w) (bV (r (⟨G,y,l,s,Q3,B,V⟩:aZ)<|cs'++B') v):=λl hl=>o.go S.lq<|.within (aB<|h.to hl) t;have O:∀(j:Option Code)(QX o':Outcome),o ρ I L (b::bs) (After ρ I q fs nm X b bs B') w v (if j matches V|some .ret then bV (r (⟨D,A,Q2,p,fI,E,V⟩:aZ)<|cs++b::bs) w else fy QX w)<|if j matches V|some .ret then bV (r (⟨G,y,Q2,s,fI,B,V⟩:aZ)<|cs'++B') v else fy o' v:=λj QX o'=>by have go1:=o.go (B:=b::bs) (A:=After ρ I q fs nm X b bs B') S.lq<|.within (aB h.ret) t;cases j with|none=>grind|some c=>cases c<;>first|grind|exact trivial
 have vJ:=h.eval S.fair S.low;unfold xz;cases Q2 with|nil=>exact O V _ _|cons i k=>have Q:=h.Ir i (by simp);have R:∀j∈k,Fs I q nm (I.D D) j=Z:=λj hj=>h.Ir j (by grind);simp only at Q;cases i with
  |call _ _ _ _=>cases Q|extern _ _=>cases Q|inScope _=>cases Q|inRangeFunc l=>cases Q|endRangeFunc l=>cases Q|beginRound=>cases Q|inBlock id=>exact C k R|inLoop c=>exact C (bF c::.inLoop c::k)<|iu.2 ⟨Q,iu.2 ⟨Q,R⟩⟩|inRegion f l=>cases l with|nil=>exact C k R|cons i l=>
    have hy:dZ f y=dZ f A:=funext<|aov f h.tmps;have h1:=ath (b:=b) (bs:=bs) (B':=B') S h t rfl;have h2:o ρ I L (b::bs) (After ρ I q fs nm X b bs B') w v (bV (r ((⟨D,A,aT f (i::l)::k,p,H,E,V⟩:aZ).finish ak)<|cs++b::bs) w)<|bV (r ((⟨G,y,aT f (i::l)::k,s,Q3,B,V⟩:aZ).finish ak)<|cs'++B') v:=o.go S.lq<|.within (aB<|h.abz λ_ _ _ _ _ QX d _ _=>⟨λ_=>⟨(qT (ρ:=ρ) uU).1,(qT (ρ:=ρ) (I:=I) (N:=w.heap.size) uU).2.symm⟩,λ_=>mX.undef⟩) t;by_cases hw:(f[i]?.map (eW .<|dZ f A)).getD ai=Z;.grind
    .have hw':¬(f[i]?.map (eW .<|dZ f y)).getD ai=Z:=by grind
     show o _ _ _ _ _ w v (if(f[i]?.map (eW .<|dZ f A)).getD ai=Z then _ else _) (if(f[i]?.map (eW .<|dZ f y)).getD ai=Z then _ else _);rw[if_neg hw,if_neg hw'];exact h2
  |code c=>have K:mB I q nm (I.D D) c=Z:=Q;cases c with
   |scope _=>cases K|label _=>cases K|goto _=>cases K|rangeFunc _ _ _ _=>cases K|refuse _=>exact trivial|ret=>exact O (U .ret) _ _|skip=>exact C k R|seq a c=>simp only[mB,cG]at K;exact C (bF a::bF c::k)<|iu.2 ⟨K.1,iu.2 ⟨K.2,R⟩⟩|block id c=>exact C (bF c::mD id::k)<|iu.2 ⟨K,iu.2 ⟨rfl,R⟩⟩|loop c=>exact C (bF c::.inLoop c::k)<|iu.2 ⟨K,iu.2 ⟨K,R⟩⟩|cond x a c=>
    simp only[mB,cG]at K;obtain⟨e,e2⟩:=vJ x K.1.1;have P:∀(u u':az)(QX o':Outcome),u'=F ρ u->o ρ I L (b::bs) (After ρ I q fs nm X b bs B') w v (match u with|cx z=>bV (r ⟨D,A,bF (if z then a else c)::k,p,H,E,V⟩<|cs++b::bs) w|_=>fy QX w) (match u' with|cx z=>bV (r ⟨G,y,bF (if z then a else c)::k,s,Q3,B,V⟩<|cs'++B') v|_=>fy o' v):=by
     rintro u _ QX o' rfl;cases u<;>try exact trivial
     rename_i z;cases z with|true=>exact C (bF a::k)<|iu.2 ⟨K.1.2,R⟩|false=>exact C (bF c::k)<|iu.2 ⟨K.2,R⟩
    exact P _ _ _ _ e2|exit id=>
    have P:∀(QX:Option<|List eY)(g g':GStep),(∀l,QX=U l->∀i∈l,Fs I q nm (I.D D) i=Z)->o ρ I L (b::bs) (After ρ I q fs nm X b bs B') w v g g'->o ρ I L (b::bs) (After ρ I q fs nm X b bs B') w v (QX.elim g λl=>bV (r ⟨D,A,l,p,H,E,V⟩<|cs++b::bs) w) (QX.elim g' λl=>bV (r ⟨G,y,l,s,Q3,B,V⟩<|cs'++B') v):=by rintro QX g g' ho hg;cases QX with|none=>exact hg|some l=>exact C l<|ho l rfl
    exact P (exitTo id k) _ _ (λl hl i Q=>R i<|Ph id k l hl i Q)<|O (U<|.exit id) _ _|region id f d=>have W:Fs I q nm (I.D D) (aT f [])=Z:=K;cases d with|false=>exact C (aT f (mR f.size)::k)<|iu.2 ⟨W,R⟩|true=>
     have qz:G=D:=h.fn;subst qz;have go2:∀(n:Nat)(T Q0:ax),dO ρ I L T Q0->fD ρ I w v T Q0->T.heap.size=w.heap.size->o ρ I L (b::bs) (After ρ I q fs nm X b bs B') w v (bV (r ⟨G,A,aT f (mS (q.follows nM) f n)::k,p,H,E,V⟩<|cs++b::bs) T) (bV (r ⟨G,y,aT f (mS (q.follows nM) f n)::k,s,Q3,B,V⟩<|cs'++B') Q0):=λn T Q0 Q1 hT hs=>aB ⟨hT.Fo,λ_=>⟨_,Q0,#[],rfl,.within (aB<|(h.mono<|by omega).to (l:=aT f (mS (q.follows nM) f n)::k)<|iu.2 ⟨W,R⟩)<|t.mono<|by omega,Q1,hT,by simp⟩⟩;have P:∀(n:Nat)(T Q0:ax)(QW r':Result Nat),QW=aW n T->r'=aW n Q0->dO ρ I L T Q0->fD ρ I w v T Q0->T.heap.size=w.heap.size->o ρ I L (b::bs) (After ρ I q fs nm X b bs B') w v (match QW with|aW t w=>bV (r ⟨G,A,aT f (mS ((J q fs).follows nM) f t)::k,p,H,E,V⟩<|cs++b::bs) w|dM _ w=>fy (kE "order"<|pq (J q fs) ⟨G,A,bF (dS id f Z)::k,p,H,E,V⟩) w) (match r' with|aW t w=>bV (r ⟨G,y,aT f (mS (q.follows nM) f t)::k,s,Q3,B,V⟩<|cs'++B') w|dM _ w=>fy (kE "order"<|pq q ⟨G,y,bF (dS id f Z)::k,s,Q3,B,V⟩) w):=by rintro n T Q0 _ _ rfl rfl Q1 hT hs;exact go2 n T Q0 Q1 hT hs
     rcases afc (p:=J q fs) (q:=q) (.order G id) S.lq with⟨n,e,e2⟩|⟨n,e,e2⟩|⟨n,e,hn⟩;.exact P n w v _ _ e e2 S.lq (fD.refl _ _) rfl
     .exact P n _ _ _ _ e e2 S.lq.draw (fD.draw _ _) rfl
     .have Zv:∀(QW:Result Nat)(g:GStep),QW=aW n {w with drawn:=w.drawn+1}->o ρ I L (b::bs) (After ρ I q fs nm X b bs B') w v (match QW with|aW t w=>bV (r ⟨G,A,aT f (mS ((J q fs).follows nM) f t)::k,p,H,E,V⟩<|cs++b::bs) w|dM _ w=>fy (kE "order"<|pq (J q fs) ⟨G,A,bF (dS id f Z)::k,p,H,E,V⟩) w) g:=by rintro _ g rfl;exact o.past (Ko _) hn
      exact Zv _ _ e
theorem bD.getD{c a}(h:bD ρ I N c a)(t):RV ρ I N (c.getD t ak)<|a.getD t ak:=by rw[iM,iM];cases d:c[t]? with|none=>rw[h.get_none d];exact RV.plain uU|some v=>obtain⟨f,e⟩:=h.get d;rw[e];exact⟨f,rfl⟩
theorem aeP{t:Type}{f f':t->cz az}:∀(l:List t)(N:Nat),(∀x M,N<=M->W ρ I (J q fs) q (RV ρ I) M (f x) (f' x))->W ρ I (J q fs) q (RVl ρ I) N (l.mapM f) (l.mapM f')|[],N,d=>by rw[SL,SL];exact .pure' ⟨by simp,rfl⟩|x::l,N,d=>by rw[GO,GO];refine W.bind' (d x N<|aQ _) ?_;rintro M a j g⟨n,rfl⟩;refine W.bind' (aeP l M λx K e=>d x K<|bC g e) ?_;rintro K c h e⟨k,rfl⟩;refine .pure' ⟨λv i=>?_,rfl⟩;grind[ff]
theorem atd{fn e}(o:e.results=fn.results){f c}(h:bD ρ I N f c):W ρ I (J q fs) q (RV ρ I) N (kD fn f)<|kD e c:=by
 unfold kD;rw[o,GN,GN];have i:=aeP (ρ:=ρ) (I:=I) (q:=q) (fs:=fs) (f:=λ|.tmp t=>bI<|f.getD t ak|.cell a t=>do loadVar t<|<-asAddr<|f.getD a ak) (f':=λ|.tmp t=>bI<|c.getD t ak|.cell a t=>do loadVar t<|<-asAddr<|c.getD a ak) fn.results.toList N (λx M g=>by cases x with|tmp t=>exact .pure'<|(h.mono g).getD t|cell a t=>refine W.bind' (ML<|(h.mono g).getD a) ?_;grind[DU]);show W ρ I (J q fs) q (RV ρ I) N (Functor.map List.toArray _>>=_)<|Functor.map List.toArray _>>=_;refine W.bind' (R:=bD ρ I) (W.bind i (k':=λl=>.pure l.toArray) (k:=λl=>.pure l.toArray) ?_) ?_;.rintro M l r g⟨k,rfl⟩;exact .pure ⟨λv s=>k v<|by grind,by simp⟩
 .rintro M n p g d;refine .pure' ?_;have j:=d.size;by_cases i:n.size=1;.rw[wP i,wP<|by grind];refine⟨d.1 _<|Nu _,?_⟩;obtain⟨_,rfl⟩:=d;simp
  .rw[GM i,GM<|by grind];grind[RV.tuple]
theorem asX(T:Bt I q m' B')(S:we ρ I L q fs nm X w v){fr fr'}{cs cs'}(h:fb ρ I q nm w fr fr')(t:ig ρ I q nm w cs cs')(O:fr.mode=fI):o ρ I L (b::bs) (After ρ I q fs nm X b bs B') w v (unwind (J q fs) m fr (cs++b::bs) V w)<|unwind q m' fr' (cs'++B') V v:=by have y:=h.mode.trans O;obtain⟨G,i,j,C,a,n,A⟩:=fr;obtain⟨P,g,d,z,Q2,e,p⟩:=fr';simp only at O y;subst O y;have E:P=G:=h.fn;subst E;obtain⟨l,hl,Q0,c⟩:=h.defers;simp only at Q0 c;subst Q0 c;unfold unwind;cases l with
 |cons r l=>
  have D:∀x∈l,I.blk w x=Z:=by grind
  refine o.of_run (q:=q) (fs:=fs) (fn:=P) (f:=λQ=>match Q with|aW QW w=>bV {frame:=⟨P,i,j,QW++l.map λr=>{target:=Lq r,args:=#[]},fI,n,A⟩,callers:=cs++b::bs,status:=dN,dying:=V} w|dM _ w=>fy (kE "the deferred calls of a range-over-func loop have been taken"<|pq (J q fs) ⟨P,i,j,(r::l).map λr=>{target:=Lq r,args:=#[]},fI,n,A⟩) w) (f':=λQ=>match Q with|aW QW w=>bV {frame:=⟨P,g,d,QW++l.map λr=>{target:=Lq<|ρ r,args:=#[]},fI,e,p⟩,callers:=cs'++B',status:=dN,dying:=V} w|dM _ w=>fy (kE "the deferred calls of a range-over-func loop have been taken"<|pq q ⟨P,g,d,(r::l).map λr=>{target:=Lq<|ρ r,args:=#[]},fI,e,p⟩) w) (as0<|hl r<|by simp) S.lq S.shift ?_ ?_;.rintro L _ _ W v1 B⟨rfl,rfl⟩u _;refine o.go u<|.within (ay ?_)<|t.mono B;obtain⟨e1,e2,e3,e4,e5,e6,e7,e8,e9,F,K,QX⟩:=h.mono B;exact⟨e1,e2,e3,e4,e5,⟨l,λx Q3=>H.ey (D x Q3) B,rfl,rfl⟩,e7,e8,e9,F,K,QX⟩
  grind|nil=>have k:=S.same.res P h.here;simp only[qs];show o _ _ _ _ _ w v (match fs[P]? with|none=>_|some G=>_)<|match q.funcs[P]? with|none=>_|some G=>_;cases Q1:fs[P]? with
  |none=>rw[Q1]at k;cases R:q.funcs[P]? with|some _=>grind|none=>exact Rw T h.sg h.x7 (by rw[h.fn];exact h.here) t (h.tmps.getD 0) S.lq
  |some f=>rw[Q1]at k;cases R:q.funcs[P]? with|none=>grind|some f'=>
    rw[R]at k;simp only[ee,dX]at k;refine o.of_run (q:=q) (fs:=fs) (fn:=P) (f:=λr=>match r with|aW x w=>oE (J q fs) m ⟨P,i,j,[],fI,n,A⟩ (cs++b::bs) V x w|dM (.stuck s) w=>fy (kE s<|pq (J q fs) ⟨P,i,j,[],fI,n,A⟩) w|dM _ w=>fy (kE "return: the result variables cannot be read"<|pq (J q fs) ⟨P,i,j,[],fI,n,A⟩) w) (f':=λr=>match r with|aW x w=>oE q m' ⟨P,g,d,[],fI,e,p⟩ (cs'++B') V x w|dM (.stuck s) w=>fy (kE s<|pq q ⟨P,g,d,[],fI,e,p⟩) w|dM _ w=>fy (kE "return: the result variables cannot be read"<|pq q ⟨P,g,d,[],fI,e,p⟩) w) (atd k.symm h.tmps) S.lq S.shift ?_ ?_;.intro L x x' W v1 B Q3 u _;exact Rw T h.sg h.x7 (by rw[h.fn];exact h.here) (t.mono B) Q3 u
    .intro x W _;cases x<;>exact ay ⟨_,_,_,rfl⟩
theorem WU(c:Bt I q m' B')(S:we ρ I L q fs nm X w v){fr fr'}{cs cs'}(h:jP ρ I q nm w fr fr')(t:ig ρ I q nm w cs cs'):o ρ I L (b::bs) (After ρ I q fs nm X b bs B') w v (cj (J q fs) m (r fr<|cs++b::bs) w)<|cj q m' (r fr'<|cs'++B') v:=by
 rcases h with h|h;.unfold cj r;dsimp only;rw[h.mode];rcases h.xV with a|a;all_goals grind[atJ,asX]
 .unfold cj r;dsimp only;rw[h.mode];rcases h.xV with a|a;all_goals grind[atI,asW]
end
end Go.Proofs.YtpdbmpbmepkikaaGreatDoor
