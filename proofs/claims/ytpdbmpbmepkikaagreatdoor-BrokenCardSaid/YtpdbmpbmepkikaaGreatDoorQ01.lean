/- Laws. -/
import GoSem.Dispatch
import GoSem.Op.String
import Derived.Lib.Hide
set_option maxRecDepth 100000
set_option maxHeartbeats 400000
set_option linter.all false
open Array renaming range->GZ
open Bool renaming true->Y,false->ai
open Decidable renaming decide->cg
open Go renaming runtimePanic->Cg,store->EE,markStringish->OE,World->ay,Value->az,Program->bW,Sem->cz,Addr->eT,Func->ep,TypeId->ey,binOp->fZ,FuncId->fq,Event->jl,zeroValue->lu,MapEntry->mL,underlying->pq,getObj->ry,boundsPanic->tW,unsupported->vh
open Go.BoundsCode renaming index->AE
open Go.Builtin renaming unsafeAdd_->Kz,holdsCells->aCF
open Go.Conv renaming stringToRunes->akH,runesToString->akI,bytesToString->akJ,stringToBytes->akK
open Go.Fn renaming yield->Cm,func->ez
open Go.Instr renaming sliceBound->B9,checkKey->Cj,findNow->Ck,sureAddr->EK,loadAt->EL,sameNow->EN,extract->GX,findKey->Kw,lookup->OD,index->OH,makeMap->OJ,storeAt->Uf,arrayAt->aCD,findAsking->abb,makeSlice->akD,fill->tS,indexAt->xZ,fieldAt->zl
open Go.IntKind renaming i64->aC
open Go.Loc renaming mark->iq
open Go.Mode renaming plain->lM,atomic->qx
open Go.Obj renaming loop->AF,cells->aH,map->iZ,mapIter->vi,deferred->x6
open Go.Op renaming bytesLess->Ch,eqGuardIn->GY,stringOp->OG,maxDepth->Oz,equalIn->sF
open Go.Operand renaming const->gJ
open Go.Program renaming alikeButTags->aCB
open Go.Result renaming ok->aY,halt->dR
open Go.Sem renaming runT->fu,bind->wO
open Go.TypeDesc renaming unsafePointer->Ud
open Go.Unsupported renaming noEntry->x7
open Go.Value renaming cells->Cf,int->V,string->aD,slice->aE,pointer->aG,agg->bJ,tuple->bO,bool->bQ,map->cq,func->dM,chan->de,iface->iB,nilIface->nH
open Go.World renaming farLoad->aa2,freeze->akx,setCell->jk,cell?->pg,frozen?->x8
open Option renaming some->U,none->Z
open Or renaming inr->aA,inl->ax
open Pure renaming pure->bI
namespace Go.Proofs.YtpdbmpbmepkikaaGreatDoor
def cV:=@Bool.and_eq_true
def fO:=@decide_eq_true_eq
def Dw:=@Option.all_some
def eG:=@Option.map_some
def kZ:=@Array.all_eq_true_iff_forall_mem
def My:=@Array.map_congr_left
def aS:=@Nat.le_refl
def bC:=@Nat.le_trans
def cE:=@Nat.lt_of_lt_of_le
def Ag:=@Go.Sem.runT.eq_def
def Su:=@Nat.le_of_succ_le
def Ae:=@Array.getElem?_modify
def yM:=@Option.map_eq_some_iff
def ag7:=@Array.size_push
def Jp:=@Nat.le_succ
def BB:=@Array.mem_append
def iy:=@Array.getElem?_eq_getElem
def fP:=@List.mem_toArray
def dj:=@List.mem_cons
def dP:=@List.not_mem_nil
def dY:=@or_false
def uH:=@Array.size_setIfInBounds
def uG:=@Array.mem_of_getElem?
def qM:=@Array.getElem?_map
def yK:=@Array.toList_map
def gd:=@List.map_cons
def agU:=@Array.toList_zipIdx
def MC:=@Array.foldl_toList
def agK:=@Option.isSome_map
def ew:=@Option.some.injEq
def Jd:=@beq_eq_false_iff_ne
def MB:=@Array.forIn_toList
def agG:=@Std.Legacy.Range.forIn_eq_forIn_range'
def Jc:=@Option.map_none
def agF:=@Array.mem_replicate
section
instance:CoeOut ay Nat:=⟨λw=>w.heap.size⟩
instance:Coe Nat eT:=⟨λb=>⟨b,0,Z⟩⟩
instance:Coe ByteArray az:=⟨aD⟩
instance:Coe Int az:=⟨V aC⟩
instance:Coe Nat az:=⟨λn=>V aC n⟩
instance:Coe Bool az:=⟨bQ⟩
structure cH(A B:Prop):Prop where
 a:A
 b:B
structure gF(A B C:Prop):Prop where
 a:A
 b:B
 c:C
structure vB(A B C D:Prop):Prop where
 a:A
 b:B
 c:C
 d:D
structure CJ(A B C D E:Prop):Prop where
 a:A
 b:B
 c:C
 d:D
 e:E
structure zB(A B C D E F:Prop):Prop where
 a:A
 b:B
 c:C
 d:D
 e:E
 f:F
structure E5(A B C D E F G:Prop):Prop where
 a:A
 b:B
 c:C
 d:D
 e:E
 f:F
 g:G
structure E4(A B C D E F G H:Prop):Prop where
 a:A
 b:B
 c:C
 d:D
 e:E
 f:F
 g:G
 h:H
structure Hq9(A B C D E F G H I:Prop):Prop where
 a:A
 b:B
 c:C
 d:D
 e:E
 f:F
 g:G
 h:H
 i:I
structure al8(A B C D E F G H I J:Prop):Prop where
 a:A
 b:B
 c:C
 d:D
 e:E
 f:F
 g:G
 h:H
 i:I
 j:J
structure al7(A B C D E F G H I J K:Prop):Prop where
 a:A
 b:B
 c:C
 d:D
 e:E
 f:F
 g:G
 h:H
 i:I
 j:J
 k:K
structure aEz(A B C D E F G H I J K L:Prop):Prop where
 a:A
 b:B
 c:C
 d:D
 e:E
 f:F
 g:G
 h:H
 i:I
 j:J
 k:K
 l:L
theorem ex{α}(e:α):∃x,x=e:=⟨_,rfl⟩
theorem kp{p:Prop}(h:p):p:=h
structure O where
 name:ByteArray
 field:ByteArray
 c:Int
 r:Int
 value:ByteArray deriving DecidableEq
def iG(n f:ByteArray):ByteArray:=n++⟨#[46]⟩++f++⟨#[0]⟩
def O.key(x:O):ByteArray:=iG x.name x.field
def NY(a b:ByteArray):Bool:=!(Ch a.toList b.toList||a.toList==b.toList)
def xE(c r c' r':Int):Bool:=cg (c'<c)||cg (c=c')&&cg (r'<r)
def vL(a b:O):Bool:=if a.c=b.c/\a.r=b.r then NY a.value b.value else xE a.c a.r b.c b.r
def fD:List O->O->List O|[],x=>[x]|y::l,x=>if y.key=x.key then(if vL x y then x::l else y::l)else y::fD l x
section
variable (ρ:Nat->Nat)
def dH(a:eT):eT:={a with block:=ρ a.block}
def Bf:Fn->Fn|Cm l=>Cm<|ρ l|f=>f
mutual
def F:az->az|bQ b=>bQ b|V k n=>V k n|.float k b=>.float k b|.complex k a b=>.complex k a b|aD s=>aD s|aG a=>aG<|a.map<|dH ρ|aE a n c=>aE (a.map<|dH ρ) n c|cq r=>cq<|r.map ρ|de r=>de<|r.map ρ|dM fn first cap=>dM (Bf ρ fn) (nX first)<|nX cap|.nilFunc=>.nilFunc|iB t v=>iB t<|F v|nH=>nH|bJ cs=>bJ<|nX cs|bO vs=>bO (nX vs)def nX:Array az->Array az|⟨l⟩=>⟨qa l⟩def qa:List az->List az|[]=>[]|v::l=>F v::qa l
end
theorem atk(l):qa ρ l=l.map (F ρ):=by induction l with|nil=>grind[qa]|cons v l a=>grind[qa]
theorem yo(l):nX ρ l=l.map (F ρ):=by cases l with|mk l=>grind[nX,atk]
end
mutual
def n:az->Bool|dM _ _ _=>ai|iB _ v=>n v|bJ cs=>IP cs|bO vs=>IP vs|aG a=>a.isNone|aE a _ _=>a.isNone|cq r=>r.isNone|de r=>r.isNone|bQ _|V _ _|aD _|.nilFunc|nH=>Y|.float _ _|.complex _ _ _=>ai
def IP:Array az->Bool|⟨l⟩=>Di l
def Di:List az->Bool|[]=>Y|v::l=>n v&&Di l
end
structure Fc where
 g:Nat
 lo:Nat
 c:Array az
 e:ey
 f:Nat×Nat
 c':Array az
 e':ey
 f':Nat×Nat
 rel:∀i x,lo<=i->c[i]?=U x->n x=Y/\c'[i]?=U x
structure H where
 T:fq->Bool
 F:Nat->Bool
 gx:Code->Bool
 cut:fq->Nat->Bool
 D:fq->Nat->Bool:=λ_ _=>ai
 DF:fq->Bool:=λ_=>ai
 arg:Option Fc:=Z
def H.blk(I:H)(N b:Nat):Bool:=cg (b<N)&&I.F b
theorem H.eD{I:H}{N M b}(h:I.blk N b=Y)(a:N<=M):I.blk M b=Y:=by simp only[H.blk,cV,fO]at h⊢;grind
section
variable (I:H) (N:Nat)
def uD:Fn->Bool|ez f=>I.T f|Cm l=>I.blk N l|_=>ai
mutual
def S:az->Bool|dM fn first cap=>uD I N fn&&qb first&&qb cap|iB _ v=>S v|bJ cs=>qb cs|bO vs=>qb vs|aG a=>a.all λa=>I.blk N a.block|aE a _ _=>a.all λa=>I.blk N a.block|cq r=>r.all λr=>I.blk N r|de r=>r.isNone|bQ _|V _ _|aD _|.nilFunc|nH=>Y|.float _ _|.complex _ _ _=>ai
def qb:Array az->Bool|⟨l⟩=>oP l
def oP:List az->Bool|[]=>Y|v::l=>S v&&oP l
end
theorem auD(l):oP I N l=l.all (S I N):=by induction l with|nil=>grind[oP]|cons v l a=>grind[oP]
theorem FG(l):qb I N l=l.all (S I N):=by cases l with|mk l=>grind[qb,auD]
end
section
variable {I:H} {N M:Nat}
theorem auG{f}(h:uD I N f=Y)(a:N<=M):uD I M f=Y:=by cases f<;>first|exact h|exact H.eD h a
mutual
theorem ff(hN:N<=M):∀{v:az},S I N v=Y->S I M v=Y|dM fn first cap,h=>by simp only[S,cV]at h⊢;exact⟨⟨auG h.1.1 hN,Rl hN h.1.2⟩,Rl hN h.2⟩|iB t v,h=>by simp only[S]at h⊢;exact ff hN h|bJ cs,h=>by simp only[S]at h⊢;exact Rl hN h|bO cs,h=>by simp only[S]at h⊢;exact Rl hN h|aG Z,h=>by simp[S]|aG<|U a,h=>by simp only[S,Dw]at h⊢;exact H.eD h hN|aE Z _ _,h=>by simp[S]|aE (U a) _ _,h=>by simp only[S,Dw]at h⊢;exact H.eD h hN|cq Z,h=>by simp[S]|cq<|U a,h=>by simp only[S,Dw]at h⊢;exact H.eD h hN|de r,h=>by simp only[S]at h⊢;exact h|bQ _,_=>by simp[S]|V _ _,_=>by simp[S]|.float _ _,h=>by simp[S]at h|.complex _ _ _,h=>by simp[S]at h|aD _,_=>by simp[S]|.nilFunc,_=>by simp[S]|nH,_=>by simp[S]theorem Rl(hN:N<=M):∀{v:Array az},qb I N v=Y->qb I M v=Y|⟨l⟩,h=>by simp only[qb]at h⊢;exact afB hN h
theorem afB(hN:N<=M):∀{v:List az},oP I N v=Y->oP I M v=Y|[],_=>by simp[oP]|v::l,h=>by simp only[oP,cV]at h⊢;exact⟨ff hN h.1,afB hN h.2⟩end
end
section
variable {I:H} {N:Nat} {ρ σ:Nat->Nat} (rX:∀b,b<N->ρ b=σ b)
include rX
theorem WR{a}(h:I.blk N a.block=Y):dH ρ a=dH σ a:=by simp only[H.blk,cV,fO]at h;grind[dH]
theorem atn{f}(h:uD I N f=Y):Bf ρ f=Bf σ f:=by
 cases f<;>try rfl
 simp only[uD,H.blk,cV,fO]at h;grind[Bf]
mutual
theorem Df:∀{v:az},S I N v=Y->F ρ v=F σ v|dM fn first cap,h=>by simp only[S,cV]at h;simp only[F];rw[atn rX h.1.1,Q5 h.1.2,Q5 h.2]|iB t v,h=>by simp only[S]at h;simp only[F];rw[Df h]|bJ cs,h=>by simp only[S]at h;simp only[F];rw[Q5 h]|bO cs,h=>by simp only[S]at h;simp only[F];rw[Q5 h]|aG Z,h=>by simp[F]|aG<|U a,h=>by simp only[S,Dw]at h;simp only[F,eG];rw[WR rX h]|aE Z _ _,h=>by simp[F]|aE (U a) _ _,h=>by simp only[S,Dw]at h;simp only[F,eG];rw[WR rX h]|cq Z,h=>by simp[F]|cq<|U r,h=>by simp only[S,Dw,H.blk,cV,fO]at h;simp only[F,eG];rw[rX _ h.1]|de Z,h=>by simp[F]|de<|U r,h=>by simp[S]at h|bQ _,_=>by simp[F]|V _ _,_=>by simp[F]|.float _ _,_=>by simp[F]|.complex _ _ _,_=>by simp[F]|aD _,_=>by simp[F]|.nilFunc,_=>by simp[F]|nH,_=>by simp[F]theorem Q5:∀{v:Array az},qb I N v=Y->nX ρ v=nX σ v|⟨l⟩,h=>by simp only[qb]at h;simp only[nX];rw[aeK h]theorem aeK:∀{v:List az},oP I N v=Y->qa ρ v=qa σ v|[],_=>by simp[qa]|v::l,h=>by simp only[oP,cV]at h;simp only[qa];rw[Df h.1,aeK h.2]end
end
section
variable (ρ:Nat->Nat)
def kS(e:mL):mL:={key:=F ρ e.key,val:=F ρ e.val,born:=e.born}
def Dg(l:Loop):Loop:={l with tmps:=l.tmps.map<|F ρ,defers:=ρ l.defers}
def fb:Obj->Obj|aH c e f=>aH (c.map<|F ρ) e f|iZ es c=>iZ (es.map<|kS ρ) c|vi m s E st=>vi (m.map ρ) s E st|AF l=>AF<|Dg ρ l|.number a l=>.number (dH ρ a) l|o=>o
end
section
variable (I:H) (N:Nat)
def qK(e:mL):Bool:=S I N e.key&&S I N e.val
def oa(l:Loop):Bool:=l.tmps.all (S I N)&&I.gx l.assign&&I.gx l.body&&(l.pending.all λc=>I.gx c)&&I.T l.fn&&I.blk N l.defers
def eF:Obj->Bool|aH c _ _=>c.all<|S I N|iZ es _=>es.all<|qK I N|.stringIter _ _=>Y|vi m _ _ _=>m.all λm=>I.blk N m|AF l=>oa I N l|x6 ds=>ds.all λl=>l.isEmpty|.number a _=>I.blk N a.block|_=>ai
end
section
variable {I:H} {N M:Nat}
theorem afC(c:N<=M){o}(h:eF I N o=Y):eF I M o=Y:=by
 cases o<;>simp only[eF,kZ]at h⊢;case cells=>grind[ff]
 case map=>intro x b;have:=h x b;simp only[qK]at this⊢;grind[ff]
 case mapIter m _ _ _=>cases m with|none=>simp|some m=>grind[H.eD]
 case loop l=>simp only[oa,cV]at h⊢;grind[ff,H.eD]
 case number=>grind[H.eD]
 all_goals grind
theorem aeL{ρ σ}(c:∀b,b<N->ρ b=σ b){o}(h:eF I N o=Y):fb ρ o=fb σ o:=by
 cases o<;>simp only[eF,kZ]at h<;>simp only[fb];case cells=>grind[Array.map_congr_left,Df]
 case map=>rw[My λx d=>?_];have:=h x d;simp only[qK]at this;simp only[kS];grind[Df]
 case mapIter m _ _ _=>cases m with|none=>simp|some m=>simp only[H.blk,cV]at h;grind
 case loop l=>simp only[oa,cV,kZ,H.blk]at h;simp only[Dg];grind[Array.map_congr_left,Df]
 grind[WR]
end
def X6:Mark->Bool|.noRoom|.extern _=>Y|_=>ai
def soft:Halt->Bool|.unsupported<|.initOrder _=>ai|.unsupported _=>Y|.stuck _=>Y|.panic _=>Y|_=>ai
def jo(w w':ay):Prop:=w.heap.size<=w'.heap.size/\∀b,b<w.heap.size->w'.heap[b]?=w.heap[b]?
theorem jo.refl(w):jo w w:=⟨aS _,λ_ _=>rfl⟩
theorem jo.trans{u v w}(h:jo u v)(k:jo v w):jo u w:=⟨bC h.1 k.1,λb c=>(k.2 b<|cE c h.1).trans<|h.2 b c⟩
theorem jo.push(w)(o):jo w {w with heap:=w.heap.push o}:=⟨by simp,λb a=>by grind⟩
def y{α:Type}(p:bW)(s:cz α):Prop:=∀(w:ay)(es:Array jl),∃h w',(s.runT p w es).1=dR h w'/\soft h=Y/\jo w w'
inductive W{α β:Type}(ρ:Nat->Nat)(I:H)(p q:bW)(R:Nat->α->β->Prop):Nat->cz α->cz β->Prop|pure{N a b}(h:R N a b):W ρ I p q R N (.pure a)<|.pure b|load{N a k k'}(ha:I.blk N a.block=Y)(h:∀v,S I N v=Y->W ρ I p q R N (k v) (k'<|F ρ v)):W ρ I p q R N (.load lM a k)<|.load lM (dH ρ a) k'|I0{N a k k'}{A:Fc}(hA:I.arg=U A)(hg:a.block=A.g)(S5:A.lo<=a.off)(h:∀v,n v=Y->W ρ I p q R N (k v) (k' v)):W ρ I p q R N (.load lM a k)<|.load lM a k'|store{N a v k k'}(ha:I.blk N a.block=Y)(hv:S I N v=Y)(h:W ρ I p q R N k k'):W ρ I p q R N (.store lM a v k)<|.store lM (dH ρ a) (F ρ v) k'|new{N o k k'}(ho:eF I N o=Y)(h:W ρ I p q R (N+1) (k N)<|k'<|ρ N):W ρ I p q R N (.new o k)<|.new (fb ρ o) k'|shape{N r k k'}(hr:I.blk N r=Y)(h:∀s,W ρ I p q R N (k s)<|k' s):W ρ I p q R N (.shape r k)<|.shape (ρ r) k'|freeze{N a d k k'}(ha:I.blk N a.block=Y)(h:W ρ I p q R N k k'):W ρ I p q R N (.freeze a d k)<|.freeze (dH ρ a) d k'|frozen{N a k k'}(ha:I.blk N a.block=Y)(h:∀b,W ρ I p q R N (k b)<|k' b):W ρ I p q R N (.frozen a k)<|.frozen (dH ρ a) k'|getObj{N r k k'}(hr:I.blk N r=Y)(h:∀o,eF I N o=Y->W ρ I p q R N (k o) (k'<|fb ρ o)):W ρ I p q R N (.getObj r k)<|.getObj (ρ r) k'|setObj{N r o k k'}(hr:I.blk N r=Y)(ho:eF I N o=Y)(hc:∀c e f,o≠aH c e f)(h:W ρ I p q R N k k'):W ρ I p q R N (.setObj r o k)<|.setObj (ρ r) (fb ρ o) k'|choose{N x k k'}(h:∀d,W ρ I p q R N (k d)<|k' d):W ρ I p q R N (.choose x k)<|.choose x k'|program{N k k'}(h:W ρ I p q R N (k p)<|k' q):W ρ I p q R N (.program k)<|.program k'|mark{N m k k'}(hm:X6 m=Y)(h:W ρ I p q R N k k'):W ρ I p q R N (.mark m k)<|.mark m k'|dead{N s s'}(hd:y p s):W ρ I p q R N s s'
variable {ρ:Nat->Nat} {I:H} {p q:bW}
theorem y.halt{b}(h)(hs:soft h=Y:=by rfl):y p (.halt h:cz b):=λw c=>⟨h,w,by rw[fu],hs,jo.refl w⟩
theorem y.program{c}{k:bW->cz c}(h:y p<|k p):y p<|.program k:=λw b=>h w b
theorem ael{t g:Type}(s:cz t)(k:t→cz g):∀(w:ay)(es:Array jl),(s.bind k).runT p w es=match s.runT p w es with|(aY a f,e)=>(k a).runT p f e|(dR h f,e)=>(dR h f,e):=by induction s with
  |pure a=>intro w es;simp[wO,fu]|load m a k d=>intro w es;simp only[wO,fu];grind|store m a v k d=>intro w es;cases v<;>simp only[wO,fu];all_goals first
      |rfl
      | (split;.grind
         grind)
  |new o k d=>intro w es;simp only[wO,fu];grind|shape r k d=>intro w es;simp only[wO,fu];grind|freeze a n k d=>intro w es;simp only[wO,fu];grind|frozen a k d=>intro w es;simp only[wO,fu];grind|getObj r k d=>
    intro w es;simp only[wO];rw[Ag,Ag p<|.getObj r k];simp only;split;.rfl
    .grind
    grind|setObj r o k d=>
    intro w es;simp only[wO];rw[Ag,Ag p<|.setObj r o k];simp only;split;.rfl
    .exact d _ _
    grind|choose x k d=>
    intro w es;simp only[wO,fu];split;.exact d _ _ _
    .exact d _ _ _|sys c k d=>intro w es;simp only[wO,fu];exact d _ _ _|program k d=>intro w es;simp only[wO,fu];exact d _ _ _|mark m k d=>intro w es;simp only[wO,fu];exact d _ _|halt h=>intro w es;simp only[wO,fu]
theorem y.bind{d c}{s}(h:y p s)(k:d->cz c):y p<|s.bind k:=λw b=>by obtain⟨x,i,e,f,g⟩:=h w b;grind[ael]
class inductive Calm{α:Type}:cz α->Prop|pure(a:α):Calm<|.pure a|new{o:Obj}{k:Nat->cz α}(h:∀n,Calm<|k n):Calm<|.new o k|shape{r:Nat}{k:Option (ey×Nat)->cz α}(h:∀n,Calm<|k n):Calm<|.shape r k|frozen{a:eT}{k:Bool->cz α}(h:∀n,Calm<|k n):Calm<|.frozen a k|choose{x:Question}{k:Nat->cz α}(h:∀n,Calm<|k n):Calm<|.choose x k|sys{c:Sys}{k:SysRet->cz α}(h:∀n,Calm<|k n):Calm<|.sys c k|program{k:bW->cz α}(h:∀n,Calm<|k n):Calm<|.program k|mark{m:Mark}{k:cz α}(h:Calm k):Calm<|.mark m k|halt{h:Halt}(hs:soft h=Y):Calm<|.halt h
theorem Calm.bind{g f}{s}{k:g->cz f}(h:Calm s)(e:∀a,Calm<|k a):Calm<|s.bind k:=by induction h with|pure a=>exact e a|new _ c=>exact .new c|shape _ c=>exact .shape c|frozen _ c=>exact .frozen c|choose _ c=>exact .choose c|sys _ c=>exact .sys c|program _ c=>exact .program c|mark _ c=>exact .mark c|halt d=>exact .halt d
theorem aDF{e}(k:Ask e):∀w:ay,(w.ask k).2.heap=w.heap:=by induction k with|done a=>intro w;rfl|ask d c k f=>intro w;rw[World.ask];grind
theorem ap1(w)(c):jo w (w.sys c).2:=by
 have h:=aDF (Kernel.perform c w.os) w;unfold World.sys;split;.grind[jo.refl]
 .exact⟨by grind,λb _=>by grind⟩
theorem Calm.GI{g}{s:cz g}(h:Calm s):∀(w)(es),match(s.runT p w es).1 with|aY _ c=>jo w c|dR x c=>soft x=Y/\jo w c:=by
 have e:∀{w u}{r:Result g},jo w u->(match r with|aY _ c=>jo u c|dR x c=>soft x=Y/\jo u c)->match r with|aY _ c=>jo w c|dR x c=>soft x=Y/\jo w c:=by intro w u r f h;cases r with|ok a c=>exact f.trans h|halt x c=>exact⟨h.1,f.trans h.2⟩
 induction h with|pure a=>intro w es;rw[fu];grind[jo.refl]|new _ d=>intro w es;rw[fu];grind[jo.push]|shape _ d=>intro w es;rw[fu];grind|frozen _ d=>intro w es;rw[fu];grind|choose _ d=>
  rename_i x k _;intro w es;rw[fu];by_cases i:x.forced=Y;.grind
  .rw[if_neg i];exact d _ {w with drawn:=w.drawn+1} _|sys _ d=>intro w es;rw[fu];grind[ap1]|program _ d=>intro w es;rw[fu];grind|mark _ d=>intro w es;rw[fu];grind|halt j=>intro w es;rw[fu];grind[jo.refl]
theorem G8:Calm program:=.program λ_=>.pure _
theorem aDi(x):Calm<|choose x:=.choose λ_=>.pure _
theorem aDg(m):Calm<|mark m:=.mark<|.pure _
theorem ak7(t):Calm<|typeInfo t:=by
 refine .bind G8 λp=>?_;split;.exact .pure _
 .exact .halt rfl
theorem ak5(t):Calm<|pq t:=by
 refine .bind G8 λp=>?_;split;.exact .pure _
 .exact .halt rfl
theorem ak6(t):Calm<|typeStr t:=by
 refine .bind (ak7 t) λi=>?_;dsimp only;split;.exact .halt rfl
 .exact .pure _
theorem aDh(t):Calm<|elemOf t:=by
 refine .bind (ak5 t) λd=>?_;split;.exact .pure _
 .exact .halt rfl
theorem aDe(t)(cs):Calm<|newRow t cs:=.new λ_=>.pure _
theorem aDd(t)(v):Calm<|newVar t v:=aDe t v.cells
theorem aDa(b)(s):Calm (if b=Y then Functor.map (.==1) (choose (.extern "runtime.boundsError.signed" 2))else bI s):=by
 split;.exact .choose λ_=>.pure _
 .exact .pure _
theorem ak8(a)(n):Calm<|aCF a n:=by refine .shape λs=>?_;cases s<;>exact .pure _
theorem aDf(a n c)(o)(x):Calm<|Builtin.mayShare a n c o x:=by
 have e:∀t,Calm (do
   if !t then return Y
   match x with|aE (U b) _ _=>do bI (!(<-aCF b<|c*a)||o.any (·.block==b.block))|_=>bI ai):=λt=>by cases t with|false=>exact .pure _|true=>
   show Calm<|match x with|aE (U b) _ _=>_|_=>bI ai;split;·exact .bind (ak8 _ _) λ_=>.pure _
   ·exact .pure _
 cases o with|none=>exact e Y|some b=>exact Calm.bind (ak8 _ _) λh=>Calm.bind (s:=frozen _) (.frozen λ_=>.pure _) λf=>e _
theorem aDb:Calm Instr.panicnil:=by
 refine Calm.bind (s:=sys .env) (.sys λr=>.pure _) λr=>?_;cases r<;>first|exact .halt rfl|skip
 exact Calm.bind G8 λ_=>.pure _
attribute [instance] G8 aDi aDg ak7 ak5 ak6 aDh aDd aDa aDf aDb Calm.pure
instance{α:Type}(a:α):Calm<|bI a:=.pure a
instance{α β:Type}{f:α->β}{s:cz α}[h:Calm s]:Calm<|Functor.map f s:=.bind h λ_=>.pure _
instance{α:Type}{x:Question}{k:Nat->cz α}[h:∀n,Calm<|k n]:Calm<|.choose x k:=.choose h
theorem y.then{l i}(s){k:l->cz i}(h:∀a,y p<|k a)[j:Calm s]:y p<|s.bind k:=λw f=>by rw[ael];have o:=j.GI (p:=p) w f;cases m:s.runT p w f with|mk r c=>cases r with|ok a d=>obtain⟨x,t,e,n,g⟩:=h a d c;grind[jo.trans]|halt x d=>grind
theorem W.bind{C z t r}{R:Nat->C->z->Prop}{Q:Nat->t->r->Prop}{N}{s}{m}{k}{k'}(h:W ρ I p q R N s m)(e:∀M a b,N<=M->R M a b->W ρ I p q Q M (k a) (k' b)):W ρ I p q Q N (s.bind k)<|m.bind k':=by induction h with|pure h=>exact e _ _ _ (aS _) h|load f _ d=>exact .load f λv g=>d v g e|I0 A B l _ d=>exact .I0 A B l λv g=>d v g e|store f g _ d=>exact .store f g<|d e|new i _ d=>exact .new i<|d λM a b y=>e M a b<|Su y|shape j _ d=>exact .shape j λs=>d s e|freeze f _ d=>exact .freeze f<|d e|frozen f _ d=>exact .frozen f λb=>d b e|getObj j _ d=>exact .getObj j λo i=>d o i e|setObj j i u _ d=>exact .setObj j i u<|d e|choose _ d=>exact .choose λn=>d n e|program _ d=>exact .program<|d e|mark x _ d=>exact .mark x<|d e|dead w=>exact .dead<|w.bind _
theorem W.bind'{j i g e}{R:Nat->j->i->Prop}{Q:Nat->g->e->Prop}{N}{s}{d}{k}{k'}(h:W ρ I p q R N s d)(f:∀M a b,N<=M->R M a b->W ρ I p q Q M (k a) (k' b)):W ρ I p q Q N (s>>=k)<|d>>=k':=h.bind f
theorem W.pure'{e d}{R:Nat->e->d->Prop}{N}{a}{b}(h:R N a b):W ρ I p q R N (bI a)<|bI b:=.pure h
theorem W.mono{z r}{R Q:Nat->z->r->Prop}{N}{s}{l}(h:W ρ I p q R N s l)(e:∀M a b,N<=M->R M a b->Q M a b):W ρ I p q Q N s l:=by induction h with|pure h=>exact .pure<|e _ _ _ (aS _) h|load f _ d=>exact .load f λv g=>d v g e|I0 t x k _ d=>exact .I0 t x k λv g=>d v g e|store f g _ d=>exact .store f g<|d e|new i _ d=>exact .new i<|d λM a b m=>e M a b<|Su m|shape j _ d=>exact .shape j λs=>d s e|freeze f _ d=>exact .freeze f<|d e|frozen f _ d=>exact .frozen f λb=>d b e|getObj j _ d=>exact .getObj j λo i=>d o i e|setObj j i u _ d=>exact .setObj j i u<|d e|choose _ d=>exact .choose λn=>d n e|program _ d=>exact .program<|d e|mark y _ d=>exact .mark y<|d e|dead w=>exact .dead w
structure dV(ρ:Nat->Nat)(I:H)(L:Option Nat)(w v:ay):Prop where
 os:v.os=w.os
 tape:∀i,(∀D,L=U D->w.drawn+i<D)->v.tape (v.drawn+i)=w.tape (w.drawn+i)inj:∀a b,ρ a=ρ b->a=b
 blk:∀b o,w.heap[b]?=U o->I.F b=Y->eF I w.heap.size o=Y/\v.heap[ρ b]?=U (fb ρ o)kx:∀b,w.heap.size<=b->I.F b=Y
 arg:∀A,I.arg=U A->I.F A.g=ai/\ρ A.g=A.g/\w.heap[A.g]?=U (aH A.c A.e A.f)/\v.heap[A.g]?=U (aH A.c' A.e' A.f')
structure fy(ρ:Nat->Nat)(I:H)(w v w' v':ay):Prop where
 tape:v'.tape=v.tape
 os:v'.os=v.os
 oM:w.heap.size<=w'.heap.size
 size:v'.heap.size=v.heap.size+(w'.heap.size-w.heap.size)out:v'.output=v.output
 sC:∀c,c<v.heap.size->(∀b,b<w.heap.size->I.F b=Y->ρ b≠c)->v'.heap[c]?=v.heap[c]?
 Ey:w.drawn<=w'.drawn
 drawn:v'.drawn=v.drawn+(w'.drawn-w.drawn)ac1:w'.tape=w.tape
 IS:w'.output=w.output
 Of:∀b,b<w.heap.size->I.F b=ai->w'.heap[b]?=w.heap[b]?
variable {ρ:Nat->Nat} {I:H} {L:Option Nat} {p q:bW}
theorem fy.refl(w v):fy ρ I w v w v:=⟨rfl,rfl,aS _,by omega,rfl,λ_ _ _=>rfl,aS _,by omega,rfl,rfl,λ_ _ _=>rfl⟩
theorem fy.trans{w v w1 g j l}(h:fy ρ I w v w1 g)(k:fy ρ I w1 g j l)(d:∀i,ρ (w.heap.size+i)=v.heap.size+i):fy ρ I w v j l:=⟨k.tape.trans h.tape,k.os.trans h.os,bC h.oM k.oM,by have:=h.size;have:=k.size;have:=h.oM;have:=k.oM;omega,k.out.trans h.out,λc n o=>(k.sC c (by have:=h.size;omega) λb e s=>by
   rcases Nat.lt_or_ge b w.heap.size with m|r;.grind
   .have:=d<|b-w.heap.size;grind).trans<|h.sC c n o,bC h.Ey k.Ey,by have:=h.drawn;have:=k.drawn;have:=h.Ey;have:=k.Ey;omega,k.ac1.trans h.ac1,k.IS.trans h.IS,λb e f=>(k.Of b (cE e h.oM) f).trans<|h.Of b e f⟩
def yf(ρ:Nat->Nat)(I:H)(n:Nat)(e:jl):Prop:=(∃b,b<n/\I.F b=Y/\((∃a:eT,a.block=b/\e.loc=.cell (dH ρ a))\/e.loc=.obj (ρ b))/\e.sync=ai)\/(∃m,X6 m=Y/\e=⟨iq m,ai,Y⟩)\/∃A a,I.arg=U A/\a.block=A.g/\e=⟨.cell a,ai,ai⟩
theorem yf.more{n n'}{e}(h:yf ρ I n e)(c:n<=n'):yf ρ I n' e:=by
 rcases h with⟨b,a,h⟩|h;.exact ax ⟨b,by omega,h⟩
 .exact aA h
theorem H.ja{N b}:I.blk N b=Y↔b<N/\I.F b=Y:=by simp[H.blk]
theorem dV.cell{w v}(g:dV ρ I L w v){a}{x}(j:I.blk w.heap.size a.block=Y)(h:w.cell? a=U x):S I w.heap.size x=Y/\v.cell? (dH ρ a)=U (F ρ x):=by
 unfold pg at h;split at h
 .rename_i c e f k;obtain⟨d,i⟩:=g.blk _ _ k (H.ja.1 j).2;split at h;.grind
  .refine⟨?_,?_⟩;.simp only[eF]at d;grind
   .show(match v.heap[ρ a.block]? with|some<|aH c _ _=>if a.spot.isSome=Y then Z else c[a.off]?|_=>Z)=_;rw[i];simp only[fb,if_false];grind
 grind
theorem dV.au4{w v}(f:dV ρ I L w v){a}(g:I.blk w.heap.size a.block=Y)(q)(d):∀r,w.farLoad q a d≠.ok r:=by
 intro r e;unfold aa2 at e;split at e;.rename_i b u h;have:=(f.blk _ _ h (H.ja.1 g).2).1;simp[eF]at this
 grind
theorem dV.au3{w v}(f:dV ρ I L w v){a}(g:I.blk w.heap.size a.block=Y)(q)(x)(d):∀r,w.farStore q a x d≠.ok r:=by
 intro r e;unfold World.farStore at e;split at e;.rename_i b u h;have:=(f.blk _ _ h (H.ja.1 g).2).1;simp[eF]at this
 grind
theorem dV.adq{w v}(d:dV ρ I L w v){a}(e:I.blk w.heap.size a.block=Y)(c):soft (w.noCell a c)=Y:=by
 unfold World.noCell;split;.rename_i f;have:=(d.blk _ _ f (H.ja.1 e).2).1;simp[eF]at this
 .rfl
 .rfl
theorem dV.aqC{w v}(c:dV ρ I L w v){a}(d:I.blk w.heap.size a.block=Y)(q)(b){e}(h:w.farLoad q a b=.error e):soft e=Y:=by
 unfold aa2 at h;split at h
 .split at h;.grind
  .cases h;rfl
 .cases h;exact c.adq d _
theorem dV.aqB{w v}(c:dV ρ I L w v){a}(d:I.blk w.heap.size a.block=Y)(q)(x)(b){e}(h:w.farStore q a x b=.error e):soft e=Y:=by
 unfold World.farStore at h;split at h
 .split at h;.grind
  .cases h;rfl
 .cases h;exact c.adq d _
theorem size_setCell(w:ay)(a)(x):(w.setCell a x).heap.size=w.heap.size:=by simp[jk]
theorem VX(w:ay)(a)(n):(w.freeze a n).heap.size=w.heap.size:=by unfold akx;grind
theorem dV.modify{w v}(c:dV ρ I L w v)(r)(s:I.F r=Y)(f g)(t:∀o,eF I w.heap.size o=Y->eF I w.heap.size (f o)=Y∧g (fb ρ o)=fb ρ (f o)):dV ρ I L {w with heap:=w.heap.modify r f} {v with heap:=v.heap.modify (ρ r) g}:=by
 refine⟨c.os,c.tape,c.inj,λb o h i=>?_,λb h=>c.kx b<|by grind,λA k=>?_⟩;rotate_left;·obtain⟨x,l,y,z⟩:=c.arg A k;have B:ρ r≠A.g:=λe=>λe=>by grind (c.inj _ _<|e.trans l.symm);grind
 simp only[Ae,Array.size_modify]at h⊢;by_cases d:r=b;·subst d;simp only[if_true]at h⊢;obtain⟨m,j,rfl⟩:=yM.1 h;obtain⟨n,u⟩:=c.blk _ _ j i;grind
 ·rw[if_neg d]at h;rw[if_neg λe=>d<|c.inj _ _ e];exact c.blk _ _ h i
theorem fy.modify(w v)(r)(f g)(d:I.blk w.heap.size r=Y):fy ρ I w v {w with heap:=w.heap.modify r f} {v with heap:=v.heap.modify (ρ r) g}:=⟨rfl,rfl,by simp,by simp,rfl,λc h e=>by simp only[Ae];rw[if_neg<|e r (H.ja.1 d).1 (H.ja.1 d).2],aS _,by simp,rfl,rfl,λb j i=>by grind[H.ja]⟩
theorem dV.push{w v}(c:dV ρ I L w v)(o)(i:eF I w.heap.size o=Y)(g:ρ w.heap.size=v.heap.size):dV ρ I L {w with heap:=w.heap.push o} {v with heap:=v.heap.push<|fb ρ o}:=by
 refine⟨c.os,c.tape,c.inj,λb m d f=>?_,λb d=>c.kx b<|by grind,λA j=>?_⟩;rotate_left;·obtain⟨n,k,r,s⟩:=c.arg A j;grind
 simp only[Array.getElem?_push,ag7]at d⊢;by_cases e:b=w.heap.size;·subst e;rw[if_pos rfl]at d;cases d;exact⟨afC (Jp _) i,by grind⟩
 ·rw[if_neg e]at d;obtain⟨h,l⟩:=c.blk _ _ d f;refine⟨afC (Jp _) h,?_⟩;grind
theorem fy.push(w v)(o):fy ρ I w v {w with heap:=w.heap.push o} {v with heap:=v.heap.push<|fb ρ o}:=⟨rfl,rfl,by simp,by simp,rfl,λc d _=>by grind,aS _,by simp,rfl,rfl,λb e _=>by grind⟩
structure Whole(I:H)(w:ay):Prop where
 blk:∀b o,w.heap[b]?=U o->I.F b=Y->eF I w.heap.size o=Y
 kx:∀b,w.heap.size<=b->I.F b=Y
theorem dV.whole{w v}(h:dV ρ I L w v):Whole I w:=⟨λb o d c=>(h.blk b o d c).1,h.kx⟩
def Alike{α β:Type}(ρ:Nat->Nat)(I:H)(L:Option Nat)(R:Nat->α->β->Prop)(w v:ay)(es':Array jl)(r:Result α)(r':Result β×Array jl):Prop:=match r with|aY a w'=>w.drawn<=w'.drawn/\((∀D,L=U D->w'.drawn<=D)->∃b v' E,r'=(aY b v',es'++E)/\R w'.heap.size a b/\dV ρ I L w' v'/\fy ρ I w v w' v'/\∀e∈E,yf ρ I w'.heap.size e)|dR h w'=>soft h=Y/\∃w0,w.heap.size<=w0.heap.size/\Whole I w0/\jo w0 w'
theorem Alike.step{E o}{R:Nat->E->o->Prop}{w v w1 l}{es' e0}{r}{k}(h:Alike ρ I L R w1 l (es'++e0) r k)(g:fy ρ I w v w1 l)(f:∀i,ρ (w.heap.size+i)=v.heap.size+i)(x:∀e∈e0,yf ρ I w1.heap.size e):Alike ρ I L R w v es' r k:=by match r,h with
 |aY a G,⟨A,h⟩=>
  refine⟨bC g.Ey A,λB=>?_⟩;obtain⟨b,s,n,F,C,t,j,H⟩:=h B;refine⟨b,s,e0++n,by grind,C,t,g.trans j f,λe d=>?_⟩;rcases BB.1 d with d|d;.exact(x e d).more j.oM
  grind|dR _ _,⟨y,D,u,m,z⟩=>exact⟨y,D,bC g.oM u,m,z⟩
theorem Alike.halt{e d}{R:Nat->e->d->Prop}{w v}{es'}{h}{c}(b:Whole I w)(hs:soft h=Y:=by rfl):Alike ρ I L R w v es' (dR h w) c:=⟨hs,w,aS _,b,jo.refl w⟩
theorem Alike.now{g f}{R:Nat->g->f->Prop}{w v w1 d}{es'}{r}{c}(h:Alike ρ I L R w1 d es' r c)(e:fy ρ I w v w1 d)(b:∀i,ρ (w.heap.size+i)=v.heap.size+i):Alike ρ I L R w v es' r c:=by have:=Alike.step (e0:=#[]) (es':=es') (by simpa using h) e b (by simp);grind
theorem auE{N}(a:eT)(x)(f:S I N x=Y)(o)(e:eF I N o=Y):eF I N ((λ|aH c d frozen=>aH (if a.spot.isSome then c else c.setIfInBounds a.off x) d frozen|o=>o) o)=Y:=by simp only[eF]at e⊢;grind
theorem auF{N}(a:eT)(n)(o)(g:eF I N o=Y):eF I N ((λ|aH c d (e,f)=>aH c d<|if e==f then(a.off,a.off+n)else(min e a.off,max f<|a.off+n)|o=>o) o)=Y:=by cases o<;>exact g
theorem QJ(h:Array Obj)(r)(o):h.setIfInBounds r o=h.modify r λ_=>o:=by grind
theorem aei{e}(m)(a)(x)(k:cz e)(w)(es)(f:∀c,x≠bJ c)(g:∀c,x≠bO c):fu p (.store m a x k) w es=match w.cell? a with|some _=>if w.frozen? a then(dR (.unsupported<|.unsafePointer "a write to bytes that a string shares") w,es)else k.runT p (w.setCell a x)<|es.push ⟨.cell a,Y,m==qx⟩|none=>match w.farStore p a x (m==qx)with|.ok (w,d)=>k.runT p w (es++d.toArray.map (⟨.cell .,Y,m==qx⟩))|.error h=>(dR h w,es):=by cases x<;>first|rfl|grind
theorem as1{e}(m)(a)(x)(k:cz e)(w)(es)(d:(∃c,x=bJ c)\/∃c,x=bO c):fu p (.store m a x k) w es=(dR (.stuck "store: not the value of one cell") w,es):=by rcases d with⟨c,rfl⟩|⟨c,rfl⟩<;>rfl
theorem aEh(x:az):((∃c,x=bJ c)\/∃c,x=bO c)\/(∀c,x≠bJ c)/\∀c,x≠bO c:=by grind
theorem dV.setCell{w v}(h:dV ρ I L w v)(a)(d:I.F a.block=Y)(x)(c:S I w.heap.size x=Y):dV ρ I L (w.setCell a x)<|v.setCell (dH ρ a)<|F ρ x:=by
 refine h.modify a.block d _ _ λo e=>⟨auE a x c o e,?_⟩;cases o<;>try rfl
 simp only[fb,dH];congr 1;grind
theorem dV.frozen{w v}(h:dV ρ I L w v){a}(e:I.blk w.heap.size a.block=Y):v.frozen? (dH ρ a)=w.frozen? a:=by obtain⟨c,i⟩:=H.ja.1 e;obtain⟨j,f⟩:=h.blk a.block _ (iy c) i;unfold x8;show(match v.heap[ρ a.block]? with|some<|aH _ _ (d,g)=>d<=a.off&&a.off<g|_=>ai)=_;rw[f,iy c];cases w.heap[a.block]<;>rfl
theorem dV.freeze{w v}(h:dV ρ I L w v)(a)(c:I.F a.block=Y)(n):dV ρ I L (w.freeze a n)<|v.freeze (dH ρ a) n:=by
 unfold akx;split;.grind
 .refine h.modify a.block c _ _ λo d=>⟨auF a n o d,?_⟩;cases o<;>rfl
theorem fy.freeze(w v)(a)(n)(c:I.blk w.heap.size a.block=Y):fy ρ I w v (w.freeze a n)<|v.freeze (dH ρ a) n:=by
 unfold akx;split;.grind[fy.refl]
 .exact fy.modify w v a.block _ _ c
theorem dV.shape{w v}(h:dV ρ I L w v){r}(c:I.blk w.heap.size r=Y):v.shape? (ρ r)=w.shape? r:=by obtain⟨b,e⟩:=H.ja.1 c;obtain⟨f,d⟩:=h.blk r _ (iy b) e;unfold World.shape?;rw[d,iy b];cases w.heap[r]<;>simp[fb]
theorem dV.draw{w v}(h:dV ρ I L w v):dV ρ I L {w with drawn:=w.drawn+1} {v with drawn:=v.drawn+1}:=⟨h.os,λi b=>by have:=h.tape (i+1) (λD c=>by grind);grind,h.inj,h.blk,h.kx,h.arg⟩
theorem fy.draw(w v):fy ρ I w v {w with drawn:=w.drawn+1} {v with drawn:=v.drawn+1}:=⟨rfl,rfl,aS _,by simp,rfl,λ_ _ _=>rfl,Jp _,by simp,rfl,rfl,λ_ _ _=>rfl⟩
theorem afz{N}{o}(h:eF I N o=Y):o.isChan=ai/\(fb ρ o).isChan=ai:=by cases o<;>simp_all[eF,Obj.isChan,fb]
theorem aek{b}(r)(k:Obj->cz b)(w)(es){o}(g:w.heap[r]?=U o)(d:∀c e f,o≠aH c e f):fu p (.getObj r k) w es=(k o).runT p w (es.push ⟨.obj r,ai,o.isChan⟩):=by rw[Ag];grind
theorem aej{d}(r)(o)(k:cz d)(w)(es){b}(h:w.heap[r]?=U b)(g:∀c e f,b≠aH c e f):fu p (.setObj r o k) w es=k.runT p {w with heap:=w.heap.setIfInBounds r o} (es.push ⟨.obj r,Y,o.isChan⟩):=by rw[Ag];grind
theorem W.alG{t β:Type}{R:Nat->t->β->Prop}{N:Nat}{s:cz t}{X:cz β}(O:L=Z∨∀(N:Nat)(s:cz t)(X:cz β),W ρ I p q R N s X->∀(w v:ay)(es:Array jl),w.heap.size=N->dV ρ I Z w v->(∀i,ρ (w.heap.size+i)=v.heap.size+i)->∀a K,(s.runT p w es).1=aY a K->w.drawn<=K.drawn)(h:W ρ I p q R N s X):∀(w v:ay)(es es':Array jl),w.heap.size=N->dV ρ I L w v->(∀i,ρ (w.heap.size+i)=v.heap.size+i)->Alike ρ I L R w v es' (s.runT p w es).1 (X.runT q v es'):=by induction h with
 |pure h=>intro w v es es' j g d;subst j;exact⟨aS _,λ_=>⟨_,v,#[],by simp[fu],h,g,fy.refl _ _,by simp⟩⟩|load z _ l=>intro w v es es' j g d;subst j;rename_i a k QW _;rw[fu];cases QX:w.cell? a with|some x=>obtain⟨S,M⟩:=g.cell z QX;rw[fu,M];refine Alike.step (e0:=#[⟨.cell<|dH ρ a,ai,lM==qx⟩]) (by simpa using l x S w v (es.push ⟨.cell a,ai,lM==qx⟩) (es'.push ⟨.cell<|dH ρ a,ai,lM==qx⟩) rfl g d) (fy.refl _ _) d ?_;intro e B;simp only[fP,dj,dP,dY]at B;subst B;exact ax ⟨a.block,(H.ja.1 z).1,(H.ja.1 z).2,ax ⟨a,rfl,rfl⟩,rfl⟩|none=>cases P:w.farLoad p a (lM==qx)with|ok r=>exact absurd P<|g.au4 z p _ r|error e=>exact Alike.halt g.whole<|g.aqC z p _ P
 |I0 hA hg S5 _ l=>intro w v es es' j g d;subst j;rename_i a k QW A _;obtain⟨a1,a2,a3,a4⟩:=g.arg A hA;rw[fu];cases QX:w.cell? a with|some x=>
   have Q:A.c[a.off]?=U x∧v.cell? a=A.c'[a.off]?:=by unfold pg at QX⊢;grind
   obtain⟨hp,NA⟩:=A.rel a.off x S5 Q.1;rw[fu,Q.2.trans NA];refine Alike.step (e0:=#[⟨.cell a,ai,lM==qx⟩]) (by simpa using l x hp w v (es.push ⟨.cell a,ai,lM==qx⟩) (es'.push ⟨.cell a,ai,lM==qx⟩) rfl g d) (fy.refl _ _) d ?_;intro e B;simp only[fP,dj,dP,dY]at B;subst B;exact aA<|aA ⟨A,a,hA,hg,rfl⟩|none=>
   have P:w.farLoad p a (lM==qx)=.error (.stuck "load: no such cell"):=by unfold aa2 World.noCell;grind
   simp only[P];exact Alike.halt g.whole
 |store z hv _ l=>
  intro w v es es' j g d;subst j;rename_i a x k QW _;rcases aEh x with Q|⟨Q,hy⟩;·rw[as1 lM a x k w es Q];exact Alike.halt g.whole
  ·have Y9:∀c,F ρ x≠bJ c:=λc e=>by cases x<;>simp_all[F]
   have Ai:∀c,F ρ x≠bO c:=λc e=>by cases x<;>simp_all[F]
   rw[aei lM a x k w es Q hy];rw[aei lM (dH ρ a) (F ρ x) QW v es' Y9 Ai];cases QX:w.cell? a with
   |some u=>obtain⟨S,M⟩:=g.cell z QX;rw[M];simp only;rw[g.frozen z];cases hz:w.frozen? a with|true=>simp only[if_true];exact Alike.halt g.whole|false=>simp only[Bool.false_eq_true,if_false];have hT:fy ρ I w v (w.setCell a x)<|v.setCell (dH ρ a)<|F ρ x:=fy.modify w v a.block _ _ z;have:=l (w.setCell a x) (v.setCell (dH ρ a)<|F ρ x) (es.push ⟨.cell a,Y,lM==qx⟩) (es'.push ⟨.cell<|dH ρ a,Y,lM==qx⟩) (size_setCell _ _ _) (g.setCell a (H.ja.1 z).2 x hv) (by grind[size_setCell]);refine Alike.step (e0:=#[⟨.cell<|dH ρ a,Y,lM==qx⟩]) (by simpa using this) hT d ?_;intro e B;simp only[fP,dj,dP,dY]at B;subst B;exact ax ⟨a.block,by rw[size_setCell];exact(H.ja.1 z).1,(H.ja.1 z).2,ax ⟨a,rfl,rfl⟩,rfl⟩
   |none=>cases P:w.farStore p a x (lM==qx)with|ok r=>exact absurd P<|g.au3 z p x _ r|error e=>exact Alike.halt g.whole<|g.aqB z p x _ P
 |new Q3 hk l=>
  intro w v es es' j g d;subst j;rename_i o k QW;rw[fu,fu];have h0:ρ w.heap.size=v.heap.size:=by simpa using d 0
  have:=l {w with heap:=w.heap.push o} {v with heap:=v.heap.push<|fb ρ o} es es' (by simp) (g.push o Q3 h0) (λi=>by simp only[ag7];have:=d<|i+1;rw[show w.heap.size+1+i=w.heap.size+(i+1)by omega,this];omega);rw[h0]at this;exact Alike.now this (fy.push w v o) d|shape C _ l=>intro w v es es' j g d;subst j;rw[fu,fu,g.shape C];exact l _ w v es es' rfl g d|freeze z _ l=>intro w v es es' j g d;subst j;rename_i a n k QW _;rw[fu,fu];have:=l (w.freeze a n) (v.freeze (dH ρ a) n) es es' (VX _ _ _) (g.freeze a (H.ja.1 z).2 n) (by rw[VX,VX];exact d);exact Alike.now this (fy.freeze w v a n z) d|frozen z _ l=>intro w v es es' j g d;subst j;rw[fu,fu,g.frozen z];exact l _ w v es es' rfl g d|getObj C _ l=>
  intro w v es es' j g d;subst j;rename_i r k QW _;by_cases E:∃o,w.heap[r]?=U o∧∀c e f,o≠aH c e f;·obtain⟨o,J,E⟩:=E;obtain⟨S,M⟩:=g.blk _ _ J (H.ja.1 C).2;obtain⟨c1,c2⟩:=afz (ρ:=ρ) S;rw[aek r k w es J E];rw[aek (ρ r) QW v es' M λc e f=>by cases o<;>first|exact absurd rfl<|E _ _ _|simp[fb]];have:=l o S w v (es.push ⟨.obj r,ai,o.isChan⟩) (es'.push ⟨.obj<|ρ r,ai,(fb ρ o).isChan⟩) rfl g d;refine Alike.step (e0:=#[⟨.obj<|ρ r,ai,(fb ρ o).isChan⟩]) (by simpa using this) (fy.refl _ _) d ?_;intro e B;simp only[fP,dj,dP,dY]at B;subst B;exact ax ⟨r,(H.ja.1 C).1,(H.ja.1 C).2,aA rfl,c2⟩
  ·have:∃G,fu p (.getObj r k) w es=(dR (.stuck G) w,es):=by
    rw[Ag];simp only;split;·exact⟨_,rfl⟩
    ·rename_i o QX J;exact absurd ⟨o,J,λc e f=>QX c e f⟩ E
    ·exact⟨_,rfl⟩
   obtain⟨G,Q1⟩:=this;rw[Q1];exact Alike.halt g.whole|setObj C Q3 QX _ l=>
  intro w v es es' j g d;subst j;rename_i r o k QW _;obtain⟨c1,c2⟩:=afz (ρ:=ρ) Q3;by_cases E:∃o,w.heap[r]?=U o∧∀c e f,o≠aH c e f
  ·obtain⟨o0,J,E⟩:=E;obtain⟨S,M⟩:=g.blk _ _ J (H.ja.1 C).2;rw[aej r o k w es J E];rw[aej (ρ r) (fb ρ o) QW v es' M λc e f=>by cases o0<;>first|exact absurd rfl<|E _ _ _|simp[fb]];have Au:dV ρ I L {w with heap:=w.heap.setIfInBounds r o} {v with heap:=v.heap.setIfInBounds (ρ r)<|fb ρ o}:=by rw[QJ,QJ];exact g.modify r (H.ja.1 C).2 _ _ λ_ _=>⟨Q3,rfl⟩
   have hT:fy ρ I w v {w with heap:=w.heap.setIfInBounds r o} {v with heap:=v.heap.setIfInBounds (ρ r)<|fb ρ o}:=by rw[QJ,QJ];exact fy.modify w v r _ _ C
   have:=l {w with heap:=w.heap.setIfInBounds r o} {v with heap:=v.heap.setIfInBounds (ρ r)<|fb ρ o} (es.push ⟨.obj r,Y,o.isChan⟩) (es'.push ⟨.obj<|ρ r,Y,(fb ρ o).isChan⟩) (by simp) Au (by simp only[uH];exact d);refine Alike.step (e0:=#[⟨.obj<|ρ r,Y,(fb ρ o).isChan⟩]) (by simpa using this) hT d ?_;intro e B;simp only[fP,dj,dP,dY]at B;subst B;exact ax ⟨r,by simp only[uH];exact(H.ja.1 C).1,(H.ja.1 C).2,aA rfl,c2⟩
  ·have:∃G,fu p (.setObj r o k) w es=(dR (.stuck G) w,es):=by
    rw[Ag];simp only;split;·exact⟨_,rfl⟩
    ·rename_i o' QX J;exact absurd ⟨o',J,λc e f=>QX c e f⟩ E
    ·exact⟨_,rfl⟩
   obtain⟨G,Q1⟩:=this;rw[Q1];exact Alike.halt g.whole|choose hk l=>
  intro w v es es' j g d;subst j;rename_i x k QW;rw[fu,fu];split;·exact l 0 w v es es' rfl g d
  ·by_cases hl:∀D,L=U D->w.drawn<D
   ·have e0:v.tape v.drawn=w.tape w.drawn:=by simpa using g.tape 0<|by simpa using hl
    rw[e0];exact Alike.now (l (x.cut<|w.tape w.drawn x) {w with drawn:=w.drawn+1} {v with drawn:=v.drawn+1} es es' rfl g.draw d) (fy.draw w v) d
   ·have hex:∃D,L=U D∧D<=w.drawn:=by refine Classical.byContradiction λE=>hl λD b=>?_;refine Nat.lt_of_not_le λT=>E ⟨D,b,T⟩
    obtain⟨D,b,T⟩:=hex;rcases O with Q2|Q2;·rw[Q2]at b;cases b
    ·have Q0:dV ρ I Z {w with drawn:=w.drawn+1} {v with tape:=w.tape,drawn:=w.drawn+1}:=⟨g.os,λi _=>rfl,g.inj,g.blk,g.kx,g.arg⟩;cases C:(fu p (k<|x.cut<|w.tape w.drawn x) {w with drawn:=w.drawn+1} es).1 with|halt y K=>have:=l (x.cut<|w.tape w.drawn x) {w with drawn:=w.drawn+1} {v with drawn:=v.drawn+1} es es' rfl g.draw d;rw[C]at this;exact this|ok a K=>have:w.drawn+1<=K.drawn:=Q2 _ _ _ (hk<|x.cut<|w.tape w.drawn x) {w with drawn:=w.drawn+1} {v with tape:=w.tape,drawn:=w.drawn+1} es rfl Q0 d a K C;exact⟨by omega,λhLD=>absurd (hLD D b)<|by omega⟩
 |program _ l=>intro w v es es' j g d;rw[fu,fu];exact l w v es es' j g d|mark Q2 _ l=>intro w v es es' j g d;subst j;rename_i m k QW _;rw[fu,fu];have:=l w v (es.push ⟨iq m,ai,Y⟩) (es'.push ⟨iq m,ai,Y⟩) rfl g d;refine Alike.step (e0:=#[⟨iq m,ai,Y⟩]) (by simpa using this) (fy.refl _ _) d ?_;intro e B;simp only[fP,dj,dP,dY]at B;exact aA<|ax ⟨m,Q2,B⟩|dead hd=>intro w v es es' j g d;obtain⟨x,K,e,hs,hg⟩:=hd w es;rw[e];exact⟨hs,w,aS _,g.whole,hg⟩
theorem W.alike{k g}{R:Nat->k->g->Prop}{N}{s}{d}(h:W ρ I p q R N s d):∀(w v)(es es'),w.heap.size=N->dV ρ I L w v->(∀i,ρ (w.heap.size+i)=v.heap.size+i)->Alike ρ I L R w v es' (s.runT p w es).1 (d.runT q v es'):=W.alG (aA λN s d h w v es j f c a l e=>by have:=W.alG (L:=Z) (ax rfl) h w v es #[] j f c;rw[e]at this;exact this.1) h
def J(q:bW)(fs:Array ep):bW:={q with funcs:=fs}
section
variable {I:H} {N:Nat} {ρ:Nat->Nat}
mutual
theorem tj:∀{v:az},n v=Y->S I N v=Y/\F ρ v=v|dM _ _ _,h=>by simp[n]at h|iB t v,h=>by simp only[n]at h;obtain⟨h1,h2⟩:=tj h;exact⟨by simpa[S]using h1,by simp only[F,h2]⟩|bJ cs,h=>by simp only[n]at h;obtain⟨h1,h2⟩:=ae6 h;exact⟨by simpa[S]using h1,by simp only[F,h2]⟩|bO cs,h=>by simp only[n]at h;obtain⟨h1,h2⟩:=ae6 h;exact⟨by simpa[S]using h1,by simp only[F,h2]⟩|aG Z,_=>by simp[S,F]|aG<|U a,h=>by simp[n]at h|aE Z _ _,_=>by simp[S,F]|aE (U a) _ _,h=>by simp[n]at h|cq Z,_=>by simp[S,F]|cq<|U a,h=>by simp[n]at h|de Z,_=>by simp[S,F]|de<|U a,h=>by simp[n]at h|bQ _,_=>by simp[S,F]|V _ _,_=>by simp[S,F]|.float _ _,h=>by simp[n]at h|.complex _ _ _,h=>by simp[n]at h|aD _,_=>by simp[S,F]|.nilFunc,_=>by simp[S,F]|nH,_=>by simp[S,F]theorem ae6:∀{v:Array az},IP v=Y->qb I N v=Y/\nX ρ v=v|⟨l⟩,h=>by simp only[IP]at h;obtain⟨h1,h2⟩:=ae7 h;exact⟨by simpa[qb]using h1,by simp only[nX,h2]⟩theorem ae7:∀{v:List az},Di v=Y->oP I N v=Y/\qa ρ v=v|[],_=>by simp[oP,qa]|v::l,h=>by simp only[Di,cV]at h;obtain⟨h1,h2⟩:=tj h.1;obtain⟨h3,h4⟩:=ae7 h.2;exact⟨by simp[oP,h1,h3],by simp only[qa,h2,h4]⟩end
end
section
variable (ρ:Nat->Nat) (I:H)
def RV:Nat->az->az->Prop:=λN v v'=>S I N v=Y/\v'=F ρ v
def RA:Nat->eT->eT->Prop:=λN a a'=>I.blk N a.block=Y/\a'=dH ρ a
def bD:Nat->Array az->Array az->Prop:=λN vs vs'=>(∀v∈vs,S I N v=Y)/\vs'=vs.map (F ρ)
def RU:Nat->Unit->Unit->Prop:=λ_ _ _=>True
end
def RD{α:Type}:Nat->α->α->Prop:=λ_ a b=>a=b
variable {ρ:Nat->Nat} {I:H} {q:bW} {fs:Array ep} {N M:Nat}
theorem RV.mono{v v'}(h:RV ρ I N v v')(a:N<=M):RV ρ I M v v':=⟨ff a h.1,h.2⟩
theorem RA.mono{a a'}(h:RA ρ I N a a')(b:N<=M):RA ρ I M a a':=⟨H.eD h.1 b,h.2⟩
theorem bD.mono{v v'}(h:bD ρ I N v v')(c:N<=M):bD ρ I M v v':=⟨λx b=>ff c<|h.1 x b,h.2⟩
theorem bD.size{v v'}(h:bD ρ I N v v'):v'.size=v.size:=by rw[h.2,Array.size_map]
theorem bD.get{v v'}(h:bD ρ I N v v'){i:Nat}{x}(b:v[i]?=U x):S I N x=Y/\v'[i]?=U (F ρ x):=⟨h.1 x<|uG b,by rw[h.2,qM,b];rfl⟩
theorem bD.get_none{v v'}(h:bD ρ I N v v'){i:Nat}(a:v[i]?=Z):v'[i]?=Z:=by rw[h.2,qM,a];rfl
theorem RV.plain{v}(h:n v=Y):RV ρ I N v v:=⟨(tj (ρ:=ρ) h).1,(tj (I:=I) (N:=N) h).2.symm⟩
theorem RV.ptr{a a'}(h:RA ρ I N a a'):RV ρ I N (aG<|U a)<|aG<|U a':=⟨by simp[S,h.1],by simp[F,h.2]⟩
theorem RV.agg{vs vs'}(h:bD ρ I N vs vs'):RV ρ I N (bJ vs)<|bJ vs':=⟨by simp only[S,FG,kZ];exact h.1,by simp only[F,yo,h.2]⟩
theorem RV.tuple{vs vs'}(h:bD ρ I N vs vs'):RV ρ I N (bO vs)<|bO vs':=⟨by simp only[S,FG,kZ];exact h.1,by simp only[F,yo,h.2]⟩
theorem bD.Dn{vs}(h:S I N (bJ vs)=Y):bD ρ I N vs<|nX ρ vs:=⟨by simpa only[S,FG,kZ]using h,yo ρ vs⟩
theorem bD.auH{vs}(h:S I N (bO vs)=Y):bD ρ I N vs<|nX ρ vs:=⟨by simpa only[S,FG,kZ]using h,yo ρ vs⟩
theorem bD.nil:bD ρ I N #[] #[]:=⟨λv h=>by grind,by simp⟩
theorem bD.push{vs vs'}{v v'}(h:bD ρ I N vs vs')(c:RV ρ I N v v'):bD ρ I N (vs.push v)<|vs'.push v':=by
 refine⟨λx b=>?_,by rw[h.2,c.2,Array.map_push]⟩;rcases Array.mem_push.1 b with b|rfl;.exact h.1 x b
 .exact c.1
theorem bD.append{vs vs' e c}(h:bD ρ I N vs vs')(d:bD ρ I N e c):bD ρ I N (vs++e)<|vs'++c:=by
 refine⟨λx b=>?_,by rw[h.2,d.2,Array.map_append]⟩;rcases BB.1 b with b|b;.exact h.1 x b
 .exact d.1 x b
theorem bD.extract{vs vs'}(h:bD ρ I N vs vs')(i j):bD ρ I N (vs.extract i j)<|vs'.extract i j:=by refine⟨λx b=>?_,by rw[h.2,Array.map_extract]⟩;obtain⟨k,c,rfl⟩:=Array.mem_iff_getElem.1 b;rw[Array.getElem_extract];exact h.1 _<|Array.getElem_mem _
theorem bD.plain{vs}(h:∀v∈vs,n v=Y):bD ρ I N vs vs:=by refine⟨λv c=>(RV.plain (ρ:=ρ)<|h v c).1,?_⟩;refine Array.ext_getElem? λi=>?_;rw[qM];cases b:vs[i]? with|none=>rfl|some x=>simp only[eG];rw[<-(RV.plain (ρ:=ρ) (I:=I) (N:=N)<|h x<|uG b).2]
theorem bD.cells{v v'}(h:RV ρ I N v v'):bD ρ I N v.cells v'.cells:=by obtain⟨b,rfl⟩:=h;cases v<;>first|exact bD.Dn b|exact⟨λx a=>by simp only[Cf,fP]at a;grind,by simp[Cf,F]⟩
theorem RA.add{a a'}(h:RA ρ I N a a')(n):RA ρ I N (a.add n)<|a'.add n:=by
 obtain⟨c,rfl⟩:=h;unfold Addr.add;split;.exact⟨c,rfl⟩
 .exact⟨c,rfl⟩
structure sK(q:bW):Prop where
 zero:∀t i v,q.info? t=U i->i.zero=U v->n v=Y
 whole:∀t k,q.underlying t≠U (.float k)real:∀t k,q.underlying t≠U (.complex k)
variable {α β γ δ:Type}
theorem T{R:Nat->α->β->Prop}(b)(s):W ρ I (J q fs) q R N (stuck b) s:=.dead<|.halt _
theorem iw{R:Nat->α->β->Prop}(u)(s)(hs:soft (.unsupported u)=Y:=by rfl):W ρ I (J q fs) q R N (vh u) s:=.dead<|.halt _ hs
theorem mu:W ρ I (J q fs) q (λ_ a b=>a=J q fs/\b=q) N program program:=.program<|.pure ⟨rfl,rfl⟩
theorem rH(t):W ρ I (J q fs) q (λ_ a b=>a=b/\q.info? t=U a) N (typeInfo t)<|typeInfo t:=by refine W.bind' mu ?_;rintro M a b e⟨rfl,d⟩;rw[d];show W ρ I (J q fs) q _ M (match q.info? t with|some i=>bI i|none=>stuck "no such type") _;cases q.info? t with|some i=>exact .pure ⟨rfl,rfl⟩|none=>grind[T]
theorem gC(t):W ρ I (J q fs) q RD N (pq t)<|pq t:=by refine W.bind' mu ?_;rintro M a b e⟨rfl,d⟩;rw[d];show W ρ I (J q fs) q _ M (match q.underlying t with|some i=>bI i|none=>stuck "no such type") _;cases q.underlying t with|some i=>exact .pure rfl|none=>grind[T]
theorem C8(d:sK q)(t):W ρ I (J q fs) q (λN a b=>RV ρ I N a b/\n a=Y) N (lu t)<|lu t:=by
 refine W.bind' (rH t) ?_;rintro M a b g⟨rfl,f⟩;split;.rename_i v e;have:=d.zero t a v f e;exact .pure ⟨RV.plain this,this⟩
 .exact iw _ _
theorem mZ(t):W ρ I (J q fs) q RD N (sizeOf t)<|sizeOf t:=by refine W.bind' (rH t) ?_;rintro M a b d⟨rfl,e⟩;exact .pure rfl
theorem Wi(t):W ρ I (J q fs) q RD N (isAgg t)<|isAgg t:=by refine W.bind' (gC t) ?_;rintro M a b d rfl;split<;>exact .pure rfl
theorem adH{a a'}(h:RA ρ I N a a'):W ρ I (J q fs) q (RV ρ I) N (load a)<|load a':=by obtain⟨d,rfl⟩:=h;exact .load d λv c=>.pure ⟨c,rfl⟩
theorem aq1{a a'}{v v'}(h:RA ρ I N a a')(c:RV ρ I N v v'):W ρ I (J q fs) q RU N (EE a v)<|EE a' v':=by obtain⟨e,rfl⟩:=h;obtain⟨d,rfl⟩:=c;exact .store e d<|.pure trivial
theorem Ba{r}(h:I.blk N r=Y):W ρ I (J q fs) q RD N (shape r)<|shape<|ρ r:=.shape h λs=>.pure rfl
theorem adM{a a'}(h:RA ρ I N a a')(n):W ρ I (J q fs) q RU N (freeze a n)<|freeze a' n:=by obtain⟨c,rfl⟩:=h;exact .freeze c<|.pure trivial
theorem QE{a a'}(h:RA ρ I N a a'):W ρ I (J q fs) q RD N (frozen a)<|frozen a':=by obtain⟨d,rfl⟩:=h;exact .frozen d λb=>.pure rfl
theorem vI{r}(h:I.blk N r=Y):W ρ I (J q fs) q (λN o b=>eF I N o=Y/\b=fb ρ o) N (ry r)<|ry<|ρ r:=.getObj h λo c=>.pure ⟨c,rfl⟩
theorem LJ{r}{o}(h:I.blk N r=Y)(d:eF I N o=Y)(b:∀c e f,o≠aH c e f):W ρ I (J q fs) q RU N (setObj r o)<|setObj (ρ r)<|fb ρ o:=.setObj h d b<|.pure trivial
theorem Iv(c:I.F N=Y){o}(d:eF I N o=Y):W ρ I (J q fs) q (λM r b=>r=N/\M=N+1/\b=ρ N/\I.blk M r=Y) N (newObj o)<|newObj<|fb ρ o:=.new d<|.pure ⟨rfl,rfl,rfl,H.ja.2 ⟨by omega,c⟩⟩
theorem Fz(x):W ρ I (J q fs) q RD N (choose x)<|choose x:=.choose λn=>.pure rfl
theorem ars:W ρ I (J q fs) q RU N (mark .noRoom)<|mark .noRoom:=.mark rfl<|.pure trivial
theorem ad2(n):W ρ I (J q fs) q RU N (askRoom n)<|askRoom n:=by
 unfold askRoom;split;.exact ars
 .exact .pure trivial
theorem arz{a a'}(i n):∀{N}{d c},RA ρ I N a a'->bD ρ I N d c->W ρ I (J q fs) q (bD ρ I) N (loadCellsFrom a i n d) (loadCellsFrom a' i n c):=by induction n generalizing i with|zero=>intro N d c _ h;exact .pure h|succ n j=>intro N d c f h;refine W.bind' (adH<|f.add i) ?_;rintro M v k e g;exact j (i+1) (f.mono e)<|(h.mono e).push g
theorem QB{a a'}(h:RA ρ I N a a')(n):W ρ I (J q fs) q (bD ρ I) N (loadCells a n)<|loadCells a' n:=arz 0 n h bD.nil
theorem adx{a a'}:∀(vs){N}(i),RA ρ I N a a'->(∀v∈vs,S I N v=Y)->W ρ I (J q fs) q RU N (storeCells a vs i) (storeCells a' (vs.map<|F ρ) i)|[],_,_,_,_=>.pure trivial|v::vs,N,i,e,h=>by refine W.bind' (aq1 (e.add i) ⟨h v<|by simp,rfl⟩) ?_;rintro M _ _ d _;exact adx vs (i+1) (e.mono d) λx f=>ff d<|h x<|by grind
theorem V1{a a'}{vs vs'}(i)(c:RA ρ I N a a')(h:bD ρ I N vs vs'):W ρ I (J q fs) q RU N (storeCells a vs.toList i)<|storeCells a' vs'.toList i:=by rw[h.2,yK];exact adx _ _ c λv d=>h.1 v<|by grind
theorem C9{a a'}(t)(h:RA ρ I N a a'):W ρ I (J q fs) q (RV ρ I) N (loadVar t a)<|loadVar t a':=by
 refine W.bind' (Wi t) ?_;rintro M b _ d rfl;split;.refine W.bind' (mZ t) ?_;rintro K n _ g rfl;refine W.bind' (QB (h.mono<|bC d g) n) ?_;rintro L i f j e;exact .pure<|RV.agg e
 .exact adH<|h.mono d
theorem Qr{a a'}{v v'}(t)(h:RA ρ I N a a')(e:RV ρ I N v v'):W ρ I (J q fs) q RU N (storeVar t a v)<|storeVar t a' v':=by
 have d:=bD.cells e;refine W.bind' (mZ t) ?_;rintro M n _ c rfl;rw[d.size];split;.exact .dead<|y.bind (.halt _) _
 .exact V1 0 (h.mono c)<|d.mono c
theorem Iu(c:∀b,N<=b->I.F b=Y){vs vs'}(e)(h:bD ρ I N vs vs'):W ρ I (J q fs) q (RA ρ I) N (newRow e vs)<|newRow e vs':=by
 unfold newRow;have d:aH vs' e (0,0)=fb ρ (aH vs e (0,0)):=by rw[h.2];rfl
 rw[d];refine W.bind' (Iv (c N<|aS _)<|by simp only[eF,kZ];exact h.1) ?_;rintro M r i g⟨rfl,rfl,rfl,f⟩;exact .pure ⟨f,rfl⟩
theorem V9(c:∀b,N<=b->I.F b=Y){v v'}(t)(h:RV ρ I N v v'):W ρ I (J q fs) q (RA ρ I) N (newVar t v)<|newVar t v':=Iu c t<|bD.cells h
theorem vH{vs vs'}(t)(c)(h:bD ρ I N vs vs'):W ρ I (J q fs) q (RV ρ I) N (part t vs c)<|part t vs' c:=by
 refine W.bind' (Wi t) ?_;rintro M b _ d rfl;split;.refine W.bind' (mZ t) ?_;rintro K n _ g rfl;exact .pure<|RV.agg<|(h.mono<|bC d g).extract _ _
 .cases f:vs[c]? with|some x=>obtain⟨e,i⟩:=h.get f;rw[i];exact .pure ⟨ff d e,rfl⟩|none=>grind[T]
theorem lK(p)(e):y p (Cg e:cz α):=by refine y.program ?_;cases e<;>first|exact .halt _|exact y.then _ λa=>y.then _ λb=>y.then _ λb=>.halt _
theorem TZ(p)(k)(x C)(c):y p (tW k x C c:cz α):=by
 unfold tW;split;.exact y.then _ λ_=>lK _ _
 .exact y.then _ λ_=>lK _ _
theorem It{R:Nat->α->β->Prop}(e)(s):W ρ I (J q fs) q R N (Cg e) s:=.dead<|lK _ _
theorem LN{R:Nat->α->β->Prop}(k)(x y)(c)(s):W ρ I (J q fs) q R N (tW k x y c) s:=.dead<|TZ _ _ _ _ _
theorem Iy{v v'}(h:RV ρ I N v v'):W ρ I (J q fs) q RD N (asIntOf v)<|asIntOf v':=by obtain⟨-,rfl⟩:=h;cases v<;>first|exact .pure rfl|exact T _ _|(rename_i a;cases a<;>first|exact T _ _|exact iw _ _)
theorem Iz{v v'}(h:RV ρ I N v v'):W ρ I (J q fs) q RD N (asInt v)<|asInt v':=by refine W.bind' (Iy h) ?_;rintro M a _ c rfl;exact .pure rfl
theorem ad3{v v'}(h:RV ρ I N v v'):W ρ I (J q fs) q RD N (asBool v)<|asBool v':=by obtain⟨-,rfl⟩:=h;cases v<;>first|exact .pure rfl|exact T _ _
theorem arZ{v v'}(h:RV ρ I N v v'):W ρ I (J q fs) q (bD ρ I) N (asAgg v)<|asAgg v':=by obtain⟨b,rfl⟩:=h;cases v<;>first|exact .pure<|bD.Dn b|exact T _ _
theorem RA.rN{a}(h:S I N (aG<|U a)=Y):RA ρ I N a<|dH ρ a:=⟨by simpa[S]using h,rfl⟩
theorem LO{v v'}(h:RV ρ I N v v'):W ρ I (J q fs) q (RA ρ I) N (asAddr v)<|asAddr v':=by obtain⟨c,rfl⟩:=h;cases v<;>first
    |exact T _ _
    | (rename_i a;rcases a with _|a;.exact .dead<|lK _ .nilDeref
       .exact .pure<|RA.rN c)
theorem LI{v v'}(h:RV ρ I N v v'):W ρ I (J q fs) q (RA ρ I) N (EK v)<|EK v':=by obtain⟨c,rfl⟩:=h;cases v<;>first
    |exact T _ _
    | (rename_i a;rcases a with _|a;.exact T _ _
       .exact .pure<|RA.rN c)
structure Fair(ρ:Nat->Nat)(q:bW):Prop where
 inj:∀a b,ρ a=ρ b->a=b
 fix:∀b,b<=q.globals.size->ρ b=b
 over:∀b,q.globals.size<b->q.globals.size<ρ b
variable {ρ:Nat->Nat} {I:H} {q:bW} {fs:Array ep} {N M:Nat} {α β:Type}
theorem ajI(f:az->az)(b):∀(l:List<|az×Nat)(cs:Array az),(l.map λx=>(f x.1,x.2)).foldl (λcs x=>cs.setIfInBounds (b+x.2) x.1) (cs.map f)=(l.foldl (λcs x=>cs.setIfInBounds (b+x.2) x.1) cs).map f|[],_=>rfl|x::l,cs=>by simp only[gd,List.foldl_cons];rw[<-ajI f b l];congr 1;grind
theorem ajH{P:az->Prop}(b):∀(l:List<|az×Nat)(cs:Array az),(∀x∈l,P x.1)->(∀v∈cs,P v)->∀v∈l.foldl (λcs x=>cs.setIfInBounds (b+x.2) x.1) cs,P v|[],_,_,h=>h|x::l,cs,c,h=>by refine ajH b l _ λy d=>c y<|by grind λv e=>?_;grind
theorem zipIdx_map(f:az->az)(cs:Array az):(cs.map f).zipIdx.toList=cs.zipIdx.toList.map λx=>(f x.1,x.2):=by rw[agU,agU,yK,List.zipIdx_map];rfl
theorem aCX(v):(F ρ v).cells=v.cells.map (F ρ):=by cases v<;>simp[F,Cf,yo]
theorem ajW(b):∀(d)(cs),tS b (cs.map<|F ρ) (d.map λx=>(x.1,F ρ x.2))=(tS b cs d).map λc=>c.map<|F ρ|[],cs=>by simp[tS]|(i,v)::d,cs=>by simp only[gd,tS];cases b i with|none=>rfl|some g=>
   obtain⟨e,f⟩:=g;simp only[aCX,Array.size_map];split;.rfl
   .rw[<-ajW b d];congr 1;rw[<-MC,<-MC,zipIdx_map];exact ajI (F ρ) e _ _
theorem ajV{P:az->Prop}(d):∀(b)(cs),(∀x∈b,∀c∈x.2.cells,P c)->(∀v∈cs,P v)->∀c,tS d cs b=U c->∀v∈c,P v|[],cs,_,h,c,e=>by simp only[tS]at e;grind|(i,v)::b,cs,k,h,c,e=>by simp only[tS]at e;cases f:d i with|none=>grind|some m=>
   obtain⟨g,j⟩:=m;rw[f]at e;simp only at e;split at e;.grind
   .refine ajV d b _ λx l=>k x<|by grind ?_ c e;rw[<-MC];refine ajH g _ _ (λx l=>?_) h;exact k (i,v) (by simp) x.1<|by grind
def AT(ρ:Nat->Nat)(I:H)(N:Nat)(ps E:Array<|Nat×az):Prop:=(∀x∈ps,S I N x.2=Y)/\E=ps.map λx=>(x.1,F ρ x.2)
theorem AT.mono{b a}(h:AT ρ I N b a)(d:N<=M):AT ρ I M b a:=⟨λx c=>ff d<|h.1 x c,h.2⟩
theorem aaK{e d}{cs cs'}(b)(h:AT ρ I N e d)(f:bD ρ I N cs cs'):tS b cs e.toList=Z/\tS b cs' d.toList=Z\/∃r g,tS b cs e.toList=U r/\tS b cs' d.toList=U g/\bD ρ I N r g:=by
 have k:tS b cs' d.toList=(tS b cs e.toList).map λc=>c.map<|F ρ:=by rw[h.2,f.2,yK];grind[ajW]
 cases i:tS b cs e.toList with|none=>grind|some r=>refine aA ⟨r,r.map<|F ρ,rfl,by grind,?_,rfl⟩;refine ajV (P:=λv=>S I N v=Y) b _ _ (λx j c f=>?_) f.1 r i;have:=h.1 x (by grind);exact(bD.cells (ρ:=ρ) ⟨this,rfl⟩).1 c f
theorem adF{t s:Type}{f:t->cz s}(c:∀N x,W ρ I (J q fs) q RD N (f x)<|f x):∀(l:List t)(N),W ρ I (J q fs) q RD N (l.mapM f)<|l.mapM f|[],N=>.pure' rfl|x::l,N=>by rw[List.mapM_cons];refine W.bind' (c N x) ?_;rintro M a _ d rfl;refine W.bind' (adF c l M) ?_;rintro K b _ e rfl;exact .pure' rfl
theorem art{t s:Type}{f:t->cz s}(b:∀N x,W ρ I (J q fs) q RD N (f x)<|f x)(l:Array t)(N):W ρ I (J q fs) q RD N (l.mapM f)<|l.mapM f:=by rw[Array.mapM_eq_mapM_toList];refine W.bind (adF b _ N) ?_;rintro M a _ c rfl;exact .pure rfl
theorem ar3(e:∀b,N<=b->I.F b=Y)(c:sK q)(t):W ρ I (J q fs) q (RV ρ I) N (Instr.alloc t Y<|bO #[])<|Instr.alloc t Y<|bO #[]:=by refine W.bind' (C8 c t) ?_;rintro M z j g⟨d,_⟩;refine W.bind' (V9 λb k=>e b<|by omega t d) ?_;rintro K a h i f;exact .pure'<|RV.ptr f
theorem arW(d:∀b,N<=b->I.F b=Y)(t){v v'}(h:RV ρ I N v v'):W ρ I (J q fs) q (RV ρ I) N (Instr.box t v)<|Instr.box t v':=by refine W.bind' (V9 d t h) ?_;rintro K a f e c;exact .pure'<|RV.ptr c
theorem arV(u:sK q)(t){p e}(h:AT ρ I N p e):W ρ I (J q fs) q (RV ρ I) N (Instr.build t p)<|Instr.build t e:=by
 refine W.bind' (C8 u t) ?_;rintro M z w o⟨s,_⟩;have l:=bD.cells s;refine W.bind' (gC t) ?_;rintro K d _ m rfl;split
 .refine W.bind' (art (λN f=>W.bind' (mZ f.type)<|by rintro M a _ o rfl;exact .pure' rfl) _ _) ?_;rintro L b _ k rfl;rcases aaK (λx=>b[x]?) (h.mono<|bC o<|bC m k) (l.mono<|bC m k)with⟨g,j⟩|⟨r,v,g,j,n⟩;.grind[T]
  .rw[g,j];exact .pure'<|RV.agg n
 .refine W.bind' (mZ _) ?_;rintro L c _ k rfl;rcases aaK (λi=>U (i*c,c)) (h.mono<|bC o<|bC m k) (l.mono<|bC m k)with⟨g,j⟩|⟨r,v,g,j,n⟩;.grind[T]
  .rw[g,j];exact .pure'<|RV.agg n
 grind[T]
theorem Ma{v}(h:n v=Y):∀c∈v.cells,n c=Y:=by
 cases v<;>simp only[Cf]<;>try grind
 rename_i a;obtain⟨l⟩:=a;simp only[n,IP]at h;induction l with|nil=>grind|cons v l b=>simp only[Di]at h;grind
theorem WY{T:Array az}(h:∀c∈T,n c=Y)(i:Nat):n T[i]! =Y:=by rw[getElem!_def];cases a:T[i]? with|none=>rfl|some x=>grind
theorem arU(e:∀b,N<=b->I.F b=Y)(G:sK q)(t)(g){u o}(h:AT ρ I N u o):W ρ I (J q fs) q (RV ρ I) N (Instr.buildSlice t g u)<|Instr.buildSlice t g o:=by
 refine W.bind' (gC t) ?_;rintro M d _ H rfl;split
 .rename_i j;refine W.bind' (mZ j) ?_;rintro K f _ E rfl;dsimp only;split;.exact .dead<|y.bind (.halt _) _
  .have Q3:∀(L)(l:Array az),K<=L->(∀c∈l,n c=Y)->W ρ I (J q fs) q (RV ρ I) L (match tS (λi=>U (i*f,f)) ((GZ<|g*f).map (l[.%l.size]!)) u.toList with|some k=>do bI<|aE (U<|<-newRow j k) g g|_=>stuck "buildSlice: a part of the wrong size") (match tS (λi=>U (i*f,f)) ((GZ<|g*f).map (l[.%l.size]!)) o.toList with|some k=>do bI<|aE (U<|<-newRow j k) g g|_=>stuck "buildSlice: a part of the wrong size"):=λL l s m=>by
    have p:bD ρ I L ((GZ<|g*f).map (l[.%l.size]!)) ((GZ<|g*f).map (l[.%l.size]!)):=bD.plain λx R=>by grind[WY]
    rcases aaK (λi=>U (i*f,f)) (h.mono<|bC H<|bC E s) p with⟨w,Q2⟩|⟨r,Q1,w,Q2,D⟩;.grind[T]
    .rw[w,Q2];refine W.bind' (Iu λb Q0=>e b<|by omega j D) ?_;rintro O a P A z;exact .pure' ⟨by simp[S,z.1],by simp[F,z.2]⟩
   split;.exact W.bind' (R:=λ_(a b)=>a=b/\∀c∈a,n c=Y) (.pure' ⟨rfl,by simp⟩)<|by rintro L l _ s⟨rfl,m⟩;exact Q3 L l s m
   .refine W.bind' (C8 G j) ?_;rintro L v Q s⟨C,B⟩;refine W.bind' (R:=λ_(a b)=>a=b/\∀c∈a,n c=Y) (.pure' ⟨?_,Ma B⟩) (by rintro O l _ A⟨rfl,m⟩;exact Q3 O l (bC s A) m);rw[C.2,(tj (ρ:=ρ) (I:=I) (N:=N) B).2]
 grind[T]
variable{ρ:Nat->Nat}{I:H}{q:bW}{fs:Array ep}{N M:Nat}{α β:Type}
theorem adG(t){v v'}(h:RV ρ I N v v'):W ρ I (J q fs) q (RV ρ I) N (EL t v)<|EL t v':=by refine W.bind' (LI h) ?_;grind[C9]
theorem aq0(t){v v' x x'}(h:RV ρ I N v v')(d:RV ρ I N x x'):W ρ I (J q fs) q RU N (Uf t v x)<|Uf t v' x':=by refine W.bind' (LI h) ?_;rintro M a f c e;exact Qr t e<|d.mono c
theorem RV.slice{a}{n c}(h:S I N (aE a n c)=Y):∀b,a=U b->RA ρ I N b (dH ρ b):=by rintro b rfl;exact⟨by simpa[S]using h,rfl⟩
theorem RV.mkSlice{a a'}(n c)(h:∀b,a=U b->I.blk N b.block=Y)(e:a'=a.map (dH ρ)):RV ρ I N (aE a n c)<|aE a' n c:=by subst e;refine⟨?_,rfl⟩;cases a with|none=>simp[S]|some a=>simpa[S]using h a rfl
theorem adJ(t:ey){x x' i v:az}(e:RV ρ I N x x')(C:RV ρ I N i v):W ρ I (J q fs) q (RV ρ I) N (xZ t x i)<|xZ t x' v:=by
 unfold xZ;refine W.bind' (Iy C) ?_;rintro M⟨k,n⟩_ u rfl;dsimp only;have l:∀(K:Nat)(f:Option eT)(g:Nat)(h:ey),M<=K->(∀b,f=U b->I.blk K b.block=Y)->W ρ I (J q fs) q (RV ρ I) K (do let j:=g<=1&&match<-pq t with|.array ..=>Y|_=>ai match f with|some a=>if 0<=n/\n<g then bI<|aG<|U<|a.add<|n.toNat*(<-sizeOf h)else if j then vh<|x7 "op/indexAddr.an index out of range at an array of length 0 or 1 (ledger 616)"else tW k n g AE|none=>tW k n 0 AE:cz az) (do let j:=g<=1&&match<-pq t with|.array ..=>Y|_=>ai match f.map (dH ρ)with|some a=>if 0<=n/\n<g then bI<|aG<|U<|a.add<|n.toNat*(<-sizeOf h)else if j then vh<|x7 "op/indexAddr.an index out of range at an array of length 0 or 1 (ledger 616)"else tW k n g AE|none=>tW k n 0 AE:cz az):=λK f g h p m=>by refine W.bind' (gC t) ?_;rintro L d _ A rfl;cases f with|none=>grind[LN]|some a=>
   simp only[eG];by_cases s:0<=n/\n<g;.simp only[s,and_self,if_true];refine W.bind' (mZ h) ?_;rintro O w _ F rfl;exact .pure'<|RV.ptr<|RA.add (a:=a) ⟨H.eD (m a rfl)<|by omega,rfl⟩ _
   .simp only[s,if_false];refine .dead ?_;have:∀b:Bool,y (J q fs) (if b=Y then vh<|x7 "op/indexAddr.an index out of range at an array of length 0 or 1 (ledger 616)"else tW k n ↑g AE:cz az):=λb=>by
     split;.exact .halt _
     grind[TZ]
    exact this _
 refine W.bind' (gC t) ?_;rintro K d _ p rfl;obtain⟨o,rfl⟩:=e;split;.rename_i D B;refine W.bind' (LI ⟨ff (bC u p) o,rfl⟩) ?_;rintro L a E A r;have:=l L (U a) D B (by omega) (λb m=>by cases m;exact r.1);rw[eG,<-r.2]at this;grind
 .rename_i x h f g c;have z:=RV.slice (ρ:=ρ)<|ff (bC u p) o;exact l K f g h (by omega) λb m=>(z b m).1
 .exact .dead<|y.bind (.halt _) _
theorem Qu{v v'}(y)(c)(h:RV ρ I N v v'):W ρ I (J q fs) q RD N (B9 v y c)<|B9 v' y c:=by
 refine W.bind' (Iy h) ?_;rintro M⟨k,n⟩_ b rfl;dsimp only;split;.exact .pure' rfl
 grind[LN]
def RO(ρ:Nat->Nat)(I:H)(N:Nat)(o o':Option az):Prop:=(∀v,o=U v->S I N v=Y)/\o'=o.map (F ρ)
theorem RO.mono{o o'}(h:RO ρ I N o o')(c:N<=M):RO ρ I M o o':=⟨λv b=>ff c<|h.1 v b,h.2⟩
theorem Qs(s)(b cap){d k i j mx zW}(o:RO ρ I N d k)(n:RO ρ I N i j)(p:RO ρ I N mx zW):W ρ I (J q fs) q RD N (Instr.sliceBounds s b cap d i mx)<|Instr.sliceBounds s b cap k j zW:=by
 obtain⟨o,rfl⟩:=o;obtain⟨n,rfl⟩:=n;obtain⟨p,rfl⟩:=p;have e:∀(K h m:Nat),N<=K->W ρ I (J q fs) q RD K (do
    let l<-match d with|some v=>B9 v h<|if mx.isSome then .slice3C else .sliceB|none=>bI 0
    bI (l,h,m)) (do
    let l<-match d.map (F ρ)with|some v=>B9 v h<|if(mx.map<|F ρ).isSome then .slice3C else .sliceB|none=>bI 0
    bI (l,h,m)):=λK h m f=>by cases d with|none=>exact .pure' rfl|some v=>simp only[agK];refine W.bind' (Qu h _ ⟨ff f<|o v rfl,rfl⟩) ?_;rintro L l _ g rfl;exact .pure' rfl
 have c:∀(K m),N<=K->W ρ I (J q fs) q RD K (do
    let h<-match i,mx with|some v,U _=>B9 v m .slice3B|some v,Z=>B9 v m<|if s then .sliceAcap else .sliceAlen|none,Z=>bI b|none,U _=>stuck "Slice: max without high"
    let l<-match d with|some v=>B9 v h<|if mx.isSome then .slice3C else .sliceB|none=>bI 0
    bI (l,h,m)) (do
    let h<-match i.map<|F ρ,mx.map (F ρ)with|some v,U _=>B9 v m .slice3B|some v,Z=>B9 v m<|if s then .sliceAcap else .sliceAlen|none,Z=>bI b|none,U _=>stuck "Slice: max without high"
    let l<-match d.map (F ρ)with|some v=>B9 v h<|if(mx.map<|F ρ).isSome then .slice3C else .sliceB|none=>bI 0
    bI (l,h,m)):=λK m f=>by cases i with
  |none=>cases mx with|none=>exact e K b m f|some w=>exact .dead<|y.bind (.halt _) _
  |some v=>cases mx with|none=>refine W.bind' (Qu m _ ⟨ff f<|n v rfl,rfl⟩) ?_;rintro L l _ g rfl;exact e L l m<|bC f g|some w=>refine W.bind' (Qu m _ ⟨ff f<|n v rfl,rfl⟩) ?_;rintro L l _ g rfl;exact e L l m<|bC f g
 cases mx with|none=>exact c N cap<|aS _|some w=>refine W.bind' (Qu cap _ ⟨p w rfl,rfl⟩) ?_;rintro L m _ g rfl;exact c L m g
theorem aq3(t:ey){x x':az}{e n A k mx zW:Option az}(B:RV ρ I N x x')(s:RO ρ I N e n)(w:RO ρ I N A k)(v:RO ρ I N mx zW):W ρ I (J q fs) q (RV ρ I) N (Instr.slice t x e A mx)<|Instr.slice t x' n k zW:=by
 unfold Instr.slice;refine W.bind' (gC t) ?_;rintro M d _ i rfl;obtain⟨j,rfl⟩:=B;have u:zW.isSome=mx.isSome:=by rw[v.2,agK]
 split
 .simp only[F];rw[u];split;.exact .dead<|y.bind (.halt _) _
  .refine W.bind' (Qs ai _ _ (s.mono i) (w.mono i) (mx:=Z) (zW:=Z) ⟨by simp,rfl⟩) ?_;rintro K⟨l,h,m⟩_ z rfl;exact .pure'<|RV.plain rfl
 .simp only[F];refine W.bind' (Qs Y _ _ (s.mono i) (w.mono i)<|v.mono i) ?_;rintro K⟨l,h,m⟩_ z rfl;refine W.bind' (mZ _) ?_;rintro L f _ C rfl;have p:=RV.slice (ρ:=ρ) j;refine .pure'<|RV.mkSlice _ _ (λb g=>?_) ?_
  .split at g;.exact H.eD (p b g).1<|by omega
   .obtain⟨c,r,rfl⟩:=yM.1 g;exact H.eD ((p c r).add<|l*f).1<|by omega
  .split;.rfl
   .simp only[Option.map_map];refine Option.map_congr λc r=>?_;exact((p c r).add<|l*f).2
 .refine W.bind' (LO ⟨ff i j,rfl⟩) ?_;rintro K a D z o;refine W.bind' (gC _) ?_;rintro L d _ C rfl;split
  .refine W.bind' (Qs ai _ _ (s.mono<|by omega) (w.mono<|by omega)<|v.mono<|by omega) ?_;rintro O⟨l,h,m⟩_ R rfl;refine W.bind' (mZ _) ?_;rintro P f _ E rfl;refine .pure'<|RV.mkSlice _ _ (λb g=>?_) ?_
   .simp only[ew]at g;subst g;split;.exact H.eD o.1<|by omega
    .exact H.eD (o.add<|l*f).1<|by omega
   .simp only[eG,ew];split;.exact o.2
    .exact(o.add<|l*f).2
  grind[T]
 grind[T]
theorem aq2(t){x x'}{k i r g mx zW}(n:RV ρ I N x x')(p:RO ρ I N k i)(u:RO ρ I N r g)(s:RO ρ I N mx zW):W ρ I (J q fs) q (RV ρ I) N (Instr.sliceAt t x k r mx)<|Instr.sliceAt t x' i g zW:=by
 refine W.bind' (gC t) ?_;rintro M d _ f rfl;split
 .refine W.bind' (LI<|n.mono f) ?_;rintro K a v w j;refine W.bind' (Qs ai _ _ (p.mono<|by omega) (u.mono<|by omega)<|s.mono<|by omega) ?_;rintro O⟨l,h,m⟩_ z rfl;refine W.bind' (mZ _) ?_;rintro P e _ y rfl;refine .pure'<|RV.mkSlice _ _ (λb o=>?_) ?_
  .simp only[ew]at o;subst o;split;.exact H.eD j.1<|by omega
   .exact H.eD (j.add<|l*e).1<|by omega
  .simp only[eG,ew];split;.exact j.2
   .exact(j.add<|l*e).2
 .exact aq3 t (n.mono f) (p.mono f) (u.mono f)<|s.mono f
theorem ar0(t){x x'}(h:RV ρ I N x x'):W ρ I (J q fs) q (RV ρ I) N (aCD t x)<|aCD t x':=by
 refine W.bind' (gC t) ?_;rintro M d _ f rfl;split
 .obtain⟨e,rfl⟩:=h;split
  .simp only[F];rename_i a g c;split;.grind[It]
   .refine .pure' ⟨?_,rfl⟩;cases a with|none=>simp[S]|some a=>simpa[S]using H.eD ((RV.slice (ρ:=ρ) e) a rfl).1 f
  grind[T]
 grind[T]
theorem arw(t){x x'}(b:RV ρ I N x x'):W ρ I (J q fs) q (RV ρ I) N (Instr.makeInterface t x)<|Instr.makeInterface t x':=by
 refine W.bind' (gC t) ?_;rintro M d _ c rfl;split;.grind[T]
 .exact .pure' ⟨by simpa[S]using ff c b.1,by simp only[F,b.2]⟩
theorem arv(i:∀b,N<=b->I.F b=Y)(t){r c}(h:RO ρ I N r c):W ρ I (J q fs) q (RV ρ I) N (OJ t r)<|OJ t c:=by
 unfold OJ;obtain⟨j,rfl⟩:=h;have f:∀K,N<=K->W ρ I (J q fs) q (RV ρ I) K (do bI<|cq<|U<|<-newObj<|iZ #[] 0) (do bI<|cq<|U<|<-newObj<|iZ #[] 0):=λK k=>by
  have e:iZ #[] 0=fb ρ (iZ #[] 0):=by simp[fb]
  have h:=Iv (ρ:=ρ) (q:=q) (fs:=fs) (o:=iZ #[] 0) (i K k) (by simp[eF]);rw[<-e]at h;refine W.bind' h ?_;rintro L r c m⟨rfl,_,rfl,l⟩;exact .pure' ⟨by simpa[S]using l,rfl⟩
 cases r with|none=>grind|some v=>
  refine W.bind' (gC t) ?_;rintro M d _ g rfl;split;.refine W.bind' (Iz ⟨ff g<|j v rfl,rfl⟩) ?_;grind
  .exact .dead<|y.bind (.halt _) _
theorem aru(B:∀b,N<=b->I.F b=Y)(z:sK q)(t:ey){l l' c v:az}(C:RV ρ I N l l')(QX:RV ρ I N c v):W ρ I (J q fs) q (RV ρ I) N (akD t l c)<|akD t l' v:=by
 unfold akD;refine W.bind' (gC t) ?_;rintro M d _ A rfl;split
 .rename_i f;refine W.bind' (Iz<|C.mono A) ?_;rintro K s _ H rfl;refine W.bind' (Iz<|QX.mono<|by omega) ?_;rintro L m _ Q1 rfl;refine W.bind' (rH f) ?_;rintro O i _ Q0⟨rfl,QW⟩;dsimp only;split
  .refine .dead ?_;split;.exact y.bind (lK _ _) _
   .split;.exact y.bind (lK _ _) _
    .exact y.then _ λ_=>y.bind (lK _ _) _
  .refine W.bind' (ad2 _) ?_;rintro P _ _ Q3 _;refine W.bind' (mZ f) ?_;rintro Q g _ X rfl;have k:∀(Q2:Nat)(h:Array az),Q<=Q2->(∀c∈h,n c=Y)->W ρ I (J q fs) q (RV ρ I) Q2 (do let a<-newRow f ((GZ<|(aC.wrap m).toNat*g).map (h[.%h.size]!))bI<|aE (U a) (aC.wrap s).toNat (aC.wrap m).toNat:cz az) (do let a<-newRow f ((GZ<|(aC.wrap m).toNat*g).map (h[.%h.size]!))bI<|aE (U a) (aC.wrap s).toNat (aC.wrap m).toNat:cz az):=λQ2 h o j=>by
    have QY:bD ρ I Q2 ((GZ<|(aC.wrap m).toNat*g).map (h[.%h.size]!)) ((GZ<|(aC.wrap m).toNat*g).map (h[.%h.size]!)):=bD.plain λx G=>by grind[WY]
    refine W.bind' (Iu λb R=>B b<|by omega f QY) ?_;rintro V a D p r;exact .pure' ⟨by simp[S,r.1],by simp[F,r.2]⟩
   split;.exact W.bind' (R:=λ_(a b:Array az)=>a=b/\∀c∈a,n c=Y) (.pure' ⟨rfl,by simp⟩)<|by rintro Q2 h _ o⟨rfl,j⟩;exact k Q2 h o j
   .refine W.bind' (C8 z f) ?_;rintro Q2 e E o⟨w,u⟩;refine W.bind' (R:=λ_(a b:Array az)=>a=b/\∀c∈a,n c=Y) (.pure' ⟨?_,Ma u⟩) (by rintro V h _ p⟨rfl,j⟩;exact k V h (bC o p) j);rw[w.2,(tj (ρ:=ρ) (I:=I) (N:=N) u).2]
 grind[T]
theorem arE(t)(i){x x'}(b:RV ρ I N x x'):W ρ I (J q fs) q (RV ρ I) N (Instr.field t x i)<|Instr.field t x' i:=by
 refine W.bind' (gC t) ?_;rintro M d _ c rfl;split
 .split;.refine W.bind' (arZ<|b.mono c) ?_;grind[vH]
  grind[T]
 grind[T]
theorem arD(t){x x' i f}(h:RV ρ I N x x')(g:RV ρ I N i f):W ρ I (J q fs) q (RV ρ I) N (OH t x i)<|OH t x' f:=by
 refine W.bind' (Iy g) ?_;rintro M⟨k,n⟩_ j rfl;refine W.bind' (gC t) ?_;rintro K d _ m rfl;obtain⟨c,rfl⟩:=h;split
 .simp only[F];split;.refine W.bind' (mZ _) ?_;rintro L e _ o rfl;exact vH _ _<|(bD.Dn c).mono<|by omega
  grind[LN]
 .simp only[F];rename_i s;cases l:if 0<=n then s[n.toNat]? else Z with|some b=>exact .pure'<|RV.plain rfl|none=>grind[LN]
 grind[T]
theorem adQ(i){x x'}(f:RV ρ I N x x'):W ρ I (J q fs) q (RV ρ I) N (GX x i)<|GX x' i:=by
 unfold GX;obtain⟨b,rfl⟩:=f;split;.simp only[F];rename_i e;cases c:e[i]? with|some v=>obtain⟨d,g⟩:=(bD.auH (ρ:=ρ) b).get c;rw[g];exact .pure' ⟨d,rfl⟩|none=>grind[T]
 grind[T]
theorem RA.blk{a a'}(h:RA ρ I N a a'):I.blk N a.block=Y/\a'.block=ρ a.block:=⟨h.1,by rw[h.2];rfl⟩
theorem adt{r}(h:I.blk N r=Y):W ρ I (J q fs) q (λ_ a b=>a=Z/\b=Z) N (viewAt r)<|viewAt<|ρ r:=by
 unfold viewAt;refine W.bind' (Ba h) ?_;rintro M s _ c rfl;split;.exact .pure' ⟨rfl,rfl⟩
 .refine W.bind' (vI<|H.eD h c) ?_;rintro K o f e⟨d,rfl⟩;cases o<;>first|exact .pure' ⟨rfl,rfl⟩|cases d
theorem adA{r}(h:I.blk N r=Y):W ρ I (J q fs) q (λN a b=>a=Z/\b=Z\/∃x y l,a=U (x,l)/\b=(y,l)/\RA ρ I N x y) N (numberAt r)<|numberAt<|ρ r:=by
 unfold numberAt;refine W.bind' (Ba h) ?_;rintro M s _ d rfl;split;.exact .pure'<|ax ⟨rfl,rfl⟩
 .refine W.bind' (vI<|H.eD h d) ?_;rintro K o f e⟨c,rfl⟩;cases o<;>first|exact .pure'<|ax ⟨rfl,rfl⟩|cases c|exact .pure'<|aA ⟨_,_,_,rfl,rfl,c,rfl⟩
theorem Iw{a a'}(h:RA ρ I N a a'):W ρ I (J q fs) q (λN x y=>RA ρ I N x.1 y.1/\x.2=y.2) N (behindNumber a)<|behindNumber a':=by
 unfold behindNumber;obtain⟨b,rfl⟩:=h;refine W.bind' (adA b) ?_;rintro M _ _ d(⟨rfl,rfl⟩|⟨x,y,l,rfl,rfl,c⟩);.exact .pure' ⟨⟨H.eD b d,rfl⟩,rfl⟩
 .exact .pure' ⟨c,rfl⟩
theorem V8{a a'}(h:RA ρ I N a a'):W ρ I (J q fs) q RU N (noView a)<|noView a':=by unfold noView;obtain⟨b,rfl⟩:=h;refine W.bind' (adt b) ?_;rintro M _ _ c⟨rfl,rfl⟩;exact .pure' trivial
theorem alb(d):∀(t)(a),byteOfCell (J q fs) d t a=byteOfCell q d t a:=by induction d with|zero=>intro t a;rfl|succ d b=>intro t a;rw[byteOfCell,byteOfCell];simp only[b];rfl
theorem FA{a a'}(h:RA ρ I N a a'):W ρ I (J q fs) q RD N (byteOf a)<|byteOf a':=by
 unfold byteOf;have f:a'.spot=a.spot:=by rw[h.2];rfl
 have d:a'.off=a.off:=by rw[h.2];rfl
 rw[f,d];split;.exact .pure' rfl
 .refine W.bind' mu ?_;rintro M p b c⟨rfl,rfl⟩;refine W.bind' (V8<|h.mono c) ?_;rintro K _ _ k _;rw[h.blk.2];refine W.bind' (Ba<|H.eD h.1<|by omega) ?_;rintro L s _ l rfl;split
  .rename_i e n;have g:(J b fs).cellsOf e=b.cellsOf e:=rfl;have j:(J b fs).bytesOf e=b.bytesOf e:=rfl;have i:(J b fs).depth=b.depth:=rfl;dsimp only;rw[g,i,alb,j];split;.exact .pure' rfl
   .split;.exact .pure' rfl
    grind[T]
  grind[T]
theorem arb{a a'}(h:RA ρ I N a a')(c b):W ρ I (J q fs) q (RA ρ I) N (partAt a c b)<|partAt a' c b:=by
 unfold partAt;refine W.bind' (FA h) ?_;rintro M x _ f rfl;dsimp only;have d:RA ρ I M {block:=a.block,off:=a.off+c} {block:=a'.block,off:=a'.off+c}:=⟨H.eD h.1 f,by rw[h.2];rfl⟩;refine W.bind' (FA d) ?_;rintro K y _ e rfl;split;.exact .pure'<|d.mono e
 .exact .pure' ⟨(d.mono e).1,by rw[h.2];rfl⟩
theorem Wp{a a'}(h:RA ρ I N a a')(f):W ρ I (J q fs) q (RA ρ I) N (fieldPlace a f)<|fieldPlace a' f:=by
 unfold fieldPlace;refine W.bind' (mZ _) ?_;rintro M x _ b rfl;split;.exact arb (h.mono b) _ _
 .exact .pure'<|(h.mono b).add _
theorem adP(s)(i){x x'}(h:RV ρ I N x x'):W ρ I (J q fs) q (RV ρ I) N (zl s x i)<|zl s x' i:=by
 unfold zl;refine W.bind' (gC s) ?_;rintro M d _ c rfl;split
 .split;.refine W.bind' (LI<|h.mono c) ?_;rintro K a g k e;refine W.bind' (Wp e _) ?_;rintro L b j l f;exact .pure'<|RV.ptr f
  grind[T]
 grind[T]
theorem adw{a a'}(h:RA ρ I N a a'):W ρ I (J q fs) q RD N (stringish a)<|stringish a':=by
 unfold stringish;refine W.bind' (QE h) ?_;rintro M b _ c rfl;split;.exact .pure' rfl
 .rw[h.blk.2];refine W.bind' (Ba<|H.eD h.1 c) ?_;rintro K s _ d rfl;split;.rename_i e n;exact QE (a:={block:=a.block,off:=n}) ⟨H.eD h.1<|by omega,rfl⟩
  .exact .pure' rfl
theorem adB{a a'}(h:RA ρ I N a a'):W ρ I (J q fs) q RD N (do bI<|(<-shape a.block)matches U (_,0)) (do bI<|(<-shape a'.block)matches U (_,0)):=by rw[h.blk.2];refine W.bind' (Ba h.1) ?_;rintro M s _ b rfl;exact .pure' rfl
theorem arn{a a' b c}(h:RA ρ I N a a')(d:RA ρ I N b c):W ρ I (J q fs) q RD N (mayBeOne a b)<|mayBeOne a' c:=by unfold mayBeOne;dsimp only;refine W.bind' (adw h) ?_;rintro M f _ e rfl;refine W.bind' (adw<|d.mono e) ?_;rintro K i _ l rfl;refine W.bind' (adB<|h.mono<|by omega) ?_;rintro L k _ m rfl;refine W.bind' (adB<|d.mono<|by omega) ?_;rintro O g _ j rfl;exact .pure' rfl
theorem Ux{ρ}(d:∀a b,ρ a=ρ b->a=b)(a b):(dH ρ a==dH ρ b)=(a==b):=by
 have:dH ρ a=dH ρ b↔a=b:=by
  constructor;.intro h;cases a;cases b;grind[dH,Addr.mk.injEq]
  grind
 grind
theorem ady(c:Fair ρ q){a a' b g}(d:RA ρ I N a a')(f:RA ρ I N b g):W ρ I (J q fs) q RD N (sameAddr a b)<|sameAddr a' g:=by
 unfold sameAddr;have i:(a'.block==g.block)=(a.block==b.block):=by
  rw[d.blk.2,f.blk.2];by_cases h:a.block=b.block;.simp[h]
  .rw[Jd.2 h,Jd.2 λe=>h<|c.inj _ _ e]
 have k:(a'==g)=(a==b):=by rw[d.2,f.2];exact Ux c.inj a b
 rw[i,k];split;.exact .pure' rfl
 .refine W.bind' (QE d) ?_;rintro M l _ j rfl;refine W.bind' (QE<|f.mono j) ?_;rintro K p _ s rfl;split;.exact .dead<|y.bind (.halt _) _
  .refine W.bind' (V8<|d.mono<|by omega) ?_;rintro L _ _ t _;refine W.bind' (V8<|f.mono<|by omega) ?_;rintro O _ _ r _;refine W.bind' (arn (d.mono<|by omega)<|f.mono<|by omega) ?_;rintro P m _ o rfl;split;.refine W.bind' (Fz _) ?_;rintro Q n _ u rfl;exact .pure' rfl
   .exact .pure' rfl
theorem aq5(c:Fair ρ q){a b}(d:∀x,a=U x->I.blk N x.block=Y)(e:∀x,b=U x->I.blk N x.block=Y):W ρ I (J q fs) q RD N (samePointer a b)<|samePointer (a.map<|dH ρ)<|b.map<|dH ρ:=by
 cases a<;>cases b;.exact .pure' rfl
 .exact .pure' rfl
 .exact .pure' rfl
 .exact ady c ⟨d _ rfl,rfl⟩ ⟨e _ rfl,rfl⟩
def K0{σ τ:Type}(R:Nat->σ->τ->Prop)(N:Nat)(a:ForInStep σ)(b:ForInStep τ):Prop:=(∃x y,a=.done x/\b=.done y/\R N x y)\/∃x y,a=.yield x/\b=.yield y/\R N x y
theorem QF{t σ s:Type}{R:Nat->σ->s->Prop}(k:∀N M a b,N<=M->R N a b->R M a b)(g:t->t){f:t->σ->cz (ForInStep σ)}{f':t->s->cz (ForInStep s)}:∀(l:List t)(N:Nat)(a:σ)(b:s),(∀x∈l,∀M a b,N<=M->R M a b->W ρ I (J q fs) q (K0 R) M (f x a) (f' (g x) b))->R N a b->W ρ I (J q fs) q R N (forIn l a f) (forIn (l.map g) b f')
 |[],N,a,b,_,h=>by simp only[List.map_nil,List.forIn_nil];exact .pure' h|x::l,N,a,b,d,h=>by
  simp only[gd,List.forIn_cons];refine W.bind' (d x (by simp) N a b (aS _) h) ?_;rintro M n m e(⟨u,v,rfl,rfl,c⟩|⟨u,v,rfl,rfl,c⟩);.exact .pure' c
  .exact QF k g l M u v (λy i K a b j=>d y (by simp[i]) K a b<|bC e j) c
theorem Wl{t σ s:Type}{R:Nat->σ->s->Prop}(g:∀N M a b,N<=M->R N a b->R M a b){f}{f'}(l:Array t)(N)(a)(b)(e:∀x∈l,∀M a b,N<=M->R M a b->W ρ I (J q fs) q (K0 R) M (f x a) (f' x b))(h:R N a b):W ρ I (J q fs) q R N (forIn l a f)<|forIn l b f':=by rw[<-MB,<-MB];have:=QF (ρ:=ρ) (I:=I) (q:=q) (fs:=fs) g id l.toList N a b (f:=f) (f':=f') (λx i M a b d=>e x (by grind) M a b d) h;grind[List.map_id]
theorem Wk{σ d}{R:Nat->σ->d->Prop}(i:∀N M a b,N<=M->R N a b->R M a b){f}{f'}(n)(N)(a)(b)(g:∀x M a b,N<=M->R M a b->W ρ I (J q fs) q (K0 R) M (f x a) (f' x b))(h:R N a b):W ρ I (J q fs) q R N (forIn [0:n] a f)<|forIn [0:n] b f':=by rw[agG,agG];have:=QF (ρ:=ρ) (I:=I) (q:=q) (fs:=fs) i id (List.range' 0 (Std.Legacy.Range.size [0:n]) 1) N a b (f:=f) (f':=f') (λx j M a b e=>g x M a b e) h;grind[List.map_id]
theorem bD.zw{cs}(h:S I N (bJ cs)=Y)(a:N<=M):bD ρ I M cs<|nX ρ cs:=(bD.Dn h).mono a
theorem alF(d):∀(t u),(J q fs).alikeButTags d t u=q.alikeButTags d t u:=by induction d with|zero=>intro t u;rfl|succ d a=>intro t u;rw[aCB,aCB];simp only[a];rfl
theorem aip(t):(J q fs).stoodInHeld t=q.stoodInHeld t:=by unfold Program.stoodInHeld Program.stoodInAs;have:(J q fs).depth=q.depth:=rfl;simp only[alF,this];rfl
theorem ajr(d):∀(t),(J q fs).eqGuardType d t=q.eqGuardType d t:=by induction d with|zero=>intro t;rfl|succ d a=>intro t;rw[Program.eqGuardType,Program.eqGuardType];simp only[a];rfl
theorem adS(j:Fair ρ q)(d):∀(N)(t)(x x' Qw QW),RV ρ I N x x'->RV ρ I N Qw QW->W ρ I (J q fs) q RD N (sF d t x Qw) (sF d t x' QW):=by induction d with|zero=>intro N t x x' Qw QW _ _;exact iw _ _|succ d R=>
  intro N t x x' Qw QW QX X;rw[sF,sF];refine W.bind' (gC t) ?_;rintro M Q2 _ w rfl;obtain⟨l,rfl⟩:=QX;obtain⟨k,rfl⟩:=X;split;case h_1=>exact .pure' rfl
  case h_2=>simp only[F];split;exact .pure' rfl;grind[T]
  case h_3=>exact .pure' rfl
  case h_4=>exact .pure' rfl
  case h_5 a b=>
   simp only[F,eG];refine W.bind' (Iw<|RA.rN<|ff w l) ?_;rintro K u E o⟨A,_⟩;refine W.bind' (Iw<|RA.rN<|ff (bC w o) k) ?_;rintro L v H C⟨B,_⟩;refine W.bind' mu ?_;rintro L' p D Ek⟨rfl,rfl⟩;have e1:(E.1.block==H.1.block&&cg (E.1.block<D.globals.size))=(u.1.block==v.1.block&&cg (u.1.block<(J D fs).globals.size)):=by
    show _=(u.1.block==v.1.block&&cg (u.1.block<D.globals.size));rw[(A.mono C).blk.2,B.blk.2];congr 1
    .by_cases h:u.1.block=v.1.block;.simp[h]
     .rw[Jd.2 h,Jd.2 λe=>h<|j.inj _ _ e]
    .by_cases h:u.1.block<=D.globals.size;.rw[j.fix _ h]
     .have:=j.over u.1.block (by omega);grind
   rw[e1];split;.refine W.bind' (FA<|A.mono<|by omega) ?_;rintro O m _ QZ rfl;refine W.bind' (FA<|B.mono<|by omega) ?_;rintro P n _ G rfl;exact .pure' rfl
   .refine W.bind' (rH t) ?_;rintro O i _ QZ⟨rfl,_⟩;split
    .have:(E.1==H.1)=(u.1==v.1):=by rw[A.2,B.2];exact Ux j.inj _ _
     rw[this];split;.exact .pure' rfl
     .exact iw _ _
    .exact iw _ _
  case h_6=>exact iw _ _
  case h_7=>exact iw _ _
  case h_8=>simp only[F];split;exact .pure' rfl;grind[T]
  case h_9=>simp only[F];split;exact .pure' rfl;grind[T]
  case h_10=>exact .pure' rfl
  case h_11 b=>simp only[F,Jc];exact .pure'<|by simp[RD]
  case h_12 a _=>cases a<;>first|exact .pure' rfl|simp_all
  case h_13 a b=>
   simp only[F,eG];refine W.bind' (mZ _) ?_;rintro K n _ o rfl;rw[Ux j.inj];split;.exact ady j ((RA.rN (ρ:=ρ)<|ff w l).mono o)<|(RA.rN (ρ:=ρ)<|ff w k).mono o
   .split;.exact .pure' rfl
    .refine W.bind' (Fz _) ?_;rintro L c _ C rfl;exact .pure' rfl
  case h_14=>exact aq5 j (λx QX=>by subst QX;exact(RA.rN (ρ:=ρ)<|ff w l).1) λx QX=>by subst QX;exact(RA.rN (ρ:=ρ)<|ff w k).1
  case h_15=>rename_i a b;cases a<;>cases b<;>first|exact .pure' rfl|simp[S]at l|simp[S]at k
  case h_16=>exact .pure' rfl
  case h_17=>exact .pure' rfl
  case h_18=>exact .pure' rfl
  case h_19=>
   rename_i tx vx ty vy;simp only[F];split;.exact .pure' rfl
   .refine W.bind' (rH _) ?_;rintro K i _ o⟨rfl,_⟩;split
    .refine .dead ?_;exact y.then _ λp=>y.then _ λD=>by
      split;.exact y.bind (.halt _) _
      .exact y.then _ λ_=>lK _ _
    .exact R K tx _ _ _ _ ⟨ff (bC w o)<|by grind[S],rfl⟩ ⟨ff (bC w o)<|by grind[S],rfl⟩
  case h_20=>
   rename_i s Q3 Q1;simp only[F];refine W.bind' mu ?_;rintro K p D o⟨rfl,rfl⟩;rw[aip];split;.exact .dead<|y.bind (.halt _) _
   .refine W.bind' (R:=RD) (Wl (λN M a b _ h=>h) s K _ _ (λf hf L a b C z=>?_) rfl) ?_
    .cases z;split
     .refine W.bind' (vH _ _<|bD.zw l<|by omega) ?_;rintro O u E QZ A;refine W.bind' (vH _ _<|bD.zw k<|by omega) ?_;rintro P v H G B;refine W.bind' (R P _ _ _ _ _ (A.mono G) B) ?_;rintro Q b _ Q0 rfl;split;.exact .pure'<|ax ⟨_,_,rfl,rfl,rfl⟩
      .exact .pure'<|aA ⟨_,_,rfl,rfl,rfl⟩
     .exact .pure'<|aA ⟨_,_,rfl,rfl,rfl⟩
    .rintro L r _ C rfl;split<;>exact .pure' rfl
  case h_21=>
   rename_i QY g Q3 Q1;simp only[F];refine W.bind' (mZ _) ?_;rintro K n _ o rfl;refine W.bind' (R:=RD) (Wk (λN M a b _ h=>h) QY K _ _ (λi L a b C z=>?_) rfl) ?_
   .cases z;refine W.bind' (vH _ _<|bD.zw l<|by omega) ?_;rintro O u E QZ A;refine W.bind' (vH _ _<|bD.zw k<|by omega) ?_;rintro P v H G B;refine W.bind' (R P _ _ _ _ _ (A.mono G) B) ?_;rintro Q b _ Q0 rfl;split;.exact .pure'<|ax ⟨_,_,rfl,rfl,rfl⟩
    .exact .pure'<|aA ⟨_,_,rfl,rfl,rfl⟩
   .rintro L r _ C rfl;split<;>exact .pure' rfl
  case h_22 b _ _=>simp only[F,Jc];exact .pure'<|by simp[RD]
  case h_23 a _ _ _ _ _=>cases a<;>first|exact .pure' rfl|simp_all
  case h_24 b=>simp only[F,Jc];exact .pure'<|by simp[RD]
  case h_25 a _=>cases a<;>first|exact .pure' rfl|simp_all
  case h_26=>exact .pure' rfl
  case h_27=>exact .pure' rfl
  case h_28=>exact .pure' rfl
  all_goals exact T _ _
theorem aCZ(d):∀(t)(b),cellOfByte (J q fs) d t b=cellOfByte q d t b:=by induction d with|zero=>intro t b;rfl|succ d a=>intro t b;rw[cellOfByte,cellOfByte];simp only[a];rfl
theorem aC0(d)(t)(c o)(b):cellAtBytes (J q fs) d t c o b=cellAtBytes q d t c o b:=by unfold cellAtBytes;simp only[aCZ,alb];rfl
theorem Qq(d)(t){x x' C i}(m:RV ρ I N x x')(o:RV ρ I N C i):W ρ I (J q fs) q (RV ρ I) N (Kz d t #[x,C])<|Kz d t #[x',i]:=by
 obtain⟨h,rfl⟩:=m;cases x<;>first|exact T _ _|skip
 rename_i b;show W ρ I (J q fs) q (RV ρ I) N (Kz d t #[aG b,C])<|Kz d t #[aG<|b.map<|dH ρ,i];unfold Kz;refine W.bind' (Iz o) ?_;rintro M n _ j rfl;dsimp only;cases b with
 |none=>
  split;.exact iw _ _
  .split;.exact .dead<|y.bind (.halt _) _
   .exact iw _ _|some a=>
  have c:=RA.rN (ρ:=ρ) h;simp only[eG];split;.rw[c.blk.2];refine W.bind' (adt<|H.eD c.1 j) ?_;rintro K _ _ v⟨rfl,rfl⟩;exact .pure'<|RV.ptr<|c.mono<|by omega
  .split;.exact .dead<|y.bind (.halt _) _
   .rw[c.blk.2];refine W.bind' (Ba<|H.eD c.1 j) ?_;rintro K s _ v rfl;split
    .rename_i e g;refine W.bind' mu ?_;rintro L p f w⟨rfl,rfl⟩;have r:(J f fs).cellsOf e=f.cellsOf e:=rfl;have u:(J f fs).depth=f.depth:=rfl;rw[aC0,r,u];have l:(dH ρ a).off=a.off:=rfl;rw[l];split;.rename_i off _;exact .pure'<|RV.ptr (a:={a with off}) ⟨H.eD c.1<|by omega,rfl⟩
     .exact iw _ _
    .exact iw _ _
theorem arY(d:∀b,N<=b->I.F b=Y){a a'}(h:RA ρ I N a a')(l):W ρ I (J q fs) q (RV ρ I) N (asNumber a l)<|asNumber a' l:=by
 unfold asNumber;have e:Obj.number a' l=fb ρ (.number a l):=by rw[h.2];simp[fb]
 have c:=Iv (ρ:=ρ) (q:=q) (fs:=fs) (o:=.number a l) (d N<|aS _) (by simpa[eF]using h.1);rw[<-e]at c;refine W.bind' c ?_;rintro L r g i⟨rfl,_,rfl,f⟩;exact .pure'<|RV.ptr ⟨f,rfl⟩
theorem Wc(G:∀b,N<=b->I.F b=Y)(t){x x' f i}(w:RV ρ I N x x')(h:RV ρ I N f i):W ρ I (J q fs) q (RV ρ I) N (movedNumber t x f)<|movedNumber t x' i:=by
 unfold movedNumber;refine W.bind' (gC t) ?_;rintro M d _ s rfl;dsimp only;have r:W ρ I (J q fs) q (RV ρ I) M (do
    let aG<|U n:=x|Builtin.unsafeAdd_ #[] t #[x,f]
    let(a,lost)<-behindNumber n;match<-Kz #[] t #[aG a,f]with|aG<|U b=>asNumber b lost|v=>bI v) (do
    let aG<|U n:=x'|Builtin.unsafeAdd_ #[] t #[x',i]
    let(a,lost)<-behindNumber n;match<-Kz #[] t #[aG a,i]with|aG<|U b=>asNumber b lost|v=>bI v):=by
  have h:=h.mono s;obtain⟨g,rfl⟩:=w.mono s;by_cases hp:∃n,x=aG (U n)
  ·obtain⟨n,rfl⟩:=hp;simp only[F,eG];refine W.bind' (Iw<|RA.rN g) ?_;rintro K⟨a,l⟩⟨B,A⟩z⟨p,u⟩;simp only at p u⊢;subst u;refine W.bind' (Qq _ _ (RV.ptr p)<|h.mono z) ?_;rintro L v C D⟨m,rfl⟩;have j:(∃b,v=aG (U b))∨∀b,v≠aG (U b):=by grind
   rcases j with⟨b,rfl⟩|E;·grind[F,arY,RA.rN]
   ·have k:∀b,F ρ v≠aG (U b):=λb e=>by
     cases v<;>simp only[F]at e<;>try cases e
     rename_i o;cases o with|none=>simp at e|some c=>grind
    split;·grind
    ·exact .pure' ⟨m,rfl⟩
  ·have k:∀b,F ρ x≠aG (U b):=λb e=>by
    cases x<;>simp only[F]at e<;>try cases e
    rename_i o;cases o with|none=>simp at e|some c=>grind
   split;·grind
   ·exact Qq _ _ ⟨g,rfl⟩ h
 split;·exact .dead<|y.halt _
 grind
theorem arh(t){x x' C h}(f:RV ρ I N x x')(i:RV ρ I N C h):W ρ I (J q fs) q (RV ρ I) N (movedPointer t x C)<|movedPointer t x' h:=by
 unfold movedPointer;by_cases hp:∃n,x=aG (U n)
 .obtain⟨n,rfl⟩:=hp;have d:=f;obtain⟨a,rfl⟩:=f;have k:=RA.rN (ρ:=ρ) a;simp only[F,eG];refine W.bind' (adA k.1) ?_;rintro M _ _ g(⟨rfl,rfl⟩|⟨u,v,l,rfl,rfl,m⟩);.exact Qq #[] t (d.mono g)<|i.mono g
  .exact .dead<|y.halt _
 .have j:∀b,F ρ x≠aG (U b):=λb e=>by
   cases x<;>simp only[F]at e<;>try cases e
   rename_i o;cases o with|none=>simp at e|some c=>grind
  obtain⟨a,rfl⟩:=f;split;.grind
  .exact Qq #[] t ⟨a,rfl⟩ i
theorem adv(c:Fair ρ q){a a' b d}(f:RA ρ I N a a')(g:RA ρ I N b d):W ρ I (J q fs) q RD N (Op.twoPlaces a b)<|Op.twoPlaces a' d:=by
 unfold Op.twoPlaces;refine W.bind' mu ?_;rintro M p e j⟨rfl,rfl⟩;by_cases h:(a.block !=b.block||decide (a.block≥(J e fs).globals.size))=Y;·dsimp only;rw[if_pos h];exact .dead<|y.bind (.halt _) _
 ·have k:¬(a'.block !=d.block||decide (a'.block≥e.globals.size))=Y:=by
   simp only[Bool.or_eq_true,bne_iff_ne,ne_eq,fO,not_or,Decidable.not_not]at h⊢;rw[f.blk.2,g.blk.2,h.1];have i:a.block<e.globals.size:=by grind[J]
   refine⟨rfl,?_⟩;rw[<-h.1,c.fix _<|by omega];omega
  dsimp only;rw[if_neg h,if_neg k];refine W.bind' (FA<|f.mono j) ?_;rintro K x _ l rfl;refine W.bind' (FA<|g.mono<|by omega) ?_;rintro L C _ m rfl;exact .pure' rfl
theorem ar4(c:Fair ρ q)(k){a a' b d}(e:RA ρ I N a a')(f:RA ρ I N b d):W ρ I (J q fs) q (RV ρ I) N (Op.addrSub k a b)<|Op.addrSub k a' d:=by unfold Op.addrSub;refine W.bind' (adv c e f) ?_;rintro M⟨x,y⟩_ g rfl;exact .pure'<|RV.plain rfl
theorem ar5(c:Fair ρ q)(e){a a' b d}(f:RA ρ I N a a')(g:RA ρ I N b d):W ρ I (J q fs) q (RV ρ I) N (Op.addrCmp e a b)<|Op.addrCmp e a' d:=by unfold Op.addrCmp;refine W.bind' (adv c f g) ?_;rintro M⟨x,y⟩_ h rfl;dsimp only;split<;>first|exact .pure'<|RV.plain rfl|exact iw _ _
theorem ad4(k)(n){a a'}(b:RA ρ I N a a'):W ρ I (J q fs) q (RV ρ I) N (Op.addrMod k a n)<|Op.addrMod k a' n:=by
 unfold Op.addrMod;rw[b.blk.2];refine W.bind' (Ba b.1) ?_;rintro M s _ c rfl;split
 .refine W.bind' (rH _) ?_;rintro K i _ d⟨rfl,_⟩;dsimp only;split;.exact .dead<|y.bind (.halt _) _
  .refine W.bind' (FA<|b.mono<|by omega) ?_;rintro L x _ e rfl;exact .pure'<|RV.plain rfl
 .exact iw _ _
theorem aqT(b){x x'}(d:RV ρ I N x x'):W ρ I (J q fs) q (RV ρ I) N (Op.unary b x)<|Op.unary b x':=by obtain⟨c,rfl⟩:=d;cases b<;>cases x<;>first|exact T _ _|exact .pure<|RV.plain rfl|(simp[S]at c;done)|(rename_i a;cases a<;>first|exact T _ _|exact iw _ _)
theorem arC(c)(t)(k k')(a b):W ρ I (J q fs) q (RV ρ I) N (fZ c t (V k a)<|V k' b)<|fZ c t (V k a)<|V k' b:=by cases c<;>(unfold fZ;dsimp only[Op.shift,Op.intArith,Op.intDiv,Op.intBits,Op.intCmp];repeat' split)<;>first|exact T _ _|exact .dead<|lK _ _|exact .pure'<|RV.plain rfl|exact .pure<|RV.plain rfl
theorem aqY(c)(a b):W ρ I (J q fs) q (RV ρ I) N (OG c a b)<|OG c a b:=by cases c<;>(unfold OG;dsimp only;repeat' split)<;>first|exact T _ _|exact iw _ _|exact .pure'<|RV.plain rfl|exact .pure<|RV.plain rfl
theorem aDr(c)(t)(a b):fZ c t (aD a) (aD b)=OG c a b:=by cases c<;>rfl
theorem aqZ(c)(t)(a b):W ρ I (J q fs) q (RV ρ I) N (fZ c t (aD a)<|aD b)<|fZ c t a b:=by grind[aDr,aqY]
theorem adT(c:Fair ρ q)(t)(f:Bool->Bool){x x' y a}(d:RV ρ I N x x')(e:RV ρ I N y a):W ρ I (J q fs) q (RV ρ I) N (do bI<|f<|<-Op.equal t x y) (do bI<|f<|<-Op.equal t x' a):=by refine W.bind' (adS c _ N t x x' y a d e) ?_;rintro M b _ g rfl;exact .pure'<|RV.plain rfl
set_option maxHeartbeats 2000000 in
theorem ad0(k:∀b,N≤b→I.F b=Y)(e:Fair ρ q)(j)(t){x x' y p}(n:RV ρ I N x x')(m:RV ρ I N y p):W ρ I (J q fs) q (RV ρ I) N (fZ j t x y)<|fZ j t x' p:=by
  have a:=n;have c:=m;obtain⟨i,rfl⟩:=n;obtain⟨f,rfl⟩:=m;rcases x with H|⟨E,w⟩|⟨_,_⟩|⟨_,_,_⟩|s|(_|G)|⟨_,_,_⟩|_|_|⟨_,_,_⟩|_|⟨_,_⟩|_|_|_<;>(try(simp[S]at i;done))<;>rcases y with F|⟨L,A⟩|⟨_,_⟩|⟨_,_,_⟩|B|(_|D)|⟨_,_,_⟩|_|_|⟨_,_,_⟩|_|⟨_,_⟩|_|_|_<;>(try(simp[S]at f;done))<;>first|exact arC j t _ _ _ _|exact aqZ j t _ _|skip
  all_goals(cases j<;>first|exact T _ _|exact adT e t id a c|exact adT e t (!.) a c|exact iw _ _|exact Wc k t c a|exact Wc k t a<|RV.plain rfl|skip)
  all_goals first|(refine W.bind' (gC t) ?_;rintro M d _ g rfl;split<;>first|exact arh t (a.mono g)<|c.mono g|exact Wc fun b C=>k b<|by omega t (a.mono g)<|c.mono g)|(refine W.bind' (Iw<|RA.rN i) ?_;rintro M u v g⟨l,_⟩;first|exact ad4 _ _ l|(refine W.bind' (Iw<|RA.rN<|ff g f) ?_;rintro K r z o⟨h,_⟩;first|exact ar4 e _ (l.mono o) h|exact ar5 e _ (l.mono o) h))|(refine W.bind' (Iw<|RA.rN f) ?_;grind[ad4])
theorem adU(d):∀(N)(t)(x x' y j),RV ρ I N x x'->RV ρ I N y j->W ρ I (J q fs) q RD N (GY d t x y) (GY d t x' j):=by induction d with|zero=>intro N t x x' y j _ _;exact iw _ _|succ d p=>
  intro N t x x' y j hx hy;rw[GY,GY];refine W.bind' (gC t) ?_;rintro M s _ D rfl;obtain⟨g,rfl⟩:=hx;obtain⟨e,rfl⟩:=hy;split;case h_1=>exact .pure' rfl
  case h_2=>
   rename_i fields xs ys;simp only[F];refine W.bind' (R:=RD) (Wl (λN M a b _ h=>h) fields M _ _ (λf E L a b l c=>?_) rfl) ?_
   .cases c;split
    .refine W.bind' (vH _ _<|bD.zw g<|by omega) ?_;rintro O u w A o;refine W.bind' (vH _ _<|bD.zw e<|by omega) ?_;rintro P v z m k;refine W.bind' (p P _ _ _ _ _ (o.mono m) k) ?_;rintro Q b _ B rfl;split;.exact .pure'<|ax ⟨_,_,rfl,rfl,rfl⟩
     .exact .pure'<|aA ⟨_,_,rfl,rfl,rfl⟩
    .exact .pure'<|aA ⟨_,_,rfl,rfl,rfl⟩
   .rintro L r _ l rfl;split<;>exact .pure' rfl
  case h_3=>
   rename_i len elem xs ys;simp only[F];refine W.bind' (mZ _) ?_;rintro K n _ C rfl;refine W.bind' (R:=RD) (Wk (λN M a b _ h=>h) len K _ _ (λi L a b l c=>?_) rfl) ?_
   .cases c;refine W.bind' (vH _ _<|bD.zw g<|by omega) ?_;rintro O u w A o;refine W.bind' (vH _ _<|bD.zw e<|by omega) ?_;rintro P v z m k;refine W.bind' (p P _ _ _ _ _ (o.mono m) k) ?_;rintro Q b _ B rfl;split;.exact .pure'<|ax ⟨_,_,rfl,rfl,rfl⟩
    .exact .pure'<|aA ⟨_,_,rfl,rfl,rfl⟩
   .rintro L r _ l rfl;split<;>exact .pure' rfl
  case h_4 h1 h2 h3=>
   split;case h_1 ms _ _ hx hy=>
    cases x<;>simp only[F]at hx<;>try cases hx
    cases y<;>simp only[F]at hy<;>try cases hy
    grind
   case h_2 fields xs ys _ _ hx hy=>
    cases x<;>simp only[F]at hx<;>try cases hx
    cases y<;>simp only[F]at hy<;>try cases hy
    grind
   case h_3 len elem xs ys _ _ hx hy=>
    cases x<;>simp only[F]at hx<;>try cases hx
    cases y<;>simp only[F]at hy<;>try cases hy
    grind
   case h_4=>exact .pure' rfl
theorem adV(f)(t)(x y){a a' b h}(i:RV ρ I N a a')(j:RV ρ I N b h):W ρ I (J q fs) q RU N (eqGuard f t x y a b)<|eqGuard f t x y a' h:=by
  have e:=i;have c:=j;obtain⟨m,rfl⟩:=i;obtain⟨k,rfl⟩:=j;unfold eqGuard;have d:W ρ I (J q fs) q RU N (do match a,b with
      |nH,nH=>
        if x matches gJ _||y matches gJ _ then return
        if←GY Oz t a b then vh<|x7 "binop/eql: two nil values of an interface type with methods, neither of them the literal nil"|bJ _,bJ _=>
        if !(←program).eqGuardType (←program).depth t then return
        if←GY Oz t a b then vh<|x7 "binop/eql: two nil values of an interface type with methods, in a part of a struct or an array"|_,_=>bI ():cz Unit) (do match F ρ a,F ρ b with
      |nH,nH=>
        if x matches gJ _||y matches gJ _ then return
        if←GY Oz t (F ρ a) (F ρ b)then vh<|x7 "binop/eql: two nil values of an interface type with methods, neither of them the literal nil"|bJ _,bJ _=>
        if !(←program).eqGuardType (←program).depth t then return
        if←GY Oz t (F ρ a) (F ρ b)then vh<|x7 "binop/eql: two nil values of an interface type with methods, in a part of a struct or an array"|_,_=>bI ():cz Unit):=by cases a<;>cases b<;>first
      |exact .pure trivial|(simp only[F];cases x<;>cases y<;>first
           |exact .pure trivial
           | (refine W.bind' (adU _ _ _ _ _ _ _ e c) ?_;rintro M b _ l rfl;split;.exact iw _ _
              .exact .pure' trivial))
      | (simp only[F];refine W.bind' mu ?_;rintro M p g l⟨rfl,rfl⟩;refine W.bind' mu ?_;rintro K p g o⟨rfl,rfl⟩;have n:(J g fs).depth=g.depth:=rfl;rw[ajr,n];split;.exact .pure' trivial
         . refine W.bind' (adU _ _ _ _ _ _ _ (e.mono<|by omega)<|c.mono<|by omega) ?_;rintro L b _ r rfl;split;.exact iw _ _
           .exact .pure' trivial)
  cases f<;>first|exact d|exact .pure' trivial
theorem aqX(g:∀b,N<=b->I.F b=Y)(e)(s):W ρ I (J q fs) q (RV ρ I) N (akK e s)<|akK e s:=by
 unfold akK;refine W.bind' (Fz _) ?_;rintro M i _ k rfl;refine W.bind' (Iu λb m=>g b<|by omega e<|bD.plain λv c=>?_) ?_
 .rcases BB.1 c with c|c;.obtain⟨_,_,rfl⟩:=Array.mem_map.1 c;rfl
  .obtain⟨_,rfl⟩:=agF.1 c;rfl
 rintro K a h l d;have j:W ρ I (J q fs) q RU K (OE a)<|OE h:=by
  unfold OE;rw[d.blk.2];refine W.bind' (Ba d.1) ?_;rintro L o _ f rfl;split;.exact adM (a:={block:=a.block,off:=_}) ⟨H.eD d.1 f,rfl⟩ 1
  .exact .pure' trivial
 refine W.bind' j ?_;rintro L _ _ f _;exact .pure' ⟨by simpa[S]using H.eD d.1 f,by rw[d.2];simp[F]⟩
theorem K0.yield{σ a}{R:Nat->σ->a->Prop}{x}{y}(h:R N x y):K0 R N (.yield x)<|.yield y:=aA ⟨_,_,rfl,rfl,h⟩
theorem adN{σ d}{R:Nat->σ->d->Prop}(i:∀N M a b,N<=M->R N a b->R M a b){f}{f'}{l l'}(h:bD ρ I N l l')(a)(b)(g:∀x M a b,S I N x=Y->N<=M->R M a b->W ρ I (J q fs) q (K0 R) M (f x a) (f' (F ρ x) b))(c:R N a b):W ρ I (J q fs) q R N (forIn l a f)<|forIn l' b f':=by rw[h.2,<-MB,<-MB,yK];exact QF (ρ:=ρ) (I:=I) (q:=q) (fs:=fs) i (F ρ) l.toList N a b (f:=f) (f':=f') (λx j M a b e=>g x M a b (h.1 x<|by grind) e) c
theorem arS{x x'}(g:RV ρ I N x x'):W ρ I (J q fs) q (RV ρ I) N (akJ x)<|akJ x':=by
 obtain⟨e,rfl⟩:=g;unfold akJ;cases x<;>first|exact T _ _|skip
 rename_i a n c;cases a with|none=>exact .pure'<|RV.plain rfl|some a=>
  simp only[F,eG];refine W.bind' (QB ⟨by grind[S],rfl⟩ n) ?_;rintro M l j m f;refine W.bind' (R:=RD) (adN (λN M a b _ h=>h) f _ _ (λC K a b o i d=>?_) rfl) ?_
  .cases d;split;.rename_i k;exact .pure'<|.yield rfl
   .exact .dead<|y.bind (.halt _) _
  .rintro K s _ i rfl;exact .pure'<|RV.plain rfl
theorem aq6{x x'}(g:RV ρ I N x x'):W ρ I (J q fs) q (RV ρ I) N (akI x)<|akI x':=by
 obtain⟨e,rfl⟩:=g;unfold akI;cases x<;>first|exact T _ _|skip
 rename_i a n c;cases a with|none=>exact .pure'<|RV.plain rfl|some a=>
  simp only[F,eG];refine W.bind' (QB ⟨by grind[S],rfl⟩ n) ?_;rintro M l j m f;refine W.bind' (R:=RD) (adN (λN M a b _ h=>h) f _ _ (λC K a b o i d=>?_) rfl) ?_
  .cases d;split;.rename_i k;exact .pure'<|.yield rfl
   .exact .dead<|y.bind (.halt _) _
  .rintro K s _ i rfl;exact .pure'<|RV.plain rfl
theorem asX(s)(b):∀(i)(a),(∀v∈a,n v=Y)->∀v∈Conv.runesFrom s b i a,n v=Y:=by induction b with|zero=>intro i a h;exact h|succ b d=>
  intro i a h;unfold Conv.runesFrom;split
  .refine d _ _ λv c=>?_;rcases Array.mem_push.1 c with c|rfl;.grind
   .rfl
  grind
theorem aqW(f:∀b,N<=b->I.F b=Y)(e)(s):W ρ I (J q fs) q (RV ρ I) N (akH e s)<|akH e s:=by
 unfold akH;dsimp only;refine W.bind' (Fz _) ?_;rintro M g _ h rfl;refine W.bind' (Iu λb k=>f b<|by omega e<|bD.plain λv c=>?_) ?_
 .rcases BB.1 c with c|c;.grind[asX]
  .obtain⟨_,rfl⟩:=agF.1 c;rfl
 rintro K a i j d;exact .pure' ⟨by simpa[S]using d.1,by rw[d.2];simp[F]⟩
theorem VY(t):W ρ I (J q fs) q (λ_ a b=>a=b/\q.underlying t=U a) N (pq t)<|pq t:=by unfold pq;refine W.bind' mu ?_;rintro M a b d⟨rfl,c⟩;rw[c];show W ρ I (J q fs) q _ M (match q.underlying t with|some i=>bI i|none=>stuck "no such type") _;cases q.underlying t with|some i=>exact .pure ⟨rfl,rfl⟩|none=>grind[T]
theorem arq{a a'}(b:RA ρ I N a a'):W ρ I (J q fs) q RU N (OE a)<|OE a':=by
 unfold OE;rw[b.blk.2];refine W.bind' (Ba b.1) ?_;rintro L o _ c rfl;split;.exact adM (a:={block:=a.block,off:=_}) ⟨H.eD b.1 c,rfl⟩ 1
 .exact .pure' trivial
set_option maxHeartbeats 1000000 in
theorem arO(hF:∀b,N≤b→I.F b=Y)(hz:sK q)(f dst)(h1:q.underlying f≠U Ud)(A:q.underlying dst≠U Ud){x x'}(hx:RV ρ I N x x'):W ρ I (J q fs) q (RV ρ I) N (convert f dst x)<|convert f dst x':=by
  unfold convert;refine W.bind' (VY f) ?_;rintro M d _ C⟨rfl,E⟩;refine W.bind' (VY dst) ?_;rintro K e _ o⟨rfl,Q⟩;have j:=hx.mono<|bC C o;have w:∀k,d≠.float k:=fun k e=>hz.whole f k (by grind);have r:∀k,e≠.float k:=fun k e=>hz.whole dst k (by grind);have n3:∀k,e≠.complex k:=fun k e=>hz.real dst k (by grind);have y:d≠Ud:=fun e=>h1 (by grind);have n5:e≠Ud:=fun e=>A (by grind);have h:∀b,K≤b→I.F b=Y:=by grind
  obtain⟨D,rfl⟩:=j;rcases x with xb|⟨G,xn⟩|⟨_,_⟩|⟨_,_,_⟩|xs|(_|B)|⟨(_|B),_,_⟩|_|_|⟨_,_,_⟩|_|⟨_,_⟩|_|_|_<;>(try(simp[S]at D;done))<;>cases d<;>(try(first|exact absurd rfl<|w _|exact absurd rfl y))<;>cases e<;>(try(first|exact absurd rfl<|r _|exact absurd rfl n5))<;>first
    |exact iw _ _|exact .pure<|RV.plain rfl
    | (refine W.bind' (gC _) ?_;rintro L u _ i rfl;generalize(f==dst)=z;split;.refine W.bind' (arq (a:=B) ⟨H.eD (by simpa[S]using D) i,rfl⟩) ?_;rintro O _ _ P _;exact .pure' ⟨ff (by omega) D,rfl⟩
       .exact iw _ _)|(refine W.bind' (gC _) ?_;rintro L u _ i rfl;cases u<;>first|exact T _ _|exact iw _ _|(rename_i k;cases k<;>first|exact T _ _|exact iw _ _|exact aqX fun b p=>h b<|by omega _ _|exact aqW fun b p=>h b<|by omega _ _|exact arS ⟨ff i D,rfl⟩|exact aq6 ⟨ff i D,rfl⟩|skip))|skip
  all_goals trace_state
theorem alW:∀N M a b,N<=M->RU N a b->RU M a b:=λ_ _ _ _ _ h=>h
theorem QI(c)(d):∀(N)(t)(x x'),RV ρ I N x x'->W ρ I (J q fs) q RU N (Cj c d t x) (Cj c d t x'):=by induction d with|zero=>intro N t x x' _;exact iw _ _|succ d k=>
  intro N t x x' o;rw[Cj,Cj];refine W.bind' (gC t) ?_;rintro M f _ s rfl;obtain⟨e,rfl⟩:=o;cases f<;>try exact .pure' trivial
  case array len elem=>
   cases x<;>try exact T _ _
   rename_i l;simp only[F];refine W.bind' (Wk (R:=RU) alW len M _ _ (λi L a b h j=>?_) trivial) λL _ _ h _=>.pure' trivial;refine W.bind' (mZ _) ?_;rintro O n _ C rfl;refine W.bind' (vH _ _<|bD.zw e<|by omega) ?_;rintro P v m r g;refine W.bind' (k P _ _ _ g) ?_;rintro Q _ _ u _;exact .pure'<|aA ⟨_,_,rfl,rfl,trivial⟩
  case struct fields=>
   cases x<;>try exact T _ _
   rename_i l;simp only[F];refine W.bind' (Wl (R:=RU) alW fields M _ _ (λi w L a b h j=>?_) trivial) λL _ _ h _=>.pure' trivial;split;.refine W.bind' (vH _ _<|bD.zw e<|by omega) ?_;rintro P v m r g;refine W.bind' (k P _ _ _ g) ?_;rintro Q _ _ u _;exact .pure'<|aA ⟨_,_,rfl,rfl,trivial⟩
   .exact .pure'<|aA ⟨_,_,rfl,rfl,trivial⟩
  case interface ms=>
   cases x<;>try exact T _ _
   .rename_i t v;simp only[F];refine W.bind' (rH _) ?_;rintro K i _ p⟨rfl,_⟩;split
    .refine .dead ?_;split;.exact y.bind (lK _ _) _
     .exact y.then _ λ_=>y.bind (lK _ _) _
    .exact k K _ _ _ ⟨ff (bC s p)<|by grind[S],rfl⟩
   .exact .pure' trivial
def jO(ρ:Nat->Nat)(I:H)(N:Nat)(es es':Array mL):Prop:=(∀e∈es,qK I N e=Y)/\es'=es.map (kS ρ)
theorem afD{e}(a:N<=M)(h:qK I N e=Y):qK I M e=Y:=by simp only[qK,cV]at h⊢;grind[ff]
theorem jO.mono{es es'}(h:jO ρ I N es es')(c:N<=M):jO ρ I M es es':=⟨λe b=>by have:=h.1 e b;simp only[qK,cV]at this⊢;grind[ff],h.2⟩
theorem ajS(a:TypeDesc)(k:az):∀(es:List mL)(i:Nat),Ck a (F ρ k) (es.map<|kS ρ) i=(Ck a k es i).map λo=>o.map λx=>(x.1,F ρ x.2)
 |[],i=>rfl|e::es,i=>by
  have c:EN a (F ρ k) (kS ρ e).key=EN a k e.key:=by show EN a (F ρ k) (F ρ e.key)=_;cases k<;>cases d:e.key<;>cases a<;>simp[EN,F]
  simp only[gd,Ck,c];cases EN a k e.key with|none=>rfl|some b=>cases b with|true=>rfl|false=>exact ajS a k es<|i+1
theorem ajT(a:TypeDesc)(k:az):∀(es:List mL)(i j:Nat)(v:az),Ck a k es i=U (U (j,v))->∃e∈es,e.val=v
 |[],i,j,v,h=>by simp[Ck]at h|e::es,i,j,v,h=>by
  simp only[Ck]at h;split at h;.grind
  .obtain⟨d,b,c⟩:=ajT a k es _ _ _ h;grind
  grind
def RF(ρ:Nat->Nat)(I:H)(N:Nat)(o o':Option<|Nat×az):Prop:=(∀x,o=U x->S I N x.2=Y)/\o'=o.map λx=>(x.1,F ρ x.2)
theorem adO(a:Fair ρ q)(t:ey){k k':az}:∀(es:List mL)(N i:Nat),RV ρ I N k k'->(∀e∈es,qK I N e=Y)->W ρ I (J q fs) q (RF ρ I) N (abb t k es i) (abb t k' (es.map<|kS ρ) i)
 |[],N,i,_,_=>by simp only[List.map_nil,abb];exact .pure' ⟨by simp,rfl⟩|e::es,N,i,f,h=>by
  simp only[gd,abb];have c:=h e (by simp);simp only[qK,cV]at c;refine W.bind' (adS a _ N t _ _ _ _ f ⟨c.1,rfl⟩) ?_;rintro M b _ d rfl;split;.exact .pure' ⟨by grind[ff],rfl⟩
  .exact adO a t es M (i+1) (f.mono d) λe c=>afD d<|h e<|by simp[c]
theorem Wo(b:Fair ρ q)(t){k k'}{es es'}(f:RV ρ I N k k')(h:jO ρ I N es es'):W ρ I (J q fs) q (RF ρ I) N (Kw t k es.toList)<|Kw t k' es'.toList:=by unfold Kw;refine W.bind' (gC t) ?_;rintro M d _ c rfl;rw[h.2,yK,f.2,ajS];cases g:Ck d k es.toList 0 with|none=>simp only[Jc];exact adO b t es.toList M 0 ⟨ff c f.1,rfl⟩ λe i=>(h.mono c).1 e<|by grind|some o=>simp only[eG];refine .pure' ⟨?_,rfl⟩;rintro⟨j,v⟩rfl;obtain⟨e,i,rfl⟩:=ajT _ _ _ _ _ _ g;have:=h.1 e (by grind);simp only[qK,cV]at this;grind[ff]
theorem jO.empty:jO ρ I N #[] #[]:=⟨by simp,by simp⟩
theorem jO.isEmpty{es es'}(h:jO ρ I N es es'):es'.isEmpty=es.isEmpty:=by rw[h.2];simp[Array.isEmpty]
theorem arx(n:Fair ρ q)(D:sK q)(t)(k){x x' i m}(z:RV ρ I N x x')(u:RV ρ I N i m):W ρ I (J q fs) q (RV ρ I) N (OD t x i k)<|OD t x' m k:=by
 unfold OD;refine W.bind' (gC t) ?_;rintro M d _ E rfl;cases d<;>try exact T _ _
 rename_i f e;dsimp only;have h:∀(K:Nat)(j g:Array mL),M<=K->jO ρ I K j g->W ρ I (J q fs) q (RV ρ I) K (do
    Cj j.isEmpty 10000 f i;let(v,Q)<-match<-Kw f i j.toList with|some (_,v)=>bI (v,Y)|none=>bI (<-lu e,ai)
    bI<|if k then bO #[v,Q]else v:cz az) (do
    Cj g.isEmpty 10000 f m;let(v,Q)<-match<-Kw f m g.toList with|some (_,v)=>bI (v,Y)|none=>bI (<-lu e,ai)
    bI<|if k then bO #[v,Q]else v:cz az):=λK j g s l=>by
  rw[l.isEmpty];refine W.bind' (QI _ _ _ _ _ _<|u.mono<|by omega) ?_;rintro L _ _ A _;refine W.bind' (Wo n _ (u.mono<|by omega)<|l.mono A) ?_;rintro O o B R⟨Q1,rfl⟩;have w:∀(P:Nat)(v:az)(b:Bool),S I P v=Y->W ρ I (J q fs) q (RV ρ I) P (bI<|if k then bO #[v,b]else v) (bI<|if k then bO #[F ρ v,b]else F ρ v):=λP v b p=>by
   split;.exact .pure'<|RV.tuple (vs:=#[v,b]) (vs':=#[F ρ v,b])<|(bD.nil.push ⟨p,rfl⟩).push<|RV.plain rfl
   .exact .pure' ⟨p,rfl⟩
  cases o with|some x=>grind|none=>simp only[Jc];refine W.bind' (C8 D e) ?_;rintro P v G Q0⟨⟨C,rfl⟩,_⟩;grind
 obtain⟨a,rfl⟩:=z;cases x<;>try exact .dead<|y.bind (.halt _) _
 rename_i r;cases r with|none=>exact h M #[] #[] (aS _) jO.empty|some r=>
  simp only[F,eG];refine W.bind' (vI<|H.eD (by grind[S]) E) ?_;rintro K o B s⟨Q1,rfl⟩;cases o<;>first|exact .dead<|y.bind (.halt _) _|skip
  rename_i j c;exact h K j _ s ⟨by grind[eF,Array.all_eq_true_iff_forall_mem],rfl⟩
end
end Go.Proofs.YtpdbmpbmepkikaaGreatDoor
