/- Laws. -/
import GoSem.Dispatch
import GoSem.Op.String
import Derived.Lib.Hide
set_option maxRecDepth 100000
set_option maxHeartbeats 400000
set_option linter.all false
open Array renaming range->Fg
open Bool renaming true->Z,false->ai
open Decidable renaming decide->cq
open Go renaming runtimePanic->AW,store->CP,markStringish->LP,World->av,Value->ay,Program->bU,Sem->cy,Func->dV,TypeId->dZ,Addr->eK,FuncId->fb,binOp->gw,Event->iW,zeroValue->kG,MapEntry->l6,underlying->oq,getObj->qc,boundsPanic->sK,unsupported->ua
open Go.BoundsCode renaming index->zc
open Go.Builtin renaming unsafeAdd_->Im,holdsCells->azc
open Go.Conv renaming bytesToString->ag0,stringToBytes->ag1,stringToRunes->agY,runesToString->agZ
open Go.Fn renaming yield->A0,func->ep
open Go.Instr renaming sliceBound->AN,checkKey->AY,findNow->AZ,sureAddr->CV,loadAt->CW,sameNow->CY,extract->Fe,findKey->Ij,lookup->LO,index->LS,makeMap->LV,storeAt->Qj,findAsking->Xq,makeSlice->agU,arrayAt->aza,fill->sG,indexAt->wE,fieldAt->x8
open Go.IntKind renaming i64->aH
open Go.Loc renaming mark->ia
open Go.Mode renaming plain->kS,atomic->pB
open Go.Obj renaming cells->aF,map->iP,mapIter->uc,deferred->wG,loop->ze
open Go.Op renaming eqGuardIn->Ff,bytesLess->Ih,maxDepth->LK,stringOp->LR,equalIn->rf
open Go.Operand renaming const->gB
open Go.Program renaming alikeButTags->ay8
open Go.Result renaming ok->aV,halt->dL
open Go.Sem renaming runT->fe,bind->vc
open Go.TypeDesc renaming unsafePointer->Qh
open Go.Unsupported renaming noEntry->wH
open Go.Value renaming cells->AV,int->Y,slice->aD,pointer->aE,string->aG,agg->bN,tuple->bO,chan->cY,map->cj,bool->cz,func->dH,iface->iv,nilIface->mF
open Go.World renaming farLoad->Xh,freeze->agO,setCell->jE,cell?->og,frozen?->wI
open Option renaming some->U,none->V
open Or renaming inr->aA,inl->ax
open Pure renaming pure->bH
namespace Go.Proofs.YtpdbmpbmepkikaaGreatDoor
def cS:=@Bool.and_eq_true
def fI:=@decide_eq_true_eq
def B1:=@Option.all_some
def ey:=@Option.map_some
def kC:=@Array.all_eq_true_iff_forall_mem
def JW:=@Array.map_congr_left
def aW:=@Nat.le_refl
def bq:=@Nat.le_trans
def cF:=@Nat.lt_of_lt_of_le
def yO:=@Go.Sem.runT.eq_def
def OR:=@Nat.le_of_succ_le
def yM:=@Array.getElem?_modify
def xI:=@Option.map_eq_some_iff
def adr:=@Array.size_push
def GH:=@Nat.le_succ
def Aj:=@Array.mem_append
def iq:=@Array.getElem?_eq_getElem
def fJ:=@List.mem_toArray
def dh:=@List.mem_cons
def dJ:=@List.not_mem_nil
def dO:=@or_false
def tJ:=@Array.size_setIfInBounds
def tI:=@Array.mem_of_getElem?
def pS:=@Array.getElem?_map
def xE:=@Array.toList_map
def fS:=@List.map_cons
def adb:=@Array.toList_zipIdx
def J4:=@Array.foldl_toList
def ac1:=@Option.isSome_map
def ec:=@Option.some.injEq
def J0:=@beq_eq_false_iff_ne
def JZ:=@Array.forIn_toList
def acZ:=@Std.Legacy.Range.forIn_eq_forIn_range'
def Gw:=@Option.map_none
def acY:=@Array.mem_replicate
section
instance:CoeOut av Nat:=⟨λw=>w.heap.size⟩
instance:Coe Nat eK:=⟨λb=>⟨b,0,V⟩⟩
instance:Coe ByteArray ay:=⟨aG⟩
instance:Coe Int ay:=⟨Y aH⟩
instance:Coe Nat ay:=⟨λn=>Y aH n⟩
instance:Coe Bool ay:=⟨cz⟩
structure cI(A B:Prop):Prop where
 a:A
 b:B
structure gD(A B C:Prop):Prop where
 a:A
 b:B
 c:C
structure sV(A B C D:Prop):Prop where
 a:A
 b:B
 c:C
 d:D
structure Bi(A B C D E:Prop):Prop where
 a:A
 b:B
 c:C
 d:D
 e:E
structure zw(A B C D E F:Prop):Prop where
 a:A
 b:B
 c:C
 d:D
 e:E
 f:F
structure Df(A B C D E F G:Prop):Prop where
 a:A
 b:B
 c:C
 d:D
 e:E
 f:F
 g:G
structure Bh(A B C D E F G H:Prop):Prop where
 a:A
 b:B
 c:C
 d:D
 e:E
 f:F
 g:G
 h:H
structure Hq9(A B C D E F G H I:Prop):Prop where
 a:A
 b:B
 c:C
 d:D
 e:E
 f:F
 g:G
 h:H
 i:I
structure ais(A B C D E F G H I J:Prop):Prop where
 a:A
 b:B
 c:C
 d:D
 e:E
 f:F
 g:G
 h:H
 i:I
 j:J
structure air(A B C D E F G H I J K:Prop):Prop where
 a:A
 b:B
 c:C
 d:D
 e:E
 f:F
 g:G
 h:H
 i:I
 j:J
 k:K
structure aBl(A B C D E F G H I J K L:Prop):Prop where
 a:A
 b:B
 c:C
 d:D
 e:E
 f:F
 g:G
 h:H
 i:I
 j:J
 k:K
 l:L
theorem ex{α}(e:α):∃x,x=e:=⟨_,rfl⟩
theorem kp{p:Prop}(h:p):p:=h
structure s where
 name:ByteArray
 field:ByteArray
 c:Int
 r:Int
 value:ByteArray
 deriving DecidableEq
def iA(n f:ByteArray):ByteArray:=n++⟨#[46]⟩++f++⟨#[0]⟩
def s.key(x:s):ByteArray:=iA x.name x.field
def PX(a b:ByteArray):Bool:= !(Ih a.toList b.toList||a.toList==b.toList)
def xw(c r c' r':Int):Bool:=cq (c'<c)||(cq (c=c')&&cq (r'<r))
def xh(a b:s):Bool:=if a.c=b.c∧a.r=b.r then PX a.value b.value else xw a.c a.r b.c b.r
def fq:List s->s->List s
 | [],x=> [x]
 |y::l,x=>if y.key=x.key then(if xh x y then x::l else y::l) else y::fq l x
section
variable (ρ:Nat->Nat)
def dA(a:eK):eK:={a with block:=ρ a.block}
def zR:Fn->Fn
 |A0 l=>A0 (ρ l)
 |f=>f
mutual
def F:ay->ay
 |cz b=>cz b
 |Y k n=>Y k n
 |.float k b=>.float k b
 |.complex k a b=>.complex k a b
 |aG s=>aG s
 |aE a=>aE (a.map (dA ρ))
 |aD a n c=>aD (a.map (dA ρ)) n c
 |cj r=>cj (r.map ρ)
 |cY r=>cY (r.map ρ)
 |dH fn first cap=>dH (zR ρ fn) (mU first) (mU cap)
 |.nilFunc=>.nilFunc
 |iv t v=>iv t (F v)
 |mF=>mF
 |bN cs=>bN (mU cs)
 |bO vs=>bO (mU vs)
def mU:Array ay->Array ay
 |⟨l⟩=>⟨oU l⟩
def oU:List ay->List ay
 | []=> []
 |v::l=>F v::oU l
end
theorem apD(l):oU ρ l=l.map (F ρ):=by
 induction l with
 |nil=>grind[oU]
 |cons v l a=>grind[oU]
theorem wY(l):mU ρ l=l.map (F ρ):=by
 cases l with
 |mk l=>grind[mU,apD]
end
mutual
def n:ay->Bool
 |dH _ _ _=>ai
 |iv _ v=>n v
 |bN cs=>Gf cs
 |bO vs=>Gf vs
 |aE a=>a.isNone
 |aD a _ _=>a.isNone
 |cj r=>r.isNone
 |cY r=>r.isNone
 |cz _|Y _ _|aG _|.nilFunc|mF=>Z
 |.float _ _|.complex _ _ _=>ai
def Gf:Array ay->Bool
 |⟨l⟩=>BL l
def BL:List ay->Bool
 | []=>Z
 |v::l=>n v&&BL l
end
structure Di where
 g:Nat
 lo:Nat
 c:Array ay
 e:dZ
 f:Nat×Nat
 c':Array ay
 e':dZ
 f':Nat×Nat
 rel:∀i x,lo<=i->c[i]? =U x->n x=Z∧c'[i]? =U x
structure H where
 T:fb->Bool
 F:Nat->Bool
 gh:Code->Bool
 cut:fb->Nat->Bool
 D:fb->Nat->Bool:=λ_ _=>ai
 DF:fb->Bool:=λ_=>ai
 arg:Option Di:=V
def H.blk(I:H)(N b:Nat):Bool:=cq (b<N)&&I.F b
theorem H.eu{I:H}{N M b}(h:I.blk N b=Z)(a:N<=M):I.blk M b=Z:=by
 simp only[H.blk,cS,fI] at h⊢
 grind
section
variable (I:H) (N:Nat)
def tG:Fn->Bool
 |ep f=>I.T f
 |A0 l=>I.blk N l
 |_=>ai
mutual
def S:ay->Bool
 |dH fn first cap=>tG I N fn&&oV first&&oV cap
 |iv _ v=>S v
 |bN cs=>oV cs
 |bO vs=>oV vs
 |aE a=>a.all λa=>I.blk N a.block
 |aD a _ _=>a.all λa=>I.blk N a.block
 |cj r=>r.all λr=>I.blk N r
 |cY r=>r.isNone
 |cz _|Y _ _|aG _|.nilFunc|mF=>Z
 |.float _ _|.complex _ _ _=>ai
def oV:Array ay->Bool
 |⟨l⟩=>nQ l
def nQ:List ay->Bool
 | []=>Z
 |v::l=>S v&&nQ l
end
theorem aqZ(l):nQ I N l=l.all (S I N):=by
 induction l with
 |nil=>grind[nQ]
 |cons v l a=>grind[nQ]
theorem DR(l):oV I N l=l.all (S I N):=by
 cases l with
 |mk l=>grind[oV,aqZ]
end
section
variable {I:H} {N M:Nat}
theorem aq2{f}(h:tG I N f=Z)(a:N<=M):tG I M f=Z:=by cases f<;>first|exact h|exact H.eu h a
mutual
theorem eX (hN:N<=M):∀{v:ay},S I N v=Z->S I M v=Z
 |dH fn first cap,h=>by simp only[S,cS] at h⊢;exact⟨⟨aq2 h.1.1 hN,NY hN h.1.2⟩,NY hN h.2⟩
 |iv t v,h=>by simp only[S] at h⊢;exact eX hN h
 |bN cs,h=>by simp only[S] at h⊢;exact NY hN h
 |bO cs,h=>by simp only[S] at h⊢;exact NY hN h
 |aE V,h=>by simp[S]
 |aE (U a),h=>by simp only[S,B1] at h⊢;exact H.eu h hN
 |aD V _ _,h=>by simp[S]
 |aD (U a) _ _,h=>by simp only[S,B1] at h⊢;exact H.eu h hN
 |cj V,h=>by simp[S]
 |cj (U a),h=>by simp only[S,B1] at h⊢;exact H.eu h hN
 |cY r,h=>by simp only[S] at h⊢;exact h
 |cz _,_=>by simp[S]
 |Y _ _,_=>by simp[S]
 |.float _ _,h=>by simp[S] at h
 |.complex _ _ _,h=>by simp[S] at h
 |aG _,_=>by simp[S]
 |.nilFunc,_=>by simp[S]
 |mF,_=>by simp[S]
theorem NY (hN:N<=M):∀{v:Array ay},oV I N v=Z->oV I M v=Z
 |⟨l⟩,h=>by simp only[oV] at h⊢;exact abQ hN h
theorem abQ (hN:N<=M):∀{v:List ay},nQ I N v=Z->nQ I M v=Z
 | [],_=>by simp[nQ]
 |v::l,h=>by simp only[nQ,cS] at h⊢;exact⟨eX hN h.1,abQ hN h.2⟩
end
end
section
variable {I:H} {N:Nat} {ρ σ:Nat->Nat} (qM:∀b,b<N->ρ b=σ b)
include qM
theorem Tl{a}(h:I.blk N a.block=Z):dA ρ a=dA σ a:=by
 simp only[H.blk,cS,fI] at h
 grind[dA]
theorem apG{f}(h:tG I N f=Z):zR ρ f=zR σ f:=by
 cases f<;>try rfl
 simp only[tG,H.blk,cS,fI] at h
 grind[zR]
mutual
theorem BG:∀{v:ay},S I N v=Z->F ρ v=F σ v
 |dH fn first cap,h=>by simp only[S,cS] at h;simp only[F];rw[apG qM h.1.1,NL h.1.2,NL h.2]
 |iv t v,h=>by simp only[S] at h;simp only[F];rw[BG h]
 |bN cs,h=>by simp only[S] at h;simp only[F];rw[NL h]
 |bO cs,h=>by simp only[S] at h;simp only[F];rw[NL h]
 |aE V,h=>by simp[F]
 |aE (U a),h=>by simp only[S,B1] at h;simp only[F,ey];rw[Tl qM h]
 |aD V _ _,h=>by simp[F]
 |aD (U a) _ _,h=>by simp only[S,B1] at h;simp only[F,ey];rw[Tl qM h]
 |cj V,h=>by simp[F]
 |cj (U r),h=>by simp only[S,B1,H.blk,cS,fI] at h;simp only[F,ey];rw[qM _ h.1]
 |cY V,h=>by simp[F]
 |cY (U r),h=>by simp[S] at h
 |cz _,_=>by simp[F]
 |Y _ _,_=>by simp[F]
 |.float _ _,_=>by simp[F]
 |.complex _ _ _,_=>by simp[F]
 |aG _,_=>by simp[F]
 |.nilFunc,_=>by simp[F]
 |mF,_=>by simp[F]
theorem NL:∀{v:Array ay},oV I N v=Z->mU ρ v=mU σ v
 |⟨l⟩,h=>by simp only[oV] at h;simp only[mU];rw[aa1 h]
theorem aa1:∀{v:List ay},nQ I N v=Z->oU ρ v=oU σ v
 | [],_=>by simp[oU]
 |v::l,h=>by simp only[nQ,cS] at h;simp only[oU];rw[BG h.1,aa1 h.2]
end
end
section
variable (ρ:Nat->Nat)
def ko(e:l6):l6:={key:=F ρ e.key,val:=F ρ e.val,born:=e.born}
def BH(l:Loop):Loop:={l with tmps:=l.tmps.map (F ρ),defers:=ρ l.defers}
def eV:Obj->Obj
 |aF c e f=>aF (c.map (F ρ)) e f
 |iP es c=>iP (es.map (ko ρ)) c
 |uc m s E st=>uc (m.map ρ) s E st
 |ze l=>ze (BH ρ l)
 |.number a l=>.number (dA ρ a) l
 |o=>o
end
section
variable (I:H) (N:Nat)
def pP(e:l6):Bool:=S I N e.key&&S I N e.val
def mY(l:Loop):Bool:=l.tmps.all (S I N)&&I.gh l.assign&&I.gh l.body&&(l.pending.all λc=>I.gh c)&&I.T l.fn&&I.blk N l.defers
def ew:Obj->Bool
 |aF c _ _=>c.all (S I N)
 |iP es _=>es.all (pP I N)
 |.stringIter _ _=>Z
 |uc m _ _ _=>m.all λm=>I.blk N m
 |ze l=>mY I N l
 |wG ds=>ds.all λl=>l.isEmpty
 |.number a _=>I.blk N a.block
 |_=>ai
end
section
variable {I:H} {N M:Nat}
theorem abR(c:N<=M){o}(h:ew I N o=Z):ew I M o=Z:=by
 cases o<;>simp only[ew,kC] at h⊢
 case cells=>grind[eX]
 case map=>
  intro x b;have:=h x b;simp only[pP] at this⊢
  grind[eX]
 case mapIter m _ _ _=>
  cases m with
  |none=>simp
  |some m=>grind[H.eu]
 case loop l=>
  simp only[mY,cS] at h⊢
  grind[eX,H.eu]
 case number=>grind[H.eu]
 all_goals grind
theorem aa2{ρ σ}(c:∀b,b<N->ρ b=σ b){o}(h:ew I N o=Z):eV ρ o=eV σ o:=by
 cases o<;>simp only[ew,kC] at h<;>simp only[eV]
 case cells=>grind[Array.map_congr_left,BG]
 case map=>
  rw[JW λx d=>?_];have:=h x d;simp only[pP] at this;simp only[ko];grind[BG]
 case mapIter m _ _ _=>
  cases m with
  |none=>simp
  |some m=>
   simp only[H.blk,cS] at h
   grind
 case loop l=>
  simp only[mY,cS,kC,H.blk] at h;simp only[BH]
  grind[Array.map_congr_left,BG]
 grind[Tl]
end
def Uh:Mark->Bool
 |.noRoom|.extern _=>Z
 |_=>ai
def soft:Halt->Bool
 |.unsupported (.initOrder _)=>ai
 |.unsupported _=>Z
 |.stuck _=>Z
 |.panic _=>Z
 |_=>ai
def iZ(w w':av):Prop:=w.heap.size<=w'.heap.size∧∀b,b<w.heap.size->w'.heap[b]? =w.heap[b]?
theorem iZ.refl(w):iZ w w:=⟨aW _,λ_ _=>rfl⟩
theorem iZ.trans{u v w}(h:iZ u v)(k:iZ v w):iZ u w:=⟨bq h.1 k.1,λb c=>(k.2 b (cF c h.1)).trans (h.2 b c)⟩
theorem iZ.push(w)(o):iZ w {w with heap:=w.heap.push o}:=⟨by simp,λb a=>by grind⟩
def z{α:Type}(p:bU)(s:cy α):Prop:=∀(w:av) (es:Array iW),∃h w',(s.runT p w es).1=dL h w'∧soft h=Z∧iZ w w'
inductive W{α β:Type}(ρ:Nat->Nat)(I:H)(p q:bU)(R:Nat->α->β->Prop):Nat->cy α->cy β->Prop
 |pure {N a b} (h:R N a b):W ρ I p q R N (.pure a) (.pure b)
 |load {N a k k'} (ha:I.blk N a.block=Z) (h:∀v,S I N v=Z->W ρ I p q R N (k v) (k' (F ρ v))):W ρ I p q R N (.load kS a k) (.load kS (dA ρ a) k')
 |Gq {N a k k'} {A:Di} (hA:I.arg=U A) (hg:a.block=A.g) (hlo:A.lo<=a.off) (h:∀v,n v=Z->W ρ I p q R N (k v) (k' v)):W ρ I p q R N (.load kS a k) (.load kS a k')
 |store {N a v k k'} (ha:I.blk N a.block=Z) (hv:S I N v=Z) (h:W ρ I p q R N k k'):W ρ I p q R N (.store kS a v k) (.store kS (dA ρ a) (F ρ v) k')
 |new {N o k k'} (ho:ew I N o=Z) (h:W ρ I p q R (N+1) (k N) (k' (ρ N))):W ρ I p q R N (.new o k) (.new (eV ρ o) k')
 |shape {N r k k'} (hr:I.blk N r=Z) (h:∀s,W ρ I p q R N (k s) (k' s)):W ρ I p q R N (.shape r k) (.shape (ρ r) k')
 |freeze {N a d k k'} (ha:I.blk N a.block=Z) (h:W ρ I p q R N k k'):W ρ I p q R N (.freeze a d k) (.freeze (dA ρ a) d k')
 |frozen {N a k k'} (ha:I.blk N a.block=Z) (h:∀b,W ρ I p q R N (k b) (k' b)):W ρ I p q R N (.frozen a k) (.frozen (dA ρ a) k')
 |getObj {N r k k'} (hr:I.blk N r=Z) (h:∀o,ew I N o=Z->W ρ I p q R N (k o) (k' (eV ρ o))):W ρ I p q R N (.getObj r k) (.getObj (ρ r) k')
 |setObj {N r o k k'} (hr:I.blk N r=Z) (ho:ew I N o=Z) (hc:∀c e f,o≠aF c e f) (h:W ρ I p q R N k k'):W ρ I p q R N (.setObj r o k) (.setObj (ρ r) (eV ρ o) k')
 |choose {N x k k'} (h:∀d,W ρ I p q R N (k d) (k' d)):W ρ I p q R N (.choose x k) (.choose x k')
 |program {N k k'} (h:W ρ I p q R N (k p) (k' q)):W ρ I p q R N (.program k) (.program k')
 |mark {N m k k'} (hm:Uh m=Z) (h:W ρ I p q R N k k'):W ρ I p q R N (.mark m k) (.mark m k')
 |dead {N s s'} (hd:z p s):W ρ I p q R N s s'
variable {ρ:Nat->Nat} {I:H} {p q:bU}
theorem z.halt{b}(h)(hs:soft h=Z:=by rfl):z p (.halt h:cy b):=λw c=>⟨h,w,by rw[fe],hs,iZ.refl w⟩
theorem z.program{c}{k:bU->cy c}(h:z p (k p)):z p (.program k):=λw b=>h w b
theorem aaC {t g : Type} (s : cy t) (k : t → cy g) : ∀ (w : av) (es : Array iW), (s.bind k).runT p w es = match s.runT p w es with
    | (aV a f, e) => (k a).runT p f e
    | (dL h f, e) => (dL h f, e) := by
  induction s with
  | pure a => intro w es; simp [vc, fe]
  | load m a k d =>
    intro w es
    simp only [vc, fe]
    grind
  | store m a v k d =>
    intro w es
    cases v <;> simp only [vc, fe]
    all_goals
      first
      | rfl
      | (split
         · grind
         grind)
  | new o k d => intro w es; simp only [vc, fe]; grind
  | shape r k d => intro w es; simp only [vc, fe]; grind
  | freeze a n k d => intro w es; simp only [vc, fe]; grind
  | frozen a k d => intro w es; simp only [vc, fe]; grind
  | getObj r k d =>
    intro w es
    simp only [vc]
    rw [yO, yO p (.getObj r k)]
    simp only
    split
    · rfl
    · grind
    grind
  | setObj r o k d =>
    intro w es
    simp only [vc]
    rw [yO, yO p (.setObj r o k)]
    simp only
    split
    · rfl
    · exact d _ _
    grind
  | choose x k d =>
    intro w es
    simp only [vc, fe]
    split
    · exact d _ _ _
    · exact d _ _ _
  | sys c k d => intro w es; simp only [vc, fe]; exact d _ _ _
  | program k d => intro w es; simp only [vc, fe]; exact d _ _ _
  | mark m k d => intro w es; simp only [vc, fe]; exact d _ _
  | halt h => intro w es; simp only [vc, fe]
theorem z.bind{d c}{s}(h:z p s)(k:d->cy c):z p (s.bind k):=λw b=>by
 obtain⟨x,i,e,f,g⟩:=h w b
 grind[aaC]
class inductive Calm {α:Type}:cy α->Prop
 |pure (a:α):Calm (.pure a)
 |new {o:Obj} {k:Nat->cy α} (h:∀n,Calm (k n)):Calm (.new o k)
 |shape {r:Nat} {k:Option (dZ×Nat)->cy α} (h:∀n,Calm (k n)):Calm (.shape r k)
 |frozen {a:eK} {k:Bool->cy α} (h:∀n,Calm (k n)):Calm (.frozen a k)
 |choose {x:Question} {k:Nat->cy α} (h:∀n,Calm (k n)):Calm (.choose x k)
 |sys {c:Sys} {k:SysRet->cy α} (h:∀n,Calm (k n)):Calm (.sys c k)
 |program {k:bU->cy α} (h:∀n,Calm (k n)):Calm (.program k)
 |mark {m:Mark} {k:cy α} (h:Calm k):Calm (.mark m k)
 |halt {h:Halt} (hs:soft h=Z):Calm (.halt h)
theorem Calm.bind{g f}{s}{k:g->cy f}(h:Calm s)(e:∀a,Calm (k a)):Calm (s.bind k):=by
 induction h with
 |pure a=>exact e a
 |new _ c=>exact .new c
 |shape _ c=>exact .shape c
 |frozen _ c=>exact .frozen c
 |choose _ c=>exact .choose c
 |sys _ c=>exact .sys c
 |program _ c=>exact .program c
 |mark _ c=>exact .mark c
 |halt d=>exact .halt d
theorem aAq{e}(k:Ask e):∀w:av,(w.ask k).2.heap=w.heap:=by
 induction k with
 |done a=>intro w;rfl
 |ask d c k f=>
  intro w;rw[World.ask]
  grind
theorem ame(w)(c):iZ w (w.sys c).2:=by
 have h:=aAq (Kernel.perform c w.os) w;unfold World.sys;split
 ·grind[iZ.refl]
 ·exact⟨by grind,λb _=>by grind⟩
theorem Calm.EZ{g}{s:cy g}(h:Calm s):∀(w) (es),match(s.runT p w es).1 with
  |aV _ c=>iZ w c
  |dL x c=>soft x=Z∧iZ w c:=by
 have e:∀{w u} {r:Result g},iZ w u->(match r with|aV _ c=>iZ u c|dL x c=>soft x=Z∧iZ u c)->(match r with|aV _ c=>iZ w c|dL x c=>soft x=Z∧iZ w c):=by
  intro w u r f h;cases r with
  |ok a c=>exact f.trans h
  |halt x c=>exact⟨h.1,f.trans h.2⟩
 induction h with
 |pure a=>intro w es;rw[fe];grind[iZ.refl]
 |new _ d=>intro w es;rw[fe];grind[iZ.push]
 |shape _ d=>intro w es;rw[fe];grind
 |frozen _ d=>intro w es;rw[fe];grind
 |choose _ d=>
  rename_i x k _;intro w es;rw[fe];by_cases i:x.forced=Z
  ·grind
  ·rw[if_neg i];exact d _ {w with drawn:=w.drawn+1} _
 |sys _ d=>intro w es;rw[fe];grind[ame]
 |program _ d=>intro w es;rw[fe];grind
 |mark _ d=>intro w es;rw[fe];grind
 |halt j=>intro w es;rw[fe];grind[iZ.refl]
theorem Fj:Calm program:=.program λ_=>.pure _
theorem azQ(x):Calm (choose x):=.choose λ_=>.pure _
theorem azO(m):Calm (mark m):=.mark (.pure _)
theorem ahq(t):Calm (typeInfo t):=by
 refine .bind Fj λp=>?_;split
 ·exact .pure _
 ·exact .halt rfl
theorem aho(t):Calm (oq t):=by
 refine .bind Fj λp=>?_;split
 ·exact .pure _
 ·exact .halt rfl
theorem ahp(t):Calm (typeStr t):=by
 refine .bind (ahq t) λi=>?_;dsimp only;split
 ·exact .halt rfl
 ·exact .pure _
theorem azP(t):Calm (elemOf t):=by
 refine .bind (aho t) λd=>?_;split
 ·exact .pure _
 ·exact .halt rfl
theorem azM(t)(cs):Calm (newRow t cs):=.new λ_=>.pure _
theorem azL(t)(v):Calm (newVar t v):=azM t v.cells
theorem azI(b)(s):Calm (if b=Z then Functor.map (· ==1) (choose (.extern "runtime.boundsError.signed" 2)) else bH s):=by
 split
 ·exact .choose λ_=>.pure _
 ·exact .pure _
theorem ahr(a)(n):Calm (azc a n):=by refine .shape λs=>?_;cases s<;>exact .pure _
theorem azN(a n c)(o)(x):Calm (Builtin.mayShare a n c o x):=by
 have e:∀t,Calm (do
   if !t then return Z
   match x with
   |aD (U b) _ _=>do bH (!(<-azc b (c*a))||o.any (·.block==b.block))
   |_=>bH ai):=λt=>by
  cases t with
  |false=>exact .pure _
  |true=>
   show Calm (match x with|aD (U b) _ _=>_|_=>bH ai)
   split
   ·exact .bind (ahr _ _) λ_=>.pure _
   ·exact .pure _
 cases o with
 |none=>exact e Z
 |some b=>
  exact Calm.bind (ahr _ _) λh=>Calm.bind (s:=frozen _) (.frozen λ_=>.pure _) λf=>e _
theorem azJ:Calm Instr.panicnil:=by
 refine Calm.bind (s:=sys .env) (.sys λr=>.pure _) λr=>?_;cases r<;>first|exact .halt rfl|skip
 exact Calm.bind Fj λ_=>.pure _
attribute [instance] Fj azQ azO ahq aho ahp azP azL azI azN azJ Calm.pure
instance {α:Type} (a:α):Calm (bH a):=.pure a
instance {α β:Type} {f:α->β} {s:cy α} [h:Calm s]:Calm (Functor.map f s):=.bind h λ_=>.pure _
instance {α:Type} {x:Question} {k:Nat->cy α} [h:∀n,Calm (k n)]:Calm (.choose x k):=.choose h
theorem z.then{l i}(s){k:l->cy i}(h:∀a,z p (k a))
  [j:Calm s]:z p (s.bind k):=λw f=>by
 rw[aaC];have o:=j.EZ (p:=p) w f;cases m:s.runT p w f with
 |mk r c=>
  cases r with
  |ok a d=>
   obtain⟨x,t,e,n,g⟩:=h a d c
   grind[iZ.trans]
  |halt x d=>grind
theorem W.bind{C z t r}{R:Nat->C->z->Prop}{Q:Nat->t->r->Prop}{N}{s}{m}{k}{k'}(h:W ρ I p q R N s m)
  (e:∀M a b,N<=M->R M a b->W ρ I p q Q M (k a) (k' b)):W ρ I p q Q N (s.bind k) (m.bind k'):=by
 induction h with
 |pure h=>exact e _ _ _ (aW _) h
 |load f _ d=>exact .load f λv g=>d v g e
 |Gq A B l _ d=>exact .Gq A B l λv g=>d v g e
 |store f g _ d=>exact .store f g (d e)
 |new i _ d=>exact .new i (d λM a b y=>e M a b (OR y))
 |shape j _ d=>exact .shape j λs=>d s e
 |freeze f _ d=>exact .freeze f (d e)
 |frozen f _ d=>exact .frozen f λb=>d b e
 |getObj j _ d=>exact .getObj j λo i=>d o i e
 |setObj j i u _ d=>exact .setObj j i u (d e)
 |choose _ d=>exact .choose λn=>d n e
 |program _ d=>exact .program (d e)
 |mark x _ d=>exact .mark x (d e)
 |dead w=>exact .dead (w.bind _)
theorem W.bind'{j i g e}{R:Nat->j->i->Prop}{Q:Nat->g->e->Prop}{N}{s}{d}{k}{k'}(h:W ρ I p q R N s d)
  (f:∀M a b,N<=M->R M a b->W ρ I p q Q M (k a) (k' b)):W ρ I p q Q N (s>>=k) (d>>=k'):=h.bind f
theorem W.pure'{e d}{R:Nat->e->d->Prop}{N}{a}{b}(h:R N a b):W ρ I p q R N (bH a) (bH b):=.pure h
theorem W.mono{z r}{R Q:Nat->z->r->Prop}{N}{s}{l}(h:W ρ I p q R N s l)(e:∀M a b,N<=M->R M a b->Q M a b):W ρ I p q Q N s l:=by
 induction h with
 |pure h=>exact .pure (e _ _ _ (aW _) h)
 |load f _ d=>exact .load f λv g=>d v g e
 |Gq t x k _ d=>exact .Gq t x k λv g=>d v g e
 |store f g _ d=>exact .store f g (d e)
 |new i _ d=>exact .new i (d λM a b m=>e M a b (OR m))
 |shape j _ d=>exact .shape j λs=>d s e
 |freeze f _ d=>exact .freeze f (d e)
 |frozen f _ d=>exact .frozen f λb=>d b e
 |getObj j _ d=>exact .getObj j λo i=>d o i e
 |setObj j i u _ d=>exact .setObj j i u (d e)
 |choose _ d=>exact .choose λn=>d n e
 |program _ d=>exact .program (d e)
 |mark y _ d=>exact .mark y (d e)
 |dead w=>exact .dead w
structure dN(ρ:Nat->Nat)(I:H)(L:Option Nat)(w v:av):Prop where
 os:v.os=w.os
 tape:∀i,(∀D,L=U D->w.drawn+i<D)->v.tape (v.drawn+i)=w.tape (w.drawn+i)
 inj:∀a b,ρ a=ρ b->a=b
 blk:∀b o,w.heap[b]? =U o->I.F b=Z->ew I w.heap.size o=Z∧v.heap[ρ b]? =U (eV ρ o)
 jM:∀b,w.heap.size<=b->I.F b=Z
 arg:∀A,I.arg=U A->I.F A.g=ai∧ρ A.g=A.g∧w.heap[A.g]? =U (aF A.c A.e A.f)∧v.heap[A.g]? =U (aF A.c' A.e' A.f')
structure fg(ρ:Nat->Nat)(I:H)(w v w' v':av):Prop where
 tape:v'.tape=v.tape
 os:v'.os=v.os
 nM:w.heap.size<=w'.heap.size
 size:v'.heap.size=v.heap.size+(w'.heap.size-w.heap.size)
 out:v'.output=v.output
 qX:∀c,c<v.heap.size->(∀b,b<w.heap.size->I.F b=Z->ρ b≠c)->v'.heap[c]? =v.heap[c]?
 CJ:w.drawn<=w'.drawn
 drawn:v'.drawn=v.drawn+(w'.drawn-w.drawn)
 Y9:w'.tape=w.tape
 Gh:w'.output=w.output
 Lr:∀b,b<w.heap.size->I.F b=ai->w'.heap[b]? =w.heap[b]?
variable {ρ:Nat->Nat} {I:H} {L:Option Nat} {p q:bU}
theorem fg.refl(w v):fg ρ I w v w v:=⟨rfl,rfl,aW _,by omega,rfl,λ_ _ _=>rfl,aW _,by omega,rfl,rfl,λ_ _ _=>rfl⟩
theorem fg.trans{w v w1 g j l}(h:fg ρ I w v w1 g)(k:fg ρ I w1 g j l)(d:∀i,ρ (w.heap.size+i)=v.heap.size+i):fg ρ I w v j l:=
 ⟨k.tape.trans h.tape,k.os.trans h.os,bq h.nM k.nM,
  by have:=h.size;have:=k.size;have:=h.nM;have:=k.nM;omega,k.out.trans h.out,λc n o=>(k.qX c (by have:=h.size;omega) λb e s=>by
   rcases Nat.lt_or_ge b w.heap.size with m|r
   ·grind
   ·have:=d (b-w.heap.size)
    grind).trans (h.qX c n o),bq h.CJ k.CJ,by have:=h.drawn;have:=k.drawn;have:=h.CJ;have:=k.CJ;omega,k.Y9.trans h.Y9,k.Gh.trans h.Gh,λb e f=>(k.Lr b (cF e h.nM) f).trans (h.Lr b e f)⟩
def wP(ρ:Nat->Nat)(I:H)(n:Nat)(e:iW):Prop:=
 (∃b,b<n∧I.F b=Z∧((∃a:eK,a.block=b∧e.loc=.cell (dA ρ a))∨e.loc=.obj (ρ b))∧e.sync=ai)∨(∃m,Uh m=Z∧e=⟨ia m,ai,Z⟩)∨∃A a,I.arg=U A∧a.block=A.g∧e=⟨.cell a,ai,ai⟩
theorem wP.more{n n'}{e}(h:wP ρ I n e)(c:n<=n'):wP ρ I n' e:=by
 rcases h with⟨b,a,h⟩|h
 ·exact ax ⟨b,by omega,h⟩
 ·exact aA h
theorem H.iQ{N b}:I.blk N b=Z↔b<N∧I.F b=Z:=by simp[H.blk]
theorem dN.cell{w v}(g:dN ρ I L w v){a}{x}(j:I.blk w.heap.size a.block=Z)(h:w.cell? a=U x):S I w.heap.size x=Z∧v.cell? (dA ρ a)=U (F ρ x):=by
 unfold og at h;split at h
 ·rename_i c e f k;obtain⟨d,i⟩:=g.blk _ _ k (H.iQ.1 j).2;split at h
  ·grind
  ·refine⟨?_,?_⟩
   ·simp only[ew] at d
    grind
   ·show(match v.heap[ρ a.block]? with|some (aF c _ _)=>if a.spot.isSome=Z then V else c[a.off]? |_=>V)=_
    rw[i];simp only[eV,if_false]
    grind
 grind
theorem dN.art{w v}(f:dN ρ I L w v){a}(g:I.blk w.heap.size a.block=Z)(q)(d):∀r,w.farLoad q a d≠ .ok r:=by
 intro r e;unfold Xh at e;split at e
 ·rename_i b u h;have:=(f.blk _ _ h (H.iQ.1 g).2).1;simp[ew] at this
 grind
theorem dN.ars{w v}(f:dN ρ I L w v){a}(g:I.blk w.heap.size a.block=Z)(q)(x)(d):∀r,w.farStore q a x d≠ .ok r:=by
 intro r e;unfold World.farStore at e;split at e
 ·rename_i b u h;have:=(f.blk _ _ h (H.iQ.1 g).2).1;simp[ew] at this
 grind
theorem dN.Zv{w v}(d:dN ρ I L w v){a}(e:I.blk w.heap.size a.block=Z)(c):soft (w.noCell a c)=Z:=by
 unfold World.noCell;split
 ·rename_i f;have:=(d.blk _ _ f (H.iQ.1 e).2).1;simp[ew] at this
 ·rfl
 ·rfl
theorem dN.amR{w v}(c:dN ρ I L w v){a}(d:I.blk w.heap.size a.block=Z)(q)(b){e}(h:w.farLoad q a b=.error e):soft e=Z:=by
 unfold Xh at h;split at h
 ·split at h
  ·grind
  ·cases h;rfl
 ·cases h;exact c.Zv d _
theorem dN.amQ{w v}(c:dN ρ I L w v){a}(d:I.blk w.heap.size a.block=Z)(q)(x)(b){e}(h:w.farStore q a x b=.error e):soft e=Z:=by
 unfold World.farStore at h;split at h
 ·split at h
  ·grind
  ·cases h;rfl
 ·cases h;exact c.Zv d _
theorem size_setCell(w:av)(a)(x):(w.setCell a x).heap.size=w.heap.size:=by simp[jE]
theorem Su(w:av)(a)(n):(w.freeze a n).heap.size=w.heap.size:=by unfold agO;grind
theorem dN.modify{w v}(c:dN ρ I L w v)(r)(s:I.F r=Z)(f g)(t:∀o,ew I w.heap.size o=Z->ew I w.heap.size (f o)=Z∧g (eV ρ o)=eV ρ (f o)):
  dN ρ I L {w with heap:=w.heap.modify r f} {v with heap:=v.heap.modify (ρ r) g}:=by
 refine⟨c.os,c.tape,c.inj,λb o h i=>?_,λb h=>c.jM b (by grind),λA k=>?_⟩
 rotate_left
 ·obtain⟨x,l,y,z⟩:=c.arg A k;have B:ρ r≠A.g:=λe=>(λe=>by grind) (c.inj _ _ (e.trans l.symm))
  grind
 simp only[yM,Array.size_modify] at h⊢;by_cases d:r=b
 ·subst d;simp only[if_true] at h⊢;obtain⟨m,j,rfl⟩:=xI.1 h;obtain⟨n,u⟩:=c.blk _ _ j i
  grind
 ·rw[if_neg d] at h;rw[if_neg λe=>d (c.inj _ _ e)];exact c.blk _ _ h i
theorem fg.modify(w v)(r)(f g)(d:I.blk w.heap.size r=Z):
  fg ρ I w v {w with heap:=w.heap.modify r f} {v with heap:=v.heap.modify (ρ r) g}:=
 ⟨rfl,rfl,by simp,by simp,rfl,λc h e=>by
  simp only[yM];rw[if_neg (e r (H.iQ.1 d).1 (H.iQ.1 d).2)],aW _,by simp,rfl,rfl,λb j i=>by
  grind[H.iQ]⟩
theorem dN.push{w v}(c:dN ρ I L w v)(o)(i:ew I w.heap.size o=Z)(g:ρ w.heap.size=v.heap.size):
  dN ρ I L {w with heap:=w.heap.push o} {v with heap:=v.heap.push (eV ρ o)}:=by
 refine⟨c.os,c.tape,c.inj,λb m d f=>?_,λb d=>c.jM b (by grind),λA j=>?_⟩
 rotate_left
 ·obtain⟨n,k,r,s⟩:=c.arg A j
  grind
 simp only[Array.getElem?_push,adr] at d⊢;by_cases e:b=w.heap.size
 ·subst e;rw[if_pos rfl] at d;cases d;exact⟨abR (GH _) i,by grind⟩
 ·rw[if_neg e] at d;obtain⟨h,l⟩:=c.blk _ _ d f;refine⟨abR (GH _) h,?_⟩
  grind
theorem fg.push(w v)(o):fg ρ I w v {w with heap:=w.heap.push o} {v with heap:=v.heap.push (eV ρ o)}:=
 ⟨rfl,rfl,by simp,by simp,rfl,λc d _=>by grind,aW _,by simp,rfl,rfl,λb e _=>by grind⟩
structure Whole(I:H)(w:av):Prop where
 blk:∀b o,w.heap[b]? =U o->I.F b=Z->ew I w.heap.size o=Z
 jM:∀b,w.heap.size<=b->I.F b=Z
theorem dN.whole{w v}(h:dN ρ I L w v):Whole I w:=⟨λb o d c=>(h.blk b o d c).1,h.jM⟩
def Alike{α β:Type}(ρ:Nat->Nat)(I:H)(L:Option Nat)(R:Nat->α->β->Prop)(w v:av)(es':Array iW)(r:Result α)(r':Result β×Array iW):Prop:=
 match r with
 |aV a w'=>w.drawn<=w'.drawn∧((∀D,L=U D->w'.drawn<=D)->∃b v' E,r'=(aV b v',es'++E)∧R w'.heap.size a b∧dN ρ I L w' v'∧fg ρ I w v w' v'∧∀e∈E,wP ρ I w'.heap.size e)
 |dL h w'=>soft h=Z∧∃w0,w.heap.size<=w0.heap.size∧Whole I w0∧iZ w0 w'
theorem Alike.step{E o}{R:Nat->E->o->Prop}{w v w1 l}{es' e0}{r}{k}(h:Alike ρ I L R w1 l (es'++e0) r k)(g:fg ρ I w v w1 l)
  (f:∀i,ρ (w.heap.size+i)=v.heap.size+i) (x:∀e∈e0,wP ρ I w1.heap.size e):Alike ρ I L R w v es' r k:=by
 match r,h with
 |aV a G,⟨A,h⟩=>
  refine⟨bq g.CJ A,λB=>?_⟩;obtain⟨b,s,n,F,C,t,j,H⟩:=h B;refine⟨b,s,e0++n,by grind,C,t,g.trans j f,λe d=>?_⟩
  rcases Aj.1 d with d|d
  ·exact(x e d).more j.nM
  grind
 |dL _ _,⟨y,D,u,m,z⟩=>exact⟨y,D,bq g.nM u,m,z⟩
theorem Alike.halt{e d}{R:Nat->e->d->Prop}{w v}{es'}{h}{c}(b:Whole I w)(hs:soft h=Z:=by rfl):Alike ρ I L R w v es' (dL h w) c:=
 ⟨hs,w,aW _,b,iZ.refl w⟩
theorem Alike.now{g f}{R:Nat->g->f->Prop}{w v w1 d}{es'}{r}{c}(h:Alike ρ I L R w1 d es' r c)(e:fg ρ I w v w1 d)
  (b:∀i,ρ (w.heap.size+i)=v.heap.size+i):Alike ρ I L R w v es' r c:=by
 have:=Alike.step (e0:= #[]) (es':=es') (by simpa using h) e b (by simp)
 grind
theorem aq0{N}(a:eK)(x)(f:S I N x=Z)(o)(e:ew I N o=Z):ew I N ((λ |aF c d frozen=>aF (if a.spot.isSome then c else c.setIfInBounds a.off x) d frozen|o=>o) o)=Z:=by
 simp only[ew] at e⊢
 grind
theorem aq1{N}(a:eK)(n)(o)(g:ew I N o=Z):ew I N ((λ |aF c d (e,f)=>aF c d (if e==f then(a.off,a.off+n) else(min e a.off,max f (a.off+n)))|o=>o) o)=Z:=by cases o<;>exact g
theorem NC(h:Array Obj)(r)(o):h.setIfInBounds r o=h.modify r λ_=>o:=by
 grind
theorem aaz{e}(m)(a)(x)(k:cy e)(w)(es)(f:∀c,x≠bN c)(g:∀c,x≠bO c):
  fe p (.store m a x k) w es=match w.cell? a with
  |some _=>if w.frozen? a then(dL (.unsupported (.unsafePointer "a write to bytes that a string shares")) w,es) else k.runT p (w.setCell a x) (es.push ⟨.cell a,Z,m==pB⟩)
  |none=>match w.farStore p a x (m==pB) with
   |.ok (w,d)=>k.runT p w (es++d.toArray.map (⟨.cell ·,Z,m==pB⟩))
   |.error h=>(dL h w,es):=by
 cases x<;>first|rfl|grind
theorem ape{e}(m)(a)(x)(k:cy e)(w)(es)(d:(∃c,x=bN c)∨∃c,x=bO c):
  fe p (.store m a x k) w es=(dL (.stuck "store: not the value of one cell") w,es):=by
 rcases d with⟨c,rfl⟩|⟨c,rfl⟩<;>rfl
theorem aA1(x:ay):((∃c,x=bN c)∨∃c,x=bO c)∨((∀c,x≠bN c)∧∀c,x≠bO c):=by
 grind
theorem dN.setCell{w v}(h:dN ρ I L w v)(a)(d:I.F a.block=Z)(x)(c:S I w.heap.size x=Z):dN ρ I L (w.setCell a x) (v.setCell (dA ρ a) (F ρ x)):=by
 refine h.modify a.block d _ _ λo e=>⟨aq0 a x c o e,?_⟩;cases o<;>try rfl
 simp only[eV,dA];congr 1
 grind
theorem dN.frozen{w v}(h:dN ρ I L w v){a}(e:I.blk w.heap.size a.block=Z):v.frozen? (dA ρ a)=w.frozen? a:=by
 obtain⟨c,i⟩:=H.iQ.1 e;obtain⟨j,f⟩:=h.blk a.block _ (iq c) i;unfold wI;show(match v.heap[ρ a.block]? with|some (aF _ _ (d,g))=>d<=a.off&&a.off<g|_=>ai)=_
 rw[f,iq c];cases w.heap[a.block]<;>rfl
theorem dN.freeze{w v}(h:dN ρ I L w v)(a)(c:I.F a.block=Z)(n):dN ρ I L (w.freeze a n) (v.freeze (dA ρ a) n):=by
 unfold agO;split
 ·grind
 ·refine h.modify a.block c _ _ λo d=>⟨aq1 a n o d,?_⟩;cases o<;>rfl
theorem fg.freeze(w v)(a)(n)(c:I.blk w.heap.size a.block=Z):fg ρ I w v (w.freeze a n) (v.freeze (dA ρ a) n):=by
 unfold agO;split
 ·grind[fg.refl]
 ·exact fg.modify w v a.block _ _ c
theorem dN.shape{w v}(h:dN ρ I L w v){r}(c:I.blk w.heap.size r=Z):v.shape? (ρ r)=w.shape? r:=by obtain⟨b,e⟩:=H.iQ.1 c;obtain⟨f,d⟩:=h.blk r _ (iq b) e;unfold World.shape?;rw[d,iq b];cases w.heap[r]<;>simp[eV]
theorem dN.draw{w v}(h:dN ρ I L w v):dN ρ I L {w with drawn:=w.drawn+1} {v with drawn:=v.drawn+1}:=
 ⟨h.os,λi b=>by
  have:=h.tape (i+1) (λD c=>by grind)
  grind,h.inj,h.blk,h.jM,h.arg⟩
theorem fg.draw(w v):fg ρ I w v {w with drawn:=w.drawn+1} {v with drawn:=v.drawn+1}:=⟨rfl,rfl,aW _,by simp,rfl,λ_ _ _=>rfl,GH _,by simp,rfl,rfl,λ_ _ _=>rfl⟩
theorem abO{N}{o}(h:ew I N o=Z):o.isChan=ai∧(eV ρ o).isChan=ai:=by cases o<;>simp_all[ew,Obj.isChan,eV]
theorem aaB{b}(r)(k:Obj->cy b)(w)(es){o}(g:w.heap[r]? =U o)(d:∀c e f,o≠aF c e f):
  fe p (.getObj r k) w es=(k o).runT p w (es.push ⟨.obj r,ai,o.isChan⟩):=by
 rw[yO]
 grind
theorem aaA{d}(r)(o)(k:cy d)(w)(es){b}(h:w.heap[r]? =U b)(g:∀c e f,b≠aF c e f):
  fe p (.setObj r o k) w es=k.runT p {w with heap:=w.heap.setIfInBounds r o} (es.push ⟨.obj r,Z,o.isChan⟩):=by
 rw[yO]
 grind
theorem W.ah0{t β:Type}{R:Nat->t->β->Prop}{N:Nat}{s:cy t}{X:cy β}
  (O:L=V∨∀(N:Nat) (s:cy t) (X:cy β),W ρ I p q R N s X->∀(w v:av) (es:Array iW),w.heap.size=N->dN ρ I V w v->(∀i,ρ (w.heap.size+i)=v.heap.size+i)->∀a K,(s.runT p w es).1=aV a K->w.drawn<=K.drawn)
  (h:W ρ I p q R N s X):∀(w v:av) (es es':Array iW),w.heap.size=N->dN ρ I L w v->
  (∀i,ρ (w.heap.size+i)=v.heap.size+i)->Alike ρ I L R w v es' (s.runT p w es).1 (X.runT q v es'):=by
 induction h with
 |pure h=>
  intro w v es es' j g d;subst j;exact⟨aW _,λ_=>⟨_,v, #[],by simp[fe],h,g,fg.refl _ _,by simp⟩⟩
 |load z _ l=>
  intro w v es es' j g d;subst j;rename_i a k QW _;rw[fe];cases QX:w.cell? a with
  |some x=>
   obtain⟨S,M⟩:=g.cell z QX;rw[fe,M];refine Alike.step (e0:= #[⟨.cell (dA ρ a),ai,kS==pB⟩]) (by simpa using l x S w v (es.push ⟨.cell a,ai,kS==pB⟩) (es'.push ⟨.cell (dA ρ a),ai,kS==pB⟩) rfl g d) (fg.refl _ _) d ?_
   intro e B;simp only[fJ,dh,dJ,dO] at B;subst B;exact ax ⟨a.block,(H.iQ.1 z).1,(H.iQ.1 z).2,ax ⟨a,rfl,rfl⟩,rfl⟩
  |none=>
   cases P:w.farLoad p a (kS==pB) with
   |ok r=>exact absurd P (g.art z p _ r)
   |error e=>
    exact Alike.halt g.whole (g.amR z p _ P)
 |Gq hA hg hlo _ l=>
  intro w v es es' j g d;subst j;rename_i a k QW A _;obtain⟨a1,a2,a3,a4⟩:=g.arg A hA;rw[fe];cases QX:w.cell? a with
  |some x=>
   have Q:A.c[a.off]? =U x∧v.cell? a=A.c'[a.off]? :=by
    unfold og at QX⊢
    grind
   obtain⟨hp,K4⟩:=A.rel a.off x hlo Q.1;rw[fe,Q.2.trans K4];refine Alike.step (e0:= #[⟨.cell a,ai,kS==pB⟩]) (by simpa using l x hp w v (es.push ⟨.cell a,ai,kS==pB⟩) (es'.push ⟨.cell a,ai,kS==pB⟩) rfl g d) (fg.refl _ _) d ?_
   intro e B;simp only[fJ,dh,dJ,dO] at B;subst B;exact aA (aA ⟨A,a,hA,hg,rfl⟩)
  |none=>
   have P:w.farLoad p a (kS==pB)=.error (.stuck "load: no such cell"):=by
    unfold Xh World.noCell
    grind
   simp only[P];exact Alike.halt g.whole
 |store z hv _ l=>
  intro w v es es' j g d;subst j;rename_i a x k QW _;rcases aA1 x with Q|⟨Q,hy⟩
  ·rw[ape kS a x k w es Q];exact Alike.halt g.whole
  ·have Vi:∀c,F ρ x≠bN c:=λc e=>by cases x<;>simp_all[F]
   have yR:∀c,F ρ x≠bO c:=λc e=>by cases x<;>simp_all[F]
   rw[aaz kS a x k w es Q hy];rw[aaz kS (dA ρ a) (F ρ x) QW v es' Vi yR];cases QX:w.cell? a with
   |some u=>
    obtain⟨S,M⟩:=g.cell z QX;rw[M];simp only;rw[g.frozen z];cases hz:w.frozen? a with
    |true=>simp only[if_true];exact Alike.halt g.whole
    |false=>
     simp only[Bool.false_eq_true,if_false];have hT:fg ρ I w v (w.setCell a x) (v.setCell (dA ρ a) (F ρ x)):=fg.modify w v a.block _ _ z;have:=l (w.setCell a x) (v.setCell (dA ρ a) (F ρ x)) (es.push ⟨.cell a,Z,kS==pB⟩) (es'.push ⟨.cell (dA ρ a),Z,kS==pB⟩) (size_setCell _ _ _) (g.setCell a (H.iQ.1 z).2 x hv)
      (by grind[size_setCell])
     refine Alike.step (e0:= #[⟨.cell (dA ρ a),Z,kS==pB⟩]) (by simpa using this) hT d ?_
     intro e B;simp only[fJ,dh,dJ,dO] at B;subst B;exact ax ⟨a.block,by rw[size_setCell];exact(H.iQ.1 z).1,(H.iQ.1 z).2,ax ⟨a,rfl,rfl⟩,rfl⟩
   |none=>
    cases P:w.farStore p a x (kS==pB) with
    |ok r=>exact absurd P (g.ars z p x _ r)
    |error e=>
     exact Alike.halt g.whole (g.amQ z p x _ P)
 |new Q3 hk l=>
  intro w v es es' j g d;subst j;rename_i o k QW;rw[fe,fe];have h0:ρ w.heap.size=v.heap.size:=by simpa using d 0
  have:=l {w with heap:=w.heap.push o} {v with heap:=v.heap.push (eV ρ o)} es es' (by simp) (g.push o Q3 h0)
   (λi=>by simp only[adr];have:=d (i+1);rw[show w.heap.size+1+i=w.heap.size+(i+1) by omega,this];omega)
  rw[h0] at this;exact Alike.now this (fg.push w v o) d
 |shape C _ l=>
  intro w v es es' j g d;subst j;rw[fe,fe,g.shape C];exact l _ w v es es' rfl g d
 |freeze z _ l=>
  intro w v es es' j g d;subst j;rename_i a n k QW _;rw[fe,fe];have:=l (w.freeze a n) (v.freeze (dA ρ a) n) es es' (Su _ _ _) (g.freeze a (H.iQ.1 z).2 n) (by rw[Su,Su];exact d)
  exact Alike.now this (fg.freeze w v a n z) d
 |frozen z _ l=>
  intro w v es es' j g d;subst j;rw[fe,fe,g.frozen z];exact l _ w v es es' rfl g d
 |getObj C _ l=>
  intro w v es es' j g d;subst j;rename_i r k QW _;by_cases E:∃o,w.heap[r]? =U o∧∀c e f,o≠aF c e f
  ·obtain⟨o,J,E⟩:=E;obtain⟨S,M⟩:=g.blk _ _ J (H.iQ.1 C).2;obtain⟨c1,c2⟩:=abO (ρ:=ρ) S;rw[aaB r k w es J E];rw[aaB (ρ r) QW v es' M (λc e f=>by cases o<;>first|exact absurd rfl (E _ _ _)|simp[eV])]
   have:=l o S w v (es.push ⟨.obj r,ai,o.isChan⟩) (es'.push ⟨.obj (ρ r),ai,(eV ρ o).isChan⟩) rfl g d;refine Alike.step (e0:= #[⟨.obj (ρ r),ai,(eV ρ o).isChan⟩]) (by simpa using this) (fg.refl _ _) d ?_
   intro e B;simp only[fJ,dh,dJ,dO] at B;subst B;exact ax ⟨r,(H.iQ.1 C).1,(H.iQ.1 C).2,aA rfl,c2⟩
  ·have:∃G,fe p (.getObj r k) w es=(dL (.stuck G) w,es):=by
    rw[yO];simp only;split
    ·exact⟨_,rfl⟩
    ·rename_i o QX J;exact absurd ⟨o,J,λc e f=>QX c e f⟩ E
    ·exact⟨_,rfl⟩
   obtain⟨G,Q2⟩:=this;rw[Q2];exact Alike.halt g.whole
 |setObj C Q3 QX _ l=>
  intro w v es es' j g d;subst j;rename_i r o k QW _;obtain⟨c1,c2⟩:=abO (ρ:=ρ) Q3;by_cases E:∃o,w.heap[r]? =U o∧∀c e f,o≠aF c e f
  ·obtain⟨o0,J,E⟩:=E;obtain⟨S,M⟩:=g.blk _ _ J (H.iQ.1 C).2;rw[aaA r o k w es J E];rw[aaA (ρ r) (eV ρ o) QW v es' M (λc e f=>by cases o0<;>first|exact absurd rfl (E _ _ _)|simp[eV])]
   have EN:dN ρ I L {w with heap:=w.heap.setIfInBounds r o} {v with heap:=v.heap.setIfInBounds (ρ r) (eV ρ o)}:=by rw[NC,NC];exact g.modify r (H.iQ.1 C).2 _ _ λ_ _=>⟨Q3,rfl⟩
   have hT:fg ρ I w v {w with heap:=w.heap.setIfInBounds r o} {v with heap:=v.heap.setIfInBounds (ρ r) (eV ρ o)}:=by rw[NC,NC];exact fg.modify w v r _ _ C
   have:=l {w with heap:=w.heap.setIfInBounds r o} {v with heap:=v.heap.setIfInBounds (ρ r) (eV ρ o)} (es.push ⟨.obj r,Z,o.isChan⟩) (es'.push ⟨.obj (ρ r),Z,(eV ρ o).isChan⟩) (by simp) EN
    (by simp only[tJ];exact d)
   refine Alike.step (e0:= #[⟨.obj (ρ r),Z,(eV ρ o).isChan⟩]) (by simpa using this) hT d ?_
   intro e B;simp only[fJ,dh,dJ,dO] at B;subst B;exact ax ⟨r,by simp only[tJ];exact(H.iQ.1 C).1,(H.iQ.1 C).2,aA rfl,c2⟩
  ·have:∃G,fe p (.setObj r o k) w es=(dL (.stuck G) w,es):=by
    rw[yO];simp only;split
    ·exact⟨_,rfl⟩
    ·rename_i o' QX J;exact absurd ⟨o',J,λc e f=>QX c e f⟩ E
    ·exact⟨_,rfl⟩
   obtain⟨G,Q2⟩:=this;rw[Q2];exact Alike.halt g.whole
 |choose hk l=>
  intro w v es es' j g d;subst j;rename_i x k QW;rw[fe,fe];split
  ·exact l 0 w v es es' rfl g d
  ·by_cases hl:∀D,L=U D->w.drawn<D
   ·have e0:v.tape v.drawn=w.tape w.drawn:=by simpa using g.tape 0 (by simpa using hl)
    rw[e0];exact Alike.now (l (x.cut (w.tape w.drawn x)) {w with drawn:=w.drawn+1} {v with drawn:=v.drawn+1} es es' rfl g.draw d) (fg.draw w v) d
   ·have hex:∃D,L=U D∧D<=w.drawn:=by refine Classical.byContradiction λE=>hl λD b=>?_;refine Nat.lt_of_not_le λT=>E ⟨D,b,T⟩
    obtain⟨D,b,T⟩:=hex;rcases O with Q1|Q1
    ·rw[Q1] at b;cases b
    ·have Q0:dN ρ I V {w with drawn:=w.drawn+1} {v with tape:=w.tape,drawn:=w.drawn+1}:=⟨g.os,λi _=>rfl,g.inj,g.blk,g.jM,g.arg⟩;cases C:(fe p (k (x.cut (w.tape w.drawn x))) {w with drawn:=w.drawn+1} es).1 with
     |halt y K=>
      have:=l (x.cut (w.tape w.drawn x)) {w with drawn:=w.drawn+1} {v with drawn:=v.drawn+1} es es' rfl g.draw d;rw[C] at this;exact this
     |ok a K=>
      have:w.drawn+1<=K.drawn:=Q1 _ _ _ (hk (x.cut (w.tape w.drawn x))) {w with drawn:=w.drawn+1} {v with tape:=w.tape,drawn:=w.drawn+1} es rfl Q0 d a K C;exact⟨by omega,λhLD=>absurd (hLD D b) (by omega)⟩
 |program _ l=>
  intro w v es es' j g d;rw[fe,fe];exact l w v es es' j g d
 |mark Q1 _ l=>
  intro w v es es' j g d;subst j;rename_i m k QW _;rw[fe,fe];have:=l w v (es.push ⟨ia m,ai,Z⟩) (es'.push ⟨ia m,ai,Z⟩) rfl g d;refine Alike.step (e0:= #[⟨ia m,ai,Z⟩]) (by simpa using this) (fg.refl _ _) d ?_
  intro e B;simp only[fJ,dh,dJ,dO] at B;exact aA (ax ⟨m,Q1,B⟩)
 |dead hd=>
  intro w v es es' j g d;obtain⟨x,K,e,hs,hg⟩:=hd w es;rw[e];exact⟨hs,w,aW _,g.whole,hg⟩
theorem W.alike{k g}{R:Nat->k->g->Prop}{N}{s}{d}(h:W ρ I p q R N s d):∀(w v) (es es'),w.heap.size=N->dN ρ I L w v->
  (∀i,ρ (w.heap.size+i)=v.heap.size+i)->Alike ρ I L R w v es' (s.runT p w es).1 (d.runT q v es'):=
 W.ah0 (aA λN s d h w v es j f c a l e=>by have:=W.ah0 (L:=V) (ax rfl) h w v es #[] j f c;rw[e] at this;exact this.1) h
def J(q:bU)(fs:Array dV):bU:={q with funcs:=fs}
section
variable {I:H} {N:Nat} {ρ:Nat->Nat}
mutual
theorem rP:∀{v:ay},n v=Z->S I N v=Z∧F ρ v=v
 |dH _ _ _,h=>by simp[n] at h
 |iv t v,h=>by simp only[n] at h;obtain⟨h1,h2⟩:=rP h;exact⟨by simpa[S] using h1,by simp only[F,h2]⟩
 |bN cs,h=>by simp only[n] at h;obtain⟨h1,h2⟩:=abk h;exact⟨by simpa[S] using h1,by simp only[F,h2]⟩
 |bO cs,h=>by simp only[n] at h;obtain⟨h1,h2⟩:=abk h;exact⟨by simpa[S] using h1,by simp only[F,h2]⟩
 |aE V,_=>by simp[S,F]
 |aE (U a),h=>by simp[n] at h
 |aD V _ _,_=>by simp[S,F]
 |aD (U a) _ _,h=>by simp[n] at h
 |cj V,_=>by simp[S,F]
 |cj (U a),h=>by simp[n] at h
 |cY V,_=>by simp[S,F]
 |cY (U a),h=>by simp[n] at h
 |cz _,_=>by simp[S,F]
 |Y _ _,_=>by simp[S,F]
 |.float _ _,h=>by simp[n] at h
 |.complex _ _ _,h=>by simp[n] at h
 |aG _,_=>by simp[S,F]
 |.nilFunc,_=>by simp[S,F]
 |mF,_=>by simp[S,F]
theorem abk:∀{v:Array ay},Gf v=Z->oV I N v=Z∧mU ρ v=v
 |⟨l⟩,h=>by simp only[Gf] at h;obtain⟨h1,h2⟩:=abl h;exact⟨by simpa[oV] using h1,by simp only[mU,h2]⟩
theorem abl:∀{v:List ay},BL v=Z->nQ I N v=Z∧oU ρ v=v
 | [],_=>by simp[nQ,oU]
 |v::l,h=>by simp only[BL,cS] at h;obtain⟨h1,h2⟩:=rP h.1;obtain⟨h3,h4⟩:=abl h.2;exact⟨by simp[nQ,h1,h3],by simp only[oU,h2,h4]⟩
end
end
section
variable (ρ:Nat->Nat) (I:H)
def RV:Nat->ay->ay->Prop:=λN v v'=>S I N v=Z∧v'=F ρ v
def RA:Nat->eK->eK->Prop:=λN a a'=>I.blk N a.block=Z∧a'=dA ρ a
def bu:Nat->Array ay->Array ay->Prop:=λN vs vs'=>(∀v∈vs,S I N v=Z)∧vs'=vs.map (F ρ)
def RU:Nat->Unit->Unit->Prop:=λ_ _ _=>True
end
def RD{α:Type}:Nat->α->α->Prop:=λ_ a b=>a=b
variable {ρ:Nat->Nat} {I:H} {q:bU} {fs:Array dV} {N M:Nat}
theorem RV.mono{v v'}(h:RV ρ I N v v')(a:N<=M):RV ρ I M v v':=⟨eX a h.1,h.2⟩
theorem RA.mono{a a'}(h:RA ρ I N a a')(b:N<=M):RA ρ I M a a':=⟨H.eu h.1 b,h.2⟩
theorem bu.mono{v v'}(h:bu ρ I N v v')(c:N<=M):bu ρ I M v v':=⟨λx b=>eX c (h.1 x b),h.2⟩
theorem bu.size{v v'}(h:bu ρ I N v v'):v'.size=v.size:=by rw[h.2,Array.size_map]
theorem bu.get{v v'}(h:bu ρ I N v v'){i:Nat}{x}(b:v[i]? =U x):S I N x=Z∧v'[i]? =U (F ρ x):=
 ⟨h.1 x (tI b),by rw[h.2,pS,b];rfl⟩
theorem bu.get_none{v v'}(h:bu ρ I N v v'){i:Nat}(a:v[i]? =V):v'[i]? =V:=by rw[h.2,pS,a];rfl
theorem RV.plain{v}(h:n v=Z):RV ρ I N v v:=⟨(rP (ρ:=ρ) h).1,(rP (I:=I) (N:=N) h).2.symm⟩
theorem RV.ptr{a a'}(h:RA ρ I N a a'):RV ρ I N (aE (U a)) (aE (U a')):=⟨by simp[S,h.1],by simp[F,h.2]⟩
theorem RV.agg{vs vs'}(h:bu ρ I N vs vs'):RV ρ I N (bN vs) (bN vs'):=
 ⟨by simp only[S,DR,kC];exact h.1,by simp only[F,wY,h.2]⟩
theorem RV.tuple{vs vs'}(h:bu ρ I N vs vs'):RV ρ I N (bO vs) (bO vs'):=
 ⟨by simp only[S,DR,kC];exact h.1,by simp only[F,wY,h.2]⟩
theorem bu.BV{vs}(h:S I N (bN vs)=Z):bu ρ I N vs (mU ρ vs):=
 ⟨by simpa only[S,DR,kC] using h,wY ρ vs⟩
theorem bu.aq3{vs}(h:S I N (bO vs)=Z):bu ρ I N vs (mU ρ vs):=
 ⟨by simpa only[S,DR,kC] using h,wY ρ vs⟩
theorem bu.nil:bu ρ I N #[] #[]:=⟨λv h=>by grind,by simp⟩
theorem bu.push{vs vs'}{v v'}(h:bu ρ I N vs vs')(c:RV ρ I N v v'):bu ρ I N (vs.push v) (vs'.push v'):=by
 refine⟨λx b=>?_,by rw[h.2,c.2,Array.map_push]⟩
 rcases Array.mem_push.1 b with b|rfl
 ·exact h.1 x b
 ·exact c.1
theorem bu.append{vs vs' e c}(h:bu ρ I N vs vs')(d:bu ρ I N e c):bu ρ I N (vs++e) (vs'++c):=by
 refine⟨λx b=>?_,by rw[h.2,d.2,Array.map_append]⟩
 rcases Aj.1 b with b|b
 ·exact h.1 x b
 ·exact d.1 x b
theorem bu.extract{vs vs'}(h:bu ρ I N vs vs')(i j):bu ρ I N (vs.extract i j) (vs'.extract i j):=
 by
 refine⟨λx b=>?_,by rw[h.2,Array.map_extract]⟩
 obtain⟨k,c,rfl⟩:=Array.mem_iff_getElem.1 b;rw[Array.getElem_extract];exact h.1 _ (Array.getElem_mem _)
theorem bu.plain{vs}(h:∀v∈vs,n v=Z):bu ρ I N vs vs:=by
 refine⟨λv c=>(RV.plain (ρ:=ρ) (h v c)).1,?_⟩;refine Array.ext_getElem? λi=>?_;rw[pS];cases b:vs[i]? with
 |none=>rfl
 |some x=>simp only[ey];rw[<-(RV.plain (ρ:=ρ) (I:=I) (N:=N) (h x (tI b))).2]
theorem bu.cells{v v'}(h:RV ρ I N v v'):bu ρ I N v.cells v'.cells:=by
 obtain⟨b,rfl⟩:=h;cases v<;>first
  |exact bu.BV b
  |exact⟨λx a=>by simp only[AV,fJ] at a;grind,by simp[AV,F]⟩
theorem RA.add{a a'}(h:RA ρ I N a a')(n):RA ρ I N (a.add n) (a'.add n):=by
 obtain⟨c,rfl⟩:=h;unfold Addr.add;split
 ·exact⟨c,rfl⟩
 ·exact⟨c,rfl⟩
structure ru(q:bU):Prop where
 zero:∀t i v,q.info? t=U i->i.zero=U v->n v=Z
 whole:∀t k,q.underlying t≠U (.float k)
 real:∀t k,q.underlying t≠U (.complex k)
variable {α β γ δ:Type}
theorem T{R:Nat->α->β->Prop}(b)(s):W ρ I (J q fs) q R N (stuck b) s:=.dead (.halt _)
theorem ik{R:Nat->α->β->Prop}(u)(s)(hs:soft (.unsupported u)=Z:=by rfl):W ρ I (J q fs) q R N (ua u) s:=.dead (.halt _ hs)
theorem lM:W ρ I (J q fs) q (λ_ a b=>a=J q fs∧b=q) N program program:=.program (.pure ⟨rfl,rfl⟩)
theorem qp(t):W ρ I (J q fs) q (λ_ a b=>a=b∧q.info? t=U a) N (typeInfo t) (typeInfo t):=by
 refine W.bind' lM ?_;rintro M a b e ⟨rfl,d⟩;rw[d];show W ρ I (J q fs) q _ M (match q.info? t with|some i=>bH i|none=>stuck "no such type") _
 cases q.info? t with
 |some i=>exact .pure ⟨rfl,rfl⟩
 |none=>grind[T]
theorem gq(t):W ρ I (J q fs) q RD N (oq t) (oq t):=by
 refine W.bind' lM ?_;rintro M a b e ⟨rfl,d⟩;rw[d];show W ρ I (J q fs) q _ M (match q.underlying t with|some i=>bH i|none=>stuck "no such type") _
 cases q.underlying t with
 |some i=>exact .pure rfl
 |none=>grind[T]
theorem By(d:ru q)(t):W ρ I (J q fs) q (λN a b=>RV ρ I N a b∧n a=Z) N (kG t) (kG t):=by
 refine W.bind' (qp t) ?_;rintro M a b g ⟨rfl,f⟩;split
 ·rename_i v e;have:=d.zero t a v f e;exact .pure ⟨RV.plain this,this⟩
 ·exact ik _ _
theorem mq(t):W ρ I (J q fs) q RD N (sizeOf t) (sizeOf t):=by refine W.bind' (qp t) ?_;rintro M a b d ⟨rfl,e⟩;exact .pure rfl
theorem SL(t):W ρ I (J q fs) q RD N (isAgg t) (isAgg t):=by refine W.bind' (gq t) ?_;rintro M a b d rfl;split<;>exact .pure rfl
theorem ZQ{a a'}(h:RA ρ I N a a'):W ρ I (J q fs) q (RV ρ I) N (load a) (load a'):=by obtain⟨d,rfl⟩:=h;exact .load d λv c=>.pure ⟨c,rfl⟩
theorem anj{a a'}{v v'}(h:RA ρ I N a a')(c:RV ρ I N v v'):W ρ I (J q fs) q RU N (CP a v) (CP a' v'):=by obtain⟨e,rfl⟩:=h;obtain⟨d,rfl⟩:=c;exact .store e d (.pure trivial)
theorem zM{r}(h:I.blk N r=Z):W ρ I (J q fs) q RD N (shape r) (shape (ρ r)):=.shape h λs=>.pure rfl
theorem ZV{a a'}(h:RA ρ I N a a')(n):W ρ I (J q fs) q RU N (freeze a n) (freeze a' n):=by obtain⟨c,rfl⟩:=h;exact .freeze c (.pure trivial)
theorem Nx{a a'}(h:RA ρ I N a a'):W ρ I (J q fs) q RD N (frozen a) (frozen a'):=by obtain⟨d,rfl⟩:=h;exact .frozen d λb=>.pure rfl
theorem uA{r}(h:I.blk N r=Z):W ρ I (J q fs) q (λN o b=>ew I N o=Z∧b=eV ρ o) N (qc r) (qc (ρ r)):=.getObj h λo c=>.pure ⟨c,rfl⟩
theorem Jl{r}{o}(h:I.blk N r=Z)(d:ew I N o=Z)(b:∀c e f,o≠aF c e f):W ρ I (J q fs) q RU N (setObj r o) (setObj (ρ r) (eV ρ o)):=.setObj h d b (.pure trivial)
theorem F0(c:I.F N=Z){o}(d:ew I N o=Z):W ρ I (J q fs) q (λM r b=>r=N∧M=N+1∧b=ρ N∧I.blk M r=Z) N (newObj o) (newObj (eV ρ o)):=
 .new d (.pure ⟨rfl,rfl,rfl,H.iQ.2 ⟨by omega,c⟩⟩)
theorem DG(x):W ρ I (J q fs) q RD N (choose x) (choose x):=.choose λn=>.pure rfl
theorem anI:W ρ I (J q fs) q RU N (mark .noRoom) (mark .noRoom):=.mark rfl (.pure trivial)
theorem aaj(n):W ρ I (J q fs) q RU N (askRoom n) (askRoom n):=by
 unfold askRoom;split
 ·exact anI
 ·exact .pure trivial
theorem anP{a a'}(i n):∀{N} {d c},RA ρ I N a a'->bu ρ I N d c->W ρ I (J q fs) q (bu ρ I) N (loadCellsFrom a i n d) (loadCellsFrom a' i n c):=by
 induction n generalizing i with
 |zero=>intro N d c _ h;exact .pure h
 |succ n j=>
  intro N d c f h;refine W.bind' (ZQ (f.add i)) ?_;rintro M v k e g;exact j (i+1) (f.mono e) ((h.mono e).push g)
theorem Nu{a a'}(h:RA ρ I N a a')(n):W ρ I (J q fs) q (bu ρ I) N (loadCells a n) (loadCells a' n):=anP 0 n h bu.nil
theorem ZG{a a'}:∀(vs) {N} (i),RA ρ I N a a'->(∀v∈vs,S I N v=Z)->W ρ I (J q fs) q RU N (storeCells a vs i) (storeCells a' (vs.map (F ρ)) i)
 | [],_,_,_,_=>.pure trivial
 |v::vs,N,i,e,h=>by
  refine W.bind' (anj (e.add i) ⟨h v (by simp),rfl⟩) ?_
  rintro M _ _ d _;exact ZG vs (i+1) (e.mono d) λx f=>eX d (h x (by grind))
theorem Sz{a a'}{vs vs'}(i)(c:RA ρ I N a a')(h:bu ρ I N vs vs'):W ρ I (J q fs) q RU N (storeCells a vs.toList i) (storeCells a' vs'.toList i):=by rw[h.2,xE];exact ZG _ _ c λv d=>h.1 v (by grind)
theorem Bz{a a'}(t)(h:RA ρ I N a a'):W ρ I (J q fs) q (RV ρ I) N (loadVar t a) (loadVar t a'):=by
 refine W.bind' (SL t) ?_;rintro M b _ d rfl;split
 ·refine W.bind' (mq t) ?_;rintro K n _ g rfl;refine W.bind' (Nu (h.mono (bq d g)) n) ?_;rintro L i f j e;exact .pure (RV.agg e)
 ·exact ZQ (h.mono d)
theorem Np{a a'}{v v'}(t)(h:RA ρ I N a a')(e:RV ρ I N v v'):W ρ I (J q fs) q RU N (storeVar t a v) (storeVar t a' v'):=by
 have d:=bu.cells e;refine W.bind' (mq t) ?_;rintro M n _ c rfl;rw[d.size];split
 ·exact .dead (z.bind (.halt _) _)
 ·exact Sz 0 (h.mono c) (d.mono c)
theorem FZ(c:∀b,N<=b->I.F b=Z){vs vs'}(e)(h:bu ρ I N vs vs'):W ρ I (J q fs) q (RA ρ I) N (newRow e vs) (newRow e vs'):=by
 unfold newRow;have d:(aF vs' e (0,0))=eV ρ (aF vs e (0,0)):=by rw[h.2];rfl
 rw[d];refine W.bind' (F0 (c N (aW _)) (by simp only[ew,kC];exact h.1)) ?_
 rintro M r i g ⟨rfl,rfl,rfl,f⟩;exact .pure ⟨f,rfl⟩
theorem SG(c:∀b,N<=b->I.F b=Z){v v'}(t)(h:RV ρ I N v v'):W ρ I (J q fs) q (RA ρ I) N (newVar t v) (newVar t v'):=FZ c t (bu.cells h)
theorem uz{vs vs'}(t)(c)(h:bu ρ I N vs vs'):W ρ I (J q fs) q (RV ρ I) N (part t vs c) (part t vs' c):=by
 refine W.bind' (SL t) ?_;rintro M b _ d rfl;split
 ·refine W.bind' (mq t) ?_;rintro K n _ g rfl;exact .pure (RV.agg ((h.mono (bq d g)).extract _ _))
 ·cases f:vs[c]? with
  |some x=>
   obtain⟨e,i⟩:=h.get f;rw[i];exact .pure ⟨eX d e,rfl⟩
  |none=>grind[T]
theorem kQ(p)(e):z p (AW e:cy α):=by
 refine z.program ?_;cases e<;>first
  |exact .halt _
  |exact z.then _ λa=>z.then _ λb=>z.then _ λb=>.halt _
theorem Qd(p)(k)(x y)(c):z p (sK k x y c:cy α):=by
 unfold sK;split
 ·exact z.then _ λ_=>kQ _ _
 ·exact z.then _ λ_=>kQ _ _
theorem FY{R:Nat->α->β->Prop}(e)(s):W ρ I (J q fs) q R N (AW e) s:=.dead (kQ _ _)
theorem Jp{R:Nat->α->β->Prop}(k)(x y)(c)(s):W ρ I (J q fs) q R N (sK k x y c) s:=.dead (Qd _ _ _ _ _)
theorem F2{v v'}(h:RV ρ I N v v'):W ρ I (J q fs) q RD N (asIntOf v) (asIntOf v'):=by
 obtain⟨-,rfl⟩:=h;cases v<;>first
  |exact .pure rfl
  |exact T _ _
  |(rename_i a;cases a<;>first|exact T _ _|exact ik _ _)
theorem F3{v v'}(h:RV ρ I N v v'):W ρ I (J q fs) q RD N (asInt v) (asInt v'):=by refine W.bind' (F2 h) ?_;rintro M a _ c rfl;exact .pure rfl
theorem aak{v v'}(h:RV ρ I N v v'):W ρ I (J q fs) q RD N (asBool v) (asBool v'):=by obtain⟨-,rfl⟩:=h;cases v<;>first|exact .pure rfl|exact T _ _
theorem aof{v v'}(h:RV ρ I N v v'):W ρ I (J q fs) q (bu ρ I) N (asAgg v) (asAgg v'):=by obtain⟨b,rfl⟩:=h;cases v<;>first|exact .pure (bu.BV b)|exact T _ _
theorem RA.qx{a}(h:S I N (aE (U a))=Z):RA ρ I N a (dA ρ a):=⟨by simpa[S] using h,rfl⟩
theorem Jq {v v' } (h : RV ρ I N v v') : W ρ I (J q fs) q (RA ρ I) N (asAddr v) (asAddr v') := by
  obtain ⟨c, rfl⟩ := h
  cases v <;> first
    | exact T _ _
    | (rename_i a
       rcases a with _ | a
       · exact .dead (kQ _ .nilDeref)
       · exact .pure (RA.qx c))
theorem Jk {v v' } (h : RV ρ I N v v') : W ρ I (J q fs) q (RA ρ I) N (CV v) (CV v') := by
  obtain ⟨c, rfl⟩ := h
  cases v <;> first
    | exact T _ _
    | (rename_i a
       rcases a with _ | a
       · exact T _ _
       · exact .pure (RA.qx c))
structure Fair(ρ:Nat->Nat)(q:bU):Prop where
 inj:∀a b,ρ a=ρ b->a=b
 fix:∀b,b<=q.globals.size->ρ b=b
 over:∀b,q.globals.size<b->q.globals.size<ρ b
variable {ρ:Nat->Nat} {I:H} {q:bU} {fs:Array dV} {N M:Nat} {α β:Type}
theorem afX(f:ay->ay)(b):∀(l:List (ay×Nat)) (cs:Array ay),(l.map λx=>(f x.1,x.2)).foldl (λcs x=>cs.setIfInBounds (b+x.2) x.1) (cs.map f)=(l.foldl (λcs x=>cs.setIfInBounds (b+x.2) x.1) cs).map f
 | [],_=>rfl
 |x::l,cs=>by
  simp only[fS,List.foldl_cons];rw[<-afX f b l];congr 1
  grind
theorem afW{P:ay->Prop}(b):∀(l:List (ay×Nat)) (cs:Array ay),(∀x∈l,P x.1)->(∀v∈cs,P v)->∀v∈l.foldl (λcs x=>cs.setIfInBounds (b+x.2) x.1) cs,P v
 | [],_,_,h=>h
 |x::l,cs,c,h=>by
  refine afW b l _ (λy d=>c y (by grind)) λv e=>?_
  grind
theorem zipIdx_map(f:ay->ay)(cs:Array ay):(cs.map f).zipIdx.toList=cs.zipIdx.toList.map λx=>(f x.1,x.2):=by rw[adb,adb,xE,List.zipIdx_map];rfl
theorem azv(v):(F ρ v).cells=v.cells.map (F ρ):=by cases v<;>simp[F,AV,wY]
theorem agb(b):∀(d) (cs),sG b (cs.map (F ρ)) (d.map λx=>(x.1,F ρ x.2))=(sG b cs d).map λc=>c.map (F ρ)
 | [],cs=>by simp[sG]
 |(i,v)::d,cs=>by
  simp only[fS,sG];cases b i with
  |none=>rfl
  |some g=>
   obtain⟨e,f⟩:=g;simp only[azv,Array.size_map];split
   ·rfl
   ·rw[<-agb b d];congr 1;rw[<-J4,<-J4,zipIdx_map];exact afX (F ρ) e _ _
theorem aga{P:ay->Prop}(d):∀(b) (cs),(∀x∈b,∀c∈x.2.cells,P c)->(∀v∈cs,P v)->∀c,sG d cs b=U c->∀v∈c,P v
 | [],cs,_,h,c,e=>by simp only[sG] at e;grind
 |(i,v)::b,cs,k,h,c,e=>by
  simp only[sG] at e;cases f:d i with
  |none=>grind
  |some m=>
   obtain⟨g,j⟩:=m;rw[f] at e;simp only at e;split at e
   ·grind
   ·refine aga d b _ (λx l=>k x (by grind)) ?_ c e
    rw[<-J4];refine afW g _ _ (λx l=>?_) h;exact k (i,v) (by simp) x.1 (by grind)
def zv(ρ:Nat->Nat)(I:H)(N:Nat)(ps E:Array (Nat×ay)):Prop:=(∀x∈ps,S I N x.2=Z)∧E=ps.map λx=>(x.1,F ρ x.2)
theorem zv.mono{b a}(h:zv ρ I N b a)(d:N<=M):zv ρ I M b a:=⟨λx c=>eX d (h.1 x c),h.2⟩
theorem WR{e d}{cs cs'}(b)(h:zv ρ I N e d)(f:bu ρ I N cs cs'):
  (sG b cs e.toList=V∧sG b cs' d.toList=V)∨∃r g,sG b cs e.toList=U r∧sG b cs' d.toList=U g∧bu ρ I N r g:=by
 have k:sG b cs' d.toList=(sG b cs e.toList).map λc=>c.map (F ρ):=by
  rw[h.2,f.2,xE]
  grind[agb]
 cases i:sG b cs e.toList with
 |none=>grind
 |some r=>
  refine aA ⟨r,r.map (F ρ),rfl,by grind,?_,rfl⟩
  refine aga (P:=λv=>S I N v=Z) b _ _ (λx j c f=>?_) f.1 r i;have:=h.1 x (by grind)
  exact(bu.cells (ρ:=ρ) ⟨this,rfl⟩).1 c f
theorem ZO{t s:Type}{f:t->cy s}(c:∀N x,W ρ I (J q fs) q RD N (f x) (f x)):∀(l:List t) (N),W ρ I (J q fs) q RD N (l.mapM f) (l.mapM f)
 | [],N=>.pure' rfl
 |x::l,N=>by rw[List.mapM_cons];refine W.bind' (c N x) ?_;rintro M a _ d rfl;refine W.bind' (ZO c l M) ?_;rintro K b _ e rfl;exact .pure' rfl
theorem anJ{t s:Type}{f:t->cy s}(b:∀N x,W ρ I (J q fs) q RD N (f x) (f x))(l:Array t)(N):W ρ I (J q fs) q RD N (l.mapM f) (l.mapM f):=by rw[Array.mapM_eq_mapM_toList];refine W.bind (ZO b _ N) ?_;rintro M a _ c rfl;exact .pure rfl
theorem aoj(e:∀b,N<=b->I.F b=Z)(c:ru q)(t):W ρ I (J q fs) q (RV ρ I) N (Instr.alloc t Z (bO #[])) (Instr.alloc t Z (bO #[])):=by
 refine W.bind' (By c t) ?_;rintro M z j g ⟨d,_⟩;refine W.bind' (SG (λb k=>e b (by omega)) t d) ?_
 rintro K a h i f;exact .pure' (RV.ptr f)
theorem aoc(d:∀b,N<=b->I.F b=Z)(t){v v'}(h:RV ρ I N v v'):W ρ I (J q fs) q (RV ρ I) N (Instr.box t v) (Instr.box t v'):=by refine W.bind' (SG d t h) ?_;rintro K a f e c;exact .pure' (RV.ptr c)
theorem aob(u:ru q)(t){p e}(h:zv ρ I N p e):W ρ I (J q fs) q (RV ρ I) N (Instr.build t p) (Instr.build t e):=by
 refine W.bind' (By u t) ?_;rintro M z w o ⟨s,_⟩;have l:=bu.cells s;refine W.bind' (gq t) ?_;rintro K d _ m rfl;split
 ·refine W.bind' (anJ (λN f=>W.bind' (mq f.type) (by rintro M a _ o rfl;exact .pure' rfl)) _ _) ?_
  rintro L b _ k rfl;rcases WR (λx=>b[x]?) (h.mono (bq o (bq m k))) (l.mono (bq m k)) with⟨g,j⟩|⟨r,v,g,j,n⟩
  ·grind[T]
  ·rw[g,j];exact .pure' (RV.agg n)
 ·refine W.bind' (mq _) ?_;rintro L c _ k rfl;rcases WR (λi=>U (i*c,c)) (h.mono (bq o (bq m k))) (l.mono (bq m k)) with⟨g,j⟩|⟨r,v,g,j,n⟩
  ·grind[T]
  ·rw[g,j];exact .pure' (RV.agg n)
 grind[T]
theorem JA{v}(h:n v=Z):∀c∈v.cells,n c=Z:=by
 cases v<;>simp only[AV]<;>try grind
 rename_i a;obtain⟨l⟩:=a;simp only[n,Gf] at h;induction l with
 |nil=>grind
 |cons v l b=>
  simp only[BL] at h
  grind
theorem Tp{T:Array ay}(h:∀c∈T,n c=Z)(i:Nat):n T[i]! =Z:=by
 rw[getElem!_def];cases a:T[i]? with
 |none=>rfl
 |some x=>grind
theorem aoa(e:∀b,N<=b->I.F b=Z)(G:ru q)(t)(g){u o}(h:zv ρ I N u o):W ρ I (J q fs) q (RV ρ I) N (Instr.buildSlice t g u) (Instr.buildSlice t g o):=by
 refine W.bind' (gq t) ?_;rintro M d _ H rfl;split
 ·rename_i j;refine W.bind' (mq j) ?_;rintro K f _ E rfl;dsimp only;split
  ·exact .dead (z.bind (.halt _) _)
  ·have Q3:∀(L) (l:Array ay),K<=L->(∀c∈l,n c=Z)->W ρ I (J q fs) q (RV ρ I) L
     (match sG (λi=>U (i*f,f)) ((Fg (g*f)).map (l[· % l.size]!)) u.toList with
      |some k=>do bH (aD (U (<-newRow j k)) g g)
      |_=>stuck "buildSlice: a part of the wrong size")
     (match sG (λi=>U (i*f,f)) ((Fg (g*f)).map (l[· % l.size]!)) o.toList with
      |some k=>do bH (aD (U (<-newRow j k)) g g)
      |_=>stuck "buildSlice: a part of the wrong size"):=λL l s m=>by
    have p:bu ρ I L ((Fg (g*f)).map (l[· % l.size]!)) ((Fg (g*f)).map (l[· % l.size]!)):=bu.plain λx R=>by
     grind[Tp]
    rcases WR (λi=>U (i*f,f)) (h.mono (bq H (bq E s))) p with⟨w,y⟩|⟨r,Q1,w,y,D⟩
    ·grind[T]
    ·rw[w,y];refine W.bind' (FZ (λb Q0=>e b (by omega)) j D) ?_
     rintro O a P A Q2;exact .pure' ⟨by simp[S,Q2.1],by simp[F,Q2.2]⟩
   split
   ·exact W.bind' (R:=λ_ (a b)=>a=b∧∀c∈a,n c=Z) (.pure' ⟨rfl,by simp⟩) (by rintro L l _ s ⟨rfl,m⟩;exact Q3 L l s m)
   ·refine W.bind' (By G j) ?_;rintro L v Q s ⟨C,B⟩;refine W.bind' (R:=λ_ (a b)=>a=b∧∀c∈a,n c=Z) (.pure' ⟨?_,JA B⟩) (by rintro O l _ A ⟨rfl,m⟩;exact Q3 O l (bq s A) m)
    rw[C.2,(rP (ρ:=ρ) (I:=I) (N:=N) B).2]
 grind[T]
variable{ρ:Nat->Nat}{I:H}{q:bU}{fs:Array dV}{N M:Nat}{α β:Type}
theorem ZP(t){v v'}(h:RV ρ I N v v'):W ρ I (J q fs) q (RV ρ I) N (CW t v) (CW t v'):=by
 refine W.bind' (Jk h) ?_
 grind[Bz]
theorem ani(t){v v' x x'}(h:RV ρ I N v v')(d:RV ρ I N x x'):W ρ I (J q fs) q RU N (Qj t v x) (Qj t v' x'):=by refine W.bind' (Jk h) ?_;rintro M a f c e;exact Np t e (d.mono c)
theorem RV.slice{a}{n c}(h:S I N (aD a n c)=Z):∀b,a=U b->RA ρ I N b (dA ρ b):=by rintro b rfl;exact⟨by simpa[S] using h,rfl⟩
theorem RV.mkSlice{a a'}(n c)(h:∀b,a=U b->I.blk N b.block=Z)(e:a'=a.map (dA ρ)):RV ρ I N (aD a n c) (aD a' n c):=by
 subst e;refine⟨?_,rfl⟩;cases a with
 |none=>simp[S]
 |some a=>simpa[S] using h a rfl
theorem ZS(t:dZ){x x' i v:ay}(y:RV ρ I N x x')(C:RV ρ I N i v):W ρ I (J q fs) q (RV ρ I) N (wE t x i) (wE t x' v):=by
 unfold wE;refine W.bind' (F2 C) ?_;rintro M ⟨k,n⟩ _ u rfl;dsimp only;have l:∀(K:Nat) (f:Option eK) (g:Nat) (h:dZ),M<=K->(∀b,f=U b->I.blk K b.block=Z)->W ρ I (J q fs) q (RV ρ I) K
   (do
    let j:=g<=1&&(match<-oq t with|.array .. =>Z|_=>ai)
    match f with
    |some a=>
     if 0<=n∧n<g then bH (aE (U (a.add (n.toNat*(<-sizeOf h)))))
     else if j then ua (wH "op/indexAddr.an index out of range at an array of length 0 or 1 (ledger 616)")
     else sK k n g zc
    |none=>sK k n 0 zc:cy ay)
   (do
    let j:=g<=1&&(match<-oq t with|.array .. =>Z|_=>ai)
    match f.map (dA ρ) with
    |some a=>
     if 0<=n∧n<g then bH (aE (U (a.add (n.toNat*(<-sizeOf h)))))
     else if j then ua (wH "op/indexAddr.an index out of range at an array of length 0 or 1 (ledger 616)")
     else sK k n g zc
    |none=>sK k n 0 zc:cy ay):=λK f g h p m=>by
  refine W.bind' (gq t) ?_;rintro L d _ A rfl;cases f with
  |none=>grind[Jp]
  |some a=>
   simp only[ey];by_cases s:0<=n∧n<g
   ·simp only[s,and_self,if_true];refine W.bind' (mq h) ?_;rintro O w _ F rfl;exact .pure' (RV.ptr (RA.add (a:=a) ⟨H.eu (m a rfl) (by omega),rfl⟩ _))
   ·simp only[s,if_false];refine .dead ?_;have:∀b:Bool,z (J q fs) (if b=Z then ua (wH "op/indexAddr.an index out of range at an array of length 0 or 1 (ledger 616)") else sK k n (↑g) zc:cy ay):=λb=>by
     split
     ·exact .halt _
     grind[Qd]
    exact this _
 refine W.bind' (gq t) ?_;rintro K d _ p rfl;obtain⟨o,rfl⟩:=y;split
 ·rename_i D B;refine W.bind' (Jk ⟨eX (bq u p) o,rfl⟩) ?_;rintro L a E A r;have:=l L (U a) D B (by omega) (λb m=>by cases m;exact r.1)
  rw[ey,<-r.2] at this
  grind
 ·rename_i x h f g c;have P:=RV.slice (ρ:=ρ) (eX (bq u p) o);exact l K f g h (by omega) (λb m=>(P b m).1)
 ·exact .dead (z.bind (.halt _) _)
theorem Nr{v v'}(y)(c)(h:RV ρ I N v v'):W ρ I (J q fs) q RD N (AN v y c) (AN v' y c):=by
 refine W.bind' (F2 h) ?_;rintro M ⟨k,n⟩ _ b rfl;dsimp only;split
 ·exact .pure' rfl
 grind[Jp]
def RO(ρ:Nat->Nat)(I:H)(N:Nat)(o o':Option ay):Prop:=(∀v,o=U v->S I N v=Z)∧o'=o.map (F ρ)
theorem RO.mono{o o'}(h:RO ρ I N o o')(c:N<=M):RO ρ I M o o':=⟨λv b=>eX c (h.1 v b),h.2⟩
theorem Nq(s)(b cap){d k i j mx yF}(o:RO ρ I N d k)(n:RO ρ I N i j)(p:RO ρ I N mx yF):W ρ I (J q fs) q RD N (Instr.sliceBounds s b cap d i mx) (Instr.sliceBounds s b cap k j yF):=by
 obtain⟨o,rfl⟩:=o;obtain⟨n,rfl⟩:=n;obtain⟨p,rfl⟩:=p;have e:∀(K h m:Nat),N<=K->W ρ I (J q fs) q RD K
   (do
    let l<-match d with
     |some v=>AN v h (if mx.isSome then .slice3C else .sliceB)
     |none=>bH 0
    bH (l,h,m))
   (do
    let l<-match d.map (F ρ) with
     |some v=>AN v h (if(mx.map (F ρ)).isSome then .slice3C else .sliceB)
     |none=>bH 0
    bH (l,h,m)):=λK h m f=>by
  cases d with
  |none=>exact .pure' rfl
  |some v=>
   simp only[ac1];refine W.bind' (Nr h _ ⟨eX f (o v rfl),rfl⟩) ?_;rintro L l _ g rfl;exact .pure' rfl
 have c:∀(K m),N<=K->W ρ I (J q fs) q RD K
   (do
    let h<-match i,mx with
     |some v,U _=>AN v m .slice3B
     |some v,V=>AN v m (if s then .sliceAcap else .sliceAlen)
     |none,V=>bH b
     |none,U _=>stuck "Slice: max without high"
    let l<-match d with
     |some v=>AN v h (if mx.isSome then .slice3C else .sliceB)
     |none=>bH 0
    bH (l,h,m))
   (do
    let h<-match i.map (F ρ),mx.map (F ρ) with
     |some v,U _=>AN v m .slice3B
     |some v,V=>AN v m (if s then .sliceAcap else .sliceAlen)
     |none,V=>bH b
     |none,U _=>stuck "Slice: max without high"
    let l<-match d.map (F ρ) with
     |some v=>AN v h (if(mx.map (F ρ)).isSome then .slice3C else .sliceB)
     |none=>bH 0
    bH (l,h,m)):=λK m f=>by
  cases i with
  |none=>
   cases mx with
   |none=>exact e K b m f
   |some w=>exact .dead (z.bind (.halt _) _)
  |some v=>
   cases mx with
   |none=>
    refine W.bind' (Nr m _ ⟨eX f (n v rfl),rfl⟩) ?_;rintro L l _ g rfl;exact e L l m (bq f g)
   |some w=>
    refine W.bind' (Nr m _ ⟨eX f (n v rfl),rfl⟩) ?_;rintro L l _ g rfl;exact e L l m (bq f g)
 cases mx with
 |none=>exact c N cap (aW _)
 |some w=>
  refine W.bind' (Nr cap _ ⟨p w rfl,rfl⟩) ?_;rintro L m _ g rfl;exact c L m g
theorem anl(t:dZ){x x':ay}{y n A k mx yF:Option ay}(B:RV ρ I N x x')(s:RO ρ I N y n)(w:RO ρ I N A k)(v:RO ρ I N mx yF):
  W ρ I (J q fs) q (RV ρ I) N (Instr.slice t x y A mx) (Instr.slice t x' n k yF):=by
 unfold Instr.slice;refine W.bind' (gq t) ?_;rintro M d _ i rfl;obtain⟨j,rfl⟩:=B;have u:yF.isSome=mx.isSome:=by rw[v.2,ac1]
 split
 ·simp only[F];rw[u];split
  ·exact .dead (z.bind (.halt _) _)
  ·refine W.bind' (Nq ai _ _ (s.mono i) (w.mono i) (mx:=V) (yF:=V) ⟨by simp,rfl⟩) ?_
   rintro K ⟨l,h,m⟩ _ e rfl;exact .pure' (RV.plain rfl)
 ·simp only[F];refine W.bind' (Nq Z _ _ (s.mono i) (w.mono i) (v.mono i)) ?_;rintro K ⟨l,h,m⟩ _ e rfl;refine W.bind' (mq _) ?_;rintro L f _ C rfl;have p:=RV.slice (ρ:=ρ) j;refine .pure' (RV.mkSlice _ _ (λb g=>?_) ?_)
  ·split at g
   ·exact H.eu (p b g).1 (by omega)
   ·obtain⟨c,r,rfl⟩:=xI.1 g;exact H.eu ((p c r).add (l*f)).1 (by omega)
  ·split
   ·rfl
   ·simp only[Option.map_map];refine Option.map_congr λc r=>?_;exact((p c r).add (l*f)).2
 ·refine W.bind' (Jq ⟨eX i j,rfl⟩) ?_;rintro K a D e o;refine W.bind' (gq _) ?_;rintro L d _ C rfl;split
  ·refine W.bind' (Nq ai _ _ (s.mono (by omega)) (w.mono (by omega)) (v.mono (by omega))) ?_
   rintro O ⟨l,h,m⟩ _ R rfl;refine W.bind' (mq _) ?_;rintro P f _ E rfl;refine .pure' (RV.mkSlice _ _ (λb g=>?_) ?_)
   ·simp only[ec] at g;subst g;split
    ·exact H.eu o.1 (by omega)
    ·exact H.eu (o.add (l*f)).1 (by omega)
   ·simp only[ey,ec];split
    ·exact o.2
    ·exact(o.add (l*f)).2
  grind[T]
 grind[T]
theorem ank(t){x x'}{k i r g mx yF}(n:RV ρ I N x x')(p:RO ρ I N k i)(u:RO ρ I N r g)(s:RO ρ I N mx yF):
  W ρ I (J q fs) q (RV ρ I) N (Instr.sliceAt t x k r mx) (Instr.sliceAt t x' i g yF):=by
 refine W.bind' (gq t) ?_;rintro M d _ f rfl;split
 ·refine W.bind' (Jk (n.mono f)) ?_;rintro K a v w j;refine W.bind' (Nq ai _ _ (p.mono (by omega)) (u.mono (by omega)) (s.mono (by omega))) ?_
  rintro O ⟨l,h,m⟩ _ z rfl;refine W.bind' (mq _) ?_;rintro P e _ y rfl;refine .pure' (RV.mkSlice _ _ (λb o=>?_) ?_)
  ·simp only[ec] at o;subst o;split
   ·exact H.eu j.1 (by omega)
   ·exact H.eu (j.add (l*e)).1 (by omega)
  ·simp only[ey,ec];split
   ·exact j.2
   ·exact(j.add (l*e)).2
 ·exact anl t (n.mono f) (p.mono f) (u.mono f) (s.mono f)
theorem aog(t){x x'}(h:RV ρ I N x x'):W ρ I (J q fs) q (RV ρ I) N (aza t x) (aza t x'):=by
 refine W.bind' (gq t) ?_;rintro M d _ f rfl;split
 ·obtain⟨e,rfl⟩:=h;split
  ·simp only[F];rename_i a g c;split
   ·grind[FY]
   ·refine .pure' ⟨?_,rfl⟩;cases a with
    |none=>simp[S]
    |some a=>simpa[S] using H.eu ((RV.slice (ρ:=ρ) e) a rfl).1 f
  grind[T]
 grind[T]
theorem anM(t){x x'}(b:RV ρ I N x x'):W ρ I (J q fs) q (RV ρ I) N (Instr.makeInterface t x) (Instr.makeInterface t x'):=by
 refine W.bind' (gq t) ?_;rintro M d _ c rfl;split
 ·grind[T]
 ·exact .pure' ⟨by simpa[S] using eX c b.1,by simp only[F,b.2]⟩
theorem anL(i:∀b,N<=b->I.F b=Z)(t){r c}(h:RO ρ I N r c):W ρ I (J q fs) q (RV ρ I) N (LV t r) (LV t c):=by
 unfold LV;obtain⟨j,rfl⟩:=h;have f:∀K,N<=K->W ρ I (J q fs) q (RV ρ I) K (do bH (cj (U (<-newObj (iP #[] 0))))) (do bH (cj (U (<-newObj (iP #[] 0))))):=λK k=>by
  have e:iP #[] 0=eV ρ (iP #[] 0):=by simp[eV]
  have h:=F0 (ρ:=ρ) (q:=q) (fs:=fs) (o:=iP #[] 0) (i K k) (by simp[ew])
  rw[<-e] at h;refine W.bind' h ?_;rintro L r c m ⟨rfl,_,rfl,l⟩;exact .pure' ⟨by simpa[S] using l,rfl⟩
 cases r with
 |none=>grind
 |some v=>
  refine W.bind' (gq t) ?_;rintro M d _ g rfl;split
  ·refine W.bind' (F3 ⟨eX g (j v rfl),rfl⟩) ?_
   grind
  ·exact .dead (z.bind (.halt _) _)
theorem anK(B:∀b,N<=b->I.F b=Z)(QW:ru q)(t:dZ){l l' c v:ay}(C:RV ρ I N l l')(y:RV ρ I N c v):W ρ I (J q fs) q (RV ρ I) N (agU t l c) (agU t l' v):=by
 unfold agU;refine W.bind' (gq t) ?_;rintro M d _ A rfl;split
 ·rename_i f;refine W.bind' (F3 (C.mono A)) ?_;rintro K s _ H rfl;refine W.bind' (F3 (y.mono (by omega))) ?_
  rintro L m _ Q0 rfl;refine W.bind' (qp f) ?_;rintro O i _ e ⟨rfl,Q3⟩;dsimp only;split
  ·refine .dead ?_;split
   ·exact z.bind (kQ _ _) _
   ·split
    ·exact z.bind (kQ _ _) _
    ·exact z.then _ λ_=>z.bind (kQ _ _) _
  ·refine W.bind' (aaj _) ?_;rintro P _ _ Q2 _;refine W.bind' (mq f) ?_;rintro Q g _ X rfl;have k:∀(Q1:Nat) (h:Array ay),Q<=Q1->(∀c∈h,n c=Z)->W ρ I (J q fs) q (RV ρ I) Q1
     (do
      let a<-newRow f ((Fg ((aH.wrap m).toNat*g)).map (h[· % h.size]!))
      bH (aD (U a) (aH.wrap s).toNat (aH.wrap m).toNat):cy ay)
     (do
      let a<-newRow f ((Fg ((aH.wrap m).toNat*g)).map (h[· % h.size]!))
      bH (aD (U a) (aH.wrap s).toNat (aH.wrap m).toNat):cy ay):=λQ1 h o j=>by
    have QX:bu ρ I Q1 ((Fg ((aH.wrap m).toNat*g)).map (h[· % h.size]!)) ((Fg ((aH.wrap m).toNat*g)).map (h[· % h.size]!)):=bu.plain λx G=>by
     grind[Tp]
    refine W.bind' (FZ (λb R=>B b (by omega)) f QX) ?_
    rintro V a D p r;exact .pure' ⟨by simp[S,r.1],by simp[F,r.2]⟩
   split
   ·exact W.bind' (R:=λ_ (a b:Array ay)=>a=b∧∀c∈a,n c=Z) (.pure' ⟨rfl,by simp⟩) (by rintro Q1 h _ o ⟨rfl,j⟩;exact k Q1 h o j)
   ·refine W.bind' (By QW f) ?_;rintro Q1 Y E o ⟨w,u⟩;refine W.bind' (R:=λ_ (a b:Array ay)=>a=b∧∀c∈a,n c=Z) (.pure' ⟨?_,JA u⟩) (by rintro V h _ p ⟨rfl,j⟩;exact k V h (bq o p) j)
    rw[w.2,(rP (ρ:=ρ) (I:=I) (N:=N) u).2]
 grind[T]
theorem anU(t)(i){x x'}(b:RV ρ I N x x'):W ρ I (J q fs) q (RV ρ I) N (Instr.field t x i) (Instr.field t x' i):=by
 refine W.bind' (gq t) ?_;rintro M d _ c rfl;split
 ·split
  ·refine W.bind' (aof (b.mono c)) ?_
   grind[uz]
  grind[T]
 grind[T]
theorem anT(t){x x' i f}(h:RV ρ I N x x')(g:RV ρ I N i f):W ρ I (J q fs) q (RV ρ I) N (LS t x i) (LS t x' f):=by
 refine W.bind' (F2 g) ?_;rintro M ⟨k,n⟩ _ j rfl;refine W.bind' (gq t) ?_;rintro K d _ m rfl;obtain⟨c,rfl⟩:=h;split
 ·simp only[F];split
  ·refine W.bind' (mq _) ?_;rintro L e _ o rfl;exact uz _ _ ((bu.BV c).mono (by omega))
  grind[Jp]
 ·simp only[F];rename_i s;cases l:(if 0<=n then s[n.toNat]? else V) with
  |some b=>exact .pure' (RV.plain rfl)
  |none=>grind[Jp]
 grind[T]
theorem Z7(i){x x'}(f:RV ρ I N x x'):W ρ I (J q fs) q (RV ρ I) N (Fe x i) (Fe x' i):=by
 unfold Fe;obtain⟨b,rfl⟩:=f;split
 ·simp only[F];rename_i e;cases c:e[i]? with
  |some v=>
   obtain⟨d,g⟩:=(bu.aq3 (ρ:=ρ) b).get c;rw[g];exact .pure' ⟨d,rfl⟩
  |none=>grind[T]
 grind[T]
theorem RA.blk{a a'}(h:RA ρ I N a a'):I.blk N a.block=Z∧a'.block=ρ a.block:=⟨h.1,by rw[h.2];rfl⟩
theorem ZC{r}(h:I.blk N r=Z):W ρ I (J q fs) q (λ_ a b=>a=V∧b=V) N (viewAt r) (viewAt (ρ r)):=by
 unfold viewAt;refine W.bind' (zM h) ?_;rintro M s _ c rfl;split
 ·exact .pure' ⟨rfl,rfl⟩
 ·refine W.bind' (uA (H.eu h c)) ?_;rintro K o f e ⟨d,rfl⟩;cases o<;>first|exact .pure' ⟨rfl,rfl⟩|cases d
theorem ZJ{r}(h:I.blk N r=Z):W ρ I (J q fs) q (λN a b=>(a=V∧b=V)∨∃x y l,a=U (x,l)∧b=(y,l)∧RA ρ I N x y) N (numberAt r) (numberAt (ρ r)):=by
 unfold numberAt;refine W.bind' (zM h) ?_;rintro M s _ d rfl;split
 ·exact .pure' (ax ⟨rfl,rfl⟩)
 ·refine W.bind' (uA (H.eu h d)) ?_;rintro K o f e ⟨c,rfl⟩;cases o<;>first|exact .pure' (ax ⟨rfl,rfl⟩)|cases c|exact .pure' (aA ⟨_,_,_,rfl,rfl,c,rfl⟩)
theorem F1{a a'}(h:RA ρ I N a a'):W ρ I (J q fs) q (λN x y=>RA ρ I N x.1 y.1∧x.2=y.2) N (behindNumber a) (behindNumber a'):=by
 unfold behindNumber;obtain⟨b,rfl⟩:=h;refine W.bind' (ZJ b) ?_;rintro M _ _ d (⟨rfl,rfl⟩|⟨x,y,l,rfl,rfl,c⟩)
 ·exact .pure' ⟨⟨H.eu b d,rfl⟩,rfl⟩
 ·exact .pure' ⟨c,rfl⟩
theorem SF{a a'}(h:RA ρ I N a a'):W ρ I (J q fs) q RU N (noView a) (noView a'):=by unfold noView;obtain⟨b,rfl⟩:=h;refine W.bind' (ZC b) ?_;rintro M _ _ c ⟨rfl,rfl⟩;exact .pure' trivial
theorem ahu(d):∀(t) (a),byteOfCell (J q fs) d t a=byteOfCell q d t a:=by
 induction d with
 |zero=>intro t a;rfl
 |succ d b=>
  intro t a;rw[byteOfCell,byteOfCell];simp only[b];rfl
theorem DI{a a'}(h:RA ρ I N a a'):W ρ I (J q fs) q RD N (byteOf a) (byteOf a'):=by
 unfold byteOf;have f:a'.spot=a.spot:=by rw[h.2];rfl
 have d:a'.off=a.off:=by rw[h.2];rfl
 rw[f,d];split
 ·exact .pure' rfl
 ·refine W.bind' lM ?_;rintro M p b c ⟨rfl,rfl⟩;refine W.bind' (SF (h.mono c)) ?_;rintro K _ _ k _;rw[h.blk.2];refine W.bind' (zM (H.eu h.1 (by omega))) ?_
  rintro L s _ l rfl;split
  ·rename_i e n;have g:(J b fs).cellsOf e=b.cellsOf e:=rfl;have j:(J b fs).bytesOf e=b.bytesOf e:=rfl;have i:(J b fs).depth=b.depth:=rfl;dsimp only;rw[g,i,ahu,j];split
   ·exact .pure' rfl
   ·split
    ·exact .pure' rfl
    grind[T]
  grind[T]
theorem ant{a a'}(h:RA ρ I N a a')(c b):W ρ I (J q fs) q (RA ρ I) N (partAt a c b) (partAt a' c b):=by
 unfold partAt;refine W.bind' (DI h) ?_;rintro M x _ f rfl;dsimp only;have d:RA ρ I M {block:=a.block,off:=a.off+c} {block:=a'.block,off:=a'.off+c}:=⟨H.eu h.1 f,by rw[h.2];rfl⟩
 refine W.bind' (DI d) ?_;rintro K y _ e rfl;split
 ·exact .pure' (d.mono e)
 ·exact .pure' ⟨(d.mono e).1,by rw[h.2];rfl⟩
theorem SS{a a'}(h:RA ρ I N a a')(f):W ρ I (J q fs) q (RA ρ I) N (fieldPlace a f) (fieldPlace a' f):=by
 unfold fieldPlace;refine W.bind' (mq _) ?_;rintro M x _ b rfl;split
 ·exact ant (h.mono b) _ _
 ·exact .pure' ((h.mono b).add _)
theorem Z6(s)(i){x x'}(h:RV ρ I N x x'):W ρ I (J q fs) q (RV ρ I) N (x8 s x i) (x8 s x' i):=by
 unfold x8;refine W.bind' (gq s) ?_;rintro M d _ c rfl;split
 ·split
  ·refine W.bind' (Jk (h.mono c)) ?_;rintro K a g k e;refine W.bind' (SS e _) ?_;rintro L b j l f;exact .pure' (RV.ptr f)
  grind[T]
 grind[T]
theorem ZF{a a'}(h:RA ρ I N a a'):W ρ I (J q fs) q RD N (stringish a) (stringish a'):=by
 unfold stringish;refine W.bind' (Nx h) ?_;rintro M b _ c rfl;split
 ·exact .pure' rfl
 ·rw[h.blk.2];refine W.bind' (zM (H.eu h.1 c)) ?_;rintro K s _ d rfl;split
  ·rename_i e n;exact Nx (a:={block:=a.block,off:=n}) ⟨H.eu h.1 (by omega),rfl⟩
  ·exact .pure' rfl
theorem ZK{a a'}(h:RA ρ I N a a'):W ρ I (J q fs) q RD N (do bH ((<-shape a.block) matches U (_,0))) (do bH ((<-shape a'.block) matches U (_,0))):=by rw[h.blk.2];refine W.bind' (zM h.1) ?_;rintro M s _ b rfl;exact .pure' rfl
theorem anE{a a' b c}(h:RA ρ I N a a')(d:RA ρ I N b c):W ρ I (J q fs) q RD N (mayBeOne a b) (mayBeOne a' c):=by
 unfold mayBeOne;dsimp only;refine W.bind' (ZF h) ?_;rintro M f _ e rfl;refine W.bind' (ZF (d.mono e)) ?_;rintro K i _ l rfl;refine W.bind' (ZK (h.mono (by omega))) ?_
 rintro L k _ m rfl;refine W.bind' (ZK (d.mono (by omega))) ?_
 rintro O g _ j rfl;exact .pure' rfl
theorem QH{ρ}(d:∀a b,ρ a=ρ b->a=b)(a b):(dA ρ a==dA ρ b)=(a==b):=by
 have:dA ρ a=dA ρ b↔a=b:=by
  constructor
  ·intro h;cases a;cases b
   grind[dA,Addr.mk.injEq]
  grind
 grind
theorem ZH(c:Fair ρ q){a a' b g}(d:RA ρ I N a a')(f:RA ρ I N b g):W ρ I (J q fs) q RD N (sameAddr a b) (sameAddr a' g):=by
 unfold sameAddr;have i:(a'.block==g.block)=(a.block==b.block):=by
  rw[d.blk.2,f.blk.2];by_cases h:a.block=b.block
  ·simp[h]
  ·rw[J0.2 h,J0.2 λe=>h (c.inj _ _ e)]
 have k:(a'==g)=(a==b):=by rw[d.2,f.2];exact QH c.inj a b
 rw[i,k];split
 ·exact .pure' rfl
 ·refine W.bind' (Nx d) ?_;rintro M l _ j rfl;refine W.bind' (Nx (f.mono j)) ?_;rintro K p _ s rfl;split
  ·exact .dead (z.bind (.halt _) _)
  ·refine W.bind' (SF (d.mono (by omega))) ?_
   rintro L _ _ t _;refine W.bind' (SF (f.mono (by omega))) ?_
   rintro O _ _ r _;refine W.bind' (anE (d.mono (by omega)) (f.mono (by omega))) ?_
   rintro P m _ o rfl;split
   ·refine W.bind' (DG _) ?_;rintro Q n _ u rfl;exact .pure' rfl
   ·exact .pure' rfl
theorem ann(c:Fair ρ q){a b}(d:∀x,a=U x->I.blk N x.block=Z)(e:∀x,b=U x->I.blk N x.block=Z):W ρ I (J q fs) q RD N (samePointer a b) (samePointer (a.map (dA ρ)) (b.map (dA ρ))):=by
 cases a<;>cases b
 ·exact .pure' rfl
 ·exact .pure' rfl
 ·exact .pure' rfl
 ·exact ZH c ⟨d _ rfl,rfl⟩ ⟨e _ rfl,rfl⟩
def IM{σ τ:Type}(R:Nat->σ->τ->Prop)(N:Nat)(a:ForInStep σ)(b:ForInStep τ):Prop:=
 (∃x y,a=.done x∧b=.done y∧R N x y)∨(∃x y,a=.yield x∧b=.yield y∧R N x y)
theorem Ny{t σ s:Type}{R:Nat->σ->s->Prop}(k:∀N M a b,N<=M->R N a b->R M a b)(g:t->t){f:t->σ->cy (ForInStep σ)}{f':t->s->cy (ForInStep s)}:
  ∀(l:List t) (N:Nat) (a:σ) (b:s),(∀x∈l,∀M a b,N<=M->R M a b->W ρ I (J q fs) q (IM R) M (f x a) (f' (g x) b))->R N a b->W ρ I (J q fs) q R N (forIn l a f) (forIn (l.map g) b f')
 | [],N,a,b,_,h=>by simp only[List.map_nil,List.forIn_nil];exact .pure' h
 |x::l,N,a,b,d,h=>by
  simp only[fS,List.forIn_cons];refine W.bind' (d x (by simp) N a b (aW _) h) ?_
  rintro M n m e (⟨u,v,rfl,rfl,c⟩|⟨u,v,rfl,rfl,c⟩)
  ·exact .pure' c
  ·exact Ny k g l M u v (λy i K a b j=>d y (by simp[i]) K a b (bq e j)) c
theorem SO{t σ s:Type}{R:Nat->σ->s->Prop}(g:∀N M a b,N<=M->R N a b->R M a b){f}{f'}(l:Array t)(N)(a)(b)
  (e:∀x∈l,∀M a b,N<=M->R M a b->W ρ I (J q fs) q (IM R) M (f x a) (f' x b)) (h:R N a b):W ρ I (J q fs) q R N (forIn l a f) (forIn l b f'):=by
 rw[<-JZ,<-JZ];have:=Ny (ρ:=ρ) (I:=I) (q:=q) (fs:=fs) g id l.toList N a b (f:=f) (f':=f') (λx i M a b d=>e x (by grind) M a b d) h
 grind[List.map_id]
theorem SN{σ d}{R:Nat->σ->d->Prop}(i:∀N M a b,N<=M->R N a b->R M a b){f}{f'}(n)(N)(a)(b)
  (g:∀x M a b,N<=M->R M a b->W ρ I (J q fs) q (IM R) M (f x a) (f' x b)) (h:R N a b):W ρ I (J q fs) q R N (forIn [0:n] a f) (forIn [0:n] b f'):=by
 rw[acZ,acZ];have:=Ny (ρ:=ρ) (I:=I) (q:=q) (fs:=fs) i id (List.range' 0 (Std.Legacy.Range.size [0:n]) 1) N a b (f:=f) (f':=f') (λx j M a b e=>g x M a b e) h
 grind[List.map_id]
theorem bu.yg{cs}(h:S I N (bN cs)=Z)(a:N<=M):bu ρ I M cs (mU ρ cs):=(bu.BV h).mono a
theorem ahZ(d):∀(t u),(J q fs).alikeButTags d t u=q.alikeButTags d t u:=by
 induction d with
 |zero=>intro t u;rfl
 |succ d a=>
  intro t u;rw[ay8,ay8];simp only[a];rfl
theorem aeI(t):(J q fs).stoodInHeld t=q.stoodInHeld t:=by unfold Program.stoodInHeld Program.stoodInAs;have:(J q fs).depth=q.depth:=rfl;simp only[ahZ,this];rfl
theorem afF(d):∀(t),(J q fs).eqGuardType d t=q.eqGuardType d t:=by
 induction d with
 |zero=>intro t;rfl
 |succ d a=>
  intro t;rw[Program.eqGuardType,Program.eqGuardType];simp only[a];rfl
theorem Z9(j:Fair ρ q)(d):∀(N) (t) (x x' y QW),RV ρ I N x x'->RV ρ I N y QW->W ρ I (J q fs) q RD N (rf d t x y) (rf d t x' QW):=by
 induction d with
 |zero=>intro N t x x' y QW _ _;exact ik _ _
 |succ d R=>
  intro N t x x' y QW QX X;rw[rf,rf];refine W.bind' (gq t) ?_;rintro M Q1 _ w rfl;obtain⟨l,rfl⟩:=QX;obtain⟨k,rfl⟩:=X;split
  case h_1=>exact .pure' rfl
  case h_2=>simp only[F];split;exact .pure' rfl;grind[T]
  case h_3=>exact .pure' rfl
  case h_4=>exact .pure' rfl
  case h_5 a b=>
   simp only[F,ey];refine W.bind' (F1 (RA.qx (eX w l))) ?_;rintro K u E o ⟨A,_⟩;refine W.bind' (F1 (RA.qx (eX (bq w o) k))) ?_;rintro L v H C ⟨B,_⟩;refine W.bind' lM ?_;rintro L' p D Cx ⟨rfl,rfl⟩;have e1:(E.1.block==H.1.block&&cq (E.1.block<D.globals.size))=(u.1.block==v.1.block&&cq (u.1.block<(J D fs).globals.size)):=by
    show _=(u.1.block==v.1.block&&cq (u.1.block<D.globals.size));rw[((A.mono C).blk.2),B.blk.2];congr 1
    ·by_cases h:u.1.block=v.1.block
     ·simp[h]
     ·rw[J0.2 h,J0.2 λe=>h (j.inj _ _ e)]
    ·by_cases h:u.1.block<=D.globals.size
     ·rw[j.fix _ h]
     ·have:=j.over u.1.block (by omega)
      grind
   rw[e1];split
   ·refine W.bind' (DI (A.mono (by omega))) ?_
    rintro O m _ QZ rfl;refine W.bind' (DI (B.mono (by omega))) ?_
    rintro P n _ G rfl;exact .pure' rfl
   ·refine W.bind' (qp t) ?_;rintro O i _ QZ ⟨rfl,_⟩;split
    ·have:(E.1==H.1)=(u.1==v.1):=by rw[A.2,B.2];exact QH j.inj _ _
     rw[this];split
     ·exact .pure' rfl
     ·exact ik _ _
    ·exact ik _ _
  case h_6=>exact ik _ _
  case h_7=>exact ik _ _
  case h_8=>simp only[F];split;exact .pure' rfl;grind[T]
  case h_9=>simp only[F];split;exact .pure' rfl;grind[T]
  case h_10=>exact .pure' rfl
  case h_11 b=>simp only[F,Gw];exact .pure' (by simp[RD])
  case h_12 a _=>cases a<;>first|exact .pure' rfl|simp_all
  case h_13 a b=>
   simp only[F,ey];refine W.bind' (mq _) ?_;rintro K n _ o rfl;rw[QH j.inj];split
   ·exact ZH j ((RA.qx (ρ:=ρ) (eX w l)).mono o) ((RA.qx (ρ:=ρ) (eX w k)).mono o)
   ·split
    ·exact .pure' rfl
    ·refine W.bind' (DG _) ?_;rintro L c _ C rfl;exact .pure' rfl
  case h_14=>exact ann j (λx QX=>by subst QX;exact(RA.qx (ρ:=ρ) (eX w l)).1) (λx QX=>by subst QX;exact(RA.qx (ρ:=ρ) (eX w k)).1)
  case h_15=>rename_i a b;cases a<;>cases b<;>first|exact .pure' rfl|simp[S] at l|simp[S] at k
  case h_16=>exact .pure' rfl
  case h_17=>exact .pure' rfl
  case h_18=>exact .pure' rfl
  case h_19=>
   rename_i tx vx ty vy;simp only[F];split
   ·exact .pure' rfl
   ·refine W.bind' (qp _) ?_;rintro K i _ o ⟨rfl,_⟩;split
    ·refine .dead ?_;exact z.then _ λp=>z.then _ λD=>by
      split
      ·exact z.bind (.halt _) _
      ·exact z.then _ λ_=>kQ _ _
    ·exact R K tx _ _ _ _ ⟨eX (bq w o) (by grind[S]),rfl⟩ ⟨eX (bq w o) (by grind[S]),rfl⟩
  case h_20=>
   rename_i s Q3 Q2;simp only[F];refine W.bind' lM ?_;rintro K p D o ⟨rfl,rfl⟩;rw[aeI];split
   ·exact .dead (z.bind (.halt _) _)
   ·refine W.bind' (R:=RD) (SO (λN M a b _ h=>h) s K _ _ (λf hf L a b C Qw=>?_) rfl) ?_
    ·cases Qw;split
     ·refine W.bind' (uz _ _ (bu.yg l (by omega))) ?_
      rintro O u E QZ A;refine W.bind' (uz _ _ (bu.yg k (by omega))) ?_
      rintro P v H G B;refine W.bind' (R P _ _ _ _ _ (A.mono G) B) ?_;rintro Q b _ Q0 rfl;split
      ·exact .pure' (ax ⟨_,_,rfl,rfl,rfl⟩)
      ·exact .pure' (aA ⟨_,_,rfl,rfl,rfl⟩)
     ·exact .pure' (aA ⟨_,_,rfl,rfl,rfl⟩)
    ·rintro L r _ C rfl;split<;>exact .pure' rfl
  case h_21=>
   rename_i QY g Q3 Q2;simp only[F];refine W.bind' (mq _) ?_;rintro K n _ o rfl;refine W.bind' (R:=RD) (SN (λN M a b _ h=>h) QY K _ _ (λi L a b C Qw=>?_) rfl) ?_
   ·cases Qw;refine W.bind' (uz _ _ (bu.yg l (by omega))) ?_
    rintro O u E QZ A;refine W.bind' (uz _ _ (bu.yg k (by omega))) ?_
    rintro P v H G B;refine W.bind' (R P _ _ _ _ _ (A.mono G) B) ?_;rintro Q b _ Q0 rfl;split
    ·exact .pure' (ax ⟨_,_,rfl,rfl,rfl⟩)
    ·exact .pure' (aA ⟨_,_,rfl,rfl,rfl⟩)
   ·rintro L r _ C rfl;split<;>exact .pure' rfl
  case h_22 b _ _=>simp only[F,Gw];exact .pure' (by simp[RD])
  case h_23 a _ _ _ _ _=>cases a<;>first|exact .pure' rfl|simp_all
  case h_24 b=>simp only[F,Gw];exact .pure' (by simp[RD])
  case h_25 a _=>cases a<;>first|exact .pure' rfl|simp_all
  case h_26=>exact .pure' rfl
  case h_27=>exact .pure' rfl
  case h_28=>exact .pure' rfl
  all_goals exact T _ _
theorem azx(d):∀(t) (b),cellOfByte (J q fs) d t b=cellOfByte q d t b:=by
 induction d with
 |zero=>intro t b;rfl
 |succ d a=>
  intro t b;rw[cellOfByte,cellOfByte];simp only[a];rfl
theorem azy(d)(t)(c o)(b):cellAtBytes (J q fs) d t c o b=cellAtBytes q d t c o b:=by unfold cellAtBytes;simp only[azx,ahu];rfl
theorem No(d)(t){x x' y i}(m:RV ρ I N x x')(o:RV ρ I N y i):W ρ I (J q fs) q (RV ρ I) N (Im d t #[x,y]) (Im d t #[x',i]):=by
 obtain⟨h,rfl⟩:=m;cases x<;>first|exact T _ _|skip
 rename_i b;show W ρ I (J q fs) q (RV ρ I) N (Im d t #[aE b,y]) (Im d t #[aE (b.map (dA ρ)),i]);unfold Im;refine W.bind' (F3 o) ?_;rintro M n _ j rfl;dsimp only;cases b with
 |none=>
  split
  ·exact ik _ _
  ·split
   ·exact .dead (z.bind (.halt _) _)
   ·exact ik _ _
 |some a=>
  have c:=RA.qx (ρ:=ρ) h;simp only[ey];split
  ·rw[c.blk.2];refine W.bind' (ZC (H.eu c.1 j)) ?_;rintro K _ _ v ⟨rfl,rfl⟩;exact .pure' (RV.ptr (c.mono (by omega)))
  ·split
   ·exact .dead (z.bind (.halt _) _)
   ·rw[c.blk.2];refine W.bind' (zM (H.eu c.1 j)) ?_;rintro K s _ v rfl;split
    ·rename_i e g;refine W.bind' lM ?_;rintro L p f w ⟨rfl,rfl⟩;have r:(J f fs).cellsOf e=f.cellsOf e:=rfl;have u:(J f fs).depth=f.depth:=rfl;rw[azy,r,u];have l:(dA ρ a).off=a.off:=rfl;rw[l];split
     ·rename_i off _;exact .pure' (RV.ptr (a:={a with off}) ⟨H.eu c.1 (by omega),rfl⟩)
     ·exact ik _ _
    ·exact ik _ _
theorem aoe(d:∀b,N<=b->I.F b=Z){a a'}(h:RA ρ I N a a')(l):W ρ I (J q fs) q (RV ρ I) N (asNumber a l) (asNumber a' l):=by
 unfold asNumber;have e:Obj.number a' l=eV ρ (.number a l):=by rw[h.2];simp[eV]
 have c:=F0 (ρ:=ρ) (q:=q) (fs:=fs) (o:=.number a l) (d N (aW _)) (by simpa[ew] using h.1)
 rw[<-e] at c;refine W.bind' c ?_;rintro L r g i ⟨rfl,_,rfl,f⟩;exact .pure' (RV.ptr ⟨f,rfl⟩)
theorem SI(G:∀b,N<=b->I.F b=Z)(t){x x' y i}(w:RV ρ I N x x')(h:RV ρ I N y i):W ρ I (J q fs) q (RV ρ I) N (movedNumber t x y) (movedNumber t x' i):=by
 unfold movedNumber;refine W.bind' (gq t) ?_;rintro M d _ s rfl;dsimp only;have r:W ρ I (J q fs) q (RV ρ I) M
   (do
    let aE (U n):=x|Builtin.unsafeAdd_ #[] t #[x,y]
    let(a,lost)<-behindNumber n
    match<-Im #[] t #[aE (a),y] with
    |aE (U b)=>asNumber b lost
    |v=>bH v)
   (do
    let aE (U n):=x'|Builtin.unsafeAdd_ #[] t #[x',i]
    let(a,lost)<-behindNumber n
    match<-Im #[] t #[aE (a),i] with
    |aE (U b)=>asNumber b lost
    |v=>bH v):=by
  have h:=h.mono s;obtain⟨g,rfl⟩:=(w.mono s);by_cases hp:∃n,x=aE (U n)
  ·obtain⟨n,rfl⟩:=hp;simp only[F,ey];refine W.bind' (F1 (RA.qx g)) ?_;rintro K ⟨a,l⟩ ⟨B,A⟩ P ⟨p,u⟩;simp only at p u⊢;subst u;refine W.bind' (No _ _ (RV.ptr p) (h.mono P)) ?_;rintro L v C D ⟨m,rfl⟩;have j:(∃b,v=aE (U b))∨∀b,v≠aE (U b):=by
    grind
   rcases j with⟨b,rfl⟩|E
   ·grind[F,aoe,RA.qx]
   ·have k:∀b,F ρ v≠aE (U b):=λb e=>by
     cases v<;>simp only[F] at e<;>try cases e
     rename_i o;cases o with
     |none=>simp at e
     |some c=>grind
    split
    ·grind
    ·exact .pure' ⟨m,rfl⟩
  ·have k:∀b,F ρ x≠aE (U b):=λb e=>by
    cases x<;>simp only[F] at e<;>try cases e
    rename_i o;cases o with
    |none=>simp at e
    |some c=>grind
   split
   ·grind
   ·exact No _ _ ⟨g,rfl⟩ h
 split
 ·exact .dead (z.halt _)
 grind
theorem anz(t){x x' y h}(f:RV ρ I N x x')(i:RV ρ I N y h):W ρ I (J q fs) q (RV ρ I) N (movedPointer t x y) (movedPointer t x' h):=by
 unfold movedPointer;by_cases hp:∃n,x=aE (U n)
 ·obtain⟨n,rfl⟩:=hp;have d:=f;obtain⟨a,rfl⟩:=f;have k:=RA.qx (ρ:=ρ) a;simp only[F,ey];refine W.bind' (ZJ k.1) ?_;rintro M _ _ g (⟨rfl,rfl⟩|⟨u,v,l,rfl,rfl,m⟩)
  ·exact No #[] t (d.mono g) (i.mono g)
  ·exact .dead (z.halt _)
 ·have j:∀b,F ρ x≠aE (U b):=λb e=>by
   cases x<;>simp only[F] at e<;>try cases e
   rename_i o;cases o with
   |none=>simp at e
   |some c=>grind
  obtain⟨a,rfl⟩:=f;split
  ·grind
  ·exact No #[] t ⟨a,rfl⟩ i
theorem ZE(c:Fair ρ q){a a' b d}(f:RA ρ I N a a')(g:RA ρ I N b d):W ρ I (J q fs) q RD N (Op.twoPlaces a b) (Op.twoPlaces a' d):=by
 unfold Op.twoPlaces;refine W.bind' lM ?_;rintro M p e j ⟨rfl,rfl⟩;by_cases h:(a.block !=b.block||decide (a.block≥(J e fs).globals.size))=Z
 ·dsimp only;rw[if_pos h];exact .dead (z.bind (.halt _) _)
 ·have k:¬(a'.block !=d.block||decide (a'.block≥e.globals.size))=Z:=by
   simp only[Bool.or_eq_true,bne_iff_ne,ne_eq,fI,not_or,Decidable.not_not] at h⊢;rw[f.blk.2,g.blk.2,h.1];have i:a.block<e.globals.size:=by grind[J]
   refine⟨rfl,?_⟩;rw[<-h.1,c.fix _ (by omega)]
   omega
  dsimp only;rw[if_neg h,if_neg k];refine W.bind' (DI (f.mono j)) ?_;rintro K x _ l rfl;refine W.bind' (DI (g.mono (by omega))) ?_
  rintro L y _ m rfl;exact .pure' rfl
theorem aok(c:Fair ρ q)(k){a a' b d}(e:RA ρ I N a a')(f:RA ρ I N b d):W ρ I (J q fs) q (RV ρ I) N (Op.addrSub k a b) (Op.addrSub k a' d):=by unfold Op.addrSub;refine W.bind' (ZE c e f) ?_;rintro M ⟨x,y⟩ _ g rfl;exact .pure' (RV.plain rfl)
theorem aol(c:Fair ρ q)(e){a a' b d}(f:RA ρ I N a a')(g:RA ρ I N b d):W ρ I (J q fs) q (RV ρ I) N (Op.addrCmp e a b) (Op.addrCmp e a' d):=by unfold Op.addrCmp;refine W.bind' (ZE c f g) ?_;rintro M ⟨x,y⟩ _ h rfl;dsimp only;split<;>first|exact .pure' (RV.plain rfl)|exact ik _ _
theorem aal(k)(n){a a'}(b:RA ρ I N a a'):W ρ I (J q fs) q (RV ρ I) N (Op.addrMod k a n) (Op.addrMod k a' n):=by
 unfold Op.addrMod;rw[b.blk.2];refine W.bind' (zM b.1) ?_;rintro M s _ c rfl;split
 ·refine W.bind' (qp _) ?_;rintro K i _ d ⟨rfl,_⟩;dsimp only;split
  ·exact .dead (z.bind (.halt _) _)
  ·refine W.bind' (DI (b.mono (by omega))) ?_
   rintro L x _ e rfl;exact .pure' (RV.plain rfl)
 ·exact ik _ _
theorem ana(b){x x'}(d:RV ρ I N x x'):W ρ I (J q fs) q (RV ρ I) N (Op.unary b x) (Op.unary b x'):=by
 obtain⟨c,rfl⟩:=d;cases b<;>cases x<;>first
  |exact T _ _
  |exact .pure (RV.plain rfl)
  |(simp[S] at c;done)
  |(rename_i a;cases a<;>first|exact T _ _|exact ik _ _)
theorem anS(c)(t)(k k')(a b):W ρ I (J q fs) q (RV ρ I) N (gw c t (Y k a) (Y k' b)) (gw c t (Y k a) (Y k' b)):=by
 cases c<;>(unfold gw;dsimp only[Op.shift,Op.intArith,Op.intDiv,Op.intBits,Op.intCmp];repeat' split)<;>first
  |exact T _ _
  |exact .dead (kQ _ _)
  |exact .pure' (RV.plain rfl)
  |exact .pure (RV.plain rfl)
theorem ang(c)(a b):W ρ I (J q fs) q (RV ρ I) N (LR c a b) (LR c a b):=by
 cases c<;>(unfold LR;dsimp only;repeat' split)<;>first
  |exact T _ _
  |exact ik _ _
  |exact .pure' (RV.plain rfl)
  |exact .pure (RV.plain rfl)
theorem aAd(c)(t)(a b):gw c t (aG a) (aG b)=LR c a b:=by cases c<;>rfl
theorem anh(c)(t)(a b):W ρ I (J q fs) q (RV ρ I) N (gw c t (aG a) (aG b)) (gw c t (a) (b)):=by
 grind[aAd,ang]
theorem aaa(c:Fair ρ q)(t)(f:Bool->Bool){x x' y a}(d:RV ρ I N x x')(e:RV ρ I N y a):W ρ I (J q fs) q (RV ρ I) N (do bH ((f (<-Op.equal t x y)))) (do bH ((f (<-Op.equal t x' a)))):=by refine W.bind' (Z9 c _ N t x x' y a d e) ?_;rintro M b _ g rfl;exact .pure' (RV.plain rfl)
set_option maxHeartbeats 2000000 in
theorem aah (k : ∀ b, N ≤ b → I.F b = Z) (e : Fair ρ q) (j ) (t ) {x x' y p } (n : RV ρ I N x x') (m : RV ρ I N y p) : W ρ I (J q fs) q (RV ρ I) N (gw j t x y) (gw j t x' p) := by
  have a := n
  have c := m
  obtain ⟨i, rfl⟩ := n
  obtain ⟨f, rfl⟩ := m
  rcases x with H | ⟨E, w⟩ | ⟨_, _⟩ | ⟨_, _, _⟩ | s | (_ | G) | ⟨_, _, _⟩ | _ | _ | ⟨_, _, _⟩ | _ | ⟨_, _⟩ | _ | _ | _ <;> (try (simp [S] at i; done)) <;>
    rcases y with F | ⟨L, A⟩ | ⟨_, _⟩ | ⟨_, _, _⟩ | B | (_ | D) | ⟨_, _, _⟩ | _ | _ | ⟨_, _, _⟩ | _ | ⟨_, _⟩ | _ | _ | _ <;> (try (simp [S] at f; done)) <;> first
    | exact anS j t _ _ _ _
    | exact anh j t _ _
    | skip
  all_goals (cases j <;> first
    | exact T _ _
    | exact aaa e t id a c
    | exact aaa e t (!·) a c
    | exact ik _ _
    | exact SI k t c a
    | exact SI k t a (RV.plain rfl)
    | skip)
  all_goals first
    | (refine W.bind' (gq t) ?_
       rintro M d _ g rfl
       split <;> first | exact anz t (a.mono g) (c.mono g) | exact SI (fun b C => k b (by omega)) t (a.mono g) (c.mono g))
    | (refine W.bind' (F1 (RA.qx i)) ?_
       rintro M u v g ⟨l, _⟩
       first
       | exact aal _ _ l
       | (refine W.bind' (F1 (RA.qx (eX g f))) ?_
          rintro K r z o ⟨h, _⟩
          first
          | exact aok e _ (l.mono o) h
          | exact aol e _ (l.mono o) h))
    | (refine W.bind' (F1 (RA.qx f)) ?_
       grind[aal])
theorem aab(d):∀(N) (t) (x x' y j),RV ρ I N x x'->RV ρ I N y j->W ρ I (J q fs) q RD N (Ff d t x y) (Ff d t x' j):=by
 induction d with
 |zero=>intro N t x x' y j _ _;exact ik _ _
 |succ d p=>
  intro N t x x' y j hx hy;rw[Ff,Ff];refine W.bind' (gq t) ?_;rintro M s _ D rfl;obtain⟨g,rfl⟩:=hx;obtain⟨e,rfl⟩:=hy;split
  case h_1=>exact .pure' rfl
  case h_2=>
   rename_i fields xs ys;simp only[F];refine W.bind' (R:=RD) (SO (λN M a b _ h=>h) fields M _ _ (λf E L a b l c=>?_) rfl) ?_
   ·cases c;split
    ·refine W.bind' (uz _ _ (bu.yg g (by omega))) ?_
     rintro O u w A o;refine W.bind' (uz _ _ (bu.yg e (by omega))) ?_
     rintro P v z m k;refine W.bind' (p P _ _ _ _ _ (o.mono m) k) ?_;rintro Q b _ B rfl;split
     ·exact .pure' (ax ⟨_,_,rfl,rfl,rfl⟩)
     ·exact .pure' (aA ⟨_,_,rfl,rfl,rfl⟩)
    ·exact .pure' (aA ⟨_,_,rfl,rfl,rfl⟩)
   ·rintro L r _ l rfl;split<;>exact .pure' rfl
  case h_3=>
   rename_i len elem xs ys;simp only[F];refine W.bind' (mq _) ?_;rintro K n _ C rfl;refine W.bind' (R:=RD) (SN (λN M a b _ h=>h) len K _ _ (λi L a b l c=>?_) rfl) ?_
   ·cases c;refine W.bind' (uz _ _ (bu.yg g (by omega))) ?_
    rintro O u w A o;refine W.bind' (uz _ _ (bu.yg e (by omega))) ?_
    rintro P v z m k;refine W.bind' (p P _ _ _ _ _ (o.mono m) k) ?_;rintro Q b _ B rfl;split
    ·exact .pure' (ax ⟨_,_,rfl,rfl,rfl⟩)
    ·exact .pure' (aA ⟨_,_,rfl,rfl,rfl⟩)
   ·rintro L r _ l rfl;split<;>exact .pure' rfl
  case h_4 h1 h2 h3=>
   split
   case h_1 ms _ _ hx hy=>
    cases x<;>simp only[F] at hx<;>try cases hx
    cases y<;>simp only[F] at hy<;>try cases hy
    grind
   case h_2 fields xs ys _ _ hx hy=>
    cases x<;>simp only[F] at hx<;>try cases hx
    cases y<;>simp only[F] at hy<;>try cases hy
    grind
   case h_3 len elem xs ys _ _ hx hy=>
    cases x<;>simp only[F] at hx<;>try cases hx
    cases y<;>simp only[F] at hy<;>try cases hy
    grind
   case h_4=>exact .pure' rfl
theorem aac (f ) (t ) (x y ) {a a' b h } (i : RV ρ I N a a') (j : RV ρ I N b h) : W ρ I (J q fs) q RU N (eqGuard f t x y a b) (eqGuard f t x y a' h) := by
  have e := i
  have c := j
  obtain ⟨m, rfl⟩ := i
  obtain ⟨k, rfl⟩ := j
  unfold eqGuard
  have d : W ρ I (J q fs) q RU N (do
      match a, b with
      | mF, mF =>
        if (x matches gB _) || (y matches gB _) then return
        if ← Ff LK t a b then ua (wH "binop/eql: two nil values of an interface type with methods, neither of them the literal nil")
      | bN _, bN _ =>
        if !(← program).eqGuardType (← program).depth t then return
        if ← Ff LK t a b then ua (wH "binop/eql: two nil values of an interface type with methods, in a part of a struct or an array")
      | _, _ => bH () : cy Unit) (do
      match F ρ a, F ρ b with
      | mF, mF =>
        if (x matches gB _) || (y matches gB _) then return
        if ← Ff LK t (F ρ a) (F ρ b) then ua (wH "binop/eql: two nil values of an interface type with methods, neither of them the literal nil")
      | bN _, bN _ =>
        if !(← program).eqGuardType (← program).depth t then return
        if ← Ff LK t (F ρ a) (F ρ b) then ua (wH "binop/eql: two nil values of an interface type with methods, in a part of a struct or an array")
      | _, _ => bH () : cy Unit) := by
    cases a <;> cases b <;> first
      | exact .pure trivial
      | (simp only [F]
         cases x <;> cases y <;> first
           | exact .pure trivial
           | (refine W.bind' (aab _ _ _ _ _ _ _ e c) ?_
              rintro M b _ l rfl
              split
              · exact ik _ _
              · exact .pure' trivial))
      | (simp only [F]
         refine W.bind' lM ?_
         rintro M p g l ⟨rfl, rfl⟩
         refine W.bind' lM ?_
         rintro K p g o ⟨rfl, rfl⟩
         have n : (J g fs).depth = g.depth := rfl
         rw [afF, n]
         split
         · exact .pure' trivial
         · refine W.bind' (aab _ _ _ _ _ _ _ (e.mono (by omega)) (c.mono (by omega))) ?_
           rintro L b _ r rfl
           split
           · exact ik _ _
           · exact .pure' trivial)
  cases f <;> first
    | exact d
    | exact .pure' trivial
theorem anf(g:∀b,N<=b->I.F b=Z)(e)(s):W ρ I (J q fs) q (RV ρ I) N (ag1 e s) (ag1 e s):=by
 unfold ag1;refine W.bind' (DG _) ?_;rintro M i _ k rfl;refine W.bind' (FZ (λb m=>g b (by omega)) e (bu.plain λv c=>?_)) ?_
 ·rcases Aj.1 c with c|c
  ·obtain⟨_,_,rfl⟩:=Array.mem_map.1 c;rfl
  ·obtain⟨_,rfl⟩:=acY.1 c;rfl
 rintro K a h l d;have j:W ρ I (J q fs) q RU K (LP a) (LP h):=by
  unfold LP;rw[d.blk.2];refine W.bind' (zM d.1) ?_;rintro L o _ f rfl;split
  ·exact ZV (a:={block:=a.block,off:=_}) ⟨H.eu d.1 f,rfl⟩ 1
  ·exact .pure' trivial
 refine W.bind' j ?_;rintro L _ _ f _;exact .pure' ⟨by simpa[S] using H.eu d.1 f,by rw[d.2];simp[F]⟩
theorem IM.yield{σ a}{R:Nat->σ->a->Prop}{x}{y}(h:R N x y):IM R N (.yield x) (.yield y):=aA ⟨_,_,rfl,rfl,h⟩
theorem Z4{σ d}{R:Nat->σ->d->Prop}(i:∀N M a b,N<=M->R N a b->R M a b){f}{f'}{l l'}(h:bu ρ I N l l')(a)(b)
  (g:∀x M a b,S I N x=Z->N<=M->R M a b->W ρ I (J q fs) q (IM R) M (f x a) (f' (F ρ x) b)) (c:R N a b):W ρ I (J q fs) q R N (forIn l a f) (forIn l' b f'):=by
 rw[h.2,<-JZ,<-JZ,xE];exact Ny (ρ:=ρ) (I:=I) (q:=q) (fs:=fs) i (F ρ) l.toList N a b (f:=f) (f':=f') (λx j M a b e=>g x M a b (h.1 x (by grind)) e) c
theorem an8{x x'}(g:RV ρ I N x x'):W ρ I (J q fs) q (RV ρ I) N (ag0 x) (ag0 x'):=by
 obtain⟨e,rfl⟩:=g;unfold ag0;cases x<;>first|exact T _ _|skip
 rename_i a n c;cases a with
 |none=>exact .pure' (RV.plain rfl)
 |some a=>
  simp only[F,ey];refine W.bind' (Nu ⟨by grind[S],rfl⟩ n) ?_
  rintro M l j m f;refine W.bind' (R:=RD) (Z4 (λN M a b _ h=>h) f _ _ (λy K a b o i d=>?_) rfl) ?_
  ·cases d;split
   ·rename_i k;exact .pure' (.yield rfl)
   ·exact .dead (z.bind (.halt _) _)
  ·rintro K s _ i rfl;exact .pure' (RV.plain rfl)
theorem ano{x x'}(g:RV ρ I N x x'):W ρ I (J q fs) q (RV ρ I) N (agZ x) (agZ x'):=by
 obtain⟨e,rfl⟩:=g;unfold agZ;cases x<;>first|exact T _ _|skip
 rename_i a n c;cases a with
 |none=>exact .pure' (RV.plain rfl)
 |some a=>
  simp only[F,ey];refine W.bind' (Nu ⟨by grind[S],rfl⟩ n) ?_
  rintro M l j m f;refine W.bind' (R:=RD) (Z4 (λN M a b _ h=>h) f _ _ (λy K a b o i d=>?_) rfl) ?_
  ·cases d;split
   ·rename_i k;exact .pure' (.yield rfl)
   ·exact .dead (z.bind (.halt _) _)
  ·rintro K s _ i rfl;exact .pure' (RV.plain rfl)
theorem apa(s)(b):∀(i) (a),(∀v∈a,n v=Z)->∀v∈Conv.runesFrom s b i a,n v=Z:=by
 induction b with
 |zero=>intro i a h;exact h
 |succ b d=>
  intro i a h;unfold Conv.runesFrom;split
  ·refine d _ _ λv c=>?_;rcases Array.mem_push.1 c with c|rfl
   ·grind
   ·rfl
  grind
theorem ane(f:∀b,N<=b->I.F b=Z)(e)(s):W ρ I (J q fs) q (RV ρ I) N (agY e s) (agY e s):=by
 unfold agY;dsimp only;refine W.bind' (DG _) ?_;rintro M g _ h rfl;refine W.bind' (FZ (λb k=>f b (by omega)) e (bu.plain λv c=>?_)) ?_
 ·rcases Aj.1 c with c|c
  ·grind[apa]
  ·obtain⟨_,rfl⟩:=acY.1 c;rfl
 rintro K a i j d;exact .pure' ⟨by simpa[S] using d.1,by rw[d.2];simp[F]⟩
theorem Sv(t):W ρ I (J q fs) q (λ_ a b=>a=b∧q.underlying t=U a) N (oq t) (oq t):=by
 unfold oq;refine W.bind' lM ?_;rintro M a b d ⟨rfl,c⟩;rw[c];show W ρ I (J q fs) q _ M (match q.underlying t with|some i=>bH i|none=>stuck "no such type") _
 cases q.underlying t with
 |some i=>exact .pure ⟨rfl,rfl⟩
 |none=>grind[T]
theorem anH{a a'}(b:RA ρ I N a a'):W ρ I (J q fs) q RU N (LP a) (LP a'):=by
 unfold LP;rw[b.blk.2];refine W.bind' (zM b.1) ?_;rintro L o _ c rfl;split
 ·exact ZV (a:={block:=a.block,off:=_}) ⟨H.eu b.1 c,rfl⟩ 1
 ·exact .pure' trivial
set_option maxHeartbeats 1000000 in
theorem an4 (hF : ∀ b, N ≤ b → I.F b = Z) (hz : ru q) (f dst ) (h1 : q.underlying f ≠ U Qh) (A : q.underlying dst ≠ U Qh) {x x' } (hx : RV ρ I N x x') :
    W ρ I (J q fs) q (RV ρ I) N (convert f dst x) (convert f dst x') := by
  unfold convert
  refine W.bind' (Sv f) ?_
  rintro M d _ D ⟨rfl, E⟩
  refine W.bind' (Sv dst) ?_
  rintro K e _ o ⟨rfl, Q⟩
  have j := hx.mono (bq D o)
  have w : ∀ k, d ≠ .float k := fun k e => hz.whole f k (by grind)
  have r : ∀ k, e ≠ .float k := fun k e => hz.whole dst k (by grind)
  have n3 : ∀ k, e ≠ .complex k := fun k e => hz.real dst k (by grind)
  have y : d ≠ Qh := fun e => h1 (by grind)
  have n5 : e ≠ Qh := fun e => A (by grind)
  have h : ∀ b, K ≤ b → I.F b = Z := by grind
  obtain ⟨F, rfl⟩ := j
  rcases x with xb | ⟨G, C⟩ | ⟨_, _⟩ | ⟨_, _, _⟩ | xs | (_ | B) | ⟨(_ | B), _, _⟩ | _ | _ | ⟨_, _, _⟩ | _ | ⟨_, _⟩ | _ | _ | _ <;> (try (simp [S] at F; done)) <;>
    cases d <;> (try (first | exact absurd rfl (w _) | exact absurd rfl y)) <;> cases e <;> (try (first | exact absurd rfl (r _) | exact absurd rfl n5)) <;> first
    | exact ik _ _
    | exact .pure (RV.plain rfl)
    | (refine W.bind' (gq _) ?_
       rintro L u _ i rfl
       generalize (f == dst) = z
       split
       · refine W.bind' (anH (a := B) ⟨H.eu (by simpa [S] using F) i, rfl⟩) ?_
         rintro O _ _ P _
         exact .pure' ⟨eX (by omega) F, rfl⟩
       · exact ik _ _)
    | (refine W.bind' (gq _) ?_
       rintro L u _ i rfl
       cases u <;> first
         | exact T _ _
         | exact ik _ _
         | (rename_i k
            cases k <;> first
              | exact T _ _
              | exact ik _ _
              | exact anf (fun b p => h b (by omega)) _ _
              | exact ane (fun b p => h b (by omega)) _ _
              | exact an8 ⟨eX i F, rfl⟩
              | exact ano ⟨eX i F, rfl⟩
              | skip))
    | skip
  all_goals trace_state
theorem aih:∀N M a b,N<=M->RU N a b->RU M a b:=λ_ _ _ _ _ h=>h
theorem NB(c)(d):∀(N) (t) (x x'),RV ρ I N x x'->W ρ I (J q fs) q RU N (AY c d t x) (AY c d t x'):=by
 induction d with
 |zero=>intro N t x x' _;exact ik _ _
 |succ d k=>
  intro N t x x' o;rw[AY,AY];refine W.bind' (gq t) ?_;rintro M f _ s rfl;obtain⟨e,rfl⟩:=o;cases f<;>try exact .pure' trivial
  case array len elem=>
   cases x<;>try exact T _ _
   rename_i l;simp only[F];refine W.bind' (SN (R:=RU) aih len M _ _ (λi L a b h j=>?_) trivial) λL _ _ h _=>.pure' trivial;refine W.bind' (mq _) ?_;rintro O n _ y rfl;refine W.bind' (uz _ _ (bu.yg e (by omega))) ?_
   rintro P v m r g;refine W.bind' (k P _ _ _ g) ?_;rintro Q _ _ u _;exact .pure' (aA ⟨_,_,rfl,rfl,trivial⟩)
  case struct fields=>
   cases x<;>try exact T _ _
   rename_i l;simp only[F];refine W.bind' (SO (R:=RU) aih fields M _ _ (λi w L a b h j=>?_) trivial) λL _ _ h _=>.pure' trivial;split
   ·refine W.bind' (uz _ _ (bu.yg e (by omega))) ?_
    rintro P v m r g;refine W.bind' (k P _ _ _ g) ?_;rintro Q _ _ u _;exact .pure' (aA ⟨_,_,rfl,rfl,trivial⟩)
   ·exact .pure' (aA ⟨_,_,rfl,rfl,trivial⟩)
  case interface ms=>
   cases x<;>try exact T _ _
   ·rename_i t v;simp only[F];refine W.bind' (qp _) ?_;rintro K i _ p ⟨rfl,_⟩;split
    ·refine .dead ?_;split
     ·exact z.bind (kQ _ _) _
     ·exact z.then _ λ_=>z.bind (kQ _ _) _
    ·exact k K _ _ _ ⟨eX (bq s p) (by grind[S]),rfl⟩
   ·exact .pure' trivial
def jv(ρ:Nat->Nat)(I:H)(N:Nat)(es es':Array l6):Prop:=(∀e∈es,pP I N e=Z)∧es'=es.map (ko ρ)
theorem abS{e}(a:N<=M)(h:pP I N e=Z):pP I M e=Z:=by
 simp only[pP,cS] at h⊢
 grind[eX]
theorem jv.mono{es es'}(h:jv ρ I N es es')(c:N<=M):jv ρ I M es es':=
 ⟨λe b=>by
  have:=h.1 e b;simp only[pP,cS] at this⊢
  grind[eX],h.2⟩
theorem af7(a:TypeDesc)(k:ay):∀(es:List l6) (i:Nat),AZ a (F ρ k) (es.map (ko ρ)) i=(AZ a k es i).map λo=>o.map λx=>(x.1,F ρ x.2)
 | [],i=>rfl
 |e::es,i=>by
  have c:CY a (F ρ k) (ko ρ e).key=CY a k e.key:=by show CY a (F ρ k) (F ρ e.key)=_;cases k<;>cases d:e.key<;>cases a<;>simp[CY,F]
  simp only[fS,AZ,c];cases CY a k e.key with
  |none=>rfl
  |some b=>
   cases b with
   |true=>rfl
   |false=>exact af7 a k es (i+1)
theorem af8(a:TypeDesc)(k:ay):∀(es:List l6) (i j:Nat) (v:ay),AZ a k es i=U (U (j,v))->∃e∈es,e.val=v
 | [],i,j,v,h=>by simp[AZ] at h
 |e::es,i,j,v,h=>by
  simp only[AZ] at h;split at h
  ·grind
  ·obtain⟨d,b,c⟩:=af8 a k es _ _ _ h;grind
  grind
def RF(ρ:Nat->Nat)(I:H)(N:Nat)(o o':Option (Nat×ay)):Prop:=(∀x,o=U x->S I N x.2=Z)∧o'=o.map λx=>(x.1,F ρ x.2)
theorem Z5(a:Fair ρ q)(t:dZ){k k':ay}:∀(es:List l6) (N i:Nat),RV ρ I N k k'->(∀e∈es,pP I N e=Z)->W ρ I (J q fs) q (RF ρ I) N (Xq t k es i) (Xq t k' (es.map (ko ρ)) i)
 | [],N,i,_,_=>by simp only[List.map_nil,Xq];exact .pure' ⟨by simp,rfl⟩
 |e::es,N,i,f,h=>by
  simp only[fS,Xq];have c:=h e (by simp)
  simp only[pP,cS] at c;refine W.bind' (Z9 a _ N t _ _ _ _ f ⟨c.1,rfl⟩) ?_;rintro M b _ d rfl;split
  ·exact .pure' ⟨by grind[eX],rfl⟩
  ·exact Z5 a t es M (i+1) (f.mono d) λe c=>abS d (h e (by simp[c]))
theorem SR(b:Fair ρ q)(t){k k'}{es es'}(f:RV ρ I N k k')(h:jv ρ I N es es'):W ρ I (J q fs) q (RF ρ I) N (Ij t k es.toList) (Ij t k' es'.toList):=by
 unfold Ij;refine W.bind' (gq t) ?_;rintro M d _ c rfl;rw[h.2,xE,f.2,af7];cases g:AZ d k es.toList 0 with
 |none=>
  simp only[Gw];exact Z5 b t es.toList M 0 ⟨eX c f.1,rfl⟩ λe i=>(h.mono c).1 e (by grind)
 |some o=>
  simp only[ey];refine .pure' ⟨?_,rfl⟩;rintro⟨j,v⟩ rfl;obtain⟨e,i,rfl⟩:=af8 _ _ _ _ _ _ g;have:=h.1 e (by grind)
  simp only[pP,cS] at this
  grind[eX]
theorem jv.empty:jv ρ I N #[] #[]:=⟨by simp,by simp⟩
theorem jv.isEmpty{es es'}(h:jv ρ I N es es'):es'.isEmpty=es.isEmpty:=by rw[h.2];simp[Array.isEmpty]
theorem anN(n:Fair ρ q)(D:ru q)(t)(k){x x' i m}(Q1:RV ρ I N x x')(u:RV ρ I N i m):W ρ I (J q fs) q (RV ρ I) N (LO t x i k) (LO t x' m k):=by
 unfold LO;refine W.bind' (gq t) ?_;rintro M d _ E rfl;cases d<;>try exact T _ _
 rename_i f e;dsimp only;have h:∀(K:Nat) (j g:Array l6),M<=K->jv ρ I K j g->W ρ I (J q fs) q (RV ρ I) K
   (do
    AY j.isEmpty 10000 f i
    let(v,Q)<-match<-Ij f i j.toList with
     |some (_,v)=>bH (v,Z)
     |none=>bH (<-kG e,ai)
    bH (if k then bO #[v,Q] else v):cy ay)
   (do
    AY g.isEmpty 10000 f m
    let(v,Q)<-match<-Ij f m g.toList with
     |some (_,v)=>bH (v,Z)
     |none=>bH (<-kG e,ai)
    bH (if k then bO #[v,Q] else v):cy ay):=λK j g s l=>by
  rw[l.isEmpty];refine W.bind' (NB _ _ _ _ _ _ (u.mono (by omega))) ?_
  rintro L _ _ A _;refine W.bind' (SR n _ (u.mono (by omega)) (l.mono A)) ?_
  rintro O o B R ⟨y,rfl⟩;have w:∀(P:Nat) (v:ay) (b:Bool),S I P v=Z->W ρ I (J q fs) q (RV ρ I) P (bH (if k then bO #[v,b] else v)) (bH (if k then bO #[F ρ v,b] else F ρ v)):=λP v b p=>by
   split
   ·exact .pure' (RV.tuple (vs:= #[v,b]) (vs':= #[F ρ v,b]) ((bu.nil.push ⟨p,rfl⟩).push (RV.plain rfl)))
   ·exact .pure' ⟨p,rfl⟩
  cases o with
  |some x=>
   grind
  |none=>
   simp only[Gw];refine W.bind' (By D e) ?_;rintro P v G Q0 ⟨⟨C,rfl⟩,_⟩
   grind
 obtain⟨a,rfl⟩:=Q1;cases x<;>try exact .dead (z.bind (.halt _) _)
 rename_i r;cases r with
 |none=>exact h M #[] #[] (aW _) jv.empty
 |some r=>
  simp only[F,ey];refine W.bind' (uA (H.eu (by grind[S]) E)) ?_
  rintro K o B s ⟨y,rfl⟩;cases o<;>first|exact .dead (z.bind (.halt _) _)|skip
  rename_i j c;exact h K j _ s ⟨by grind[ew,Array.all_eq_true_iff_forall_mem],rfl⟩
end
end Go.Proofs.YtpdbmpbmepkikaaGreatDoor
