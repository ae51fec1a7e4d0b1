/- Laws. -/
import Derived.Deep.RegionHeld3
import Derived.RangeFuncNested
import Derived.RangeFuncBound
import Derived.Maps.OwnIn
import Derived.Shelf.Small.Utf8
import Derived.Shelf.Small.Wraps
import Derived.Shelf.Strconv.Itoa3
import Derived.Shelf.Sort.Plain
import Derived.Shelf.Unicode.DecodeAny
import Derived.Shelf.Slices.In.SortNone
import Derived.WalkLawsBesides
import Derived.WalkSpells
import Derived.Lib.SmallJoins
import Derived.Lib.ItoaLen
import Derived.Shelf.Strings.SlTrimAscii
import Derived.Stop.Asserts
import Derived.Lib.IfaceEq
import Derived.Lib.Zigzag
import Derived.Test.YtpdbmpbmepkikaaGreatDoorL02
set_option maxRecDepth 100000
set_option maxHeartbeats 400000
set_option linter.all false
open Go.Proofs.Tryz
open And renaming intro->aM
open Array renaming replicate->uy
open Bool renaming true->Z,false->ai
open Decidable renaming decide->bP
open Go renaming method->CX,wpListIn->Lr,undef->ak,World->ax,Value->az,Program->bZ,Calls->bz,execOp->cS,Sem->cz,Oper->dG,TypeId->dV,Func->dY,yielded->dZ,Addr->eF,binOp->gF,callFunc->iJ,Operand->ja,results->kD,zeroValue->kQ,MapEntry->mU,underlying->pB,getObj->rB,maxLen->vQ,unsupported->vR
open Go.Builtin renaming append_->abY
open Go.Code renaming region->dS
open Go.Departure renaming mixedOrders->nM
open Go.Ending renaming returned->bj
open Go.Exit renaming panic->Ft
open Go.Extern.ReflectliteType renaming relation->Lz,toType->UU,typeOf->UW,method->UY,assignableTo->ab1,abiMethod->ab5,implements_->ams,elem->amz
open Go.Extern.ReflectliteValue renaming valueError->CU,method->CV,parts->Iy,set->PM,unpack->Ps,isNil->UR,elem->UT,methodAny->UX,mk->amA,flagAddr->amB
open Go.Extern.Rtype renaming kind->Lp,directlyAssignable->Lx
open Go.Fence renaming wide->Bb
open Go.Fn renaming yield->C8,func->ei
open Go.Instr renaming checkKey->C5,findNow->C7,entry->CZ,sameNow->FE,sameBits->FF,typeAssert->II,makeMap->Lt,findKey->Lv,lookup->Px,endRound->UM,mapUpdate->UP,keyThatStays->abZ,next->zJ
open Go.IntKind renaming i64->aG,u8->aq,u64->cP
open Go.Lib renaming hasPrefix->Iz,compareInt->PE,pow10Tab->ab0,setCells->zH,TabIs->zI
open Go.Next renaming value->gq,enter->jO
open Go.Obj renaming cells->aH,map->iY,deferred->uA,mapIter->vS
open Go.Op renaming bytesLess->Ls
open Go.Proofs.Lays renaming n227->aKB
open Go.Proofs.Tryz renaming prog->aD
open Go.Question renaming forced->amt
open Go.Region renaming binds->PD,Mode->PF,wanted->eW,ready->jh
open Go.Result renaming ok->aW,andThen->l6
open Go.RowKit renaming Below->aY,Hid->dx
open Go.Sem renaming run->oF
open Go.Shelf renaming Ren->CW
open Go.Unsupported renaming noEntry->yq
open Go.Value renaming oneCell'->A5,cells->A8,int->Y,slice->aC,string->aE,pointer->aF,agg->bO,tuple->bQ,map->bW,bool->cx,func->dF,iface->iK,nilIface->nO
open Go.World renaming setCell->jL,cell?->pz,alloc->qF,frozen?->yu
open List renaming range->mR
open Nat renaming reduceSub->vU,reduceAdd->vV
open Option renaming some->U,none->V
open Or renaming inr->aB,inl->ay
open Pure renaming pure->bI
open UInt8 renaming ofNat->kT
namespace Go.Proofs.YtpdbmpbmepkikaaGreatDoor
def Tb:=@Go.getD_set_ne
def Ks:=@Bool.not_eq_true'
def lQ:=@beq_iff_eq
def gK:=@Go.Sem.run_bind
def dK:=@Go.RowKit.Below.refl
def gJ:=@Go.RowKit.Below.heap_setCell
def qX:=@Go.World.putObj_heap_other
def ew:=@Go.World.cell?_of_block
def gI:=@Go.World.alloc_heap_new
def vt:=@Go.World.size_alloc
def dr:=@Go.RowKit.Below.heap_alloc
def eX:=@Array.getElem?_eq_some_iff
def x5:=@Iff.rfl
def GV:=@Go.World.putObj_heap_same
def AF:=@Bool.eq_iff_iff
def Cg:=@List.nodup_cons
def GU:=@List.cons.injEq
def GS:=@Prod.mk.injEq
def Zo:=@List.findIdx?_cons
def vq:=@Go.Sem.run_pure
def S5:=@decide_false
def Zn:=@Array.toList_push
def wU:=@List.map_append
def ait:=@List.pairwise_append
def ki:=@List.mem_map
def rY:=@List.mem_append
def ais:=@Array.toList_modify
def NG:=@Go.wpList_plain
def Kr:=@Go.wp_loop_rounds
def Ey:=@Go.rounds_succ
def X:=@Go.Lib.hid
def Ex:=@List.map_map
def NF:=@List.find?_cons
def oV:=@List.cons_append
def air:=@Go.Lib.toList_data
def Kq:=@List.cons_lt_cons_iff
def ND:=@List.all_eq_true
def jw:=@List.append_assoc
def S4:=@List.singleton_append
def aiq:=@List.count_eq_zero
def aIC:=@List.le_antisymm
def wT:=@List.pairwise_cons
def aip:=@List.Pairwise.filter
def SZ:=@List.Perm.eq_of_pairwise
def SY:=@List.mem_of_find?_eq_some
def NC:=@List.pairwise_map
def Zm:=@List.Pairwise.imp_of_mem
def Kn:=@List.perm_ext_iff_of_nodup
def Zl:=@List.isEmpty_eq_false_iff
def Cf:=@List.exists_mem_of_ne_nil
def rX:=@List.mem_filter
def mL:=@Go.World.ownsRow_nil
def Zk:=@List.map_toArray
def Zj:=@Option.isSome_some
def SX:=@List.mem_map_of_mem
def oU:=@Go.World.block_lt_of_cell?
def NB:=@Go.callsIn_of_wp
def rW:=@List.size_toArray
def oT:=@List.length_cons
def lF:=@List.length_nil
def tZ:=@Array.replicate_succ
def tY:=@Array.replicate_zero
def tX:=@List.push_toArray
def tW:=@List.append_toArray
def rV:=@List.nil_append
def Ew:=@List.nodup_append
def Cd:=@List.filter_append
def NA:=@List.filter_cons_of_pos
def tV:=@Go.bodyPost_ret
def Zi:=@List.filter_cons_of_neg
def Km:=@List.filter_nil
def tU:=@List.append_nil
def tT:=@Go.info_parts
def Ev:=@Go.World.frozen?_of_block
def vp:=@Go.run_takeDeferred
def Cc:=@List.eq_nil_of_length_eq_zero
def Cb:=@List.length_map
def Nz:=@List.pairwise_mergeSort
def Kl:=@List.mergeSort_perm
def aio:=@List.map_id
def AE:=@List.length_filter_le
def Zh:=@List.find?_eq_none
def nC:=@List.getElem_mem
def wS:=@List.take_add_one
def ain:=@Int.le_max_left
def AD:=@List.filter_eq_self
def jm:=@Go.Calls.mono
def Zg:=@Go.heap_drew
def wR:=@Go.World.cell?_alloc_lt
def M:=@Go.Joins.cell_of_block
def vo:=@Go.Joins.unfrozen_of_block
def eE:=@List.setIfInBounds_toArray
def eD:=@List.set_cons_zero
def eu:=@List.set_cons_succ
def aIB:=@List.dropWhile_cons
def aIA:=@Go.Lib.size_eq
def aim:=@Go.Lib.setCells_size
def Ny:=@Go.World.cell?_alloc_at
def ayW:=@Nat.eq_zero_or_pos
def kM:=@List.length_append
def SW:=@Go.World.frozen?_alloc_old
def SV:=@Go.run_typeAssert_lacksB
def ail:=@Go.Lib.run_eql_iface_int
def aIz:=@UInt8.toNat_ofNat'
def aik:=@Go.Lib.run_append_own_string
def aIy:=@Go.IntKind.wrap_u64
section
variable{P:bZ}{ops:Array dG}{Q:Exit->Act->ax->Prop}{md:PF}{S:ax->Prop}{z:Nat}
def uQ(P:bZ)(md:PF)(ops:Array dG)(Q:Exit->Act->ax->Prop)(S:ax->Prop)(z:Nat):Nat->Array Bool->Act->ax->Prop|0,listed,a,w=>jh md ops listed=[]/\Q .normal a w|fuel+1,listed,a,w=>(jh md ops listed=[]->Q .normal a w)/\∀i∈jh md ops listed,wpOp P ops Q i (λa' w'=>((listed.setIfInBounds i Z).getD z Z=ai->S w')/\uQ P md ops Q S z fuel (listed.setIfInBounds i Z) a' w') a w
theorem adg:∀(c:Nat)(b:Array Bool)(a:Act)(w:ax),uQ P md ops Q S z c b a w->wpAny P md ops Q c b a w|0,_,_,_,h=>h|c+1,_,_,_,h=>⟨h.1,λi e=>wpOp_mono (λg f d=>adg c _ g f d.2)<|h.2 i e⟩
def Qr(md:PF)(ops:Array dG)(z i:Nat):Bool:=(ops[z]?.map λo=>o.after.any λe=>PD md e&&e.on==i).getD ai
theorem aoV{i}(h:Qr md ops z i=Z){a}(e:a.getD i Z=ai):z∉jh md ops a:=by intro c;obtain⟨_,o,d,b⟩:=mem_ready.1 c;simp only[Qr,d,ee,fW]at h;grind
theorem aoI{i}{s}{v}(K:ops[i]?=U s)(n:∀(j:Nat)(o)x b,ops[j]?=U o->o.op≠.select x b)(X:∀c a w,Q (Ft c) (a.put s.dst v) w->Q (Ft c) a w)(J:z≠i)(W:Qr md ops z i=Z):∀(g)(f)(a)(w),(∀j r,ops[j]?=U r->j≠i->f.getD j Z=ai->(∀e∈r.after,PD md e=Z->e.on≠i)->s.apart ops r=Z)->i∈jh md ops f->YieldsIf P ops S s v a->f.getD z Z=ai->S w->uQ P md ops Q S z g (f.setIfInBounds i Z) (a.put s.dst v) w->uQ P md ops Q S z (g+1) f a w:=by
 intro g;induction g with|zero=>
  intro f a w _ I E _ y H;refine⟨λh=>by grind,λj F=>?_⟩;by_cases Hq:j=i;.subst Hq;exact E.wpOp K y ⟨λ_=>y,H⟩
  .have:=ready_mono F Hq;rw[H.1]at this;grind|succ g R=>
  intro f a w l I E C y H;refine⟨λh=>by grind,λj F=>?_⟩;by_cases Hq:j=i;.subst Hq;exact E.wpOp K y ⟨λ_=>y,H⟩
  .obtain⟨B,r,q,N⟩:=mem_ready.1 F;have p:=(mem_ready.1 I).1;have A:j≠z:=by grind[aoV]
   have t:∀e∈r.after,PD md e=Z->e.on≠i:=λe Q0 Q2 Q1=>by grind
   have m:∀k D,ops[k]?=U D->k≠i->(f.setIfInBounds j Z).getD k Z=ai->(∀e∈D.after,PD md e=Z->e.on≠i)->s.apart ops D=Z:=λk D d M p G=>by
    refine l k D d M ?_ G;by_cases hjk:j=k;.grind
    .rw[Tb Z hjk]at p;exact p
   have u:((f.setIfInBounds i Z).setIfInBounds j Z).getD z Z=ai:=by rw[Tb Z A,Tb Z<|Ne.symm J];exact C
   refine wpOp_mono (λO T L=>⟨λ_=>L.2.1 u,R (f.setIfInBounds j Z) O T m (ready_mono I<|Ne.symm Hq) L.1 (by rw[Tb Z A];exact C) (L.2.1 u) ?_⟩)<|wpOp_putIf q (l j r q Hq B t) (λx b=>n i s x b K) (λx b=>n j r x b q) X E<|H.2 j<|ready_mono F Hq;grind[Array.setIfInBounds_comm]
theorem mg{i}{e}{v}{d}{b}{a}{w}(g:ops[i]?=U e)(hs:Region.noSelect ops=Z)(m:Region.free md ops b i=Z)(l:(jh md ops b).contains i=Z)(f:(z !=i&&Qr md ops z i&&!b.getD z Z)=Z)(n:∀c a w,Q (Ft c) (a.put e.dst v) w->Q (Ft c) a w)(k:YieldsIf P ops S e v a)(j:S w)(h:uQ P md ops Q S z d (b.setIfInBounds i Z) (a.put e.dst v) w):uQ P md ops Q S z (d+1) b a w:=by simp only[cG,bne_iff_ne,Ks]at f;grind[aoI,Region.noSelect_spec,Region.free_spec]
theorem DD{i}{d}{c}{b}{a}{w}(k:jh md ops b=[i])(m:ops[i]?=U d)(l:eW d (dZ ops a.tmps)=Z)(h:Oper.wp P d a w (λg f=>((b.setIfInBounds i Z).getD z Z=ai->S f)/\uQ P md ops Q S z c (b.setIfInBounds i Z) g f) Q):uQ P md ops Q S z (c+1) b a w:=by refine⟨λn=>by grind,λj e=>?_⟩;rw[k,mu]at e;subst e;unfold wpOp;grind
theorem DC{i}{d}{v}{w'}{c}{b}{a}{w}(k:jh md ops b=[i])(g:ops[i]?=U d)(e:eW d (dZ ops a.tmps)=Z)(f:(cS a.eval d).run P w=aW (gq v) w')(j:(b.setIfInBounds i Z).getD z Z=ai->S w')(h:uQ P md ops Q S z c (b.setIfInBounds i Z) (a.put d.dst v) w'):uQ P md ops Q S z (c+1) b a w:=by refine DD k g e ?_;unfold Oper.wp;rw[f];exact⟨j,h⟩
theorem VH{i}{d}{w'}{c}{b}{a}{w}(k:jh md ops b=[i])(g:ops[i]?=U d)(e:eW d (dZ ops a.tmps)=Z)(f:(cS a.eval d).run P w=aW .skip w')(j:(b.setIfInBounds i Z).getD z Z=ai->S w')(h:uQ P md ops Q S z c (b.setIfInBounds i Z) (a.put d.dst ak) w'):uQ P md ops Q S z (c+1) b a w:=by refine DD k g e ?_;unfold Oper.wp;rw[f];exact⟨j,h⟩
theorem VI{b:Array Bool}{a:Act}{w:ax}(d:jh md ops b=[])(h:Q .normal a w):∀c,uQ P md ops Q S z c b a w|0=>⟨d,h⟩|_+1=>⟨λ_=>h,by grind⟩
theorem wp_region_Z{id}{a}{w}(b:P.follows nM=Z)(c:S w.drew)(h:S w.drew->uQ P .any ops Q S z ops.size (uy ops.size ai) a w.drew):(dS id ops Z).wp P Q a w:=wp_region_any b<|adg _ _ _ _<|h c
section
variable {P:bZ} {ops:Array dG} {Q:Exit->Act->ax->Prop} {md:PF} {S:ax->Prop} {z i fuel:Nat} {oi:dG} {listed:Array Bool} {a:Act} {w:ax} {L:List Nat}
def tkB(md:PF)(ops:Array dG)(listed:Array Bool)(i:Nat):Bool:=Region.noSelect ops&&Region.free md ops listed i&&(jh md ops listed).contains i
structure L9(P:bZ)(md:PF)(ops:Array dG)(Q:Exit->Act->ax->Prop)(S:ax->Prop)(L:List Nat)(fuel:Nat)(listed:Array Bool)(a:Act)(w:ax):Prop where h:(∀c t v a w,Q (Ft c) (a.put t v) w->Q (Ft c) a w)->S w->wpAnyH P md ops Q S fuel listed a w
theorem qQ(v:az)(hi:ops[i]?=U oi)(E:tkB md ops listed i=Z)(hg:eW oi (dZ ops a.tmps)=Z)(hy:∀w,S w->(cS a.eval oi).run P w=aW (gq v) w)(h:L9 P md ops Q S L fuel (listed.setIfInBounds i Z) (a.put oi.dst v) w):L9 P md ops Q S (i::L) (fuel+1) listed a w:=⟨λV A=>by simp only[tkB,cG]at E;exact wpAnyH_take hi E.1.1 E.1.2 E.2 (λc=>V c _ _) (ay ⟨hg,hy⟩) A<|h.h V A⟩
theorem wE(hi:ops[i]?=U oi)(E:(jh md ops listed==[i]&&eW oi (dZ ops a.tmps))=Z)(h:S w->∀K':Act->ax->Prop,Shut (∀a w,S w->L9 P md ops Q S L fuel (listed.setIfInBounds i Z) a w->K' a w)->Oper.wp P oi a w K' Q):L9 P md ops Q S (i::L) (fuel+1) listed a w:=⟨λV A=>by simp only[cG,lQ]at E;refine wpAnyH_ready E.1 (by simp)<|AllReadyH.cons hi (λK hK=>?_) AllReadyH.nil;rw[cJ E.2];exact h A K λa w s t=>hK a w s λs=>t.h V s⟩
theorem DK(hr:jh md ops listed=[])(h:S w->Q .normal a w):L9 P md ops Q S [] fuel listed a w:=⟨λ_ E=>wpAnyH_done hr (h E) _⟩
theorem DJ(S:ax->Prop)(L:List Nat){id:Nat}(hm:P.follows nM=Z)(E:S w.drew)(U:∀c t v a w,Q (Ft c) (a.put t v) w->Q (Ft c) a w)(h:L9 P .any ops Q S L ops.size (uy ops.size ai) a w.drew):(dS id ops Z).wp P Q a w:=wp_region_held_drew hm E λE=>h.h U E
end
set_option linter.defProp false in
def yN:=aM @Act.put.eq_1<|aM @Act.put.eq_2<|aM @List.getElem_toArray.{0}<|aM @List.getElem_cons_zero.{0}<|aM @List.getElem_cons_succ.{0}<|aM @List.setIfInBounds_toArray.{0}<|aM @List.set_cons_zero.{0} @List.set_cons_succ.{0}
end
section
open Go
variable{q:bZ}{fs:Array dY}
theorem alb{f:Nat}{fn}(h:fs[f]?=U fn):(J q fs).funcs[f]?=fn:=h
@[simp]theorem amh(t):(J q fs).underlying t=q.underlying t:=rfl
@[simp]theorem aEU(t):(J q fs).info? t=q.info? t:=rfl
@[simp]theorem aKv:(J q fs).rt=q.rt:=rfl
@[simp]theorem aKu:(J q fs).types=q.types:=rfl
@[simp]theorem aKy:(J q fs).globals=q.globals:=rfl
@[simp]theorem aKA:(J q fs).depth=q.depth:=rfl
@[simp]theorem aKz(d):(J q fs).follows d=q.follows d:=rfl
@[simp]theorem aKw(t):(J q fs).stoodInHeld t=q.stoodInHeld t:=ajX t
@[simp]theorem aKx(d)(t):(J q fs).eqGuardType d t=q.eqGuardType d t:=akZ d t
theorem XB{d c}{s}{k:d->cz c}{P b}{w}(h:s.run P w=s.run b w)(e:∀a w,(k a).run P w=(k a).run b w):(s>>=k).run P w=(s>>=k).run b w:=by grind[Sem.run_bind,Result.andThen_halt]
@[simp]theorem ami(t)(w):(typeInfo t).run (J q fs) w=(typeInfo t).run q w:=by unfold typeInfo;show oF _ (match(J q fs).info? t with|some i=>bI i|none=>stuck "no such type") w=oF _ (match q.info? t with|some i=>bI i|none=>stuck "no such type") w;rw[aEU];cases q.info? t<;>rfl
@[simp]theorem aET(t)(w):(pB t).run (J q fs) w=(pB t).run q w:=by unfold pB;show oF _ (match(J q fs).underlying t with|some i=>bI i|none=>stuck "no such type") w=oF _ (match q.underlying t with|some i=>bI i|none=>stuck "no such type") w;rw[amh];cases q.underlying t<;>rfl
@[simp]theorem amg(t)(w):(kQ t).run (J q fs) w=(kQ t).run q w:=by unfold kQ;refine XB (ami t w) λa w=>?_;cases a.zero<;>rfl
@[simp]theorem UL(t)(w):(sizeOf t).run (J q fs) w=(sizeOf t).run q w:=by unfold sizeOf;exact XB (ami t w) λa w=>rfl
@[simp]theorem amj(t)(w):(isAgg t).run (J q fs) w=(isAgg t).run q w:=by unfold isAgg;refine XB (aET t w) λa w=>?_;cases a<;>rfl
theorem Pr{f}{fn}(b:(J q fs).funcs[f]?=U fn)(h:(fn.name== "runtime.NumGoroutine"||fn.body.isNone)=ai)(args)(w):(iJ f args).run (J q fs) w=aW (jO f args) w:=by
 simp only[Bool.or_eq_false_iff]at h;have d:fn.name≠ "runtime.NumGoroutine":=by grind
 cases e:fn.body with|none=>grind|some c=>have a:fs[f]?=fn:=b;show oF (J q fs) (match fs[f]? with|none=>_|some fn=>_) w=_;rw[a];simp[d,e]
end
end Go.Proofs.YtpdbmpbmepkikaaGreatDoor
set_option maxRecDepth 100000
namespace Go.Proofs
open Go.Proofs.YtpdbmpbmepkikaaGreatDoor
noncomputable abbrev Q:bZ:=J aD iP
theorem apH{f:Nat}{fn:dY}(h:aD.funcs[f]?=U fn)(h1:f≠41)(h2:f≠180)(h3:f≠181):Q.funcs[f]?=U fn:=alb<|(pg h1 h2 h3).trans h
theorem K{f:Nat}{fn:dY}(h:aD.funcs[f]?=U fn)(h1:(Nat.beq f 41||Nat.beq f 180||Nat.beq f 181)=ai):Q.funcs[f]?=U fn:=by simp only[Bool.or_eq_false_iff]at h1;exact apH h (Nat.ne_of_beq_eq_false h1.1.1) (Nat.ne_of_beq_eq_false h1.1.2)<|Nat.ne_of_beq_eq_false h1.2
theorem adX{f:Nat}{fn:dY}(hf:Q.funcs[f]?=U fn)(h:(fn.name== "runtime.NumGoroutine"||fn.body.isNone)=ai)(args:Array az)(w:ax):(iJ f args).run Q w=aW (jO f args) w:=Pr hf h args w
@[simp]def okF(f:Nat):Bool:=bP<|1<f/\f<87\/99<f/\f<106\/f=114\/115<f/\f<142\/145<f/\f<172\/174<f/\f<263/\f≠243\/f=282
theorem apv:(mR 283).all (λf=>!okF f||Q.funcs[f]?.any λfn=>!(fn.name== "runtime.NumGoroutine"||fn.body.isNone))=Z:=by kernel_rfl
@[simp]theorem aHt{f:Nat}(h:okF f=Z)(args:Array az)(w:ax):(iJ f args).run Q w=aW (jO f args) w:=by have h1:=List.all_eq_true.1 apv f (List.mem_range.2<|by unfold okF at h;have:=of_decide_eq_true h;omega);rw[h]at h1;cases h2:Q.funcs[f]? with|none=>rw[h2]at h1;cases h1|some fn=>rw[h2]at h1;exact Pr h2 (by simpa using h1) args w
theorem jB{t:dV}{x:Option TypeDesc}(h:aD.underlying t=x):(J aD iP).underlying t=x:=(amh t).trans h
theorem QT{t:dV}{x:Nat}(h:∀w,(sizeOf t).run aD w=aW x w)(w:ax):(sizeOf t).run (J aD iP) w=aW x w:=(UL t w).trans<|h w
theorem QU{t:dV}{x:Bool}(h:∀w,(isAgg t).run aD w=aW x w)(w:ax):(isAgg t).run (J aD iP) w=aW x w:=(amj t w).trans<|h w
theorem adW{t:dV}{x:az}(h:∀w,(kQ t).run aD w=aW x w)(w:ax):(kQ t).run (J aD iP) w=aW x w:=(amg t w).trans<|h w
theorem adI:Q.funcs[41]?=U wG:=by kernel_rfl
def aqh:=K func20 rfl
def aqc:=K func26 rfl
def aqb:=K func27 rfl
def ap9:=K func28 rfl
def ap6:=K func29 rfl
def apZ:=K func37 rfl
def apY:=K func38 rfl
def adH:=K func42 rfl
def QO:=K func43 rfl
def apX:=K func44 rfl
def adG:=K func45 rfl
def Wn:=K func46 rfl
def apW:=K func47 rfl
def apV:=K func50 rfl
def apU:=K func51 rfl
def apT:=K func52 rfl
def apQ:=K func62 rfl
def adF:=K func63 rfl
def Wm:=K func64 rfl
def apP:=K func65 rfl
def apO:=K func66 rfl
def Wl:=K func67 rfl
def apN:=K func68 rfl
def apM:=K func69 rfl
def apL:=K func70 rfl
def apJ:=K func84 rfl
def QM:=K func85 rfl
def apI:=K func86 rfl
def Wq:=K func101 rfl
def aqY:=K func111 rfl
def aqX:=K func112 rfl
def aqW:=K func113 rfl
def adV:=K func115 rfl
def adT:=K func117 rfl
def aqU:=K func118 rfl
def aqT:=K func119 rfl
def QS:=K func120 rfl
def aqS:=K func121 rfl
def aqR:=K func122 rfl
def aqQ:=K func123 rfl
def aqP:=K func124 rfl
def adR:=K func141 rfl
def adQ:=K func147 rfl
def aqM:=K func149 rfl
def aqK:=K func150 rfl
def aqI:=K func152 rfl
def Wp:=K func157 rfl
def aqx:=K func163 rfl
def aqw:=K func164 rfl
def aqv:=K func165 rfl
def aqo:=K func173 rfl
def aqn:=K func174 rfl
def Wo:=K func182 rfl
def adN:=K func184 rfl
def aqm:=K func185 rfl
def adM:=K func187 rfl
def aqk:=K func194 rfl
def adL:=K func195 rfl
def aqi:=K func199 rfl
def aqg:=K func200 rfl
def aqf:=K func206 rfl
def aqa:=K func278 rfl
def ap8:=K func288 rfl
def ap7:=K func289 rfl
def ap5:=K func290 rfl
def ap4:=K func291 rfl
def QN:=K func7 rfl
def apK:=K func8 rfl
def adS:=K func14 rfl
def aqL:=K func15 rfl
def aqB:=K func16 rfl
def adP:=K func17 rfl
def adO:=K func18 rfl
def aql:=K func19 rfl
def aqd:=K func23 rfl
def ap3:=K func30 rfl
def ap2:=K func31 rfl
def ap1:=K func32 rfl
def ap0:=K func33 rfl
def apS:=K func59 rfl
def apR:=K func60 rfl
def aq3:=K func100 rfl
def aq2:=K func102 rfl
def aq1:=K func103 rfl
def aq0:=K func104 rfl
def aqZ:=K func105 rfl
def aqV:=K func114 rfl
def adU:=K func116 rfl
def aqO:=K func146 rfl
def aqN:=K func148 rfl
def aqJ:=K func151 rfl
def aqH:=K func153 rfl
def aqG:=K func154 rfl
def aqF:=K func155 rfl
def aqE:=K func156 rfl
def aqD:=K func158 rfl
def aqC:=K func159 rfl
def aqA:=K func160 rfl
def aqz:=K func161 rfl
def aqy:=K func162 rfl
def aqu:=K func166 rfl
def aqt:=K func167 rfl
def aqs:=K func168 rfl
def aqr:=K func169 rfl
def aqq:=K func170 rfl
def aqp:=K func171 rfl
def aqj:=K func196 rfl
def adK:=K func198 rfl
def aqe:=K func211 rfl
def adJ:=K func282 rfl
@[simp]def aq5:=adX QM<|by kernel_rfl
@[simp]def aq6:=adX adK<|by kernel_rfl
def Mv:=jB underlying3
def yF:=jB underlying5
def qP:=jB underlying9
def adx:=jB underlying35
def apc:=jB underlying46
def QL:=jB underlying49
def By:=jB underlying51
def apb:=jB underlying72
def QK:=jB underlying76
def apa:=jB underlying77
def tB:=jB underlying79
def We:=jB underlying87
def Ak:=jB underlying107
def apk:=jB underlying120
def apj:=jB underlying123
def adC:=jB underlying135
def api:=jB underlying169
def Wi:=jB underlying177
def aph:=jB underlying178
def adB:=jB underlying182
def adA:=jB underlying184
def Wh:=jB underlying208
def apg:=jB underlying233
def F8:=jB underlying245
def adz:=jB underlying271
def apf:=jB underlying273
def ady:=jB underlying276
def ape:=jB underlying308
def apd:=jB underlying334
def apu:=QT sizeOf3
def adD:=QT sizeOf5
def aps:=QT sizeOf9
def apt:=QT sizeOf334
def apG:=QU isAgg3
def apE:=QU isAgg5
def apD:=QU isAgg9
def apF:=QU isAgg334
def QJ:=adW zeroValue3
def ao9:=adW zeroValue334
end Go.Proofs
namespace Go.Proofs.YtpdbmpbmepkikaaGreatDoor
section
open Go.RowKit
@[go_sem]theorem aHd(f):Bb.fn f=True:=rfl
@[go_sem]theorem aHe:Bb.depth=V:=rfl
structure O(F:Nat->Prop)(w w':ax):Prop where
 os:w'.os=w.os
 tape:w'.tape=w.tape
 output:w'.output=w.output
 size:w.heap.size<=w'.heap.size
 block:∀k,k<w.heap.size->¬F k->w'.heap[k]?=w.heap[k]?
theorem O.refl(F)(w):O F w w:=⟨rfl,rfl,rfl,aQ _,λ_ _ _=>rfl⟩
theorem O.mono{F G}{w w'}(h:O F w w')(c:∀k,k<w.heap.size->F k->G k):O G w w':=⟨h.os,h.tape,h.output,h.size,λk a d=>h.block k a λb=>d<|c k a b⟩
theorem O.trans'{F G H}{a b c}(h:O F a b)(k:O G b c)(l:∀x,x<a.heap.size->F x->H x)(j:∀x,x<a.heap.size->G x->H x):O H a c:=⟨k.os.trans h.os,k.tape.trans h.tape,k.output.trans h.output,bC h.size k.size,λi d e=>(k.block i (cB d h.size) λg=>e<|j i d g).trans<|h.block i d λf=>e<|l i d f⟩
theorem O.trans{F}{a b c}(h:O F a b)(k:O F b c):O F a c:=h.trans' k (λ_ _ x=>x) λ_ _ x=>x
theorem O.awN{B}{w w'}{F}(h:aY B w w')(a:∀k,k<w.heap.size->B<=k->F k):O F w w':=⟨h.os,h.tape,h.output,h.size,λk b c=>h.block k<|by grind⟩
theorem O.iH{w w'}{F}(h:aY w.heap.size w w'):O F w w':=.awN h λk a b=>absurd a<|by omega
theorem O.below{B}{w w'}{F}(h:O F w w')(c:B<=w.heap.size)(a:∀k,k<B->¬F k):aY B w w':=⟨h.os,h.tape,h.output,h.size,λk b=>h.block k (by omega)<|a k b⟩
theorem O.alloc(F)(w)(o):O F w<|w.alloc o:=.iH<|(dK _ _).alloc (aQ _) _
theorem O.drew(F)(w):O F w w.drew:=⟨rfl,rfl,rfl,aQ _,λ_ _ _=>rfl⟩
theorem O.setCell{F}(w)(a)(v)(h:F a.block):O F w<|w.setCell a v:=⟨rfl,rfl,rfl,by simp[jL],λk _ b=>gJ _ _ _ _ λe=>b<|e▸h⟩
theorem O.putObj{F}(w)(l)(o)(h:F l):O F w<|w.putObj l o:=⟨rfl,rfl,rfl,by simp,λk _ a=>qX λe=>a<|e▸h⟩
theorem O.cell{F}{w w'}(h:O F w w'){p}(b:p.block<w.heap.size)(a:¬F p.block):w'.cell? p=w.cell? p:=ew (w:=w)<|h.block _ b a
structure Ml(D:Nat->Prop)(w w':ax):Prop where
 os:w'.os=w.os
 tape:w'.tape=w.tape
 output:w'.output=w.output
 size:w.heap.size<=w'.heap.size
 block:∀k,D k->w'.heap[k]?=w.heap[k]?
theorem O.fJ{F D}{w w'}(h:O F w w')(b:∀k,D k->k<w.heap.size/\¬F k):Ml D w w':=⟨h.os,h.tape,h.output,h.size,λk a=>h.block k (b k a).1 (b k a).2⟩
structure qM{α:Type}(I:α->ax->(Nat->Prop)->Prop):Prop where
 lt:∀s w D,I s w D->∀b,D b->b<w.heap.size
 st:∀s w D w',I s w D->Ml D w w'->I s w' D
def bS(D:Nat->Prop)(W:ax)(D':Nat->Prop)(W':ax):Prop:=O D W W'/\∀b,D' b->D b\/W.heap.size<=b
theorem bS.refl(D)(W):bS D W D W:=⟨.refl _ _,λ_ h=>ay h⟩
theorem bS.trans{D e d}{W W' a}(h:bS D W e W')(k:bS e W' d a):bS D W d a:=⟨h.1.trans' k.1 (λ_ _ x=>x) λx g f=>(h.2 x f).resolve_right<|by omega,λb c=>by
  rcases k.2 b c with c|c;.exact h.2 b c
  .exact aB<|bC h.1.size c⟩
theorem bS.step{D b G}{W W1 a}(h:bS D W b W1)(k:O G W1 a)(d:∀x,x<W.heap.size->¬G x):bS D W b a:=⟨h.1.trans' k (λ_ _ x=>x) λx c e=>absurd e<|d x c,h.2⟩
theorem bS.other{D}{W W'}(h:O (λ_=>False) W W'):bS D W D W':=⟨h.mono λ_ _ f=>f.elim,λ_ h=>ay h⟩
def Iter{α:Type}(P:bZ)(gf:Nat)(lb:Array az)(A:α->Array az)(S:List α->Prop)(R:Nat->Prop)(W0:ax):Prop:=∀(l:Nat)(J U:List α->ax->(Nat->Prop)->Prop)(W:ax)(D0:Nat->Prop),Ml R W0 W->qM J->qM U->(∀b,D0 b->¬R b)->(∀(pre:List α)(x:α)(W1:ax)(V:Nat->Prop),(∃E,S<|pre++x::E)->J pre W1 V->YieldAt Bb 0 P l (A x) W1 λe W'=>(e=bj (cx Z)/\∃D',J (pre++[x]) W' D'/\bS V W1 D' W')\/e=bj (cx ai)/\∃D',U (pre++[x]) W' D'/\bS V W1 D' W')->J [] W D0->CallsIn Bb 0 P gf (#[dF (C8 l) #[] #[]]++lb) W λe W'=>(∃v,e=bj v)/\((∃xs D',S xs/\J xs W' D'/\bS D0 W D' W')\/∃pre D',(∃E,S<|pre++E)/\U pre W' D'/\bS D0 W D' W')
theorem Iter.later{g}{P}{gf}{lb}{a:g->Array az}{S}{R}{W0 W1}(h:Iter P gf lb a S R W0)(c:Ml R W0 W1):Iter P gf lb a S R W1:=λl J f W e b=>h l J f W e ⟨b.os.trans c.os,b.tape.trans c.tape,b.output.trans c.output,bC c.size b.size,λk d=>(b.block k d).trans<|c.block k d⟩
def au8{α:Type}(I:List α->ax->(Nat->Prop)->Prop)(E:Code->List α->ax->(Nat->Prop)->Prop)(xs:List α)(D:Nat->Prop)(W:ax):Exit->Act->ax->Prop|.normal,_,W'=>∃D',I xs W' D'/\bS D W D' W'|.ret,_,W'=>∃D',E .ret xs W' D'/\bS D W D' W'|.exit id,_,W'=>∃D',E (.exit id) xs W' D'/\bS D W D' W'|.goto t,_,W'=>∃D',E (.goto t) xs W' D'/\bS D W D' W'|Ft _,_,_=>False|.outgrown,_,_=>False
structure uM(l:Nat)(w w':ax):Prop where
 os:w'.os=w.os
 tape:w'.tape=w.tape
 output:w'.output=w.output
 size:w'.heap.size=w.heap.size
 block:∀k,k≠l->w'.heap[k]?=w.heap[k]?
theorem uM.putObj(w)(l)(o):uM l w<|w.putObj l o:=⟨rfl,rfl,rfl,by simp,λ_ h=>qX h⟩
theorem uM.fJ{l}{w w'}(h:uM l w w'){D}(b:¬D l):Ml D w w':=⟨h.os,h.tape,h.output,by rw[h.size];grind,λk a=>h.block k λe=>b<|e▸a⟩
theorem wp_rangeFunc{α:Type}{P:bZ}{g:ja}{ps:Array Tmp}{assign body:Code}{Q:Exit->Act->ax->Prop}{a:Act}{w:ax}{gf:Nat}{lb:Array az}(hg:a.eval g=.func (.func gf) #[] lb)(eg:∀args w,(iJ gf args).run P w=.ok (.enter gf args) w){Fj:α->Array az}{S:List α->Prop}{R:Nat->Prop}(hit:Iter P gf lb Fj S R w)(aba:∀b,R b->b<w.heap.size)(EM:∀x,(Fj x).size=ps.size)(I:List α->ax->(Nat->Prop)->Prop)(Ix:Code->List α->ax->(Nat->Prop)->Prop)(hI:qM I)(B:∀c,qM<|Ix c)(D0:Nat->Prop)(hR:∀b,D0 b->¬R b)(h0:I [] w D0)(aAN:∀(l:Nat)(m:List α)(x:α)(W:ax)(D:Nat->Prop),w.heap.size<l->l<W.heap.size->¬D l->(∃ju,S<|m++x::ju)->I m W D->(∀b,D b->D0 b∨w.heap.size<=b)->assign.wpIn (Bb.inRound l) 0 P (Exit.then (λa1 L=>bS D W (λb=>D b∨W.heap.size<=b∧b<L.heap.size) L∧∀z,uM l L z->body.wpIn (Bb.inRound l) 0 P (au8 I Ix (m++[x]) (λb=>D b∨W.heap.size<=b∧b<L.heap.size) z) a1 z) λ_ _ _=>False) {tmps:=(ps.zip<|Fj x).foldl (λt(p,v)=>t.setIfInBounds p v) a.tmps,defers:=[]} W)(aB0:∀(xs:List α)(W:ax)(D:Nat->Prop),S xs->I xs W D->bS D0 w D W->W.heap[w.heap.size]?=U (.deferred<|U [])->¬D w.heap.size->Q .normal {a with defers:={target:=.collected w.heap.size,args:=#[]}::a.defers} W)(aAt:∀(c:Code)(m:List α)(W:ax)(D:Nat->Prop),(∃ju,S<|m++ju)->Ix c m W D->bS D0 w D W->W.heap[w.heap.size]?=U (.deferred<|U [])->¬D w.heap.size->c.wpIn Bb 0 P Q {a with defers:={target:=.collected w.heap.size,args:=#[]}::a.defers} W):(Code.rangeFunc g ps assign body).wpIn Bb 0 P Q a w:=by
 refine wpIn_rangeFunc ?_;intro fn qz;obtain⟨N,hN⟩:=ex w.heap.size;obtain⟨i,y⟩:∃i:LoopState->Option Code->Loop,i=λst pe=>{state:=st,pending:=pe,fn,tmps:=a.tmps,params:=ps,assign,body,defers:=w}:=⟨_,rfl⟩;obtain⟨L,Hz⟩:∃L,(w.alloc<|.deferred<|U []).alloc (.loop<|i .ready V)=L:=⟨_,rfl⟩;have O3:L.heap[N+1]?=U (.loop<|i .ready V):=by rw[<-Hz,hN];have:=gI (w.alloc<|.deferred<|U [])<|.loop<|i .ready V;rwa[vt]at this
 have sQ:L.heap[N]?=U (.deferred<|U []):=by rw[<-Hz,hN];exact(dr _ _ _<|by simp).trans<|gI w _
 have ko:L=N+2:=by rw[<-Hz,hN];simp
 have OA:O (λ_=>False) w L:=by rw[<-Hz];exact(O.alloc _ w _).trans<|O.alloc _ _ _
 have aat:=hI.lt _ _ _ h0;let A:(Nat->Prop)->Nat->Prop:=λD b=>D b∨b=N∨b=N+1;let J:List α->ax->(Nat->Prop)->Prop:=λm W E=>∃D,(∀b,E b↔A D b)∧I m W D∧¬D N∧¬D (N+1)∧(∀b,D b->D0 b∨N<=b)∧W.heap[N+1]?=U (.loop<|i .ready V)∧W.heap[N]?=U (.deferred<|U []);let Jx:List α->ax->(Nat->Prop)->Prop:=λm W E=>∃D c,(∀b,E b↔A D b)∧Ix c m W D∧¬D N∧¬D (N+1)∧W.heap[N+1]?=U (.loop<|i .done<|U c)∧W.heap[N]?=U (.deferred<|U []);have hJ:qM J:=⟨λs W E h b n=>by
   obtain⟨D,q,X,_,_,_,d,r⟩:=h;rcases(q b).1 n with n|rfl|rfl;·exact hI.lt _ _ _ X b n
   ·exact(eX.1 r).1
   ·exact(eX.1 d).1,λs W E W' h T=>by obtain⟨D,q,X,h1,h2,h3,d,r⟩:=h;exact⟨D,q,hI.st _ _ _ _ X ⟨T.os,T.tape,T.output,T.size,λk r=>T.block k<|(q k).2<|.inl r⟩,h1,h2,h3,(T.block _<|(q _).2<|.inr<|.inr rfl).trans d,(T.block _<|(q _).2<|.inr<|.inl rfl).trans r⟩⟩;have Ie:qM Jx:=⟨λs W E h b n=>by
   obtain⟨D,c,q,X,_,_,d,r⟩:=h;rcases(q b).1 n with n|rfl|rfl;·exact(B c).lt _ _ _ X b n
   ·exact(eX.1 r).1
   ·exact(eX.1 d).1,λs W E W' h T=>by obtain⟨D,c,q,X,h1,h2,d,r⟩:=h;exact⟨D,c,q,(B c).st _ _ _ _ X ⟨T.os,T.tape,T.output,T.size,λk r=>T.block k<|(q k).2<|.inl r⟩,h1,h2,(T.block _<|(q _).2<|.inr<|.inr rfl).trans d,(T.block _<|(q _).2<|.inr<|.inl rfl).trans r⟩⟩;refine⟨N+1,[{target:=.collected N,args:=#[]}],L,{target:=.fn (.func gf) lb,args:=#[.func (.yield<|N+1) #[] #[]]},L,gf,#[.func (.yield<|N+1) #[] #[]]++lb,L,?_,?_,λ_ _=>trivial,?_,λh=>by simp[Bb]at h,?_⟩;·rw[<-Hz,y,hN];exact run_enterLoop_outer _ _ _ _ _
 ·simp only[resolve,hg];simp[go_sem]
 ·simp[invoke,go_sem,eg]
 ·refine(hit (N+1) J Jx L (A D0) (OA.fJ λk r=>⟨aba k r,id⟩) hJ Ie (λb n=>?_) ?_ ⟨D0,λ_=>x5,hI.st _ _ _ _ h0<|OA.fJ λk r=>⟨aat k r,id⟩,λh=>absurd (aat _ h)<|by omega,λh=>absurd (aat _ h)<|by omega,λb n=>.inl n,O3,sQ⟩).mono ?_
  ·rcases n with n|rfl|rfl;·exact hR b n
   ·exactλh=>absurd (aba _ h)<|by omega
   ·exactλh=>absurd (aba _ h)<|by omega
  ·rintro m x W E hS⟨D,q,X,O6,o8,hDs,d,r⟩;have lH:N+1<W:=by grind
   have hy:=run_yield (P:=P) (args:=Fj x) d (by rw[y];exact EM x);rw[y]at hy;refine⟨fn,_,assign,body,hy,roundIn_of_wpIn qz<|wpIn_mono (aAN (N+1) m x W D (by omega) lH o8 hS X λb n=>hN▸hDs b n) ?_⟩;intro e a1 Wa hq;cases e with
   |normal=>
    obtain⟨O1,n⟩:=hq;have hla:=(O1.1.block _ lH o8).trans d;have aBq:N+1<Wa:=by grind
    refine⟨_,run_beginRound hla<|by rw[y],?_⟩;obtain⟨E1,Ig⟩:∃E1:Nat->Prop,E1=λb=>D b∨W<=b∧b<Wa.heap.size:=⟨_,rfl⟩;rw[<-Ig]at O1 n;have akK:¬E1 N:=by rw[Ig];rintro(h|h);exact O6 h;omega
    have akJ:¬E1 (N+1):=by rw[Ig];rintro(h|h);exact o8 h;omega
    refine wpIn_mono (n _<|uM.putObj Wa (N+1) _) ?_;obtain⟨z,Ud⟩:=ex<|Wa.putObj (N+1)<|.loop {i .ready V with state:=.busy};rw[<-Ud];have vG:z.heap[N+1]?=U (.loop {i .ready V with state:=.busy}):=by rw[Ud];exact GV aBq
    have EW:z.heap[N]?=U (.deferred<|U []):=by rw[Ud];exact(qX<|by omega).trans<|(O1.1.block _ (by omega) O6).trans r
    have lT:z.heap.size=Wa:=by rw[Ud];simp
    have fin:∀(f:Option Code)(j:Nat->Prop)(G:ax),(∀b,j b->b<G)->bS E1 z j G->(UM (N+1) f).run P G=.ok f.isNone (G.putObj (N+1)<|.loop<|i (if f.isNone then .ready else .done) f)∧¬j N∧¬j (N+1)∧(∀b,j b->D0 b∨N<=b)∧(G.putObj (N+1)<|.loop<|i (if f.isNone then .ready else .done) f).heap[N+1]?=U (.loop<|i (if f.isNone then .ready else .done) f)∧(G.putObj (N+1)<|.loop<|i (if f.isNone then .ready else .done) f).heap[N]?=U (.deferred<|U [])∧bS E W (A j) (G.putObj (N+1)<|.loop<|i (if f.isNone then .ready else .done) f):=λf j G hD3 Q1=>by
     have AM:=(Q1.1.block _ (by omega) akJ).trans vG;have H:¬j (N+1):=λh=>by rcases Q1.2 _ h with h|h;exact akJ h;omega
     have:=run_endRound (P:=P) f AM;rw[y]at this⊢;refine⟨this,λh=>by rcases Q1.2 _ h with h|h;exact akK h;omega,H,λb n=>?_,GV (eX.1 AM).1,(qX<|by omega).trans<|(Q1.1.block _ (by omega) akK).trans EW,?_,λb n=>?_⟩
     ·rcases Q1.2 b n with h|h
      ·rw[Ig]at h;rcases h with h|h;·exact hDs b h
       ·exact .inr<|by omega
      ·exact .inr<|by omega
     ·have s3:=((O1.1.mono λk _ r=>(q k).2<|.inl r).trans<|by grind[O.putObj]).trans' Q1.1 (λ_ _ h=>h) (λk r h=>by
       rw[Ig]at h;rcases h with h|h;·exact(q k).2<|.inl h
       ·omega);exact s3.trans<|O.putObj _ _ _<|(q _).2<|.inr<|.inr rfl
     ·rcases n with n|rfl|rfl
      ·rcases Q1.2 b n with h|h;·grind
       ·exact .inr<|by have:=O1.1.size;omega
      ·exact .inl<|(q _).2<|.inr<|.inl rfl
      ·exact .inl<|(q _).2<|.inr<|.inr rfl
    have C:∀(K:List α->ax->(Nat->Prop)->Prop)(s:List α)(j:Nat->Prop)(G:ax)(o:Obj),qM K->K s G j->¬j (N+1)->K s (G.putObj (N+1) o) j:=λK s j G o hK hs hn=>hK.st _ _ _ _ hs<|(uM.putObj G (N+1) o).fJ hn;rintro e a3 G hp;cases e with|normal=>obtain⟨j,u,M⟩:=hp;obtain⟨hr,n1,H,n3,Q2,F,Q0⟩:=fin V j G (hI.lt _ _ _ u) M;exact⟨_,_,hr,.inl ⟨rfl,A j,⟨j,λ_=>x5,C I _ _ _ _ hI u H,n1,H,n3,Q2,F⟩,Q0⟩⟩|ret=>obtain⟨j,u,M⟩:=hp;obtain⟨hr,n1,H,n3,Q2,F,Q0⟩:=fin (U .ret) j G ((B _).lt _ _ _ u) M;exact⟨_,_,hr,.inr ⟨rfl,A j,⟨j,.ret,λ_=>x5,C (Ix .ret) _ _ _ _ (B _) u H,n1,H,Q2,F⟩,Q0⟩⟩|exit id=>obtain⟨j,u,M⟩:=hp;obtain⟨hr,n1,H,n3,Q2,F,Q0⟩:=fin (U<|.exit id) j G ((B _).lt _ _ _ u) M;exact⟨_,_,hr,.inr ⟨rfl,A j,⟨j,.exit id,λ_=>x5,C (Ix<|.exit id) _ _ _ _ (B _) u H,n1,H,Q2,F⟩,Q0⟩⟩|goto t=>obtain⟨j,u,M⟩:=hp;obtain⟨hr,n1,H,n3,Q2,F,Q0⟩:=fin (U<|.goto t) j G ((B _).lt _ _ _ u) M;exact⟨_,_,hr,.inr ⟨rfl,A j,⟨j,.goto t,λ_=>x5,C (Ix<|.goto t) _ _ _ _ (B _) u H,n1,H,Q2,F⟩,Q0⟩⟩|panic ch=>exact hp.elim|outgrown=>exact hp.elim
   |exit id=>exact hq.elim|goto t=>exact hq.elim|ret=>exact hq.elim|panic ch=>exact hq.elim|outgrown=>exact hq.elim
  ·have back:∀(D E:Nat->Prop)(z:ax)(o:Obj),(∀b,E b↔A D b)->(∀b,D b->b<z)->bS (A D0) L E z->bS D0 w D (z.putObj (N+1) o):=λD E z o q lH Q1=>by
    refine⟨?_,λb n=>?_⟩;·have s1:=(OA.mono (G:=D0) λ_ _ h=>h.elim).trans' Q1.1 (λ_ _ h=>h) (λk r h=>by grind);exact⟨s1.os,s1.tape,s1.output,by simpa using s1.size,λk r hn=>(qX<|by omega).trans<|s1.block k r hn⟩
    ·rcases Q1.2 b ((q b).2<|.inl n)with h|h;all_goals grind
   rintro e z⟨⟨v,rfl⟩,(⟨xs,E,hS,⟨D,q,X,n1,H,_,d,r⟩,Q1⟩|⟨m,E,hSp,⟨D,c,q,X,n1,H,d,r⟩,Q1⟩)⟩;·refine⟨V,_,by have:=run_endLoop (P:=P) d (by grind);rw[y]at this;exact this,?_⟩;have hx:=aB0 xs (z.putObj (N+1)<|.loop {i .ready V with state:=.exhausted}) D hS (hI.st _ _ _ _ X<|(uM.putObj z (N+1) _).fJ H) (back D E z _ q (hI.lt _ _ _ X) Q1) (by grind[World.putObj_heap_other]) (by grind);grind
   ·refine⟨U c,_,by have:=run_endLoop (P:=P) d (by grind);rw[y]at this;exact this,?_⟩;have hx:=aAt c m (z.putObj (N+1)<|.loop {i .done (U c)with state:=.exhausted}) D hSp ((B c).st _ _ _ _ X<|(uM.putObj z (N+1) _).fJ H) (back D E z _ q ((B c).lt _ _ _ X) Q1) (by grind[World.putObj_heap_other]) (by grind);grind
theorem Dh{W w1}(a:aY W.heap.size W w1):(∀b o,b<W.heap.size->w1.cell? ⟨b,o,V⟩=W.cell? ⟨b,o,V⟩)/\∀b o,b<W.heap.size->w1.frozen? ⟨b,o,V⟩=W.frozen? ⟨b,o,V⟩:=⟨λb o h=>a.cell (p:=⟨b,o,V⟩) h,λb o h=>a.frozen (p:=⟨b,o,V⟩) h⟩
structure KE(κ:Type)[DecidableEq κ]where
 enc:κ->az
 desc:TypeDesc
 same:∀a b,FE desc (enc a) (enc b)=U (bP<|a=b)flat:∀(P:bZ)(w:ax)(e:Bool)(n:Nat)(t:dV)(v:az),P.underlying t=U desc->(C5 e (n+1) t v).run P w=aW () w
 bits:∀n a,FF n (enc a) (enc a)=Z
def iI:KE ByteArray where
 enc:=aE;desc:=.string;same:=λa b=>by simp only[FE,dX];rw[AF,MapKept.bytes_beq,decide_eq_true_iff]
 flat:=λP w e n t v h=>by simp[C5,run_underlying h]
 bits:=λn a=>by cases n<;>(simp only[FF];exact(MapKept.bytes_beq a a).2 rfl)
def qY(k:IntKind):KE Int where
 enc:=Y k;desc:=.int k;same:=λa b=>by simp[FE];by_cases h:a=b<;>simp[h]
 flat:=λP w e n t v h=>by simp[C5,run_underlying h]
 bits:=λn a=>by cases n<;>simp[FF]
section
variable {κ:Type} [DecidableEq κ]
def look:List (κ×az)->κ->Option az|[],_=>V|(a,v)::l,k=>if a=k then U v else look l k
def put:List (κ×az)->κ->az->List (κ×az)|[],k,v=>[(k,v)]|(a,u)::l,k,v=>if a=k then(k,v)::l else(a,u)::put l k v
theorem aga(l:List<|κ×az)(k)(v)(x):x∈(put l k v).map (·.1)↔x=k∨x∈l.map (·.1):=by induction l with|nil=>simp[put]|cons p l b=>obtain⟨a,u⟩:=p;unfold put;grind
theorem af8{l:List<|κ×az}(k)(v)(h:(l.map (·.1)).Nodup):((put l k v).map (·.1)).Nodup:=by induction l with|nil=>simp[put]|cons p l b=>
  obtain⟨a,u⟩:=p;unfold put;simp only[gh,Cg]at h;by_cases e:a=k;·grind
  ·rw[if_neg e];grind[List.nodup_cons,aga]
structure Reads(K:KE κ)(en:Array mU)(clock:Nat)(es:List<|κ×az):Prop where
 read:en.toList.map (λe=>(e.key,e.val))=es.map λp=>(K.enc p.1,p.2)nodup:(es.map (·.1)).Nodup
 MU:(en.toList.map (·.born)).Pairwise (·<·)below:∀e∈en.toList,e.born<clock
def cU(K:KE κ)(w:ax)(m:Nat)(es:List<|κ×az):Prop:=∃en clock,w.heap[m]?=U (iY en clock)/\Reads K en clock es
theorem cU.of_block{K:KE κ}{w w'}{m}{es}(h:cU K w m es)(d:w'.heap[m]?=w.heap[m]?):cU K w' m es:=by obtain⟨e,a,c,b⟩:=h;exact⟨e,a,d.trans c,b⟩
theorem cU.lt{K:KE κ}{w}{m}{es}(h:cU K w m es):m<w:=by obtain⟨c,a,b,_⟩:=h;grind
theorem cU.alloc{K:KE κ}{w}{m}{es}(h:cU K w m es)(o):cU K (w.alloc o) m es:=h.of_block<|dr _ _ _ h.lt
theorem cU.below{K:KE κ}{w w'}{m}{es}(h:cU K w m es)(a:aY w w w'):cU K w' m es:=h.of_block<|a.block _ h.lt
theorem cU.keep{K:KE κ}{w w'}{m}{es}{F}(h:cU K w m es)(b:O F w w')(a:¬F m):cU K w' m es:=h.of_block<|b.block _ h.lt a
theorem cU.drew{K:KE κ}{w}{m}{es}(h:cU K w m es):cU K w.drew m es:=h.of_block rfl
theorem cU.new(K:KE κ)(w:ax):cU K (w.alloc<|iY #[] 0) w []:=⟨#[],0,gI w _,by simp,by simp,by simp,by simp⟩
theorem UC(K:KE κ)(k):∀(l)(es)(i),l.map (λe=>(e.key,e.val))=es.map (λp=>(K.enc p.1,p.2))->C7 K.desc (K.enc k) l i=U (match es.findIdx? λp=>p.1=k with|some j=>(look es k).map λv=>(i+j,v)|none=>V)/\(es.findIdx? λp=>p.1=k).isSome=(look es k).isSome:=by intro l;induction l with
 |nil=>intro es i h;cases es with|nil=>simp[C7,look]|cons p es=>simp at h
 |cons e l b=>intro es i h;cases es with|nil=>simp at h|cons p es=>simp only[gh,GU,GS]at h;obtain⟨⟨c,d⟩,a⟩:=h;obtain⟨f,g⟩:=b es (i+1) a;simp only[C7,c,K.same,Zo,look];grind
theorem run_findKey{P}{w}{c}(K:KE κ)(e:P.underlying c=U K.desc){b}{a}{es}(h:Reads K b a es)(k):(Lv c (K.enc k) b.toList).run P w=aW (match es.findIdx? λp=>p.1=k with|some j=>(look es k).map λv=>(j,v)|none=>V) w:=by obtain⟨d,_⟩:=UC K k b.toList es 0 h.read;simp only[Lv,gK,run_underlying e,l6,d,vq,vg]
theorem Rz{P}{w}{T i f}(K:KE κ)(q:P.underlying T=U (.map i f))(d:P.underlying i=U K.desc){m}{es}(h:cU K w m es){z}(n:(kQ f).run P w=aW z w)(k)(l):(Px T (bW m) (K.enc k) l).run P w=aW (if l then bQ #[(look es k).getD z,(look es k).isSome]else(look es k).getD z) w:=by
 obtain⟨e,a,t,g⟩:=h;have s:(rB m).run P w=aW (iY e a) w:=by simp[rB,oF,t]
 have r:=run_findKey (w:=w) K d g k;obtain⟨_,c⟩:=UC K k e.toList es 0 g.read;simp only[Px,gK,run_underlying q,l6,s,vq,K.flat _ _ _ _ _ _ d,r];cases b:es.findIdx? λp=>p.1=k with
 |none=>rw[b]at c;cases o:look es k with|none=>simp[n,l6]|some v=>grind
 |some j=>rw[b]at c;cases o:look es k with|none=>grind|some v=>simp
theorem avE{K:KE κ}{i}{d}{es}(h:Reads K i d es)(k)(v):match es.findIdx? λp=>p.1=k with|some j=>Reads K (i.modify j λe=>{e with key:=K.enc k,val:=v}) d (put es k v)∧i[j]?.map (·.key)=K.enc k|none=>Reads K (i.push {key:=K.enc k,val:=v,born:=d}) (d+1)<|put es k v:=by
 have m:∀(l:List mU)(es:List<|κ×az),l.map (λe=>(e.key,e.val))=es.map (λp=>(K.enc p.1,p.2))->match es.findIdx? λp=>p.1=k with|some j=>(l.modify j λe=>{e with key:=K.enc k,val:=v}).map (λe=>(e.key,e.val))=(put es k v).map (λp=>(K.enc p.1,p.2))∧(l.modify j λe=>{e with key:=K.enc k,val:=v}).map (·.born)=l.map (·.born)∧l[j]?.map (·.key)=K.enc k|none=>put es k v=es++[(k,v)]:=by intro l;induction l with
  |nil=>intro es h;cases es with|nil=>simp[put]|cons p es=>simp at h
  |cons e l t=>intro es h;cases es with|nil=>simp at h|cons p es=>
    simp only[gh,GU,GS]at h;obtain⟨⟨z,x⟩,r⟩:=h;have:=t es r;simp only[Zo];obtain⟨a,u⟩:=p;by_cases hp:a=k;·subst hp;simp only[decide_true,gL,put];grind
    ·simp only[hp,S5,ow,ox,put];grind
 have g:=m i.toList es h.read;cases o:es.findIdx? λp=>p.1=k with
 |none=>
  simp only[o]at g⊢;refine⟨?_,af8 k v h.nodup,?_,?_⟩;·rw[g];simp[h.read]
  ·simp only[Zn,wU,gh,qs,ait,ki,di,dJ,dQ];refine⟨h.MU,by simp,?_⟩;rintro a⟨e,f,rfl⟩b rfl;exact h.below e f
  ·intro e f;simp only[Zn,rY,di,dJ,dQ]at f;rcases f with f|rfl;·exact Nat.lt_succ_of_lt<|h.below e f
   grind|some j=>
  simp only[o]at g⊢;obtain⟨A,s,y⟩:=g;refine⟨⟨by grind,af8 k v h.nodup,by rw[ais,s];exact h.MU,?_⟩,by grind⟩;intro e f;rw[ais]at f;have:e.born∈i.toList.map (·.born):=by grind
  obtain⟨w,n,q⟩:=ki.1 this;rw[<-q];exact h.below w n
theorem aft{P}{w}{T l t}(K:KE κ)(y:P.underlying T=U (.map l t))(r:P.underlying l=U K.desc){m}{es}(h:cU K w m es)(k)(v):∃o,(UP T (bW m) (K.enc k) v).run P w=aW () (w.putObj m o)/\cU K (w.putObj m o) m (put es k v):=by
 obtain⟨s,a,e,d⟩:=h;have b:=(eX.1 e).1;have A:(rB m).run P w=aW (iY s a) w:=by simp[rB,oF,e]
 have i:∀o,(setObj m o).run P w=aW () (w.putObj m o):=λo=>by simp[setObj,oF,e,World.putObj]
 have z:=run_findKey (w:=w) K r d k;obtain⟨_,q⟩:=UC K k s.toList es 0 d.read;have c:=avE d k v;simp only[UP,gK,run_underlying y,l6,A,K.flat _ _ _ _ _ _ r,z];cases n:es.findIdx? λp=>p.1=k with
 |none=>rw[n]at q c;cases x:look es k with|some v=>grind|none=>exact⟨_,by simp[i],_,_,GV b,c⟩
 |some j=>rw[n]at q c;cases x:look es k with|none=>grind|some u=>obtain⟨g,f⟩:=c;refine⟨_,?_,_,_,GV b,g⟩;simp only[ee,gK,abZ,f,fW,K.bits,gL,vq,l6,i]
end
section
variable {κ:Type} [DecidableEq κ] {P:bZ} (w:ax) {ops:Array dG} {rest:List dG} {o:dG} {a:Act} {Q:Exit->Act->ax->Prop}
theorem Qp(K:KE κ)(n:o.guard=V)(m x)(T)(d:o.op=Op.lookup T m x ai)(f e)(l:P.underlying T=U (.map f e))(i:P.underlying f=K.desc)(z)(g:(kQ e).run P w=aW z w)(b)(es)(k)(q:a.eval m=bW (U b))(h:cU K w b es)(j:a.eval x=K.enc k)(p:wpList P ops Q rest (a.put o.dst<|(look es k).getD z) w):wpList P ops Q (o::rest) a w:=by refine NG n λr c=>?_;unfold Oper.wp;simp only[cS,d,q,j,gK,Rz (P:=P) K l i h g k ai,l6,vq,ow,ox];exact c _ _ p
theorem Jc(K:KE κ)(n:o.guard=V)(m x)(T)(d:o.op=Op.lookup T m x Z)(f e)(l:P.underlying T=U (.map f e))(i:P.underlying f=K.desc)(z)(g:(kQ e).run P w=aW z w)(b)(es)(k)(q:a.eval m=bW (U b))(h:cU K w b es)(j:a.eval x=K.enc k)(p:wpList P ops Q rest (a.put o.dst<|bQ #[(look es k).getD z,(look es k).isSome]) w):wpList P ops Q (o::rest) a w:=by refine NG n λr c=>?_;unfold Oper.wp;simp only[cS,d,q,j,gK,Rz (P:=P) K l i h g k Z,l6,vq,gL];exact c _ _ p
theorem Qo(K:KE κ)(t:o.guard=V)(m x y)(T)(f:o.op=Op.mapUpdate T m x y)(h i)(s:P.underlying T=U (.map h i))(r:P.underlying h=K.desc)(b)(es)(k)(v)(p:a.eval m=bW (U b))(q:cU K w b es)(j:a.eval x=K.enc k)(l:a.eval y=v)(n:∀d,cU K d b (put es k v)->O (λx=>x=b) w d->d.heap.size=w->wpList P ops Q rest (a.put o.dst ak) d):wpList P ops Q (o::rest) a w:=by refine NG t λz e=>?_;obtain⟨u,c,g⟩:=aft (P:=P) K s r q k v;unfold Oper.wp;simp only[cS,f,p,j,l,gK,c,l6,vq];exact e _ _<|n _ g (O.putObj _ _ _ rfl)<|by simp
variable {F:Fence} {n:Nat}
theorem adf(K:KE κ)(u:o.guard=V)(m x)(T)(d:o.op=Op.lookup T m x ai)(i g)(t:P.underlying T=U (.map i g))(s:P.underlying i=K.desc)(z)(q:(kQ g).run P w=aW z w)(b)(es)(k)(p:a.eval m=bW (U b))(r:cU K w b es)(j:a.eval x=K.enc k)(l:Lr F n P ops Q rest (a.put o.dst<|(look es k).getD z) w):Lr F n P ops Q (o::rest) a w:=by
 refine wpListIn_plain u λv e=>?_;have c:o.semAt F.round a.eval=cS a.eval o:=by unfold Oper.semAt;grind
 refine⟨λf h=>by simp[Oper.about,d]at h,?_⟩;rw[c];simp only[cS,d,p,j,gK,Rz (P:=P) K t s r q k ai,l6,vq,ow,ox];exact e _ _ l
theorem aoG(K:KE κ)(B:o.guard=V)(m x y)(T)(e:o.op=Op.mapUpdate T m x y)(l p)(A:P.underlying T=U (.map l p))(z:P.underlying l=K.desc)(b)(es)(k)(v)(t:a.eval m=bW (U b))(u:cU K w b es)(q:a.eval x=K.enc k)(r:a.eval y=v)(s:∀g,cU K g b (put es k v)->O (λx=>x=b) w g->g.heap.size=w->Lr F n P ops Q rest (a.put o.dst ak) g):Lr F n P ops Q (o::rest) a w:=by
 refine wpListIn_plain B λD i=>?_;obtain⟨C,c,j⟩:=aft (P:=P) K A z u k v;have d:o.semAt F.round a.eval=cS a.eval o:=by unfold Oper.semAt;grind
 refine⟨λf h=>by simp[Oper.about,e]at h,?_⟩;rw[d];simp only[cS,e,t,q,r,gK,c,l6,vq];exact i _ _<|s _ j (O.putObj _ _ _ rfl)<|by simp
end
end
end Go.Proofs.YtpdbmpbmepkikaaGreatDoor
set_option maxRecDepth 100000
namespace Go.Proofs
open Go.Shelf
def Wk:CW:=⟨λ|160=>117|232=>176|231=>175|227=>177|234=>179|233=>178|236=>181|235=>180|228=>201|271=>204|151=>203|197=>202|120=>215|152=>214|260=>213|137=>240|119=>241|224=>242|225=>243|217=>258|266=>263|n=>n,λ|9=>9|4=>4|3=>3|5=>5|117=>282|116=>281|0=>0|124=>285|21=>21|105=>295|46=>169|119=>327|139=>330|138=>329|n=>n,λ|3=>1|4=>2|n=>n⟩
theorem apn:aKB Q Wk:=by constructor<;>intros<;>kernel_rfl
theorem apm:Go.Proofs.Lays.n233 Q Wk:=by constructor<;>intros<;>kernel_rfl
theorem apl:Go.Proofs.Lays.n234 Q Wk:=by constructor<;>intros<;>kernel_rfl
def aHq:CW:=⟨λ|215=>205|n=>n,λ|3=>3|4=>4|n=>n,λ|n=>n⟩
def apB:CW:=⟨λ|122=>183|215=>205|n=>n,λ|3=>3|4=>4|n=>n,λ|n=>n⟩
theorem apC:Go.Proofs.Lays.n122 Q apB:=by constructor<;>intros<;>kernel_rfl
open Go.RowKit in
theorem aq4 (x y:Int) (w:ax):
  bz Q 183 #[Y aG x,Y aG y] w λe w'=>e=bj (Y aG (PE x y))∧w'=w:=Any.cmp_Compare_int apC x y w
def aHo:CW:=⟨λ|246=>210|283=>227|284=>228|285=>229|286=>230|129=>226|317=>250|318=>251|319=>252|320=>253|337=>260|338=>261|n=>n,λ|2=>2|3=>3|9=>9|4=>4|171=>317|0=>0|53=>120|37=>79|5=>5|173=>319|212=>340|51=>123|20=>20|213=>341|46=>169|232=>347|233=>348|n=>n,λ|17=>3|18=>5|19=>6|n=>n⟩
def aHp:CW:=⟨λ|243=>193|246=>210|283=>227|284=>228|285=>229|286=>230|129=>226|317=>250|318=>251|319=>252|320=>253|337=>260|338=>261|n=>n,λ|3=>3|9=>9|2=>2|4=>4|171=>317|0=>0|53=>120|37=>79|5=>5|173=>319|212=>340|51=>123|20=>20|213=>341|46=>169|232=>347|233=>348|n=>n,λ|17=>3|18=>5|19=>6|n=>n⟩
def apw:CW:=⟨λ|171=>140|243=>193|246=>210|283=>227|284=>228|285=>229|286=>230|129=>226|317=>250|318=>251|319=>252|320=>253|337=>260|338=>261|n=>n,λ|3=>3|9=>9|2=>2|4=>4|171=>317|0=>0|53=>120|37=>79|5=>5|173=>319|212=>340|51=>123|20=>20|213=>341|46=>169|232=>347|233=>348|n=>n,λ|17=>3|18=>5|19=>6|n=>n⟩
theorem apx:Go.Proofs.LaysM.n171 Q apw:=by constructor<;>intros<;>first|kernel_rfl|(constructor<;>intros<;>kernel_rfl)
open Go.RowKit Go.Sort Go.Lib in
theorem apo (n:Int) (h0: -9223372036854775808<=n) (h1:n<=9223372036854775807) (w:ax) (aAq:zI Q w "internal/strconv.uint64pow10" cP ab0):
  bz Q 140 #[Y aG n] w λe w'=>e=bj (aE ⟨(Lib.itoa n).toArray⟩)∧∃k os,w'=grow (w.drewN k) os:=Any.strconv_Itoa apx n h0 h1 w aAq
def apA:CW:=⟨λ|190=>186|125=>208|258=>207|128=>225|129=>226|302=>216|303=>217|304=>218|305=>219|306=>220|307=>221|308=>222|309=>223|310=>224|333=>244|329=>245|330=>246|334=>247|335=>248|336=>249|344=>259|n=>n,λ|31=>51|9=>9|3=>3|46=>169|0=>0|51=>123|53=>120|4=>4|183=>309|182=>308|131=>313|5=>5|218=>334|222=>337|228=>344|229=>39|n=>n,λ|n=>n⟩
theorem adE:Go.Proofs.Lays.n190 Q apA:=by constructor<;>intros<;>kernel_rfl
open Go.Sort Go.RowKit in
theorem apr (blk off cap:Nat) (ss:List (List UInt8)) (w:ax) (hH:Holds encStr w blk off ss.toArray) (aCb:blk<w.heap.size) (ga:ss.length<4611686018427387904):
  bz Q 186 #[aC (U ⟨blk,off,V⟩) ss.length cap] w λe w'=>
   e=bj (bQ #[])∧∃n os,w'=grow (putRow encStr (Sort.ahead w n) blk off (ss.mergeSort λx y=>bP (x<=y)).toArray) os:=Any.slices_Sort_string adE blk off cap ss w hH aCb ga
def aHr:CW:=⟨λ|206=>125|n=>n,λ|9=>9|4=>4|3=>3|n=>n,λ|n=>n⟩
def apy:CW:=⟨λ|99=>71|206=>125|n=>n,λ|9=>9|4=>4|3=>3|n=>n,λ|n=>n⟩
theorem apz:Go.Proofs.Lays.n99 Q apy:=by constructor<;>intros<;>kernel_rfl
open Go.RowKit Go.Lib in
theorem Wj (s p:ByteArray) (w:ax):
  bz Q 71 #[aE s,aE p] w λe w'=>e=bj (cx (Iz s.data.toList p.data.toList))∧w'=w:=Any.strings_HasPrefix apz s p w
open Go.RowKit Go.Sort in
theorem apq (p:Option eF) (cap:Nat) (w:ax):
  bz Q 186 #[aC p 0 cap] w λe w'=>e=bj (bQ #[])∧w'=w:=Any.slices_Sort_string_none adE p cap w
end Go.Proofs
namespace Go.Proofs.YtpdbmpbmepkikaaGreatDoor
section
open Go.RowKit
def s.val(x:s):az:=bO #[aE x.name,aE x.field,Y aG x.c,Y aG x.r,aE x.value]
theorem yK{a b}(h:a=b):bj (cx a)=bj b:=by rw[h]
structure s.Ok(x:s):Prop where
 name:x.name.size<=4096
 field:x.field.size<=4096
theorem Tl(n f v)(c r)(w)(d:n.size<=4096)(b:f.size<=4096):bz Q 119 #[bO #[aE n,aE f,Y aG c,Y aG r,aE v]] w λe a=>e=bj (iN n f)/\aY w w a:=by go_enter aqT,ntmps119;go_wp2;go_ret;exact⟨rfl,(dK _ _).alloc (aQ _) _⟩
def Se(x y:Int):Int:=if x=0 then y else x
theorem awy(b)(x y)(w)(f:w.cell? b=U (Y aG x))(g:w.cell? ⟨b,1,V⟩=U (Y aG y)):bz Q 182 #[aC (U ⟨b,0,V⟩) 2 2] w λe c=>e=bj (Se x y)/\c=w:=by
 by_cases hx:x=0
 .by_cases hy:y=0
  .subst hx;subst hy;go_enter Wo,ntmps182;go_wp2;refine Kr 3 ?_;iterate 3(try(rw[Ey];go_wp2))
   go_ret;exact⟨rfl,rfl⟩
  .have d:(y !=0)=Z:=by simp[hy]
   subst hx;go_enter Wo,ntmps182;go_wp2;refine Kr 3 ?_;iterate 3(try(rw[Ey];go_wp2))
   go_ret;exact⟨rfl,rfl⟩
 .have a:(x !=0)=Z:=by simp[hx]
  go_enter Wo,ntmps182;go_wp2;refine Kr 3 ?_;iterate 3(try(rw[Ey];go_wp2))
  go_ret;exact⟨by simp[Se,hx],rfl⟩
theorem ayL(c r b a):bP (0<Se (PE c b) (PE r a))=wN c r b a:=by unfold Se wN PE;grind
theorem YQ(c r b a)(w):bz Q 121 #[bO #[Y aG c,Y aG r],bO #[Y aG b,Y aG a]] w λe d=>e=bj (wN c r b a)/\aY w w d:=by go_enter aqS,ntmps121;go_wp2;go_region_held3λW=>W.cell? ⟨w.heap.size,0,V⟩=U (Y aG c)/\W.cell? ⟨w.heap.size,1,V⟩=U (Y aG r)/\W.cell? ⟨w.heap.size+1,0,V⟩=U (Y aG b)/\W.cell? ⟨w.heap.size+1,1,V⟩=U (Y aG a)(go_keep)((first|(go_at_call 183;refine(aq4 _ _ _).mono ?_;rintro e d⟨rfl,rfl⟩)|(go_at_call 182;refine(awy _ (PE c b) (PE r a) _ ?h0 ?h1).mono ?_;(case h0=>go_simp);(case h1=>go_simp);rintro e d⟨rfl,rfl⟩)));go_wp2;go_ret;exact⟨yK<|ayL c r b a,((((dK _ _).alloc (aQ _) _).alloc (by simp) _).alloc (by simp;omega) _).drew⟩
theorem agE(x y)(w):bz Q 157 #[x.val,y.val] w λe d=>e=bj (yP x y)/\aY w w d:=by
 obtain⟨n,f,c,r,v⟩:=x;obtain⟨l,m,a,b,k⟩:=y;unfold s.val;by_cases h:c=a/\r=b;.obtain⟨rfl,rfl⟩:=h;go_enter Wp,ntmps157;go_wp2;go_ret;exact⟨yK<|by simp[yP,Us],((dK _ _).alloc (aQ _) _).alloc (by simp) _⟩
 .have j:yP ⟨n,f,c,r,v⟩ ⟨l,m,a,b,k⟩=wN c r a b:=by grind[yP]
  have i:=X j;by_cases hc:c=a
  .have o:¬r=b:=by grind
   subst hc;go_enter Wp,ntmps157;go_wp2_with(go_at_call 121;refine(YQ _ _ _ _ _).mono ?_;rintro e d⟨rfl,g⟩);go_ret;exact⟨yK i.out.symm,(((dK _ _).alloc (aQ _) _).alloc (by simp) _).trans<|g.mono<|by simp;omega⟩
  .go_enter Wp,ntmps157;go_wp2_with(go_at_call 121;refine(YQ _ _ _ _ _).mono ?_;rintro e d⟨rfl,g⟩);go_ret;exact⟨yK i.out.symm,(((dK _ _).alloc (aQ _) _).alloc (by simp) _).trans<|g.mono<|by simp;omega⟩
def es(L:List s):List<|ByteArray×az:=L.map λx=>(x.key,x.val)
def cI(w:ax)(m:Nat)(L:List s):Prop:=cU iI w m<|es L
theorem cI.of_block{w w'}{m}{L}(h:cI w m L)(a:w'.heap[m]?=w.heap[m]?):cI w' m L:=cU.of_block h a
theorem cI.alloc{w}{m}{L}(h:cI w m L)(o):cI (w.alloc o) m L:=cU.alloc h o
theorem cI.below{w w'}{m}{L}(h:cI w m L)(a:aY w w w'):cI w' m L:=cU.below h a
theorem cI.keep{w w'}{m}{L}{F}(h:cI w m L)(b:O F w w')(a:¬F m):cI w' m L:=cU.keep h b a
theorem cI.lt{w}{m}{L}(h:cI w m L):m<w:=cU.lt h
theorem cI.nodup{w}{m}{L}(h:cI w m L):(L.map (·.key)).Nodup:=by obtain⟨d,b,_,c⟩:=h;have:=c.nodup;grind[es,List.map_map]
def lV(L:List s)(k:ByteArray):Option s:=L.find? λy=>y.key=k
theorem Ni(L)(k):look (es L) k=(lV L k).map (·.val):=by unfold es lV;induction L with|nil=>rfl|cons y l a=>grind[look]
theorem arO{L}{x}(h:lV L x.key=V):fE L x=L++[x]/\put (es L) x.key x.val=es (fE L x):=by unfold lV at h;induction L with|nil=>exact⟨rfl,rfl⟩|cons y l b=>
  simp only[NF]at h;by_cases E:y.key=x.key;.grind
  .simp only[E,S5]at h;obtain⟨a,c⟩:=b h;simp only[fE,E,ox,a,oV,true_and];show put ((y.key,y.val)::es l) _ _=(y.key,y.val)::es (l++[x]);rw[put,if_neg E,c,a]
theorem arN{L}{x y}(h:lV L x.key=U y):(yP x y=ai->fE L x=L)/\(yP x y=Z->put (es L) x.key x.val=es (fE L x)):=by unfold lV at h;induction L with|nil=>simp at h|cons z l b=>
  simp only[NF]at h;by_cases E:z.key=x.key;.simp only[E,decide_true,dX]at h;subst h;refine⟨λa=>by grind[fE],λa=>?_⟩;show put ((z.key,z.val)::es l) _ _=_;rw[put,cJ E];grind[fE,es]
  .simp only[E,S5]at h;obtain⟨d,c⟩:=b h;refine⟨λa=>by grind[fE],λa=>?_⟩;show put ((z.key,z.val)::es l) _ _=_;rw[put,if_neg E,c a];grind[fE,es]
theorem Mm(w):(kQ 46).run Q w=aW (bO #[aE ⟨#[]⟩,aE ⟨#[]⟩,Y aG 0,Y aG 0,aE ⟨#[]⟩]) w:=by kernel_rfl
end
section
abbrev bl(s:ByteArray):List UInt8:=s.data.toList
theorem aFI(a b):bl (a++b)=bl a++bl b:=by simp[bl]
theorem zR{a b}(h:bl a=bl b):a=b:=by obtain⟨a⟩:=a;obtain⟨b⟩:=b;simp only[bl]at h;rw[Array.toList_inj.1 h]
theorem Jk(s):s.toList=bl s:=air s
theorem amY:∀a b:List UInt8,Ls a b=bP (a<b)|a,[]=>by cases a<;>simp[Ls]|[],b::l=>by simp[Ls]|a::l,b::c=>by rw[Ls,amY l c,AF];simp[Kq]
def lO(a b:ByteArray):Bool:=bP<|bl a<bl b
theorem aC5(a b):Us a b=lO b a:=by unfold Us lO;rw[Jk,Jk,amY,AF];grind
def letter(b:UInt8):Bool:=bP (97<=b)&&bP (b<=122)
def yV(s:ByteArray):Bool:=(bl s).all letter
structure Good(x:s):Prop where
 name:yV x.name=Z
 aH6:x.name.size≠0
 GF:x.name.size<=8
 field:yV x.field=Z
 Pe:x.field.size<=4
 value:x.value.size<=20
def ahead(a b:s):Bool:=if a.name=b.name then lO a.field b.field else lO a.name b.name
theorem ahF{c:UInt8}{n n' r g}(i:∀b∈n,c<b)(e:∀b∈n',c<b):n++c::r<n'++c::g↔if n=n' then r<g else n<n':=by induction n generalizing n' with
 |nil=>cases n' with|nil=>simp[Kq]|cons b l=>have:=e b (by simp);simp[Kq,this]
 |cons a l k=>
  have p:=i a<|by simp
  cases n' with|nil=>
   have m:¬a<c:=λh=>by grind
   have j:¬a=c:=λh=>by grind
   simp[Kq,m,j]|cons b l'=>have:=k (n':=l') λb f=>i b<|by simp[f] (λb f=>e b<|by simp[f]);simp only[oV,Kq,GU];grind
theorem YD{c:UInt8}{n n' r d}(g:c∉n)(e:c∉n')(h:n++c::r=n'++c::d):n=n'/\r=d:=by induction n generalizing n' with
 |nil=>cases n' with|nil=>grind|cons b l=>grind
 |cons a l i=>cases n' with|nil=>grind|cons b f=>grind
theorem Nk{s}(h:yV s=Z){c}(e:c<97):∀b∈bl s,c<b:=λb d=>by have:=ND.1 h b d;simp only[letter,cG,eU]at this;grind
theorem xX{s}(h:yV s=Z){c}(d:c<97):c∉bl s:=λb=>by have:=Nk h d c b;grind
theorem Be(n f):bl (iN n f)=bl n++46::(bl f++0::[]):=by simp[iN]
theorem aiI{x y}(b:Good x)(c:Good y):bl x.key<bl y.key↔ahead x y=Z:=by
 unfold s.key ahead;rw[Be,Be,ahF (Nk b.name<|by decide)<|Nk c.name<|by decide,ahF (Nk b.field<|by decide)<|Nk c.field<|by decide];have d:¬([]:List UInt8)<[]:=by grind
 by_cases E:x.name=y.name;.simp only[E,gL,lO,eU];grind
 .have:¬bl x.name=bl y.name:=by grind[zR]
  simp only[E,this,ox,lO,eU]
theorem aiJ{n f n' f'}(e:46∉bl n)(d:46∉bl n')(b:0∉bl f)(c:0∉bl f')(h:iN n f=iN n' f'):n=n'/\f=f':=by have:=congrArg bl h;grind[Be,YD,zR]
theorem azm{x y}(b:Good x)(a:Good y):x.key=y.key↔x.name=y.name/\x.field=y.field:=⟨λh=>aiJ (xX b.name<|by decide) (xX a.name<|by decide) (xX b.field<|by decide) (xX a.field<|by decide) h,λh=>by grind[s.key]⟩
theorem aiL{x}(d:Good x)(n):bl n++[46]<+:bl x.key↔x.name=n:=by
 unfold s.key;rw[Be];constructor
 .rintro⟨t,c⟩;rw[jw,S4]at c;have f:(46:UInt8)∉bl n:=λh=>by obtain⟨a,b,e⟩:=List.append_of_mem h;have j:=congrArg (List.count (46:UInt8)) c;have g:=aiq.2 (xX d.name (c:=46)<|by decide);have i:=aiq.2 (xX d.field (c:=46)<|by decide);grind
  exact(zR (YD f (xX d.name<|by decide) c).1).symm
 .rintro rfl;exact⟨_,by rw[jw,S4]⟩
theorem azl{x}(a:Good x)(n):x.key=iN n ⟨#[]⟩↔x.name=n/\x.field=⟨#[]⟩:=by
 constructor;.intro h;have b:=(aiL a n).1 (by rw[h,Be];grind);refine⟨b,?_⟩;subst b;exact(aiJ (xX a.name<|by decide) (xX a.name<|by decide) (xX a.field<|by decide) (by simp[bl]) h).2
 grind[s.key]
theorem J6(a):lO a a=ai:=by simp[lO]
theorem Nf{a b c}(h:lO a b=Z)(k:lO b c=Z):lO a c=Z:=by simp only[lO]at*;grind
theorem YE{a b}(h:lO a b=ai)(c:a≠b):lO b a=Z:=by simp only[lO,eU]at*;grind[zR,List.le_antisymm,List.not_lt]
theorem Ve{a b c}(h:ahead a b=Z)(k:ahead b c=Z):ahead a c=Z:=by
 unfold ahead at*;by_cases h1:a.name=b.name<;>by_cases h2:b.name=c.name;.grind[Nf]
 .grind
 .grind
 .rw[if_neg h1]at h;rw[if_neg h2]at k;have f:=Nf h k;have:a.name≠c.name:=λe=>by grind[J6]
  grind
theorem Dj{a b}(d:a.name=b.name)(c:a.field=b.field):ahead a b=ai:=by unfold ahead;rw[cJ d,c,J6]
theorem aGw{a b}(h:ahead a b=ai)(c:¬(a.name=b.name/\a.field=b.field)):ahead b a=Z:=by
 unfold ahead at*;by_cases h1:a.name=b.name;.grind[YE]
 .grind[YE]
theorem anz{a b}(h:ahead a b=Z):ahead b a=ai:=by grind[Ve,Dj]
def sameKey(a b:s):Bool:=bP (a.name=b.name)&&bP (a.field=b.field)
def j4(a b:s):Bool:=if a.c≠b.c then bP (b.c<a.c)else if a.r≠b.r then bP (b.r<a.r)else lO b.value a.value
theorem awr(a b):yP a b=j4 a b:=by
 unfold yP j4 wN;rw[aC5];by_cases h1:a.c=b.c<;>by_cases h2:a.r=b.r;.grind
 .grind
 .grind
 grind
def j(l:List s):Prop:=l.Pairwise λa b=>ahead a b=Z
def ins:List s->s->List s|[],x=>[x]|y::l,x=>if sameKey y x then(if j4 x y then x::l else y::l)else if ahead x y then x::y::l else y::ins l x
theorem GZ{l}{x z}(h:z∈ins l x):z=x\/z∈l:=by induction l with|nil=>simpa[ins]using h|cons y l a=>unfold ins at h;grind
theorem auN{x y z}(h:sameKey y x=Z)(a:ahead y z=Z):ahead x z=Z:=by simp only[sameKey,cG]at h;unfold ahead at*;grind
theorem To{l}(h:j l)(x):j<|ins l x:=by induction l with|nil=>simp[ins,j]|cons y l d=>
  have b:=wT.1 h;unfold ins;split
  .rename_i c;split;.exact wT.2 ⟨λz a=>auN c<|b.1 z a,b.2⟩
   grind
  .rename_i c;split;.refine wT.2 ⟨λz a=>?_,h⟩;grind[Ve]
   .refine wT.2 ⟨λz a=>?_,d b.2⟩;rcases GZ a with rfl|a;.exact aGw (by grind) λe=>c<|by simp[sameKey,e.1,e.2]
    grind
theorem j.nodup{l}(h:j l):l.Nodup:=h.imp λ{a b}c e=>by grind[Dj]
theorem j.inj{l}(h:j l){x y}(c:x∈l)(d:y∈l)(e:sameKey x y=Z):x=y:=by simp only[sameKey,cG]at e;induction l with|nil=>grind|cons z l g=>
  have f:=wT.1 h;rcases di.1 c with rfl|b<;>rcases di.1 d with rfl|a;.rfl
  .grind[Dj]
  .grind[Dj]
  .exact g f.2 b a
theorem j.filter{l}(h:j l)(p):j<|l.filter p:=aip p h
theorem j.unique{l l'}(h:j l)(c:j l')(d:l.Perm l'):l=l':=SZ (le:=λa b=>ahead a b=Z) λa b _ _ f e=>by grind[anz] h c d
structure Bk(L l:List s):Prop where
 perm:L.Perm l
 sorted:j l
 nL:∀x∈l,Good x
theorem sameKey_iff{x y}(b:Good x)(a:Good y):sameKey x y=Z↔x.key=y.key:=by rw[azm b a];simp[sameKey]
theorem Io{L:List s}{k}{y}(h:L.find? λy=>bP<|y.key=k=U y):y∈L/\y.key=k:=⟨SY h,by grind⟩
theorem abA{L:List s}{k}(h:L.find? λy=>bP<|y.key=k=V):∀y∈L,y.key≠k:=λy a=>by grind
theorem arQ{L}{x}(h:∀y∈L,y.key≠x.key):fE L x=L++[x]:=by induction L with|nil=>rfl|cons y l a=>rw[fE,if_neg<|h y<|by simp,a λz b=>h z<|by grind];rfl
theorem arP{L}{x y}(a:y∈L)(d:y.key=x.key)(b:(L.map (·.key)).Nodup):(fE L x).Perm<|if yP x y then x::L.erase y else L:=by induction L with|nil=>grind|cons z l c=>
  by_cases hz:z.key=x.key;·rw[fE,cJ hz];grind
  ·rw[fE,if_neg hz];grind
theorem azE{l}{x}(h:∀y∈l,sameKey y x=ai):(ins l x).Perm<|x::l:=by induction l with|nil=>exact .refl _|cons y l a=>rw[ins,if_neg<|by grind];grind
theorem azD{l}{x y}(hs:j l)(d:y∈l)(c:sameKey y x=Z):(ins l x).Perm<|if j4 x y then x::l.erase y else l:=by induction l with|nil=>grind|cons z l g=>
  have f:=wT.1 hs;by_cases E:sameKey z x=Z;.have:y=z:=hs.inj d (by simp) (by simp only[sameKey,cG]at*;grind);rw[ins,cJ E];grind
  .have b:=(di.1 d).resolve_left λe=>E<|e▸c;have h:ahead z x=Z:=by simp only[sameKey,cG]at c;unfold ahead at*;grind
   rw[ins,if_neg E,if_neg<|by grind[anz]];have:=g f.2 b;grind
theorem j.keys{l}(h:j l)(f:∀y∈l,Good y):(l.map (·.key)).Nodup:=by refine NC.2<|Zm (λ{a b}g i d e=>?_) h;have:=(aiI (f a g)<|f b i).2 d;grind
theorem Bk.nodup{L l}(h:Bk L l):(L.map (·.key)).Nodup:=(h.perm.map _).nodup_iff.2<|h.sorted.keys h.nL
theorem Bk.Uu{L l}(h:Bk L l):∀x∈L,Good x:=λx a=>h.nL x<|h.perm.subset a
theorem Bk.take{L l}(h:Bk L l){x}(f:Good x):Bk (fE L x)<|ins l x:=by
 refine⟨?_,To h.sorted x,λy b=>?_⟩
 .by_cases hex:∃y∈l,sameKey y x=Z
  .obtain⟨y,b,d⟩:=hex;refine(arP (h.perm.symm.subset b) ((sameKey_iff (h.nL y b) f).1 d) h.nodup).trans<|.trans ?_ (azD h.sorted b d).symm;rw[awr];split;.exact(h.perm.erase y).cons x
   .exact h.perm
  .have c:∀y∈l,sameKey y x=ai:=λy b=>by grind
   rw[arQ λy b e=>by have:=(sameKey_iff (h.Uu y b) f).2 e;rw[c y<|h.perm.subset b]at this;grind];exact(List.perm_append_singleton _ _).trans<|(h.perm.cons x).trans (azE c).symm
 .rcases GZ b with rfl|b;.grind
  .exact h.nL y b
theorem Bk.find{L l}(h:Bk L l)(k):L.find? λy=>bP<|y.key=k=l.find? λy=>bP<|y.key=k:=by cases c:L.find? λy=>bP<|y.key=k with
 |none=>cases b:l.find? λy=>bP<|y.key=k with|none=>rfl|some y=>exact absurd (Io b).2<|abA c y<|h.perm.symm.subset (Io b).1
 |some x=>cases b:l.find? λy=>bP<|y.key=k with|none=>exact absurd (Io c).2<|abA b x<|h.perm.subset (Io c).1|some y=>have e:=Io c;have d:=Io b;have a:=h.perm.subset e.1;rw[h.sorted.inj a d.1<|(sameKey_iff (h.nL x a)<|h.nL y d.1).2<|e.2.trans d.2.symm]
def stepW(x:s)(A:List s×Bool)(y:s):List s×Bool:=if sameKey y x then if j4 x y then(A.1++[x],Z)else(A.1++[y],Z)else if ahead x y&&!A.2 then(A.1++[x,y],Z)else(A.1++[y],A.2)
def Mq(l:List s)(x:s):List s:=let A:=l.foldl (stepW x) ([],ai);if A.2 then A.1 else A.1++[x]
theorem aln{x}(l:List s)(o)(h:∀z∈l,sameKey z x=ai):l.foldl (stepW x) (o,Z)=(o++l,Z):=by induction l generalizing o with|nil=>simp|cons y l b=>
  have:stepW x (o,Z) y=(o++[y],Z):=by grind[stepW]
  grind
theorem aDo{x}(l)(hs:j l)(o):(let s:=l.foldl (stepW x) (o,ai);if s.2 then s.1 else s.1++[x])=o++ins l x:=by induction l generalizing o with|nil=>simp[ins]|cons y l f=>
  have d:=wT.1 hs;rw[Ay,ins];by_cases E:sameKey y x=Z
  .have e:∀z∈l,sameKey z x=ai:=λz c=>by cases b:sameKey z x with|false=>rfl|true=>have:=d.1 z c;simp only[sameKey,cG,eU]at E b;grind[Dj]
   rw[cJ E];grind[j4,stepW,aln]
  .rw[if_neg E];by_cases ha:ahead x y=Z
   .have e:∀z∈l,sameKey z x=ai:=λz c=>by cases b:sameKey z x with|false=>rfl|true=>have:=Ve ha<|d.1 z c;simp only[sameKey,cG,eU]at b;grind[Dj]
    have:stepW x (o,ai) y=(o++[x,y],Z):=by grind[stepW]
    rw[this,aln _ _ e,cJ ha];simp
   .have:stepW x (o,ai) y=(o++[y],ai):=by grind[stepW]
    rw[this,f d.2,if_neg ha];simp
theorem Mp{l}(hs:j l)(x):Mq l x=ins l x:=by grind[aDo,Mq]
def Uv(l:List s)(n:ByteArray):Option s:=l.find? λy=>sameKey y ⟨n,⟨#[]⟩,0,0,⟨#[]⟩⟩
def JF(g:Option s)(n:ByteArray)(y:s):Bool:=bP (y.name=n)&&! bP (y.field=⟨#[]⟩)&&match g with|none=>Z|some d=>wN y.c y.r d.c d.r
def qD(l:List s)(n:ByteArray):List s:=l.filter<|JF (Uv l n) n
def Gf(l:List s)(pfx:ByteArray)(out:List ByteArray)(y:s):List ByteArray:=if(bl pfx).isPrefixOf (bl y.name)&&!(qD l y.name).isEmpty&&! bP (out.getLast?=U y.name)then out++[y.name]else out
def J1(l:List s)(pfx:ByteArray):List ByteArray:=l.foldl (Gf l pfx) []
def zX(l:List ByteArray):Prop:=l.Pairwise λa b=>lO a b=Z
theorem zX.unique{l l'}(h:zX l)(d:zX l')(g:∀n,n∈l↔n∈l'):l=l':=by
 have c:∀{l:List ByteArray},zX l->l.Nodup:=λh=>h.imp λ{a b}f e=>by grind[J6]
 refine SZ (le:=λa b=>lO a b=Z) (λa b _ _ j i=>?_) h d<|(Kn (c h)<|c d).2 g;grind[Nf,J6]
theorem ahk(l)(pfx)(q)(hs:j q)(d)(c:zX d)(m:∀n∈d,∀y∈q,n=y.name\/lO n y.name=Z)(f:∀n∈d,∀y∈q,n=y.name->d.getLast?=n):zX (q.foldl (Gf l pfx) d)/\∀n,n∈q.foldl (Gf l pfx) d↔n∈d\/∃y∈q,y.name=n/\(bl pfx).isPrefixOf (bl n)=Z/\qD l n≠[]:=by induction q generalizing d with|nil=>grind|cons y q k=>
  have i:=wT.1 hs;rw[Ay];have o:∀z∈q,y.name=z.name\/lO y.name z.name=Z:=λz g=>by have:=i.1 z g;unfold ahead at this;grind
  by_cases hc:((bl pfx).isPrefixOf (bl y.name)&&!(qD l y.name).isEmpty&&! bP (d.getLast?=U y.name))=Z
  .have e:Gf l pfx d y=d++[y.name]:=by rw[Gf,cJ hc]
   simp only[cG,Ks,decide_eq_false_iff_not,Zl]at hc;obtain⟨⟨x,A⟩,w⟩:=hc;have p:∀n∈d,lO n y.name=Z:=λn h=>by grind
   rw[e];obtain⟨s,r⟩:=k i.2 (d++[y.name]) (by unfold zX;rw[ait];exact⟨c,by simp,λa u b v=>by grind⟩) λn h z g=>by grind (λn h z g t=>by grind[lO,Nf,J6,List.mem_singleton]);grind
  .have e:Gf l pfx d y=d:=by rw[Gf,if_neg hc]
   rw[e];obtain⟨s,r⟩:=k i.2 d c λn h z g=>m n h z<|by simp[g] (λn h z g=>f n h z<|by simp[g]);grind
theorem axr{l}(hs:j l)(pfx):zX<|J1 l pfx:=(ahk l pfx l hs [] .nil (by simp)<|by simp).1
theorem axs{l}(hs:j l)(pfx n):n∈J1 l pfx↔(bl pfx).isPrefixOf (bl n)=Z/\qD l n≠[]:=by
 rw[J1,(ahk l pfx l hs [] .nil (by simp)<|by simp).2 n];constructor;.grind
 .rintro⟨e,c⟩;obtain⟨y,b⟩:=Cf _ c;obtain⟨d,a⟩:=rX.1 b;simp only[JF,cG,eU]at a;grind
def ld(s:ByteArray)(E:Nat):Bool:=yV s&&bP (0<s.size)&&bP (s.size<=E)
end
section
open Go.RowKit
theorem Ws(a b:ByteArray):(a.toList==b.toList)=bP (a=b):=by rw[AF,lQ,eU];grind[zR,Jk]
structure kW(W:ax)(N:Nat)(T e size:Nat)(v:az)(n:Nat)(xs:List az):Prop where box:W.heap[N]?=U (aH #[v] T (0,0))row:W.ownsRow (N+1) e size v n xs
theorem dB{w w':ax}{base e m n:Nat}{v}{xs}(h:w.ownsRow base e m v n xs)(k:∀g,v.ownBlock=U g->w'.heap[g]?=w.heap[g]?):w'.ownsRow base e m v n xs:=by
 obtain⟨j,d⟩:=h;refine⟨j,?_⟩;rcases d with d|⟨g,a,b,c,i,f,r⟩;.grind
 .exact aB ⟨g,a,b,c,i,(k g<|by rw[c];rfl).trans f,r⟩
theorem BP{w:ax}{base E e m n:Nat}{v}{xs}(h:w.ownsRow base e m v n xs)(i:∀g,v.ownBlock=U g->E<=g):w.ownsRow E e m v n xs:=by
 obtain⟨f,d⟩:=h;refine⟨f,?_⟩;rcases d with d|⟨g,a,b,c,j,r⟩;.grind
 .exact aB ⟨g,a,b,c,i g<|by rw[c];rfl,r⟩
def rE(N:Nat)(v:az):Nat->Prop:=λb=>b=N\/v.ownBlock=U b
theorem kW.lt{W}{N T e a n}{v}{xs}(h:kW W N T e a v n xs):∀b,rE N v b->b<W:=by
 rintro b(rfl|c);.exact(eX.1 h.box).1
 .exact(h.row.lt b c).2
theorem kW.fJ{W W'}{N T e a n}{v}{xs}(h:kW W N T e a v n xs)(c:∀b,rE N v b->W'.heap[b]?=W.heap[b]?):kW W' N T e a v n xs:=⟨(c N<|ay rfl).trans h.box,dB h.row λg d=>c g<|aB d⟩
theorem kW.cell{W}{N T e a n}{v}{xs}(h:kW W N T e a v n xs):W.cell? N=v/\W.frozen? N=ai:=by simp[pz,yu,h.box]
theorem kW.new(W:ax)(T e a:Nat):kW (W.alloc<|aH #[aC V 0 0] T) W T e a (aC V 0 0) 0 []:=⟨gI W _,mL _ _ _ _⟩
theorem An{W:ax}{N T:Nat}{v u}(h:W.heap[N]?=U (aH #[v] T (0,0))):(W.setCell N u).heap[N]?=U (aH #[u] T (0,0)):=by obtain⟨a,b⟩:=eX.1 h;simp only[jL,zf,h,ee,gL];rfl
theorem kW.appended{W W1}{N T e c n n'}{v v'}{xs f}(h:kW W N T e c v n xs)(d:W.grownBy W1 v.ownBlock)(o:W1.ownsRow (N+1) e c v' n' f)(i:v'.ownBlock=v.ownBlock\/v'.ownBlock=W):kW (W1.setCell N v') N T e c v' n' f/\bS (rE N v) W (rE N v') (W1.setCell N v'):=by
 have g:=(d.block N (eX.1 h.box).1 λe=>by have:=(h.row.lt N e.symm).1;omega).trans h.box;refine⟨⟨An g,ownsRow_setCell_below o (a:=N) (Nat.lt_succ_self N) _⟩,?_,?_⟩;.refine⟨d.os,d.tape,d.output,by simpa[jL]using d.size,λk m j=>?_⟩;exact(gJ _ _ _ _ λe=>j<|ay e).trans<|d.block k m λe=>j<|aB e.symm
 .rintro b(rfl|p);.exact ay<|ay rfl
  .rcases i with l|l;.exact ay<|aB<|l▸p
   grind
def s.cells(x:s):List az:=[aE x.name,aE x.field,Y aG x.c,Y aG x.r,aE x.value]
def rows(l:List s):List az:=l.flatMap s.cells
theorem XF(l l'):rows (l++l')=rows l++rows l':=by simp[rows]
theorem afA{l}{j}(a)(i)(d:i<5):(rows l)[j*5+i]?=l[j].cells[i]?:=by induction l generalizing j with|nil=>grind|cons x l c=>show(x.cells++rows l)[j*5+i]?=_;have b:x.cells.length=5:=rfl;grind
structure wm(w1:ax)(e size:Nat)(v:az)(n:Nat)(xs:List az)(W:ax):Prop where
 below:aY w1.heap.size w1 W
 row:W.ownsRow w1.heap.size e size v n xs
variable {w1 W W':ax} {e size n:Nat} {v:az} {xs:List az}
theorem wm.later(h:wm w1 e size v n xs W)(a:aY W W W'):wm w1 e size v n xs W':=⟨h.below.trans<|a.mono h.below.size,dB h.row λg b=>a.block g (h.row.lt g b).2⟩
theorem wm.alloc(h:wm w1 e size v n xs W)(o):wm w1 e size v n xs<|W.alloc o:=h.later<|(dK _ _).alloc (aQ _) _
theorem wm.new(w1)(e size):wm w1 e size (aC V 0 0) 0 [] w1:=⟨dK _ _,mL _ _ _ _⟩
theorem wm.append{v'}{n'}{c}(h:wm w1 e size v n xs W)(d:W.grownBy W' v.ownBlock)(g:W'.ownsRow w1 e size v' n' c):wm w1 e size v' n' c W':=⟨⟨d.os.trans h.below.os,d.tape.trans h.below.tape,d.output.trans h.below.output,bC h.below.size d.size,λb f=>(d.block b (cB f h.below.size) λe=>by have:=(h.row.lt b e.symm).1;omega).trans<|h.below.block b f⟩,g⟩
theorem agM{P}{o}{a}{w}{K}{Q}(s x)(t)(C:o.op=.call {callee:=.builtin .append,args:=#[s,x],argTypes:=#[t,t]})(base)(e)(i)(z)(size bytes)(H:P.underlying t=U (.slice e))(I:P.info? e=U i)(G:i.zero=U z)(f:i.size=size)(y:i.bytes=bytes)(B:z.cells.size=size)(A:0<size)(v)(n)(xs)(hs:a.eval s=v)(q:w.ownsRow base e size v n xs)(ad)(m c)(b)(D:a.eval x=aC (U ad) m c)(L:b.length=m*size)(k:∀j u,b[j]?=U u->w.cell? (ad.add j)=U u)(J:∀u∈b,u.oneCell'=Z)(r:n+m<=vQ)(d:(n+m)*bytes<=140737488355328)(g:base<=w.heap.size)(h:∀l p,p.ownsRow base e size l (n+m) (xs++b)->w.grownBy p v.ownBlock->l.ownBlock=v.ownBlock\/l.ownBlock=U w.heap.size->K (a.put o.dst l) p):Oper.wp P o a w K Q:=by obtain⟨l,p,E,N,M,O,F⟩:=run_append_own_at (P:=P) w base t o.type e i z size bytes H I G f y B A v n xs q ad m c b L k J r d g;unfold Oper.wp cS;simp only[C,resolve,invoke,builtin,gK,vq,Result.andThen_ok,Zk,gh,qs,hs,D,E];exact h l p N M F
end
end Go.Proofs.YtpdbmpbmepkikaaGreatDoor
set_option maxRecDepth 100000
namespace Go.Proofs.YtpdbmpbmepkikaaGreatDoor
section
def k(n:Nat):List UInt8:=if h:n<128 then[kT n]else kT (n%128+128)::k (n/128)termination_by n
decreasing_by omega
theorem yS{n}(h:n<128):k n=[kT n]:=by rw[k,wP h]
theorem GB{n}(h:¬n<128):k n=kT (n%128+128)::k (n/128):=by rw[k,GM h]
def tG:Nat->Nat->Nat->List UInt8->Nat×List UInt8×Bool|0,_,acc,l=>(acc,l,ai)|_+1,_,_,[]=>(0,[],Z)|f+1,k,acc,b::l=>let E:=acc+b.toNat%128*2^k%18446744073709551616;if b.toNat<128 then(E,l,ai)else tG f (k+7) E l
theorem avI(f m a n)(t)(c:n<128^(f+1))(d:n*2^m<18446744073709551616):tG (f+1) m a (k n++t)=(a+n*2^m,t,ai):=by induction f generalizing m a n with
 |zero=>
  have h:n<128:=by grind
  rw[yS h];have e:(kT n).toNat=n:=by simp;omega
  simp only[S4,tG,e,h,gL];grind|succ f g=>
  by_cases h:n<128
  .rw[yS h];have e:(kT n).toNat=n:=by simp;omega
   simp only[S4,tG,e,h,gL];grind
  .rw[GB h];have e:(kT<|n%128+128).toNat=n%128+128:=by simp;omega
   rw[oV,tG,e,if_neg<|by omega];have b:n*2^m=n%128*2^m+n/128*2^(m+7):=by grind[Nat.pow_add,Nat.mod_add_div,Nat.add_mul,Nat.mul_comm,Nat.mul_assoc]
   grind
theorem avH{n}(a:n<18446744073709551616)(t):tG 10 0 0 (k n++t)=(n,t,ai):=by grind[avI,Nat.lt_of_lt_of_le]
theorem Sm{f n}(h:n<128^(f+1)):(k n).length<=f+1:=by induction f generalizing n with|zero=>grind[yS]|succ f a=>grind[yS,GB,Nat.pow_succ]
theorem awS(n):0<(k n).length:=by grind[yS,GB]
def gS(z:Int):Nat:=if 0<=z then(2*z).toNat else(-2*z-1).toNat
theorem F7{z}(h:-9223372036854775808<=z/\z<=9223372036854775807):gS z<18446744073709551616:=by grind[gS]
def Wc(n:Nat):Int:=if n%2=0 then(n/2:Nat)else-((n/2:Nat):Int)-1
theorem ao3(z):Wc (gS z)=z:=by grind[Wc,gS]
def dh(s:ByteArray):List UInt8:=k s.size++bl s
def gU(x:s):List UInt8:=dh x.name++dh x.field++k (gS x.c)++k (gS x.r)++dh x.value
def cZ{α:Type}(f:α->List UInt8)(l:List α):List UInt8:=k l.length++l.flatMap f
theorem alm{a}(h:j a)(b:List s):j<|b.foldl ins a:=by induction b generalizing a with|nil=>exact h|cons x b c=>grind[To]
end
section
open Go.RowKit
def jj(b:UInt8):az:=Y aq b.toNat
theorem aec(x)(R:x.Ok)(m)(L)(w)(T:cI w m L):bz Q 101 #[bW m,x.val] w λe P=>e=bj (bQ #[])/\cI P m (fE L x)/\O (λb=>b=m) w P:=by
 obtain⟨n,f,c,r,v⟩:=x;obtain⟨D,F⟩:=R;simp only at D F;have a:=X T;cases q:lV L (iN n f)with|none=>
  have B:dx<|look (es L) (iN n f)=V:=X (by grind[Ni]);have G:=X<|arO (L:=L) (x:=⟨n,f,c,r,v⟩) q;unfold s.val;go_enter Wq,ntmps101;go_wp2_with fail;refine(Tl _ _ _ _ _ _ D F).mono ?_;rintro e t⟨rfl,d⟩;have k:=X<|cU.below (cU.alloc a.out _) d;obtain⟨i,j⟩:=Dh d;have Q0:w.heap.size<t:=by have:=d.size;simp at this;omega
  simp only[vt]at i j;have a:=X d;go_wp2_with(first|(at_lookup;refine Jc _ iI rfl _ _ 107 rfl 9 46 Ak qP _ (Mm _) m (es L) (iN n f) rfl k.out rfl ?_;rw[B.out])|(at_mapUpdate;refine Qo _ iI rfl _ _ _ 107 rfl 9 46 Ak qP m (es L) (iN n f) (s.val ⟨n,f,c,r,v⟩) rfl (cU.alloc k.out _) rfl rfl ?_;intro I l o M));go_end0;refine⟨rfl,?_,?_⟩;.show cU iI I m<|es _;rw[<-G.out.2];exact l
  exact((O.alloc _ _ _).trans' (O.iH (F:=λb=>b=m) a.out) (λ_ _ h=>h) λ_ _ h=>h).trans' ((O.alloc _ _ _).trans o) (λ_ _ h=>h) λ_ _ h=>h|some y=>
  obtain⟨A,H,C,E,z⟩:=y;have B:dx<|look (es L) (iN n f)=s.val ⟨A,H,C,E,z⟩:=X<|by grind[Ni]
  have G:=X<|arN (L:=L) (x:=⟨n,f,c,r,v⟩) q;cases N:yP ⟨n,f,c,r,v⟩ ⟨A,H,C,E,z⟩with|true=>
   have u:=X N;unfold s.val;go_enter Wq,ntmps101;go_wp2_with fail;refine(Tl _ _ _ _ _ _ D F).mono ?_;rintro e t⟨rfl,d⟩;have k:=X<|cU.below (cU.alloc a.out _) d;obtain⟨i,j⟩:=Dh d;have Q0:w.heap.size<t:=by have:=d.size;simp at this;omega
   simp only[vt]at i j;go_wp2_with(first|(at_lookup;refine Jc _ iI rfl _ _ 107 rfl 9 46 Ak qP _ (Mm _) m (es L) (iN n f) rfl k.out rfl ?_;rw[B.out];simp only[fW,Zj,s.val])|(go_at_call 157;fail));refine(agE ⟨n,f,c,r,v⟩ ⟨A,H,C,E,z⟩ _).mono ?_;rintro e I⟨rfl,g⟩;rw[u.out];obtain⟨K,J⟩:=Dh g;simp only[vt]at K J;have p:=X g;go_wp2_with(at_mapUpdate;refine Qo _ iI rfl _ _ _ 107 rfl 9 46 Ak qP m (es L) (iN n f) (s.val ⟨n,f,c,r,v⟩) rfl (X<|cU.below (cU.alloc k.out _) g).out rfl rfl ?_;intro S l o M);go_end0;refine⟨rfl,?_,?_⟩;.show cU iI S m<|es _;rw[<-G.out.2 u.out];exact l
   exact(((O.alloc _ _ _).trans<|O.iH (X d).out).trans<|(O.alloc _ _ _).trans<|O.iH p.out).trans o|false=>
   have u:=X N;unfold s.val;go_enter Wq,ntmps101;go_wp2_with fail;refine(Tl _ _ _ _ _ _ D F).mono ?_;rintro e t⟨rfl,d⟩;have k:=X<|cU.below (cU.alloc a.out _) d;obtain⟨i,j⟩:=Dh d;have Q0:w.heap.size<t:=by have:=d.size;simp at this;omega
   simp only[vt]at i j;go_wp2_with(first|(at_lookup;refine Jc _ iI rfl _ _ 107 rfl 9 46 Ak qP _ (Mm _) m (es L) (iN n f) rfl k.out rfl ?_;rw[B.out];simp only[fW,Zj,s.val])|(go_at_call 157;fail));refine(agE ⟨n,f,c,r,v⟩ ⟨A,H,C,E,z⟩ _).mono ?_;rintro e I⟨rfl,g⟩;rw[u.out];have p:=X g;go_wp2_with fail;go_end0;refine⟨rfl,?_,?_⟩;.show cU iI I m<|es _;rw[G.out.1 u.out];exact(X<|cU.below (cU.alloc k.out _) g).out
   exact((O.alloc _ _ _).trans<|O.iH (X d).out).trans<|(O.alloc _ _ _).trans<|O.iH p.out
variable {κ:Type} [DecidableEq κ]
theorem KE.inj(K:KE κ){a b}(h:K.enc a=K.enc b):a=b:=by have d:=K.same a a;have c:=K.same a b;grind
def tj(K:KE κ)(w:ax)(m it:Nat)(es:List<|κ×az)(done:List κ):Prop:=∃(en:Array mU)(clock:Nat)(seen:Array Nat),w.heap[m]?=U (iY en clock)∧Reads K en clock es∧w.heap[it]?=U (vS (U m) clock seen clock)∧seen.toList.map (λb=>(en.toList.find? (·.born==b)).map (·.key))=done.map λk=>U<|K.enc k
theorem tj.map{K:KE κ}{w}{m c}{es}{b}(h:tj K w m c es b):cU K w m es:=by obtain⟨f,a,seen,e,d,_⟩:=h;exact⟨f,a,e,d⟩
theorem tj.lt{K:KE κ}{w}{m c}{es}{a}(h:tj K w m c es a):c<w:=by obtain⟨g,b,seen,f,e,d,_⟩:=h;grind
theorem tj.JX{K:KE κ}{w w'}{m c}{es}{a}(h:tj K w m c es a)(j:w'.heap[m]?=w.heap[m]?)(i:w'.heap[c]?=w.heap[c]?):tj K w' m c es a:=by obtain⟨k,b,seen,g,f,d,e⟩:=h;exact⟨k,b,seen,j.trans g,f,i.trans d,e⟩
theorem MQ{P}{w}{T i d}(K:KE κ)(e:P.underlying T=U (.map i d)){m}{es}(h:cU K w m es):∃o,(Instr.range T<|bW m).run P w=aW (aF w) (w.alloc o)/\tj K (w.alloc o) m w es []:=by
 obtain⟨c,a,b,f⟩:=h;have g:(rB m).run P w=aW (iY c a) w:=by simp[rB,oF,b]
 refine⟨vS (U m) a #[] a,?_,c,a,#[],(dr _ _ _ (eX.1 b).1).trans b,f,gI w _,by simp⟩;simp only[Instr.range,gK,run_underlying e,l6,g,vq,run_newObj_alloc]
theorem afI{b:List mU}(h:(b.map (·.born)).Pairwise (·<·)){e}(c:e∈b):b.find? (·.born==e.born)=e:=by induction b with|nil=>cases c|cons a l d=>simp only[gh,wT]at h;grind[List.mem_map_of_mem,beq_eq_false_iff_ne]
theorem af4{K:KE κ}{c}{b}{es}(h:Reads K c b es){e}(d:e∈c.toList):∃k,(k,e.val)∈es/\e.key=K.enc k:=by
 have:(e.key,e.val)∈c.toList.map λe=>(e.key,e.val):=by grind
 rw[h.read]at this;grind
theorem avG{K:KE κ}{c}{b}{es}(h:Reads K c b es){p}(d:p∈es):∃e∈c.toList,e.key=K.enc p.1/\e.val=p.2:=by
 have:(K.enc p.1,p.2)∈es.map λp=>(K.enc p.1,p.2):=by grind
 rw[<-h.read]at this;grind
theorem avF{K:KE κ}{f}{d}{es}(h:Reads K f d es){e c}(o:e∈f.toList)(k:c∈f.toList)(m:e.key=c.key):e.born=c.born:=by
 have g:∀(l:List mU)(es:List<|κ×az),l.map (λe=>(e.key,e.val))=es.map (λp=>(K.enc p.1,p.2))->(es.map (·.1)).Nodup->∀e∈l,∀c∈l,e.key=c.key->e.born=c.born:=by intro l;induction l with|nil=>grind|cons a l t=>intro es n r;cases es with|nil=>grind|cons p es=>
    simp only[gh,GU,GS,Cg]at n r;have j:∀e∈l,e.key≠a.key:=λe o m=>by
     have:(e.key,e.val)∈l.map λe=>(e.key,e.val):=by grind
     rw[n.2]at this;obtain⟨q,s,i⟩:=ki.1 this;simp only[GS]at i;have:q.1=p.1:=K.inj (by grind);grind
    grind
 exact g f.toList es h.read h.nodup e o c k m
theorem afo{K}{g}{f}{es}(h:Reads K g f es){seen:List Nat}{c:List κ}(hs:seen.map (λb=>(g.toList.find? (·.born==b)).map (·.key))=c.map λk=>U<|K.enc k){e}(l:e∈g.toList){k}(j:e.key=K.enc k):e.born∈seen↔k∈c:=by
 constructor
 ·intro m;have:(g.toList.find? (·.born==e.born)).map (·.key)∈seen.map (λb=>(g.toList.find? (·.born==b)).map (·.key)):=by grind
  rw[hs,afI h.MU l]at this;obtain⟨n,i,d⟩:=ki.1 this;simp only[ee,dX]at d;exact K.inj (d.trans j)▸i
 ·intro p;have:U (K.enc k)∈c.map λk=>U<|K.enc k:=by grind
  rw[<-hs]at this;obtain⟨b,m,d⟩:=ki.1 this;cases o:g.toList.find? (·.born==b)with|none=>grind|some q=>grind[Option.some.injEq,List.mem_of_find?_eq_some,avF]
theorem MR{P:bZ}{w:ax}(K:KE κ){m n:Nat}{es:List<|κ×az}{g:List κ}(h:tj K w m n es g)(L:m≠n)(T:dV):(∀p∈es,p.1∈g)∧(zJ (aF<|U ⟨n,0,V⟩) ai T).run P w=aW (bQ #[cx ai]) w∨∃k v G,(k,v)∈es∧k∉g∧(zJ (aF<|U ⟨n,0,V⟩) ai T).run P w=aW (bQ #[cx Z,K.enc k,v]) G∧tj K G m n es (g++[k])∧O (λb=>b=n) w G∧G.heap.size=w.heap.size:=by
 obtain⟨o,d,seen,hb,x,X,a⟩:=h;have hg:(rB m).run P w=aW (iY o d) w:=by simp[rB,oF,hb]
 have N:(rB n).run P w=aW (vS (U m) d seen d) w:=by simp[rB,oF,X]
 have Q2:=(eX.1 X).1;have B:(!seen.isEmpty&&!o.isEmpty&&o.all (·.born≥d))=ai:=by
  rw[Bool.and_eq_false_iff];by_cases R:o.isEmpty;·grind
  ·right;cases Q1:o.toList with|nil=>simp at Q1;grind|cons e l=>rw[<-Array.all_toList,Q1];have:=x.below e (by grind);grind
 obtain⟨c,y⟩:=ex<|o.filter λe=>!seen.contains e.born;have q:∀e,e∈c.toList↔e∈o.toList∧e.born∉seen.toList:=λe=>by grind
 have F:c.filter (·.born<d)=c:=by rw[Array.filter_eq_self];intro e R;have:=x.below e ((q e).1<|by grind).1;grind
 have E:c.filter (·.born≥d)=#[]:=by grind[Array.filter_eq_empty_iff]
 have f:∀(r:Result az),(zJ (aF<|U ⟨n,0,V⟩) ai T).run P w=r↔(do match((if c.isEmpty then#[V]else#[])++c.map U)[<-choose<|.mapNext ((if c.isEmpty then#[V]else#[])++c.map U:Array<|Option mU).size]? with|some<|U e=>setObj n (vS (U m) d (seen.push e.born) d)bI<|bQ #[cx Z,e.key,e.val]|some V=>bI<|bQ #[cx ai]|none=>stuck "Next: no such candidate":cz az).run P w=r:=λr=>by unfold zJ;simp only[gK,N,hg,l6,B,ow,ox];rw[<-y,F,E,Array.append_empty];grind
 by_cases aJI:c.isEmpty
 ·left;refine⟨λp hp=>?_,(f _).2 ?_⟩;·obtain⟨e,R,hk,_⟩:=avG x hp;refine(afo x a R hk).1<|ou λW=>?_;grind
  ·have Q0:c=#[]:=by grind
   rw[Q0];simp[gK,choose,oF,amt,l6]
 ·right;have D:0<c.size:=by grind
  have hd:∃(j:Nat)(i:ax),j<c.size∧(choose<|.mapNext ((if c.isEmpty then#[V]else#[])++c.map U:Array<|Option mU).size).run P w=aW j i∧i.heap=w.heap∧i.os=w.os∧i.tape=w.tape∧i.output=w.output:=by
   have t:((if c.isEmpty then#[V]else#[])++c.map U:Array<|Option mU).size=c.size:=by grind
   rw[t];by_cases h1:c.size<=1;·exact⟨0,w,D,by simp[choose,oF,amt,h1],rfl,rfl,rfl,rfl⟩
   ·exact⟨(w.tape w.drawn<|.mapNext c.size)%c.size,{w with drawn:=w.drawn+1},Nat.mod_lt _ D,by simp[choose,oF,amt,h1,Question.cut],rfl,rfl,rfl,rfl⟩
  obtain⟨j,i,hj,S,u,I,H,M⟩:=hd;have Q3:c[j]∈c.toList:=by simp
  obtain⟨A,hns⟩:=(q _).1 Q3;obtain⟨k,Q,C⟩:=af4 x A;have J:k∉g:=by grind[afo]
  have z:(setObj n<|vS (U m) d (seen.push c[j].born) d).run P i=aW () (i.putObj n<|vS (U m) d (seen.push c[j].born) d):=by
   have:i.heap[n]?=U (vS (U m) d seen d):=by grind
   simp[setObj,oF,this,World.putObj]
  refine⟨k,c[j].val,i.putObj n<|vS (U m) d (seen.push c[j].born) d,Q,J,(f _).2 ?_,?_,?_,by simp[u]⟩
  ·have s:((if c.isEmpty then#[V]else#[])++c.map U:Array<|Option mU)[j]?=U (U c[j]):=by grind
   simp only[gK,S,l6,s,z,vq,C]
  ·refine⟨o,d,seen.push c[j].born,(qX L).trans<|by grind,x,GV<|by grind,?_⟩;simp only[Zn,wU,gh,qs,a,afI x.MU A,ee,C]
  ·refine⟨I,H,M,by simp[u],λb _ W=>(qX W).trans<|by rw[u]⟩
theorem MS{P}{w}(K:KE κ){m p}{es}{j}{k}(h:tj K w m p es<|j++[k]):∃v,(k,v)∈es∧(CZ<|aF p).run P w=aW (bQ #[K.enc k,v]) w:=by
 obtain⟨l,c,seen,y,t,s,B⟩:=h;have x:(rB m).run P w=aW (iY l c) w:=by simp[rB,oF,y]
 have q:(rB p).run P w=aW (vS m c seen c) w:=by simp[rB,oF,s]
 have d:(seen.toList.map (λb=>(l.toList.find? (·.born==b)).map (·.key))).getLast?=U (U<|K.enc k):=by grind
 rw[List.getLast?_map]at d;obtain⟨b,u,f⟩:=ze.1 d;cases r:l.toList.find? (·.born==b)with|none=>grind|some e=>
  rw[r]at f;simp only[ee,dX]at f;have z:=SY r;obtain⟨A,n,i⟩:=af4 t z;have:=K.inj<|i.symm.trans f;subst this;refine⟨e.val,n,?_⟩;have g:seen.back?=b:=by grind
  have o:l.find? (·.born==b)=e:=by grind
  unfold CZ;simp only[gK,q,x,l6,g,bne_self_eq_false,ow,ox,o,i,vq]
attribute [local go_sem] Oper.semAt_some
def preB(pfx k:ByteArray):Bool:=Iz k.data.toList pfx.data.toList
def su(L:List s)(pfx:ByteArray):List ByteArray:=(L.map (·.key)).filter<|preB pfx
open Classical in
theorem Sd {t:Type} {b c:List t} (p) (e:c.Nodup) (g:b.Nodup) (hs:∀a∈b,a∈c) {x} (f:x∈c) (h:x∉b) (i:p x=Z):
  ∃d,(b.filter p++x::d).Perm (c.filter p):=by
 refine⟨(c.filter p).filter (λa=>bP (a∉b++[x])),(List.perm_ext_iff_of_nodup ?_ (e.filter _)).2 λa=>?_⟩
 all_goals grind
theorem azk(G r m)(L)(pfx)(w)(E4:w.cell? G=U (.map m))(sI:w.cell? r=U (.string pfx))(hB:cI w m L):Iter Q 141 #[.pointer<|U ⟨G,0,V⟩,.pointer<|U ⟨r,0,V⟩] (λk=>#[.string k]) (λks=>ks.Perm<|su L pfx) (λb=>b=G∨b=r∨b=m) w:=by
 intro l J Jx W D0 hA Q0 Ie hR hY h0;have QW:=cU.of_block hB (hA.block m<|by simp);have aaZ:=(ew (w:=w)<|hA.block G<|by simp).trans E4;have j:=(ew (w:=w)<|hA.block r<|by simp).trans sI;obtain⟨o,Oe,n⟩:=MQ (P:=Q) (T:=107) iI Ak QW;have R:=oU W _ j;have lm:=QW.lt;have zB:=hB.nodup;refine NB adR rfl trivial ?_;simp only[ntmps141,rW,oT,lF,vV,vU,tZ,tY,tX,tW,rV,oV];gi_wp2;gi_loopg[4]L.length(λk _ wr=>∃(d:List ByteArray)(D:Nat->Prop),k+d.length=L.length∧tj iI wr m W.heap.size (es L) d∧d.Nodup∧(∀x∈d,x∈L.map (·.key))∧J (d.filter<|preB pfx) wr D∧bS D0 W D wr∧¬D W.heap.size);case atStart=>have u:=Q0.lt _ _ _ h0;refine⟨[],D0,by simp,n,by simp,by simp,Q0.st _ _ _ _ h0<|(O.alloc (λ_=>False) _ _).fJ λb QX=>⟨u b QX,id⟩,.other<|O.alloc _ _ _,λh=>absurd (u _ h)<|by omega⟩
 case round=>
  obtain⟨d,D,hk,n,H,c,hj,Q2,C⟩:=hrel;have Ih:∀b,b=G∨b=r∨b=m->b<W->¬D b:=λb QX u hD=>by rcases Q2.2 b hD with h|h;all_goals grind
  have jH:m≠W:=by omega
  have aad:=n.lt;have aJO:wr.cell? ⟨r,0,V⟩=U (.string pfx):=(Q2.1.cell R λh=>hR r h<|by simp).trans j;have HN:=X zB;have HL:=X Q2;have HJ:=X hj;have HY:=X hY;have HS:=X c;have Q1:=X H;have HK:=X hk;rcases MR (P:=Q) iI n jH 0 with⟨QY,t⟩|⟨x,v,w2,AO,q,t,f,M,vE⟩;·have HA:=X QY;gi_wp2;go_end0;refine⟨⟨_,rfl⟩,.inl ⟨_,D,?_,HJ.out,HL.out⟩⟩;have hp:=(Kn Q1.out HN.out).2 λa=>⟨HS.out a,λg=>by obtain⟨y,Q3,rfl⟩:=ki.1 g;exact HA.out (y.key,y.val)<|SX (f:=λx:s=>(x.key,x.val)) Q3⟩;exact hp.filter _
  ·obtain⟨v',zk,F⟩:=MS (P:=Q) iI f;replace t:(zJ (.pointer<|U ⟨W.heap.size,0,V⟩) ai 0).run Q wr=.ok (.tuple #[.bool Z,.string x,v]) w2:=t;replace F:(CZ<|.pointer<|U ⟨W.heap.size,0,V⟩).run Q w2=.ok (.tuple #[.string x,v']) w2:=F;have hxk:x∈L.map (·.key):=by obtain⟨y,Q3,e⟩:=ki.1 AO;grind
   have hlen:d.length<L.length:=by have:=(Cg.2 ⟨q,H⟩).length_le_of_subset (l₂:=L.map (·.key)) (λa g=>by grind);grind
   have T:=Q0.st _ _ _ _ hj<|M.fJ λb QX=>⟨Q0.lt _ _ _ hj b QX,λe=>C<|e▸QX⟩;have S:=Q2.step M (λb QX e=>by omega);have aJP:=(S.1.cell R λh=>hR r h<|by simp).trans j;have E:=X (⟨hxk,q⟩:x∈L.map (·.key)∧x∉d);have B:=X S;by_cases hp:preB pfx x=Z
   ·obtain⟨N,p⟩:=Sd (preB pfx) HN.out Q1.out HS.out E.out.1 E.out.2 hp;obtain⟨fn,tmps,assign,body,Q3,nK⟩:=HY.out (d.filter<|preB pfx) x w2 D ⟨N,p⟩ T;have HR:=X nK;have I:=X hp;have Bn:=X p;have Cm:=Q3;gi_wp2_with(gi_at_call 71;refine(callsIn_wide.2<|Wj _ _ _).mono ?_;rintro e w'⟨rfl,z⟩;subst z;rw[show Iz x.data.toList pfx.data.toList=Z from I.out]);refine HR.out.mono ?_;rintro e W'(⟨rfl,D',A,i⟩|⟨rfl,D',A,i⟩)
    ·gi_wp2;gi_roundg(gk-1);case rel=>
      have K:=f.JX (i.1.block _ f.map.lt<|Ih m (by simp) lm)<|i.1.block _ f.lt C;refine⟨d++[x],D',by have:=HK.out;grind,K,?_,?_,?_,B.out.trans i,?_⟩;·rw[Ew];exact⟨Q1.out,by simp,λa g b QX e=>E.out.2<|by grind⟩
      ·intro a g;rcases rY.1 g with g|g;·exact HS.out a g
       ·rw[mu.1 g];exact E.out.1
      ·rw[Cd,NA I.out];exact A
      ·intro h;rcases i.2 _ h with h|h;·grind
       ·have:=f.lt;omega
     case measure=>have:=HK.out;omega
    ·gi_wp2;refine tV (results_none rfl _ _ _) rfl ?_;exact⟨⟨_,rfl⟩,.inr ⟨_,D',⟨N,by rw[jw];exact Bn.out⟩,A,B.out.trans i⟩⟩
   ·have I:=X (show preB pfx x=ai by grind);gi_wp2_with(gi_at_call 71;refine(callsIn_wide.2<|Wj _ _ _).mono ?_;rintro e w'⟨rfl,z⟩;subst z;rw[show Iz x.data.toList pfx.data.toList=ai from I.out]);gi_roundg(gk-1);case rel=>
     refine⟨d++[x],D,by have:=HK.out;grind,f,?_,?_,?_,B.out,C⟩;·rw[Ew];exact⟨Q1.out,by simp,λa g b QX e=>E.out.2<|by grind⟩
     ·intro a g;rcases rY.1 g with g|g;·exact HS.out a g
      ·rw[mu.1 g];exact E.out.1
     ·rw[Cd,Zi<|by rw[I.out];simp,Km,tU];exact T
    case measure=>have:=HK.out;omega
attribute [local go_sem] Oper.semAt_some
def Halt(p:Prop):Prop:=p
theorem Halt.of{p}(h:Halt p):p:=h
theorem bS.shift{D E c}{W W1 W'}(h:bS D W1 c W')(k:O (λ_=>False) W W1)(a:∀b,D b->E b):bS E W c W':=⟨(k.mono λ_ _ f=>f.elim).trans' (h.1.mono λb _=>a b) (λ_ _ x=>x) λ_ _ x=>x,λb d=>(h.2 b d).imp (a b) λx=>bC k.size x⟩
theorem bS.below{D d}{W0 W W'}(h:bS D W d W')(k:aY W0.heap.size W0 W)(c:∀b,D b->W0<=b):aY W0 W0 W':=⟨h.1.os.trans k.os,h.1.tape.trans k.tape,h.1.output.trans k.output,bC k.size h.1.size,λb a=>(h.1.block b (cB a k.size) λx=>absurd (c b x)<|by omega).trans<|k.block b a⟩
theorem IL{N}{W0 W}(h:aY N W0 W){l}(c:N<=l)(o):aY N W0<|W.putObj l o:=⟨h.os,h.tape,h.output,by simpa using h.size,λb a=>(qX<|by omega).trans<|h.block b a⟩
theorem Cj:(Q.info? 9).map (λi=>(i.zero,i.size,i.bytes))=U (U<|aE ⟨#[]⟩,1,16):=by kernel_rfl
theorem aGp(gf:Nat)(lb)(S)(R)(w)(P:∀n w,(iJ gf n).run Q w=aW (jO gf n) w)(F:Iter Q gf lb (λk=>#[aE k]) S R w)(J:∀b,R b->b<w)(hN:∀j,S j->j.length<=1073741824):bz Q 206 #[aC V 0 0,dF (ei gf) #[] lb] w λe K=>∃j v,e=bj v∧S j∧K.ownsRow w 9 1 v j.length (j.map aE)∧aY w w K:=by
 obtain⟨a,hi,E,z,u⟩:=tT Cj;refine callsIn_wide (n:=0).1<|callsIn_of_wp_marks aqf rfl trivial ?_ rfl;simp only[ntmps206,rW,oT,lF,vV,vU,tZ,tY,tX,tW,rV,oV];gi_wp2;refine wp_rangeFunc (gf:=gf) (lb:=lb) rfl P (F.later<|(O.alloc (λ_=>False) w _).fJ λb c=>⟨J b c,id⟩) λb c=>by have:=J b c;simp;omega (λ_=>rfl) (λf W D=>∃v,kW W w 51 9 1 v f.length (f.map aE)∧D=rE w v) (λ_ _ _ _=>False) ⟨λf W D⟨v,h,e⟩b c=>h.lt b<|e▸c,λf W D W'⟨v,h,e⟩ha=>⟨v,h.fJ λb c=>ha.block b<|e▸c,e⟩⟩ (λ_=>⟨λ_ _ _ h=>h.elim,λ_ _ _ _ h=>h.elim⟩) (rE w<|aC V 0 0) (λb c=>?_) ⟨_,kW.new w 51 9 1,rfl⟩ ?round ?done ?stop
 ·rcases c with rfl|c;·grind
  ·cases c
 case round=>
  rintro l f x W D Q2 vG H⟨y,N⟩⟨v,i,rfl⟩Q1;have L:f.length+1<=1073741824:=by grind
  gi_wp2;refine⟨⟨.refl _ _,λb c=>c.imp id (·.1)⟩,λW2 p=>?_⟩;have d:=i.fJ λb c=>p.block b λe=>H<|e▸c;obtain⟨I,QW⟩:=d.cell;have m:=d.row;have t:=d.lt _<|ay rfl;have r:=X d;gi_wp2_with(gi_at_builtin;go_must(refine wpListIn_append_own_at _ rfl _ _ 51 rfl (w+1) 9 a (aE ⟨#[]⟩) 1 16 By hi E z u rfl (by decide) v f.length (f.map aE) rfl (m.alloc _) W2.heap.size 1 1 [x] rfl rfl (cell_one_new _ _ _) (by simp[A5]) (by unfold vQ;omega) (by omega) (by simp;omega) ?_);intro v' w1 s o _ C;refine Halt.of ?_);obtain⟨g',M,A⟩:=ownsRow_succ s;have q:w≠v.ownBlock:=λe=>by have:=(m.lt _ e.symm).1;omega
  have um:=(ew (w:=W2.alloc<|aH #[x] 9)<|o.block _ (by simp;omega) q).trans<|(ew (w:=W2)<|dr _ _ _ t).trans I;have OK:=(Ev (w:=W2.alloc<|aH #[x] 9)<|o.block _ (by simp;omega) q).trans<|(Ev (w:=W2)<|dr _ _ _ t).trans QW;subst A;unfold Halt;gi_wp2;obtain⟨h1,Q0⟩:=(X<|kW.appended (kW.fJ r.out λb c=>dr _ _ _<|kW.lt r.out b c) o s C).out;exact⟨_,⟨_,by grind,rfl⟩,Q0.shift (O.alloc _ _ _) λ_ h=>ay h⟩
 case done=>
  rintro j W D N⟨v,i,rfl⟩T Q3 G;obtain⟨I,QW⟩:=i.cell;have r:=X i;gi_wp2;refine⟨by simp,ay ⟨_,_,rfl,vp Q3,?_⟩⟩;refine⟨_,results_tmp rfl _ _ _,j,v,rfl,(X N).out,dB (BP r.out.row λg B=>Tg (r.out.row.lt g B).1) λg B=>qX λe=>G<|aB<|e▸B,?_⟩;refine IL ((X T).out.below ((dK _ _).alloc (aQ _) _) ?_) (by simp) _;rintro b(rfl|c);·grind
  ·cases c
 grind
theorem aE8(gf:Nat)(lb)(S)(R)(w)(g:∀a w,(iJ gf a).run Q w=aW (jO gf a) w)(d:Iter Q gf lb (λk=>#[aE k]) S R w)(i:∀b,R b->b<w)(l:∀c,S c->c.length<=1073741824):bz Q 185 #[dF (ei gf) #[] lb] w λe f=>∃c v,e=bj v/\S c/\f.ownsRow w 9 1 v c.length (c.map aE)/\aY w w f:=by go_enter aqm,ntmps185;go_wp2_with(go_at_call 206;refine(aGp gf lb S R w g d i l).mono ?_;rintro e m⟨c,v,rfl,h⟩;obtain j:=X h);go_ret;exact⟨c,v,rfl,j.out⟩
def gy(xs:List ByteArray):List ByteArray:=((xs.map (·.data.toList)).mergeSort λx y=>bP<|x<=y).map λl=>⟨l.toArray⟩
theorem Js(xs):(gy xs).length=xs.length:=by simp[gy]
theorem asd(xs:List ByteArray):xs.map aE=(xs.map (·.data.toList)).map encStr:=by grind[List.map_map,List.map_congr_left]
theorem asc(xs):((xs.map (·.data.toList)).mergeSort λx y=>bP<|x<=y).map encStr=(gy xs).map aE:=by grind[gy,List.map_map,List.map_congr_left]
theorem aev(gf:Nat)(lb)(S)(R)(w)(y:∀h w,(iJ gf h).run Q w=aW (jO gf h) w)(m:Iter Q gf lb (λk=>#[aE k]) S R w)(A:∀b,R b->b<w)(G:∀c,S c->c.length<=1073741824):bz Q 123 #[dF (ei gf) #[] lb] w λe u=>∃c v,e=bj v∧S c∧u.ownsRow w 9 1 v c.length ((gy c).map aE)∧aY w w u:=by
 go_enter aqQ,ntmps123;go_wp2_with(go_at_call 185;refine(aE8 gf lb S R w y m A G).mono ?_;rintro e C⟨c,v,rfl,s,r,t⟩;refine Halt.of ?_);rcases r.2 with⟨rfl,z⟩|⟨g,o,E,rfl,i,p,J,D,K,I⟩;·have j:=X t;unfold Halt;go_wp2_with(go_at_call 186;refine(apq _ _ _).mono ?_;rintro e F⟨rfl,f⟩;subst f);go_ret;refine⟨c,_,rfl,(X s).out,?_,j.out⟩;have:=Cc z;subst this;simpa[gy]using(X r).out
 ·have x:(c.map (·.data.toList)).length=c.length:=by simp
  have l:(c.map (·.data.toList)).length<4611686018427387904:=by grind
  have d:=apr g 0 o (c.map (·.data.toList)) C (holds_of_block (ss:=c.map (·.data.toList)) p<|by grind[List.length_map,asd]) (eX.1 p).1 l;rw[x]at d;have j:=X t;have B:=X p;unfold Halt;go_wp2_with(go_at_call 186;refine(X d).out.mono ?_;rintro e F⟨rfl,n,H,f⟩;have q:=X f;clear f;refine Halt.of ?_);unfold Halt;go_wp2;go_ret;refine⟨c,_,rfl,(X s).out,?_,?_⟩;·rw[q.out,<-asc,<-x];exact ownsRow_sorted (by simp) i B.out (by omega) D<|by grind
  ·rw[q.out];exact j.out.grown (grownBy_sorted _) j.out.size λL e=>by grind
attribute [local go_sem] Oper.semAt_some
theorem aeA{xs e}(h:xs.Perm e):gy xs=gy e:=by
 have:(xs.map (·.data.toList)).mergeSort λx y=>bP<|x<=y=(e.map (·.data.toList)).mergeSort λx y=>bP<|x<=y:=by
  have g:∀a b c:List UInt8,bP (a<=b)=Z->bP (b<=c)=Z->bP (a<=c)=Z:=λa b c j i=>by grind
  have f:∀a b:List UInt8,(bP (a<=b)||decide (b<=a))=Z:=λa b=>by grind
  exact SZ (le:=λa b=>bP (a<=b)=Z) λa b _ _ j i=>by grind (Nz g f _) (Nz g f _)<|((Kl _ _).trans<|h.map λx:ByteArray=>x.data.toList).trans (Kl _ _).symm
 grind[gy]
theorem Gi(xs):(gy xs).Perm xs:=by
 have:=(Kl (xs.map (·.data.toList)) λx y=>bP<|x<=y).map λl:List UInt8=>(⟨l.toArray⟩:ByteArray);rw[Ex]at this;have e:(xs.map<|(λl:List UInt8=>(⟨l.toArray⟩:ByteArray))∘λx=>x.data.toList)=xs:=by
  have:((λl:List UInt8=>(⟨l.toArray⟩:ByteArray))∘λx:ByteArray=>x.data.toList)=id:=by funext x;simp
  grind[List.map_id]
 rw[e]at this;exact this
theorem Bd{P}{gf:Nat}{fn}{c}(a:P.funcs[gf]?=U fn)(d:fn.body=U c)(b:fn.name≠ "runtime.NumGoroutine")(args)(w):(iJ gf args).run P w=aW (jO gf args) w:=by simp[iJ,go_sem,a,d,b]
theorem aiG(m)(L)(pfx)(w)(j:cI w m L)(p:L.length<=1073741824):bz Q 86 #[bW m,aE pfx] w λe k=>∃v,e=bj v/\k.ownsRow w 9 1 v (gy<|su L pfx).length ((gy<|su L pfx).map aE)/\aY w w k:=by have l:=j.lt;go_enter apI,ntmps86;have c:=aev 141 #[aF<|U w.heap.size,aF<|U ⟨w.heap.size+1,0,V⟩] _ _ ((w.alloc<|aH #[bW<|U m] 107).alloc<|aH #[pfx] 9) (Bd adR rfl<|by decide) (azk w (w+1) m L pfx _ (by go_simp) (by go_simp)<|(j.alloc _).alloc _) λb f=>by rcases f with rfl|rfl|rfl<;>simp<;>omega λn h=>bC (by rw[h.length_eq];exact bC (AE _ _)<|by simp) p;go_wp2_with(go_at_call 123;refine(X c).out.mono ?_;rintro e r⟨n,v,rfl,i,d,f⟩;have q:=gR.mk i d f);go_ret;obtain⟨i,d,f⟩:=q;refine⟨v,rfl,?_,(((dK _ _).alloc (aQ _) _).alloc (by simp) _).trans<|f.mono<|by simp;omega⟩;rw[aeA i,i.length_eq]at d;rw[Js];exact BP d λg o=>by have:=(d.lt g o).1;simp at this;omega
attribute [local go_sem] Oper.semAt_some
instance:Inhabited s:=⟨⟨⟨#[]⟩,⟨#[]⟩,0,0,⟨#[]⟩⟩⟩
def jg(L:List s)(k:ByteArray):s:=(lV L k).getD default
def ep(L:List s)(pfx:ByteArray):List s:=(gy<|su L pfx).map<|jg L
theorem aye{L}{pfx k}(b:k∈gy (su L pfx))(z):(look (es L) k).getD z=(jg L k).val:=by rw[Ni,jg];obtain⟨y,a,e⟩:=ki.1 (rX.1<|(Gi _).subset b).1;cases h:lV L k with|none=>exact absurd e<|by simpa using Zh.1 h y a|some y=>rfl
theorem acG(m)(pfx)(w):bz Q 52 #[bW<|U m,aE pfx] w λe a=>e=bj (dF (ei 85) #[] #[aF w,aF<|U ⟨w+1,0,V⟩])/\a=(w.alloc<|aH #[bW m] 107).alloc (aH #[pfx] 9):=by go_enter apT,ntmps52;go_wp2;go_ret;exact⟨rfl,rfl⟩
theorem acH(I bp m)(L)(pfx)(w)(Q2:w.cell? I=U (.map m))(C:w.cell? bp=U (.string pfx))(hB:cI w m L)(hL:L.length<=1073741824):Iter Q 85 #[.pointer<|U ⟨I,0,V⟩,.pointer<|U ⟨bp,0,V⟩] (λx=>#[x.val]) (λxs=>xs=ep L pfx) (λb=>b=I∨b=bp∨b=m) w:=by
 intro l J Jx W M hA hJ Ie hR hY Q0;have E:=hB.of_block (hA.block m<|by simp);have d:=(ew (w:=w)<|hA.block I<|by simp).trans Q2;have t:=(ew (w:=w)<|hA.block bp<|by simp).trans C;have lbb:=oU W _ d;have o:=aiG m L pfx W E hL;obtain⟨K,Q1⟩:=ex<|gy<|su L pfx;have S:ep L pfx=K.map (jg L):=by rw[ep,Q1]
 have f:∀k∈K,∀z,(look (es L) k).getD z=(jg L k).val:=by grind[aye]
 rw[<-Q1]at o;rw[S]at hY⊢;have HC:=X o;refine NB QM rfl trivial ?_;simp only[ntmps85,rW,oT,lF,vV,vU,tZ,tY,tX,tW,rV,oV];gi_wp2_with(gi_at_call 86;refine(callsIn_wide.2 HC.out).mono ?_;rintro e w1⟨v,rfl,ho,hb⟩;refine Halt.of ?_);have F:=hJ.st _ _ _ _ Q0<|(O.iH (F:=λ_=>False) hb).fJ λb AV=>⟨hJ.lt _ _ _ Q0 b AV,id⟩;have G:bS M W M w1:=.other<|O.iH hb;have Q3:=hJ.lt _ _ _ Q0;rcases ho.2 with⟨rfl,hn⟩|⟨g,cap,cur,rfl,hg,P,yf,zo,Ot,hn4⟩
 ·have hK0:=Cc hn;have HH:=cH.mk F G;subst hK0;unfold Halt;gi_wp2;gi_loopg[10]0λk s wr=>s=.int .i64 0∧wr=w1;case atStart=>grind
  case round=>obtain⟨rfl,rfl⟩:=hrel;gi_wp2;go_end0;exact⟨⟨_,rfl⟩,.inl ⟨_,M,rfl,HH.a,HH.b⟩⟩
 ·have sG:=(eX.1 P).1;have q:∀j(h:j<K.length),w1.cell? ⟨g,j,V⟩=U (.string K[j]):=λj h=>by have:=ho.cellAt j (by grind);grind
  have hKl:K.length<2^62:=by rw[Q1,Js];exact Nat.lt_of_le_of_lt (bC (AE _ _)<|by simpa using hL)<|by decide
  have HO:=gR.mk F G Q3;have HL:=X f;have N:=X q;have HY:=X hY;have HR:=X hR;have HB:=gR.mk E d t;clear Q1 S f ho hb F G HC hY hA hJ Ie hR Q0 hB E Q2 C d t Ot hn4 P q Q3;unfold Halt;gi_wp2;gi_loopg[10]K.lengthλk s wr=>∃(j:Nat)(D:Nat->Prop),k+j=K.length∧s=.int .i64 j∧w1.heap.size<=wr.heap.size∧wr.heap[g]?=w1.heap[g]?∧J ((K.take j).map<|jg L) wr D∧bS M W D wr∧¬D g;case atStart=>exact⟨0,M,by omega,rfl,aQ _,rfl,by simpa using HO.a,HO.b,λh=>by have:=HO.c _ h;omega⟩
  case round=>
   obtain⟨j,D,hk,rfl,a,A,hj,p,R⟩:=hrel;by_cases hjl:j<K.length
   ·have hx:=(ew (w:=w1) A).trans<|N.out j hjl;obtain⟨x,y⟩:=ex K[j];rw[<-y]at hx;have aJS:=(p.1.cell lbb λh=>HR.out I h<|by simp).trans HB.b;have HM:=X (HB.a.keep p.1 λh=>HR.out m h<|by simp);have sC:=X<|HL.out x<|y▸nC hjl;obtain⟨r,i⟩:∃r,(K.take j).map (jg L)++jg L x::r=K.map (jg L):=⟨(K.drop<|j+1).map<|jg L,by grind[List.getElem_cons_drop,List.take_append_drop]⟩;have u:(K.take j).map (jg L)++[jg L x]=(K.take<|j+1).map (jg L):=by grind[List.take_add_one]
    obtain⟨fn,tmps,assign,body,hy,B⟩:=HY.out ((K.take j).map<|jg L) (jg L x) wr D ⟨r,i⟩ hj;rw[u]at B;have Bo:=X B;have T:=uJ.mk p A a R;have Bn:=X i;have Cm:=hy;clear hy B p A hj i R a N HL y;gi_wp2_with(gi_at_lookup;refine adf _ iI rfl _ _ 107 rfl 9 46 Ak qP _ (Mm _) m (es L) x rfl HM.out rfl ?_;rw[sC.out]);refine Bo.out.mono ?_;rintro e W'(⟨rfl,D',n,c⟩|⟨rfl,D',n,c⟩)
    ·gi_wp2;gi_roundg(gk-1);case rel=>obtain⟨hL0,h1,h2,h3⟩:=kp T;obtain⟨n,c⟩:=(X<|aM n c).out;refine⟨j+1,D',by omega,by go_simp,bC h2 c.1.size,(c.1.block g (by omega) h3).trans h1,n,hL0.trans c,λh=>?_⟩;rcases c.2 _ h with h|h;all_goals grind
     grind
    ·have H:=cH.mk n c;gi_wp2;refine tV (results_none rfl _ _ _) rfl ?_;exact⟨⟨_,rfl⟩,.inr ⟨_,D',⟨r,by rw[<-u,jw];exact Bn.out⟩,H.a,T.a.trans H.b⟩⟩
   ·have kP:j=K.length:=by omega
    subst kP;have HF:=cH.mk hj p;gi_wp2;go_end0;exact⟨⟨_,rfl⟩,.inl ⟨_,D,rfl,by simpa using HF.a,HF.b⟩⟩
def gP(L:List s):Int:=L.foldr (λx n=>max n x.c) 0
theorem ab8(L):0<=gP L:=by induction L with|nil=>exact Int.le_refl 0|cons x l a=>exact Int.le_trans a<|ain _ _
theorem YO{L}{x}(h:x∈L):x.c<=gP L:=by induction L with|nil=>cases h|cons y l a=>
  rcases di.1 h with rfl|h;.exact Int.le_max_right _ _
  .exact Int.le_trans (a h)<|ain _ _
theorem amL(L):gP L=0\/∃x∈L,x.c=gP L:=by induction L with|nil=>exact ay rfl|cons y l a=>show max (gP l) y.c=0\/∃x∈y::l,x.c=max (gP l) y.c;grind
theorem aFd{L}{n}(d:0<=n)(e:∀x∈L,x.c<=n)(b:n=0\/∃x∈L,x.c=n):n=gP L:=by
 apply Int.le_antisymm
 .rcases b with rfl|⟨x,a,rfl⟩;.exact ab8 L
  .exact YO a
 grind[amL]
theorem aiT{L:List s}(h:(L.map (·.key)).Nodup){x y}(a:x∈L)(b:y∈L)(e:x.key=y.key):x=y:=by induction L with|nil=>cases a|cons z l c=>grind
theorem FG{G}{w d c}(h:aY w.heap.size w d)(k:O G d c)(e:∀x,x<w.heap.size->¬G x):aY w w c:=⟨k.os.trans h.os,k.tape.trans h.tape,k.output.trans h.output,bC h.size k.size,λb a=>(k.block b (cB a h.size)<|e b a).trans<|h.block b a⟩
theorem aFc(m)(L)(w)(G:cI w m L):bz Q 118 #[bW m] w λe w'=>e=bj (gP L)∧aY w w w':=by
 have Q0:=G.lt;obtain⟨o,R,t⟩:=MQ (P:=Q) (T:=107) iI Ak G;go_enter aqU,ntmps118;go_wp2;go_loopg[3]L.length(λk Q3 wr=>∃(d:List ByteArray)(n:Int),k+d.length=L.length∧Q3=n∧tj iI wr m w (es L) d∧d.Nodup∧(∀x∈d,x∈L.map (·.key))∧0<=n∧(∀x∈L,x.key∈d->x.c<=n)∧(n=0∨∃x∈L,x.c=n)∧aY w w wr);case atStart=>exact⟨[],0,by simp,rfl,(X t).out,by simp,by simp,Int.le_refl 0,by simp,ay rfl,(dK _ _).alloc (aQ _) _⟩
 case round=>
  obtain⟨d,n,c,rfl,t,u,q,A,C,E,g⟩:=hrel;have N:=FU.mk c u q A C E g;rcases MR (P:=Q) iI t (by omega) 0 with⟨B,j⟩|⟨x,v,Q2,AO,i,j,f,z,F⟩;·go_wp2;go_ret;obtain⟨-,-,-,b,h1,h2,hb⟩:=kp N;exact⟨by rw[<-aFd b (λx J=>h1 x J<|(X B).out (x.key,x.val)<|SX (f:=λx:s=>(x.key,x.val)) J) h2];rfl,hb⟩
  ·obtain⟨v',O,l⟩:=MS (P:=Q) iI f;obtain⟨⟨S,T,K,H,Q1⟩,I,e⟩:=ki.1 O;simp only[GS]at e;obtain⟨rfl,rfl⟩:=e;unfold s.val at l;obtain⟨x,p⟩:=ex<|s.key ⟨S,T,K,H,Q1⟩;rw[<-p]at j l i f;replace j:(zJ (aF<|U w.heap.size) ai 0).run Q wr=aW (bQ #[Z,x,v]) Q2:=j;replace l:(CZ<|aF<|U w.heap.size).run Q Q2=aW (bQ #[x,bO #[S,T,K,H,Q1]]) Q2:=l;have D:x∈L.map (·.key):=by grind
   have r:d.length<L.length:=by have:=(Cg.2 ⟨i,u⟩).length_le_of_subset (l₂:=L.map (·.key)) (λa ha=>by grind);grind
   have W:=FT.mk r D I i f z F p;go_wp2;go_roundg(gk-1);case rel=>
    obtain⟨c,u,q,A,C,E,g⟩:=kp N;obtain⟨r,D,I,i,f,z,F,p⟩:=kp W;refine⟨d++[x],max n K,by grind,rfl,f.JX (dr _ _ _ f.map.lt)<|dr _ _ _ f.lt,?_,?_,?_,?_,?_,?_⟩;·grind
    ·grind
    ·grind
    ·intro y M P;rcases rY.1 P with h|h;·grind
     ·have:=aiT (X G.nodup).out M I<|(mu.1 h).trans p;grind
    ·grind
    ·exact(FG g z λx J e=>by omega).alloc (by have:=g.size;omega) _
   case measure=>have:=N.a;have:=W.a;omega
attribute [local go_sem] Oper.semAt_some
theorem ak9{L}(h:(L.map (·.key)).Nodup){y}(a:y∈L):jg L y.key=y:=by unfold jg lV;cases b:L.find? λz=>bP<|z.key=y.key with|none=>grind|some z=>grind[List.mem_of_find?_eq_some,aiT]
theorem ak8{L:List s}(h:(L.map (·.key)).Nodup):(L.map (·.key)).map (jg L)=L:=by
 rw[Ex];have:∀y∈L,(jg L∘λx:s=>x.key) y=id y:=by grind[ak9]
 rw[Ke this,aio]
theorem ax0(z m)(es)(Q1:(es.map (·.1)).Nodup)(w)(Q0:w.cell? z=U (.map m))(hB:cU iI w m es):Iter Q 187 #[.pointer<|U ⟨z,0,V⟩] (λk=>#[.string k]) (λks=>ks.Perm (es.map (·.1))) (λb=>b=z∨b=m) w:=by
 intro l J Jx W D0 hA M Ie hR hY h0;have H:=hB.of_block (hA.block m<|by simp);have aaZ:=(ew (w:=w)<|hA.block z<|by simp).trans Q0;obtain⟨o,Oe,n⟩:=MQ (P:=Q) (T:=208) iI Wh H;have lm:=H.lt;have zB:=Q1;refine NB adM rfl trivial ?_;simp only[ntmps187,rW,oT,lF,vV,vU,tZ,tY,tX,tW,rV,oV];gi_wp2;gi_loopg[3]es.length(λk _ wr=>∃(d:List ByteArray)(D:Nat->Prop),k+d.length=es.length∧tj iI wr m W.heap.size es d∧d.Nodup∧(∀x∈d,x∈es.map (·.1))∧J d wr D∧bS D0 W D wr∧¬D W.heap.size);case atStart=>have r:=M.lt _ _ _ h0;refine⟨[],D0,by simp,n,by simp,by simp,M.st _ _ _ _ h0<|(O.alloc (λ_=>False) _ _).fJ λb t=>⟨r b t,id⟩,.other<|O.alloc _ _ _,λh=>absurd (r _ h)<|by omega⟩
 case round=>
  obtain⟨d,D,hk,n,B,L,hj,T,I⟩:=hrel;have Ih:∀b,b=z∨b=m->b<W->¬D b:=λb t r hD=>by rcases T.2 b hD with h|h;all_goals grind
  have QW:m≠W:=by omega
  have aad:=n.lt;have HN:=X zB;have HL:=X T;have HJ:=X hj;have HY:=X hY;have Q2:=X L;have R:=X B;have HK:=X hk;rcases MR (P:=Q) iI n QW 0 with⟨G,q⟩|⟨x,v,P,AO,j,q,f,E,vE⟩;·have HA:=X G;gi_wp2;go_end0;refine⟨⟨_,rfl⟩,.inl ⟨_,D,?_,HJ.out,HL.out⟩⟩;exact(Kn R.out HN.out).2 λa=>⟨Q2.out a,λp=>by obtain⟨y,S,rfl⟩:=ki.1 p;exact HA.out y S⟩
  ·obtain⟨v',zk,u⟩:=MS (P:=Q) iI f;replace q:(zJ (.pointer<|U ⟨W.heap.size,0,V⟩) ai 0).run Q wr=.ok (.tuple #[.bool Z,.string x,v]) P:=q;replace u:(CZ<|.pointer<|U ⟨W.heap.size,0,V⟩).run Q P=.ok (.tuple #[.string x,v']) P:=u;have K:x∈es.map (·.1):=by grind
   have hlen:d.length<es.length:=by have:=(Cg.2 ⟨j,B⟩).length_le_of_subset (l₂:=es.map (·.1)) (λa p=>by grind);grind
   have vI:=M.st _ _ _ _ hj<|E.fJ λb t=>⟨M.lt _ _ _ hj b t,λe=>I<|e▸t⟩;have O2:=T.step E (λb t e=>by omega);have HX:=X (⟨K,j⟩:x∈es.map (·.1)∧x∉d);have A:=X O2;obtain⟨F,i⟩:=Sd (λ_=>Z) HN.out R.out Q2.out K j rfl;rw[AD.2<|by simp,AD.2<|by simp]at i;obtain⟨fn,tmps,N,body,S,c⟩:=HY.out d x P D ⟨F,i⟩ vI;have HR:=X c;have Bn:=X i;have Cm:=S;gi_wp2;refine HR.out.mono ?_;rintro e W'(⟨rfl,Q3,s,g⟩|⟨rfl,Q3,s,g⟩)
   ·gi_wp2;gi_roundg(gk-1);case rel=>
     have C:=f.JX (g.1.block _ f.map.lt<|Ih m (by simp) lm)<|g.1.block _ f.lt I;refine⟨d++[x],Q3,by have:=HK.out;grind,C,?_,?_,s,A.out.trans g,?_⟩;·rw[Ew];exact⟨R.out,by simp,λa p b t e=>HX.out.2<|by grind⟩
     ·intro a p;rcases rY.1 p with p|p;·exact Q2.out a p
      ·rw[mu.1 p];exact HX.out.1
     ·intro h;rcases g.2 _ h with h|h;·grind
      ·have:=f.lt;omega
    case measure=>have:=HK.out;omega
   ·gi_wp2;refine tV (results_none rfl _ _ _) rfl ?_;exact⟨⟨_,rfl⟩,.inr ⟨_,Q3,⟨F,by rw[jw];exact Bn.out⟩,s,A.out.trans g⟩⟩
theorem axY(K m)(L)(w)(E4:w.cell? K=U (.map m))(hB:cI w m L):Iter Q 184 #[.pointer<|U ⟨K,0,V⟩] (λx=>#[x.val]) (λxs=>xs.Perm L) (λb=>b=K∨b=m) w:=by
 intro l J Jx W D0 hA H Ie hR hY h0;have Q1:=cU.of_block hB (hA.block m<|by simp);have aaZ:=(ew (w:=w)<|hA.block K<|by simp).trans E4;obtain⟨o,Oe,Q3⟩:=MQ (P:=Q) (T:=107) iI Ak Q1;have lm:=Q1.lt;have r:=hB.nodup;refine NB adN rfl trivial ?_;simp only[ntmps184,rW,oT,lF,vV,vU,tZ,tY,tX,tW,rV,oV];gi_wp2;gi_loopg[4]L.length(λk _ wr=>∃(f:List ByteArray)(D:Nat->Prop),k+f.length=L.length∧tj iI wr m W.heap.size (es L) f∧f.Nodup∧(∀x∈f,x∈L.map (·.key))∧J (f.map<|jg L) wr D∧bS D0 W D wr∧¬D W.heap.size);case atStart=>have E:=H.lt _ _ _ h0;refine⟨[],D0,by simp,Q3,by simp,by simp,H.st _ _ _ _ h0<|(O.alloc (λ_=>False) _ _).fJ λb q=>⟨E b q,id⟩,.other<|O.alloc _ _ _,λh=>absurd (E _ h)<|by omega⟩
 case round=>
  obtain⟨f,D,hk,Q3,M,aAs,hj,hL,Q0⟩:=hrel;have Ih:∀b,b=K∨b=m->b<W->¬D b:=λb q E hD=>by rcases hL.2 b hD with h|h;all_goals grind
  have jH:m≠W:=by omega
  have aad:=Q3.lt;have HN:=X r;have HL:=X hL;have HJ:=X hj;have HY:=X hY;have HS:=X aAs;have HD:=X M;have HK:=X hk;rcases MR (P:=Q) iI Q3 jH 0 with⟨R,C⟩|⟨x,v,w2,AO,n,C,g,QW,vE⟩;·have HA:=X R;gi_wp2;go_end0;refine⟨⟨_,rfl⟩,.inl ⟨_,D,?_,HJ.out,HL.out⟩⟩;have hp:=(Kn HD.out HN.out).2 λa=>⟨HS.out a,λu=>by obtain⟨y,hy,rfl⟩:=ki.1 u;exact HA.out (y.key,y.val)<|SX (f:=λx:s=>(x.key,x.val)) hy⟩;have:=hp.map<|jg L;rwa[ak8 HN.out]at this
  ·obtain⟨v',zk,F⟩:=MS (P:=Q) iI g;replace C:(zJ (.pointer<|U ⟨W.heap.size,0,V⟩) ai 0).run Q wr=.ok (.tuple #[.bool Z,.string x,v]) w2:=C;replace F:(CZ<|.pointer<|U ⟨W.heap.size,0,V⟩).run Q w2=.ok (.tuple #[.string x,v']) w2:=F;obtain⟨y,hyL,hye⟩:=ki.1 zk;simp only[GS]at hye;obtain⟨rfl,rfl⟩:=hye;have hgk:=ak9 r hyL;have d:y.key∈L.map (·.key):=by grind
   have hlen:f.length<L.length:=by have:=(Cg.2 ⟨n,M⟩).length_le_of_subset (l₂:=L.map (·.key)) (λa u=>by grind);grind
   have vI:=H.st _ _ _ _ hj<|QW.fJ λb q=>⟨H.lt _ _ _ hj b q,λe=>Q0<|e▸q⟩;have O2:=hL.step QW (λb q e=>by omega);have HX:=X (⟨d,n⟩:y.key∈L.map (·.key)∧y.key∉f);obtain⟨P,A⟩:=Sd (λ_=>Z) HN.out HD.out HS.out d n rfl;rw[AD.2<|by simp,AD.2<|by simp]at A;have p:(f.map (jg L)++y::P.map (jg L)).Perm L:=by have:=A.map<|jg L;grind[ak8]
   have B:(f++[y.key]).map (jg L)=f.map (jg L)++[y]:=by grind
   obtain⟨I,T⟩:=ex<|w2.alloc<|.cells #[.string y.name,.string y.field,.int .i64 y.c,.int .i64 y.r,.string y.value] 46;have z:O (λ_=>False) w2 I:=by grind[O.alloc]
   have hj3:=H.st _ _ _ _ vI<|z.fJ λb q=>⟨H.lt _ _ _ vI b q,λh=>h⟩;have hL3:=O2.step z λb q e=>e.elim;have aCt:=g.JX (z.block _ g.map.lt id)<|z.block _ g.lt id;obtain⟨fn,S,t,body,hy,c⟩:=HY.out (f.map<|jg L) y I D ⟨_,p⟩ hj3;rw[<-B]at c;have HR:=X c;have Bn:=cH.mk p B;have Q2:=X hL3;have i:=X aCt;have HW3:=X T;have Cm:(Instr.yield l #[.agg #[y.name,y.field,y.c,y.r,y.value]]).run Q I=.ok (.round l fn S t body) I:=hy;unfold s.val at F;rw[T]at Cm;gi_wp2;rw[<-HW3.out];refine HR.out.mono ?_;rintro e W'(⟨rfl,D',G,j⟩|⟨rfl,D',G,j⟩)
   ·gi_wp2;gi_roundg(gk-1);case rel=>
     have N:=i.out.JX (j.1.block _ i.out.map.lt<|Ih m (by simp) lm)<|j.1.block _ i.out.lt Q0;refine⟨f++[y.key],D',by have:=HK.out;grind,N,?_,?_,G,Q2.out.trans j,?_⟩;·rw[Ew];exact⟨HD.out,by simp,λa u b q e=>HX.out.2<|by grind⟩
     ·intro a u;rcases rY.1 u with u|u;·exact HS.out a u
      ·rw[mu.1 u];exact HX.out.1
     ·intro h;rcases j.2 _ h with h|h;·grind
      ·have:=i.out.lt;omega
    case measure=>have:=HK.out;omega
   ·gi_wp2;refine tV (results_none rfl _ _ _) rfl ?_;exact⟨⟨_,rfl⟩,.inr ⟨_,D',⟨P.map<|jg L,by rw[Bn.b,jw];exact Bn.a⟩,G,Q2.out.trans j⟩⟩
attribute [local go_sem] Oper.semAt_some
def aGO{α:Type}(P:bZ)(gf:Nat)(lb:Array az)(Fj:α->Array az)(S:List α->Prop)(R:Nat->Prop)(W0:ax):Prop:=∀(E:Nat)(cl:Array az)(J V:List α->ax->(Nat->Prop)->Prop)(W:ax)(D0:Nat->Prop),(∀args w,(iJ E args).run P w=aW (jO E args) w)->Ml R W0 W->qM J->qM V->(∀b,D0 b->¬R b)->(∀(pre:List α)(x:α)(W1:ax)(A:Nat->Prop),(∃U,S<|pre++x::U)->J pre W1 A->CallsIn Bb 0 P E (Fj x++cl) W1 λe W'=>(e=bj (cx Z)/\∃D',J (pre++[x]) W' D'/\bS A W1 D' W')\/e=bj (cx ai)/\∃D',V (pre++[x]) W' D'/\bS A W1 D' W')->J [] W D0->CallsIn Bb 0 P gf (#[dF (ei E) #[] cl]++lb) W λe W'=>(∃v,e=bj v)/\((∃xs D',S xs/\J xs W' D'/\bS D0 W D' W')\/∃pre D',(∃U,S<|pre++U)/\V pre W' D'/\bS D0 W D' W')
attribute [local go_sem] Oper.semAt_some
structure nS(m:Nat)(L:List s)(w0 W:ax):Prop where
 book:cI W m L
 below:aY w0.heap.size w0 W
 lt:m<w0.heap.size
theorem anN{m}{L}{w0 W}:nS m L w0 W.drew↔nS m L w0 W:=⟨λh=>⟨h.1.of_block rfl,⟨h.below.os,h.below.tape,h.below.output,h.below.size,h.below.block⟩,h.lt⟩,λh=>⟨h.1.of_block rfl,⟨h.below.os,h.below.tape,h.below.output,h.below.size,h.below.block⟩,h.lt⟩⟩
theorem nS.alloc{m}{L}{w0 W}(h:nS m L w0 W)(o):nS m L w0<|W.alloc o:=⟨h.1.alloc o,h.below.alloc h.below.size o,h.lt⟩
theorem nS.later{m}{L}{w0 W W'}(h:nS m L w0 W)(a:aY W W W'):nS m L w0 W':=⟨h.1.below a,h.below.trans<|a.mono h.below.size,h.lt⟩
theorem nS.setCell{m}{L}{w0 W}(h:nS m L w0 W)(a)(v)(e:w0.heap.size<=a.block):nS m L w0<|W.setCell a v:=⟨h.1.of_block<|gJ _ _ _ _<|by have:=h.lt;omega,⟨h.below.os,h.below.tape,h.below.output,by simpa[jL]using h.below.size,λb d=>(gJ _ _ _ _<|by omega).trans<|h.below.block b d⟩,h.lt⟩
set_option maxHeartbeats 16000000 in
attribute[local simp]anN in
theorem auq(m)(L)(n)(w)(S:cI w m L)(hn:n.size<=4096):bz Q 68 #[bW m,aE n] w λe D=>∃O R,e=bj (dF (ei 120) #[] #[aF w,aF<|U ⟨w+1,0,V⟩,aF<|U ⟨R,0,V⟩,aF<|U ⟨O,0,V⟩])/\w+1<O/\w+1<R/\O≠R/\D.cell? w=U (bW m)/\D.cell? ⟨w+1,0,V⟩=U (aE n)/\D.cell? R=U (cx (lV L<|iN n ⟨#[]⟩).isSome)/\D.cell? ⟨O,2,V⟩=U (Y aG ((lV L<|iN n ⟨#[]⟩).getD default).c)/\D.cell? ⟨O,3,V⟩=U (Y aG ((lV L<|iN n ⟨#[]⟩).getD default).r)/\aY w w D:=by
 have T:=S.lt;obtain⟨K,Q2⟩:=ex<|iN n ⟨#[]⟩;rw[<-Q2];obtain⟨f,g⟩:=ex<|(w.alloc<|aH #[bW<|U m] 107).alloc<|aH #[aE n] 9;obtain⟨a,b,c,r,v,u,hc,hr⟩:∃a b c r v,(look (es L) K).getD (bO #[aE ⟨#[]⟩,aE ⟨#[]⟩,Y aG 0,Y aG 0,aE ⟨#[]⟩])=bO #[aE a,aE b,Y aG c,Y aG r,aE v]/\c=((lV L K).getD default).c/\r=((lV L K).getD default).r:=by rw[Ni];cases h:lV L K with|none=>exact⟨_,_,_,_,_,rfl,rfl,rfl⟩|some y=>exact⟨_,_,_,_,_,rfl,rfl,rfl⟩
 have i:(look (es L) K).isSome=(lV L K).isSome:=by grind[Ni]
 rw[<-hc,<-hr,<-i];obtain⟨G,l⟩:=ex (look (es L) K).isSome;rw[<-l];have A:∀W,nS m L f W->(Px 107 (bW m) K Z).run Q W=aW (bQ #[bO #[a,b,c,r,v],G]) W:=λW t=>by have:=Rz (P:=Q) (T:=107) iI Ak qP t.1 (Mm W) K Z;rw[u,<-l]at this;exact this
 have h0:nS m L f f:=by rw[g];exact⟨(S.alloc _).alloc _,dK _ _,by simp;omega⟩
 have M:f.cell? w=U (bW m):=by rw[g];go_simp
 have N:f.cell? ⟨w+1,0,V⟩=U (aE n):=by rw[g];go_simp
 have C:f.heap.size=w+2:=by rw[g];simp
 have J:∀W,nS m L f W->W.cell? w=U (bW m):=λW t=>(t.below.cell (p:=⟨_,_,V⟩)<|by grind).trans M;have P:∀W,nS m L f W->W.cell? ⟨w+1,0,V⟩=U (aE n):=λW t=>(t.below.cell (p:=⟨_,_,V⟩)<|by grind).trans N;have z:∀W,nS m L f W->bz Q 119 #[bO #[n,aE ⟨#[]⟩,Y aG 0,Y aG 0,aE ⟨#[]⟩]] W λe H=>e=bj K/\nS m L f H/\(∀b o,b<W.heap.size->H.cell? ⟨b,o,V⟩=W.cell? ⟨b,o,V⟩)/\(∀b o,b<W.heap.size->H.frozen? ⟨b,o,V⟩=W.frozen? ⟨b,o,V⟩)/\(∀b,b<W.heap.size->b<H)/\f.heap.size<=H:=λW t=>(Tl n ⟨#[]⟩ ⟨#[]⟩ 0 0 W hn<|by decide).mono λe H h=>⟨Q2▸h.1,t.later h.2,(Dh h.2).1,(Dh h.2).2,λb hb=>cB hb h.2.size,(t.later h.2).below.size⟩;have x:=X z;have HW:=cH.mk C (show aY w.heap.size w f by rw[g];exact((dK _ _).alloc (aQ _) _).alloc (by simp) _);go_enter apN,ntmps68;go_wp2;rw[<-g];clear z Q2 u hc hr i l g S C M N hn T;go_region_held3λW=>nS m L f W(with_reducible(((try rw[anN]);(repeat(first|assumption|refine nS.alloc ?_ _|(refine nS.setCell ?_ _ _<|by grind))))))((first|(go_at_call 119;refine jm (x.out _ ?hw) ?_;(case hw=>grind);rintro e D⟨rfl,hl,I,k,QW,hz⟩)));all_goals
  rename_i j;obtain⟨Q1,E,B⟩:∃Q1,nS m L f Q1/\Q1=_:=⟨_,j,rfl⟩;rw[<-B];have C:=HW.a;have Q3:=X<|J _ E;have zC:=X<|P _ E;have d:=X (HW.b.trans<|E.below.mono<|by grind);have s:=X<|QW f.heap.size;have F:=X B;have Q0:=cH.mk I k;clear J P A x h0 j QW B I k;go_wp2;go_ret;refine⟨_,_,rfl,?_,?_,?_,Q3.out,zC.out,?_,?_,?_,d.out⟩;.grind
  .grind
  .have p:=s.out;grind[World.size_alloc,World.heap_drewN,heap_drew]
  .have q:=F.out;obtain⟨I,k⟩:=kp Q0;have p:=s.out;simp only[vt,Zg]at p;rw[q];first|(go_simp;done)|(have q2:=p (by omega);rw[wR _ _ _<|by simp[jL];omega];go_simp)
  .have q:=F.out;obtain⟨I,k⟩:=kp Q0;have p:=s.out;simp only[vt,Zg]at p;rw[q];first|(go_simp;done)|(have q2:=p (by omega);rw[wR _ _ _<|by simp[jL];omega];go_simp)
  .have q:=F.out;obtain⟨I,k⟩:=Q0;have p:=s.out;simp only[vt,Zg]at p;rw[q];first|(go_simp;done)|(have q2:=p (by omega);rw[wR _ _ _<|by simp[jL];omega];go_simp)
end
section
theorem aez{xs}(h:xs.Nodup):zX<|gy xs:=by
 have l:=Gi xs;have e:(gy xs).Nodup:=by grind
 have f:∀a b c:List UInt8,bP (a<=b)=Z->bP (b<=c)=Z->bP (a<=c)=Z:=λa b c g j=>by grind
 have i:∀a b:List UInt8,(bP (a<=b)||decide (b<=a))=Z:=λa b=>by grind
 have k:=Nz f i (xs.map (·.data.toList));have d:(gy xs).Pairwise λa b=>¬bl b<bl a:=by grind[gy]
 refine(List.Pairwise.and d e).imp λ{a b}⟨g,j⟩=>?_;simp only[lO,eU];by_cases h:bl a<bl b;all_goals grind[zR,List.le_antisymm,List.not_lt]
theorem Bk.below{L l}(h:Bk L l)(pfx):ep L pfx=l.filter λx=>preB pfx x.key:=by
 have m:gy (su L pfx)=(l.filter λx=>preB pfx x.key).map (·.key):=by
  refine zX.unique (aez<|h.nodup.filter _) ?_ λn=>?_;·refine NC.2 ?_;refine Zm (λ{a b}o p g=>?_)<|h.sorted.filter _;simp only[lO,eU];exact(aiI (h.nL a (rX.1 o).1)<|h.nL b (rX.1 p).1).2 g
  ·rw[(Gi _).mem_iff];unfold su;rw[rX];simp only[ki,rX];constructor;·rintro⟨⟨y,f,rfl⟩,i⟩;exact⟨y,⟨h.perm.subset f,i⟩,rfl⟩
   ·rintro⟨y,⟨f,i⟩,rfl⟩;exact⟨⟨y,h.perm.symm.subset f,rfl⟩,i⟩
 unfold ep;rw[m,Ex];have:∀y∈l.filter λx=>preB pfx x.key,(jg L∘λx:s=>x.key) y=id y:=λy f=>by have d:=(rX.1 f).1;show jg L y.key=y;unfold jg lV;cases k:L.find? λz=>bP<|z.key=y.key with|none=>exact absurd rfl<|abA k y<|h.perm.symm.subset d|some z=>have j:=Io k;have e:=h.perm.subset j.1;exact h.sorted.inj e d<|(sameKey_iff (h.nL z e)<|h.nL y d).2 j.2
 rw[Ke this,aio]
theorem Bk.gone{L l}(h:Bk L l)(n):lV L (iN n ⟨#[]⟩)=Uv l n:=by
 unfold lV Uv;rw[h.find];have e:∀q:List s,(∀x∈q,Good x)->q.find? λy=>bP<|y.key=iN n ⟨#[]⟩=q.find? λy=>sameKey y ⟨n,⟨#[]⟩,0,0,⟨#[]⟩⟩:=λq a=>by induction q with|nil=>rfl|cons y q b=>
   have c:bP (y.key=iN n ⟨#[]⟩)=sameKey y ⟨n,⟨#[]⟩,0,0,⟨#[]⟩⟩:=by rw[AF,eU,azl<|a y<|by simp];simp[sameKey]
   grind
 exact e l h.nL
def afi(L:List s)(n:ByteArray)(x:s):Bool:=!(bP (x.field=⟨#[]⟩)||(lV L<|iN n ⟨#[]⟩).isSome&&!wN x.c x.r ((lV L<|iN n ⟨#[]⟩).getD default).c ((lV L<|iN n ⟨#[]⟩).getD default).r)
def jC(L:List s)(n:ByteArray):List s:=(ep L<|n++⟨#[46]⟩).filter<|afi L n
theorem Bk.shown{L l}(h:Bk L l)(n):jC L n=qD l n:=by
 unfold jC qD;rw[h.below,List.filter_filter];refine List.filter_congr λx b=>?_;have c:preB (n++⟨#[46]⟩) x.key=bP (x.name=n):=by rw[AF,preB,Iz,List.isPrefixOf_iff_prefix,eU];have:=aiL (h.nL x b) n;rw[<-this];simp[bl]
 rw[c];unfold afi JF;rw[h.gone];grind
theorem Bk.clock{L l}(h:Bk L l):gP L=gP l:=by unfold gP;exact h.perm.foldr_eq' λx _ y _ z=>by omega 0
theorem Bk.names{L l}(h:Bk L l)(pfx){xs}(f:xs.Nodup)(g:∀n,n∈xs↔∃y∈L,y.name=n):(gy xs).filter (λn=>preB pfx n&&!(jC L n).isEmpty)=J1 l pfx:=by
 refine zX.unique (aip _<|aez f) (axr h.sorted pfx) λn=>?_;rw[rX,axs h.sorted,(Gi xs).mem_iff,g,h.shown];simp only[cG,preB,Iz,Ks,Zl];constructor;.grind
 .rintro⟨d,c⟩;obtain⟨y,e⟩:=Cf _ c;obtain⟨b,a⟩:=rX.1 e;simp only[JF,cG,eU]at a;exact⟨⟨y,h.perm.symm.subset b,a.1.1⟩,d,c⟩
end
section
open Go.RowKit
abbrev fx(w:ax):Prop:=zI Q w "internal/strconv.uint64pow10" cP ab0
theorem Gb:Q.globalNamed "internal/strconv.uint64pow10"=U 3:=by kernel_rfl
theorem fx.of_block{w w'}(h:fx w)(a:w'.heap[3]?=w.heap[3]?):fx w':=by unfold fx zI World.var? at h⊢;grind[Gb]
theorem fx.lt{w}(h:fx w):3<w.heap.size:=by unfold fx zI World.var? at h;grind[Gb,Nat.lt_or_ge,Array.getElem?_eq_none]
theorem fx.keep{F}{w w'}(h:fx w)(b:O F w w')(a:¬F 3):fx w':=h.of_block<|b.block 3 h.lt a
theorem fx.below{N}{w w'}(h:fx w)(a:aY N w w')(b:w<=N):fx w':=h.of_block<|a.block 3<|cB h.lt b
def Mh(w0 W:ax):Prop:=aY w0.heap.size w0 W
theorem aGN(w0 W):Mh w0 W.drew↔Mh w0 W:=⟨λh=>⟨h.os,h.tape,h.output,h.size,h.block⟩,λh=>⟨h.os,h.tape,h.output,h.size,h.block⟩⟩
def AI(n:Int):ByteArray:=⟨(Lib.itoa n).toArray⟩
def ij(n:Int):Prop:=-9223372036854775808<=n/\n<=9223372036854775807
theorem azt(n)(h:ij n)(w)(c:fx w):bz Q 140 #[n] w λe a=>e=bj (AI n)/\aY w w a:=by refine(apo n h.1 h.2 w c).mono ?_;rintro e a⟨rfl,k,f,rfl⟩;refine⟨rfl,rfl,rfl,rfl,by simp[Sort.grow],λb d=>?_⟩;rw[Sort.heap_grow_old _ _<|by simpa using d];rfl
theorem Kz(n)(h:ij n):(AI n).size<=21:=by simpa[AI,ByteArray.size]using Lib.itoa_length_le n h.1 h.2
def Em(x:s):ByteArray:=x.name++⟨#[46]⟩++x.field++⟨#[32]⟩++AI x.c++⟨#[32]⟩++AI x.r++⟨#[32]⟩++AI x.value.size++⟨#[32]⟩++x.value++⟨#[10]⟩
attribute [local simp] aGN in
theorem ayo (n f v) (c r) (w) (I:fx w) (Q3:n.size<=4096) (hf:f.size<=4096) (R:v.size<=4096) (F:ij c) (C:ij r):
  bz Q 84 #[bO #[aE n,aE f,c,r,aE v]] w λe l=>e=bj ((Em ⟨n,f,c,r,v⟩))∧aY w w l:=by
 have y:ij v.size:=by constructor<;>omega
 obtain⟨a,m⟩:∃s,AI c=s:=⟨_,rfl⟩;obtain⟨b,p⟩:∃s,AI r=s:=⟨_,rfl⟩;obtain⟨d,t⟩:∃s,AI v.size=s:=⟨_,rfl⟩;have X:a.size<=21:=by grind[Kz]
 have z2:b.size<=21:=by grind[Kz]
 have z3:d.size<=21:=by grind[Kz]
 have g:∀W,Mh (w.alloc (aH #[n,f,c,r,v] 46)) W->∀k s,ij k->AI k=s->bz Q 140 #[k] W λe q=>e=bj (s)∧
   (∀o,q.cell? ⟨w,o,V⟩=W.cell? ⟨w,o,V⟩)∧Mh (w.alloc (aH #[n,f,c,r,v] 46)) q:=λW j k s J Q2=>
  (azt k J W ((I.keep (O.alloc (λ_=>False) _ _) id).below j (Nat.le_refl _))).mono λe q h=>⟨by grind,λo=>(Dh h.2).1 _ _ (Nat.lt_of_lt_of_le (by simp) j.size),j.trans (h.2.mono j.size)⟩
 have x:=Lib.hid g;have K:Mh (w.alloc (aH #[n,f,c,r,v] 46)) (w.alloc (aH #[n,f,c,r,v] 46)):=Below.refl _ _;have i:=gR.mk m p t;have u:=gR.mk F C y;have M:¬((9223372036854775807:Nat)<n.size+1):=by omega
 have T:¬((9223372036854775807:Int)<(n.size:Int)+1+(f.size:Int)):=by omega
 have j3:¬((9223372036854775807:Nat)<n.size+1+f.size):=by omega
 have P:¬((9223372036854775807:Int)<(n.size:Int)+1+(f.size:Int)+1):=by omega
 have N:¬((9223372036854775807:Nat)<n.size+1+f.size+1):=by omega
 have k5:¬((9223372036854775807:Int)<(n.size:Int)+1+(f.size:Int)+1+(a.size:Int)):=by omega
 have Q1:¬((9223372036854775807:Nat)<n.size+1+f.size+1+a.size):=by omega
 have QX:¬((9223372036854775807:Int)<(n.size:Int)+1+(f.size:Int)+1+(a.size:Int)+1):=by omega
 have j6:¬((9223372036854775807:Nat)<n.size+1+f.size+1+a.size+1):=by omega
 have S:¬((9223372036854775807:Int)<(n.size:Int)+1+(f.size:Int)+1+(a.size:Int)+1+(b.size:Int)):=by omega
 have QW:¬((9223372036854775807:Nat)<n.size+1+f.size+1+a.size+1+b.size):=by omega
 have Q0:¬((9223372036854775807:Int)<(n.size:Int)+1+(f.size:Int)+1+(a.size:Int)+1+(b.size:Int)+1):=by omega
 have j8:¬((9223372036854775807:Nat)<n.size+1+f.size+1+a.size+1+b.size+1):=by omega
 have k9:¬((9223372036854775807:Int)<(n.size:Int)+1+(f.size:Int)+1+(a.size:Int)+1+(b.size:Int)+1+(d.size:Int)):=by omega
 have j9:¬((9223372036854775807:Nat)<n.size+1+f.size+1+a.size+1+b.size+1+d.size):=by omega
 have L:¬((9223372036854775807:Int)<(n.size:Int)+1+(f.size:Int)+1+(a.size:Int)+1+(b.size:Int)+1+(d.size:Int)+1):=by omega
 have G:¬((9223372036854775807:Nat)<n.size+1+f.size+1+a.size+1+b.size+1+d.size+1):=by omega
 have E:¬((9223372036854775807:Int)<(n.size:Int)+1+(f.size:Int)+1+(a.size:Int)+1+(b.size:Int)+1+(d.size:Int)+1+(v.size:Int)):=by omega
 have B:¬((9223372036854775807:Nat)<n.size+1+f.size+1+a.size+1+b.size+1+d.size+1+v.size):=by omega
 have D:¬((9223372036854775807:Int)<(n.size:Int)+1+(f.size:Int)+1+(a.size:Int)+1+(b.size:Int)+1+(d.size:Int)+1+(v.size:Int)+1):=by omega
 have H:¬((9223372036854775807:Nat)<n.size+1+f.size+1+a.size+1+b.size+1+d.size+1+v.size+1):=by omega
 go_enter apJ,ntmps84;go_wp2
 go_region_held3 (λW=>W.cell? ⟨w.heap.size,0,V⟩=U (aE n)∧W.cell? ⟨w.heap.size,1,V⟩=U (aE f)∧W.cell? ⟨w.heap.size,2,V⟩=U (Y aG c)∧W.cell? ⟨w.heap.size,3,V⟩=U (Y aG r)∧W.cell? ⟨w.heap.size,4,V⟩=U (aE v)∧Mh (w.alloc (aH #[aE n,aE f,Y aG c,Y aG r,aE v] 46)) W)
  (go_keep)
  ((first
   |(go_at_call 140;refine(x.out _ ?hw c a u.a i.a).mono ?_;(case hw=>grind);rintro e l ⟨rfl,z,A⟩)
   |(go_at_call 140;refine(x.out _ ?hw r b u.b i.b).mono ?_;(case hw=>grind);rintro e l ⟨rfl,z,A⟩)
   |(go_at_call 140;refine(x.out _ ?hw v.size d u.c i.c).mono ?_;(case hw=>grind);rintro e l ⟨rfl,z,A⟩)))
 go_wp2;go_ret;refine⟨?_,((Below.refl _ _).alloc (Nat.le_refl _) _).trans (Below.mono (by assumption) (by simp))⟩
 rw[Em,i.a,i.b,i.c];rfl
attribute [local go_sem] Oper.semAt_some
theorem aE3(w)(s):∃a o,(convert 9 79<|aE s).run Q w=aW (aC w s.size a) (w.drew.alloc o)/\∀j(h),(w.drew.alloc o).cell? ⟨w,j,V⟩=U (Y aq s.data[j].toNat):=by refine⟨_,_,run_bytes_of_string w 9 79 5 s qP tB yF,λj b=>?_⟩;rw[show w.heap.size=w.drew from rfl,World.cell?_alloc_mark];grind[bytesRow_at]
structure Fit(x:s):Prop where
 name:x.name.size<=4096
 field:x.field.size<=4096
 value:x.value.size<=4096
 c:ij x.c
 r:ij x.r
theorem ayp{x}(h:Fit x):(Em x).size<=20000:=by have:=Kz _ h.c;have:=Kz _ h.r;have:=Kz x.value.size (by have:=h.value;constructor<;>omega);have:=h.name;have:=h.field;have:=h.value;simp only[Em,ByteArray.size_append];simp only[ByteArray.size,rW,oT,lF]at*;omega
theorem aFN{L}{pfx}{x}(h:x∈ep L pfx):x∈L:=by obtain⟨k,c,rfl⟩:=ki.1 h;obtain⟨y,b,e⟩:=ki.1 (rX.1<|(Gi _).subset c).1;rw[jg];cases a:lV L k with|none=>exact absurd e<|by simpa using Zh.1 a y b|some z=>exact SY a
def MC(h c:Int):Int:=cP.wrap<|Go.bits BinOp.xor cP h (cP.wrap c)*1099511628211
def E5(h:Int)(l:List UInt8):Int:=l.foldl (λh c=>MC h c.toNat) h
def Uc(h:Int)(s:ByteArray):Int:=E5 h s.data.toList
theorem aCc(h)(l:List UInt8)(j)(a):E5 h (l.take<|j+1)=MC (E5 h<|l.take j) l[j].toNat:=by grind[E5,List.take_add_one]
def C(l:List s):Int:=l.foldl (λh x=>Uc h<|Em x) 14695981039346656037
theorem aCd(l)(x):C (l++[x])=Uc (C l) (Em x):=by grind[C]
structure P8(N:Nat)(o3:Option Obj)(pre:List s)(W:ax)(D:Nat->Prop):Prop where
 sum:W.heap[N+1]?=U (aH #[Y cP<|C pre] 120 (0,0))tab:W.heap[3]?=o3
 arr:W.heap[N]?=U (aH #[Y aq 0,Y aq 0,Y aq 0,Y aq 0,Y aq 0,Y aq 0,Y aq 0,Y aq 0] 76 (0,0))own:D=λb=>b=N+1\/b=3\/b=N
theorem P8.owned(N)(g)(i:3<N):qM<|P8 N g:=⟨λd W D⟨h,f,a,e⟩b k=>by grind,λd W D j⟨h,f,a,e⟩c=>by subst e;exact⟨(c.block _<|ay rfl).trans h,(c.block _<|aB<|ay rfl).trans f,(c.block _<|aB<|aB rfl).trans a,rfl⟩⟩
def iy(h:Int):az:=bO #[Y aq<|h/72057594037927936%256,Y aq<|h/281474976710656%256,Y aq<|h/1099511627776%256,Y aq<|h/4294967296%256,Y aq<|h/16777216%256,Y aq<|h/65536%256,Y aq<|h/256%256,Y aq<|h%256]
structure uO(N T:Nat)(W0:ax)(cs:Array az)(W:ax):Prop where block:W.heap[N]?=U (aH cs T (0,0))keep:O (λb=>b=N) W0 W
theorem uO.set{N T}{W0 W}{cs}(h:uO N T W0 cs W)(i)(v):uO N T W0 (cs.setIfInBounds i v)<|W.setCell ⟨N,i,V⟩ v:=by refine⟨?_,h.keep.trans<|O.setCell _ _ _ rfl⟩;simp only[jL,zf,h.block,ee,gL];rfl
theorem UF(m)(L)(pfx)(w)(R:cI w m L)(hL:L.length<=1073741824)(T:fx w)(hF:∀x∈L,Fit x):bz Q 51 #[bW m,aE pfx] w λe w'=>e=bj (iy<|C<|ep L pfx)∧aY w w w':=by
 have lH:=R.lt;have hm3:m≠3:=by rintro rfl;obtain⟨en,clock,z,_⟩:=R;unfold fx zI World.var? at T;grind[Gb]
 have h3:=T.lt;refine callsIn_wide (n:=0).1<|callsIn_of_wp_marks apU rfl trivial ?_ rfl;simp only[ntmps51,rW,oT,lF,vV,vU,tZ,tY,tX,tW,rV,oV];have HT:=cH.mk T R;clear T R;gi_wp2_with(gi_at_call 52;refine(callsIn_wide.2<|acG m pfx _).mono ?_;rintro e J⟨rfl,ez⟩;have QY:=X ez;clear ez);obtain⟨T,R⟩:=HT;obtain⟨N,hN⟩:=ex w.heap.size;have o9:cI J m L:=by rw[QY.out];exact(((R.alloc _).alloc _).alloc _).alloc _
 have QX:J.heap[3]?=w.heap[3]?:=by rw[QY.out];exact(((((dK _ _).alloc (aQ _) _).alloc (by simp) _).alloc (by simp;omega) _).alloc (by simp;omega) _).block 3 h3
 have g:aY w w J:=by rw[QY.out];exact((((dK _ _).alloc (aQ _) _).alloc (by simp) _).alloc (by simp;omega) _).alloc (by simp;omega) _
 have ko:J.heap.size=w+4:=by rw[QY.out];simp
 have Hy:J.heap[w.heap.size]?=U (aH #[Y aq 0,Y aq 0,Y aq 0,Y aq 0,Y aq 0,Y aq 0,Y aq 0,Y aq 0] 76 (0,0)):=by rw[QY.out];simp only[qF];grind
 have je:J.heap[w.heap.size+1]?=U (aH #[Y cP 14695981039346656037] 120 (0,0)):=by rw[QY.out];simp only[qF];grind
 have KV:J.cell? ⟨w+1+1,0,V⟩=U (bW m):=by rw[QY.out];go_simp
 have o7:J.cell? ⟨w+1+1+1,0,V⟩=U (aE pfx):=by rw[QY.out];go_simp
 have HT0:=X T;have hit:=acH (w.heap.size+1+1) (w.heap.size+1+1+1) m L pfx J KV o7 o9 hL;clear KV o7 hN N T R;have HF:=X hF;clear hF;obtain⟨o3,Q3⟩:∃o,o=w.heap[3]?:=⟨_,rfl⟩;rw[<-Q3]at QX;have HO3:=X Q3;clear Q3;refine wp_rangeFunc (gf:=85) (lb:=#[aF<|U ⟨w.heap.size+1+1,0,V⟩,aF<|U ⟨w.heap.size+1+1+1,0,V⟩]) rfl (Bd QM rfl<|by decide) hit λb z=>by grind (λ_=>rfl) (P8 w.heap.size o3) (λ_ _ _ _=>False) (P8.owned _ _ h3) (λ_=>⟨λ_ _ _ h=>h.elim,λ_ _ _ _ h=>h.elim⟩) (λb=>b=w.heap.size+1∨b=3∨b=w.heap.size) (λb z=>?wW) ⟨je,QX,Hy,rfl⟩ ?round ?done ?stop;case wW=>grind
 case stop=>grind
 case done=>
  rintro xs W D G F AX hK rq;obtain⟨q,QZ,d,rfl⟩:=F;have E:=X AX;have aGT:=X QZ;have hc:W.cell? ⟨w+1,0,V⟩=U (Y cP<|C xs):=M q 0;have ha0:W.cell? w=U (Y aq 0):=M d 0;have rf:W.cell? ⟨w,1,V⟩=U (Y aq 0):=M d 1;have ha2:W.cell? ⟨w,2,V⟩=U (Y aq 0):=M d 2;have oD:W.cell? ⟨w,3,V⟩=U (Y aq 0):=M d 3;have ha4:W.cell? ⟨w,4,V⟩=U (Y aq 0):=M d 4;have ha5:W.cell? ⟨w,5,V⟩=U (Y aq 0):=M d 5;have ha6:W.cell? ⟨w,6,V⟩=U (Y aq 0):=M d 6;have ha7:W.cell? ⟨w,7,V⟩=U (Y aq 0):=M d 7;have CC:∀i,W.frozen? ⟨w,i,V⟩=ai:=by grind[Joins.unfrozen_of_block]
  obtain⟨h,H⟩:=ex<|C xs;rw[<-H]at hc;have a:=uJ.mk H G d g;clear q QZ d AX H G hit Hy je QX o9 g;gi_wp2;refine wpIn_loop_rounds 9 ?_;iterate 9(try(rw[roundsIn_succ];gi_wp2))
  generalize OW:jL _ _ _=WF;have hA:uO w.heap.size 76 W _ WF:=OW▸((((((((((((((((uO.mk a.c<|O.refl _ _).set 0 _).set 1 _).set 2 _).set 3 _).set 4 _).set 5 _).set 6 _).set 7 _).set 0 _).set 1 _).set 2 _).set 3 _).set 4 _).set 5 _).set 6 _).set 7 _;obtain⟨Q2,hAk⟩:=hA;simp only[eE,eD,eu]at Q2;obtain⟨H,G,-,g⟩:=a;have hK':=(hAk.block _ (eX.1 hK).1<|by omega).trans hK;rw[ko]at hK';refine⟨by simp,ay ⟨_,_,rfl,vp hK',?_⟩⟩;refine⟨_,results_cell_row rfl _ _ w.heap.size 76 _ _ _ rfl ((qX<|by omega).trans Q2) QK rfl<|by kernel_rfl,?_,?_⟩;·rw[<-G,<-H];rfl
  ·have hW:aY w w W:=⟨E.out.1.os.trans g.os,E.out.1.tape.trans g.tape,E.out.1.output.trans g.output,bC g.size E.out.1.size,λb z=>by
    by_cases h3b:b=3;·subst h3b;rw[aGT.out,HO3.out]
    ·exact(E.out.1.block b (cB z g.size)<|by grind).trans<|g.block b z⟩;grind[IL,FG]
 case round=>
  rintro l I⟨n,f,c,r,v⟩W D AN vG u⟨ju,hS⟩F xm;have y:=HF.out ⟨n,f,c,r,v⟩ (aFN (pfx:=pfx)<|by grind);unfold s.val;have HI:=cH.mk F u;have Z:=(P8.owned _ _ h3).lt _ _ _ F;obtain⟨q,QZ,d,rfl⟩:=F;have h3W:=Z 3<|aB<|ay rfl;gi_wp2;refine⟨⟨O.alloc _ _ _,λb z=>z.imp id (·.1)⟩,λQ1 p=>?_⟩;have jJ:Q1.heap[W.heap.size]?=U (aH #[n,f,c,r,v] 46 (0,0)):=(p.block _<|by omega).trans<|gI _ _;have cb:∀i,Q1.cell? ⟨W,i,V⟩=#[aE n,f,c,r,v][i]?:=by grind[Joins.cell_of_block]
  have c0:=cb 0;have c1:=cb 1;have c2:=cb 2;have c3:=cb 3;have c4:=cb 4;simp at c0 c1 c2 c3 c4;have⟨F,u⟩:=HI;have q:Q1.heap[w.heap.size+1]?=U (aH #[Y cP<|C I] 120 (0,0)):=by rw[p.block _ λe=>u<|ay e.symm,dr _ _ _<|Z (w.heap.size+1)<|ay rfl];exact F.sum
  have lT:Q1.heap.size=W+1:=by rw[p.size];simp
  have P:=ayo n f v c r Q1 (HT0.out.of_block<|by rw[p.block 3 λe=>u<|aB<|ay e.symm,dr _ _ _ h3W,F.tab,HO3.out]) y.name y.field y.value y.c y.r;have HLn:=X P;gi_wp2_with(gi_at_call 84;refine(callsIn_wide.2 HLn.out).mono ?_;rintro e w3⟨rfl,S⟩;refine Halt.of ?_);have ga:=ayp y;obtain⟨QW,hs⟩:=ex<|Em ⟨n,f,c,r,v⟩;rw[<-hs]at ga⊢;have A:=(S.block _<|by omega).trans q;have Mj:=X S;have HS:=X hs;clear S q c0 c1 c2 c3 c4 hs HLn;obtain⟨cap,o,aJQ,Q0⟩:=aE3 w3 QW;have aGW:=X Q0;unfold Halt;gi_wp2;gi_loopg[18]QW.sizeλk Xv wr=>∃j:Nat,k+j=QW.size∧Xv=Y aG j∧wr.heap[w.heap.size+1]?=U (aH #[Y cP<|E5 (C I)<|QW.data.toList.take j] 120 (0,0))∧O (λb=>b=w.heap.size+1) (w3.drew.alloc o) wr;case atStart=>exact⟨0,by simp,rfl,(dr w3.drew _ _<|show _<w3.heap.size from(eX.1 A).1).trans A,.refl _ _⟩
  case round=>
   obtain⟨j,hk,rfl,K,t⟩:=hrel;have wZ:wr.cell? ⟨w+1,0,V⟩=U (Y cP<|E5 (C I)<|QW.data.toList.take j):=M K 0;have hfw:=vo K 0;by_cases hj:j<QW.data.size
   ·have hx:=(t.cell (p:=⟨w3.heap.size,j,V⟩) (by simp) λe=>by grind).trans<|aGW.out j hj;obtain⟨b,z⟩:=ex QW.data[j];rw[<-z]at hx;obtain⟨h,H⟩:=ex<|E5 (C I)<|QW.data.toList.take j;rw[<-H]at wZ K;have a:=uJ.mk z H t K;have hj':j<QW.size:=hj;gi_wp2;gi_roundg(gk-1);case rel=>obtain⟨z,H,t,K⟩:=a;refine⟨j+1,by omega,by go_simp,?_,t.trans<|O.setCell _ _ _ rfl⟩;grind[aCc,An,MC]
    grind
   ·have kP:j=QW.size:=by have:QW.data.size=QW.size:=rfl;omega
    subst kP;have a:=cH.mk t K;gi_wp2;obtain⟨t,K⟩:=a;obtain⟨F,u⟩:=HI;have p:=(X p).out;have B:=(O.iH (F:=λb=>b=w.heap.size+1) Mj.out).trans<|(O.drew _ _).trans<|(O.alloc _ _ _).trans t;refine⟨_,⟨?_,?_,?_,rfl⟩,B.mono λb _ h=>ay<|ay h,λb z=>ay<|ay z⟩;·rw[K,aCd,<-HS.out,Uc,List.take_of_length_le<|by grind]
    ·rw[B.block 3 (by omega)<|by omega,p.block 3 λe=>u<|aB<|ay e.symm,dr _ _ _ h3W,F.tab]
    ·rw[B.block _ (by omega)<|by omega,p.block _ λe=>u<|aB<|aB e.symm,dr _ _ _<|by omega,F.arr]
attribute [local go_sem] Oper.semAt_some
theorem RoundIn.inRound{F}{n}{P}{l}{f}{b}{a c}{w}{R}(k)(h:RoundIn F n P l f b a c w R):RoundIn (F.inRound k) n P l f b a c w R:=h
theorem aoH{F}{n}{P}{ops}{Q}{a}{w}{rest}{o}(b:eW o (dZ ops a.tmps)=ai)(c:∀f,F.fn f)(h:Lr F n P ops Q rest (a.put o.dst ak) w):Lr F n P ops Q (o::rest) a w:=by simp only[Lr,b];grind
def MO(xL:Bool)(gc E:Int)(x:s):Bool:=!(bP (x.field=⟨#[]⟩)||xL&&!wN x.c x.r gc E)
structure xH(bx bw bg:Nat)(W0:ax)(D0:Nat->Prop)(yv:az)(W:ax)(D D':Nat->Prop):Prop where
 eI:∀b,D b↔D' b\/b=bx\/b=bw\/b=bg
 old:∀b,D' b->D0 b\/W0.heap.size<b
 box:W.heap[bx]?=U (aH #[yv] 83 (0,0))xL:W.heap[bw]?=W0.heap[bw]?
 gone:W.heap[bg]?=W0.heap[bg]?
 size:W0.heap.size<=W.heap.size
def zY(bx bw bg:Nat)(W0:ax)(D0:Nat->Prop)(yv:az)(p:s->Bool)(J:List s->ax->(Nat->Prop)->Prop)(pre:List s)(W:ax)(D:Nat->Prop):Prop:=∃D',J (pre.filter p) W D'/\xH bx bw bg W0 D0 yv W D D'
theorem zY.owned{o j i}{W0}{m}{q}{p}{J}(l:qM J)(r:j<W0.heap.size)(s:i<W0.heap.size):qM<|zY o j i W0 m q p J:=⟨λe W D h b f=>by
  obtain⟨g,d,h⟩:=h;have:=h.size;rcases(h.eI b).1 f with f|rfl|rfl|rfl;.exact l.lt _ _ _ d b f
  .exact(eX.1 h.box).1
  all_goals grind,λe W D t h c=>by obtain⟨g,d,h⟩:=h;exact⟨g,l.st _ _ _ _ d ⟨c.os,c.tape,c.output,c.size,λk n=>c.block k<|(h.eI k).2<|ay n⟩,h.eI,h.old,(c.block _<|(h.eI _).2<|aB<|ay rfl).trans h.box,(c.block _<|(h.eI _).2<|aB<|aB<|ay rfl).trans h.xL,(c.block _<|(h.eI _).2<|aB<|aB<|aB rfl).trans h.gone,bC h.size c.size⟩⟩
theorem xH.left{g j i}{W w1 d}{e D l}{o}(h:xH g j i W e o d D l)(a:aY W W w1)(n:W<=g)(c:bS (λb=>e b\/b=g\/b=j\/b=i) w1 D d):bS e W l d:=⟨⟨c.1.os.trans a.os,c.1.tape.trans a.tape,c.1.output.trans a.output,bC a.size c.1.size,λk m p=>by
  by_cases h1:k=j;.rw[h1];exact h.xL
  .by_cases h2:k=i;.rw[h2];exact h.gone
   .exact(c.1.block k (cB m a.size)<|by grind).trans<|a.block k m⟩,λb f=>(h.old b f).imp id λx=>Nat.le_of_lt x⟩
theorem xH.step{e g f}{W0 m W'}{j D n a}{o}(h:xH e g f W0 j o m D n)(t:∀b,j b->b≠e/\b≠g/\b≠f)(p:e=W0)(u:g<W0)(v:f<W0)(i:bS n m a W'):xH e g f W0 j o W' (λb=>a b\/b=e\/b=g\/b=f) a/\bS D m (λb=>a b\/b=e\/b=g\/b=f) W':=by
 have r:=(eX.1 h.box).1;have l:∀b,b=e\/b=g\/b=f->¬n b:=λb c s=>by rcases h.old b s with d|d;all_goals grind
 refine⟨⟨λb=>x5,λb c=>?_,(i.1.block _ r<|l _<|ay rfl).trans h.box,(i.1.block _ (by omega)<|l _<|aB<|ay rfl).trans h.xL,(i.1.block _ (by omega)<|l _<|aB<|aB rfl).trans h.gone,bC h.size i.1.size⟩,i.1.mono λk _ q=>(h.eI k).2<|ay q,λb c=>?_⟩
 .rcases i.2 b c with d|d;.exact h.old b d
  grind
 .rcases c with c|c
  .rcases i.2 b c with d|d;.exact ay<|(h.eI b).2<|ay d
   grind
  .exact ay<|(h.eI b).2<|aB c
set_option maxHeartbeats 1000000 in
theorem aus(bm bn A t m)(L)(n)(xL)(gc gr)(w)(Hw:w.cell? bm=U (.map m))(zz:w.cell? bn=U (.string n))(wZ:w.cell? A=U (.bool xL))(KV:w.cell? ⟨t,2,V⟩=U (.int .i64 gc))(o7:w.cell? ⟨t,3,V⟩=U (.int .i64 gr))(hB:cI w m L)(hL:L.length<=1073741824)(hn:n.size<=65536)(hwm:A≠m)(OI:t≠m):Iter Q 120 #[.pointer<|U ⟨bm,0,V⟩,.pointer<|U ⟨bn,0,V⟩,.pointer A,.pointer t] (λx=>#[x.val]) (λxs=>xs=(ep L<|n++⟨#[46]⟩).filter (MO xL gc gr)) (λb=>b=bm∨b=bn∨b=A∨b=t∨b=m) w:=by
 intro l J Jx W N hA Q1 y hR hY h0;have o9:cI W m L:=hB.of_block (hA.block m<|by simp);have kc:∀b,b=bm∨b=bn∨b=A∨b=t∨b=m->∀i,W.cell? ⟨b,i,V⟩=w.cell? ⟨b,i,V⟩:=λb g i=>ew (w:=w)<|hA.block b g;have aB3:=(kc bm (by simp) 0).trans Hw;have OR:=(kc bn (by simp) 0).trans zz;have aj4:=(kc A (by simp) 0).trans wZ;have aj9:=(kc t (by simp) 2).trans KV;have aB7:=(kc t (by simp) 3).trans o7;have lbm:=oU W _ aB3;have lbn:=oU W _ OR;have GJ:=oU W _ aj4;have GK:=oU W _ aj9;have lm:=o9.lt;have aIU:¬(9223372036854775807:Int)<(n.size:Int)+1:=by omega
 have aIT:¬9223372036854775807<n.size+1:=by omega
 have HX:=Bm.mk hA Q1 y hR hY h0;have HB:=X o9;clear hA Q1 y hR hY h0 o9 hB Hw zz wZ KV o7 kc;refine callsIn_of_wp_marks QS rfl trivial ?_ rfl;simp only[ntmps120,rW,oT,lF,vV,vU,tZ,tY,tX,tW,rV,oV];gi_wp2_with(gi_at_call 52;refine(callsIn_wide.2<|acG m _ _).mono ?_;rintro e P⟨rfl,ez⟩;have HW:=X ez;clear ez);obtain⟨pfx,ye⟩:∃pfx:ByteArray,pfx=n++⟨#[46]⟩:=⟨_,rfl⟩;rw[<-ye]at HW⊢;obtain⟨hA,Q1,y,hR,hY,h0⟩:=HX;have o:aY W W P:=by rw[HW.out];exact(((dK _ _).alloc (aQ _) _).alloc (by simp) _).alloc (by simp;omega) _
 have ko:P.heap.size=W+3:=by rw[HW.out];simp
 have iw:P.heap[W.heap.size]?=U (.cells #[.func (.yield l) #[] #[]] 83 (0,0)):=by rw[HW.out];simp only[qF];grind
 have E4:P.cell? ⟨W+1,0,V⟩=U (.map m):=by rw[HW.out];go_simp
 have sI:P.cell? ⟨W+1+1,0,V⟩=U (.string pfx):=by rw[HW.out];go_simp
 have hit:=acH (W.heap.size+1) (W.heap.size+1+1) m L pfx P E4 sI (HB.out.below o) hL;obtain⟨p,hp⟩:=ex<|MO xL gc gr;rw[<-hp]at hY;have R:=Q1.lt _ _ _ h0;have sH:∀b,N b->b≠W∧b≠A∧b≠t:=λb g=>⟨λe=>by grind,λe=>hR b g<|by simp[e],λe=>hR b g<|by simp[e]⟩;have zy:∀b,N b->b≠m:=by grind
 have H0:zY W A t W N (.func (.yield l) #[] #[]) p J [] P λb=>N b∨b=W∨b=A∨b=t:=⟨N,Q1.st _ _ _ _ h0<|(O.iH (F:=λ_=>False) o).fJ λb g=>⟨R b g,id⟩,⟨λb=>x5,λb g=>.inl g,iw,o.block _ GJ,o.block _ GK,o.size⟩⟩;refine wp_rangeFunc (gf:=85) (lb:=#[.pointer<|U ⟨W.heap.size+1,0,V⟩,.pointer<|U ⟨W.heap.size+1+1,0,V⟩]) rfl (Bd QM rfl<|by decide) hit λb g=>by grind (λ_=>rfl) (zY W.heap.size A t W N (.func (.yield l) #[] #[]) p J) (λc j W' D=>c=.ret∧zY W.heap.size A t W N (.func (.yield l) #[] #[]) p Jx j W' D) (zY.owned Q1 GJ GK) (λc=>⟨λQY w D h b g=>(zY.owned y GJ GK).lt QY w D h.2 b g,λQY w D w' h ha=>⟨h.1,(zY.owned y GJ GK).st QY w D w' h.2 ha⟩⟩) (λb=>N b∨b=W.heap.size∨b=A∨b=t) (λb g=>?wW) H0 ?round ?done ?stop;case wW=>grind
 case done=>
  rintro xs Wd D Cp⟨F,hj,E⟩AX hK rq;have hl:=E.left o (aQ _) AX;have oB:¬F P:=λh=>rq<|(E.eI _).2<|.inl h;have r:=Q1.st _ _ _ _ hj<|(uM.putObj Wd P.heap.size<|.deferred V).fJ oB;have uj:bS N W F<|Wd.putObj P<|.deferred V:=hl.step (O.putObj (F:=λb=>b=P.heap.size) Wd P.heap.size _ rfl) (λx hx e=>by omega);have f:dx<|xs.filter p=(ep L pfx).filter p∧J (xs.filter p) (Wd.putObj P<|.deferred V) F∧bS N W F (Wd.putObj P<|.deferred V):=by grind[Lib.hid]
  clear HB hA Q1 y hR hY h0 o hit R sH zy H0 hj E AX hl r uj E4 sI iw HW;gi_wp2;refine⟨by simp,.inl ⟨_,_,rfl,vp hK,?_⟩⟩;refine⟨_,results_none rfl _ _ _,⟨_,rfl⟩,.inl ⟨_,F,?_,f.out.2.1,f.out.2.2⟩⟩;grind
 case stop=>rintro c j Wd D⟨ju,TC⟩⟨rfl,F,hj,E⟩AX hK rq;have hl:=E.left o (aQ _) AX;have oB:¬F P:=λh=>rq<|(E.eI _).2<|.inl h;have r:=y.st _ _ _ _ hj<|(uM.putObj Wd P.heap.size<|.deferred V).fJ oB;have uj:bS N W F<|Wd.putObj P<|.deferred V:=hl.step (O.putObj (F:=λb=>b=P.heap.size) Wd P.heap.size _ rfl) (λx hx e=>by omega);have f:dx<|j.filter p++ju.filter p=(ep L pfx).filter p∧Jx (j.filter p) (Wd.putObj P<|.deferred V) F∧bS N W F (Wd.putObj P<|.deferred V):=X ⟨by grind,r,uj⟩;clear HB hA Q1 y hR hY h0 o hit R sH zy H0 hj E AX hl r uj E4 sI iw HW;gi_wp2;refine⟨by simp,.inl ⟨_,_,rfl,vp hK,?_⟩⟩;refine⟨_,results_none rfl _ _ _,⟨_,rfl⟩,.inr ⟨_,F,⟨ju.filter p,?_⟩,f.out.2.1,f.out.2.2⟩⟩;grind
 case round=>
  rintro l2 j⟨K,u,C,B,I⟩QX D AN vG o8⟨ju,hS⟩E xm;obtain⟨F,hj,E⟩:=E;unfold s.val;have HI:=cH.mk hj E;have abi:∀b,D b->b<QX.heap.size:=(zY.owned Q1 GJ GK).lt j QX D ⟨F,hj,E⟩;have HS:=X hS;have P6:=Bm.mk Q1 y hY sH abi o8;have sM:=(E.eI A).2<|.inr<|.inr<|.inl rfl;have hbg:=(E.eI t).2<|.inr<|.inr<|.inr rfl;have CF:=(E.eI W.heap.size).2<|.inr<|.inl rfl;have hzr:=E.size;clear HB hA Q1 y hR hY h0 o hit R sH zy H0 E4 sI iw HW hj E hS;gi_wp2;refine⟨⟨O.alloc _ _ _,λb g=>g.imp id (·.1)⟩,λq G=>?_⟩;have jJ:q.heap[QX.heap.size]?=U (.cells #[K,u,C,B,I] 46 (0,0)):=(G.block _<|by omega).trans<|gI _ _;have cb:∀i,q.cell? ⟨QX,i,V⟩=#[aE K,u,C,B,I][i]?:=by grind[Joins.cell_of_block]
  have c0:=cb 0;have c1:=cb 1;have c2:=cb 2;have c3:=cb 3;have c4:=cb 4;simp at c0 c1 c2 c3 c4;obtain⟨hj,E⟩:=HI;obtain⟨Q1,y,hY,sH,abh,K7⟩:=P6;have QZ:=λb g=>(G.block b λe=>K7<|e▸g).trans<|dr _ _ _<|abi b g;have kA:xH W A t W N (.func (.yield l) #[] #[]) q D F:=⟨E.eI,E.old,(QZ _ CF).trans E.box,(QZ _ sM).trans E.xL,(QZ _ hbg).trans E.gone,bC E.size<|by grind⟩;have vI:=Q1.st _ _ _ _ hj ⟨G.os,G.tape,G.output,by grind,λk hk=>QZ k<|(E.eI k).2<|.inl hk⟩;have q1:q.cell? W=U (.func (.yield l) #[] #[]):=M kA.box 0;have q2:=(ew (w:=W) kA.xL).trans aj4;have q3:=(ew (w:=W) kA.gone).trans aj9;have q4:=(ew (w:=W) kA.gone).trans aB7;have lT:q.heap.size=QX+1:=by rw[G.size];simp
  have Q3:=Bm.mk vI kA Q1 y hY sH;have z:=X (λb g=>cB (abi b g)<|show QX.heap.size<=q.heap.size by omega);clear hj E Q1 y hY sH abh K7 QZ kA vI G cb jJ sM hbg CF;have HJ:=X Q3.c;by_cases hf:u=⟨#[]⟩
  ·have QW:dx<|p ⟨K,u,C,B,I⟩=ai:=X (by rw[hp];grind[MO]);have OL:u.toList=[]:=by rw[hf,Jk]
   have hf2:u.toList.isEmpty=Z:=by grind
   have HF:=X hf;clear hf OL;have d:O (λ_=>False) q q:=.refl _ _;have Q0:=HJ.out.st _ _ _ _ Q3.a<|d.fJ λb g=>⟨z.out b<|(Q3.b.eI b).2<|.inl g,id⟩;have v:xH W A t W N (.func (.yield l) #[] #[]) q D F:=by
    obtain⟨T,a2,a3,a4,a5,a6⟩:=Q3.b;have QZ:∀b,D b->q.heap[b]?=q.heap[b]?:=by grind
    exact⟨T,a2,(QZ _<|(T _).2<|.inr<|.inl rfl).trans a3,(QZ _<|(T _).2<|.inr<|.inr<|.inl rfl).trans a4,(QZ _<|(T _).2<|.inr<|.inr<|.inr rfl).trans a5,bC a6 d.size⟩
   have Qw:dx<|∃a,zY W A t W N (.func (.yield l) #[] #[]) p J (j++[⟨K,u,C,B,I⟩]) q a∧bS (λb=>D b∨QX<=b∧b<(QX.alloc<|.cells #[K,u,C,B,I] 46)) q a q:=X ⟨D,⟨F,by rw[Cd,Zi<|by rw[QW.out];simp,Km,tU];exact Q0,v⟩,d.mono λ_ _ h=>h.elim,λb g=>.inl<|.inl g⟩;clear d Q0 v Q3 z HJ;gi_wp2_with(refine aoH rfl (λ_=>trivial) ?_);exact Qw.out
  ·have OK:¬u.toList=[]:=λe=>hf (zR<|by grind[Jk]);have hf2:u.toList.isEmpty=ai:=by grind
   cases xL with|false=>
    have QW:dx<|p ⟨K,u,C,B,I⟩=Z:=X (by rw[hp];grind[MO]);have d:O (λ_=>False) q q:=.refl _ _;have Q0:=HJ.out.st _ _ _ _ Q3.a<|d.fJ λb g=>⟨z.out b<|(Q3.b.eI b).2<|.inl g,id⟩;have v:xH W A t W N (.func (.yield l) #[] #[]) q D F:=by
     obtain⟨T,a2,a3,a4,a5,a6⟩:=Q3.b;have QZ:∀b,D b->q.heap[b]?=q.heap[b]?:=by grind
     exact⟨T,a2,(QZ _<|(T _).2<|.inr<|.inl rfl).trans a3,(QZ _<|(T _).2<|.inr<|.inr<|.inl rfl).trans a4,(QZ _<|(T _).2<|.inr<|.inr<|.inr rfl).trans a5,bC a6 d.size⟩
    obtain⟨H,Tv⟩:∃H,j.filter p++(⟨K,u,C,B,I⟩:s)::H=(ep L<|n++⟨#[46]⟩).filter p:=⟨ju.filter p,by rw[<-ye,<-HS.out,Cd,NA QW.out]⟩;obtain⟨fn,tmps,S,body,hy,nK⟩:=Q3.e (j.filter p) ⟨K,u,C,B,I⟩ q F ⟨H,by rw[Tv]⟩ Q0;have Bo:=X<|RoundIn.inRound l2 nK;have Cm:(Instr.yield l #[.agg #[K,u,C,B,I]]).run Q q=.ok (.round l fn tmps S body) q:=hy;have HV:=cH.mk d v;clear d Q0 v nK hy Tv HJ;gi_wp2;refine Bo.out.mono ?_;rintro e W' Qw;have f:dx<|∀(a:Nat->Prop),bS F q a W'->xH W A t W N (.func (.yield l) #[] #[]) W' (λb=>a b∨b=W∨b=A∨b=t) a∧bS (λb=>D b∨QX<=b∧b<(QX.alloc<|.cells #[K,u,C,B,I] 46)) q (λb=>a b∨b=W∨b=A∨b=t) W':=X λa hL=>by obtain⟨d,v⟩:=HV;obtain⟨f1,f2⟩:=v.step Q3.f rfl GJ GK hL;exact⟨f1,f2.shift d λb g=>.inl g⟩
    have TV:(j++[(⟨K,u,C,B,I⟩:s)]).filter p=j.filter p++[⟨K,u,C,B,I⟩]:=by rw[Cd,NA QW.out,Km]
    have P5:=X TV;clear Cm Q3 z TV Bo;rcases Qw with⟨rfl,a,r,Q2⟩|⟨rfl,a,r,Q2⟩;·have HE:=cH.mk r Q2;clear r Q2;gi_wp2;exact⟨_,⟨a,by rw[P5.out];exact HE.a,(f.out _ HE.b).1⟩,(f.out _ HE.b).2⟩
    ·have HE:=cH.mk r Q2;clear r Q2;gi_wp2;exact⟨_,⟨rfl,a,by rw[P5.out];exact HE.a,(f.out _ HE.b).1⟩,(f.out _ HE.b).2⟩|true=>
    have HPZ:dx<|p ⟨K,u,C,B,I⟩=wN C B gc gr:=X (by rw[hp];grind[MO]);gi_wp2_with(gi_at_call 121;refine(callsIn_wide.2<|YQ C B gc gr _).mono ?_;rintro e w3⟨rfl,gM⟩;refine Halt.of ?_);obtain⟨lz,hlz⟩:=ex<|wN C B gc gr;rw[<-hlz];have cc:∀b i,b<q.heap.size->w3.cell? ⟨b,i,V⟩=q.cell? ⟨b,i,V⟩:=λb i h=>gM.cell (p:=⟨b,i,V⟩) h;have qZ:QX.heap.size<q:=by omega
    replace c0:=(cc QX.heap.size 0 qZ).trans c0;replace c1:=(cc QX.heap.size 1 qZ).trans c1;replace c2:=(cc QX.heap.size 2 qZ).trans c2;replace c3:=(cc QX.heap.size 3 qZ).trans c3;replace c4:=(cc QX.heap.size 4 qZ).trans c4;replace q1:=(cc W.heap.size 0<|by omega).trans q1
    have HLZ:=X hlz;clear hlz cc q2 q3 q4;cases lz with|true=>
     have QW:dx<|p ⟨K,u,C,B,I⟩=Z:=X (by rw[HPZ.out,<-HLZ.out]);have d:O (λ_=>False) q w3:=O.iH gM;have Q0:=HJ.out.st _ _ _ _ Q3.a<|d.fJ λb g=>⟨z.out b<|(Q3.b.eI b).2<|.inl g,id⟩;have v:xH W A t W N (.func (.yield l) #[] #[]) w3 D F:=by obtain⟨T,a2,a3,a4,a5,a6⟩:=Q3.b;have QZ:=λb g=>d.block b (z.out b g) id;exact⟨T,a2,(QZ _<|(T _).2<|.inr<|.inl rfl).trans a3,(QZ _<|(T _).2<|.inr<|.inr<|.inl rfl).trans a4,(QZ _<|(T _).2<|.inr<|.inr<|.inr rfl).trans a5,bC a6 d.size⟩
     obtain⟨H,Tv⟩:∃H,j.filter p++(⟨K,u,C,B,I⟩:s)::H=(ep L<|n++⟨#[46]⟩).filter p:=⟨ju.filter p,by rw[<-ye,<-HS.out,Cd,NA QW.out]⟩;obtain⟨fn,tmps,S,body,hy,nK⟩:=Q3.e (j.filter p) ⟨K,u,C,B,I⟩ w3 F ⟨H,by rw[Tv]⟩ Q0;have Bo:=X<|RoundIn.inRound l2 nK;have Cm:(Instr.yield l #[.agg #[K,u,C,B,I]]).run Q w3=.ok (.round l fn tmps S body) w3:=hy;have HV:=cH.mk d v;unfold Halt;gi_wp2;refine Bo.out.mono ?_;rintro e W' Qw;have f:dx<|∀(a:Nat->Prop),bS F w3 a W'->xH W A t W N (.func (.yield l) #[] #[]) W' (λb=>a b∨b=W∨b=A∨b=t) a∧bS (λb=>D b∨QX<=b∧b<(QX.alloc<|.cells #[K,u,C,B,I] 46)) q (λb=>a b∨b=W∨b=A∨b=t) W':=X λa hL=>by obtain⟨d,v⟩:=HV;obtain⟨f1,f2⟩:=v.step Q3.f rfl GJ GK hL;exact⟨f1,f2.shift d λb g=>.inl g⟩
     have TV:(j++[(⟨K,u,C,B,I⟩:s)]).filter p=j.filter p++[⟨K,u,C,B,I⟩]:=by rw[Cd,NA QW.out,Km]
     have P5:=X TV;rcases Qw with⟨rfl,a,r,Q2⟩|⟨rfl,a,r,Q2⟩;·have HE:=cH.mk r Q2;gi_wp2;exact⟨_,⟨a,by rw[P5.out];exact HE.a,(f.out _ HE.b).1⟩,(f.out _ HE.b).2⟩
     ·have HE:=cH.mk r Q2;gi_wp2;exact⟨_,⟨rfl,a,by rw[P5.out];exact HE.a,(f.out _ HE.b).1⟩,(f.out _ HE.b).2⟩|false=>
     have QW:dx<|p ⟨K,u,C,B,I⟩=ai:=X (by rw[HPZ.out,<-HLZ.out]);have d:O (λ_=>False) q w3:=O.iH gM;have Q0:=HJ.out.st _ _ _ _ Q3.a<|d.fJ λb g=>⟨z.out b<|(Q3.b.eI b).2<|.inl g,id⟩;have v:xH W A t W N (.func (.yield l) #[] #[]) w3 D F:=by obtain⟨T,a2,a3,a4,a5,a6⟩:=Q3.b;have QZ:=λb g=>d.block b (z.out b g) id;exact⟨T,a2,(QZ _<|(T _).2<|.inr<|.inl rfl).trans a3,(QZ _<|(T _).2<|.inr<|.inr<|.inl rfl).trans a4,(QZ _<|(T _).2<|.inr<|.inr<|.inr rfl).trans a5,bC a6 d.size⟩
     have Qw:dx<|∃a,zY W A t W N (.func (.yield l) #[] #[]) p J (j++[⟨K,u,C,B,I⟩]) w3 a∧bS (λb=>D b∨QX<=b∧b<(QX.alloc<|.cells #[K,u,C,B,I] 46)) q a w3:=X ⟨D,⟨F,by rw[Cd,Zi<|by rw[QW.out];simp,Km,tU];exact Q0,v⟩,d.mono λ_ _ h=>h.elim,λb g=>.inl<|.inl g⟩;unfold Halt;gi_wp2;exact Qw.out
attribute [local go_sem] Oper.semAt_some
structure Mk(g:Nat)(W:ax)(D:Nat->Prop)(b:Bool):Prop where cell:W.heap[g]?=U (aH #[cx b] 4 (0,0))eI:D=λx=>x=g
theorem Mk.owned{g}{f}(q:f->Bool->Prop):qM λs W D=>∃b,q s b/\Mk g W D b:=⟨λs W D⟨b,_,h⟩x c=>by rw[h.eI]at c;subst c;exact(eX.1 h.cell).1,λs W D i⟨b,d,h⟩e=>⟨b,d,(e.block g<|by rw[h.eI]).trans h.cell,h.eI⟩⟩
theorem Xp(m)(L)(n)(w)(c:cI w m L)(q:L.length<=1073741824)(k:n.size<=4096):bz Q 68 #[bW m,aE n] w λe a=>∃d,e=bj (dF (ei 120) #[] d)/\(∃R,Iter Q 120 d (λx=>#[x.val]) (λp=>p=jC L n) R a/\∀b,R b->b<a/\(b=m\/w<=b))/\aY w w a:=by have l:=c.lt;refine(auq m L n w c k).mono ?_;rintro e a⟨o,r,rfl,B,y,s,f,h,j,g,t,i⟩;refine⟨_,rfl,⟨_,aus w (w+1) r o m L n _ _ _ a f h j g t (c.below i) q (by omega) (by omega)<|by omega,?_⟩,i⟩;have u:=oU a _ f;have v:=oU a _ h;have A:=oU a _ j;have z:=oU a _ g;grind
theorem afN{fn}{p}(h:fn.results=#[.cell p 4])(a)(w)(g)(b)(c:a.getD p ak=aF (U ⟨g,0,V⟩))(d:w.cell? g=U (cx b)):(kD fn a).run Q w=aW (cx b) w:=by simp[kD,h,by simpa using c,asAddr];go_simp
theorem anv(m)(L)(n)(w)(E:cI w m L)(N:L.length<=1073741824)(Q3:n.size<=4096):bz Q 69 #[bW m,aE n] w λe P=>e=bj !(jC L n).isEmpty∧aY w w P:=by
 have H:=E.lt;refine callsIn_wide (n:=0).1<|callsIn_of_wp_marks apM rfl trivial ?_ rfl;simp only[ntmps69,rW,oT,lF,vV,vU,tZ,tY,tX,tW,rV,oV];gi_wp2_with(gi_at_call 68;refine(callsIn_wide.2 (X<|Xp m L n (w.alloc<|aH #[ai] 4) (E.alloc _) N Q3).out).mono ?_;rintro e s⟨lb,rfl,F,g⟩;refine Halt.of ?_);unfold Halt;gi_wp2;obtain⟨⟨R,u,G⟩,g⟩:=(X<|aM F g).out;have y:=g.size;simp only[vt]at y;have i:=((dK _ _).alloc (aQ _) _).trans (g.mono<|by simp);refine wp_rangeFunc (gf:=120) (lb:=lb) rfl (Bd QS rfl<|by decide) u (λb g=>(G b g).1) (λ_=>rfl) (λf W D=>∃b,(f=[]∧b=ai)∧Mk w W D b) (λc f W D=>∃b,(c=.ret∧f≠[]∧b=Z)∧Mk w W D b) (Mk.owned λf b=>f=[]∧b=ai) (λc=>Mk.owned λf b=>c=.ret∧f≠[]∧b=Z) (λb=>b=w) (λb g J=>?wW) ⟨ai,⟨rfl,rfl⟩,(g.block _<|by simp).trans<|gI _ _,rfl⟩ ?round ?done ?stop;case wW=>
  subst g;rcases(G _ J).2 with h|h;·omega
  ·simp at h;omega
 case round=>rintro l f x W D S Q2 B Q0⟨b,⟨rfl,rfl⟩,p⟩T;have C:=X p;obtain⟨o,rfl⟩:=p;gi_wp2;refine⟨⟨.refl _ _,λb g=>g.imp id (·.1)⟩,λQW q=>?_⟩;have k:=(q.block _ λe=>B e.symm).trans C.out.cell;have I:QW.cell? w=U ai:=M k 0;have K:=vo k 0;gi_wp2;exact⟨_,⟨⟨rfl,by simp⟩,An (X k).out,rfl⟩,(O.setCell (F:=λb=>b=w) _ _ _ rfl).mono λ_ _ h=>ay h,λb g=>ay<|ay g⟩
 case done=>rintro a W D t⟨b,⟨rfl,rfl⟩,p⟩j v z;obtain⟨o,rfl⟩:=p;have I:W.cell? w=U ai:=M o 0;have K:=vo o 0;have d:dx<|jC L n=[]∧aY w w ((W.setCell w ai).putObj s<|uA V)∧((W.setCell w ai).putObj s<|uA V).cell? w=U ai∧(W.setCell w ai).heap[s.heap.size]?=U (uA<|U []):=X ⟨t.symm,IL (FG (j.below i λb g=>by omega) (O.setCell (F:=λb=>b=w) _ _ _ rfl) λx F e=>by omega) (by omega) _,M ((qX<|by omega).trans<|An o) 0,(gJ _ _ _ _<|by grind).trans v⟩;gi_wp2;refine⟨by simp,ay ⟨_,_,rfl,vp d.out.2.2.2,?_⟩⟩;exact⟨_,afN rfl _ _ w ai rfl d.out.2.2.1,by rw[d.out.1];rfl,d.out.2.1⟩
 case stop=>rintro c f W D⟨Q1,r⟩⟨b,⟨rfl,A,rfl⟩,p⟩j v z;obtain⟨o,rfl⟩:=p;have d:dx<|jC L n≠[]∧aY w w (W.putObj s<|uA V)∧(W.putObj s<|uA V).cell? w=U Z:=X ⟨by rw[<-r];simp[A],IL (j.below i λb g=>by omega) (by omega) _,M ((qX<|by omega).trans o) 0⟩;gi_wp2;refine⟨by simp,ay ⟨_,_,rfl,vp v,?_⟩⟩;exact⟨_,afN rfl _ _ w Z rfl d.out.2.2,by cases h:jC L n with|nil=>exact absurd h d.out.1|cons _ _=>rfl,d.out.2.1⟩
abbrev kF:ByteArray:=⟨#[97,98,99,100,101,102,103,104,105,106,107,108,109,110,111,112,113,114,115,116,117,118,119,120,121,122]⟩
theorem aGF(c):kF.data.toList.contains c=letter c:=by
 rw[AF];simp only[List.contains_iff_mem,letter,cG,eU,UInt8.le_iff_toNat_le];constructor;.intro h;simp only[di,dJ,dQ]at h;rcases h with rfl|rfl|rfl|rfl|rfl|rfl|rfl|rfl|rfl|rfl|rfl|rfl|rfl|rfl|rfl|rfl|rfl|rfl|rfl|rfl|rfl|rfl|rfl|rfl|rfl|rfl<;>exact⟨by decide,by decide⟩
 .rintro⟨d,b⟩;have e:c=kT c.toNat:=by simp
  generalize c.toNat=n at*;subst e;have d:97<=n:=d;have b:n<=122:=b;have:n=97+(n-97):=by omega
  generalize n-97=k at this;subst this;have:∀k:_root_.Fin 26,kT (97+k.val)∈kF.data.toList:=by decide
  exact this ⟨k,by omega⟩
theorem dropWhile_nil{p}{l:List UInt8}:l.dropWhile p=[]↔l.all p=Z:=by induction l with|nil=>simp|cons a l b=>grind[List.dropWhile_cons]
theorem aGu{p}{l:List UInt8}:(l.dropWhile p).all p=l.all p:=by induction l with|nil=>rfl|cons a l b=>grind[List.dropWhile_cons]
theorem ara(s):Lib.trimS s.data.toList kF.data.toList=[]↔yV s=Z:=by have e:(λc=>kF.data.toList.contains c)=letter:=funext aGF;unfold Lib.trimS Lib.trimLeftS Lib.trimRightS yV;grind[dropWhile_nil,aGu]
theorem arb(s)(w)(hs:s.size<=65536):bz Q 117 #[aE s,kF] w λe f=>e=bj (aE ⟨(Lib.trimS s.data.toList kF.data.toList).toArray⟩)/\aY w w f:=by
 have d:=zero_of_info (P:=Q) (t:=281) (v:=bO<|uy 256 ai) (n:=256) (by kernel_rfl);have l:bz Q 177 #[kF] w λe f=>e=bj (bQ #[bO<|zH kF.data.toList,Z])/\f=w.alloc (aH (zH kF.data.toList) 281):=Any.strings_makeASCIISet apn d.1 d.2 kF w (by decide) (ascii_of_all<|by decide);by_cases h0:s.size=0
 .have r:s.toList.isEmpty=Z:=by grind[Lib.toList_data,Lib.size_eq,List.length_cons]
  have n:s.data.toList=[]:=Cc (by grind[Lib.size_eq]);have i:s=⟨#[]⟩:=by rw[<-Lib.mk_data s,n]
  subst i;go_enter adT,ntmps117;go_wp2;go_ret;exact⟨rfl,dK _ _⟩
 .have h:s.toList.isEmpty=ai:=by grind[Lib.toList_data,Lib.size_eq,List.length_nil]
  have k:kF.toList.isEmpty=ai:=by grind[Lib.toList_data]
  have p:((kF.size:Int)==1)=ai:=by decide
  have o:(storeCells ⟨w+1,0,V⟩ (zH kF.data.toList).toList 0).run Q ((w.alloc<|aH (zH kF.data.toList) 281).alloc<|aH (uy 256 ai) 281)=aW () ((w.alloc<|aH (zH kF.data.toList) 281).alloc<|aH (zH kF.data.toList) 281):=by have:=run_storeCells_new (P:=Q) (w.alloc<|aH (zH kF.data.toList) 281) 281 (uy 256 ai) (zH kF.data.toList) (by grind[Lib.setCells_size]) (by rw[aim,Array.size_replicate])<|Lib.setCells_one _;simpa using this
  have m:=aim kF.data.toList;have c:∀x:UInt8,((w.alloc<|aH (zH kF.data.toList) 281).alloc<|aH (zH kF.data.toList) 281).cell? ⟨w+1,x.toNat,V⟩=U (cx<|kF.data.toList.contains x):=λx=>by rw[Ny _ _ _ _<|by simp,Lib.setCells_at]
  have j:Aside<|∀(q:Nat)(x:UInt8),(((w.alloc<|aH (zH kF.data.toList) 281).alloc<|aH (zH kF.data.toList) 281).drewN q).cell? ⟨w+1,x.toNat,V⟩=U (kF.data.toList.contains x):=λq x=>by simpa using c x
  generalize kF=b at*;go_enter adT,ntmps117;go_wp2_with(go_at_call 177;refine l.mono ?_;rintro e f⟨rfl,g⟩;rw[g]);go_wp2_with(first|(go_at_call 179;refine(Any.strings_trimRightASCII apl s (w+1) b.data.toList _ (by omega)<|j.out 0).mono ?_;rintro e f⟨rfl,g⟩;rw[g])|(go_at_call 178;refine(Any.strings_trimLeftASCII apm _ (w+1) b.data.toList _<|j.out 0).mono ?_;rintro e f⟨rfl,g⟩;rw[g]));go_ret;exact⟨rfl,((dK _ _).alloc (aQ _) _).alloc (by simp) _⟩
theorem ZH(s)(k:Nat)(w)(hs:s.size<=65536)(g:k<1000):bz Q 64 #[aE s,k] w λe f=>e=bj (ld s k)/\aY w w f:=by
 have b:=arb s;obtain⟨t,a⟩:∃t:ByteArray,t=⟨(Lib.trimS s.data.toList kF.data.toList).toArray⟩:=⟨_,rfl⟩;rw[<-a]at b;have d:t.toList=[]↔yV s=Z:=by grind[ara,Lib.toList_data]
 have i:=X b;clear b a;by_cases h0:s.toList=[]
 .have c:s.size=0:=by grind[Lib.size_eq,Lib.toList_data]
  go_enter Wm,ntmps64;go_wp2;go_ret;exact⟨yK<|by grind[ld],dK _ _⟩
 .have l:s.toList.isEmpty=ai:=by grind
  have c:0<s.size:=by grind[Nat.eq_zero_or_pos,Lib.toList_data,List.eq_nil_of_length_eq_zero,Lib.size_eq]
  by_cases g:s.size<=k;.go_enter Wm,ntmps64;go_wp2_with(go_at_call 117;refine(i.out _<|by omega).mono ?_;rintro e j⟨rfl,h⟩);go_ret;refine⟨yK ?_,h⟩;rw[AF];grind[ld]
  .go_enter Wm,ntmps64;go_wp2;go_ret;exact⟨yK<|by grind[ld],dK _ _⟩
def fq(w:ax)(p:Nat)(id:Int)(m g:Nat):Prop:=w.heap[p]?=U (aH #[Y aG id,bW<|U m,bW<|U g] 110 (0,0))
theorem fq.cell{w}{p}{id}{m g}(h:fq w p id m g):w.cell? p=U (Y aG id)/\w.cell? ⟨p,1,V⟩=U (bW m)/\w.cell? ⟨p,2,V⟩=U (bW g):=⟨M h 0,M h 1,M h 2⟩
theorem fq.lt{w}{p}{id}{m g}(h:fq w p id m g):p<w:=(eX.1 h).1
theorem alC(k)(a)(w):bz Q 65 #[Y aG k,aE a] w λe b=>e=bj (iK 132<|aF w)/\b=w.alloc (aH #[k,a] 137):=by go_enter apP,ntmps65;go_wp2;go_ret;exact⟨rfl,rfl⟩
structure uE(p:Nat)(id:Int)(m g:Nat)(L:List s)(w0 W:ax):Prop where
 rep:fq W p id m g
 book:cI W m L
 below:aY w0.heap.size w0 W
 lt:p<w0.heap.size/\m<w0.heap.size
theorem aGH{p}{id}{m g}{L}{w0 W}:uE p id m g L w0 W.drew↔uE p id m g L w0 W:=⟨λh=>⟨h.1,h.2.of_block rfl,⟨h.below.os,h.below.tape,h.below.output,h.below.size,h.below.block⟩,h.lt⟩,λh=>⟨h.1,h.2.of_block rfl,⟨h.below.os,h.below.tape,h.below.output,h.below.size,h.below.block⟩,h.lt⟩⟩
theorem uE.later{p}{id}{m g}{L}{w0 W W'}(h:uE p id m g L w0 W)(a:aY W W W'):uE p id m g L w0 W':=⟨(a.block p h.rep.lt).trans h.rep,h.book.below a,h.below.trans<|a.mono h.below.size,h.lt⟩
theorem uE.setCell{p}{id}{m g}{L}{w0 W}(h:uE p id m g L w0 W)(a)(v)(e:w0.heap.size<=a.block):uE p id m g L w0<|W.setCell a v:=⟨(gJ _ _ _ _<|by have:=h.lt;omega).trans h.rep,h.book.of_block<|gJ _ _ _ _<|by have:=h.lt;omega,⟨h.below.os,h.below.tape,h.below.output,by simpa[jL]using h.below.size,λb d=>(gJ _ _ _ _<|by omega).trans<|h.below.block b d⟩,h.lt⟩
theorem fq.ne{w}{p}{id}{m g}{L}(h:fq w p id m g)(b:cI w m L):p≠m:=by rintro rfl;obtain⟨d,a,c,_⟩:=b;grind[fq]
theorem ade(p)(id)(m g)(L)(n f v)(c r)(w)(G:fq w p id m g)(QZ:cI w m L)(hn:n.size<=4096)(hf:f.size<=4096)(hc:gP L<9223372036854775807):bz Q 66 #[aF p,bO #[aE n,aE f,Y aG c,Y aG r,aE v]] w λe C=>e=bj (bQ #[])∧cI C m (fE L ⟨n,f,gP L+1,id,v⟩)∧O (λb=>b=m) w C:=by
 have B:=G.lt;have P:=QZ.lt;have h0:=ab8 L;obtain⟨k,Q2⟩:=ex<|gP L;obtain⟨QY,u⟩:=ex<|w.alloc<|aH #[aE n,aE f,Y aG c,Y aG r,aE v] 46;have hW:uE p id m g L w QY:=by rw[u];exact⟨(dr _ _ _ B).trans G,QZ.alloc _,(dK _ _).alloc (aQ _) _,B,P⟩
 have E:∀W,uE p id m g L w W->W.cell? p=U (Y aG id):=λW h=>h.rep.cell.1;have I:∀W,uE p id m g L w W->W.cell? ⟨p,1,V⟩=U (bW m):=λW h=>h.rep.cell.2.1;have l:∀W,uE p id m g L w W->w.heap.size<W->bz Q 118 #[bW m] W λe t=>e=bj k∧uE p id m g L w t∧(∀o,t.cell? ⟨w,o,V⟩=W.cell? ⟨w,o,V⟩)∧∀o,t.frozen? ⟨w,o,V⟩=W.frozen? ⟨w,o,V⟩:=λW h hz=>(aFc m L W h.book).mono λe t x=>⟨Q2▸x.1,h.later x.2,λo=>(Dh x.2).1 _ _ hz,λo=>(Dh x.2).2 _ _ hz⟩;have HC:=X l;have K:aG.wrap (k+1)=k+1:=by grind[IntKind.wrap_i64]
 have QW:w.heap.size<QY:=by rw[u];simp
 have F:=X u;have HK:=X<|show s.Ok ⟨n,f,k+1,id,v⟩from⟨hn,hf⟩;have QX:=X Q2;clear G QZ Q2 hc h0 l hn hf;have z:QY.heap[w.heap.size]?=U (aH #[n,f,c,r,v] 46 (0,0)):=by grind[World.alloc_heap_new]
 have c0:QY.cell? w=U (aE n):=M z 0;have c1:QY.cell? ⟨w,1,V⟩=U (aE f):=M z 1;have c2:QY.cell? ⟨w,2,V⟩=U (Y aG c):=M z 2;have c3:QY.cell? ⟨w,3,V⟩=U (Y aG r):=M z 3;have c4:QY.cell? ⟨w,4,V⟩=U (aE v):=M z 4;have S:∀i,QY.frozen? ⟨w,i,V⟩=ai:=by grind[Joins.unfrozen_of_block]
 clear z u;go_enter apO,ntmps66;go_wp2;rw[<-F.out];go_region_held3λW=>uE p id m g L w W((grind[aGH,uE.setCell]))((first|(go_at_call 118;refine jm (HC.out _ ?hw ?hz) ?_;(case hw=>grind);(case hz=>exact QW);rintro e C⟨rfl,hl,Q1,A⟩)));rename_i a;obtain⟨j,d⟩:=ex<|(C.setCell ⟨w.heap.size,2,V⟩<|Y aG<|k+1).setCell ⟨w.heap.size,3,V⟩<|Y aG id;rw[<-d]at a⊢;have d0:j.cell? w=U (aE n):=by rw[d];go_simp
 have d1:j.cell? ⟨w,1,V⟩=U (aE f):=by rw[d];go_simp
 have d2:j.cell? ⟨w,2,V⟩=U (Y aG<|k+1):=by rw[d];go_simp
 have d3:j.cell? ⟨w,3,V⟩=U (Y aG id):=by rw[d];go_simp
 have d4:j.cell? ⟨w,4,V⟩=U (aE v):=by rw[d];go_simp
 have e1:j.cell? ⟨p,1,V⟩=U (bW m):=by grind
 have N:w.heap.size<j:=oU j _ d0;have H:=a.rep.lt;have Q3:=a.rep.ne a.book;have J:w≠m:=by omega
 have HH:=X a;obtain⟨Qw,y⟩:=ex<|fE L ⟨n,f,k+1,id,v⟩;have q:bz Q 101 #[bW m,bO #[n,f,Y aG<|k+1,id,v]] j.drew λe t=>e=bj (bQ #[])∧dx (cI t m Qw∧O (λb=>b=m) j.drew t)∧(∀o,t.cell? ⟨w,o,V⟩=j.drew.cell? ⟨w,o,V⟩)∧∀o,t.cell? ⟨p,o,V⟩=j.drew.cell? ⟨p,o,V⟩:=(aec ⟨n,f,k+1,id,v⟩ HK.out m L j.drew<|a.book.of_block rfl).mono λe t x=>⟨x.1,X ⟨y▸x.2.1,x.2.2⟩,λo=>x.2.2.cell (p:=⟨_,_,V⟩) N J,λo=>x.2.2.cell (p:=⟨_,_,V⟩) H Q3⟩;have T:=X q;have R:=X y;clear q y Q1 A hl d HC c0 c1 c2 c3 c4 S a hW E I;go_wp2;go_region_held3λW=>W.cell? ⟨w.heap.size,0,V⟩=U (aE n)∧W.cell? ⟨w.heap.size,1,V⟩=U (aE f)∧W.cell? ⟨w.heap.size,2,V⟩=U (Y aG<|k+1)∧W.cell? ⟨w.heap.size,3,V⟩=U (Y aG id)∧W.cell? ⟨w.heap.size,4,V⟩=U (aE v)∧W.cell? ⟨p,1,V⟩=U (bW<|U m)(go_keep)((first|(go_at_call 101;refine jm T.out ?_;rintro e w3⟨rfl,hx,Q1,A⟩)));go_wp2;go_end0;obtain⟨Q0,D⟩:=hx.out;refine⟨rfl,?_,?_⟩;·rw[<-QX.out];exact R.out▸Q0
 ·exact(O.iH (F:=λb=>b=m) HH.out.below).trans<|(O.drew _ _).trans D
def Vw(w:ax)(v:az)(k:Int)(s:ByteArray):Prop:=v=nO/\k=0/\s=⟨#[]⟩\/∃q,v=iK 132 (aF<|U ⟨q,0,V⟩)/\w.heap[q]?=U (aH #[Y aG k,aE s] 137 (0,0))/\1<=k/\k<=5
def og(L:List s)(id:Int)(n f v:ByteArray):List s×Int×ByteArray:=if ld n 8 then if ld f 4 then if 20<v.size then(L,3,v)else(fE L ⟨n,f,gP L+1,id,v⟩,0,⟨#[]⟩)else(L,2,f)else(L,1,n)
def rA(L:List s)(id:Int)(n:ByteArray):List s×Int×ByteArray:=if ld n 8 then if(jC L n).isEmpty then(L,4,n)else(fE L ⟨n,⟨#[]⟩,gP L+1,id,⟨#[]⟩⟩,0,⟨#[]⟩)else(L,1,n)
theorem WL{s}{k}(h:ld s k=Z):s.size<=k:=by simp only[ld,cG,eU]at h;exact h.2
theorem Pm{m}{k}{L}{w W w'}{s}(d:cI w m L)(a:aY w w W)(c:w'=W.alloc (aH #[Y aG k,aE s] 137))(e:1<=k)(f:k<=5):Vw w' (iK 132<|aF W) k s/\cI w' m L/\O (λb=>b=m) w w':=by subst c;exact⟨aB ⟨_,rfl,gI _ _,by omega,by omega⟩,(d.below a).alloc _,(O.iH a).trans<|O.alloc _ _ _⟩
theorem avX(p)(id)(m g)(L)(n f v)(w)(F:fq w p id m g)(C:cI w m L)(G:n.size<=65536)(I:f.size<=65536)(E:gP L<9223372036854775807):bz Q 43 #[aF p,aE n,aE f,aE v] w λe h=>∃A,e=bj A/\Vw h A (og L id n f v).2.1 (og L id n f v).2.2/\cI h m (og L id n f v).1/\O (λb=>b=m) w h:=by
 have j:dx<|bz Q 64 #[n,Y aG 8] w λe h=>e=bj (ld n 8)/\aY w w h:=X (ZH n 8 w G<|by omega);have k:dx<|∀W,bz Q 64 #[f,Y aG 4] W λe h=>e=bj (ld f 4)/\aY W W h:=X λW=>ZH f 4 W I (by omega);have q:=X alC;have l:=X C;have z:=X F;cases r:ld n 8 with|false=>
  have i:og L id n f v=(L,1,n):=by grind[og]
  rw[r]at j;rw[i];go_enter QO,ntmps43;go_wp2_with(first|(go_at_call 64;with_reducible refine j.out.mono ?_;rintro e s⟨rfl,c⟩)|(go_at_call 65;refine(q.out _ _ _).mono ?_;rintro e x⟨rfl,J⟩));go_ret;exact⟨_,rfl,Pm (k:=1) l.out c (by grind) (by omega)<|by omega⟩|true=>rw[r]at j;cases u:ld f 4 with|false=>
   have i:og L id n f v=(L,2,f):=by grind[og]
   rw[u]at k;rw[i];go_enter QO,ntmps43;go_wp2_with(first|(go_at_call 64;with_reducible refine j.out.mono ?_;rintro e s⟨rfl,c⟩)|(go_at_call 64;with_reducible refine(k.out _).mono ?_;rintro e x⟨rfl,d⟩)|(go_at_call 65;refine(q.out _ _ _).mono ?_;rintro e B⟨rfl,o⟩));go_ret;exact⟨_,rfl,Pm (k:=2) l.out (c.trans<|d.mono c.size) (by grind) (by omega)<|by omega⟩|true=>
   rw[u]at k;by_cases h3:20<v.size
   .have i:og L id n f v=(L,3,v):=by grind[og]
    rw[i];go_enter QO,ntmps43;go_wp2_with(first|(go_at_call 64;with_reducible refine j.out.mono ?_;rintro e s⟨rfl,c⟩)|(go_at_call 64;with_reducible refine(k.out _).mono ?_;rintro e x⟨rfl,d⟩)|(go_at_call 65;refine(q.out _ _ _).mono ?_;rintro e B⟨rfl,o⟩));go_ret;exact⟨_,rfl,Pm (k:=3) l.out (c.trans<|d.mono c.size) (by grind) (by omega)<|by omega⟩
   .have i:og L id n f v=(fE L ⟨n,f,gP L+1,id,v⟩,0,⟨#[]⟩):=by grind[og]
    have D:=X λW y=>ade p id m g L n f v 0 0 W ((y.block p z.out.lt).trans z.out) (l.out.below y) (by have:=WL r;omega) (by have:=WL u;omega) (X E).out;rw[i];go_enter QO,ntmps43;go_wp2_with(first|(go_at_call 64;with_reducible refine j.out.mono ?_;rintro e s⟨rfl,c⟩)|(go_at_call 64;with_reducible refine(k.out _).mono ?_;rintro e x⟨rfl,d⟩)|(go_at_call 66;refine(D.out _<|c.trans<|d.mono c.size).mono ?_;rintro e B⟨rfl,t,H⟩));go_ret;exact⟨_,rfl,ay ⟨rfl,rfl,rfl⟩,t,(O.iH<|c.trans<|d.mono c.size).trans H⟩
theorem aEF(p)(id)(m g)(L)(n)(w)(q:fq w p id m g)(C:cI w m L)(x:n.size<=65536)(G:L.length<=1073741824)(F:gP L<9223372036854775807):bz Q 46 #[aF p,aE n] w λe i=>∃v,e=bj v/\Vw i v (rA L id n).2.1 (rA L id n).2.2/\cI i m (rA L id n).1/\O (λb=>b=m) w i:=by
 have f:dx<|bz Q 64 #[n,Y aG 8] w λe i=>e=bj (ld n 8)/\aY w w i:=X (ZH n 8 w x<|by omega);have y:=X alC;have o:=X C;have u:=X q;have d:=q.lt;have h:=q.cell.2.1;cases s:ld n 8 with|false=>
  have j:rA L id n=(L,1,n):=by grind[rA]
  rw[s]at f;rw[j];go_enter Wn,ntmps46;go_wp2_with(first|(go_at_call 64;with_reducible refine f.out.mono ?_;rintro e z⟨rfl,a⟩)|(go_at_call 65;refine(y.out _ _ _).mono ?_;rintro e B⟨rfl,J⟩));go_ret;exact⟨_,rfl,Pm (k:=1) o.out a (by grind) (by omega)<|by omega⟩|true=>rw[s]at f;have x:=WL s;have l:=X λW k=>anv m L n W (o.out.below k) G (by omega);cases A:(jC L n).isEmpty with|true=>
   have j:rA L id n=(L,4,n):=by grind[rA]
   rw[A]at l;rw[j];go_enter Wn,ntmps46;go_wp2_with(first|(go_at_call 64;with_reducible refine f.out.mono ?_;rintro e z⟨rfl,a⟩;have r:=(a.cell (p:=⟨p,1,V⟩) d).trans h)|(go_at_call 69;refine(l.out _ a).mono ?_;rintro e B⟨rfl,c⟩)|(go_at_call 65;refine(y.out _ _ _).mono ?_;rintro e H⟨rfl,D⟩));go_ret;exact⟨_,rfl,Pm (k:=4) o.out (a.trans<|c.mono a.size) (by grind) (by omega)<|by omega⟩|false=>
   have j:rA L id n=(fE L ⟨n,⟨#[]⟩,gP L+1,id,⟨#[]⟩⟩,0,⟨#[]⟩):=by grind[rA]
   rw[A]at l;have E:=X λW k=>ade p id m g L n ⟨#[]⟩ ⟨#[]⟩ 0 0 W ((k.block p u.out.lt).trans u.out) (o.out.below k) (by omega) (by decide) (X F).out;rw[j];go_enter Wn,ntmps46;go_wp2_with(first|(go_at_call 64;with_reducible refine f.out.mono ?_;rintro e z⟨rfl,a⟩;have r:=(a.cell (p:=⟨p,1,V⟩) d).trans h)|(go_at_call 69;refine(l.out _ a).mono ?_;rintro e B⟨rfl,c⟩)|(go_at_call 66;refine(E.out _<|a.trans<|c.mono a.size).mono ?_;rintro e H⟨rfl,t,I⟩));go_ret;exact⟨_,rfl,ay ⟨rfl,rfl,rfl⟩,t,(O.iH<|a.trans<|c.mono a.size).trans I⟩
theorem ax5(w):(Lt 107 V).run Q w=aW (bW w) (w.alloc<|iY #[] 0):=by kernel_rfl
theorem ax4(w):(Lt 108 V).run Q w=aW (bW w) (w.alloc<|iY #[] 0):=by kernel_rfl
theorem ax3(w):(Lt 208 V).run Q w=aW (bW w) (w.alloc<|iY #[] 0):=by kernel_rfl
theorem axl(id)(w):bz Q 50 #[Y aG id] w λe b=>e=bj (aF<|U ⟨w+2,0,V⟩)/\fq b (w+2) id w (w+1)/\cI b w []/\cU (qY aG) b (w+1) []/\aY w w b:=by
 have d:=ax5;have c:=ax4;go_enter apV,ntmps50;go_wp2;go_ret;refine⟨rfl,?_,?_,?_,(((dK _ _).alloc (aQ _) _).alloc (by simp) _).alloc (by simp;omega) _⟩;.have:=gI ((w.alloc<|iY #[] 0).alloc<|iY #[] 0)<|aH #[id,bW<|U w,bW<|U<|w+1] 110;rw[vt,vt]at this;exact this
 .exact((cU.new iI w).alloc _).alloc _
 .have:=(cU.new (qY aG)<|w.alloc<|iY #[] 0).alloc<|aH #[id,bW<|U w,bW<|U<|w+1] 110;grind[World.size_alloc]
theorem aEA(p)(id)(m g)(L)(pfx)(w)(f:fq w p id m g)(k:cI w m L)(l:L.length<=1073741824)(s:fx w)(t:∀x∈L,Fit x):bz Q 38 #[aF p,aE pfx] w λe y=>e=bj (iy<|C<|ep L pfx)∧aY w w y:=by
 have u:=f.lt;have H:=f.cell.2.1;have r:dx<|bz Q 51 #[bW<|U m,pfx] (w.alloc<|aH #[Y aq 0,Y aq 0,Y aq 0,Y aq 0,Y aq 0,Y aq 0,Y aq 0,Y aq 0] 76) _:=X<|UF m L pfx _ (k.alloc _) l (s.keep (O.alloc (λ_=>False) _ _) λh=>h) t;obtain⟨h,o⟩:=ex<|C<|ep L pfx;rw[<-o]at r⊢;clear f k l s t o;go_enter apY,ntmps38;go_wp2_with(go_at_call 51;refine r.out.mono ?_;rintro e b⟨rfl,n⟩;refine Halt.of ?_);have a:=(n.block _<|by simp).trans<|gI _ _;have B:b.cell? w=U (Y aq 0):=M a 0;have J:b.cell? ⟨w,1,V⟩=U (Y aq 0):=M a 1;have P:b.cell? ⟨w,2,V⟩=U (Y aq 0):=M a 2;have F:b.cell? ⟨w,3,V⟩=U (Y aq 0):=M a 3;have G:b.cell? ⟨w,4,V⟩=U (Y aq 0):=M a 4;have E:b.cell? ⟨w,5,V⟩=U (Y aq 0):=M a 5;have A:b.cell? ⟨w,6,V⟩=U (Y aq 0):=M a 6;have D:b.cell? ⟨w,7,V⟩=U (Y aq 0):=M a 7;have v:∀i,b.frozen? ⟨w,i,V⟩=ai:=by grind[Joins.unfrozen_of_block]
 have q:=cH.mk a n;unfold iy;unfold Halt;go_wp2;generalize j:jL _ _ _=I;obtain⟨c,d⟩:=j▸((((((((uO.mk q.a<|O.refl _ _).set 0 _).set 1 _).set 2 _).set 3 _).set 4 _).set 5 _).set 6 _).set 7 _;simp only[eE,eD,eu]at c;refine tV (results_cell_row rfl _ _ w 76 _ (0,0) _ rfl c QK rfl<|by kernel_rfl) rfl ?_;exact⟨rfl,FG (((dK _ _).alloc (aQ _) _).trans<|q.b.mono<|by simp) d λx z e=>by omega⟩
attribute [local go_sem] Oper.semAt_some
theorem avV{es:List<|ByteArray×az}{k}{v}{p}(h:p∈put es k v):p=(k,v)\/p∈es:=by induction es with|nil=>grind[put]|cons q l a=>grind[put]
theorem cU.nodup{w}{m}{es}(h:cU iI w m es):(es.map (·.1)).Nodup:=by obtain⟨c,a,_,b⟩:=h;exact b.nodup
theorem ao1(m)(w):bz Q 122 #[bW<|U m] w λe a=>e=bj (dF (ei 184) #[] #[aF w])/\a=w.alloc (aH #[bW m] 107):=by go_enter aqR,ntmps122;go_wp2;go_ret;exact⟨rfl,rfl⟩
theorem azj(m)(w):bz Q 124 #[bW<|U m] w λe a=>e=bj (dF (ei 187) #[] #[aF w])/\a=w.alloc (aH #[bW m] 208):=by go_enter aqP,ntmps124;go_wp2;go_ret;exact⟨rfl,rfl⟩
theorem aoq(w):(kQ 3).run Q w=aW (Y aG 0) w:=by kernel_rfl
structure Vq(N:Nat)(pre:List s)(W:ax)(D:Nat->Prop)(es:List<|ByteArray×az):Prop where
 map:cU iI W N es
 keys:∀x,x∈es.map (·.1)↔∃y∈pre,y.name=x
 VT:∀p∈es,∃z,p.2=Y aG z
 box:W.heap[N+1]?=U (aH #[bW<|U N] 208 (0,0))eI:D=λb=>b=N∨b=N+1
theorem Vq.owned(N):qM λa W D=>∃es,Vq N a W D es:=⟨λa W D⟨es,h⟩b d=>by
  rw[h.eI]at d;rcases d with rfl|rfl;.exact h.map.lt
  .exact(eX.1 h.box).1,λa W D e⟨es,h⟩c=>⟨es,h.map.of_block<|c.block _<|by rw[h.eI];simp,h.keys,h.VT,(c.block _<|by rw[h.eI];simp).trans h.box,h.eI⟩⟩
theorem ayf{es:List<|ByteArray×az}(h:∀p∈es,∃z,p.2=Y aG z)(k):∃z,(look es k).getD (Y aG 0)=Y aG z:=by induction es with|nil=>exact⟨0,rfl⟩|cons q l b=>
  unfold look;split;.obtain⟨z,a⟩:=h q (by simp);grind
  grind
theorem axp(m)(L)(w)(hB:cI w m L)(hL:L.length<=1073741824):bz Q 70 #[bW m] w λe w'=>∃v f,e=bj v∧f.Nodup∧(∀n,n∈f↔∃y∈L,y.name=n)∧w'.ownsRow w 9 1 v f.length ((gy f).map aE)∧aY w w w':=by
 have zu:=hB.lt;have h8:=ax3;refine callsIn_wide (n:=0).1<|callsIn_of_wp_marks apL rfl trivial ?_ rfl;simp only[ntmps70,rW,oT,lF,vV,vU,tZ,tY,tX,tW,rV,oV];gi_wp2_with(gi_at_call 122;refine(callsIn_wide.2<|ao1 m _).mono ?_;rintro e t⟨rfl,E⟩;have I:=X E;clear E);have QX:aY w w t:=by rw[I.out];exact(((dK _ _).alloc (aQ _) _).alloc (by simp) _).alloc (by simp;omega) _
 have c:t.heap.size=w+3:=by rw[I.out];simp
 have o9:=(X hB).out.below QX;have je:t.heap[w.heap.size+1]?=U (aH #[bW w] 208 (0,0)):=by rw[I.out];simp only[qF];grind
 have r:t.cell? ⟨w+1+1,0,V⟩=U (bW m):=by rw[I.out];go_simp
 have Q0:=axY (w.heap.size+1+1) m L t r o9;refine wp_rangeFunc (gf:=184) (lb:=#[aF<|U ⟨w.heap.size+1+1,0,V⟩]) rfl (Bd adN rfl<|by decide) Q0 λb j=>by grind (λ_=>rfl) (λN W D=>∃es,Vq w N W D es) (λ_ _ _ _=>False) (Vq.owned _) (λ_=>⟨λ_ _ _ h=>h.elim,λ_ _ _ _ h=>h.elim⟩) (λb=>b=w∨b=w+1) (λb j=>?wW) ⟨[],by rw[I.out];exact((cU.new iI w).alloc _).alloc _,by simp,by simp,je,rfl⟩ ?round ?done ?stop;case wW=>grind
 case stop=>grind
 case done=>
  rintro f W D Cp⟨es,q⟩AX hK rq;have hq:=q.box;have S:=q.eI;subst S;have zC:=(eX.1 hq).1;have q0:W.cell? ⟨w+1,0,V⟩=U (bW w):=M hq 0;have H:=AX.below QX (λb j=>by grind);have G:es.length<=1073741824:=by have h1:=(q.map.nodup).length_le_of_subset (l₂:=L.map (·.name)) (λa ha=>by obtain⟨y,hy,rfl⟩:=(q.keys a).1 ha;grind);grind
  have hS:dx (∀v i,i.ownsRow W 9 1 v es.length ((gy (es.map (·.1))).map aE)->aY W W i->∀f:List ByteArray,f=es.map (·.1)->(i.putObj t<|uA V).ownsRow w 9 1 v f.length ((gy f).map aE)∧f.Nodup∧(∀n,n∈f↔∃y∈L,y.name=n)∧aY w w (i.putObj t<|uA V)∧i.heap[t.heap.size]?=U (uA<|U [])):=X λv i u j f Q2=>by
   subst Q2;have Q1:=(eX.1 hK).1;refine⟨?_,q.map.nodup,λn=>?_,IL (H.trans<|j.mono H.size) (by omega) _,(j.block _ Q1).trans hK⟩;·rw[Cb];exact dB (BP u λg F=>by have:=(u.lt g F).1;grind) λg F=>qX<|by have:=(u.lt g F).1;omega
   ·rw[q.keys];grind
  have hM:=X q.map;gi_wp2_with(first|(gi_at_call 124;refine(callsIn_wide.2<|azj w _).mono ?_;rintro e i⟨rfl,d⟩;have K:=X d;clear d;refine Halt.of ?_));have d:=K.out;have J:cU iI i w es:=by rw[d];exact hM.out.alloc _
  have lT:i.heap.size=W+1:=by rw[d];simp
  have o:aY W W i:=by rw[d];exact(dK _ _).alloc (aQ _) _
  have r:i.cell? W=U (bW w):=by rw[d];go_simp
  have HC:=X (aev 187 #[aF<|U W.heap.size] _ _ i (Bd adM rfl<|by decide) (ax0 W w es hM.out.nodup i r J) λb j=>by grind λf Q2=>by rw[Q2.length_eq,Cb];exact(X G).out);have QY:=X o;clear J o r d K;unfold Halt;gi_wp2_with(first|(gi_at_call 123;go_must(refine(callsIn_wide.2 HC.out).mono ?_);rintro e w3⟨f,v,rfl,B,u,Q3⟩;refine Halt.of ?_));have QW:f.length=es.length:=by rw[B.length_eq,Cb]
  rw[aeA B,QW]at u;have A:=X<|hS.out v w3 (BP u λg F=>by have:=(u.lt g F).1;omega) (QY.out.trans<|Q3.mono QY.out.size) _ rfl;rw[c]at A;unfold Halt;gi_wp2;refine⟨by simp,ay ⟨_,_,rfl,vp A.out.2.2.2.2,?_⟩⟩;exact⟨_,results_tmp rfl _ _ _,v,_,rfl,A.out.2.1,A.out.2.2.1,A.out.1,A.out.2.2.2.1⟩
 case round=>
  rintro l N⟨C,xf,xc,xr,xv⟩W D AN vG o8⟨ju,hS⟩⟨es,q⟩xm;unfold s.val;have QZ:=X q;have zC:=(eX.1 q.box).1;have S:=q.eI;subst S;gi_wp2;refine⟨⟨O.alloc _ _ _,λb j=>j.imp id (·.1)⟩,λT k=>?_⟩;have c0:T.cell? W=U C:=M ((k.block _<|by omega).trans<|gI _ _) 0;have kb:=λb j=>(k.block b λe=>o8<|e▸j).trans (dr _ _ _<|by grind);have o:=(kb _<|aB rfl).trans QZ.out.box;have q0:T.cell? ⟨w+1,0,V⟩=U (bW w):=M o 0;obtain⟨z,hz⟩:=ayf QZ.out.VT C;have R:=cH.mk (QZ.out.map.of_block<|kb _<|ay rfl) o;have aIS:T.heap.size=W+1:=by rw[k.size];simp
  gi_wp2_with(first|(gi_at_lookup;refine adf _ iI rfl _ _ 208 rfl 9 3 Wh qP _ (aoq _) w es C rfl R.a rfl ?_;rw[(X hz).out])|(gi_at_mapUpdate;refine aoG _ iI rfl _ _ _ 208 rfl 9 3 Wh qP w es C _ rfl R.a rfl rfl ?_;intro w3 hM3 P hs3));refine⟨_,⟨put es C _,hM3,λx=>?_,λp B=>?_,(P.block _ (by omega)<|by omega).trans R.b,rfl⟩,P.mono λb _ h=>ay<|ay h,λb j=>ay<|ay j⟩
  ·rw[aga,QZ.out.keys];constructor
   ·rintro(h|⟨y,hy,rfl⟩);·exact⟨⟨C,xf,xc,xr,xv⟩,by simp,h.symm⟩
    grind
   grind
  ·rcases avV B with rfl|B;·exact⟨_,rfl⟩
   ·exact QZ.out.VT p B
theorem ahg(W:ax)(b:List az)(T:Nat){o}(c:o=aH b.toArray T (0,0)):∀j u,b[j]?=U u->(W.alloc o).cell? ((W:eF).add j)=U u:=λj u h=>by
 subst c;have:=M (gI W<|aH b.toArray T (0,0)) j;have e:(W:eF).add j=⟨W,j,V⟩:=by unfold Addr.add;grind
 grind
theorem app1{P:bZ}{ops:Array dG}{rest}{o:dG}{a:Act}{Q}{s x:ja}{t e T:dV}{z v:az}{B m k n b:Nat}{xs news:List az}{W:ax}(c:o.guard=V)(d:o.op=.call {callee:=.builtin .append,args:=#[s,x],argTypes:=#[t,t]})(f:P.underlying t=U (.slice e))(g:(P.info? e).map (λi=>(i.zero,i.size,i.bytes))=U (U z,m,k))(h:(z.cells.size==m&&bP (0<m)&&bP (0<k))=Z)(i:a.eval s=v)(j:(W.alloc<|aH news.toArray T).ownsRow B e m v n xs)(p:a.eval x=aC (U ⟨b,0,V⟩) 1 1)(q:b=W.heap.size)(r:news.length=1*m)(u:news.all A5=Z)(y:(n+1)*k<=140737488355328)(l:B<=(W.alloc<|aH news.toArray T).heap.size)(H:∀v' w',w'.ownsRow B e m v' (n+1) (xs++news)->(W.alloc<|aH news.toArray T).grownBy w' v.ownBlock->(v'=aC V 0 0↔v=aC V 0 0/\1=0)->v'.ownBlock=v.ownBlock\/v'.ownBlock=U (W.alloc<|aH news.toArray T).heap.size->wpList P ops Q rest (a.put o.dst v') w'):wpList P ops Q (o::rest) a<|W.alloc<|aH news.toArray T:=by obtain⟨A,C,D,E,F⟩:=tT g;simp only[cG,lQ,eU]at h;subst q;exact wpList_append_own_at _ c s x t d B e A z m k f C D E F h.1.1 h.1.2 v n xs i j _ 1 1 news p r (ahg W news T rfl) (ND.1 u) (by have:=Nat.le_mul_of_pos_right (n+1) h.2;unfold vQ;omega) y l H
end
end Go.Proofs.YtpdbmpbmepkikaaGreatDoor
set_option maxRecDepth 100000
namespace Go.Proofs.YtpdbmpbmepkikaaGreatDoor
section
open Go.RowKit
theorem BY{W:ax}{b}(c:b=W.heap.size)(a:List az)(T:Nat){o}(d:o=aH a.toArray T (0,0)):∀j u,a[j]?=U u->(W.alloc o).cell? ((b:eF).add j)=U u:=by grind[ahg]
abbrev Vp(w1:ax)(v:az)(l:List ByteArray)(W:ax):Prop:=wm w1 9 1 v l.length (l.map aE) W
def wc(w:ax)(v:az)(l:List ByteArray):Prop:=w.ownsRow 0 9 1 v l.length<|l.map aE
theorem wc.cell{w}{v}{l}(h:wc w v l){j}(e):∃g b,v=aC (U ⟨g,0,V⟩) l.length b/\g<w/\w.cell? ⟨g,j,V⟩=U (aE l[j]):=by
 obtain⟨o,d⟩:=h;rcases d with⟨_,d⟩|⟨g,b,i,f,_,c,m,_,_,n⟩;.omega
 .refine⟨g,b,f,(eX.1 c).1,?_⟩;have:=M c j;rw[this];have k:(l.map aE)[j]?=U l[j]:=by simp[e]
  grind
theorem wc.slice{w}{v}{l}(h:wc w v l):∃b a,v=aC b l.length a:=by rcases h.2 with⟨rfl,d⟩|⟨q,a,c,rfl,_⟩;all_goals grind
theorem wc.JW{w}{base}{v}{l}(h:w.ownsRow base 9 1 v l.length<|l.map aE):wc w v l:=BP h λ_ _=>Nat.zero_le _
theorem aDB{p}{l:List ByteArray}{j}(a):(l.take<|j+1).filter p=if p l[j]then(l.take j).filter p++[l[j]]else(l.take j).filter p:=by rw[wS,Cd];grind
theorem axq(p)(id)(m g0)(L)(pfx)(w)(hR:fq w p id m g0)(hB:cI w m L)(hL:L.length<=1000000)(b:∀x∈L,x.name.size<=4096):bz Q 47 #[aF p,aE pfx] w λe W=>∃v z,e=bj v∧z.Nodup∧(∀n,n∈z↔∃y∈L,y.name=n)∧W.ownsRow w 9 1 v ((gy z).filter λn=>preB pfx n&&!(jC L n).isEmpty).length (((gy z).filter λn=>preB pfx n&&!(jC L n).isEmpty).map aE)∧aY w w W:=by
 have Q3:=hR.lt;have KJ:=hR.cell.2.1;have HC:=X (axp m L w hB<|by omega);have HB:=X hB;have HN:=X b;go_enter apW,ntmps47;go_wp2_with(go_at_call 70;refine HC.out.mono ?_;rintro e w1⟨v,z,rfl,s,l,Q0,G⟩;refine Halt.of ?_);have P:z.length<=1000000:=by have h1:=s.length_le_of_subset (l₂:=L.map (·.name)) (λa ha=>by grind);grind
 obtain⟨t,r⟩:=ex<|gy z;have H:t.length=z.length:=by grind[Js]
 rw[<-r,<-H]at Q0;have S:∀n∈t,n.size<=4096:=λn b=>by rw[r]at b;obtain⟨y,hy,rfl⟩:=(l n).1<|(Gi z).subset b;exact HN.out y hy
 obtain⟨ad0,O,hv⟩:=(wc.JW Q0).slice;subst hv;have HS:=X<|wc.JW Q0;have HX:=uJ.mk s l r G;have HSN:=X S;have hp2:=(G.cell (p:=⟨p,1,V⟩) Q3).trans KJ;have K:=cB Q3 G.size;have M:=G.size;rw[<-H]at P;clear s l r G Q0 S H HC;unfold Halt;go_wp2;go_loopg[5,14]t.lengthλk F i wr=>∃(ov:az)(j:Nat)(o:List ByteArray),ov=F∧i=Y aG j∧k+j=t.length∧o=(t.take j).filter λn=>preB pfx n&&!(jC L n).isEmpty∧Vp w1 ov o wr;case atStart=>grind[wm.new]
 case round=>
  obtain⟨F,j,o,rfl,rfl,hk,q,d⟩:=hrel;by_cases hj:j<t.length
  ·obtain⟨g,cap,hv,hg,y0⟩:=HS.out.cell hj;obtain⟨rfl,rfl⟩:ad0=U ⟨g,0,V⟩∧O=cap:=by grind
   have c:=aDB (p:=λn=>preB pfx n&&!(jC L n).isEmpty) hj;rw[<-q]at c;have TO:o.length<=j:=by rw[q];exact bC (AE _ _)<|by rw[List.length_take];exact Nat.min_le_left _ _
   have R:=HSN.out t[j]<|nC hj;obtain⟨n,N⟩:=ex t[j];rw[<-N]at c y0 R;have z0:=(d.below.cell (p:=⟨_,_,V⟩) hg).trans y0;have zp:=(d.below.cell (p:=⟨_,_,V⟩) K).trans hp2;obtain⟨T,h⟩:∃T:List az,T=o.map aE:=⟨_,rfl⟩;obtain⟨Q2,f⟩:=ex o.length;have HO:dx<|wm w1 9 1 F Q2 T wr:=X (by rw[f,h];exact d);have E:=gR.mk h f c;rw[<-f]at TO;have C:=anv m L n wr (HB.out.below<|HX.d.trans<|d.below.mono M) (by omega) R;obtain⟨al,u⟩:=ex !(jC L n).isEmpty;rw[<-u]at C;obtain⟨Q1,I⟩:=ex<|preB pfx n;have D:=Wj n pfx wr;rw[show Iz n.data.toList pfx.data.toList=Q1 from I.symm]at D;have HA:=X C;have HP:=X D;have J:=cH.mk u I;clear h f c q d y0 hv C D u I N;cases Q1 with
   |false=>
    go_wp2_with(go_at_call 71;refine HP.out.mono ?_;rintro e W⟨rfl,B⟩;subst B);go_roundg(gk-1);case rel=>
     have⟨h,f,c⟩:=E;refine⟨_,j+1,o,rfl,by go_simp,by omega,?_,?_⟩;·rw[c];simp only[<-J.a,<-J.b];simp
     ·unfold Vp;rw[<-h,<-f];exact HO.out
    case measure=>omega|true=>go_wp2_with(first|(go_at_call 71;refine HP.out.mono ?_;rintro e W⟨rfl,B⟩;subst B)|(go_at_call 69;refine HA.out.mono ?_;rintro e w2⟨rfl,uq⟩;refine Halt.of ?_));have A:=X<|HO.out.later uq;cases al with
    |false=>
     unfold Halt;go_wp2;go_roundg(gk-1);case rel=>
      have⟨h,f,c⟩:=E;refine⟨_,j+1,o,rfl,by go_simp,by omega,?_,?_⟩;·rw[c];simp only[<-J.a,<-J.b];simp
      ·unfold Vp;rw[<-h,<-f];exact A.out
     case measure=>omega|true=>
     unfold Halt;go_wp2_with(at_builtin;go_must(refine app1 rfl rfl By Cj rfl rfl (A.out.alloc _).row rfl (by first|rfl|simp) rfl rfl (by omega) (by have:=A.out.below.size;simp;omega) ?_);intro v5 w5 hr5 hg5 _ _;refine Halt.of ?_);unfold Halt;go_wp2;go_roundg(gk-1);case rel=>
      obtain⟨h,f,c⟩:=E;have e1:(o++[n]).length=Q2+1:=by grind
      have e2:(o++[n]).map aE=T++[aE n]:=by grind
      refine⟨_,j+1,o++[n],rfl,by go_simp,by omega,?_,?_⟩;·rw[c];simp only[<-J.a,<-J.b];simp
      ·unfold Vp;rw[e1,e2];exact(A.out.alloc _).append hg5 hr5
     case measure=>omega
  ·have kP:j=t.length:=by omega
   subst kP;rw[List.take_length]at q;go_wp2;go_ret;obtain⟨q,d⟩:=(X<|aM q d).out;obtain⟨s,l,r,G⟩:=HX;refine⟨_,z,rfl,s,l,?_,G.trans<|d.below.mono M⟩;rw[<-r,<-q];exact BP d.row λg hg=>by have:=(d.row.lt g hg).1;omega
def lJ(l:List s):List ByteArray:=l.flatMap λx=>[x.field,x.value]
theorem abr(l):(lJ l).length=2*l.length:=by induction l with|nil=>rfl|cons x l a=>grind[lJ,List.length_append]
theorem abt{l}{j}(b):(lJ l)[2*j]?=l[j].field/\(lJ l)[2*j+1]?=l[j].value:=by induction l generalizing j with|nil=>grind|cons x l a=>show([x.field,x.value]++lJ l)[2*j]?=_/\([x.field,x.value]++lJ l)[2*j+1]?=_;cases j with|zero=>grind|succ j=>grind
structure P7(bo bn bk bl:Nat)(ok no:Bool)(k:Int)(lv:az)(W:ax):Prop where ok:W.heap[bo]?=U (aH #[cx ok] 4 (0,0))no:W.heap[bn]?=U (aH #[cx no] 4 (0,0))k:W.heap[bk]?=U (aH #[Y aG k] 3 (0,0))l:W.heap[bl]?=U (aH #[lv] 51 (0,0))
theorem aDE(d c i bl)(F)(j)(A)(J:F.length<=1000000)(w)(W)(h:P7 d c i bl Z ai (2*j:Nat) w W)(s:wc W w<|lJ F)(H:d≠c∧d≠i∧d≠bl∧c≠i∧c≠bl∧i≠bl):bz Q 45 #[F[j].field,F[j].value,aF d,aF c,aF i,aF bl] W λe B=>e=bj (bP<|2*j+2<=F.length)∧P7 d c i bl Z (bP<|F.length<2*j+2) (2*(j+1):Nat) w B∧O (λb=>b=d∨b=c∨b=i) W B:=by
 obtain⟨K,L⟩:=abt A;have a:=abr F;have t:2*j+1<(lJ F).length:=by omega
 obtain⟨g,u,r,l,D⟩:=s.cell (j:=2*j) (by omega);obtain⟨g',x,m,G,E⟩:=s.cell (j:=2*j+1) (by omega);rw[r]at m;simp only[Value.slice.injEq,dX,Addr.mk.injEq,and_true,true_and]at m;obtain⟨rfl,rfl⟩:=m;have z:(lJ F)[2*j]=F[j].field:=by grind
 have y:(lJ F)[2*j+1]=F[j].value:=by grind
 rw[z]at D;rw[y]at E;obtain⟨f,C⟩:=ex F[j].field;obtain⟨v,o⟩:=ex F[j].value;rw[<-C]at D⊢;rw[<-o]at E⊢;obtain⟨n,p⟩:=ex F.length;rw[<-p]at a A J⊢;rw[a]at r t;subst r;have N:W.cell? d=U (cx Z):=M h.ok 0;have a1:W.cell? c=U (cx ai):=M h.no 0;have Q3:W.cell? i=U (Y aG (2*j:Nat)):=M h.k 0;have P:W.cell? bl=U (aC g (2*n) u):=M h.l 0;have Q2:=vo h.ok 0;have QW:=vo h.no 0;have S:=vo h.k 0;obtain⟨k,Q0,V,R,T,Q1⟩:=H;have q:=X h;clear s z y K L h C o p a;go_enter adG,ntmps45;go_wp2;go_ret;have I:bP ((n:Int)<2*(j:Int)+2)=bP (n<2*j+2):=by grind
 refine⟨yK ?_,⟨?_,?_,?_,?_⟩,?_⟩;·grind
 ·rw[gJ _ _ _ _<|by grind,gJ _ _ _ _<|by grind];exact An q.out.ok
 ·rw[I];refine An (v:=cx ai) ?_;rw[gJ _ _ _ _<|by grind,gJ _ _ _ _<|by grind];exact q.out.no
 ·rw[gJ _ _ _ _<|by grind];rw[show((2*(j+1):Nat):Int)=2*(j:Int)+2 by omega];refine An (v:=Y aG (2*j:Nat)) ?_;rw[gJ _ _ _ _<|by grind];exact q.out.k
 ·rw[gJ _ _ _ _<|by grind,gJ _ _ _ _<|by grind,gJ _ _ _ _<|by grind];exact q.out.l
 ·exact((O.setCell (F:=λb=>b=d∨b=c∨b=i) _ _ _<|ay rfl).trans<|O.setCell _ _ _<|aB<|aB rfl).trans<|O.setCell _ _ _<|aB<|ay rfl
end
section
open Go.RowKit Go.Extern.Stop Go.Stop Go.Extern
theorem aF0(t)(w):(Ps<|iK 134<|aF<|U t).run Q w=aW (bO #[aF<|U ⟨7,134,V⟩,aF w,Y cP 150]) (w.alloc<|aH #[aF t] 134):=by kernel_rfl
theorem aF3(a)(w):(UX (CU "reflectlite.Value.Type" 0) (λt _ _ _=>UU t) #[bO #[aF<|U ⟨7,134,V⟩,aF<|U a,Y cP 150]]).run Q w=aW (iK 264<|bO #[aF<|U ⟨7,134,V⟩]) w:=by kernel_rfl
theorem aF8(h)(w):(CX 476 264 (bO #[h]) "Kind").run Q w=aW (278,h) w:=by kernel_rfl
theorem aGc(w):((ab5 λt=>Functor.map (λa:Nat=>Y aq a)<|Lp t) #[aF<|U ⟨7,134,V⟩]).run Q w=aW (Y aq 22) w:=by kernel_rfl
theorem aGd(w):((ab5 λt=>Functor.map (λa:Nat=>Y aq a)<|Lp t) #[aF<|U ⟨7,132,V⟩]).run Q w=aW (Y aq 22) w:=by kernel_rfl
theorem rlm(z)(f)(v):CV z f #[v]=(do match<-Iy v with|none=>z|some (t,a,c)=>f t a c<|c%32):=rfl
theorem ann(a)(w):(Iy<|bO #[aF<|U ⟨7,134,V⟩,aF<|U a,Y cP 150]).run Q w=aW (U (134,a,150)) w:=by kernel_rfl
theorem aGe(a p)(W)(b:W.cell? a=U (.pointer<|U p)):(CV (CU "reflectlite.Value.IsNil" 0) UR #[.agg #[.pointer<|U ⟨7,134,V⟩,.pointer<|U a,.int .u64 150]]).run Q W=.ok ai W:=by rw[rlm];simp only[gK,ann,l6];simp[UR,loadVar,isAgg,pB,b,l6]
theorem aGa(h)(w):(CX 476 264 (bO #[h]) "Elem").run Q w=aW (290,bO #[h]) w:=by kernel_rfl
theorem aF9(h)(w):(CX 476 264 (bO #[h]) "Implements").run Q w=aW (291,bO #[h]) w:=by kernel_rfl
theorem aGb(h)(w):(CX 476 264 (bO #[h]) "AssignableTo").run Q w=aW (288,bO #[h]) w:=by kernel_rfl
theorem aGi(w):(UY amz #[bO #[aF<|U ⟨7,134,V⟩]]).run Q w=aW (iK 264<|bO #[aF<|U ⟨7,132,V⟩]) w:=by kernel_rfl
theorem aGf(w):(Lz "Implements" ams #[.agg #[.pointer<|U ⟨7,132,V⟩],.iface 264<|.agg #[.pointer<|U ⟨7,87,V⟩]]).run Q w=.ok Z w:=by kernel_rfl
theorem aF2(v)(w):(UW #[iK 132 v]).run Q w=aW (iK 264<|bO #[aF<|U ⟨7,132,V⟩]) w:=by kernel_rfl
theorem aGl(w):(Lz "AssignableTo" ab1 #[.agg #[.pointer<|U ⟨7,132,V⟩],.iface 264<|.agg #[.pointer<|U ⟨7,132,V⟩]]).run Q w=.ok Z w:=by kernel_rfl
theorem aF1(e)(w):(Ps<|iK 132<|aF<|U e).run Q w=aW (bO #[aF<|U ⟨7,132,V⟩,aF w,Y cP 150]) (w.alloc<|aH #[aF e] 132):=by kernel_rfl
theorem aGh(w):(Rtype.elem? 134).run Q w=aW (U 132) w:=by kernel_rfl
theorem aF7(p)(w):(amA 132 p amB).run Q w=aW (bO #[aF<|U ⟨7,132,V⟩,aF p,Y cP 406]) w:=by kernel_rfl
theorem aGg(a p)(W)(b:W.cell? a=U (.pointer p)):(CV (CU "reflectlite.Value.Elem" 0) UT #[.agg #[.pointer<|U ⟨7,134,V⟩,.pointer<|U a,.int .u64 150]]).run Q W=.ok (.agg #[.pointer<|U ⟨7,132,V⟩,.pointer<|U p,.int .u64 406]) W:=by rw[rlm];simp only[gK,ann,l6];simp[UT,loadVar,isAgg,pB,b,l6,aGh,aF7]
theorem rls(v x):PM #[v,x]=(do
  let(U (dst,a,E),U (src,b,_)):=(<-Iy v,<-Iy x)|unsupported<|yq "extern/(internal/reflectlite.Value).Set.zeroValue"
  if E/amB%2==0 then vR<|yq "extern/(internal/reflectlite.Value).Set.unaddressable"
  let c<-loadVar src b;if<-Lx dst src then storeVar dst a c;else if<-Rtype.implements dst src then if(<-Lp src)==20 then match c with|nO=>vR<|yq "extern/reflectlite: a nil value of one interface type handed on as a value of another"|_=>storeVar dst a c;else storeVar dst a (iK src c)else panicString<| "reflectlite.Set: value of type "++(<-Rtype.spelt src)++ " is not assignable to type "++(<-Rtype.spelt dst)
  bI<|bQ #[]):=rfl
theorem aF5(a)(w):(Iy<|bO #[aF<|U ⟨7,132,V⟩,aF<|U a,Y cP 406]).run Q w=aW (U (132,a,406)) w:=by kernel_rfl
theorem aF6(a)(w):(Iy<|bO #[aF<|U ⟨7,132,V⟩,aF<|U a,Y cP 150]).run Q w=aW (U (132,a,150)) w:=by kernel_rfl
theorem aGj(w):(Lx 132 132).run Q w=aW Z w:=by kernel_rfl
theorem aF4(a b e)(old)(W)(c:W.cell? b=U (.pointer e))(d:W.cell? a=U old)(f:W.frozen? a=ai):(PM #[.agg #[.pointer<|U ⟨7,132,V⟩,.pointer<|U a,.int .u64 406],.agg #[.pointer<|U ⟨7,132,V⟩,.pointer<|U b,.int .u64 150]]).run Q W=.ok (.tuple #[]) (W.setCell a<|.pointer<|U e):=by rw[rls];simp only[gK,aF5,aF6,l6];simp[amB,loadVar,isAgg,pB,c,l6,aGj,storeVar,A8,storeCells,Addr.add];rw[run_store Q W a _ _<|by rfl];grind
set_option maxHeartbeats 4000000 in
theorem aFY(e t)(old)(w)(g:w.cell? ⟨0,0,V⟩=U (iK 264<|bO #[aF<|U ⟨7,87,V⟩]))(b:w.cell? t=U old)(f:w.frozen? t=ai):bz Q 62 #[iK 132<|aF<|U e,iK 134<|aF<|U t] w λr x=>r=bj Z/\x=((((w.alloc<|aH #[aF t] 134).alloc<|aH #[aF<|U ⟨7,134,V⟩,aF w,Y cP 150] 193).alloc<|aH #[aF<|U ⟨7,134,V⟩,aF w,Y cP 150] 193).alloc<|aH #[aF e] 132).setCell t (aF e):=by
 have C:=@run_callFunc_extern Q 111 _ (λa=>Ps<|a.getD 0<|bQ #[]) aqY (by kernel_rfl) (by kernel_rfl) (by kernel_rfl) (by kernel_rfl);have H:=@run_callFunc_extern Q 112 _ (UX (CU "reflectlite.Value.Type" 0) λt _ _ _=>UU t) aqX (by kernel_rfl) (by kernel_rfl) (by kernel_rfl) (by kernel_rfl);have D:=@run_callFunc_extern Q 113 _ (CV (CU "reflectlite.Value.IsNil" 0) UR) aqW (by kernel_rfl) (by kernel_rfl) (by kernel_rfl) (by kernel_rfl);have o:=@run_callFunc_extern Q 278 _ (ab5 λt=>do bI<|Y aq<|<-Lp t) aqa (by kernel_rfl) (by kernel_rfl) (by kernel_rfl) (by kernel_rfl);have j:=@run_callFunc_extern Q 290 _ (UY amz) ap5 (by kernel_rfl) (by kernel_rfl) (by kernel_rfl) (by kernel_rfl);have l:=@run_callFunc_extern Q 291 _ (Lz "Implements" ams) ap4 (by kernel_rfl) (by kernel_rfl) (by kernel_rfl) (by kernel_rfl);have z:=@run_callFunc_extern Q 115 _ UW adV (by kernel_rfl) (by kernel_rfl) (by kernel_rfl) (by kernel_rfl);have y:=@run_callFunc_extern Q 288 _ (Lz "AssignableTo" ab1) ap8 (by kernel_rfl) (by kernel_rfl) (by kernel_rfl) (by kernel_rfl);have u:=@run_callFunc_extern Q 173 _ (CV (CU "reflectlite.Value.Elem" 0) UT) aqo (by kernel_rfl) (by kernel_rfl) (by kernel_rfl) (by kernel_rfl);have v:=@run_callFunc_extern Q 174 _ PM aqn (by kernel_rfl) (by kernel_rfl) (by kernel_rfl) (by kernel_rfl);have E:=aF2;have I:=aGb;have p:=aGl;have k:=aF1;have B:=aF0;have M:=aF3;have J:=aF8;have F:=aGa;have L:=aF9;have i:=aGc;have s:=aGd;have A:=aGi;have n:=aGf;have N:=aGe ⟨w.heap.size,0,V⟩ t ((w.alloc<|aH #[aF<|U t] 134).alloc<|aH #[aF<|U ⟨7,134,V⟩,aF<|U ⟨w.heap.size,0,V⟩,Y cP 150] 193) (by simp);have d:0<w.heap.size:=by
  rcases ayW w.heap.size with m|h;.simp[pz,m]at g
  grind
 have q:((w.alloc<|aH #[aF t] 134).alloc<|aH #[aF<|U ⟨7,134,V⟩,aF w,Y cP 150] 193).cell? ⟨0,0,V⟩=U (iK 264<|bO #[aF<|U ⟨7,87,V⟩]):=by rw[wR _ _ ⟨0,0,V⟩<|by simp,wR _ _ ⟨0,0,V⟩ d];exact g
 have c:t.block<w:=by
  rcases Nat.lt_or_ge t.block w.heap.size with h|h;.exact h
  .simp[pz,x3 h]at b
 have K:=aGg ⟨w.heap.size,0,V⟩ t (((w.alloc<|aH #[aF<|U t] 134).alloc<|aH #[aF<|U ⟨7,134,V⟩,aF<|U ⟨w.heap.size,0,V⟩,Y cP 150] 193).alloc<|aH #[aF<|U ⟨7,134,V⟩,aF<|U ⟨w.heap.size,0,V⟩,Y cP 150] 193) (by rw[wR _ _ ⟨w.heap.size,0,V⟩<|by simp;omega];simp);have G:=aF4 t ⟨w.heap.size+1+1+1,0,V⟩ e old ((((w.alloc<|aH #[aF<|U t] 134).alloc<|aH #[aF<|U ⟨7,134,V⟩,aF<|U ⟨w.heap.size,0,V⟩,Y cP 150] 193).alloc<|aH #[aF<|U ⟨7,134,V⟩,aF<|U ⟨w.heap.size,0,V⟩,Y cP 150] 193).alloc<|aH #[aF<|U e] 132) (by rw[Ny _ _ _ _<|by simp];rfl) (by rw[wR _ _ t<|by simp;omega,wR _ _ t<|by simp;omega,wR _ _ t<|by simp;omega,wR _ _ t c];exact b) (by rw[SW _ _ t<|by simp;omega,SW _ _ t<|by simp;omega,SW _ _ t<|by simp;omega,SW _ _ t<|Nat.ne_of_lt c];exact f);go_enter apQ,ntmps62;go_wp2_with(go_at_call 114;go_enter aqV,ntmps114);refine Kr 1 ?_;rw[Ey];go_wp2;go_ret;exact⟨rfl,rfl⟩
theorem azu(v)(w):(UW #[iK 135 v]).run Q w=aW (iK 264<|bO #[aF<|U ⟨7,135,V⟩]) w:=by kernel_rfl
noncomputable def amF:Array az->cz az:=(find f289).get<|by kernel_rfl
theorem azA(w):(amF #[.agg #[.pointer<|U ⟨7,135,V⟩]]).run Q w=.ok Z w:=by kernel_rfl
theorem azv(v)(w):(CX 476 264 v "Comparable").run Q w=aW (289,v) w:=by kernel_rfl
theorem axb(v)(a)(w):(II (iK 132 v) a 276 Z).run Q w=aW (bQ #[nO,ai]) w:=SV ady (by kernel_rfl) (by kernel_rfl) v a w
theorem axc(v)(a)(w):(II (iK 135 v) a 276 Z).run Q w=aW (bQ #[nO,ai]) w:=SV ady (by kernel_rfl) (by kernel_rfl) v a w
theorem axa(v)(a)(w):(II (iK 135 v) a 271 Z).run Q w=aW (bQ #[nO,ai]) w:=SV adz (by kernel_rfl) (by kernel_rfl) v a w
theorem aw9(v)(a)(w):(II (iK 135 v) a 273 Z).run Q w=aW (bQ #[nO,ai]) w:=SV apf (by kernel_rfl) (by kernel_rfl) v a w
theorem aCe(v)(a)(w):(II (iK 132 v) a 271 Z).run Q w=aW (bQ #[iK 132 v,Z]) w:=run_typeAssert_hasB adz (by kernel_rfl) v a w
theorem axR(v)(w):(CX 476 132 v "Unwrap").run Q w=aW (282,v) w:=by kernel_rfl
set_option maxHeartbeats 1000000 in
theorem azy(q)(E k)(s)(w)(c:w.heap[q]?=U (.cells #[E,.string s] 137 (0,0))):bz Q 63 #[.iface 132<|.pointer<|U ⟨q,0,V⟩,.iface 135<|.int .i64 k] w λe g=>e=.returned (bP<|E=k)/\g=w:=by
 have i:=@run_callFunc_extern Q 115 _ UW adV (by kernel_rfl) (by kernel_rfl) (by kernel_rfl) (by kernel_rfl);have d:=@run_callFunc_extern Q 289 _ amF ap7 (by kernel_rfl) (by kernel_rfl) (by kernel_rfl) (by kernel_rfl);have l:=azu;have t:=azA;have j:=azv;have o:=axb;have h:=axc;have p:=axa;have u:=aw9;have m:=aCe;have r:=axR;have n:w.cell? q=U (.int .i64 E):=M c 0;have f:=run_eql_iface_types (P:=Q) 132 135 (.pointer<|U ⟨q,0,V⟩) (.int .i64 k) We (by decide) w;by_cases A:E=k
 .subst A;have b:(gF .eql 87 (.iface 135 E)<|.iface 135 E).run Q w=.ok Z w:=by have:=ail (P:=Q) w (t:=87) (tx:=135) (k:=.i64) E E We (by kernel_rfl) adC;grind
  go_enter adF,ntmps63;go_wp2_with(go_at_call 116;go_enter adU,ntmps116);refine Kr 2 ?_;rw[Ey];go_wp2_with(go_at_call 282;go_enter adJ,ntmps282);rw[Ey];go_wp2;go_ret;exact⟨by simp,rfl⟩
 .have b:(gF .eql 87 (.iface 135 E)<|.iface 135 k).run Q w=.ok ai w:=by have:=ail (P:=Q) w (t:=87) (tx:=135) (k:=.i64) E k We (by kernel_rfl) adC;grind
  go_enter adF,ntmps63;go_wp2_with(go_at_call 116;go_enter adU,ntmps116);refine Kr 2 ?_;rw[Ey];go_wp2_with(go_at_call 282;go_enter adJ,ntmps282);rw[Ey];go_wp2;go_ret;exact⟨by simp[A],rfl⟩
end
section
open Go.RowKit
def iS(w:ax):Prop:=w.cell? ⟨0,0,V⟩=U (iK 264<|bO #[aF<|U ⟨7,87,V⟩])
theorem iS.lt{w}(h:iS w):0<w.heap.size:=oU w ⟨0,0,V⟩ h
theorem iS.of_block{w w'}(h:iS w)(a:w'.heap[0]?=w.heap[0]?):iS w':=(ew (w:=w) (a:=⟨0,0,V⟩) a).trans h
theorem iS.below{N}{w w'}(h:iS w)(a:aY N w w')(b:w<=N):iS w':=h.of_block<|a.block 0<|cB h.lt b
theorem iS.keep{F}{w w'}(h:iS w)(b:O F w w')(a:¬F 0):iS w':=h.of_block<|b.block 0 h.lt a
structure Dq(N q:Nat)(k:Int)(s:ByteArray)(w0 W:ax):Prop where box:W.heap[N+1]?=U (aH #[aF<|U ⟨q,0,V⟩] 132 (0,0))err:W.heap[q]?=U (aH #[Y aG k,aE s] 137 (0,0))res:W.heap[N]?=U (aH #[Y aG 0,aE ⟨#[]⟩] 49 (0,0))below:aY w0.heap.size w0 W
theorem aGM{N q}{k}{s}{w0 W}:Dq N q k s w0 W.drew↔Dq N q k s w0 W:=⟨λh=>⟨h.1,h.2,h.3,⟨h.below.os,h.below.tape,h.below.output,h.below.size,h.below.block⟩⟩,λh=>⟨h.1,h.2,h.3,⟨h.below.os,h.below.tape,h.below.output,h.below.size,h.below.block⟩⟩⟩
theorem aFZ(q b)(W)(f:iS W)(c:W.heap[b]?=U (aH #[aF V] 132 (0,0))):bz Q 62 #[iK 132<|aF<|U ⟨q,0,V⟩,iK 134<|aF<|U ⟨b,0,V⟩] W λe a=>e=bj Z/\O (λx=>x=b) W a/\a.heap[b]?=U (aH #[aF q] 132 (0,0)):=by have d:=(eX.1 c).1;refine(aFY q b (aF V) W f (M c 0)<|vo c 0).mono ?_;rintro e a⟨rfl,rfl⟩;refine⟨rfl,((((O.alloc _ _ _).trans<|O.alloc _ _ _).trans<|O.alloc _ _ _).trans<|O.alloc _ _ _).trans<|O.setCell _ _ _ rfl,?_⟩;grind[An,Below.heap_alloc]
theorem awa(w):bz Q 42 #[nO] w λe a=>e=bj (bO #[Y aG 0,aE ⟨#[]⟩])/\aY w w a:=by go_enter adH,ntmps42;go_wp2;refine tV (results_cell_row rfl _ _ w 49 #[Y aG 0,aE ⟨#[]⟩] (0,0) _ rfl (gI _ _) QL rfl<|by kernel_rfl) rfl ?_;exact⟨rfl,(dK _ _).alloc (aQ _) _⟩
theorem awc(q)(k)(s)(w)(R:iS w)(C:w.heap[q]?=U (.cells #[k,s] 137 (0,0)))(h1:1<=k)(Q1:k<=5):bz Q 42 #[.iface 132<|.pointer<|U ⟨q,0,V⟩] w λe m=>e=.returned (.agg #[.int .i64 k,.string s])/\aY w w m:=by
 have z:=(eX.1 C).1;obtain⟨d,l⟩:=ex<|(w.alloc<|.cells #[.int .i64 0,.string ⟨#[]⟩] 49).alloc<|.cells #[.pointer V] 132;have g:aY w w d:=by rw[l];exact((dK _ _).alloc (aQ _) _).alloc (by simp) _
 have t:d.heap[w.heap.size+1]?=U (.cells #[.pointer V] 132 (0,0)):=by grind[World.alloc_heap_new,World.size_alloc]
 have p:d.heap[w.heap.size]?=U (.cells #[.int .i64 0,.string ⟨#[]⟩] 49 (0,0)):=by grind[Below.heap_alloc,World.alloc_heap_new]
 have QY:d.heap.size=w+2:=by rw[l];simp
 have c:bz Q 62 #[.iface 132<|.pointer q,.iface 134<|.pointer<|U ⟨w+1,0,V⟩] d λe m=>e=.returned Z/\Dq w q k s w m:=(aFZ q (w.heap.size+1) d (R.below g<|aQ _) t).mono λe m h=>⟨h.1,h.2.2,(h.2.1.block q (by omega)<|by omega).trans<|(g.block q z).trans C,(h.2.1.block _ (by omega)<|by omega).trans p,FG g h.2.1 λx A e=>by omega⟩;rw[l]at c;have QW:∀W,Dq w q k s w W->W.cell? q=U (.int .i64 k):=λW h=>M h.err 0;have J:∀W,Dq w q k s w W->W.cell? ⟨q,1,V⟩=U (.string s):=λW h=>M h.err 1;have A:∀W,Dq w q k s w W->W.cell? ⟨w+1,0,V⟩=U (.pointer q):=λW h=>M h.box 0;have N:dx<|∀W j b,Dq w q k s w W->bP (k=j)=b->bz Q 63 #[.iface 132<|.pointer q,.iface 135 j] W λe m=>e=.returned b/\m=W:=X λW j b h e=>e▸azy q k j s W h.err;have r:=gR.mk QW J A;go_enter adH,ntmps42;go_wp2_with(go_at_call 62;refine(X c).out.mono ?_;rintro e F⟨rfl,E⟩;refine Halt.of ?_);have y0:=r.a F E;have y1:=r.c F E;have S:(k==0)=ai:=by grind
 unfold Halt;go_wp2;go_loopg[4]6λn i wr=>∃j:Nat,i=.int .i64 j/\n+j=6/\Dq w.heap.size q k s w wr;case atStart=>grind
 case round=>
  obtain⟨j,rfl,Q2,a⟩:=hrel;have H:=r.c;by_cases hj:j<6
  .have L:(j:Int)<=5:=by omega
   obtain⟨b,K⟩:∃b:Bool,b=bP (k=(j:Int)):=⟨_,rfl⟩;have I:((j:Int)==k)=b:=by grind
   have QX:=X K;go_wp2;go_region_held3λW=>Dq w.heap.size q k s w W(with_reducible grind[aGM])((first|(go_at_call 63;refine jm (N.out _ (j:Int) b ?hw QX.out.symm) ?_;(case hw=>grind);rintro e Q0⟨rfl,v⟩;subst v)));rename_i f;go_wp2;go_roundg(gk-1);case rel=>exact⟨j+1,by go_simp,by omega,f⟩
   grind
  .have B:j=6:=by omega
   subst B;have D:=X a;have G:=M a.res 0;have P:=M a.res 1;have z2:=λi=>vo a.res i;simp at G P;have n1:w≠q:=by omega
   have Q3:=r.a wr a;have u:=r.b wr a;have T:=H wr a;go_wp2;go_region_held3λW=>W.cell? ⟨q,0,V⟩=U (.int .i64 k)/\W.cell? ⟨q,1,V⟩=U (.string s)/\W.cell? ⟨w.heap.size+1,0,V⟩=U (.pointer<|U ⟨q,0,V⟩)(go_keep)(fail);go_wp2;obtain⟨o,y⟩:=((uO.mk (W:=wr.drew) D.out.res<|O.drew _ _).set 0 _).set 1 _;simp only[eE,eD,eu]at o;refine tV (results_cell_row rfl _ _ w.heap.size 49 _ (0,0) _ rfl o QL rfl<|by kernel_rfl) rfl ?_;exact⟨rfl,FG D.out.below y λx A e=>by omega⟩
structure rF(w:ax)(pw:Nat)(lv:az)(ps:List Nat):Prop where box:w.heap[pw]?=U (aH #[lv] 74 (0,0))row:w.ownsRow 0 77 1 lv ps.length<|ps.map λp=>aF<|U ⟨p,0,V⟩
theorem rF.cell{w}{j}{c}{b}(h:rF w j c b){i}(k):∃g a,c=aC (U ⟨g,0,V⟩) b.length a/\g<w/\w.cell? ⟨g,i,V⟩=U (aF b[i]):=by
 obtain⟨o,e⟩:=h.row;rcases e with⟨_,e⟩|⟨g,a,l,f,_,d,m,_,_,n⟩;.omega
 .refine⟨g,a,f,(eX.1 d).1,?_⟩;rw[M d i];have q:(b.map λp=>aF<|U ⟨p,0,V⟩)[i]?=U (aF b[i]):=by simp[k]
  grind
theorem agn(v)(k)(s)(w)(c:iS w)(h:Vw w v k s):bz Q 42 #[v] w λe a=>e=bj (bO #[k,s])/\aY w w a:=by rcases h with⟨rfl,rfl,rfl⟩|⟨q,rfl,b,d,f⟩;all_goals grind[awa,awc]
theorem RY(H)(Z)(y)(i:Nat)(Q2)(id)(m g)(L)(n f v)(w)(B:rF w H Z y)(EM:y.length<=1000000)(D:fq w y[i] id m g)(F:cI w m L)(K:m≠0)(E:iS w)(P:n.size<=65536)(R:f.size<=65536)(N:gP L<9223372036854775807):bz Q 26 #[aF H,i,aE n,aE f,aE v] w λe QW=>e=bj (bO #[(og L id n f v).2.1,(og L id n f v).2.2])∧cI QW m (og L id n f v).1∧O (λb=>b=m) w QW:=by
 obtain⟨gs,J,Q1,hg,G⟩:=B.cell Q2;subst Q1;obtain⟨p,S⟩:=ex y[i];rw[<-S]at D G;have QX:=(eX.1 B.box).1;have Q0:=F.lt;have T:w.cell? H=U (aC gs y.length J):=M B.box 0;obtain⟨u,k⟩:=ex<|w.alloc<|aH #[Y aG 0,aE ⟨#[]⟩] 49;have j:aY w w u:=by rw[k];exact(dK _ _).alloc (aQ _) _
 have t:u.heap.size=w+1:=by rw[k];simp
 have l:u.heap[w.heap.size]?=U (aH #[Y aG 0,aE ⟨#[]⟩] 49 (0,0)):=by grind[World.alloc_heap_new]
 have c:=avX p id m g L n f v u ((j.block p D.lt).trans D) (F.below j) P R N;obtain⟨r,QY⟩:=ex<|og L id n f v;rw[<-QY]at c⊢;rw[k]at c;have Q3:=X c;have HH:=Dr.mk k j t l<|E.below j<|aQ _;have OE:(i:Int)<(y.length:Int):=by omega
 clear c k j t l E B D F QY P R N S;go_enter aqc,ntmps26;go_wp2_with(go_at_call 43;refine Q3.out.mono ?_;rintro e w2⟨W,rfl,hE,o,C⟩;refine Halt.of ?_);obtain⟨k,j,t,l,E⟩:=HH;rw[<-k]at C;have d:=(C.block _ (by omega)<|by omega).trans l;unfold Halt;go_wp2_with(go_at_call 42;refine(X<|agn W r.2.1 r.2.2 w2 (E.keep C λe=>K e.symm) hE).out.mono ?_;rintro e I⟨rfl,q⟩;refine Halt.of ?_);obtain⟨o,s,d⟩:=(X<|aM o<|aM ((O.iH (F:=λb=>b=m) j).trans C) d).out;have a:=(q.block _ (eX.1 d).1).trans d;have a0:I.cell? w=U (Y aG 0):=M a 0;have a1:I.cell? ⟨w,1,V⟩=U (aE ⟨#[]⟩):=M a 1;have b0:∀i,I.frozen? ⟨w,i,V⟩=ai:=by grind[Joins.unfrozen_of_block]
 unfold Halt;go_wp2;obtain⟨o,s,a⟩:=(X<|aM (o.below q)<|aM (s.trans<|O.iH q) a).out;obtain⟨A,z⟩:=((uO.mk a<|O.refl _ _).set 0 _).set 1 _;simp only[eE,eD,eu]at A;refine tV (results_cell_row rfl _ _ w 49 _ (0,0) _ rfl A QL rfl<|by kernel_rfl) rfl ?_;exact⟨rfl,o.keep z<|by omega,s.trans' z (λ_ _ h=>h) λx hx e=>by omega⟩
theorem abR(F)(Q3)(u)(i:Nat)(W)(id)(m g)(L)(n)(w)(z:rF w F Q3 u)(Z:u.length<=1000000)(B:fq w u[i] id m g)(D:cI w m L)(I:m≠0)(C:iS w)(QX:n.size<=65536)(QY:L.length<=1073741824)(K:gP L<9223372036854775807):bz Q 28 #[aF F,i,aE n] w λe P=>e=bj (bO #[(rA L id n).2.1,(rA L id n).2.2])∧cI P m (rA L id n).1∧O (λb=>b=m) w P:=by
 obtain⟨gs,H,T,hg,E⟩:=z.cell W;subst T;obtain⟨p,QW⟩:=ex u[i];rw[<-QW]at B E;have N:=(eX.1 z.box).1;have S:=D.lt;have R:w.cell? F=U (aC gs u.length H):=M z.box 0;obtain⟨t,j⟩:=ex<|w.alloc<|aH #[Y aG 0,aE ⟨#[]⟩] 49;have f:aY w w t:=by rw[j];exact(dK _ _).alloc (aQ _) _
 have s:t.heap.size=w+1:=by rw[j];simp
 have k:t.heap[w.heap.size]?=U (aH #[Y aG 0,aE ⟨#[]⟩] 49 (0,0)):=by grind[World.alloc_heap_new]
 have c:=aEF p id m g L n t ((f.block p B.lt).trans B) (D.below f) QX QY K;obtain⟨r,J⟩:=ex<|rA L id n;rw[<-J]at c⊢;rw[j]at c;have Q1:=X c;have Q2:=Dr.mk j f s k<|C.below f<|aQ _;have OE:(i:Int)<(u.length:Int):=by omega
 clear c j f s k C z B D J QX QY K QW;go_enter ap9,ntmps28;go_wp2_with(go_at_call 46;refine Q1.out.mono ?_;rintro e w2⟨Q0,rfl,hE,l,A⟩;refine Halt.of ?_);obtain⟨j,f,s,k,C⟩:=Q2;rw[<-j]at A;have d:=(A.block _ (by omega)<|by omega).trans k;unfold Halt;go_wp2_with(go_at_call 42;refine(X<|agn Q0 r.2.1 r.2.2 w2 (C.keep A λe=>I e.symm) hE).out.mono ?_;rintro e G⟨rfl,o⟩;refine Halt.of ?_);obtain⟨l,q,d⟩:=(X<|aM l<|aM ((O.iH (F:=λb=>b=m) f).trans A) d).out;have a:=(o.block _ (eX.1 d).1).trans d;have a0:G.cell? w=U (Y aG 0):=M a 0;have a1:G.cell? ⟨w,1,V⟩=U (aE ⟨#[]⟩):=M a 1;have b0:∀i,G.frozen? ⟨w,i,V⟩=ai:=by grind[Joins.unfrozen_of_block]
 unfold Halt;go_wp2;obtain⟨l,q,a⟩:=(X<|aM (l.below o)<|aM (q.trans<|O.iH o) a).out;obtain⟨y,v⟩:=((uO.mk a<|O.refl _ _).set 0 _).set 1 _;simp only[eE,eD,eu]at y;refine tV (results_cell_row rfl _ _ w 49 _ (0,0) _ rfl y QL rfl<|by kernel_rfl) rfl ?_;exact⟨rfl,l.keep v<|by omega,q.trans' v (λ_ _ h=>h) λx hx e=>by omega⟩
def Li(h:Int):ByteArray:=⟨#[kT (h/72057594037927936%256).toNat,kT (h/281474976710656%256).toNat,kT (h/1099511627776%256).toNat,kT (h/4294967296%256).toNat,kT (h/16777216%256).toNat,kT (h/65536%256).toNat,kT (h/256%256).toNat,kT (h%256).toNat]⟩
theorem aEz(n)(I)(b)(i:Nat)(G)(id)(m q)(L)(pfx)(w)(f:rF w n I b)(J:b.length<=1000000)(g:fq w b[i] id m q)(r:cI w m L)(N:L.length<=1000000)(u:fx w)(v:∀x∈L,Fit x):bz Q 20 #[.pointer n,i,.string pfx] w λe H=>e=.returned (Li<|C<|ep L pfx)∧aY w w H:=by
 obtain⟨K,c,B,O,l⟩:=f.cell G;subst B;obtain⟨p,y⟩:=ex b[i];rw[<-y]at g l;have A:w.cell? n=U (.slice K b.length c):=M f.box 0;have R:(i:Int)<(b.length:Int):=by omega
 have k:=X<|aEA p id m q L pfx w g r (by omega) u v;obtain⟨h,s⟩:=ex<|C<|ep L pfx;rw[<-s]at k⊢;clear f y g r u v s;unfold iy at k;go_enter aqh,ntmps20;go_wp2_with(go_at_call 38;go_must(refine k.out.mono ?_);rintro e d⟨rfl,a⟩;refine Halt.of ?_);have D:∀z:Int,((kT (z%256).toNat).toNat:Int)=z%256:=λz=>by grind[Int.emod_nonneg,Int.emod_lt_of_pos,UInt8.toNat_ofNat']
 have o:(convert 79 9<|.slice d 8 8).run Q (d.alloc<|.cells #[.int .u8<|h/72057594037927936%256,.int .u8<|h/281474976710656%256,.int .u8<|h/1099511627776%256,.int .u8<|h/4294967296%256,.int .u8<|h/16777216%256,.int .u8<|h/65536%256,.int .u8<|h/256%256,.int .u8<|h%256] 76)=.ok (Li h) (d.alloc<|.cells #[.int .u8<|h/72057594037927936%256,.int .u8<|h/281474976710656%256,.int .u8<|h/1099511627776%256,.int .u8<|h/4294967296%256,.int .u8<|h/16777216%256,.int .u8<|h/65536%256,.int .u8<|h/256%256,.int .u8<|h%256] 76):=by
  refine run_convert_bytes_back (P:=Q) _ 79 9 5 d.heap.size 8 (Li h).data.toList tB yF qP λj E=>?_;refine BY rfl [.int .u8<|h/72057594037927936%256,.int .u8<|h/281474976710656%256,.int .u8<|h/1099511627776%256,.int .u8<|h/4294967296%256,.int .u8<|h/16777216%256,.int .u8<|h/65536%256,.int .u8<|h/256%256,.int .u8<|h%256] 76 rfl j _ ?_;have F:j<8:=E;have:j=0∨j=1∨j=2∨j=3∨j=4∨j=5∨j=6∨j=7:=by omega
  rcases this with rfl|rfl|rfl|rfl|rfl|rfl|rfl|rfl<;>simp[Li]<;>omega
 have t:=X a;unfold Halt;go_wp2;go_ret;exact⟨rfl,t.out.trans<|(dK _ _).alloc t.out.size _⟩
def de(v:az)(b:Nat):Prop:=v.ownBlock=U b
def dy(N:Nat)(W:ax)(v:az)(l:List UInt8):Prop:=W.ownsRow N 5 1 v l.length<|l.map jj
theorem dy.nil(N)(W):dy N W (aC V 0 0) []:=mL _ _ _ _
theorem dy.block{N}{W W'}{v}{l}(h:dy N W v l)(a:∀g,de v g->W'.heap[g]?=W.heap[g]?):dy N W' v l:=dB h a
theorem dy.lt{N}{W}{v}{l}(h:dy N W v l){b}(a:de v b):N<=b/\b<W:=World.ownsRow.lt h b a
theorem dy.alloc{N}{W}{v}{l}(h:dy N W v l)(o):dy N (W.alloc o) v l:=h.block λ_ a=>dr _ _ _ (h.lt a).2
theorem YL{v v'}{W W'}{o}(_hv:∀b,de v b->b<W.heap.size)(a:(W.alloc o).grownBy W' v.ownBlock)(c:v'.ownBlock=v.ownBlock∨v'.ownBlock=W.alloc o):bS (de v) W (de v') W':=by
 refine⟨⟨a.os,a.tape,a.output,bC (by simp) a.size,λk g f=>?_⟩,λb d=>?_⟩;·exact(a.block k (by simp;omega) λe=>f e.symm).trans<|dr _ _ _ g
 ·unfold de at d⊢;rcases c with h|h;·grind
  ·rw[h]at d;cases d;exact aB<|by simp
theorem KA:(Q.info? 5).map (λi=>(i.zero,i.size,i.bytes))=U (U<|Y aq 0,1,1):=by kernel_rfl
theorem awz:∀x,x<256->x|||128=x%128+128:=by decide
theorem Gy(N)(v)(l)(n:Nat)(w)(h:dy N w v l)(hN:N<=w)(R:n<18446744073709551616)(hl:l.length<=1099511627776):bz Q 199 #[v,Y cP n] w λe P=>∃L,e=bj L/\dy N P L (l++k n)/\bS (de v) w (de L) P:=by
 have T:(k n).length<=10:=Sm (f:=9) (cB R<|by decide);go_enter aqi,ntmps199;go_wp2;go_loopg[0,1](k n).lengthλa M S wr=>∃(r:az)(c:List UInt8)(m:Nat),r=M/\S=Y cP m/\dy N wr r c/\c++k m=l++k n/\bS (de v) w (de r) wr/\(k m).length<=a/\c.length<=1099511627900/\m<18446744073709551616;case atStart=>exact⟨v,l,n,rfl,rfl,(X h).out,rfl,bS.refl _ _,aQ _,by omega,R⟩
 case round=>
  obtain⟨r,c,m,rfl,rfl,G,K,F,hk,U,hm⟩:=hrel;have ga:=F.1.size;have g:=gR.mk G K F;by_cases E:m<128
  .have J:¬(128:Int)<=(m:Int):=by omega
   have x:aq.wrap (m:Int)=(m:Int):=by grind[IntKind.wrap_u8]
   have f:c.map jj++[Y aq (m:Int)]=(l++k n).map jj:=by rw[<-g.b,yS E,wU];grind[UInt8.toNat_ofNat',jj]
   have C:c.length+1=(l++k n).length:=by rw[<-g.b,yS E];simp
   have u:=cH.mk f C;go_wp2_with(at_builtin;go_must(refine app1 rfl rfl tB KA rfl rfl (g.a.alloc _) rfl (by grind) rfl rfl (by omega) (by simp;omega) ?_);intro W w5 i q _ o;refine Halt.of ?_);have y:=cH.mk i<|YL (λb G=>(g.a.lt G).2) q o;unfold Halt;go_wp2;go_ret;refine⟨_,rfl,?_,g.c.trans y.b⟩;unfold dy;rw[<-u.a,<-u.b];exact y.a
  .have J:(128:Int)<=(m:Int):=by omega
   have x:aq.wrap (m:Int)=((m%256:Nat):Int):=by grind[IntKind.wrap_u8]
   have t:bits .or aq ((m%256:Nat):Int) 128=((m%128+128:Nat):Int):=by have:=u8_or_nat (m%256) 128 (by omega) (by decide);grind[awz,Nat.mod_mod_of_dvd]
   obtain⟨O,A⟩:=ex<|m%256;obtain⟨p,j⟩:=ex<|m%128+128;rw[<-A]at x t;rw[<-j]at t;have f:c.map jj++[Y aq (p:Int)]=(c++[kT p]).map jj:=by grind[UInt8.toNat_ofNat',jj]
   have d:c++[kT p]++k (m/128)=l++k n:=by rw[<-g.b,GB E,j];simp
   have D:(k<|m/128).length+1<=gk:=by grind[GB]
   have H:c.length+1<=1099511627900:=by have:=congrArg List.length d;grind
   have B:m/128<18446744073709551616:=by omega
   have u:=Dr.mk f d D H B;clear f d A j D H hk B;go_wp2_with(at_builtin;go_must(refine app1 rfl rfl tB KA rfl rfl (g.a.alloc _) rfl (by grind) rfl rfl (by omega) (by simp;omega) ?_);intro W w5 i q _ o;refine Halt.of ?_);have y:=cH.mk i<|YL (λb G=>(g.a.lt G).2) q o;unfold Halt;go_wp2;go_roundg(gk-1);case rel=>obtain⟨V,I,a3,a4,Z⟩:=id u;refine⟨_,c++[kT p],m/128,rfl,by go_simp,?_,I,g.c.trans y.b,by omega,by grind,Z⟩;unfold dy;rw[<-V,kM];exact y.a
   case measure=>have:=u.c;omega
theorem au4(w)(base)(i)(t:Q.info? 5=U i)(A:i.zero=U (Y aq 0))(a:i.size=1)(d:i.bytes=1)(v)(n)(xs)(c:w.ownsRow base 5 1 v n xs)(s)(C:n+s.size<=140737488355328)(h:base<=w.heap.size):∃l m,(abY #[79,9] 79 #[v,aE s]).run Q w=aW l m/\m.ownsRow base 5 1 l (n+s.size) (xs++Lib.strCells s)/\bS (de v) w (de l) m:=by
 obtain⟨l,m,r,D,o,-⟩:=aik (P:=Q) w base 79 9 79 5 i tB qP t A a d v n xs c s (by unfold vQ;omega) C h;refine⟨l,m,r,D,⟨o.os,o.tape,o.output,o.size,λk I H=>o.block k I λe=>H e.symm⟩,λb f=>?_⟩;rcases c.2 with⟨rfl,u⟩|⟨g,j,B,rfl,L,z,E,K,J,x⟩;.subst u;have F:=Cc (by simpa using c.1);subst F;obtain⟨M,N,q,y,-,-⟩:=aik (P:=Q) w w 79 9 79 5 i tB qP t A a d (aC V 0 0) 0 [] (mL _ _ _ _) s (by unfold vQ;omega) C<|aQ _;rw[r]at q;cases q;exact aB (y.lt b f).1
 .by_cases O:n+s.size<=j;.have p:=Lib.run_append_room_string (P:=Q) w 79 9 79 5 i tB qP t a g n j B z s O (by omega);rw[r]at p;cases p;exact ay f
  .have G:xs.length=n:=by grind
   have p:=Lib.run_append_grow_string (P:=Q) w 79 9 79 5 i (Y aq 0) tB qP t A g n j xs (by grind) (c.cells (g:=g) rfl) s (by omega) (by omega) (by rw[d];exact growslice_fits (by omega)<|by omega);rw[r]at p;cases p;cases f;grind
theorem aoF{ops}{rest}{o}{a}{w}{A}(k:o.guard=V)(sl x)(l:o.op=.call {callee:=.builtin .append,args:=#[sl,x],argTypes:=#[79,9]})(j:o.type=79)(base)(i)(u:Q.info? 5=U i)(t:i.zero=U (Y aq 0))(b:i.size=1)(g:i.bytes=1)(v)(n)(xs)(hs:a.eval sl=v)(f:w.ownsRow base 5 1 v n xs)(s)(m:a.eval x=aE s)(r:n+s.size<=140737488355328)(c:base<=w.heap.size)(h:∀d e,e.ownsRow base 5 1 d (n+s.size) (xs++Lib.strCells s)->bS (de v) w (de d) e->wpList Q ops A rest (a.put o.dst d) e):wpList Q ops A (o::rest) a w:=by refine NG k λK q=>?_;obtain⟨d,e,p,z,y⟩:=au4 w base i u t b g v n xs f s r c;unfold Oper.wp cS;simp only[l,j,resolve,invoke,builtin,gK,vq,Result.andThen_ok,Zk,gh,qs,hs,m,p];exact q _ _<|h d e z y
theorem ase(s):Lib.strCells s=(bl s).map jj:=rfl
theorem ad6(N)(v)(l)(s)(w)(h:dy N w v l)(A:N<=w)(hs:s.size<=1073741824)(y:l.length<=1099511627776):bz Q 165 #[v,aE s] w λe o=>∃f,e=bj f/\dy N o f (l++dh s)/\bS (de v) w (de f) o:=by
 obtain⟨t,x,d,i,b⟩:=tT KA;have q:cP.wrap (s.size:Int)=(s.size:Int):=by grind[IntKind.wrap_u64]
 have z:(k s.size).length<=10:=Sm (f:=9) (by omega);go_enter aqv,ntmps165;go_wp2_with(go_at_call 199;go_must(refine(X<|Gy N v l s.size w h A (by omega) y).out.mono ?_);rintro e D⟨r,rfl,j,a⟩;have g:=cH.mk j a;refine Halt.of ?_);have u:=g.b.1.size;unfold Halt;go_wp2_with(at_builtin;go_must(refine aoF rfl _ _ rfl rfl N t x d i b r (l++k s.size).length _ rfl g.a s rfl (by grind) (by omega) ?_);intro B C c m;have n:=cH.mk c m;refine Halt.of ?_);unfold Halt;go_wp2;go_ret;refine⟨_,rfl,?_,g.b.trans n.b⟩;have e:l++dh s=l++k s.size++bl s:=by rw[dh,jw]
 have p:(l++dh s).length=(l++k s.size).length+s.size:=by rw[e];exact kM
 have:=n.a;rw[ase,<-wU]at this;unfold dy;rw[p,e];exact this
theorem ao8{z}(h:-9223372036854775808<=z/\z<=9223372036854775807):∃(a b e:Nat)(d:Int),cP.wrap z=a/\cP.wrap (a*2)=b/\z/9223372036854775808=d/\cP.wrap d=e/\bits .xor cP b e=gS z:=by
 by_cases h0:0<=z;.obtain⟨n,rfl⟩:∃n:Nat,z=(n:Int):=⟨z.toNat,by omega⟩;refine⟨n,2*n,0,0,by grind[IntKind.wrap_u64],by grind[IntKind.wrap_u64],by omega,by grind[IntKind.wrap_u64],?_⟩;rw[u64_xor_nat (2*n) 0 (by omega)<|by decide,Nat.xor_zero];unfold gS;grind
 .obtain⟨n,rfl⟩:∃n:Nat,z=-(n:Int):=⟨(-z).toNat,by omega⟩;refine⟨18446744073709551616-n,18446744073709551616-2*n,18446744073709551615,-1,by grind[IntKind.wrap_u64],by grind[IntKind.wrap_u64],by omega,by grind[IntKind.wrap_u64],?_⟩;rw[u64_xor_nat _ _ (by omega)<|by decide,Nat.xor_comm,show(18446744073709551615:Nat)=2^64-1 by decide,Lib.xor_ones64 _<|by omega];unfold gS;grind
theorem adv(z)(w)(h:ij z):bz Q 200 #[z] w λe g=>e=bj (Y cP<|gS z)∧g=w:=by obtain⟨a,b,c,d,m,l,j,k,i⟩:=ao8 h;obtain⟨t,f⟩:∃t:Int,t=(gS z:Int):=⟨_,rfl⟩;rw[<-f]at i⊢;clear f;go_enter aqg,ntmps200;go_wp2;go_ret;exact⟨rfl,rfl⟩
end
end Go.Proofs.YtpdbmpbmepkikaaGreatDoor
