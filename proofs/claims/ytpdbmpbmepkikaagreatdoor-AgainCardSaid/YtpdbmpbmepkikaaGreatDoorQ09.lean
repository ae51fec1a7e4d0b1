/- Laws. -/
import Derived.Deep.RegionHeld3
import Derived.RangeFuncNested
import Derived.RangeFuncBound
import Derived.Maps.OwnIn
import Derived.Shelf.Strings.Trim
import Derived.Shelf.Small.Utf8
import Derived.Shelf.Small.Wraps
import Derived.Shelf.Strconv.Itoa3
import Derived.Shelf.Sort.Plain
import Derived.Shelf.Strings.Runes
import Derived.Shelf.Strings.AsciiSet
import Derived.Shelf.Unicode.DecodeAny
import Derived.Shelf.Slices.In.SortNone
import Derived.WalkLawsBesides
import Derived.WalkSpells
import Derived.Lib.SmallJoins
import Derived.Test.YtpdbmpbmepkikaaGreatDoorQ03
set_option maxRecDepth 100000
set_option maxHeartbeats 400000
set_option linter.all false
open Go.Proofs.Tryz
open And renaming intro->aM
open Array renaming replicate->tT
open Bool renaming true->Y,false->ai
open Decidable renaming decide->cg
open Go renaming wpListIn->Ue,undef->ak,World->ay,Value->az,Program->bW,Calls->bz,execOp->cX,Sem->cz,Oper->dJ,Addr->eT,Func->ep,yielded->eu,TypeId->ey,callFunc->iA,Operand->iT,zeroValue->lu,MapEntry->mL,underlying->pq,getObj->ry,maxLen->vg
open Go.Code renaming region->ec
open Go.Departure renaming mixedOrders->nG
open Go.Ending renaming returned->bj
open Go.Exit renaming panic->EC
open Go.Fence renaming wide->AH
open Go.Fn renaming yield->Cm,func->ez
open Go.Instr renaming next->Ci,checkKey->Cj,findNow->Ck,sameNow->EN,sameBits->EO,entry->GV,findKey->Kw,lookup->OD,endRound->Uc,mapUpdate->Ug,keyThatStays->aa7
open Go.IntKind renaming i64->aC,u8->aq,u64->cO
open Go.Lib renaming hasPrefix->OC,compareInt->OK,pow10Tab->aa8,TabIs->zi
open Go.Next renaming value->gp,enter->jL
open Go.Obj renaming cells->aH,map->iZ,mapIter->vi
open Go.Op renaming bytesLess->Ch
open Go.Proofs.Lays renaming n227->aIf
open Go.Proofs.Tryz renaming prog->aF
open Go.Question renaming forced->akF
open Go.Region renaming binds->OI,Mode->OL,wanted->eX,ready->iY
open Go.Result renaming ok->aY,andThen->mg
open Go.RowKit renaming Below->aW,Hid->dD
open Go.Sem renaming run->oA
open Go.Shelf renaming Ren->Cc
open Go.Value renaming int->V,string->aD,slice->aE,pointer->aG,agg->bJ,tuple->bO,bool->bQ,map->cq,func->dM,oneCell'->zh
open Go.World renaming setCell->jk,cell?->pg,frozen?->x8
open List renaming range->mJ
open Nat renaming reduceSub->wP,reduceAdd->wS
open Option renaming some->U,none->Z
open Or renaming inr->aA,inl->ax
open Pure renaming pure->bI
open UInt8 renaming ofNat->ru
namespace Go.Proofs.YtpdbmpbmepkikaaGreatDoor
def Sm:=@Go.getD_set_ne
def gR:=@Go.Sem.run_bind
def eo:=@Go.RowKit.Below.refl
def qQ:=@Go.World.putObj_heap_other
def ei:=@Go.World.cell?_of_block
def iF:=@Go.World.alloc_heap_new
def vX:=@Go.World.size_alloc
def dm:=@Go.RowKit.Below.heap_alloc
def cU:=@Array.getElem?_eq_some_iff
def vW:=@Iff.rfl
def F0:=@Go.World.putObj_heap_same
def BD:=@Bool.eq_iff_iff
def FZ:=@List.nodup_cons
def FY:=@List.cons.injEq
def Jq:=@Prod.mk.injEq
def YM:=@List.findIdx?_cons
def vV:=@Go.Sem.run_pure
def MM:=@decide_false
def vU:=@if_false
def YL:=@Array.toList_push
def vT:=@List.map_append
def tG:=@List.map_nil
def mC:=@List.mem_map
def qP:=@List.mem_append
def ag5:=@Array.toList_modify
def ML:=@Go.wpList_plain
def Jo:=@Go.wp_loop_rounds
def DC:=@Go.rounds_succ
def X:=@Go.Lib.hid
def FX:=@List.map_map
def MK:=@List.find?_cons
def qj:=@List.cons_append
def Jn:=@List.cons_lt_cons_iff
def jG:=@List.append_assoc
def Sl:=@List.singleton_append
def ag4:=@List.count_eq_zero
def xI:=@List.pairwise_cons
def Sk:=@List.Perm.eq_of_pairwise
def Sj:=@List.mem_of_find?_eq_some
def Si:=@List.perm_ext_iff_of_nodup
def YK:=@Option.isSome_some
def YJ:=@List.mem_map_of_mem
def oh:=@Go.World.block_lt_of_cell?
def Sg:=@Go.callsIn_of_wp
def tF:=@List.size_toArray
def qi:=@List.length_cons
def lG:=@List.length_nil
def uN:=@Array.replicate_succ
def uM:=@Array.replicate_zero
def uL:=@List.push_toArray
def uK:=@List.append_toArray
def uJ:=@List.nil_append
def Jm:=@List.nodup_append
def Dz:=@List.filter_append
def vS:=@Go.bodyPost_ret
def Ad:=@Go.World.frozen?_of_block
def BA:=@List.eq_nil_of_length_eq_zero
def MJ:=@List.pairwise_mergeSort
def Jl:=@List.mergeSort_perm
def Bz:=@List.length_filter_le
def ag2:=@Nat.lt_of_le_of_lt
def lV:=@List.getElem_mem
def aGp:=@List.getElem_cons_drop
def awI:=@List.take_append_drop
def xH:=@List.take_add_one
def ag1:=@Int.le_max_left
section
variable{P:bW}{ops:Array dJ}{Q:Exit->Act->ay->Prop}{md:OL}{S:ay->Prop}{z:Nat}
def um(P:bW)(md:OL)(ops:Array dJ)(Q:Exit->Act->ay->Prop)(S:ay->Prop)(z:Nat):Nat->Array Bool->Act->ay->Prop|0,listed,a,w=>iY md ops listed=[]/\Q .normal a w|fuel+1,listed,a,w=>(iY md ops listed=[]->Q .normal a w)/\∀i∈iY md ops listed,wpOp P ops Q i (λa' w'=>((listed.setIfInBounds i Y).getD z Y=ai->S w')/\um P md ops Q S z fuel (listed.setIfInBounds i Y) a' w') a w
theorem abX:∀(c:Nat)(b:Array Bool)(a:Act)(w:ay),um P md ops Q S z c b a w->wpAny P md ops Q c b a w|0,_,_,_,h=>h|c+1,_,_,_,h=>⟨h.1,λi e=>wpOp_mono (λg f d=>abX c _ g f d.2)<|h.2 i e⟩
def PS(md:OL)(ops:Array dJ)(z i:Nat):Bool:=(ops[z]?.map λo=>o.after.any λe=>OI md e&&e.on==i).getD ai
theorem am5{i}(h:PS md ops z i=Y){a}(e:a.getD i Y=ai):z∉iY md ops a:=by intro c;obtain⟨_,o,d,b⟩:=mem_ready.1 c;simp only[PS,d,eG,fV]at h;grind
theorem amM{i}{s}{v}(K:ops[i]?=U s)(n:∀(j:Nat)(o)x b,ops[j]?=U o->o.op≠.select x b)(X:∀c a w,Q (EC c) (a.put s.dst v) w->Q (EC c) a w)(J:z≠i)(W:PS md ops z i=Y):∀(g)(f)(a)(w),(∀j r,ops[j]?=U r->j≠i->f.getD j Y=ai->(∀e∈r.after,OI md e=Y->e.on≠i)->s.apart ops r=Y)->i∈iY md ops f->YieldsIf P ops S s v a->f.getD z Y=ai->S w->um P md ops Q S z g (f.setIfInBounds i Y) (a.put s.dst v) w->um P md ops Q S z (g+1) f a w:=by
 intro g;induction g with|zero=>
  intro f a w _ I E _ y H;refine⟨λh=>by grind,λj F=>?_⟩;by_cases Gm:j=i;.subst Gm;exact E.wpOp K y ⟨λ_=>y,H⟩
  .have:=ready_mono F Gm;rw[H.1]at this;grind|succ g R=>
  intro f a w l I E C y H;refine⟨λh=>by grind,λj F=>?_⟩;by_cases Gm:j=i;.subst Gm;exact E.wpOp K y ⟨λ_=>y,H⟩
  .obtain⟨B,r,q,N⟩:=mem_ready.1 F;have p:=(mem_ready.1 I).1;have A:j≠z:=by grind[am5]
   have t:∀e∈r.after,OI md e=Y->e.on≠i:=λe Q0 Q1 Q2=>by grind
   have m:∀k D,ops[k]?=U D->k≠i->(f.setIfInBounds j Y).getD k Y=ai->(∀e∈D.after,OI md e=Y->e.on≠i)->s.apart ops D=Y:=λk D d M p G=>by
    refine l k D d M ?_ G;by_cases hjk:j=k;.grind
    .rw[Sm Y hjk]at p;exact p
   have u:((f.setIfInBounds i Y).setIfInBounds j Y).getD z Y=ai:=by rw[Sm Y A,Sm Y<|Ne.symm J];exact C
   refine wpOp_mono (λO T L=>⟨λ_=>L.2.1 u,R (f.setIfInBounds j Y) O T m (ready_mono I<|Ne.symm Gm) L.1 (by rw[Sm Y A];exact C) (L.2.1 u) ?_⟩)<|wpOp_putIf q (l j r q Gm B t) (λx b=>n i s x b K) (λx b=>n j r x b q) X E<|H.2 j<|ready_mono F Gm;grind[Array.setIfInBounds_comm]
theorem fU{i}{e}{v}{d}{b}{a}{w}(g:ops[i]?=U e)(hs:Region.noSelect ops=Y)(m:Region.free md ops b i=Y)(l:(iY md ops b).contains i=Y)(f:(z !=i&&PS md ops z i&&!b.getD z Y)=Y)(n:∀c a w,Q (EC c) (a.put e.dst v) w->Q (EC c) a w)(k:YieldsIf P ops S e v a)(j:S w)(h:um P md ops Q S z d (b.setIfInBounds i Y) (a.put e.dst v) w):um P md ops Q S z (d+1) b a w:=by simp only[cV,bne_iff_ne,Bool.not_eq_true']at f;grind[amM,Region.noSelect_spec,Region.free_spec]
theorem CP{i}{d}{c}{b}{a}{w}(k:iY md ops b=[i])(m:ops[i]?=U d)(l:eX d (eu ops a.tmps)=Y)(h:Oper.wp P d a w (λg f=>((b.setIfInBounds i Y).getD z Y=ai->S f)/\um P md ops Q S z c (b.setIfInBounds i Y) g f) Q):um P md ops Q S z (c+1) b a w:=by refine⟨λn=>by grind,λj e=>?_⟩;rw[k,mA]at e;subst e;unfold wpOp;grind
theorem CO{i}{d}{v}{w'}{c}{b}{a}{w}(k:iY md ops b=[i])(g:ops[i]?=U d)(e:eX d (eu ops a.tmps)=Y)(f:(cX a.eval d).run P w=aY (gp v) w')(j:(b.setIfInBounds i Y).getD z Y=ai->S w')(h:um P md ops Q S z c (b.setIfInBounds i Y) (a.put d.dst v) w'):um P md ops Q S z (c+1) b a w:=by refine CP k g e ?_;unfold Oper.wp;rw[f];exact⟨j,h⟩
theorem PM{i}{d}{w'}{c}{b}{a}{w}(k:iY md ops b=[i])(g:ops[i]?=U d)(e:eX d (eu ops a.tmps)=Y)(f:(cX a.eval d).run P w=aY .skip w')(j:(b.setIfInBounds i Y).getD z Y=ai->S w')(h:um P md ops Q S z c (b.setIfInBounds i Y) (a.put d.dst ak) w'):um P md ops Q S z (c+1) b a w:=by refine CP k g e ?_;unfold Oper.wp;rw[f];exact⟨j,h⟩
theorem PN{b:Array Bool}{a:Act}{w:ay}(d:iY md ops b=[])(h:Q .normal a w):∀c,um P md ops Q S z c b a w|0=>⟨d,h⟩|_+1=>⟨λ_=>h,by grind⟩
theorem wp_region_Z{id}{a}{w}(b:P.follows nG=Y)(c:S w.drew)(h:S w.drew->um P .any ops Q S z ops.size (tT ops.size ai) a w.drew):(ec id ops Y).wp P Q a w:=wp_region_any b<|abX _ _ _ _<|h c
section
variable {P:bW} {ops:Array dJ} {Q:Exit->Act->ay->Prop} {md:OL} {S:ay->Prop} {z i fuel:Nat} {oi:dJ} {listed:Array Bool} {a:Act} {w:ay} {L:List Nat}
def tkB(md:OL)(ops:Array dJ)(listed:Array Bool)(i:Nat):Bool:=Region.noSelect ops&&Region.free md ops listed i&&(iY md ops listed).contains i
structure KU(P:bW)(md:OL)(ops:Array dJ)(Q:Exit->Act->ay->Prop)(S:ay->Prop)(L:List Nat)(fuel:Nat)(listed:Array Bool)(a:Act)(w:ay):Prop where h:(∀c t v a w,Q (EC c) (a.put t v) w->Q (EC c) a w)->S w->wpAnyH P md ops Q S fuel listed a w
theorem qH(v:az)(hi:ops[i]?=U oi)(E:tkB md ops listed i=Y)(hg:eX oi (eu ops a.tmps)=Y)(hy:∀w,S w->(cX a.eval oi).run P w=aY (gp v) w)(h:KU P md ops Q S L fuel (listed.setIfInBounds i Y) (a.put oi.dst v) w):KU P md ops Q S (i::L) (fuel+1) listed a w:=⟨λA J=>by simp only[tkB,cV]at E;exact wpAnyH_take hi E.1.1 E.1.2 E.2 (λc=>A c _ _) (ax ⟨hg,hy⟩) J<|h.h A J⟩
theorem vE(hi:ops[i]?=U oi)(E:(iY md ops listed==[i]&&eX oi (eu ops a.tmps))=Y)(h:S w->∀K':Act->ay->Prop,Shut (∀a w,S w->KU P md ops Q S L fuel (listed.setIfInBounds i Y) a w->K' a w)->Oper.wp P oi a w K' Q):KU P md ops Q S (i::L) (fuel+1) listed a w:=⟨λA J=>by simp only[cV,beq_iff_eq]at E;refine wpAnyH_ready E.1 (by simp)<|AllReadyH.cons hi (λK hK=>?_) AllReadyH.nil;rw[dy E.2];exact h J K λa w s t=>hK a w s λs=>t.h A s⟩
theorem CY(hr:iY md ops listed=[])(h:S w->Q .normal a w):KU P md ops Q S [] fuel listed a w:=⟨λ_ E=>wpAnyH_done hr (h E) _⟩
theorem CX(S:ay->Prop)(L:List Nat){id:Nat}(hm:P.follows nG=Y)(E:S w.drew)(J:∀c t v a w,Q (EC c) (a.put t v) w->Q (EC c) a w)(h:KU P .any ops Q S L ops.size (tT ops.size ai) a w.drew):(ec id ops Y).wp P Q a w:=wp_region_held_drew hm E λE=>h.h J E
end
set_option linter.defProp false in
def yq:=aM @Act.put.eq_1<|aM @Act.put.eq_2<|aM @List.getElem_toArray.{0}<|aM @List.getElem_cons_zero.{0}<|aM @List.getElem_cons_succ.{0}<|aM @List.setIfInBounds_toArray.{0}<|aM @List.set_cons_zero.{0} @List.set_cons_succ.{0}
end
section
open Go
variable{q:bW}{fs:Array ep}
theorem ajy{f:Nat}{fn}(h:fs[f]?=U fn):(J q fs).funcs[f]?=fn:=h
@[simp]theorem akt(t):(J q fs).underlying t=q.underlying t:=rfl
@[simp]theorem aCx(t):(J q fs).info? t=q.info? t:=rfl
@[simp]theorem aH9:(J q fs).rt=q.rt:=rfl
@[simp]theorem aH8:(J q fs).types=q.types:=rfl
@[simp]theorem aIc:(J q fs).globals=q.globals:=rfl
@[simp]theorem aIe:(J q fs).depth=q.depth:=rfl
@[simp]theorem aId(d):(J q fs).follows d=q.follows d:=rfl
@[simp]theorem aIa(t):(J q fs).stoodInHeld t=q.stoodInHeld t:=aip t
@[simp]theorem aIb(d)(t):(J q fs).eqGuardType d t=q.eqGuardType d t:=ajr d t
theorem WC{d c}{s}{k:d->cz c}{P b}{w}(h:s.run P w=s.run b w)(e:∀a w,(k a).run P w=(k a).run b w):(s>>=k).run P w=(s>>=k).run b w:=by grind[Sem.run_bind,Result.andThen_halt]
@[simp]theorem aku(t)(w):(typeInfo t).run (J q fs) w=(typeInfo t).run q w:=by unfold typeInfo;show oA _ (match(J q fs).info? t with|some i=>bI i|none=>stuck "no such type") w=oA _ (match q.info? t with|some i=>bI i|none=>stuck "no such type") w;rw[aCx];cases q.info? t<;>rfl
@[simp]theorem aCw(t)(w):(pq t).run (J q fs) w=(pq t).run q w:=by unfold pq;show oA _ (match(J q fs).underlying t with|some i=>bI i|none=>stuck "no such type") w=oA _ (match q.underlying t with|some i=>bI i|none=>stuck "no such type") w;rw[akt];cases q.underlying t<;>rfl
@[simp]theorem aks(t)(w):(lu t).run (J q fs) w=(lu t).run q w:=by unfold lu;refine WC (aku t w) λa w=>?_;cases a.zero<;>rfl
@[simp]theorem Ub(t)(w):(sizeOf t).run (J q fs) w=(sizeOf t).run q w:=by unfold sizeOf;exact WC (aku t w) λa w=>rfl
@[simp]theorem akv(t)(w):(isAgg t).run (J q fs) w=(isAgg t).run q w:=by unfold isAgg;refine WC (aCw t w) λa w=>?_;cases a<;>rfl
theorem Ow{f}{fn}(b:(J q fs).funcs[f]?=U fn)(h:(fn.name== "runtime.NumGoroutine"||fn.body.isNone)=ai)(args)(w):(iA f args).run (J q fs) w=aY (jL f args) w:=by
 simp only[Bool.or_eq_false_iff]at h;have d:fn.name≠ "runtime.NumGoroutine":=by grind
 cases e:fn.body with|none=>grind|some c=>have a:fs[f]?=fn:=b;show oA (J q fs) (match fs[f]? with|none=>_|some fn=>_) w=_;rw[a];simp[d,e]
end
end Go.Proofs.YtpdbmpbmepkikaaGreatDoor
set_option maxRecDepth 100000
namespace Go.Proofs
open Go.Proofs.YtpdbmpbmepkikaaGreatDoor
noncomputable abbrev Q:bW:=J aF iQ
theorem anS{f:Nat}{fn:ep}(h:aF.funcs[f]?=U fn)(h1:f≠41)(h2:f≠180)(h3:f≠181):Q.funcs[f]?=U fn:=ajy<|(oy h1 h2 h3).trans h
theorem P{f:Nat}{fn:ep}(h:aF.funcs[f]?=U fn)(h1:(Nat.beq f 41||Nat.beq f 180||Nat.beq f 181)=ai):Q.funcs[f]?=U fn:=by simp only[Bool.or_eq_false_iff]at h1;exact anS h (Nat.ne_of_beq_eq_false h1.1.1) (Nat.ne_of_beq_eq_false h1.1.2)<|Nat.ne_of_beq_eq_false h1.2
theorem acQ{f:Nat}{fn:ep}(hf:Q.funcs[f]?=U fn)(h:(fn.name== "runtime.NumGoroutine"||fn.body.isNone)=ai)(args:Array az)(w:ay):(iA f args).run Q w=aY (jL f args) w:=Ow hf h args w
@[simp]def okF(f:Nat):Bool:=cg<|1<f/\f<87\/99<f/\f<106\/f=114\/115<f/\f<142\/145<f/\f<172\/174<f/\f<263/\f≠243\/f=282
theorem anG:(mJ 283).all (λf=>!okF f||Q.funcs[f]?.any λfn=>!(fn.name== "runtime.NumGoroutine"||fn.body.isNone))=Y:=by kernel_rfl
@[simp]theorem aFc{f:Nat}(h:okF f=Y)(args:Array az)(w:ay):(iA f args).run Q w=aY (jL f args) w:=by have h1:=List.all_eq_true.1 anG f (List.mem_range.2<|by unfold okF at h;have:=of_decide_eq_true h;omega);rw[h]at h1;cases h2:Q.funcs[f]? with|none=>rw[h2]at h1;cases h1|some fn=>rw[h2]at h1;exact Ow h2 (by simpa using h1) args w
theorem jR{t:ey}{x:Option TypeDesc}(h:aF.underlying t=x):(J aF iQ).underlying t=x:=(akt t).trans h
theorem Qc{t:ey}{x:Nat}(h:∀w,(sizeOf t).run aF w=aY x w)(w:ay):(sizeOf t).run (J aF iQ) w=aY x w:=(Ub t w).trans<|h w
theorem Qd{t:ey}{x:Bool}(h:∀w,(isAgg t).run aF w=aY x w)(w:ay):(isAgg t).run (J aF iQ) w=aY x w:=(akv t w).trans<|h w
theorem acP{t:ey}{x:az}(h:∀w,(lu t).run aF w=aY x w)(w:ay):(lu t).run (J aF iQ) w=aY x w:=(aks t w).trans<|h w
theorem acB:Q.funcs[41]?=U vG:=by kernel_rfl
def aol:=P func21 rfl
def aof:=P func26 rfl
def aoe:=P func27 rfl
def aoc:=P func28 rfl
def an7:=P func37 rfl
def an6:=P func39 rfl
def acC:=P func40 rfl
def acA:=P func42 rfl
def Qa:=P func43 rfl
def an5:=P func44 rfl
def acz:=P func45 rfl
def VC:=P func46 rfl
def an4:=P func50 rfl
def an3:=P func51 rfl
def an2:=P func52 rfl
def anZ:=P func62 rfl
def acv:=P func63 rfl
def VB:=P func64 rfl
def anY:=P func65 rfl
def anX:=P func66 rfl
def VA:=P func67 rfl
def anW:=P func68 rfl
def anV:=P func69 rfl
def anU:=P func84 rfl
def Ib:=P func85 rfl
def anT:=P func86 rfl
def VF:=P func101 rfl
def ao2:=P func111 rfl
def ao1:=P func112 rfl
def ao0:=P func113 rfl
def acO:=P func115 rfl
def acM:=P func117 rfl
def aoY:=P func118 rfl
def aoX:=P func119 rfl
def Qb:=P func120 rfl
def aoW:=P func121 rfl
def aoV:=P func123 rfl
def acK:=P func141 rfl
def acJ:=P func147 rfl
def aoS:=P func149 rfl
def aoQ:=P func150 rfl
def aoO:=P func152 rfl
def VE:=P func157 rfl
def aoD:=P func163 rfl
def aoC:=P func164 rfl
def aoB:=P func165 rfl
def aou:=P func173 rfl
def aot:=P func174 rfl
def VD:=P func182 rfl
def aos:=P func185 rfl
def aoq:=P func194 rfl
def acG:=P func195 rfl
def aoo:=P func199 rfl
def aon:=P func200 rfl
def aom:=P func206 rfl
def aod:=P func278 rfl
def aob:=P func288 rfl
def aoa:=P func289 rfl
def an9:=P func290 rfl
def an8:=P func291 rfl
def acD:=P func4 rfl
def acy:=P func5 rfl
def acw:=P func6 rfl
def acL:=P func14 rfl
def aoR:=P func15 rfl
def aoH:=P func16 rfl
def acI:=P func17 rfl
def acH:=P func18 rfl
def aor:=P func19 rfl
def aoj:=P func22 rfl
def aoi:=P func23 rfl
def aoh:=P func24 rfl
def aog:=P func25 rfl
def an1:=P func59 rfl
def an0:=P func60 rfl
def ao7:=P func100 rfl
def ao6:=P func102 rfl
def ao5:=P func103 rfl
def ao4:=P func104 rfl
def ao3:=P func105 rfl
def aoZ:=P func114 rfl
def acN:=P func116 rfl
def aoU:=P func146 rfl
def aoT:=P func148 rfl
def aoP:=P func151 rfl
def aoN:=P func153 rfl
def aoM:=P func154 rfl
def aoL:=P func155 rfl
def aoK:=P func156 rfl
def aoJ:=P func158 rfl
def aoI:=P func159 rfl
def aoG:=P func160 rfl
def aoF:=P func161 rfl
def aoE:=P func162 rfl
def aoA:=P func166 rfl
def aoz:=P func167 rfl
def aoy:=P func168 rfl
def aox:=P func169 rfl
def aow:=P func170 rfl
def aov:=P func171 rfl
def aop:=P func196 rfl
def acF:=P func198 rfl
def aok:=P func211 rfl
def acE:=P func282 rfl
@[simp]def ao9:=acQ Ib<|by kernel_rfl
@[simp]def apa:=acQ acF<|by kernel_rfl
def Lt:=jR underlying3
def zL:=jR underlying5
def sZ:=jR underlying9
def Vx:=jR underlying35
def ann:=jR underlying46
def P9:=jR underlying49
def Ia:=jR underlying51
def anm:=jR underlying72
def Vw:=jR underlying76
def anl:=jR underlying77
def uv:=jR underlying79
def Vv:=jR underlying87
def zM:=jR underlying107
def anv:=jR underlying120
def anu:=jR underlying123
def acp:=jR underlying135
def ant:=jR underlying169
def Vy:=jR underlying177
def ans:=jR underlying178
def aco:=jR underlying182
def acn:=jR underlying184
def anr:=jR underlying233
def Fs:=jR underlying245
def acm:=jR underlying271
def anq:=jR underlying273
def ack:=jR underlying276
def anp:=jR underlying308
def ano:=jR underlying334
def anF:=Qc sizeOf3
def acs:=Qc sizeOf5
def anD:=Qc sizeOf9
def anE:=Qc sizeOf334
def anR:=Qd isAgg3
def anP:=Qd isAgg5
def anO:=Qd isAgg9
def anQ:=Qd isAgg334
def P8:=acP zeroValue3
def ank:=acP zeroValue334
end Go.Proofs
namespace Go.Proofs.YtpdbmpbmepkikaaGreatDoor
section
open Go.RowKit
@[go_sem]theorem aET(f):AH.fn f=True:=rfl
@[go_sem]theorem aEU:AH.depth=Z:=rfl
structure aK(F:Nat->Prop)(w w':ay):Prop where
 os:w'.os=w.os
 tape:w'.tape=w.tape
 output:w'.output=w.output
 size:w.heap.size<=w'.heap.size
 block:∀k,k<w.heap.size->¬F k->w'.heap[k]?=w.heap[k]?
theorem aK.refl(F)(w):aK F w w:=⟨rfl,rfl,rfl,aS _,λ_ _ _=>rfl⟩
theorem aK.mono{F G}{w w'}(h:aK F w w')(c:∀k,k<w.heap.size->F k->G k):aK G w w':=⟨h.os,h.tape,h.output,h.size,λk a d=>h.block k a λb=>d<|c k a b⟩
theorem aK.trans'{F G H}{a b c}(h:aK F a b)(k:aK G b c)(l:∀x,x<a.heap.size->F x->H x)(j:∀x,x<a.heap.size->G x->H x):aK H a c:=⟨k.os.trans h.os,k.tape.trans h.tape,k.output.trans h.output,bC h.size k.size,λi d e=>(k.block i (cE d h.size) λg=>e<|j i d g).trans<|h.block i d λf=>e<|l i d f⟩
theorem aK.trans{F}{a b c}(h:aK F a b)(k:aK F b c):aK F a c:=h.trans' k (λ_ _ x=>x) λ_ _ x=>x
theorem aK.auJ{B}{w w'}{F}(h:aW B w w')(a:∀k,k<w.heap.size->B<=k->F k):aK F w w':=⟨h.os,h.tape,h.output,h.size,λk b c=>h.block k<|by grind⟩
theorem aK.iD{w w'}{F}(h:aW w.heap.size w w'):aK F w w':=.auJ h λk a b=>absurd a<|by omega
theorem aK.below{B}{w w'}{F}(h:aK F w w')(c:B<=w.heap.size)(a:∀k,k<B->¬F k):aW B w w':=⟨h.os,h.tape,h.output,h.size,λk b=>h.block k (by omega)<|a k b⟩
theorem aK.alloc(F)(w)(o):aK F w<|w.alloc o:=.iD<|(eo _ _).alloc (aS _) _
theorem aK.drew(F)(w):aK F w w.drew:=⟨rfl,rfl,rfl,aS _,λ_ _ _=>rfl⟩
theorem aK.setCell{F}(w)(a)(v)(h:F a.block):aK F w<|w.setCell a v:=⟨rfl,rfl,rfl,by simp[jk],λk _ b=>Below.heap_setCell _ _ _ _ λe=>b<|e▸h⟩
theorem aK.putObj{F}(w)(l)(o)(h:F l):aK F w<|w.putObj l o:=⟨rfl,rfl,rfl,by simp,λk _ a=>qQ λe=>a<|e▸h⟩
theorem aK.cell{F}{w w'}(h:aK F w w'){p}(b:p.block<w.heap.size)(a:¬F p.block):w'.cell? p=w.cell? p:=ei (w:=w)<|h.block _ b a
structure Le(D:Nat->Prop)(w w':ay):Prop where
 os:w'.os=w.os
 tape:w'.tape=w.tape
 output:w'.output=w.output
 size:w.heap.size<=w'.heap.size
 block:∀k,D k->w'.heap[k]?=w.heap[k]?
theorem aK.fI{F D}{w w'}(h:aK F w w')(b:∀k,D k->k<w.heap.size/\¬F k):Le D w w':=⟨h.os,h.tape,h.output,h.size,λk a=>h.block k (b k a).1 (b k a).2⟩
structure pH{α:Type}(I:α->ay->(Nat->Prop)->Prop):Prop where
 lt:∀s w D,I s w D->∀b,D b->b<w.heap.size
 st:∀s w D w',I s w D->Le D w w'->I s w' D
def bS(D:Nat->Prop)(W:ay)(D':Nat->Prop)(W':ay):Prop:=aK D W W'/\∀b,D' b->D b\/W.heap.size<=b
theorem bS.refl(D)(W):bS D W D W:=⟨.refl _ _,λ_ h=>ax h⟩
theorem bS.trans{D e d}{W W' a}(h:bS D W e W')(k:bS e W' d a):bS D W d a:=⟨h.1.trans' k.1 (λ_ _ x=>x) λx g f=>(h.2 x f).resolve_right<|by omega,λb c=>by
  rcases k.2 b c with c|c;.exact h.2 b c
  .exact aA<|bC h.1.size c⟩
theorem bS.step{D b G}{W W1 a}(h:bS D W b W1)(k:aK G W1 a)(d:∀x,x<W.heap.size->¬G x):bS D W b a:=⟨h.1.trans' k (λ_ _ x=>x) λx c e=>absurd e<|d x c,h.2⟩
theorem bS.other{D}{W W'}(h:aK (λ_=>False) W W'):bS D W D W':=⟨h.mono λ_ _ f=>f.elim,λ_ h=>ax h⟩
def Iter{α:Type}(P:bW)(gf:Nat)(lb:Array az)(Ex:α->Array az)(S:List α->Prop)(R:Nat->Prop)(W0:ay):Prop:=∀(l:Nat)(J U:List α->ay->(Nat->Prop)->Prop)(W:ay)(D0:Nat->Prop),Le R W0 W->pH J->pH U->(∀b,D0 b->¬R b)->(∀(pre:List α)(x:α)(W1:ay)(V:Nat->Prop),(∃E,S<|pre++x::E)->J pre W1 V->YieldAt AH 0 P l (Ex x) W1 λe W'=>(e=bj (bQ Y)/\∃D',J (pre++[x]) W' D'/\bS V W1 D' W')\/e=bj (bQ ai)/\∃D',U (pre++[x]) W' D'/\bS V W1 D' W')->J [] W D0->CallsIn AH 0 P gf (#[dM (Cm l) #[] #[]]++lb) W λe W'=>(∃v,e=bj v)/\((∃xs D',S xs/\J xs W' D'/\bS D0 W D' W')\/∃pre D',(∃E,S<|pre++E)/\U pre W' D'/\bS D0 W D' W')
theorem Iter.later{g}{P}{gf}{lb}{a:g->Array az}{S}{R}{W0 W1}(h:Iter P gf lb a S R W0)(c:Le R W0 W1):Iter P gf lb a S R W1:=λl J f W e b=>h l J f W e ⟨b.os.trans c.os,b.tape.trans c.tape,b.output.trans c.output,bC c.size b.size,λk d=>(b.block k d).trans<|c.block k d⟩
def as4{α:Type}(I:List α->ay->(Nat->Prop)->Prop)(E:Code->List α->ay->(Nat->Prop)->Prop)(xs:List α)(D:Nat->Prop)(W:ay):Exit->Act->ay->Prop|.normal,_,W'=>∃D',I xs W' D'/\bS D W D' W'|.ret,_,W'=>∃D',E .ret xs W' D'/\bS D W D' W'|.exit id,_,W'=>∃D',E (.exit id) xs W' D'/\bS D W D' W'|.goto t,_,W'=>∃D',E (.goto t) xs W' D'/\bS D W D' W'|EC _,_,_=>False|.outgrown,_,_=>False
structure uh(l:Nat)(w w':ay):Prop where
 os:w'.os=w.os
 tape:w'.tape=w.tape
 output:w'.output=w.output
 size:w'.heap.size=w.heap.size
 block:∀k,k≠l->w'.heap[k]?=w.heap[k]?
theorem uh.putObj(w)(l)(o):uh l w<|w.putObj l o:=⟨rfl,rfl,rfl,by simp,λ_ h=>qQ h⟩
theorem uh.fI{l}{w w'}(h:uh l w w'){D}(b:¬D l):Le D w w':=⟨h.os,h.tape,h.output,by rw[h.size];grind,λk a=>h.block k λe=>b<|e▸a⟩
theorem wp_rangeFunc{α:Type}{P:bW}{g:iT}{ps:Array Tmp}{assign body:Code}{Q:Exit->Act->ay->Prop}{a:Act}{w:ay}{gf:Nat}{lb:Array az}(hg:a.eval g=.func (.func gf) #[] lb)(eg:∀args w,(iA gf args).run P w=.ok (.enter gf args) w){Ex:α->Array az}{S:List α->Prop}{R:Nat->Prop}(hit:Iter P gf lb Ex S R w)(aal:∀b,R b->b<w.heap.size)(Gd:∀x,(Ex x).size=ps.size)(I:List α->ay->(Nat->Prop)->Prop)(Ix:Code->List α->ay->(Nat->Prop)->Prop)(hI:pH I)(B:∀c,pH<|Ix c)(D0:Nat->Prop)(hR:∀b,D0 b->¬R b)(h0:I [] w D0)(ayE:∀(l:Nat)(m:List α)(x:α)(W:ay)(D:Nat->Prop),w.heap.size<l->l<W.heap.size->¬D l->(∃jq,S<|m++x::jq)->I m W D->(∀b,D b->D0 b∨w.heap.size<=b)->assign.wpIn (AH.inRound l) 0 P (Exit.then (λa1 L=>bS D W (λb=>D b∨W.heap.size<=b∧b<L.heap.size) L∧∀z,uh l L z->body.wpIn (AH.inRound l) 0 P (as4 I Ix (m++[x]) (λb=>D b∨W.heap.size<=b∧b<L.heap.size) z) a1 z) λ_ _ _=>False) {tmps:=(ps.zip<|Ex x).foldl (λt(p,v)=>t.setIfInBounds p v) a.tmps,defers:=[]} W)(azK:∀(xs:List α)(W:ay)(D:Nat->Prop),S xs->I xs W D->bS D0 w D W->W.heap[w.heap.size]?=U (.deferred<|U [])->¬D w.heap.size->Q .normal {a with defers:={target:=.collected w.heap.size,args:=#[]}::a.defers} W)(ayk:∀(c:Code)(m:List α)(W:ay)(D:Nat->Prop),(∃jq,S<|m++jq)->Ix c m W D->bS D0 w D W->W.heap[w.heap.size]?=U (.deferred<|U [])->¬D w.heap.size->c.wpIn AH 0 P Q {a with defers:={target:=.collected w.heap.size,args:=#[]}::a.defers} W):(Code.rangeFunc g ps assign body).wpIn AH 0 P Q a w:=by
 refine wpIn_rangeFunc ?_;intro fn qp;obtain⟨N,hN⟩:=ex w.heap.size;obtain⟨i,y⟩:∃i:LoopState->Option Code->Loop,i=λst pe=>{state:=st,pending:=pe,fn,tmps:=a.tmps,params:=ps,assign,body,defers:=w}:=⟨_,rfl⟩;obtain⟨L,Au⟩:∃L,(w.alloc<|.deferred<|U []).alloc (.loop<|i .ready Z)=L:=⟨_,rfl⟩;have NS:L.heap[N+1]?=U (.loop<|i .ready Z):=by rw[<-Au,hN];have:=iF (w.alloc<|.deferred<|U [])<|.loop<|i .ready Z;rwa[vX]at this
 have hK1:L.heap[N]?=U (.deferred<|U []):=by rw[<-Au,hN];exact(dm _ _ _<|by simp).trans<|iF w _
 have jv:L=N+2:=by rw[<-Au,hN];simp
 have Tb:aK (λ_=>False) w L:=by rw[<-Au];exact(aK.alloc _ w _).trans<|aK.alloc _ _ _
 have ZF:=hI.lt _ _ _ h0;let A:(Nat->Prop)->Nat->Prop:=λD b=>D b∨b=N∨b=N+1;let J:List α->ay->(Nat->Prop)->Prop:=λm W E=>∃D,(∀b,E b↔A D b)∧I m W D∧¬D N∧¬D (N+1)∧(∀b,D b->D0 b∨N<=b)∧W.heap[N+1]?=U (.loop<|i .ready Z)∧W.heap[N]?=U (.deferred<|U []);let Jx:List α->ay->(Nat->Prop)->Prop:=λm W E=>∃D c,(∀b,E b↔A D b)∧Ix c m W D∧¬D N∧¬D (N+1)∧W.heap[N+1]?=U (.loop<|i .done<|U c)∧W.heap[N]?=U (.deferred<|U []);have hJ:pH J:=⟨λs W E h b n=>by
   obtain⟨D,q,X,_,_,_,d,r⟩:=h;rcases(q b).1 n with n|rfl|rfl;·exact hI.lt _ _ _ X b n
   ·exact(cU.1 r).1
   ·exact(cU.1 d).1,λs W E W' h T=>by obtain⟨D,q,X,h1,h2,h3,d,r⟩:=h;exact⟨D,q,hI.st _ _ _ _ X ⟨T.os,T.tape,T.output,T.size,λk r=>T.block k<|(q k).2<|.inl r⟩,h1,h2,h3,(T.block _<|(q _).2<|.inr<|.inr rfl).trans d,(T.block _<|(q _).2<|.inr<|.inl rfl).trans r⟩⟩;have GB:pH Jx:=⟨λs W E h b n=>by
   obtain⟨D,c,q,X,_,_,d,r⟩:=h;rcases(q b).1 n with n|rfl|rfl;·exact(B c).lt _ _ _ X b n
   ·exact(cU.1 r).1
   ·exact(cU.1 d).1,λs W E W' h T=>by obtain⟨D,c,q,X,h1,h2,d,r⟩:=h;exact⟨D,c,q,(B c).st _ _ _ _ X ⟨T.os,T.tape,T.output,T.size,λk r=>T.block k<|(q k).2<|.inl r⟩,h1,h2,(T.block _<|(q _).2<|.inr<|.inr rfl).trans d,(T.block _<|(q _).2<|.inr<|.inl rfl).trans r⟩⟩;refine⟨N+1,[{target:=.collected N,args:=#[]}],L,{target:=.fn (.func gf) lb,args:=#[.func (.yield<|N+1) #[] #[]]},L,gf,#[.func (.yield<|N+1) #[] #[]]++lb,L,?_,?_,λ_ _=>trivial,?_,λh=>by simp[AH]at h,?_⟩;·rw[<-Au,y,hN];exact run_enterLoop_outer _ _ _ _ _
 ·simp only[resolve,hg];simp[go_sem]
 ·simp[invoke,go_sem,eg]
 ·refine(hit (N+1) J Jx L (A D0) (Tb.fI λk r=>⟨aal k r,id⟩) hJ GB (λb n=>?_) ?_ ⟨D0,λ_=>vW,hI.st _ _ _ _ h0<|Tb.fI λk r=>⟨ZF k r,id⟩,λh=>absurd (ZF _ h)<|by omega,λh=>absurd (ZF _ h)<|by omega,λb n=>.inl n,NS,hK1⟩).mono ?_
  ·rcases n with n|rfl|rfl;·exact hR b n
   ·exactλh=>absurd (aal _ h)<|by omega
   ·exactλh=>absurd (aal _ h)<|by omega
  ·rintro m x W E hS⟨D,q,X,NV,ow,hDs,d,r⟩;have lq:N+1<W:=by grind
   have hy:=run_yield (P:=P) (args:=Ex x) d (by rw[y];exact Gd x);rw[y]at hy;refine⟨fn,_,assign,body,hy,roundIn_of_wpIn qp<|wpIn_mono (ayE (N+1) m x W D (by omega) lq ow hS X λb n=>hN▸hDs b n) ?_⟩;intro e a1 Wa hq;cases e with
   |normal=>
    obtain⟨NR,n⟩:=hq;have DY:=(NR.1.block _ lq ow).trans d;have azg:N+1<Wa:=by grind
    refine⟨_,run_beginRound DY<|by rw[y],?_⟩;obtain⟨E1,GC⟩:∃E1:Nat->Prop,E1=λb=>D b∨W<=b∧b<Wa.heap.size:=⟨_,rfl⟩;rw[<-GC]at NR n;have ajb:¬E1 N:=by rw[GC];rintro(h|h);exact NV h;omega
    have aja:¬E1 (N+1):=by rw[GC];rintro(h|h);exact ow h;omega
    refine wpIn_mono (n _<|uh.putObj Wa (N+1) _) ?_;obtain⟨z,Gv⟩:=ex<|Wa.putObj (N+1)<|.loop {i .ready Z with state:=.busy};rw[<-Gv];have uV:z.heap[N+1]?=U (.loop {i .ready Z with state:=.busy}):=by rw[Gv];exact F0 azg
    have Ao:z.heap[N]?=U (.deferred<|U []):=by rw[Gv];exact(qQ<|by omega).trans<|(NR.1.block _ (by omega) NV).trans r
    have jW:z.heap.size=Wa:=by rw[Gv];simp
    have fin:∀(f:Option Code)(j:Nat->Prop)(G:ay),(∀b,j b->b<G)->bS E1 z j G->(Uc (N+1) f).run P G=.ok f.isNone (G.putObj (N+1)<|.loop<|i (if f.isNone then .ready else .done) f)∧¬j N∧¬j (N+1)∧(∀b,j b->D0 b∨N<=b)∧(G.putObj (N+1)<|.loop<|i (if f.isNone then .ready else .done) f).heap[N+1]?=U (.loop<|i (if f.isNone then .ready else .done) f)∧(G.putObj (N+1)<|.loop<|i (if f.isNone then .ready else .done) f).heap[N]?=U (.deferred<|U [])∧bS E W (A j) (G.putObj (N+1)<|.loop<|i (if f.isNone then .ready else .done) f):=λf j G hD3 Q0=>by
     have lJ:=(Q0.1.block _ (by omega) aja).trans uV;have H:¬j (N+1):=λh=>by rcases Q0.2 _ h with h|h;exact aja h;omega
     have:=run_endRound (P:=P) f lJ;rw[y]at this⊢;refine⟨this,λh=>by rcases Q0.2 _ h with h|h;exact ajb h;omega,H,λb n=>?_,F0 (cU.1 lJ).1,(qQ<|by omega).trans<|(Q0.1.block _ (by omega) ajb).trans Ao,?_,λb n=>?_⟩
     ·rcases Q0.2 b n with h|h
      ·rw[GC]at h;rcases h with h|h;·exact hDs b h
       ·exact .inr<|by omega
      ·exact .inr<|by omega
     ·have s3:=((NR.1.mono λk _ r=>(q k).2<|.inl r).trans<|by grind[aK.putObj]).trans' Q0.1 (λ_ _ h=>h) (λk r h=>by
       rw[GC]at h;rcases h with h|h;·exact(q k).2<|.inl h
       ·omega);exact s3.trans<|aK.putObj _ _ _<|(q _).2<|.inr<|.inr rfl
     ·rcases n with n|rfl|rfl
      ·rcases Q0.2 b n with h|h;·grind
       ·exact .inr<|by have:=NR.1.size;omega
      ·exact .inl<|(q _).2<|.inr<|.inl rfl
      ·exact .inl<|(q _).2<|.inr<|.inr rfl
    have C:∀(K:List α->ay->(Nat->Prop)->Prop)(s:List α)(j:Nat->Prop)(G:ay)(o:Obj),pH K->K s G j->¬j (N+1)->K s (G.putObj (N+1) o) j:=λK s j G o hK hs hn=>hK.st _ _ _ _ hs<|(uh.putObj G (N+1) o).fI hn;rintro e a3 G hp;cases e with|normal=>obtain⟨j,u,M⟩:=hp;obtain⟨hr,n1,H,n3,O,F,Q1⟩:=fin Z j G (hI.lt _ _ _ u) M;exact⟨_,_,hr,.inl ⟨rfl,A j,⟨j,λ_=>vW,C I _ _ _ _ hI u H,n1,H,n3,O,F⟩,Q1⟩⟩|ret=>obtain⟨j,u,M⟩:=hp;obtain⟨hr,n1,H,n3,O,F,Q1⟩:=fin (U .ret) j G ((B _).lt _ _ _ u) M;exact⟨_,_,hr,.inr ⟨rfl,A j,⟨j,.ret,λ_=>vW,C (Ix .ret) _ _ _ _ (B _) u H,n1,H,O,F⟩,Q1⟩⟩|exit id=>obtain⟨j,u,M⟩:=hp;obtain⟨hr,n1,H,n3,O,F,Q1⟩:=fin (U<|.exit id) j G ((B _).lt _ _ _ u) M;exact⟨_,_,hr,.inr ⟨rfl,A j,⟨j,.exit id,λ_=>vW,C (Ix<|.exit id) _ _ _ _ (B _) u H,n1,H,O,F⟩,Q1⟩⟩|goto t=>obtain⟨j,u,M⟩:=hp;obtain⟨hr,n1,H,n3,O,F,Q1⟩:=fin (U<|.goto t) j G ((B _).lt _ _ _ u) M;exact⟨_,_,hr,.inr ⟨rfl,A j,⟨j,.goto t,λ_=>vW,C (Ix<|.goto t) _ _ _ _ (B _) u H,n1,H,O,F⟩,Q1⟩⟩|panic ch=>exact hp.elim|outgrown=>exact hp.elim
   |exit id=>exact hq.elim|goto t=>exact hq.elim|ret=>exact hq.elim|panic ch=>exact hq.elim|outgrown=>exact hq.elim
  ·have back:∀(D E:Nat->Prop)(z:ay)(o:Obj),(∀b,E b↔A D b)->(∀b,D b->b<z)->bS (A D0) L E z->bS D0 w D (z.putObj (N+1) o):=λD E z o q lq Q0=>by
    refine⟨?_,λb n=>?_⟩;·have s1:=(Tb.mono (G:=D0) λ_ _ h=>h.elim).trans' Q0.1 (λ_ _ h=>h) (λk r h=>by grind);exact⟨s1.os,s1.tape,s1.output,by simpa using s1.size,λk r hn=>(qQ<|by omega).trans<|s1.block k r hn⟩
    ·rcases Q0.2 b ((q b).2<|.inl n)with h|h;all_goals grind
   rintro e z⟨⟨v,rfl⟩,(⟨xs,E,hS,⟨D,q,X,n1,H,_,d,r⟩,Q0⟩|⟨m,E,hSp,⟨D,c,q,X,n1,H,d,r⟩,Q0⟩)⟩;·refine⟨Z,_,by have:=run_endLoop (P:=P) d (by grind);rw[y]at this;exact this,?_⟩;have hx:=azK xs (z.putObj (N+1)<|.loop {i .ready Z with state:=.exhausted}) D hS (hI.st _ _ _ _ X<|(uh.putObj z (N+1) _).fI H) (back D E z _ q (hI.lt _ _ _ X) Q0) (by grind[World.putObj_heap_other]) (by grind);grind
   ·refine⟨U c,_,by have:=run_endLoop (P:=P) d (by grind);rw[y]at this;exact this,?_⟩;have hx:=ayk c m (z.putObj (N+1)<|.loop {i .done (U c)with state:=.exhausted}) D hSp ((B c).st _ _ _ _ X<|(uh.putObj z (N+1) _).fI H) (back D E z _ q ((B c).lt _ _ _ X) Q0) (by grind[World.putObj_heap_other]) (by grind);grind
theorem Cw{W w1}(a:aW W.heap.size W w1):(∀b o,b<W.heap.size->w1.cell? ⟨b,o,Z⟩=W.cell? ⟨b,o,Z⟩)/\∀b o,b<W.heap.size->w1.frozen? ⟨b,o,Z⟩=W.frozen? ⟨b,o,Z⟩:=⟨λb o h=>a.cell (p:=⟨b,o,Z⟩) h,λb o h=>a.frozen (p:=⟨b,o,Z⟩) h⟩
structure KE(κ:Type)[DecidableEq κ]where
 enc:κ->az
 desc:TypeDesc
 same:∀a b,EN desc (enc a) (enc b)=U (cg<|a=b)flat:∀(P:bW)(w:ay)(e:Bool)(n:Nat)(t:ey)(v:az),P.underlying t=U desc->(Cj e (n+1) t v).run P w=aY () w
 bits:∀n a,EO n (enc a) (enc a)=Y
def nx:KE ByteArray where
 enc:=aD;desc:=.string;same:=λa b=>by simp only[EN,ew];rw[BD,MapKept.bytes_beq,decide_eq_true_iff]
 flat:=λP w e n t v h=>by simp[Cj,run_underlying h]
 bits:=λn a=>by cases n<;>(simp only[EO];exact(MapKept.bytes_beq a a).2 rfl)
def qT(k:IntKind):KE Int where
 enc:=V k;desc:=.int k;same:=λa b=>by simp[EN];by_cases h:a=b<;>simp[h]
 flat:=λP w e n t v h=>by simp[Cj,run_underlying h]
 bits:=λn a=>by cases n<;>simp[EO]
section
variable {κ:Type} [DecidableEq κ]
def look:List (κ×az)->κ->Option az|[],_=>Z|(a,v)::l,k=>if a=k then U v else look l k
def put:List (κ×az)->κ->az->List (κ×az)|[],k,v=>[(k,v)]|(a,u)::l,k,v=>if a=k then(k,v)::l else(a,u)::put l k v
theorem atU(l:List<|κ×az)(k)(v)(x):x∈(put l k v).map (·.1)↔x=k∨x∈l.map (·.1):=by induction l with|nil=>simp[put]|cons p l b=>obtain⟨a,u⟩:=p;unfold put;grind
theorem aeZ{l:List<|κ×az}(k)(v)(h:(l.map (·.1)).Nodup):((put l k v).map (·.1)).Nodup:=by induction l with|nil=>simp[put]|cons p l b=>
  obtain⟨a,u⟩:=p;unfold put;simp only[gd,FZ]at h;by_cases e:a=k;·grind
  ·rw[if_neg e];grind[List.nodup_cons,atU]
structure Reads(K:KE κ)(en:Array mL)(clock:Nat)(es:List<|κ×az):Prop where
 read:en.toList.map (λe=>(e.key,e.val))=es.map λp=>(K.enc p.1,p.2)nodup:(es.map (·.1)).Nodup
 LW:(en.toList.map (·.born)).Pairwise (·<·)below:∀e∈en.toList,e.born<clock
def dn(K:KE κ)(w:ay)(m:Nat)(es:List<|κ×az):Prop:=∃en clock,w.heap[m]?=U (iZ en clock)/\Reads K en clock es
theorem dn.of_block{K:KE κ}{w w'}{m}{es}(h:dn K w m es)(d:w'.heap[m]?=w.heap[m]?):dn K w' m es:=by obtain⟨e,a,c,b⟩:=h;exact⟨e,a,d.trans c,b⟩
theorem dn.lt{K:KE κ}{w}{m}{es}(h:dn K w m es):m<w:=by obtain⟨c,a,b,_⟩:=h;grind
theorem dn.alloc{K:KE κ}{w}{m}{es}(h:dn K w m es)(o):dn K (w.alloc o) m es:=h.of_block<|dm _ _ _ h.lt
theorem dn.below{K:KE κ}{w w'}{m}{es}(h:dn K w m es)(a:aW w w w'):dn K w' m es:=h.of_block<|a.block _ h.lt
theorem dn.keep{K:KE κ}{w w'}{m}{es}{F}(h:dn K w m es)(b:aK F w w')(a:¬F m):dn K w' m es:=h.of_block<|b.block _ h.lt a
theorem dn.drew{K:KE κ}{w}{m}{es}(h:dn K w m es):dn K w.drew m es:=h.of_block rfl
theorem dn.new(K:KE κ)(w:ay):dn K (w.alloc<|iZ #[] 0) w []:=⟨#[],0,iF w _,by simp,by simp,by simp,by simp⟩
theorem TT(K:KE κ)(k):∀(l)(es)(i),l.map (λe=>(e.key,e.val))=es.map (λp=>(K.enc p.1,p.2))->Ck K.desc (K.enc k) l i=U (match es.findIdx? λp=>p.1=k with|some j=>(look es k).map λv=>(i+j,v)|none=>Z)/\(es.findIdx? λp=>p.1=k).isSome=(look es k).isSome:=by intro l;induction l with
 |nil=>intro es i h;cases es with|nil=>simp[Ck,look]|cons p es=>simp at h
 |cons e l b=>intro es i h;cases es with|nil=>simp at h|cons p es=>simp only[gd,FY,Jq]at h;obtain⟨⟨c,d⟩,a⟩:=h;obtain⟨f,g⟩:=b es (i+1) a;simp only[Ck,c,K.same,YM,look];grind
theorem run_findKey{P}{w}{c}(K:KE κ)(e:P.underlying c=U K.desc){b}{a}{es}(h:Reads K b a es)(k):(Kw c (K.enc k) b.toList).run P w=aY (match es.findIdx? λp=>p.1=k with|some j=>(look es k).map λv=>(j,v)|none=>Z) w:=by obtain⟨d,_⟩:=TT K k b.toList es 0 h.read;simp only[Kw,gR,run_underlying e,mg,d,vV,Bw]
theorem QM{P}{w}{T i f}(K:KE κ)(q:P.underlying T=U (.map i f))(d:P.underlying i=U K.desc){m}{es}(h:dn K w m es){z}(n:(lu f).run P w=aY z w)(k)(l):(OD T (cq m) (K.enc k) l).run P w=aY (if l then bO #[(look es k).getD z,(look es k).isSome]else(look es k).getD z) w:=by
 obtain⟨e,a,t,g⟩:=h;have s:(ry m).run P w=aY (iZ e a) w:=by simp[ry,oA,t]
 have r:=run_findKey (w:=w) K d g k;obtain⟨_,c⟩:=TT K k e.toList es 0 g.read;simp only[OD,gR,run_underlying q,mg,s,vV,K.flat _ _ _ _ _ _ d,r];cases b:es.findIdx? λp=>p.1=k with
 |none=>rw[b]at c;cases o:look es k with|none=>simp[n,mg]|some v=>grind
 |some j=>rw[b]at c;cases o:look es k with|none=>grind|some v=>simp
theorem atB{K:KE κ}{i}{d}{es}(h:Reads K i d es)(k)(v):match es.findIdx? λp=>p.1=k with|some j=>Reads K (i.modify j λe=>{e with key:=K.enc k,val:=v}) d (put es k v)∧i[j]?.map (·.key)=K.enc k|none=>Reads K (i.push {key:=K.enc k,val:=v,born:=d}) (d+1)<|put es k v:=by
 have m:∀(l:List mL)(es:List<|κ×az),l.map (λe=>(e.key,e.val))=es.map (λp=>(K.enc p.1,p.2))->match es.findIdx? λp=>p.1=k with|some j=>(l.modify j λe=>{e with key:=K.enc k,val:=v}).map (λe=>(e.key,e.val))=(put es k v).map (λp=>(K.enc p.1,p.2))∧(l.modify j λe=>{e with key:=K.enc k,val:=v}).map (·.born)=l.map (·.born)∧l[j]?.map (·.key)=K.enc k|none=>put es k v=es++[(k,v)]:=by intro l;induction l with
  |nil=>intro es h;cases es with|nil=>simp[put]|cons p es=>simp at h
  |cons e l t=>intro es h;cases es with|nil=>simp at h|cons p es=>
    simp only[gd,FY,Jq]at h;obtain⟨⟨z,x⟩,r⟩:=h;have:=t es r;simp only[YM];obtain⟨a,u⟩:=p;by_cases hp:a=k;·subst hp;simp only[decide_true,iW,put];grind
    ·simp only[hp,MM,oT,vU,put];grind
 have g:=m i.toList es h.read;cases o:es.findIdx? λp=>p.1=k with
 |none=>
  simp only[o]at g⊢;refine⟨?_,aeZ k v h.nodup,?_,?_⟩;·rw[g];simp[h.read]
  ·simp only[YL,vT,gd,tG,List.pairwise_append,mC,dj,dP,dY];refine⟨h.LW,by simp,?_⟩;rintro a⟨e,f,rfl⟩b rfl;exact h.below e f
  ·intro e f;simp only[YL,qP,dj,dP,dY]at f;rcases f with f|rfl;·exact Nat.lt_succ_of_lt<|h.below e f
   grind|some j=>
  simp only[o]at g⊢;obtain⟨A,s,y⟩:=g;refine⟨⟨by grind,aeZ k v h.nodup,by rw[ag5,s];exact h.LW,?_⟩,by grind⟩;intro e f;rw[ag5]at f;have:e.born∈i.toList.map (·.born):=by grind
  obtain⟨w,n,q⟩:=mC.1 this;rw[<-q];exact h.below w n
theorem asY{P}{w}{T l t}(K:KE κ)(y:P.underlying T=U (.map l t))(r:P.underlying l=U K.desc){m}{es}(h:dn K w m es)(k)(v):∃o,(Ug T (cq m) (K.enc k) v).run P w=aY () (w.putObj m o)/\dn K (w.putObj m o) m (put es k v):=by
 obtain⟨s,a,e,d⟩:=h;have b:=(cU.1 e).1;have A:(ry m).run P w=aY (iZ s a) w:=by simp[ry,oA,e]
 have i:∀o,(setObj m o).run P w=aY () (w.putObj m o):=λo=>by simp[setObj,oA,e,World.putObj]
 have z:=run_findKey (w:=w) K r d k;obtain⟨_,q⟩:=TT K k s.toList es 0 d.read;have c:=atB d k v;simp only[Ug,gR,run_underlying y,mg,A,K.flat _ _ _ _ _ _ r,z];cases n:es.findIdx? λp=>p.1=k with
 |none=>rw[n]at q c;cases x:look es k with|some v=>grind|none=>exact⟨_,by simp[i],_,_,F0 b,c⟩
 |some j=>rw[n]at q c;cases x:look es k with|none=>grind|some u=>obtain⟨g,f⟩:=c;refine⟨_,?_,_,_,F0 b,g⟩;simp only[eG,gR,aa7,f,fV,K.bits,iW,vV,mg,i]
end
section
variable {κ:Type} [DecidableEq κ] {P:bW} (w:ay) {ops:Array dJ} {rest:List dJ} {o:dJ} {a:Act} {Q:Exit->Act->ay->Prop}
theorem PL(K:KE κ)(n:o.guard=Z)(m x)(T)(d:o.op=Op.lookup T m x ai)(f e)(l:P.underlying T=U (.map f e))(i:P.underlying f=K.desc)(z)(g:(lu e).run P w=aY z w)(b)(es)(k)(q:a.eval m=cq (U b))(h:dn K w b es)(j:a.eval x=K.enc k)(p:wpList P ops Q rest (a.put o.dst<|(look es k).getD z) w):wpList P ops Q (o::rest) a w:=by refine ML n λr c=>?_;unfold Oper.wp;simp only[cX,d,q,j,gR,QM (P:=P) K l i h g k ai,mg,vV,oT,vU];exact c _ _ p
theorem Hx(K:KE κ)(n:o.guard=Z)(m x)(T)(d:o.op=Op.lookup T m x Y)(f e)(l:P.underlying T=U (.map f e))(i:P.underlying f=K.desc)(z)(g:(lu e).run P w=aY z w)(b)(es)(k)(q:a.eval m=cq (U b))(h:dn K w b es)(j:a.eval x=K.enc k)(p:wpList P ops Q rest (a.put o.dst<|bO #[(look es k).getD z,(look es k).isSome]) w):wpList P ops Q (o::rest) a w:=by refine ML n λr c=>?_;unfold Oper.wp;simp only[cX,d,q,j,gR,QM (P:=P) K l i h g k Y,mg,vV,iW];exact c _ _ p
theorem PK(K:KE κ)(t:o.guard=Z)(m x y)(T)(f:o.op=Op.mapUpdate T m x y)(h i)(s:P.underlying T=U (.map h i))(r:P.underlying h=K.desc)(b)(es)(k)(v)(p:a.eval m=cq (U b))(q:dn K w b es)(j:a.eval x=K.enc k)(l:a.eval y=v)(n:∀d,dn K d b (put es k v)->aK (λx=>x=b) w d->d.heap.size=w->wpList P ops Q rest (a.put o.dst ak) d):wpList P ops Q (o::rest) a w:=by refine ML t λz e=>?_;obtain⟨u,c,g⟩:=asY (P:=P) K s r q k v;unfold Oper.wp;simp only[cX,f,p,j,l,gR,c,mg,vV];exact e _ _<|n _ g (aK.putObj _ _ _ rfl)<|by simp
variable {F:Fence} {n:Nat}
theorem abW(K:KE κ)(u:o.guard=Z)(m x)(T)(d:o.op=Op.lookup T m x ai)(i g)(t:P.underlying T=U (.map i g))(s:P.underlying i=K.desc)(z)(q:(lu g).run P w=aY z w)(b)(es)(k)(p:a.eval m=cq (U b))(r:dn K w b es)(j:a.eval x=K.enc k)(l:Ue F n P ops Q rest (a.put o.dst<|(look es k).getD z) w):Ue F n P ops Q (o::rest) a w:=by
 refine wpListIn_plain u λv e=>?_;have c:o.semAt F.round a.eval=cX a.eval o:=by unfold Oper.semAt;grind
 refine⟨λf h=>by simp[Oper.about,d]at h,?_⟩;rw[c];simp only[cX,d,p,j,gR,QM (P:=P) K t s r q k ai,mg,vV,oT,vU];exact e _ _ l
end
end
end Go.Proofs.YtpdbmpbmepkikaaGreatDoor
set_option maxRecDepth 100000
namespace Go.Proofs
open Go.Shelf
def Vz:Cc:=⟨λ|160=>117|232=>176|231=>175|227=>177|234=>179|233=>178|236=>181|235=>180|228=>201|271=>204|151=>203|197=>202|120=>215|152=>214|260=>213|137=>240|119=>241|224=>242|225=>243|217=>258|266=>263|n=>n,λ|9=>9|4=>4|3=>3|5=>5|117=>282|116=>281|0=>0|124=>285|21=>21|105=>295|46=>169|119=>327|139=>330|138=>329|n=>n,λ|3=>1|4=>2|n=>n⟩
theorem anz:aIf Q Vz:=by constructor<;>intros<;>kernel_rfl
theorem anx:Go.Proofs.Lays.n233 Q Vz:=by constructor<;>intros<;>kernel_rfl
theorem anw:Go.Proofs.Lays.n234 Q Vz:=by constructor<;>intros<;>kernel_rfl
def aE9:Cc:=⟨λ|215=>205|n=>n,λ|3=>3|4=>4|n=>n,λ|n=>n⟩
def anM:Cc:=⟨λ|122=>183|215=>205|n=>n,λ|3=>3|4=>4|n=>n,λ|n=>n⟩
theorem anN:Go.Proofs.Lays.n122 Q anM:=by constructor<;>intros<;>kernel_rfl
open Go.RowKit in
theorem ao8 (x y:Int) (w:ay):
  bz Q 183 #[V aC x,V aC y] w λe w'=>e=bj (V aC (OK x y))∧w'=w:=Any.cmp_Compare_int anN x y w
def aE7:Cc:=⟨λ|246=>210|283=>227|284=>228|285=>229|286=>230|129=>226|317=>250|318=>251|319=>252|320=>253|337=>260|338=>261|n=>n,λ|2=>2|3=>3|9=>9|4=>4|171=>317|0=>0|53=>120|37=>79|5=>5|173=>319|212=>340|51=>123|20=>20|213=>341|46=>169|232=>347|233=>348|n=>n,λ|17=>3|18=>5|19=>6|n=>n⟩
def aE8:Cc:=⟨λ|243=>193|246=>210|283=>227|284=>228|285=>229|286=>230|129=>226|317=>250|318=>251|319=>252|320=>253|337=>260|338=>261|n=>n,λ|3=>3|9=>9|2=>2|4=>4|171=>317|0=>0|53=>120|37=>79|5=>5|173=>319|212=>340|51=>123|20=>20|213=>341|46=>169|232=>347|233=>348|n=>n,λ|17=>3|18=>5|19=>6|n=>n⟩
def anH:Cc:=⟨λ|171=>140|243=>193|246=>210|283=>227|284=>228|285=>229|286=>230|129=>226|317=>250|318=>251|319=>252|320=>253|337=>260|338=>261|n=>n,λ|3=>3|9=>9|2=>2|4=>4|171=>317|0=>0|53=>120|37=>79|5=>5|173=>319|212=>340|51=>123|20=>20|213=>341|46=>169|232=>347|233=>348|n=>n,λ|17=>3|18=>5|19=>6|n=>n⟩
theorem anI:Go.Proofs.LaysM.n171 Q anH:=by constructor<;>intros<;>first|kernel_rfl|(constructor<;>intros<;>kernel_rfl)
open Go.RowKit Go.Sort Go.Lib in
theorem anA (n:Int) (h0: -9223372036854775808<=n) (h1:n<=9223372036854775807) (w:ay) (ayi:zi Q w "internal/strconv.uint64pow10" cO aa8):
  bz Q 140 #[V aC n] w λe w'=>e=bj (aD ⟨(Lib.itoa n).toArray⟩)∧∃k os,w'=grow (w.drewN k) os:=Any.strconv_Itoa anI n h0 h1 w ayi
def anL:Cc:=⟨λ|190=>186|125=>208|258=>207|128=>225|129=>226|302=>216|303=>217|304=>218|305=>219|306=>220|307=>221|308=>222|309=>223|310=>224|333=>244|329=>245|330=>246|334=>247|335=>248|336=>249|344=>259|n=>n,λ|31=>51|9=>9|3=>3|46=>169|0=>0|51=>123|53=>120|4=>4|183=>309|182=>308|131=>313|5=>5|218=>334|222=>337|228=>344|229=>39|n=>n,λ|n=>n⟩
theorem acu:Go.Proofs.Lays.n190 Q anL:=by constructor<;>intros<;>kernel_rfl
open Go.Sort Go.RowKit in
theorem anC (blk off cap:Nat) (ss:List (List UInt8)) (w:ay) (hH:Holds encStr w blk off ss.toArray) (azU:blk<w.heap.size) (fo:ss.length<4611686018427387904):
  bz Q 186 #[aE (U ⟨blk,off,Z⟩) ss.length cap] w λe w'=>
   e=bj (bO #[])∧∃n os,w'=grow (putRow encStr (Sort.ahead w n) blk off (ss.mergeSort λx y=>cg (x<=y)).toArray) os:=Any.slices_Sort_string acu blk off cap ss w hH azU fo
def aFa:Cc:=⟨λ|206=>125|n=>n,λ|9=>9|4=>4|3=>3|n=>n,λ|n=>n⟩
def anJ:Cc:=⟨λ|99=>71|206=>125|n=>n,λ|9=>9|4=>4|3=>3|n=>n,λ|n=>n⟩
theorem anK:Go.Proofs.Lays.n99 Q anJ:=by constructor<;>intros<;>kernel_rfl
open Go.RowKit Go.Lib in
theorem acr (s p:ByteArray) (w:ay):
  bz Q 71 #[aD s,aD p] w λe w'=>e=bj (bQ (OC s.data.toList p.data.toList))∧w'=w:=Any.strings_HasPrefix anK s p w
open Go.RowKit Go.Sort in
theorem anB (p:Option eT) (cap:Nat) (w:ay):
  bz Q 186 #[aE p 0 cap] w λe w'=>e=bj (bO #[])∧w'=w:=Any.slices_Sort_string_none acu p cap w
end Go.Proofs
namespace Go.Proofs.YtpdbmpbmepkikaaGreatDoor
section
open Go.RowKit
def O.val(x:O):az:=bJ #[aD x.name,aD x.field,V aC x.c,V aC x.r,aD x.value]
theorem xx{a b}(h:a=b):bj (bQ a)=bj b:=by rw[h]
structure O.Ok(x:O):Prop where
 name:x.name.size<=4096
 field:x.field.size<=4096
theorem Sy(n f v)(c r)(w)(d:n.size<=4096)(b:f.size<=4096):bz Q 119 #[bJ #[aD n,aD f,V aC c,V aC r,aD v]] w λe a=>e=bj (iG n f)/\aW w w a:=by go_enter aoX,ntmps119;go_wp2;go_ret;exact⟨rfl,(eo _ _).alloc (aS _) _⟩
def Rf(x y:Int):Int:=if x=0 then y else x
theorem auu(b)(x y)(w)(f:w.cell? b=U (V aC x))(g:w.cell? ⟨b,1,Z⟩=U (V aC y)):bz Q 182 #[aE (U ⟨b,0,Z⟩) 2 2] w λe c=>e=bj (Rf x y)/\c=w:=by
 by_cases hx:x=0
 .by_cases hy:y=0
  .subst hx;subst hy;go_enter VD,ntmps182;go_wp2;refine Jo 3 ?_;iterate 3(try(rw[DC];go_wp2))
   go_ret;exact⟨rfl,rfl⟩
  .have d:(y !=0)=Y:=by simp[hy]
   subst hx;go_enter VD,ntmps182;go_wp2;refine Jo 3 ?_;iterate 3(try(rw[DC];go_wp2))
   go_ret;exact⟨rfl,rfl⟩
 .have a:(x !=0)=Y:=by simp[hx]
  go_enter VD,ntmps182;go_wp2;refine Jo 3 ?_;iterate 3(try(rw[DC];go_wp2))
  go_ret;exact⟨by simp[Rf,hx],rfl⟩
theorem awx(c r b a):cg (0<Rf (OK c b) (OK r a))=xE c r b a:=by unfold Rf xE OK;grind
theorem Ym(c r b a)(w):bz Q 121 #[bJ #[V aC c,V aC r],bJ #[V aC b,V aC a]] w λe d=>e=bj (xE c r b a)/\aW w w d:=by go_enter aoW,ntmps121;go_wp2;go_region_held3λW=>W.cell? ⟨w.heap.size,0,Z⟩=U (V aC c)/\W.cell? ⟨w.heap.size,1,Z⟩=U (V aC r)/\W.cell? ⟨w.heap.size+1,0,Z⟩=U (V aC b)/\W.cell? ⟨w.heap.size+1,1,Z⟩=U (V aC a)(go_keep)((first|(go_at_call 183;refine(ao8 _ _ _).mono ?_;rintro e d⟨rfl,rfl⟩)|(go_at_call 182;refine(auu _ (OK c b) (OK r a) _ ?h0 ?h1).mono ?_;(case h0=>go_simp);(case h1=>go_simp);rintro e d⟨rfl,rfl⟩)));go_wp2;go_ret;exact⟨xx<|awx c r b a,((((eo _ _).alloc (aS _) _).alloc (by simp) _).alloc (by simp;omega) _).drew⟩
theorem afm(x y)(w):bz Q 157 #[x.val,y.val] w λe d=>e=bj (vL x y)/\aW w w d:=by
 obtain⟨n,f,c,r,v⟩:=x;obtain⟨l,m,a,b,k⟩:=y;unfold O.val;by_cases h:c=a/\r=b;.obtain⟨rfl,rfl⟩:=h;go_enter VE,ntmps157;go_wp2;go_ret;exact⟨xx<|by simp[vL,NY],((eo _ _).alloc (aS _) _).alloc (by simp) _⟩
 .have j:vL ⟨n,f,c,r,v⟩ ⟨l,m,a,b,k⟩=xE c r a b:=by grind[vL]
  have i:=X j;by_cases hc:c=a
  .have o:¬r=b:=by grind
   subst hc;go_enter VE,ntmps157;go_wp2_with(go_at_call 121;refine(Ym _ _ _ _ _).mono ?_;rintro e d⟨rfl,g⟩);go_ret;exact⟨xx i.out.symm,(((eo _ _).alloc (aS _) _).alloc (by simp) _).trans<|g.mono<|by simp;omega⟩
  .go_enter VE,ntmps157;go_wp2_with(go_at_call 121;refine(Ym _ _ _ _ _).mono ?_;rintro e d⟨rfl,g⟩);go_ret;exact⟨xx i.out.symm,(((eo _ _).alloc (aS _) _).alloc (by simp) _).trans<|g.mono<|by simp;omega⟩
def es(L:List O):List<|ByteArray×az:=L.map λx=>(x.key,x.val)
def cI(w:ay)(m:Nat)(L:List O):Prop:=dn nx w m<|es L
theorem cI.of_block{w w'}{m}{L}(h:cI w m L)(a:w'.heap[m]?=w.heap[m]?):cI w' m L:=dn.of_block h a
theorem cI.alloc{w}{m}{L}(h:cI w m L)(o):cI (w.alloc o) m L:=dn.alloc h o
theorem cI.below{w w'}{m}{L}(h:cI w m L)(a:aW w w w'):cI w' m L:=dn.below h a
theorem cI.keep{w w'}{m}{L}{F}(h:cI w m L)(b:aK F w w')(a:¬F m):cI w' m L:=dn.keep h b a
theorem cI.lt{w}{m}{L}(h:cI w m L):m<w:=dn.lt h
theorem cI.nodup{w}{m}{L}(h:cI w m L):(L.map (·.key)).Nodup:=by obtain⟨d,b,_,c⟩:=h;have:=c.nodup;grind[es,List.map_map]
def l8(L:List O)(k:ByteArray):Option O:=L.find? λy=>y.key=k
theorem Mq(L)(k):look (es L) k=(l8 L k).map (·.val):=by unfold es l8;induction L with|nil=>rfl|cons y l a=>grind[look]
theorem apQ{L}{x}(h:l8 L x.key=Z):fD L x=L++[x]/\put (es L) x.key x.val=es (fD L x):=by unfold l8 at h;induction L with|nil=>exact⟨rfl,rfl⟩|cons y l b=>
  simp only[MK]at h;by_cases E:y.key=x.key;.grind
  .simp only[E,MM]at h;obtain⟨a,c⟩:=b h;simp only[fD,E,vU,a,qj,true_and];show put ((y.key,y.val)::es l) _ _=(y.key,y.val)::es (l++[x]);rw[put,if_neg E,c,a]
theorem apP{L}{x y}(h:l8 L x.key=U y):(vL x y=ai->fD L x=L)/\(vL x y=Y->put (es L) x.key x.val=es (fD L x)):=by unfold l8 at h;induction L with|nil=>simp at h|cons z l b=>
  simp only[MK]at h;by_cases E:z.key=x.key;.simp only[E,decide_true,ew]at h;subst h;refine⟨λa=>by grind[fD],λa=>?_⟩;show put ((z.key,z.val)::es l) _ _=_;rw[put,dy E];grind[fD,es]
  .simp only[E,MM]at h;obtain⟨d,c⟩:=b h;refine⟨λa=>by grind[fD],λa=>?_⟩;show put ((z.key,z.val)::es l) _ _=_;rw[put,if_neg E,c a];grind[fD,es]
theorem Hw(w):(lu 46).run Q w=aY (bJ #[aD ⟨#[]⟩,aD ⟨#[]⟩,V aC 0,V aC 0,aD ⟨#[]⟩]) w:=by kernel_rfl
end
section
abbrev bl(s:ByteArray):List UInt8:=s.data.toList
theorem aDo(a b):bl (a++b)=bl a++bl b:=by simp[bl]
theorem zu{a b}(h:bl a=bl b):a=b:=by obtain⟨a⟩:=a;obtain⟨b⟩:=b;simp only[bl]at h;rw[Array.toList_inj.1 h]
theorem Ig(s):s.toList=bl s:=Lib.toList_data s
theorem ala:∀a b:List UInt8,Ch a b=cg (a<b)|a,[]=>by cases a<;>simp[Ch]|[],b::l=>by simp[Ch]|a::l,b::c=>by rw[Ch,ala l c,BD];simp[Jn]
def oc(a b:ByteArray):Bool:=cg<|bl a<bl b
theorem aAO(a b):NY a b=oc b a:=by unfold NY oc;rw[Ig,Ig,ala,BD];grind
def letter(b:UInt8):Bool:=cg (97<=b)&&cg (b<=122)
def yB(s:ByteArray):Bool:=(bl s).all letter
structure Good(x:O):Prop where
 name:yB x.name=Y
 aFV:x.name.size≠0
 Mi:x.name.size<=8
 field:yB x.field=Y
 Oe:x.field.size<=4
 value:x.value.size<=20
def ahead(a b:O):Bool:=if a.name=b.name then oc a.field b.field else oc a.name b.name
theorem agh{c:UInt8}{n n' r g}(i:∀b∈n,c<b)(e:∀b∈n',c<b):n++c::r<n'++c::g↔if n=n' then r<g else n<n':=by induction n generalizing n' with
 |nil=>cases n' with|nil=>simp[Jn]|cons b l=>have:=e b (by simp);simp[Jn,this]
 |cons a l k=>
  have p:=i a<|by simp
  cases n' with|nil=>
   have m:¬a<c:=λh=>by grind
   have j:¬a=c:=λh=>by grind
   simp[Jn,m,j]|cons b l'=>have:=k (n':=l') λb f=>i b<|by simp[f] (λb f=>e b<|by simp[f]);simp only[qj,Jn,FY];grind
theorem X9{c:UInt8}{n n' r d}(g:c∉n)(e:c∉n')(h:n++c::r=n'++c::d):n=n'/\r=d:=by induction n generalizing n' with
 |nil=>cases n' with|nil=>grind|cons b l=>grind
 |cons a l i=>cases n' with|nil=>grind|cons b f=>grind
theorem Ms{s}(h:yB s=Y){c}(e:c<97):∀b∈bl s,c<b:=λb d=>by have:=List.all_eq_true.1 h b d;simp only[letter,cV,fO]at this;grind
theorem xD{s}(h:yB s=Y){c}(d:c<97):c∉bl s:=λb=>by have:=Ms h d c b;grind
theorem AK(n f):bl (iG n f)=bl n++46::(bl f++0::[]):=by simp[iG]
theorem ahl{x y}(b:Good x)(c:Good y):bl x.key<bl y.key↔ahead x y=Y:=by
 unfold O.key ahead;rw[AK,AK,agh (Ms b.name<|by decide)<|Ms c.name<|by decide,agh (Ms b.field<|by decide)<|Ms c.field<|by decide];have d:¬([]:List UInt8)<[]:=by grind
 by_cases E:x.name=y.name;.simp only[E,iW,oc,fO];grind
 .have:¬bl x.name=bl y.name:=by grind[zu]
  simp only[E,this,vU,oc,fO]
theorem ahm{n f n' f'}(e:46∉bl n)(d:46∉bl n')(b:0∉bl f)(c:0∉bl f')(h:iG n f=iG n' f'):n=n'/\f=f':=by have:=congrArg bl h;grind[AK,X9,zu]
theorem aw8{x y}(b:Good x)(a:Good y):x.key=y.key↔x.name=y.name/\x.field=y.field:=⟨λh=>ahm (xD b.name<|by decide) (xD a.name<|by decide) (xD b.field<|by decide) (xD a.field<|by decide) h,λh=>by grind[O.key]⟩
theorem aho{x}(d:Good x)(n):bl n++[46]<+:bl x.key↔x.name=n:=by
 unfold O.key;rw[AK];constructor
 .rintro⟨t,c⟩;rw[jG,Sl]at c;have f:(46:UInt8)∉bl n:=λh=>by obtain⟨a,b,e⟩:=List.append_of_mem h;have j:=congrArg (List.count (46:UInt8)) c;have g:=ag4.2 (xD d.name (c:=46)<|by decide);have i:=ag4.2 (xD d.field (c:=46)<|by decide);grind
  exact(zu (X9 f (xD d.name<|by decide) c).1).symm
 .rintro rfl;exact⟨_,by rw[jG,Sl]⟩
theorem aw7{x}(a:Good x)(n):x.key=iG n ⟨#[]⟩↔x.name=n/\x.field=⟨#[]⟩:=by
 constructor;.intro h;have b:=(aho a n).1 (by rw[h,AK];grind);refine⟨b,?_⟩;subst b;exact(ahm (xD a.name<|by decide) (xD a.name<|by decide) (xD a.field<|by decide) (by simp[bl]) h).2
 grind[O.key]
theorem Mn(a):oc a a=ai:=by simp[oc]
theorem RG{a b c}(h:oc a b=Y)(k:oc b c=Y):oc a c=Y:=by simp only[oc]at*;grind
theorem Ya{a b}(h:oc a b=ai)(c:a≠b):oc b a=Y:=by simp only[oc,fO]at*;grind[zu,List.le_antisymm,List.not_lt]
theorem UE{a b c}(h:ahead a b=Y)(k:ahead b c=Y):ahead a c=Y:=by
 unfold ahead at*;by_cases h1:a.name=b.name<;>by_cases h2:b.name=c.name;.grind[RG]
 .grind
 .grind
 .rw[if_neg h1]at h;rw[if_neg h2]at k;have f:=RG h k;have:a.name≠c.name:=λe=>by grind[Mn]
  grind
theorem Cy{a b}(d:a.name=b.name)(c:a.field=b.field):ahead a b=ai:=by unfold ahead;rw[dy d,c,Mn]
theorem aEg{a b}(h:ahead a b=ai)(c:¬(a.name=b.name/\a.field=b.field)):ahead b a=Y:=by
 unfold ahead at*;by_cases h1:a.name=b.name;.grind[Ya]
 .grind[Ya]
theorem alH{a b}(h:ahead a b=Y):ahead b a=ai:=by grind[UE,Cy]
def sameKey(a b:O):Bool:=cg (a.name=b.name)&&cg (a.field=b.field)
def kP(a b:O):Bool:=if a.c≠b.c then cg (b.c<a.c)else if a.r≠b.r then cg (b.r<a.r)else oc b.value a.value
theorem afk(a b):vL a b=kP a b:=by
 unfold vL kP xE;rw[aAO];by_cases h1:a.c=b.c<;>by_cases h2:a.r=b.r;.grind
 .grind
 .grind
 grind
def j(l:List O):Prop:=l.Pairwise λa b=>ahead a b=Y
def ins:List O->O->List O|[],x=>[x]|y::l,x=>if sameKey y x then(if kP x y then x::l else y::l)else if ahead x y then x::y::l else y::ins l x
theorem JA{l}{x z}(h:z∈ins l x):z=x\/z∈l:=by induction l with|nil=>simpa[ins]using h|cons y l a=>unfold ins at h;grind
theorem asH{x y z}(h:sameKey y x=Y)(a:ahead y z=Y):ahead x z=Y:=by simp only[sameKey,cV]at h;unfold ahead at*;grind
theorem SB{l}(h:j l)(x):j<|ins l x:=by induction l with|nil=>simp[ins,j]|cons y l d=>
  have b:=xI.1 h;unfold ins;split
  .rename_i c;split;.exact xI.2 ⟨λz a=>asH c<|b.1 z a,b.2⟩
   grind
  .rename_i c;split;.refine xI.2 ⟨λz a=>?_,h⟩;grind[UE]
   .refine xI.2 ⟨λz a=>?_,d b.2⟩;rcases JA a with rfl|a;.exact aEg (by grind) λe=>c<|by simp[sameKey,e.1,e.2]
    grind
theorem j.nodup{l}(h:j l):l.Nodup:=h.imp λ{a b}c e=>by grind[Cy]
theorem j.inj{l}(h:j l){x y}(c:x∈l)(d:y∈l)(e:sameKey x y=Y):x=y:=by simp only[sameKey,cV]at e;induction l with|nil=>grind|cons z l g=>
  have f:=xI.1 h;rcases dj.1 c with rfl|b<;>rcases dj.1 d with rfl|a;.rfl
  .grind[Cy]
  .grind[Cy]
  .exact g f.2 b a
theorem j.filter{l}(h:j l)(p):j<|l.filter p:=List.Pairwise.filter p h
theorem j.unique{l l'}(h:j l)(c:j l')(d:l.Perm l'):l=l':=Sk (le:=λa b=>ahead a b=Y) λa b _ _ f e=>by grind[alH] h c d
structure Bk(L l:List O):Prop where
 perm:L.Perm l
 sorted:j l
 nE:∀x∈l,Good x
theorem sameKey_iff{x y}(b:Good x)(a:Good y):sameKey x y=Y↔x.key=y.key:=by rw[aw8 b a];simp[sameKey]
theorem GK{L:List O}{k}{y}(h:L.find? λy=>cg<|y.key=k=U y):y∈L/\y.key=k:=⟨Sj h,by grind⟩
theorem aaJ{L:List O}{k}(h:L.find? λy=>cg<|y.key=k=Z):∀y∈L,y.key≠k:=λy a=>by grind
theorem apS{L}{x}(h:∀y∈L,y.key≠x.key):fD L x=L++[x]:=by induction L with|nil=>rfl|cons y l a=>rw[fD,if_neg<|h y<|by simp,a λz b=>h z<|by grind];rfl
theorem apR{L}{x y}(a:y∈L)(d:y.key=x.key)(b:(L.map (·.key)).Nodup):(fD L x).Perm<|if vL x y then x::L.erase y else L:=by induction L with|nil=>grind|cons z l c=>
  by_cases hz:z.key=x.key;·rw[fD,dy hz];grind
  ·rw[fD,if_neg hz];grind
theorem axq{l}{x}(h:∀y∈l,sameKey y x=ai):(ins l x).Perm<|x::l:=by induction l with|nil=>exact .refl _|cons y l a=>rw[ins,if_neg<|by grind];grind
theorem axp{l}{x y}(hs:j l)(d:y∈l)(c:sameKey y x=Y):(ins l x).Perm<|if kP x y then x::l.erase y else l:=by induction l with|nil=>grind|cons z l g=>
  have f:=xI.1 hs;by_cases E:sameKey z x=Y;.have:y=z:=hs.inj d (by simp) (by simp only[sameKey,cV]at*;grind);rw[ins,dy E];grind
  .have b:=(dj.1 d).resolve_left λe=>E<|e▸c;have h:ahead z x=Y:=by simp only[sameKey,cV]at c;unfold ahead at*;grind
   rw[ins,if_neg E,if_neg<|by grind[alH]];have:=g f.2 b;grind
theorem j.keys{l}(h:j l)(f:∀y∈l,Good y):(l.map (·.key)).Nodup:=by refine List.pairwise_map.2<|List.Pairwise.imp_of_mem (λ{a b}g i d e=>?_) h;have:=(ahl (f a g)<|f b i).2 d;grind
theorem Bk.nodup{L l}(h:Bk L l):(L.map (·.key)).Nodup:=(h.perm.map _).nodup_iff.2<|h.sorted.keys h.nE
theorem Bk.aAX{L l}(h:Bk L l):∀x∈L,Good x:=λx a=>h.nE x<|h.perm.subset a
theorem Bk.take{L l}(h:Bk L l){x}(f:Good x):Bk (fD L x)<|ins l x:=by
 refine⟨?_,SB h.sorted x,λy b=>?_⟩
 .by_cases hex:∃y∈l,sameKey y x=Y
  .obtain⟨y,b,d⟩:=hex;refine(apR (h.perm.symm.subset b) ((sameKey_iff (h.nE y b) f).1 d) h.nodup).trans<|.trans ?_ (axp h.sorted b d).symm;rw[afk];split;.exact(h.perm.erase y).cons x
   .exact h.perm
  .have c:∀y∈l,sameKey y x=ai:=λy b=>by grind
   rw[apS λy b e=>by have:=(sameKey_iff (h.aAX y b) f).2 e;rw[c y<|h.perm.subset b]at this;grind];exact(List.perm_append_singleton _ _).trans<|(h.perm.cons x).trans (axq c).symm
 .rcases JA b with rfl|b;.grind
  .exact h.nE y b
theorem Bk.find{L l}(h:Bk L l)(k):L.find? λy=>cg<|y.key=k=l.find? λy=>cg<|y.key=k:=by cases c:L.find? λy=>cg<|y.key=k with
 |none=>cases b:l.find? λy=>cg<|y.key=k with|none=>rfl|some y=>exact absurd (GK b).2<|aaJ c y<|h.perm.symm.subset (GK b).1
 |some x=>cases b:l.find? λy=>cg<|y.key=k with|none=>exact absurd (GK c).2<|aaJ b x<|h.perm.subset (GK c).1|some y=>have e:=GK c;have d:=GK b;have a:=h.perm.subset e.1;rw[h.sorted.inj a d.1<|(sameKey_iff (h.nE x a)<|h.nE y d.1).2<|e.2.trans d.2.symm]
def stepW(x:O)(s:List O×Bool)(y:O):List O×Bool:=if sameKey y x then if kP x y then(s.1++[x],Y)else(s.1++[y],Y)else if ahead x y&&!s.2 then(s.1++[x,y],Y)else(s.1++[y],s.2)
def Lh(l:List O)(x:O):List O:=let s:=l.foldl (stepW x) ([],ai);if s.2 then s.1 else s.1++[x]
theorem ajK{x}(l:List O)(o)(h:∀z∈l,sameKey z x=ai):l.foldl (stepW x) (o,Y)=(o++l,Y):=by induction l generalizing o with|nil=>simp|cons y l b=>
  have:stepW x (o,Y) y=(o++[y],Y):=by grind[stepW]
  grind
theorem aBa{x}(l)(hs:j l)(o):(let s:=l.foldl (stepW x) (o,ai);if s.2 then s.1 else s.1++[x])=o++ins l x:=by induction l generalizing o with|nil=>simp[ins]|cons y l f=>
  have d:=xI.1 hs;rw[List.foldl_cons,ins];by_cases E:sameKey y x=Y
  .have e:∀z∈l,sameKey z x=ai:=λz c=>by cases b:sameKey z x with|false=>rfl|true=>have:=d.1 z c;simp only[sameKey,cV,fO]at E b;grind[Cy]
   rw[dy E];grind[kP,stepW,ajK]
  .rw[if_neg E];by_cases ha:ahead x y=Y
   .have e:∀z∈l,sameKey z x=ai:=λz c=>by cases b:sameKey z x with|false=>rfl|true=>have:=UE ha<|d.1 z c;simp only[sameKey,cV,fO]at b;grind[Cy]
    have:stepW x (o,ai) y=(o++[x,y],Y):=by grind[stepW]
    rw[this,ajK _ _ e,dy ha];simp
   .have:stepW x (o,ai) y=(o++[y],ai):=by grind[stepW]
    rw[this,f d.2,if_neg ha];simp
theorem U9{l}(hs:j l)(x):Lh l x=ins l x:=by grind[aBa,Lh]
def aaA(l:List O)(n:ByteArray):Option O:=l.find? λy=>sameKey y ⟨n,⟨#[]⟩,0,0,⟨#[]⟩⟩
def aee(g:Option O)(n:ByteArray)(y:O):Bool:=cg (y.name=n)&&! cg (y.field=⟨#[]⟩)&&match g with|none=>Y|some d=>xE y.c y.r d.c d.r
def TU(l:List O)(n:ByteArray):List O:=l.filter<|aee (aaA l n) n
def KW(l:List ByteArray):Prop:=l.Pairwise λa b=>oc a b=Y
theorem KW.unique{l l'}(h:KW l)(d:KW l')(g:∀n,n∈l↔n∈l'):l=l':=by
 have c:∀{l:List ByteArray},KW l->l.Nodup:=λh=>h.imp λ{a b}f e=>by grind[Mn]
 refine Sk (le:=λa b=>oc a b=Y) (λa b _ _ j i=>?_) h d<|(Si (c h)<|c d).2 g;grind[RG,Mn]
def lS(s:ByteArray)(E:Nat):Bool:=yB s&&cg (0<s.size)&&cg (s.size<=E)
end
section
open Go.RowKit
theorem acV{a b:ByteArray}(h:¬a=b):¬a.toList=b.toList:=λe=>h<|zu<|by grind[Ig]
structure jC(W:ay)(N:Nat)(T e size:Nat)(v:az)(n:Nat)(xs:List az):Prop where box:W.heap[N]?=U (aH #[v] T (0,0))row:W.ownsRow (N+1) e size v n xs
theorem dx{w w':ay}{base e m n:Nat}{v}{xs}(h:w.ownsRow base e m v n xs)(k:∀g,v.ownBlock=U g->w'.heap[g]?=w.heap[g]?):w'.ownsRow base e m v n xs:=by
 obtain⟨j,d⟩:=h;refine⟨j,?_⟩;rcases d with d|⟨g,a,b,c,i,f,r⟩;.grind
 .exact aA ⟨g,a,b,c,i,(k g<|by rw[c];rfl).trans f,r⟩
theorem FE{w:ay}{base base' e m n:Nat}{v}{xs}(h:w.ownsRow base e m v n xs)(i:∀g,v.ownBlock=U g->base'<=g):w.ownsRow base' e m v n xs:=by
 obtain⟨f,d⟩:=h;refine⟨f,?_⟩;rcases d with d|⟨g,a,b,c,j,r⟩;.grind
 .exact aA ⟨g,a,b,c,i g<|by rw[c];rfl,r⟩
def nI(N:Nat)(v:az):Nat->Prop:=λb=>b=N\/v.ownBlock=U b
theorem jC.lt{W}{N T e a n}{v}{xs}(h:jC W N T e a v n xs):∀b,nI N v b->b<W:=by
 rintro b(rfl|c);.exact(cU.1 h.box).1
 .exact(h.row.lt b c).2
theorem jC.fI{W W'}{N T e a n}{v}{xs}(h:jC W N T e a v n xs)(c:∀b,nI N v b->W'.heap[b]?=W.heap[b]?):jC W' N T e a v n xs:=⟨(c N<|ax rfl).trans h.box,dx h.row λg d=>c g<|aA d⟩
theorem jC.cell{W}{N T e a n}{v}{xs}(h:jC W N T e a v n xs):W.cell? N=v/\W.frozen? N=ai:=by simp[pg,x8,h.box]
theorem jC.new(W:ay)(T e a:Nat):jC (W.alloc<|aH #[aE Z 0 0] T) W T e a (aE Z 0 0) 0 []:=⟨iF W _,World.ownsRow_nil _ _ _ _⟩
theorem vJ{W:ay}{N T:Nat}{v u}(h:W.heap[N]?=U (aH #[v] T (0,0))):(W.setCell N u).heap[N]?=U (aH #[u] T (0,0)):=by obtain⟨a,b⟩:=cU.1 h;simp only[jk,Ae,h,eG,iW];rfl
theorem jC.appended{W W1}{N T e c n n'}{v v'}{xs f}(h:jC W N T e c v n xs)(d:W.grownBy W1 v.ownBlock)(o:W1.ownsRow (N+1) e c v' n' f)(i:v'.ownBlock=v.ownBlock\/v'.ownBlock=W):jC (W1.setCell N v') N T e c v' n' f/\bS (nI N v) W (nI N v') (W1.setCell N v'):=by
 have g:=(d.block N (cU.1 h.box).1 λe=>by have:=(h.row.lt N e.symm).1;omega).trans h.box;refine⟨⟨vJ g,ownsRow_setCell_below o (a:=N) (Nat.lt_succ_self N) _⟩,?_,?_⟩;.refine⟨d.os,d.tape,d.output,by simpa[jk]using d.size,λk m j=>?_⟩;exact(Below.heap_setCell _ _ _ _ λe=>j<|ax e).trans<|d.block k m λe=>j<|aA e.symm
 .rintro b(rfl|p);.exact ax<|ax rfl
  .rcases i with l|l;.exact ax<|aA<|l▸p
   grind
def O.cells(x:O):List az:=[aD x.name,aD x.field,V aC x.c,V aC x.r,aD x.value]
def rows(l:List O):List az:=l.flatMap O.cells
theorem QN(l l'):rows (l++l')=rows l++rows l':=by simp[rows]
theorem aeo{l}{j}(a)(i)(d:i<5):(rows l)[j*5+i]?=l[j].cells[i]?:=by induction l generalizing j with|nil=>grind|cons x l c=>show(x.cells++rows l)[j*5+i]?=_;have b:x.cells.length=5:=rfl;grind
variable {w1 W W':ay} {e size n:Nat} {v:az} {xs:List az}
theorem afu{P}{o}{a}{w}{K}{Q}(s x)(t)(C:o.op=.call {callee:=.builtin .append,args:=#[s,x],argTypes:=#[t,t]})(base)(e)(i)(z)(size bytes)(H:P.underlying t=U (.slice e))(I:P.info? e=U i)(G:i.zero=U z)(f:i.size=size)(y:i.bytes=bytes)(B:z.cells.size=size)(A:0<size)(v)(n)(xs)(hs:a.eval s=v)(q:w.ownsRow base e size v n xs)(ad)(m c)(b)(D:a.eval x=aE (U ad) m c)(L:b.length=m*size)(k:∀j u,b[j]?=U u->w.cell? (ad.add j)=U u)(J:∀u∈b,u.oneCell'=Y)(r:n+m<=vg)(d:(n+m)*bytes<=140737488355328)(g:base<=w.heap.size)(h:∀l p,p.ownsRow base e size l (n+m) (xs++b)->w.grownBy p v.ownBlock->l.ownBlock=v.ownBlock\/l.ownBlock=U w.heap.size->K (a.put o.dst l) p):Oper.wp P o a w K Q:=by obtain⟨l,p,E,N,M,O,F⟩:=run_append_own_at (P:=P) w base t o.type e i z size bytes H I G f y B A v n xs q ad m c b L k J r d g;unfold Oper.wp cX;simp only[C,resolve,invoke,builtin,gR,vV,Result.andThen_ok,List.map_toArray,gd,tG,hs,D,E];exact h l p N M F
end
end Go.Proofs.YtpdbmpbmepkikaaGreatDoor
set_option maxRecDepth 100000
namespace Go.Proofs.YtpdbmpbmepkikaaGreatDoor
section
def k(n:Nat):List UInt8:=if h:n<128 then[ru n]else ru (n%128+128)::k (n/128)termination_by n
decreasing_by omega
theorem yy{n}(h:n<128):k n=[ru n]:=by rw[k,yG h]
theorem FL{n}(h:¬n<128):k n=ru (n%128+128)::k (n/128):=by rw[k,FV h]
def th:Nat->Nat->Nat->List UInt8->Nat×List UInt8×Bool|0,_,acc,l=>(acc,l,ai)|_+1,_,_,[]=>(0,[],Y)|f+1,k,acc,b::l=>let E:=acc+b.toNat%128*2^k%18446744073709551616;if b.toNat<128 then(E,l,ai)else th f (k+7) E l
theorem atF(f m a n)(t)(c:n<128^(f+1))(d:n*2^m<18446744073709551616):th (f+1) m a (k n++t)=(a+n*2^m,t,ai):=by induction f generalizing m a n with
 |zero=>
  have h:n<128:=by grind
  rw[yy h];have e:(ru n).toNat=n:=by simp;omega
  simp only[Sl,th,e,h,iW];grind|succ f g=>
  by_cases h:n<128
  .rw[yy h];have e:(ru n).toNat=n:=by simp;omega
   simp only[Sl,th,e,h,iW];grind
  .rw[FL h];have e:(ru<|n%128+128).toNat=n%128+128:=by simp;omega
   rw[qj,th,e,if_neg<|by omega];have b:n*2^m=n%128*2^m+n/128*2^(m+7):=by grind[Nat.pow_add,Nat.mod_add_div,Nat.add_mul,Nat.mul_comm,Nat.mul_assoc]
   grind
theorem atE{n}(a:n<18446744073709551616)(t):th 10 0 0 (k n++t)=(n,t,ai):=by grind[atF,Nat.lt_of_lt_of_le]
theorem Ro{f n}(h:n<128^(f+1)):(k n).length<=f+1:=by induction f generalizing n with|zero=>grind[yy]|succ f a=>grind[yy,FL,Nat.pow_succ]
theorem auO(n):0<(k n).length:=by grind[yy,FL]
def gL(z:Int):Nat:=if 0<=z then(2*z).toNat else(-2*z-1).toNat
theorem Fq{z}(h:-9223372036854775808<=z/\z<=9223372036854775807):gL z<18446744073709551616:=by grind[gL]
def Vu(n:Nat):Int:=if n%2=0 then(n/2:Nat)else-((n/2:Nat):Int)-1
theorem anc(z):Vu (gL z)=z:=by grind[Vu,gL]
def di(s:ByteArray):List UInt8:=k s.size++bl s
def gO(x:O):List UInt8:=di x.name++di x.field++k (gL x.c)++k (gL x.r)++di x.value
def da{α:Type}(f:α->List UInt8)(l:List α):List UInt8:=k l.length++l.flatMap f
theorem ajJ{a}(h:j a)(b:List O):j<|b.foldl ins a:=by induction b generalizing a with|nil=>exact h|cons x b c=>grind[SB]
end
section
open Go.RowKit
def jb(b:UInt8):az:=V aq b.toNat
theorem ac5(x)(R:x.Ok)(m)(L)(w)(T:cI w m L):bz Q 101 #[cq m,x.val] w λe P=>e=bj (bO #[])/\cI P m (fD L x)/\aK (λb=>b=m) w P:=by
 obtain⟨n,f,c,r,v⟩:=x;obtain⟨D,F⟩:=R;simp only at D F;have s:=X T;cases q:l8 L (iG n f)with|none=>
  have B:dD<|look (es L) (iG n f)=Z:=X (by grind[Mq]);have G:=X<|apQ (L:=L) (x:=⟨n,f,c,r,v⟩) q;unfold O.val;go_enter VF,ntmps101;go_wp2_with fail;refine(Sy _ _ _ _ _ _ D F).mono ?_;rintro e t⟨rfl,d⟩;have k:=X<|dn.below (dn.alloc s.out _) d;obtain⟨i,j⟩:=Cw d;have a:w.heap.size<t:=by have:=d.size;simp at this;omega
  simp only[vX]at i j;have s:=X d;go_wp2_with(first|(at_lookup;refine Hx _ nx rfl _ _ 107 rfl 9 46 zM sZ _ (Hw _) m (es L) (iG n f) rfl k.out rfl ?_;rw[B.out])|(at_mapUpdate;refine PK _ nx rfl _ _ _ 107 rfl 9 46 zM sZ m (es L) (iG n f) (O.val ⟨n,f,c,r,v⟩) rfl (dn.alloc k.out _) rfl rfl ?_;intro I l o M));go_end0;refine⟨rfl,?_,?_⟩;.show dn nx I m<|es _;rw[<-G.out.2];exact l
  exact((aK.alloc _ _ _).trans' (aK.iD (F:=λb=>b=m) s.out) (λ_ _ h=>h) λ_ _ h=>h).trans' ((aK.alloc _ _ _).trans o) (λ_ _ h=>h) λ_ _ h=>h|some y=>
  obtain⟨A,H,C,E,z⟩:=y;have B:dD<|look (es L) (iG n f)=O.val ⟨A,H,C,E,z⟩:=X<|by grind[Mq]
  have G:=X<|apP (L:=L) (x:=⟨n,f,c,r,v⟩) q;cases N:vL ⟨n,f,c,r,v⟩ ⟨A,H,C,E,z⟩with|true=>
   have u:=X N;unfold O.val;go_enter VF,ntmps101;go_wp2_with fail;refine(Sy _ _ _ _ _ _ D F).mono ?_;rintro e t⟨rfl,d⟩;have k:=X<|dn.below (dn.alloc s.out _) d;obtain⟨i,j⟩:=Cw d;have a:w.heap.size<t:=by have:=d.size;simp at this;omega
   simp only[vX]at i j;go_wp2_with(first|(at_lookup;refine Hx _ nx rfl _ _ 107 rfl 9 46 zM sZ _ (Hw _) m (es L) (iG n f) rfl k.out rfl ?_;rw[B.out];simp only[fV,YK,O.val])|(go_at_call 157;fail));refine(afm ⟨n,f,c,r,v⟩ ⟨A,H,C,E,z⟩ _).mono ?_;rintro e I⟨rfl,g⟩;rw[u.out];obtain⟨K,J⟩:=Cw g;simp only[vX]at K J;have p:=X g;go_wp2_with(at_mapUpdate;refine PK _ nx rfl _ _ _ 107 rfl 9 46 zM sZ m (es L) (iG n f) (O.val ⟨n,f,c,r,v⟩) rfl (X<|dn.below (dn.alloc k.out _) g).out rfl rfl ?_;intro S l o M);go_end0;refine⟨rfl,?_,?_⟩;.show dn nx S m<|es _;rw[<-G.out.2 u.out];exact l
   exact(((aK.alloc _ _ _).trans<|aK.iD (X d).out).trans<|(aK.alloc _ _ _).trans<|aK.iD p.out).trans o|false=>
   have u:=X N;unfold O.val;go_enter VF,ntmps101;go_wp2_with fail;refine(Sy _ _ _ _ _ _ D F).mono ?_;rintro e t⟨rfl,d⟩;have k:=X<|dn.below (dn.alloc s.out _) d;obtain⟨i,j⟩:=Cw d;have a:w.heap.size<t:=by have:=d.size;simp at this;omega
   simp only[vX]at i j;go_wp2_with(first|(at_lookup;refine Hx _ nx rfl _ _ 107 rfl 9 46 zM sZ _ (Hw _) m (es L) (iG n f) rfl k.out rfl ?_;rw[B.out];simp only[fV,YK,O.val])|(go_at_call 157;fail));refine(afm ⟨n,f,c,r,v⟩ ⟨A,H,C,E,z⟩ _).mono ?_;rintro e I⟨rfl,g⟩;rw[u.out];have p:=X g;go_wp2_with fail;go_end0;refine⟨rfl,?_,?_⟩;.show dn nx I m<|es _;rw[G.out.1 u.out];exact(X<|dn.below (dn.alloc k.out _) g).out
   exact((aK.alloc _ _ _).trans<|aK.iD (X d).out).trans<|(aK.alloc _ _ _).trans<|aK.iD p.out
variable {κ:Type} [DecidableEq κ]
theorem KE.inj(K:KE κ){a b}(h:K.enc a=K.enc b):a=b:=by have d:=K.same a a;have c:=K.same a b;grind
def vv(K:KE κ)(w:ay)(m it:Nat)(es:List<|κ×az)(done:List κ):Prop:=∃(en:Array mL)(clock:Nat)(seen:Array Nat),w.heap[m]?=U (iZ en clock)∧Reads K en clock es∧w.heap[it]?=U (vi (U m) clock seen clock)∧seen.toList.map (λb=>(en.toList.find? (·.born==b)).map (·.key))=done.map λk=>U<|K.enc k
theorem vv.map{K:KE κ}{w}{m c}{es}{b}(h:vv K w m c es b):dn K w m es:=by obtain⟨f,a,seen,e,d,_⟩:=h;exact⟨f,a,e,d⟩
theorem vv.lt{K:KE κ}{w}{m c}{es}{a}(h:vv K w m c es a):c<w:=by obtain⟨g,b,seen,f,e,d,_⟩:=h;grind
theorem vv.XD{K:KE κ}{w w'}{m c}{es}{a}(h:vv K w m c es a)(j:w'.heap[m]?=w.heap[m]?)(i:w'.heap[c]?=w.heap[c]?):vv K w' m c es a:=by obtain⟨k,b,seen,g,f,d,e⟩:=h;exact⟨k,b,seen,j.trans g,f,i.trans d,e⟩
theorem Wz{P}{w}{T i d}(K:KE κ)(e:P.underlying T=U (.map i d)){m}{es}(h:dn K w m es):∃o,(Instr.range T<|cq m).run P w=aY (aG w) (w.alloc o)/\vv K (w.alloc o) m w es []:=by
 obtain⟨c,a,b,f⟩:=h;have g:(ry m).run P w=aY (iZ c a) w:=by simp[ry,oA,b]
 refine⟨vi (U m) a #[] a,?_,c,a,#[],(dm _ _ _ (cU.1 b).1).trans b,f,iF w _,by simp⟩;simp only[Instr.range,gR,run_underlying e,mg,g,vV,run_newObj_alloc]
theorem aew{b:List mL}(h:(b.map (·.born)).Pairwise (·<·)){e}(c:e∈b):b.find? (·.born==e.born)=e:=by induction b with|nil=>cases c|cons a l d=>simp only[gd,xI]at h;grind[List.mem_map_of_mem,beq_eq_false_iff_ne]
theorem aeS{K:KE κ}{c}{b}{es}(h:Reads K c b es){e}(d:e∈c.toList):∃k,(k,e.val)∈es/\e.key=K.enc k:=by
 have:(e.key,e.val)∈c.toList.map λe=>(e.key,e.val):=by grind
 rw[h.read]at this;grind
theorem atD{K:KE κ}{c}{b}{es}(h:Reads K c b es){p}(d:p∈es):∃e∈c.toList,e.key=K.enc p.1/\e.val=p.2:=by
 have:(K.enc p.1,p.2)∈es.map λp=>(K.enc p.1,p.2):=by grind
 rw[<-h.read]at this;grind
theorem atC{K:KE κ}{f}{d}{es}(h:Reads K f d es){e c}(o:e∈f.toList)(k:c∈f.toList)(m:e.key=c.key):e.born=c.born:=by
 have g:∀(l:List mL)(es:List<|κ×az),l.map (λe=>(e.key,e.val))=es.map (λp=>(K.enc p.1,p.2))->(es.map (·.1)).Nodup->∀e∈l,∀c∈l,e.key=c.key->e.born=c.born:=by intro l;induction l with|nil=>grind|cons a l t=>intro es n r;cases es with|nil=>grind|cons p es=>
    simp only[gd,FY,Jq,FZ]at n r;have j:∀e∈l,e.key≠a.key:=λe o m=>by
     have:(e.key,e.val)∈l.map λe=>(e.key,e.val):=by grind
     rw[n.2]at this;obtain⟨q,s,i⟩:=mC.1 this;simp only[Jq]at i;have:q.1=p.1:=K.inj (by grind);grind
    grind
 exact g f.toList es h.read h.nodup e o c k m
theorem aed{K}{g}{f}{es}(h:Reads K g f es){seen:List Nat}{c:List κ}(hs:seen.map (λb=>(g.toList.find? (·.born==b)).map (·.key))=c.map λk=>U<|K.enc k){e}(l:e∈g.toList){k}(j:e.key=K.enc k):e.born∈seen↔k∈c:=by
 constructor
 ·intro m;have:(g.toList.find? (·.born==e.born)).map (·.key)∈seen.map (λb=>(g.toList.find? (·.born==b)).map (·.key)):=by grind
  rw[hs,aew h.LW l]at this;obtain⟨n,i,d⟩:=mC.1 this;simp only[eG,ew]at d;exact K.inj (d.trans j)▸i
 ·intro p;have:U (K.enc k)∈c.map λk=>U<|K.enc k:=by grind
  rw[<-hs]at this;obtain⟨b,m,d⟩:=mC.1 this;cases o:g.toList.find? (·.born==b)with|none=>grind|some q=>grind[Option.some.injEq,List.mem_of_find?_eq_some,atC]
theorem WA{P:bW}{w:ay}(K:KE κ){m n:Nat}{es:List<|κ×az}{g:List κ}(h:vv K w m n es g)(L:m≠n)(T:ey):(∀p∈es,p.1∈g)∧(Ci (aG<|U ⟨n,0,Z⟩) ai T).run P w=aY (bO #[bQ ai]) w∨∃k v G,(k,v)∈es∧k∉g∧(Ci (aG<|U ⟨n,0,Z⟩) ai T).run P w=aY (bO #[bQ Y,K.enc k,v]) G∧vv K G m n es (g++[k])∧aK (λb=>b=n) w G∧G.heap.size=w.heap.size:=by
 obtain⟨o,d,seen,hb,x,X,a⟩:=h;have hg:(ry m).run P w=aY (iZ o d) w:=by simp[ry,oA,hb]
 have N:(ry n).run P w=aY (vi (U m) d seen d) w:=by simp[ry,oA,X]
 have Q1:=(cU.1 X).1;have B:(!seen.isEmpty&&!o.isEmpty&&o.all (·.born≥d))=ai:=by
  rw[Bool.and_eq_false_iff];by_cases R:o.isEmpty;·grind
  ·right;cases Q2:o.toList with|nil=>simp at Q2;grind|cons e l=>rw[<-Array.all_toList,Q2];have:=x.below e (by grind);grind
 obtain⟨c,y⟩:=ex<|o.filter λe=>!seen.contains e.born;have q:∀e,e∈c.toList↔e∈o.toList∧e.born∉seen.toList:=λe=>by grind
 have F:c.filter (·.born<d)=c:=by rw[Array.filter_eq_self];intro e R;have:=x.below e ((q e).1<|by grind).1;grind
 have E:c.filter (·.born≥d)=#[]:=by grind[Array.filter_eq_empty_iff]
 have f:∀(r:Result az),(Ci (aG<|U ⟨n,0,Z⟩) ai T).run P w=r↔(do match((if c.isEmpty then#[Z]else#[])++c.map U)[<-choose<|.mapNext ((if c.isEmpty then#[Z]else#[])++c.map U:Array<|Option mL).size]? with|some<|U e=>setObj n (vi (U m) d (seen.push e.born) d)bI<|bO #[bQ Y,e.key,e.val]|some Z=>bI<|bO #[bQ ai]|none=>stuck "Next: no such candidate":cz az).run P w=r:=λr=>by unfold Ci;simp only[gR,N,hg,mg,B,oT,vU];rw[<-y,F,E,Array.append_empty];grind
 by_cases aHs:c.isEmpty
 ·left;refine⟨λp hp=>?_,(f _).2 ?_⟩;·obtain⟨e,R,hk,_⟩:=atD x hp;refine(aed x a R hk).1<|oe λW=>?_;grind
  ·have Q0:c=#[]:=by grind
   rw[Q0];simp[gR,choose,oA,akF,mg]
 ·right;have D:0<c.size:=by grind
  have hd:∃(j:Nat)(i:ay),j<c.size∧(choose<|.mapNext ((if c.isEmpty then#[Z]else#[])++c.map U:Array<|Option mL).size).run P w=aY j i∧i.heap=w.heap∧i.os=w.os∧i.tape=w.tape∧i.output=w.output:=by
   have t:((if c.isEmpty then#[Z]else#[])++c.map U:Array<|Option mL).size=c.size:=by grind
   rw[t];by_cases h1:c.size<=1;·exact⟨0,w,D,by simp[choose,oA,akF,h1],rfl,rfl,rfl,rfl⟩
   ·exact⟨(w.tape w.drawn<|.mapNext c.size)%c.size,{w with drawn:=w.drawn+1},Nat.mod_lt _ D,by simp[choose,oA,akF,h1,Question.cut],rfl,rfl,rfl,rfl⟩
  obtain⟨j,i,hj,S,u,I,H,M⟩:=hd;have O:c[j]∈c.toList:=by simp
  obtain⟨A,hns⟩:=(q _).1 O;obtain⟨k,Q,C⟩:=aeS x A;have J:k∉g:=by grind[aed]
  have z:(setObj n<|vi (U m) d (seen.push c[j].born) d).run P i=aY () (i.putObj n<|vi (U m) d (seen.push c[j].born) d):=by
   have:i.heap[n]?=U (vi (U m) d seen d):=by grind
   simp[setObj,oA,this,World.putObj]
  refine⟨k,c[j].val,i.putObj n<|vi (U m) d (seen.push c[j].born) d,Q,J,(f _).2 ?_,?_,?_,by simp[u]⟩
  ·have s:((if c.isEmpty then#[Z]else#[])++c.map U:Array<|Option mL)[j]?=U (U c[j]):=by grind
   simp only[gR,S,mg,s,z,vV,C]
  ·refine⟨o,d,seen.push c[j].born,(qQ L).trans<|by grind,x,F0<|by grind,?_⟩;simp only[YL,vT,gd,tG,a,aew x.LW A,eG,C]
  ·refine⟨I,H,M,by simp[u],λb _ W=>(qQ W).trans<|by rw[u]⟩
theorem WB{P}{w}(K:KE κ){m p}{es}{j}{k}(h:vv K w m p es<|j++[k]):∃v,(k,v)∈es∧(GV<|aG p).run P w=aY (bO #[K.enc k,v]) w:=by
 obtain⟨l,c,seen,y,t,s,B⟩:=h;have x:(ry m).run P w=aY (iZ l c) w:=by simp[ry,oA,y]
 have q:(ry p).run P w=aY (vi m c seen c) w:=by simp[ry,oA,s]
 have d:(seen.toList.map (λb=>(l.toList.find? (·.born==b)).map (·.key))).getLast?=U (U<|K.enc k):=by grind
 rw[List.getLast?_map]at d;obtain⟨b,u,f⟩:=yM.1 d;cases r:l.toList.find? (·.born==b)with|none=>grind|some e=>
  rw[r]at f;simp only[eG,ew]at f;have z:=Sj r;obtain⟨A,n,i⟩:=aeS t z;have:=K.inj<|i.symm.trans f;subst this;refine⟨e.val,n,?_⟩;have g:seen.back?=b:=by grind
  have o:l.find? (·.born==b)=e:=by grind
  unfold GV;simp only[gR,q,x,mg,g,bne_self_eq_false,oT,vU,o,i,vV]
attribute [local go_sem] Oper.semAt_some
def preB(pfx k:ByteArray):Bool:=OC k.data.toList pfx.data.toList
def qS(L:List O)(pfx:ByteArray):List ByteArray:=(L.map (·.key)).filter<|preB pfx
open Classical in
theorem afc {t:Type} {b c:List t} (p) (e:c.Nodup) (g:b.Nodup) (hs:∀a∈b,a∈c) {x} (f:x∈c) (h:x∉b) (i:p x=Y):
  ∃d,(b.filter p++x::d).Perm (c.filter p):=by
 refine⟨(c.filter p).filter (λa=>cg (a∉b++[x])),(List.perm_ext_iff_of_nodup ?_ (e.filter _)).2 λa=>?_⟩
 all_goals grind
theorem aw6(G r m)(L)(pfx)(w)(J0:w.cell? G=U (.map m))(o8:w.cell? r=U (.string pfx))(hB:cI w m L):Iter Q 141 #[.pointer<|U ⟨G,0,Z⟩,.pointer<|U ⟨r,0,Z⟩] (λk=>#[.string k]) (λks=>ks.Perm<|qS L pfx) (λb=>b=G∨b=r∨b=m) w:=by
 intro l J Jx W D0 hA Q0 GB hR hY h0;have QW:=dn.of_block hB (hA.block m<|by simp);have azR:=(ei (w:=w)<|hA.block G<|by simp).trans J0;have j:=(ei (w:=w)<|hA.block r<|by simp).trans o8;obtain⟨o,Zl,n⟩:=Wz (P:=Q) (T:=107) nx zM QW;have R:=oh W _ j;have lm:=QW.lt;have B3:=hB.nodup;refine Sg acK rfl trivial ?_;simp only[ntmps141,tF,qi,lG,wS,wP,uN,uM,uL,uK,uJ,qj];gi_wp2;gi_loopg[4]L.length(λk _ wr=>∃(d:List ByteArray)(D:Nat->Prop),k+d.length=L.length∧vv nx wr m W.heap.size (es L) d∧d.Nodup∧(∀x∈d,x∈L.map (·.key))∧J (d.filter<|preB pfx) wr D∧bS D0 W D wr∧¬D W.heap.size);case atStart=>have u:=Q0.lt _ _ _ h0;refine⟨[],D0,by simp,n,by simp,by simp,Q0.st _ _ _ _ h0<|(aK.alloc (λ_=>False) _ _).fI λb s=>⟨u b s,id⟩,.other<|aK.alloc _ _ _,λh=>absurd (u _ h)<|by omega⟩
 case round=>
  obtain⟨d,D,hk,n,H,c,hj,Q1,C⟩:=hrel;have hDb:∀b,b=G∨b=r∨b=m->b<W->¬D b:=λb s u hD=>by rcases Q1.2 b hD with h|h;all_goals grind
  have lg:m≠W:=by omega
  have ayI:=n.lt;have aHx:wr.cell? ⟨r,0,Z⟩=U (.string pfx):=(Q1.1.cell R λh=>hR r h<|by simp).trans j;have HN:=X B3;have HL:=X Q1;have HJ:=X hj;have HY:=X hY;have HS:=X c;have Q2:=X H;have HK:=X hk;rcases WA (P:=Q) nx n lg 0 with⟨QX,t⟩|⟨x,v,w2,Ec,q,t,f,M,BI⟩;·have HA:=X QX;gi_wp2;go_end0;refine⟨⟨_,rfl⟩,.inl ⟨_,D,?_,HJ.out,HL.out⟩⟩;have hp:=(Si Q2.out HN.out).2 λa=>⟨HS.out a,λg=>by obtain⟨y,Q3,rfl⟩:=mC.1 g;exact HA.out (y.key,y.val)<|YJ (f:=λx:O=>(x.key,x.val)) Q3⟩;exact hp.filter _
  ·obtain⟨v',we,F⟩:=WB (P:=Q) nx f;replace t:(Ci (.pointer<|U ⟨W.heap.size,0,Z⟩) ai 0).run Q wr=.ok (.tuple #[.bool Y,.string x,v]) w2:=t;replace F:(GV<|.pointer<|U ⟨W.heap.size,0,Z⟩).run Q w2=.ok (.tuple #[.string x,v']) w2:=F;have hxk:x∈L.map (·.key):=by obtain⟨y,Q3,e⟩:=mC.1 Ec;grind
   have hlen:d.length<L.length:=by have:=(FZ.2 ⟨q,H⟩).length_le_of_subset (l₂:=L.map (·.key)) (λa g=>by grind);grind
   have T:=Q0.st _ _ _ _ hj<|M.fI λb s=>⟨Q0.lt _ _ _ hj b s,λe=>C<|e▸s⟩;have S:=Q1.step M (λb s e=>by omega);have aHy:=(S.1.cell R λh=>hR r h<|by simp).trans j;have E:=X (⟨hxk,q⟩:x∈L.map (·.key)∧x∉d);have B:=X S;by_cases hp:preB pfx x=Y
   ·obtain⟨N,p⟩:=afc (preB pfx) HN.out Q2.out HS.out E.out.1 E.out.2 hp;obtain⟨fn,tmps,assign,body,Q3,nC⟩:=HY.out (d.filter<|preB pfx) x w2 D ⟨N,p⟩ T;have HR:=X nC;have I:=X hp;have Hr:=X p;have JE:=Q3;gi_wp2_with(gi_at_call 71;refine(callsIn_wide.2<|acr _ _ _).mono ?_;rintro e w'⟨rfl,z⟩;subst z;rw[show OC x.data.toList pfx.data.toList=Y from I.out]);refine HR.out.mono ?_;rintro e W'(⟨rfl,D',A,i⟩|⟨rfl,D',A,i⟩)
    ·gi_wp2;gi_roundg(gk-1);case rel=>
      have K:=f.XD (i.1.block _ f.map.lt<|hDb m (by simp) lm)<|i.1.block _ f.lt C;refine⟨d++[x],D',by have:=HK.out;grind,K,?_,?_,?_,B.out.trans i,?_⟩;·rw[Jm];exact⟨Q2.out,by simp,λa g b s e=>E.out.2<|by grind⟩
      ·intro a g;rcases qP.1 g with g|g;·exact HS.out a g
       ·rw[mA.1 g];exact E.out.1
      ·rw[Dz,List.filter_cons_of_pos I.out];exact A
      ·intro h;rcases i.2 _ h with h|h;·grind
       ·have:=f.lt;omega
     case measure=>have:=HK.out;omega
    ·gi_wp2;refine vS (results_none rfl _ _ _) rfl ?_;exact⟨⟨_,rfl⟩,.inr ⟨_,D',⟨N,by rw[jG];exact Hr.out⟩,A,B.out.trans i⟩⟩
   ·have I:=X (show preB pfx x=ai by grind);gi_wp2_with(gi_at_call 71;refine(callsIn_wide.2<|acr _ _ _).mono ?_;rintro e w'⟨rfl,z⟩;subst z;rw[show OC x.data.toList pfx.data.toList=ai from I.out]);gi_roundg(gk-1);case rel=>
     refine⟨d++[x],D,by have:=HK.out;grind,f,?_,?_,?_,B.out,C⟩;·rw[Jm];exact⟨Q2.out,by simp,λa g b s e=>E.out.2<|by grind⟩
     ·intro a g;rcases qP.1 g with g|g;·exact HS.out a g
      ·rw[mA.1 g];exact E.out.1
     ·rw[Dz,List.filter_cons_of_neg<|by rw[I.out];simp,List.filter_nil,List.append_nil];exact T
    case measure=>have:=HK.out;omega
attribute [local go_sem] Oper.semAt_some
def Halt(p:Prop):Prop:=p
theorem Halt.of{p}(h:Halt p):p:=h
theorem bS.shift{D E c}{W W1 W'}(h:bS D W1 c W')(k:aK (λ_=>False) W W1)(a:∀b,D b->E b):bS E W c W':=⟨(k.mono λ_ _ f=>f.elim).trans' (h.1.mono λb _=>a b) (λ_ _ x=>x) λ_ _ x=>x,λb d=>(h.2 b d).imp (a b) λx=>bC k.size x⟩
theorem bS.below{D d}{W0 W W'}(h:bS D W d W')(k:aW W0.heap.size W0 W)(c:∀b,D b->W0<=b):aW W0 W0 W':=⟨h.1.os.trans k.os,h.1.tape.trans k.tape,h.1.output.trans k.output,bC k.size h.1.size,λb a=>(h.1.block b (cE a k.size) λx=>absurd (c b x)<|by omega).trans<|k.block b a⟩
theorem G9{N}{W0 W}(h:aW N W0 W){l}(c:N<=l)(o):aW N W0<|W.putObj l o:=⟨h.os,h.tape,h.output,by simpa using h.size,λb a=>(qQ<|by omega).trans<|h.block b a⟩
theorem F4:(Q.info? 9).map (λi=>(i.zero,i.size,i.bytes))=U (U<|aD ⟨#[]⟩,1,16):=by kernel_rfl
theorem aD7(gf:Nat)(lb)(S)(R)(w)(P:∀n w,(iA gf n).run Q w=aY (jL gf n) w)(F:Iter Q gf lb (λk=>#[aD k]) S R w)(J:∀b,R b->b<w)(hN:∀j,S j->j.length<=1073741824):bz Q 206 #[aE Z 0 0,dM (ez gf) #[] lb] w λe K=>∃j v,e=bj v∧S j∧K.ownsRow w 9 1 v j.length (j.map aD)∧aW w w K:=by
 obtain⟨a,hi,E,z,u⟩:=info_parts F4;refine callsIn_wide (n:=0).1<|callsIn_of_wp_marks aom rfl trivial ?_ rfl;simp only[ntmps206,tF,qi,lG,wS,wP,uN,uM,uL,uK,uJ,qj];gi_wp2;refine wp_rangeFunc (gf:=gf) (lb:=lb) rfl P (F.later<|(aK.alloc (λ_=>False) w _).fI λb c=>⟨J b c,id⟩) λb c=>by have:=J b c;simp;omega (λ_=>rfl) (λf W D=>∃v,jC W w 51 9 1 v f.length (f.map aD)∧D=nI w v) (λ_ _ _ _=>False) ⟨λf W D⟨v,h,e⟩b c=>h.lt b<|e▸c,λf W D W'⟨v,h,e⟩ha=>⟨v,h.fI λb c=>ha.block b<|e▸c,e⟩⟩ (λ_=>⟨λ_ _ _ h=>h.elim,λ_ _ _ _ h=>h.elim⟩) (nI w<|aE Z 0 0) (λb c=>?_) ⟨_,jC.new w 51 9 1,rfl⟩ ?round ?done ?stop
 ·rcases c with rfl|c;·grind
  ·cases c
 case round=>
  rintro l f x W D Q2 uV H⟨y,N⟩⟨v,i,rfl⟩Q0;have L:f.length+1<=1073741824:=by grind
  gi_wp2;refine⟨⟨.refl _ _,λb c=>c.imp id (·.1)⟩,λW2 p=>?_⟩;have d:=i.fI λb c=>p.block b λe=>H<|e▸c;obtain⟨I,O⟩:=d.cell;have m:=d.row;have t:=d.lt _<|ax rfl;have r:=X d;gi_wp2_with(gi_at_builtin;go_must(refine wpListIn_append_own_at _ rfl _ _ 51 rfl (w+1) 9 a (aD ⟨#[]⟩) 1 16 Ia hi E z u rfl (by decide) v f.length (f.map aD) rfl (m.alloc _) W2.heap.size 1 1 [x] rfl rfl (cell_one_new _ _ _) (by simp[zh]) (by unfold vg;omega) (by omega) (by simp;omega) ?_);intro v' w1 s o _ C;refine Halt.of ?_);obtain⟨g',M,A⟩:=ownsRow_succ s;have q:w≠v.ownBlock:=λe=>by have:=(m.lt _ e.symm).1;omega
  have sj:=(ei (w:=W2.alloc<|aH #[x] 9)<|o.block _ (by simp;omega) q).trans<|(ei (w:=W2)<|dm _ _ _ t).trans I;have Gp:=(Ad (w:=W2.alloc<|aH #[x] 9)<|o.block _ (by simp;omega) q).trans<|(Ad (w:=W2)<|dm _ _ _ t).trans O;subst A;unfold Halt;gi_wp2;obtain⟨h1,Q1⟩:=(X<|jC.appended (jC.fI r.out λb c=>dm _ _ _<|jC.lt r.out b c) o s C).out;exact⟨_,⟨_,by grind,rfl⟩,Q1.shift (aK.alloc _ _ _) λ_ h=>ax h⟩
 case done=>
  rintro j W D N⟨v,i,rfl⟩T Q3 G;obtain⟨I,O⟩:=i.cell;have r:=X i;gi_wp2;refine⟨by simp,ax ⟨_,_,rfl,run_takeDeferred Q3,?_⟩⟩;refine⟨_,results_tmp rfl _ _ _,j,v,rfl,(X N).out,dx (FE r.out.row λg B=>Su (r.out.row.lt g B).1) λg B=>qQ λe=>G<|aA<|e▸B,?_⟩;refine G9 ((X T).out.below ((eo _ _).alloc (aS _) _) ?_) (by simp) _;rintro b(rfl|c);·grind
  ·cases c
 grind
theorem aCL(gf:Nat)(lb)(S)(R)(w)(g:∀a w,(iA gf a).run Q w=aY (jL gf a) w)(d:Iter Q gf lb (λk=>#[aD k]) S R w)(i:∀b,R b->b<w)(l:∀c,S c->c.length<=1073741824):bz Q 185 #[dM (ez gf) #[] lb] w λe f=>∃c v,e=bj v/\S c/\f.ownsRow w 9 1 v c.length (c.map aD)/\aW w w f:=by go_enter aos,ntmps185;go_wp2_with(go_at_call 206;refine(aD7 gf lb S R w g d i l).mono ?_;rintro e m⟨c,v,rfl,h⟩;obtain j:=X h);go_ret;exact⟨c,v,rfl,j.out⟩
def jS(xs:List ByteArray):List ByteArray:=((xs.map (·.data.toList)).mergeSort λx y=>cg<|x<=y).map λl=>⟨l.toArray⟩
theorem Ip(xs):(jS xs).length=xs.length:=by simp[jS]
theorem aqe(xs:List ByteArray):xs.map aD=(xs.map (·.data.toList)).map encStr:=by grind[List.map_map,List.map_congr_left]
theorem aqd(xs):((xs.map (·.data.toList)).mergeSort λx y=>cg<|x<=y).map encStr=(jS xs).map aD:=by grind[jS,List.map_map,List.map_congr_left]
theorem aqu(gf:Nat)(lb)(S)(R)(w)(y:∀h w,(iA gf h).run Q w=aY (jL gf h) w)(m:Iter Q gf lb (λk=>#[aD k]) S R w)(A:∀b,R b->b<w)(G:∀c,S c->c.length<=1073741824):bz Q 123 #[dM (ez gf) #[] lb] w λe u=>∃c v,e=bj v∧S c∧u.ownsRow w 9 1 v c.length ((jS c).map aD)∧aW w w u:=by
 go_enter aoV,ntmps123;go_wp2_with(go_at_call 185;refine(aCL gf lb S R w y m A G).mono ?_;rintro e C⟨c,v,rfl,s,r,t⟩;refine Halt.of ?_);rcases r.2 with⟨rfl,z⟩|⟨g,o,E,rfl,i,p,J,D,K,I⟩;·have j:=X t;unfold Halt;go_wp2_with(go_at_call 186;refine(anB _ _ _).mono ?_;rintro e F⟨rfl,f⟩;subst f);go_ret;refine⟨c,_,rfl,(X s).out,?_,j.out⟩;have:=BA z;subst this;simpa[jS]using(X r).out
 ·have x:(c.map (·.data.toList)).length=c.length:=by simp
  have l:(c.map (·.data.toList)).length<4611686018427387904:=by grind
  have d:=anC g 0 o (c.map (·.data.toList)) C (holds_of_block (ss:=c.map (·.data.toList)) p<|by grind[List.length_map,aqe]) (cU.1 p).1 l;rw[x]at d;have j:=X t;have B:=X p;unfold Halt;go_wp2_with(go_at_call 186;refine(X d).out.mono ?_;rintro e F⟨rfl,n,H,f⟩;have q:=X f;clear f;refine Halt.of ?_);unfold Halt;go_wp2;go_ret;refine⟨c,_,rfl,(X s).out,?_,?_⟩;·rw[q.out,<-aqd,<-x];exact ownsRow_sorted (by simp) i B.out (by omega) D<|by grind
  ·rw[q.out];exact j.out.grown (grownBy_sorted _) j.out.size λL e=>by grind
attribute [local go_sem] Oper.semAt_some
theorem aqz{xs e}(h:xs.Perm e):jS xs=jS e:=by
 have:(xs.map (·.data.toList)).mergeSort λx y=>cg<|x<=y=(e.map (·.data.toList)).mergeSort λx y=>cg<|x<=y:=by
  have g:∀a b c:List UInt8,cg (a<=b)=Y->cg (b<=c)=Y->cg (a<=c)=Y:=λa b c j i=>by grind
  have f:∀a b:List UInt8,(cg (a<=b)||decide (b<=a))=Y:=λa b=>by grind
  exact Sk (le:=λa b=>cg (a<=b)=Y) λa b _ _ j i=>by grind (MJ g f _) (MJ g f _)<|((Jl _ _).trans<|h.map λx:ByteArray=>x.data.toList).trans (Jl _ _).symm
 grind[jS]
theorem LG(xs):(jS xs).Perm xs:=by
 have:=(Jl (xs.map (·.data.toList)) λx y=>cg<|x<=y).map λl:List UInt8=>(⟨l.toArray⟩:ByteArray);rw[FX]at this;have e:(xs.map<|(λl:List UInt8=>(⟨l.toArray⟩:ByteArray))∘λx=>x.data.toList)=xs:=by
  have:((λl:List UInt8=>(⟨l.toArray⟩:ByteArray))∘λx:ByteArray=>x.data.toList)=id:=by funext x;simp
  grind[List.map_id]
 rw[e]at this;exact this
theorem AJ{P}{gf:Nat}{fn}{c}(a:P.funcs[gf]?=U fn)(d:fn.body=U c)(b:fn.name≠ "runtime.NumGoroutine")(args)(w):(iA gf args).run P w=aY (jL gf args) w:=by simp[iA,go_sem,a,d,b]
theorem YQ(m)(L)(pfx)(w)(j:cI w m L)(p:L.length<=1073741824):bz Q 86 #[cq m,aD pfx] w λe k=>∃v,e=bj v/\k.ownsRow w 9 1 v (jS<|qS L pfx).length ((jS<|qS L pfx).map aD)/\aW w w k:=by have l:=j.lt;go_enter anT,ntmps86;have c:=aqu 141 #[aG<|U w.heap.size,aG<|U ⟨w.heap.size+1,0,Z⟩] _ _ ((w.alloc<|aH #[cq<|U m] 107).alloc<|aH #[pfx] 9) (AJ acK rfl<|by decide) (aw6 w (w+1) m L pfx _ (by go_simp) (by go_simp)<|(j.alloc _).alloc _) λb f=>by rcases f with rfl|rfl|rfl<;>simp<;>omega λn h=>bC (by rw[h.length_eq];exact bC (Bz _ _)<|by simp) p;go_wp2_with(go_at_call 123;refine(X c).out.mono ?_;rintro e r⟨n,v,rfl,i,d,f⟩;have q:=gF.mk i d f);go_ret;obtain⟨i,d,f⟩:=q;refine⟨v,rfl,?_,(((eo _ _).alloc (aS _) _).alloc (by simp) _).trans<|f.mono<|by simp;omega⟩;rw[aqz i,i.length_eq]at d;rw[Ip];exact FE d λg o=>by have:=(d.lt g o).1;simp at this;omega
attribute [local go_sem] Oper.semAt_some
instance:Inhabited O:=⟨⟨⟨#[]⟩,⟨#[]⟩,0,0,⟨#[]⟩⟩⟩
def jj(L:List O)(k:ByteArray):O:=(l8 L k).getD default
def dS(L:List O)(pfx:ByteArray):List O:=(jS<|qS L pfx).map<|jj L
theorem agj{L}{pfx k}(b:k∈jS (qS L pfx))(z):(look (es L) k).getD z=(jj L k).val:=by rw[Mq,jj];obtain⟨y,a,e⟩:=mC.1 (List.mem_filter.1<|(LG _).subset b).1;cases h:l8 L k with|none=>exact absurd e<|by simpa using List.find?_eq_none.1 h y a|some y=>rfl
theorem Uz(m)(pfx)(w):bz Q 52 #[cq<|U m,aD pfx] w λe a=>e=bj (dM (ez 85) #[] #[aG w,aG<|U ⟨w+1,0,Z⟩])/\a=(w.alloc<|aH #[cq m] 107).alloc (aH #[pfx] 9):=by go_enter an2,ntmps52;go_wp2;go_ret;exact⟨rfl,rfl⟩
theorem UA(I bp m)(L)(pfx)(w)(Q2:w.cell? I=U (.map m))(C:w.cell? bp=U (.string pfx))(hB:cI w m L)(hL:L.length<=1073741824):Iter Q 85 #[.pointer<|U ⟨I,0,Z⟩,.pointer<|U ⟨bp,0,Z⟩] (λx=>#[x.val]) (λxs=>xs=dS L pfx) (λb=>b=I∨b=bp∨b=m) w:=by
 intro l J Jx W M hA hJ GB hR hY a;have E:=hB.of_block (hA.block m<|by simp);have d:=(ei (w:=w)<|hA.block I<|by simp).trans Q2;have t:=(ei (w:=w)<|hA.block bp<|by simp).trans C;have Yk:=oh W _ d;have o:=YQ m L pfx W E hL;obtain⟨K,Q1⟩:=ex<|jS<|qS L pfx;have S:dS L pfx=K.map (jj L):=by rw[dS,Q1]
 have f:∀k∈K,∀z,(look (es L) k).getD z=(jj L k).val:=by grind[agj]
 rw[<-Q1]at o;rw[S]at hY⊢;have HC:=X o;refine Sg Ib rfl trivial ?_;simp only[ntmps85,tF,qi,lG,wS,wP,uN,uM,uL,uK,uJ,qj];gi_wp2_with(gi_at_call 86;refine(callsIn_wide.2 HC.out).mono ?_;rintro e w1⟨v,rfl,ho,hb⟩;refine Halt.of ?_);have F:=hJ.st _ _ _ _ a<|(aK.iD (F:=λ_=>False) hb).fI λb su=>⟨hJ.lt _ _ _ a b su,id⟩;have G:bS M W M w1:=.other<|aK.iD hb;have O:=hJ.lt _ _ _ a;rcases ho.2 with⟨rfl,hn⟩|⟨g,cap,cur,rfl,hg,P,wj,uU,SV,SU⟩
 ·have hK0:=BA hn;have HH:=cH.mk F G;subst hK0;unfold Halt;gi_wp2;gi_loopg[10]0λk s wr=>s=.int .i64 0∧wr=w1;case atStart=>grind
  case round=>obtain⟨rfl,rfl⟩:=hrel;gi_wp2;go_end0;exact⟨⟨_,rfl⟩,.inl ⟨_,M,rfl,HH.a,HH.b⟩⟩
 ·have sg:=(cU.1 P).1;have q:∀j(h:j<K.length),w1.cell? ⟨g,j,Z⟩=U (.string K[j]):=λj h=>by have:=ho.cellAt j (by grind);grind
  have NT:K.length<2^62:=by rw[Q1,Ip];exact ag2 (bC (Bz _ _)<|by simpa using hL)<|by decide
  have HO:=gF.mk F G O;have HL:=X f;have N:=X q;have HY:=X hY;have HR:=X hR;have HB:=gF.mk E d t;clear Q1 S f ho hb F G HC hY hA hJ GB hR a hB E Q2 C d t SV SU P q O;unfold Halt;gi_wp2;gi_loopg[10]K.lengthλk s wr=>∃(j:Nat)(D:Nat->Prop),k+j=K.length∧s=.int .i64 j∧w1.heap.size<=wr.heap.size∧wr.heap[g]?=w1.heap[g]?∧J ((K.take j).map<|jj L) wr D∧bS M W D wr∧¬D g;case atStart=>exact⟨0,M,by omega,rfl,aS _,rfl,by simpa using HO.a,HO.b,λh=>by have:=HO.c _ h;omega⟩
  case round=>
   obtain⟨j,D,hk,rfl,Q0,A,hj,p,R⟩:=hrel;by_cases JQ:j<K.length
   ·have hx:=(ei (w:=w1) A).trans<|N.out j JQ;obtain⟨x,y⟩:=ex K[j];rw[<-y]at hx;have azQ:=(p.1.cell Yk λh=>HR.out I h<|by simp).trans HB.b;have HM:=X (HB.a.keep p.1 λh=>HR.out m h<|by simp);have BL:=X<|HL.out x<|y▸lV JQ;obtain⟨r,i⟩:∃r,(K.take j).map (jj L)++jj L x::r=K.map (jj L):=⟨(K.drop<|j+1).map<|jj L,by grind[List.getElem_cons_drop,List.take_append_drop]⟩;have u:(K.take j).map (jj L)++[jj L x]=(K.take<|j+1).map (jj L):=by grind[List.take_add_one]
    obtain⟨fn,tmps,assign,body,hy,B⟩:=HY.out ((K.take j).map<|jj L) (jj L x) wr D ⟨r,i⟩ hj;rw[u]at B;have yd:=X B;have T:=vB.mk p A Q0 R;have Hr:=X i;have JE:=hy;clear hy B p A hj i R Q0 N HL y;gi_wp2_with(gi_at_lookup;refine abW _ nx rfl _ _ 107 rfl 9 46 zM sZ _ (Hw _) m (es L) x rfl HM.out rfl ?_;rw[BL.out]);refine yd.out.mono ?_;rintro e W'(⟨rfl,D',n,c⟩|⟨rfl,D',n,c⟩)
    ·gi_wp2;gi_roundg(gk-1);case rel=>obtain⟨hL0,h1,h2,h3⟩:=kp T;obtain⟨n,c⟩:=(X<|aM n c).out;refine⟨j+1,D',by omega,by go_simp,bC h2 c.1.size,(c.1.block g (by omega) h3).trans h1,n,hL0.trans c,λh=>?_⟩;rcases c.2 _ h with h|h;all_goals grind
     grind
    ·have H:=cH.mk n c;gi_wp2;refine vS (results_none rfl _ _ _) rfl ?_;exact⟨⟨_,rfl⟩,.inr ⟨_,D',⟨r,by rw[<-u,jG];exact Hr.out⟩,H.a,T.a.trans H.b⟩⟩
   ·have jw:j=K.length:=by omega
    subst jw;have HF:=cH.mk hj p;gi_wp2;go_end0;exact⟨⟨_,rfl⟩,.inl ⟨_,D,rfl,by simpa using HF.a,HF.b⟩⟩
def jM(L:List O):Int:=L.foldr (λx n=>max n x.c) 0
theorem abf(L):0<=jM L:=by induction L with|nil=>exact Int.le_refl 0|cons x l a=>exact Int.le_trans a<|ag1 _ _
theorem awt{L}{x}(h:x∈L):x.c<=jM L:=by induction L with|nil=>cases h|cons y l a=>
  rcases dj.1 h with rfl|h;.exact Int.le_max_right _ _
  .exact Int.le_trans (a h)<|ag1 _ _
theorem akX(L):jM L=0\/∃x∈L,x.c=jM L:=by induction L with|nil=>exact ax rfl|cons y l a=>show max (jM l) y.c=0\/∃x∈y::l,x.c=max (jM l) y.c;grind
theorem aCQ{L}{n}(d:0<=n)(e:∀x∈L,x.c<=n)(b:n=0\/∃x∈L,x.c=n):n=jM L:=by
 apply Int.le_antisymm
 .rcases b with rfl|⟨x,a,rfl⟩;.exact abf L
  .exact awt a
 grind[akX]
theorem axr{L:List O}(h:(L.map (·.key)).Nodup){x y}(a:x∈L)(b:y∈L)(e:x.key=y.key):x=y:=by induction L with|nil=>cases a|cons z l c=>grind
theorem He{G}{w d c}(h:aW w.heap.size w d)(k:aK G d c)(e:∀x,x<w.heap.size->¬G x):aW w w c:=⟨k.os.trans h.os,k.tape.trans h.tape,k.output.trans h.output,bC h.size k.size,λb a=>(k.block b (cE a h.size)<|e b a).trans<|h.block b a⟩
theorem aCP(m)(L)(w)(G:cI w m L):bz Q 118 #[cq m] w λe w'=>e=bj (jM L)∧aW w w w':=by
 have c:=G.lt;obtain⟨o,R,t⟩:=Wz (P:=Q) (T:=107) nx zM G;go_enter aoY,ntmps118;go_wp2;go_loopg[3]L.length(λk s wr=>∃(d:List ByteArray)(n:Int),k+d.length=L.length∧s=n∧vv nx wr m w (es L) d∧d.Nodup∧(∀x∈d,x∈L.map (·.key))∧0<=n∧(∀x∈L,x.key∈d->x.c<=n)∧(n=0∨∃x∈L,x.c=n)∧aW w w wr);case atStart=>exact⟨[],0,by simp,rfl,(X t).out,by simp,by simp,Int.le_refl 0,by simp,ax rfl,(eo _ _).alloc (aS _) _⟩
 case round=>
  obtain⟨d,n,Q0,rfl,t,u,q,A,C,E,g⟩:=hrel;have N:=E5.mk Q0 u q A C E g;rcases WA (P:=Q) nx t (by omega) 0 with⟨B,j⟩|⟨x,v,Q2,Ec,i,j,f,z,F⟩;·go_wp2;go_ret;obtain⟨-,-,-,b,h1,h2,hb⟩:=kp N;exact⟨by rw[<-aCQ b (λx J=>h1 x J<|(X B).out (x.key,x.val)<|YJ (f:=λx:O=>(x.key,x.val)) J) h2];rfl,hb⟩
  ·obtain⟨v',Q3,l⟩:=WB (P:=Q) nx f;obtain⟨⟨S,T,K,H,Q1⟩,I,e⟩:=mC.1 Q3;simp only[Jq]at e;obtain⟨rfl,rfl⟩:=e;unfold O.val at l;obtain⟨x,p⟩:=ex<|O.key ⟨S,T,K,H,Q1⟩;rw[<-p]at j l i f;replace j:(Ci (aG<|U w.heap.size) ai 0).run Q wr=aY (bO #[Y,x,v]) Q2:=j;replace l:(GV<|aG<|U w.heap.size).run Q Q2=aY (bO #[x,bJ #[S,T,K,H,Q1]]) Q2:=l;have D:x∈L.map (·.key):=by grind
   have r:d.length<L.length:=by have:=(FZ.2 ⟨i,u⟩).length_le_of_subset (l₂:=L.map (·.key)) (λa ha=>by grind);grind
   have W:=E4.mk r D I i f z F p;go_wp2;go_roundg(gk-1);case rel=>
    obtain⟨Q0,u,q,A,C,E,g⟩:=kp N;obtain⟨r,D,I,i,f,z,F,p⟩:=kp W;refine⟨d++[x],max n K,by grind,rfl,f.XD (dm _ _ _ f.map.lt)<|dm _ _ _ f.lt,?_,?_,?_,?_,?_,?_⟩;·grind
    ·grind
    ·grind
    ·intro y M P;rcases qP.1 P with h|h;·grind
     ·have:=axr (X G.nodup).out M I<|(mA.1 h).trans p;grind
    ·grind
    ·exact(He g z λx J e=>by omega).alloc (by have:=g.size;omega) _
   case measure=>have:=N.a;have:=W.a;omega
attribute [local go_sem] Oper.semAt_some
attribute [local go_sem] Oper.semAt_some
def al5{α:Type}(P:bW)(gf:Nat)(lb:Array az)(Ex:α->Array az)(S:List α->Prop)(R:Nat->Prop)(W0:ay):Prop:=∀(E:Nat)(cl:Array az)(J V:List α->ay->(Nat->Prop)->Prop)(W:ay)(D0:Nat->Prop),(∀args w,(iA E args).run P w=aY (jL E args) w)->Le R W0 W->pH J->pH V->(∀b,D0 b->¬R b)->(∀(pre:List α)(x:α)(W1:ay)(D1:Nat->Prop),(∃U,S<|pre++x::U)->J pre W1 D1->CallsIn AH 0 P E (Ex x++cl) W1 λe W'=>(e=bj (bQ Y)/\∃D',J (pre++[x]) W' D'/\bS D1 W1 D' W')\/e=bj (bQ ai)/\∃D',V (pre++[x]) W' D'/\bS D1 W1 D' W')->J [] W D0->CallsIn AH 0 P gf (#[dM (ez E) #[] cl]++lb) W λe W'=>(∃v,e=bj v)/\((∃xs D',S xs/\J xs W' D'/\bS D0 W D' W')\/∃pre D',(∃U,S<|pre++U)/\V pre W' D'/\bS D0 W D' W')
theorem aDv(H Q1 m)(L)(pfx)(w)(P:w.cell? H=U (.map m))(T:w.cell? Q1=U (.string pfx))(hB:cI w m L)(hL:L.length<=1073741824):al5 Q 85 #[.pointer<|U ⟨H,0,Z⟩,.pointer<|U ⟨Q1,0,Z⟩] (λx=>#[x.val]) (λxs=>xs=dS L pfx) (λb=>b=H∨b=Q1∨b=m) w:=by
 intro cf cl J Jx W I ecf hA a GB hR hY Q2;have C:=hB.of_block (hA.block m<|by simp);have d:=(ei (w:=w)<|hA.block H<|by simp).trans P;have r:=(ei (w:=w)<|hA.block Q1<|by simp).trans T;have Yk:=oh W _ d;have n:=YQ m L pfx W C hL;obtain⟨K,Q0⟩:=ex<|jS<|qS L pfx;have R:dS L pfx=K.map (jj L):=by rw[dS,Q0]
 have f:∀k∈K,∀z,(look (es L) k).getD z=(jj L k).val:=by grind[agj]
 rw[<-Q0]at n;rw[R]at hY⊢;have HC:=X n;refine Sg Ib rfl trivial ?_;simp only[ntmps85,tF,qi,lG,wS,wP,uN,uM,uL,uK,uJ,qj];gi_wp2_with(gi_at_call 86;refine(callsIn_wide.2 HC.out).mono ?_;rintro e w1⟨v,rfl,ho,hb⟩;refine Halt.of ?_);have E:=a.st _ _ _ _ Q2<|(aK.iD (F:=λ_=>False) hb).fI λb su=>⟨a.lt _ _ _ Q2 b su,id⟩;have F:bS I W I w1:=.other<|aK.iD hb;have N:=a.lt _ _ _ Q2;rcases ho.2 with⟨rfl,hn⟩|⟨g,cap,cur,rfl,hg,O,wj,uU,SV,SU⟩
 ·have hK0:=BA hn;have HH:=cH.mk E F;subst hK0;unfold Halt;gi_wp2;gi_loopg[10]0λk s wr=>s=.int .i64 0∧wr=w1;case atStart=>grind
  case round=>obtain⟨rfl,rfl⟩:=hrel;gi_wp2;go_end0;exact⟨⟨_,rfl⟩,.inl ⟨_,I,rfl,HH.a,HH.b⟩⟩
 ·have sg:=(cU.1 O).1;have p:∀j(h:j<K.length),w1.cell? ⟨g,j,Z⟩=U (.string K[j]):=λj h=>by have:=ho.cellAt j (by grind);grind
  have NT:K.length<2^62:=by rw[Q0,Ip];exact ag2 (bC (Bz _ _)<|by simpa using hL)<|by decide
  have HO:=gF.mk E F N;have HL:=X f;have M:=X p;have HY:=X hY;have HR:=X hR;have HB:=gF.mk C d r;clear Q0 R f ho hb E F HC hY hA a GB hR Q2 hB C P T d r SV SU O p N;unfold Halt;gi_wp2;gi_loopg[10]K.lengthλk s wr=>∃(j:Nat)(D:Nat->Prop),k+j=K.length∧s=.int .i64 j∧w1.heap.size<=wr.heap.size∧wr.heap[g]?=w1.heap[g]?∧J ((K.take j).map<|jj L) wr D∧bS I W D wr∧¬D g;case atStart=>exact⟨0,I,by omega,rfl,aS _,rfl,by simpa using HO.a,HO.b,λh=>by have:=HO.c _ h;omega⟩
  case round=>
   obtain⟨j,D,hk,rfl,B,y,hj,o,Q3⟩:=hrel;by_cases JQ:j<K.length
   ·have hx:=(ei (w:=w1) y).trans<|M.out j JQ;obtain⟨x,u⟩:=ex K[j];rw[<-u]at hx;have azQ:=(o.1.cell Yk λh=>HR.out H h<|by simp).trans HB.b;have HM:=X (HB.a.keep o.1 λh=>HR.out m h<|by simp);have BL:=X<|HL.out x<|u▸lV JQ;obtain⟨q,i⟩:∃q,(K.take j).map (jj L)++jj L x::q=K.map (jj L):=⟨(K.drop<|j+1).map<|jj L,by grind[List.getElem_cons_drop,List.take_append_drop]⟩;have t:(K.take j).map (jj L)++[jj L x]=(K.take<|j+1).map (jj L):=by grind[List.take_add_one]
    have A:=HY.out ((K.take j).map<|jj L) (jj L x) wr D ⟨q,i⟩ hj;rw[t]at A;have yd:=X A;have S:=vB.mk o y B Q3;have Hr:=X i;clear A o y hj i Q3 B M HL u;gi_wp2_with(gi_at_lookup;refine abW _ nx rfl _ _ 107 rfl 9 46 zM sZ _ (Hw _) m (es L) x rfl HM.out rfl ?_;rw[BL.out]);refine yd.out.mono ?_;rintro e W'(⟨rfl,D',l,c⟩|⟨rfl,D',l,c⟩)
    ·gi_wp2;gi_roundg(gk-1);case rel=>obtain⟨hL0,h1,h2,h3⟩:=kp S;obtain⟨l,c⟩:=(X<|aM l c).out;refine⟨j+1,D',by omega,by go_simp,bC h2 c.1.size,(c.1.block g (by omega) h3).trans h1,l,hL0.trans c,λh=>?_⟩;rcases c.2 _ h with h|h;all_goals grind
     grind
    ·have G:=cH.mk l c;gi_wp2;refine vS (results_none rfl _ _ _) rfl ?_;exact⟨⟨_,rfl⟩,.inr ⟨_,D',⟨q,by rw[<-t,jG];exact Hr.out⟩,G.a,S.a.trans G.b⟩⟩
   ·have jw:j=K.length:=by omega
    subst jw;have HF:=cH.mk hj o;gi_wp2;go_end0;exact⟨⟨_,rfl⟩,.inl ⟨_,D,rfl,by simpa using HF.a,HF.b⟩⟩
end
end Go.Proofs.YtpdbmpbmepkikaaGreatDoor
