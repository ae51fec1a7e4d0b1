/- Laws. -/
import Derived.Deep.RegionHeld3
import Derived.RangeFuncNested
import Derived.RangeFuncBound
import Derived.Maps.OwnIn
import Derived.Shelf.Strings.Trim
import Derived.Shelf.Small.Utf8
import Derived.Shelf.Small.Wraps
import Derived.Shelf.Strconv.Itoa3
import Derived.Shelf.Sort.Plain
import Derived.Shelf.Strings.Runes
import Derived.Shelf.Strings.AsciiSet
import Derived.Shelf.Unicode.DecodeAny
import Derived.Shelf.Slices.In.SortNone
import Derived.WalkLawsBesides
import Derived.WalkSpells
import Derived.Lib.SmallJoins
import Derived.Test.YtpdbmpbmepkikaaGreatDoorP03
set_option maxRecDepth 100000
set_option maxHeartbeats 400000
set_option linter.all false
open Go.Proofs.Tryz
open And renaming intro->bP
open Array renaming replicate->sH
open Bool renaming true->Z,false->ai
open Decidable renaming decide->cq
open Go renaming wpListIn->Qi,undef->ak,World->av,Value->ay,Calls->bE,Program->bU,execOp->cT,Sem->cy,Oper->dD,Func->dV,yielded->dY,TypeId->dZ,Addr->eK,Operand->iI,callFunc->iu,zeroValue->kG,MapEntry->l6,underlying->oq,getObj->qc,maxLen->uZ
open Go.Code renaming region->dQ
open Go.Departure renaming mixedOrders->mE
open Go.Ending renaming returned->bj
open Go.Exit renaming panic->CN
open Go.Fence renaming wide->zg
open Go.Fn renaming yield->A0,func->ep
open Go.Instr renaming next->AX,checkKey->AY,findNow->AZ,sameBits->C0,sameNow->CY,entry->Fc,findKey->Ij,lookup->LO,endRound->Qg,mapUpdate->Qk,keyThatStays->Xm
open Go.IntKind renaming i64->aH,u8->aq,u64->cK
open Go.Lib renaming hasPrefix->LN,compareInt->LW,pow10Tab->Xn,TabIs->x6
open Go.Next renaming value->fV,enter->jr
open Go.Obj renaming cells->aF,map->iP,mapIter->uc
open Go.Op renaming bytesLess->Ih
open Go.Proofs.Lays renaming n227->aGh
open Go.Proofs.Tryz renaming prog->aC
open Go.Question renaming forced->agW
open Go.Region renaming binds->LU,Mode->LZ,wanted->eP,ready->iO
open Go.Result renaming ok->aV,andThen->lH
open Go.RowKit renaming Below->bC,Hid->dR
open Go.Sem renaming run->nE
open Go.Shelf renaming Ren->AQ
open Go.Value renaming int->Y,slice->aD,pointer->aE,string->aG,agg->bN,tuple->bO,map->cj,bool->cz,func->dH,oneCell'->za
open Go.World renaming setCell->jE,cell?->og,frozen?->wI
open List renaming range->lW
open Nat renaming reduceSub->x9,reduceAdd->ya
open Option renaming some->U,none->V
open Or renaming inr->aA,inl->ax
open Pure renaming pure->bH
open UInt8 renaming ofNat->jZ
namespace Go.Proofs.YtpdbmpbmepkikaaGreatDoor
def ON:=@Go.getD_set_ne
def gK:=@Go.Sem.run_bind
def ei:=@Go.RowKit.Below.refl
def gy:=@Go.RowKit.Below.heap_setCell
def qE:=@Go.World.putObj_heap_other
def eD:=@Go.World.cell?_of_block
def iN:=@Go.World.alloc_heap_new
def uL:=@Go.World.size_alloc
def dr:=@Go.RowKit.Below.heap_alloc
def dc:=@Array.getElem?_eq_some_iff
def vR:=@Iff.rfl
def Er:=@Go.World.putObj_heap_same
def Al:=@Bool.eq_iff_iff
def Ep:=@List.nodup_cons
def Eo:=@List.cons.injEq
def Ak:=@Prod.mk.injEq
def UW:=@List.findIdx?_cons
def uK:=@Go.Sem.run_pure
def OM:=@decide_false
def uJ:=@if_false
def UU:=@Array.toList_push
def uI:=@List.map_append
def sg:=@List.map_nil
def lR:=@List.mem_map
def qD:=@List.mem_append
def adq:=@Array.toList_modify
def Kh:=@Go.wpList_plain
def GG:=@Go.wp_loop_rounds
def B7:=@Go.rounds_succ
def X:=@Go.Lib.hid
def En:=@List.map_map
def Kg:=@List.find?_cons
def qC:=@List.cons_append
def GF:=@List.cons_lt_cons_iff
def jy:=@List.append_assoc
def OL:=@List.singleton_append
def adp:=@List.count_eq_zero
def aEl:=@List.le_antisymm
def vQ:=@List.pairwise_cons
def OK:=@List.Perm.eq_of_pairwise
def OJ:=@List.mem_of_find?_eq_some
def Ke:=@List.pairwise_map
def UT:=@List.Pairwise.imp_of_mem
def OI:=@List.perm_ext_iff_of_nodup
def US:=@Option.isSome_some
def UR:=@List.mem_map_of_mem
def nU:=@Go.World.block_lt_of_cell?
def uH:=@List.size_toArray
def qB:=@List.length_cons
def lQ:=@List.length_nil
def vP:=@Array.replicate_succ
def vO:=@Array.replicate_zero
def vN:=@List.push_toArray
def vM:=@List.append_toArray
def vL:=@List.nil_append
def GD:=@List.nodup_append
def B6:=@List.filter_append
def B4:=@Go.World.frozen?_of_block
def B3:=@List.eq_nil_of_length_eq_zero
def Kc:=@List.pairwise_mergeSort
def GC:=@List.mergeSort_perm
def Em:=@List.length_filter_le
def xH:=@List.mem_filter
def ado:=@Int.le_max_left
def UQ:=@Go.heap_drew
def uG:=@Go.World.cell?_alloc_lt
section
variable{P:bU}{ops:Array dD}{Q:Exit->Act->av->Prop}{md:LZ}{S:av->Prop}{z:Nat}
def th(P:bU)(md:LZ)(ops:Array dD)(Q:Exit->Act->av->Prop)(S:av->Prop)(z:Nat):Nat->Array Bool->Act->av->Prop
 |0,listed,a,w=>iO md ops listed=[]∧Q .normal a w
 |fuel+1,listed,a,w=>
  (iO md ops listed=[]->Q .normal a w)∧
  ∀i∈iO md ops listed,wpOp P ops Q i (λa' w'=>((listed.setIfInBounds i Z).getD z Z=ai->S w')∧th P md ops Q S z fuel (listed.setIfInBounds i Z) a' w') a w
theorem Yl:∀(c:Nat) (b:Array Bool) (a:Act) (w:av),th P md ops Q S z c b a w->wpAny P md ops Q c b a w
 |0,_,_,_,h=>h
 |c+1,_,_,_,h=>⟨h.1,λi e=>wpOp_mono (λg f d=>Yl c _ g f d.2) (h.2 i e)⟩
def MJ(md:LZ)(ops:Array dD)(z i:Nat):Bool:=((ops[z]?).map λo=>o.after.any λe=>LU md e&&e.on==i).getD ai
theorem ajl{i}(h:MJ md ops z i=Z){a}(e:a.getD i Z=ai):z∉iO md ops a:=by
 intro c;obtain⟨_,o,d,b⟩:=mem_ready.1 c;simp only[MJ,d,ey,fO] at h
 grind
theorem ai1{i}{s}{v}(K:ops[i]? =U s)(n:∀(j:Nat) (o) x b,ops[j]? =U o->o.op≠ .select x b)
  (X:∀c a w,Q (CN c) (a.put s.dst v) w->Q (CN c) a w) (J:z≠i) (W:MJ md ops z i=Z):
  ∀(g) (f) (a) (w),
   (∀j r,ops[j]? =U r->j≠i->f.getD j Z=ai->(∀e∈r.after,LU md e=Z->e.on≠i)->s.apart ops r=Z)->
   i∈iO md ops f->YieldsIf P ops S s v a->f.getD z Z=ai->S w->
   th P md ops Q S z g (f.setIfInBounds i Z) (a.put s.dst v) w->th P md ops Q S z (g+1) f a w:=by
 intro g;induction g with
 |zero=>
  intro f a w _ I E _ y H;refine⟨λh=>(by grind),λj F=>?_⟩
  by_cases EH:j=i
  ·subst EH;exact E.wpOp K y ⟨λ_=>y,H⟩
  ·have:=ready_mono F EH;rw[H.1] at this
   grind
 |succ g R=>
  intro f a w l I E C y H;refine⟨λh=>(by grind),λj F=>?_⟩
  by_cases EH:j=i
  ·subst EH;exact E.wpOp K y ⟨λ_=>y,H⟩
  ·obtain⟨B,r,q,N⟩:=mem_ready.1 F;have p:=(mem_ready.1 I).1;have A:j≠z:=by grind[ajl]
   have t:∀e∈r.after,LU md e=Z->e.on≠i:=λe Q0 Q2 Q1=>by
    grind
   have m:∀k D,ops[k]? =U D->k≠i->(f.setIfInBounds j Z).getD k Z=ai->
     (∀e∈D.after,LU md e=Z->e.on≠i)->s.apart ops D=Z:=λk D d M p G=>by
    refine l k D d M ?_ G;by_cases hjk:j=k
    ·grind
    ·rw[ON Z hjk] at p;exact p
   have u:((f.setIfInBounds i Z).setIfInBounds j Z).getD z Z=ai:=by rw[ON Z A,ON Z (Ne.symm J)];exact C
   refine wpOp_mono (λO T L=>⟨λ_=>L.2.1 u,R (f.setIfInBounds j Z) O T m (ready_mono I (Ne.symm EH)) L.1 (by rw[ON Z A];exact C) (L.2.1 u) ?_⟩) (wpOp_putIf q (l j r q EH B t) (λx b=>n i s x b K) (λx b=>n j r x b q) X E (H.2 j (ready_mono F EH)))
   grind[Array.setIfInBounds_comm]
theorem kZ{i}{e}{v}{d}{b}{a}{w}(g:ops[i]? =U e)
  (hs:Region.noSelect ops=Z) (m:Region.free md ops b i=Z) (l:(iO md ops b).contains i=Z) (f:(z !=i&&MJ md ops z i&& !b.getD z Z)=Z)
  (n:∀c a w,Q (CN c) (a.put e.dst v) w->Q (CN c) a w) (k:YieldsIf P ops S e v a) (j:S w)
  (h:th P md ops Q S z d (b.setIfInBounds i Z) (a.put e.dst v) w):th P md ops Q S z (d+1) b a w:=by
 simp only[cS,bne_iff_ne,Bool.not_eq_true'] at f
 grind[ai1,Region.noSelect_spec,Region.free_spec]
theorem Bp{i}{d}{c}{b}{a}{w}(k:iO md ops b=[i])(m:ops[i]? =U d)(l:eP d (dY ops a.tmps)=Z)
  (h:Oper.wp P d a w (λg f=>((b.setIfInBounds i Z).getD z Z=ai->S f)∧th P md ops Q S z c (b.setIfInBounds i Z) g f) Q):th P md ops Q S z (c+1) b a w:=by
 refine⟨λn=>(by grind),λj e=>?_⟩
 rw[k,mA] at e;subst e;unfold wpOp
 grind
theorem Bo{i}{d}{v}{w'}{c}{b}{a}{w}(k:iO md ops b=[i])(g:ops[i]? =U d)(e:eP d (dY ops a.tmps)=Z)
  (f:(cT a.eval d).run P w=aV (fV v) w') (j:(b.setIfInBounds i Z).getD z Z=ai->S w') (h:th P md ops Q S z c (b.setIfInBounds i Z) (a.put d.dst v) w'):th P md ops Q S z (c+1) b a w:=by
 refine Bp k g e ?_;unfold Oper.wp;rw[f];exact⟨j,h⟩
theorem Rn{i}{d}{w'}{c}{b}{a}{w}(k:iO md ops b=[i])(g:ops[i]? =U d)(e:eP d (dY ops a.tmps)=Z)
  (f:(cT a.eval d).run P w=aV .skip w') (j:(b.setIfInBounds i Z).getD z Z=ai->S w') (h:th P md ops Q S z c (b.setIfInBounds i Z) (a.put d.dst ak) w'):th P md ops Q S z (c+1) b a w:=by
 refine Bp k g e ?_;unfold Oper.wp;rw[f];exact⟨j,h⟩
theorem Ro{b:Array Bool}{a:Act}{w:av}(d:iO md ops b=[])(h:Q .normal a w):∀c,th P md ops Q S z c b a w
 |0=>⟨d,h⟩
 |_+1=>⟨λ_=>h,by grind⟩
theorem wp_region_Z{id}{a}{w}(b:P.follows mE=Z)(c:S w.drew)
  (h:S w.drew->th P .any ops Q S z ops.size (sH ops.size ai) a w.drew):(dQ id ops Z).wp P Q a w:=
 wp_region_any b (Yl _ _ _ _ (h c))
section
variable {P:bU} {ops:Array dD} {Q:Exit->Act->av->Prop} {md:LZ} {S:av->Prop} {z i fuel:Nat} {oi:dD} {listed:Array Bool} {a:Act} {w:av} {L:List Nat}
def Y4(md:LZ)(ops:Array dD)(listed:Array Bool)(i:Nat):Bool:=Region.noSelect ops&&Region.free md ops listed i&&(iO md ops listed).contains i
structure IG(P:bU)(md:LZ)(ops:Array dD)(Q:Exit->Act->av->Prop)(S:av->Prop)(L:List Nat)(fuel:Nat)(listed:Array Bool)(a:Act)(w:av):Prop where
 h:(∀c t v a w,Q (CN c) (a.put t v) w->Q (CN c) a w)->S w->wpAnyH P md ops Q S fuel listed a w
theorem pM(v:ay)(hi:ops[i]? =U oi)(E:Y4 md ops listed i=Z)(hg:eP oi (dY ops a.tmps)=Z)(hy:∀w,S w->(cT a.eval oi).run P w=aV (fV v) w)
  (h:IG P md ops Q S L fuel (listed.setIfInBounds i Z) (a.put oi.dst v) w):IG P md ops Q S (i::L) (fuel+1) listed a w:=⟨λA J=>by
 simp only[Y4,cS] at E;exact wpAnyH_take hi E.1.1 E.1.2 E.2 (λc=>A c _ _) (ax ⟨hg,hy⟩) J (h.h A J)⟩
theorem uw(hi:ops[i]? =U oi)(E:(iO md ops listed==[i]&&eP oi (dY ops a.tmps))=Z)
  (h:S w->∀K':Act->av->Prop,Shut (∀a w,S w->IG P md ops Q S L fuel (listed.setIfInBounds i Z) a w->K' a w)->Oper.wp P oi a w K' Q):IG P md ops Q S (i::L) (fuel+1) listed a w:=⟨λA J=>by
 simp only[cS,beq_iff_eq] at E;refine wpAnyH_ready E.1 (by simp) (AllReadyH.cons hi (λK hK=>?_) AllReadyH.nil)
 rw[dn E.2];exact h J K λa w s t=>hK a w s λs=>t.h A s⟩
theorem Bt(hr:iO md ops listed=[])(h:S w->Q .normal a w):IG P md ops Q S [] fuel listed a w:=⟨λ_ E=>wpAnyH_done hr (h E) _⟩
theorem Bs(S:av->Prop)(L:List Nat){id:Nat}(hm:P.follows mE=Z)(E:S w.drew)(J:∀c t v a w,Q (CN c) (a.put t v) w->Q (CN c) a w)
  (h:IG P .any ops Q S L ops.size (sH ops.size ai) a w.drew):(dQ id ops Z).wp P Q a w:=wp_region_held_drew hm E λE=>h.h J E
end
set_option linter.defProp false in
def xd:=bP @Act.put.eq_1 (bP @Act.put.eq_2 (bP @List.getElem_toArray.{0} (bP @List.getElem_cons_zero.{0} (bP @List.getElem_cons_succ.{0} (bP @List.setIfInBounds_toArray.{0} (bP @List.set_cons_zero.{0} @List.set_cons_succ.{0}))))))
end
section
open Go
variable{q:bU}{fs:Array dV}
theorem afN{f:Nat}{fn}(h:fs[f]? =U fn):(J q fs).funcs[f]? =fn:=h
@[simp] theorem agK (t):(J q fs).underlying t=q.underlying t:=rfl
@[simp] theorem ay4 (t):(J q fs).info? t=q.info? t:=rfl
@[simp] theorem aGb:(J q fs).rt=q.rt:=rfl
@[simp] theorem aGa:(J q fs).types=q.types:=rfl
@[simp] theorem aGe:(J q fs).globals=q.globals:=rfl
@[simp] theorem aGg:(J q fs).depth=q.depth:=rfl
@[simp] theorem aGf (d):(J q fs).follows d=q.follows d:=rfl
@[simp] theorem aGc (t):(J q fs).stoodInHeld t=q.stoodInHeld t:=aeI t
@[simp] theorem aGd (d) (t):(J q fs).eqGuardType d t=q.eqGuardType d t:=afF d t
theorem Td{d c}{s}{k:d->cy c}{P b}{w}(h:s.run P w=s.run b w)(e:∀a w,(k a).run P w=(k a).run b w):(s>>=k).run P w=(s>>=k).run b w:=by
 grind[Sem.run_bind,Result.andThen_halt]
@[simp] theorem agL (t) (w):(typeInfo t).run (J q fs) w=(typeInfo t).run q w:=by
 unfold typeInfo;show nE _ (match(J q fs).info? t with|some i=>bH i|none=>stuck "no such type") w=nE _ (match q.info? t with|some i=>bH i|none=>stuck "no such type") w
 rw[ay4];cases q.info? t<;>rfl
@[simp] theorem ay3 (t) (w):(oq t).run (J q fs) w=(oq t).run q w:=by
 unfold oq;show nE _ (match(J q fs).underlying t with|some i=>bH i|none=>stuck "no such type") w=nE _ (match q.underlying t with|some i=>bH i|none=>stuck "no such type") w
 rw[agK];cases q.underlying t<;>rfl
@[simp] theorem agJ (t) (w):(kG t).run (J q fs) w=(kG t).run q w:=by unfold kG;refine Td (agL t w) λa w=>?_;cases a.zero<;>rfl
@[simp] theorem Qf (t) (w):(sizeOf t).run (J q fs) w=(sizeOf t).run q w:=by unfold sizeOf;exact Td (agL t w) λa w=>rfl
@[simp] theorem agM (t) (w):(isAgg t).run (J q fs) w=(isAgg t).run q w:=by unfold isAgg;refine Td (ay3 t w) λa w=>?_;cases a<;>rfl
theorem LH{f}{fn}(b:(J q fs).funcs[f]? =U fn)(h:(fn.name== "runtime.NumGoroutine" ||fn.body.isNone)=ai)(args)(w):(iu f args).run (J q fs) w=aV (jr f args) w:=by
 simp only[Bool.or_eq_false_iff] at h;have d:fn.name≠ "runtime.NumGoroutine":=by grind
 cases e:fn.body with
 |none=>grind
 |some c=>
  have a:fs[f]? =fn:=b;show nE (J q fs) (match fs[f]? with|none=>_|some fn=>_) w=_
  rw[a];simp[d,e]
end
end Go.Proofs.YtpdbmpbmepkikaaGreatDoor
set_option maxRecDepth 100000
namespace Go.Proofs
open Go.Proofs.YtpdbmpbmepkikaaGreatDoor
noncomputable abbrev Q:bU:=J aC iV
theorem aj7{f:Nat}{fn:dV}(h:aC.funcs[f]? =U fn)(h1:f≠41)(h2:f≠180)(h3:f≠181):Q.funcs[f]? =U fn:=afN ((pA h1 h2 h3).trans h)
theorem P{f:Nat}{fn:dV}(h:aC.funcs[f]? =U fn)(h1:(Nat.beq f 41||Nat.beq f 180||Nat.beq f 181)=ai):Q.funcs[f]? =U fn:=by simp only[Bool.or_eq_false_iff] at h1;exact aj7 h (Nat.ne_of_beq_eq_false h1.1.1) (Nat.ne_of_beq_eq_false h1.1.2) (Nat.ne_of_beq_eq_false h1.2)
theorem YX{f:Nat}{fn:dV}(hf:Q.funcs[f]? =U fn)(h:(fn.name== "runtime.NumGoroutine" ||fn.body.isNone)=ai)(args:Array ay)(w:av):(iu f args).run Q w=aV (jr f args) w:=LH hf h args w
@[simp] def okF (f:Nat):Bool:=cq (1<f∧f<87∨99<f∧f<106∨f=114∨115<f∧f<142∨145<f∧f<172∨174<f∧f<263∧f≠243∨f=282)
theorem ajV:(lW 283).all (λf=> !okF f||(Q.funcs[f]?).any λfn=> !(fn.name== "runtime.NumGoroutine" ||fn.body.isNone))=Z:=by kernel_rfl
@[simp] theorem aDd {f:Nat} (h:okF f=Z) (args:Array ay) (w:av):(iu f args).run Q w=aV (jr f args) w:=by
 have h1:=List.all_eq_true.1 ajV f (List.mem_range.2 (by unfold okF at h;have:=of_decide_eq_true h;omega))
 rw[h] at h1;cases h2:Q.funcs[f]? with
 |none=>rw[h2] at h1;cases h1
 |some fn=>rw[h2] at h1;exact LH h2 (by simpa using h1) args w
theorem jw{t:dZ}{x:Option TypeDesc}(h:aC.underlying t=x):(J aC iV).underlying t=x:=(agK t).trans h
theorem M6{t:dZ}{x:Nat}(h:∀w,(sizeOf t).run aC w=aV x w)(w:av):(sizeOf t).run (J aC iV) w=aV x w:=(Qf t w).trans (h w)
theorem M7{t:dZ}{x:Bool}(h:∀w,(isAgg t).run aC w=aV x w)(w:av):(isAgg t).run (J aC iV) w=aV x w:=(agM t w).trans (h w)
theorem YW{t:dZ}{x:ay}(h:∀w,(kG t).run aC w=aV x w)(w:av):(kG t).run (J aC iV) w=aV x w:=(agJ t w).trans (h w)
theorem YL:Q.funcs[41]? =U uy:=by kernel_rfl
def akz:=P func20 rfl
def aku:=P func26 rfl
def akt:=P func27 rfl
def akr:=P func28 rfl
def akm:=P func37 rfl
def akl:=P func38 rfl
def YK:=P func42 rfl
def M0:=P func43 rfl
def akk:=P func44 rfl
def YJ:=P func45 rfl
def R7:=P func46 rfl
def akj:=P func50 rfl
def aki:=P func51 rfl
def akh:=P func52 rfl
def ake:=P func62 rfl
def YI:=P func63 rfl
def R5:=P func64 rfl
def akd:=P func65 rfl
def akc:=P func66 rfl
def RZ:=P func67 rfl
def akb:=P func68 rfl
def aka:=P func69 rfl
def aj9:=P func84 rfl
def MZ:=P func85 rfl
def aj8:=P func86 rfl
def Sb:=P func101 rfl
def ald:=P func111 rfl
def alc:=P func112 rfl
def alb:=P func113 rfl
def YV:=P func115 rfl
def YU:=P func117 rfl
def ala:=P func118 rfl
def ak9:=P func119 rfl
def M5:=P func120 rfl
def ak8:=P func121 rfl
def ak7:=P func123 rfl
def YS:=P func141 rfl
def YR:=P func147 rfl
def ak4:=P func149 rfl
def ak2:=P func150 rfl
def ak0:=P func152 rfl
def Sa:=P func157 rfl
def akP:=P func163 rfl
def akO:=P func164 rfl
def akN:=P func165 rfl
def akG:=P func173 rfl
def akF:=P func174 rfl
def R8:=P func182 rfl
def akE:=P func185 rfl
def akC:=P func194 rfl
def YO:=P func195 rfl
def akA:=P func199 rfl
def aky:=P func200 rfl
def akx:=P func206 rfl
def aks:=P func278 rfl
def akq:=P func288 rfl
def akp:=P func289 rfl
def ako:=P func290 rfl
def akn:=P func291 rfl
def YM:=P func3 rfl
def YT:=P func14 rfl
def ak3:=P func15 rfl
def akT:=P func16 rfl
def YQ:=P func17 rfl
def YP:=P func18 rfl
def akD:=P func19 rfl
def akv:=P func23 rfl
def akg:=P func59 rfl
def akf:=P func60 rfl
def ali:=P func100 rfl
def alh:=P func102 rfl
def alg:=P func103 rfl
def alf:=P func104 rfl
def ale:=P func105 rfl
def aDb:=P func114 rfl
def aDa:=P func116 rfl
def ak6:=P func146 rfl
def ak5:=P func148 rfl
def ak1:=P func151 rfl
def akZ:=P func153 rfl
def akY:=P func154 rfl
def akX:=P func155 rfl
def akW:=P func156 rfl
def akV:=P func158 rfl
def akU:=P func159 rfl
def akS:=P func160 rfl
def akR:=P func161 rfl
def akQ:=P func162 rfl
def akM:=P func166 rfl
def akL:=P func167 rfl
def akK:=P func168 rfl
def akJ:=P func169 rfl
def akI:=P func170 rfl
def akH:=P func171 rfl
def akB:=P func196 rfl
def YN:=P func198 rfl
def akw:=P func211 rfl
def aC9:=P func282 rfl
@[simp] def alk:=YX MZ (by kernel_rfl)
@[simp] def alm:=YX YN (by kernel_rfl)
def I9:=jw underlying3
def wT:=jw underlying5
def rG:=jw underlying9
def Yz:=jw underlying35
def ajD:=jw underlying46
def MY:=jw underlying49
def FK:=jw underlying51
def ajC:=jw underlying72
def MX:=jw underlying76
def ajB:=jw underlying77
def rH:=jw underlying79
def RR:=jw underlying87
def zG:=jw underlying107
def ajL:=jw underlying120
def ajK:=jw underlying123
def YE:=jw underlying135
def ajJ:=jw underlying169
def RX:=jw underlying177
def ajI:=jw underlying178
def YD:=jw underlying182
def YC:=jw underlying184
def ajH:=jw underlying233
def Dt:=jw underlying245
def YB:=jw underlying271
def ajG:=jw underlying273
def YA:=jw underlying276
def ajF:=jw underlying308
def ajE:=jw underlying334
def ajU:=M6 sizeOf3
def YG:=M6 sizeOf5
def ajS:=M6 sizeOf9
def ajT:=M6 sizeOf334
def aj6:=M7 isAgg3
def aj4:=M7 isAgg5
def aj3:=M7 isAgg9
def aj5:=M7 isAgg334
def MW:=YW zeroValue3
def ajA:=YW zeroValue334
end Go.Proofs
namespace Go.Proofs.YtpdbmpbmepkikaaGreatDoor
section
open Go.RowKit
@[go_sem] theorem aBH (f):zg.fn f=True:=rfl
@[go_sem] theorem aBI:zg.depth=V:=rfl
structure O(F:Nat->Prop)(w w':av):Prop where
 os:w'.os=w.os
 tape:w'.tape=w.tape
 output:w'.output=w.output
 size:w.heap.size<=w'.heap.size
 block:∀k,k<w.heap.size->¬F k->w'.heap[k]? =w.heap[k]?
theorem O.refl(F)(w):O F w w:=⟨rfl,rfl,rfl,aW _,λ_ _ _=>rfl⟩
theorem O.mono{F G}{w w'}(h:O F w w')(c:∀k,k<w.heap.size->F k->G k):O G w w':=
 ⟨h.os,h.tape,h.output,h.size,λk a d=>h.block k a λb=>d (c k a b)⟩
theorem O.trans'{F G H}{a b c}(h:O F a b)(k:O G b c)(l:∀x,x<a.heap.size->F x->H x)(j:∀x,x<a.heap.size->G x->H x):O H a c:=
 ⟨k.os.trans h.os,k.tape.trans h.tape,k.output.trans h.output,bq h.size k.size,λi d e=>
  (k.block i (cF d h.size) λg=>e (j i d g)).trans (h.block i d λf=>e (l i d f))⟩
theorem O.trans{F}{a b c}(h:O F a b)(k:O F b c):O F a c:=h.trans' k (λ_ _ x=>x) (λ_ _ x=>x)
theorem O.aq5{B}{w w'}{F}(h:bC B w w')(a:∀k,k<w.heap.size->B<=k->F k):O F w w':=
 ⟨h.os,h.tape,h.output,h.size,λk b c=>h.block k (by
  grind)⟩
theorem O.iL{w w'}{F}(h:bC w.heap.size w w'):O F w w':=.aq5 h λk a b=>absurd a (by omega)
theorem O.below{B}{w w'}{F}(h:O F w w')(c:B<=w.heap.size)(a:∀k,k<B->¬F k):bC B w w':=
 ⟨h.os,h.tape,h.output,h.size,λk b=>h.block k (by omega) (a k b)⟩
theorem O.alloc(F)(w)(o):O F w (w.alloc o):=.iL ((ei _ _).alloc (aW _) _)
theorem O.drew(F)(w):O F w w.drew:=⟨rfl,rfl,rfl,aW _,λ_ _ _=>rfl⟩
theorem O.setCell{F}(w)(a)(v)(h:F a.block):O F w (w.setCell a v):=
 ⟨rfl,rfl,rfl,by simp[jE],λk _ b=>gy _ _ _ _ λe=>b (e▸h)⟩
theorem O.putObj{F}(w)(l)(o)(h:F l):O F w (w.putObj l o):=
 ⟨rfl,rfl,rfl,by simp,λk _ a=>qE λe=>a (e▸h)⟩
theorem O.cell{F}{w w'}(h:O F w w'){p}(b:p.block<w.heap.size)(a:¬F p.block):w'.cell? p=w.cell? p:=eD (w:=w) (h.block _ b a)
structure IV(D:Nat->Prop)(w w':av):Prop where
 os:w'.os=w.os
 tape:w'.tape=w.tape
 output:w'.output=w.output
 size:w.heap.size<=w'.heap.size
 block:∀k,D k->w'.heap[k]? =w.heap[k]?
theorem O.fZ{F D}{w w'}(h:O F w w')(b:∀k,D k->k<w.heap.size∧¬F k):IV D w w':=
 ⟨h.os,h.tape,h.output,h.size,λk a=>h.block k (b k a).1 (b k a).2⟩
structure ql{α:Type}(I:α->av->(Nat->Prop)->Prop):Prop where
 lt:∀s w D,I s w D->∀b,D b->b<w.heap.size
 st:∀s w D w',I s w D->IV D w w'->I s w' D
def bT(D:Nat->Prop)(W:av)(D':Nat->Prop)(W':av):Prop:=O D W W'∧∀b,D' b->D b∨W.heap.size<=b
theorem bT.refl(D)(W):bT D W D W:=⟨.refl _ _,λ_ h=>ax h⟩
theorem bT.trans{D e d}{W W' a}(h:bT D W e W')(k:bT e W' d a):bT D W d a:=
 ⟨h.1.trans' k.1 (λ_ _ x=>x) (λx g f=>(h.2 x f).resolve_right (by omega)),λb c=>by
  rcases k.2 b c with c|c
  ·exact h.2 b c
  ·exact aA (bq h.1.size c)⟩
theorem bT.step{D b G}{W W1 a}(h:bT D W b W1)(k:O G W1 a)(d:∀x,x<W.heap.size->¬G x):bT D W b a:=
 ⟨h.1.trans' k (λ_ _ x=>x) (λx c e=>absurd e (d x c)),h.2⟩
theorem bT.other{D}{W W'}(h:O (λ_=>False) W W'):bT D W D W':=⟨h.mono λ_ _ f=>f.elim,λ_ h=>ax h⟩
def Iter{α:Type}(P:bU)(gf:Nat)(lb:Array ay)(A:α->Array ay)(S:List α->Prop)(R:Nat->Prop)(W0:av):Prop:=
 ∀(l:Nat) (J U:List α->av->(Nat->Prop)->Prop) (W:av) (D0:Nat->Prop),IV R W0 W->ql J->ql U->(∀b,D0 b->¬R b)->
  (∀(pre:List α) (x:α) (W1:av) (V:Nat->Prop),(∃E,S (pre++x::E))->J pre W1 V->YieldAt zg 0 P l (A x) W1 λe W'=>
   (e=bj (cz Z)∧∃D',J (pre++[x]) W' D'∧bT V W1 D' W')∨(e=bj (cz ai)∧∃D',U (pre++[x]) W' D'∧bT V W1 D' W'))->
  J [] W D0->
  CallsIn zg 0 P gf (#[dH (A0 l) #[] #[]]++lb) W λe W'=>(∃v,e=bj v)∧
   ((∃xs D',S xs∧J xs W' D'∧bT D0 W D' W')∨(∃pre D',(∃E,S (pre++E))∧U pre W' D'∧bT D0 W D' W'))
theorem Iter.later{g}{P}{gf}{lb}{a:g->Array ay}{S}{R}{W0 W1}(h:Iter P gf lb a S R W0)(c:IV R W0 W1):Iter P gf lb a S R W1:=
 λl J f W e b=>h l J f W e ⟨b.os.trans c.os,b.tape.trans c.tape,b.output.trans c.output,bq c.size b.size,λk d=>(b.block k d).trans (c.block k d)⟩
def api{α:Type}(I:List α->av->(Nat->Prop)->Prop)(E:Code->List α->av->(Nat->Prop)->Prop)(xs:List α)(D:Nat->Prop)(W:av):Exit->Act->av->Prop
 |.normal,_,W'=>∃D',I xs W' D'∧bT D W D' W'
 |.ret,_,W'=>∃D',E .ret xs W' D'∧bT D W D' W'
 |.exit id,_,W'=>∃D',E (.exit id) xs W' D'∧bT D W D' W'
 |.goto t,_,W'=>∃D',E (.goto t) xs W' D'∧bT D W D' W'
 |CN _,_,_=>False
 |.outgrown,_,_=>False
structure s8(l:Nat)(w w':av):Prop where
 os:w'.os=w.os
 tape:w'.tape=w.tape
 output:w'.output=w.output
 size:w'.heap.size=w.heap.size
 block:∀k,k≠l->w'.heap[k]? =w.heap[k]?
theorem s8.putObj(w)(l)(o):s8 l w (w.putObj l o):=⟨rfl,rfl,rfl,by simp,λ_ h=>qE h⟩
theorem s8.fZ{l}{w w'}(h:s8 l w w'){D}(b:¬D l):IV D w w':=
 ⟨h.os,h.tape,h.output,by rw[h.size];grind,λk a=>h.block k λe=>b (e▸a)⟩
theorem wp_rangeFunc{α:Type}{P:bU}{g:iI}{ps:Array Tmp}{assign body:Code}{Q:Exit->Act->av->Prop}{a:Act}{w:av}
  {gf:Nat} {lb:Array ay} (hg:a.eval g=.func (.func gf) #[] lb) (eg:∀args w,(iu gf args).run P w=.ok (.enter gf args) w)
  {CI:α->Array ay} {S:List α->Prop} {R:Nat->Prop} (hit:Iter P gf lb CI S R w) (Ws:∀b,R b->b<w.heap.size) (EA:∀x,(CI x).size=ps.size)
  (I:List α->av->(Nat->Prop)->Prop) (Ix:Code->List α->av->(Nat->Prop)->Prop) (hI:ql I) (B:∀c,ql (Ix c)) (D0:Nat->Prop) (hR:∀b,D0 b->¬R b) (h0:I [] w D0)
  (au0:∀(l:Nat) (m:List α) (x:α) (W:av) (D:Nat->Prop),w.heap.size<l->l<W.heap.size->¬D l->(∃jh,S (m++x::jh))->I m W D->(∀b,D b->D0 b∨w.heap.size<=b)->
   assign.wpIn (zg.inRound l) 0 P (Exit.then (λa1 L=>bT D W (λb=>D b∨(W.heap.size<=b∧b<L.heap.size)) L∧∀z,s8 l L z->body.wpIn (zg.inRound l) 0 P (api I Ix (m++[x]) (λb=>D b∨(W.heap.size<=b∧b<L.heap.size)) z) a1 z) (λ_ _ _=>False))
    {tmps:=(ps.zip (CI x)).foldl (λt (p,v)=>t.setIfInBounds p v) a.tmps,defers:=[]} W)
  (av9:∀(xs:List α) (W:av) (D:Nat->Prop),S xs->I xs W D->bT D0 w D W->W.heap[w.heap.size]? =U (.deferred (U []))->¬D w.heap.size->
   Q .normal {a with defers:={target:=.collected w.heap.size,args:= #[]}::a.defers} W)
  (auG:∀(c:Code) (m:List α) (W:av) (D:Nat->Prop),(∃jh,S (m++jh))->Ix c m W D->bT D0 w D W->W.heap[w.heap.size]? =U (.deferred (U []))->¬D w.heap.size->
   c.wpIn zg 0 P Q {a with defers:={target:=.collected w.heap.size,args:= #[]}::a.defers} W):
  (Code.rangeFunc g ps assign body).wpIn zg 0 P Q a w:=by
 refine wpIn_rangeFunc ?_;intro fn tV;obtain⟨N,hN⟩:=ex w.heap.size;obtain⟨i,y⟩:∃i:LoopState->Option Code->Loop,i=λst pe=>{state:=st,pending:=pe,fn,tmps:=a.tmps,params:=ps,assign,body,defers:=w}:=⟨_,rfl⟩;obtain⟨L,EN⟩:∃L,(w.alloc (.deferred (U []))).alloc (.loop (i .ready V))=L:=⟨_,rfl⟩;have Ld:L.heap[N+1]? =U (.loop (i .ready V)):=by rw[<-EN,hN];have:=iN (w.alloc (.deferred (U []))) (.loop (i .ready V));rwa [uL] at this
 have hK1:L.heap[N]? =U (.deferred (U [])):=by rw[<-EN,hN];exact(dr _ _ _ (by simp)).trans (iN w _)
 have jK:L=N+2:=by rw[<-EN,hN];simp
 have Po:O (λ_=>False) w L:=by rw[<-EN];exact(O.alloc _ w _).trans (O.alloc _ _ _)
 have VJ:=hI.lt _ _ _ h0
 let A:(Nat->Prop)->Nat->Prop:=λD b=>D b∨b=N∨b=N+1
 let J:List α->av->(Nat->Prop)->Prop:=λm W E=>∃D,(∀b,E b↔A D b)∧I m W D∧¬D N∧¬D (N+1)∧(∀b,D b->D0 b∨N<=b)∧W.heap[N+1]? =U (.loop (i .ready V))∧W.heap[N]? =U (.deferred (U []))
 let Jx:List α->av->(Nat->Prop)->Prop:=λm W E=>∃D c,(∀b,E b↔A D b)∧Ix c m W D∧¬D N∧¬D (N+1)∧W.heap[N+1]? =U (.loop (i .done (U c)))∧W.heap[N]? =U (.deferred (U []))
 have hJ:ql J:=⟨λs W E h b n=>by
   obtain⟨D,q,X,_,_,_,d,r⟩:=h;rcases(q b).1 n with n|rfl|rfl
   ·exact hI.lt _ _ _ X b n
   ·exact(dc.1 r).1
   ·exact(dc.1 d).1,
  λs W E W' h T=>by obtain⟨D,q,X,h1,h2,h3,d,r⟩:=h;exact⟨D,q,hI.st _ _ _ _ X ⟨T.os,T.tape,T.output,T.size,λk r=>T.block k ((q k).2 (.inl r))⟩,h1,h2,h3,(T.block _ ((q _).2 (.inr (.inr rfl)))).trans d,(T.block _ ((q _).2 (.inr (.inl rfl)))).trans r⟩⟩
 have Le:ql Jx:=⟨λs W E h b n=>by
   obtain⟨D,c,q,X,_,_,d,r⟩:=h;rcases(q b).1 n with n|rfl|rfl
   ·exact(B c).lt _ _ _ X b n
   ·exact(dc.1 r).1
   ·exact(dc.1 d).1,
  λs W E W' h T=>by obtain⟨D,c,q,X,h1,h2,d,r⟩:=h;exact⟨D,c,q,(B c).st _ _ _ _ X ⟨T.os,T.tape,T.output,T.size,λk r=>T.block k ((q k).2 (.inl r))⟩,h1,h2,(T.block _ ((q _).2 (.inr (.inr rfl)))).trans d,(T.block _ ((q _).2 (.inr (.inl rfl)))).trans r⟩⟩
 refine⟨N+1,[{target:=.collected N,args:= #[]}],L,{target:=.fn (.func gf) lb,args:= #[.func (.yield (N+1)) #[] #[]]},L,gf,
  #[.func (.yield (N+1)) #[] #[]]++lb,L,?_,?_,λ_ _=>trivial,?_,λh=>by simp[zg] at h,?_⟩
 ·rw[<-EN,y,hN];exact run_enterLoop_outer _ _ _ _ _
 ·simp only[resolve,hg];simp[go_sem]
 ·simp[invoke,go_sem,eg]
 ·refine(hit (N+1) J Jx L (A D0) (Po.fZ λk r=>⟨Ws k r,id⟩) hJ Le (λb n=>?_) ?_ ⟨D0,λ_=>vR,(hI.st _ _ _ _ h0 (Po.fZ λk r=>⟨VJ k r,id⟩)),λh=>absurd (VJ _ h) (by omega),λh=>absurd (VJ _ h) (by omega),λb n=>.inl n,Ld,hK1⟩).mono ?_
  ·rcases n with n|rfl|rfl
   ·exact hR b n
   ·exact λh=>absurd (Ws _ h) (by omega)
   ·exact λh=>absurd (Ws _ h) (by omega)
  ·
   rintro m x W E hS ⟨D,q,X,Lg,pY,hDs,d,r⟩;have pq:N+1<W:=by grind
   have hy:=run_yield (P:=P) (args:=CI x) d (by rw[y];exact EA x)
   rw[y] at hy;refine⟨fn,_,assign,body,hy,roundIn_of_wpIn tV (wpIn_mono (au0 (N+1) m x W D (by omega) pq pY hS X (λb n=>hN▸hDs b n)) ?_)⟩
   intro e a1 Wa hq;cases e with
   |normal=>
    obtain⟨Lc,n⟩:=hq;have hla:=(Lc.1.block _ pq pY).trans d;have avF:N+1<Wa:=by grind
    refine⟨_,run_beginRound hla (by rw[y]),?_⟩
    obtain⟨E1,EU⟩:∃E1:Nat->Prop,E1=λb=>D b∨(W<=b∧b<Wa.heap.size):=⟨_,rfl⟩;rw[<-EU] at Lc n;have afq:¬E1 N:=by rw[EU];rintro(h|h);exact Lg h;omega
    have afp:¬E1 (N+1):=by rw[EU];rintro(h|h);exact pY h;omega
    refine wpIn_mono (n _ (s8.putObj Wa (N+1) _)) ?_;obtain⟨z,PF⟩:=ex (Wa.putObj (N+1) (.loop {i .ready V with state:=.busy}));rw[<-PF];have uP:z.heap[N+1]? =U (.loop {i .ready V with state:=.busy}):=by rw[PF];exact Er avF
    have Cp:z.heap[N]? =U (.deferred (U [])):=by rw[PF];exact(qE (by omega)).trans ((Lc.1.block _ (by omega) Lg).trans r)
    have lC:z.heap.size=Wa:=by rw[PF];simp
    have fin:∀(f:Option Code) (j:Nat->Prop) (G:av),(∀b,j b->b<G)->bT E1 z j G->
      (Qg (N+1) f).run P G=.ok (f.isNone) (G.putObj (N+1) (.loop (i (if f.isNone then .ready else .done) f)))∧
      ¬j N∧¬j (N+1)∧(∀b,j b->D0 b∨N<=b)∧
      (G.putObj (N+1) (.loop (i (if f.isNone then .ready else .done) f))).heap[N+1]? =U (.loop (i (if f.isNone then .ready else .done) f))∧
      (G.putObj (N+1) (.loop (i (if f.isNone then .ready else .done) f))).heap[N]? =U (.deferred (U []))∧
      bT E W (A j) (G.putObj (N+1) (.loop (i (if f.isNone then .ready else .done) f))):=λf j G hD3 Q1=>by
     have VO:=(Q1.1.block _ (by omega) afp).trans uP
     have H:¬j (N+1):=λh=>by rcases Q1.2 _ h with h|h;exact afp h;omega
     have:=run_endRound (P:=P) f VO;rw[y] at this⊢;refine⟨this,(λh=>by rcases Q1.2 _ h with h|h;exact afq h;omega),H,λb n=>?_,Er (dc.1 VO).1,(qE (by omega)).trans ((Q1.1.block _ (by omega) afq).trans Cp),?_,λb n=>?_⟩
     ·rcases Q1.2 b n with h|h
      ·rw[EU] at h;rcases h with h|h
       ·exact hDs b h
       ·exact .inr (by omega)
      ·exact .inr (by omega)
     ·have s3:=((Lc.1.mono λk _ r=>(q k).2 (.inl r)).trans (by grind[O.putObj])).trans' Q1.1 (λ_ _ h=>h) (λk r h=>by
       rw[EU] at h;rcases h with h|h
       ·exact(q k).2 (.inl h)
       ·omega)
      exact s3.trans (O.putObj _ _ _ ((q _).2 (.inr (.inr rfl))))
     ·rcases n with n|rfl|rfl
      ·rcases Q1.2 b n with h|h
       ·grind
       ·exact .inr (by have:=Lc.1.size;omega)
      ·exact .inl ((q _).2 (.inr (.inl rfl)))
      ·exact .inl ((q _).2 (.inr (.inr rfl)))
    have C:∀(K:List α->av->(Nat->Prop)->Prop) (s:List α) (j:Nat->Prop) (G:av) (o:Obj),ql K->K s G j->¬j (N+1)->K s (G.putObj (N+1) o) j:=λK s j G o hK hs hn=>
     hK.st _ _ _ _ hs ((s8.putObj G (N+1) o).fZ hn)
    rintro e a3 G hp;cases e with
    |normal=>
     obtain⟨j,u,M⟩:=hp;obtain⟨hr,n1,H,n3,Q2,F,Q0⟩:=fin V j G (hI.lt _ _ _ u) M;exact⟨_,_,hr,.inl ⟨rfl,A j,⟨j,λ_=>vR,C I _ _ _ _ hI u H,n1,H,n3,Q2,F⟩,Q0⟩⟩
    |ret=>
     obtain⟨j,u,M⟩:=hp;obtain⟨hr,n1,H,n3,Q2,F,Q0⟩:=fin (U .ret) j G ((B _).lt _ _ _ u) M;exact⟨_,_,hr,.inr ⟨rfl,A j,⟨j,.ret,λ_=>vR,C (Ix .ret) _ _ _ _ (B _) u H,n1,H,Q2,F⟩,Q0⟩⟩
    |exit id=>
     obtain⟨j,u,M⟩:=hp;obtain⟨hr,n1,H,n3,Q2,F,Q0⟩:=fin (U (.exit id)) j G ((B _).lt _ _ _ u) M;exact⟨_,_,hr,.inr ⟨rfl,A j,⟨j,.exit id,λ_=>vR,C (Ix (.exit id)) _ _ _ _ (B _) u H,n1,H,Q2,F⟩,Q0⟩⟩
    |goto t=>
     obtain⟨j,u,M⟩:=hp;obtain⟨hr,n1,H,n3,Q2,F,Q0⟩:=fin (U (.goto t)) j G ((B _).lt _ _ _ u) M;exact⟨_,_,hr,.inr ⟨rfl,A j,⟨j,.goto t,λ_=>vR,C (Ix (.goto t)) _ _ _ _ (B _) u H,n1,H,Q2,F⟩,Q0⟩⟩
    |panic ch=>exact hp.elim
    |outgrown=>exact hp.elim
   |exit id=>exact hq.elim
   |goto t=>exact hq.elim
   |ret=>exact hq.elim
   |panic ch=>exact hq.elim
   |outgrown=>exact hq.elim
  ·
   have back:∀(D E:Nat->Prop) (z:av) (o:Obj),(∀b,E b↔A D b)->(∀b,D b->b<z)->bT (A D0) L E z->bT D0 w D (z.putObj (N+1) o):=λD E z o q pq Q1=>by
    refine⟨?_,λb n=>?_⟩
    ·have s1:=(Po.mono (G:=D0) λ_ _ h=>h.elim).trans' Q1.1 (λ_ _ h=>h) (λk r h=>by
      grind)
     exact⟨s1.os,s1.tape,s1.output,by simpa using s1.size,λk r hn=>(qE (by omega)).trans (s1.block k r hn)⟩
    ·rcases Q1.2 b ((q b).2 (.inl n)) with h|h
     all_goals grind
   rintro e z ⟨⟨v,rfl⟩,(⟨xs,E,hS,⟨D,q,X,n1,H,_,d,r⟩,Q1⟩|⟨m,E,hSp,⟨D,c,q,X,n1,H,d,r⟩,Q1⟩)⟩
   ·refine⟨V,_,by have:=run_endLoop (P:=P) d (by grind);rw[y] at this;exact this,?_⟩
    have hx:=av9 xs (z.putObj (N+1) (.loop {i .ready V with state:=.exhausted})) D hS (hI.st _ _ _ _ X ((s8.putObj z (N+1) _).fZ H)) (back D E z _ q (hI.lt _ _ _ X) Q1) (by grind[World.putObj_heap_other]) (by grind)
    grind
   ·refine⟨U c,_,by have:=run_endLoop (P:=P) d (by grind);rw[y] at this;exact this,?_⟩
    have hx:=auG c m (z.putObj (N+1) (.loop {i .done (U c) with state:=.exhausted})) D hSp ((B c).st _ _ _ _ X ((s8.putObj z (N+1) _).fZ H)) (back D E z _ q ((B c).lt _ _ _ X) Q1) (by grind[World.putObj_heap_other]) (by grind)
    grind
theorem A9{W w1}(a:bC W.heap.size W w1):(∀b o,b<W.heap.size->w1.cell? ⟨b,o,V⟩=W.cell? ⟨b,o,V⟩)∧(∀b o,b<W.heap.size->w1.frozen? ⟨b,o,V⟩=W.frozen? ⟨b,o,V⟩):=
 ⟨λb o h=>a.cell (p:=⟨b,o,V⟩) h,λb o h=>a.frozen (p:=⟨b,o,V⟩) h⟩
structure KE(κ:Type)[DecidableEq κ] where
 enc:κ->ay
 desc:TypeDesc
 same:∀a b,CY desc (enc a) (enc b)=U (cq (a=b))
 flat:∀(P:bU) (w:av) (e:Bool) (n:Nat) (t:dZ) (v:ay),P.underlying t=U desc->(AY e (n+1) t v).run P w=aV () w
 bits:∀n a,C0 n (enc a) (enc a)=Z
def nu:KE ByteArray where
 enc:=aG
 desc:=.string
 same:=λa b=>by simp only[CY,ec];rw[Al,MapKept.bytes_beq,decide_eq_true_iff]
 flat:=λP w e n t v h=>by simp[AY,run_underlying h]
 bits:=λn a=>by cases n<;>(simp only[C0];exact(MapKept.bytes_beq a a).2 rfl)
def pV(k:IntKind):KE Int where
 enc:=Y k
 desc:=.int k
 same:=λa b=>by simp[CY];by_cases h:a=b<;>simp[h]
 flat:=λP w e n t v h=>by simp[AY,run_underlying h]
 bits:=λn a=>by cases n<;>simp[C0]
section
variable {κ:Type} [DecidableEq κ]
def look:List (κ×ay)->κ->Option ay
 | [],_=>V
 |(a,v)::l,k=>if a=k then U v else look l k
def put:List (κ×ay)->κ->ay->List (κ×ay)
 | [],k,v=> [(k,v)]
 |(a,u)::l,k,v=>if a=k then(k,v)::l else(a,u)::put l k v
theorem ap7(l:List (κ×ay))(k)(v)(x):x∈(put l k v).map (·.1)↔x=k∨x∈l.map (·.1):=by
 induction l with
 |nil=>simp[put]
 |cons p l b=>
  obtain⟨a,u⟩:=p;unfold put
  grind
theorem abd{l:List (κ×ay)}(k)(v)(h:(l.map (·.1)).Nodup):((put l k v).map (·.1)).Nodup:=by
 induction l with
 |nil=>simp[put]
 |cons p l b=>
  obtain⟨a,u⟩:=p;unfold put;simp only[fS,Ep] at h;by_cases e:a=k
  ·grind
  ·rw[if_neg e]
   grind[List.nodup_cons,ap7]
structure Reads(K:KE κ)(en:Array l6)(clock:Nat)(es:List (κ×ay)):Prop where
 read:en.toList.map (λe=>(e.key,e.val))=es.map (λp=>(K.enc p.1,p.2))
 nodup:(es.map (·.1)).Nodup
 Jw:(en.toList.map (·.born)).Pairwise (· < ·)
 below:∀e∈en.toList,e.born<clock
def di(K:KE κ)(w:av)(m:Nat)(es:List (κ×ay)):Prop:=∃en clock,w.heap[m]? =U (iP en clock)∧Reads K en clock es
theorem di.of_block{K:KE κ}{w w'}{m}{es}(h:di K w m es)(d:w'.heap[m]? =w.heap[m]?):di K w' m es:=by obtain⟨e,a,c,b⟩:=h;exact⟨e,a,d.trans c,b⟩
theorem di.lt{K:KE κ}{w}{m}{es}(h:di K w m es):m<w:=by obtain⟨c,a,b,_⟩:=h;grind
theorem di.alloc{K:KE κ}{w}{m}{es}(h:di K w m es)(o):di K (w.alloc o) m es:=h.of_block (dr _ _ _ h.lt)
theorem di.below{K:KE κ}{w w'}{m}{es}(h:di K w m es)(a:bC w w w'):di K w' m es:=h.of_block (a.block _ h.lt)
theorem di.keep{K:KE κ}{w w'}{m}{es}{F}(h:di K w m es)(b:O F w w')(a:¬F m):di K w' m es:=h.of_block (b.block _ h.lt a)
theorem di.drew{K:KE κ}{w}{m}{es}(h:di K w m es):di K w.drew m es:=h.of_block rfl
theorem di.new(K:KE κ)(w:av):di K (w.alloc (iP #[] 0)) w []:=
 ⟨#[],0,iN w _,by simp,by simp,by simp,by simp⟩
theorem P7(K:KE κ)(k):∀(l) (es) (i),l.map (λe=>(e.key,e.val))=es.map (λp=>(K.enc p.1,p.2))->
  AZ K.desc (K.enc k) l i=U (match es.findIdx? (λp=>p.1=k) with|some j=>(look es k).map λv=>(i+j,v)|none=>V)∧((es.findIdx? (λp=>p.1=k)).isSome=(look es k).isSome):=by
 intro l;induction l with
 |nil=>
  intro es i h;cases es with
  |nil=>simp[AZ,look]
  |cons p es=>simp at h
 |cons e l b=>
  intro es i h;cases es with
  |nil=>simp at h
  |cons p es=>
   simp only[fS,Eo,Ak] at h;obtain⟨⟨c,d⟩,a⟩:=h;obtain⟨f,g⟩:=b es (i+1) a;simp only[AZ,c,K.same,UW,look]
   grind
theorem run_findKey{P}{w}{c}(K:KE κ)(e:P.underlying c=U K.desc){b}{a}{es}(h:Reads K b a es)(k):
  (Ij c (K.enc k) b.toList).run P w=aV (match es.findIdx? (λp=>p.1=k) with|some j=>(look es k).map λv=>(j,v)|none=>V) w:=by
 obtain⟨d,_⟩:=P7 K k b.toList es 0 h.read;simp only[Ij,gK,run_underlying e,lH,d,uK,Ah]
theorem ND{P}{w}{T i f}(K:KE κ)(q:P.underlying T=U (.map i f))(d:P.underlying i=U K.desc){m}{es}(h:di K w m es){z}(n:(kG f).run P w=aV z w)(k)(l):
  (LO T (cj (m)) (K.enc k) l).run P w=aV (if l then bO #[(look es k).getD z,(look es k).isSome] else(look es k).getD z) w:=by
 obtain⟨e,a,t,g⟩:=h;have s:(qc m).run P w=aV (iP e a) w:=by simp[qc,nE,t]
 have r:=run_findKey (w:=w) K d g k;obtain⟨_,c⟩:=P7 K k e.toList es 0 g.read;simp only[LO,gK,run_underlying q,lH,s,uK,K.flat _ _ _ _ _ _ d,r];cases b:es.findIdx? (λp=>p.1=k) with
 |none=>
  rw[b] at c;cases o:look es k with
  |none=>simp[n,lH]
  |some v=>grind
 |some j=>
  rw[b] at c;cases o:look es k with
  |none=>grind
  |some v=>simp
theorem apQ{K:KE κ}{i}{d}{es}(h:Reads K i d es)(k)(v):
  match es.findIdx? (λp=>p.1=k) with
  |some j=>Reads K (i.modify j λe=>{e with key:=K.enc k,val:=v}) d (put es k v)∧(i[j]?).map (·.key)=(K.enc k)
  |none=>Reads K (i.push {key:=K.enc k,val:=v,born:=d}) (d+1) (put es k v):=by
 have m:∀(l:List l6) (es:List (κ×ay)),l.map (λe=>(e.key,e.val))=es.map (λp=>(K.enc p.1,p.2))->
   match es.findIdx? (λp=>p.1=k) with
   |some j=>(l.modify j λe=>{e with key:=K.enc k,val:=v}).map (λe=>(e.key,e.val))=(put es k v).map (λp=>(K.enc p.1,p.2))∧(l.modify j λe=>{e with key:=K.enc k,val:=v}).map (·.born)=l.map (·.born)∧(l[j]?).map (·.key)=(K.enc k)
   |none=>put es k v=es++[(k,v)]:=by
  intro l;induction l with
  |nil=>
   intro es h;cases es with
   |nil=>simp[put]
   |cons p es=>simp at h
  |cons e l t=>
   intro es h;cases es with
   |nil=>simp at h
   |cons p es=>
    simp only[fS,Eo,Ak] at h;obtain⟨⟨z,x⟩,r⟩:=h;have:=t es r;simp only[UW];obtain⟨a,u⟩:=p;by_cases hp:a=k
    ·subst hp;simp only[decide_true,iM,put]
     grind
    ·simp only[hp,OM,nT,uJ,put]
     grind
 have g:=m i.toList es h.read;cases o:es.findIdx? (λp=>p.1=k) with
 |none=>
  simp only[o] at g⊢;refine⟨?_,abd k v h.nodup,?_,?_⟩
  ·rw[g];simp[h.read]
  ·simp only[UU,uI,fS,sg,List.pairwise_append,lR,dh,dJ,dO];refine⟨h.Jw,by simp,?_⟩
   rintro a ⟨e,f,rfl⟩ b rfl;exact h.below e f
  ·intro e f;simp only[UU,qD,dh,dJ,dO] at f;rcases f with f|rfl
   ·exact Nat.lt_succ_of_lt (h.below e f)
   grind
 |some j=>
  simp only[o] at g⊢;obtain⟨A,s,y⟩:=g;refine⟨⟨by grind,abd k v h.nodup,by rw[adq,s];exact h.Jw,?_⟩,by grind⟩
  intro e f;rw[adq] at f;have:e.born∈i.toList.map (·.born):=by grind
  obtain⟨w,n,q⟩:=lR.1 this;rw[<-q];exact h.below w n
theorem apb{P}{w}{T l t}(K:KE κ)(y:P.underlying T=U (.map l t))(r:P.underlying l=U K.desc){m}{es}(h:di K w m es)(k)(v):
  ∃o,(Qk T (cj (m)) (K.enc k) v).run P w=aV () (w.putObj m o)∧di K (w.putObj m o) m (put es k v):=by
 obtain⟨s,a,e,d⟩:=h;have b:=(dc.1 e).1;have A:(qc m).run P w=aV (iP s a) w:=by simp[qc,nE,e]
 have i:∀o,(setObj m o).run P w=aV () (w.putObj m o):=λo=>by simp[setObj,nE,e,World.putObj]
 have z:=run_findKey (w:=w) K r d k;obtain⟨_,q⟩:=P7 K k s.toList es 0 d.read;have c:=apQ d k v;simp only[Qk,gK,run_underlying y,lH,A,K.flat _ _ _ _ _ _ r,z];cases n:es.findIdx? (λp=>p.1=k) with
 |none=>
  rw[n] at q c;cases x:look es k with
  |some v=>grind
  |none=>exact⟨_,by simp[i],_,_,Er b,c⟩
 |some j=>
  rw[n] at q c;cases x:look es k with
  |none=>grind
  |some u=>
   obtain⟨g,f⟩:=c;refine⟨_,?_,_,_,Er b,g⟩;simp only[ey,gK,Xm,f,fO,K.bits,iM,uK,lH,i]
end
section
variable {κ:Type} [DecidableEq κ] {P:bU} (w:av) {ops:Array dD} {rest:List dD} {o:dD} {a:Act} {Q:Exit->Act->av->Prop}
theorem MH(K:KE κ)(n:o.guard=V)(m x)(T)(d:o.op=Op.lookup T m x ai)(f e)(l:P.underlying T=U (.map f e))(i:P.underlying f=K.desc)(z)(g:(kG e).run P w=aV z w)(b)(es)(k)
  (q:a.eval m=cj (U b)) (h:di K w b es) (j:a.eval x=K.enc k) (p:wpList P ops Q rest (a.put o.dst ((look es k).getD z)) w):wpList P ops Q (o::rest) a w:=by
 refine Kh n λr c=>?_;unfold Oper.wp;simp only[cT,d,q,j,gK,(ND (P:=P) K l i h g k ai),lH,uK,nT,uJ];exact c _ _ p
theorem FE(K:KE κ)(n:o.guard=V)(m x)(T)(d:o.op=Op.lookup T m x Z)(f e)(l:P.underlying T=U (.map f e))(i:P.underlying f=K.desc)(z)(g:(kG e).run P w=aV z w)(b)(es)(k)
  (q:a.eval m=cj (U b)) (h:di K w b es) (j:a.eval x=K.enc k) (p:wpList P ops Q rest (a.put o.dst (bO #[(look es k).getD z,(look es k).isSome])) w):wpList P ops Q (o::rest) a w:=by
 refine Kh n λr c=>?_;unfold Oper.wp;simp only[cT,d,q,j,gK,(ND (P:=P) K l i h g k Z),lH,uK,iM];exact c _ _ p
theorem MG(K:KE κ)(t:o.guard=V)(m x y)(T)(f:o.op=Op.mapUpdate T m x y)(h i)(s:P.underlying T=U (.map h i))(r:P.underlying h=K.desc)(b)(es)(k)(v)
  (p:a.eval m=cj (U b)) (q:di K w b es) (j:a.eval x=K.enc k) (l:a.eval y=v) (n:∀d,di K d b (put es k v)->O (λx=>x=b) w d->d.heap.size=w->wpList P ops Q rest (a.put o.dst ak) d):wpList P ops Q (o::rest) a w:=by
 refine Kh t λz e=>?_;obtain⟨u,c,g⟩:=apb (P:=P) K s r q k v;unfold Oper.wp;simp only[cT,f,p,j,l,gK,c,lH,uK];exact e _ _ (n _ g (O.putObj _ _ _ rfl) (by simp))
variable {F:Fence} {n:Nat}
theorem ai0(K:KE κ)(u:o.guard=V)(m x)(T)(d:o.op=Op.lookup T m x ai)(i g)(t:P.underlying T=U (.map i g))(s:P.underlying i=K.desc)(z)(q:(kG g).run P w=aV z w)(b)(es)(k)
  (p:a.eval m=cj (U b)) (r:di K w b es) (j:a.eval x=K.enc k) (l:Qi F n P ops Q rest (a.put o.dst ((look es k).getD z)) w):Qi F n P ops Q (o::rest) a w:=by
 refine wpListIn_plain u λv e=>?_;have c:o.semAt F.round a.eval=cT a.eval o:=by unfold Oper.semAt;grind
 refine⟨λf h=>by simp[Oper.about,d] at h,?_⟩
 rw[c];simp only[cT,d,p,j,gK,(ND (P:=P) K t s r q k ai),lH,uK,nT,uJ];exact e _ _ l
end
end
end Go.Proofs.YtpdbmpbmepkikaaGreatDoor
set_option maxRecDepth 100000
namespace Go.Proofs
open Go.Shelf
def RY:AQ:=⟨λ |160=>117|232=>176|231=>175|227=>177|234=>179|233=>178|236=>181|235=>180|228=>201|271=>204|151=>203|197=>202|120=>215|152=>214|260=>213|137=>240|119=>241|224=>242|225=>243|217=>258|266=>263|n=>n,λ |9=>9|4=>4|3=>3|5=>5|117=>282|116=>281|0=>0|124=>285|21=>21|105=>295|46=>169|119=>327|139=>330|138=>329|n=>n,λ |3=>1|4=>2|n=>n⟩
theorem ajO:aGh Q RY:=by constructor<;>intros<;>kernel_rfl
theorem ajN:Go.Proofs.Lays.n233 Q RY:=by constructor<;>intros<;>kernel_rfl
theorem ajM:Go.Proofs.Lays.n234 Q RY:=by constructor<;>intros<;>kernel_rfl
def aC7:AQ:=⟨λ |215=>205|n=>n,λ |3=>3|4=>4|n=>n,λ |n=>n⟩
def aj1:AQ:=⟨λ |122=>183|215=>205|n=>n,λ |3=>3|4=>4|n=>n,λ |n=>n⟩
theorem aj2:Go.Proofs.Lays.n122 Q aj1:=by constructor<;>intros<;>kernel_rfl
open Go.RowKit in
theorem alj (x y:Int) (w:av):
  bE Q 183 #[Y aH x,Y aH y] w λe w'=>e=bj (Y aH (LW x y))∧w'=w:=Any.cmp_Compare_int aj2 x y w
def aC5:AQ:=⟨λ |246=>210|283=>227|284=>228|285=>229|286=>230|129=>226|317=>250|318=>251|319=>252|320=>253|337=>260|338=>261|n=>n,λ |2=>2|3=>3|9=>9|4=>4|171=>317|0=>0|53=>120|37=>79|5=>5|173=>319|212=>340|51=>123|20=>20|213=>341|46=>169|232=>347|233=>348|n=>n,λ |17=>3|18=>5|19=>6|n=>n⟩
def aC6:AQ:=⟨λ |243=>193|246=>210|283=>227|284=>228|285=>229|286=>230|129=>226|317=>250|318=>251|319=>252|320=>253|337=>260|338=>261|n=>n,λ |3=>3|9=>9|2=>2|4=>4|171=>317|0=>0|53=>120|37=>79|5=>5|173=>319|212=>340|51=>123|20=>20|213=>341|46=>169|232=>347|233=>348|n=>n,λ |17=>3|18=>5|19=>6|n=>n⟩
def ajW:AQ:=⟨λ |171=>140|243=>193|246=>210|283=>227|284=>228|285=>229|286=>230|129=>226|317=>250|318=>251|319=>252|320=>253|337=>260|338=>261|n=>n,λ |3=>3|9=>9|2=>2|4=>4|171=>317|0=>0|53=>120|37=>79|5=>5|173=>319|212=>340|51=>123|20=>20|213=>341|46=>169|232=>347|233=>348|n=>n,λ |17=>3|18=>5|19=>6|n=>n⟩
theorem ajX:Go.Proofs.LaysM.n171 Q ajW:=by constructor<;>intros<;>first|kernel_rfl|(constructor<;>intros<;>kernel_rfl)
open Go.RowKit Go.Sort Go.Lib in
theorem ajP (n:Int) (h0: -9223372036854775808<=n) (h1:n<=9223372036854775807) (w:av) (auE:x6 Q w "internal/strconv.uint64pow10" cK Xn):
  bE Q 140 #[Y aH n] w λe w'=>e=bj (aG ⟨(Lib.itoa n).toArray⟩)∧∃k os,w'=grow (w.drewN k) os:=Any.strconv_Itoa ajX n h0 h1 w auE
def aj0:AQ:=⟨λ |190=>186|125=>208|258=>207|128=>225|129=>226|302=>216|303=>217|304=>218|305=>219|306=>220|307=>221|308=>222|309=>223|310=>224|333=>244|329=>245|330=>246|334=>247|335=>248|336=>249|344=>259|n=>n,λ |31=>51|9=>9|3=>3|46=>169|0=>0|51=>123|53=>120|4=>4|183=>309|182=>308|131=>313|5=>5|218=>334|222=>337|228=>344|229=>39|n=>n,λ |n=>n⟩
theorem YH:Go.Proofs.Lays.n190 Q aj0:=by constructor<;>intros<;>kernel_rfl
open Go.Sort Go.RowKit in
theorem ajR (blk off cap:Nat) (ss:List (List UInt8)) (w:av) (hH:Holds encStr w blk off ss.toArray) (awl:blk<w.heap.size) (fP:ss.length<4611686018427387904):
  bE Q 186 #[aD (U ⟨blk,off,V⟩) ss.length cap] w λe w'=>
   e=bj (bO #[])∧∃n os,w'=grow (putRow encStr (Sort.ahead w n) blk off (ss.mergeSort λx y=>cq (x<=y)).toArray) os:=Any.slices_Sort_string YH blk off cap ss w hH awl fP
def aC8:AQ:=⟨λ |206=>125|n=>n,λ |9=>9|4=>4|3=>3|n=>n,λ |n=>n⟩
def ajY:AQ:=⟨λ |99=>71|206=>125|n=>n,λ |9=>9|4=>4|3=>3|n=>n,λ |n=>n⟩
theorem ajZ:Go.Proofs.Lays.n99 Q ajY:=by constructor<;>intros<;>kernel_rfl
open Go.RowKit Go.Lib in
theorem YF (s p:ByteArray) (w:av):
  bE Q 71 #[aG s,aG p] w λe w'=>e=bj (cz (LN s.data.toList p.data.toList))∧w'=w:=Any.strings_HasPrefix ajZ s p w
open Go.RowKit Go.Sort in
theorem ajQ (p:Option eK) (cap:Nat) (w:av):
  bE Q 186 #[aD p 0 cap] w λe w'=>e=bj (bO #[])∧w'=w:=Any.slices_Sort_string_none YH p cap w
end Go.Proofs
namespace Go.Proofs.YtpdbmpbmepkikaaGreatDoor
section
open Go.RowKit
def s.val(x:s):ay:=bN #[aG x.name,aG x.field,Y aH x.c,Y aH x.r,aG x.value]
theorem wX{a b}(h:a=b):bj (cz a)=bj (b):=by rw[h]
structure s.Ok(x:s):Prop where
 name:x.name.size<=4096
 field:x.field.size<=4096
theorem OU(n f v)(c r)(w)(d:n.size<=4096)(b:f.size<=4096):
  bE Q 119 #[bN #[aG n,aG f,Y aH c,Y aH r,aG v]] w λe a=>e=bj ((iA n f))∧bC w w a:=by
 go_enter ak9,ntmps119;go_wp2;go_ret;exact⟨rfl,(ei _ _).alloc (aW _) _⟩
def NU(x y:Int):Int:=if x=0 then y else x
theorem aqP(b)(x y)(w)(f:w.cell? b=U (Y aH x))(g:w.cell? ⟨b,1,V⟩=U (Y aH y)):
  bE Q 182 #[aD (U ⟨b,0,V⟩) 2 2] w λe c=>e=bj ((NU x y))∧c=w:=by
 by_cases hx:x=0
 ·by_cases hy:y=0
  ·subst hx;subst hy;go_enter R8,ntmps182;go_wp2;refine GG 3 ?_
   iterate 3 (try (rw[B7];go_wp2))
   go_ret;exact⟨rfl,rfl⟩
  ·have d:(y !=0)=Z:=by simp[hy]
   subst hx;go_enter R8,ntmps182;go_wp2;refine GG 3 ?_
   iterate 3 (try (rw[B7];go_wp2))
   go_ret;exact⟨rfl,rfl⟩
 ·have a:(x !=0)=Z:=by simp[hx]
  go_enter R8,ntmps182;go_wp2;refine GG 3 ?_
  iterate 3 (try (rw[B7];go_wp2))
  go_ret;exact⟨by simp[NU,hx],rfl⟩
theorem asZ(c r b a):cq (0<NU (LW c b) (LW r a))=xw c r b a:=by
 unfold NU xw LW
 grind
theorem Uw(c r b a)(w):
  bE Q 121 #[bN #[Y aH c,Y aH r],bN #[Y aH b,Y aH a]] w λe d=>e=bj ((xw c r b a))∧bC w w d:=by
 go_enter ak8,ntmps121;go_wp2
 go_region_held3 (λW=>W.cell? ⟨w.heap.size,0,V⟩=U (Y aH c)∧W.cell? ⟨w.heap.size,1,V⟩=U (Y aH r)∧W.cell? ⟨w.heap.size+1,0,V⟩=U (Y aH b)∧W.cell? ⟨w.heap.size+1,1,V⟩=U (Y aH a))
  (go_keep)
  ((first
   |(go_at_call 183;refine(alj _ _ _).mono ?_;rintro e d ⟨rfl,rfl⟩)
   |(go_at_call 182;refine(aqP _ (LW c b) (LW r a) _ ?h0 ?h1).mono ?_;(case h0=>go_simp);(case h1=>go_simp);rintro e d ⟨rfl,rfl⟩)))
 go_wp2;go_ret;exact⟨wX (asZ c r b a),((((ei _ _).alloc (aW _) _).alloc (by simp) _).alloc (by simp;omega) _).drew⟩
theorem abB(x y)(w):
  bE Q 157 #[x.val,y.val] w λe d=>e=bj ((xh x y))∧bC w w d:=by
 obtain⟨n,f,c,r,v⟩:=x;obtain⟨l,m,a,b,k⟩:=y;unfold s.val;by_cases h:c=a∧r=b
 ·obtain⟨rfl,rfl⟩:=h;go_enter Sa,ntmps157;go_wp2;go_ret;exact⟨wX (by simp[xh,PX]),(((ei _ _).alloc (aW _) _).alloc (by simp) _)⟩
 ·have j:xh ⟨n,f,c,r,v⟩ ⟨l,m,a,b,k⟩=xw c r a b:=by grind[xh]
  have i:=X j;by_cases hc:c=a
  ·have o:¬r=b:=by grind
   subst hc;go_enter Sa,ntmps157;go_wp2_with (go_at_call 121;refine(Uw _ _ _ _ _).mono ?_;rintro e d ⟨rfl,g⟩)
   go_ret;exact⟨wX i.out.symm,(((ei _ _).alloc (aW _) _).alloc (by simp) _).trans (g.mono (by simp;omega))⟩
  ·go_enter Sa,ntmps157;go_wp2_with (go_at_call 121;refine(Uw _ _ _ _ _).mono ?_;rintro e d ⟨rfl,g⟩)
   go_ret;exact⟨wX i.out.symm,(((ei _ _).alloc (aW _) _).alloc (by simp) _).trans (g.mono (by simp;omega))⟩
def es(L:List s):List (ByteArray×ay):=L.map λx=>(x.key,x.val)
def cJ(w:av)(m:Nat)(L:List s):Prop:=di nu w m (es L)
theorem cJ.of_block{w w'}{m}{L}(h:cJ w m L)(a:w'.heap[m]? =w.heap[m]?):cJ w' m L:=di.of_block h a
theorem cJ.alloc{w}{m}{L}(h:cJ w m L)(o):cJ (w.alloc o) m L:=di.alloc h o
theorem cJ.below{w w'}{m}{L}(h:cJ w m L)(a:bC w w w'):cJ w' m L:=di.below h a
theorem cJ.keep{w w'}{m}{L}{F}(h:cJ w m L)(b:O F w w')(a:¬F m):cJ w' m L:=di.keep h b a
theorem cJ.lt{w}{m}{L}(h:cJ w m L):m<w:=di.lt h
theorem cJ.nodup{w}{m}{L}(h:cJ w m L):(L.map (·.key)).Nodup:=by
 obtain⟨d,b,_,c⟩:=h;have:=c.nodup
 grind[es,List.map_map]
def lE(L:List s)(k:ByteArray):Option s:=L.find? λy=>y.key=k
theorem JO(L)(k):look (es L) k=(lE L k).map (·.val):=by
 unfold es lE;induction L with
 |nil=>rfl
 |cons y l a=>
  grind[look]
theorem al2{L}{x}(h:lE L x.key=V):fq L x=L++[x]∧put (es L) x.key x.val=es (fq L x):=by
 unfold lE at h;induction L with
 |nil=>exact⟨rfl,rfl⟩
 |cons y l b=>
  simp only[Kg] at h;by_cases E:y.key=x.key
  ·grind
  ·simp only[E,OM] at h;obtain⟨a,c⟩:=b h;simp only[fq,E,uJ,a,qC,true_and];show put ((y.key,y.val)::es l) _ _=(y.key,y.val)::es (l++[x]);rw[put,if_neg E,c,a]
theorem al1{L}{x y}(h:lE L x.key=U y):(xh x y=ai->fq L x=L)∧(xh x y=Z->put (es L) x.key x.val=es (fq L x)):=by
 unfold lE at h;induction L with
 |nil=>simp at h
 |cons z l b=>
  simp only[Kg] at h;by_cases E:z.key=x.key
  ·simp only[E,decide_true,ec] at h;subst h;refine⟨λa=>by grind[fq],λa=>?_⟩
   show put ((z.key,z.val)::es l) _ _=_;rw[put,dn E]
   grind[fq,es]
  ·simp only[E,OM] at h;obtain⟨d,c⟩:=b h;refine⟨λa=>by grind[fq],λa=>?_⟩
   show put ((z.key,z.val)::es l) _ _=_;rw[put,if_neg E,c a]
   grind[fq,es]
theorem IW(w):(kG 46).run Q w=aV (bN #[aG ⟨#[]⟩,aG ⟨#[]⟩,Y aH 0,Y aH 0,aG ⟨#[]⟩]) w:=by kernel_rfl
end
section
abbrev bl(s:ByteArray):List UInt8:=s.data.toList
theorem aAa(a b):bl (a++b)=bl a++bl b:=by simp[bl]
theorem zk{a b}(h:bl a=bl b):a=b:=by obtain⟨a⟩:=a;obtain⟨b⟩:=b;simp only[bl] at h;rw[Array.toList_inj.1 h]
theorem Jb(s):s.toList=bl s:=
 Lib.toList_data s
theorem aht:∀a b:List UInt8,Ih a b=cq (a<b)
 |a,[]=>by cases a<;>simp[Ih]
 | [],b::l=>by simp[Ih]
 |a::l,b::c=>by rw[Ih,aht l c,Al];simp[GF]
def mZ(a b:ByteArray):Bool:=cq (bl a<bl b)
theorem axh(a b):PX a b=mZ b a:=by
 unfold PX mZ;rw[Jb,Jb,aht,Al]
 grind
def letter(b:UInt8):Bool:=cq (97<=b)&&cq (b<=122)
def xq(s:ByteArray):Bool:=(bl s).all letter
structure Good(x:s):Prop where
 name:xq x.name=Z
 aDQ:x.name.size≠0
 JG:x.name.size<=8
 field:xq x.field=Z
 Lq:x.field.size<=4
 value:x.value.size<=20
def ahead(a b:s):Bool:=if a.name=b.name then mZ a.field b.field else mZ a.name b.name
theorem acC{c:UInt8}{n n' r g}(i:∀b∈n,c<b)(e:∀b∈n',c<b):(n++c::r<n'++c::g)↔if n=n' then r<g else n<n':=by
 induction n generalizing n' with
 |nil=>
  cases n' with
  |nil=>simp[GF]
  |cons b l=>
   have:=e b (by simp)
   simp[GF,this]
 |cons a l k=>
  have p:=i a (by simp)
  cases n' with
  |nil=>
   have m:¬a<c:=λh=>by grind
   have j:¬a=c:=λh=>by grind
   simp[GF,m,j]
  |cons b l'=>
   have:=k (n':=l') (λb f=>i b (by simp[f])) (λb f=>e b (by simp[f]))
   simp only[qC,GF,Eo]
   grind
theorem Uk{c:UInt8}{n n' r d}(g:c∉n)(e:c∉n')(h:n++c::r=n'++c::d):n=n'∧r=d:=by
 induction n generalizing n' with
 |nil=>
  cases n' with
  |nil=>grind
  |cons b l=>grind
 |cons a l i=>
  cases n' with
  |nil=>grind
  |cons b f=>
   grind
theorem JQ{s}(h:xq s=Z){c}(e:c<97):∀b∈bl s,c<b:=λb d=>by
 have:=List.all_eq_true.1 h b d;simp only[letter,cS,fI] at this
 grind
theorem vE{s}(h:xq s=Z){c}(d:c<97):c∉bl s:=λb=>by
 have:=JQ h d c b
 grind
theorem zi(n f):bl (iA n f)=bl n++46::(bl f++0::[]):=by simp[iA]
theorem adH{x y}(b:Good x)(c:Good y):bl x.key<bl y.key↔ahead x y=Z:=by
 unfold s.key ahead;rw[zi,zi,acC (JQ b.name (by decide)) (JQ c.name (by decide)),acC (JQ b.field (by decide)) (JQ c.field (by decide))]
 have d:¬([]:List UInt8)< []:=by grind
 by_cases E:x.name=y.name
 ·simp only[E,iM,mZ,fI]
  grind
 ·have:¬bl x.name=bl y.name:=by grind[zk]
  simp only[E,this,uJ,mZ,fI]
theorem adI{n f n' f'}(e:(46)∉bl n)(d:(46)∉bl n')(b:(0)∉bl f)(c:(0)∉bl f')(h:iA n f=iA n' f'):n=n'∧f=f':=by
 have:=congrArg bl h
 grind[zi,Uk,zk]
theorem atB{x y}(b:Good x)(a:Good y):x.key=y.key↔x.name=y.name∧x.field=y.field:=
 ⟨λh=>adI (vE b.name (by decide)) (vE a.name (by decide)) (vE b.field (by decide)) (vE a.field (by decide)) h,λh=>by grind[s.key]⟩
theorem adK{x}(d:Good x)(n):(bl n++[46]<+:bl x.key)↔x.name=n:=by
 unfold s.key;rw[zi];constructor
 ·rintro⟨t,c⟩;rw[jy,OL] at c;have f:(46:UInt8)∉bl n:=λh=>by
   obtain⟨a,b,e⟩:=List.append_of_mem h;have j:=congrArg (List.count (46:UInt8)) c;have g:=adp.2 (vE d.name (c:=46) (by decide))
   have i:=adp.2 (vE d.field (c:=46) (by decide))
   grind
  exact(zk (Uk f (vE d.name (by decide)) c).1).symm
 ·rintro rfl;exact⟨_,by rw[jy,OL]⟩
theorem atA{x}(a:Good x)(n):x.key=iA n ⟨#[]⟩↔x.name=n∧x.field=⟨#[]⟩:=by
 constructor
 ·intro h;have b:=(adK a n).1 (by rw[h,zi];grind)
  refine⟨b,?_⟩;subst b;exact(adI (vE a.name (by decide)) (vE a.name (by decide)) (vE a.field (by decide)) (by simp[bl]) h).2
 grind[s.key]
theorem JL(a):mZ a a=ai:=by simp[mZ]
theorem Oo{a b c}(h:mZ a b=Z)(k:mZ b c=Z):mZ a c=Z:=by simp only[mZ] at*;grind
theorem Ul{a b}(h:mZ a b=ai)(c:a≠b):mZ b a=Z:=by
 simp only[mZ,fI] at*
 grind[zk,List.le_antisymm,List.not_lt]
theorem QM{a b c}(h:ahead a b=Z)(k:ahead b c=Z):ahead a c=Z:=by
 unfold ahead at*;by_cases h1:a.name=b.name<;>by_cases h2:b.name=c.name
 ·grind[Oo]
 ·grind
 ·grind
 ·rw[if_neg h1] at h;rw[if_neg h2] at k;have f:=Oo h k;have:a.name≠c.name:=λe=>by grind[JL]
  grind
theorem Ba{a b}(d:a.name=b.name)(c:a.field=b.field):ahead a b=ai:=by unfold ahead;rw[dn d,c,JL]
theorem aA0{a b}(h:ahead a b=ai)(c:¬(a.name=b.name∧a.field=b.field)):ahead b a=Z:=by
 unfold ahead at*;by_cases h1:a.name=b.name
 ·grind[Ul]
 ·grind[Ul]
theorem ah1{a b}(h:ahead a b=Z):ahead b a=ai:=by
 grind[QM,Ba]
def sameKey(a b:s):Bool:=cq (a.name=b.name)&&cq (a.field=b.field)
def kg(a b:s):Bool:=if a.c≠b.c then cq (b.c<a.c) else if a.r≠b.r then cq (b.r<a.r) else mZ b.value a.value
theorem aqI(a b):xh a b=kg a b:=by
 unfold xh kg xw;rw[axh];by_cases h1:a.c=b.c<;>by_cases h2:a.r=b.r
 ·grind
 ·grind
 ·grind
 grind
def p(l:List s):Prop:=l.Pairwise λa b=>ahead a b=Z
def ins:List s->s->List s
 | [],x=> [x]
 |y::l,x=>if sameKey y x then(if kg x y then x::l else y::l) else if ahead x y then x::y::l else y::ins l x
theorem GR{l}{x z}(h:z∈ins l x):z=x∨z∈l:=by
 induction l with
 |nil=>simpa[ins] using h
 |cons y l a=>
  unfold ins at h
  grind
theorem aoV{x y z}(h:sameKey y x=Z)(a:ahead y z=Z):ahead x z=Z:=by simp only[sameKey,cS] at h;unfold ahead at*;grind
theorem OX{l}(h:p l)(x):p (ins l x):=by
 induction l with
 |nil=>simp[ins,p]
 |cons y l d=>
  have b:=vQ.1 h;unfold ins;split
  ·rename_i c;split
   ·exact vQ.2 ⟨λz a=>aoV c (b.1 z a),b.2⟩
   grind
  ·rename_i c;split
   ·refine vQ.2 ⟨λz a=>?_,h⟩
    grind[QM]
   ·refine vQ.2 ⟨λz a=>?_,d b.2⟩;rcases GR a with rfl|a
    ·exact aA0 (by grind) (λe=>c (by simp[sameKey,e.1,e.2]))
    grind
theorem p.nodup{l}(h:p l):l.Nodup:=h.imp λ{a b} c e=>by grind[Ba]
theorem p.inj{l}(h:p l){x y}(c:x∈l)(d:y∈l)(e:sameKey x y=Z):x=y:=by
 simp only[sameKey,cS] at e;induction l with
 |nil=>grind
 |cons z l g=>
  have f:=vQ.1 h;rcases dh.1 c with rfl|b<;>rcases dh.1 d with rfl|a
  ·rfl
  ·grind[Ba]
  ·grind[Ba]
  ·exact g f.2 b a
theorem p.filter{l}(h:p l)(a):p (l.filter a):=List.Pairwise.filter a h
theorem p.unique{l l'}(h:p l)(c:p l')(d:l.Perm l'):l=l':=
 OK (le:=λa b=>ahead a b=Z) (λa b _ _ f e=>by grind[ah1]) h c d
structure Bk(L l:List s):Prop where
 perm:L.Perm l
 sorted:p l
 lT:∀x∈l,Good x
theorem sameKey_iff{x y}(b:Good x)(a:Good y):sameKey x y=Z↔x.key=y.key:=by rw[atB b a];simp[sameKey]
theorem E2{L:List s}{k}{y}(h:L.find? (λy=>cq (y.key=k))=U y):y∈L∧y.key=k:=
 ⟨OJ h,by grind⟩
theorem WQ{L:List s}{k}(h:L.find? (λy=>cq (y.key=k))=V):∀y∈L,y.key≠k:=λy a=>by grind
theorem al4{L}{x}(h:∀y∈L,y.key≠x.key):fq L x=L++[x]:=by
 induction L with
 |nil=>rfl
 |cons y l a=>rw[fq,if_neg (h y (by simp)),a (λz b=>h z (by grind))];rfl
theorem al3{L}{x y}(a:y∈L)(d:y.key=x.key)(b:(L.map (·.key)).Nodup):(fq L x).Perm (if xh x y then x::L.erase y else L):=by
 induction L with
 |nil=>grind
 |cons z l c=>
  by_cases hz:z.key=x.key
  ·rw[fq,dn hz]
   grind
  ·rw[fq,if_neg hz]
   grind
theorem atU{l}{x}(h:∀y∈l,sameKey y x=ai):(ins l x).Perm (x::l):=by
 induction l with
 |nil=>exact .refl _
 |cons y l a=>
  rw[ins,if_neg (by grind)]
  grind
theorem atT{l}{x y}(hs:p l)(d:y∈l)(c:sameKey y x=Z):(ins l x).Perm (if kg x y then x::l.erase y else l):=by
 induction l with
 |nil=>grind
 |cons z l g=>
  have f:=vQ.1 hs;by_cases E:sameKey z x=Z
  ·have:y=z:=hs.inj d (by simp) (by simp only[sameKey,cS] at*;grind)
   rw[ins,dn E]
   grind
  ·have b:=(dh.1 d).resolve_left λe=>E (e▸c);have h:ahead z x=Z:=by simp only[sameKey,cS] at c;unfold ahead at*;grind
   rw[ins,if_neg E,if_neg (by grind[ah1])]
   have:=g f.2 b
   grind
theorem p.keys{l}(h:p l)(f:∀y∈l,Good y):(l.map (·.key)).Nodup:=by
 refine Ke.2 (UT (λ{a b} g i d e=>?_) h);have:=(adH (f a g) (f b i)).2 d
 grind
theorem Bk.nodup{L l}(h:Bk L l):(L.map (·.key)).Nodup:=(h.perm.map _).nodup_iff.2 (h.sorted.keys h.lT)
theorem Bk.afJ{L l}(h:Bk L l):∀x∈L,Good x:=λx a=>h.lT x (h.perm.subset a)
theorem Bk.take{L l}(h:Bk L l){x}(f:Good x):Bk (fq L x) (ins l x):=by
 refine⟨?_,OX h.sorted x,λy b=>?_⟩
 ·by_cases hex:∃y∈l,sameKey y x=Z
  ·obtain⟨y,b,d⟩:=hex;refine(al3 (h.perm.symm.subset b) ((sameKey_iff (h.lT y b) f).1 d) h.nodup).trans (.trans ?_ (atT h.sorted b d).symm);rw[aqI];split
   ·exact(h.perm.erase y).cons x
   ·exact h.perm
  ·have c:∀y∈l,sameKey y x=ai:=λy b=>by
    grind
   rw[al4 (λy b e=>by have:=(sameKey_iff (h.afJ y b) f).2 e;rw[c y (h.perm.subset b)] at this;grind)]
   exact(List.perm_append_singleton _ _).trans ((h.perm.cons x).trans (atU c).symm)
 ·rcases GR b with rfl|b
  ·grind
  ·exact h.lT y b
theorem Bk.find{L l}(h:Bk L l)(k):L.find? (λy=>cq (y.key=k))=l.find? (λy=>cq (y.key=k)):=by
 cases c:L.find? (λy=>cq (y.key=k)) with
 |none=>
  cases b:l.find? (λy=>cq (y.key=k)) with
  |none=>rfl
  |some y=>exact absurd (E2 b).2 (WQ c y (h.perm.symm.subset (E2 b).1))
 |some x=>
  cases b:l.find? (λy=>cq (y.key=k)) with
  |none=>exact absurd (E2 c).2 (WQ b x (h.perm.subset (E2 c).1))
  |some y=>
   have e:=E2 c;have d:=E2 b;have a:=h.perm.subset e.1;rw[h.sorted.inj a d.1 ((sameKey_iff (h.lT x a) (h.lT y d.1)).2 (e.2.trans d.2.symm))]
def stepW(x:s)(A:List s×Bool)(y:s):List s×Bool:=
 if sameKey y x then(if kg x y then(A.1++[x],Z) else(A.1++[y],Z))
 else if ahead x y&& !A.2 then(A.1++[x,y],Z) else(A.1++[y],A.2)
def IZ(l:List s)(x:s):List s:=
 let A:=l.foldl (stepW x) ([],ai)
 if A.2 then A.1 else A.1++[x]
theorem afZ{x}(l:List s)(o)(h:∀z∈l,sameKey z x=ai):l.foldl (stepW x) (o,Z)=(o++l,Z):=by
 induction l generalizing o with
 |nil=>simp
 |cons y l b=>
  have:stepW x (o,Z) y=(o++[y],Z):=by grind[stepW]
  grind
theorem axD{x}(l)(hs:p l)(o):(let s:=l.foldl (stepW x) (o,ai);if s.2 then s.1 else s.1++[x])=o++ins l x:=by
 induction l generalizing o with
 |nil=>simp[ins]
 |cons y l f=>
  have d:=vQ.1 hs;rw[List.foldl_cons,ins];by_cases E:sameKey y x=Z
  ·have e:∀z∈l,sameKey z x=ai:=λz c=>by
    cases b:sameKey z x with
    |false=>rfl
    |true=>
     have:=d.1 z c;simp only[sameKey,cS,fI] at E b
     grind[Ba]
   rw[dn E]
   grind[kg,stepW,afZ]
  ·rw[if_neg E];by_cases ha:ahead x y=Z
   ·have e:∀z∈l,sameKey z x=ai:=λz c=>by
     cases b:sameKey z x with
     |false=>rfl
     |true=>
      have:=QM ha (d.1 z c);simp only[sameKey,cS,fI] at b
      grind[Ba]
    have:stepW x (o,ai) y=(o++[x,y],Z):=by grind[stepW]
    rw[this,afZ _ _ e,dn ha];simp
   ·have:stepW x (o,ai) y=(o++[y],ai):=by grind[stepW]
    rw[this,f d.2,if_neg ha];simp
theorem Rp{l}(hs:p l)(x):IZ l x=ins l x:=by
 grind[axD,IZ]
def WG(l:List s)(n:ByteArray):Option s:=l.find? λy=>sameKey y ⟨n,⟨#[]⟩,0,0,⟨#[]⟩⟩
def aav(g:Option s)(n:ByteArray)(y:s):Bool:=
 cq (y.name=n)&& ! cq (y.field=⟨#[]⟩)&&(match g with|none=>Z|some d=>xw y.c y.r d.c d.r)
def P8(l:List s)(n:ByteArray):List s:=l.filter (aav (WG l n) n)
def IJ(l:List ByteArray):Prop:=l.Pairwise λa b=>mZ a b=Z
theorem IJ.unique{l l'}(h:IJ l)(d:IJ l')(g:∀n,n∈l↔n∈l'):l=l':=by
 have c:∀{l:List ByteArray},IJ l->l.Nodup:=λh=>h.imp λ{a b} f e=>by grind[JL]
 refine OK (le:=λa b=>mZ a b=Z) (λa b _ _ j i=>?_) h d ((OI (c h) (c d)).2 g)
 grind[Oo,JL]
def ld(s:ByteArray)(E:Nat):Bool:=xq s&&cq (0<s.size)&&cq (s.size<=E)
end
end Go.Proofs.YtpdbmpbmepkikaaGreatDoor
set_option maxRecDepth 100000
namespace Go.Proofs.YtpdbmpbmepkikaaGreatDoor
section
open Go.RowKit
structure j7(W:av)(N:Nat)(T e size:Nat)(v:ay)(n:Nat)(xs:List ay):Prop where
 box:W.heap[N]? =U (aF #[v] T (0,0))
 row:W.ownsRow (N+1) e size v n xs
theorem dI{w w':av}{base e m n:Nat}{v}{xs}(h:w.ownsRow base e m v n xs)(k:∀g,v.ownBlock=U g->w'.heap[g]? =w.heap[g]?):w'.ownsRow base e m v n xs:=by
 obtain⟨j,d⟩:=h;refine⟨j,?_⟩;rcases d with d|⟨g,a,b,c,i,f,r⟩
 ·grind
 ·exact aA ⟨g,a,b,c,i,(k g (by rw[c];rfl)).trans f,r⟩
theorem JC{w:av}{base E e m n:Nat}{v}{xs}(h:w.ownsRow base e m v n xs)(i:∀g,v.ownBlock=U g->E<=g):w.ownsRow E e m v n xs:=by
 obtain⟨f,d⟩:=h;refine⟨f,?_⟩;rcases d with d|⟨g,a,b,c,j,r⟩
 ·grind
 ·exact aA ⟨g,a,b,c,i g (by rw[c];rfl),r⟩
def qg(N:Nat)(v:ay):Nat->Prop:=λb=>b=N∨v.ownBlock=U b
theorem j7.lt{W}{N T e a n}{v}{xs}(h:j7 W N T e a v n xs):∀b,qg N v b->b<W:=by
 rintro b (rfl|c)
 ·exact(dc.1 h.box).1
 ·exact(h.row.lt b c).2
theorem j7.fZ{W W'}{N T e a n}{v}{xs}(h:j7 W N T e a v n xs)(c:∀b,qg N v b->W'.heap[b]? =W.heap[b]?):j7 W' N T e a v n xs:=
 ⟨(c N (ax rfl)).trans h.box,dI h.row λg d=>c g (aA d)⟩
theorem j7.cell{W}{N T e a n}{v}{xs}(h:j7 W N T e a v n xs):W.cell? N=v∧W.frozen? N=ai:=by simp[og,wI,h.box]
theorem j7.new(W:av)(T e a:Nat):j7 (W.alloc (aF #[aD V 0 0] T)) W T e a (aD V 0 0) 0 []:=
 ⟨iN W _,World.ownsRow_nil _ _ _ _⟩
theorem yA{W:av}{N T:Nat}{v u}(h:W.heap[N]? =U (aF #[v] T (0,0))):(W.setCell N u).heap[N]? =U (aF #[u] T (0,0)):=by obtain⟨a,b⟩:=dc.1 h;simp only[jE,yM,h,ey,iM];rfl
theorem j7.appended{W W1}{N T e c n n'}{v v'}{xs f}(h:j7 W N T e c v n xs)(d:W.grownBy W1 v.ownBlock)(o:W1.ownsRow (N+1) e c v' n' f)(i:v'.ownBlock=v.ownBlock∨v'.ownBlock=W):
  j7 (W1.setCell N v') N T e c v' n' f∧bT (qg N v) W (qg N v') (W1.setCell N v'):=by
 have g:=(d.block N ((dc.1 h.box).1) (λe=>by have:=(h.row.lt N e.symm).1;omega)).trans h.box
 refine⟨⟨yA g,ownsRow_setCell_below o (a:=N) (Nat.lt_succ_self N) _⟩,?_,?_⟩
 ·refine⟨d.os,d.tape,d.output,by simpa[jE] using d.size,λk m j=>?_⟩
  exact(gy _ _ _ _ (λe=>j (ax e))).trans (d.block k m (λe=>j (aA e.symm)))
 ·rintro b (rfl|p)
  ·exact ax (ax rfl)
  ·rcases i with l|l
   ·exact ax (aA (l▸p))
   grind
def s.cells(x:s):List ay:=[aG x.name,aG x.field,Y aH x.c,Y aH x.r,aG x.value]
def rows(l:List s):List ay:=l.flatMap s.cells
theorem Tg(l l'):rows (l++l')=rows l++rows l':=by simp[rows]
theorem aaF{l}{j}(a)(i)(d:i<5):(rows l)[j*5+i]? =l[j].cells[i]? :=by
 induction l generalizing j with
 |nil=>grind
 |cons x l c=>
  show(x.cells++rows l)[j*5+i]? =_;have b:x.cells.length=5:=rfl
  grind
variable {w1 W W':av} {e size n:Nat} {v:ay} {xs:List ay}
theorem abJ{P}{o}{a}{w}{K}{Q}(s x)(t)
  (C:o.op=.call {callee:=.builtin .append,args:= #[s,x],argTypes:= #[t,t]})
  (base) (e) (i) (z) (size bytes) (H:P.underlying t=U (.slice e)) (I:P.info? e=U i) (G:i.zero=U z)
  (f:i.size=size) (y:i.bytes=bytes) (B:z.cells.size=size) (A:0<size)
  (v) (n) (xs) (hs:a.eval s=v) (q:w.ownsRow base e size v n xs)
  (ad) (m c) (b) (D:a.eval x=aD (U ad) m c) (L:b.length=m*size) (k:∀j u,b[j]? =U u->w.cell? (ad.add j)=U u) (J:∀u∈b,u.oneCell'=Z)
  (r:n+m<=uZ) (d:(n+m)*bytes<=140737488355328) (g:base<=w.heap.size)
  (h:∀l p,p.ownsRow base e size l (n+m) (xs++b)->w.grownBy p v.ownBlock->(l.ownBlock=v.ownBlock∨l.ownBlock=U w.heap.size)->K (a.put o.dst l) p):
  Oper.wp P o a w K Q:=by
 obtain⟨l,p,E,N,M,O,F⟩:=run_append_own_at (P:=P) w base t o.type e i z size bytes H I G f y B A v n xs q ad m c b L k J r d g;unfold Oper.wp cT;simp only[C,resolve,invoke,builtin,gK,uK,Result.andThen_ok,List.map_toArray,fS,sg,hs,D,E];exact h l p N M F
end
end Go.Proofs.YtpdbmpbmepkikaaGreatDoor
set_option maxRecDepth 100000
namespace Go.Proofs.YtpdbmpbmepkikaaGreatDoor
section
def k(n:Nat):List UInt8:=if h:n<128 then [jZ n] else jZ (n % 128+128)::k (n/128)
termination_by n
decreasing_by omega
theorem xm{n}(h:n<128):k n=[jZ n]:=by rw[k,xA h]
theorem DX{n}(h:¬n<128):k n=jZ (n % 128+128)::k (n/128):=by rw[k,Ej h]
def rO:Nat->Nat->Nat->List UInt8->Nat×List UInt8×Bool
 |0,_,acc,l=>(acc,l,ai)
 |_+1,_,_,[]=>(0,[],Z)
 |f+1,k,acc,b::l=>
  let E:=acc+b.toNat % 128*2^k % 18446744073709551616
  if b.toNat<128 then(E,l,ai) else rO f (k+7) E l
theorem apU(f j a n)(t)(c:n<128^(f+1))(d:n*2^j<18446744073709551616):rO (f+1) j a (k n++t)=(a+n*2^j,t,ai):=by
 induction f generalizing j a n with
 |zero=>
  have h:n<128:=by grind
  rw[xm h];have e:(jZ n).toNat=n:=by simp;omega
  simp only[OL,rO,e,h,iM]
  grind
 |succ f g=>
  by_cases h:n<128
  ·rw[xm h];have e:(jZ n).toNat=n:=by simp;omega
   simp only[OL,rO,e,h,iM]
   grind
  ·rw[DX h];have e:(jZ (n % 128+128)).toNat=n % 128+128:=by simp;omega
   rw[qC,rO,e,if_neg (by omega)]
   have b:n*2^j=n % 128*2^j+n/128*2^(j+7):=by
    grind[Nat.pow_add,Nat.mod_add_div,Nat.add_mul,Nat.mul_comm,Nat.mul_assoc]
   grind
theorem apT{n}(a:n<18446744073709551616)(t):rO 10 0 0 (k n++t)=(n,t,ai):=by
 grind[apU,Nat.lt_of_lt_of_le]
theorem Oa{f n}(h:n<128^(f+1)):(k n).length<=f+1:=by
 induction f generalizing n with
 |zero=>grind[xm]
 |succ f a=>
  grind[xm,DX,Nat.pow_succ]
theorem ara(n):0<(k n).length:=by
 grind[xm,DX]
def gF(z:Int):Nat:=if 0<=z then(2*z).toNat else(-2*z-1).toNat
theorem Ds{z}(h: -9223372036854775808<=z∧z<=9223372036854775807):gF z<18446744073709551616:=by
 grind[gF]
def RP(n:Nat):Int:=if n % 2=0 then(n/2:Nat) else-((n/2:Nat):Int)-1
theorem ajt(z):RP (gF z)=z:=by
 grind[RP,gF]
def de(s:ByteArray):List UInt8:=k s.size++bl s
def gI(x:s):List UInt8:=de x.name++de x.field++k (gF x.c)++k (gF x.r)++de x.value
def cV{α:Type}(f:α->List UInt8)(l:List α):List UInt8:=k l.length++l.flatMap f
theorem afY{a}(h:p a)(b:List s):p (b.foldl ins a):=by
 induction b generalizing a with
 |nil=>exact h
 |cons x b c=>grind[OX]
end
section
open Go.RowKit
def iR(b:UInt8):ay:=Y aq b.toNat
theorem Zd(x)(R:x.Ok)(m)(L)(w)(T:cJ w m L):
  bE Q 101 #[cj (m),x.val] w λe P=>e=bj (bO #[])∧cJ P m (fq L x)∧O (λb=>b=m) w P:=by
 obtain⟨n,f,c,r,v⟩:=x;obtain⟨D,F⟩:=R;simp only at D F;have a:=X T;cases q:lE L (iA n f) with
 |none=>
  have B:dR (look (es L) (iA n f)=V):=X (by grind[JO])
  have G:=X (al2 (L:=L) (x:=⟨n,f,c,r,v⟩) q);unfold s.val;go_enter Sb,ntmps101;go_wp2_with fail
  refine(OU _ _ _ _ _ _ D F).mono ?_;rintro e t ⟨rfl,d⟩;have k:=X (di.below (di.alloc a.out _) d);obtain⟨i,j⟩:=A9 d;have Q0:w.heap.size<t:=by have:=d.size;simp at this;omega
  simp only[uL] at i j;have a:=X d;go_wp2_with (first
   |(at_lookup;refine FE _ nu rfl _ _ 107 rfl 9 46 zG rG _ (IW _) m (es L) (iA n f) rfl k.out rfl ?_;rw[B.out])
   |(at_mapUpdate;refine MG _ nu rfl _ _ _ 107 rfl 9 46 zG rG m (es L) (iA n f) (s.val ⟨n,f,c,r,v⟩) rfl (di.alloc k.out _) rfl rfl ?_;intro I l o M))
  go_end0
  refine⟨rfl,?_,?_⟩
  ·show di nu I m (es _);rw[<-G.out.2];exact l
  exact((O.alloc _ _ _).trans' (O.iL (F:=λb=>b=m) a.out) (λ_ _ h=>h) (λ_ _ h=>h)).trans' ((O.alloc _ _ _).trans o) (λ_ _ h=>h) (λ_ _ h=>h)
 |some y=>
  obtain⟨A,H,C,E,z⟩:=y;have B:dR (look (es L) (iA n f)=(s.val ⟨A,H,C,E,z⟩)):=X (by grind[JO])
  have G:=X (al1 (L:=L) (x:=⟨n,f,c,r,v⟩) q);cases N:xh ⟨n,f,c,r,v⟩ ⟨A,H,C,E,z⟩ with
  |true=>
   have u:=X N;unfold s.val;go_enter Sb,ntmps101;go_wp2_with fail
   refine(OU _ _ _ _ _ _ D F).mono ?_;rintro e t ⟨rfl,d⟩;have k:=X (di.below (di.alloc a.out _) d);obtain⟨i,j⟩:=A9 d;have Q0:w.heap.size<t:=by have:=d.size;simp at this;omega
   simp only[uL] at i j;go_wp2_with (first
    |(at_lookup;refine FE _ nu rfl _ _ 107 rfl 9 46 zG rG _ (IW _) m (es L) (iA n f) rfl k.out rfl ?_;rw[B.out];simp only[fO,US,s.val])
    |(go_at_call 157;fail))
   refine(abB ⟨n,f,c,r,v⟩ ⟨A,H,C,E,z⟩ _).mono ?_;rintro e I ⟨rfl,g⟩;rw[u.out];obtain⟨K,J⟩:=A9 g;simp only[uL] at K J;have p:=X g;go_wp2_with (at_mapUpdate;refine MG _ nu rfl _ _ _ 107 rfl 9 46 zG rG m (es L) (iA n f) (s.val ⟨n,f,c,r,v⟩) rfl (X (di.below (di.alloc k.out _) g)).out rfl rfl ?_;intro S l o M)
   go_end0
   refine⟨rfl,?_,?_⟩
   ·show di nu S m (es _);rw[<-G.out.2 u.out];exact l
   exact(((O.alloc _ _ _).trans (O.iL (X d).out)).trans ((O.alloc _ _ _).trans (O.iL p.out))).trans o
  |false=>
   have u:=X N;unfold s.val;go_enter Sb,ntmps101;go_wp2_with fail
   refine(OU _ _ _ _ _ _ D F).mono ?_;rintro e t ⟨rfl,d⟩;have k:=X (di.below (di.alloc a.out _) d);obtain⟨i,j⟩:=A9 d;have Q0:w.heap.size<t:=by have:=d.size;simp at this;omega
   simp only[uL] at i j;go_wp2_with (first
    |(at_lookup;refine FE _ nu rfl _ _ 107 rfl 9 46 zG rG _ (IW _) m (es L) (iA n f) rfl k.out rfl ?_;rw[B.out];simp only[fO,US,s.val])
    |(go_at_call 157;fail))
   refine(abB ⟨n,f,c,r,v⟩ ⟨A,H,C,E,z⟩ _).mono ?_;rintro e I ⟨rfl,g⟩;rw[u.out];have p:=X g;go_wp2_with fail
   go_end0
   refine⟨rfl,?_,?_⟩
   ·show di nu I m (es _);rw[G.out.1 u.out];exact(X (di.below (di.alloc k.out _) g)).out
   exact(((O.alloc _ _ _).trans (O.iL (X d).out)).trans ((O.alloc _ _ _).trans (O.iL p.out)))
variable {κ:Type} [DecidableEq κ]
theorem KE.inj(K:KE κ){a b}(h:K.enc a=K.enc b):a=b:=by
 have d:=K.same a a;have c:=K.same a b
 grind
def uq(K:KE κ)(w:av)(m it:Nat)(es:List (κ×ay))(done:List κ):Prop:=
 ∃(en:Array l6) (clock:Nat) (seen:Array Nat),w.heap[m]? =U (iP en clock)∧Reads K en clock es∧w.heap[it]? =U (uc (U m) clock seen clock)∧
  seen.toList.map (λb=>(en.toList.find? (·.born==b)).map (·.key))=done.map (λk=>U (K.enc k))
theorem uq.map{K:KE κ}{w}{m c}{es}{b}(h:uq K w m c es b):di K w m es:=by obtain⟨f,a,seen,e,d,_⟩:=h;exact⟨f,a,e,d⟩
theorem uq.lt{K:KE κ}{w}{m c}{es}{a}(h:uq K w m c es a):c<w:=by obtain⟨g,b,seen,f,e,d,_⟩:=h;grind
theorem uq.TK{K:KE κ}{w w'}{m c}{es}{a}(h:uq K w m c es a)(j:w'.heap[m]? =w.heap[m]?)(i:w'.heap[c]? =w.heap[c]?):uq K w' m c es a:=by obtain⟨k,b,seen,g,f,d,e⟩:=h;exact⟨k,b,seen,j.trans g,f,i.trans d,e⟩
theorem Ta{P}{w}{T i d}(K:KE κ)(e:P.underlying T=U (.map i d)){m}{es}(h:di K w m es):
  ∃o,(Instr.range T (cj (m))).run P w=aV (aE (w)) (w.alloc o)∧uq K (w.alloc o) m w es []:=by
 obtain⟨c,a,b,f⟩:=h;have g:(qc m).run P w=aV (iP c a) w:=by simp[qc,nE,b]
 refine⟨uc (U m) a #[] a,?_,c,a, #[],(dr _ _ _ (dc.1 b).1).trans b,f,iN w _,by simp⟩
 simp only[Instr.range,gK,run_underlying e,lH,g,uK,run_newObj_alloc]
theorem aaN{b:List l6}(h:(b.map (·.born)).Pairwise (· < ·)){e}(c:e∈b):b.find? (·.born==e.born)=e:=by
 induction b with
 |nil=>cases c
 |cons a l d=>
  simp only[fS,vQ] at h
  grind[List.mem_map_of_mem,beq_eq_false_iff_ne]
theorem aa9{K:KE κ}{c}{b}{es}(h:Reads K c b es){e}(d:e∈c.toList):∃k,(k,e.val)∈es∧e.key=K.enc k:=by
 have:(e.key,e.val)∈c.toList.map (λe=>(e.key,e.val)):=by grind
 rw[h.read] at this
 grind
theorem apS{K:KE κ}{c}{b}{es}(h:Reads K c b es){p}(d:p∈es):∃e∈c.toList,e.key=K.enc p.1∧e.val=p.2:=by
 have:(K.enc p.1,p.2)∈es.map (λp=>(K.enc p.1,p.2)):=by grind
 rw[<-h.read] at this
 grind
theorem apR{K:KE κ}{f}{d}{es}(h:Reads K f d es){e c}(o:e∈f.toList)(k:c∈f.toList)(m:e.key=c.key):e.born=c.born:=by
 have g:∀(l:List l6) (es:List (κ×ay)),l.map (λe=>(e.key,e.val))=es.map (λp=>(K.enc p.1,p.2))->(es.map (·.1)).Nodup->∀e∈l,∀c∈l,e.key=c.key->e.born=c.born:=by
  intro l;induction l with
  |nil=>grind
  |cons a l t=>
   intro es n r;cases es with
   |nil=>grind
   |cons p es=>
    simp only[fS,Eo,Ak,Ep] at n r;have j:∀e∈l,e.key≠a.key:=λe o m=>by
     have:(e.key,e.val)∈l.map (λe=>(e.key,e.val)):=by grind
     rw[n.2] at this;obtain⟨q,s,i⟩:=lR.1 this;simp only[Ak] at i;have:q.1=p.1:=K.inj (by grind)
     grind
    grind
 exact g f.toList es h.read h.nodup e o c k m
theorem aau{K}{g}{f}{es}(h:Reads K g f es){seen:List Nat}{c:List κ}
  (hs:seen.map (λb=>(g.toList.find? (·.born==b)).map (·.key))=c.map (λk=>U (K.enc k))) {e} (l:e∈g.toList) {k} (j:e.key=K.enc k):e.born∈seen↔k∈c:=by
 constructor
 ·intro m;have:(g.toList.find? (·.born==e.born)).map (·.key)∈seen.map (λb=>(g.toList.find? (·.born==b)).map (·.key)):=by grind
  rw[hs,aaN h.Jw l] at this;obtain⟨n,i,d⟩:=lR.1 this;simp only[ey,ec] at d;exact K.inj (d.trans j)▸i
 ·intro p;have:U (K.enc k)∈c.map (λk=>U (K.enc k)):=by grind
  rw[<-hs] at this;obtain⟨b,m,d⟩:=lR.1 this;cases o:g.toList.find? (·.born==b) with
  |none=>grind
  |some q=>
   grind[Option.some.injEq,List.mem_of_find?_eq_some,apR]
theorem Tb{P:bU}{w:av}(K:KE κ){m n:Nat}{es:List (κ×ay)}{g:List κ}(h:uq K w m n es g)(L:m≠n)(T:dZ):
  ((∀p∈es,p.1∈g)∧(AX (aE (U ⟨n,0,V⟩)) ai T).run P w=aV (bO #[cz ai]) w)∨
  (∃k v G,(k,v)∈es∧k∉g∧(AX (aE (U ⟨n,0,V⟩)) ai T).run P w=aV (bO #[cz Z,K.enc k,v]) G∧uq K G m n es (g++[k])∧O (λb=>b=n) w G∧G.heap.size=w.heap.size):=by
 obtain⟨o,d,seen,hb,x,X,a⟩:=h;have hg:(qc m).run P w=aV (iP o d) w:=by simp[qc,nE,hb]
 have N:(qc n).run P w=aV (uc (U m) d seen d) w:=by simp[qc,nE,X]
 have Q2:=(dc.1 X).1;have B:(!seen.isEmpty&& !o.isEmpty&&o.all (·.born≥d))=ai:=by
  rw[Bool.and_eq_false_iff];by_cases R:o.isEmpty
  ·grind
  ·right;cases Q1:o.toList with
   |nil=>simp at Q1;grind
   |cons e l=>
    rw[<-Array.all_toList,Q1];have:=x.below e (by grind)
    grind
 obtain⟨c,y⟩:=ex (o.filter λe=> !seen.contains e.born);have q:∀e,e∈c.toList↔e∈o.toList∧e.born∉seen.toList:=λe=>by
  grind
 have F:c.filter (·.born<d)=c:=by
  rw[Array.filter_eq_self];intro e R;have:=x.below e ((q e).1 (by grind)).1
  grind
 have E:c.filter (·.born≥d)= #[]:=by
  grind[Array.filter_eq_empty_iff]
 have f:∀(r:Result ay),(AX (aE (U ⟨n,0,V⟩)) ai T).run P w=r↔
   ((do
    match((if c.isEmpty then #[V] else #[])++c.map U)[<-choose (.mapNext ((if c.isEmpty then #[V] else #[])++c.map U:Array (Option l6)).size)]? with
    |some (U e)=>
     setObj n (uc (U m) d (seen.push e.born) d)
     bH (bO #[cz Z,e.key,e.val])
    |some V=>bH (bO #[cz ai])
    |none=>stuck "Next: no such candidate":cy ay).run P w=r):=λr=>by
  unfold AX;simp only[gK,N,hg,lH,B,nT,uJ];rw[<-y,F,E,Array.append_empty]
  grind
 by_cases aFo:c.isEmpty
 ·left;refine⟨λp hp=>?_,(f _).2 ?_⟩
  ·obtain⟨e,R,hk,_⟩:=apS x hp;refine(aau x a R hk).1 (nq λW=>?_)
   grind
  ·have Q0:c= #[]:=by grind
   rw[Q0];simp[gK,choose,nE,agW,lH]
 ·right;have D:0<c.size:=by
   grind
  have hd:∃(j:Nat) (i:av),j<c.size∧(choose (.mapNext ((if c.isEmpty then #[V] else #[])++c.map U:Array (Option l6)).size)).run P w=aV j i∧i.heap=w.heap∧i.os=w.os∧i.tape=w.tape∧i.output=w.output:=by
   have t:((if c.isEmpty then #[V] else #[])++c.map U:Array (Option l6)).size=c.size:=by grind
   rw[t];by_cases h1:c.size<=1
   ·exact⟨0,w,D,by simp[choose,nE,agW,h1],rfl,rfl,rfl,rfl⟩
   ·exact⟨(w.tape w.drawn (.mapNext c.size)) % c.size,{w with drawn:=w.drawn+1},Nat.mod_lt _ D,by simp[choose,nE,agW,h1,Question.cut],rfl,rfl,rfl,rfl⟩
  obtain⟨j,i,hj,S,u,I,H,M⟩:=hd;have Q3:c[j]∈c.toList:=by simp
  obtain⟨A,hns⟩:=(q _).1 Q3;obtain⟨k,Q,C⟩:=aa9 x A;have J:k∉g:=by grind[aau]
  have z:(setObj n (uc (U m) d (seen.push c[j].born) d)).run P i=aV () (i.putObj n (uc (U m) d (seen.push c[j].born) d)):=by
   have:i.heap[n]? =U (uc (U m) d seen d):=by grind
   simp[setObj,nE,this,World.putObj]
  refine⟨k,c[j].val,i.putObj n (uc (U m) d (seen.push c[j].born) d),Q,J,(f _).2 ?_,?_,?_,by simp[u]⟩
  ·have s:((if c.isEmpty then #[V] else #[])++c.map U:Array (Option l6))[j]? =U (U c[j]):=by
    grind
   simp only[gK,S,lH,s,z,uK,C]
  ·refine⟨o,d,seen.push c[j].born,(qE L).trans (by grind),x,Er (by grind),?_⟩
   simp only[UU,uI,fS,sg,a,aaN x.Jw A,ey,C]
  ·refine⟨I,H,M,by simp[u],λb _ W=>(qE W).trans (by rw[u])⟩
theorem Tc{P}{w}(K:KE κ){m p}{es}{j}{k}(h:uq K w m p es (j++[k])):
  ∃v,(k,v)∈es∧(Fc (aE (p))).run P w=aV (bO #[K.enc k,v]) w:=by
 obtain⟨l,c,seen,y,t,s,B⟩:=h;have x:(qc m).run P w=aV (iP l c) w:=by simp[qc,nE,y]
 have q:(qc p).run P w=aV (uc (m) c seen c) w:=by simp[qc,nE,s]
 have d:(seen.toList.map (λb=>(l.toList.find? (·.born==b)).map (·.key))).getLast? =U (U (K.enc k)):=by grind
 rw[List.getLast?_map] at d;obtain⟨b,u,f⟩:=xI.1 d;cases r:l.toList.find? (·.born==b) with
 |none=>grind
 |some e=>
  rw[r] at f;simp only[ey,ec] at f;have z:=OJ r;obtain⟨A,n,i⟩:=aa9 t z;have:=K.inj (i.symm.trans f);subst this;refine⟨e.val,n,?_⟩;have g:seen.back? =b:=by grind
  have o:l.find? (·.born==b)=e:=by grind
  unfold Fc;simp only[gK,q,x,lH,g,bne_self_eq_false,nT,uJ,o,i,uK]
attribute [local go_sem] Oper.semAt_some
def preB(pfx k:ByteArray):Bool:=LN k.data.toList pfx.data.toList
def qK(L:List s)(pfx:ByteArray):List ByteArray:=(L.map (·.key)).filter (preB pfx)
open Classical in
theorem abr {t:Type} {b c:List t} (p) (e:c.Nodup) (g:b.Nodup) (hs:∀a∈b,a∈c) {x} (f:x∈c) (h:x∉b) (i:p x=Z):
  ∃d,(b.filter p++x::d).Perm (c.filter p):=by
 refine⟨(c.filter p).filter (λa=>cq (a∉b++[x])),(List.perm_ext_iff_of_nodup ?_ (e.filter _)).2 λa=>?_⟩
 all_goals grind
theorem atz(G r m)(L)(pfx)(w)(Hi:w.cell? G=U (.map (m)))(qR:w.cell? r=U (.string pfx))(hB:cJ w m L):
  Iter Q 141 #[.pointer (U ⟨G,0,V⟩),.pointer (U ⟨r,0,V⟩)] (λk=> #[.string k]) (λks=>ks.Perm (qK L pfx)) (λb=>b=G∨b=r∨b=m) w:=by
 intro l J Jx W D0 hA Q0 Le hR hY h0;have QW:=di.of_block hB (hA.block m (by simp))
 have awg:=(eD (w:=w) (hA.block G (by simp))).trans Hi
 have j:=(eD (w:=w) (hA.block r (by simp))).trans qR
 obtain⟨o,Vw,n⟩:=Ta (P:=Q) (T:=107) nu zG QW;have R:=nU W _ j;have lm:=QW.lt;have AI:=hB.nodup;refine callsIn_of_wp YS rfl trivial ?_;simp only[ntmps141,uH,qB,lQ,ya,x9,vP,vO,vN,vM,vL,qC];gi_wp2
 gi_loopg [4] L.length (λk _ wr=>∃(d:List ByteArray) (D:Nat->Prop),k+d.length=L.length∧uq nu wr m W.heap.size (es L) d∧d.Nodup∧(∀x∈d,x∈L.map (·.key))∧
   J (d.filter (preB pfx)) wr D∧bT D0 W D wr∧¬D W.heap.size)
 case atStart=>
  have u:=Q0.lt _ _ _ h0;refine⟨[],D0,by simp,n,by simp,by simp,Q0.st _ _ _ _ h0 ((O.alloc (λ_=>False) _ _).fZ λb QX=>⟨u b QX,id⟩),.other (O.alloc _ _ _),λh=>absurd (u _ h) (by omega)⟩
 case round=>
  obtain⟨d,D,hk,n,H,c,hj,Q2,C⟩:=hrel;have WA:∀b,(b=G∨b=r∨b=m)->b<W->¬D b:=λb QX u hD=>by
   rcases Q2.2 b hD with h|h
   all_goals grind
  have kE:m≠W:=by omega
  have au4:=n.lt;have aFt:wr.cell? ⟨r,0,V⟩=U (.string pfx):=(Q2.1.cell R (λh=>hR r h (by simp))).trans j
  have HN:=X AI;have HL:=X Q2;have HJ:=X hj;have HY:=X hY;have HS:=X c;have Q1:=X H;have HK:=X hk;rcases Tb (P:=Q) nu n kE 0 with⟨QY,t⟩|⟨x,v,w2,Cr,q,t,f,M,Ar⟩
  ·have HA:=X QY;gi_wp2
   go_end0
   refine⟨⟨_,rfl⟩,.inl ⟨_,D,?_,HJ.out,HL.out⟩⟩;have hp:=(OI Q1.out HN.out).2 λa=>⟨HS.out a,λg=>by obtain⟨y,Q3,rfl⟩:=lR.1 g;exact HA.out (y.key,y.val) (UR (f:=λx:s=>(x.key,x.val)) Q3)⟩
   exact hp.filter _
  ·obtain⟨v',Cf,F⟩:=Tc (P:=Q) nu f;replace t:(AX (.pointer (U ⟨W.heap.size,0,V⟩)) ai 0).run Q wr=.ok (.tuple #[.bool Z,.string x,v]) w2:=t;replace F:(Fc (.pointer (U ⟨W.heap.size,0,V⟩))).run Q w2=.ok (.tuple #[.string x,v']) w2:=F;have hxk:x∈L.map (·.key):=by
    obtain⟨y,Q3,e⟩:=lR.1 Cr
    grind
   have hlen:d.length<L.length:=by
    have:=(Ep.2 ⟨q,H⟩).length_le_of_subset (l₂:=L.map (·.key)) (λa g=>by
     grind)
    grind
   have T:=Q0.st _ _ _ _ hj (M.fZ λb QX=>⟨Q0.lt _ _ _ hj b QX,λe=>C (e▸QX)⟩);have S:=Q2.step M (λb QX e=>by omega)
   have aFu:=(S.1.cell R (λh=>hR r h (by simp))).trans j
   have E:=X (⟨hxk,q⟩:x∈L.map (·.key)∧x∉d);have B:=X S;by_cases hp:preB pfx x=Z
   ·obtain⟨N,p⟩:=abr (preB pfx) HN.out Q1.out HS.out E.out.1 E.out.2 hp;obtain⟨fn,tmps,assign,body,Q3,mD⟩:=HY.out (d.filter (preB pfx)) x w2 D ⟨N,p⟩ T;have HR:=X mD;have I:=X hp;have Ms:=X p;have GV:=Q3
    gi_wp2_with (gi_at_call 71;refine(callsIn_wide.2 (YF _ _ _)).mono ?_;rintro e w' ⟨rfl,z⟩;subst z;rw[show LN x.data.toList pfx.data.toList=Z from I.out])
    refine HR.out.mono ?_;rintro e W' (⟨rfl,D',A,i⟩|⟨rfl,D',A,i⟩)
    ·gi_wp2
     gi_roundg (gk-1)
     case rel=>
      have K:=f.TK (i.1.block _ f.map.lt (WA m (by simp) lm)) (i.1.block _ f.lt C)
      refine⟨d++[x],D',by have:=HK.out;grind,K,?_,?_,?_,B.out.trans i,?_⟩
      ·rw[GD];exact⟨Q1.out,by simp,λa g b QX e=>E.out.2 (by grind)⟩
      ·intro a g;rcases qD.1 g with g|g
       ·exact HS.out a g
       ·rw[mA.1 g];exact E.out.1
      ·rw[B6,List.filter_cons_of_pos I.out];exact A
      ·intro h;rcases i.2 _ h with h|h
       ·grind
       ·have:=f.lt;omega
     case measure=>have:=HK.out;omega
    ·gi_wp2;refine bodyPost_ret (results_none rfl _ _ _) rfl ?_;exact⟨⟨_,rfl⟩,.inr ⟨_,D',⟨N,by rw[jy];exact Ms.out⟩,A,B.out.trans i⟩⟩
   ·have I:=X (show preB pfx x=ai by grind)
    gi_wp2_with (gi_at_call 71;refine(callsIn_wide.2 (YF _ _ _)).mono ?_;rintro e w' ⟨rfl,z⟩;subst z;rw[show LN x.data.toList pfx.data.toList=ai from I.out])
    gi_roundg (gk-1)
    case rel=>
     refine⟨d++[x],D,by have:=HK.out;grind,f,?_,?_,?_,B.out,C⟩
     ·rw[GD];exact⟨Q1.out,by simp,λa g b QX e=>E.out.2 (by grind)⟩
     ·intro a g;rcases qD.1 g with g|g
      ·exact HS.out a g
      ·rw[mA.1 g];exact E.out.1
     ·rw[B6,List.filter_cons_of_neg (by rw[I.out];simp),List.filter_nil,List.append_nil];exact T
    case measure=>have:=HK.out;omega
attribute [local go_sem] Oper.semAt_some
def Halt(p:Prop):Prop:=p
theorem Halt.of{p}(h:Halt p):p:=h
theorem bT.shift{D E c}{W W1 W'}(h:bT D W1 c W')(k:O (λ_=>False) W W1)(a:∀b,D b->E b):bT E W c W':=
 ⟨(k.mono λ_ _ f=>f.elim).trans' (h.1.mono (λb _=>a b)) (λ_ _ x=>x) (λ_ _ x=>x),λb d=>(h.2 b d).imp (a b) λx=>bq k.size x⟩
theorem bT.below{D d}{W0 W W'}(h:bT D W d W')(k:bC W0.heap.size W0 W)(c:∀b,D b->W0<=b):bC W0 W0 W':=
 ⟨h.1.os.trans k.os,h.1.tape.trans k.tape,h.1.output.trans k.output,bq k.size h.1.size,λb a=>(h.1.block b (cF a k.size) λx=>absurd (c b x) (by omega)).trans (k.block b a)⟩
theorem Iy{N}{W0 W}(h:bC N W0 W){l}(c:N<=l)(o):bC N W0 (W.putObj l o):=
 ⟨h.os,h.tape,h.output,by simpa using h.size,λb a=>(qE (by omega)).trans (h.block b a)⟩
theorem Eu:(Q.info? 9).map (λi=>(i.zero,i.size,i.bytes))=U (U (aG ⟨#[]⟩),1,16):=by kernel_rfl
theorem aAR(gf:Nat)(lb)(S)(R)(w)(P:∀n w,(iu gf n).run Q w=aV (jr gf n) w)
  (F:Iter Q gf lb (λk=> #[aG k]) S R w) (J:∀b,R b->b<w) (hN:∀j,S j->j.length<=1073741824):
  bE Q 206 #[aD V 0 0,dH (ep gf) #[] lb] w λe K=>∃j v,e=bj v∧S j∧K.ownsRow w 9 1 v j.length (j.map aG)∧bC w w K:=by
 obtain⟨a,hi,E,z,u⟩:=info_parts Eu;refine(callsIn_wide (n:=0)).1 (callsIn_of_wp_marks akx rfl trivial ?_ rfl);simp only[ntmps206,uH,qB,lQ,ya,x9,vP,vO,vN,vM,vL,qC];gi_wp2;refine wp_rangeFunc (gf:=gf) (lb:=lb) rfl P (F.later ((O.alloc (λ_=>False) w _).fZ λb c=>⟨J b c,id⟩)) (λb c=>by have:=J b c;simp;omega) (λ_=>rfl)
  (λf W D=>∃v,j7 W w 51 9 1 v f.length (f.map aG)∧D=qg w v) (λ_ _ _ _=>False)
  ⟨λf W D ⟨v,h,e⟩ b c=>h.lt b (e▸c),λf W D W' ⟨v,h,e⟩ ha=>⟨v,h.fZ λb c=>ha.block b (e▸c),e⟩⟩ (λ_=>⟨λ_ _ _ h=>h.elim,λ_ _ _ _ h=>h.elim⟩)
  (qg w (aD V 0 0)) (λb c=>?_) ⟨_,(j7.new w 51 9 1),rfl⟩ ?round ?done ?stop
 ·rcases c with rfl|c
  ·grind
  ·cases c
 case round=>
  rintro l f x W D Q2 uP H ⟨y,N⟩ ⟨v,i,rfl⟩ Q1;have L:f.length+1<=1073741824:=by grind
  gi_wp2;refine⟨⟨.refl _ _,λb c=>c.imp id (·.1)⟩,λW2 p=>?_⟩;have d:=i.fZ λb c=>p.block b λe=>H (e▸c);obtain⟨I,QW⟩:=d.cell;have m:=d.row;have t:=d.lt _ (ax rfl);have r:=X d
  gi_wp2_with (gi_at_builtin;go_must (refine wpListIn_append_own_at _ rfl _ _ 51 rfl (w+1) 9 a (aG ⟨#[]⟩) 1 16 FK hi E z u rfl (by decide) v f.length (f.map aG) rfl (m.alloc _) W2.heap.size 1 1 [x] rfl rfl (cell_one_new _ _ _) (by simp[za]) (by unfold uZ;omega) (by omega) (by simp;omega) ?_);intro v' w1 s o _ C;refine Halt.of ?_)
  obtain⟨g',M,A⟩:=ownsRow_succ s;have q:w≠v.ownBlock:=λe=>by have:=(m.lt _ e.symm).1;omega
  have sx:=(eD (w:=W2.alloc (aF #[x] 9)) (o.block _ (by simp;omega) q)).trans ((eD (w:=W2) (dr _ _ _ t)).trans I)
  have KT:=(B4 (w:=W2.alloc (aF #[x] 9)) (o.block _ (by simp;omega) q)).trans ((B4 (w:=W2) (dr _ _ _ t)).trans QW)
  subst A;unfold Halt;gi_wp2;obtain⟨h1,Q0⟩:=(X (j7.appended (j7.fZ r.out (λb c=>dr _ _ _ (j7.lt r.out b c))) o s C)).out;exact⟨_,⟨_,by grind,rfl⟩,Q0.shift (O.alloc _ _ _) λ_ h=>ax h⟩
 case done=>
  rintro j W D N ⟨v,i,rfl⟩ T Q3 G;obtain⟨I,QW⟩:=i.cell;have r:=X i;gi_wp2;refine⟨by simp,ax ⟨_,_,rfl,run_takeDeferred Q3,?_⟩⟩
  refine⟨_,results_tmp rfl _ _ _,j,v,rfl,(X N).out,dI (JC r.out.row λg B=>OR (r.out.row.lt g B).1) (λg B=>qE λe=>G (aA (e▸B))),?_⟩;refine Iy ((X T).out.below ((ei _ _).alloc (aW _) _) ?_) (by simp) _
  rintro b (rfl|c)
  ·grind
  ·cases c
 grind
theorem azj(gf:Nat)(lb)(S)(R)(w)(g:∀a w,(iu gf a).run Q w=aV (jr gf a) w)
  (d:Iter Q gf lb (λk=> #[aG k]) S R w) (i:∀b,R b->b<w) (l:∀c,S c->c.length<=1073741824):
  bE Q 185 #[dH (ep gf) #[] lb] w λe f=>∃c v,e=bj v∧S c∧f.ownsRow w 9 1 v c.length (c.map aG)∧bC w w f:=by
 go_enter akE,ntmps185;go_wp2_with (go_at_call 206;refine(aAR gf lb S R w g d i l).mono ?_;rintro e m ⟨c,v,rfl,h⟩;obtain j:=X h)
 go_ret;exact⟨c,v,rfl,j.out⟩
def jG(xs:List ByteArray):List ByteArray:=((xs.map (·.data.toList)).mergeSort λx y=>cq (x<=y)).map λl=>⟨l.toArray⟩
theorem Nl(xs):(jG xs).length=xs.length:=by simp[jG]
theorem amt(xs:List ByteArray):xs.map aG=(xs.map (·.data.toList)).map encStr:=by
 grind[List.map_map,List.map_congr_left]
theorem ams(xs):((xs.map (·.data.toList)).mergeSort λx y=>cq (x<=y)).map encStr=(jG xs).map aG:=by
 grind[jG,List.map_map,List.map_congr_left]
theorem amJ(gf:Nat)(lb)(S)(R)(w)(y:∀h w,(iu gf h).run Q w=aV (jr gf h) w)
  (m:Iter Q gf lb (λk=> #[aG k]) S R w) (A:∀b,R b->b<w) (G:∀c,S c->c.length<=1073741824):
  bE Q 123 #[dH (ep gf) #[] lb] w λe u=>∃c v,e=bj v∧S c∧u.ownsRow w 9 1 v c.length ((jG c).map aG)∧bC w w u:=by
 go_enter ak7,ntmps123;go_wp2_with (go_at_call 185;refine(azj gf lb S R w y m A G).mono ?_;rintro e C ⟨c,v,rfl,s,r,t⟩;refine Halt.of ?_)
 rcases r.2 with⟨rfl,z⟩|⟨g,o,E,rfl,i,p,J,D,K,I⟩
 ·have j:=X t;unfold Halt;go_wp2_with (go_at_call 186;refine(ajQ _ _ _).mono ?_;rintro e F ⟨rfl,f⟩;subst f)
  go_ret;refine⟨c,_,rfl,(X s).out,?_,j.out⟩;have:=B3 z;subst this;simpa[jG] using(X r).out
 ·have x:(c.map (·.data.toList)).length=c.length:=by simp
  have l:(c.map (·.data.toList)).length<4611686018427387904:=by grind
  have d:=ajR g 0 o (c.map (·.data.toList)) C (holds_of_block (ss:=c.map (·.data.toList)) p (by grind[List.length_map,amt])) ((dc.1 p).1) l
  rw[x] at d;have j:=X t;have B:=X p;unfold Halt;go_wp2_with (go_at_call 186;refine(X d).out.mono ?_;rintro e F ⟨rfl,n,H,f⟩;have q:=X f;clear f;refine Halt.of ?_)
  unfold Halt;go_wp2;go_ret;refine⟨c,_,rfl,(X s).out,?_,?_⟩
  ·rw[q.out,<-ams,<-x];exact ownsRow_sorted (by simp) i B.out (by omega) D (by grind)
  ·rw[q.out];exact j.out.grown (grownBy_sorted _) j.out.size (λL e=>by grind)
attribute [local go_sem] Oper.semAt_some
theorem amO{xs e}(h:xs.Perm e):jG xs=jG e:=by
 have:(xs.map (·.data.toList)).mergeSort (λx y=>cq (x<=y))=(e.map (·.data.toList)).mergeSort λx y=>cq (x<=y):=by
  have g:∀a b c:List UInt8,cq (a<=b)=Z->cq (b<=c)=Z->cq (a<=c)=Z:=λa b c j i=>by
   grind
  have f:∀a b:List UInt8,(cq (a<=b)||decide (b<=a))=Z:=λa b=>by
   grind
  exact OK (le:=λa b=>cq (a<=b)=Z) (λa b _ _ j i=>by grind) (Kc g f _) (Kc g f _)
   (((GC _ _).trans (h.map (λx:ByteArray=>x.data.toList))).trans (GC _ _).symm)
 grind[jG]
theorem Ji(xs):(jG xs).Perm xs:=by
 have:=(GC (xs.map (·.data.toList)) λx y=>cq (x<=y)).map λl:List UInt8=>(⟨l.toArray⟩:ByteArray);rw[En] at this;have e:(xs.map ((λl:List UInt8=>(⟨l.toArray⟩:ByteArray))∘λx=>x.data.toList))=xs:=by
  have:((λl:List UInt8=>(⟨l.toArray⟩:ByteArray))∘λx:ByteArray=>x.data.toList)=id:=by funext x;simp
  grind[List.map_id]
 rw[e] at this;exact this
theorem C5{P}{gf:Nat}{fn}{c}(a:P.funcs[gf]? =U fn)(d:fn.body=U c)(b:fn.name≠ "runtime.NumGoroutine")(args)(w):(iu gf args).run P w=aV (jr gf args) w:=by simp[iu,go_sem,a,d,b]
theorem adF(m)(L)(pfx)(w)(j:cJ w m L)(p:L.length<=1073741824):
  bE Q 86 #[cj (m),aG pfx] w λe k=>∃v,e=bj v∧k.ownsRow w 9 1 v (jG (qK L pfx)).length ((jG (qK L pfx)).map aG)∧bC w w k:=by
 have l:=j.lt;go_enter aj8,ntmps86;have c:=amJ 141 #[aE (U w.heap.size),aE (U ⟨w.heap.size+1,0,V⟩)] _ _ ((w.alloc (aF #[cj (U m)] 107)).alloc (aF #[pfx] 9)) (C5 YS rfl (by decide))
  (atz w (w+1) m L pfx _ (by go_simp) (by go_simp) ((j.alloc _).alloc _)) (λb f=>by rcases f with rfl|rfl|rfl<;>simp<;>omega)
  (λn h=>bq (by rw[h.length_eq];exact bq (Em _ _) (by simp)) p)
 go_wp2_with (go_at_call 123;refine(X c).out.mono ?_;rintro e r ⟨n,v,rfl,i,d,f⟩;have q:=gD.mk i d f)
 go_ret;obtain⟨i,d,f⟩:=q;refine⟨v,rfl,?_,(((ei _ _).alloc (aW _) _).alloc (by simp) _).trans (f.mono (by simp;omega))⟩
 rw[amO i,i.length_eq] at d;rw[Nl];exact JC d λg o=>by have:=(d.lt g o).1;simp at this;omega
attribute [local go_sem] Oper.semAt_some
instance:Inhabited s:=⟨⟨⟨#[]⟩,⟨#[]⟩,0,0,⟨#[]⟩⟩⟩
def od(L:List s)(k:ByteArray):s:=(lE L k).getD default
def dX(L:List s)(pfx:ByteArray):List s:=(jG (qK L pfx)).map (od L)
theorem asr{L}{pfx k}(b:k∈jG (qK L pfx))(z):(look (es L) k).getD z=(od L k).val:=by
 rw[JO,od];obtain⟨y,a,e⟩:=lR.1 ((xH.1 ((Ji _).subset b)).1);cases h:lE L k with
 |none=>exact absurd e (by simpa using List.find?_eq_none.1 h y a)
 |some y=>rfl
theorem XL(m)(pfx)(w):
  bE Q 52 #[cj (U m),aG pfx] w λe a=>e=bj (dH (ep 85) #[] #[aE (w),aE (U ⟨w+1,0,V⟩)])∧
   a=(w.alloc (aF #[cj (m)] 107)).alloc (aF #[pfx] 9):=by
 go_enter akh,ntmps52;go_wp2;go_ret;exact⟨rfl,rfl⟩
theorem XM(I bp m)(L)(pfx)(w)(Q2:w.cell? I=U (.map (m)))(C:w.cell? bp=U (.string pfx))(hB:cJ w m L)(hL:L.length<=1073741824):
  Iter Q 85 #[.pointer (U ⟨I,0,V⟩),.pointer (U ⟨bp,0,V⟩)] (λx=> #[x.val]) (λxs=>xs=dX L pfx) (λb=>b=I∨b=bp∨b=m) w:=by
 intro l J Jx W M hA hJ Le hR hY Q0;have E:=hB.of_block (hA.block m (by simp))
 have d:=(eD (w:=w) (hA.block I (by simp))).trans Q2
 have t:=(eD (w:=w) (hA.block bp (by simp))).trans C
 have lbb:=nU W _ d;have o:=adF m L pfx W E hL;obtain⟨K,Q1⟩:=ex (jG (qK L pfx));have S:dX L pfx=K.map (od L):=by rw[dX,Q1]
 have f:∀k∈K,∀z,(look (es L) k).getD z=(od L k).val:=by grind[asr]
 rw[<-Q1] at o;rw[S] at hY⊢;have HC:=X o;refine callsIn_of_wp MZ rfl trivial ?_;simp only[ntmps85,uH,qB,lQ,ya,x9,vP,vO,vN,vM,vL,qC]
 gi_wp2_with (gi_at_call 86;refine(callsIn_wide.2 HC.out).mono ?_;rintro e w1 ⟨v,rfl,ho,hb⟩;refine Halt.of ?_)
 have F:=hJ.st _ _ _ _ Q0 ((O.iL (F:=λ_=>False) hb).fZ λb K7=>⟨hJ.lt _ _ _ Q0 b K7,id⟩);have G:bT M W M w1:=.other (O.iL hb);have Q3:=hJ.lt _ _ _ Q0;rcases ho.2 with⟨rfl,hn⟩|⟨g,cap,cur,rfl,hg,P,vZ,xP,hn3,hn4⟩
 ·have hK0:=B3 hn;have HH:=cI.mk F G;subst hK0;unfold Halt;gi_wp2
  gi_loopg [10] 0 (λk s wr=>s=.int .i64 0∧wr=w1)
  case atStart=>grind
  case round=>
   obtain⟨rfl,rfl⟩:=hrel;gi_wp2
   go_end0
   exact⟨⟨_,rfl⟩,.inl ⟨_,M,rfl,HH.a,HH.b⟩⟩
 ·have sw:=(dc.1 P).1;have q:∀j (h:j<K.length),w1.cell? ⟨g,j,V⟩=U (.string K[j]):=λj h=>by
   have:=ho.cellAt j (by grind)
   grind
  have hKl:K.length<2^62:=by rw[Q1,Nl];exact Nat.lt_of_le_of_lt (bq (Em _ _) (by simpa using hL)) (by decide)
  have HO:=gD.mk F G Q3;have HL:=X f;have N:=X q;have HY:=X hY;have HR:=X hR;have HB:=gD.mk E d t;clear Q1 S f ho hb F G HC hY hA hJ Le hR Q0 hB E Q2 C d t hn3 hn4 P q Q3;unfold Halt;gi_wp2
  gi_loopg [10] K.length (λk s wr=>∃(j:Nat) (D:Nat->Prop),k+j=K.length∧s=.int .i64 j∧w1.heap.size<=wr.heap.size∧wr.heap[g]? =w1.heap[g]? ∧J ((K.take j).map (od L)) wr D∧bT M W D wr∧¬D g)
  case atStart=>exact⟨0,M,by omega,rfl,aW _,rfl,by simpa using HO.a,HO.b,λh=>by have:=HO.c _ h;omega⟩
  case round=>
   obtain⟨j,D,hk,rfl,a,A,hj,p,R⟩:=hrel;by_cases VS:j<K.length
   ·have hx:=(eD (w:=w1) A).trans (N.out j VS);obtain⟨x,y⟩:=ex (K[j]);rw[<-y] at hx;have aFx:=(p.1.cell lbb (λh=>HR.out I h (by simp))).trans HB.b
    have HM:=X (HB.a.keep p.1 (λh=>HR.out m h (by simp)))
    have ED:=X (HL.out x (y▸List.getElem_mem VS));obtain⟨r,i⟩:∃r,(K.take j).map (od L)++od L x::r=K.map (od L):=⟨(K.drop (j+1)).map (od L),by grind[List.getElem_cons_drop,List.take_append_drop]⟩
    have u:(K.take j).map (od L)++[od L x]=(K.take (j+1)).map (od L):=by grind[List.take_add_one]
    obtain⟨fn,tmps,assign,body,hy,B⟩:=HY.out ((K.take j).map (od L)) (od L x) wr D ⟨r,i⟩ hj;rw[u] at B;have zx:=X B;have T:=sV.mk p A a R;have Ms:=X i;have GV:=hy;clear hy B p A hj i R a N HL y
    gi_wp2_with (gi_at_lookup;refine ai0 _ nu rfl _ _ 107 rfl 9 46 zG rG _ (IW _) m (es L) x rfl HM.out rfl ?_;rw[ED.out])
    refine zx.out.mono ?_;rintro e W' (⟨rfl,D',n,c⟩|⟨rfl,D',n,c⟩)
    ·gi_wp2
     gi_roundg (gk-1)
     case rel=>
      obtain⟨hL0,h1,h2,h3⟩:=kp T;obtain⟨n,c⟩:=(X (bP n c)).out;refine⟨j+1,D',by omega,by go_simp,bq h2 c.1.size,(c.1.block g (by omega) h3).trans h1,n,hL0.trans c,λh=>?_⟩
      rcases c.2 _ h with h|h
      all_goals grind
     grind
    ·have H:=cI.mk n c;gi_wp2;refine bodyPost_ret (results_none rfl _ _ _) rfl ?_;exact⟨⟨_,rfl⟩,.inr ⟨_,D',⟨r,by rw[<-u,jy];exact Ms.out⟩,H.a,T.a.trans H.b⟩⟩
   ·have tU:j=K.length:=by omega
    subst tU;have HF:=cI.mk hj p;gi_wp2
    go_end0
    exact⟨⟨_,rfl⟩,.inl ⟨_,D,rfl,by simpa using HF.a,HF.b⟩⟩
def js(L:List s):Int:=L.foldr (λx n=>max n x.c) 0
theorem Xv(L):0<=js L:=by
 induction L with
 |nil=>exact Int.le_refl 0
 |cons x l a=>exact Int.le_trans a (ado _ _)
theorem asU{L}{x}(h:x∈L):x.c<=js L:=by
 induction L with
 |nil=>cases h
 |cons y l a=>
  rcases dh.1 h with rfl|h
  ·exact Int.le_max_right _ _
  ·exact Int.le_trans (a h) (ado _ _)
theorem ahg(L):js L=0∨∃x∈L,x.c=js L:=by
 induction L with
 |nil=>exact ax rfl
 |cons y l a=>
  show max (js l) y.c=0∨∃x∈y::l,x.c=max (js l) y.c
  grind
theorem azo{L}{n}(d:0<=n)(e:∀x∈L,x.c<=n)(b:n=0∨∃x∈L,x.c=n):n=js L:=by
 apply Int.le_antisymm
 ·rcases b with rfl|⟨x,a,rfl⟩
  ·exact Xv L
  ·exact asU a
 grind[ahg]
theorem atV{L:List s}(h:(L.map (·.key)).Nodup){x y}(a:x∈L)(b:y∈L)(e:x.key=y.key):x=y:=by
 induction L with
 |nil=>cases a
 |cons z l c=>
  grind
theorem Fo{G}{w d c}(h:bC w.heap.size w d)(k:O G d c)(e:∀x,x<w.heap.size->¬G x):bC w w c:=
 ⟨k.os.trans h.os,k.tape.trans h.tape,k.output.trans h.output,bq h.size k.size,λb a=>(k.block b (cF a h.size) (e b a)).trans (h.block b a)⟩
theorem azn(m)(L)(w)(G:cJ w m L):
  bE Q 118 #[cj (m)] w λe w'=>e=bj ((js L))∧bC w w w':=by
 have Q0:=G.lt;obtain⟨o,R,t⟩:=Ta (P:=Q) (T:=107) nu zG G;go_enter ala,ntmps118;go_wp2;go_loopg [3] L.length (λk Q3 wr=>∃(d:List ByteArray) (n:Int),k+d.length=L.length∧Q3=n∧uq nu wr m w (es L) d∧d.Nodup∧(∀x∈d,x∈L.map (·.key))∧
   0<=n∧(∀x∈L,x.key∈d->x.c<=n)∧(n=0∨∃x∈L,x.c=n)∧bC w w wr)
 case atStart=>exact⟨[],0,by simp,rfl,(X t).out,by simp,by simp,Int.le_refl 0,by simp,ax rfl,(ei _ _).alloc (aW _) _⟩
 case round=>
  obtain⟨d,n,c,rfl,t,u,q,A,C,E,g⟩:=hrel;have N:=Df.mk c u q A C E g;rcases Tb (P:=Q) nu t (by omega) 0 with⟨B,j⟩|⟨x,v,Q2,Cr,i,j,f,z,F⟩
  ·go_wp2;go_ret;obtain⟨-,-,-,b,h1,h2,hb⟩:=kp N;exact⟨by rw[<-azo b (λx J=>h1 x J ((X B).out (x.key,x.val) (UR (f:=λx:s=>(x.key,x.val)) J))) h2];rfl,hb⟩
  ·obtain⟨v',O,l⟩:=Tc (P:=Q) nu f;obtain⟨⟨S,T,K,H,Q1⟩,I,e⟩:=lR.1 O;simp only[Ak] at e;obtain⟨rfl,rfl⟩:=e;unfold s.val at l;obtain⟨x,p⟩:=ex (s.key ⟨S,T,K,H,Q1⟩);rw[<-p] at j l i f;replace j:(AX (aE (U w.heap.size)) ai 0).run Q wr=aV (bO #[Z,x,v]) Q2:=j;replace l:(Fc (aE (U w.heap.size))).run Q Q2=aV (bO #[x,bN #[S,T,K,H,Q1]]) Q2:=l;have D:x∈L.map (·.key):=by grind
   have r:d.length<L.length:=by
    have:=(Ep.2 ⟨i,u⟩).length_le_of_subset (l₂:=L.map (·.key)) (λa ha=>by
     grind)
    grind
   have W:=Bh.mk r D I i f z F p;go_wp2;go_roundg (gk-1)
   case rel=>
    obtain⟨c,u,q,A,C,E,g⟩:=kp N;obtain⟨r,D,I,i,f,z,F,p⟩:=kp W;refine⟨d++[x],max n K,by grind,rfl,(f.TK (dr _ _ _ f.map.lt) (dr _ _ _ f.lt)),?_,?_,?_,?_,?_,?_⟩
    ·grind
    ·grind
    ·grind
    ·intro y M P;rcases qD.1 P with h|h
     ·grind
     ·have:=atV (X G.nodup).out M I ((mA.1 h).trans p)
      grind
    ·grind
    ·exact((Fo g z (λx J e=>by omega)).alloc (by have:=g.size;omega) _)
   case measure=>have:=N.a;have:=W.a;omega
attribute [local go_sem] Oper.semAt_some
attribute [local go_sem] Oper.semAt_some
def aBj{α:Type}(P:bU)(gf:Nat)(lb:Array ay)(CI:α->Array ay)(S:List α->Prop)(R:Nat->Prop)(W0:av):Prop:=
 ∀(E:Nat) (cl:Array ay) (J V:List α->av->(Nat->Prop)->Prop) (W:av) (D0:Nat->Prop),(∀args w,(iu E args).run P w=aV (jr E args) w)->IV R W0 W->ql J->ql V->(∀b,D0 b->¬R b)->
  (∀(pre:List α) (x:α) (W1:av) (A:Nat->Prop),(∃U,S (pre++x::U))->J pre W1 A->CallsIn zg 0 P E (CI x++cl) W1 λe W'=>
   (e=bj (cz Z)∧∃D',J (pre++[x]) W' D'∧bT A W1 D' W')∨(e=bj (cz ai)∧∃D',V (pre++[x]) W' D'∧bT A W1 D' W'))->
  J [] W D0->
  CallsIn zg 0 P gf (#[dH (ep E) #[] cl]++lb) W λe W'=>(∃v,e=bj v)∧
   ((∃xs D',S xs∧J xs W' D'∧bT D0 W D' W')∨(∃pre D',(∃U,S (pre++U))∧V pre W' D'∧bT D0 W D' W'))
attribute [local go_sem] Oper.semAt_some
structure mH(m:Nat)(L:List s)(w0 W:av):Prop where
 book:cJ W m L
 below:bC w0.heap.size w0 W
 lt:m<w0.heap.size
theorem aid{m}{L}{w0 W}:mH m L w0 W.drew↔mH m L w0 W:=⟨λh=>⟨h.1.of_block rfl,⟨h.below.os,h.below.tape,h.below.output,h.below.size,h.below.block⟩,h.lt⟩,λh=>⟨h.1.of_block rfl,⟨h.below.os,h.below.tape,h.below.output,h.below.size,h.below.block⟩,h.lt⟩⟩
theorem mH.alloc{m}{L}{w0 W}(h:mH m L w0 W)(o):mH m L w0 (W.alloc o):=⟨h.1.alloc o,h.below.alloc h.below.size o,h.lt⟩
theorem mH.later{m}{L}{w0 W W'}(h:mH m L w0 W)(a:bC W W W'):mH m L w0 W':=⟨h.1.below a,h.below.trans (a.mono h.below.size),h.lt⟩
theorem mH.setCell{m}{L}{w0 W}(h:mH m L w0 W)(a)(v)(e:w0.heap.size<=a.block):mH m L w0 (W.setCell a v):=
 ⟨h.1.of_block (gy _ _ _ _ (by have:=h.lt;omega)),⟨h.below.os,h.below.tape,h.below.output,by simpa[jE] using h.below.size,λb d=>(gy _ _ _ _ (by omega)).trans (h.below.block b d)⟩,h.lt⟩
set_option maxHeartbeats 16000000 in
attribute [local simp] aid in
theorem aoz (m) (L) (n) (w) (S:cJ w m L) (hn:n.size<=4096):
  bE Q 68 #[cj (m),aG n] w λe D=>∃O R,e=bj (dH (ep 120) #[] #[aE (w),aE (U ⟨w+1,0,V⟩),aE (U ⟨R,0,V⟩),aE (U ⟨O,0,V⟩)])∧
   w+1<O∧w+1<R∧O≠R∧
   D.cell? w=U (cj (m))∧D.cell? ⟨w+1,0,V⟩=U (aG n)∧D.cell? R=U (cz (lE L (iA n ⟨#[]⟩)).isSome)∧
   D.cell? ⟨O,2,V⟩=U (Y aH ((lE L (iA n ⟨#[]⟩)).getD default).c)∧D.cell? ⟨O,3,V⟩=U (Y aH ((lE L (iA n ⟨#[]⟩)).getD default).r)∧
   bC w w D:=by
 have T:=S.lt;obtain⟨K,Q2⟩:=ex (iA n ⟨#[]⟩);rw[<-Q2];obtain⟨f,g⟩:=ex ((w.alloc (aF #[cj (U m)] 107)).alloc (aF #[aG n] 9));obtain⟨a,b,c,r,v,u,hc,hr⟩:∃a b c r v,(look (es L) K).getD (bN #[aG ⟨#[]⟩,aG ⟨#[]⟩,Y aH 0,Y aH 0,aG ⟨#[]⟩])=bN #[aG a,aG b,Y aH c,Y aH r,aG v]∧
   c=((lE L K).getD default).c∧r=((lE L K).getD default).r:=by
  rw[JO];cases h:lE L K with
  |none=>exact⟨_,_,_,_,_,rfl,rfl,rfl⟩
  |some y=>exact⟨_,_,_,_,_,rfl,rfl,rfl⟩
 have i:(look (es L) K).isSome=(lE L K).isSome:=by grind[JO]
 rw[<-hc,<-hr,<-i];obtain⟨G,l⟩:=ex ((look (es L) K).isSome);rw[<-l];have A:∀W,mH m L f W->(LO 107 (cj (m)) (K) Z).run Q W=aV (bO #[bN #[a,b,c,r,v],G]) W:=λW t=>by have:=ND (P:=Q) (T:=107) nu zG rG t.1 (IW W) K Z;rw[u,<-l] at this;exact this
 have h0:mH m L f f:=by rw[g];exact⟨(S.alloc _).alloc _,ei _ _,by simp;omega⟩
 have M:f.cell? w=U (cj (m)):=by rw[g];go_simp
 have N:f.cell? ⟨w+1,0,V⟩=U (aG n):=by rw[g];go_simp
 have C:f.heap.size=w+2:=by rw[g];simp
 have J:∀W,mH m L f W->W.cell? w=U (cj (m)):=λW t=>(t.below.cell (p:=⟨_,_,V⟩) (by grind)).trans M
 have P:∀W,mH m L f W->W.cell? ⟨w+1,0,V⟩=U (aG n):=λW t=>(t.below.cell (p:=⟨_,_,V⟩) (by grind)).trans N
 have z:∀W,mH m L f W->bE Q 119 #[bN #[n,aG ⟨#[]⟩,Y aH 0,Y aH 0,aG ⟨#[]⟩]] W λe H=>e=bj (K)∧mH m L f H∧(∀b o,b<W.heap.size->H.cell? ⟨b,o,V⟩=W.cell? ⟨b,o,V⟩)∧(∀b o,b<W.heap.size->H.frozen? ⟨b,o,V⟩=W.frozen? ⟨b,o,V⟩)∧(∀b,b<W.heap.size->b<H)∧f.heap.size<=H:=λW t=>
  (OU n ⟨#[]⟩ ⟨#[]⟩ 0 0 W hn (by decide)).mono λe H h=>⟨Q2▸h.1,t.later h.2,(A9 h.2).1,(A9 h.2).2,λb hb=>cF hb h.2.size,(t.later h.2).below.size⟩
 have x:=X z;have HW:=cI.mk C (show bC w.heap.size w f by rw[g];exact((ei _ _).alloc (aW _) _).alloc (by simp) _)
 go_enter akb,ntmps68;go_wp2;rw[<-g];clear z Q2 u hc hr i l g S C M N hn T
 go_region_held3 (λW=>mH m L f W)
  (with_reducible (((try rw[aid]);(repeat (first|assumption|refine mH.alloc ?_ _|(refine mH.setCell ?_ _ _ (by grind)))))))
  ((first
   |(go_at_call 119;refine Calls.mono (x.out _ ?hw) ?_;(case hw=>grind);rintro e D ⟨rfl,hl,I,k,QW,hz⟩)))
 all_goals
  rename_i j;obtain⟨Q1,E,B⟩:∃Q1,mH m L f Q1∧Q1=_:=⟨_,j,rfl⟩;rw[<-B];have C:=HW.a;have Q3:=X (J _ E);have AJ:=X (P _ E);have d:=X (HW.b.trans (E.below.mono (by grind)))
  have s:=X (QW f.heap.size);have F:=X B;have Q0:=cI.mk I k;clear J P A x h0 j QW B I k;go_wp2;go_ret;refine⟨_,_,rfl,?_,?_,?_,Q3.out,AJ.out,?_,?_,?_,d.out⟩
  ·grind
  ·grind
  ·have p:=s.out;grind[World.size_alloc,World.heap_drewN,heap_drew]
  ·have q:=F.out;obtain⟨I,k⟩:=kp Q0;have p:=s.out;simp only[uL,UQ] at p;rw[q];first|(go_simp;done)|(have q2:=p (by omega);rw[uG _ _ _ (by simp[jE];omega)];go_simp)
  ·have q:=F.out;obtain⟨I,k⟩:=kp Q0;have p:=s.out;simp only[uL,UQ] at p;rw[q];first|(go_simp;done)|(have q2:=p (by omega);rw[uG _ _ _ (by simp[jE];omega)];go_simp)
  ·have q:=F.out;obtain⟨I,k⟩:=Q0;have p:=s.out;simp only[uL,UQ] at p;rw[q];first|(go_simp;done)|(have q2:=p (by omega);rw[uG _ _ _ (by simp[jE];omega)];go_simp)
end
section
theorem amN{xs}(h:xs.Nodup):IJ (jG xs):=by
 have l:=Ji xs;have e:(jG xs).Nodup:=by grind
 have f:∀a b c:List UInt8,cq (a<=b)=Z->cq (b<=c)=Z->cq (a<=c)=Z:=λa b c g j=>by
  grind
 have i:∀a b:List UInt8,(cq (a<=b)||decide (b<=a))=Z:=λa b=>by
  grind
 have k:=Kc f i (xs.map (·.data.toList));have d:(jG xs).Pairwise λa b=>¬bl b<bl a:=by
  grind[jG]
 refine(List.Pairwise.and d e).imp λ{a b} ⟨g,j⟩=>?_;simp only[mZ,fI];by_cases h:bl a<bl b
 all_goals grind[zk,List.le_antisymm,List.not_lt]
theorem Bk.below{L l}(h:Bk L l)(pfx):dX L pfx=l.filter λx=>preB pfx x.key:=by
 have m:jG (qK L pfx)=(l.filter λx=>preB pfx x.key).map (·.key):=by
  refine IJ.unique (amN (h.nodup.filter _)) ?_ λn=>?_
  ·refine Ke.2 ?_;refine UT (λ{a b} o p g=>?_) (h.sorted.filter _);simp only[mZ,fI];exact(adH (h.lT a (xH.1 o).1) (h.lT b (xH.1 p).1)).2 g
  ·rw[(Ji _).mem_iff];unfold qK;rw[xH];simp only[lR,xH];constructor
   ·rintro⟨⟨y,f,rfl⟩,i⟩;exact⟨y,⟨h.perm.subset f,i⟩,rfl⟩
   ·rintro⟨y,⟨f,i⟩,rfl⟩;exact⟨⟨y,h.perm.symm.subset f,rfl⟩,i⟩
 unfold dX;rw[m,En];have:∀y∈l.filter λx=>preB pfx x.key,((od L)∘λx:s=>x.key) y=id y:=λy f=>by
  have d:=(xH.1 f).1;show od L y.key=y;unfold od lE;cases k:L.find? (λz=>cq (z.key=y.key)) with
  |none=>exact absurd rfl (WQ k y (h.perm.symm.subset d))
  |some z=>
   have j:=E2 k;have e:=h.perm.subset j.1;exact h.sorted.inj e d ((sameKey_iff (h.lT z e) (h.lT y d)).2 j.2)
 rw[JX this,List.map_id]
theorem Bk.gone{L l}(h:Bk L l)(n):lE L (iA n ⟨#[]⟩)=WG l n:=by
 unfold lE WG;rw[h.find];have e:∀q:List s,(∀x∈q,Good x)->q.find? (λy=>cq (y.key=iA n ⟨#[]⟩))=q.find? λy=>sameKey y ⟨n,⟨#[]⟩,0,0,⟨#[]⟩⟩:=λq a=>by
  induction q with
  |nil=>rfl
  |cons y q b=>
   have c:cq (y.key=iA n ⟨#[]⟩)=sameKey y ⟨n,⟨#[]⟩,0,0,⟨#[]⟩⟩:=by
    rw[Al,fI,atA (a y (by simp))]
    simp[sameKey]
   grind
 exact e l h.lT
def aao(L:List s)(n:ByteArray)(x:s):Bool:=
 !(cq (x.field=⟨#[]⟩)||(lE L (iA n ⟨#[]⟩)).isSome&& !xw x.c x.r ((lE L (iA n ⟨#[]⟩)).getD default).c ((lE L (iA n ⟨#[]⟩)).getD default).r)
def nO(L:List s)(n:ByteArray):List s:=(dX L (n++⟨#[46]⟩)).filter (aao L n)
theorem Bk.shown{L l}(h:Bk L l)(n):nO L n=P8 l n:=by
 unfold nO P8;rw[h.below,List.filter_filter];refine List.filter_congr λx b=>?_;have c:preB (n++⟨#[46]⟩) x.key=cq (x.name=n):=by rw[Al,preB,LN,List.isPrefixOf_iff_prefix,fI];have:=adK (h.lT x b) n;rw[<-this];simp[bl]
 rw[c];unfold aao aav;rw[h.gone]
 grind
theorem Bk.clock{L l}(h:Bk L l):js L=js l:=by unfold js;exact h.perm.foldr_eq' (λx _ y _ z=>by omega) 0
end
end Go.Proofs.YtpdbmpbmepkikaaGreatDoor
