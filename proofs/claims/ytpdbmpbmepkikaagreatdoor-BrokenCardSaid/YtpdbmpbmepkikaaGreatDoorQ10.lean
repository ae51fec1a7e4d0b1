/- Laws. -/
import Derived.Lib.ItoaLen
import Derived.Shelf.Strings.SlTrimAscii
import Derived.Stop.Asserts
import Derived.Lib.IfaceEq
import Derived.Lib.Zigzag
import Derived.Test.YtpdbmpbmepkikaaGreatDoorQ09
set_option maxRecDepth 100000
set_option maxHeartbeats 400000
set_option linter.all false
open Go.Proofs.Tryz
open And renaming intro->aM
open Array renaming replicate->tT
open Bool renaming true->Y,false->ai
open Decidable renaming decide->cg
open Go renaming method->Cd,wpListIn->Ue,undef->ak,World->ay,Value->az,Program->bW,Calls->bz,execOp->cX,Sem->cz,Oper->dJ,Addr->eT,yielded->eu,TypeId->ey,binOp->fZ,Operand->iT,results->kA,underlying->pq,maxLen->vg,unsupported->vh
open Go.Builtin renaming append_->aa6
open Go.Ending renaming returned->bj
open Go.Extern.ReflectliteType renaming relation->Ky,toType->Um,typeOf->Un,method->Up,assignableTo->aa9,abiMethod->abd,implements_->akE,elem->akL
open Go.Extern.ReflectliteValue renaming valueError->Ca,method->Cb,parts->GS,set->OQ,unpack->Ox,isNil->Ui,elem->Ul,methodAny->Uo,mk->akM,flagAddr->akN
open Go.Extern.Rtype renaming kind->Kt,directlyAssignable->Kx
open Go.Fn renaming func->ez
open Go.Instr renaming typeAssert->G5,lookup->OD,makeMap->OJ
open Go.IntKind renaming i64->aC,u8->aq,u64->cO
open Go.Lib renaming hasPrefix->OC,pow10Tab->aa8,setCells->zg,TabIs->zi
open Go.Obj renaming cells->aH,map->iZ,deferred->x6
open Go.Region renaming wanted->eX
open Go.Result renaming ok->aY,andThen->mg
open Go.RowKit renaming Below->aW,Hid->dD
open Go.Unsupported renaming noEntry->x7
open Go.Value renaming cells->Cf,int->V,string->aD,slice->aE,pointer->aG,agg->bJ,tuple->bO,bool->bQ,map->cq,func->dM,iface->iB,nilIface->nH,oneCell'->zh
open Go.World renaming alloc->EF,setCell->jk,cell?->pg
open Nat renaming reduceSub->wP,reduceAdd->wS
open Option renaming some->U,none->Z
open Or renaming inr->aA,inl->ax
open Pure renaming pure->bI
open UInt8 renaming ofNat->ru
namespace Go.Proofs.YtpdbmpbmepkikaaGreatDoor
def gQ:=@Go.RowKit.Below.heap_setCell
def jg:=@Go.Calls.mono
def YI:=@Go.heap_drew
def vR:=@Go.World.cell?_alloc_lt
def Ac:=@List.mem_filter
def M:=@Go.Joins.cell_of_block
def qO:=@Go.Joins.unfrozen_of_block
def dA:=@List.setIfInBounds_toArray
def dz:=@List.set_cons_zero
def dr:=@List.set_cons_succ
def vQ:=@Go.run_takeDeferred
def ag0:=@List.filter_cons_of_neg
def MI:=@List.filter_nil
def uI:=@List.append_nil
def Sf:=@List.filter_cons_of_pos
def aGo:=@List.dropWhile_cons
def awH:=@Go.Lib.toList_data
def aGn:=@Go.Lib.size_eq
def agZ:=@Go.Lib.setCells_size
def Jk:=@Go.World.cell?_alloc_at
def awG:=@Nat.eq_zero_or_pos
def j7:=@List.length_append
def Se:=@Go.World.frozen?_alloc_old
def Sd:=@Go.run_typeAssert_lacksB
def agY:=@Go.Lib.run_eql_iface_int
def aGm:=@UInt8.toNat_ofNat'
def agX:=@Go.Lib.run_append_own_string
def aGl:=@Go.IntKind.wrap_u64
section
open Go.RowKit
attribute [local go_sem] Oper.semAt_some
structure nK(m:Nat)(L:List O)(w0 W:ay):Prop where
 book:cI W m L
 below:aW w0.heap.size w0 W
 lt:m<w0.heap.size
theorem alT{m}{L}{w0 W}:nK m L w0 W.drew↔nK m L w0 W:=⟨λh=>⟨h.1.of_block rfl,⟨h.below.os,h.below.tape,h.below.output,h.below.size,h.below.block⟩,h.lt⟩,λh=>⟨h.1.of_block rfl,⟨h.below.os,h.below.tape,h.below.output,h.below.size,h.below.block⟩,h.lt⟩⟩
theorem nK.alloc{m}{L}{w0 W}(h:nK m L w0 W)(o):nK m L w0<|W.alloc o:=⟨h.1.alloc o,h.below.alloc h.below.size o,h.lt⟩
theorem nK.later{m}{L}{w0 W W'}(h:nK m L w0 W)(a:aW W W W'):nK m L w0 W':=⟨h.1.below a,h.below.trans<|a.mono h.below.size,h.lt⟩
theorem nK.setCell{m}{L}{w0 W}(h:nK m L w0 W)(a)(v)(e:w0.heap.size<=a.block):nK m L w0<|W.setCell a v:=⟨h.1.of_block<|gQ _ _ _ _<|by have:=h.lt;omega,⟨h.below.os,h.below.tape,h.below.output,by simpa[jk]using h.below.size,λb d=>(gQ _ _ _ _<|by omega).trans<|h.below.block b d⟩,h.lt⟩
set_option maxHeartbeats 16000000 in
attribute[local simp]alT in
theorem asj(m)(L)(n)(w)(S:cI w m L)(hn:n.size<=4096):bz Q 68 #[cq m,aD n] w λe D=>∃O R,e=bj (dM (ez 120) #[] #[aG w,aG<|U ⟨w+1,0,Z⟩,aG<|U ⟨R,0,Z⟩,aG<|U ⟨O,0,Z⟩])/\w+1<O/\w+1<R/\O≠R/\D.cell? w=U (cq m)/\D.cell? ⟨w+1,0,Z⟩=U (aD n)/\D.cell? R=U (bQ (l8 L<|iG n ⟨#[]⟩).isSome)/\D.cell? ⟨O,2,Z⟩=U (V aC ((l8 L<|iG n ⟨#[]⟩).getD default).c)/\D.cell? ⟨O,3,Z⟩=U (V aC ((l8 L<|iG n ⟨#[]⟩).getD default).r)/\aW w w D:=by
 have T:=S.lt;obtain⟨K,Q1⟩:=ex<|iG n ⟨#[]⟩;rw[<-Q1];obtain⟨f,g⟩:=ex<|(w.alloc<|aH #[cq<|U m] 107).alloc<|aH #[aD n] 9;obtain⟨a,b,c,r,v,u,hc,hr⟩:∃a b c r v,(look (es L) K).getD (bJ #[aD ⟨#[]⟩,aD ⟨#[]⟩,V aC 0,V aC 0,aD ⟨#[]⟩])=bJ #[aD a,aD b,V aC c,V aC r,aD v]/\c=((l8 L K).getD default).c/\r=((l8 L K).getD default).r:=by rw[Mq];cases h:l8 L K with|none=>exact⟨_,_,_,_,_,rfl,rfl,rfl⟩|some y=>exact⟨_,_,_,_,_,rfl,rfl,rfl⟩
 have i:(look (es L) K).isSome=(l8 L K).isSome:=by grind[Mq]
 rw[<-hc,<-hr,<-i];obtain⟨G,l⟩:=ex (look (es L) K).isSome;rw[<-l];have A:∀W,nK m L f W->(OD 107 (cq m) K Y).run Q W=aY (bO #[bJ #[a,b,c,r,v],G]) W:=λW t=>by have:=QM (P:=Q) (T:=107) nx zM sZ t.1 (Hw W) K Y;rw[u,<-l]at this;exact this
 have h0:nK m L f f:=by rw[g];exact⟨(S.alloc _).alloc _,eo _ _,by simp;omega⟩
 have M:f.cell? w=U (cq m):=by rw[g];go_simp
 have N:f.cell? ⟨w+1,0,Z⟩=U (aD n):=by rw[g];go_simp
 have C:f.heap.size=w+2:=by rw[g];simp
 have J:∀W,nK m L f W->W.cell? w=U (cq m):=λW t=>(t.below.cell (p:=⟨_,_,Z⟩)<|by grind).trans M;have P:∀W,nK m L f W->W.cell? ⟨w+1,0,Z⟩=U (aD n):=λW t=>(t.below.cell (p:=⟨_,_,Z⟩)<|by grind).trans N;have z:∀W,nK m L f W->bz Q 119 #[bJ #[n,aD ⟨#[]⟩,V aC 0,V aC 0,aD ⟨#[]⟩]] W λe H=>e=bj K/\nK m L f H/\(∀b o,b<W.heap.size->H.cell? ⟨b,o,Z⟩=W.cell? ⟨b,o,Z⟩)/\(∀b o,b<W.heap.size->H.frozen? ⟨b,o,Z⟩=W.frozen? ⟨b,o,Z⟩)/\(∀b,b<W.heap.size->b<H)/\f.heap.size<=H:=λW t=>(Sy n ⟨#[]⟩ ⟨#[]⟩ 0 0 W hn<|by decide).mono λe H h=>⟨Q1▸h.1,t.later h.2,(Cw h.2).1,(Cw h.2).2,λb hb=>cE hb h.2.size,(t.later h.2).below.size⟩;have x:=X z;have HW:=cH.mk C (show aW w.heap.size w f by rw[g];exact((eo _ _).alloc (aS _) _).alloc (by simp) _);go_enter anW,ntmps68;go_wp2;rw[<-g];clear z Q1 u hc hr i l g S C M N hn T;go_region_held3λW=>nK m L f W(with_reducible(((try rw[alT]);(repeat(first|assumption|refine nK.alloc ?_ _|(refine nK.setCell ?_ _ _<|by grind))))))((first|(go_at_call 119;refine jg (x.out _ ?hw) ?_;(case hw=>grind);rintro e D⟨rfl,hl,I,k,QW,hz⟩)));all_goals
  rename_i j;obtain⟨Q2,E,B⟩:∃Q2,nK m L f Q2/\Q2=_:=⟨_,j,rfl⟩;rw[<-B];have C:=HW.a;have Q3:=X<|J _ E;have B4:=X<|P _ E;have d:=X (HW.b.trans<|E.below.mono<|by grind);have s:=X<|QW f.heap.size;have F:=X B;have Q0:=cH.mk I k;clear J P A x h0 j QW B I k;go_wp2;go_ret;refine⟨_,_,rfl,?_,?_,?_,Q3.out,B4.out,?_,?_,?_,d.out⟩;.grind
  .grind
  .have p:=s.out;grind[World.size_alloc,World.heap_drewN,heap_drew]
  .have q:=F.out;obtain⟨I,k⟩:=kp Q0;have p:=s.out;simp only[vX,YI]at p;rw[q];first|(go_simp;done)|(have q2:=p (by omega);rw[vR _ _ _<|by simp[jk];omega];go_simp)
  .have q:=F.out;obtain⟨I,k⟩:=kp Q0;have p:=s.out;simp only[vX,YI]at p;rw[q];first|(go_simp;done)|(have q2:=p (by omega);rw[vR _ _ _<|by simp[jk];omega];go_simp)
  .have q:=F.out;obtain⟨I,k⟩:=Q0;have p:=s.out;simp only[vX,YI]at p;rw[q];first|(go_simp;done)|(have q2:=p (by omega);rw[vR _ _ _<|by simp[jk];omega];go_simp)
end
section
theorem aqy{xs}(h:xs.Nodup):KW<|jS xs:=by
 have l:=LG xs;have e:(jS xs).Nodup:=by grind
 have f:∀a b c:List UInt8,cg (a<=b)=Y->cg (b<=c)=Y->cg (a<=c)=Y:=λa b c g j=>by grind
 have i:∀a b:List UInt8,(cg (a<=b)||decide (b<=a))=Y:=λa b=>by grind
 have k:=MJ f i (xs.map (·.data.toList));have d:(jS xs).Pairwise λa b=>¬bl b<bl a:=by grind[jS]
 refine(List.Pairwise.and d e).imp λ{a b}⟨g,j⟩=>?_;simp only[oc,fO];by_cases h:bl a<bl b;all_goals grind[zu,List.le_antisymm,List.not_lt]
theorem Bk.below{L l}(h:Bk L l)(pfx):dS L pfx=l.filter λx=>preB pfx x.key:=by
 have m:jS (qS L pfx)=(l.filter λx=>preB pfx x.key).map (·.key):=by
  refine KW.unique (aqy<|h.nodup.filter _) ?_ λn=>?_;·refine List.pairwise_map.2 ?_;refine List.Pairwise.imp_of_mem (λ{a b}o p g=>?_)<|h.sorted.filter _;simp only[oc,fO];exact(ahl (h.nE a (Ac.1 o).1)<|h.nE b (Ac.1 p).1).2 g
  ·rw[(LG _).mem_iff];unfold qS;rw[Ac];simp only[mC,Ac];constructor;·rintro⟨⟨y,f,rfl⟩,i⟩;exact⟨y,⟨h.perm.subset f,i⟩,rfl⟩
   ·rintro⟨y,⟨f,i⟩,rfl⟩;exact⟨⟨y,h.perm.symm.subset f,rfl⟩,i⟩
 unfold dS;rw[m,FX];have:∀y∈l.filter λx=>preB pfx x.key,(jj L∘λx:O=>x.key) y=id y:=λy f=>by have d:=(Ac.1 f).1;show jj L y.key=y;unfold jj l8;cases k:L.find? λz=>cg<|z.key=y.key with|none=>exact absurd rfl<|aaJ k y<|h.perm.symm.subset d|some z=>have j:=GK k;have e:=h.perm.subset j.1;exact h.sorted.inj e d<|(sameKey_iff (h.nE z e)<|h.nE y d).2 j.2
 rw[Mz this,List.map_id]
theorem Bk.gone{L l}(h:Bk L l)(n):l8 L (iG n ⟨#[]⟩)=aaA l n:=by
 unfold l8 aaA;rw[h.find];have e:∀q:List O,(∀x∈q,Good x)->q.find? λy=>cg<|y.key=iG n ⟨#[]⟩=q.find? λy=>sameKey y ⟨n,⟨#[]⟩,0,0,⟨#[]⟩⟩:=λq a=>by induction q with|nil=>rfl|cons y q b=>
   have c:cg (y.key=iG n ⟨#[]⟩)=sameKey y ⟨n,⟨#[]⟩,0,0,⟨#[]⟩⟩:=by rw[BD,fO,aw7<|a y<|by simp];simp[sameKey]
   grind
 exact e l h.nE
def ad7(L:List O)(n:ByteArray)(x:O):Bool:=!(cg (x.field=⟨#[]⟩)||(l8 L<|iG n ⟨#[]⟩).isSome&&!xE x.c x.r ((l8 L<|iG n ⟨#[]⟩).getD default).c ((l8 L<|iG n ⟨#[]⟩).getD default).r)
def oN(L:List O)(n:ByteArray):List O:=(dS L<|n++⟨#[46]⟩).filter<|ad7 L n
theorem Bk.shown{L l}(h:Bk L l)(n):oN L n=TU l n:=by
 unfold oN TU;rw[h.below,List.filter_filter];refine List.filter_congr λx b=>?_;have c:preB (n++⟨#[46]⟩) x.key=cg (x.name=n):=by rw[BD,preB,OC,List.isPrefixOf_iff_prefix,fO];have:=aho (h.nE x b) n;rw[<-this];simp[bl]
 rw[c];unfold ad7 aee;rw[h.gone];grind
theorem Bk.clock{L l}(h:Bk L l):jM L=jM l:=by unfold jM;exact h.perm.foldr_eq' λx _ y _ z=>by omega 0
end
section
open Go.RowKit
abbrev fQ(w:ay):Prop:=zi Q w "internal/strconv.uint64pow10" cO aa8
theorem Fv:Q.globalNamed "internal/strconv.uint64pow10"=U 3:=by kernel_rfl
theorem fQ.of_block{w w'}(h:fQ w)(a:w'.heap[3]?=w.heap[3]?):fQ w':=by unfold fQ zi World.var? at h⊢;grind[Fv]
theorem fQ.lt{w}(h:fQ w):3<w.heap.size:=by unfold fQ zi World.var? at h;grind[Fv,Nat.lt_or_ge,Array.getElem?_eq_none]
theorem fQ.keep{F}{w w'}(h:fQ w)(b:aK F w w')(a:¬F 3):fQ w':=h.of_block<|b.block 3 h.lt a
theorem fQ.below{N}{w w'}(h:fQ w)(a:aW N w w')(b:w<=N):fQ w':=h.of_block<|a.block 3<|cE h.lt b
def K9(w0 W:ay):Prop:=aW w0.heap.size w0 W
theorem aEx(w0 W):K9 w0 W.drew↔K9 w0 W:=⟨λh=>⟨h.os,h.tape,h.output,h.size,h.block⟩,λh=>⟨h.os,h.tape,h.output,h.size,h.block⟩⟩
def Ah(n:Int):ByteArray:=⟨(Lib.itoa n).toArray⟩
def gu(n:Int):Prop:=-9223372036854775808<=n/\n<=9223372036854775807
theorem axg(n)(h:gu n)(w)(c:fQ w):bz Q 140 #[n] w λe a=>e=bj (Ah n)/\aW w w a:=by refine(anA n h.1 h.2 w c).mono ?_;rintro e a⟨rfl,k,f,rfl⟩;refine⟨rfl,rfl,rfl,rfl,by simp[Sort.grow],λb d=>?_⟩;rw[Sort.heap_grow_old _ _<|by simpa using d];rfl
theorem Jz(n)(h:gu n):(Ah n).size<=21:=by simpa[Ah,ByteArray.size]using Lib.itoa_length_le n h.1 h.2
def Dt(x:O):ByteArray:=x.name++⟨#[46]⟩++x.field++⟨#[32]⟩++Ah x.c++⟨#[32]⟩++Ah x.r++⟨#[32]⟩++Ah x.value.size++⟨#[32]⟩++x.value++⟨#[10]⟩
attribute [local simp] aEx in
theorem awa (n f v) (c r) (w) (I:fQ w) (Q2:n.size<=4096) (hf:f.size<=4096) (R:v.size<=4096) (F:gu c) (C:gu r):
  bz Q 84 #[bJ #[aD n,aD f,c,r,aD v]] w λe l=>e=bj ((Dt ⟨n,f,c,r,v⟩))∧aW w w l:=by
 have y:gu v.size:=by constructor<;>omega
 obtain⟨a,m⟩:∃s,Ah c=s:=⟨_,rfl⟩;obtain⟨b,p⟩:∃s,Ah r=s:=⟨_,rfl⟩;obtain⟨d,t⟩:∃s,Ah v.size=s:=⟨_,rfl⟩;have X:a.size<=21:=by grind[Jz]
 have z2:b.size<=21:=by grind[Jz]
 have z3:d.size<=21:=by grind[Jz]
 have g:∀W,K9 (w.alloc (aH #[n,f,c,r,v] 46)) W->∀k s,gu k->Ah k=s->bz Q 140 #[k] W λe q=>e=bj (s)∧
   (∀o,q.cell? ⟨w,o,Z⟩=W.cell? ⟨w,o,Z⟩)∧K9 (w.alloc (aH #[n,f,c,r,v] 46)) q:=λW j k s J Q3=>
  (axg k J W ((I.keep (aK.alloc (λ_=>False) _ _) id).below j (Nat.le_refl _))).mono λe q h=>⟨by grind,λo=>(Cw h.2).1 _ _ (Nat.lt_of_lt_of_le (by simp) j.size),j.trans (h.2.mono j.size)⟩
 have x:=Lib.hid g;have K:K9 (w.alloc (aH #[n,f,c,r,v] 46)) (w.alloc (aH #[n,f,c,r,v] 46)):=Below.refl _ _;have i:=gF.mk m p t;have u:=gF.mk F C y;have M:¬((9223372036854775807:Nat)<n.size+1):=by omega
 have T:¬((9223372036854775807:Int)<(n.size:Int)+1+(f.size:Int)):=by omega
 have j3:¬((9223372036854775807:Nat)<n.size+1+f.size):=by omega
 have P:¬((9223372036854775807:Int)<(n.size:Int)+1+(f.size:Int)+1):=by omega
 have N:¬((9223372036854775807:Nat)<n.size+1+f.size+1):=by omega
 have k5:¬((9223372036854775807:Int)<(n.size:Int)+1+(f.size:Int)+1+(a.size:Int)):=by omega
 have Q1:¬((9223372036854775807:Nat)<n.size+1+f.size+1+a.size):=by omega
 have O:¬((9223372036854775807:Int)<(n.size:Int)+1+(f.size:Int)+1+(a.size:Int)+1):=by omega
 have j6:¬((9223372036854775807:Nat)<n.size+1+f.size+1+a.size+1):=by omega
 have S:¬((9223372036854775807:Int)<(n.size:Int)+1+(f.size:Int)+1+(a.size:Int)+1+(b.size:Int)):=by omega
 have QW:¬((9223372036854775807:Nat)<n.size+1+f.size+1+a.size+1+b.size):=by omega
 have Q0:¬((9223372036854775807:Int)<(n.size:Int)+1+(f.size:Int)+1+(a.size:Int)+1+(b.size:Int)+1):=by omega
 have j8:¬((9223372036854775807:Nat)<n.size+1+f.size+1+a.size+1+b.size+1):=by omega
 have k9:¬((9223372036854775807:Int)<(n.size:Int)+1+(f.size:Int)+1+(a.size:Int)+1+(b.size:Int)+1+(d.size:Int)):=by omega
 have j9:¬((9223372036854775807:Nat)<n.size+1+f.size+1+a.size+1+b.size+1+d.size):=by omega
 have L:¬((9223372036854775807:Int)<(n.size:Int)+1+(f.size:Int)+1+(a.size:Int)+1+(b.size:Int)+1+(d.size:Int)+1):=by omega
 have G:¬((9223372036854775807:Nat)<n.size+1+f.size+1+a.size+1+b.size+1+d.size+1):=by omega
 have E:¬((9223372036854775807:Int)<(n.size:Int)+1+(f.size:Int)+1+(a.size:Int)+1+(b.size:Int)+1+(d.size:Int)+1+(v.size:Int)):=by omega
 have B:¬((9223372036854775807:Nat)<n.size+1+f.size+1+a.size+1+b.size+1+d.size+1+v.size):=by omega
 have D:¬((9223372036854775807:Int)<(n.size:Int)+1+(f.size:Int)+1+(a.size:Int)+1+(b.size:Int)+1+(d.size:Int)+1+(v.size:Int)+1):=by omega
 have H:¬((9223372036854775807:Nat)<n.size+1+f.size+1+a.size+1+b.size+1+d.size+1+v.size+1):=by omega
 go_enter anU,ntmps84;go_wp2
 go_region_held3 (λW=>W.cell? ⟨w.heap.size,0,Z⟩=U (aD n)∧W.cell? ⟨w.heap.size,1,Z⟩=U (aD f)∧W.cell? ⟨w.heap.size,2,Z⟩=U (V aC c)∧W.cell? ⟨w.heap.size,3,Z⟩=U (V aC r)∧W.cell? ⟨w.heap.size,4,Z⟩=U (aD v)∧K9 (w.alloc (aH #[aD n,aD f,V aC c,V aC r,aD v] 46)) W)
  (go_keep)
  ((first
   |(go_at_call 140;refine(x.out _ ?hw c a u.a i.a).mono ?_;(case hw=>grind);rintro e l ⟨rfl,z,A⟩)
   |(go_at_call 140;refine(x.out _ ?hw r b u.b i.b).mono ?_;(case hw=>grind);rintro e l ⟨rfl,z,A⟩)
   |(go_at_call 140;refine(x.out _ ?hw v.size d u.c i.c).mono ?_;(case hw=>grind);rintro e l ⟨rfl,z,A⟩)))
 go_wp2;go_ret;refine⟨?_,((Below.refl _ _).alloc (Nat.le_refl _) _).trans (Below.mono (by assumption) (by simp))⟩
 rw[Dt,i.a,i.b,i.c];rfl
attribute [local go_sem] Oper.semAt_some
theorem aCG(w)(s):∃a o,(convert 9 79<|aD s).run Q w=aY (aE w s.size a) (w.drew.alloc o)/\∀j(h),(w.drew.alloc o).cell? ⟨w,j,Z⟩=U (V aq s.data[j].toNat):=by refine⟨_,_,run_bytes_of_string w 9 79 5 s sZ uv zL,λj b=>?_⟩;rw[show w.heap.size=w.drew from rfl,World.cell?_alloc_mark];grind[bytesRow_at]
structure Fit(x:O):Prop where
 name:x.name.size<=4096
 field:x.field.size<=4096
 value:x.value.size<=4096
 c:gu x.c
 r:gu x.r
theorem awb{x}(h:Fit x):(Dt x).size<=20000:=by have:=Jz _ h.c;have:=Jz _ h.r;have:=Jz x.value.size (by have:=h.value;constructor<;>omega);have:=h.name;have:=h.field;have:=h.value;simp only[Dt,ByteArray.size_append];simp only[ByteArray.size,tF,qi,lG]at*;omega
theorem aDu{L}{pfx}{x}(h:x∈dS L pfx):x∈L:=by obtain⟨k,c,rfl⟩:=mC.1 h;obtain⟨y,b,e⟩:=mC.1 (Ac.1<|(LG _).subset c).1;rw[jj];cases a:l8 L k with|none=>exact absurd e<|by simpa using List.find?_eq_none.1 a y b|some z=>exact Sj a
def LC(h c:Int):Int:=cO.wrap<|Go.bits BinOp.xor cO h (cO.wrap c)*1099511628211
def Ef(h:Int)(l:List UInt8):Int:=l.foldl (λh c=>LC h c.toNat) h
def To(h:Int)(s:ByteArray):Int:=Ef h s.data.toList
theorem azX(h)(l:List UInt8)(j)(a):Ef h (l.take<|j+1)=LC (Ef h<|l.take j) l[j].toNat:=by grind[Ef,List.take_add_one]
def t(l:List O):Int:=l.foldl (λh x=>To h<|Dt x) 14695981039346656037
theorem azY(l)(x):t (l++[x])=To (t l) (Dt x):=by grind[t]
structure Pu(N:Nat)(o3:Option Obj)(pre:List O)(W:ay)(D:Nat->Prop):Prop where
 sum:W.heap[N+1]?=U (aH #[V cO<|t pre] 120 (0,0))tab:W.heap[3]?=o3
 arr:W.heap[N]?=U (aH #[V aq 0,V aq 0,V aq 0,V aq 0,V aq 0,V aq 0,V aq 0,V aq 0] 76 (0,0))own:D=λb=>b=N+1\/b=3\/b=N
theorem Pu.owned(N)(g)(i:3<N):pH<|Pu N g:=⟨λd W D⟨h,f,a,e⟩b k=>by grind,λd W D j⟨h,f,a,e⟩c=>by subst e;exact⟨(c.block _<|ax rfl).trans h,(c.block _<|aA<|ax rfl).trans f,(c.block _<|aA<|aA rfl).trans a,rfl⟩⟩
def iR(h:Int):az:=bJ #[V aq<|h/72057594037927936%256,V aq<|h/281474976710656%256,V aq<|h/1099511627776%256,V aq<|h/4294967296%256,V aq<|h/16777216%256,V aq<|h/65536%256,V aq<|h/256%256,V aq<|h%256]
structure vC(N T:Nat)(W0:ay)(cs:Array az)(W:ay):Prop where block:W.heap[N]?=U (aH cs T (0,0))keep:aK (λb=>b=N) W0 W
theorem vC.set{N T}{W0 W}{cs}(h:vC N T W0 cs W)(i)(v):vC N T W0 (cs.setIfInBounds i v)<|W.setCell ⟨N,i,Z⟩ v:=by refine⟨?_,h.keep.trans<|aK.setCell _ _ _ rfl⟩;simp only[jk,Ae,h.block,eG,iW];rfl
theorem aaY(m)(L)(pfx)(w)(R:cI w m L)(hL:L.length<=1073741824)(T:fQ w)(hF:∀x∈L,Fit x):bz Q 51 #[cq m,aD pfx] w λe w'=>e=bj (iR<|t<|dS L pfx)∧aW w w w':=by
 have lq:=R.lt;have hm3:m≠3:=by rintro rfl;obtain⟨en,clock,z,_⟩:=R;unfold fQ zi World.var? at T;grind[Fv]
 have h3:=T.lt;refine callsIn_wide (n:=0).1<|callsIn_of_wp_marks an3 rfl trivial ?_ rfl;simp only[ntmps51,tF,qi,lG,wS,wP,uN,uM,uL,uK,uJ,qj];have HT:=cH.mk T R;clear T R;gi_wp2_with(gi_at_call 52;refine(callsIn_wide.2<|Uz m pfx _).mono ?_;rintro e J⟨rfl,fg⟩;have QX:=X fg;clear fg);obtain⟨T,R⟩:=HT;obtain⟨N,hN⟩:=ex w.heap.size;have ox:cI J m L:=by rw[QX.out];exact(((R.alloc _).alloc _).alloc _).alloc _
 have QW:J.heap[3]?=w.heap[3]?:=by rw[QX.out];exact(((((eo _ _).alloc (aS _) _).alloc (by simp) _).alloc (by simp;omega) _).alloc (by simp;omega) _).block 3 h3
 have g:aW w w J:=by rw[QX.out];exact((((eo _ _).alloc (aS _) _).alloc (by simp) _).alloc (by simp;omega) _).alloc (by simp;omega) _
 have jv:J.heap.size=w+4:=by rw[QX.out];simp
 have Gu:J.heap[w.heap.size]?=U (aH #[V aq 0,V aq 0,V aq 0,V aq 0,V aq 0,V aq 0,V aq 0,V aq 0] 76 (0,0)):=by rw[QX.out];simp only[EF];grind
 have gU:J.heap[w.heap.size+1]?=U (aH #[V cO 14695981039346656037] 120 (0,0)):=by rw[QX.out];simp only[EF];grind
 have J1:J.cell? ⟨w+1+1,0,Z⟩=U (cq m):=by rw[QX.out];go_simp
 have wz:J.cell? ⟨w+1+1+1,0,Z⟩=U (aD pfx):=by rw[QX.out];go_simp
 have HT0:=X T;have hit:=UA (w.heap.size+1+1) (w.heap.size+1+1+1) m L pfx J J1 wz ox hL;clear J1 wz hN N T R;have HF:=X hF;clear hF;obtain⟨o3,Q3⟩:∃o,o=w.heap[3]?:=⟨_,rfl⟩;rw[<-Q3]at QW;have HO3:=X Q3;clear Q3;refine wp_rangeFunc (gf:=85) (lb:=#[aG<|U ⟨w.heap.size+1+1,0,Z⟩,aG<|U ⟨w.heap.size+1+1+1,0,Z⟩]) rfl (AJ Ib rfl<|by decide) hit λb z=>by grind (λ_=>rfl) (Pu w.heap.size o3) (λ_ _ _ _=>False) (Pu.owned _ _ h3) (λ_=>⟨λ_ _ _ h=>h.elim,λ_ _ _ _ h=>h.elim⟩) (λb=>b=w.heap.size+1∨b=3∨b=w.heap.size) (λb z=>?vZ) ⟨gU,QW,Gu,rfl⟩ ?round ?done ?stop;case vZ=>grind
 case stop=>grind
 case done=>
  rintro xs W D G F Ej hK qu;obtain⟨q,C,d,rfl⟩:=F;have E:=X Ej;have aEB:=X C;have hc:W.cell? ⟨w+1,0,Z⟩=U (V cO<|t xs):=M q 0;have ha0:W.cell? w=U (V aq 0):=M d 0;have qZ:W.cell? ⟨w,1,Z⟩=U (V aq 0):=M d 1;have ha2:W.cell? ⟨w,2,Z⟩=U (V aq 0):=M d 2;have ki:W.cell? ⟨w,3,Z⟩=U (V aq 0):=M d 3;have ha4:W.cell? ⟨w,4,Z⟩=U (V aq 0):=M d 4;have ha5:W.cell? ⟨w,5,Z⟩=U (V aq 0):=M d 5;have ha6:W.cell? ⟨w,6,Z⟩=U (V aq 0):=M d 6;have ha7:W.cell? ⟨w,7,Z⟩=U (V aq 0):=M d 7;have yY:∀i,W.frozen? ⟨w,i,Z⟩=ai:=by grind[Joins.unfrozen_of_block]
  obtain⟨h,H⟩:=ex<|t xs;rw[<-H]at hc;have a:=vB.mk H G d g;clear q C d Ej H G hit Gu gU QW ox g;gi_wp2;refine wpIn_loop_rounds 9 ?_;iterate 9(try(rw[roundsIn_succ];gi_wp2))
  generalize NK:jk _ _ _=WF;have hA:vC w.heap.size 76 W _ WF:=NK▸((((((((((((((((vC.mk a.c<|aK.refl _ _).set 0 _).set 1 _).set 2 _).set 3 _).set 4 _).set 5 _).set 6 _).set 7 _).set 0 _).set 1 _).set 2 _).set 3 _).set 4 _).set 5 _).set 6 _).set 7 _;obtain⟨Q2,hAk⟩:=hA;simp only[dA,dz,dr]at Q2;obtain⟨H,G,-,g⟩:=a;have hK':=(hAk.block _ (cU.1 hK).1<|by omega).trans hK;rw[jv]at hK';refine⟨by simp,ax ⟨_,_,rfl,vQ hK',?_⟩⟩;refine⟨_,results_cell_row rfl _ _ w.heap.size 76 _ _ _ rfl ((qQ<|by omega).trans Q2) Vw rfl<|by kernel_rfl,?_,?_⟩;·rw[<-G,<-H];rfl
  ·have hW:aW w w W:=⟨E.out.1.os.trans g.os,E.out.1.tape.trans g.tape,E.out.1.output.trans g.output,bC g.size E.out.1.size,λb z=>by
    by_cases h3b:b=3;·subst h3b;rw[aEB.out,HO3.out]
    ·exact(E.out.1.block b (cE z g.size)<|by grind).trans<|g.block b z⟩;grind[G9,He]
 case round=>
  rintro l I⟨n,f,c,r,v⟩W D An uV u⟨jq,hS⟩F vc;have y:=HF.out ⟨n,f,c,r,v⟩ (aDu (pfx:=pfx)<|by grind);unfold O.val;have HI:=cH.mk F u;have Q0:=(Pu.owned _ _ h3).lt _ _ _ F;obtain⟨q,C,d,rfl⟩:=F;have h3W:=Q0 3<|aA<|ax rfl;gi_wp2;refine⟨⟨aK.alloc _ _ _,λb z=>z.imp id (·.1)⟩,λY p=>?_⟩;have eK:Y.heap[W.heap.size]?=U (aH #[n,f,c,r,v] 46 (0,0)):=(p.block _<|by omega).trans<|iF _ _;have cb:∀i,Y.cell? ⟨W,i,Z⟩=#[aD n,f,c,r,v][i]?:=by grind[Joins.cell_of_block]
  have c0:=cb 0;have c1:=cb 1;have c2:=cb 2;have c3:=cb 3;have c4:=cb 4;simp at c0 c1 c2 c3 c4;have⟨F,u⟩:=HI;have q:Y.heap[w.heap.size+1]?=U (aH #[V cO<|t I] 120 (0,0)):=by rw[p.block _ λe=>u<|ax e.symm,dm _ _ _<|Q0 (w.heap.size+1)<|ax rfl];exact F.sum
  have jW:Y.heap.size=W+1:=by rw[p.size];simp
  have P:=awa n f v c r Y (HT0.out.of_block<|by rw[p.block 3 λe=>u<|aA<|ax e.symm,dm _ _ _ h3W,F.tab,HO3.out]) y.name y.field y.value y.c y.r;have HLn:=X P;gi_wp2_with(gi_at_call 84;refine(callsIn_wide.2 HLn.out).mono ?_;rintro e w3⟨rfl,S⟩;refine Halt.of ?_);have fo:=awb y;obtain⟨s,hs⟩:=ex<|Dt ⟨n,f,c,r,v⟩;rw[<-hs]at fo⊢;have A:=(S.block _<|by omega).trans q;have HB3:=X S;have HS:=X hs;clear S q c0 c1 c2 c3 c4 hs HLn;obtain⟨cap,o,aHz,Q1⟩:=aCG w3 s;have aED:=X Q1;unfold Halt;gi_wp2;gi_loopg[18]s.sizeλk Wy wr=>∃j:Nat,k+j=s.size∧Wy=V aC j∧wr.heap[w.heap.size+1]?=U (aH #[V cO<|Ef (t I)<|s.data.toList.take j] 120 (0,0))∧aK (λb=>b=w.heap.size+1) (w3.drew.alloc o) wr;case atStart=>exact⟨0,by simp,rfl,(dm w3.drew _ _<|show _<w3.heap.size from(cU.1 A).1).trans A,.refl _ _⟩
  case round=>
   obtain⟨j,hk,rfl,K,QY⟩:=hrel;have xU:wr.cell? ⟨w+1,0,Z⟩=U (V cO<|Ef (t I)<|s.data.toList.take j):=M K 0;have hfw:=qO K 0;by_cases hj:j<s.data.size
   ·have hx:=(QY.cell (p:=⟨w3.heap.size,j,Z⟩) (by simp) λe=>by grind).trans<|aED.out j hj;obtain⟨b,z⟩:=ex s.data[j];rw[<-z]at hx;obtain⟨h,H⟩:=ex<|Ef (t I)<|s.data.toList.take j;rw[<-H]at xU K;have a:=vB.mk z H QY K;have hj':j<s.size:=hj;gi_wp2;gi_roundg(gk-1);case rel=>obtain⟨z,H,QY,K⟩:=a;refine⟨j+1,by omega,by go_simp,?_,QY.trans<|aK.setCell _ _ _ rfl⟩;grind[azX,vJ,LC]
    grind
   ·have jw:j=s.size:=by have:s.data.size=s.size:=rfl;omega
    subst jw;have a:=cH.mk QY K;gi_wp2;obtain⟨QY,K⟩:=a;obtain⟨F,u⟩:=HI;have p:=(X p).out;have B:=(aK.iD (F:=λb=>b=w.heap.size+1) HB3.out).trans<|(aK.drew _ _).trans<|(aK.alloc _ _ _).trans QY;refine⟨_,⟨?_,?_,?_,rfl⟩,B.mono λb _ h=>ax<|ax h,λb z=>ax<|ax z⟩;·rw[K,azY,<-HS.out,To,List.take_of_length_le<|by grind]
    ·rw[B.block 3 (by omega)<|by omega,p.block 3 λe=>u<|aA<|ax e.symm,dm _ _ _ h3W,F.tab]
    ·rw[B.block _ (by omega)<|by omega,p.block _ λe=>u<|aA<|aA e.symm,dm _ _ _<|by omega,F.arr]
attribute [local go_sem] Oper.semAt_some
theorem RoundIn.inRound{F}{n}{P}{l}{f}{b}{a c}{w}{R}(k)(h:RoundIn F n P l f b a c w R):RoundIn (F.inRound k) n P l f b a c w R:=h
theorem amL{F}{n}{P}{ops}{Q}{a}{w}{rest}{o}(b:eX o (eu ops a.tmps)=ai)(c:∀f,F.fn f)(h:Ue F n P ops Q rest (a.put o.dst ak) w):Ue F n P ops Q (o::rest) a w:=by simp only[Ue,b];grind
def LR(xm:Bool)(gc E:Int)(x:O):Bool:=!(cg (x.field=⟨#[]⟩)||xm&&!xE x.c x.r gc E)
structure xe(bx bw bg:Nat)(W0:ay)(D0:Nat->Prop)(yv:az)(W:ay)(D D':Nat->Prop):Prop where
 eM:∀b,D b↔D' b\/b=bx\/b=bw\/b=bg
 old:∀b,D' b->D0 b\/W0.heap.size<b
 box:W.heap[bx]?=U (aH #[yv] 83 (0,0))xm:W.heap[bw]?=W0.heap[bw]?
 gone:W.heap[bg]?=W0.heap[bg]?
 size:W0.heap.size<=W.heap.size
def zx(bx bw bg:Nat)(W0:ay)(D0:Nat->Prop)(yv:az)(p:O->Bool)(J:List O->ay->(Nat->Prop)->Prop)(pre:List O)(W:ay)(D:Nat->Prop):Prop:=∃D',J (pre.filter p) W D'/\xe bx bw bg W0 D0 yv W D D'
theorem zx.owned{o j i}{W0}{m}{q}{p}{J}(l:pH J)(r:j<W0.heap.size)(s:i<W0.heap.size):pH<|zx o j i W0 m q p J:=⟨λe W D h b f=>by
  obtain⟨g,d,h⟩:=h;have:=h.size;rcases(h.eM b).1 f with f|rfl|rfl|rfl;.exact l.lt _ _ _ d b f
  .exact(cU.1 h.box).1
  all_goals grind,λe W D t h c=>by obtain⟨g,d,h⟩:=h;exact⟨g,l.st _ _ _ _ d ⟨c.os,c.tape,c.output,c.size,λk n=>c.block k<|(h.eM k).2<|ax n⟩,h.eM,h.old,(c.block _<|(h.eM _).2<|aA<|ax rfl).trans h.box,(c.block _<|(h.eM _).2<|aA<|aA<|ax rfl).trans h.xm,(c.block _<|(h.eM _).2<|aA<|aA<|aA rfl).trans h.gone,bC h.size c.size⟩⟩
theorem xe.left{g j i}{W w1 d}{e D l}{o}(h:xe g j i W e o d D l)(a:aW W W w1)(n:W<=g)(c:bS (λb=>e b\/b=g\/b=j\/b=i) w1 D d):bS e W l d:=⟨⟨c.1.os.trans a.os,c.1.tape.trans a.tape,c.1.output.trans a.output,bC a.size c.1.size,λk m p=>by
  by_cases h1:k=j;.rw[h1];exact h.xm
  .by_cases h2:k=i;.rw[h2];exact h.gone
   .exact(c.1.block k (cE m a.size)<|by grind).trans<|a.block k m⟩,λb f=>(h.old b f).imp id λx=>Nat.le_of_lt x⟩
theorem xe.step{e g f}{W0 m W'}{j D n a}{o}(h:xe e g f W0 j o m D n)(t:∀b,j b->b≠e/\b≠g/\b≠f)(p:e=W0)(u:g<W0)(v:f<W0)(i:bS n m a W'):xe e g f W0 j o W' (λb=>a b\/b=e\/b=g\/b=f) a/\bS D m (λb=>a b\/b=e\/b=g\/b=f) W':=by
 have r:=(cU.1 h.box).1;have l:∀b,b=e\/b=g\/b=f->¬n b:=λb c s=>by rcases h.old b s with d|d;all_goals grind
 refine⟨⟨λb=>vW,λb c=>?_,(i.1.block _ r<|l _<|ax rfl).trans h.box,(i.1.block _ (by omega)<|l _<|aA<|ax rfl).trans h.xm,(i.1.block _ (by omega)<|l _<|aA<|aA rfl).trans h.gone,bC h.size i.1.size⟩,i.1.mono λk _ q=>(h.eM k).2<|ax q,λb c=>?_⟩
 .rcases i.2 b c with d|d;.exact h.old b d
  grind
 .rcases c with c|c
  .rcases i.2 b c with d|d;.exact ax<|(h.eM b).2<|ax d
   grind
  .exact ax<|(h.eM b).2<|aA c
set_option maxHeartbeats 1000000 in
theorem asm(bm bn A t m)(L)(n)(xm)(gc gr)(w)(JY:w.cell? bm=U (.map m))(uY:w.cell? bn=U (.string n))(xU:w.cell? A=U (.bool xm))(J1:w.cell? ⟨t,2,Z⟩=U (.int .i64 gc))(wz:w.cell? ⟨t,3,Z⟩=U (.int .i64 gr))(hB:cI w m L)(hL:L.length<=1073741824)(hn:n.size<=65536)(hwm:A≠m)(Nr:t≠m):Iter Q 120 #[.pointer<|U ⟨bm,0,Z⟩,.pointer<|U ⟨bn,0,Z⟩,.pointer A,.pointer t] (λx=>#[x.val]) (λxs=>xs=(dS L<|n++⟨#[46]⟩).filter (LR xm gc gr)) (λb=>b=bm∨b=bn∨b=A∨b=t∨b=m) w:=by
 intro l J Jx W N hA Q1 y hR hY h0;have ox:cI W m L:=hB.of_block (hA.block m<|by simp);have kc:∀b,b=bm∨b=bn∨b=A∨b=t∨b=m->∀i,W.cell? ⟨b,i,Z⟩=w.cell? ⟨b,i,Z⟩:=λb g i=>ei (w:=w)<|hA.block b g;have azN:=(kc bm (by simp) 0).trans JY;have Nz:=(kc bn (by simp) 0).trans uY;have aiv:=(kc A (by simp) 0).trans xU;have aiA:=(kc t (by simp) 2).trans J1;have azS:=(kc t (by simp) 3).trans wz;have lbm:=oh W _ azN;have lbn:=oh W _ Nz;have FQ:=oh W _ aiv;have FR:=oh W _ aiA;have lm:=ox.lt;have aGH:¬(9223372036854775807:Int)<(n.size:Int)+1:=by omega
 have aGG:¬9223372036854775807<n.size+1:=by omega
 have HX:=zB.mk hA Q1 y hR hY h0;have HB:=X ox;clear hA Q1 y hR hY h0 ox hB JY uY xU J1 wz kc;refine callsIn_of_wp_marks Qb rfl trivial ?_ rfl;simp only[ntmps120,tF,qi,lG,wS,wP,uN,uM,uL,uK,uJ,qj];gi_wp2_with(gi_at_call 52;refine(callsIn_wide.2<|Uz m _ _).mono ?_;rintro e P⟨rfl,fg⟩;have HW:=X fg;clear fg);obtain⟨pfx,xQ⟩:∃pfx:ByteArray,pfx=n++⟨#[46]⟩:=⟨_,rfl⟩;rw[<-xQ]at HW⊢;obtain⟨hA,Q1,y,hR,hY,h0⟩:=HX;have o:aW W W P:=by rw[HW.out];exact(((eo _ _).alloc (aS _) _).alloc (by simp) _).alloc (by simp;omega) _
 have jv:P.heap.size=W+3:=by rw[HW.out];simp
 have J5:P.heap[W.heap.size]?=U (.cells #[.func (.yield l) #[] #[]] 83 (0,0)):=by rw[HW.out];simp only[EF];grind
 have J0:P.cell? ⟨W+1,0,Z⟩=U (.map m):=by rw[HW.out];go_simp
 have o8:P.cell? ⟨W+1+1,0,Z⟩=U (.string pfx):=by rw[HW.out];go_simp
 have hit:=UA (W.heap.size+1) (W.heap.size+1+1) m L pfx P J0 o8 (HB.out.below o) hL;obtain⟨p,hp⟩:=ex<|LR xm gc gr;rw[<-hp]at hY;have R:=Q1.lt _ _ _ h0;have si:∀b,N b->b≠W∧b≠A∧b≠t:=λb g=>⟨λe=>by grind,λe=>hR b g<|by simp[e],λe=>hR b g<|by simp[e]⟩;have y9:∀b,N b->b≠m:=by grind
 have H0:zx W A t W N (.func (.yield l) #[] #[]) p J [] P λb=>N b∨b=W∨b=A∨b=t:=⟨N,Q1.st _ _ _ _ h0<|(aK.iD (F:=λ_=>False) o).fI λb g=>⟨R b g,id⟩,⟨λb=>vW,λb g=>.inl g,J5,o.block _ FQ,o.block _ FR,o.size⟩⟩;refine wp_rangeFunc (gf:=85) (lb:=#[.pointer<|U ⟨W.heap.size+1,0,Z⟩,.pointer<|U ⟨W.heap.size+1+1,0,Z⟩]) rfl (AJ Ib rfl<|by decide) hit λb g=>by grind (λ_=>rfl) (zx W.heap.size A t W N (.func (.yield l) #[] #[]) p J) (λc j W' D=>c=.ret∧zx W.heap.size A t W N (.func (.yield l) #[] #[]) p Jx j W' D) (zx.owned Q1 FQ FR) (λc=>⟨λs w D h b g=>(zx.owned y FQ FR).lt s w D h.2 b g,λs w D w' h ha=>⟨h.1,(zx.owned y FQ FR).st s w D w' h.2 ha⟩⟩) (λb=>N b∨b=W.heap.size∨b=A∨b=t) (λb g=>?vZ) H0 ?round ?done ?stop;case vZ=>grind
 case done=>
  rintro xs Wd D Aj⟨F,hj,E⟩Ej hK qu;have hl:=E.left o (aS _) Ej;have ou:¬F P:=λh=>qu<|(E.eM _).2<|.inl h;have r:=Q1.st _ _ _ _ hj<|(uh.putObj Wd P.heap.size<|.deferred Z).fI ou;have tM:bS N W F<|Wd.putObj P<|.deferred Z:=hl.step (aK.putObj (F:=λb=>b=P.heap.size) Wd P.heap.size _ rfl) (λx hx e=>by omega);have f:dD<|xs.filter p=(dS L pfx).filter p∧J (xs.filter p) (Wd.putObj P<|.deferred Z) F∧bS N W F (Wd.putObj P<|.deferred Z):=by grind[Lib.hid]
  clear HB hA Q1 y hR hY h0 o hit R si y9 H0 hj E Ej hl r tM J0 o8 J5 HW;gi_wp2;refine⟨by simp,.inl ⟨_,_,rfl,vQ hK,?_⟩⟩;refine⟨_,results_none rfl _ _ _,⟨_,rfl⟩,.inl ⟨_,F,?_,f.out.2.1,f.out.2.2⟩⟩;grind
 case stop=>rintro c j Wd D⟨jq,SO⟩⟨rfl,F,hj,E⟩Ej hK qu;have hl:=E.left o (aS _) Ej;have ou:¬F P:=λh=>qu<|(E.eM _).2<|.inl h;have r:=y.st _ _ _ _ hj<|(uh.putObj Wd P.heap.size<|.deferred Z).fI ou;have tM:bS N W F<|Wd.putObj P<|.deferred Z:=hl.step (aK.putObj (F:=λb=>b=P.heap.size) Wd P.heap.size _ rfl) (λx hx e=>by omega);have f:dD<|j.filter p++jq.filter p=(dS L pfx).filter p∧Jx (j.filter p) (Wd.putObj P<|.deferred Z) F∧bS N W F (Wd.putObj P<|.deferred Z):=X ⟨by grind,r,tM⟩;clear HB hA Q1 y hR hY h0 o hit R si y9 H0 hj E Ej hl r tM J0 o8 J5 HW;gi_wp2;refine⟨by simp,.inl ⟨_,_,rfl,vQ hK,?_⟩⟩;refine⟨_,results_none rfl _ _ _,⟨_,rfl⟩,.inr ⟨_,F,⟨jq.filter p,?_⟩,f.out.2.1,f.out.2.2⟩⟩;grind
 case round=>
  rintro l2 j⟨K,u,C,B,I⟩QX D An uV ow⟨jq,hS⟩E vc;obtain⟨F,hj,E⟩:=E;unfold O.val;have HI:=cH.mk hj E;have aau:∀b,D b->b<QX.heap.size:=(zx.owned Q1 FQ FR).lt j QX D ⟨F,hj,E⟩;have HS:=X hS;have Pr:=zB.mk Q1 y hY si aau ow;have sr:=(E.eM A).2<|.inr<|.inr<|.inl rfl;have hbg:=(E.eM t).2<|.inr<|.inr<|.inr rfl;have BW:=(E.eM W.heap.size).2<|.inr<|.inl rfl;have hzr:=E.size;clear HB hA Q1 y hR hY h0 o hit R si y9 H0 J0 o8 J5 HW hj E hS;gi_wp2;refine⟨⟨aK.alloc _ _ _,λb g=>g.imp id (·.1)⟩,λq G=>?_⟩;have eK:q.heap[QX.heap.size]?=U (.cells #[K,u,C,B,I] 46 (0,0)):=(G.block _<|by omega).trans<|iF _ _;have cb:∀i,q.cell? ⟨QX,i,Z⟩=#[aD K,u,C,B,I][i]?:=by grind[Joins.cell_of_block]
  have c0:=cb 0;have c1:=cb 1;have c2:=cb 2;have c3:=cb 3;have c4:=cb 4;simp at c0 c1 c2 c3 c4;obtain⟨hj,E⟩:=HI;obtain⟨Q1,y,hY,si,aat,Kb⟩:=Pr;have QY:=λb g=>(G.block b λe=>Kb<|e▸g).trans<|dm _ _ _<|aau b g;have ku:xe W A t W N (.func (.yield l) #[] #[]) q D F:=⟨E.eM,E.old,(QY _ BW).trans E.box,(QY _ sr).trans E.xm,(QY _ hbg).trans E.gone,bC E.size<|by grind⟩;have BM:=Q1.st _ _ _ _ hj ⟨G.os,G.tape,G.output,by grind,λk hk=>QY k<|(E.eM k).2<|.inl hk⟩;have q1:q.cell? W=U (.func (.yield l) #[] #[]):=M ku.box 0;have q2:=(ei (w:=W) ku.xm).trans aiv;have q3:=(ei (w:=W) ku.gone).trans aiA;have q4:=(ei (w:=W) ku.gone).trans azS;have jW:q.heap.size=QX+1:=by rw[G.size];simp
  have Q2:=zB.mk BM ku Q1 y hY si;have z:=X (λb g=>cE (aau b g)<|show QX.heap.size<=q.heap.size by omega);clear hj E Q1 y hY si aat Kb QY ku BM G cb eK sr hbg BW;have HJ:=X Q2.c;by_cases hf:u=⟨#[]⟩
  ·have QW:dD<|p ⟨K,u,C,B,I⟩=ai:=X (by rw[hp];grind[LR]);have Nu:u.toList=[]:=by rw[hf,Ig]
   have hf2:u.toList.isEmpty=Y:=by grind
   have HF:=X hf;clear hf Nu;have d:aK (λ_=>False) q q:=.refl _ _;have Q0:=HJ.out.st _ _ _ _ Q2.a<|d.fI λb g=>⟨z.out b<|(Q2.b.eM b).2<|.inl g,id⟩;have v:xe W A t W N (.func (.yield l) #[] #[]) q D F:=by
    obtain⟨T,a2,a3,a4,a5,a6⟩:=Q2.b;have QY:∀b,D b->q.heap[b]?=q.heap[b]?:=by grind
    exact⟨T,a2,(QY _<|(T _).2<|.inr<|.inl rfl).trans a3,(QY _<|(T _).2<|.inr<|.inr<|.inl rfl).trans a4,(QY _<|(T _).2<|.inr<|.inr<|.inr rfl).trans a5,bC a6 d.size⟩
   have QZ:dD<|∃a,zx W A t W N (.func (.yield l) #[] #[]) p J (j++[⟨K,u,C,B,I⟩]) q a∧bS (λb=>D b∨QX<=b∧b<(QX.alloc<|.cells #[K,u,C,B,I] 46)) q a q:=X ⟨D,⟨F,by rw[Dz,ag0<|by rw[QW.out];simp,MI,uI];exact Q0,v⟩,d.mono λ_ _ h=>h.elim,λb g=>.inl<|.inl g⟩;clear d Q0 v Q2 z HJ;gi_wp2_with(refine amL rfl (λ_=>trivial) ?_);exact QZ.out
  ·have Gp:¬u.toList=[]:=λe=>hf (zu<|by grind[Ig]);have hf2:u.toList.isEmpty=ai:=by grind
   cases xm with|false=>
    have QW:dD<|p ⟨K,u,C,B,I⟩=Y:=X (by rw[hp];grind[LR]);have d:aK (λ_=>False) q q:=.refl _ _;have Q0:=HJ.out.st _ _ _ _ Q2.a<|d.fI λb g=>⟨z.out b<|(Q2.b.eM b).2<|.inl g,id⟩;have v:xe W A t W N (.func (.yield l) #[] #[]) q D F:=by
     obtain⟨T,a2,a3,a4,a5,a6⟩:=Q2.b;have QY:∀b,D b->q.heap[b]?=q.heap[b]?:=by grind
     exact⟨T,a2,(QY _<|(T _).2<|.inr<|.inl rfl).trans a3,(QY _<|(T _).2<|.inr<|.inr<|.inl rfl).trans a4,(QY _<|(T _).2<|.inr<|.inr<|.inr rfl).trans a5,bC a6 d.size⟩
    obtain⟨H,SI⟩:∃H,j.filter p++(⟨K,u,C,B,I⟩:O)::H=(dS L<|n++⟨#[46]⟩).filter p:=⟨jq.filter p,by rw[<-xQ,<-HS.out,Dz,Sf QW.out]⟩;obtain⟨fn,tmps,S,body,hy,nC⟩:=Q2.e (j.filter p) ⟨K,u,C,B,I⟩ q F ⟨H,by rw[SI]⟩ Q0;have yd:=X<|RoundIn.inRound l2 nC;have JE:(Instr.yield l #[.agg #[K,u,C,B,I]]).run Q q=.ok (.round l fn tmps S body) q:=hy;have HV:=cH.mk d v;clear d Q0 v nC hy SI HJ;gi_wp2;refine yd.out.mono ?_;rintro e W' QZ;have f:dD<|∀(a:Nat->Prop),bS F q a W'->xe W A t W N (.func (.yield l) #[] #[]) W' (λb=>a b∨b=W∨b=A∨b=t) a∧bS (λb=>D b∨QX<=b∧b<(QX.alloc<|.cells #[K,u,C,B,I] 46)) q (λb=>a b∨b=W∨b=A∨b=t) W':=X λa hL=>by obtain⟨d,v⟩:=HV;obtain⟨f1,f2⟩:=v.step Q2.f rfl FQ FR hL;exact⟨f1,f2.shift d λb g=>.inl g⟩
    have Tg:(j++[(⟨K,u,C,B,I⟩:O)]).filter p=j.filter p++[⟨K,u,C,B,I⟩]:=by rw[Dz,Sf QW.out,MI]
    have Pq:=X Tg;clear JE Q2 z Tg yd;rcases QZ with⟨rfl,a,r,Q3⟩|⟨rfl,a,r,Q3⟩;·have HE:=cH.mk r Q3;clear r Q3;gi_wp2;exact⟨_,⟨a,by rw[Pq.out];exact HE.a,(f.out _ HE.b).1⟩,(f.out _ HE.b).2⟩
    ·have HE:=cH.mk r Q3;clear r Q3;gi_wp2;exact⟨_,⟨rfl,a,by rw[Pq.out];exact HE.a,(f.out _ HE.b).1⟩,(f.out _ HE.b).2⟩|true=>
    have HPZ:dD<|p ⟨K,u,C,B,I⟩=xE C B gc gr:=X (by rw[hp];grind[LR]);gi_wp2_with(gi_at_call 121;refine(callsIn_wide.2<|Ym C B gc gr _).mono ?_;rintro e w3⟨rfl,iP⟩;refine Halt.of ?_);obtain⟨lz,ZE⟩:=ex<|xE C B gc gr;rw[<-ZE];have cc:∀b i,b<q.heap.size->w3.cell? ⟨b,i,Z⟩=q.cell? ⟨b,i,Z⟩:=λb i h=>iP.cell (p:=⟨b,i,Z⟩) h;have jV:QX.heap.size<q:=by omega
    replace c0:=(cc QX.heap.size 0 jV).trans c0;replace c1:=(cc QX.heap.size 1 jV).trans c1;replace c2:=(cc QX.heap.size 2 jV).trans c2;replace c3:=(cc QX.heap.size 3 jV).trans c3;replace c4:=(cc QX.heap.size 4 jV).trans c4;replace q1:=(cc W.heap.size 0<|by omega).trans q1
    have HLZ:=X ZE;clear ZE cc q2 q3 q4;cases lz with|true=>
     have QW:dD<|p ⟨K,u,C,B,I⟩=Y:=X (by rw[HPZ.out,<-HLZ.out]);have d:aK (λ_=>False) q w3:=aK.iD iP;have Q0:=HJ.out.st _ _ _ _ Q2.a<|d.fI λb g=>⟨z.out b<|(Q2.b.eM b).2<|.inl g,id⟩;have v:xe W A t W N (.func (.yield l) #[] #[]) w3 D F:=by obtain⟨T,a2,a3,a4,a5,a6⟩:=Q2.b;have QY:=λb g=>d.block b (z.out b g) id;exact⟨T,a2,(QY _<|(T _).2<|.inr<|.inl rfl).trans a3,(QY _<|(T _).2<|.inr<|.inr<|.inl rfl).trans a4,(QY _<|(T _).2<|.inr<|.inr<|.inr rfl).trans a5,bC a6 d.size⟩
     obtain⟨H,SI⟩:∃H,j.filter p++(⟨K,u,C,B,I⟩:O)::H=(dS L<|n++⟨#[46]⟩).filter p:=⟨jq.filter p,by rw[<-xQ,<-HS.out,Dz,Sf QW.out]⟩;obtain⟨fn,tmps,S,body,hy,nC⟩:=Q2.e (j.filter p) ⟨K,u,C,B,I⟩ w3 F ⟨H,by rw[SI]⟩ Q0;have yd:=X<|RoundIn.inRound l2 nC;have JE:(Instr.yield l #[.agg #[K,u,C,B,I]]).run Q w3=.ok (.round l fn tmps S body) w3:=hy;have HV:=cH.mk d v;unfold Halt;gi_wp2;refine yd.out.mono ?_;rintro e W' QZ;have f:dD<|∀(a:Nat->Prop),bS F w3 a W'->xe W A t W N (.func (.yield l) #[] #[]) W' (λb=>a b∨b=W∨b=A∨b=t) a∧bS (λb=>D b∨QX<=b∧b<(QX.alloc<|.cells #[K,u,C,B,I] 46)) q (λb=>a b∨b=W∨b=A∨b=t) W':=X λa hL=>by obtain⟨d,v⟩:=HV;obtain⟨f1,f2⟩:=v.step Q2.f rfl FQ FR hL;exact⟨f1,f2.shift d λb g=>.inl g⟩
     have Tg:(j++[(⟨K,u,C,B,I⟩:O)]).filter p=j.filter p++[⟨K,u,C,B,I⟩]:=by rw[Dz,Sf QW.out,MI]
     have Pq:=X Tg;rcases QZ with⟨rfl,a,r,Q3⟩|⟨rfl,a,r,Q3⟩;·have HE:=cH.mk r Q3;gi_wp2;exact⟨_,⟨a,by rw[Pq.out];exact HE.a,(f.out _ HE.b).1⟩,(f.out _ HE.b).2⟩
     ·have HE:=cH.mk r Q3;gi_wp2;exact⟨_,⟨rfl,a,by rw[Pq.out];exact HE.a,(f.out _ HE.b).1⟩,(f.out _ HE.b).2⟩|false=>
     have QW:dD<|p ⟨K,u,C,B,I⟩=ai:=X (by rw[HPZ.out,<-HLZ.out]);have d:aK (λ_=>False) q w3:=aK.iD iP;have Q0:=HJ.out.st _ _ _ _ Q2.a<|d.fI λb g=>⟨z.out b<|(Q2.b.eM b).2<|.inl g,id⟩;have v:xe W A t W N (.func (.yield l) #[] #[]) w3 D F:=by obtain⟨T,a2,a3,a4,a5,a6⟩:=Q2.b;have QY:=λb g=>d.block b (z.out b g) id;exact⟨T,a2,(QY _<|(T _).2<|.inr<|.inl rfl).trans a3,(QY _<|(T _).2<|.inr<|.inr<|.inl rfl).trans a4,(QY _<|(T _).2<|.inr<|.inr<|.inr rfl).trans a5,bC a6 d.size⟩
     have QZ:dD<|∃a,zx W A t W N (.func (.yield l) #[] #[]) p J (j++[⟨K,u,C,B,I⟩]) w3 a∧bS (λb=>D b∨QX<=b∧b<(QX.alloc<|.cells #[K,u,C,B,I] 46)) q a w3:=X ⟨D,⟨F,by rw[Dz,ag0<|by rw[QW.out];simp,MI,uI];exact Q0,v⟩,d.mono λ_ _ h=>h.elim,λb g=>.inl<|.inl g⟩;unfold Halt;gi_wp2;exact QZ.out
attribute [local go_sem] Oper.semAt_some
structure Ld(g:Nat)(W:ay)(D:Nat->Prop)(b:Bool):Prop where cell:W.heap[g]?=U (aH #[bQ b] 4 (0,0))eM:D=λx=>x=g
theorem Ld.owned{g}{f}(q:f->Bool->Prop):pH λs W D=>∃b,q s b/\Ld g W D b:=⟨λs W D⟨b,_,h⟩x c=>by rw[h.eM]at c;subst c;exact(cU.1 h.cell).1,λs W D i⟨b,d,h⟩e=>⟨b,d,(e.block g<|by rw[h.eM]).trans h.cell,h.eM⟩⟩
theorem Wu(m)(L)(n)(w)(c:cI w m L)(q:L.length<=1073741824)(k:n.size<=4096):bz Q 68 #[cq m,aD n] w λe a=>∃d,e=bj (dM (ez 120) #[] d)/\(∃R,Iter Q 120 d (λx=>#[x.val]) (λp=>p=oN L n) R a/\∀b,R b->b<a/\(b=m\/w<=b))/\aW w w a:=by have l:=c.lt;refine(asj m L n w c k).mono ?_;rintro e a⟨o,r,rfl,B,y,s,f,h,j,g,t,i⟩;refine⟨_,rfl,⟨_,asm w (w+1) r o m L n _ _ _ a f h j g t (c.below i) q (by omega) (by omega)<|by omega,?_⟩,i⟩;have u:=oh a _ f;have v:=oh a _ h;have A:=oh a _ j;have z:=oh a _ g;grind
theorem aeA{fn}{p}(h:fn.results=#[.cell p 4])(a)(w)(g)(b)(c:a.getD p ak=aG (U ⟨g,0,Z⟩))(d:w.cell? g=U (bQ b)):(kA fn a).run Q w=aY (bQ b) w:=by simp[kA,h,by simpa using c,asAddr];go_simp
theorem aEe(m)(L)(n)(w)(E:cI w m L)(N:L.length<=1073741824)(O:n.size<=4096):bz Q 69 #[cq m,aD n] w λe P=>e=bj !(oN L n).isEmpty∧aW w w P:=by
 have H:=E.lt;refine callsIn_wide (n:=0).1<|callsIn_of_wp_marks anV rfl trivial ?_ rfl;simp only[ntmps69,tF,qi,lG,wS,wP,uN,uM,uL,uK,uJ,qj];gi_wp2_with(gi_at_call 68;refine(callsIn_wide.2 (X<|Wu m L n (w.alloc<|aH #[ai] 4) (E.alloc _) N O).out).mono ?_;rintro e s⟨lb,rfl,F,g⟩;refine Halt.of ?_);unfold Halt;gi_wp2;obtain⟨⟨R,u,G⟩,g⟩:=(X<|aM F g).out;have y:=g.size;simp only[vX]at y;have i:=((eo _ _).alloc (aS _) _).trans (g.mono<|by simp);refine wp_rangeFunc (gf:=120) (lb:=lb) rfl (AJ Qb rfl<|by decide) u (λb g=>(G b g).1) (λ_=>rfl) (λf W D=>∃b,(f=[]∧b=ai)∧Ld w W D b) (λc f W D=>∃b,(c=.ret∧f≠[]∧b=Y)∧Ld w W D b) (Ld.owned λf b=>f=[]∧b=ai) (λc=>Ld.owned λf b=>c=.ret∧f≠[]∧b=Y) (λb=>b=w) (λb g J=>?vZ) ⟨ai,⟨rfl,rfl⟩,(g.block _<|by simp).trans<|iF _ _,rfl⟩ ?round ?done ?stop;case vZ=>
  subst g;rcases(G _ J).2 with h|h;·omega
  ·simp at h;omega
 case round=>rintro l f x W D S Q2 B a⟨b,⟨rfl,rfl⟩,p⟩T;have C:=X p;obtain⟨o,rfl⟩:=p;gi_wp2;refine⟨⟨.refl _ _,λb g=>g.imp id (·.1)⟩,λQ3 q=>?_⟩;have k:=(q.block _ λe=>B e.symm).trans C.out.cell;have I:Q3.cell? w=U ai:=M k 0;have K:=qO k 0;gi_wp2;exact⟨_,⟨⟨rfl,by simp⟩,vJ (X k).out,rfl⟩,(aK.setCell (F:=λb=>b=w) _ _ _ rfl).mono λ_ _ h=>ax h,λb g=>ax<|ax g⟩
 case done=>rintro Q0 W D t⟨b,⟨rfl,rfl⟩,p⟩j v z;obtain⟨o,rfl⟩:=p;have I:W.cell? w=U ai:=M o 0;have K:=qO o 0;have d:dD<|oN L n=[]∧aW w w ((W.setCell w ai).putObj s<|x6 Z)∧((W.setCell w ai).putObj s<|x6 Z).cell? w=U ai∧(W.setCell w ai).heap[s.heap.size]?=U (x6<|U []):=X ⟨t.symm,G9 (He (j.below i λb g=>by omega) (aK.setCell (F:=λb=>b=w) _ _ _ rfl) λx F e=>by omega) (by omega) _,M ((qQ<|by omega).trans<|vJ o) 0,(gQ _ _ _ _<|by grind).trans v⟩;gi_wp2;refine⟨by simp,ax ⟨_,_,rfl,vQ d.out.2.2.2,?_⟩⟩;exact⟨_,aeA rfl _ _ w ai rfl d.out.2.2.1,by rw[d.out.1];rfl,d.out.2.1⟩
 case stop=>rintro c f W D⟨Q1,r⟩⟨b,⟨rfl,A,rfl⟩,p⟩j v z;obtain⟨o,rfl⟩:=p;have d:dD<|oN L n≠[]∧aW w w (W.putObj s<|x6 Z)∧(W.putObj s<|x6 Z).cell? w=U Y:=X ⟨by rw[<-r];simp[A],G9 (j.below i λb g=>by omega) (by omega) _,M ((qQ<|by omega).trans o) 0⟩;gi_wp2;refine⟨by simp,ax ⟨_,_,rfl,vQ v,?_⟩⟩;exact⟨_,aeA rfl _ _ w Y rfl d.out.2.2,by cases h:oN L n with|nil=>exact absurd h d.out.1|cons _ _=>rfl,d.out.2.1⟩
abbrev kC:ByteArray:=⟨#[97,98,99,100,101,102,103,104,105,106,107,108,109,110,111,112,113,114,115,116,117,118,119,120,121,122]⟩
theorem aEo(c):kC.data.toList.contains c=letter c:=by
 rw[BD];simp only[List.contains_iff_mem,letter,cV,fO,UInt8.le_iff_toNat_le];constructor;.intro h;simp only[dj,dP,dY]at h;rcases h with rfl|rfl|rfl|rfl|rfl|rfl|rfl|rfl|rfl|rfl|rfl|rfl|rfl|rfl|rfl|rfl|rfl|rfl|rfl|rfl|rfl|rfl|rfl|rfl|rfl|rfl<;>exact⟨by decide,by decide⟩
 .rintro⟨d,b⟩;have e:c=ru c.toNat:=by simp
  generalize c.toNat=n at*;subst e;have d:97<=n:=d;have b:n<=122:=b;have:n=97+(n-97):=by omega
  generalize n-97=k at this;subst this;have:∀k:_root_.Fin 26,ru (97+k.val)∈kC.data.toList:=by decide
  exact this ⟨k,by omega⟩
theorem dropWhile_nil{p}{l:List UInt8}:l.dropWhile p=[]↔l.all p=Y:=by induction l with|nil=>simp|cons a l b=>grind[List.dropWhile_cons]
theorem aEc{p}{l:List UInt8}:(l.dropWhile p).all p=l.all p:=by induction l with|nil=>rfl|cons a l b=>grind[List.dropWhile_cons]
theorem ape(s):Lib.trimS s.data.toList kC.data.toList=[]↔yB s=Y:=by have e:(λc=>kC.data.toList.contains c)=letter:=funext aEo;unfold Lib.trimS Lib.trimLeftS Lib.trimRightS yB;grind[dropWhile_nil,aEc]
theorem apf(s)(w)(hs:s.size<=65536):bz Q 117 #[aD s,kC] w λe f=>e=bj (aD ⟨(Lib.trimS s.data.toList kC.data.toList).toArray⟩)/\aW w w f:=by
 have d:=zero_of_info (P:=Q) (t:=281) (v:=bJ<|tT 256 ai) (n:=256) (by kernel_rfl);have l:bz Q 177 #[kC] w λe f=>e=bj (bO #[bJ<|zg kC.data.toList,Y])/\f=w.alloc (aH (zg kC.data.toList) 281):=Any.strings_makeASCIISet anz d.1 d.2 kC w (by decide) (ascii_of_all<|by decide);by_cases h0:s.size=0
 .have r:s.toList.isEmpty=Y:=by grind[Lib.toList_data,Lib.size_eq,List.length_cons]
  have n:s.data.toList=[]:=BA (by grind[Lib.size_eq]);have i:s=⟨#[]⟩:=by rw[<-Lib.mk_data s,n]
  subst i;go_enter acM,ntmps117;go_wp2;go_ret;exact⟨rfl,eo _ _⟩
 .have h:s.toList.isEmpty=ai:=by grind[Lib.toList_data,Lib.size_eq,List.length_nil]
  have k:kC.toList.isEmpty=ai:=by grind[Lib.toList_data]
  have p:((kC.size:Int)==1)=ai:=by decide
  have o:(storeCells ⟨w+1,0,Z⟩ (zg kC.data.toList).toList 0).run Q ((w.alloc<|aH (zg kC.data.toList) 281).alloc<|aH (tT 256 ai) 281)=aY () ((w.alloc<|aH (zg kC.data.toList) 281).alloc<|aH (zg kC.data.toList) 281):=by have:=run_storeCells_new (P:=Q) (w.alloc<|aH (zg kC.data.toList) 281) 281 (tT 256 ai) (zg kC.data.toList) (by grind[Lib.setCells_size]) (by rw[agZ,Array.size_replicate])<|Lib.setCells_one _;simpa using this
  have m:=agZ kC.data.toList;have c:∀x:UInt8,((w.alloc<|aH (zg kC.data.toList) 281).alloc<|aH (zg kC.data.toList) 281).cell? ⟨w+1,x.toNat,Z⟩=U (bQ<|kC.data.toList.contains x):=λx=>by rw[Jk _ _ _ _<|by simp,Lib.setCells_at]
  have j:Aside<|∀(q:Nat)(x:UInt8),(((w.alloc<|aH (zg kC.data.toList) 281).alloc<|aH (zg kC.data.toList) 281).drewN q).cell? ⟨w+1,x.toNat,Z⟩=U (kC.data.toList.contains x):=λq x=>by simpa using c x
  generalize kC=b at*;go_enter acM,ntmps117;go_wp2_with(go_at_call 177;refine l.mono ?_;rintro e f⟨rfl,g⟩;rw[g]);go_wp2_with(first|(go_at_call 179;refine(Any.strings_trimRightASCII anw s (w+1) b.data.toList _ (by omega)<|j.out 0).mono ?_;rintro e f⟨rfl,g⟩;rw[g])|(go_at_call 178;refine(Any.strings_trimLeftASCII anx _ (w+1) b.data.toList _<|j.out 0).mono ?_;rintro e f⟨rfl,g⟩;rw[g]));go_ret;exact⟨rfl,((eo _ _).alloc (aS _) _).alloc (by simp) _⟩
theorem YZ(s)(k:Nat)(w)(hs:s.size<=65536)(g:k<1000):bz Q 64 #[aD s,k] w λe f=>e=bj (lS s k)/\aW w w f:=by
 have b:=apf s;obtain⟨t,a⟩:∃t:ByteArray,t=⟨(Lib.trimS s.data.toList kC.data.toList).toArray⟩:=⟨_,rfl⟩;rw[<-a]at b;have d:t.toList=[]↔yB s=Y:=by grind[ape,Lib.toList_data]
 have i:=X b;clear b a;by_cases h0:s.toList=[]
 .have c:s.size=0:=by grind[Lib.size_eq,Lib.toList_data]
  go_enter VB,ntmps64;go_wp2;go_ret;exact⟨xx<|by grind[lS],eo _ _⟩
 .have l:s.toList.isEmpty=ai:=by grind
  have c:0<s.size:=by grind[Nat.eq_zero_or_pos,Lib.toList_data,List.eq_nil_of_length_eq_zero,Lib.size_eq]
  by_cases g:s.size<=k;.go_enter VB,ntmps64;go_wp2_with(go_at_call 117;refine(i.out _<|by omega).mono ?_;rintro e j⟨rfl,h⟩);go_ret;refine⟨xx ?_,h⟩;rw[BD];grind[lS]
  .go_enter VB,ntmps64;go_wp2;go_ret;exact⟨xx<|by grind[lS],eo _ _⟩
def fE(w:ay)(p:Nat)(id:Int)(m g:Nat):Prop:=w.heap[p]?=U (aH #[V aC id,cq<|U m,cq<|U g] 110 (0,0))
theorem fE.cell{w}{p}{id}{m g}(h:fE w p id m g):w.cell? p=U (V aC id)/\w.cell? ⟨p,1,Z⟩=U (cq m)/\w.cell? ⟨p,2,Z⟩=U (cq g):=⟨M h 0,M h 1,M h 2⟩
theorem fE.lt{w}{p}{id}{m g}(h:fE w p id m g):p<w:=(cU.1 h).1
theorem ajX(k)(a)(w):bz Q 65 #[V aC k,aD a] w λe b=>e=bj (iB 132<|aG w)/\b=w.alloc (aH #[k,a] 137):=by go_enter anY,ntmps65;go_wp2;go_ret;exact⟨rfl,rfl⟩
structure tY(p:Nat)(id:Int)(m g:Nat)(L:List O)(w0 W:ay):Prop where
 rep:fE W p id m g
 book:cI W m L
 below:aW w0.heap.size w0 W
 lt:p<w0.heap.size/\m<w0.heap.size
theorem aEq{p}{id}{m g}{L}{w0 W}:tY p id m g L w0 W.drew↔tY p id m g L w0 W:=⟨λh=>⟨h.1,h.2.of_block rfl,⟨h.below.os,h.below.tape,h.below.output,h.below.size,h.below.block⟩,h.lt⟩,λh=>⟨h.1,h.2.of_block rfl,⟨h.below.os,h.below.tape,h.below.output,h.below.size,h.below.block⟩,h.lt⟩⟩
theorem tY.later{p}{id}{m g}{L}{w0 W W'}(h:tY p id m g L w0 W)(a:aW W W W'):tY p id m g L w0 W':=⟨(a.block p h.rep.lt).trans h.rep,h.book.below a,h.below.trans<|a.mono h.below.size,h.lt⟩
theorem tY.setCell{p}{id}{m g}{L}{w0 W}(h:tY p id m g L w0 W)(a)(v)(e:w0.heap.size<=a.block):tY p id m g L w0<|W.setCell a v:=⟨(gQ _ _ _ _<|by have:=h.lt;omega).trans h.rep,h.book.of_block<|gQ _ _ _ _<|by have:=h.lt;omega,⟨h.below.os,h.below.tape,h.below.output,by simpa[jk]using h.below.size,λb d=>(gQ _ _ _ _<|by omega).trans<|h.below.block b d⟩,h.lt⟩
theorem fE.ne{w}{p}{id}{m g}{L}(h:fE w p id m g)(b:cI w m L):p≠m:=by rintro rfl;obtain⟨d,a,c,_⟩:=b;grind[fE]
theorem abV(p)(id)(m g)(L)(n f v)(c r)(w)(G:fE w p id m g)(QY:cI w m L)(hn:n.size<=4096)(hf:f.size<=4096)(hc:jM L<9223372036854775807):bz Q 66 #[aG p,bJ #[aD n,aD f,V aC c,V aC r,aD v]] w λe C=>e=bj (bO #[])∧cI C m (fD L ⟨n,f,jM L+1,id,v⟩)∧aK (λb=>b=m) w C:=by
 have B:=G.lt;have P:=QY.lt;have h0:=abf L;obtain⟨k,Q3⟩:=ex<|jM L;obtain⟨s,u⟩:=ex<|w.alloc<|aH #[aD n,aD f,V aC c,V aC r,aD v] 46;have hW:tY p id m g L w s:=by rw[u];exact⟨(dm _ _ _ B).trans G,QY.alloc _,(eo _ _).alloc (aS _) _,B,P⟩
 have E:∀W,tY p id m g L w W->W.cell? p=U (V aC id):=λW h=>h.rep.cell.1;have I:∀W,tY p id m g L w W->W.cell? ⟨p,1,Z⟩=U (cq m):=λW h=>h.rep.cell.2.1;have l:∀W,tY p id m g L w W->w.heap.size<W->bz Q 118 #[cq m] W λe t=>e=bj k∧tY p id m g L w t∧(∀o,t.cell? ⟨w,o,Z⟩=W.cell? ⟨w,o,Z⟩)∧∀o,t.frozen? ⟨w,o,Z⟩=W.frozen? ⟨w,o,Z⟩:=λW h hz=>(aCP m L W h.book).mono λe t x=>⟨Q3▸x.1,h.later x.2,λo=>(Cw x.2).1 _ _ hz,λo=>(Cw x.2).2 _ _ hz⟩;have HC:=X l;have K:aC.wrap (k+1)=k+1:=by grind[IntKind.wrap_i64]
 have QW:w.heap.size<s:=by rw[u];simp
 have F:=X u;have HK:=X<|show O.Ok ⟨n,f,k+1,id,v⟩from⟨hn,hf⟩;have QX:=X Q3;clear G QY Q3 hc h0 l hn hf;have z:s.heap[w.heap.size]?=U (aH #[n,f,c,r,v] 46 (0,0)):=by grind[World.alloc_heap_new]
 have c0:s.cell? w=U (aD n):=M z 0;have c1:s.cell? ⟨w,1,Z⟩=U (aD f):=M z 1;have c2:s.cell? ⟨w,2,Z⟩=U (V aC c):=M z 2;have c3:s.cell? ⟨w,3,Z⟩=U (V aC r):=M z 3;have c4:s.cell? ⟨w,4,Z⟩=U (aD v):=M z 4;have S:∀i,s.frozen? ⟨w,i,Z⟩=ai:=by grind[Joins.unfrozen_of_block]
 clear z u;go_enter anX,ntmps66;go_wp2;rw[<-F.out];go_region_held3λW=>tY p id m g L w W((grind[aEq,tY.setCell]))((first|(go_at_call 118;refine jg (HC.out _ ?hw ?hz) ?_;(case hw=>grind);(case hz=>exact QW);rintro e C⟨rfl,hl,Q1,A⟩)));rename_i a;obtain⟨j,d⟩:=ex<|(C.setCell ⟨w.heap.size,2,Z⟩<|V aC<|k+1).setCell ⟨w.heap.size,3,Z⟩<|V aC id;rw[<-d]at a⊢;have d0:j.cell? w=U (aD n):=by rw[d];go_simp
 have d1:j.cell? ⟨w,1,Z⟩=U (aD f):=by rw[d];go_simp
 have d2:j.cell? ⟨w,2,Z⟩=U (V aC<|k+1):=by rw[d];go_simp
 have d3:j.cell? ⟨w,3,Z⟩=U (V aC id):=by rw[d];go_simp
 have d4:j.cell? ⟨w,4,Z⟩=U (aD v):=by rw[d];go_simp
 have e1:j.cell? ⟨p,1,Z⟩=U (cq m):=by grind
 have N:w.heap.size<j:=oh j _ d0;have H:=a.rep.lt;have Q2:=a.rep.ne a.book;have J:w≠m:=by omega
 have HH:=X a;obtain⟨QZ,y⟩:=ex<|fD L ⟨n,f,k+1,id,v⟩;have q:bz Q 101 #[cq m,bJ #[n,f,V aC<|k+1,id,v]] j.drew λe t=>e=bj (bO #[])∧dD (cI t m QZ∧aK (λb=>b=m) j.drew t)∧(∀o,t.cell? ⟨w,o,Z⟩=j.drew.cell? ⟨w,o,Z⟩)∧∀o,t.cell? ⟨p,o,Z⟩=j.drew.cell? ⟨p,o,Z⟩:=(ac5 ⟨n,f,k+1,id,v⟩ HK.out m L j.drew<|a.book.of_block rfl).mono λe t x=>⟨x.1,X ⟨y▸x.2.1,x.2.2⟩,λo=>x.2.2.cell (p:=⟨_,_,Z⟩) N J,λo=>x.2.2.cell (p:=⟨_,_,Z⟩) H Q2⟩;have T:=X q;have R:=X y;clear q y Q1 A hl d HC c0 c1 c2 c3 c4 S a hW E I;go_wp2;go_region_held3λW=>W.cell? ⟨w.heap.size,0,Z⟩=U (aD n)∧W.cell? ⟨w.heap.size,1,Z⟩=U (aD f)∧W.cell? ⟨w.heap.size,2,Z⟩=U (V aC<|k+1)∧W.cell? ⟨w.heap.size,3,Z⟩=U (V aC id)∧W.cell? ⟨w.heap.size,4,Z⟩=U (aD v)∧W.cell? ⟨p,1,Z⟩=U (cq<|U m)(go_keep)((first|(go_at_call 101;refine jg T.out ?_;rintro e w3⟨rfl,hx,Q1,A⟩)));go_wp2;go_end0;obtain⟨Q0,D⟩:=hx.out;refine⟨rfl,?_,?_⟩;·rw[<-QX.out];exact R.out▸Q0
 ·exact(aK.iD (F:=λb=>b=m) HH.out.below).trans<|(aK.drew _ _).trans D
def UW(w:ay)(v:az)(k:Int)(s:ByteArray):Prop:=v=nH/\k=0/\s=⟨#[]⟩\/∃q,v=iB 132 (aG<|U ⟨q,0,Z⟩)/\w.heap[q]?=U (aH #[V aC k,aD s] 137 (0,0))/\1<=k/\k<=5
def oO(L:List O)(id:Int)(n f v:ByteArray):List O×Int×ByteArray:=if lS n 8 then if lS f 4 then if 20<v.size then(L,3,v)else(fD L ⟨n,f,jM L+1,id,v⟩,0,⟨#[]⟩)else(L,2,f)else(L,1,n)
def sE(L:List O)(id:Int)(n:ByteArray):List O×Int×ByteArray:=if lS n 8 then if(oN L n).isEmpty then(L,4,n)else(fD L ⟨n,⟨#[]⟩,jM L+1,id,⟨#[]⟩⟩,0,⟨#[]⟩)else(L,1,n)
theorem VV{s}{k}(h:lS s k=Y):s.size<=k:=by simp only[lS,cV,fO]at h;exact h.2
theorem Ol{m}{k}{L}{w W w'}{s}(d:cI w m L)(a:aW w w W)(c:w'=W.alloc (aH #[V aC k,aD s] 137))(e:1<=k)(f:k<=5):UW w' (iB 132<|aG W) k s/\cI w' m L/\aK (λb=>b=m) w w':=by subst c;exact⟨aA ⟨_,rfl,iF _ _,by omega,by omega⟩,(d.below a).alloc _,(aK.iD a).trans<|aK.alloc _ _ _⟩
theorem atW(p)(id)(m g)(L)(n f v)(w)(F:fE w p id m g)(C:cI w m L)(G:n.size<=65536)(I:f.size<=65536)(E:jM L<9223372036854775807):bz Q 43 #[aG p,aD n,aD f,aD v] w λe h=>∃A,e=bj A/\UW h A (oO L id n f v).2.1 (oO L id n f v).2.2/\cI h m (oO L id n f v).1/\aK (λb=>b=m) w h:=by
 have j:dD<|bz Q 64 #[n,V aC 8] w λe h=>e=bj (lS n 8)/\aW w w h:=X (YZ n 8 w G<|by omega);have k:dD<|∀W,bz Q 64 #[f,V aC 4] W λe h=>e=bj (lS f 4)/\aW W W h:=X λW=>YZ f 4 W I (by omega);have q:=X ajX;have l:=X C;have z:=X F;cases r:lS n 8 with|false=>
  have i:oO L id n f v=(L,1,n):=by grind[oO]
  rw[r]at j;rw[i];go_enter Qa,ntmps43;go_wp2_with(first|(go_at_call 64;with_reducible refine j.out.mono ?_;rintro e s⟨rfl,c⟩)|(go_at_call 65;refine(q.out _ _ _).mono ?_;rintro e x⟨rfl,J⟩));go_ret;exact⟨_,rfl,Ol (k:=1) l.out c (by grind) (by omega)<|by omega⟩|true=>rw[r]at j;cases u:lS f 4 with|false=>
   have i:oO L id n f v=(L,2,f):=by grind[oO]
   rw[u]at k;rw[i];go_enter Qa,ntmps43;go_wp2_with(first|(go_at_call 64;with_reducible refine j.out.mono ?_;rintro e s⟨rfl,c⟩)|(go_at_call 64;with_reducible refine(k.out _).mono ?_;rintro e x⟨rfl,d⟩)|(go_at_call 65;refine(q.out _ _ _).mono ?_;rintro e B⟨rfl,o⟩));go_ret;exact⟨_,rfl,Ol (k:=2) l.out (c.trans<|d.mono c.size) (by grind) (by omega)<|by omega⟩|true=>
   rw[u]at k;by_cases h3:20<v.size
   .have i:oO L id n f v=(L,3,v):=by grind[oO]
    rw[i];go_enter Qa,ntmps43;go_wp2_with(first|(go_at_call 64;with_reducible refine j.out.mono ?_;rintro e s⟨rfl,c⟩)|(go_at_call 64;with_reducible refine(k.out _).mono ?_;rintro e x⟨rfl,d⟩)|(go_at_call 65;refine(q.out _ _ _).mono ?_;rintro e B⟨rfl,o⟩));go_ret;exact⟨_,rfl,Ol (k:=3) l.out (c.trans<|d.mono c.size) (by grind) (by omega)<|by omega⟩
   .have i:oO L id n f v=(fD L ⟨n,f,jM L+1,id,v⟩,0,⟨#[]⟩):=by grind[oO]
    have D:=X λW y=>abV p id m g L n f v 0 0 W ((y.block p z.out.lt).trans z.out) (l.out.below y) (by have:=VV r;omega) (by have:=VV u;omega) (X E).out;rw[i];go_enter Qa,ntmps43;go_wp2_with(first|(go_at_call 64;with_reducible refine j.out.mono ?_;rintro e s⟨rfl,c⟩)|(go_at_call 64;with_reducible refine(k.out _).mono ?_;rintro e x⟨rfl,d⟩)|(go_at_call 66;refine(D.out _<|c.trans<|d.mono c.size).mono ?_;rintro e B⟨rfl,t,H⟩));go_ret;exact⟨_,rfl,ax ⟨rfl,rfl,rfl⟩,t,(aK.iD<|c.trans<|d.mono c.size).trans H⟩
theorem aCi(p)(id)(m g)(L)(n)(w)(q:fE w p id m g)(C:cI w m L)(x:n.size<=65536)(G:L.length<=1073741824)(F:jM L<9223372036854775807):bz Q 46 #[aG p,aD n] w λe i=>∃v,e=bj v/\UW i v (sE L id n).2.1 (sE L id n).2.2/\cI i m (sE L id n).1/\aK (λb=>b=m) w i:=by
 have f:dD<|bz Q 64 #[n,V aC 8] w λe i=>e=bj (lS n 8)/\aW w w i:=X (YZ n 8 w x<|by omega);have y:=X ajX;have o:=X C;have u:=X q;have d:=q.lt;have h:=q.cell.2.1;cases s:lS n 8 with|false=>
  have j:sE L id n=(L,1,n):=by grind[sE]
  rw[s]at f;rw[j];go_enter VC,ntmps46;go_wp2_with(first|(go_at_call 64;with_reducible refine f.out.mono ?_;rintro e z⟨rfl,a⟩)|(go_at_call 65;refine(y.out _ _ _).mono ?_;rintro e B⟨rfl,J⟩));go_ret;exact⟨_,rfl,Ol (k:=1) o.out a (by grind) (by omega)<|by omega⟩|true=>rw[s]at f;have x:=VV s;have l:=X λW k=>aEe m L n W (o.out.below k) G (by omega);cases A:(oN L n).isEmpty with|true=>
   have j:sE L id n=(L,4,n):=by grind[sE]
   rw[A]at l;rw[j];go_enter VC,ntmps46;go_wp2_with(first|(go_at_call 64;with_reducible refine f.out.mono ?_;rintro e z⟨rfl,a⟩;have r:=(a.cell (p:=⟨p,1,Z⟩) d).trans h)|(go_at_call 69;refine(l.out _ a).mono ?_;rintro e B⟨rfl,c⟩)|(go_at_call 65;refine(y.out _ _ _).mono ?_;rintro e H⟨rfl,D⟩));go_ret;exact⟨_,rfl,Ol (k:=4) o.out (a.trans<|c.mono a.size) (by grind) (by omega)<|by omega⟩|false=>
   have j:sE L id n=(fD L ⟨n,⟨#[]⟩,jM L+1,id,⟨#[]⟩⟩,0,⟨#[]⟩):=by grind[sE]
   rw[A]at l;have E:=X λW k=>abV p id m g L n ⟨#[]⟩ ⟨#[]⟩ 0 0 W ((k.block p u.out.lt).trans u.out) (o.out.below k) (by omega) (by decide) (X F).out;rw[j];go_enter VC,ntmps46;go_wp2_with(first|(go_at_call 64;with_reducible refine f.out.mono ?_;rintro e z⟨rfl,a⟩;have r:=(a.cell (p:=⟨p,1,Z⟩) d).trans h)|(go_at_call 69;refine(l.out _ a).mono ?_;rintro e B⟨rfl,c⟩)|(go_at_call 66;refine(E.out _<|a.trans<|c.mono a.size).mono ?_;rintro e H⟨rfl,t,I⟩));go_ret;exact⟨_,rfl,ax ⟨rfl,rfl,rfl⟩,t,(aK.iD<|a.trans<|c.mono a.size).trans I⟩
theorem avT(w):(OJ 107 Z).run Q w=aY (cq w) (w.alloc<|iZ #[] 0):=by kernel_rfl
theorem avS(w):(OJ 108 Z).run Q w=aY (cq w) (w.alloc<|iZ #[] 0):=by kernel_rfl
theorem avf(id)(w):bz Q 50 #[V aC id] w λe b=>e=bj (aG<|U ⟨w+2,0,Z⟩)/\fE b (w+2) id w (w+1)/\cI b w []/\dn (qT aC) b (w+1) []/\aW w w b:=by
 have d:=avT;have c:=avS;go_enter an4,ntmps50;go_wp2;go_ret;refine⟨rfl,?_,?_,?_,(((eo _ _).alloc (aS _) _).alloc (by simp) _).alloc (by simp;omega) _⟩;.have:=iF ((w.alloc<|iZ #[] 0).alloc<|iZ #[] 0)<|aH #[id,cq<|U w,cq<|U<|w+1] 110;rw[vX,vX]at this;exact this
 .exact((dn.new nx w).alloc _).alloc _
 .have:=(dn.new (qT aC)<|w.alloc<|iZ #[] 0).alloc<|aH #[id,cq<|U w,cq<|U<|w+1] 110;grind[World.size_alloc]
theorem atr(p)(id)(m g)(w)(b:fE w p id m g):bz Q 39 #[aG p] w λe c=>e=bj (dM (ez 85) #[] #[aG w,aG<|U ⟨w+1,0,Z⟩])/\c=(w.alloc<|aH #[cq m] 107).alloc (aH #[aD ⟨#[]⟩] 9):=by have d:=b.cell.2.1;go_enter an6,ntmps39;go_wp2_with(go_at_call 52;refine(Uz m _ _).mono ?_;rintro e f⟨rfl,a⟩);go_ret;exact⟨rfl,by grind⟩
attribute [local go_sem] Oper.semAt_some
theorem afU(W:ay)(b:List az)(T:Nat){o}(c:o=aH b.toArray T (0,0)):∀j u,b[j]?=U u->(W.alloc o).cell? ((W:eT).add j)=U u:=λj u h=>by
 subst c;have:=M (iF W<|aH b.toArray T (0,0)) j;have e:(W:eT).add j=⟨W,j,Z⟩:=by unfold Addr.add;grind
 grind
theorem app1{P:bW}{ops:Array dJ}{rest}{o:dJ}{a:Act}{Q}{s x:iT}{t e T:ey}{z v:az}{B m k n b:Nat}{xs news:List az}{W:ay}(c:o.guard=Z)(d:o.op=.call {callee:=.builtin .append,args:=#[s,x],argTypes:=#[t,t]})(f:P.underlying t=U (.slice e))(g:(P.info? e).map (λi=>(i.zero,i.size,i.bytes))=U (U z,m,k))(h:(z.cells.size==m&&cg (0<m)&&cg (0<k))=Y)(i:a.eval s=v)(j:(W.alloc<|aH news.toArray T).ownsRow B e m v n xs)(p:a.eval x=aE (U ⟨b,0,Z⟩) 1 1)(q:b=W.heap.size)(r:news.length=1*m)(u:news.all zh=Y)(y:(n+1)*k<=140737488355328)(l:B<=(W.alloc<|aH news.toArray T).heap.size)(H:∀v' w',w'.ownsRow B e m v' (n+1) (xs++news)->(W.alloc<|aH news.toArray T).grownBy w' v.ownBlock->(v'=aE Z 0 0↔v=aE Z 0 0/\1=0)->v'.ownBlock=v.ownBlock\/v'.ownBlock=U (W.alloc<|aH news.toArray T).heap.size->wpList P ops Q rest (a.put o.dst v') w'):wpList P ops Q (o::rest) a<|W.alloc<|aH news.toArray T:=by obtain⟨A,C,D,E,F⟩:=info_parts g;simp only[cV,beq_iff_eq,fO]at h;subst q;exact wpList_append_own_at _ c s x t d B e A z m k f C D E F h.1.1 h.1.2 v n xs i j _ 1 1 news p r (afU W news T rfl) (List.all_eq_true.1 u) (by have:=Nat.le_mul_of_pos_right (n+1) h.2;unfold vg;omega) y l H
end
end Go.Proofs.YtpdbmpbmepkikaaGreatDoor
set_option maxRecDepth 100000
namespace Go.Proofs.YtpdbmpbmepkikaaGreatDoor
section
open Go.RowKit
theorem Bn{W:ay}{b}(c:b=W.heap.size)(a:List az)(T:Nat){o}(d:o=aH a.toArray T (0,0)):∀j u,a[j]?=U u->(W.alloc o).cell? ((b:eT).add j)=U u:=by grind[afU]
end
end Go.Proofs.YtpdbmpbmepkikaaGreatDoor
set_option maxRecDepth 100000
namespace Go.Proofs.YtpdbmpbmepkikaaGreatDoor
section
open Go.RowKit
def AP(w:ay)(v:az)(l:List ByteArray):Prop:=w.ownsRow 0 9 1 v l.length<|l.map aD
theorem AP.cell{w}{v}{l}(h:AP w v l){j}(e):∃g b,v=aE (U ⟨g,0,Z⟩) l.length b/\g<w/\w.cell? ⟨g,j,Z⟩=U (aD l[j]):=by
 obtain⟨o,d⟩:=h;rcases d with⟨_,d⟩|⟨g,b,i,f,_,c,m,_,_,n⟩;.omega
 .refine⟨g,b,f,(cU.1 c).1,?_⟩;have:=M c j;rw[this];have k:(l.map aD)[j]?=U l[j]:=by simp[e]
  grind
theorem AP.auI{w}{base}{v}{l}(h:w.ownsRow base 9 1 v l.length<|l.map aD):AP w v l:=FE h λ_ _=>Nat.zero_le _
def mH(l:List O):List ByteArray:=l.flatMap λx=>[x.field,x.value]
theorem ajz(l):(mH l).length=2*l.length:=by induction l with|nil=>rfl|cons x l a=>grind[mH,List.length_append]
theorem aA4{l}{j}(b):(mH l)[2*j]?=l[j].field/\(mH l)[2*j+1]?=l[j].value:=by induction l generalizing j with|nil=>grind|cons x l a=>show([x.field,x.value]++mH l)[2*j]?=_/\([x.field,x.value]++mH l)[2*j+1]?=_;cases j with|zero=>grind|succ j=>grind
structure Ps(bo bn bk bl:Nat)(ok no:Bool)(k:Int)(lv:az)(W:ay):Prop where ok:W.heap[bo]?=U (aH #[bQ ok] 4 (0,0))no:W.heap[bn]?=U (aH #[bQ no] 4 (0,0))k:W.heap[bk]?=U (aH #[V aC k] 3 (0,0))l:W.heap[bl]?=U (aH #[lv] 51 (0,0))
theorem aBq(d c i bl)(F)(j)(A)(J:F.length<=1000000)(w)(W)(h:Ps d c i bl Y ai (2*j:Nat) w W)(s:AP W w<|mH F)(H:d≠c∧d≠i∧d≠bl∧c≠i∧c≠bl∧i≠bl):bz Q 45 #[F[j].field,F[j].value,aG d,aG c,aG i,aG bl] W λe B=>e=bj (cg<|2*j+2<=F.length)∧Ps d c i bl Y (cg<|F.length<2*j+2) (2*(j+1):Nat) w B∧aK (λb=>b=d∨b=c∨b=i) W B:=by
 obtain⟨K,L⟩:=aA4 A;have a:=ajz F;have t:2*j+1<(mH F).length:=by omega
 obtain⟨g,u,r,Z,D⟩:=s.cell (j:=2*j) (by omega);obtain⟨g',x,m,G,E⟩:=s.cell (j:=2*j+1) (by omega);rw[r]at m;simp only[Value.slice.injEq,ew,Addr.mk.injEq,and_true,true_and]at m;obtain⟨rfl,rfl⟩:=m;have z:(mH F)[2*j]=F[j].field:=by grind
 have y:(mH F)[2*j+1]=F[j].value:=by grind
 rw[z]at D;rw[y]at E;obtain⟨f,C⟩:=ex F[j].field;obtain⟨v,o⟩:=ex F[j].value;rw[<-C]at D⊢;rw[<-o]at E⊢;obtain⟨n,p⟩:=ex F.length;rw[<-p]at a A J⊢;rw[a]at r t;subst r;have N:W.cell? d=U (bQ Y):=M h.ok 0;have a1:W.cell? c=U (bQ ai):=M h.no 0;have O:W.cell? i=U (V aC (2*j:Nat)):=M h.k 0;have P:W.cell? bl=U (aE g (2*n) u):=M h.l 0;have Q2:=qO h.ok 0;have Q3:=qO h.no 0;have S:=qO h.k 0;obtain⟨k,l,Q0,R,T,Q1⟩:=H;have q:=X h;clear s z y K L h C o p a;go_enter acz,ntmps45;go_wp2;go_ret;have I:cg ((n:Int)<2*(j:Int)+2)=cg (n<2*j+2):=by grind
 refine⟨xx ?_,⟨?_,?_,?_,?_⟩,?_⟩;·grind
 ·rw[gQ _ _ _ _<|by grind,gQ _ _ _ _<|by grind];exact vJ q.out.ok
 ·rw[I];refine vJ (v:=bQ ai) ?_;rw[gQ _ _ _ _<|by grind,gQ _ _ _ _<|by grind];exact q.out.no
 ·rw[gQ _ _ _ _<|by grind];rw[show((2*(j+1):Nat):Int)=2*(j:Int)+2 by omega];refine vJ (v:=V aC (2*j:Nat)) ?_;rw[gQ _ _ _ _<|by grind];exact q.out.k
 ·rw[gQ _ _ _ _<|by grind,gQ _ _ _ _<|by grind,gQ _ _ _ _<|by grind];exact q.out.l
 ·exact((aK.setCell (F:=λb=>b=d∨b=c∨b=i) _ _ _<|ax rfl).trans<|aK.setCell _ _ _<|aA<|aA rfl).trans<|aK.setCell _ _ _<|aA<|ax rfl
end
section
open Go.RowKit Go.Extern.Stop Go.Stop Go.Extern
theorem aDI(t)(w):(Ox<|iB 134<|aG<|U t).run Q w=aY (bJ #[aG<|U ⟨7,134,Z⟩,aG w,V cO 150]) (w.alloc<|aH #[aG t] 134):=by kernel_rfl
theorem aDL(a)(w):(Uo (Ca "reflectlite.Value.Type" 0) (λt _ _ _=>Um t) #[bJ #[aG<|U ⟨7,134,Z⟩,aG<|U a,V cO 150]]).run Q w=aY (iB 264<|bJ #[aG<|U ⟨7,134,Z⟩]) w:=by kernel_rfl
theorem aDQ(h)(w):(Cd 476 264 (bJ #[h]) "Kind").run Q w=aY (278,h) w:=by kernel_rfl
theorem aDU(w):((abd λt=>Functor.map (λa:Nat=>V aq a) (Kt t)) #[aG<|U ⟨7,134,Z⟩]).run Q w=aY (V aq 22) w:=by kernel_rfl
theorem aDV(w):((abd λt=>Functor.map (λa:Nat=>V aq a) (Kt t)) #[aG<|U ⟨7,132,Z⟩]).run Q w=aY (V aq 22) w:=by kernel_rfl
theorem rlm(z)(f)(v):Cb z f #[v]=(do match<-GS v with|none=>z|some (t,a,c)=>f t a c<|c%32):=rfl
theorem aly(a)(w):(GS<|bJ #[aG<|U ⟨7,134,Z⟩,aG<|U a,V cO 150]).run Q w=aY (U (134,a,150)) w:=by kernel_rfl
theorem aDW(a p)(W)(b:W.cell? a=U (.pointer<|U p)):(Cb (Ca "reflectlite.Value.IsNil" 0) Ui #[.agg #[.pointer<|U ⟨7,134,Z⟩,.pointer<|U a,.int .u64 150]]).run Q W=.ok ai W:=by rw[rlm];simp only[gR,aly,mg];simp[Ui,loadVar,isAgg,pq,b,mg]
theorem aDS(h)(w):(Cd 476 264 (bJ #[h]) "Elem").run Q w=aY (290,bJ #[h]) w:=by kernel_rfl
theorem aDR(h)(w):(Cd 476 264 (bJ #[h]) "Implements").run Q w=aY (291,bJ #[h]) w:=by kernel_rfl
theorem aDT(h)(w):(Cd 476 264 (bJ #[h]) "AssignableTo").run Q w=aY (288,bJ #[h]) w:=by kernel_rfl
theorem aD0(w):(Up akL #[bJ #[aG<|U ⟨7,134,Z⟩]]).run Q w=aY (iB 264<|bJ #[aG<|U ⟨7,132,Z⟩]) w:=by kernel_rfl
theorem aDX(w):(Ky "Implements" akE #[.agg #[.pointer<|U ⟨7,132,Z⟩],.iface 264<|.agg #[.pointer<|U ⟨7,87,Z⟩]]).run Q w=.ok Y w:=by kernel_rfl
theorem aDK(v)(w):(Un #[iB 132 v]).run Q w=aY (iB 264<|bJ #[aG<|U ⟨7,132,Z⟩]) w:=by kernel_rfl
theorem aD3(w):(Ky "AssignableTo" aa9 #[.agg #[.pointer<|U ⟨7,132,Z⟩],.iface 264<|.agg #[.pointer<|U ⟨7,132,Z⟩]]).run Q w=.ok Y w:=by kernel_rfl
theorem aDJ(e)(w):(Ox<|iB 132<|aG<|U e).run Q w=aY (bJ #[aG<|U ⟨7,132,Z⟩,aG w,V cO 150]) (w.alloc<|aH #[aG e] 132):=by kernel_rfl
theorem aDZ(w):(Rtype.elem? 134).run Q w=aY (U 132) w:=by kernel_rfl
theorem aDP(p)(w):(akM 132 p akN).run Q w=aY (bJ #[aG<|U ⟨7,132,Z⟩,aG p,V cO 406]) w:=by kernel_rfl
theorem aDY(a p)(W)(b:W.cell? a=U (.pointer p)):(Cb (Ca "reflectlite.Value.Elem" 0) Ul #[.agg #[.pointer<|U ⟨7,134,Z⟩,.pointer<|U a,.int .u64 150]]).run Q W=.ok (.agg #[.pointer<|U ⟨7,132,Z⟩,.pointer<|U p,.int .u64 406]) W:=by rw[rlm];simp only[gR,aly,mg];simp[Ul,loadVar,isAgg,pq,b,mg,aDZ,aDP]
theorem rls(v x):OQ #[v,x]=(do
  let(U (dst,a,E),U (src,b,_)):=(<-GS v,<-GS x)|unsupported<|x7 "extern/(internal/reflectlite.Value).Set.zeroValue"
  if E/akN%2==0 then vh<|x7 "extern/(internal/reflectlite.Value).Set.unaddressable"
  let c<-loadVar src b;if<-Kx dst src then storeVar dst a c;else if<-Rtype.implements dst src then if(<-Kt src)==20 then match c with|nH=>vh<|x7 "extern/reflectlite: a nil value of one interface type handed on as a value of another"|_=>storeVar dst a c;else storeVar dst a (iB src c)else panicString<| "reflectlite.Set: value of type "++(<-Rtype.spelt src)++ " is not assignable to type "++(<-Rtype.spelt dst)
  bI<|bO #[]):=rfl
theorem aDN(a)(w):(GS<|bJ #[aG<|U ⟨7,132,Z⟩,aG<|U a,V cO 406]).run Q w=aY (U (132,a,406)) w:=by kernel_rfl
theorem aDO(a)(w):(GS<|bJ #[aG<|U ⟨7,132,Z⟩,aG<|U a,V cO 150]).run Q w=aY (U (132,a,150)) w:=by kernel_rfl
theorem aD1(w):(Kx 132 132).run Q w=aY Y w:=by kernel_rfl
theorem aDM(a b e)(old)(W)(c:W.cell? b=U (.pointer e))(d:W.cell? a=U old)(f:W.frozen? a=ai):(OQ #[.agg #[.pointer<|U ⟨7,132,Z⟩,.pointer<|U a,.int .u64 406],.agg #[.pointer<|U ⟨7,132,Z⟩,.pointer<|U b,.int .u64 150]]).run Q W=.ok (.tuple #[]) (W.setCell a<|.pointer<|U e):=by rw[rls];simp only[gR,aDN,aDO,mg];simp[akN,loadVar,isAgg,pq,c,mg,aD1,storeVar,Cf,storeCells,Addr.add];rw[run_store Q W a _ _<|by rfl];grind
set_option maxHeartbeats 4000000 in
theorem aDG(e t)(old)(w)(g:w.cell? ⟨0,0,Z⟩=U (iB 264<|bJ #[aG<|U ⟨7,87,Z⟩]))(b:w.cell? t=U old)(f:w.frozen? t=ai):bz Q 62 #[iB 132<|aG<|U e,iB 134<|aG<|U t] w λr x=>r=bj Y/\x=((((w.alloc<|aH #[aG t] 134).alloc<|aH #[aG<|U ⟨7,134,Z⟩,aG w,V cO 150] 193).alloc<|aH #[aG<|U ⟨7,134,Z⟩,aG w,V cO 150] 193).alloc<|aH #[aG e] 132).setCell t (aG e):=by
 have C:=@run_callFunc_extern Q 111 _ (λa=>Ox<|a.getD 0<|bO #[]) ao2 (by kernel_rfl) (by kernel_rfl) (by kernel_rfl) (by kernel_rfl);have H:=@run_callFunc_extern Q 112 _ (Uo (Ca "reflectlite.Value.Type" 0) λt _ _ _=>Um t) ao1 (by kernel_rfl) (by kernel_rfl) (by kernel_rfl) (by kernel_rfl);have D:=@run_callFunc_extern Q 113 _ (Cb (Ca "reflectlite.Value.IsNil" 0) Ui) ao0 (by kernel_rfl) (by kernel_rfl) (by kernel_rfl) (by kernel_rfl);have o:=@run_callFunc_extern Q 278 _ (abd λt=>do bI<|V aq<|<-Kt t) aod (by kernel_rfl) (by kernel_rfl) (by kernel_rfl) (by kernel_rfl);have j:=@run_callFunc_extern Q 290 _ (Up akL) an9 (by kernel_rfl) (by kernel_rfl) (by kernel_rfl) (by kernel_rfl);have l:=@run_callFunc_extern Q 291 _ (Ky "Implements" akE) an8 (by kernel_rfl) (by kernel_rfl) (by kernel_rfl) (by kernel_rfl);have z:=@run_callFunc_extern Q 115 _ Un acO (by kernel_rfl) (by kernel_rfl) (by kernel_rfl) (by kernel_rfl);have y:=@run_callFunc_extern Q 288 _ (Ky "AssignableTo" aa9) aob (by kernel_rfl) (by kernel_rfl) (by kernel_rfl) (by kernel_rfl);have u:=@run_callFunc_extern Q 173 _ (Cb (Ca "reflectlite.Value.Elem" 0) Ul) aou (by kernel_rfl) (by kernel_rfl) (by kernel_rfl) (by kernel_rfl);have v:=@run_callFunc_extern Q 174 _ OQ aot (by kernel_rfl) (by kernel_rfl) (by kernel_rfl) (by kernel_rfl);have E:=aDK;have I:=aDT;have p:=aD3;have k:=aDJ;have B:=aDI;have M:=aDL;have J:=aDQ;have F:=aDS;have L:=aDR;have i:=aDU;have s:=aDV;have A:=aD0;have n:=aDX;have N:=aDW ⟨w.heap.size,0,Z⟩ t ((w.alloc<|aH #[aG<|U t] 134).alloc<|aH #[aG<|U ⟨7,134,Z⟩,aG<|U ⟨w.heap.size,0,Z⟩,V cO 150] 193) (by simp);have d:0<w.heap.size:=by
  rcases awG w.heap.size with m|h;.simp[pg,m]at g
  grind
 have q:((w.alloc<|aH #[aG t] 134).alloc<|aH #[aG<|U ⟨7,134,Z⟩,aG w,V cO 150] 193).cell? ⟨0,0,Z⟩=U (iB 264<|bJ #[aG<|U ⟨7,87,Z⟩]):=by rw[vR _ _ ⟨0,0,Z⟩<|by simp,vR _ _ ⟨0,0,Z⟩ d];exact g
 have c:t.block<w:=by
  rcases Nat.lt_or_ge t.block w.heap.size with h|h;.exact h
  .simp[pg,yH h]at b
 have K:=aDY ⟨w.heap.size,0,Z⟩ t (((w.alloc<|aH #[aG<|U t] 134).alloc<|aH #[aG<|U ⟨7,134,Z⟩,aG<|U ⟨w.heap.size,0,Z⟩,V cO 150] 193).alloc<|aH #[aG<|U ⟨7,134,Z⟩,aG<|U ⟨w.heap.size,0,Z⟩,V cO 150] 193) (by rw[vR _ _ ⟨w.heap.size,0,Z⟩<|by simp;omega];simp);have G:=aDM t ⟨w.heap.size+1+1+1,0,Z⟩ e old ((((w.alloc<|aH #[aG<|U t] 134).alloc<|aH #[aG<|U ⟨7,134,Z⟩,aG<|U ⟨w.heap.size,0,Z⟩,V cO 150] 193).alloc<|aH #[aG<|U ⟨7,134,Z⟩,aG<|U ⟨w.heap.size,0,Z⟩,V cO 150] 193).alloc<|aH #[aG<|U e] 132) (by rw[Jk _ _ _ _<|by simp];rfl) (by rw[vR _ _ t<|by simp;omega,vR _ _ t<|by simp;omega,vR _ _ t<|by simp;omega,vR _ _ t c];exact b) (by rw[Se _ _ t<|by simp;omega,Se _ _ t<|by simp;omega,Se _ _ t<|by simp;omega,Se _ _ t<|Nat.ne_of_lt c];exact f);go_enter anZ,ntmps62;go_wp2_with(go_at_call 114;go_enter aoZ,ntmps114);refine Jo 1 ?_;rw[DC];go_wp2;go_ret;exact⟨rfl,rfl⟩
theorem axh(v)(w):(Un #[iB 135 v]).run Q w=aY (iB 264<|bJ #[aG<|U ⟨7,135,Z⟩]) w:=by kernel_rfl
noncomputable def akR:Array az->cz az:=(find f289).get<|by kernel_rfl
theorem axn(w):(akR #[.agg #[.pointer<|U ⟨7,135,Z⟩]]).run Q w=.ok Y w:=by kernel_rfl
theorem axi(v)(w):(Cd 476 264 v "Comparable").run Q w=aY (289,v) w:=by kernel_rfl
theorem au7(v)(a)(w):(G5 (iB 132 v) a 276 Y).run Q w=aY (bO #[nH,ai]) w:=Sd ack (by kernel_rfl) (by kernel_rfl) v a w
theorem au8(v)(a)(w):(G5 (iB 135 v) a 276 Y).run Q w=aY (bO #[nH,ai]) w:=Sd ack (by kernel_rfl) (by kernel_rfl) v a w
theorem au6(v)(a)(w):(G5 (iB 135 v) a 271 Y).run Q w=aY (bO #[nH,ai]) w:=Sd acm (by kernel_rfl) (by kernel_rfl) v a w
theorem au5(v)(a)(w):(G5 (iB 135 v) a 273 Y).run Q w=aY (bO #[nH,ai]) w:=Sd anq (by kernel_rfl) (by kernel_rfl) v a w
theorem azZ(v)(a)(w):(G5 (iB 132 v) a 271 Y).run Q w=aY (bO #[iB 132 v,Y]) w:=run_typeAssert_hasB acm (by kernel_rfl) v a w
theorem avI(v)(w):(Cd 476 132 v "Unwrap").run Q w=aY (282,v) w:=by kernel_rfl
set_option maxHeartbeats 1000000 in
theorem axl(q)(E k)(s)(w)(c:w.heap[q]?=U (.cells #[E,.string s] 137 (0,0))):bz Q 63 #[.iface 132<|.pointer<|U ⟨q,0,Z⟩,.iface 135<|.int .i64 k] w λe g=>e=.returned (cg<|E=k)/\g=w:=by
 have i:=@run_callFunc_extern Q 115 _ Un acO (by kernel_rfl) (by kernel_rfl) (by kernel_rfl) (by kernel_rfl);have d:=@run_callFunc_extern Q 289 _ akR aoa (by kernel_rfl) (by kernel_rfl) (by kernel_rfl) (by kernel_rfl);have l:=axh;have t:=axn;have j:=axi;have o:=au7;have h:=au8;have p:=au6;have u:=au5;have m:=azZ;have r:=avI;have n:w.cell? q=U (.int .i64 E):=M c 0;have f:=run_eql_iface_types (P:=Q) 132 135 (.pointer<|U ⟨q,0,Z⟩) (.int .i64 k) Vv (by decide) w;by_cases J:E=k
 .subst J;have b:(fZ .eql 87 (.iface 135 E)<|.iface 135 E).run Q w=.ok Y w:=by have:=agY (P:=Q) w (t:=87) (tx:=135) (k:=.i64) E E Vv (by kernel_rfl) acp;grind
  go_enter acv,ntmps63;go_wp2_with(go_at_call 116;go_enter acN,ntmps116);refine Jo 2 ?_;rw[DC];go_wp2_with(go_at_call 282;go_enter acE,ntmps282);rw[DC];go_wp2;go_ret;exact⟨by simp,rfl⟩
 .have b:(fZ .eql 87 (.iface 135 E)<|.iface 135 k).run Q w=.ok ai w:=by have:=agY (P:=Q) w (t:=87) (tx:=135) (k:=.i64) E k Vv (by kernel_rfl) acp;grind
  go_enter acv,ntmps63;go_wp2_with(go_at_call 116;go_enter acN,ntmps116);refine Jo 2 ?_;rw[DC];go_wp2_with(go_at_call 282;go_enter acE,ntmps282);rw[DC];go_wp2;go_ret;exact⟨by simp[J],rfl⟩
end
section
open Go.RowKit
def jA(w:ay):Prop:=w.cell? ⟨0,0,Z⟩=U (iB 264<|bJ #[aG<|U ⟨7,87,Z⟩])
theorem jA.lt{w}(h:jA w):0<w.heap.size:=oh w ⟨0,0,Z⟩ h
theorem jA.of_block{w w'}(h:jA w)(a:w'.heap[0]?=w.heap[0]?):jA w':=(ei (w:=w) (a:=⟨0,0,Z⟩) a).trans h
theorem jA.below{N}{w w'}(h:jA w)(a:aW N w w')(b:w<=N):jA w':=h.of_block<|a.block 0<|cE h.lt b
theorem jA.keep{F}{w w'}(h:jA w)(b:aK F w w')(a:¬F 0):jA w':=h.of_block<|b.block 0 h.lt a
structure CI(N q:Nat)(k:Int)(s:ByteArray)(w0 W:ay):Prop where box:W.heap[N+1]?=U (aH #[aG<|U ⟨q,0,Z⟩] 132 (0,0))err:W.heap[q]?=U (aH #[V aC k,aD s] 137 (0,0))res:W.heap[N]?=U (aH #[V aC 0,aD ⟨#[]⟩] 49 (0,0))below:aW w0.heap.size w0 W
theorem aEw{N q}{k}{s}{w0 W}:CI N q k s w0 W.drew↔CI N q k s w0 W:=⟨λh=>⟨h.1,h.2,h.3,⟨h.below.os,h.below.tape,h.below.output,h.below.size,h.below.block⟩⟩,λh=>⟨h.1,h.2,h.3,⟨h.below.os,h.below.tape,h.below.output,h.below.size,h.below.block⟩⟩⟩
theorem aDH(q b)(W)(f:jA W)(c:W.heap[b]?=U (aH #[aG Z] 132 (0,0))):bz Q 62 #[iB 132<|aG<|U ⟨q,0,Z⟩,iB 134<|aG<|U ⟨b,0,Z⟩] W λe a=>e=bj Y/\aK (λx=>x=b) W a/\a.heap[b]?=U (aH #[aG q] 132 (0,0)):=by have d:=(cU.1 c).1;refine(aDG q b (aG Z) W f (M c 0)<|qO c 0).mono ?_;rintro e a⟨rfl,rfl⟩;refine⟨rfl,((((aK.alloc _ _ _).trans<|aK.alloc _ _ _).trans<|aK.alloc _ _ _).trans<|aK.alloc _ _ _).trans<|aK.setCell _ _ _ rfl,?_⟩;grind[vJ,Below.heap_alloc]
theorem at7(w):bz Q 42 #[nH] w λe a=>e=bj (bJ #[V aC 0,aD ⟨#[]⟩])/\aW w w a:=by go_enter acA,ntmps42;go_wp2;refine vS (results_cell_row rfl _ _ w 49 #[V aC 0,aD ⟨#[]⟩] (0,0) _ rfl (iF _ _) P9 rfl<|by kernel_rfl) rfl ?_;exact⟨rfl,(eo _ _).alloc (aS _) _⟩
theorem aub(q)(k)(s)(w)(R:jA w)(C:w.heap[q]?=U (.cells #[k,s] 137 (0,0)))(h1:1<=k)(Q2:k<=5):bz Q 42 #[.iface 132<|.pointer<|U ⟨q,0,Z⟩] w λe m=>e=.returned (.agg #[.int .i64 k,.string s])/\aW w w m:=by
 have z:=(cU.1 C).1;obtain⟨d,l⟩:=ex<|(w.alloc<|.cells #[.int .i64 0,.string ⟨#[]⟩] 49).alloc<|.cells #[.pointer Z] 132;have g:aW w w d:=by rw[l];exact((eo _ _).alloc (aS _) _).alloc (by simp) _
 have t:d.heap[w.heap.size+1]?=U (.cells #[.pointer Z] 132 (0,0)):=by grind[World.alloc_heap_new,World.size_alloc]
 have p:d.heap[w.heap.size]?=U (.cells #[.int .i64 0,.string ⟨#[]⟩] 49 (0,0)):=by grind[Below.heap_alloc,World.alloc_heap_new]
 have QX:d.heap.size=w+2:=by rw[l];simp
 have c:bz Q 62 #[.iface 132<|.pointer q,.iface 134<|.pointer<|U ⟨w+1,0,Z⟩] d λe m=>e=.returned Y/\CI w q k s w m:=(aDH q (w.heap.size+1) d (R.below g<|aS _) t).mono λe m h=>⟨h.1,h.2.2,(h.2.1.block q (by omega)<|by omega).trans<|(g.block q z).trans C,(h.2.1.block _ (by omega)<|by omega).trans p,He g h.2.1 λx A e=>by omega⟩;rw[l]at c;have QW:∀W,CI w q k s w W->W.cell? q=U (.int .i64 k):=λW h=>M h.err 0;have J:∀W,CI w q k s w W->W.cell? ⟨q,1,Z⟩=U (.string s):=λW h=>M h.err 1;have A:∀W,CI w q k s w W->W.cell? ⟨w+1,0,Z⟩=U (.pointer q):=λW h=>M h.box 0;have N:dD<|∀W j b,CI w q k s w W->cg (k=j)=b->bz Q 63 #[.iface 132<|.pointer q,.iface 135 j] W λe m=>e=.returned b/\m=W:=X λW j b h e=>e▸axl q k j s W h.err;have r:=gF.mk QW J A;go_enter acA,ntmps42;go_wp2_with(go_at_call 62;refine(X c).out.mono ?_;rintro e F⟨rfl,E⟩;refine Halt.of ?_);have y0:=r.a F E;have y1:=r.c F E;have S:(k==0)=ai:=by grind
 unfold Halt;go_wp2;go_loopg[4]6λn i wr=>∃j:Nat,i=.int .i64 j/\n+j=6/\CI w.heap.size q k s w wr;case atStart=>grind
 case round=>
  obtain⟨j,rfl,Q1,a⟩:=hrel;have H:=r.c;by_cases hj:j<6
  .have L:(j:Int)<=5:=by omega
   obtain⟨b,K⟩:∃b:Bool,b=cg (k=(j:Int)):=⟨_,rfl⟩;have I:((j:Int)==k)=b:=by grind
   have O:=X K;go_wp2;go_region_held3λW=>CI w.heap.size q k s w W(with_reducible grind[aEw])((first|(go_at_call 63;refine jg (N.out _ (j:Int) b ?hw O.out.symm) ?_;(case hw=>grind);rintro e Q0⟨rfl,v⟩;subst v)));rename_i f;go_wp2;go_roundg(gk-1);case rel=>exact⟨j+1,by go_simp,by omega,f⟩
   grind
  .have B:j=6:=by omega
   subst B;have D:=X a;have G:=M a.res 0;have P:=M a.res 1;have z2:=λi=>qO a.res i;simp at G P;have n1:w≠q:=by omega
   have Q3:=r.a wr a;have u:=r.b wr a;have T:=H wr a;go_wp2;go_region_held3λW=>W.cell? ⟨q,0,Z⟩=U (.int .i64 k)/\W.cell? ⟨q,1,Z⟩=U (.string s)/\W.cell? ⟨w.heap.size+1,0,Z⟩=U (.pointer<|U ⟨q,0,Z⟩)(go_keep)(fail);go_wp2;obtain⟨o,y⟩:=((vC.mk (W:=wr.drew) D.out.res<|aK.drew _ _).set 0 _).set 1 _;simp only[dA,dz,dr]at o;refine vS (results_cell_row rfl _ _ w.heap.size 49 _ (0,0) _ rfl o P9 rfl<|by kernel_rfl) rfl ?_;exact⟨rfl,He D.out.below y λx A e=>by omega⟩
structure sM(w:ay)(pw:Nat)(lv:az)(ps:List Nat):Prop where box:w.heap[pw]?=U (aH #[lv] 74 (0,0))row:w.ownsRow 0 77 1 lv ps.length<|ps.map λp=>aG<|U ⟨p,0,Z⟩
theorem sM.cell{w}{j}{c}{b}(h:sM w j c b){i}(k):∃g a,c=aE (U ⟨g,0,Z⟩) b.length a/\g<w/\w.cell? ⟨g,i,Z⟩=U (aG b[i]):=by
 obtain⟨o,e⟩:=h.row;rcases e with⟨_,e⟩|⟨g,a,l,f,_,d,m,_,_,n⟩;.omega
 .refine⟨g,a,f,(cU.1 d).1,?_⟩;rw[M d i];have q:(b.map λp=>aG<|U ⟨p,0,Z⟩)[i]?=U (aG b[i]):=by simp[k]
  grind
theorem afe(v)(k)(s)(w)(c:jA w)(h:UW w v k s):bz Q 42 #[v] w λe a=>e=bj (bJ #[k,s])/\aW w w a:=by rcases h with⟨rfl,rfl,rfl⟩|⟨q,rfl,b,d,f⟩;all_goals grind[at7,aub]
theorem ae1(H)(Q1)(y)(i:Nat)(Y)(id)(m g)(L)(n f v)(w)(B:sM w H Q1 y)(Gd:y.length<=1000000)(D:fE w y[i] id m g)(F:cI w m L)(K:m≠0)(E:jA w)(P:n.size<=65536)(R:f.size<=65536)(N:jM L<9223372036854775807):bz Q 26 #[aG H,i,aD n,aD f,aD v] w λe QW=>e=bj (bJ #[(oO L id n f v).2.1,(oO L id n f v).2.2])∧cI QW m (oO L id n f v).1∧aK (λb=>b=m) w QW:=by
 obtain⟨gs,J,Q2,hg,G⟩:=B.cell Y;subst Q2;obtain⟨p,S⟩:=ex y[i];rw[<-S]at D G;have O:=(cU.1 B.box).1;have Q0:=F.lt;have T:w.cell? H=U (aE gs y.length J):=M B.box 0;obtain⟨u,k⟩:=ex<|w.alloc<|aH #[V aC 0,aD ⟨#[]⟩] 49;have j:aW w w u:=by rw[k];exact(eo _ _).alloc (aS _) _
 have t:u.heap.size=w+1:=by rw[k];simp
 have l:u.heap[w.heap.size]?=U (aH #[V aC 0,aD ⟨#[]⟩] 49 (0,0)):=by grind[World.alloc_heap_new]
 have c:=atW p id m g L n f v u ((j.block p D.lt).trans D) (F.below j) P R N;obtain⟨r,QX⟩:=ex<|oO L id n f v;rw[<-QX]at c⊢;rw[k]at c;have Q3:=X c;have HH:=CJ.mk k j t l<|E.below j<|aS _;have No:(i:Int)<(y.length:Int):=by omega
 clear c k j t l E B D F QX P R N S;go_enter aof,ntmps26;go_wp2_with(go_at_call 43;refine Q3.out.mono ?_;rintro e w2⟨W,rfl,hE,o,C⟩;refine Halt.of ?_);obtain⟨k,j,t,l,E⟩:=HH;rw[<-k]at C;have d:=(C.block _ (by omega)<|by omega).trans l;unfold Halt;go_wp2_with(go_at_call 42;refine(X<|afe W r.2.1 r.2.2 w2 (E.keep C λe=>K e.symm) hE).out.mono ?_;rintro e I⟨rfl,q⟩;refine Halt.of ?_);obtain⟨o,s,d⟩:=(X<|aM o<|aM ((aK.iD (F:=λb=>b=m) j).trans C) d).out;have a:=(q.block _ (cU.1 d).1).trans d;have a0:I.cell? w=U (V aC 0):=M a 0;have a1:I.cell? ⟨w,1,Z⟩=U (aD ⟨#[]⟩):=M a 1;have b0:∀i,I.frozen? ⟨w,i,Z⟩=ai:=by grind[Joins.unfrozen_of_block]
 unfold Halt;go_wp2;obtain⟨o,s,a⟩:=(X<|aM (o.below q)<|aM (s.trans<|aK.iD q) a).out;obtain⟨A,z⟩:=((vC.mk a<|aK.refl _ _).set 0 _).set 1 _;simp only[dA,dz,dr]at A;refine vS (results_cell_row rfl _ _ w 49 _ (0,0) _ rfl A P9 rfl<|by kernel_rfl) rfl ?_;exact⟨rfl,o.keep z<|by omega,s.trans' z (λ_ _ h=>h) λx hx e=>by omega⟩
theorem aCj(F)(Q3)(u)(i:Nat)(W)(id)(m g)(L)(n)(w)(z:sM w F Q3 u)(Q1:u.length<=1000000)(B:fE w u[i] id m g)(D:cI w m L)(I:m≠0)(C:jA w)(O:n.size<=65536)(QX:L.length<=1073741824)(K:jM L<9223372036854775807):bz Q 28 #[aG F,i,aD n] w λe P=>e=bj (bJ #[(sE L id n).2.1,(sE L id n).2.2])∧cI P m (sE L id n).1∧aK (λb=>b=m) w P:=by
 obtain⟨gs,H,T,hg,E⟩:=z.cell W;subst T;obtain⟨p,QW⟩:=ex u[i];rw[<-QW]at B E;have N:=(cU.1 z.box).1;have S:=D.lt;have R:w.cell? F=U (aE gs u.length H):=M z.box 0;obtain⟨t,j⟩:=ex<|w.alloc<|aH #[V aC 0,aD ⟨#[]⟩] 49;have f:aW w w t:=by rw[j];exact(eo _ _).alloc (aS _) _
 have s:t.heap.size=w+1:=by rw[j];simp
 have k:t.heap[w.heap.size]?=U (aH #[V aC 0,aD ⟨#[]⟩] 49 (0,0)):=by grind[World.alloc_heap_new]
 have c:=aCi p id m g L n t ((f.block p B.lt).trans B) (D.below f) O QX K;obtain⟨r,J⟩:=ex<|sE L id n;rw[<-J]at c⊢;rw[j]at c;have Q2:=X c;have Y:=CJ.mk j f s k<|C.below f<|aS _;have No:(i:Int)<(u.length:Int):=by omega
 clear c j f s k C z B D J O QX K QW;go_enter aoc,ntmps28;go_wp2_with(go_at_call 46;refine Q2.out.mono ?_;rintro e w2⟨Q0,rfl,hE,l,A⟩;refine Halt.of ?_);obtain⟨j,f,s,k,C⟩:=Y;rw[<-j]at A;have d:=(A.block _ (by omega)<|by omega).trans k;unfold Halt;go_wp2_with(go_at_call 42;refine(X<|afe Q0 r.2.1 r.2.2 w2 (C.keep A λe=>I e.symm) hE).out.mono ?_;rintro e G⟨rfl,o⟩;refine Halt.of ?_);obtain⟨l,q,d⟩:=(X<|aM l<|aM ((aK.iD (F:=λb=>b=m) f).trans A) d).out;have a:=(o.block _ (cU.1 d).1).trans d;have a0:G.cell? w=U (V aC 0):=M a 0;have a1:G.cell? ⟨w,1,Z⟩=U (aD ⟨#[]⟩):=M a 1;have b0:∀i,G.frozen? ⟨w,i,Z⟩=ai:=by grind[Joins.unfrozen_of_block]
 unfold Halt;go_wp2;obtain⟨l,q,a⟩:=(X<|aM (l.below o)<|aM (q.trans<|aK.iD o) a).out;obtain⟨y,v⟩:=((vC.mk a<|aK.refl _ _).set 0 _).set 1 _;simp only[dA,dz,dr]at y;refine vS (results_cell_row rfl _ _ w 49 _ (0,0) _ rfl y P9 rfl<|by kernel_rfl) rfl ?_;exact⟨rfl,l.keep v<|by omega,q.trans' v (λ_ _ h=>h) λx hx e=>by omega⟩
end
end Go.Proofs.YtpdbmpbmepkikaaGreatDoor
set_option maxRecDepth 100000
namespace Go.Proofs.YtpdbmpbmepkikaaGreatDoor
section
open Go.RowKit
def dh(v:az)(b:Nat):Prop:=v.ownBlock=U b
def dF(N:Nat)(W:ay)(v:az)(l:List UInt8):Prop:=W.ownsRow N 5 1 v l.length<|l.map jb
theorem dF.nil(N)(W):dF N W (aE Z 0 0) []:=World.ownsRow_nil _ _ _ _
theorem dF.block{N}{W W'}{v}{l}(h:dF N W v l)(a:∀g,dh v g->W'.heap[g]?=W.heap[g]?):dF N W' v l:=dx h a
theorem dF.lt{N}{W}{v}{l}(h:dF N W v l){b}(a:dh v b):N<=b/\b<W:=World.ownsRow.lt h b a
theorem dF.alloc{N}{W}{v}{l}(h:dF N W v l)(o):dF N (W.alloc o) v l:=h.block λ_ a=>dm _ _ _ (h.lt a).2
theorem Yh{v v'}{W W'}{o}(_hv:∀b,dh v b->b<W.heap.size)(a:(W.alloc o).grownBy W' v.ownBlock)(c:v'.ownBlock=v.ownBlock∨v'.ownBlock=W.alloc o):bS (dh v) W (dh v') W':=by
 refine⟨⟨a.os,a.tape,a.output,bC (by simp) a.size,λk g f=>?_⟩,λb d=>?_⟩;·exact(a.block k (by simp;omega) λe=>f e.symm).trans<|dm _ _ _ g
 ·unfold dh at d⊢;rcases c with h|h;·grind
  ·rw[h]at d;cases d;exact aA<|by simp
theorem JB:(Q.info? 5).map (λi=>(i.zero,i.size,i.bytes))=U (U<|V aq 0,1,1):=by kernel_rfl
theorem auv:∀x,x<256->x|||128=x%128+128:=by decide
theorem FI(N)(v)(l)(n:Nat)(w)(h:dF N w v l)(hN:N<=w)(R:n<18446744073709551616)(hl:l.length<=1099511627776):bz Q 199 #[v,V cO n] w λe P=>∃L,e=bj L/\dF N P L (l++k n)/\bS (dh v) w (dh L) P:=by
 have T:(k n).length<=10:=Ro (f:=9) (cE R<|by decide);go_enter aoo,ntmps199;go_wp2;go_loopg[0,1](k n).lengthλa M S wr=>∃(r:az)(c:List UInt8)(m:Nat),r=M/\S=V cO m/\dF N wr r c/\c++k m=l++k n/\bS (dh v) w (dh r) wr/\(k m).length<=a/\c.length<=1099511627900/\m<18446744073709551616;case atStart=>exact⟨v,l,n,rfl,rfl,(X h).out,rfl,bS.refl _ _,aS _,by omega,R⟩
 case round=>
  obtain⟨r,c,m,rfl,rfl,G,K,F,hk,U,hm⟩:=hrel;have fo:=F.1.size;have g:=gF.mk G K F;by_cases E:m<128
  .have J:¬(128:Int)<=(m:Int):=by omega
   have x:aq.wrap (m:Int)=(m:Int):=by grind[IntKind.wrap_u8]
   have f:c.map jb++[V aq (m:Int)]=(l++k n).map jb:=by rw[<-g.b,yy E,vT];grind[UInt8.toNat_ofNat',jb]
   have C:c.length+1=(l++k n).length:=by rw[<-g.b,yy E];simp
   have u:=cH.mk f C;go_wp2_with(at_builtin;go_must(refine app1 rfl rfl uv JB rfl rfl (g.a.alloc _) rfl (by grind) rfl rfl (by omega) (by simp;omega) ?_);intro W w5 i q _ o;refine Halt.of ?_);have y:=cH.mk i<|Yh (λb G=>(g.a.lt G).2) q o;unfold Halt;go_wp2;go_ret;refine⟨_,rfl,?_,g.c.trans y.b⟩;unfold dF;rw[<-u.a,<-u.b];exact y.a
  .have J:(128:Int)<=(m:Int):=by omega
   have x:aq.wrap (m:Int)=((m%256:Nat):Int):=by grind[IntKind.wrap_u8]
   have t:bits .or aq ((m%256:Nat):Int) 128=((m%128+128:Nat):Int):=by have:=u8_or_nat (m%256) 128 (by omega) (by decide);grind[auv,Nat.mod_mod_of_dvd]
   obtain⟨O,A⟩:=ex<|m%256;obtain⟨p,j⟩:=ex<|m%128+128;rw[<-A]at x t;rw[<-j]at t;have f:c.map jb++[V aq (p:Int)]=(c++[ru p]).map jb:=by grind[UInt8.toNat_ofNat',jb]
   have d:c++[ru p]++k (m/128)=l++k n:=by rw[<-g.b,FL E,j];simp
   have D:(k<|m/128).length+1<=gk:=by grind[FL]
   have H:c.length+1<=1099511627900:=by have:=congrArg List.length d;grind
   have B:m/128<18446744073709551616:=by omega
   have u:=CJ.mk f d D H B;clear f d A j D H hk B;go_wp2_with(at_builtin;go_must(refine app1 rfl rfl uv JB rfl rfl (g.a.alloc _) rfl (by grind) rfl rfl (by omega) (by simp;omega) ?_);intro W w5 i q _ o;refine Halt.of ?_);have y:=cH.mk i<|Yh (λb G=>(g.a.lt G).2) q o;unfold Halt;go_wp2;go_roundg(gk-1);case rel=>obtain⟨I,Y,a3,a4,Z⟩:=id u;refine⟨_,c++[ru p],m/128,rfl,by go_simp,?_,Y,g.c.trans y.b,by omega,by grind,Z⟩;unfold dF;rw[<-I,j7];exact y.a
   case measure=>have:=u.c;omega
theorem as0(w)(base)(i)(t:Q.info? 5=U i)(A:i.zero=U (V aq 0))(a:i.size=1)(d:i.bytes=1)(v)(n)(xs)(c:w.ownsRow base 5 1 v n xs)(s)(C:n+s.size<=140737488355328)(h:base<=w.heap.size):∃l m,(aa6 #[79,9] 79 #[v,aD s]).run Q w=aY l m/\m.ownsRow base 5 1 l (n+s.size) (xs++Lib.strCells s)/\bS (dh v) w (dh l) m:=by
 obtain⟨l,m,r,D,o,-⟩:=agX (P:=Q) w base 79 9 79 5 i uv sZ t A a d v n xs c s (by unfold vg;omega) C h;refine⟨l,m,r,D,⟨o.os,o.tape,o.output,o.size,λk I H=>o.block k I λe=>H e.symm⟩,λb f=>?_⟩;rcases c.2 with⟨rfl,u⟩|⟨g,j,B,rfl,L,z,E,K,J,x⟩;.subst u;have F:=BA (by simpa using c.1);subst F;obtain⟨M,N,q,y,-,-⟩:=agX (P:=Q) w w 79 9 79 5 i uv sZ t A a d (aE Z 0 0) 0 [] (World.ownsRow_nil _ _ _ _) s (by unfold vg;omega) C<|aS _;rw[r]at q;cases q;exact aA (y.lt b f).1
 .by_cases O:n+s.size<=j;.have p:=Lib.run_append_room_string (P:=Q) w 79 9 79 5 i uv sZ t a g n j B z s O (by omega);rw[r]at p;cases p;exact ax f
  .have G:xs.length=n:=by grind
   have p:=Lib.run_append_grow_string (P:=Q) w 79 9 79 5 i (V aq 0) uv sZ t A g n j xs (by grind) (c.cells (g:=g) rfl) s (by omega) (by omega) (by rw[d];exact growslice_fits (by omega)<|by omega);rw[r]at p;cases p;cases f;grind
theorem amK{ops}{rest}{o}{a}{w}{A}(k:o.guard=Z)(sl x)(l:o.op=.call {callee:=.builtin .append,args:=#[sl,x],argTypes:=#[79,9]})(j:o.type=79)(base)(i)(u:Q.info? 5=U i)(t:i.zero=U (V aq 0))(b:i.size=1)(g:i.bytes=1)(v)(n)(xs)(hs:a.eval sl=v)(f:w.ownsRow base 5 1 v n xs)(s)(m:a.eval x=aD s)(r:n+s.size<=140737488355328)(c:base<=w.heap.size)(h:∀d e,e.ownsRow base 5 1 d (n+s.size) (xs++Lib.strCells s)->bS (dh v) w (dh d) e->wpList Q ops A rest (a.put o.dst d) e):wpList Q ops A (o::rest) a w:=by refine ML k λK q=>?_;obtain⟨d,e,p,z,y⟩:=as0 w base i u t b g v n xs f s r c;unfold Oper.wp cX;simp only[l,j,resolve,invoke,builtin,gR,vV,Result.andThen_ok,List.map_toArray,gd,tG,hs,m,p];exact q _ _<|h d e z y
theorem aqf(s):Lib.strCells s=(bl s).map jb:=rfl
theorem acZ(N)(v)(l)(s)(w)(h:dF N w v l)(A:N<=w)(hs:s.size<=1073741824)(y:l.length<=1099511627776):bz Q 165 #[v,aD s] w λe o=>∃f,e=bj f/\dF N o f (l++di s)/\bS (dh v) w (dh f) o:=by
 obtain⟨t,x,d,i,b⟩:=info_parts JB;have q:cO.wrap (s.size:Int)=(s.size:Int):=by grind[IntKind.wrap_u64]
 have z:(k s.size).length<=10:=Ro (f:=9) (by omega);go_enter aoB,ntmps165;go_wp2_with(go_at_call 199;go_must(refine(X<|FI N v l s.size w h A (by omega) y).out.mono ?_);rintro e D⟨r,rfl,j,a⟩;have g:=cH.mk j a;refine Halt.of ?_);have u:=g.b.1.size;unfold Halt;go_wp2_with(at_builtin;go_must(refine amK rfl _ _ rfl rfl N t x d i b r (l++k s.size).length _ rfl g.a s rfl (by grind) (by omega) ?_);intro B C c m;have n:=cH.mk c m;refine Halt.of ?_);unfold Halt;go_wp2;go_ret;refine⟨_,rfl,?_,g.b.trans n.b⟩;have e:l++di s=l++k s.size++bl s:=by rw[di,jG]
 have p:(l++di s).length=(l++k s.size).length+s.size:=by rw[e];exact j7
 have:=n.a;rw[aqf,<-vT]at this;unfold dF;rw[p,e];exact this
theorem ani{z}(h:-9223372036854775808<=z/\z<=9223372036854775807):∃(a b e:Nat)(d:Int),cO.wrap z=a/\cO.wrap (a*2)=b/\z/9223372036854775808=d/\cO.wrap d=e/\bits .xor cO b e=gL z:=by
 by_cases h0:0<=z;.obtain⟨n,rfl⟩:∃n:Nat,z=(n:Int):=⟨z.toNat,by omega⟩;refine⟨n,2*n,0,0,by grind[IntKind.wrap_u64],by grind[IntKind.wrap_u64],by omega,by grind[IntKind.wrap_u64],?_⟩;rw[u64_xor_nat (2*n) 0 (by omega)<|by decide,Nat.xor_zero];unfold gL;grind
 .obtain⟨n,rfl⟩:∃n:Nat,z=-(n:Int):=⟨(-z).toNat,by omega⟩;refine⟨18446744073709551616-n,18446744073709551616-2*n,18446744073709551615,-1,by grind[IntKind.wrap_u64],by grind[IntKind.wrap_u64],by omega,by grind[IntKind.wrap_u64],?_⟩;rw[u64_xor_nat _ _ (by omega)<|by decide,Nat.xor_comm,show(18446744073709551615:Nat)=2^64-1 by decide,Lib.xor_ones64 _<|by omega];unfold gL;grind
theorem acj(z)(w)(h:gu z):bz Q 200 #[z] w λe g=>e=bj (V cO<|gL z)∧g=w:=by obtain⟨a,b,c,d,m,l,j,k,i⟩:=ani h;obtain⟨t,f⟩:∃t:Int,t=(gL z:Int):=⟨_,rfl⟩;rw[<-f]at i⊢;clear f;go_enter aon,ntmps200;go_wp2;go_ret;exact⟨rfl,rfl⟩
theorem A4(s)(h:s.size<=1073741824):(di s).length<=10+s.size:=by have:=Ro (f:=9) (n:=s.size) (by omega);rw[di,j7];show _+s.size<=_;omega
theorem yz{n}(h:n<18446744073709551616):(k n).length<=10:=Ro (f:=9)<|cE h<|by decide
structure fF(N:Nat)(v0:az)(w0:ay)(bx:Nat)(cs:Array az)(T:ey)(v:az)(l:List UInt8)(W:ay):Prop where
 buf:dF N W v l
 box:W.heap[bx]?=U (aH cs T (0,0))off:¬dh v bx
 left:bS (dh v0) w0 (dh v) W
 base:N<=W.heap.size
variable {N:Nat} {v0 v:az} {w0 W:ay} {bx:Nat} {cs:Array az} {T:ey} {l:List UInt8}
theorem Ho:fF N v0 w0 bx cs T v l W.drew↔fF N v0 w0 bx cs T v l W:=⟨λh=>⟨h.buf,h.box,h.off,⟨⟨h.left.1.os,h.left.1.tape,h.left.1.output,h.left.1.size,h.left.1.block⟩,h.left.2⟩,h.base⟩,λh=>⟨h.buf,h.box,h.off,⟨⟨h.left.1.os,h.left.1.tape,h.left.1.output,h.left.1.size,h.left.1.block⟩,h.left.2⟩,h.base⟩⟩
def lP(bx:Nat)(cs:Array az)(T:ey)(W:ay):Prop:=W.heap[bx]?=U (aH cs T (0,0))
theorem UZ:lP bx cs T W.drew↔lP bx cs T W:=vW
theorem fF.BG(h:fF N v0 w0 bx cs T v l W):lP bx cs T W:=h.box
theorem fF.next{v'}{l'}{W'}(h:fF N v0 w0 bx cs T v l W)(c:dF N W' v' l')(a:bS (dh v) W (dh v') W'):fF N v0 w0 bx cs T v' l' W':=have b:=(cU.1 h.box).1;⟨c,(a.1.block _ b h.off).trans h.box,λe=>by rcases a.2 _ e with e|e;exact h.off e;omega,h.left.trans a,bC h.base a.1.size⟩
theorem fF.text(h:fF N v0 w0 bx cs T v l W)(s)(hs:s.size<=1073741824)(b:l.length<=1099511627776):bz Q 165 #[v,aD s] W λe f=>∃a,e=bj a/\fF N v0 w0 bx cs T a (l++di s) f:=(acZ N v l s W h.buf h.base hs b).mono λ_ _⟨a,c,g,d⟩=>⟨a,c,h.next g d⟩
theorem fF.num(h:fF N v0 w0 bx cs T v l W)(n:Nat)(b:n<18446744073709551616)(c:l.length<=1099511627776):bz Q 199 #[v,V cO n] W λe g=>∃a,e=bj a/\fF N v0 w0 bx cs T a (l++k n) g:=(FI N v l n W h.buf h.base b c).mono λ_ _⟨a,d,i,f⟩=>⟨a,d,h.next i f⟩
theorem atu(N)(v)(l)(x)(w)(h:dF N w v l)(hN:N<=w)(hx:Fit x)(hl:l.length<=549755813888):bz Q 164 #[v,x.val] w λe S=>∃j,e=bj j/\dF N S j (l++gO x)/\bS (dh v) w (dh j) S:=by
 obtain⟨n,f,c,r,s⟩:=x;obtain⟨Q0,Q2,a,H,I⟩:=hx;simp only at Q0 Q2 a H I;have t1:=A4 n (by omega);have t2:=A4 f (by omega);have L:=Fq H;have QX:=Fq I;have t3:=yz L;have t4:=yz QX;obtain⟨cs,E⟩:∃cs:Array az,cs=#[aD n,aD f,V aC c,V aC r,aD s]:=⟨_,rfl⟩;obtain⟨K,fg⟩:=ex<|w.alloc<|aH cs 46;have hA:fF N v w w cs 46 v l K:=by rw[fg];exact⟨h.alloc _,iF _ _,λe=>by have:=(h.lt e).2;omega,⟨aK.alloc _ _ _,λb hb=>ax hb⟩,by simp;omega⟩
 have R:dD<|∀W,fF N v w w cs 46 v l W->bz Q 165 #[v,n] W λe QZ=>∃j,e=bj j/\fF N v w w cs 46 j (l++di n) QZ:=X λW g=>g.text n (by omega) (by omega);have QY:dD<|∀i W,fF N v w w cs 46 i (l++di n) W->bz Q 165 #[i,f] W λe QZ=>∃j,e=bj j/\fF N v w w cs 46 j (l++di n++di f) QZ:=X λi W g=>g.text f (by omega) (by grind);have D:dD<|∀i W,fF N v w w cs 46 i (l++di n++di f) W->bz Q 199 #[i,V cO<|gL c] W λe QZ=>∃j,e=bj j/\fF N v w w cs 46 j (l++di n++di f++k (gL c)) QZ:=X λi W g=>g.num _ L (by grind);have o:dD<|∀i W,fF N v w w cs 46 i (l++di n++di f++k (gL c)) W->bz Q 199 #[i,V cO<|gL r] W λe QZ=>∃j,e=bj j/\fF N v w w cs 46 j (l++di n++di f++k (gL c)++k (gL r)) QZ:=X λi W g=>g.num _ QX (by grind);have m:dD<|∀i W,fF N v w w cs 46 i (l++di n++di f++k (gL c)++k (gL r)) W->bz Q 165 #[i,s] W λe QZ=>∃j,e=bj j/\fF N v w w cs 46 j (l++di n++di f++k (gL c)++k (gL r)++di s) QZ:=X λi W g=>g.text s (by omega) (by grind);have J:dD<|∀i W,fF N v w w cs 46 i (l++di n++di f) W->bz Q 200 #[c] W λe QZ=>e=bj (V cO<|gL c)/\fF N v w w cs 46 i (l++di n++di f) QZ:=X λi W g=>(acj c W H).mono λ_ _ h=>⟨h.1,h.2▸g⟩;have p:dD<|∀i W,fF N v w w cs 46 i (l++di n++di f++k (gL c)) W->bz Q 200 #[r] W λe QZ=>e=bj (V cO<|gL r)/\fF N v w w cs 46 i (l++di n++di f++k (gL c)) QZ:=X λi W g=>(acj r W I).mono λ_ _ h=>⟨h.1,h.2▸g⟩;obtain⟨Q1,t⟩:∃z,z=gL c:=⟨_,rfl⟩;obtain⟨QW,C⟩:∃z,z=gL r:=⟨_,rfl⟩;rw[<-t]at D o m J p;rw[<-C]at o m p;have d:l++gO ⟨n,f,c,r,s⟩=l++di n++di f++k Q1++k QW++di s:=by grind[gO,List.append_assoc]
 obtain⟨l1,A⟩:∃z,z=l++di n:=⟨_,rfl⟩;rw[<-A]at R QY D o m J p d;obtain⟨l2,F⟩:∃z,z=l1++di f:=⟨_,rfl⟩;rw[<-F]at QY D o m J p d;obtain⟨l3,y⟩:∃z,z=l2++k Q1:=⟨_,rfl⟩;rw[<-y]at D o m p d;obtain⟨l4,q⟩:∃z,z=l3++k QW:=⟨_,rfl⟩;rw[<-q]at o m d;obtain⟨l5,B⟩:∃z,z=l4++di s:=⟨_,rfl⟩;rw[<-B]at m d;have G:=X d;have k0:∀W:ay,lP w cs 46 W->W.cell? w=U (aD n):=λW g=>(M g 0).trans (by grind);have k1:∀W:ay,lP w cs 46 W->W.cell? ⟨w,1,Z⟩=U (aD f):=λW g=>(M g 1).trans (by grind);have k2:∀W:ay,lP w cs 46 W->W.cell? ⟨w,2,Z⟩=U (V aC c):=λW g=>(M g 2).trans (by grind);have k3:∀W:ay,lP w cs 46 W->W.cell? ⟨w,3,Z⟩=U (V aC r):=λW g=>(M g 3).trans (by grind);have k4:∀W:ay,lP w cs 46 W->W.cell? ⟨w,4,Z⟩=U (aD s):=λW g=>(M g 4).trans (by grind);have gU:lP w cs 46 K:=hA.box;rw[E]at fg;have P:=X fg;clear fg h E d A F y q B t C t1 t2 t3 t4 L QX Q0 Q2 a H I hl;unfold O.val;go_enter aoC,ntmps164;go_wp2;rw[<-P.out];go_region_held3λW=>lP w.heap.size cs 46 W(with_reducible grind[UZ,fF.BG])((first|(go_at_call 165;with_reducible refine jg (R.out _ ?fg) ?_;(case fg=>grind[Ho]);rintro e w2⟨v2,rfl,TG⟩)|(go_at_call 165;with_reducible refine jg (QY.out _ _ ?yT) ?_;(case yT=>grind);rintro e w3⟨Q3,rfl,Kk⟩)));go_wp2;go_region_held3λW=>lP w.heap.size cs 46 W(with_reducible grind[UZ,fF.BG])((first|(go_at_call 200;with_reducible refine jg (J.out Q3 _<|by grind[Ho]) ?_;rintro e wa⟨rfl,hAa⟩)|(go_at_call 199;with_reducible refine jg (D.out Q3 _<|by grind) ?_;rintro e w4⟨v4,rfl,hA4⟩)|(go_at_call 200;with_reducible refine jg (p.out v4 _<|by grind) ?_;rintro e wb⟨rfl,TF⟩)|(go_at_call 199;with_reducible refine jg (o.out v4 _<|by grind) ?_;rintro e w5⟨v5,rfl,hA5⟩)|(go_at_call 165;with_reducible refine jg (m.out v5 _<|by grind) ?_;rintro e w6⟨v6,rfl,u⟩)));go_wp2;go_ret;refine⟨_,rfl,?_,u.left⟩;rw[G.out];exact u.buf
end
end Go.Proofs.YtpdbmpbmepkikaaGreatDoor
