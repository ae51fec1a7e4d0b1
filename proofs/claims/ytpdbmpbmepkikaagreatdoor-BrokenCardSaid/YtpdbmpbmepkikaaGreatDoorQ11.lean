/- Laws. -/
import Derived.Laws.AppendOwnNone
import Derived.Laws.CopyOwn
import Derived.Test.YtpdbmpbmepkikaaGreatDoorQ10
set_option maxRecDepth 100000
set_option maxHeartbeats 400000
set_option linter.all false
open Go.Proofs.Tryz
open And renaming intro->aM
open BitVec renaming ofInt->ON
open Bool renaming true->Y,false->ai
open Decidable renaming decide->cg
open Go renaming World->ay,Value->az,Calls->bz,binOp->fZ,maxLen->vg
open Go.Act renaming put->cA
open Go.Ending renaming returned->bj
open Go.Fn renaming func->ez
open Go.IntKind renaming i64->aC,u8->aq,u64->cO
open Go.Obj renaming cells->aH
open Go.Result renaming ok->aY
open Go.RowKit renaming Below->aW,Hid->dD
open Go.Value renaming ownBlock->GW,int->V,string->aD,slice->aE,pointer->aG,agg->bJ,tuple->bO,bool->bQ,map->cq,func->dM,oneCell'->zh
open Go.World renaming alloc->EF,setCell->jk
open List renaming range->mJ
open Nat renaming reduceSub->wP,reduceAdd->wS
open Option renaming some->U,none->Z
open Or renaming inr->aA,inl->ax
open UInt8 renaming ofNat->ru
namespace Go.Proofs.YtpdbmpbmepkikaaGreatDoor
def Sc:=@Go.NoPanic.imp
def qN:=@Go.NoPanic.normal
def Sb:=@Go.World.ownsRow.lt
def Jj:=@List.length_map
def rQ:=@Go.World.ownsRow_nil
def Sa:=@Go.wpListIn_append_own_at
def mB:=@Go.IntKind.wrap_i64
def dO:=@List.getElem_toArray
def dN:=@List.getElem_cons_zero
def dX:=@List.getElem_cons_succ
def kI:=@Nat.zero_le
def By:=@Option.toList_some
def uF:=@List.take_length
def YH:=@List.length_drop
def YG:=@List.foldl_cons
def aGk:=@List.append_inj'
def awF:=@List.prefix_append
def Ji:=@List.filter_eq_self
def vP:=@List.mem_cons_self
def rP:=@List.mem_flatMap
def FW:=@List.exists_mem_of_ne_nil
def Ab:=@List.sum_cons
def YF:=@List.filter_filter
def MH:=@decide_eq_true
section
open Go.RowKit
attribute [local go_sem] Oper.semAt_some
structure AV(bx:Nat)(W0:ay)(D0:Nat->Prop)(yv:az)(W:ay)(D D':Nat->Prop):Prop where
 eM:∀b,D b↔D' b\/b=bx
 old:∀b,D' b->D0 b\/W0.heap.size<b
 box:W.heap[bx]?=U (aH #[yv] 92 (0,0))size:W0.heap.size<=W.heap.size
def sS(bx:Nat)(W0:ay)(D0:Nat->Prop)(yv:az)(J:List O->ay->(Nat->Prop)->Prop)(pre:List O)(W:ay)(D:Nat->Prop):Prop:=∃D',J pre W D'/\AV bx W0 D0 yv W D D'
theorem sS.owned{n}{W0}{j}{m}{J}(g:pH J):pH<|sS n W0 j m J:=⟨λe W D h b f=>by
  obtain⟨i,d,h⟩:=h;rcases(h.eM b).1 f with f|rfl;.exact g.lt _ _ _ d b f
  .exact(cU.1 h.box).1,λe W D o h c=>by obtain⟨i,d,h⟩:=h;exact⟨i,g.st _ _ _ _ d ⟨c.os,c.tape,c.output,c.size,λk l=>c.block k<|(h.eM k).2<|ax l⟩,h.eM,h.old,(c.block _<|(h.eM _).2<|aA rfl).trans h.box,bC h.size c.size⟩⟩
theorem AV.left{g}{W w1 d}{e D i}{m}(h:AV g W e m d D i)(a:aW W W w1)(l:W<=g)(c:bS (λb=>e b\/b=g) w1 D d):bS e W i d:=⟨⟨c.1.os.trans a.os,c.1.tape.trans a.tape,c.1.output.trans a.output,bC a.size c.1.size,λk j n=>(c.1.block k (cE j a.size)<|by grind).trans<|a.block k j⟩,λb f=>(h.old b f).imp id λx=>Nat.le_of_lt x⟩
theorem AV.step{c}{W0 i W'}{g D j a}{l}(h:AV c W0 g l i D j)(r:∀b,g b->b≠c)(m:c=W0)(f:bS j i a W'):AV c W0 g l W' (λb=>a b\/b=c) a/\bS D i (λb=>a b\/b=c) W':=by
 have p:=(cU.1 h.box).1;have n:¬j c:=λq=>by rcases h.old c q with d|d;all_goals grind
 refine⟨⟨λb=>vW,λb e=>?_,(f.1.block _ p n).trans h.box,bC h.size f.1.size⟩,f.1.mono λk _ o=>(h.eM k).2<|ax o,λb e=>?_⟩
 .rcases f.2 b e with d|d;.exact h.old b d
  grind
 .rcases e with e|e
  .rcases f.2 b e with d|d;.exact ax<|(h.eM b).2<|ax d
   grind
  .exact ax<|(h.eM b).2<|aA e
theorem aBs(bp bn p m g)(id)(L)(n)(w)(o8:w.cell? bp=U (.pointer p))(uY:w.cell? bn=U (.string n))(NM:fE w p id m g)(hB:cI w m L)(hL:L.length<=1073741824)(hn:n.size<=4096):Iter Q 67 #[.pointer<|U ⟨bp,0,Z⟩,.pointer<|U ⟨bn,0,Z⟩] (λx=>#[x.field,x.value]) (λxs=>xs=oN L n) (λb=>b=bp∨b=bn∨b=p∨b=m) w:=by
 intro l J Jx W C N B f hR QW Q1;have Q0:cI W m L:=hB.of_block (N.block m<|by simp);have QY:fE W p id m g:=(N.block p<|by simp).trans NM;have Z7:W.cell? ⟨bp,0,Z⟩=U (.pointer<|U ⟨p,0,Z⟩):=(ei (w:=w)<|N.block bp<|by simp).trans o8;have Nz:=(ei (w:=w)<|N.block bn<|by simp).trans uY;have SP:=QY.cell.2.1;have lbp:=oh W _ Z7;have lbn:=oh W _ Nz;have lp:=QY.lt;have lm:=Q0.lt;have M7:=QY.ne Q0;have HX:=X<|aM N<|aM B<|aM f<|aM hR<|aM QW Q1;have HB:=X Q0;clear N B f hR QW Q1 Q0 hB o8 uY NM QY;refine callsIn_of_wp_marks VA rfl trivial ?_ rfl;simp only[ntmps67,tF,qi,lG,wS,wP,uN,uM,uL,uK,uJ,qj];gi_wp2;obtain⟨Q3,A⟩:∃Q3,Q3=W.alloc (.cells #[.func (.yield l) #[] #[]] 92):=⟨_,rfl⟩;have e0:Q3.cell? bp=U (.pointer p):=by rw[A];go_simp
 have e1:Q3.cell? bn=U (.string n):=by rw[A];go_simp
 have e2:Q3.cell? ⟨p,1,Z⟩=U (.map m):=by rw[A];go_simp
 have HW:=X A;have HC:=X<|Wu m L n Q3.drew (by rw[A];exact(HB.out.alloc _).of_block rfl) hL hn;rw[<-A];clear A;refine wpIn_mono ?Zm λe a w h=>Sc e a w h;gi_region_with(gi_at_call 68;refine(callsIn_wide.2 HC.out).mono ?_;rintro e y⟨lb,rfl,hx,t⟩);all_goals
  refine qN ?_;have Po:=X<|aM hx t;clear hx t HC e0 e1 e2;gi_wp2;obtain⟨⟨R,S,QX⟩,E⟩:=Po.out;clear Po;obtain⟨N,B,f,hR,QW,Q1⟩:=HX.out;have jv:Q3.heap.size=W+1:=by rw[HW.out];simp
  have jW:Q3.drew.heap.size=W+1:=jv;have r:aW W W Q3:=by rw[HW.out];exact(eo _ _).alloc (aS _) _
  have i:=r.drew.trans (E.mono<|by grind);have T:y.heap[W.heap.size]?=U (.cells #[.func (.yield l) #[] #[]] 92 (0,0)):=(E.block _<|by grind).trans (by rw[HW.out];exact iF _ _);have Y6:=E.size;rw[jW]at Y6;have o:=B.lt _ _ _ Q1;have F:∀b,C b->b≠W:=λb t e=>by grind
  have y9:∀b,C b->b≠m:=by grind
  have H0:sS W W C (.func (.yield l) #[] #[]) J [] y λb=>C b∨b=W:=⟨C,B.st _ _ _ _ Q1<|(aK.iD (F:=λ_=>False) i).fI λb t=>⟨o b t,λh=>h⟩,⟨λb=>vW,λb t=>.inl t,T,i.size⟩⟩;refine wp_rangeFunc (gf:=120) (lb:=lb) rfl (AJ Qb rfl<|by decide) S (λb t=>(QX b t).1) (λ_=>rfl) (sS W.heap.size W C (.func (.yield l) #[] #[]) J) (λc G W' D=>c=.ret∧sS W.heap.size W C (.func (.yield l) #[] #[]) Jx G W' D) (sS.owned B) (λc=>⟨λs w D h b t=>(sS.owned f).lt s w D h.2 b t,λs w D w' h ha=>⟨h.1,(sS.owned f).st s w D w' h.2 ha⟩⟩) (λb=>C b∨b=W.heap.size) (λb t hr=>?vZ) H0 ?round ?done ?stop;case vZ=>grind
  case done=>
   rintro xs H D Aj⟨v,K,j⟩I hK qu;have hl:=j.left i (aS _) I;have ou:¬v y:=λh=>qu<|(j.eM _).2<|.inl h;have z:=B.st _ _ _ _ K<|(uh.putObj H y.heap.size<|.deferred Z).fI ou;have tM:bS C W v<|H.putObj y<|.deferred Z:=hl.step (aK.putObj (F:=λb=>b=y.heap.size) H y.heap.size _ rfl) (λx hx e=>by omega);have d:dD<|J xs (H.putObj y<|.deferred Z) v∧bS C W v (H.putObj y<|.deferred Z):=by grind
   clear HX HB N B f hR QW Q1 i S o F y9 H0 K j I hl z tM T HW QX E r;gi_wp2;refine⟨by simp,.inl ⟨_,_,rfl,vQ hK,?_⟩⟩;exact⟨_,results_none rfl _ _ _,⟨_,rfl⟩,.inl ⟨_,v,Aj,d.out.1,d.out.2⟩⟩
  case stop=>
   rintro c G H D⟨jq,SO⟩⟨rfl,v,K,j⟩I hK qu;have hl:=j.left i (aS _) I;have ou:¬v y:=λh=>qu<|(j.eM _).2<|.inl h;have z:=f.st _ _ _ _ K<|(uh.putObj H y.heap.size<|.deferred Z).fI ou;have tM:bS C W v<|H.putObj y<|.deferred Z:=hl.step (aK.putObj (F:=λb=>b=y.heap.size) H y.heap.size _ rfl) (λx hx e=>by omega);have d:dD<|Jx G (H.putObj y<|.deferred Z) v∧bS C W v (H.putObj y<|.deferred Z):=by grind
   clear HX HB N B f hR QW Q1 i S o F y9 H0 K j I hl z tM T HW QX E r;gi_wp2;refine⟨by simp,.inl ⟨_,_,rfl,vQ hK,?_⟩⟩;exact⟨_,results_none rfl _ _ _,⟨_,rfl⟩,.inr ⟨_,v,⟨jq,SO⟩,d.out.1,d.out.2⟩⟩
  case round=>
   rintro l2 G⟨xn,xf,xc,xr,xv⟩Wr D An uV ow⟨jq,hS⟩j vc;obtain⟨v,K,j⟩:=j;unfold O.val;have Q2:=(sS.owned B).lt G Wr D ⟨v,K,j⟩;have HI:=X<|aM K j;have HS:=X hS;have Pr:=X<|aM B<|aM f<|aM QW<|aM F<|aM Q2 ow;have BW:=(j.eM W.heap.size).2<|.inr rfl;clear HX HB N B f hR QW Q1 i S o F y9 H0 T HW QX E r K j hS;gi_wp2;refine⟨⟨aK.alloc _ _ _,λb t=>t.imp (λh=>h) (·.1)⟩,λQZ u=>?_⟩;have eK:QZ.heap[Wr.heap.size]?=U (.cells #[xn,xf,xc,xr,xv] 46 (0,0)):=(u.block _<|by omega).trans<|iF _ _;have c1:QZ.cell? ⟨Wr,1,Z⟩=U (.string xf):=M eK 1;have c4:QZ.cell? ⟨Wr,4,Z⟩=U (.string xv):=M eK 4;obtain⟨K,j⟩:=HI.out;obtain⟨B,f,QW,F,aat,Kb⟩:=Pr.out;have kb:=λb t=>(u.block b λe=>Kb<|e▸t).trans<|dm _ _ _<|Q2 b t;have ku:AV W W C (.func (.yield l) #[] #[]) QZ D v:=⟨j.eM,j.old,(kb _ BW).trans j.box,bC j.size<|by grind⟩;have BM:=B.st _ _ _ _ K ⟨u.os,u.tape,u.output,by grind,λk hk=>kb k<|(j.eM k).2<|.inl hk⟩;have q1:QZ.cell? W=U (.func (.yield l) #[] #[]):=M ku.box 0;obtain⟨fn,tmps,P,body,hy,nC⟩:=QW G ⟨xn,xf,xc,xr,xv⟩ QZ v ⟨jq,HS.out⟩ BM;have yd:=X<|RoundIn.inRound l2 nC;have JE:(Instr.yield l #[xf,xv]).run Q QZ=.ok (.round l fn tmps P body) QZ:=hy;have H2:=X<|aM ku F;gi_wp2;refine yd.out.mono ?_;rintro e W' Gq;have d:dD<|∀(q:Nat->Prop),bS v QZ q W'->AV W W C (.func (.yield l) #[] #[]) W' (λb=>q b∨b=W) q∧bS (λb=>D b∨Wr<=b∧b<(Wr.alloc<|.cells #[xn,xf,xc,xr,xv] 46)) QZ (λb=>q b∨b=W) W':=X λq hL=>by obtain⟨f1,f2⟩:=H2.out.1.step H2.out.2 rfl hL;exact⟨f1,f2.shift (aK.refl _ _) λb t=>.inl t⟩
   rcases Gq with⟨rfl,q,z,Ek⟩|⟨rfl,q,z,Ek⟩;·have HE:=X<|aM z Ek;gi_wp2;exact⟨_,⟨q,HE.out.1,(d.out _ HE.out.2).1⟩,(d.out _ HE.out.2).2⟩
   ·have HE:=X<|aM z Ek;gi_wp2;exact⟨_,⟨rfl,q,HE.out.1,(d.out _ HE.out.2).1⟩,(d.out _ HE.out.2).2⟩
attribute [local go_sem] Oper.semAt_some
theorem aBr(bp bn p m g)(id)(L)(n)(w)(o8:w.cell? bp=U (.pointer p))(uY:w.cell? bn=U (.string n))(NM:fE w p id m g)(hB:cI w m L)(hL:L.length<=1073741824)(hn:n.size<=4096):al5 Q 67 #[.pointer<|U ⟨bp,0,Z⟩,.pointer<|U ⟨bn,0,Z⟩] (λx=>#[x.field,x.value]) (λxs=>xs=oN L n) (λb=>b=bp∨b=bn∨b=p∨b=m) w:=by
 intro Q1 Q3 J Jx W B ecf K A f hR T QW;have QX:cI W m L:=hB.of_block (K.block m<|by simp);have QZ:fE W p id m g:=(K.block p<|by simp).trans NM;have Z7:W.cell? ⟨bp,0,Z⟩=U (.pointer<|U ⟨p,0,Z⟩):=(ei (w:=w)<|K.block bp<|by simp).trans o8;have Nz:=(ei (w:=w)<|K.block bn<|by simp).trans uY;have SP:=QZ.cell.2.1;have lbp:=oh W _ Z7;have lbn:=oh W _ Nz;have lp:=QZ.lt;have lm:=QX.lt;have M7:=QZ.ne QX;have HX:=X<|aM K<|aM A<|aM f<|aM hR<|aM T QW;have HB:=X QX;clear K A f hR T QW QX hB o8 uY NM QZ;refine callsIn_of_wp_marks VA rfl trivial ?_ rfl;simp only[ntmps67,tF,qi,lG,wS,wP,uN,uM,uL,uK,uJ,qj];gi_wp2;obtain⟨S,z⟩:∃S,S=W.alloc (.cells #[.func (.func Q1) #[] Q3] 92):=⟨_,rfl⟩;have e0:S.cell? bp=U (.pointer p):=by rw[z];go_simp
 have e1:S.cell? bn=U (.string n):=by rw[z];go_simp
 have e2:S.cell? ⟨p,1,Z⟩=U (.map m):=by rw[z];go_simp
 have HW:=X z;have HC:=X<|Wu m L n S.drew (by rw[z];exact(HB.out.alloc _).of_block rfl) hL hn;rw[<-z];clear z;refine wpIn_mono ?Zm λe a w h=>Sc e a w h;gi_region_with(gi_at_call 68;refine(callsIn_wide.2 HC.out).mono ?_;rintro e v⟨lb,rfl,hx,r⟩);all_goals
  refine qN ?_;have Po:=X<|aM hx r;clear hx r HC e0 e1 e2;gi_wp2;obtain⟨⟨R,QY,N⟩,C⟩:=Po.out;clear Po;obtain⟨K,A,f,hR,T,QW⟩:=HX.out;have jv:S.heap.size=W+1:=by rw[HW.out];simp
  have jW:S.drew.heap.size=W+1:=jv;have q:aW W W S:=by rw[HW.out];exact(eo _ _).alloc (aS _) _
  have i:=q.drew.trans (C.mono<|by grind);have P:v.heap[W.heap.size]?=U (.cells #[.func (.func Q1) #[] Q3] 92 (0,0)):=(C.block _<|by grind).trans (by rw[HW.out];exact iF _ _);have Y6:=C.size;rw[jW]at Y6;have l:=A.lt _ _ _ QW;have E:∀b,B b->b≠W:=λb r e=>by grind
  have y9:∀b,B b->b≠m:=by grind
  have H0:sS W W B (.func (.func Q1) #[] Q3) J [] v λb=>B b∨b=W:=⟨B,A.st _ _ _ _ QW<|(aK.iD (F:=λ_=>False) i).fI λb r=>⟨l b r,λh=>h⟩,⟨λb=>vW,λb r=>.inl r,P,i.size⟩⟩;refine wp_rangeFunc (gf:=120) (lb:=lb) rfl (AJ Qb rfl<|by decide) QY (λb r=>(N b r).1) (λ_=>rfl) (sS W.heap.size W B (.func (.func Q1) #[] Q3) J) (λc F W' D=>c=.ret∧sS W.heap.size W B (.func (.func Q1) #[] Q3) Jx F W' D) (sS.owned A) (λc=>⟨λs w D h b r=>(sS.owned f).lt s w D h.2 b r,λs w D w' h ha=>⟨h.1,(sS.owned f).st s w D w' h.2 ha⟩⟩) (λb=>B b∨b=W.heap.size) (λb r hr=>?vZ) H0 ?round ?done ?stop;case vZ=>grind
  case done=>
   rintro xs G D Aj⟨u,I,j⟩H hK qu;have hl:=j.left i (aS _) H;have ou:¬u v:=λh=>qu<|(j.eM _).2<|.inl h;have y:=A.st _ _ _ _ I<|(uh.putObj G v.heap.size<|.deferred Z).fI ou;have tM:bS B W u<|G.putObj v<|.deferred Z:=hl.step (aK.putObj (F:=λb=>b=v.heap.size) G v.heap.size _ rfl) (λx hx e=>by omega);have d:dD<|J xs (G.putObj v<|.deferred Z) u∧bS B W u (G.putObj v<|.deferred Z):=by grind
   clear HX HB K A f hR T QW i QY l E y9 H0 I j H hl y tM P HW N C q;gi_wp2;refine⟨by simp,.inl ⟨_,_,rfl,vQ hK,?_⟩⟩;exact⟨_,results_none rfl _ _ _,⟨_,rfl⟩,.inl ⟨_,u,Aj,d.out.1,d.out.2⟩⟩
  case stop=>
   rintro c F G D⟨jq,SO⟩⟨rfl,u,I,j⟩H hK qu;have hl:=j.left i (aS _) H;have ou:¬u v:=λh=>qu<|(j.eM _).2<|.inl h;have y:=f.st _ _ _ _ I<|(uh.putObj G v.heap.size<|.deferred Z).fI ou;have tM:bS B W u<|G.putObj v<|.deferred Z:=hl.step (aK.putObj (F:=λb=>b=v.heap.size) G v.heap.size _ rfl) (λx hx e=>by omega);have d:dD<|Jx F (G.putObj v<|.deferred Z) u∧bS B W u (G.putObj v<|.deferred Z):=by grind
   clear HX HB K A f hR T QW i QY l E y9 H0 I j H hl y tM P HW N C q;gi_wp2;refine⟨by simp,.inl ⟨_,_,rfl,vQ hK,?_⟩⟩;exact⟨_,results_none rfl _ _ _,⟨_,rfl⟩,.inr ⟨_,u,⟨jq,SO⟩,d.out.1,d.out.2⟩⟩
  case round=>
   rintro l2 F⟨xn,xf,xc,xr,xv⟩Wr D An uV ow⟨jq,hS⟩j vc;obtain⟨u,I,j⟩:=j;unfold O.val;have Q0:=(sS.owned A).lt F Wr D ⟨u,I,j⟩;have HI:=X<|aM I j;have HS:=X hS;have Pr:=X<|aM A<|aM f<|aM T<|aM E<|aM Q0 ow;have BW:=(j.eM W.heap.size).2<|.inr rfl;clear HX HB K A f hR T QW i QY l E y9 H0 P HW N C q I j hS;gi_wp2;refine⟨⟨aK.alloc _ _ _,λb r=>r.imp (λh=>h) (·.1)⟩,λQ2 t=>?_⟩;have eK:Q2.heap[Wr.heap.size]?=U (.cells #[xn,xf,xc,xr,xv] 46 (0,0)):=(t.block _<|by omega).trans<|iF _ _;have c1:Q2.cell? ⟨Wr,1,Z⟩=U (.string xf):=M eK 1;have c4:Q2.cell? ⟨Wr,4,Z⟩=U (.string xv):=M eK 4;obtain⟨I,j⟩:=HI.out;obtain⟨A,f,T,E,aat,Kb⟩:=Pr.out;have kb:=λb r=>(t.block b λe=>Kb<|e▸r).trans<|dm _ _ _<|Q0 b r;have ku:AV W W B (.func (.func Q1) #[] Q3) Q2 D u:=⟨j.eM,j.old,(kb _ BW).trans j.box,bC j.size<|by grind⟩;have BM:=A.st _ _ _ _ I ⟨t.os,t.tape,t.output,by grind,λk hk=>kb k<|(j.eM k).2<|.inl hk⟩;have q1:Q2.cell? W=U (.func (.func Q1) #[] Q3):=M ku.box 0;have nC:=T F ⟨xn,xf,xc,xr,xv⟩ Q2 u ⟨jq,HS.out⟩ BM;have yd:=X<|CallsIn.inRound l2 nC;have H2:=X<|aM ku E;gi_wp2;refine yd.out.mono ?_;rintro e W' Gq;have d:dD<|∀(o:Nat->Prop),bS u Q2 o W'->AV W W B (.func (.func Q1) #[] Q3) W' (λb=>o b∨b=W) o∧bS (λb=>D b∨Wr<=b∧b<(Wr.alloc<|.cells #[xn,xf,xc,xr,xv] 46)) Q2 (λb=>o b∨b=W) W':=X λo hL=>by obtain⟨f1,f2⟩:=H2.out.1.step H2.out.2 rfl hL;exact⟨f1,f2.shift (aK.refl _ _) λb r=>.inl r⟩
   rcases Gq with⟨rfl,o,y,Ek⟩|⟨rfl,o,y,Ek⟩;·have HE:=X<|aM y Ek;gi_wp2;exact⟨_,⟨o,HE.out.1,(d.out _ HE.out.2).1⟩,(d.out _ HE.out.2).2⟩
   ·have HE:=X<|aM y Ek;gi_wp2;exact⟨_,⟨rfl,o,HE.out.1,(d.out _ HE.out.2).1⟩,(d.out _ HE.out.2).2⟩
attribute [local go_sem] Oper.semAt_some
theorem aBp(p)(n)(w):bz Q 44 #[aG<|U ⟨p,0,Z⟩,aD n] w λe a=>e=bj (dM (ez 67) #[] #[aG w,aG<|U ⟨w+1,0,Z⟩])/\a=(w.alloc<|aH #[aG p] 77).alloc (aH #[n] 9):=by go_enter an5,ntmps44;go_wp2;go_ret;exact⟨rfl,rfl⟩
theorem aA3(l)(x):mH (l++[x])=mH l++[x.field,x.value]:=by simp[mH]
structure UU(N:Nat)(pre:List O)(W:ay)(D:Nat->Prop)(v:az):Prop where acc:jC W N 51 9 1 v (2*pre.length) ((mH pre).map aD)ok:W.heap[N+1]?=U (aH #[bQ Y] 4 (0,0))eM:D=λb=>nI N v b\/b=N+1
theorem UU.owned(N):pH λa W D=>∃v,UU N a W D v:=⟨λa W D⟨v,h⟩b c=>by
  rw[h.eM]at c;rcases c with c|rfl;.exact h.acc.lt b c
  .exact(cU.1 h.ok).1,λa W D e⟨v,h⟩d=>⟨v,h.acc.fI λb c=>d.block b<|by rw[h.eM];grind,(d.block _<|by rw[h.eM];grind).trans h.ok,h.eM⟩⟩
def KX(bo bn bk bl:Nat)(F:List O)(lv:az)(E:Nat->Prop)(last:Bool)(pre:List O)(W:ay)(D:Nat->Prop):Prop:=∃no k,Ps bo bn bk bl Y no k lv W/\(last=ai->no=ai/\k=(2*pre.length:Nat))/\AP W lv (mH F)/\D=E
theorem KX.owned{r n s bl}{F}{o}{q}(c:∀b,q b↔b=r\/b=n\/b=s\/b=bl\/o.ownBlock=U b)(f):pH<|KX r n s bl F o q f:=⟨λi W D⟨p,k,h,_,j,e⟩b m=>by
  subst e;rcases(c b).1 m with rfl|rfl|rfl|rfl|m;.exact(cU.1 h.ok).1
  .exact(cU.1 h.no).1
  .exact(cU.1 h.k).1
  .exact(cU.1 h.l).1
  .exact(Sb j b m).2,λi W D v⟨p,k,h,t,j,e⟩d=>by subst e;exact⟨p,k,⟨(d.block _<|(c _).2<|ax rfl).trans h.ok,(d.block _<|(c _).2<|aA<|ax rfl).trans h.no,(d.block _<|(c _).2<|aA<|aA<|ax rfl).trans h.k,(d.block _<|(c _).2<|aA<|aA<|aA<|ax rfl).trans h.l⟩,t,dx j λg u=>d.block g<|(c g).2<|aA<|aA<|aA<|aA u,rfl⟩⟩
theorem asA(i f j bl B z p m I)(id)(L)(n)(o)(_W0 W:ay)(t)(D:∀b,t b↔b=i∨b=f∨b=j∨b=bl∨o.ownBlock=U b)(C:W.cell? ⟨B,0,Z⟩=U (aG<|U ⟨p,0,Z⟩))(E:W.cell? ⟨z,0,Z⟩=U (aD n))(Q2:fE W p id m I)(P:cI W m L)(a:L.length<=1073741824)(Q1:n.size<=4096)(N:(oN L n).length<=1000000)(T:i≠f∧i≠j∧i≠bl∧f≠j∧f≠bl∧j≠bl)(S4:∀b,o.ownBlock=U b->b≠i∧b≠f∧b≠j∧b≠bl)(w:∀b,t b->¬(b=B∨b=z∨b=p∨b=m))(H:Ps i f j bl Y ai 0 o W)(hs:AP W o<|mH<|oN L n):bz Q 67 #[dM (ez 45) #[] #[aG i,aG f,aG j,aG bl],aG B,aG z] W λe q=>(∃v,e=bj v)∧(∃s k,Ps i f j bl Y s k o q)∧AP q o (mH<|oN L n)∧aK t W q:=by
 obtain⟨F,G⟩:=ex<|oN L n;have y:=aBr B z p m I id L n W C E Q2 P a Q1;rw[<-G]at y hs N⊢;have S:=y 45 #[aG<|U i,aG<|U f,aG<|U j,aG<|U bl] (KX i f j bl F o t ai) (KX i f j bl F o t Y) W t (AJ acz rfl<|by decide) ⟨rfl,rfl,rfl,aS _,λ_ _=>rfl⟩ (KX.owned D ai) (KX.owned D Y) w ?_ ⟨ai,0,H,λ_=>⟨rfl,rfl⟩,hs,rfl⟩
 ·refine callsIn_wide (n:=0).1<|S.mono ?_;rintro e q⟨J,(⟨xs,Q3,_,⟨s,k,h,_,c,rfl⟩,d⟩|⟨l,Q3,_,⟨s,k,h,_,c,rfl⟩,d⟩)⟩;·exact⟨J,⟨s,k,h⟩,c,d.1⟩
  ·exact⟨J,⟨s,k,h⟩,c,d.1⟩
 ·rintro l x O A⟨jq,hS⟩⟨s,k,h,Q0,r,rfl⟩;obtain⟨rfl,rfl⟩:=Q0 rfl;have X:l.length<F.length:=by grind
  have R:F[l.length]=x:=by grind
  have:=aBq i f j bl F l.length X N o O h r T;rw[R]at this;refine(callsIn_wide.2 this).mono ?_;rintro e q⟨rfl,M,u⟩;have c:AP q o<|mH F:=dx r λg hg=>u.block g (Sb r g hg).2 (by grind);have d:bS A O A q:=⟨u.mono λb _ K=>(D b).2<|by grind,λb K=>ax K⟩;by_cases hle:2*l.length+2<=F.length;·exact ax ⟨by grind,A,⟨_,_,M,λ_=>⟨by grind,by simp⟩,c,rfl⟩,d⟩
  ·exact aA ⟨by grind,A,⟨_,_,M,λh=>Bool.noConfusion h,c,rfl⟩,d⟩
theorem aBo(pw)(lv)(R)(i:Nat)(hi)(id)(m g0)(L)(n)(w)(hW:sM w pw lv R)(Gd:R.length<=1000000)(P:fE w R[i] id m g0)(c:cI w m L)(hL:L.length<=500000)(hn:n.size<=4096):bz Q 27 #[aG pw,i,aD n] w λe w'=>∃v,e=bj (bO #[v,Y])∧w'.ownsRow w 9 1 v (mH<|oN L n).length ((mH<|oN L n).map aD)∧aW w w w':=by
 obtain⟨gs,T,hv,t,Z9⟩:=hW.cell hi;subst hv;obtain⟨p,hp⟩:=ex R[i];rw[<-hp]at P Z9;have xU:w.cell? pw=U (aE gs R.length T):=M hW.box 0;have ayM:=(cU.1 hW.box).1;obtain⟨i0,hi9,JJ,Zq,Zp⟩:=info_parts F4;have No:(i:Int)<(R.length:Int):=by omega
 have Ge:=P.lt;have yW:=c.lt;have HB:=cH.mk P c;clear P c hW hp;refine callsIn_wide (n:=0).1<|callsIn_of_wp_marks aoe rfl trivial ?_ rfl;simp only[ntmps27,tF,qi,lG,wS,wP,uN,uM,uL,uK,uJ,qj];gi_wp2_with(gi_at_call 44;refine(callsIn_wide.2<|aBp p n _).mono ?_;rintro e w1⟨rfl,s⟩;have Q2:=X s;clear s);obtain⟨P,c⟩:=HB;have E:aW w w w1:=by rw[Q2.out];exact((((eo _ _).alloc (aS _) _).alloc (by simp) _).alloc (by simp;omega) _).alloc (by simp;omega) _
 have jv:w1.heap.size=w+4:=by rw[Q2.out];simp
 have NB:w1.heap[w.heap.size]?=U (aH #[aE Z 0 0] 51 (0,0)):=by rw[Q2.out];simp only[EF];grind
 have hbo:w1.heap[w.heap.size+1]?=U (aH #[Y] 4 (0,0)):=by rw[Q2.out];simp only[EF];grind
 have o8:w1.cell? ⟨w+1+1,0,Z⟩=U (aG p):=by rw[Q2.out];go_simp
 have uY:w1.cell? ⟨w+1+1+1,0,Z⟩=U (aD n):=by rw[Q2.out];go_simp
 have Q1:fE w1 p id m g0:=(E.block p Ge).trans P;have ox:=c.below E;have hSl:(oN L n).length<=500000:=by refine bC (Bz _ _) ?_;unfold dS;rw[Jj,Ip];exact bC (Bz _ _)<|by grind
 refine wp_rangeFunc (gf:=67) (lb:=#[aG<|U ⟨w.heap.size+1+1,0,Z⟩,aG<|U ⟨w.heap.size+1+1+1,0,Z⟩]) rfl (AJ VA rfl<|by decide) (aBs (w.heap.size+1+1) (w.heap.size+1+1+1) p m g0 id L n w1 o8 uY Q1 ox (by omega) hn) λb d=>by grind (λ_=>rfl) (λz W D=>∃v,UU w.heap.size z W D v) (λ_ _ _ _=>False) (UU.owned _) (λ_=>⟨λ_ _ _ h=>h.elim,λ_ _ _ _ h=>h.elim⟩) (λb=>nI w.heap.size (aE Z 0 0) b∨b=w.heap.size+1) (λb d=>?vZ) ⟨_,⟨NB,rQ _ _ _ _⟩,hbo,rfl⟩ ?round ?done ?stop;case vZ=>
  rcases d with(rfl|d)|rfl;·grind
  ·cases d
  grind
 case stop=>grind
 case round=>
  rintro l z⟨xn,xf,xc,xr,xv⟩W D An uV ow⟨jq,hS⟩⟨v,S⟩vc;have hlen:z.length+1<=500000:=by grind
  have HI:=X S;have hd:=S.eM;subst hd;gi_wp2;refine⟨⟨.refl _ _,λb d=>d.imp (λh=>h) (·.1)⟩,λW2 A=>?_⟩;have kb:=λb d=>A.block b λe=>ow<|e▸d;have o:=HI.out.acc.fI λb d=>kb b<|ax d;have I:=(kb _<|aA rfl).trans HI.out.ok;obtain⟨hc,hf⟩:=o.cell;have f:=o.row;have NP:=o.lt _<|ax rfl;have HA:=X o;have Pp:=X I;gi_wp2_with(gi_at_builtin;go_must(refine Sa _ rfl _ _ 51 rfl (w.heap.size+1) 9 i0 (aD ⟨#[]⟩) 1 16 Ia hi9 JJ Zq Zp rfl (by decide) v (2*z.length) ((mH z).map aD) rfl (f.alloc _) ⟨W2.heap.size,0,Z⟩ 2 2 [aD xf,aD xv] rfl rfl (Bn (by grind) _ _ rfl) (by simp[zh]) (by unfold vg;omega) (by omega) (by simp;omega) ?_);intro v' w3 Gf C _ kg;refine Halt.of ?_);obtain⟨g',Cq,we⟩:=ownsRow_succ Gf;have Nf:w≠v.ownBlock:=λe=>by have:=(f.lt _ e.symm).1;omega
  have Q0:U (w.heap.size+1)≠v.ownBlock:=λe=>by
   obtain⟨K,Q3⟩:=f;rcases Q3 with⟨rfl,_⟩|⟨g,cap,cur,rfl,_,t,_⟩;·cases e
   ·simp only[GW,ew]at e;subst e;rw[Pp.out]at t;cases t
  have sj:=(ei (w:=W2.alloc<|aH #[aD xf,aD xv] 9)<|C.block _ (by simp;omega) Nf).trans<|(ei (w:=W2)<|dm _ _ _ NP).trans hc;have Gp:=(Ad (w:=W2.alloc<|aH #[aD xf,aD xv] 9)<|C.block _ (by simp;omega) Nf).trans<|(Ad (w:=W2)<|dm _ _ _ NP).trans hf;have Zu:=X<|(C.block _ (by simp;omega) Q0).trans<|(dm _ _ _ (cU.1 I).1).trans Pp.out;subst we;unfold Halt;gi_wp2;obtain⟨K,Q3⟩:=(X<|jC.appended (jC.fI HA.out λb d=>dm _ _ _<|jC.lt HA.out b d) C Gf kg).out;refine⟨_,⟨_,⟨by rw[aA3,vT,j7];exact K,(gQ _ _ _ _<|by simp).trans Zu.out,rfl⟩⟩,?_⟩;have h3:=Q3.shift (aK.alloc (λ_=>False) W2<|aH #[aD xf,aD xv] 9) (E:=λb=>(nI w.heap.size v b∨b=w.heap.size+1)∨W.heap.size<=b∧b<W.heap.size) λ_ h=>ax<|ax h;refine⟨h3.1,λb d=>?_⟩;rcases d with d|d;·exact h3.2 b d
  grind
 case done=>
  rintro xs W D Aj⟨v,S⟩F hK qu;subst Aj;have hd:=S.eM;subst hd;have NT:=(cU.1 hK).1;have Nb:=S.ok;obtain⟨aad,f⟩:=S.acc;have hWz:=F.1.size;obtain⟨W2,r⟩:=ex<|(W.alloc<|aH #[V aC 0] 3).alloc<|aH #[bQ ai] 4;have u:aW W W W2:=by rw[r];exact((eo _ _).alloc (aS _) _).alloc (by simp) _
  have jW:W2.heap.size=W+2:=by rw[r];simp
  have Ao:W2.heap[W.heap.size]?=U (aH #[V aC 0] 3 (0,0)):=by grind[Below.heap_alloc,World.alloc_heap_new]
  have uU:W2.heap[W.heap.size+1]?=U (aH #[ai] 4 (0,0)):=by grind[World.alloc_heap_new,World.size_alloc]
  have G:∀g,v.ownBlock=U g->w<g∧g<W∧(g=w+1∨w+4<=g):=λg t=>by
   have K:=f.lt g t;refine⟨by omega,K.2,?_⟩;rcases F.2 g (ax<|aA t)with((h|h)|h)|h;·omega
   ·cases h
   all_goals grind
  have J:∀g,v.ownBlock=U g->g≠w+1:=λg t e=>by
   obtain⟨K,Q3⟩:=f;rcases Q3 with⟨rfl,_⟩|⟨g',cap,cur,rfl,_,C,_⟩;·cases t
   ·simp only[GW,ew]at t;grind
  have j:∀b,b<w1.heap.size->b≠w->b≠w+1->W2.heap[b]?=w1.heap[b]?:=λb d h0 K=>(u.block b<|by omega).trans (F.1.block b d<|by rintro((h|h)|h);exact h0 h;cases h;grind);have N:=asA (w.heap.size+1) (W.heap.size+1) W.heap.size w.heap.size (w.heap.size+1+1) (w.heap.size+1+1+1) p m g0 id L n v w W2 (λb=>b=w.heap.size+1∨b=W.heap.size+1∨b=W.heap.size∨b=w.heap.size∨v.ownBlock=U b) (λb=>vW) ((ei (w:=w1) (a:=⟨_,_,Z⟩)<|j _ (by grind) (by grind)<|by grind).trans o8) ((ei (w:=w1) (a:=⟨_,_,Z⟩)<|j _ (by grind) (by grind)<|by grind).trans uY) ((j p (by omega) (by omega)<|by omega).trans Q1) (ox.of_block<|j m (by omega) (by omega)<|by omega) (by omega) hn (by omega) ⟨by omega,by omega,by omega,by omega,by omega,by omega⟩ λb d=>by have K:=G b d;have Q3:=J b d;omega λb d=>by
    rcases d with rfl|rfl|rfl|rfl|d;·rintro(h|h|h|h)<;>omega
    ·rintro(h|h|h|h)<;>omega
    ·rintro(h|h|h|h)<;>omega
    ·rintro(h|h|h|h)<;>omega
    ·have K:=G b d;have Q3:=J b d;rintro(h|h|h|h)<;>omega ⟨(u.block _<|by omega).trans Nb,uU,Ao,(u.block _<|by omega).trans aad⟩ (AP.auI<|by rw[ajz];exact dx f λg t=>u.block g (f.lt g t).2);have y:=(F.below E λb d=>by rcases d with(h|h)|h;omega;cases h;omega).trans (u.mono<|by omega);have q:=(u.block _ NT).trans hK;have H:v.ownBlock≠w1:=λe=>qu<|ax<|aA e;rw[jv]at q H;have HC:=X N;have azW:w.heap.size+4<W:=by omega
  rw[r]at HC;gi_wp2_with(gi_at_call 67;refine(callsIn_wide.2 HC.out).mono ?_;rintro e W3⟨⟨rv,rfl⟩,⟨no,k,h45⟩,O,B⟩;refine Halt.of ?_);have e0:W3.cell? w=v:=M h45.l 0;have e1:W3.cell? ⟨w+1,0,Z⟩=U (bQ Y):=M h45.ok 0;unfold Halt;gi_wp2;refine wpIn_mono ?Zm λe a w h=>Sc e a w h;gi_region_with(fail);all_goals
   refine qN ?_;gi_wp2;obtain⟨O,B⟩:=(X<|aM O B).out;obtain⟨y,q,H,G,r⟩:=(X<|aM y<|aM q<|aM H<|aM G r).out;rw[<-r]at B;have jW:W2.heap.size=W+2:=by rw[r];simp
   refine⟨by simp,ax ⟨_,_,rfl,vQ<|(B.block _ (cU.1 q).1<|by grind).trans q,?_⟩⟩;refine⟨_,results_tmp2 rfl _ _ _,v,rfl,?_,?_⟩;·exact dx (FE (w:=W3.drew) O λg t=>by grind) λg t=>qQ λe=>H<|e▸t
   ·refine G9 (He y (B.trans<|aK.drew _ _) λx hx e=>?_) (by omega) _;grind
theorem aBO(n f v)(c r)(W):(fZ .eql 46 (.agg #[.string n,.string f,.int .i64 c,.int .i64 r,.string v])<|.agg #[n,f,c,r,v]).run Q W=.ok Y W:=by go_simp
def lC(w:ay)(v:az)(l:List O):Prop:=w.ownsRow 0 46 5 v l.length<|rows l
theorem lC.cell{w}{v}{l}(h:lC w v l){j}(f):∃g c,v=aE (U ⟨g,0,Z⟩) l.length c/\g<w/\w.cell? ⟨g,j*5,Z⟩=U (aD l[j].name)/\w.cell? ⟨g,j*5+1,Z⟩=U (aD l[j].field)/\w.cell? ⟨g,j*5+2,Z⟩=U (V aC l[j].c)/\w.cell? ⟨g,j*5+3,Z⟩=U (V aC l[j].r)/\w.cell? ⟨g,j*5+4,Z⟩=U (aD l[j].value):=by
 obtain⟨q,e⟩:=h;rcases e with⟨_,e⟩|⟨g,c,o,k,_,d,p,_,_,m⟩;.omega
 .have b:∀i,i<5->w.cell? ⟨g,j*5+i,Z⟩=l[j].cells[i]?:=λi n=>by have:=M d<|j*5+i;rw[this,<-aeo f i n,<-m,List.getElem?_take_of_lt<|by omega];simp
  exact⟨g,c,k,(cU.1 d).1,b 0<|by omega,b 1<|by omega,b 2<|by omega,b 3<|by omega,b 4<|by omega⟩
structure Pt(bo bn bk bl:Nat)(ok no:Bool)(k:Int)(lv:az)(W:ay):Prop where ok:W.heap[bo]?=U (aH #[bQ ok] 4 (0,0))no:W.heap[bn]?=U (aH #[bQ no] 4 (0,0))k:W.heap[bk]?=U (aH #[V aC k] 3 (0,0))l:W.heap[bl]?=U (aH #[lv] 35 (0,0))
set_option maxHeartbeats 1000000 in
theorem atq(E H G bl)(F)(j:Nat)(hj)(hF:F.length<=1000000)(l)(W)(h:Pt E H G bl Y ai j l W)(hl:lC W l F)(hd:E≠H∧E≠G∧E≠bl∧H≠G∧H≠bl∧G≠bl)(S5:∀b,l.ownBlock=U b->b≠E∧b≠H∧b≠G∧b≠bl):bz Q 40 #[F[j].val,aG E,aG H,aG G,aG bl] W λe w'=>e=bj (cg<|j+1<=F.length/2)∧Pt E H G bl Y (cg<|F.length/2<j+1) (j+1:Nat) l w'∧aK (λb=>b=E∨b=H∨b=G) W w':=by
 obtain⟨g,T,hv,hg,Q0,X,Q1,y3,y4⟩:=hl.cell hj;obtain⟨x,hx⟩:=ex F[j];rw[<-hx]at Q0 X Q1 y3 y4⊢;obtain⟨n,f,c,r,v⟩:=x;obtain⟨P,S⟩:=ex F.length;rw[<-S]at hj hF hv⊢;subst hv;unfold O.val;simp only at Q0 X Q1 y3 y4;obtain⟨QW,Q3⟩:=ex<|W.alloc<|aH #[aD n,aD f,V aC c,V aC r,aD v] 46;have I:∀b,b<W.heap.size->QW.heap[b]?=W.heap[b]?:=λb hb=>by grind[Below.heap_alloc]
 have J:=(cU.1 h.ok).1;have L:=(cU.1 h.no).1;have K:=(cU.1 h.k).1;have N:=(cU.1 h.l).1;have hN:QW.heap[W.heap.size]?=U (aH #[n,f,c,r,v] 46 (0,0)):=by grind[World.alloc_heap_new]
 have a0:QW.cell? E=U (bQ Y):=M ((I _ J).trans h.ok) 0;have a1:QW.cell? H=U (bQ ai):=M ((I _ L).trans h.no) 0;have a2:QW.cell? G=U (V aC (j:Nat)):=M ((I _ K).trans h.k) 0;have a3:QW.cell? bl=U (aE g P T):=M ((I _ N).trans h.l) 0;have b0:=qO ((I _ J).trans h.ok) 0;have b1:=qO ((I _ L).trans h.no) 0;have b2:=qO ((I _ K).trans h.k) 0;have R:∀i,QW.cell? ⟨W,i,Z⟩=#[aD n,f,c,r,v][i]?:=by grind[Joins.cell_of_block]
 have x0:=R 0;have x1:=R 1;have x2:=R 2;have x3:=R 3;have x4:=R 4;simp at x0 x1 x2 x3 x4;have Q2:∀i,QW.cell? ⟨g,i,Z⟩=W.cell? ⟨g,i,Z⟩:=by grind[World.cell?_of_block]
 have z0:=(Q2<|j*5).trans Q0;have z1:=(Q2<|j*5+1).trans X;have z2:=(Q2<|j*5+2).trans Q1;have z3:=(Q2<|j*5+3).trans y3;have z4:=(Q2<|j*5+4).trans y4;obtain⟨d1,d2,d3,d4,d5,d6⟩:=hd;obtain⟨o1,o2,o3,o4⟩:=S5 g rfl;have n1:W≠E:=by omega
 have n2:W≠H:=by omega
 have n3:W≠G:=by omega
 have w1:aC.wrap ((j:Int)+1)=(j:Int)+1:=by grind[IntKind.wrap_i64]
 have nB:(j:Int)<(P:Int):=by omega
 have heq:=aBO n f v c r;have HH:=zB.mk h Q3 J L K N;have Ny:¬H=E:=by grind
 have JX:¬G=E:=by grind
 have JW:¬bl=E:=by grind
 clear hl h hx S Q3 Q0 X Q1 y3 y4 R Q2 I hN J L K N;go_enter acC,ntmps40;go_wp2;rw[<-HH.b];refine wp_region_noPanic ?_;refine wp_region_Z (S:=λk=>k.cell? ⟨E,0,Z⟩=U (bQ Y)∧k.cell? ⟨H,0,Z⟩=U (bQ ai)∧k.cell? ⟨G,0,Z⟩=U (V aC (j:Nat))∧k.cell? ⟨bl,0,Z⟩=U (aE (U ⟨g,0,Z⟩) P T)∧k.cell? ⟨W.heap.size,0,Z⟩=U (aD n)∧k.cell? ⟨W.heap.size,1,Z⟩=U (aD f)∧k.cell? ⟨W.heap.size,2,Z⟩=U (V aC c)∧k.cell? ⟨W.heap.size,3,Z⟩=U (V aC r)∧k.cell? ⟨W.heap.size,4,Z⟩=U (aD v)∧k.cell? ⟨g,j*5,Z⟩=U (aD n)∧k.cell? ⟨g,j*5+1,Z⟩=U (aD f)∧k.cell? ⟨g,j*5+2,Z⟩=U (V aC c)∧k.cell? ⟨g,j*5+3,Z⟩=U (V aC r)∧k.cell? ⟨g,j*5+4,Z⟩=U (aD v)) (z:=19) (by kernel_rfl) ⟨a0,a1,a2,a3,x0,x1,x2,x3,x4,z0,z1,z2,z3,z4⟩ λa=>?_;refine fU (i:=0) (v:=?v0) rfl (by kernel_rfl) (by kernel_rfl) (by kernel_rfl) (by kernel_rfl) (λ_ _ _ h=>h) (ax ⟨by rfl,?xN⟩) a ?WQ;(case xN=>(intro W d;obtain⟨u,z,t,C,w,B,s,D,A,y,p,q,m,o⟩:=d;go_simp;(try with_reducible rfl)));simp only[cA,dO,dN,dA,dz,dr];refine fU (i:=1) (v:=?v1) rfl (by kernel_rfl) (by kernel_rfl) (by kernel_rfl) (by kernel_rfl) (λ_ _ _ h=>h) (ax ⟨by rfl,?yR⟩) a ?WO;(case yR=>(intro W d;obtain⟨u,z,t,C,w,B,s,D,A,y,p,q,m,o⟩:=d;go_simp;(try with_reducible rfl)));simp only[cA,dO,dN,dX,dA,dz,dr];refine fU (i:=2) (v:=?v2) rfl (by kernel_rfl) (by kernel_rfl) (by kernel_rfl) (by kernel_rfl) (λ_ _ _ h=>h) (ax ⟨by rfl,?yQ⟩) a ?WN;(case yQ=>(intro W d;obtain⟨u,z,t,C,w,B,s,D,A,y,p,q,m,o⟩:=d;go_simp;(try with_reducible rfl)));simp only[cA,dO,dN,dX,dA,dz,dr];refine fU (i:=3) (v:=?v3) rfl (by kernel_rfl) (by kernel_rfl) (by kernel_rfl) (by kernel_rfl) (λ_ _ _ h=>h) (ax ⟨by rfl,?MW⟩) a ?aeD;(case MW=>(intro W d;obtain⟨u,z,t,C,w,B,s,D,A,y,p,q,m,o⟩:=d;go_simp;(try with_reducible rfl)));simp only[cA,dO,dN,dX,dA,dz,dr];refine fU (i:=4) (v:=?v4) rfl (by kernel_rfl) (by kernel_rfl) (by kernel_rfl) (by kernel_rfl) (λ_ _ _ h=>h) (ax ⟨by rfl,?MV⟩) a ?aeC;(case MV=>(intro W d;obtain⟨u,z,t,C,w,B,s,D,A,y,p,q,m,o⟩:=d;go_simp;(try with_reducible rfl)));simp only[cA,dO,dN,dX,dA,dz,dr];refine fU (i:=5) (v:=?v5) rfl (by kernel_rfl) (by kernel_rfl) (by kernel_rfl) (by kernel_rfl) (λ_ _ _ h=>h) (ax ⟨by rfl,?F6⟩) a ?WM;(case F6=>(intro W d;obtain⟨u,z,t,C,w,B,s,D,A,y,p,q,m,o⟩:=d;go_simp;(try with_reducible rfl)));simp only[cA,dO,dN,dX,dA,dz,dr];refine fU (i:=6) (v:=?v6) rfl (by kernel_rfl) (by kernel_rfl) (by kernel_rfl) (by kernel_rfl) (λ_ _ _ h=>h) (ax ⟨by rfl,?F5⟩) a ?WL;(case F5=>(intro W d;obtain⟨u,z,t,C,w,B,s,D,A,y,p,q,m,o⟩:=d;go_simp;(try with_reducible rfl)));simp only[cA,dO,dN,dX,dA,dz,dr];refine fU (i:=7) (v:=?v7) rfl (by kernel_rfl) (by kernel_rfl) (by kernel_rfl) (by kernel_rfl) (λ_ _ _ h=>h) (ax ⟨by rfl,?hy7⟩) a ?aFw;(case hy7=>(intro W d;obtain⟨u,z,t,C,w,B,s,D,A,y,p,q,m,o⟩:=d;go_simp;(try with_reducible rfl)));simp only[cA,dO,dN,dX,dA,dz,dr];refine fU (i:=8) (v:=?v8) rfl (by kernel_rfl) (by kernel_rfl) (by kernel_rfl) (by kernel_rfl) (λ_ _ _ h=>h) (ax ⟨by rfl,?Y7⟩) a ?aeB;(case Y7=>(intro W d;obtain⟨u,z,t,C,w,B,s,D,A,y,p,q,m,o⟩:=d;go_simp;(try with_reducible rfl)));simp only[cA,dO,dN,dX,dA,dz,dr];refine fU (i:=9) (v:=?v9) rfl (by kernel_rfl) (by kernel_rfl) (by kernel_rfl) (by kernel_rfl) (λ_ _ _ h=>h) (ax ⟨by rfl,?hy9⟩) a ?ati;(case hy9=>(intro W d;obtain⟨u,z,t,C,w,B,s,D,A,y,p,q,m,o⟩:=d;go_simp;(try with_reducible rfl)));simp only[cA,dO,dN,dX,dA,dz,dr];refine fU (i:=10) (v:=?v10) rfl (by kernel_rfl) (by kernel_rfl) (by kernel_rfl) (by kernel_rfl) (λ_ _ _ h=>h) (ax ⟨by rfl,?axZ⟩) a ?aeF;(case axZ=>(intro W d;obtain⟨u,z,t,C,w,B,s,D,A,y,p,q,m,o⟩:=d;go_simp;(try with_reducible rfl)));simp only[cA,dO,dN,dX,dA,dz,dr];refine fU (i:=11) (v:=?v11) rfl (by kernel_rfl) (by kernel_rfl) (by kernel_rfl) (by kernel_rfl) (λ_ _ _ h=>h) (ax ⟨by rfl,?axY⟩) a ?aeE;(case axY=>(intro W d;obtain⟨u,z,t,C,w,B,s,D,A,y,p,q,m,o⟩:=d;go_simp;(try with_reducible rfl)));simp only[cA,dO,dN,dX,dA,dz,dr];refine fU (i:=12) (v:=?v12) rfl (by kernel_rfl) (by kernel_rfl) (by kernel_rfl) (by kernel_rfl) (λ_ _ _ h=>h) (ax ⟨by rfl,?axX⟩) a ?atj;(case axX=>(intro W d;obtain⟨u,z,t,C,w,B,s,D,A,y,p,q,m,o⟩:=d;go_simp;(try with_reducible rfl)));simp only[cA,dO,dN,dX,dA,dz,dr];refine fU (i:=13) (v:=?lR) rfl (by kernel_rfl) (by kernel_rfl) (by kernel_rfl) (by kernel_rfl) (λ_ _ _ h=>h) (ax ⟨by rfl,?axW⟩) a ?aFD;(case axW=>(intro W d;obtain⟨u,z,t,C,w,B,s,D,A,y,p,q,m,o⟩:=d;go_simp;(try with_reducible rfl)));simp only[cA,dO,dN,dX,dA,dz,dr];refine fU (i:=14) (v:=?oL) rfl (by kernel_rfl) (by kernel_rfl) (by kernel_rfl) (by kernel_rfl) (λ_ _ _ h=>h) (ax ⟨by rfl,?axV⟩) a ?aFC;(case axV=>(intro W d;obtain⟨u,z,t,C,w,B,s,D,A,y,p,q,m,o⟩:=d;go_simp;(try with_reducible rfl)));simp only[cA,dO,dN,dX,dA,dz,dr];refine fU (i:=15) (v:=?Fp) rfl (by kernel_rfl) (by kernel_rfl) (by kernel_rfl) (by kernel_rfl) (λ_ _ _ h=>h) (ax ⟨by rfl,?axU⟩) a ?aFB;(case axU=>(intro W d;obtain⟨u,z,t,C,w,B,s,D,A,y,p,q,m,o⟩:=d;go_simp;(try with_reducible rfl)));simp only[cA,dO,dN,dX,dA,dz,dr];refine fU (i:=16) (v:=?oK) rfl (by kernel_rfl) (by kernel_rfl) (by kernel_rfl) (by kernel_rfl) (λ_ _ _ h=>h) (ax ⟨by rfl,?axT⟩) a ?aFA;(case axT=>(intro W d;obtain⟨u,z,t,C,w,B,s,D,A,y,p,q,m,o⟩:=d;go_simp;(try with_reducible rfl)));simp only[cA,dO,dN,dX,dA,dz,dr];refine fU (i:=17) (v:=?oJ) rfl (by kernel_rfl) (by kernel_rfl) (by kernel_rfl) (by kernel_rfl) (λ_ _ _ h=>h) (ax ⟨by rfl,?axS⟩) a ?aFz;(case axS=>(intro W d;obtain⟨u,z,t,C,w,B,s,D,A,y,p,q,m,o⟩:=d;go_simp;(try with_reducible rfl)));simp only[cA,dO,dN,dX,dA,dz,dr];refine fU (i:=18) (v:=?CW) rfl (by kernel_rfl) (by kernel_rfl) (by kernel_rfl) (by kernel_rfl) (λ_ _ _ h=>h) (ax ⟨by rfl,?axR⟩) a ?aFy;(case axR=>(intro W d;obtain⟨u,z,t,C,w,B,s,D,A,y,p,q,m,o⟩:=d;go_simp;(try with_reducible rfl)));simp only[cA,dO,dN,dX,dA,dz,dr];refine PM (i:=19) (w':=QW.drew.setCell ⟨E,0,Z⟩<|bQ Y) (by kernel_rfl) rfl (by rfl) ?ayc (λh=>Bool.noConfusion h) ?aFx;(case ayc=>(go_simp));simp only[cA,dO,dN,dX,dr];refine PN (by kernel_rfl) ?_ _;refine qN ?_;go_wp2;go_ret;obtain⟨h,Q3,J,L,K,N⟩:=HH;have hb:cg ((P:Int)/2<(j:Int)+1)=cg (P/2<j+1):=by grind
 have I:∀b,b<W.heap.size->QW.heap[b]?=W.heap[b]?:=λb hb=>by grind[Below.heap_alloc]
 have e0:=(I _ J).trans h.ok;have e1:=(I _ L).trans h.no;have e2:=(I _ K).trans h.k;have e3:=(I _ N).trans h.l;refine⟨xx ?_,⟨?_,?_,?_,?_⟩,?_⟩;·grind
 ·show(jk _ _ _).heap[E]?=_;grind[Below.heap_setCell,vJ]
 ·show(jk _ _ _).heap[H]?=_;rw[hb];refine vJ (v:=bQ ai) ?_;grind[Below.heap_setCell]
 ·show(jk _ _ _).heap[G]?=_;grind[Below.heap_setCell,vJ]
 ·show(jk _ _ _).heap[bl]?=_;grind[Below.heap_setCell]
 ·refine aK.trans (Q3▸aK.alloc _ _ _) ?_;exact(((aK.setCell (F:=λb=>b=E∨b=H∨b=G) _ _ _<|ax rfl).trans<|aK.setCell _ _ _<|aA<|aA rfl).trans<|aK.setCell _ _ _<|aA<|ax rfl).trans<|aK.drew _ _
attribute [local go_sem] Oper.semAt_some
theorem Y3:(Q.info? 46).map (λi=>(i.zero,i.size,i.bytes))=U (U<|bJ #[aD ⟨#[]⟩,aD ⟨#[]⟩,V aC 0,V aC 0,aD ⟨#[]⟩],5,64):=by kernel_rfl
structure Pk(N:Nat)(pre:List O)(W:ay)(D:Nat->Prop)(v:az):Prop where acc:jC W N 35 46 5 v pre.length (rows pre)ok:W.heap[N+1]?=U (aH #[bQ Y] 4 (0,0))eM:D=λb=>nI N v b\/b=N+1
theorem Pk.owned(N):pH λa W D=>∃v,Pk N a W D v:=⟨λa W D⟨v,h⟩b c=>by
  rw[h.eM]at c;rcases c with c|rfl;.exact h.acc.lt b c
  .exact(cU.1 h.ok).1,λa W D e⟨v,h⟩d=>⟨v,h.acc.fI λb c=>d.block b<|by rw[h.eM];grind,(d.block _<|by rw[h.eM];grind).trans h.ok,h.eM⟩⟩
def KZ(bo bn bk bl:Nat)(F:List O)(lv:az)(E:Nat->Prop)(last:Bool)(pre:List O)(W:ay)(D:Nat->Prop):Prop:=∃no k,Pt bo bn bk bl Y no k lv W/\(last=ai->no=ai/\k=(pre.length:Nat))/\lC W lv F/\D=E
theorem KZ.owned{r n s bl}{F}{o}{q}(c:∀b,q b↔b=r\/b=n\/b=s\/b=bl\/o.ownBlock=U b)(f):pH<|KZ r n s bl F o q f:=⟨λi W D⟨p,k,h,_,j,e⟩b m=>by
  subst e;rcases(c b).1 m with rfl|rfl|rfl|rfl|m;.exact(cU.1 h.ok).1
  .exact(cU.1 h.no).1
  .exact(cU.1 h.k).1
  .exact(cU.1 h.l).1
  .exact(Sb j b m).2,λi W D v⟨p,k,h,t,j,e⟩d=>by subst e;exact⟨p,k,⟨(d.block _<|(c _).2<|ax rfl).trans h.ok,(d.block _<|(c _).2<|aA<|ax rfl).trans h.no,(d.block _<|(c _).2<|aA<|aA<|ax rfl).trans h.k,(d.block _<|(c _).2<|aA<|aA<|aA<|ax rfl).trans h.l⟩,t,dx j λg u=>d.block g<|(c g).2<|aA<|aA<|aA<|aA u,rfl⟩⟩
theorem asB(i f j bl z w m)(L)(n)(W)(r)(B:∀b,r b↔b=i∨b=f∨b=j∨b=bl∨n.ownBlock=U b)(A:W.cell? z=U (.map m))(C:W.cell? w=U (.string ⟨#[]⟩))(N:cI W m L)(S:L.length<=1073741824)(K:(dS L ⟨#[]⟩).length<=1000000)(R:i≠f∧i≠j∧i≠bl∧f≠j∧f≠bl∧j≠bl)(G:∀b,n.ownBlock=U b->b≠i∧b≠f∧b≠j∧b≠bl)(t:∀b,r b->¬(b=z∨b=w∨b=m))(E:Pt i f j bl Y ai 0 n W)(hs:lC W n<|dS L ⟨#[]⟩):bz Q 85 #[.func (.func 40) #[] #[.pointer i,.pointer f,.pointer j,.pointer bl],.pointer z,.pointer w] W λe o=>(∃v,e=.returned v)∧(∃q k,Pt i f j bl Y q k n o)∧lC o n (dS L ⟨#[]⟩)∧aK r W o:=by
 obtain⟨F,D⟩:=ex<|dS L ⟨#[]⟩;have u:=aDv z w m L ⟨#[]⟩ W A C N S;rw[<-D]at u hs K⊢;have Q3:=u 40 #[.pointer<|U i,.pointer<|U f,.pointer<|U j,.pointer<|U bl] (KZ i f j bl F n r ai) (KZ i f j bl F n r Y) W r (AJ acC rfl<|by decide) ⟨rfl,rfl,rfl,aS _,λ_ _=>rfl⟩ (KZ.owned B ai) (KZ.owned B Y) t ?_ ⟨ai,0,E,λ_=>⟨rfl,rfl⟩,hs,rfl⟩
 ·refine callsIn_wide (n:=0).1<|Q3.mono ?_;rintro e o⟨H,(⟨Q1,O,_,⟨q,k,h,_,c,rfl⟩,d⟩|⟨l,O,_,⟨q,k,h,_,c,rfl⟩,d⟩)⟩;·exact⟨H,⟨q,k,h⟩,c,d.1⟩
  ·exact⟨H,⟨q,k,h⟩,c,d.1⟩
 ·rintro l x M y⟨X,Q0⟩⟨q,k,h,a,p,rfl⟩;obtain⟨rfl,rfl⟩:=a rfl;have T:l.length<F.length:=by grind
  have P:F[l.length]=x:=by grind
  have:=atq i f j bl F l.length T K n M h p R G;rw[P]at this;refine(callsIn_wide.2 this).mono ?_;rintro e o⟨rfl,J,s⟩;have c:lC o n F:=dx p λg Q2=>s.block g (Sb p g Q2).2 (by grind);have d:bS y M y o:=⟨s.mono λb _ I=>(B b).2<|by grind,λb I=>.inl I⟩;by_cases hle:l.length+1<=F.length/2;·exact .inl ⟨by grind,y,⟨_,_,J,λ_=>⟨by grind,by simp⟩,c,rfl⟩,d⟩
  ·exact .inr ⟨by grind,y,⟨_,_,J,λh=>Bool.noConfusion h,c,rfl⟩,d⟩
theorem att(pw)(lv)(ps)(i:Nat)(hi)(id)(m g0)(L)(w)(hW:sM w pw lv ps)(aIr:ps.length<=1000000)(hR:fE w ps[i] id m g0)(hB:cI w m L)(hL:L.length<=500000):bz Q 21 #[aG pw,i] w λe w'=>∃v,e=bj (bO #[v,Y])∧w'.ownsRow w 46 5 v (dS L ⟨#[]⟩).length (rows<|dS L ⟨#[]⟩)∧aW w w w':=by
 obtain⟨gs,aC7,hv,y,Z9⟩:=hW.cell hi;subst hv;obtain⟨p,hp⟩:=ex ps[i];rw[<-hp]at hR Z9;have xU:w.cell? pw=U (aE gs ps.length aC7):=M hW.box 0;have ayM:=(cU.1 hW.box).1;obtain⟨i0,azq,JJ,Zq,Zp⟩:=info_parts Y3;have No:(i:Int)<(ps.length:Int):=by omega
 have Ge:=hR.lt;have yW:=hB.lt;have HB:=cH.mk hR hB;clear hR hB hW hp;refine callsIn_wide (n:=0).1<|callsIn_of_wp_marks aol rfl trivial ?_ rfl;simp only[ntmps21,tF,qi,lG,wS,wP,uN,uM,uL,uK,uJ,qj];gi_wp2_with(gi_at_call 39;refine(callsIn_wide.2<|atr p id m g0 _<|(dm _ _ _<|by simp;omega).trans<|(dm _ _ _ Ge).trans HB.a).mono ?_;rintro e w1⟨rfl,fg⟩;have c:=X fg;clear fg);obtain⟨hR,hB⟩:=HB;have QX:aW w w w1:=by rw[c.out];exact((((eo _ _).alloc (aS _) _).alloc (by simp) _).alloc (by simp;omega) _).alloc (by simp;omega) _
 have jv:w1.heap.size=w+4:=by rw[c.out];simp
 have NB:w1.heap[w.heap.size]?=U (aH #[aE Z 0 0] 35 (0,0)):=by rw[c.out];simp only[EF];grind
 have hbo:w1.heap[w.heap.size+1]?=U (aH #[Y] 4 (0,0)):=by rw[c.out];simp only[EF];grind
 have o8:w1.cell? ⟨w+1+1,0,Z⟩=U (cq m):=by rw[c.out];go_simp
 have uY:w1.cell? ⟨w+1+1+1,0,Z⟩=U (aD ⟨#[]⟩):=by rw[c.out];go_simp
 have ox:=hB.below QX;have hit:=UA (w.heap.size+1+1) (w.heap.size+1+1+1) m L ⟨#[]⟩ w1 o8 uY ox (by omega);have hSl:(dS L ⟨#[]⟩).length<=500000:=by unfold dS;rw[Jj,Ip];exact bC (Bz _ _)<|by grind
 refine wp_rangeFunc (gf:=85) (lb:=#[aG<|U ⟨w.heap.size+1+1,0,Z⟩,aG<|U ⟨w.heap.size+1+1+1,0,Z⟩]) rfl (AJ Ib rfl<|by decide) hit λb d=>by grind (λ_=>rfl) (λq W D=>∃v,Pk w.heap.size q W D v) (λ_ _ _ _=>False) (Pk.owned _) (λ_=>⟨λ_ _ _ h=>h.elim,λ_ _ _ _ h=>h.elim⟩) (λb=>nI w.heap.size (aE Z 0 0) b∨b=w.heap.size+1) (λb d=>?vZ) ⟨_,⟨NB,rQ _ _ _ _⟩,hbo,rfl⟩ ?round ?done ?stop;case vZ=>
  rcases d with(rfl|d)|rfl;·grind
  ·cases d
  grind
 case stop=>grind
 case round=>
  rintro l q⟨Q1,Q3,F,S,T⟩W D An uV ow⟨jq,hS⟩⟨v,hI⟩vc;have hlen:q.length+1<=500000:=by grind
  have HI:=X hI;have hd:=hI.eM;subst hd;unfold O.val;gi_wp2;refine⟨⟨aK.alloc _ _ _,λb d=>d.imp (λh=>h) (·.1)⟩,λW2 u=>?_⟩;have R:W2.heap.size=W+1:=by rw[u.size];simp
  have kb:=λb d=>(u.block b λe=>ow<|e▸d).trans (dm _ _ _<|by
   rcases d with d|rfl;·exact HI.out.acc.lt b d
   grind);have j:=HI.out.acc.fI λb d=>kb b<|ax d;have B:=(kb _<|aA rfl).trans HI.out.ok;have o:W2.heap[W.heap.size]?=U (aH #[Q1,Q3,F,S,T] 46 (0,0)):=(u.block _<|by omega).trans<|iF _ _;have x0:W2.cell? W=U (aD Q1):=M o 0;have x1:W2.cell? ⟨W,1,Z⟩=U (aD Q3):=M o 1;have x2:W2.cell? ⟨W,2,Z⟩=U (V aC F):=M o 2;have x3:W2.cell? ⟨W,3,Z⟩=U (V aC S):=M o 3;have x4:W2.cell? ⟨W,4,Z⟩=U (aD T):=M o 4;obtain⟨hc,hf⟩:=j.cell;have f:=j.row;have J:=j.lt;have NP:=J _<|ax rfl;have ayV:=(cU.1 B).1;have HA:=X j;have Pp:=X B;clear j u ow vc J B kb o R;gi_wp2_with(gi_at_builtin;go_must(refine Sa _ rfl _ _ 35 rfl (w.heap.size+1) 46 i0 (bJ #[aD ⟨#[]⟩,aD ⟨#[]⟩,V aC 0,V aC 0,aD ⟨#[]⟩]) 5 64 Vx azq JJ Zq Zp rfl (by decide) v q.length (rows q) rfl (f.alloc _) ⟨W2.heap.size,0,Z⟩ 1 1 [aD Q1,aD Q3,V aC F,V aC S,aD T] rfl rfl (Bn (by grind) _ _ rfl) (by simp[zh]) (by unfold vg;omega) (by omega) (by simp;omega) ?_);intro v' w3 Gf E _ kg;refine Halt.of ?_);obtain⟨g',K,we⟩:=ownsRow_succ Gf;have hap:=X<|jC.appended (jC.fI HA.out λb d=>dm _ _ _<|jC.lt HA.out b d) E Gf kg;have Nf:w≠v.ownBlock:=λe=>by have:=(f.lt _ e.symm).1;omega
  have ay5:U (w.heap.size+1)≠v.ownBlock:=λe=>by
   obtain⟨QW,P⟩:=f;rcases P with⟨rfl,_⟩|⟨g,cap,cur,rfl,_,y,_⟩;·cases e
   ·simp only[GW,ew]at e;subst e;rw[Pp.out]at y;cases y
  have sj:=(ei (w:=W2.alloc<|aH #[aD Q1,aD Q3,V aC F,V aC S,aD T] 46)<|E.block _ (by simp;omega) Nf).trans<|(ei (w:=W2)<|dm _ _ _ NP).trans hc;have Gp:=(Ad (w:=W2.alloc<|aH #[aD Q1,aD Q3,V aC F,V aC S,aD T] 46)<|E.block _ (by simp;omega) Nf).trans<|(Ad (w:=W2)<|dm _ _ _ NP).trans hf;have Zu:=X<|(E.block _ (by simp;omega) ay5).trans<|(dm _ _ _ ayV).trans Pp.out;subst we;unfold Halt;gi_wp2;obtain⟨QW,P⟩:=hap.out;have h4:Pk w.heap.size (q++[(⟨Q1,Q3,F,S,T⟩:O)]) _ (λb=>nI w.heap.size (aE (U ⟨g',0,Z⟩) (q.length+1) K) b∨b=w.heap.size+1)<|aE (U ⟨g',0,Z⟩) (q.length+1) K:=⟨by rw[QN,j7];exact QW,(gQ _ _ _ _<|by simp).trans Zu.out,rfl⟩;refine⟨_,⟨_,h4⟩,?_⟩;have h3:=P.shift (aK.alloc (λ_=>False) W2<|aH #[aD Q1,aD Q3,V aC F,V aC S,aD T] 46) (E:=λb=>(nI w.heap.size v b∨b=w.heap.size+1)∨W.heap.size<=b∧b<W.heap.size+1) λ_ h=>ax<|ax h;refine⟨h3.1,λb d=>?_⟩;rcases d with d|d;·exact h3.2 b d
  grind
 case done=>
  rintro xs W D Aj⟨v,hI⟩G hK qu;subst Aj;have hd:=hI.eM;subst hd;have NT:=(cU.1 hK).1;have Nb:=hI.ok;obtain⟨aad,f⟩:=hI.acc;have hWz:=G.1.size;obtain⟨W2,t⟩:=ex<|(W.alloc<|aH #[V aC 0] 3).alloc<|aH #[bQ ai] 4;have z:aW W W W2:=by rw[t];exact((eo _ _).alloc (aS _) _).alloc (by simp) _
  have R:W2.heap.size=W+2:=by rw[t];simp
  have Ao:W2.heap[W.heap.size]?=U (aH #[V aC 0] 3 (0,0)):=by grind[Below.heap_alloc,World.alloc_heap_new]
  have uU:W2.heap[W.heap.size+1]?=U (aH #[ai] 4 (0,0)):=by grind[World.alloc_heap_new,World.size_alloc]
  have H:∀g,v.ownBlock=U g->w<g∧g<W∧(g=w+1∨w+4<=g):=λg y=>by
   have QW:=f.lt g y;refine⟨by omega,QW.2,?_⟩;rcases G.2 g (ax<|aA y)with((h|h)|h)|h;·omega
   ·cases h
   all_goals grind
  have N:∀g,v.ownBlock=U g->g≠w+1:=λg y e=>by
   obtain⟨QW,P⟩:=f;rcases P with⟨rfl,_⟩|⟨g',cap,cur,rfl,_,E,_⟩;·cases y
   ·simp only[GW,ew]at y;grind
  have s:∀b,b<w1.heap.size->b≠w->b≠w+1->W2.heap[b]?=w1.heap[b]?:=λb d h0 QW=>(z.block b<|by omega).trans (G.1.block b d<|by rintro((h|h)|h);exact h0 h;cases h;grind);have Q2:=asB (w.heap.size+1) (W.heap.size+1) W.heap.size w.heap.size (w.heap.size+1+1) (w.heap.size+1+1+1) m L v W2 (λb=>b=w.heap.size+1∨b=W.heap.size+1∨b=W.heap.size∨b=w.heap.size∨v.ownBlock=U b) (λb=>vW) ((ei (w:=w1) (a:=⟨_,_,Z⟩)<|s _ (by grind) (by grind)<|by grind).trans o8) ((ei (w:=w1) (a:=⟨_,_,Z⟩)<|s _ (by grind) (by grind)<|by grind).trans uY) (ox.of_block<|s m (by omega) (by omega)<|by omega) (by omega) (by omega) ⟨by omega,by omega,by omega,by omega,by omega,by omega⟩ λb d=>by have QW:=H b d;have P:=N b d;omega λb d=>by
    rcases d with rfl|rfl|rfl|rfl|d;·grind
    ·rintro(h|h|h)<;>omega
    ·rintro(h|h|h)<;>omega
    ·grind
    ·have QW:=H b d;have P:=N b d;rintro(h|h|h)<;>omega ⟨(z.block _<|by omega).trans Nb,uU,Ao,(z.block _<|by omega).trans aad⟩<|FE (base':=0) (dx f λg y=>z.block g (f.lt g y).2) λ_ _=>kI _;have A:=(G.below QX λb d=>by rcases d with(h|h)|h;omega;cases h;omega).trans (z.mono<|by omega);have r:=(z.block _ NT).trans hK;have I:v.ownBlock≠w1:=λe=>qu<|ax<|aA e;rw[jv]at r I;have HC:=X Q2;have azW:w.heap.size+4<W:=by omega
  rw[t]at HC;gi_wp2_with(gi_at_call 85;refine(callsIn_wide.2 HC.out).mono ?_;rintro e W3⟨⟨rv,rfl⟩,⟨no,k,h40⟩,Q0,C⟩;refine Halt.of ?_);have e0:W3.cell? w=v:=M h40.l 0;have e1:W3.cell? ⟨w+1,0,Z⟩=U (bQ Y):=M h40.ok 0;unfold Halt;gi_wp2;refine wpIn_mono ?Zm λe a w h=>Sc e a w h;gi_region_with(fail);all_goals
   refine qN ?_;gi_wp2;obtain⟨Q0,C⟩:=(X<|aM Q0 C).out;obtain⟨A,r,I,H,t⟩:=(X<|aM A<|aM r<|aM I<|aM H t).out;rw[<-t]at C;have R:W2.heap.size=W+2:=by rw[t];simp
   refine⟨by simp,ax ⟨_,_,rfl,vQ<|(C.block _ (cU.1 r).1<|by grind).trans r,?_⟩⟩;refine⟨_,results_tmp2 rfl _ _ _,v,rfl,?_,?_⟩;·exact dx (FE (w:=W3.drew) Q0 λg y=>by grind) λg y=>qQ λe=>I<|e▸y
   ·refine G9 (He A (C.trans<|aK.drew _ _) λx hx e=>?_) (by omega) _;grind
theorem axt:(Q.info? 77).map (λi=>(i.zero,i.size,i.bytes))=U (U<|aG Z,1,8):=by kernel_rfl
theorem sM.ne{w}{b}{c}{f}(h:sM w b c f):c.ownBlock≠b:=λe=>by
 obtain⟨l,j⟩:=h.row;rcases j with⟨rfl,_⟩|⟨g,i,k,rfl,_,d,_⟩;.cases e
 .have:g=b:=by simpa[GW]using e
  subst this;rw[h.box]at d;cases d
def IM(l:List O)(id:Int)(n f v:ByteArray):List O×Int×ByteArray:=if lS n 8 then if lS f 4 then if 20<v.size then(l,3,v)else(Lh l ⟨n,f,jM l+1,id,v⟩,0,⟨#[]⟩)else(l,2,f)else(l,1,n)
def Kq(l:List O)(id:Int)(n:ByteArray):List O×Int×ByteArray:=if lS n 8 then if(TU l n).isEmpty then(l,4,n)else(Lh l ⟨n,⟨#[]⟩,jM l+1,id,⟨#[]⟩⟩,0,⟨#[]⟩)else(l,1,n)
def uB(c:Int)(n:Nat):Nat:=((if c<0 then-(c+1)else c)%n).toNat
theorem Mb{c}{n}(h:0<n):uB c n<n:=by unfold uB;have a:=Int.emod_lt_of_pos (if c<0 then-(c+1)else c) (show(0:Int)<n by omega);grind
end
end Go.Proofs.YtpdbmpbmepkikaaGreatDoor
set_option maxRecDepth 100000
namespace Go.Proofs.YtpdbmpbmepkikaaGreatDoor
section
open Go.RowKit
theorem WI{w:ay}{m e i n:Nat}{v}{xs}(h:w.ownsRow m e i v n xs){b}(c:v.ownBlock=U b):∃a,w.heap[b]?=U (aH a e (0,0)):=by
 rcases h.2 with⟨rfl,_⟩|⟨g,d,a,rfl,_,f,_⟩;.cases c
 .simp only[GW,ew]at c;grind
theorem ak2{w:ay}{a b:Nat}{c d}{t u:Nat}{r s}(e:w.heap[a]?=U (aH c t r))(f:w.heap[b]?=U (aH d u s))(h:t≠u):a≠b:=by grind
variable {N K:Nat} {w w':ay} {x pw:Nat} {pv qv:az}
theorem axo(l)(x):(ins l x).length<=l.length+1:=by induction l with|nil=>simp[ins]|cons y l a=>grind[ins]
theorem akY{l}{k}(a:0<=k)(h:∀y∈l,y.c<=k):jM l<=k:=by grind[akX]
theorem VU{s}{k}(h:lS s k=Y):yB s=Y/\s.size≠0/\s.size<=k:=by simp only[lS,cV,fO]at h;grind
structure vp(K:Nat)(L l:List O):Prop where
 bk:Bk L l
 len:l.length<=K
 cnt:∀y∈l,0<=y.c/\y.c<=K/\gu y.r
theorem vp.more{K'}{L l}(h:vp K L l)(c:K<=K'):vp K' L l:=⟨h.bk,bC h.len c,λy b=>⟨(h.cnt y b).1,by have:=(h.cnt y b).2.1;omega,(h.cnt y b).2.2⟩⟩
theorem vp.take{L l}(h:vp K L l){n f v}{id}(hid:gu id)(c:Good ⟨n,f,jM l+1,id,v⟩):vp (K+1) (fD L ⟨n,f,jM L+1,id,v⟩)<|Lh l ⟨n,f,jM l+1,id,v⟩:=by
 rw[U9 h.bk.sorted,h.bk.clock];have e:=akY (by omega) λy b=>(h.cnt y b).2.1;have d:=abf l;refine⟨h.bk.take c,bC (axo _ _)<|by have:=h.len;omega,λy b=>?_⟩;rcases JA b with rfl|b;.grind
 .exact⟨(h.cnt y b).1,by have:=(h.cnt y b).2.1;omega,(h.cnt y b).2.2⟩
theorem vp.put{L l}(h:vp K L l){id}(hid:gu id)(n f v):vp (K+1) (oO L id n f v).1 (IM l id n f v).1/\(oO L id n f v).2=(IM l id n f v).2:=by unfold oO IM;cases b:lS n 8 with|false=>exact⟨h.more<|by omega,rfl⟩|true=>cases e:lS f 4 with|false=>exact⟨h.more<|by omega,rfl⟩|true=>
   by_cases h3:20<v.size;.simp only[h3,iW];exact⟨h.more<|by omega,trivial⟩
   .simp only[h3,iW,vU];obtain⟨i,d,g⟩:=VU b;obtain⟨a,j,c⟩:=VU e;exact⟨h.take hid ⟨i,d,g,a,c,by grind⟩,trivial⟩
theorem vp.delete{L l}(h:vp K L l){id}(hid:gu id)(n):vp (K+1) (sE L id n).1 (Kq l id n).1/\(sE L id n).2=(Kq l id n).2:=by unfold sE Kq;cases a:lS n 8 with|false=>exact⟨h.more<|by omega,rfl⟩|true=>rw[h.bk.shown];cases e:(TU l n).isEmpty with|true=>simp only[iW];exact⟨h.more<|by omega,trivial⟩|false=>simp only[iW];obtain⟨c,b,d⟩:=VU a;exact⟨h.take hid ⟨c,b,d,rfl,kI _,kI _⟩,rfl⟩
end
end Go.Proofs.YtpdbmpbmepkikaaGreatDoor
set_option maxRecDepth 100000
set_option maxRecDepth 100000
namespace Go.Proofs.YtpdbmpbmepkikaaGreatDoor
section
open Go.RowKit
theorem lC.cases{w}{v}{l}(h:lC w v l):∃b a,v=aE b l.length a:=by obtain⟨d,c⟩:=h;grind
theorem aeO{x}(h:Fit x):(gO x).length<=12400:=by have f:=A4 x.name (by have:=h.name;omega);have e:=A4 x.field (by have:=h.field;omega);have b:=A4 x.value (by have:=h.value;omega);have d:=yz<|Fq h.c;have g:=yz<|Fq h.r;have:=h.name;have:=h.field;have:=h.value;grind[gO,List.length_append]
theorem atp{l:List O}(h:∀x∈l,Fit x):(l.flatMap gO).length<=12400*l.length:=by induction l with|nil=>simp|cons x l a=>grind[aeO,List.length_append,List.length_cons]
theorem av9(N)(v R)(l)(F)(w)(h:dF N w v l)(hN:N<=w)(t:lC w R F)(C:∀b,dh v b->R.ownBlock≠b)(D:∀x∈F,Fit x)(hl:l.length<=274877906944)(hz:F.length<=600000):bz Q 163 #[v,R,dM (ez 164) #[] #[]] w λe Q1=>∃m,e=bj m/\dF N Q1 m (l++da gO F)/\bS (dh v) w (dh m) Q1:=by
 obtain⟨ad,cap,rfl⟩:=t.cases;have hcv:cO.wrap (F.length:Int)=(F.length:Int):=by grind[IntKind.wrap_u64]
 have S:=X (FI N v l F.length w h hN (by omega)<|by omega);have Q2:=yz (n:=F.length) (by omega);have E:∀g y,ad=U ⟨g,y,Z⟩->g<w:=λg y e=>by subst e;rcases t.2 with⟨h,_⟩|⟨g',B,cur,M,_,hg,_⟩;all_goals grind
 have HLt:=X E;go_enter aoD,ntmps163;go_wp2_with(go_at_call 199;go_must(refine S.out.mono ?_);rintro e w1⟨v1,rfl,O,Q0⟩;have G:=cH.mk O Q0;refine Halt.of ?_);unfold Halt;go_wp2;go_loopg[0,16]F.lengthλQY s0 J wr=>∃(d:az)(j:Nat),d=s0/\J=V aC j/\QY+j=F.length/\dF N wr d (l++k F.length++(F.take j).flatMap gO)/\bS (dh v) w (dh d) wr;case atStart=>exact⟨v1,0,rfl,rfl,by omega,by simpa using G.a,G.b⟩
 case round=>
  obtain⟨d,j,rfl,rfl,hk,u,z⟩:=hrel;by_cases hj:j<F.length
  .obtain⟨t,C,D⟩:=(X<|aM t<|aM C D).out;obtain⟨g,B,M,hg,Q3,L,H,T,I⟩:=t.cell hj;simp only[Value.slice.injEq]at M;obtain⟨rfl,-,rfl⟩:=M;have A:=λi=>ei (w:=w) (a:=⟨g,i,Z⟩)<|z.1.block g hg λe=>C g e rfl;rw[<-A]at Q3 L H T I;have a:(l++k F.length++(F.take j).flatMap gO).length<=549755813888:=by grind[atp,List.mem_of_mem_take,List.length_take,List.length_append]
   have p:(F.take<|j+1).flatMap gO=(F.take j).flatMap gO++gO F[j]:=by rw[xH,oS hj,By,List.flatMap_append];grind
   have o:=D F[j]<|lV hj;obtain⟨x,hx⟩:=ex F[j];rw[<-hx]at Q3 L H T I p o;have fo:=z.1.size;obtain⟨n,f,c,r,s⟩:=x;simp only at Q3 L H T I;have S:dD<|∀W,dF N W d (l++k F.length++(F.take j).flatMap gO)->N<=W->bz Q 164 #[d,bJ #[n,f,c,r,s]] W λe W'=>∃m,e=bj m/\dF N W' m (l++k F.length++(F.take j).flatMap gO++gO ⟨n,f,c,r,s⟩)/\bS (dh d) W (dh m) W':=X λW hW QX=>atu N d _ ⟨n,f,c,r,s⟩ W hW QX o a;have nB:(j:Int)<(F.length:Int):=by omega
   have q:=gF.mk u z p;clear u z p o hx A a C D t G;go_wp2_with(go_at_call 164;go_must(refine(S.out _ (q.a.alloc _)<|by simp;omega).mono ?_);rintro e w5⟨v5,rfl,K,QW⟩;have H5:=cH.mk K QW;refine Halt.of ?_);unfold Halt;go_wp2;go_roundg(gk-1);case rel=>exact⟨v5,j+1,rfl,by go_simp,by omega,by rw[q.c,<-jG];exact H5.a,q.b.trans<|bS.trans ⟨aK.alloc _ _ _,λb u=>ax u⟩ H5.b⟩
   grind
  .have P:j=F.length:=by omega
   subst P;rw[uF]at u;have q:=cH.mk u z;go_wp2;go_ret;exact⟨_,rfl,by rw[da,<-jG];exact q.a,q.b⟩
attribute [local go_sem] Oper.semAt_some
theorem ang(l:List UInt8):∀u∈l.map jb,u.oneCell'=Y:=λu a=>by obtain⟨b,_,rfl⟩:=mC.1 a;rfl
end
end Go.Proofs.YtpdbmpbmepkikaaGreatDoor
set_option maxRecDepth 100000
namespace Go.Proofs.YtpdbmpbmepkikaaGreatDoor
section
open Go.RowKit
structure fS(r g off cap:Nat)(l:List UInt8)(bad:Bool)(W:ay):Prop where
 box:W.heap[r]?=U (aH #[aE (U ⟨g,off,Z⟩) l.length cap,bQ bad] 230 (0,0))fits:l.length<=cap
 lt:g<W.heap.size
 ne:g≠r
 cells:∀j(h:j<l.length),W.cell? ⟨g,off+j,Z⟩=U (jb l[j])
theorem fS.keep{r g a cap}{l}{b}{W W'}(h:fS r g a cap l b W)(c:W'.heap[r]?=W.heap[r]?)(f:W'.heap[g]?=W.heap[g]?)(d:W.heap.size<=W'.heap.size):fS r g a cap l b W':=⟨c.trans h.box,h.fits,cE h.lt d,h.ne,λj e=>(ei (w:=W) (a:=⟨g,a+j,Z⟩) f).trans<|h.cells j e⟩
theorem fS.below{r g b cap N}{l}{a}{W W'}(h:fS r g b cap l a W)(c:aW N W W')(d:W<=N):fS r g b cap l a W':=h.keep (c.block _<|cE (cU.1 h.box).1 d) (c.block _<|cE h.lt d) c.size
theorem fS.Bc{r g b cap}{l}{a}{W}(h:fS r g b cap l a W):r<W:=(cU.1 h.box).1
theorem fS.drop{r g c cap n}{l}{d}{W}(h:fS r g c cap l d W)(i:n<=l.length)(b)(k:b=c+n\/cap=n):fS r g b (cap-n) (l.drop n) d<|W.setCell r<|aE (U ⟨g,b,Z⟩) (l.length-n)<|cap-n:=by
 refine⟨?_,?_,?_,h.ne,λj f=>?_⟩;.simp only[jk,Ae,h.box,eG,iW,YH];rfl
 .rw[YH];have:=h.fits;omega
 .simpa[jk]using h.lt
 .rw[YH]at f;have m:=h.fits;have e:b+j=c+(n+j):=by omega
  rw[e,List.getElem_drop];exact(ei (w:=W) (a:=⟨g,c+(n+j),Z⟩)<|gQ _ _ _ _ h.ne).trans<|h.cells (n+j)<|by omega
theorem fS.aqs{r g a cap}{l}{b}{W}(h:fS r g a cap l b W):fS r g a cap l Y<|W.setCell ⟨r,1,Z⟩ Y:=by
 refine⟨?_,h.fits,?_,h.ne,λj c=>(ei (w:=W) (a:=⟨g,a+j,Z⟩)<|gQ _ _ _ _ h.ne).trans<|h.cells j c⟩;.simp only[jk,Ae,h.box,eG,iW];rfl
 .simpa[jk]using h.lt
theorem Qj(r g c cap n)(l)(w)(h:fS r g c cap l ai w)(i:n<=l.length):bz Q 147 #[aG r,n] w λe j=>e=bj (aE (U ⟨g,c,Z⟩) n n)/\(∃d,fS r g d (cap-n) (l.drop n) ai j)/\aK (λb=>b=r) w j:=by
 have s:w.cell? r=U (aE (U ⟨g,c,Z⟩) l.length cap):=M h.box 0;have q:=qO h.box 0;have p:(n:Int)<=(l.length:Int):=by omega
 have m:(n:Int)<=(cap:Int):=by have:=h.fits;omega
 have f:=X h;have o:¬(l.length:Int)<(n:Int):=by omega
 have k:¬l.length<n:=by omega
 go_enter acJ,ntmps147;go_wp2;case inr h=>go_ret;exact⟨rfl,⟨_,f.out.drop i _<|ax rfl⟩,aK.setCell _ _ _ rfl⟩
 case inl h=>subst h;go_ret;refine⟨rfl,⟨c,?_⟩,aK.setCell _ _ _ rfl⟩;have:=f.out.drop i c<|aA rfl;grind
theorem apO(r g a cap n)(l)(c)(w)(h:fS r g a cap l c w)(i:l.length<n):bz Q 147 #[aG r,n] w λe d=>e=bj (aE Z 0 0)/\fS r g a cap l Y d/\aK (λb=>b=r) w d:=by
 have j:w.cell? r=U (aE (U ⟨g,a,Z⟩) l.length cap):=M h.box 0;have m:w.cell? ⟨r,1,Z⟩=U c:=M h.box 1;have k:=qO h.box 1;have f:(l.length:Int)<(n:Int):=by omega
 go_enter acJ,ntmps147;go_wp2;go_ret;exact⟨rfl,(X h).out.aqs,aK.setCell _ _ _ rfl⟩
theorem asn(m z:Nat):cO.wrap (m*2^z)=(m*2^z%18446744073709551616:Nat):=by grind[IntKind.wrap_u64]
theorem aut{a m z}(d:a<2^z)(c:z<=63):a|||m*2^z%18446744073709551616=a+m*2^z%18446744073709551616:=by
 have e:m*2^z%18446744073709551616=2^z*(m%2^(64-z)):=by
  have b:(18446744073709551616:Nat)=2^z*2^(64-z):=by rw[<-Nat.pow_add,show z+(64-z)=64 by omega]
  grind[Nat.mul_comm,Nat.mul_mod_mul_left]
 grind[Nat.two_pow_add_eq_or_of_lt,Nat.add_comm]
theorem aEa:∀x,x<256->x&&&127=x%128:=λx _=>Nat.and_two_pow_sub_one_eq_mod x 7
theorem atG(f k a)(b)(l):th (f+1) k a (b::l)=if b.toNat<128 then(a+b.toNat%128*2^k%18446744073709551616,l,ai)else th f (k+7) (a+b.toNat%128*2^k%18446744073709551616) l:=rfl
theorem auN(r g B cap)(l)(w)(h:fS r g B cap l ai w):bz Q 194 #[aG r] w λe Q2=>e=bj (V cO (th 10 0 0 l).1)/\(∃C G,fS r g C G (th 10 0 0 l).2.1 (th 10 0 0 l).2.2 Q2)/\aK (λb=>b=r) w Q2:=by
 obtain⟨R,QX⟩:=ex<|th 10 0 0 l;rw[<-QX];have Q1:=cH.mk h QX;clear h QX;go_enter aoq,ntmps194;go_wp2;go_loopg[3,4]10λk s3 s4 wr=>∃(z f i j:Nat)(I:List UInt8),s3=V cO f/\s4=z/\7*k+z=70/\th k z f I=R/\fS r g i j I ai wr/\f<2^z/\f<18446744073709551616/\aK (λb=>b=r) w wr;case atStart=>exact⟨0,0,B,cap,l,rfl,rfl,rfl,Q1.b.symm,Q1.a,by decide,by decide,aK.refl _ _⟩
 case round=>
  obtain⟨z,f,i,j,I,rfl,rfl,hk,a,s,u,o,c⟩:=hrel;by_cases hz:z<64
  .obtain⟨H,rfl⟩:∃H,gk=H+1:=⟨gk-1,by omega⟩;have uR:(z:Int)<64:=by omega
   cases I with|nil=>go_wp2_with(go_at_call 147;go_must(refine(X<|apO r g i j 1 [] ai wr s<|by simp).out.mono ?_);rintro e T⟨rfl,p,q⟩;have c1:T.cell? ⟨r,1,Z⟩=U Y:=M p.box 1;have y:=cH.mk p q;refine Halt.of ?_);unfold Halt;go_wp2;go_ret;obtain⟨a,c⟩:=(X<|aM a c).out;rw[th]at a;subst a;exact⟨rfl,⟨_,_,y.a⟩,c.trans y.b⟩|cons b l2=>
    have HC:=X (Qj r g i j 1 (b::l2) wr s<|by simp);have Q0:wr.cell? ⟨g,i,Z⟩=jb b:=s.cells 0<|Nat.zero_lt_succ _;have O:=s.ne;have N:=s.lt;obtain⟨m,Q3⟩:=ex<|b.toNat%128;have qY:b.toNat<256:=b.toNat_lt;have W:bits .and aq (b.toNat:Int) 127=(m:Int):=by grind[u8_and_nat,aEa]
    have hcv:cO.wrap (m:Int)=(m:Int):=by grind[IntKind.wrap_u64]
    have A:=asn m z;have v:=aut (m:=m) u (by omega:z<=63);obtain⟨x,S⟩:=ex<|m*2^z%18446744073709551616;rw[<-S]at A v;have t:x<18446744073709551616:=by omega
    have K:bits .or cO (f:Int) (x:Int)=((f+x:Nat):Int):=by grind[u64_or_nat]
    have d:f+x<18446744073709551616:=by rw[<-v];exact Nat.or_lt_two_pow (n:=64) o t
    have n:f+x<2^(z+7):=by have h2:m*2^z<=127*2^z:=Nat.mul_le_mul_right _ (by omega);grind
    have hw7:aC.wrap ((z:Int)+7)=(z:Int)+7:=by grind[IntKind.wrap_i64]
    rw[atG,<-Q3,<-S]at a;have L:=vB.mk a c n d;unfold jb at Q0;obtain⟨QW,D⟩:=ex<|f+x;rw[<-D]at K L;clear a s c u v Q3 S n d D o t;go_wp2_with(go_at_call 147;go_must(refine HC.out.mono ?_);rintro e T⟨rfl,⟨F,p⟩,q⟩;have c1:T.cell? ⟨r,1,Z⟩=U ai:=M p.box 1;have y5:=(ei (w:=wr) (a:=⟨g,i,Z⟩)<|q.block g N O).trans Q0;have y:=cH.mk p q;refine Halt.of ?_);unfold Halt;by_cases Km:b.toNat<128
    .have J:(b.toNat:Int)<128:=by omega
     go_wp2;go_ret;obtain⟨a,c,-,-⟩:=kp L;rw[dy Km]at a;subst a;exact⟨rfl,⟨_,_,y.a⟩,c.trans y.b⟩
    .have J:¬(b.toNat:Int)<128:=by omega
     go_wp2;go_roundg H;case rel=>obtain⟨a,c,n,d⟩:=L;rw[if_neg Km]at a;exact⟨z+7,QW,F,j-1,l2,rfl,by go_simp,by omega,a,y.a,n,d,c.trans y.b⟩
     grind
  .have P:gk=0:=by omega
   subst P;have E:z=70:=by omega
   subst E;rw[th]at a;go_wp2;go_ret;obtain⟨a,c,s⟩:=(X<|aM a<|aM c s).out;subst a;exact⟨rfl,⟨_,_,s⟩,c⟩
def vA(r g:Nat)(t:List UInt8)(w w':ay):Prop:=(∃off cap,fS r g off cap t ai w')/\aK (λb=>b=r) w w'
theorem FJ(r g b cap n)(t)(w)(h:fS r g b cap (k n++t) ai w)(d:n<18446744073709551616):bz Q 194 #[aG r] w λe j=>e=bj (V cO n)/\vA r g t w j:=by have:=auN r g b cap _ w h;rw[atE d]at this;exact this.mono λ_ _⟨i,f,c⟩=>⟨i,f,c⟩
theorem akO(W)(g a)(s)(h:∀j(c),W.cell? ⟨g,a+j,Z⟩=U (V aq (bl s)[j].toNat)):(convert 79 9<|aE (U ⟨g,a,Z⟩) s.size s.size).run Q W=aY (aD s) W:=by
 have b:=run_convert_bytes_back (P:=Q) W 79 9 5 ⟨g,a,Z⟩ s.size (bl s) uv zL sZ (λj c=>by grind[Addr.add_lit]);have e:(⟨(bl s).toArray⟩:ByteArray)=s:=by grind
 rw[e]at b;exact b
theorem Lx(r g k cap)(s)(t)(w)(h:fS r g k cap (di s++t) ai w)(hs:s.size<=1073741824):bz Q 152 #[aG r] w λe F=>e=bj s/\vA r g t w F:=by
 rw[di,jG]at h;have D:aC.wrap (s.size:Int)=(s.size:Int):=by grind[IntKind.wrap_i64]
 have y:min (s.size:Int) 1073741824=(s.size:Int):=by omega
 go_enter aoO,ntmps152;go_wp2_with(go_at_call 194;go_must(refine(X<|FJ r g k cap s.size (bl s++t) w h<|by omega).out.mono ?_);rintro e w1⟨rfl,E⟩;have C:=X E;refine Halt.of ?_);unfold Halt;obtain⟨⟨b,f,c⟩,p⟩:=C.out;have B:(bl s).length=s.size:=rfl;have i:(bl s++t).drop s.size=t:=by grind
 have d:∀j(n:j<(bl s).length),w1.cell? ⟨g,b+j,Z⟩=U (V aq ((bl s)[j].toNat:Int)):=λj n=>by have:=c.cells j (by grind);rw[List.getElem_append_left n]at this;exact this
 have o:=c.lt;have q:=c.ne;have x:=gF.mk p i d;go_wp2_with(go_at_call 147;go_must(refine(X<|Qj r g b f s.size (bl s++t) w1 c<|by grind).out.mono ?_);rintro e G⟨rfl,⟨l,v⟩,m⟩;have u:=akO G g b s λj n=>(ei (w:=w1) (a:=⟨g,b+j,Z⟩)<|m.block g o q).trans<|x.c j n;have A:=cH.mk v m;refine Halt.of ?_);unfold Halt;go_wp2;go_ret;refine⟨rfl,⟨l,f-s.size,?_⟩,x.a.trans A.b⟩;have:=A.a;grind
theorem amE{x}(b:0<=x)(a:x<9223372036854775808):bits .xor aC x 0=x:=by show aC.wrap ((ON 64 x^^^ON 64 0).toNat:Int)=x;grind[BitVec.toNat_ofInt,IntKind.wrap_i64]
theorem amF{x:Nat}(b:x<9223372036854775808):bits .xor aC x (-1)=-x-1:=by have:=Lib.i64_not x b;rw[<-this];show aC.wrap ((ON 64 (x:Int)^^^ON 64 (-1)).toNat:Int)=aC.wrap ((ON 64 (-1)^^^ON 64 (x:Int)).toNat:Int);grind
theorem aci(r g d cap)(z)(t)(w)(h:fS r g d cap (k (gL z)++t) ai w)(s:gu z):bz Q 195 #[aG r] w λe u=>e=bj z/\vA r g t w u:=by
 have o:=Fq s;have b:=anc z;obtain⟨n,i⟩:=ex<|gL z;rw[<-i]at h o b;have p:=X<|FJ r g d cap n t w h o;have a:bits .and cO (n:Int) 1=((n%2:Nat):Int):=by grind[Lib.u64_and1]
 have f:aC.wrap ((n:Int)/2)=((n/2:Nat):Int):=by grind[IntKind.wrap_i64]
 clear h i;unfold Vu at b;by_cases h2:n%2=0
 .rw[dy h2]at b;rw[h2]at a;have j:bits .xor aC ((n/2:Nat):Int) 0=z:=by grind[amE]
  obtain⟨q,c⟩:=ex<|n/2;rw[<-c]at f j;clear b c;go_enter acG,ntmps195;go_wp2_with(go_at_call 194;go_must(refine p.out.mono ?_);rintro e v⟨rfl,l⟩;have x:=X l;refine Halt.of ?_);unfold Halt;go_wp2;go_ret;exact⟨rfl,x.out⟩
 .rw[if_neg h2]at b;have m:n%2=1:=by omega
  rw[m]at a;have j:bits .xor aC ((n/2:Nat):Int) (-1)=z:=by rw[amF<|by omega];exact b
  obtain⟨q,c⟩:=ex<|n/2;rw[<-c]at f j;clear b c;go_enter acG,ntmps195;go_wp2_with(go_at_call 194;go_must(refine p.out.mono ?_);rintro e v⟨rfl,l⟩;have x:=X l;refine Halt.of ?_);unfold Halt;go_wp2;go_ret;exact⟨rfl,x.out⟩
theorem atv(r g m cap)(x)(t)(w)(h:fS r g m cap (gO x++t) ai w)(hx:Fit x):bz Q 150 #[aG r] w λe w'=>e=bj x.val/\vA r g t w w':=by
 obtain⟨n,f,c,q,s⟩:=x;obtain⟨h1,h2,h3,S,Q2⟩:=hx;simp only at h1 h2 h3 S Q2;simp only[gO,jG]at h;have o7:=h.Bc;have sg:=h.lt;obtain⟨o,u⟩:=ex<|w.alloc<|aH #[aD ⟨#[]⟩,aD ⟨#[]⟩,V aC 0,V aC 0,aD ⟨#[]⟩] 46;have J:o.heap[w.heap.size]?=U (aH #[aD ⟨#[]⟩,aD ⟨#[]⟩,V aC 0,V aC 0,aD ⟨#[]⟩] 46 (0,0)):=by grind[World.alloc_heap_new]
 have K:aK (λb=>b=r) w o:=by grind[aK.alloc]
 have H:fS r g m cap (di n++(di f++(k (gL c)++(k (gL q)++(di s++t))))) ai o:=by rw[u];exact h.below ((eo _ _).alloc (aS _) _)<|aS _
 have B:w.heap.size<o:=by grind
 have C1:=X (Lx r g m cap n _ o H<|by omega);have HW:=X u;have j:=gF.mk K J B;unfold O.val;go_enter aoQ,ntmps150;go_wp2_with(rw[<-HW.out];go_at_call 152;go_must(refine C1.out.mono ?_);rintro e w2⟨rfl,QY⟩;have T:=X QY;refine Halt.of ?_);unfold Halt;obtain⟨⟨o2,c2,G⟩,Ao⟩:=T.out;go_wp2_with(go_at_call 152;go_must(refine(X<|Lx r g o2 c2 f _ w2 G<|by omega).out.mono ?_);rintro e w3⟨rfl,D⟩;have QW:=X D;refine Halt.of ?_);unfold Halt;obtain⟨⟨o3,c3,E⟩,qX⟩:=QW.out;go_wp2_with(go_at_call 195;go_must(refine(X<|aci r g o3 c3 c _ w3 E S).out.mono ?_);rintro e Q1⟨rfl,y⟩;have R:=X y;refine Halt.of ?_);unfold Halt;obtain⟨⟨o4,c4,F⟩,hk4⟩:=R.out;go_wp2_with(go_at_call 195;go_must(refine(X<|aci r g o4 c4 q _ Q1 F Q2).out.mono ?_);rintro e w5⟨rfl,I⟩;have W:=X I;refine Halt.of ?_);unfold Halt;obtain⟨⟨o5,Y,z⟩,hk5⟩:=W.out;go_wp2_with(go_at_call 152;go_must(refine(X<|Lx r g o5 Y s _ w5 z<|by omega).out.mono ?_);rintro e l⟨rfl,QX⟩;have P:=X QX;refine Halt.of ?_);unfold Halt;have d:=T.out.2.trans<|QW.out.2.trans<|R.out.2.trans<|W.out.2.trans P.out.2;have QZ:=(d.block _ j.c<|by omega).trans j.b;have a0:l.cell? w=U (aD ⟨#[]⟩):=M QZ 0;have a1:l.cell? ⟨w,1,Z⟩=U (aD ⟨#[]⟩):=M QZ 1;have a2:l.cell? ⟨w,2,Z⟩=U (V aC 0):=M QZ 2;have a3:l.cell? ⟨w,3,Z⟩=U (V aC 0):=M QZ 3;have a4:l.cell? ⟨w,4,Z⟩=U (aD ⟨#[]⟩):=M QZ 4;have fz:∀i,l.frozen? ⟨w,i,Z⟩=ai:=by grind[Joins.unfrozen_of_block]
 have A:vC w 46 l #[aD ⟨#[]⟩,aD ⟨#[]⟩,V aC 0,V aC 0,aD ⟨#[]⟩] l:=⟨QZ,aK.refl _ _⟩;have Q0:=cH.mk A d;go_wp2;generalize L:jk _ _ _=WF;obtain⟨p,a⟩:=L▸((((Q0.a.set 0 _).set 1 _).set 2 _).set 3 _).set 4 _;simp only[dA,dz,dr]at p;refine vS (results_cell_row rfl _ _ w.heap.size 46 _ (0,0) _ rfl p ann rfl<|by kernel_rfl) rfl ?_;obtain⟨⟨o6,c6,C⟩,-⟩:=P.out;have d:=Q0.b;have v:=d.size;have N:=j.c;refine⟨rfl,⟨o6,c6,C.keep (a.block _ (by omega)<|by omega) (a.block _ (by omega)<|by omega) a.size⟩,?_⟩;exact⟨a.os.trans<|d.os.trans j.a.os,a.tape.trans<|d.tape.trans j.a.tape,a.output.trans<|d.output.trans j.a.output,bC (Nat.le_of_lt N)<|bC v a.size,λb hb Q3=>(a.block b (by omega)<|by omega).trans<|(d.block b (by omega) Q3).trans<|j.a.block b hb Q3⟩
structure al2(r g:Nat)(F:List O)(t:List UInt8)(w:ay)(j:Nat)(v:az)(W:ay):Prop where
 row:W.ownsRow w.heap.size 46 5 v j (rows<|F.take j)js:∃off cap,fS r g off cap ((F.drop j).flatMap gO++t) ai W
 keep:aK (λb=>b=r) w W
theorem avQ(r g C cap)(F)(t)(w)(h:fS r g C cap (da gO F++t) ai w)(hF:∀x∈F,Fit x)(hz:F.length<=600000):bz Q 149 #[aG r,dM (ez 150) #[aG r] #[]] w λe Y=>∃v,e=bj v∧Y.ownsRow w 46 5 v F.length (rows F)∧vA r g t w Y:=by
 rw[da,jG]at h;have R:=h.Bc;have K:=h.lt;have H:=X (FJ r g C cap F.length _ w h<|by omega);have HF:=X hF;go_enter aoS,ntmps149;go_wp2_with(go_at_call 194;go_must(refine H.out.mono ?_);rintro e w1⟨rfl,h1⟩;have a:=X h1;refine Halt.of ?_);unfold Halt;go_wp2;go_loopg[5,6]F.lengthλk s5 s6 wr=>∃(v:az)(j:Nat),v=s5∧s6=V cO (k:Nat)∧k+j=F.length∧al2 r g F t w j v wr;case atStart=>exact⟨_,0,rfl,rfl,rfl,⟨rQ _ _ _ _,by simpa using a.out.1,a.out.2⟩⟩
 case round=>
  obtain⟨v,j,rfl,rfl,hk,G⟩:=hrel;obtain⟨o1,c1,y⟩:=G.js;have b1:wr.cell? ⟨r,1,Z⟩=U (bQ ai):=M y.box 1;by_cases hj:j<F.length
  ·obtain⟨B,rfl⟩:∃B,gk=B+1:=⟨gk-1,by omega⟩;have L:(F.drop j).flatMap gO++t=gO F[j]++((F.drop<|j+1).flatMap gO++t):=by grind[List.drop_eq_getElem_cons,List.append_assoc]
   have A:rows (F.take<|j+1)=rows (F.take j)++F[j].cells:=by grind[List.take_add_one,List.getElem?_eq_getElem,Option.toList_some,QN,rows]
   rw[L]at y;have p:=atv r g o1 c1 F[j] _ wr y<|HF.out F[j]<|lV hj;obtain⟨x,hx⟩:=ex F[j];rw[<-hx]at p A;obtain⟨n,f,c,q,s⟩:=x;unfold O.val at p;simp only[O.cells]at A;have H:=X p;have m:=cH.mk G A;have JF:=G.keep.size;have Q2:cO.wrap (((B+1:Nat):Int)-1)=(B:Int):=by grind[IntKind.wrap_u64]
   have D:(0:Int)<((B+1:Nat):Int):=by omega
   obtain⟨kz,Q1⟩:∃kz:Int,kz=((B+1:Nat):Int):=⟨_,rfl⟩;rw[<-Q1]at Q2 D⊢;go_wp2_with(go_at_call 150;go_must(refine H.out.mono ?_);rintro e w5⟨rfl,h5⟩;have E:=X h5;refine Halt.of ?_);unfold Halt;have z:=dx m.a.row λb o=>E.out.2.block b (m.a.row.lt b o).2 (by have:=(m.a.row.lt b o).1;omega);have lZ:=E.out.2.size;have u:=X z;go_wp2_with(at_builtin;go_must(refine app1 rfl rfl Vx Y3 rfl rfl (dx u.out λb o=>dm _ _ _ (u.out.lt b o).2) rfl (by grind) rfl rfl (by omega) (by simp;omega) ?_);intro J P W d _ kg;refine Halt.of ?_);have i:∀b,b<w.heap.size->P.heap[b]?=w5.heap[b]?:=λb o=>(d.block b (by simp;omega) λe=>by have:=(u.out.lt b e.symm).1;omega).trans (dm _ _ _<|by omega);have T:=d.size;have Q0:al2 r g F t w (j+1) J P:=by
    refine⟨by rw[m.b];exact W,?_,?_⟩;·obtain⟨o5,c5,I⟩:=E.out.1;exact⟨o5,c5,I.keep (i r R) (i g K)<|by simp at T;omega⟩
    ·have l:=m.a.keep.trans E.out.2;exact⟨d.os.trans l.os,d.tape.trans l.tape,d.output.trans l.output,by grind,λb o hn=>(i b o).trans<|l.block b o hn⟩
   unfold Halt;go_wp2;go_roundg B;case rel=>exact⟨J,j+1,rfl,by go_simp,by omega,(X Q0).out⟩
   grind
  ·have N:gk=0:=by omega
   subst N;have S:j=F.length:=by omega
   subst S;have m:=X G;go_wp2;go_ret;refine⟨_,rfl,?_,?_,m.out.keep⟩;·have:=m.out.row;rw[uF]at this;exact this
   ·have:=m.out.js;grind
theorem aqt{a}(L cs:List a)(h:cs.length=L.length):splice L 0 cs=cs:=by simp[splice,h]
end
section
def K(l:List O)(n f:ByteArray):Option O:=l.find? λy=>cg (y.name=n)&&cg (y.field=f)
def Dr(a b:O):O:=if kP b a then b else a
def ie:Option O->Option O->Option O|none,b=>b|a,Z=>a|some a,U b=>U<|Dr a b
theorem amR(a):kP a a=ai:=by simp[kP,Mn]
theorem Va{a b c}(h:kP a b=Y)(k:kP b c=Y):kP a c=Y:=by
 unfold kP at*;by_cases g:a.c=b.c<;>by_cases e:b.c=c.c
 .by_cases f:a.r=b.r<;>by_cases d:b.r=c.r;.grind[RG]
  .grind
  .grind
  grind
 .grind
 .grind
 grind
theorem amU{a b}(h:kP a b=Y):kP b a=ai:=by grind[Va,amR]
theorem ab0{a b}(i:sameKey a b=Y)(h:kP a b=ai)(g:kP b a=ai):a=b:=by
 obtain⟨n,f,c,r,v⟩:=a;obtain⟨j,m,e,d,o⟩:=b;simp only[sameKey,cV]at i;unfold kP at h g;by_cases l:c=e
 .by_cases k:r=d;.grind[Ya]
  grind
 grind
def Keyed(n f:ByteArray)(a:Option O):Prop:=∀x,a=U x->x.name=n/\x.field=f
theorem Keyed.same{n f}{x y}(h:Keyed n f<|U x)(k:Keyed n f<|U y):sameKey x y=Y:=by have h:=h x rfl;have k:=k y rfl;simp[sameKey,h.1,h.2,k.1,k.2]
theorem avO{n f}{a b}(e:Keyed n f a)(g:Keyed n f b):Keyed n f<|ie a b:=by intro x d;cases a with|none=>exact g x d|some a=>cases b with|none=>exact e x d|some b=>
   simp only[ie,Dr]at d;split at d;.exact g x<|by grind
   .exact e x<|by grind
theorem Rz{n f}{a b}(d:Keyed n f a)(h:Keyed n f b):ie a b=ie b a:=by cases a with|none=>cases b<;>rfl|some a=>cases b with|none=>rfl|some b=>simp only[ie,Dr,ew];cases g:kP b a with|true=>grind[amU]|false=>cases e:kP a b with|true=>simp|false=>exact ab0 (d.same h) e g
theorem Ds(a):ie a a=a:=by cases a with|none=>rfl|some a=>simp[ie,Dr]
theorem IY(a):ie a Z=a:=by cases a<;>rfl
theorem RB{n f}{a b c}(e:Keyed n f a)(i:Keyed n f b)(k:Keyed n f c):ie (ie a b) c=ie a (ie b c):=by cases a with|none=>rfl|some a=>cases b with|none=>rfl|some b=>cases c with|none=>rfl|some c=>simp only[ie,Dr];cases h:kP b a with|true=>grind[Va]|false=>cases l:kP c b with|true=>simp|false=>cases j:kP c a with|false=>grind|true=>cases g:kP a b with|true=>grind[Va]|false=>have:=ab0 (e.same i) g h;grind
theorem sI(l)(n f):Keyed n f<|K l n f:=λx b=>by have:=List.find?_some b;grind
theorem tX{l}{n f}{x}(h:K l n f=U x):x∈l/\x.name=n/\x.field=f:=⟨Sj h,sI l n f x h⟩
theorem Pd{l}(hs:j l){x}(c:x∈l):K l x.name x.field=U x:=by cases h:K l x.name x.field with|none=>exact absurd (List.find?_eq_none.1 h x c)<|by simp|some y=>have b:=tX h;rw[hs.inj b.1 c<|by simp[sameKey,b.2.1,b.2.2]]
theorem Cx{l l'}(hs:j l)(b:j l')(h:∀n f,K l n f=K l' n f):l=l':=by
 refine hs.unique b<|(Si hs.nodup b.nodup).2 λx=>⟨λc=>?_,λc=>?_⟩;.have:=Pd hs c;grind[tX]
 .have:=Pd b c;grind[tX]
theorem alw{l:List O}(hs:j l)(x:O)(n f:ByteArray):K (ins l x) n f=if x.name=n∧x.field=f then ie (K l n f) (U x)else K l n f:=by induction l with|nil=>simp only[ins,K,MK,List.find?_nil,ie];grind|cons y l c=>
  have g:=xI.1 hs;have c:=c g.2;by_cases h:x.name=n∧x.field=f
  ·obtain⟨rfl,rfl⟩:=h;simp only[and_self,iW]at c⊢;rw[ins];by_cases b:sameKey y x=Y
   ·have d:(cg (y.name=x.name)&&cg (y.field=x.field))=Y:=b;rw[dy b];have e:K (y::l) x.name x.field=U y:=by unfold K;grind
    rw[e];simp only[ie,Dr];cases p:kP x y with|true=>simp[K,MK]|false=>grind
   ·have d:(cg (y.name=x.name)&&cg (y.field=x.field))=ai:=by simpa[sameKey]using b
    have e:K (y::l) x.name x.field=K l x.name x.field:=by unfold K;grind
    rw[if_neg b,e];by_cases i:ahead x y=Y
    ·rw[dy i];have k:K l x.name x.field=Z:=by cases m:K l x.name x.field with|none=>rfl|some z=>have a:=tX m;have:=UE i<|g.1 z a.1;grind[Cy]
     rw[k];simp[K,MK,ie]
    ·have:K (y::ins l x) x.name x.field=K (ins l x) x.name x.field:=by unfold K;grind
     grind
  ·rw[ins];split
   ·rename_i b;split
    ·have o:(cg (y.name=n)&&cg (y.field=f))=ai:=by simp only[sameKey,cV,fO]at b;grind
     unfold K;grind
    grind
   ·split;·unfold K;grind
    ·unfold K at c⊢;grind
theorem ES{a}(d:j a)(b)(l:j b)(n f):K (b.foldl ins a) n f=ie (K a n f) (K b n f):=by induction b generalizing a with|nil=>simp[K,IY]|cons x b g=>
  have i:=xI.1 l;rw[YG,g (SB d x) i.2,alw d];by_cases h:x.name=n/\x.field=f
  .have e:K (x::b) n f=U x:=by unfold K;grind
   have c:K b n f=Z:=by cases k:K b n f with|none=>rfl|some z=>have m:=tX k;grind[Cy]
   rw[dy h,e,c,IY]
  .have e:K (x::b) n f=K b n f:=by unfold K;grind
   grind
def gz(a b:List O):List O:=b.foldl ins a
theorem qU{a}(d:j a)(b):j<|gz a b:=ajJ d b
theorem F3{a b}(d:j a)(e:j b):gz a b=gz b a:=Cx (qU d b) (qU e a) λn f=>by rw[gz,gz,ES d b e,ES e a d];grind[Rz,sI]
theorem YY{a b c}(e:j a)(g:j b)(h:j c):gz (gz a b) c=gz a (gz b c):=Cx (qU (qU e b) c) (qU e _) λn f=>by rw[gz,ES (qU e b) c h,gz,ES e b g,gz,ES e _<|qU g c,gz,ES g c h];grind[RB,sI]
theorem axe{a}(c:j a):gz a a=a:=Cx (qU c a) c λn f=>by rw[gz,ES c a c];grind[Ds]
def push(p:ByteArray)(c:UInt8):ByteArray:=p++⟨#[c]⟩
theorem zq(p)(c):bl (push p c)=bl p++[c]:=by grind[push,aDo]
theorem uy(p):(bl p).length=p.size:=by cases p;rfl
theorem size_push(p)(c):(push p c).size=p.size+1:=by grind[uy,zq,List.length_append]
theorem push_inj{p q}{c d}(h:push p c=push q d):p=q/\c=d:=by
 have e:bl p++[c]=bl q++[d]:=by grind[zq]
 grind[List.append_inj',zu]
def below(p n f:ByteArray):Bool:=(bl p).isPrefixOf<|bl<|iG n f
theorem wW{p n f}:below p n f=Y↔bl p<+:bl (iG n f):=List.isPrefixOf_iff_prefix
theorem zv{p n f}{c}(h:below (push p c) n f=Y):below p n f=Y:=by grind[wW,zq,List.prefix_append]
theorem alk{p n f}{c d}(h:below (push p c) n f=Y)(k:below (push p d) n f=Y):c=d:=by rw[wW,zq]at h k;obtain⟨t,b⟩:=h;obtain⟨u,a⟩:=k;grind[List.append_assoc,List.append_cancel_left,List.cons.injEq]
theorem alj{p q n f}(h:below p n f=Y)(k:below q n f=Y)(hs:p.size=q.size):p=q:=by rw[wW]at h k;obtain⟨t,b⟩:=h;obtain⟨u,a⟩:=k;grind[zu,List.append_inj,uy]
theorem ali{p n f}(h:below p n f=Y)(hs:p.size<(iG n f).size):∃c,below (push p c) n f=Y:=by rw[wW]at h;obtain⟨t,a⟩:=h;cases t with|nil=>grind[uy,iG]|cons c t=>exact⟨c,by rw[wW,zq];exact⟨t,by grind⟩⟩
theorem KM(n f):below ⟨#[]⟩ n f=Y:=by grind[wW]
def q(l:List O)(p:ByteArray):List O:=l.filter λx=>below p x.name x.field
theorem nt{l}{p}{x}:x∈q l p↔x∈l/\below p x.name x.field=Y:=by grind[q]
theorem Ik(l):q l ⟨#[]⟩=l:=Ji.2 λ_ _=>KM _ _
def EU:List UInt8:=(mJ 256).map ru
theorem avK(c):c∈EU:=by unfold EU;rw[mC];exact⟨c.toNat,List.mem_range.2 c.toNat_lt,by simp⟩
theorem auS:EU.Nodup:=by unfold EU;unfold List.Nodup;rw[List.pairwise_map];refine List.Pairwise.imp_of_mem (λ{a b}g d f e=>?_) List.pairwise_lt_range;have d:=List.mem_range.1 d;have:=congrArg UInt8.toNat e;grind[UInt8.toNat_ofNat']
def qc(l:List O)(p:ByteArray):List UInt8:=EU.filter λc=>!(q l<|push p c).isEmpty
theorem Mj{l}{p}{c}:c∈qc l p↔q l (push p c)≠[]:=by grind[qc,avK]
theorem XF(l)(p):(qc l p).Nodup:=auS.filter _
structure Nd where
 pfx:ByteArray
 kids:List<|UInt8×Int
structure dZ where
 bq:List O
 cu:List ByteArray
 nodes:List Nd
 roots:List Int
section
variable (hs:List O->Int)
def DG(l:List O)(p:ByteArray):List<|UInt8×Int:=(qc l p).map λc=>(c,hs<|q l<|push p c)
def jd(l:List O)(p:ByteArray):Nd:=⟨p,DG hs l p⟩
def rU(l:List O)(p:ByteArray)(k:UInt8×Int):List O:=if q l (push p k.1)≠[]/\hs (q l<|push p k.1)≠k.2/\k.1=0 then q l (push p k.1)else[]
def rT(l:List O)(p:ByteArray)(k:UInt8×Int):List ByteArray:=if q l (push p k.1)=[]\/hs (q l<|push p k.1)≠k.2/\k.1=0 then[push p k.1]else[]
def rV(l:List O)(p:ByteArray)(k:UInt8×Int):List Nd:=if q l (push p k.1)≠[]/\hs (q l<|push p k.1)≠k.2/\k.1≠0 then[jd hs l<|push p k.1]else[]
def De(l:List O)(n:Nd):List UInt8:=(qc l n.pfx).filter λc=>!(n.kids.map (·.1)).contains c
def ya(l:List O)(n:Nd):List O:=n.kids.flatMap (rU hs l n.pfx)++(De l n).flatMap λc=>q l<|push n.pfx c
def vk(l:List O)(n:Nd):List ByteArray:=n.kids.flatMap<|rT hs l n.pfx
def vl(l:List O)(n:Nd):List Nd:=n.kids.flatMap<|rV hs l n.pfx
def C(l:List O)(m:dZ):dZ where bq:=m.cu.flatMap (q l)++m.nodes.flatMap (ya hs l);cu:=m.nodes.flatMap<|vk hs l;nodes:=m.nodes.flatMap (vl hs l)++m.roots.flatMap λd=>if d=hs l then[]else[jd hs l ⟨#[]⟩];roots:=[]
def dZ.none(m:dZ):Bool:=m.bq.isEmpty&&m.cu.isEmpty&&m.nodes.isEmpty
def aV(l:List O)(m:dZ):List O:=m.bq.foldl ins l
def Hh(l:List O)(m:dZ):Option dZ:=if(C hs (aV l m) m).none then Z else U<|C hs (aV l m) m
end
def told(R:List O)(n f:ByteArray):Bool:=R.any λx=>cg (x.name=n)&&cg (x.field=f)
theorem Ft{R}{n f}:told R n f=Y↔∃x∈R,x.name=n/\x.field=f:=by unfold told;grind
theorem RE{n f}{a b}(d:Keyed n f a)(c:Keyed n f b):ie (ie a b) b=ie a b:=by grind[RB,Ds]
theorem apN{X A}(d:j X)(a:j A)(n f):∀(R),(∀x∈R,x∈X)->K (R.foldl ins A) n f=if told R n f then ie (K A n f) (K X n f)else K A n f:=by intro R;induction R generalizing A with|nil=>intro _;rfl|cons x R c=>
  intro h;rw[YG,c (SB a x) λy g=>h y<|vO _ g,alw a];have i:=Pd d<|h x<|vP ..;have b:told (x::R) n f=(cg (x.name=n)&&cg (x.field=f)||told R n f):=rfl;rw[b];by_cases e:x.name=n/\x.field=f;.obtain⟨rfl,rfl⟩:=e;simp only[and_self,iW,decide_true];grind[RE,sI]
  grind
theorem Qe{Y}(a:j Y)(m):j<|aV Y m:=ajJ a _
def xk(A B X:List O):Prop:=∀n f,K X n f=K A n f\/K X n f=ie (K A n f) (K B n f)
structure sW(A B X Y:List O):Prop where
 sA:j A
 sB:j B
 sX:j X
 sY:j Y
 gX:∀x∈X,Good x
 gY:∀x∈Y,Good x
 bX:xk A B X
 bY:xk B A Y
theorem aga(A B)(n f):ie (K B n f) (K A n f)=ie (K A n f) (K B n f):=Rz (sI _ _ _)<|sI _ _ _
theorem axd(A B)(n f):ie (K A n f) (ie (K A n f)<|K B n f)=ie (K A n f) (K B n f):=by rw[<-RB (sI _ _ _) (sI _ _ _)<|sI _ _ _,Ds]
theorem Ie{X Y}(c:j X)(b:j Y){m}(h:∀x∈m.bq,x∈X)(n f):K (aV Y m) n f=if told m.bq n f then ie (K Y n f) (K X n f)else K Y n f:=apN c b n f _ h
theorem aaG:∀{R l:List O}{x},x∈R.foldl ins l->x∈l\/x∈R
 |[],l,x,h=>ax h|y::R,l,x,h=>by
  rw[YG]at h;rcases aaG h with h|h;.grind[JA,List.mem_cons_self]
  grind
theorem sW.aV{A B X C}(h:sW A B X C){m}(d:∀x∈m.bq,x∈X):sW B A (aV C m) X:=by
 refine⟨h.sB,h.sA,Qe h.sY m,h.sX,λx b=>?_,h.gX,λn f=>?_,h.bX⟩
 .rcases aaG b with b|b;.exact h.gY x b
  .exact h.gX x<|d x b
 .rw[Ie h.sX h.sY d];split
  .right;have i:=aga A B n f;have g:=axd B A n f;rcases h.bX n f with c|c<;>rcases h.bY n f with e|e<;>rw[c,e];.grind[RE,sI]
   .grind
   grind[Ds]
  .exact h.bY n f
theorem alv{l}{n f}:K l n f=Z↔∀x∈l,¬(x.name=n/\x.field=f):=by unfold K;grind
theorem UB{l}(p n f):K (q l p) n f=if below p n f then K l n f else Z:=by
 split;.unfold K q;grind
 grind[alv,nt]
theorem A5{X A}(c:j X)(b:j A){p}(h:∀n f,below p n f=Y->K X n f=K A n f):q X p=q A p:=by refine Cx (c.filter _) (b.filter _) λn f=>?_;grind[UB]
theorem sub_eq{X A}{p}(h:q X p=q A p){n f}(c:below p n f=Y):K X n f=K A n f:=by have b:=UB (l:=X) p n f;have a:=UB (l:=A) p n f;grind
theorem LB{X}{p}(h:q X p=[]){n f}(b:below p n f=Y):K X n f=Z:=by have a:=UB (l:=X) p n f;rw[b,dy rfl,h]at a;rw[<-a];rfl
theorem Pe{X}{x}(b:x∈X):K X x.name x.field≠Z:=λh=>(alv.1 h) x b ⟨rfl,rfl⟩
section
variable (hs:List O->Int)
structure mU(A B X C:List O)(m:dZ)(ℓ:Nat):Prop where
 bk:sW A B X C
 bq:∀x∈m.bq,x∈X
 node:∀nd∈m.nodes,nd=jd hs X nd.pfx
 size:∀nd∈m.nodes,nd.pfx.size=ℓ
 nz:∀nd∈m.nodes,(0:UInt8)∉bl nd.pfx
 deep:m.nodes≠[]->ℓ<=13
 diff:∀nd∈m.nodes,∃n f,below nd.pfx n f=Y/\K A n f≠K B n f
 Lg:∀w∈m.cu,w.size=ℓ
 dis:∀w∈m.cu,∀nd∈m.nodes,w≠nd.pfx
 apart:∀x∈m.bq,∀nd∈m.nodes,below nd.pfx x.name x.field=ai
 act:∀nd∈m.nodes,∀n f,below nd.pfx n f=Y->K X n f=K A n f/\K C n f=K B n f
 roots:m.roots=[]
variable {hs} {A B X W:List O} {m:dZ} {ℓ:Nat}
theorem Bq{X}{p}{k}:k∈(jd hs X p).kids↔q X (push p k.1)≠[]/\k.2=hs (q X<|push p k.1):=by show k∈(qc X p).map _↔_;grind[Mj]
theorem Rv{X W}{p}{c}:c∈De W (jd hs X p)↔q W (push p c)≠[]/\q X (push p c)=[]:=by
 unfold De;rw[Ac,Mj];refine and_congr_right λ_=>?_;rw[Bool.not_eq_true',<-Bool.not_eq_true,List.contains_iff_mem,mC];constructor;.intro h;refine oe λb=>h ⟨(c,hs<|q X<|push p c),Bq.2 ⟨b,rfl⟩,rfl⟩
 grind[Bq]
theorem X5{X W}{p}{x}:x∈ya hs W (jd hs X p)↔∃c,x∈q W (push p c)/\(q X (push p c)=[]\/q X (push p c)≠[]/\hs (q W<|push p c)≠hs (q X<|push p c)/\c=0):=by
 unfold ya;simp only[qP,rP];constructor
 .rintro(⟨k,g,b⟩|⟨c,i,b⟩)
  .obtain⟨d,f⟩:=Bq.1 g;unfold rU at b;split at b;.rename_i h;exact⟨k.1,b,aA ⟨d,by rw[<-f];exact h.2.1,h.2.2⟩⟩
   grind
  .exact⟨c,b,ax (Rv.1 i).2⟩
 .rintro⟨c,b,h|⟨d,f,j⟩⟩;.exact aA ⟨c,Rv.2 ⟨λe=>by grind,h⟩,b⟩
  .refine ax ⟨(c,hs<|q X<|push p c),Bq.2 ⟨d,rfl⟩,?_⟩;show x∈rU hs W p _;unfold rU;grind
theorem Rw{X W}{p w}:w∈vk hs W (jd hs X p)↔∃c,w=push p c/\q X (push p c)≠[]/\(q W (push p c)=[]\/hs (q W<|push p c)≠hs (q X<|push p c)/\c=0):=by
 unfold vk;simp only[rP];constructor
 .rintro⟨k,f,b⟩;obtain⟨d,e⟩:=Bq.1 f;unfold rT at b;split at b;.rename_i h;rw[mA]at b;exact⟨k.1,b,d,by rw[<-e];exact h⟩
  grind
 .rintro⟨c,rfl,d,e⟩;refine⟨(c,hs<|q X<|push p c),Bq.2 ⟨d,rfl⟩,?_⟩;show _∈rT hs W p _;unfold rT;grind
theorem af9{X W}{p}{e}:e∈vl hs W (jd hs X p)↔∃c,e=jd hs W (push p c)/\q X (push p c)≠[]/\q W (push p c)≠[]/\hs (q W<|push p c)≠hs (q X<|push p c)/\c≠0:=by
 unfold vl;simp only[rP];constructor
 .rintro⟨k,g,b⟩;obtain⟨d,f⟩:=Bq.1 g;unfold rV at b;split at b;.rename_i h;rw[mA]at b;exact⟨k.1,b,d,h.1,by rw[<-f];exact h.2.1,h.2.2⟩
  grind
 .rintro⟨c,rfl,d,f,i,j⟩;refine⟨(c,hs<|q X<|push p c),Bq.2 ⟨d,rfl⟩,?_⟩;show _∈rV hs W p _;unfold rV;grind
theorem mU.quiet(M:mU hs A B X W m ℓ){b}(c:b∈m.nodes){n f}(d:below b.pfx n f=Y):K (aV W m) n f=K B n f/\K X n f=K A n f:=by refine⟨?_,(M.act b c n f d).1⟩;rw[Ie M.bk.sX M.bk.sY M.bq,if_neg,(M.act b c n f d).2];intro h;obtain⟨x,e,rfl,rfl⟩:=Ft.1 h;rw[M.apart x e b c]at d;grind
theorem ahn{x}(d:Good x){p}{c}(b:below (push p c) x.name x.field=Y):p.size+1<=14/\(c≠0->p.size+1<=13):=by
 rw[wW,zq,AK]at b;have j:=b.length_le;have i:=d.Mi;have h:=d.Oe;simp only[j7,qi,uy]at j i h;refine⟨by omega,λg=>?_⟩;refine oe λf=>g ?_;have e:(bl p++[c]).length=(bl x.name++46::(bl x.field++[0])).length:=by grind[List.length_append,List.length_cons,List.length_nil,uy]
 have:=b.eq_of_length e;grind[List.append_inj']
theorem mU.step(M:mU hs A B X W m ℓ):mU hs B A (aV W m) X (C hs (aV W m) m)<|ℓ+1:=by
 have r:∀x∈(C hs (aV W m) m).bq,x∈aV W m/\((∃w∈m.cu,below w x.name x.field=Y)\/∃g∈m.nodes,∃c,below (push g.pfx c) x.name x.field=Y/\(q X (push g.pfx c)=[]\/c=0)):=by
  intro x k;simp only[C,qP,rP]at k;rcases k with⟨w,p,k⟩|⟨g,j,k⟩;.grind[nt]
  .rw[M.node g j]at k;grind[X5,nt]
 have i:∀d∈(C hs (aV W m) m).nodes,∃g∈m.nodes,∃c,d=jd hs (aV W m) (push g.pfx c)/\q X (push g.pfx c)≠[]/\q (aV W m) (push g.pfx c)≠[]/\hs (q (aV W m)<|push g.pfx c)≠hs (q X<|push g.pfx c)/\c≠0:=by intro d b;simp only[C,M.roots,List.flatMap_nil,uI,rP]at b;obtain⟨g,j,k⟩:=b;rw[M.node g j]at k;grind[af9]
 have o:∀w∈(C hs (aV W m) m).cu,∃g∈m.nodes,∃c,w=push g.pfx c/\(q (aV W m) (push g.pfx c)=[]\/c=0):=by intro w p;simp only[C,rP]at p;obtain⟨g,j,k⟩:=p;rw[M.node g j]at k;grind[Rw]
 have t:=M.bk.aV M.bq;refine⟨t,λx k=>(r x k).1,λd b=>?_,λd b=>?_,λd b=>?_,λy=>?_,λd b=>?_,λw p=>?_,λw p d b=>?_,λx k d b=>?_,λd b n f s=>?_,rfl⟩;.obtain⟨g,j,c,rfl,_⟩:=i d b;rfl
 .obtain⟨g,j,c,rfl,_⟩:=i d b;show(push g.pfx c).size=_;rw[size_push,M.size g j]
 .obtain⟨g,j,c,rfl,_,_,_,v⟩:=i d b;show(0:UInt8)∉bl (push g.pfx c);rw[zq,qP,mA];rintro(h|h);.exact M.nz g j h
  grind
 .obtain⟨d,b⟩:=FW _ y;obtain⟨g,j,c,rfl,H,_,_,v⟩:=i d b;obtain⟨x,k⟩:=FW _ H;obtain⟨u,F⟩:=nt.1 k;have:=(ahn (M.bk.gX x u) F).2 v;rw[M.size g j]at this;grind
 .obtain⟨g,j,c,rfl,_,_,J,_⟩:=i d b;show∃n f,below (push g.pfx c) n f=Y/\_;refine oe λG=>J ?_;rw[A5 t.sX M.bk.sX λn f s=>?_];obtain⟨L,I⟩:=M.quiet j<|zv s;grind
 .obtain⟨g,j,c,rfl,_⟩:=o w p;rw[size_push,M.size g j]
 .obtain⟨g,j,c,rfl,u⟩:=o w p;obtain⟨l,Q0,D,rfl,_,F,_,K⟩:=i d b;show push g.pfx c≠push l.pfx D;grind[push_inj]
 .obtain⟨l,Q0,D,rfl,u,_,_,K⟩:=i d b;show below (push l.pfx D) x.name x.field=ai;rw[Bool.eq_false_iff];intro s;obtain⟨_,⟨w,p,E⟩|⟨g,j,c,a,v⟩⟩:=r x k;.exact M.dis w p l Q0<|alj E (zv s)<|by rw[M.Lg w p,M.size l Q0]
  .have e:=alj a s (by rw[size_push,size_push,M.size g j,M.size l Q0]);rw[<-e]at u;obtain⟨_,I⟩:=push_inj e;grind
 .obtain⟨g,j,c,rfl,_⟩:=i d b;have z:below (push g.pfx c) n f=Y:=s;exact M.quiet j<|zv z
def Clear(hs:List O->Int)(A B:List O):Prop:=∀p,(∃x,(x∈A\/x∈B)/\below p x.name x.field=Y)->hs (q A p)=hs (q B p)->q A p=q B p
def Conv(X W:List O)(m:dZ):Prop:=∀n f,(∃nd∈m.nodes,below nd.pfx n f=Y)\/(∃w∈m.cu,below w n f=Y/\ie (K (aV W m) n f) (K X n f)=K (aV W m) n f)\/K X n f=K (aV W m) n f
theorem mU.conv(M:mU hs A B X W m ℓ)(I:Clear hs A B\/m.nodes=[])(h:Conv X W m):Conv (aV W m) X<|C hs (aV W m) m:=by
 have v:=M.step;intro n f;have k:=Ie v.bk.sX v.bk.sY v.bq n f;have N:=λ(l H:List O)=>Rz (n:=n) (f:=f) (sI l n f)<|sI H n f;have P:told (C hs (aV W m) m).bq n f=Y->K (aV W m) n f≠Z:=λp=>by obtain⟨x,j,rfl,rfl⟩:=Ft.1 p;exact Pe<|v.bq x j
 have E:K X n f=K (aV W m) n f->K (aV W m) n f=K (aV X<|C hs (aV W m) m) n f:=λe=>by grind[Ds]
 rcases h n f with⟨d,Q3,o⟩|⟨w,G,o,z⟩|e
 .obtain⟨S,a⟩:=M.quiet Q3 o;have Q2:d.pfx.size<(iG n f).size:=by rw[<-uy,<-uy<|iG n f];have F:=wW.1 o;refine Nat.lt_of_le_of_ne F.length_le λQ0=>M.nz d Q3 ?_;rw[F.eq_of_length Q0,AK];simp
  obtain⟨c,r⟩:=ali o Q2;have t:=M.node d Q3;by_cases j:q X (push d.pfx c)=[];.have L:=LB j r;refine aA<|aA ?_;cases s:K (aV W m) n f with|none=>grind|some y=>obtain⟨b,i,g⟩:=tX s;have p:told (C hs (aV W m) m).bq n f=Y:=Ft.2 ⟨y,by simp only[C,qP,rP];grind[X5,nt],i,g⟩;rw[k,dy p,L,s];rfl
  .by_cases s:q (aV W m) (push d.pfx c)=[]
   .have R:=LB s r;refine aA<|ax ⟨push d.pfx c,?_,r,?_⟩;.simp only[C,rP];grind[Rw]
    grind[IY]
   .by_cases Q1:hs (q (aV W m)<|push d.pfx c)=hs (q X<|push d.pfx c)
    .have D:=I.resolve_right λe=>by grind
     have Q:q X (push d.pfx c)=q A (push d.pfx c):=A5 M.bk.sX M.bk.sA λn f o=>(M.quiet Q3<|zv o).2;have T:q (aV W m) (push d.pfx c)=q B (push d.pfx c):=A5 v.bk.sX M.bk.sB λn f o=>(M.quiet Q3<|zv o).1;rw[Q]at j;obtain⟨x,j⟩:=FW _ j;have:=D (push d.pfx c) ⟨x,ax (nt.1 j).1,(nt.1 j).2⟩ (by grind);grind[sub_eq]
    .by_cases J:c=0
     .refine aA<|ax ⟨push d.pfx c,?_,r,?_⟩;.simp only[C,rP];grind[Rw]
      .cases b:K (aV W m) n f with|none=>rw[IY]|some y=>obtain⟨u,i,g⟩:=tX b;have p:told (C hs (aV W m) m).bq n f=Y:=Ft.2 ⟨y,by simp only[C,qP,rP];refine aA ⟨d,Q3,?_⟩;rw[t];grind[X5,nt],i,g⟩;rw[k,dy p,<-b];grind[RE,sI]
     .refine ax ⟨jd hs (aV W m)<|push d.pfx c,?_,r⟩;simp only[C,qP,rP];refine ax ⟨d,Q3,?_⟩;rw[t];exact af9.2 ⟨c,rfl,j,s,Q1,J⟩
 .refine aA<|aA ?_;cases b:K (aV W m) n f with
  |none=>rw[k,if_neg λp=>P p b];rw[b]at z;cases j:K X n f with|none=>rfl|some x=>rw[j]at z;cases z
  |some y=>obtain⟨u,i,g⟩:=tX b;have p:told (C hs (aV W m) m).bq n f=Y:=Ft.2 ⟨y,by simp only[C,qP,rP];exact ax ⟨w,G,nt.2 ⟨u,by rw[i,g];exact o⟩⟩,i,g⟩;rw[k,dy p,N X<|aV W m,z,b]
 grind
end
def gV(h:Int):List UInt8:=[h/72057594037927936%256,h/281474976710656%256,h/1099511627776%256,h/4294967296%256,h/16777216%256,h/65536%256,h/256%256,h%256].map λz=>ru z.toNat
def ju(k:UInt8×Int):List UInt8:=k.1::gV k.2
def iN(n:Nd):List UInt8:=di n.pfx++da ju n.kids
def gy(m:dZ):List UInt8:=da gO m.bq++da di m.cu++da iN m.nodes++da gV m.roots
section
variable {α:Type}
theorem Ij{f g:α->Nat}:∀{l:List α},(∀a∈l,f a<=g a)->(l.map f).sum<=(l.map g).sum|[],_=>aS _|a::l,h=>Nat.add_le_add (h a<|vP ..)<|Ij λb e=>h b<|vO _ e
theorem sum_add{f g:α->Nat}:∀(l:List α),(l.map λa=>f a+g a).sum=(l.map f).sum+(l.map g).sum|[]=>rfl|a::l=>by simp only[gd,Ab,sum_add l];omega
theorem C0{f:α->Nat}(k):∀(l:List α),(l.map λa=>f a*k).sum=(l.map f).sum*k|[]=>by simp|a::l=>by simp only[gd,Ab,C0 k l,Nat.add_mul]
theorem LA(k):∀(l:List α),(l.map λ_=>k).sum=k*l.length|[]=>rfl|a::l=>by simp only[gd,Ab,LA k l,qi,Nat.mul_add];omega
theorem I7{t:Type}{f:α->List t}:∀(l:List α),(l.flatMap f).length=(l.map λa=>(f a).length).sum|[]=>rfl|a::l=>by simp only[List.flatMap_cons,j7,I7 l,gd,Ab]
end
theorem auz{P:UInt8->Bool}{cs:List UInt8}(f:cs.Nodup)(h:∀c d,P c=Y->P d=Y->c=d):(cs.map λc=>if P c then 1 else 0).sum<=1/\((∀c,P c=ai)->(cs.map λc=>if P c then 1 else 0).sum=0):=by induction cs with|nil=>grind|cons c cs g=>
  by_cases e:P c=Y
  .have:(cs.map λc=>if P c then 1 else 0).sum=0:=by
    have:∀(l:List UInt8),(∀d∈l,d∈cs)->(l.map λc=>if P c then 1 else 0).sum=0:=by intro l;induction l with|nil=>grind|cons d l b=>grind
    grind
   grind
  grind
theorem aua(J:List O){cs:List UInt8}(b:cs.Nodup){P:UInt8->O->Bool}{Q}(h:∀c x,P c x=Y->Q x=Y)(f:∀c d x,P c x=Y->P d x=Y->c=d):(cs.map λc=>(J.filter<|P c).length).sum<=(J.filter Q).length:=by induction J with|nil=>simp only[MI,lG];rw[LA];omega|cons x J g=>
  have e:(cs.map λc=>((x::J).filter<|P c).length)=cs.map λc=>(if P c x then 1 else 0)+(J.filter<|P c).length:=by grind
  rw[e,sum_add];obtain⟨j,i⟩:=auz (P:=λc=>P c x) b λc d=>f c d x;grind
theorem XE:∀(a n),n<128^(a+1)->(k n).length<=a+1
 |0,n,h=>by grind[yy]|a+1,n,h=>by
  by_cases c:n<128;.grind[yy]
  .rw[FL c,qi];have:=XE a (n/128) (by grind);omega
theorem auP(n):(k n).length<=1+n:=by induction n using Nat.strongRecOn with|_ n b=>grind[yy,FL,List.length_cons]
theorem FK{n}(h:n<128):(k n).length=1:=by grind[yy]
theorem Lz{s}(h:s.size<128):(di s).length=1+s.size:=by unfold di;grind[List.length_append,FK,uy]
theorem Yd{e}{f:e->List UInt8}{l}{c}(h:∀x∈l,(f x).length+1<=c):(da f l).length<=1+c*l.length:=by unfold da;rw[j7,I7];have g:=auP l.length;have d:=Ij (f:=λa=>(f a).length+1) (g:=λ_=>c) (l:=l) h;rw[sum_add,LA,LA]at d;omega
def Fits(x:O):Prop:=gL x.c<18446744073709551616/\gL x.r<18446744073709551616
theorem atw{x}(h:Good x)(b:Fits x):(gO x).length<=55:=by unfold gO;simp only[j7];have g:=Lz (s:=x.name) (by have:=h.Mi;omega);have f:=Lz (s:=x.field) (by have:=h.Oe;omega);have d:=Lz (s:=x.value) (by have:=h.value;omega);have e:=XE 9 (gL x.c) (Nat.lt_trans b.1<|by grind);have i:=XE 9 (gL x.r) (Nat.lt_trans b.2<|by grind);have:=h.Mi;have:=h.Oe;have:=h.value;omega
def keyBytes:List UInt8:=EU.filter λc=>c==0||c==46||letter c
theorem aw9:keyBytes.length=28:=by decide
theorem alm{x}(b:Good x){p}{c}(d:below (push p c) x.name x.field=Y):c=0\/c=46\/letter c=Y:=by
 rw[wW,zq,AK]at d;have:c∈bl x.name++46::(bl x.field++[0]):=d.subset (by simp);simp only[qP,dj,dP]at this;rcases this with h|h|h|h;.have:=b.name;unfold yB at this;grind
 .grind
 .have:=b.field;unfold yB at this;grind
 grind
theorem afT{X}(i:∀x∈X,Good x)(p):(qc X p).length<=28:=by
 rw[<-aw9];have e:qc X p=(keyBytes).filter λc=>!(q X<|push p c).isEmpty:=by
  unfold qc keyBytes;rw[YF];refine List.filter_congr λc _=>?_;cases j:(q X<|push p c).isEmpty
  .have b:q X (push p c)≠[]:=λe=>by grind
   obtain⟨x,d⟩:=FW _ b;obtain⟨g,f⟩:=nt.1 d;rcases alm (i x g) f with rfl|rfl|h;.rfl
   .rfl
   grind
  grind
 grind
section
variable {hs:List O->Int} {A B X C:List O} {m:dZ} {ℓ:Nat}
theorem au0(c:∀x∈X,Good x){p}(h:p.size<=13):(iN<|jd hs X p).length+1<=268:=by
 unfold iN;rw[j7];have e:=Lz (s:=p) (by omega);have g:=afT c p;have f:(DG hs X p).length=(qc X p).length:=by unfold DG;grind
 have d:(da ju<|DG hs X p).length=1+9*(DG hs X p).length:=by unfold da;rw[j7,I7,FK<|by omega];have:∀a,(ju a).length=9:=λa=>rfl;grind[LA]
 show(di p).length+(da ju<|DG hs X p).length+1<=268;omega
theorem XT(g:∀x∈X,Good x/\Fits x)(k:∀x∈m.bq,x∈X)(c:∀w∈m.cu,w.size<=14)(d:∀b∈m.nodes,b=jd hs X b.pfx/\b.pfx.size<=13)(l:m.roots=[]):(gy m).length<=4+56*m.bq.length+16*m.cu.length+268*m.nodes.length:=by
 unfold gy;simp only[j7];have f:=Yd (f:=gO) (l:=m.bq) (c:=56) λx i=>by grind[atw]
 have n:=Yd (f:=di) (l:=m.cu) (c:=16) λw h=>by grind[Lz]
 have j:=Yd (f:=iN) (l:=m.nodes) (c:=268) λb h=>by grind[au0]
 have e:(da gV m.roots).length=1:=by unfold da;grind[List.length_append,FK]
 omega
variable (A B)
def differ(x:O):Bool:=cg<|K A x.name x.field≠K B x.name x.field
def dC(p:ByteArray):Nat:=((q (gz A B) p).filter<|differ A B).length
variable {A B}
theorem aCs(p){cs:List UInt8}(b:cs.Nodup):(cs.map λc=>dC A B<|push p c).sum<=dC A B p:=by
 unfold dC q;simp only[YF];refine aua _ b (λc x h=>?_) λc d x h k=>?_;.grind[zv]
 .grind[alk]
theorem MQ(c:j A)(b:j B)(n f):K (gz A B) n f=ie (K A n f) (K B n f):=ES c B b n f
theorem akq(g:j A)(d:j B){p n f}(a:below p n f=Y)(h:K A n f≠K B n f):1<=dC A B p:=by cases b:K (gz A B) n f with
 |none=>
  rw[MQ g d]at b;cases i:K A n f<;>cases c:K B n f<;>rw[i,c]at b;.grind
  .cases b
  .cases b
  .cases b|some x=>obtain⟨e,rfl,rfl⟩:=tX b;exact List.length_pos_of_mem<|Ac.2 ⟨nt.2 ⟨e,a⟩,MH h⟩
theorem aCt(b:j A)(d:j B){p}(h:∀n f,below p n f=Y->K B n f=Z):(q A p).length=dC A B p:=by unfold dC;rw[A5 (qU b B) b λn f i=>by grind[MQ,IY]];rw[Ji.2];intro x c;obtain⟨e,g⟩:=nt.1 c;refine MH ?_;grind[Pe]
theorem aCr(c:j A)(b:j B){p}(h:∀n f,below p n f=Y->K A n f=Z):(q B p).length=dC A B p:=by unfold dC;rw[A5 (qU c B) b λn f e=>by rw[MQ c b,h n f e];rfl];rw[Ji.2];intro x d;obtain⟨g,i⟩:=nt.1 d;refine MH ?_;grind[Pe]
theorem akp(b:j A)(a:j B)(p):dC B A p=dC A B p:=by unfold dC;rw[F3 a b];unfold differ;grind
theorem sub_zero{l}(hs:j l)(b:∀x∈l,Good x)(p):(q l<|push p 0).length<=1:=by
 have f:∀x∈q l<|push p 0,bl x.key=bl p++[0]:=λx a=>by obtain⟨o,k⟩:=nt.1 a;have b:=b x o;rw[wW,zq]at k;show bl (iG _ _)=_;obtain⟨t,g⟩:=k;rw[<-g];cases t with|nil=>simp|cons c t=>
   rw[AK]at g;have n:=xD b.name (c:=0) (by grind);have s:=xD b.field (c:=0) (by grind);have r:0∉bl x.name++46::bl x.field:=by grind
   by_cases u:0∈bl p
   .have d:bl p<+:bl x.name++46::bl x.field++[0]:=⟨0::c::t,by grind⟩;have:=by refine List.prefix_of_prefix_length_le d (awF _ _) ?_;grind
    grind
   grind[X9]
 match h:q l (push p 0)with|[]=>simp|[x]=>simp|x::y::t=>have i:=(nt.1 (by grind:x∈q l (push p 0))).1;have v:=(nt.1 (by grind:y∈q l (push p 0))).1;have e:=hs.inj i v<|(sameKey_iff (b x i)<|b y v).2<|zu<|(f x<|by grind).trans (f y<|by grind).symm;have n:=(hs.filter λx=>below (push p 0) x.name x.field).nodup;unfold q at h;grind
end
end
end Go.Proofs.YtpdbmpbmepkikaaGreatDoor
