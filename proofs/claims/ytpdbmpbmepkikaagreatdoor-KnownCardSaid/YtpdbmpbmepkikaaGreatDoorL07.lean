/- Laws. -/
import Derived.Laws.AppendOwnNone
import Derived.Laws.CopyOwn
import Derived.Laws.EntriesVeiled
import Derived.Deep.AppendLies
import Derived.Test.YtpdbmpbmepkikaaGreatDoorL06
set_option maxRecDepth 100000
set_option maxHeartbeats 400000
set_option linter.all false
open Go.Proofs.Tryz
open And renaming intro->aM
open BitVec renaming ofInt->PI
open Bool renaming true->Z,false->ai
open Decidable renaming decide->bP
open Go renaming World->ax,Value->az,Calls->bz,TypeId->dV,Addr->eF,callFunc->iJ,zeroValue->kQ,maxLen->vQ
open Go.Act renaming put->dj
open Go.Ending renaming returned->bj
open Go.Fn renaming func->ei
open Go.Instr renaming checkKey->C5,entry->CZ,sameNow->FE,sameBits->FF,makeMap->Lt,next->zJ
open Go.IntKind renaming i64->aG,u8->aq,u64->cP
open Go.Next renaming enter->jO
open Go.Obj renaming cells->aH,map->iY
open Go.Operand renaming tmp->cy
open Go.Result renaming ok->aW
open Go.RowKit renaming Below->aY,Hid->dx
open Go.Value renaming oneCell'->A5,ownBlock->Fz,int->Y,slice->aC,string->aE,pointer->aF,agg->bO,tuple->bQ,map->bW,bool->cx,func->dF
open Go.World renaming setCell->jL,cell?->pz,alloc->qF,frozen?->yu
open List renaming range->mR
open Nat renaming reduceSub->vU,reduceAdd->vV
open Option renaming some->U,none->V
open Or renaming inr->aB,inl->ay
open UInt8 renaming ofNat->kT
namespace Go.Proofs.YtpdbmpbmepkikaaGreatDoor
def Zf:=@Go.NoPanic.imp
def tS:=@Go.NoPanic.normal
def Ze:=@Go.wpListIn_append_own_at
def Ca:=@Go.ownsRow_succ
def aij:=@List.getElem?_take_of_lt
def Zd:=@Int.emod_lt_of_pos
def lP:=@Nat.zero_le
def SU:=@List.getElem?_eq_some_iff
def SS:=@Go.wpList_append_own_at
def wQ:=@Go.Value.slice.injEq
def aii:=@List.mem_of_mem_take
def B9:=@Option.toList_some
def vk:=@List.take_length
def Zc:=@List.length_drop
def SR:=@Nat.mul_comm
def aih:=@Nat.mul_le_mul_right
def qW:=@Go.IntKind.wrap_i64
def Eu:=@Go.Addr.add_lit
def aif:=@List.getElem_append_left
def ayV:=@List.drop_eq_getElem_cons
def aIx:=@List.append_inj'
def ayU:=@List.prefix_append
def SQ:=@List.mem_range
def vi:=@List.mem_cons_self
def rU:=@List.mem_flatMap
def aie:=@List.flatMap_nil
def AA:=@List.sum_cons
def aid:=@Nat.mul_add
def Et:=@List.flatMap_cons
def Zb:=@List.filter_filter
def Kk:=@decide_eq_true
def zc:=@List.length_singleton
def Nx:=@List.sum_nil
def SP:=@Nat.mul_le_mul_left
def GR:=@List.ne_nil_of_mem
def aic:=@List.eq_nil_iff_forall_not_mem
def SO:=@Go.World.cell?_setCell_far
def Nw:=@Ne.symm
def x4:=@Go.wp_region_noPanic
def fo:=@List.getElem_toArray
def fg:=@List.getElem_cons_zero
def fF:=@List.getElem_cons_succ
def Kj:=@Go.wpAnyH_take
def Za:=@Go.wpAnyH_ready
def Y9:=@Go.AllReadyH.cons
def Y8:=@Go.AllReadyH.nil
def Az:=@Go.World.ownsRow.cells
section
open Go.RowKit
theorem BA(s)(h:s.size<=1073741824):(dh s).length<=10+s.size:=by have:=Sm (f:=9) (n:=s.size) (by omega);rw[dh,kM];show _+s.size<=_;omega
theorem yT{n}(h:n<18446744073709551616):(k n).length<=10:=Sm (f:=9)<|cB h<|by decide
structure fH(N:Nat)(v0:az)(w0:ax)(bx:Nat)(cs:Array az)(T:dV)(v:az)(l:List UInt8)(W:ax):Prop where
 buf:dy N W v l
 box:W.heap[bx]?=U (aH cs T (0,0))off:¬de v bx
 left:bS (de v0) w0 (de v) W
 base:N<=W.heap.size
variable {N:Nat} {v0 v:az} {w0 W:ax} {bx:Nat} {cs:Array az} {T:dV} {l:List UInt8}
theorem IV:fH N v0 w0 bx cs T v l W.drew↔fH N v0 w0 bx cs T v l W:=⟨λh=>⟨h.buf,h.box,h.off,⟨⟨h.left.1.os,h.left.1.tape,h.left.1.output,h.left.1.size,h.left.1.block⟩,h.left.2⟩,h.base⟩,λh=>⟨h.buf,h.box,h.off,⟨⟨h.left.1.os,h.left.1.tape,h.left.1.output,h.left.1.size,h.left.1.block⟩,h.left.2⟩,h.base⟩⟩
def l9(bx:Nat)(cs:Array az)(T:dV)(W:ax):Prop:=W.heap[bx]?=U (aH cs T (0,0))
theorem Vz:l9 bx cs T W.drew↔l9 bx cs T W:=x5
theorem fH.Ci(h:fH N v0 w0 bx cs T v l W):l9 bx cs T W:=h.box
theorem fH.next{v'}{l'}{W'}(h:fH N v0 w0 bx cs T v l W)(c:dy N W' v' l')(a:bS (de v) W (de v') W'):fH N v0 w0 bx cs T v' l' W':=have b:=(eX.1 h.box).1;⟨c,(a.1.block _ b h.off).trans h.box,λe=>by rcases a.2 _ e with e|e;exact h.off e;omega,h.left.trans a,bC h.base a.1.size⟩
theorem fH.text(h:fH N v0 w0 bx cs T v l W)(s)(hs:s.size<=1073741824)(b:l.length<=1099511627776):bz Q 165 #[v,aE s] W λe f=>∃a,e=bj a/\fH N v0 w0 bx cs T a (l++dh s) f:=(ad6 N v l s W h.buf h.base hs b).mono λ_ _⟨a,c,g,d⟩=>⟨a,c,h.next g d⟩
theorem fH.num(h:fH N v0 w0 bx cs T v l W)(n:Nat)(b:n<18446744073709551616)(c:l.length<=1099511627776):bz Q 199 #[v,Y cP n] W λe g=>∃a,e=bj a/\fH N v0 w0 bx cs T a (l++k n) g:=(Gy N v l n W h.buf h.base b c).mono λ_ _⟨a,d,i,f⟩=>⟨a,d,h.next i f⟩
theorem avx(N)(v)(l)(x)(w)(h:dy N w v l)(hN:N<=w)(hx:Fit x)(hl:l.length<=549755813888):bz Q 164 #[v,x.val] w λe S=>∃j,e=bj j/\dy N S j (l++gU x)/\bS (de v) w (de j) S:=by
 obtain⟨n,f,c,r,QX⟩:=x;obtain⟨Q0,Q1,a,H,I⟩:=hx;simp only at Q0 Q1 a H I;have t1:=BA n (by omega);have t2:=BA f (by omega);have L:=F7 H;have QY:=F7 I;have t3:=yT L;have t4:=yT QY;obtain⟨cs,E⟩:∃cs:Array az,cs=#[aE n,aE f,Y aG c,Y aG r,aE QX]:=⟨_,rfl⟩;obtain⟨K,ez⟩:=ex<|w.alloc<|aH cs 46;have hA:fH N v w w cs 46 v l K:=by rw[ez];exact⟨h.alloc _,gI _ _,λe=>by have:=(h.lt e).2;omega,⟨O.alloc _ _ _,λb hb=>ay hb⟩,by simp;omega⟩
 have R:dx<|∀W,fH N v w w cs 46 v l W->bz Q 165 #[v,n] W λe Qw=>∃j,e=bj j/\fH N v w w cs 46 j (l++dh n) Qw:=X λW g=>g.text n (by omega) (by omega);have QZ:dx<|∀i W,fH N v w w cs 46 i (l++dh n) W->bz Q 165 #[i,f] W λe Qw=>∃j,e=bj j/\fH N v w w cs 46 j (l++dh n++dh f) Qw:=X λi W g=>g.text f (by omega) (by grind);have D:dx<|∀i W,fH N v w w cs 46 i (l++dh n++dh f) W->bz Q 199 #[i,Y cP<|gS c] W λe Qw=>∃j,e=bj j/\fH N v w w cs 46 j (l++dh n++dh f++k (gS c)) Qw:=X λi W g=>g.num _ L (by grind);have o:dx<|∀i W,fH N v w w cs 46 i (l++dh n++dh f++k (gS c)) W->bz Q 199 #[i,Y cP<|gS r] W λe Qw=>∃j,e=bj j/\fH N v w w cs 46 j (l++dh n++dh f++k (gS c)++k (gS r)) Qw:=X λi W g=>g.num _ QY (by grind);have m:dx<|∀i W,fH N v w w cs 46 i (l++dh n++dh f++k (gS c)++k (gS r)) W->bz Q 165 #[i,QX] W λe Qw=>∃j,e=bj j/\fH N v w w cs 46 j (l++dh n++dh f++k (gS c)++k (gS r)++dh QX) Qw:=X λi W g=>g.text QX (by omega) (by grind);have J:dx<|∀i W,fH N v w w cs 46 i (l++dh n++dh f) W->bz Q 200 #[c] W λe Qw=>e=bj (Y cP<|gS c)/\fH N v w w cs 46 i (l++dh n++dh f) Qw:=X λi W g=>(adv c W H).mono λ_ _ h=>⟨h.1,h.2▸g⟩;have p:dx<|∀i W,fH N v w w cs 46 i (l++dh n++dh f++k (gS c)) W->bz Q 200 #[r] W λe Qw=>e=bj (Y cP<|gS r)/\fH N v w w cs 46 i (l++dh n++dh f++k (gS c)) Qw:=X λi W g=>(adv r W I).mono λ_ _ h=>⟨h.1,h.2▸g⟩;obtain⟨Q2,t⟩:∃z,z=gS c:=⟨_,rfl⟩;obtain⟨QW,C⟩:∃z,z=gS r:=⟨_,rfl⟩;rw[<-t]at D o m J p;rw[<-C]at o m p;have d:l++gU ⟨n,f,c,r,QX⟩=l++dh n++dh f++k Q2++k QW++dh QX:=by grind[gU,List.append_assoc]
 obtain⟨l1,A⟩:∃z,z=l++dh n:=⟨_,rfl⟩;rw[<-A]at R QZ D o m J p d;obtain⟨l2,F⟩:∃z,z=l1++dh f:=⟨_,rfl⟩;rw[<-F]at QZ D o m J p d;obtain⟨l3,y⟩:∃z,z=l2++k Q2:=⟨_,rfl⟩;rw[<-y]at D o m p d;obtain⟨l4,q⟩:∃z,z=l3++k QW:=⟨_,rfl⟩;rw[<-q]at o m d;obtain⟨l5,B⟩:∃z,z=l4++dh QX:=⟨_,rfl⟩;rw[<-B]at m d;have G:=X d;have k0:∀W:ax,l9 w cs 46 W->W.cell? w=U (aE n):=λW g=>(M g 0).trans (by grind);have k1:∀W:ax,l9 w cs 46 W->W.cell? ⟨w,1,V⟩=U (aE f):=λW g=>(M g 1).trans (by grind);have k2:∀W:ax,l9 w cs 46 W->W.cell? ⟨w,2,V⟩=U (Y aG c):=λW g=>(M g 2).trans (by grind);have k3:∀W:ax,l9 w cs 46 W->W.cell? ⟨w,3,V⟩=U (Y aG r):=λW g=>(M g 3).trans (by grind);have k4:∀W:ax,l9 w cs 46 W->W.cell? ⟨w,4,V⟩=U (aE QX):=λW g=>(M g 4).trans (by grind);have je:l9 w cs 46 K:=hA.box;rw[E]at ez;have P:=X ez;clear ez h E d A F y q B t C t1 t2 t3 t4 L QY Q0 Q1 a H I hl;unfold s.val;go_enter aqw,ntmps164;go_wp2;rw[<-P.out];go_region_held3λW=>l9 w.heap.size cs 46 W(with_reducible grind[Vz,fH.Ci])((first|(go_at_call 165;with_reducible refine jm (R.out _ ?ez) ?_;(case ez=>grind[IV]);rintro e w2⟨v2,rfl,Uq⟩)|(go_at_call 165;with_reducible refine jm (QZ.out _ _ ?jW) ?_;(case jW=>grind);rintro e w3⟨Q3,rfl,Lc⟩)));go_wp2;go_region_held3λW=>l9 w.heap.size cs 46 W(with_reducible grind[Vz,fH.Ci])((first|(go_at_call 200;with_reducible refine jm (J.out Q3 _<|by grind[IV]) ?_;rintro e wa⟨rfl,hAa⟩)|(go_at_call 199;with_reducible refine jm (D.out Q3 _<|by grind) ?_;rintro e w4⟨v4,rfl,hA4⟩)|(go_at_call 200;with_reducible refine jm (p.out v4 _<|by grind) ?_;rintro e wb⟨rfl,Lb⟩)|(go_at_call 199;with_reducible refine jm (o.out v4 _<|by grind) ?_;rintro e w5⟨v5,rfl,hA5⟩)|(go_at_call 165;with_reducible refine jm (m.out v5 _<|by grind) ?_;rintro e w6⟨v6,rfl,u⟩)));go_wp2;go_ret;refine⟨_,rfl,?_,u.left⟩;rw[G.out];exact u.buf
attribute [local go_sem] Oper.semAt_some
structure Bq(bx:Nat)(W0:ax)(D0:Nat->Prop)(yv:az)(W:ax)(D D':Nat->Prop):Prop where
 eI:∀b,D b↔D' b\/b=bx
 old:∀b,D' b->D0 b\/W0.heap.size<b
 box:W.heap[bx]?=U (aH #[yv] 92 (0,0))size:W0.heap.size<=W.heap.size
def tu(bx:Nat)(W0:ax)(D0:Nat->Prop)(yv:az)(J:List s->ax->(Nat->Prop)->Prop)(pre:List s)(W:ax)(D:Nat->Prop):Prop:=∃D',J pre W D'/\Bq bx W0 D0 yv W D D'
theorem tu.owned{n}{W0}{j}{m}{J}(g:qM J):qM<|tu n W0 j m J:=⟨λe W D h b f=>by
  obtain⟨i,d,h⟩:=h;rcases(h.eI b).1 f with f|rfl;.exact g.lt _ _ _ d b f
  .exact(eX.1 h.box).1,λe W D o h c=>by obtain⟨i,d,h⟩:=h;exact⟨i,g.st _ _ _ _ d ⟨c.os,c.tape,c.output,c.size,λk l=>c.block k<|(h.eI k).2<|ay l⟩,h.eI,h.old,(c.block _<|(h.eI _).2<|aB rfl).trans h.box,bC h.size c.size⟩⟩
theorem Bq.left{g}{W w1 d}{e D i}{m}(h:Bq g W e m d D i)(a:aY W W w1)(l:W<=g)(c:bS (λb=>e b\/b=g) w1 D d):bS e W i d:=⟨⟨c.1.os.trans a.os,c.1.tape.trans a.tape,c.1.output.trans a.output,bC a.size c.1.size,λk j n=>(c.1.block k (cB j a.size)<|by grind).trans<|a.block k j⟩,λb f=>(h.old b f).imp id λx=>Nat.le_of_lt x⟩
theorem Bq.step{c}{W0 i W'}{g D j a}{l}(h:Bq c W0 g l i D j)(r:∀b,g b->b≠c)(m:c=W0)(f:bS j i a W'):Bq c W0 g l W' (λb=>a b\/b=c) a/\bS D i (λb=>a b\/b=c) W':=by
 have p:=(eX.1 h.box).1;have n:¬j c:=λq=>by rcases h.old c q with d|d;all_goals grind
 refine⟨⟨λb=>x5,λb e=>?_,(f.1.block _ p n).trans h.box,bC h.size f.1.size⟩,f.1.mono λk _ o=>(h.eI k).2<|ay o,λb e=>?_⟩
 .rcases f.2 b e with d|d;.exact h.old b d
  grind
 .rcases e with e|e
  .rcases f.2 b e with d|d;.exact ay<|(h.eI b).2<|ay d
   grind
  .exact ay<|(h.eI b).2<|aB e
theorem aDG(bp bn p m g)(id)(L)(n)(w)(sI:w.cell? bp=U (.pointer p))(zz:w.cell? bn=U (.string n))(OX:fq w p id m g)(hB:cI w m L)(hL:L.length<=1073741824)(hn:n.size<=4096):Iter Q 67 #[.pointer<|U ⟨bp,0,V⟩,.pointer<|U ⟨bn,0,V⟩] (λx=>#[x.field,x.value]) (λxs=>xs=jC L n) (λb=>b=bp∨b=bn∨b=p∨b=m) w:=by
 intro l J Jx W C N B f hR QW Q1;have Q0:cI W m L:=hB.of_block (N.block m<|by simp);have QZ:fq W p id m g:=(N.block p<|by simp).trans OX;have aaV:W.cell? ⟨bp,0,V⟩=U (.pointer<|U ⟨p,0,V⟩):=(ew (w:=w)<|N.block bp<|by simp).trans sI;have OR:=(ew (w:=w)<|N.block bn<|by simp).trans zz;have KJ:=QZ.cell.2.1;have lbp:=oU W _ aaV;have lbn:=oU W _ OR;have lp:=QZ.lt;have lm:=Q0.lt;have Oh:=QZ.ne Q0;have HX:=X<|aM N<|aM B<|aM f<|aM hR<|aM QW Q1;have HB:=X Q0;clear N B f hR QW Q1 Q0 hB sI zz OX QZ;refine callsIn_of_wp_marks Wl rfl trivial ?_ rfl;simp only[ntmps67,rW,oT,lF,vV,vU,tZ,tY,tX,tW,rV,oV];gi_wp2;obtain⟨Q2,A⟩:∃Q2,Q2=W.alloc (.cells #[.func (.yield l) #[] #[]] 92):=⟨_,rfl⟩;have e0:Q2.cell? bp=U (.pointer p):=by rw[A];go_simp
 have e1:Q2.cell? bn=U (.string n):=by rw[A];go_simp
 have e2:Q2.cell? ⟨p,1,V⟩=U (.map m):=by rw[A];go_simp
 have HW:=X A;have HC:=X<|Xp m L n Q2.drew (by rw[A];exact(HB.out.alloc _).of_block rfl) hL hn;rw[<-A];clear A;refine wpIn_mono ?ajp λe a w h=>Zf e a w h;gi_region_with(gi_at_call 68;refine(callsIn_wide.2 HC.out).mono ?_;rintro e y⟨lb,rfl,hx,t⟩);all_goals
  refine tS ?_;have P4:=X<|aM hx t;clear hx t HC e0 e1 e2;gi_wp2;obtain⟨⟨R,S,QX⟩,E⟩:=P4.out;clear P4;obtain⟨N,B,f,hR,QW,Q1⟩:=HX.out;have ko:Q2.heap.size=W+1:=by rw[HW.out];simp
  have lT:Q2.drew.heap.size=W+1:=ko;have r:aY W W Q2:=by rw[HW.out];exact(dK _ _).alloc (aQ _) _
  have i:=r.drew.trans (E.mono<|by grind);have T:y.heap[W.heap.size]?=U (.cells #[.func (.yield l) #[] #[]] 92 (0,0)):=(E.block _<|by grind).trans (by rw[HW.out];exact gI _ _);have ZM:=E.size;rw[lT]at ZM;have o:=B.lt _ _ _ Q1;have F:∀b,C b->b≠W:=λb t e=>by grind
  have zy:∀b,C b->b≠m:=by grind
  have H0:tu W W C (.func (.yield l) #[] #[]) J [] y λb=>C b∨b=W:=⟨C,B.st _ _ _ _ Q1<|(O.iH (F:=λ_=>False) i).fJ λb t=>⟨o b t,λh=>h⟩,⟨λb=>x5,λb t=>.inl t,T,i.size⟩⟩;refine wp_rangeFunc (gf:=120) (lb:=lb) rfl (Bd QS rfl<|by decide) S (λb t=>(QX b t).1) (λ_=>rfl) (tu W.heap.size W C (.func (.yield l) #[] #[]) J) (λc G W' D=>c=.ret∧tu W.heap.size W C (.func (.yield l) #[] #[]) Jx G W' D) (tu.owned B) (λc=>⟨λQY w D h b t=>(tu.owned f).lt QY w D h.2 b t,λQY w D w' h ha=>⟨h.1,(tu.owned f).st QY w D w' h.2 ha⟩⟩) (λb=>C b∨b=W.heap.size) (λb t hr=>?wW) H0 ?round ?done ?stop;case wW=>grind
  case done=>
   rintro xs H D Cp⟨v,K,j⟩I hK rq;have hl:=j.left i (aQ _) I;have oB:¬v y:=λh=>rq<|(j.eI _).2<|.inl h;have z:=B.st _ _ _ _ K<|(uM.putObj H y.heap.size<|.deferred V).fJ oB;have uj:bS C W v<|H.putObj y<|.deferred V:=hl.step (O.putObj (F:=λb=>b=y.heap.size) H y.heap.size _ rfl) (λx hx e=>by omega);have d:dx<|J xs (H.putObj y<|.deferred V) v∧bS C W v (H.putObj y<|.deferred V):=by grind
   clear HX HB N B f hR QW Q1 i S o F zy H0 K j I hl z uj T HW QX E r;gi_wp2;refine⟨by simp,.inl ⟨_,_,rfl,vp hK,?_⟩⟩;exact⟨_,results_none rfl _ _ _,⟨_,rfl⟩,.inl ⟨_,v,Cp,d.out.1,d.out.2⟩⟩
  case stop=>
   rintro c G H D⟨ju,TC⟩⟨rfl,v,K,j⟩I hK rq;have hl:=j.left i (aQ _) I;have oB:¬v y:=λh=>rq<|(j.eI _).2<|.inl h;have z:=f.st _ _ _ _ K<|(uM.putObj H y.heap.size<|.deferred V).fJ oB;have uj:bS C W v<|H.putObj y<|.deferred V:=hl.step (O.putObj (F:=λb=>b=y.heap.size) H y.heap.size _ rfl) (λx hx e=>by omega);have d:dx<|Jx G (H.putObj y<|.deferred V) v∧bS C W v (H.putObj y<|.deferred V):=by grind
   clear HX HB N B f hR QW Q1 i S o F zy H0 K j I hl z uj T HW QX E r;gi_wp2;refine⟨by simp,.inl ⟨_,_,rfl,vp hK,?_⟩⟩;exact⟨_,results_none rfl _ _ _,⟨_,rfl⟩,.inr ⟨_,v,⟨ju,TC⟩,d.out.1,d.out.2⟩⟩
  case round=>
   rintro l2 G⟨xn,xf,xc,xr,xv⟩Wr D AN vG o8⟨ju,hS⟩j xm;obtain⟨v,K,j⟩:=j;unfold s.val;have Q3:=(tu.owned B).lt G Wr D ⟨v,K,j⟩;have HI:=X<|aM K j;have HS:=X hS;have P6:=X<|aM B<|aM f<|aM QW<|aM F<|aM Q3 o8;have CF:=(j.eI W.heap.size).2<|.inr rfl;clear HX HB N B f hR QW Q1 i S o F zy H0 T HW QX E r K j hS;gi_wp2;refine⟨⟨O.alloc _ _ _,λb t=>t.imp (λh=>h) (·.1)⟩,λQw u=>?_⟩;have jJ:Qw.heap[Wr.heap.size]?=U (.cells #[xn,xf,xc,xr,xv] 46 (0,0)):=(u.block _<|by omega).trans<|gI _ _;have c1:Qw.cell? ⟨Wr,1,V⟩=U (.string xf):=M jJ 1;have c4:Qw.cell? ⟨Wr,4,V⟩=U (.string xv):=M jJ 4;obtain⟨K,j⟩:=HI.out;obtain⟨B,f,QW,F,abh,K7⟩:=P6.out;have kb:=λb t=>(u.block b λe=>K7<|e▸t).trans<|dr _ _ _<|Q3 b t;have kA:Bq W W C (.func (.yield l) #[] #[]) Qw D v:=⟨j.eI,j.old,(kb _ CF).trans j.box,bC j.size<|by grind⟩;have vI:=B.st _ _ _ _ K ⟨u.os,u.tape,u.output,by grind,λk hk=>kb k<|(j.eI k).2<|.inl hk⟩;have q1:Qw.cell? W=U (.func (.yield l) #[] #[]):=M kA.box 0;obtain⟨fn,tmps,P,body,hy,nK⟩:=QW G ⟨xn,xf,xc,xr,xv⟩ Qw v ⟨ju,HS.out⟩ vI;have Bo:=X<|RoundIn.inRound l2 nK;have Cm:(Instr.yield l #[xf,xv]).run Q Qw=.ok (.round l fn tmps P body) Qw:=hy;have H2:=X<|aM kA F;gi_wp2;refine Bo.out.mono ?_;rintro e W' Hs;have d:dx<|∀(q:Nat->Prop),bS v Qw q W'->Bq W W C (.func (.yield l) #[] #[]) W' (λb=>q b∨b=W) q∧bS (λb=>D b∨Wr<=b∧b<(Wr.alloc<|.cells #[xn,xf,xc,xr,xv] 46)) Qw (λb=>q b∨b=W) W':=X λq hL=>by obtain⟨f1,f2⟩:=H2.out.1.step H2.out.2 rfl hL;exact⟨f1,f2.shift (O.refl _ _) λb t=>.inl t⟩
   rcases Hs with⟨rfl,q,z,Fa⟩|⟨rfl,q,z,Fa⟩;·have HE:=X<|aM z Fa;gi_wp2;exact⟨_,⟨q,HE.out.1,(d.out _ HE.out.2).1⟩,(d.out _ HE.out.2).2⟩
   ·have HE:=X<|aM z Fa;gi_wp2;exact⟨_,⟨rfl,q,HE.out.1,(d.out _ HE.out.2).1⟩,(d.out _ HE.out.2).2⟩
attribute [local go_sem] Oper.semAt_some
theorem aDF(bp bn p m g)(id)(L)(n)(w)(sI:w.cell? bp=U (.pointer p))(zz:w.cell? bn=U (.string n))(OX:fq w p id m g)(hB:cI w m L)(hL:L.length<=1073741824)(hn:n.size<=4096):aGO Q 67 #[.pointer<|U ⟨bp,0,V⟩,.pointer<|U ⟨bn,0,V⟩] (λx=>#[x.field,x.value]) (λxs=>xs=jC L n) (λb=>b=bp∨b=bn∨b=p∨b=m) w:=by
 intro Q1 Q2 J Jx W B ecf K A f hR T QW;have QX:cI W m L:=hB.of_block (K.block m<|by simp);have Qw:fq W p id m g:=(K.block p<|by simp).trans OX;have aaV:W.cell? ⟨bp,0,V⟩=U (.pointer<|U ⟨p,0,V⟩):=(ew (w:=w)<|K.block bp<|by simp).trans sI;have OR:=(ew (w:=w)<|K.block bn<|by simp).trans zz;have KJ:=Qw.cell.2.1;have lbp:=oU W _ aaV;have lbn:=oU W _ OR;have lp:=Qw.lt;have lm:=QX.lt;have Oh:=Qw.ne QX;have HX:=X<|aM K<|aM A<|aM f<|aM hR<|aM T QW;have HB:=X QX;clear K A f hR T QW QX hB sI zz OX Qw;refine callsIn_of_wp_marks Wl rfl trivial ?_ rfl;simp only[ntmps67,rW,oT,lF,vV,vU,tZ,tY,tX,tW,rV,oV];gi_wp2;obtain⟨S,z⟩:∃S,S=W.alloc (.cells #[.func (.func Q1) #[] Q2] 92):=⟨_,rfl⟩;have e0:S.cell? bp=U (.pointer p):=by rw[z];go_simp
 have e1:S.cell? bn=U (.string n):=by rw[z];go_simp
 have e2:S.cell? ⟨p,1,V⟩=U (.map m):=by rw[z];go_simp
 have HW:=X z;have HC:=X<|Xp m L n S.drew (by rw[z];exact(HB.out.alloc _).of_block rfl) hL hn;rw[<-z];clear z;refine wpIn_mono ?ajp λe a w h=>Zf e a w h;gi_region_with(gi_at_call 68;refine(callsIn_wide.2 HC.out).mono ?_;rintro e v⟨lb,rfl,hx,r⟩);all_goals
  refine tS ?_;have P4:=X<|aM hx r;clear hx r HC e0 e1 e2;gi_wp2;obtain⟨⟨R,QZ,N⟩,C⟩:=P4.out;clear P4;obtain⟨K,A,f,hR,T,QW⟩:=HX.out;have ko:S.heap.size=W+1:=by rw[HW.out];simp
  have lT:S.drew.heap.size=W+1:=ko;have q:aY W W S:=by rw[HW.out];exact(dK _ _).alloc (aQ _) _
  have i:=q.drew.trans (C.mono<|by grind);have P:v.heap[W.heap.size]?=U (.cells #[.func (.func Q1) #[] Q2] 92 (0,0)):=(C.block _<|by grind).trans (by rw[HW.out];exact gI _ _);have ZM:=C.size;rw[lT]at ZM;have l:=A.lt _ _ _ QW;have E:∀b,B b->b≠W:=λb r e=>by grind
  have zy:∀b,B b->b≠m:=by grind
  have H0:tu W W B (.func (.func Q1) #[] Q2) J [] v λb=>B b∨b=W:=⟨B,A.st _ _ _ _ QW<|(O.iH (F:=λ_=>False) i).fJ λb r=>⟨l b r,λh=>h⟩,⟨λb=>x5,λb r=>.inl r,P,i.size⟩⟩;refine wp_rangeFunc (gf:=120) (lb:=lb) rfl (Bd QS rfl<|by decide) QZ (λb r=>(N b r).1) (λ_=>rfl) (tu W.heap.size W B (.func (.func Q1) #[] Q2) J) (λc F W' D=>c=.ret∧tu W.heap.size W B (.func (.func Q1) #[] Q2) Jx F W' D) (tu.owned A) (λc=>⟨λQY w D h b r=>(tu.owned f).lt QY w D h.2 b r,λQY w D w' h ha=>⟨h.1,(tu.owned f).st QY w D w' h.2 ha⟩⟩) (λb=>B b∨b=W.heap.size) (λb r hr=>?wW) H0 ?round ?done ?stop;case wW=>grind
  case done=>
   rintro xs G D Cp⟨u,I,j⟩H hK rq;have hl:=j.left i (aQ _) H;have oB:¬u v:=λh=>rq<|(j.eI _).2<|.inl h;have y:=A.st _ _ _ _ I<|(uM.putObj G v.heap.size<|.deferred V).fJ oB;have uj:bS B W u<|G.putObj v<|.deferred V:=hl.step (O.putObj (F:=λb=>b=v.heap.size) G v.heap.size _ rfl) (λx hx e=>by omega);have d:dx<|J xs (G.putObj v<|.deferred V) u∧bS B W u (G.putObj v<|.deferred V):=by grind
   clear HX HB K A f hR T QW i QZ l E zy H0 I j H hl y uj P HW N C q;gi_wp2;refine⟨by simp,.inl ⟨_,_,rfl,vp hK,?_⟩⟩;exact⟨_,results_none rfl _ _ _,⟨_,rfl⟩,.inl ⟨_,u,Cp,d.out.1,d.out.2⟩⟩
  case stop=>
   rintro c F G D⟨ju,TC⟩⟨rfl,u,I,j⟩H hK rq;have hl:=j.left i (aQ _) H;have oB:¬u v:=λh=>rq<|(j.eI _).2<|.inl h;have y:=f.st _ _ _ _ I<|(uM.putObj G v.heap.size<|.deferred V).fJ oB;have uj:bS B W u<|G.putObj v<|.deferred V:=hl.step (O.putObj (F:=λb=>b=v.heap.size) G v.heap.size _ rfl) (λx hx e=>by omega);have d:dx<|Jx F (G.putObj v<|.deferred V) u∧bS B W u (G.putObj v<|.deferred V):=by grind
   clear HX HB K A f hR T QW i QZ l E zy H0 I j H hl y uj P HW N C q;gi_wp2;refine⟨by simp,.inl ⟨_,_,rfl,vp hK,?_⟩⟩;exact⟨_,results_none rfl _ _ _,⟨_,rfl⟩,.inr ⟨_,u,⟨ju,TC⟩,d.out.1,d.out.2⟩⟩
  case round=>
   rintro l2 F⟨xn,xf,xc,xr,xv⟩Wr D AN vG o8⟨ju,hS⟩j xm;obtain⟨u,I,j⟩:=j;unfold s.val;have Q0:=(tu.owned A).lt F Wr D ⟨u,I,j⟩;have HI:=X<|aM I j;have HS:=X hS;have P6:=X<|aM A<|aM f<|aM T<|aM E<|aM Q0 o8;have CF:=(j.eI W.heap.size).2<|.inr rfl;clear HX HB K A f hR T QW i QZ l E zy H0 P HW N C q I j hS;gi_wp2;refine⟨⟨O.alloc _ _ _,λb r=>r.imp (λh=>h) (·.1)⟩,λQ3 t=>?_⟩;have jJ:Q3.heap[Wr.heap.size]?=U (.cells #[xn,xf,xc,xr,xv] 46 (0,0)):=(t.block _<|by omega).trans<|gI _ _;have c1:Q3.cell? ⟨Wr,1,V⟩=U (.string xf):=M jJ 1;have c4:Q3.cell? ⟨Wr,4,V⟩=U (.string xv):=M jJ 4;obtain⟨I,j⟩:=HI.out;obtain⟨A,f,T,E,abh,K7⟩:=P6.out;have kb:=λb r=>(t.block b λe=>K7<|e▸r).trans<|dr _ _ _<|Q0 b r;have kA:Bq W W B (.func (.func Q1) #[] Q2) Q3 D u:=⟨j.eI,j.old,(kb _ CF).trans j.box,bC j.size<|by grind⟩;have vI:=A.st _ _ _ _ I ⟨t.os,t.tape,t.output,by grind,λk hk=>kb k<|(j.eI k).2<|.inl hk⟩;have q1:Q3.cell? W=U (.func (.func Q1) #[] Q2):=M kA.box 0;have nK:=T F ⟨xn,xf,xc,xr,xv⟩ Q3 u ⟨ju,HS.out⟩ vI;have Bo:=X<|CallsIn.inRound l2 nK;have H2:=X<|aM kA E;gi_wp2;refine Bo.out.mono ?_;rintro e W' Hs;have d:dx<|∀(o:Nat->Prop),bS u Q3 o W'->Bq W W B (.func (.func Q1) #[] Q2) W' (λb=>o b∨b=W) o∧bS (λb=>D b∨Wr<=b∧b<(Wr.alloc<|.cells #[xn,xf,xc,xr,xv] 46)) Q3 (λb=>o b∨b=W) W':=X λo hL=>by obtain⟨f1,f2⟩:=H2.out.1.step H2.out.2 rfl hL;exact⟨f1,f2.shift (O.refl _ _) λb r=>.inl r⟩
   rcases Hs with⟨rfl,o,y,Fa⟩|⟨rfl,o,y,Fa⟩;·have HE:=X<|aM y Fa;gi_wp2;exact⟨_,⟨o,HE.out.1,(d.out _ HE.out.2).1⟩,(d.out _ HE.out.2).2⟩
   ·have HE:=X<|aM y Fa;gi_wp2;exact⟨_,⟨rfl,o,HE.out.1,(d.out _ HE.out.2).1⟩,(d.out _ HE.out.2).2⟩
attribute [local go_sem] Oper.semAt_some
theorem aDD(p)(n)(w):bz Q 44 #[aF<|U ⟨p,0,V⟩,aE n] w λe a=>e=bj (dF (ei 67) #[] #[aF w,aF<|U ⟨w+1,0,V⟩])/\a=(w.alloc<|aH #[aF p] 77).alloc (aH #[n] 9):=by go_enter apX,ntmps44;go_wp2;go_ret;exact⟨rfl,rfl⟩
theorem aDi(l)(x):lJ (l++[x])=lJ l++[x.field,x.value]:=by simp[lJ]
structure Vv(N:Nat)(pre:List s)(W:ax)(D:Nat->Prop)(v:az):Prop where acc:kW W N 51 9 1 v (2*pre.length) ((lJ pre).map aE)ok:W.heap[N+1]?=U (aH #[cx Z] 4 (0,0))eI:D=λb=>rE N v b\/b=N+1
theorem Vv.owned(N):qM λa W D=>∃v,Vv N a W D v:=⟨λa W D⟨v,h⟩b c=>by
  rw[h.eI]at c;rcases c with c|rfl;.exact h.acc.lt b c
  .exact(eX.1 h.ok).1,λa W D e⟨v,h⟩d=>⟨v,h.acc.fJ λb c=>d.block b<|by rw[h.eI];grind,(d.block _<|by rw[h.eI];grind).trans h.ok,h.eI⟩⟩
def Mb(bo bn bk bl:Nat)(F:List s)(lv:az)(E:Nat->Prop)(last:Bool)(pre:List s)(W:ax)(D:Nat->Prop):Prop:=∃no k,P7 bo bn bk bl Z no k lv W/\(last=ai->no=ai/\k=(2*pre.length:Nat))/\wc W lv (lJ F)/\D=E
theorem Mb.owned{r n s bl}{F}{o}{q}(c:∀b,q b↔b=r\/b=n\/b=s\/b=bl\/o.ownBlock=U b)(f):qM<|Mb r n s bl F o q f:=⟨λi W D⟨p,k,h,_,j,e⟩b m=>by
  subst e;rcases(c b).1 m with rfl|rfl|rfl|rfl|m;.exact(eX.1 h.ok).1
  .exact(eX.1 h.no).1
  .exact(eX.1 h.k).1
  .exact(eX.1 h.l).1
  .exact(World.ownsRow.lt j b m).2,λi W D v⟨p,k,h,t,j,e⟩d=>by subst e;exact⟨p,k,⟨(d.block _<|(c _).2<|ay rfl).trans h.ok,(d.block _<|(c _).2<|aB<|ay rfl).trans h.no,(d.block _<|(c _).2<|aB<|aB<|ay rfl).trans h.k,(d.block _<|(c _).2<|aB<|aB<|aB<|ay rfl).trans h.l⟩,t,dB j λg u=>d.block g<|(c g).2<|aB<|aB<|aB<|aB u,rfl⟩⟩
theorem auH(i f j bl B z p m I)(id)(L)(n)(o)(_W0 W:ax)(t)(D:∀b,t b↔b=i∨b=f∨b=j∨b=bl∨o.ownBlock=U b)(C:W.cell? ⟨B,0,V⟩=U (aF<|U ⟨p,0,V⟩))(E:W.cell? ⟨z,0,V⟩=U (aE n))(Q1:fq W p id m I)(P:cI W m L)(a:L.length<=1073741824)(Q2:n.size<=4096)(N:(jC L n).length<=1000000)(T:i≠f∧i≠j∧i≠bl∧f≠j∧f≠bl∧j≠bl)(TN:∀b,o.ownBlock=U b->b≠i∧b≠f∧b≠j∧b≠bl)(w:∀b,t b->¬(b=B∨b=z∨b=p∨b=m))(H:P7 i f j bl Z ai 0 o W)(hs:wc W o<|lJ<|jC L n):bz Q 67 #[dF (ei 45) #[] #[aF i,aF f,aF j,aF bl],aF B,aF z] W λe q=>(∃v,e=bj v)∧(∃s k,P7 i f j bl Z s k o q)∧wc q o (lJ<|jC L n)∧O t W q:=by
 obtain⟨F,G⟩:=ex<|jC L n;have y:=aDF B z p m I id L n W C E Q1 P a Q2;rw[<-G]at y hs N⊢;have S:=y 45 #[aF<|U i,aF<|U f,aF<|U j,aF<|U bl] (Mb i f j bl F o t ai) (Mb i f j bl F o t Z) W t (Bd adG rfl<|by decide) ⟨rfl,rfl,rfl,aQ _,λ_ _=>rfl⟩ (Mb.owned D ai) (Mb.owned D Z) w ?_ ⟨ai,0,H,λ_=>⟨rfl,rfl⟩,hs,rfl⟩
 ·refine callsIn_wide (n:=0).1<|S.mono ?_;rintro e q⟨J,(⟨xs,Q3,_,⟨s,k,h,_,c,rfl⟩,d⟩|⟨l,Q3,_,⟨s,k,h,_,c,rfl⟩,d⟩)⟩;·exact⟨J,⟨s,k,h⟩,c,d.1⟩
  ·exact⟨J,⟨s,k,h⟩,c,d.1⟩
 ·rintro l x QW A⟨ju,hS⟩⟨s,k,h,Q0,r,rfl⟩;obtain⟨rfl,rfl⟩:=Q0 rfl;have X:l.length<F.length:=by grind
  have R:F[l.length]=x:=by grind
  have:=aDE i f j bl F l.length X N o QW h r T;rw[R]at this;refine(callsIn_wide.2 this).mono ?_;rintro e q⟨rfl,M,u⟩;have c:wc q o<|lJ F:=dB r λg hg=>u.block g (World.ownsRow.lt r g hg).2 (by grind);have d:bS A QW A q:=⟨u.mono λb _ K=>(D b).2<|by grind,λb K=>ay K⟩;by_cases hle:2*l.length+2<=F.length;·exact ay ⟨by grind,A,⟨_,_,M,λ_=>⟨by grind,by simp⟩,c,rfl⟩,d⟩
  ·exact aB ⟨by grind,A,⟨_,_,M,λh=>Bool.noConfusion h,c,rfl⟩,d⟩
theorem UD(pw)(lv)(R)(i:Nat)(hi)(id)(m g0)(L)(n)(w)(hW:rF w pw lv R)(EM:R.length<=1000000)(P:fq w R[i] id m g0)(c:cI w m L)(hL:L.length<=500000)(hn:n.size<=4096):bz Q 27 #[aF pw,i,aE n] w λe w'=>∃v,e=bj (bQ #[v,Z])∧w'.ownsRow w 9 1 v (lJ<|jC L n).length ((lJ<|jC L n).map aE)∧aY w w w':=by
 obtain⟨gs,T,hv,t,hci⟩:=hW.cell hi;subst hv;obtain⟨p,hp⟩:=ex R[i];rw[<-hp]at P hci;have wZ:w.cell? pw=U (aC gs R.length T):=M hW.box 0;have aI2:=(eX.1 hW.box).1;obtain⟨i0,hi9,TB,Ct,EL⟩:=tT Cj;have OE:(i:Int)<(R.length:Int):=by omega
 have Cu:=P.lt;have zu:=c.lt;have HB:=cH.mk P c;clear P c hW hp;refine callsIn_wide (n:=0).1<|callsIn_of_wp_marks aqb rfl trivial ?_ rfl;simp only[ntmps27,rW,oT,lF,vV,vU,tZ,tY,tX,tW,rV,oV];gi_wp2_with(gi_at_call 44;refine(callsIn_wide.2<|aDD p n _).mono ?_;rintro e w1⟨rfl,Q0⟩;have Q2:=X Q0;clear Q0);obtain⟨P,c⟩:=HB;have E:aY w w w1:=by rw[Q2.out];exact((((dK _ _).alloc (aQ _) _).alloc (by simp) _).alloc (by simp;omega) _).alloc (by simp;omega) _
 have ko:w1.heap.size=w+4:=by rw[Q2.out];simp
 have hbl:w1.heap[w.heap.size]?=U (aH #[aC V 0 0] 51 (0,0)):=by rw[Q2.out];simp only[qF];grind
 have hbo:w1.heap[w.heap.size+1]?=U (aH #[Z] 4 (0,0)):=by rw[Q2.out];simp only[qF];grind
 have sI:w1.cell? ⟨w+1+1,0,V⟩=U (aF p):=by rw[Q2.out];go_simp
 have zz:w1.cell? ⟨w+1+1+1,0,V⟩=U (aE n):=by rw[Q2.out];go_simp
 have Q1:fq w1 p id m g0:=(E.block p Cu).trans P;have o9:=c.below E;have hSl:(jC L n).length<=500000:=by refine bC (AE _ _) ?_;unfold ep;rw[Cb,Js];exact bC (AE _ _)<|by grind
 refine wp_rangeFunc (gf:=67) (lb:=#[aF<|U ⟨w.heap.size+1+1,0,V⟩,aF<|U ⟨w.heap.size+1+1+1,0,V⟩]) rfl (Bd Wl rfl<|by decide) (aDG (w.heap.size+1+1) (w.heap.size+1+1+1) p m g0 id L n w1 sI zz Q1 o9 (by omega) hn) λb d=>by grind (λ_=>rfl) (λz W D=>∃v,Vv w.heap.size z W D v) (λ_ _ _ _=>False) (Vv.owned _) (λ_=>⟨λ_ _ _ h=>h.elim,λ_ _ _ _ h=>h.elim⟩) (λb=>rE w.heap.size (aC V 0 0) b∨b=w.heap.size+1) (λb d=>?wW) ⟨_,⟨hbl,mL _ _ _ _⟩,hbo,rfl⟩ ?round ?done ?stop;case wW=>
  rcases d with(rfl|d)|rfl;·grind
  ·cases d
  grind
 case stop=>grind
 case round=>
  rintro l z⟨xn,xf,xc,xr,xv⟩W D AN vG o8⟨ju,hS⟩⟨v,S⟩xm;have hlen:z.length+1<=500000:=by grind
  have HI:=X S;have hd:=S.eI;subst hd;gi_wp2;refine⟨⟨.refl _ _,λb d=>d.imp (λh=>h) (·.1)⟩,λW2 A=>?_⟩;have kb:=λb d=>A.block b λe=>o8<|e▸d;have o:=HI.out.acc.fJ λb d=>kb b<|ay d;have I:=(kb _<|aB rfl).trans HI.out.ok;obtain⟨hc,hf⟩:=o.cell;have f:=o.row;have hN2:=o.lt _<|ay rfl;have HA:=X o;have HOk:=X I;gi_wp2_with(gi_at_builtin;go_must(refine Ze _ rfl _ _ 51 rfl (w.heap.size+1) 9 i0 (aE ⟨#[]⟩) 1 16 By hi9 TB Ct EL rfl (by decide) v (2*z.length) ((lJ z).map aE) rfl (f.alloc _) ⟨W2.heap.size,0,V⟩ 2 2 [aE xf,aE xv] rfl rfl (BY (by grind) _ _ rfl) (by simp[A5]) (by unfold vQ;omega) (by omega) (by simp;omega) ?_);intro v' w3 TE C _ lI;refine Halt.of ?_);obtain⟨g',Dc,zk⟩:=Ca TE;have hnb:w≠v.ownBlock:=λe=>by have:=(f.lt _ e.symm).1;omega
  have s:U (w.heap.size+1)≠v.ownBlock:=λe=>by
   obtain⟨K,QW⟩:=f;rcases QW with⟨rfl,_⟩|⟨g,cap,cur,rfl,_,t,_⟩;·cases e
   ·simp only[Fz,dX]at e;subst e;rw[HOk.out]at t;cases t
  have um:=(ew (w:=W2.alloc<|aH #[aE xf,aE xv] 9)<|C.block _ (by simp;omega) hnb).trans<|(ew (w:=W2)<|dr _ _ _ hN2).trans hc;have OK:=(Ev (w:=W2.alloc<|aH #[aE xf,aE xv] 9)<|C.block _ (by simp;omega) hnb).trans<|(Ev (w:=W2)<|dr _ _ _ hN2).trans hf;have aA3:=X<|(C.block _ (by simp;omega) s).trans<|(dr _ _ _ (eX.1 I).1).trans HOk.out;subst zk;unfold Halt;gi_wp2;obtain⟨K,QW⟩:=(X<|kW.appended (kW.fJ HA.out λb d=>dr _ _ _<|kW.lt HA.out b d) C TE lI).out;refine⟨_,⟨_,⟨by rw[aDi,wU,kM];exact K,(gJ _ _ _ _<|by simp).trans aA3.out,rfl⟩⟩,?_⟩;have h3:=QW.shift (O.alloc (λ_=>False) W2<|aH #[aE xf,aE xv] 9) (E:=λb=>(rE w.heap.size v b∨b=w.heap.size+1)∨W.heap.size<=b∧b<W.heap.size) λ_ h=>ay<|ay h;refine⟨h3.1,λb d=>?_⟩;rcases d with d|d;·exact h3.2 b d
  grind
 case done=>
  rintro xs W D Cp⟨v,S⟩F hK rq;subst Cp;have hd:=S.eI;subst hd;have hKl:=(eX.1 hK).1;have mP:=S.ok;obtain⟨aB9,f⟩:=S.acc;have hWz:=F.1.size;obtain⟨W2,r⟩:=ex<|(W.alloc<|aH #[Y aG 0] 3).alloc<|aH #[cx ai] 4;have u:aY W W W2:=by rw[r];exact((dK _ _).alloc (aQ _) _).alloc (by simp) _
  have lT:W2.heap.size=W+2:=by rw[r];simp
  have EW:W2.heap[W.heap.size]?=U (aH #[Y aG 0] 3 (0,0)):=by grind[Below.heap_alloc,World.alloc_heap_new]
  have zo:W2.heap[W.heap.size+1]?=U (aH #[ai] 4 (0,0)):=by grind[World.alloc_heap_new,World.size_alloc]
  have G:∀g,v.ownBlock=U g->w<g∧g<W∧(g=w+1∨w+4<=g):=λg t=>by
   have K:=f.lt g t;refine⟨by omega,K.2,?_⟩;rcases F.2 g (ay<|aB t)with((h|h)|h)|h;·omega
   ·cases h
   all_goals grind
  have J:∀g,v.ownBlock=U g->g≠w+1:=λg t e=>by
   obtain⟨K,QW⟩:=f;rcases QW with⟨rfl,_⟩|⟨g',cap,cur,rfl,_,C,_⟩;·cases t
   ·simp only[Fz,dX]at t;grind
  have j:∀b,b<w1.heap.size->b≠w->b≠w+1->W2.heap[b]?=w1.heap[b]?:=λb d h0 K=>(u.block b<|by omega).trans (F.1.block b d<|by rintro((h|h)|h);exact h0 h;cases h;grind);have N:=auH (w.heap.size+1) (W.heap.size+1) W.heap.size w.heap.size (w.heap.size+1+1) (w.heap.size+1+1+1) p m g0 id L n v w W2 (λb=>b=w.heap.size+1∨b=W.heap.size+1∨b=W.heap.size∨b=w.heap.size∨v.ownBlock=U b) (λb=>x5) ((ew (w:=w1) (a:=⟨_,_,V⟩)<|j _ (by grind) (by grind)<|by grind).trans sI) ((ew (w:=w1) (a:=⟨_,_,V⟩)<|j _ (by grind) (by grind)<|by grind).trans zz) ((j p (by omega) (by omega)<|by omega).trans Q1) (o9.of_block<|j m (by omega) (by omega)<|by omega) (by omega) hn (by omega) ⟨by omega,by omega,by omega,by omega,by omega,by omega⟩ λb d=>by have K:=G b d;have QW:=J b d;omega λb d=>by
    rcases d with rfl|rfl|rfl|rfl|d;·rintro(h|h|h|h)<;>omega
    ·rintro(h|h|h|h)<;>omega
    ·rintro(h|h|h|h)<;>omega
    ·rintro(h|h|h|h)<;>omega
    ·have K:=G b d;have QW:=J b d;rintro(h|h|h|h)<;>omega ⟨(u.block _<|by omega).trans mP,zo,EW,(u.block _<|by omega).trans aB9⟩ (wc.JW<|by rw[abr];exact dB f λg t=>u.block g (f.lt g t).2);have y:=(F.below E λb d=>by rcases d with(h|h)|h;omega;cases h;omega).trans (u.mono<|by omega);have q:=(u.block _ hKl).trans hK;have H:v.ownBlock≠w1:=λe=>rq<|ay<|aB e;rw[ko]at q H;have HC:=X N;have aJW:w.heap.size+4<W:=by omega
  rw[r]at HC;gi_wp2_with(gi_at_call 67;refine(callsIn_wide.2 HC.out).mono ?_;rintro e W3⟨⟨rv,rfl⟩,⟨no,k,h45⟩,Q3,B⟩;refine Halt.of ?_);have e0:W3.cell? w=v:=M h45.l 0;have e1:W3.cell? ⟨w+1,0,V⟩=U (cx Z):=M h45.ok 0;unfold Halt;gi_wp2;refine wpIn_mono ?ajp λe a w h=>Zf e a w h;gi_region_with(fail);all_goals
   refine tS ?_;gi_wp2;obtain⟨Q3,B⟩:=(X<|aM Q3 B).out;obtain⟨y,q,H,G,r⟩:=(X<|aM y<|aM q<|aM H<|aM G r).out;rw[<-r]at B;have lT:W2.heap.size=W+2:=by rw[r];simp
   refine⟨by simp,ay ⟨_,_,rfl,vp<|(B.block _ (eX.1 q).1<|by grind).trans q,?_⟩⟩;refine⟨_,results_tmp2 rfl _ _ _,v,rfl,?_,?_⟩;·exact dB (BP (w:=W3.drew) Q3 λg t=>by grind) λg t=>qX λe=>H<|e▸t
   ·refine IL (FG y (B.trans<|O.drew _ _) λx hx e=>?_) (by omega) _;grind
def IU(w:ax)(v:az)(l:List s):Prop:=w.ownsRow 0 46 5 v l.length<|rows l
theorem IU.cell{w}{v}{l}(h:IU w v l){j}(f):∃g c,v=aC (U ⟨g,0,V⟩) l.length c/\g<w/\w.cell? ⟨g,j*5,V⟩=U (aE l[j].name)/\w.cell? ⟨g,j*5+1,V⟩=U (aE l[j].field)/\w.cell? ⟨g,j*5+2,V⟩=U (Y aG l[j].c)/\w.cell? ⟨g,j*5+3,V⟩=U (Y aG l[j].r)/\w.cell? ⟨g,j*5+4,V⟩=U (aE l[j].value):=by
 obtain⟨q,e⟩:=h;rcases e with⟨_,e⟩|⟨g,c,o,k,_,d,p,_,_,m⟩;.omega
 .have b:∀i,i<5->w.cell? ⟨g,j*5+i,V⟩=l[j].cells[i]?:=λi n=>by have:=M d<|j*5+i;rw[this,<-afA f i n,<-m,aij<|by omega];simp
  exact⟨g,c,k,(eX.1 d).1,b 0<|by omega,b 1<|by omega,b 2<|by omega,b 3<|by omega,b 4<|by omega⟩
attribute [local go_sem] Oper.semAt_some
theorem aiV:(Q.info? 46).map (λi=>(i.zero,i.size,i.bytes))=U (U<|bO #[aE ⟨#[]⟩,aE ⟨#[]⟩,Y aG 0,Y aG 0,aE ⟨#[]⟩],5,64):=by kernel_rfl
theorem azG:(Q.info? 77).map (λi=>(i.zero,i.size,i.bytes))=U (U<|aF V,1,8):=by kernel_rfl
theorem rF.ne{w}{b}{c}{f}(h:rF w b c f):c.ownBlock≠b:=λe=>by
 obtain⟨l,j⟩:=h.row;rcases j with⟨rfl,_⟩|⟨g,i,k,rfl,_,d,_⟩;.cases e
 .have:g=b:=by simpa[Fz]using e
  subst this;rw[h.box]at d;cases d
def wK(l:List s)(id:Int)(n f v:ByteArray):List s×Int×ByteArray:=if ld n 8 then if ld f 4 then if 20<v.size then(l,3,v)else(Mq l ⟨n,f,gP l+1,id,v⟩,0,⟨#[]⟩)else(l,2,f)else(l,1,n)
def xx(l:List s)(id:Int)(n:ByteArray):List s×Int×ByteArray:=if ld n 8 then if(qD l n).isEmpty then(l,4,n)else(Mq l ⟨n,⟨#[]⟩,gP l+1,id,⟨#[]⟩⟩,0,⟨#[]⟩)else(l,1,n)
def tH(c:Int)(n:Nat):Nat:=((if c<0 then-(c+1)else c)%n).toNat
theorem Sa{c}{n}(h:0<n):tH c n<n:=by unfold tH;have a:=Zd (if c<0 then-(c+1)else c) (show(0:Int)<n by omega);grind
end
end Go.Proofs.YtpdbmpbmepkikaaGreatDoor
set_option maxRecDepth 100000
namespace Go.Proofs.YtpdbmpbmepkikaaGreatDoor
section
open Go.RowKit
theorem XH{w:ax}{m e i n:Nat}{v}{xs}(h:w.ownsRow m e i v n xs){b}(c:v.ownBlock=U b):∃a,w.heap[b]?=U (aH a e (0,0)):=by
 rcases h.2 with⟨rfl,_⟩|⟨g,d,a,rfl,_,f,_⟩;.cases c
 .simp only[Fz,dX]at c;grind
theorem amP{w:ax}{a b:Nat}{c d}{t u:Nat}{r s}(e:w.heap[a]?=U (aH c t r))(f:w.heap[b]?=U (aH d u s))(h:t≠u):a≠b:=by grind
variable {N K:Nat} {w w':ax} {x pw:Nat} {pv qv:az}
theorem azB(l)(x):(ins l x).length<=l.length+1:=by induction l with|nil=>simp[ins]|cons y l a=>grind[ins]
theorem PO{l}{k}(a:0<=k)(h:∀y∈l,y.c<=k):gP l<=k:=by grind[amL]
theorem WK{s}{k}(h:ld s k=Z):yV s=Z/\s.size≠0/\s.size<=k:=by simp only[ld,cG,eU]at h;grind
structure vZ(K:Nat)(L l:List s):Prop where
 bk:Bk L l
 len:l.length<=K
 cnt:∀y∈l,0<=y.c/\y.c<=K/\ij y.r
theorem vZ.more{K'}{L l}(h:vZ K L l)(c:K<=K'):vZ K' L l:=⟨h.bk,bC h.len c,λy b=>⟨(h.cnt y b).1,by have:=(h.cnt y b).2.1;omega,(h.cnt y b).2.2⟩⟩
theorem vZ.take{L l}(h:vZ K L l){n f v}{id}(hid:ij id)(c:Good ⟨n,f,gP l+1,id,v⟩):vZ (K+1) (fE L ⟨n,f,gP L+1,id,v⟩)<|Mq l ⟨n,f,gP l+1,id,v⟩:=by
 rw[Mp h.bk.sorted,h.bk.clock];have e:=PO (by omega) λy b=>(h.cnt y b).2.1;have d:=ab8 l;refine⟨h.bk.take c,bC (azB _ _)<|by have:=h.len;omega,λy b=>?_⟩;rcases GZ b with rfl|b;.grind
 .exact⟨(h.cnt y b).1,by have:=(h.cnt y b).2.1;omega,(h.cnt y b).2.2⟩
theorem vZ.put{L l}(h:vZ K L l){id}(hid:ij id)(n f v):vZ (K+1) (og L id n f v).1 (wK l id n f v).1/\(og L id n f v).2=(wK l id n f v).2:=by unfold og wK;cases b:ld n 8 with|false=>exact⟨h.more<|by omega,rfl⟩|true=>cases e:ld f 4 with|false=>exact⟨h.more<|by omega,rfl⟩|true=>
   by_cases h3:20<v.size;.simp only[h3,gL];exact⟨h.more<|by omega,trivial⟩
   .simp only[h3,gL,ox];obtain⟨i,d,g⟩:=WK b;obtain⟨a,j,c⟩:=WK e;exact⟨h.take hid ⟨i,d,g,a,c,by grind⟩,trivial⟩
theorem vZ.delete{L l}(h:vZ K L l){id}(hid:ij id)(n):vZ (K+1) (rA L id n).1 (xx l id n).1/\(rA L id n).2=(xx l id n).2:=by unfold rA xx;cases a:ld n 8 with|false=>exact⟨h.more<|by omega,rfl⟩|true=>rw[h.bk.shown];cases e:(qD l n).isEmpty with|true=>simp only[gL];exact⟨h.more<|by omega,trivial⟩|false=>simp only[gL];obtain⟨c,b,d⟩:=WK a;exact⟨h.take hid ⟨c,b,d,rfl,lP _,lP _⟩,rfl⟩
def Bi(g e size:Nat)(W:ax):Prop:=∃cur,W.heap[g]?=U (aH cur e (0,0))/\size<=cur.size
theorem Bi.cell{g e a}{W}(h:Bi g e a W){j}(f:j<a):∃u,W.cell? ⟨g,j,V⟩=U u:=by obtain⟨b,c,d⟩:=h;exact⟨b[j]'(by omega),by rw[M c j];simp⟩
theorem Bi.frozen{g e a}{W}(h:Bi g e a W)(j):W.frozen? ⟨g,j,V⟩=ai:=by obtain⟨b,d,c⟩:=h;grind[Joins.unfrozen_of_block]
theorem Bi.set{g e a}{W}(h:Bi g e a W)(j)(v):Bi g e a<|W.setCell ⟨g,j,V⟩ v:=by obtain⟨b,c,d⟩:=h;refine⟨b.setIfInBounds j v,?_,by grind⟩;simp only[jL,zf,c,ee,gL];rfl
theorem ahj(W)(lv)(F)(i:Nat)(hi)(id)(m g0)(L)(pfx)(w)(hW:rF w W lv F)(EM:F.length<=1000000)(c:fq w F[i] id m g0)(hB:cI w m L)(hL:L.length<=1000000)(hn:∀x∈L,x.name.size<=4096):bz Q 29 #[aF W,i,aE pfx] w λe w'=>∃v t,e=bj v∧t.Nodup∧(∀n,n∈t↔∃y∈L,y.name=n)∧w'.ownsRow w 9 1 v ((gy t).filter λn=>preB pfx n&&!(jC L n).isEmpty).length (((gy t).filter λn=>preB pfx n&&!(jC L n).isEmpty).map aE)∧aY w w w':=by
 obtain⟨gs,I,hv,hg,K⟩:=hW.cell hi;subst hv;obtain⟨p,hp⟩:=ex F[i];rw[<-hp]at c K;have wZ:w.cell? W=U (aC gs F.length I):=M hW.box 0;obtain⟨i0,P,qy,Q1,S⟩:=tT Cj;have HC:=X<|axq p id m g0 L pfx w c hB hL hn;have OE:(i:Int)<(F.length:Int):=by omega
 clear c hB hn hW hp;go_enter ap6,ntmps29;go_wp2_with(go_at_call 47;refine HC.out.mono ?_;rintro e R⟨v,t,rfl,f,d,ho,G⟩;refine Halt.of ?_);obtain⟨N,D⟩:=ex<|(gy t).filter λn=>preB pfx n&&!(jC L n).isEmpty;rw[<-D]at ho;have hNl:N.length<=1000000:=by have h1:=f.length_le_of_subset (l₂:=L.map (·.name)) (λa ha=>by grind);grind[gy,List.length_filter_le,Js]
 have T:=uJ.mk f d D G;have NU:=G.size;clear f d D G HC wZ K;rcases ho.2 with⟨rfl,h0⟩|⟨g,Q2,C,rfl,hgb,J,hnc,Hw,iv,hct⟩
 ·have K4:=Cc h0;subst K4;unfold Halt;go_wp2_with(at_builtin;go_must(refine wpList_append_own_none rfl _ _ 51 rfl w 9 i0 1 By P (aC V 0 0) 0 [] rfl (mL _ _ _ _) rfl ?_));go_loopg[23]0λk s QW=>s=Y aG 0∧QW=R;case atStart=>grind
  case round=>obtain⟨rfl,rfl⟩:=hrel;go_wp2;go_ret;obtain⟨f,d,D,G⟩:=kp T;refine⟨_,t,rfl,f,d,?_,G⟩;rw[<-D];exact mL _ _ _ _
 ·have E:∀j u,(N.map aE)[j]?=U u->R.cell? ((g:eF).add j)=U u:=λj u h=>by
   have e:(g:eF).add j=⟨g,j,V⟩:=by unfold Addr.add;grind
   grind[List.getElem?_eq_some_iff,Joins.cell_of_block,List.getElem?_take_of_lt]
  have QX:∀u∈N.map aE,u.oneCell'=Z:=λu hu=>by obtain⟨x,_,rfl⟩:=ki.1 hu;rfl
  have KX:N.length<=vQ:=by grind
  have Q3:dx<|Bi g 9 N.length R:=X ⟨C,J,by omega⟩;have z:=cH.mk E QX;unfold Halt;go_wp2_with(at_builtin;go_must(refine SS _ rfl _ _ 51 rfl R 9 i0 (aE ⟨#[]⟩) 1 16 By P qy Q1 S rfl (by decide) (aC V 0 0) 0 [] rfl (mL _ _ _ _) g N.length Q2 (N.map aE) rfl (by simp) z.a z.b (by omega) (by omega) (aQ _) ?_);intro v5 w5 l o _ Q0;refine Halt.of ?_);have hS5:Bi g 9 N.length w5:=by obtain⟨C,h1,h2⟩:=Q3.out;exact⟨C,(o.block g (eX.1 J).1<|by simp[Fz]).trans h1,h2⟩
  have A:v5.ownBlock≠g:=λe=>by
   rcases Q0 with h|h;·rw[h]at e;simp[Fz]at e
   grind
  rw[vg,rV]at l;have B:=(T.d).trans ⟨o.os,o.tape,o.output,o.size,λk H=>o.block k (by omega)<|by simp[Fz]⟩;unfold Halt;go_wp2;go_loopg[23]N.lengthλk s QW=>∃j:Nat,s=j∧k+j=N.length∧Bi g 9 N.length QW∧O (λb=>b=g) w5 QW;case atStart=>exact⟨0,rfl,by omega,hS5,.refl _ _⟩
  case round=>
   obtain⟨j,rfl,H,r,QY⟩:=hrel;by_cases hj:j<N.length
   ·obtain⟨u,hu⟩:=r.cell hj;have hf:=r.frozen j;have q:=cH.mk r QY;go_wp2;go_roundg(gk-1);case rel=>exact⟨j+1,by go_simp,by omega,q.a.set j _,q.b.trans<|O.setCell _ _ _ rfl⟩
    grind
   ·have kP:j=N.length:=by omega
    subst kP;have q:=cH.mk r QY;go_wp2;go_ret;obtain⟨f,d,D,G⟩:=T;obtain⟨l,A,B⟩:=(X<|aM l<|aM A B).out;refine⟨_,t,rfl,f,d,?_,FG B q.b λx hx e=>by omega⟩;rw[<-D];exact dB (BP l λk H=>by have:=(l.lt k H).1;omega) λk H=>q.b.block k (l.lt k H).2 λe=>A<|e▸H
end
end Go.Proofs.YtpdbmpbmepkikaaGreatDoor
set_option maxRecDepth 100000
namespace Go.Proofs.YtpdbmpbmepkikaaGreatDoor
section
open Go.RowKit
theorem IU.cases{w}{v}{l}(h:IU w v l):∃b a,v=aC b l.length a:=by obtain⟨d,c⟩:=h;grind
theorem af0{x}(h:Fit x):(gU x).length<=12400:=by have f:=BA x.name (by have:=h.name;omega);have e:=BA x.field (by have:=h.field;omega);have b:=BA x.value (by have:=h.value;omega);have d:=yT<|F7 h.c;have g:=yT<|F7 h.r;have:=h.name;have:=h.field;have:=h.value;grind[gU,List.length_append]
theorem avw{l:List s}(h:∀x∈l,Fit x):(l.flatMap gU).length<=12400*l.length:=by induction l with|nil=>simp|cons x l a=>grind[af0,List.length_append,List.length_cons]
theorem ayn(N)(v R)(l)(F)(w)(h:dy N w v l)(hN:N<=w)(t:IU w R F)(C:∀b,de v b->R.ownBlock≠b)(D:∀x∈F,Fit x)(hl:l.length<=274877906944)(hz:F.length<=600000):bz Q 163 #[v,R,dF (ei 164) #[] #[]] w λe Q1=>∃m,e=bj m/\dy N Q1 m (l++cZ gU F)/\bS (de v) w (de m) Q1:=by
 obtain⟨ad,cap,rfl⟩:=t.cases;have hcv:cP.wrap (F.length:Int)=(F.length:Int):=by grind[IntKind.wrap_u64]
 have S:=X (Gy N v l F.length w h hN (by omega)<|by omega);have Q3:=yT (n:=F.length) (by omega);have E:∀g y,ad=U ⟨g,y,V⟩->g<w:=λg y e=>by subst e;rcases t.2 with⟨h,_⟩|⟨g',B,cur,M,_,hg,_⟩;all_goals grind
 have HLt:=X E;go_enter aqx,ntmps163;go_wp2_with(go_at_call 199;go_must(refine S.out.mono ?_);rintro e w1⟨v1,rfl,QY,Q0⟩;have G:=cH.mk QY Q0;refine Halt.of ?_);unfold Halt;go_wp2;go_loopg[0,16]F.lengthλQZ s0 J wr=>∃(d:az)(j:Nat),d=s0/\J=Y aG j/\QZ+j=F.length/\dy N wr d (l++k F.length++(F.take j).flatMap gU)/\bS (de v) w (de d) wr;case atStart=>exact⟨v1,0,rfl,rfl,by omega,by simpa using G.a,G.b⟩
 case round=>
  obtain⟨d,j,rfl,rfl,hk,u,z⟩:=hrel;by_cases hj:j<F.length
  .obtain⟨t,C,D⟩:=(X<|aM t<|aM C D).out;obtain⟨g,B,M,hg,Q2,L,H,T,I⟩:=t.cell hj;simp only[wQ]at M;obtain⟨rfl,-,rfl⟩:=M;have A:=λi=>ew (w:=w) (a:=⟨g,i,V⟩)<|z.1.block g hg λe=>C g e rfl;rw[<-A]at Q2 L H T I;have a:(l++k F.length++(F.take j).flatMap gU).length<=549755813888:=by grind[avw,List.mem_of_mem_take,List.length_take,List.length_append]
   have p:(F.take<|j+1).flatMap gU=(F.take j).flatMap gU++gU F[j]:=by rw[wS,mq hj,B9,List.flatMap_append];grind
   have o:=D F[j]<|nC hj;obtain⟨x,hx⟩:=ex F[j];rw[<-hx]at Q2 L H T I p o;have ga:=z.1.size;obtain⟨n,f,c,r,s⟩:=x;simp only at Q2 L H T I;have S:dx<|∀W,dy N W d (l++k F.length++(F.take j).flatMap gU)->N<=W->bz Q 164 #[d,bO #[n,f,c,r,s]] W λe W'=>∃m,e=bj m/\dy N W' m (l++k F.length++(F.take j).flatMap gU++gU ⟨n,f,c,r,s⟩)/\bS (de d) W (de m) W':=X λW hW QX=>avx N d _ ⟨n,f,c,r,s⟩ W hW QX o a;have oC:(j:Int)<(F.length:Int):=by omega
   have q:=gR.mk u z p;clear u z p o hx A a C D t G;go_wp2_with(go_at_call 164;go_must(refine(S.out _ (q.a.alloc _)<|by simp;omega).mono ?_);rintro e w5⟨v5,rfl,K,QW⟩;have H5:=cH.mk K QW;refine Halt.of ?_);unfold Halt;go_wp2;go_roundg(gk-1);case rel=>exact⟨v5,j+1,rfl,by go_simp,by omega,by rw[q.c,<-jw];exact H5.a,q.b.trans<|bS.trans ⟨O.alloc _ _ _,λb u=>ay u⟩ H5.b⟩
   grind
  .have P:j=F.length:=by omega
   subst P;rw[vk]at u;have q:=cH.mk u z;go_wp2;go_ret;exact⟨_,rfl,by rw[cZ,<-jw];exact q.a,q.b⟩
attribute [local go_sem] Oper.semAt_some
theorem ao6(l:List UInt8):∀u∈l.map jj,u.oneCell'=Z:=λu a=>by obtain⟨b,_,rfl⟩:=ki.1 a;rfl
end
end Go.Proofs.YtpdbmpbmepkikaaGreatDoor
set_option maxRecDepth 100000
namespace Go.Proofs.YtpdbmpbmepkikaaGreatDoor
section
open Go.RowKit
structure fT(r g off cap:Nat)(l:List UInt8)(bad:Bool)(W:ax):Prop where
 box:W.heap[r]?=U (aH #[aC (U ⟨g,off,V⟩) l.length cap,cx bad] 230 (0,0))fits:l.length<=cap
 lt:g<W.heap.size
 ne:g≠r
 cells:∀j(h:j<l.length),W.cell? ⟨g,off+j,V⟩=U (jj l[j])
theorem fT.keep{r g a cap}{l}{b}{W W'}(h:fT r g a cap l b W)(c:W'.heap[r]?=W.heap[r]?)(f:W'.heap[g]?=W.heap[g]?)(d:W.heap.size<=W'.heap.size):fT r g a cap l b W':=⟨c.trans h.box,h.fits,cB h.lt d,h.ne,λj e=>(ew (w:=W) (a:=⟨g,a+j,V⟩) f).trans<|h.cells j e⟩
theorem fT.below{r g b cap N}{l}{a}{W W'}(h:fT r g b cap l a W)(c:aY N W W')(d:W<=N):fT r g b cap l a W':=h.keep (c.block _<|cB (eX.1 h.box).1 d) (c.block _<|cB h.lt d) c.size
theorem fT.BI{r g b cap}{l}{a}{W}(h:fT r g b cap l a W):r<W:=(eX.1 h.box).1
theorem fT.drop{r g c cap n}{l}{d}{W}(h:fT r g c cap l d W)(i:n<=l.length)(b)(k:b=c+n\/cap=n):fT r g b (cap-n) (l.drop n) d<|W.setCell r<|aC (U ⟨g,b,V⟩) (l.length-n)<|cap-n:=by
 refine⟨?_,?_,?_,h.ne,λj f=>?_⟩;.simp only[jL,zf,h.box,ee,gL,Zc];rfl
 .rw[Zc];have:=h.fits;omega
 .simpa[jL]using h.lt
 .rw[Zc]at f;have m:=h.fits;have e:b+j=c+(n+j):=by omega
  rw[e,List.getElem_drop];exact(ew (w:=W) (a:=⟨g,c+(n+j),V⟩)<|gJ _ _ _ _ h.ne).trans<|h.cells (n+j)<|by omega
theorem fT.asx{r g a cap}{l}{b}{W}(h:fT r g a cap l b W):fT r g a cap l Z<|W.setCell ⟨r,1,V⟩ Z:=by
 refine⟨?_,h.fits,?_,h.ne,λj c=>(ew (w:=W) (a:=⟨g,a+j,V⟩)<|gJ _ _ _ _ h.ne).trans<|h.cells j c⟩;.simp only[jL,zf,h.box,ee,gL];rfl
 .simpa[jL]using h.lt
theorem Q8(r g c cap n)(l)(w)(h:fT r g c cap l ai w)(i:n<=l.length):bz Q 147 #[aF r,n] w λe j=>e=bj (aC (U ⟨g,c,V⟩) n n)/\(∃d,fT r g d (cap-n) (l.drop n) ai j)/\O (λb=>b=r) w j:=by
 have s:w.cell? r=U (aC (U ⟨g,c,V⟩) l.length cap):=M h.box 0;have q:=vo h.box 0;have p:(n:Int)<=(l.length:Int):=by omega
 have m:(n:Int)<=(cap:Int):=by have:=h.fits;omega
 have f:=X h;have o:¬(l.length:Int)<(n:Int):=by omega
 have k:¬l.length<n:=by omega
 go_enter adQ,ntmps147;go_wp2;case inr h=>go_ret;exact⟨rfl,⟨_,f.out.drop i _<|ay rfl⟩,O.setCell _ _ _ rfl⟩
 case inl h=>subst h;go_ret;refine⟨rfl,⟨c,?_⟩,O.setCell _ _ _ rfl⟩;have:=f.out.drop i c<|aB rfl;grind
theorem arM(r g a cap n)(l)(c)(w)(h:fT r g a cap l c w)(i:l.length<n):bz Q 147 #[aF r,n] w λe d=>e=bj (aC V 0 0)/\fT r g a cap l Z d/\O (λb=>b=r) w d:=by
 have j:w.cell? r=U (aC (U ⟨g,a,V⟩) l.length cap):=M h.box 0;have m:w.cell? ⟨r,1,V⟩=U c:=M h.box 1;have k:=vo h.box 1;have f:(l.length:Int)<(n:Int):=by omega
 go_enter adQ,ntmps147;go_wp2;go_ret;exact⟨rfl,(X h).out.asx,O.setCell _ _ _ rfl⟩
theorem aut(m z:Nat):cP.wrap (m*2^z)=(m*2^z%18446744073709551616:Nat):=by grind[IntKind.wrap_u64]
theorem awx{a m z}(d:a<2^z)(c:z<=63):a|||m*2^z%18446744073709551616=a+m*2^z%18446744073709551616:=by
 have e:m*2^z%18446744073709551616=2^z*(m%2^(64-z)):=by
  have b:(18446744073709551616:Nat)=2^z*2^(64-z):=by rw[<-Nat.pow_add,show z+(64-z)=64 by omega]
  grind[Nat.mul_comm,Nat.mul_mod_mul_left]
 grind[Nat.two_pow_add_eq_or_of_lt,Nat.add_comm]
theorem aGs:∀x,x<256->x&&&127=x%128:=λx _=>Nat.and_two_pow_sub_one_eq_mod x 7
theorem avJ(f k a)(b)(l):tG (f+1) k a (b::l)=if b.toNat<128 then(a+b.toNat%128*2^k%18446744073709551616,l,ai)else tG f (k+7) (a+b.toNat%128*2^k%18446744073709551616) l:=rfl
theorem awR(r g B cap)(l)(w)(h:fT r g B cap l ai w):bz Q 194 #[aF r] w λe Q1=>e=bj (Y cP (tG 10 0 0 l).1)/\(∃C G,fT r g C G (tG 10 0 0 l).2.1 (tG 10 0 0 l).2.2 Q1)/\O (λb=>b=r) w Q1:=by
 obtain⟨R,QY⟩:=ex<|tG 10 0 0 l;rw[<-QY];have Q2:=cH.mk h QY;clear h QY;go_enter aqk,ntmps194;go_wp2;go_loopg[3,4]10λk s3 s4 wr=>∃(z f i j:Nat)(I:List UInt8),s3=Y cP f/\s4=z/\7*k+z=70/\tG k z f I=R/\fT r g i j I ai wr/\f<2^z/\f<18446744073709551616/\O (λb=>b=r) w wr;case atStart=>exact⟨0,0,B,cap,l,rfl,rfl,rfl,Q2.b.symm,Q2.a,by decide,by decide,O.refl _ _⟩
 case round=>
  obtain⟨z,f,i,j,I,rfl,rfl,hk,a,s,u,o,c⟩:=hrel;by_cases hz:z<64
  .obtain⟨H,rfl⟩:∃H,gk=H+1:=⟨gk-1,by omega⟩;have vz:(z:Int)<64:=by omega
   cases I with|nil=>go_wp2_with(go_at_call 147;go_must(refine(X<|arM r g i j 1 [] ai wr s<|by simp).out.mono ?_);rintro e T⟨rfl,p,q⟩;have c1:T.cell? ⟨r,1,V⟩=U Z:=M p.box 1;have y:=cH.mk p q;refine Halt.of ?_);unfold Halt;go_wp2;go_ret;obtain⟨a,c⟩:=(X<|aM a c).out;rw[tG]at a;subst a;exact⟨rfl,⟨_,_,y.a⟩,c.trans y.b⟩|cons b l2=>
    have HC:=X (Q8 r g i j 1 (b::l2) wr s<|by simp);have Q0:wr.cell? ⟨g,i,V⟩=jj b:=s.cells 0<|Nat.zero_lt_succ _;have QX:=s.ne;have N:=s.lt;obtain⟨m,Q3⟩:=ex<|b.toNat%128;have zA:b.toNat<256:=b.toNat_lt;have W:bits .and aq (b.toNat:Int) 127=(m:Int):=by grind[u8_and_nat,aGs]
    have hcv:cP.wrap (m:Int)=(m:Int):=by grind[IntKind.wrap_u64]
    have A:=aut m z;have v:=awx (m:=m) u (by omega:z<=63);obtain⟨x,S⟩:=ex<|m*2^z%18446744073709551616;rw[<-S]at A v;have t:x<18446744073709551616:=by omega
    have K:bits .or cP (f:Int) (x:Int)=((f+x:Nat):Int):=by grind[u64_or_nat]
    have d:f+x<18446744073709551616:=by rw[<-v];exact Nat.or_lt_two_pow (n:=64) o t
    have n:f+x<2^(z+7):=by have h2:m*2^z<=127*2^z:=aih _ (by omega);grind
    have ZU:aG.wrap ((z:Int)+7)=(z:Int)+7:=by grind[IntKind.wrap_i64]
    rw[avJ,<-Q3,<-S]at a;have L:=uJ.mk a c n d;unfold jj at Q0;obtain⟨QW,D⟩:=ex<|f+x;rw[<-D]at K L;clear a s c u v Q3 S n d D o t;go_wp2_with(go_at_call 147;go_must(refine HC.out.mono ?_);rintro e T⟨rfl,⟨F,p⟩,q⟩;have c1:T.cell? ⟨r,1,V⟩=U ai:=M p.box 1;have y5:=(ew (w:=wr) (a:=⟨g,i,V⟩)<|q.block g N QX).trans Q0;have y:=cH.mk p q;refine Halt.of ?_);unfold Halt;by_cases Ld:b.toNat<128
    .have J:(b.toNat:Int)<128:=by omega
     go_wp2;go_ret;obtain⟨a,c,-,-⟩:=kp L;rw[cJ Ld]at a;subst a;exact⟨rfl,⟨_,_,y.a⟩,c.trans y.b⟩
    .have J:¬(b.toNat:Int)<128:=by omega
     go_wp2;go_roundg H;case rel=>obtain⟨a,c,n,d⟩:=L;rw[if_neg Ld]at a;exact⟨z+7,QW,F,j-1,l2,rfl,by go_simp,by omega,a,y.a,n,d,c.trans y.b⟩
     grind
  .have P:gk=0:=by omega
   subst P;have E:z=70:=by omega
   subst E;rw[tG]at a;go_wp2;go_ret;obtain⟨a,c,s⟩:=(X<|aM a<|aM c s).out;subst a;exact⟨rfl,⟨_,_,s⟩,c⟩
def wv(r g:Nat)(t:List UInt8)(w w':ax):Prop:=(∃off cap,fT r g off cap t ai w')/\O (λb=>b=r) w w'
theorem Gz(r g b cap n)(t)(w)(h:fT r g b cap (k n++t) ai w)(d:n<18446744073709551616):bz Q 194 #[aF r] w λe j=>e=bj (Y cP n)/\wv r g t w j:=by have:=awR r g b cap _ w h;rw[avH d]at this;exact this.mono λ_ _⟨i,f,c⟩=>⟨i,f,c⟩
theorem amC(W)(g a)(s)(h:∀j(c),W.cell? ⟨g,a+j,V⟩=U (Y aq (bl s)[j].toNat)):(convert 79 9<|aC (U ⟨g,a,V⟩) s.size s.size).run Q W=aW (aE s) W:=by
 have b:=run_convert_bytes_back (P:=Q) W 79 9 5 ⟨g,a,V⟩ s.size (bl s) tB yF qP (λj c=>by grind[Addr.add_lit]);have e:(⟨(bl s).toArray⟩:ByteArray)=s:=by grind
 rw[e]at b;exact b
theorem Mx(r g k cap)(s)(t)(w)(h:fT r g k cap (dh s++t) ai w)(hs:s.size<=1073741824):bz Q 152 #[aF r] w λe F=>e=bj s/\wv r g t w F:=by
 rw[dh,jw]at h;have D:aG.wrap (s.size:Int)=(s.size:Int):=by grind[IntKind.wrap_i64]
 have y:min (s.size:Int) 1073741824=(s.size:Int):=by omega
 go_enter aqI,ntmps152;go_wp2_with(go_at_call 194;go_must(refine(X<|Gz r g k cap s.size (bl s++t) w h<|by omega).out.mono ?_);rintro e w1⟨rfl,E⟩;have C:=X E;refine Halt.of ?_);unfold Halt;obtain⟨⟨b,f,c⟩,p⟩:=C.out;have B:(bl s).length=s.size:=rfl;have i:(bl s++t).drop s.size=t:=by grind
 have d:∀j(n:j<(bl s).length),w1.cell? ⟨g,b+j,V⟩=U (Y aq ((bl s)[j].toNat:Int)):=λj n=>by have:=c.cells j (by grind);rw[aif n]at this;exact this
 have o:=c.lt;have q:=c.ne;have x:=gR.mk p i d;go_wp2_with(go_at_call 147;go_must(refine(X<|Q8 r g b f s.size (bl s++t) w1 c<|by grind).out.mono ?_);rintro e G⟨rfl,⟨l,v⟩,m⟩;have u:=amC G g b s λj n=>(ew (w:=w1) (a:=⟨g,b+j,V⟩)<|m.block g o q).trans<|x.c j n;have A:=cH.mk v m;refine Halt.of ?_);unfold Halt;go_wp2;go_ret;refine⟨rfl,⟨l,f-s.size,?_⟩,x.a.trans A.b⟩;have:=A.a;grind
theorem aow{x}(b:0<=x)(a:x<9223372036854775808):bits .xor aG x 0=x:=by show aG.wrap ((PI 64 x^^^PI 64 0).toNat:Int)=x;grind[BitVec.toNat_ofInt,IntKind.wrap_i64]
theorem aox{x:Nat}(b:x<9223372036854775808):bits .xor aG x (-1)=-x-1:=by have:=Lib.i64_not x b;rw[<-this];show aG.wrap ((PI 64 (x:Int)^^^PI 64 (-1)).toNat:Int)=aG.wrap ((PI 64 (-1)^^^PI 64 (x:Int)).toNat:Int);grind
theorem adu(r g d cap)(z)(t)(w)(h:fT r g d cap (k (gS z)++t) ai w)(s:ij z):bz Q 195 #[aF r] w λe u=>e=bj z/\wv r g t w u:=by
 have o:=F7 s;have b:=ao3 z;obtain⟨n,i⟩:=ex<|gS z;rw[<-i]at h o b;have p:=X<|Gz r g d cap n t w h o;have a:bits .and cP (n:Int) 1=((n%2:Nat):Int):=by grind[Lib.u64_and1]
 have f:aG.wrap ((n:Int)/2)=((n/2:Nat):Int):=by grind[IntKind.wrap_i64]
 clear h i;unfold Wc at b;by_cases h2:n%2=0
 .rw[cJ h2]at b;rw[h2]at a;have j:bits .xor aG ((n/2:Nat):Int) 0=z:=by grind[aow]
  obtain⟨q,c⟩:=ex<|n/2;rw[<-c]at f j;clear b c;go_enter adL,ntmps195;go_wp2_with(go_at_call 194;go_must(refine p.out.mono ?_);rintro e v⟨rfl,l⟩;have x:=X l;refine Halt.of ?_);unfold Halt;go_wp2;go_ret;exact⟨rfl,x.out⟩
 .rw[if_neg h2]at b;have m:n%2=1:=by omega
  rw[m]at a;have j:bits .xor aG ((n/2:Nat):Int) (-1)=z:=by rw[aox<|by omega];exact b
  obtain⟨q,c⟩:=ex<|n/2;rw[<-c]at f j;clear b c;go_enter adL,ntmps195;go_wp2_with(go_at_call 194;go_must(refine p.out.mono ?_);rintro e v⟨rfl,l⟩;have x:=X l;refine Halt.of ?_);unfold Halt;go_wp2;go_ret;exact⟨rfl,x.out⟩
theorem avy(r g m cap)(x)(t)(w)(h:fT r g m cap (gU x++t) ai w)(hx:Fit x):bz Q 150 #[aF r] w λe w'=>e=bj x.val/\wv r g t w w':=by
 obtain⟨n,f,c,q,QX⟩:=x;obtain⟨h1,h2,h3,S,Q1⟩:=hx;simp only at h1 h2 h3 S Q1;simp only[gU,jw]at h;have oZ:=h.BI;have sG:=h.lt;obtain⟨o,u⟩:=ex<|w.alloc<|aH #[aE ⟨#[]⟩,aE ⟨#[]⟩,Y aG 0,Y aG 0,aE ⟨#[]⟩] 46;have J:o.heap[w.heap.size]?=U (aH #[aE ⟨#[]⟩,aE ⟨#[]⟩,Y aG 0,Y aG 0,aE ⟨#[]⟩] 46 (0,0)):=by grind[World.alloc_heap_new]
 have K:O (λb=>b=r) w o:=by grind[O.alloc]
 have H:fT r g m cap (dh n++(dh f++(k (gS c)++(k (gS q)++(dh QX++t))))) ai o:=by rw[u];exact h.below ((dK _ _).alloc (aQ _) _)<|aQ _
 have B:w.heap.size<o:=by grind
 have C1:=X (Mx r g m cap n _ o H<|by omega);have HW:=X u;have j:=gR.mk K J B;unfold s.val;go_enter aqK,ntmps150;go_wp2_with(rw[<-HW.out];go_at_call 152;go_must(refine C1.out.mono ?_);rintro e w2⟨rfl,QZ⟩;have T:=X QZ;refine Halt.of ?_);unfold Halt;obtain⟨⟨o2,c2,G⟩,EW⟩:=T.out;go_wp2_with(go_at_call 152;go_must(refine(X<|Mx r g o2 c2 f _ w2 G<|by omega).out.mono ?_);rintro e w3⟨rfl,D⟩;have QW:=X D;refine Halt.of ?_);unfold Halt;obtain⟨⟨o3,c3,E⟩,hk3⟩:=QW.out;go_wp2_with(go_at_call 195;go_must(refine(X<|adu r g o3 c3 c _ w3 E S).out.mono ?_);rintro e Z⟨rfl,y⟩;have R:=X y;refine Halt.of ?_);unfold Halt;obtain⟨⟨o4,c4,F⟩,hk4⟩:=R.out;go_wp2_with(go_at_call 195;go_must(refine(X<|adu r g o4 c4 q _ Z F Q1).out.mono ?_);rintro e w5⟨rfl,I⟩;have W:=X I;refine Halt.of ?_);unfold Halt;obtain⟨⟨o5,Q2,z⟩,hk5⟩:=W.out;go_wp2_with(go_at_call 152;go_must(refine(X<|Mx r g o5 Q2 QX _ w5 z<|by omega).out.mono ?_);rintro e l⟨rfl,QY⟩;have P:=X QY;refine Halt.of ?_);unfold Halt;have d:=T.out.2.trans<|QW.out.2.trans<|R.out.2.trans<|W.out.2.trans P.out.2;have Qw:=(d.block _ j.c<|by omega).trans j.b;have a0:l.cell? w=U (aE ⟨#[]⟩):=M Qw 0;have a1:l.cell? ⟨w,1,V⟩=U (aE ⟨#[]⟩):=M Qw 1;have a2:l.cell? ⟨w,2,V⟩=U (Y aG 0):=M Qw 2;have a3:l.cell? ⟨w,3,V⟩=U (Y aG 0):=M Qw 3;have a4:l.cell? ⟨w,4,V⟩=U (aE ⟨#[]⟩):=M Qw 4;have fz:∀i,l.frozen? ⟨w,i,V⟩=ai:=by grind[Joins.unfrozen_of_block]
 have A:uO w 46 l #[aE ⟨#[]⟩,aE ⟨#[]⟩,Y aG 0,Y aG 0,aE ⟨#[]⟩] l:=⟨Qw,O.refl _ _⟩;have Q0:=cH.mk A d;go_wp2;generalize L:jL _ _ _=WF;obtain⟨p,a⟩:=L▸((((Q0.a.set 0 _).set 1 _).set 2 _).set 3 _).set 4 _;simp only[eE,eD,eu]at p;refine tV (results_cell_row rfl _ _ w.heap.size 46 _ (0,0) _ rfl p apc rfl<|by kernel_rfl) rfl ?_;obtain⟨⟨o6,c6,C⟩,-⟩:=P.out;have d:=Q0.b;have v:=d.size;have N:=j.c;refine⟨rfl,⟨o6,c6,C.keep (a.block _ (by omega)<|by omega) (a.block _ (by omega)<|by omega) a.size⟩,?_⟩;exact⟨a.os.trans<|d.os.trans j.a.os,a.tape.trans<|d.tape.trans j.a.tape,a.output.trans<|d.output.trans j.a.output,bC (Nat.le_of_lt N)<|bC v a.size,λb hb Q3=>(a.block b (by omega)<|by omega).trans<|(d.block b (by omega) Q3).trans<|j.a.block b hb Q3⟩
structure anW(r g:Nat)(F:List s)(t:List UInt8)(w:ax)(j:Nat)(v:az)(W:ax):Prop where
 row:W.ownsRow w.heap.size 46 5 v j (rows<|F.take j)jv:∃off cap,fT r g off cap ((F.drop j).flatMap gU++t) ai W
 keep:O (λb=>b=r) w W
theorem ax1(r g C cap)(F)(t)(w)(h:fT r g C cap (cZ gU F++t) ai w)(hF:∀x∈F,Fit x)(hz:F.length<=600000):bz Q 149 #[aF r,dF (ei 150) #[aF r] #[]] w λe P=>∃v,e=bj v∧P.ownsRow w 46 5 v F.length (rows F)∧wv r g t w P:=by
 rw[cZ,jw]at h;have J:=h.BI;have K:=h.lt;have H:=X (Gz r g C cap F.length _ w h<|by omega);have HF:=X hF;go_enter aqM,ntmps149;go_wp2_with(go_at_call 194;go_must(refine H.out.mono ?_);rintro e w1⟨rfl,h1⟩;have R:=X h1;refine Halt.of ?_);unfold Halt;go_wp2;go_loopg[5,6]F.lengthλk s5 s6 wr=>∃(v:az)(j:Nat),v=s5∧s6=Y cP (k:Nat)∧k+j=F.length∧anW r g F t w j v wr;case atStart=>exact⟨_,0,rfl,rfl,rfl,⟨mL _ _ _ _,by simpa using R.out.1,R.out.2⟩⟩
 case round=>
  obtain⟨v,j,rfl,rfl,hk,G⟩:=hrel;obtain⟨o1,c1,y⟩:=G.jv;have b1:wr.cell? ⟨r,1,V⟩=U (cx ai):=M y.box 1;by_cases hj:j<F.length
  ·obtain⟨B,rfl⟩:∃B,gk=B+1:=⟨gk-1,by omega⟩;have L:(F.drop j).flatMap gU++t=gU F[j]++((F.drop<|j+1).flatMap gU++t):=by grind[List.drop_eq_getElem_cons,List.append_assoc]
   have A:rows (F.take<|j+1)=rows (F.take j)++F[j].cells:=by grind[List.take_add_one,List.getElem?_eq_getElem,Option.toList_some,XF,rows]
   rw[L]at y;have p:=avy r g o1 c1 F[j] _ wr y<|HF.out F[j]<|nC hj;obtain⟨x,hx⟩:=ex F[j];rw[<-hx]at p A;obtain⟨n,f,c,q,Q0⟩:=x;unfold s.val at p;simp only[s.cells]at A;have H:=X p;have m:=cH.mk G A;have KB:=G.keep.size;have Q1:cP.wrap (((B+1:Nat):Int)-1)=(B:Int):=by grind[IntKind.wrap_u64]
   have D:(0:Int)<((B+1:Nat):Int):=by omega
   obtain⟨kz,O⟩:∃kz:Int,kz=((B+1:Nat):Int):=⟨_,rfl⟩;rw[<-O]at Q1 D⊢;go_wp2_with(go_at_call 150;go_must(refine H.out.mono ?_);rintro e w5⟨rfl,h5⟩;have E:=X h5;refine Halt.of ?_);unfold Halt;have z:=dB m.a.row λb o=>E.out.2.block b (m.a.row.lt b o).2 (by have:=(m.a.row.lt b o).1;omega);have lG:=E.out.2.size;have u:=X z;go_wp2_with(at_builtin;go_must(refine app1 rfl rfl adx aiV rfl rfl (dB u.out λb o=>dr _ _ _ (u.out.lt b o).2) rfl (by grind) rfl rfl (by omega) (by simp;omega) ?_);intro v7 Z W d _ lI;refine Halt.of ?_);have i:∀b,b<w.heap.size->Z.heap[b]?=w5.heap[b]?:=λb o=>(d.block b (by simp;omega) λe=>by have:=(u.out.lt b e.symm).1;omega).trans (dr _ _ _<|by omega);have T:=d.size;have a:anW r g F t w (j+1) v7 Z:=by
    refine⟨by rw[m.b];exact W,?_,?_⟩;·obtain⟨o5,c5,I⟩:=E.out.1;exact⟨o5,c5,I.keep (i r J) (i g K)<|by simp at T;omega⟩
    ·have l:=m.a.keep.trans E.out.2;exact⟨d.os.trans l.os,d.tape.trans l.tape,d.output.trans l.output,by grind,λb o hn=>(i b o).trans<|l.block b o hn⟩
   unfold Halt;go_wp2;go_roundg B;case rel=>exact⟨v7,j+1,rfl,by go_simp,by omega,(X a).out⟩
   grind
  ·have N:gk=0:=by omega
   subst N;have S:j=F.length:=by omega
   subst S;have m:=X G;go_wp2;go_ret;refine⟨_,rfl,?_,?_,m.out.keep⟩;·have:=m.out.row;rw[vk]at this;exact this
   ·have:=m.out.jv;grind
theorem asy{a}(L cs:List a)(h:cs.length=L.length):splice L 0 cs=cs:=by simp[splice,h]
end
section
def D(l:List s)(n f:ByteArray):Option s:=l.find? λy=>bP (y.name=n)&&bP (y.field=f)
def GI(a b:s):s:=if j4 b a then b else a
def ir:Option s->Option s->Option s|none,b=>b|a,V=>a|some a,U b=>U<|GI a b
theorem aoK(a):j4 a a=ai:=by simp[j4,J6]
theorem VO{a b c}(h:j4 a b=Z)(k:j4 b c=Z):j4 a c=Z:=by
 unfold j4 at*;by_cases g:a.c=b.c<;>by_cases e:b.c=c.c
 .by_cases f:a.r=b.r<;>by_cases d:b.r=c.r;.grind[Nf]
  .grind
  .grind
  grind
 .grind
 .grind
 grind
theorem aoL{a b}(h:j4 a b=Z):j4 b a=ai:=by grind[VO,aoK]
theorem adj{a b}(i:sameKey a b=Z)(h:j4 a b=ai)(g:j4 b a=ai):a=b:=by
 obtain⟨n,f,c,r,v⟩:=a;obtain⟨j,m,e,d,o⟩:=b;simp only[sameKey,cG]at i;unfold j4 at h g;by_cases l:c=e
 .by_cases k:r=d;.grind[YE]
  grind
 grind
def Keyed(n f:ByteArray)(a:Option s):Prop:=∀x,a=U x->x.name=n/\x.field=f
theorem Keyed.same{n f}{x y}(h:Keyed n f<|U x)(k:Keyed n f<|U y):sameKey x y=Z:=by have h:=h x rfl;have k:=k y rfl;simp[sameKey,h.1,h.2,k.1,k.2]
theorem axX{n f}{a b}(e:Keyed n f a)(g:Keyed n f b):Keyed n f<|ir a b:=by intro x d;cases a with|none=>exact g x d|some a=>cases b with|none=>exact e x d|some b=>
   simp only[ir,GI]at d;split at d;.exact g x<|by grind
   .exact e x<|by grind
theorem SB{n f}{a b}(d:Keyed n f a)(h:Keyed n f b):ir a b=ir b a:=by cases a with|none=>cases b<;>rfl|some a=>cases b with|none=>rfl|some b=>simp only[ir,GI,dX];cases g:j4 b a with|true=>grind[aoL]|false=>cases e:j4 a b with|true=>simp|false=>exact adj (d.same h) e g
theorem El(a):ir a a=a:=by cases a with|none=>rfl|some a=>simp[ir,GI]
theorem J5(a):ir a V=a:=by cases a<;>rfl
theorem SC{n f}{a b c}(e:Keyed n f a)(i:Keyed n f b)(k:Keyed n f c):ir (ir a b) c=ir a (ir b c):=by cases a with|none=>rfl|some a=>cases b with|none=>rfl|some b=>cases c with|none=>rfl|some c=>simp only[ir,GI];cases h:j4 b a with|true=>grind[VO]|false=>cases l:j4 c b with|true=>simp|false=>cases j:j4 c a with|false=>grind|true=>cases g:j4 a b with|true=>grind[VO]|false=>have:=adj (e.same i) g h;grind
theorem tc(l)(n f):Keyed n f<|D l n f:=λx b=>by have:=List.find?_some b;grind
theorem uD{l}{n f}{x}(h:D l n f=U x):x∈l/\x.name=n/\x.field=f:=⟨SY h,tc l n f x h⟩
theorem U9{l}(hs:j l){x}(c:x∈l):D l x.name x.field=U x:=by cases h:D l x.name x.field with|none=>exact absurd (Zh.1 h x c)<|by simp|some y=>have b:=uD h;rw[hs.inj b.1 c<|by simp[sameKey,b.2.1,b.2.2]]
theorem Di{l l'}(hs:j l)(b:j l')(h:∀n f,D l n f=D l' n f):l=l':=by
 refine hs.unique b<|(Kn hs.nodup b.nodup).2 λx=>⟨λc=>?_,λc=>?_⟩;.have:=U9 hs c;grind[uD]
 .have:=U9 b c;grind[uD]
theorem Va{l:List s}(hs:j l)(x:s)(n f:ByteArray):D (ins l x) n f=if x.name=n∧x.field=f then ir (D l n f) (U x)else D l n f:=by induction l with|nil=>simp only[ins,D,NF,List.find?_nil,ir];grind|cons y l c=>
  have g:=wT.1 hs;have c:=c g.2;by_cases h:x.name=n∧x.field=f
  ·obtain⟨rfl,rfl⟩:=h;simp only[and_self,gL]at c⊢;rw[ins];by_cases b:sameKey y x=Z
   ·have d:(bP (y.name=x.name)&&bP (y.field=x.field))=Z:=b;rw[cJ b];have e:D (y::l) x.name x.field=U y:=by unfold D;grind
    rw[e];simp only[ir,GI];cases p:j4 x y with|true=>simp[D,NF]|false=>grind
   ·have d:(bP (y.name=x.name)&&bP (y.field=x.field))=ai:=by simpa[sameKey]using b
    have e:D (y::l) x.name x.field=D l x.name x.field:=by unfold D;grind
    rw[if_neg b,e];by_cases i:ahead x y=Z
    ·rw[cJ i];have k:D l x.name x.field=V:=by cases m:D l x.name x.field with|none=>rfl|some z=>have a:=uD m;have:=Ve i<|g.1 z a.1;grind[Dj]
     rw[k];simp[D,NF,ir]
    ·have:D (y::ins l x) x.name x.field=D (ins l x) x.name x.field:=by unfold D;grind
     grind
  ·rw[ins];split
   ·rename_i b;split
    ·have o:(bP (y.name=n)&&bP (y.field=f))=ai:=by simp only[sameKey,cG,eU]at b;grind
     unfold D;grind
    grind
   ·split;·unfold D;grind
    ·unfold D at c⊢;grind
theorem FH{a}(d:j a)(b)(l:j b)(n f):D (b.foldl ins a) n f=ir (D a n f) (D b n f):=by induction b generalizing a with|nil=>simp[D,J5]|cons x b g=>
  have i:=wT.1 l;rw[Ay,g (To d x) i.2,Va d];by_cases h:x.name=n/\x.field=f
  .have e:D (x::b) n f=U x:=by unfold D;grind
   have c:D b n f=V:=by cases k:D b n f with|none=>rfl|some z=>have m:=uD k;grind[Dj]
   rw[cJ h,e,c,J5]
  .have e:D (x::b) n f=D b n f:=by unfold D;grind
   grind
def fZ(a b:List s):List s:=b.foldl ins a
theorem ue{a}(d:j a)(b):j<|fZ a b:=alm d b
theorem NP{a b}(d:j a)(e:j b):fZ a b=fZ b a:=Di (ue d b) (ue e a) λn f=>by rw[fZ,fZ,FH d b e,FH e a d];grind[SB,tc]
theorem ZG{a b c}(e:j a)(g:j b)(h:j c):fZ (fZ a b) c=fZ a (fZ b c):=Di (ue (ue e b) c) (ue e _) λn f=>by rw[fZ,FH (ue e b) c h,fZ,FH e b g,fZ,FH e _<|ue g c,fZ,FH g c h];grind[SC,tc]
theorem aiP{a}(c:j a):fZ a a=a:=Di (ue c a) c λn f=>by rw[fZ,FH c a c];grind[El]
def push(p:ByteArray)(c:UInt8):ByteArray:=p++⟨#[c]⟩
theorem zQ(p)(c):bl (push p c)=bl p++[c]:=by grind[push,aFI]
theorem uX(p):(bl p).length=p.size:=by cases p;rfl
theorem size_push(p)(c):(push p c).size=p.size+1:=by grind[uX,zQ,List.length_append]
theorem push_inj{p q}{c d}(h:push p c=push q d):p=q/\c=d:=by
 have e:bl p++[c]=bl q++[d]:=by grind[zQ]
 grind[List.append_inj',zR]
def below(p n f:ByteArray):Bool:=(bl p).isPrefixOf<|bl<|iN n f
theorem xF{p n f}:below p n f=Z↔bl p<+:bl (iN n f):=List.isPrefixOf_iff_prefix
theorem zU{p n f}{c}(h:below (push p c) n f=Z):below p n f=Z:=by grind[xF,zQ,List.prefix_append]
theorem ana{p n f}{c d}(h:below (push p c) n f=Z)(k:below (push p d) n f=Z):c=d:=by rw[xF,zQ]at h k;obtain⟨t,b⟩:=h;obtain⟨u,a⟩:=k;grind[List.append_assoc,List.append_cancel_left,List.cons.injEq]
theorem am9{p q n f}(h:below p n f=Z)(k:below q n f=Z)(hs:p.size=q.size):p=q:=by rw[xF]at h k;obtain⟨t,b⟩:=h;obtain⟨u,a⟩:=k;grind[zR,List.append_inj,uX]
theorem am8{p n f}(h:below p n f=Z)(hs:p.size<(iN n f).size):∃c,below (push p c) n f=Z:=by rw[xF]at h;obtain⟨t,a⟩:=h;cases t with|nil=>grind[uX,iN]|cons c t=>exact⟨c,by rw[xF,zQ];exact⟨t,by grind⟩⟩
theorem LO(n f):below ⟨#[]⟩ n f=Z:=by grind[xF]
def t(l:List s)(p:ByteArray):List s:=l.filter λx=>below p x.name x.field
theorem nA{l}{p}{x}:x∈t l p↔x∈l/\below p x.name x.field=Z:=by grind[t]
theorem MB(l):t l ⟨#[]⟩=l:=AD.2 λ_ _=>LO _ _
def FJ:List UInt8:=(mR 256).map kT
theorem axT(c):c∈FJ:=by unfold FJ;rw[ki];exact⟨c.toNat,SQ.2 c.toNat_lt,by simp⟩
theorem awW:FJ.Nodup:=by unfold FJ;unfold List.Nodup;rw[NC];refine Zm (λ{a b}g d f e=>?_) List.pairwise_lt_range;have d:=SQ.1 d;have:=congrArg UInt8.toNat e;grind[UInt8.toNat_ofNat']
def qm(l:List s)(p:ByteArray):List UInt8:=FJ.filter λc=>!(t l<|push p c).isEmpty
theorem M9{l}{p}{c}:c∈qm l p↔t l (push p c)≠[]:=by grind[qm,axT]
theorem Yg(l)(p):(qm l p).Nodup:=awW.filter _
structure Nd where
 pfx:ByteArray
 kids:List<|UInt8×Int
structure dR where
 bu:List s
 cq:List ByteArray
 nodes:List Nd
 roots:List Int
section
variable (hs:List s->Int)
def EC(l:List s)(p:ByteArray):List<|UInt8×Int:=(qm l p).map λc=>(c,hs<|t l<|push p c)
def jl(l:List s)(p:ByteArray):Nd:=⟨p,EC hs l p⟩
def sk(l:List s)(p:ByteArray)(k:UInt8×Int):List s:=if t l (push p k.1)≠[]/\hs (t l<|push p k.1)≠k.2/\k.1=0 then t l (push p k.1)else[]
def sj(l:List s)(p:ByteArray)(k:UInt8×Int):List ByteArray:=if t l (push p k.1)=[]\/hs (t l<|push p k.1)≠k.2/\k.1=0 then[push p k.1]else[]
def sr(l:List s)(p:ByteArray)(k:UInt8×Int):List Nd:=if t l (push p k.1)≠[]/\hs (t l<|push p k.1)≠k.2/\k.1≠0 then[jl hs l<|push p k.1]else[]
def DZ(l:List s)(n:Nd):List UInt8:=(qm l n.pfx).filter λc=>!(n.kids.map (·.1)).contains c
def yx(l:List s)(n:Nd):List s:=n.kids.flatMap (sk hs l n.pfx)++(DZ l n).flatMap λc=>t l<|push n.pfx c
def vW(l:List s)(n:Nd):List ByteArray:=n.kids.flatMap<|sj hs l n.pfx
def vX(l:List s)(n:Nd):List Nd:=n.kids.flatMap<|sr hs l n.pfx
def q(l:List s)(m:dR):dR where bu:=m.cq.flatMap (t l)++m.nodes.flatMap (yx hs l);cq:=m.nodes.flatMap<|vW hs l;nodes:=m.nodes.flatMap (vX hs l)++m.roots.flatMap λd=>if d=hs l then[]else[jl hs l ⟨#[]⟩];roots:=[]
def dR.none(m:dR):Bool:=m.bu.isEmpty&&m.cq.isEmpty&&m.nodes.isEmpty
def aV(l:List s)(m:dR):List s:=m.bu.foldl ins l
def IQ(l:List s)(m:dR):Option dR:=if(q hs (aV l m) m).none then V else U<|q hs (aV l m) m
end
def told(R:List s)(n f:ByteArray):Bool:=R.any λx=>bP (x.name=n)&&bP (x.field=f)
theorem F9{R}{n f}:told R n f=Z↔∃x∈R,x.name=n/\x.field=f:=by unfold told;grind
theorem SD{n f}{a b}(d:Keyed n f a)(c:Keyed n f b):ir (ir a b) b=ir a b:=by grind[SC,El]
theorem arL{X A}(d:j X)(a:j A)(n f):∀(R),(∀x∈R,x∈X)->D (R.foldl ins A) n f=if told R n f then ir (D A n f) (D X n f)else D A n f:=by intro R;induction R generalizing A with|nil=>intro _;rfl|cons x R c=>
  intro h;rw[Ay,c (To a x) λy g=>h y<|vh _ g,Va a];have i:=U9 d<|h x<|vi ..;have b:told (x::R) n f=(bP (x.name=n)&&bP (x.field=f)||told R n f):=rfl;rw[b];by_cases e:x.name=n/\x.field=f;.obtain⟨rfl,rfl⟩:=e;simp only[and_self,gL,decide_true];grind[SD,tc]
  grind
theorem QV{Y}(a:j Y)(m):j<|aV Y m:=alm a _
def yC(A B X:List s):Prop:=∀n f,D X n f=D A n f\/D X n f=ir (D A n f) (D B n f)
structure tA(A B X Y:List s):Prop where
 sA:j A
 sB:j B
 sX:j X
 sY:j Y
 gX:∀x∈X,Good x
 gY:∀x∈Y,Good x
 bX:yC A B X
 bY:yC B A Y
theorem ahz(A B)(n f):ir (D B n f) (D A n f)=ir (D A n f) (D B n f):=SB (tc _ _ _)<|tc _ _ _
theorem azr(A B)(n f):ir (D A n f) (ir (D A n f)<|D B n f)=ir (D A n f) (D B n f):=by rw[<-SC (tc _ _ _) (tc _ _ _)<|tc _ _ _,El]
theorem Jj{X Y}(c:j X)(b:j Y){m}(h:∀x∈m.bu,x∈X)(n f):D (aV Y m) n f=if told m.bu n f then ir (D Y n f) (D X n f)else D Y n f:=arL c b n f _ h
theorem abx:∀{R l:List s}{x},x∈R.foldl ins l->x∈l\/x∈R
 |[],l,x,h=>ay h|y::R,l,x,h=>by
  rw[Ay]at h;rcases abx h with h|h;.grind[GZ,List.mem_cons_self]
  grind
theorem tA.aV{A B X C}(h:tA A B X C){m}(d:∀x∈m.bu,x∈X):tA B A (aV C m) X:=by
 refine⟨h.sB,h.sA,QV h.sY m,h.sX,λx b=>?_,h.gX,λn f=>?_,h.bX⟩
 .rcases abx b with b|b;.exact h.gY x b
  .exact h.gX x<|d x b
 .rw[Jj h.sX h.sY d];split
  .right;have i:=ahz A B n f;have g:=azr B A n f;rcases h.bX n f with c|c<;>rcases h.bY n f with e|e<;>rw[c,e];.grind[SD,tc]
   .grind
   grind[El]
  .exact h.bY n f
theorem anl{l}{n f}:D l n f=V↔∀x∈l,¬(x.name=n/\x.field=f):=by unfold D;grind
theorem U8{l}(p n f):D (t l p) n f=if below p n f then D l n f else V:=by
 split;.unfold D t;grind
 grind[anl,nA]
theorem BB{X Y}(c:j X)(b:j Y){p}(h:∀n f,below p n f=Z->D X n f=D Y n f):t X p=t Y p:=by refine Di (c.filter _) (b.filter _) λn f=>?_;grind[U8]
theorem sub_eq{X Y}{p}(h:t X p=t Y p){n f}(c:below p n f=Z):D X n f=D Y n f:=by have b:=U8 (l:=X) p n f;have a:=U8 (l:=Y) p n f;grind
theorem MA{X}{p}(h:t X p=[]){n f}(b:below p n f=Z):D X n f=V:=by have a:=U8 (l:=X) p n f;rw[b,cJ rfl,h]at a;rw[<-a];rfl
theorem PW{X}{x}(b:x∈X):D X x.name x.field≠V:=λh=>(anl.1 h) x b ⟨rfl,rfl⟩
section
variable (hs:List s->Int)
structure ni(A B X Y:List s)(m:dR)(ℓ:Nat):Prop where
 bk:tA A B X Y
 bu:∀x∈m.bu,x∈X
 node:∀nd∈m.nodes,nd=jl hs X nd.pfx
 size:∀nd∈m.nodes,nd.pfx.size=ℓ
 nz:∀nd∈m.nodes,(0:UInt8)∉bl nd.pfx
 deep:m.nodes≠[]->ℓ<=13
 diff:∀nd∈m.nodes,∃n f,below nd.pfx n f=Z/\D A n f≠D B n f
 Mo:∀w∈m.cq,w.size=ℓ
 dis:∀w∈m.cq,∀nd∈m.nodes,w≠nd.pfx
 apart:∀x∈m.bu,∀nd∈m.nodes,below nd.pfx x.name x.field=ai
 act:∀nd∈m.nodes,∀n f,below nd.pfx n f=Z->D X n f=D A n f/\D Y n f=D B n f
 roots:m.roots=[]
variable {hs} {A B X a:List s} {m:dR} {ℓ:Nat}
theorem B1{X}{p}{k}:k∈(jl hs X p).kids↔t X (push p k.1)≠[]/\k.2=hs (t X<|push p k.1):=by show k∈(qm X p).map _↔_;grind[M9]
theorem Sw{X a}{p}{c}:c∈DZ a (jl hs X p)↔t a (push p c)≠[]/\t X (push p c)=[]:=by
 unfold DZ;rw[rX,M9];refine and_congr_right λ_=>?_;rw[Ks,<-Bool.not_eq_true,List.contains_iff_mem,ki];constructor;.intro h;refine ou λb=>h ⟨(c,hs<|t X<|push p c),B1.2 ⟨b,rfl⟩,rfl⟩
 grind[B1]
theorem YA{X a}{p}{x}:x∈yx hs a (jl hs X p)↔∃c,x∈t a (push p c)/\(t X (push p c)=[]\/t X (push p c)≠[]/\hs (t a<|push p c)≠hs (t X<|push p c)/\c=0):=by
 unfold yx;simp only[rY,rU];constructor
 .rintro(⟨k,g,b⟩|⟨c,i,b⟩)
  .obtain⟨d,f⟩:=B1.1 g;unfold sk at b;split at b;.rename_i h;exact⟨k.1,b,aB ⟨d,by rw[<-f];exact h.2.1,h.2.2⟩⟩
   grind
  .exact⟨c,b,ay (Sw.1 i).2⟩
 .rintro⟨c,b,h|⟨d,f,j⟩⟩;.exact aB ⟨c,Sw.2 ⟨λe=>by grind,h⟩,b⟩
  .refine ay ⟨(c,hs<|t X<|push p c),B1.2 ⟨d,rfl⟩,?_⟩;show x∈sk hs a p _;unfold sk;grind
theorem Sy{X a}{p w}:w∈vW hs a (jl hs X p)↔∃c,w=push p c/\t X (push p c)≠[]/\(t a (push p c)=[]\/hs (t a<|push p c)≠hs (t X<|push p c)/\c=0):=by
 unfold vW;simp only[rU];constructor
 .rintro⟨k,f,b⟩;obtain⟨d,e⟩:=B1.1 f;unfold sj at b;split at b;.rename_i h;rw[mu]at b;exact⟨k.1,b,d,by rw[<-e];exact h⟩
  grind
 .rintro⟨c,rfl,d,e⟩;refine⟨(c,hs<|t X<|push p c),B1.2 ⟨d,rfl⟩,?_⟩;show _∈sj hs a p _;unfold sj;grind
theorem ahy{X a}{p}{e}:e∈vX hs a (jl hs X p)↔∃c,e=jl hs a (push p c)/\t X (push p c)≠[]/\t a (push p c)≠[]/\hs (t a<|push p c)≠hs (t X<|push p c)/\c≠0:=by
 unfold vX;simp only[rU];constructor
 .rintro⟨k,g,b⟩;obtain⟨d,f⟩:=B1.1 g;unfold sr at b;split at b;.rename_i h;rw[mu]at b;exact⟨k.1,b,d,h.1,by rw[<-f];exact h.2.1,h.2.2⟩
  grind
 .rintro⟨c,rfl,d,f,i,j⟩;refine⟨(c,hs<|t X<|push p c),B1.2 ⟨d,rfl⟩,?_⟩;show _∈sr hs a p _;unfold sr;grind
theorem ni.quiet(M:ni hs A B X a m ℓ){b}(c:b∈m.nodes){n f}(d:below b.pfx n f=Z):D (aV a m) n f=D B n f/\D X n f=D A n f:=by refine⟨?_,(M.act b c n f d).1⟩;rw[Jj M.bk.sX M.bk.sY M.bu,if_neg,(M.act b c n f d).2];intro h;obtain⟨x,e,rfl,rfl⟩:=F9.1 h;rw[M.apart x e b c]at d;grind
theorem aiK{x}(d:Good x){p}{c}(b:below (push p c) x.name x.field=Z):p.size+1<=14/\(c≠0->p.size+1<=13):=by
 rw[xF,zQ,Be]at b;have j:=b.length_le;have i:=d.GF;have h:=d.Pe;simp only[kM,oT,uX]at j i h;refine⟨by omega,λg=>?_⟩;refine ou λf=>g ?_;have e:(bl p++[c]).length=(bl x.name++46::(bl x.field++[0])).length:=by grind[List.length_append,List.length_cons,List.length_nil,uX]
 have:=b.eq_of_length e;grind[List.append_inj']
theorem ni.step(M:ni hs A B X a m ℓ):ni hs B A (aV a m) X (q hs (aV a m) m)<|ℓ+1:=by
 have r:∀x∈(q hs (aV a m) m).bu,x∈aV a m/\((∃w∈m.cq,below w x.name x.field=Z)\/∃g∈m.nodes,∃c,below (push g.pfx c) x.name x.field=Z/\(t X (push g.pfx c)=[]\/c=0)):=by
  intro x k;simp only[q,rY,rU]at k;rcases k with⟨w,p,k⟩|⟨g,j,k⟩;.grind[nA]
  .rw[M.node g j]at k;grind[YA,nA]
 have i:∀d∈(q hs (aV a m) m).nodes,∃g∈m.nodes,∃c,d=jl hs (aV a m) (push g.pfx c)/\t X (push g.pfx c)≠[]/\t (aV a m) (push g.pfx c)≠[]/\hs (t (aV a m)<|push g.pfx c)≠hs (t X<|push g.pfx c)/\c≠0:=by intro d b;simp only[q,M.roots,aie,tU,rU]at b;obtain⟨g,j,k⟩:=b;rw[M.node g j]at k;grind[ahy]
 have o:∀w∈(q hs (aV a m) m).cq,∃g∈m.nodes,∃c,w=push g.pfx c/\(t (aV a m) (push g.pfx c)=[]\/c=0):=by intro w p;simp only[q,rU]at p;obtain⟨g,j,k⟩:=p;rw[M.node g j]at k;grind[Sy]
 have P:=M.bk.aV M.bu;refine⟨P,λx k=>(r x k).1,λd b=>?_,λd b=>?_,λd b=>?_,λy=>?_,λd b=>?_,λw p=>?_,λw p d b=>?_,λx k d b=>?_,λd b n f s=>?_,rfl⟩;.obtain⟨g,j,c,rfl,_⟩:=i d b;rfl
 .obtain⟨g,j,c,rfl,_⟩:=i d b;show(push g.pfx c).size=_;rw[size_push,M.size g j]
 .obtain⟨g,j,c,rfl,_,_,_,v⟩:=i d b;show(0:UInt8)∉bl (push g.pfx c);rw[zQ,rY,mu];rintro(h|h);.exact M.nz g j h
  grind
 .obtain⟨d,b⟩:=Cf _ y;obtain⟨g,j,c,rfl,H,_,_,v⟩:=i d b;obtain⟨x,k⟩:=Cf _ H;obtain⟨u,F⟩:=nA.1 k;have:=(aiK (M.bk.gX x u) F).2 v;rw[M.size g j]at this;grind
 .obtain⟨g,j,c,rfl,_,_,J,_⟩:=i d b;show∃n f,below (push g.pfx c) n f=Z/\_;refine ou λG=>J ?_;rw[BB P.sX M.bk.sX λn f s=>?_];obtain⟨L,I⟩:=M.quiet j<|zU s;grind
 .obtain⟨g,j,c,rfl,_⟩:=o w p;rw[size_push,M.size g j]
 .obtain⟨g,j,c,rfl,u⟩:=o w p;obtain⟨l,Q0,D,rfl,_,F,_,K⟩:=i d b;show push g.pfx c≠push l.pfx D;grind[push_inj]
 .obtain⟨l,Q0,D,rfl,u,_,_,K⟩:=i d b;show below (push l.pfx D) x.name x.field=ai;rw[Bool.eq_false_iff];intro s;obtain⟨_,⟨w,p,E⟩|⟨g,j,c,C,v⟩⟩:=r x k;.exact M.dis w p l Q0<|am9 E (zU s)<|by rw[M.Mo w p,M.size l Q0]
  .have e:=am9 C s (by rw[size_push,size_push,M.size g j,M.size l Q0]);rw[<-e]at u;obtain⟨_,I⟩:=push_inj e;grind
 .obtain⟨g,j,c,rfl,_⟩:=i d b;have z:below (push g.pfx c) n f=Z:=s;exact M.quiet j<|zU z
def Clear(hs:List s->Int)(A B:List s):Prop:=∀p,(∃x,(x∈A\/x∈B)/\below p x.name x.field=Z)->hs (t A p)=hs (t B p)->t A p=t B p
def Conv(X a:List s)(m:dR):Prop:=∀n f,(∃nd∈m.nodes,below nd.pfx n f=Z)\/(∃w∈m.cq,below w n f=Z/\ir (D (aV a m) n f) (D X n f)=D (aV a m) n f)\/D X n f=D (aV a m) n f
theorem ni.conv(M:ni hs A B X a m ℓ)(I:Clear hs A B\/m.nodes=[])(h:Conv X a m):Conv (aV a m) X<|q hs (aV a m) m:=by
 have v:=M.step;intro n f;have k:=Jj v.bk.sX v.bk.sY v.bu n f;have N:=λ(l H:List s)=>SB (n:=n) (f:=f) (tc l n f)<|tc H n f;have P:told (q hs (aV a m) m).bu n f=Z->D (aV a m) n f≠V:=λp=>by obtain⟨x,j,rfl,rfl⟩:=F9.1 p;exact PW<|v.bu x j
 have E:D X n f=D (aV a m) n f->D (aV a m) n f=D (aV X<|q hs (aV a m) m) n f:=λe=>by grind[El]
 rcases h n f with⟨d,Q3,o⟩|⟨w,G,o,z⟩|e
 .obtain⟨S,W⟩:=M.quiet Q3 o;have C:d.pfx.size<(iN n f).size:=by rw[<-uX,<-uX<|iN n f];have F:=xF.1 o;refine Nat.lt_of_le_of_ne F.length_le λO=>M.nz d Q3 ?_;rw[F.eq_of_length O,Be];simp
  obtain⟨c,r⟩:=am8 o C;have Q2:=M.node d Q3;by_cases j:t X (push d.pfx c)=[];.have L:=MA j r;refine aB<|aB ?_;cases Q0:D (aV a m) n f with|none=>grind|some y=>obtain⟨b,i,g⟩:=uD Q0;have p:told (q hs (aV a m) m).bu n f=Z:=F9.2 ⟨y,by simp only[q,rY,rU];grind[YA,nA],i,g⟩;rw[k,cJ p,L,Q0];rfl
  .by_cases Q0:t (aV a m) (push d.pfx c)=[]
   .have R:=MA Q0 r;refine aB<|ay ⟨push d.pfx c,?_,r,?_⟩;.simp only[q,rU];grind[Sy]
    grind[J5]
   .by_cases K:hs (t (aV a m)<|push d.pfx c)=hs (t X<|push d.pfx c)
    .have Q1:=I.resolve_right λe=>by grind
     have Q:t X (push d.pfx c)=t A (push d.pfx c):=BB M.bk.sX M.bk.sA λn f o=>(M.quiet Q3<|zU o).2;have T:t (aV a m) (push d.pfx c)=t B (push d.pfx c):=BB v.bk.sX M.bk.sB λn f o=>(M.quiet Q3<|zU o).1;rw[Q]at j;obtain⟨x,j⟩:=Cf _ j;have:=Q1 (push d.pfx c) ⟨x,ay (nA.1 j).1,(nA.1 j).2⟩ (by grind);grind[sub_eq]
    .by_cases J:c=0
     .refine aB<|ay ⟨push d.pfx c,?_,r,?_⟩;.simp only[q,rU];grind[Sy]
      .cases b:D (aV a m) n f with|none=>rw[J5]|some y=>obtain⟨u,i,g⟩:=uD b;have p:told (q hs (aV a m) m).bu n f=Z:=F9.2 ⟨y,by simp only[q,rY,rU];refine aB ⟨d,Q3,?_⟩;rw[Q2];grind[YA,nA],i,g⟩;rw[k,cJ p,<-b];grind[SD,tc]
     .refine ay ⟨jl hs (aV a m)<|push d.pfx c,?_,r⟩;simp only[q,rY,rU];refine ay ⟨d,Q3,?_⟩;rw[Q2];exact ahy.2 ⟨c,rfl,j,Q0,K,J⟩
 .refine aB<|aB ?_;cases b:D (aV a m) n f with
  |none=>rw[k,if_neg λp=>P p b];rw[b]at z;cases j:D X n f with|none=>rfl|some x=>rw[j]at z;cases z
  |some y=>obtain⟨u,i,g⟩:=uD b;have p:told (q hs (aV a m) m).bu n f=Z:=F9.2 ⟨y,by simp only[q,rY,rU];exact ay ⟨w,G,nA.2 ⟨u,by rw[i,g];exact o⟩⟩,i,g⟩;rw[k,cJ p,N X<|aV a m,z,b]
 grind
end
def ia(h:Int):List UInt8:=[h/72057594037927936%256,h/281474976710656%256,h/1099511627776%256,h/4294967296%256,h/16777216%256,h/65536%256,h/256%256,h%256].map λz=>kT z.toNat
def jx(k:UInt8×Int):List UInt8:=k.1::ia k.2
def iV(n:Nd):List UInt8:=dh n.pfx++cZ jx n.kids
def gz(m:dR):List UInt8:=cZ gU m.bu++cZ dh m.cq++cZ iV m.nodes++cZ ia m.roots
section
variable {α:Type}
theorem Jn{f g:α->Nat}:∀{l:List α},(∀a∈l,f a<=g a)->(l.map f).sum<=(l.map g).sum|[],_=>aQ _|a::l,h=>Nat.add_le_add (h a<|vi ..)<|Jn λb e=>h b<|vh _ e
theorem sum_add{f g:α->Nat}:∀(l:List α),(l.map λa=>f a+g a).sum=(l.map f).sum+(l.map g).sum|[]=>rfl|a::l=>by simp only[gh,AA,sum_add l];omega
theorem DM{f:α->Nat}(k):∀(l:List α),(l.map λa=>f a*k).sum=(l.map f).sum*k|[]=>by simp|a::l=>by simp only[gh,AA,DM k l,Nat.add_mul]
theorem Mz(k):∀(l:List α),(l.map λ_=>k).sum=k*l.length|[]=>rfl|a::l=>by simp only[gh,AA,Mz k l,oT,aid];omega
theorem Ka{t:Type}{f:α->List t}:∀(l:List α),(l.flatMap f).length=(l.map λa=>(f a).length).sum|[]=>rfl|a::l=>by simp only[Et,kM,Ka l,gh,AA]
end
theorem awD{P:UInt8->Bool}{cs:List UInt8}(f:cs.Nodup)(h:∀c d,P c=Z->P d=Z->c=d):(cs.map λc=>if P c then 1 else 0).sum<=1/\((∀c,P c=ai)->(cs.map λc=>if P c then 1 else 0).sum=0):=by induction cs with|nil=>grind|cons c cs g=>
  by_cases e:P c=Z
  .have:(cs.map λc=>if P c then 1 else 0).sum=0:=by
    have:∀(l:List UInt8),(∀d∈l,d∈cs)->(l.map λc=>if P c then 1 else 0).sum=0:=by intro l;induction l with|nil=>grind|cons d l b=>grind
    grind
   grind
  grind
theorem awb(J:List s){cs:List UInt8}(b:cs.Nodup){P:UInt8->s->Bool}{Q}(h:∀c x,P c x=Z->Q x=Z)(f:∀c d x,P c x=Z->P d x=Z->c=d):(cs.map λc=>(J.filter<|P c).length).sum<=(J.filter Q).length:=by induction J with|nil=>simp only[Km,lF];rw[Mz];omega|cons x J g=>
  have e:(cs.map λc=>((x::J).filter<|P c).length)=cs.map λc=>(if P c x then 1 else 0)+(J.filter<|P c).length:=by grind
  rw[e,sum_add];obtain⟨j,i⟩:=awD (P:=λc=>P c x) b λc d=>f c d x;grind
theorem Yf:∀(a n),n<128^(a+1)->(k n).length<=a+1
 |0,n,h=>by grind[yS]|a+1,n,h=>by
  by_cases c:n<128;.grind[yS]
  .rw[GB c,oT];have:=Yf a (n/128) (by grind);omega
theorem awT(n):(k n).length<=1+n:=by induction n using Nat.strongRecOn with|_ n b=>grind[yS,GB,List.length_cons]
theorem GA{n}(h:n<128):(k n).length=1:=by grind[yS]
theorem My{s}(h:s.size<128):(dh s).length=1+s.size:=by unfold dh;grind[List.length_append,GA,uX]
theorem YH{e}{f:e->List UInt8}{l}{c}(h:∀x∈l,(f x).length+1<=c):(cZ f l).length<=1+c*l.length:=by unfold cZ;rw[kM,Ka];have g:=awT l.length;have d:=Jn (f:=λa=>(f a).length+1) (g:=λ_=>c) (l:=l) h;rw[sum_add,Mz,Mz]at d;omega
def Fits(x:s):Prop:=gS x.c<18446744073709551616/\gS x.r<18446744073709551616
theorem avz{x}(h:Good x)(b:Fits x):(gU x).length<=55:=by unfold gU;simp only[kM];have g:=My (s:=x.name) (by have:=h.GF;omega);have f:=My (s:=x.field) (by have:=h.Pe;omega);have d:=My (s:=x.value) (by have:=h.value;omega);have e:=Yf 9 (gS x.c) (Nat.lt_trans b.1<|by grind);have i:=Yf 9 (gS x.r) (Nat.lt_trans b.2<|by grind);have:=h.GF;have:=h.Pe;have:=h.value;omega
def keyBytes:List UInt8:=FJ.filter λc=>c==0||c==46||letter c
theorem azn:keyBytes.length=28:=by decide
theorem anb{x}(b:Good x){p}{c}(d:below (push p c) x.name x.field=Z):c=0\/c=46\/letter c=Z:=by
 rw[xF,zQ,Be]at d;have:c∈bl x.name++46::(bl x.field++[0]):=d.subset (by simp);simp only[rY,di,dJ]at this;rcases this with h|h|h|h;.have:=b.name;unfold yV at this;grind
 .grind
 .have:=b.field;unfold yV at this;grind
 grind
theorem ahf{X}(i:∀x∈X,Good x)(p):(qm X p).length<=28:=by
 rw[<-azn];have e:qm X p=(keyBytes).filter λc=>!(t X<|push p c).isEmpty:=by
  unfold qm keyBytes;rw[Zb];refine List.filter_congr λc _=>?_;cases j:(t X<|push p c).isEmpty
  .have b:t X (push p c)≠[]:=λe=>by grind
   obtain⟨x,d⟩:=Cf _ b;obtain⟨g,f⟩:=nA.1 d;rcases anb (i x g) f with rfl|rfl|h;.rfl
   .rfl
   grind
  grind
 grind
section
variable {hs:List s->Int} {A B X Y:List s} {m:dR} {ℓ:Nat}
theorem aw4(c:∀x∈X,Good x){p}(h:p.size<=13):(iV<|jl hs X p).length+1<=268:=by
 unfold iV;rw[kM];have e:=My (s:=p) (by omega);have g:=ahf c p;have f:(EC hs X p).length=(qm X p).length:=by unfold EC;grind
 have d:(cZ jx<|EC hs X p).length=1+9*(EC hs X p).length:=by unfold cZ;rw[kM,Ka,GA<|by omega];have:∀a,(jx a).length=9:=λa=>rfl;grind[Mz]
 show(dh p).length+(cZ jx<|EC hs X p).length+1<=268;omega
theorem Yw(g:∀x∈X,Good x/\Fits x)(k:∀x∈m.bu,x∈X)(c:∀w∈m.cq,w.size<=14)(d:∀b∈m.nodes,b=jl hs X b.pfx/\b.pfx.size<=13)(l:m.roots=[]):(gz m).length<=4+56*m.bu.length+16*m.cq.length+268*m.nodes.length:=by
 unfold gz;simp only[kM];have f:=YH (f:=gU) (l:=m.bu) (c:=56) λx i=>by grind[avz]
 have n:=YH (f:=dh) (l:=m.cq) (c:=16) λw h=>by grind[My]
 have j:=YH (f:=iV) (l:=m.nodes) (c:=268) λb h=>by grind[aw4]
 have e:(cZ ia m.roots).length=1:=by unfold cZ;grind[List.length_append,GA]
 omega
variable (A B)
def differ(x:s):Bool:=bP<|D A x.name x.field≠D B x.name x.field
def dC(p:ByteArray):Nat:=((t (fZ A B) p).filter<|differ A B).length
variable {A B}
theorem aEP(p){cs:List UInt8}(b:cs.Nodup):(cs.map λc=>dC A B<|push p c).sum<=dC A B p:=by
 unfold dC t;simp only[Zb];refine awb _ b (λc x h=>?_) λc d x h k=>?_;.grind[zU]
 .grind[ana]
theorem NO(c:j A)(b:j B)(n f):D (fZ A B) n f=ir (D A n f) (D B n f):=FH c B b n f
theorem ame(g:j A)(d:j B){p n f}(a:below p n f=Z)(h:D A n f≠D B n f):1<=dC A B p:=by cases b:D (fZ A B) n f with
 |none=>
  rw[NO g d]at b;cases i:D A n f<;>cases c:D B n f<;>rw[i,c]at b;.grind
  .cases b
  .cases b
  .cases b|some x=>obtain⟨e,rfl,rfl⟩:=uD b;exact List.length_pos_of_mem<|rX.2 ⟨nA.2 ⟨e,a⟩,Kk h⟩
theorem aEQ(b:j A)(d:j B){p}(h:∀n f,below p n f=Z->D B n f=V):(t A p).length=dC A B p:=by unfold dC;rw[BB (ue b B) b λn f i=>by grind[NO,J5]];rw[AD.2];intro x c;obtain⟨e,g⟩:=nA.1 c;refine Kk ?_;grind[PW]
theorem aEO(c:j A)(b:j B){p}(h:∀n f,below p n f=Z->D A n f=V):(t B p).length=dC A B p:=by unfold dC;rw[BB (ue c B) b λn f e=>by rw[NO c b,h n f e];rfl];rw[AD.2];intro x d;obtain⟨g,i⟩:=nA.1 d;refine Kk ?_;grind[PW]
theorem amd(b:j A)(a:j B)(p):dC B A p=dC A B p:=by unfold dC;rw[NP a b];unfold differ;grind
theorem sub_zero{l}(hs:j l)(b:∀x∈l,Good x)(p):(t l<|push p 0).length<=1:=by
 have f:∀x∈t l<|push p 0,bl x.key=bl p++[0]:=λx q=>by obtain⟨o,k⟩:=nA.1 q;have b:=b x o;rw[xF,zQ]at k;show bl (iN _ _)=_;obtain⟨P,g⟩:=k;rw[<-g];cases P with|nil=>simp|cons c P=>
   rw[Be]at g;have n:=xX b.name (c:=0) (by grind);have s:=xX b.field (c:=0) (by grind);have r:0∉bl x.name++46::bl x.field:=by grind
   by_cases u:0∈bl p
   .have d:bl p<+:bl x.name++46::bl x.field++[0]:=⟨0::c::P,by grind⟩;have:=by refine List.prefix_of_prefix_length_le d (ayU _ _) ?_;grind
    grind
   grind[YD]
 match h:t l (push p 0)with|[]=>simp|[x]=>simp|x::y::P=>have i:=(nA.1 (by grind:x∈t l (push p 0))).1;have a:=(nA.1 (by grind:y∈t l (push p 0))).1;have e:=hs.inj i a<|(sameKey_iff (b x i)<|b y a).2<|zR<|(f x<|by grind).trans (f y<|by grind).symm;have n:=(hs.filter λx=>below (push p 0) x.name x.field).nodup;unfold t at h;grind
end
variable{hs:List s->Int}{A B X Q:List s}{m:dR}{ℓ:Nat}
def wt(A B E:List s)(K:Nat)(R:List s)(W:List ByteArray)(N:List Nd):Nat:=56*R.length+16*W.length+268*N.length+(N.map λnd=>dC A B nd.pfx*K).sum+(W.map λw=>56*(t E w).length).sum
theorem Qn(b)(K)(R d)(W W')(N c):wt A B b K (R++d) (W++W') (N++c)=wt A B b K R W N+wt A B b K d W' c:=by unfold wt;grind
theorem Qm{t:Type}(d)(K)(r)(w)(n):∀(l:List t),wt A B d K (l.flatMap r) (l.flatMap w) (l.flatMap n)=(l.map λa=>wt A B d K (r a) (w a)<|n a).sum|[]=>rfl|a::l=>by simp only[Et,gh,AA];rw[Qn,Qm d K r w n l]
theorem VG(a)(K)(R):wt A B a K R [] []=56*R.length:=by simp[wt]
def jY(ℓ:Nat):Nat:=268*(13-ℓ)+128
def phi(A B E:List s)(ℓ:Nat)(m:dR):Nat:=(m.nodes.map λnd=>dC A B nd.pfx*jY ℓ).sum+(m.cq.map λw=>56*(t E w).length).sum
theorem ni.kid(M:ni hs A B X Q m ℓ){b:Nd}(o:b∈m.nodes){k:UInt8×Int}(w:k∈b.kids):wt A B (aV X<|q hs (aV Q m) m) (jY<|ℓ+1) (sk hs (aV Q m) b.pfx k) (sj hs (aV Q m) b.pfx k) (sr hs (aV Q m) b.pfx k)<=dC A B (push b.pfx k.1)*jY ℓ:=by
 have d:=M.step;rw[M.node b o]at w;obtain⟨H,K⟩:=B1.1 w;have I:∀n f,below (push b.pfx k.1) n f=Z->D (aV Q m) n f=D B n f:=λn f c=>(M.quiet o<|zU c).1;have Q1:∀n f,below (push b.pfx k.1) n f=Z->D X n f=D A n f:=λn f c=>(M.quiet o<|zU c).2;have u:128<=jY ℓ:=by unfold jY;omega
 by_cases s:t (aV Q m) (push b.pfx k.1)=[]
 ·have g:sk hs (aV Q m) b.pfx k=[]:=by unfold sk;grind
  have i:sj hs (aV Q m) b.pfx k=[push b.pfx k.1]:=by unfold sj;grind
  have j:sr hs (aV Q m) b.pfx k=[]:=by unfold sr;grind
  have y:∀n f,below (push b.pfx k.1) n f=Z->D B n f=V:=λn f c=>by grind[MA]
  have E:t (aV X<|q hs (aV Q m) m) (push b.pfx k.1)=t A (push b.pfx k.1):=BB (QV M.bk.sX _) M.bk.sA λn f c=>by rw[Jj d.bk.sX d.bk.sY d.bu,if_neg,Q1 n f c];intro G;obtain⟨x,r,rfl,rfl⟩:=F9.1 G;exact PW (d.bu x r)<|MA s c
  have N:t X (push b.pfx k.1)=t A (push b.pfx k.1):=BB M.bk.sX M.bk.sA Q1;have z:=aEQ M.bk.sA M.bk.sB y;have J:1<=(t A<|push b.pfx k.1).length:=by grind
  rw[g,i,j];unfold wt;simp only[lF,zc,qs,Nx,gh,AA,E];rw[z]at J⊢;have:=SP (dC A B<|push b.pfx k.1) u;omega
 ·by_cases v:hs (t (aV Q m)<|push b.pfx k.1)=k.2
  ·have g:sk hs (aV Q m) b.pfx k=[]:=by unfold sk;grind
   have i:sj hs (aV Q m) b.pfx k=[]:=by unfold sj;grind
   have j:sr hs (aV Q m) b.pfx k=[]:=by unfold sr;grind
   rw[g,i,j];exact lP _
  ·have O:1<=dC A B (push b.pfx k.1):=by refine ou λp=>v ?_;rw[K,BB d.bk.sX M.bk.sX λn f c=>?_];rw[I n f c,Q1 n f c];exact ou λh=>p<|ame M.bk.sA M.bk.sB c λe=>h e.symm
   by_cases l:k.1=0
   ·have g:sk hs (aV Q m) b.pfx k=t (aV Q m) (push b.pfx k.1):=by unfold sk;grind
    have i:sj hs (aV Q m) b.pfx k=[push b.pfx k.1]:=by unfold sj;grind
    have j:sr hs (aV Q m) b.pfx k=[]:=by unfold sr;grind
    have F:=sub_zero d.bk.sX d.bk.gX b.pfx;have L:=sub_zero (QV M.bk.sX<|q hs (aV Q m) m) (d.bk.aV d.bu).gX b.pfx;rw[<-l]at F L;rw[g,i,j];unfold wt;simp only[lF,zc,qs,Nx,gh,AA];have:=SP (dC A B<|push b.pfx k.1) u;omega
   ·have g:sk hs (aV Q m) b.pfx k=[]:=by unfold sk;rw[if_neg];exactλh=>l h.2.2
    have i:sj hs (aV Q m) b.pfx k=[]:=by unfold sj;rw[if_neg];exactλh=>h.elim s λh=>l h.2
    have j:sr hs (aV Q m) b.pfx k=[jl hs (aV Q m)<|push b.pfx k.1]:=by unfold sr;rw[cJ ⟨s,v,l⟩]
    have P:ℓ+1<=13:=by obtain⟨x,r⟩:=Cf _ H;obtain⟨C,a⟩:=nA.1 r;have:=(aiK (M.bk.gX x C) a).2 l;rw[M.size b o]at this;exact this
    have Q0:jY ℓ=jY (ℓ+1)+268:=by unfold jY;omega
    rw[g,i,j];unfold wt;simp only[lF,zc,qs,Nx,gh,AA];show _+dC A B (push b.pfx k.1)*jY (ℓ+1)+0+0<=_;rw[Q0,aid];omega
theorem ni.nd(M:ni hs A B X Q m ℓ){nd}(j:nd∈m.nodes):wt A B (aV X<|q hs (aV Q m) m) (jY<|ℓ+1) (yx hs (aV Q m) nd) (vW hs (aV Q m) nd) (vX hs (aV Q m) nd)<=dC A B nd.pfx*jY ℓ:=by
 have o:=M.node nd j;have z:128<=jY ℓ:=by unfold jY;omega
 have d:vW hs (aV Q m) nd=vW hs (aV Q m) nd++[]:=(tU _).symm;have r:vX hs (aV Q m) nd=vX hs (aV Q m) nd++[]:=(tU _).symm;rw[d,r];unfold yx;rw[Qn,VG];unfold vW vX;rw[Qm];have s:=Jn (l:=nd.kids) (f:=λk=>wt A B (aV X<|q hs (aV Q m) m) (jY<|ℓ+1) (sk hs (aV Q m) nd.pfx k) (sj hs (aV Q m) nd.pfx k)<|sr hs (aV Q m) nd.pfx k) (g:=λk=>dC A B (push nd.pfx k.1)*jY ℓ) λk P=>M.kid j P;have v:56*((DZ (aV Q m) nd).flatMap λc=>t (aV Q m)<|push nd.pfx c).length<=((DZ (aV Q m) nd).map λc=>dC A B (push nd.pfx c)*jY ℓ).sum:=by
  rw[Ka,SR,<-DM];refine Jn λc x=>?_;have l:c∈DZ (aV Q m) (jl hs X nd.pfx):=by grind
  obtain⟨_,w⟩:=Sw.1 l;rw[BB (QV M.bk.sY m) M.bk.sB λn f i=>(M.quiet j<|zU i).1,aEO M.bk.sA M.bk.sB λn f i=>by rw[<-(M.quiet j<|zU i).2];grind[MA]];exact SP _<|by omega
 have u:(nd.kids.map λk=>dC A B (push nd.pfx k.1)*jY ℓ).sum=((qm X nd.pfx).map λc=>dC A B (push nd.pfx c)*jY ℓ).sum:=by rw[o];show(((qm X nd.pfx).map _).map _).sum=_;rw[Ex];rfl
 have h:(qm X nd.pfx++DZ (aV Q m) nd).Nodup:=by rw[Ew];refine⟨Yg _ _,(Yg _ _).filter _,λa y b i e=>?_⟩;grind[M9,Sw]
 have p:=aEP (A:=A) (B:=B) nd.pfx h;rw[wU,List.sum_append]at p;rw[DM,DM]at u;rw[DM]at v s;have C:=aih (jY ℓ) p;grind
theorem ni.aoO(M:ni hs A B X Q m ℓ)(o:∀x∈aV Q m,Fits x)(p:m.cq=[]\/ℓ<=14):(gz<|q hs (aV Q m) m).length+phi B A (aV X<|q hs (aV Q m) m) (ℓ+1) (q hs (aV Q m) m)<=4+phi A B (aV Q m) ℓ m:=by
 have d:=M.step;have f:wt A B (aV X<|q hs (aV Q m) m) (jY<|ℓ+1) (q hs (aV Q m) m).bu (q hs (aV Q m) m).cq (q hs (aV Q m) m).nodes<=phi A B (aV Q m) ℓ m:=by
  have j:(q hs (aV Q m) m).cq=[]++m.nodes.flatMap (vW hs<|aV Q m):=rfl;have k:(q hs (aV Q m) m).nodes=[]++m.nodes.flatMap (vX hs<|aV Q m):=by show _++m.roots.flatMap _=_;rw[M.roots];simp
  have l:(q hs (aV Q m) m).bu=m.cq.flatMap (t<|aV Q m)++m.nodes.flatMap (yx hs<|aV Q m):=rfl;rw[j,k,l,Qn,VG,Qm,Ka,SR,<-DM];unfold phi;have n:=Jn (l:=m.nodes) (f:=λb=>wt A B (aV X<|q hs (aV Q m) m) (jY<|ℓ+1) (yx hs (aV Q m) b) (vW hs (aV Q m) b)<|vX hs (aV Q m) b) (g:=λb=>dC A B b.pfx*jY ℓ) λb c=>M.nd c;grind
 have h:phi B A (aV X<|q hs (aV Q m) m) (ℓ+1) (q hs (aV Q m) m)=phi A B (aV X<|q hs (aV Q m) m) (ℓ+1) (q hs (aV Q m) m):=by unfold phi;congr 2;exact Ke λb _=>by rw[amd M.bk.sA M.bk.sB]
 have i:=Yw (m:=q hs (aV Q m) m) (X:=aV Q m) (hs:=hs) (λx g=>⟨d.bk.gX x g,o x g⟩) d.bu (λw e=>?_) (λb c=>⟨d.node b c,by have n:=d.deep<|GR c;have P:=d.size b c;omega⟩) rfl;.have r:phi A B (aV X<|q hs (aV Q m) m) (ℓ+1) (q hs (aV Q m) m)=((q hs (aV Q m) m).nodes.map λb=>dC A B b.pfx*jY (ℓ+1)).sum+((q hs (aV Q m) m).cq.map λw=>56*(t (aV X<|q hs (aV Q m) m) w).length).sum:=rfl;unfold wt at f;omega
 .rw[d.Mo w e];simp only[q,rU]at e;obtain⟨b,c,_⟩:=e;have:=M.deep<|GR c;omega
def rk(m:dR)(ℓ:Nat):Nat:=if m.nodes=[]then(if m.cq=[]then 0 else 1)else 15-ℓ
theorem ni.avN(M:ni hs A B X Q m ℓ)(h:(q hs (aV Q m) m).none=ai):rk (q hs (aV Q m) m) (ℓ+1)<rk m ℓ:=by
 unfold rk;by_cases b:m.nodes=[]
 .have f:(q hs (aV Q m) m).nodes=[]:=by simp[q,b,M.roots]
  have d:(q hs (aV Q m) m).cq=[]:=by simp[q,b]
  by_cases c:m.cq=[]
  .have e:(q hs (aV Q m) m).bu=[]:=by simp[q,b,c]
   unfold dR.none at h;grind
  grind
 .have g:=M.deep b;grind
abbrev jF:ByteArray:=⟨#[]⟩
structure gQ(hs:List s->Int)(cl:Prop)(A B X Q:List s)(m:dR)(P k:Nat):Prop where
 bk:tA A B X Q
 fX:∀x∈X,Fits x
 fY:∀x∈Q,Fits x
 zl:X=A/\Q=B/\m=⟨[],[],[],[hs A]⟩/\76+3880*dC A B jF<=P/\16<=k/\(cl->Clear hs A B)\/∃ℓ,ni hs A B X Q m ℓ/\(m.cq=[]\/ℓ<=14)/\(gz m).length+4*rk m ℓ+phi A B (aV Q m) ℓ m<=P/\rk m ℓ<=k/\(cl->Conv X Q m/\(Clear hs A B\/m.nodes=[]))
section
variable {hs:List s->Int} {cl:Prop} {A B X Q:List s} {m m':dR} {P k:Nat}
theorem Mw(Q)(h):aV Q ⟨[],[],[],[h]⟩=Q:=rfl
theorem ard(d:∀x∈X,Fits x)(b:∀x∈Q,Fits x)(c:∀x∈m.bu,x∈X):∀x∈aV Q m,Fits x:=λx a=>by
 rcases abx a with h|h;.grind
 grind
theorem gQ.bu(T:gQ hs cl A B X Q m P k):∀x∈m.bu,x∈X:=by
 rcases T.zl with⟨rfl,rfl,rfl,_⟩|⟨a,M,_⟩;.grind
 .exact M.bu
theorem gQ.tk(T:gQ hs cl A B X Q m P k):tA B A (aV Q m) X/\∀x∈aV Q m,Fits x:=⟨T.bk.aV T.bu,ard T.fX T.fY T.bu⟩
theorem aEN(d:j A)(c:j B)(h:hs A≠hs B):1<=dC A B jF/\∃n f,below jF n f=Z/\D B n f≠D A n f:=by
 have:∃n f,D B n f≠D A n f:=by refine ou λg=>h ?_;rw[Di d c λn f=>ou λe=>g ⟨n,f,λb=>e b.symm⟩]
 obtain⟨n,f,e⟩:=this;exact⟨ame d c (LO n f) λb=>e b.symm,n,f,LO n f,e⟩
theorem gQ.size(T:gQ hs cl A B X Q m P k):(gz m).length<=P:=by
 rcases T.zl with⟨rfl,rfl,rfl,b,_⟩|⟨c,M,_,b,_⟩
 .have:(gz ⟨[],[],[],[hs X]⟩).length=12:=by unfold gz cZ;simp only[kM,lF,GA<|show 0<128 by grind,GA<|show 1<128 by grind,zc,Et];rfl
  omega
 grind
theorem gQ.next(T:gQ hs cl A B X Q m P k)(h:IQ hs Q m=U m'):∃y v,(gz m).length+y<=P∧v<k∧gQ hs cl B A (aV Q m) X m' y v:=by
 have d:=T.tk;unfold IQ at h;split at h;·grind
 rename_i F;injection h with h;subst h;rcases T.zl with⟨rfl,rfl,rfl,H,J,a⟩|⟨g,M,s,H,J,a⟩
 ·have o:hs X≠hs Q:=λe=>F (by simp[q,dR.none,Mw,e]);have D:q hs (aV Q ⟨[],[],[],[hs X]⟩) ⟨[],[],[],[hs X]⟩=⟨[],[],[jl hs Q jF],[]⟩:=by simp[q,Mw,o]
  rw[D];rw[Mw]at d⊢;obtain⟨O,j⟩:=aEN T.bk.sA T.bk.sB o;have M:ni hs Q X Q X ⟨[],[],[jl hs Q jF],[]⟩ 0:=by
   refine⟨d.1,λx i=>by grind,λl b=>?_,λl b=>?_,λl b=>?_,λ_=>by omega,λl b=>?_,λw s=>by grind,λw s=>by grind,λx i=>by grind,λl b n f t=>⟨rfl,rfl⟩,rfl⟩<;>(simp only[mu]at b;subst b);·rfl
   ·rfl
   ·show(0:UInt8)∉bl jF;simp
   ·exact j
  have r:=Yw (m:=⟨[],[],[jl hs Q jF],[]⟩) (X:=Q) (hs:=hs) (λx i=>⟨T.bk.gY x i,T.fY x i⟩) M.bu λw s=>by grind (λl b=>⟨M.node l b,by rw[M.size l b];omega⟩) rfl;have z:phi Q X (aV X ⟨[],[],[jl hs Q jF],[]⟩) 0 ⟨[],[],[jl hs Q jF],[]⟩=dC X Q jF*3612:=by simp only[phi,gh,qs,AA,Nx];show dC Q X jF*jY 0+0+0=_;rw[amd T.bk.sA T.bk.sB,show jY 0=3612 from by decide];omega
  have L:rk ⟨[],[],[jl hs Q jF],[]⟩ 0=15:=by simp[rk]
  have G:(gz ⟨[],[],[],[hs X]⟩).length=12:=by unfold gz cZ;simp only[kM,aie,lF,GA<|show 0<128 by grind,GA<|show 1<128 by grind,zc,Et,tU];rfl
  simp only[lF,zc]at r;refine⟨(gz ⟨[],[],[jl hs Q jF],[]⟩).length+4*15+dC X Q jF*3612,15,by grind,by omega,⟨d.1,T.fY,T.fX,aB ⟨0,M,ay rfl,by grind,by grind,λc=>⟨λn f=>ay ⟨_,mu.2 rfl,LO n f⟩,ay λp u e=>?_⟩⟩⟩⟩;obtain⟨x,i,t⟩:=u;exact(a c p ⟨x,i.symm,t⟩ e.symm).symm
 ·have I:=M.step;have N:=M.avN (by grind);have C:=M.aoO d.2 s;refine⟨(gz<|q hs (aV Q m) m).length+4*rk (q hs (aV Q m) m) (g+1)+phi B A (aV X<|q hs (aV Q m) m) (g+1) (q hs (aV Q m) m),rk (q hs (aV Q m) m)<|g+1,by omega,by omega,⟨d.1,d.2,T.fX,aB ⟨g+1,I,?_,aQ _,aQ _,λc=>⟨M.conv (a c).2 (a c).1,?_⟩⟩⟩⟩
  ·by_cases e:(q hs (aV Q m) m).cq=[];·grind
   ·right;have:m.nodes≠[]:=λK=>e (by simp[q,K]);have:=M.deep this;omega
  ·rcases(a c).2 with E|e;·left;intro p u e;obtain⟨x,i,t⟩:=u;exact(E p ⟨x,i.symm,t⟩ e.symm).symm
   ·simp[q,e,M.roots]
theorem gQ.last(T:gQ hs cl A B X Q m P k)(h:IQ hs Q m=V)(c:cl):aV Q m=X/\X=fZ A B:=by
 have g:=T.tk;have b:aV Q m=X:=by
  unfold IQ at h;split at h
  .rename_i l;rcases T.zl with⟨rfl,rfl,rfl,t,o,i⟩|⟨r,M,u,t,o,i⟩
   .have y:hs X=hs Q:=by refine ou λj=>?_;simp[q,dR.none,Mw,j]at l
    rw[Mw];by_cases d:∃x,x∈X\/x∈Q;.obtain⟨x,d⟩:=d;have:=i c jF ⟨x,d,LO _ _⟩ (by grind[MB]);grind[MB]
    .rw[aic.2 λx h=>d ⟨x,ay h⟩,aic.2 λx h=>d ⟨x,aB h⟩]
   .simp only[dR.none,cG]at l;have e:aV X (q hs (aV Q m) m)=X:=by show List.foldl ins X (q hs (aV Q m) m).bu=X;grind
    refine Di g.1.sX T.bk.sX λn f=>?_;rcases(M.conv (i c).2 (i c).1) n f with⟨v,s,_⟩|⟨w,a,_⟩|h;.grind
    .grind
    grind
  grind
 refine⟨b,Di T.bk.sX (ue T.bk.sA B) λn f=>?_⟩;rw[NO T.bk.sA T.bk.sB];rcases T.bk.bX n f with p|p;.have o:=g.1.bX n f;grind[El,ahz]
 grind
theorem tA.start(b:j A)(a:j B)(c:∀x∈A,Good x)(d:∀x∈B,Good x):tA A B A B:=⟨b,a,b,a,c,d,λ_ _=>ay rfl,λ_ _=>ay rfl⟩
theorem gQ.root(d:j A)(c:j B)(a:∀x∈A,Good x/\Fits x)(b:∀x∈B,Good x/\Fits x):gQ hs (Clear hs A B) A B A B ⟨[],[],[],[hs A]⟩ (76+3880*dC A B jF) 16:=⟨.start d c (λx h=>(a x h).1) λx h=>(b x h).1,λx h=>(a x h).2,λx h=>(b x h).2,ay ⟨rfl,rfl,rfl,aQ _,aQ _,id⟩⟩
theorem gQ.auJ(u:j A)(p:j B)(g:∀x∈A,Good x/\Fits x)(o:∀x∈B,Good x/\Fits x):∃P k,gQ hs True A B A B ⟨A,[jF],[],[]⟩ P k/\k=1/\P=80+56*A.length+56*(A.length+B.length):=by
 have e:tA A B A B:=.start u p (λx h=>(g x h).1) λx h=>(o x h).1;have M:ni hs A B A B ⟨A,[jF],[],[]⟩ 0:=⟨e,λx h=>h,λb h=>by grind,λb h=>by grind,λb h=>by grind,λh=>absurd rfl h,λb h=>by grind,λw d=>by rw[mu.1 d];rfl,λw d b h=>by grind,λx K b h=>by grind,λb h=>by grind,rfl⟩;have c:=Yw (m:=⟨A,[jF],[],[]⟩) (X:=A) (hs:=hs) g M.bu λw d=>by rw[M.Mo w d];omega λb h=>by grind rfl;have t:∀(R l:List s),(R.foldl ins l).length<=l.length+R.length:=by intro R;induction R with|nil=>grind|cons x R E=>
   intro l;have a:∀(l:List s),(ins l x).length<=l.length+1:=by intro l;induction l with|nil=>exact aQ _|cons y l q=>unfold ins;grind
   grind
 have i:phi A B (aV B ⟨A,[jF],[],[]⟩) 0 ⟨A,[jF],[],[]⟩<=56*(A.length+B.length):=by simp only[phi,qs,Nx,gh,AA,MB,vg,Nat.add_zero];have:=t A B;show 56*(List.foldl ins B A).length<=_;omega
 have C:rk (⟨A,[jF],[],[]⟩:dR) 0=1:=by simp[rk]
 simp only[lF,zc]at c;refine⟨_,_,⟨e,λx h=>(g x h).2,λx h=>(o x h).2,aB ⟨0,M,aB<|by omega,by grind,by grind,λ_=>⟨λn f=>aB<|ay ⟨jF,mu.2 rfl,LO n f,?_⟩,aB rfl⟩⟩⟩,rfl,rfl⟩;rw[Jj e.sX e.sY M.bu];split;.grind[SD,tc]
 .rename_i F;have:D A n f=V:=by cases r:D A n f with|none=>rfl|some x=>obtain⟨a,z,v⟩:=uD r;exact absurd (F9.2 ⟨x,a,z,v⟩) F
  grind[J5]
end
end
section
open Go.RowKit
theorem ao7(z):jj (kT (z%256).toNat)=Y aq (z%256):=by grind[Int.emod_nonneg,Int.emod_lt_of_pos,jj,UInt8.toNat_ofNat_of_lt']
theorem Po(h):(ia h).length=8:=rfl
theorem al5(h):(ia h).map jj=(iy h).cells.toList:=by show List.map jj [_,_,_,_,_,_,_,_]=_;simp only[gh,qs,ao7];rfl
structure Ds(r g off cap a3 N:Nat)(z:List az)(l:List UInt8)(w W:ax):Prop where
 jv:fT r g off cap l ai W
 arr:W.heap[N]?=U (aH z.toArray 76 (0,0))ptr:W.cell? ⟨a3,0,V⟩=U (aF<|U ⟨r,0,V⟩)keep:O (λb=>b=r) w W
 lt:N<W.heap.size
theorem aoc{r g a cap b N}{z}{l}{w W}(h:Ds r g a cap b N z l w W):Ds r g a cap b N z l w W.drew:=⟨⟨h.jv.box,h.jv.fits,h.jv.lt,h.jv.ne,h.jv.cells⟩,h.arr,h.ptr,⟨h.keep.os,h.keep.tape,h.keep.output,h.keep.size,h.keep.block⟩,h.lt⟩
theorem al2(r g d cap a3)(h)(t)(w)(P:fT r g d cap (ia h++t) ai w)(hc:w.cell? ⟨a3,0,V⟩=U (aF r))(ha:a3≠r):bz Q 146 #[aF a3] w λe QY=>e=bj (iy h)/\wv r g t w QY:=by
 obtain⟨x,z,G,A,D,y,F,B,hD⟩:∃x z G A D y F B:Int,iy h=bO #[Y aq x,Y aq z,Y aq G,Y aq A,Y aq D,Y aq y,Y aq F,Y aq B]:=⟨_,_,_,_,_,_,_,_,rfl⟩;have hV:(ia h).map jj=[Y aq x,Y aq z,Y aq G,Y aq A,Y aq D,Y aq y,Y aq F,Y aq B]:=(al5 h).trans (by rw[hD];rfl);have R:=Po h;rw[hD];generalize ia h=q at*;have oZ:=P.BI;have J:=P.lt;have QX:a3<w:=by
  rcases Nat.lt_or_ge a3 w with h|h;.exact h
  .simp[pz,x3 h]at hc
 obtain⟨s,m⟩:∃s:List az,s=List.replicate 8 (Y aq 0):=⟨_,rfl⟩;obtain⟨w1,ez⟩:=ex<|w.alloc<|aH #[Y aq 0,Y aq 0,Y aq 0,Y aq 0,Y aq 0,Y aq 0,Y aq 0,Y aq 0] 76;have hI1:Ds r g d cap a3 w s (q++t) w w1:=by rw[ez,m];exact⟨P.below ((dK _ _).alloc (aQ _) _)<|aQ _,gI _ _,by grind[World.cell?_alloc_lt],O.alloc _ _ _,by simp⟩
 have hp:∀W:ax,Ds r g d cap a3 w s (q++t) w W->W.cell? a3=U (aF<|U r):=λW p=>p.ptr;have HT:dx<|∀W,Ds r g d cap a3 w s (q++t) w W->bz Q 147 #[aF r,Y aG 8] W λe QY=>e=bj (aC (U ⟨g,d,V⟩) 8 8)/\(∃H,Ds r g H (cap-8) a3 w s t w QY)/\∀j(Q2:j<q.length),QY.cell? ⟨g,d+j,V⟩=jj q[j]:=X λW p=>(Q8 r g d cap 8 _ W p.jv<|by grind).mono λe QY⟨h1,⟨o,h2⟩,u⟩=>by
   have hd:(q++t).drop 8=t:=by grind
   rw[hd]at h2;refine⟨h1,⟨o,h2,(u.block _ p.lt<|by omega).trans p.arr,?_,p.keep.trans u,cB p.lt u.size⟩,λj Q2=>?_⟩;.exact(ew (a:=a3)<|u.block _ (cB QX p.keep.size) ha).trans p.ptr
   .have:=p.jv.cells j (by grind);rw[aif Q2]at this;exact(ew (a:=⟨g,d+j,V⟩)<|u.block _ (cB J p.keep.size) p.jv.ne).trans this
 have QW:s.length=8:=by grind
 have Q1:=cH.mk ez QW;have T:dx<|∀W:ax,(∀j(Q2:j<q.length),W.cell? ⟨g,d+j,V⟩=jj q[j])->∀j v,((q).map jj)[j]?=U v->W.cell? ((⟨g,d,V⟩:eF).add j)=U v:=X λW K j v hv=>by grind[Option.map_eq_some_iff,List.getElem?_eq_some_iff,Addr.add_lit]
 have HB:dx<|∀W Q3:ax,aY w W Q3->W.cell? a3=U (aF r)->Q3.cell? a3=U (aF r):=X λW Q3 C h=>(C.cell (p:=a3) QX).trans h;have L:dx<|((q).map jj).length=Nat.min 8 8:=X (by grind);go_enter aqO,ntmps146;go_wp2;rw[<-Q1.a];go_region_held3λW=>W.cell? a3=U (aF<|U r)(with_reducible(first|assumption|exact Ds.ptr<|by assumption|exact Ds.ptr<|aoc<|by assumption|exact HB.out _ _ (by assumption)<|Ds.ptr<|by assumption))((first|(go_at_call 147;with_reducible refine jm (HT.out _ ?ez) ?_;(case ez=>grind[aoc]);rintro e w2⟨rfl,⟨N,l⟩,K⟩)|(with_reducible refine step_copy_splice rfl (cy 2) (cy 4) 79 79 rfl 5 tB (by kernel_rfl) _ _ 8 8 8 8 rfl rfl w 0 s 76 l.arr ((q).map jj) ?c1 ?c2 ?c3 (ao6 _) w w2 (dK _ _) (aQ _) ?_;(case c1=>grind);(case c2=>exactλ_=>⟨rfl,_,rfl,T.out _ K⟩);(case c3=>rw[Q1.b,Cb,R];grind);intro n u k)));have c:n.heap[w.heap.size]?=U (aH #[Y aq x,Y aq z,Y aq G,Y aq A,Y aq D,Y aq y,Y aq F,Y aq B] 76 (0,0)):=by have:=u.out;rw[asy _ _<|by rw[Q1.b,L.out];rfl,hV]at this;grind
 have hk3:O (λb=>b=r) w n:=⟨k.os.trans l.keep.os,k.tape.trans l.keep.tape,k.output.trans l.keep.output,bC l.keep.size k.size,λb C Q0=>(k.block b C).trans<|l.keep.block b C Q0⟩;have S:=l.jv.keep (k.block r oZ) (k.block g J) k.size;have q0:n.cell? w=U (Y aq x):=M c 0;have q1:n.cell? ⟨w,1,V⟩=U (Y aq z):=M c 1;have q2:n.cell? ⟨w,2,V⟩=U (Y aq G):=M c 2;have q3:n.cell? ⟨w,3,V⟩=U (Y aq A):=M c 3;have q4:n.cell? ⟨w,4,V⟩=U (Y aq D):=M c 4;have q5:n.cell? ⟨w,5,V⟩=U (Y aq y):=M c 5;have q6:n.cell? ⟨w,6,V⟩=U (Y aq F):=M c 6;have q7:n.cell? ⟨w,7,V⟩=U (Y aq B):=M c 7;have fz:∀i,n.frozen? ⟨w,i,V⟩=ai:=by grind[Joins.unfrozen_of_block]
 have HA:=gR.mk (show uO w 76 n #[Y aq x,Y aq z,Y aq G,Y aq A,Y aq D,Y aq y,Y aq F,Y aq B] n from⟨c,O.refl _ _⟩) hk3 S;go_wp2;generalize OW:jL _ _ _=WF;obtain⟨I,f⟩:=OW▸(((((((HA.a.set 0 _).set 1 _).set 2 _).set 3 _).set 4 _).set 5 _).set 6 _).set 7 _;simp only[eE,eD,eu]at I;refine tV (results_cell_row rfl _ _ w 76 _ (0,0) _ rfl I QK rfl<|by kernel_rfl) rfl ?_;obtain⟨-,E,P⟩:=HA;have:=E.size;exact⟨rfl,⟨N,_,P.keep (f.block _ (by omega)<|by omega) (f.block _ (by omega)<|by omega) f.size⟩,⟨f.os.trans E.os,f.tape.trans E.tape,f.output.trans E.output,bC E.size f.size,λb C Q0=>(f.block b (by omega)<|by omega).trans<|E.block b C Q0⟩⟩
def gZ(k:UInt8×Int):az:=bO<|#[jj k.1]++(iy k.2).cells
structure FY(r a3 a4:Nat)(w:ax):Prop where
 p3:w.cell? ⟨a3,0,V⟩=U (aF<|U ⟨r,0,V⟩)p4:w.cell? ⟨a4,0,V⟩=U (dF (ei 146) #[] #[aF<|U ⟨a3,0,V⟩])n3:a3≠r
 n4:a4≠r
theorem Db{w:ax}{b i}{v}(h:w.cell? ⟨b,i,V⟩=U v):b<w:=by
 rcases Nat.lt_or_ge b w with a|a;.exact a
 .simp[pz,x3 a]at h
theorem FY.keep{r a3 a4}{w w'}(h:FY r a3 a4 w)(c:O (λb=>b=r) w w'):FY r a3 a4 w':=⟨(ew (a:=a3)<|c.block _ (Db h.p3) h.n3).trans h.p3,(ew (a:=a4)<|c.block _ (Db h.p4) h.n4).trans h.p4,h.n3,h.n4⟩
theorem azh(r g p cap QZ a4)(k)(t)(w)(F:fT r g p cap (jx k++t) ai w)(L:FY r QZ a4 w):bz Q 148 #[aF QZ,aF a4] w λe w'=>e=bj (gZ k)/\wv r g t w w':=by
 obtain⟨c,I⟩:=k;obtain⟨P,R,d2,T,QW,QX,d6,W,C⟩:∃P R d2 T QW QX d6 W:Int,iy I=bO #[Y aq P,Y aq R,Y aq d2,Y aq T,Y aq QW,Y aq QX,Y aq d6,Y aq W]:=⟨_,_,_,_,_,_,_,_,rfl⟩;have hK:gZ (c,I)=bO #[Y aq c.toNat,Y aq P,Y aq R,Y aq d2,Y aq T,Y aq QW,Y aq QX,Y aq d6,Y aq W]:=by unfold gZ;rw[C];rfl
 rw[hK];have oZ:=F.BI;have sG:=F.lt;have AM:=Db L.p3;have Hl:=Db L.p4;obtain⟨y,D⟩:=ex<|w.alloc<|aH #[Y aq 0,Y aq 0,Y aq 0,Y aq 0,Y aq 0,Y aq 0,Y aq 0,Y aq 0,Y aq 0] 233;have f:O (λb=>b=r) w y:=by grind[O.alloc]
 have n:fT r g p cap (c::(ia I++t)) ai y:=by rw[D];exact F.below ((dK _ _).alloc (aQ _) _)<|aQ _
 have x:y.heap[w.heap.size]?=U (aH #[Y aq 0,Y aq 0,Y aq 0,Y aq 0,Y aq 0,Y aq 0,Y aq 0,Y aq 0,Y aq 0] 233 (0,0)):=by grind[World.alloc_heap_new]
 have m:w.heap.size<y:=by grind
 have v:=L.keep f;have p3:=L.p3;have C1:=X (Q8 r g p cap 1 _ y n<|by simp);have HW:=X D;have HK:=Bm.mk f n x m v C;go_enter aqN,ntmps148;go_wp2_with(rw[<-HW.out];go_at_call 147;go_must(refine C1.out.mono ?_);rintro e u⟨rfl,vG⟩;have H2:=X vG;refine Halt.of ?_);unfold Halt;obtain⟨f,n,x,m,v,C⟩:=HK;obtain⟨⟨o2,j⟩,d⟩:=H2.out;have vz:=d.size;have j:fT r g o2 (cap-1) (ia I++t) ai u:=j;have o:=v.keep d;have H:=(d.block _ m<|by omega).trans x;have p3:=o.p3;have p4:=o.p4;have q1:u.cell? ⟨r,1,V⟩=U (cx ai):=M j.box 1;have q2:u.cell? ⟨g,p,V⟩=U (Y aq c.toNat):=by have:=n.cells 0 (by simp);exact(ew (a:=⟨g,p,V⟩)<|d.block _ n.lt n.ne).trans this
 have Q2:∀i:_root_.Fin 9,u.cell? ⟨w,i.val,V⟩=U (Y aq 0):=λi=>(M H i.val).trans (by obtain⟨i,hi⟩:=i;rcases i with _|_|_|_|_|_|_|_|_|i<;>first|rfl|grind);have fz:∀i,u.frozen? ⟨w,i,V⟩=ai:=by grind[Joins.unfrozen_of_block]
 have z:=FT.mk j d o H m f C Q2;have y0:u.cell? w=U (Y aq 0):=Q2 0;go_wp2_with(go_at_call 146;refine Halt.of ?_);unfold Halt;obtain⟨j,d,o,H,m,f,C,Q2⟩:=id z;have QY:=d.size;obtain⟨N,E⟩:=ex<|u.setCell ⟨w.heap.size,0,V⟩<|Y aq c.toNat;have K:uO w 233 u #[Y aq c.toNat,Y aq 0,Y aq 0,Y aq 0,Y aq 0,Y aq 0,Y aq 0,Y aq 0,Y aq 0] N:=by rw[E];exact uO.set ⟨H,O.refl _ _⟩ 0 _
 rw[<-E];have S:=j.keep (K.keep.block r (by omega)<|by omega) (K.keep.block g (by omega)<|by omega) K.keep.size;have Q3:=(ew (a:=⟨QZ,0,V⟩)<|K.keep.block _ (by grind)<|by grind).trans o.p3;have q:=gR.mk K S Q3;refine(al2 r g o2 (cap-1) QZ I t N q.b q.c z.c.n3).mono ?_;rintro e l⟨rfl,⟨o4,c4,Q0⟩,G⟩;rw[z.g];have s:l.heap[w.heap.size]?=U (aH #[Y aq c.toNat,Y aq 0,Y aq 0,Y aq 0,Y aq 0,Y aq 0,Y aq 0,Y aq 0,Y aq 0] 233 (0,0)):=(G.block _ (by have:=z.e;have:=z.b.size;have:=q.a.keep.size;omega)<|by omega).trans q.a.block;have u0:l.cell? w=U (Y aq c.toNat):=M s 0;have u1:l.cell? ⟨w,1,V⟩=U (Y aq 0):=M s 1;have u2:l.cell? ⟨w,2,V⟩=U (Y aq 0):=M s 2;have u3:l.cell? ⟨w,3,V⟩=U (Y aq 0):=M s 3;have u4:l.cell? ⟨w,4,V⟩=U (Y aq 0):=M s 4;have u5:l.cell? ⟨w,5,V⟩=U (Y aq 0):=M s 5;have u6:l.cell? ⟨w,6,V⟩=U (Y aq 0):=M s 6;have u7:l.cell? ⟨w,7,V⟩=U (Y aq 0):=M s 7;have u8:l.cell? ⟨w,8,V⟩=U (Y aq 0):=M s 8;have fz:∀i,l.frozen? ⟨w,i,V⟩=ai:=by grind[Joins.unfrozen_of_block]
 have HA:=gR.mk (show uO w.heap.size 233 l #[Y aq c.toNat,Y aq 0,Y aq 0,Y aq 0,Y aq 0,Y aq 0,Y aq 0,Y aq 0,Y aq 0] l from⟨s,O.refl _ _⟩) G Q0;go_wp2;generalize OW:jL _ _ _=WF;obtain⟨B,h⟩:=OW▸((((((((((((((((HA.a.set 1 _).set 2 _).set 3 _).set 4 _).set 5 _).set 6 _).set 7 _).set 8 _).set 0 _).set 1 _).set 2 _).set 3 _).set 4 _).set 5 _).set 6 _).set 7 _).set 8 _;simp only[eE,eD,eu]at B;refine tV (results_cell_row rfl _ _ w.heap.size 233 _ (0,0) _ rfl B apg rfl<|by kernel_rfl) rfl ?_;obtain⟨-,J,F⟩:=HA;obtain⟨j,d,o,H,m,f,-,-⟩:=z;have A:=q.a.keep;have QY:=d.size;have qZ:=A.size;have wX:=J.size;refine⟨rfl,⟨o4,c4,F.keep (h.block _ (by omega)<|by omega) (h.block _ (by omega)<|by omega) h.size⟩,?_⟩;exact⟨h.os.trans<|J.os.trans<|A.os.trans<|d.os.trans f.os,h.tape.trans<|J.tape.trans<|A.tape.trans<|d.tape.trans f.tape,h.output.trans<|J.output.trans<|A.output.trans<|d.output.trans f.output,by grind,λb hb Q1=>(h.block b (by omega)<|by omega).trans<|(J.block b (by omega) Q1).trans<|(A.block b (by omega)<|by omega).trans<|(d.block b (by omega) Q1).trans<|f.block b hb Q1⟩
def fO{α:Type}(f:α->az)(F:List α):List az:=F.flatMap λx=>(f x).cells.toList
theorem RB{a}(f)(F:List a){j}(b):fO f (F.take<|j+1)=fO f (F.take j)++(f F[j]).cells.toList:=by grind[fO,List.take_add_one,List.getElem?_eq_getElem,Option.toList_some]
structure Mg{α:Type}(f:α->az)(enc:α->List UInt8)(T sz r g a3 a4:Nat)(F:List α)(t:List UInt8)(w:ax)(j:Nat)(v:az)(W:ax):Prop where
 row:W.ownsRow w.heap.size T sz v j (fO f<|F.take j)jv:∃off cap,fT r g off cap ((F.drop j).flatMap enc++t) ai W
 keep:O (λb=>b=r) w W
theorem aiW:(Q.info? 233).map (λi=>(i.zero,i.size,i.bytes))=U (U<|bO #[Y aq 0,Y aq 0,Y aq 0,Y aq 0,Y aq 0,Y aq 0,Y aq 0,Y aq 0,Y aq 0],9,9):=by kernel_rfl
theorem azH:(Q.info? 76).map (λi=>(i.zero,i.size,i.bytes))=U (U<|bO #[Y aq 0,Y aq 0,Y aq 0,Y aq 0,Y aq 0,Y aq 0,Y aq 0,Y aq 0],8,8):=by kernel_rfl
theorem art(r g q cap N P)(F)(t)(w)(h:fT r g q cap (cZ dh F++t) ai w)(hF:∀s∈F,s.size<=1073741824)(hc:FY r N P w)(hz:F.length<=600000):bz Q 151 #[aF r,dF (ei 152) #[aF r] #[]] w λe W=>∃v,e=bj v∧W.ownsRow w 9 1 v F.length (fO aE F)∧wv r g t w W:=by
 rw[cZ,jw]at h;have T:=h.BI;have E:=h.lt;have S:=X (Gz r g q cap F.length _ w h<|by omega);have HF:=cH.mk hF hc;go_enter aqJ,ntmps151;go_wp2_with(go_at_call 194;go_must(refine S.out.mono ?_);rintro e w1⟨rfl,h1⟩;have D:=X h1;refine Halt.of ?_);unfold Halt;go_wp2;go_loopg[5,6]F.lengthλk s5 s6 wr=>∃(v:az)(j:Nat),v=s5∧s6=Y cP (k:Nat)∧k+j=F.length∧Mg aE dh 9 1 r g N P F t w j v wr;case atStart=>exact⟨_,0,rfl,rfl,rfl,⟨mL _ _ _ _,by simpa using D.out.1,D.out.2⟩⟩
 case round=>
  obtain⟨v,j,rfl,rfl,hk,A⟩:=hrel;obtain⟨o1,c1,n⟩:=A.jv;have b1:wr.cell? ⟨r,1,V⟩=U (cx ai):=M n.box 1;by_cases hj:j<F.length
  ·obtain⟨p,rfl⟩:∃p,gk=p+1:=⟨gk-1,by omega⟩;have G:(F.drop j).flatMap dh++t=dh F[j]++((F.drop<|j+1).flatMap dh++t):=by grind[List.drop_eq_getElem_cons,List.append_assoc]
   have y:=RB aE F hj;rw[G]at n;have u:=Mx r g o1 c1 F[j] _ wr n<|HF.a F[j]<|nC hj;obtain⟨s,hx⟩:∃s,F[j]=s:=⟨_,rfl⟩;rw[hx]at u y;have S:=X u;have i:=cH.mk A y;have KB:=A.keep.size;have H:cP.wrap (((p+1:Nat):Int)-1)=(p:Int):=by grind[IntKind.wrap_u64]
   have x:(0:Int)<((p+1:Nat):Int):=by omega
   obtain⟨K,J⟩:∃K:Int,K=((p+1:Nat):Int):=⟨_,rfl⟩;rw[<-J]at H x⊢;go_wp2_with(go_at_call 152;go_must(refine S.out.mono ?_);rintro e O⟨rfl,h5⟩;have z:=X h5;refine Halt.of ?_);unfold Halt;have o:O.ownsRow w 9 1 v j<|fO aE<|F.take j:=dB i.a.row λb l=>z.out.2.block b (i.a.row.lt b l).2 (by have:=(i.a.row.lt b l).1;omega);have lG:=z.out.2.size;have m:=X o;go_wp2_with(at_builtin;go_must(refine app1 rfl rfl By Cj rfl rfl (dB m.out λb l=>dr _ _ _ (m.out.lt b l).2) rfl (by grind) rfl rfl (by omega) (by simp;omega) ?_);intro Z Q0 B c _ lI;refine Halt.of ?_);have d:∀b,b<w.heap.size->Q0.heap[b]?=O.heap[b]?:=λb l=>(c.block b (by simp;omega) λe=>by have:=(m.out.lt b e.symm).1;omega).trans (dr _ _ _<|by omega);have R:=c.size;have L:Mg aE dh 9 1 r g N P F t w (j+1) Z Q0:=by
    refine⟨by rw[i.b];exact B,?_,?_⟩;·obtain⟨o5,c5,C⟩:=z.out.1;exact⟨o5,c5,C.keep (d r T) (d g E)<|by simp at R;omega⟩
    ·have f:=i.a.keep.trans z.out.2;exact⟨c.os.trans f.os,c.tape.trans f.tape,c.output.trans f.output,by grind,λb l hn=>(d b l).trans<|f.block b l hn⟩
   unfold Halt;go_wp2;go_roundg p;case rel=>exact⟨Z,j+1,rfl,by go_simp,by omega,(X L).out⟩
   grind
  ·have I:gk=0:=by omega
   subst I;have a:j=F.length:=by omega
   subst a;have i:=X A;go_wp2;go_ret;refine⟨_,rfl,?_,?_,i.out.keep⟩;·have:=i.out.row;rw[vk]at this;exact this
   ·have:=i.out.jv;grind
theorem aze(r g q cap y z)(F)(t)(w)(h:fT r g q cap (cZ jx F++t) ai w)(hF:True)(hc:FY r y z w)(hz:F.length<=600000):bz Q 155 #[aF r,dF (ei 148) #[] #[aF y,aF z]] w λe w'=>∃v,e=bj v∧w'.ownsRow w 233 9 v F.length (fO gZ F)∧wv r g t w w':=by
 rw[cZ,jw]at h;have Z:=h.BI;have H:=h.lt;have T:=X (Gz r g q cap F.length _ w h<|by omega);have HF:=cH.mk hF hc;go_enter aqF,ntmps155;go_wp2_with(go_at_call 194;go_must(refine T.out.mono ?_);rintro e w1⟨rfl,h1⟩;have H1:=X h1;refine Halt.of ?_);unfold Halt;go_wp2;go_loopg[5,6]F.lengthλk s5 s6 wr=>∃(v:az)(j:Nat),v=s5∧s6=Y cP (k:Nat)∧k+j=F.length∧Mg gZ jx 233 9 r g y z F t w j v wr;case atStart=>exact⟨_,0,rfl,rfl,rfl,⟨mL _ _ _ _,by simpa using H1.out.1,H1.out.2⟩⟩
 case round=>
  obtain⟨v,j,rfl,rfl,hk,A⟩:=hrel;obtain⟨o1,c1,n⟩:=A.jv;have b1:wr.cell? ⟨r,1,V⟩=U (cx ai):=M n.box 1;by_cases hj:j<F.length
  ·obtain⟨p,rfl⟩:∃p,gk=p+1:=⟨gk-1,by omega⟩;have L:(F.drop j).flatMap jx++t=jx F[j]++((F.drop<|j+1).flatMap jx++t):=by grind[List.drop_eq_getElem_cons,List.append_assoc]
   have x:=RB gZ F hj;rw[L]at n;have s:=azh r g o1 c1 y z F[j] _ wr n<|HF.b.keep A.keep;obtain⟨I,K,d2,Q1,C,J,d6,Q0,E,hx⟩:∃I K d2 Q1 C J d6 Q0 E:Int,gZ F[j]=bO #[Y aq I,Y aq K,Y aq d2,Y aq Q1,Y aq C,Y aq J,Y aq d6,Y aq Q0,Y aq E]:=⟨_,_,_,_,_,_,_,_,_,rfl⟩;rw[hx]at s x;have T:=X s;have i:=cH.mk A x;have KB:=A.keep.size;have N:cP.wrap (((p+1:Nat):Int)-1)=(p:Int):=by grind[IntKind.wrap_u64]
   have u:(0:Int)<((p+1:Nat):Int):=by omega
   obtain⟨kz,P⟩:∃kz:Int,kz=((p+1:Nat):Int):=⟨_,rfl⟩;rw[<-P]at N u⊢;go_wp2_with(go_at_call 148;go_must(refine T.out.mono ?_);rintro e R⟨rfl,h5⟩;have B:=X h5;refine Halt.of ?_);unfold Halt;have o:R.ownsRow w 233 9 v j<|fO gZ<|F.take j:=dB i.a.row λb l=>B.out.2.block b (i.a.row.lt b l).2 (by have:=(i.a.row.lt b l).1;omega);have lG:=B.out.2.size;have m:=X o;go_wp2_with(at_builtin;go_must(refine app1 rfl rfl adB aiW rfl rfl (dB m.out λb l=>dr _ _ _ (m.out.lt b l).2) rfl (by grind) rfl rfl (by omega) (by simp;omega) ?_);intro v7 w7 Of c _ lI;refine Halt.of ?_);have d:∀b,b<w.heap.size->w7.heap[b]?=R.heap[b]?:=λb l=>(c.block b (by simp;omega) λe=>by have:=(m.out.lt b e.symm).1;omega).trans (dr _ _ _<|by omega);have a:=c.size;have S:Mg gZ jx 233 9 r g y z F t w (j+1) v7 w7:=by
    refine⟨by rw[i.b];exact Of,?_,?_⟩;·obtain⟨o5,c5,D⟩:=B.out.1;exact⟨o5,c5,D.keep (d r Z) (d g H)<|by simp at a;omega⟩
    ·have f:=i.a.keep.trans B.out.2;exact⟨c.os.trans f.os,c.tape.trans f.tape,c.output.trans f.output,by grind,λb l hn=>(d b l).trans<|f.block b l hn⟩
   unfold Halt;go_wp2;go_roundg p;case rel=>exact⟨v7,j+1,rfl,by go_simp,by omega,(X S).out⟩
   grind
  ·have O:gk=0:=by omega
   subst O;have W:j=F.length:=by omega
   subst W;have i:=X A;go_wp2;go_ret;refine⟨_,rfl,?_,?_,i.out.keep⟩;·have:=i.out.row;rw[vk]at this;exact this
   ·have:=i.out.jv;grind
theorem aEx(r g q cap y B)(F)(t)(w)(h:fT r g q cap (cZ ia F++t) ai w)(hF:True)(hc:FY r y B w)(hz:F.length<=600000):bz Q 156 #[aF r,dF (ei 146) #[] #[aF y]] w λe w'=>∃v,e=bj v∧w'.ownsRow w 76 8 v F.length (fO iy F)∧wv r g t w w':=by
 rw[cZ,jw]at h;have P:=h.BI;have E:=h.lt;have R:=X (Gz r g q cap F.length _ w h<|by omega);have HF:=cH.mk hF hc;go_enter aqE,ntmps156;go_wp2_with(go_at_call 194;go_must(refine R.out.mono ?_);rintro e w1⟨rfl,h1⟩;have H1:=X h1;refine Halt.of ?_);unfold Halt;go_wp2;go_loopg[5,6]F.lengthλk s5 s6 wr=>∃(v:az)(j:Nat),v=s5∧s6=Y cP (k:Nat)∧k+j=F.length∧Mg iy ia 76 8 r g y B F t w j v wr;case atStart=>exact⟨_,0,rfl,rfl,rfl,⟨mL _ _ _ _,by simpa using H1.out.1,H1.out.2⟩⟩
 case round=>
  obtain⟨v,j,rfl,rfl,hk,z⟩:=hrel;obtain⟨o1,c1,n⟩:=z.jv;have b1:wr.cell? ⟨r,1,V⟩=U (cx ai):=M n.box 1;by_cases hj:j<F.length
  ·obtain⟨p,rfl⟩:∃p,gk=p+1:=⟨gk-1,by omega⟩;have J:(F.drop j).flatMap ia++t=ia F[j]++((F.drop<|j+1).flatMap ia++t):=by grind[List.drop_eq_getElem_cons,List.append_assoc]
   have x:=RB iy F hj;rw[J]at n;have s:=al2 r g o1 c1 y F[j] _ wr n (HF.b.keep z.keep).p3 HF.b.n3;obtain⟨G,I,d2,K,S,H,d6,O,hx⟩:∃G I d2 K S H d6 O:Int,iy F[j]=bO #[Y aq G,Y aq I,Y aq d2,Y aq K,Y aq S,Y aq H,Y aq d6,Y aq O]:=⟨_,_,_,_,_,_,_,_,rfl⟩;rw[hx]at s x;have R:=X s;have i:=cH.mk z x;have KB:=z.keep.size;have L:cP.wrap (((p+1:Nat):Int)-1)=(p:Int):=by grind[IntKind.wrap_u64]
   have u:(0:Int)<((p+1:Nat):Int):=by omega
   obtain⟨kz,N⟩:∃kz:Int,kz=((p+1:Nat):Int):=⟨_,rfl⟩;rw[<-N]at L u⊢;go_wp2_with(go_at_call 146;go_must(refine R.out.mono ?_);rintro e T⟨rfl,h5⟩;have A:=X h5;refine Halt.of ?_);unfold Halt;have o:T.ownsRow w 76 8 v j<|fO iy<|F.take j:=dB i.a.row λb l=>A.out.2.block b (i.a.row.lt b l).2 (by have:=(i.a.row.lt b l).1;omega);have lG:=A.out.2.size;have m:=X o;go_wp2_with(at_builtin;go_must(refine app1 rfl rfl aph azH rfl rfl (dB m.out λb l=>dr _ _ _ (m.out.lt b l).2) rfl (by grind) rfl rfl (by omega) (by simp;omega) ?_);intro v7 w7 Z c _ lI;refine Halt.of ?_);have d:∀b,b<w.heap.size->w7.heap[b]?=T.heap[b]?:=λb l=>(c.block b (by simp;omega) λe=>by have:=(m.out.lt b e.symm).1;omega).trans (dr _ _ _<|by omega);have W:=c.size;have a:Mg iy ia 76 8 r g y B F t w (j+1) v7 w7:=by
    refine⟨by rw[i.b];exact Z,?_,?_⟩;·obtain⟨o5,c5,C⟩:=A.out.1;exact⟨o5,c5,C.keep (d r P) (d g E)<|by simp at W;omega⟩
    ·have f:=i.a.keep.trans A.out.2;exact⟨c.os.trans f.os,c.tape.trans f.tape,c.output.trans f.output,by grind,λb l hn=>(d b l).trans<|f.block b l hn⟩
   unfold Halt;go_wp2;go_roundg p;case rel=>exact⟨v7,j+1,rfl,by go_simp,by omega,(X a).out⟩
   grind
  ·have Q0:gk=0:=by omega
   subst Q0;have D:j=F.length:=by omega
   subst D;have i:=X z;go_wp2;go_ret;refine⟨_,rfl,?_,?_,i.out.keep⟩;·have:=i.out.row;rw[vk]at this;exact this
   ·have:=i.out.jv;grind
structure I8(r a3 a4 a5:Nat)(w:ax):Prop extends FY r a3 a4 w where p5:w.cell? ⟨a5,0,V⟩=U (dF (ei 148) #[] #[aF<|U ⟨a3,0,V⟩,aF<|U ⟨a4,0,V⟩])n5:a5≠r
theorem I8.keep{r c e a5}{w w'}(h:I8 r c e a5 w)(d:O (λb=>b=r) w w'):I8 r c e a5 w':=⟨h.toFY.keep d,(ew (a:=a5)<|d.block _ (Db h.p5) h.n5).trans h.p5,h.n5⟩
theorem jD{W:ax}{B B' e sz n:Nat}{v}{xs}(h:W.ownsRow B e sz v n xs)(i:B'<=B):W.ownsRow B' e sz v n xs:=by
 refine⟨h.1,?_⟩;rcases h.2 with h|⟨g,a,b,f,d,c⟩;.grind
 .exact aB ⟨g,a,b,f,bC i d,c⟩
theorem fV{W:ax}{B e sz n:Nat}{v}{xs}(h:W.ownsRow B e sz v n xs):∃b a,v=aC b n a:=by rcases h.2 with⟨h,d⟩|⟨g,a,c,h,-⟩;all_goals grind
structure mY(r g a3 a4 a5 N:Nat)(l:List UInt8)(w W:ax):Prop where
 jv:∃off cap,fT r g off cap l ai W
 box:W.heap[N]?=U (aH #[aE ⟨#[]⟩,aC V 0 0] 184 (0,0))cap:I8 r a3 a4 a5 W
 keep:O (λb=>b=r) w W
 lt:N<W.heap.size
variable {r g a3 a4 a5 N:Nat} {l l':List UInt8} {w W W':ax}
theorem anT:mY r g a3 a4 a5 N l w W.drew↔mY r g a3 a4 a5 N l w W:=by constructor<;>rintro⟨⟨o,c,h⟩,e,a,b,d⟩<;>exact⟨⟨o,c,h.box,h.fits,h.lt,h.ne,h.cells⟩,e,⟨⟨a.p3,a.p4,a.n3,a.n4⟩,a.p5,a.n5⟩,⟨b.os,b.tape,b.output,b.size,b.block⟩,d⟩
theorem mY.c0(h:mY r g a3 a4 a5 N l w W):W.cell? N=U (aE ⟨#[]⟩):=M h.box 0
theorem mY.c1(h:mY r g a3 a4 a5 N l w W):W.cell? ⟨N,1,V⟩=U (aC V 0 0):=M h.box 1
theorem mY.fz(h:mY r g a3 a4 a5 N l w W):∀i,W.frozen? ⟨N,i,V⟩=ai:=λi=>vo h.box i
theorem mY.next(h:mY r g a3 a4 a5 N l w W)(a:wv r g l' W W')(b:N≠r):mY r g a3 a4 a5 N l' w W':=⟨a.1,(a.2.block _ h.lt b).trans h.box,h.cap.keep a.2,h.keep.trans a.2,cB h.lt a.2.size⟩
theorem mY.held(h:mY r g a3 a4 a5 N l w W):W.cell? a3=U (aF r)/\W.cell? a5=U (dF (ei 148) #[] #[aF a3,aF a4]):=⟨h.cap.p3,h.cap.p5⟩
theorem aw1(r g C cap a3 a4 a5)(n)(t)(w)(A:fT r g C cap (iV n++t) ai w)(D:I8 r a3 a4 a5 w)(L:n.pfx.size<=1073741824)(B:n.kids.length<=100000):bz Q 154 #[aF a3,aF a5] w λe j=>∃QW,e=bj (bO #[n.pfx,QW])∧j.ownsRow w 233 9 QW n.kids.length (fO gZ n.kids)∧wv r g t w j:=by
 obtain⟨p,i⟩:=n;simp only at L B⊢;simp only[iV,jw]at A;have oZ:=A.BI;have T:=A.lt;obtain⟨I,ez⟩:=ex<|w.alloc<|aH #[aE ⟨#[]⟩,aC V 0 0] 184;have hI1:mY r g a3 a4 a5 w (dh p++(cZ jx i++t)) w I:=by rw[ez];exact⟨⟨_,_,A.below ((dK _ _).alloc (aQ _) _)<|aQ _⟩,gI _ _,D.keep<|O.alloc _ _ _,O.alloc _ _ _,by simp⟩
 have k3:∀W:ax,∀l,mY r g a3 a4 a5 w l w W->W.cell? a3=U (aF<|U r):=λW l h=>h.cap.p3;have S:dx<|∀W,mY r g a3 a4 a5 w (dh p++(cZ jx i++t)) w W->bz Q 152 #[aF r] W λe j=>e=bj p∧mY r g a3 a4 a5 w (cZ jx i++t) w j:=X λW h=>by obtain⟨o,c,G⟩:=h.jv;exact(Mx r g o c p _ W G L).mono λe j⟨F,z⟩=>⟨F,h.next z<|by omega⟩
 have a:dx<|∀W,mY r g a3 a4 a5 w (cZ jx i++t) w W->bz Q 155 #[aF r,dF (ei 148) #[] #[aF a3,aF a4]] W λe j=>∃s cap,e=bj (aC s i.length cap)∧j.ownsRow (w+1) 233 9 (aC s i.length cap) i.length (fO gZ i)∧mY r g a3 a4 a5 w t w j:=X λW h=>by obtain⟨o,c,G⟩:=h.jv;exact(aze r g o c a3 a4 i t W G trivial h.cap.toFY<|bC B<|by decide).mono λe j⟨v,F,z,Q1⟩=>by obtain⟨s,cap,rfl⟩:=fV z;exact⟨s,cap,F,jD z h.lt,h.next Q1<|by omega⟩
 have Q3:=Db D.p3;have hl5:=Db D.p5;have HS:dx<|∀(W:ax)(x y:az),W.cell? a3=U (aF r)∧W.cell? a5=U (dF (ei 148) #[] #[aF a3,aF a4])->((W.setCell w x).setCell ⟨w,1,V⟩ y).cell? a3=U (aF r)∧((W.setCell w x).setCell ⟨w,1,V⟩ y).cell? a5=U (dF (ei 148) #[] #[aF a3,aF a4]):=X λW x y h=>by
  have K:a3≠w:=by omega
  have M:a5≠w:=by omega
  rw[SO _ ⟨w,1,V⟩ a3 _<|Nw K,SO _ w.heap.size a3 _<|Nw K,SO _ ⟨w,1,V⟩ a5 _<|Nw M,SO _ w.heap.size a5 _<|Nw M];exact h
 go_enter aqG,ntmps154;go_wp2;rw[<-(X ez).out];go_region_held3λW=>W.cell? a3=U (aF<|U r)∧W.cell? a5=U (dF (ei 148) #[] #[aF<|U a3,aF<|U a4])(with_reducible(first|exact mY.held<|by assumption|exact mY.held<|anT.2<|by assumption|exact HS.out _ _ _<|mY.held<|by assumption))((first|(go_at_call 152;with_reducible refine jm (S.out _ ?ez) ?_;(case ez=>grind[anT]);rintro e w2⟨rfl,kA⟩)|(go_at_call 155;with_reducible refine jm (a.out _ ?ez) ?_;(case ez=>grind);rintro e P⟨s,kc,rfl,f,k⟩;have b0:=k.c0;have b1:=k.c1;have fz:=k.fz)));have J:=X<|aM k f;go_wp2;generalize H:jL _ _ _=WF;obtain⟨m,d⟩:=H▸((show uO w 184 P _ P from⟨J.out.1.box,O.refl _ _⟩).set 0 _).set 1 _;simp only[eE,eD,eu]at m;refine tV (results_cell_row rfl _ _ w 184 _ (0,0) _ rfl m adA rfl<|by kernel_rfl) rfl ?_;obtain⟨⟨⟨Q0,Q2,E⟩,q,sI,u,R⟩,f⟩:=J.out;have QX:=d.size;refine⟨_,rfl,jD (dB f λb q=>d.block b (f.lt b q).2<|by have:=(f.lt b q).1;omega)<|by omega,⟨Q0,Q2,E.keep (d.block _ (by omega)<|by omega) (d.block _ (by grind)<|by omega) QX⟩,?_⟩;exact⟨d.os.trans u.os,d.tape.trans u.tape,d.output.trans u.output,bC u.size QX,λb q B=>(d.block b (by omega)<|by omega).trans<|u.block b q B⟩
def Aa(W:ax)(B:Nat):List Nd->List az->Prop|[],xs=>xs=[]|n::F,xs=>∃kv ys,xs=aE n.pfx::kv::ys/\W.ownsRow B 233 9 kv n.kids.length (fO gZ n.kids)/\Aa W B F ys
structure lK(W:ax)(B:Nat)(F:List Nd)(v:az)(xs:List az):Prop where
 row:W.ownsRow B 184 2 v F.length xs
 ins:Aa W B F xs
 sep:∀x∈xs,∀b,x.ownBlock=U b->B<=b/\b<W.heap.size/\v.ownBlock≠U b
theorem Aa.block{W W':ax}{B:Nat}:∀{F:List Nd}{xs:List az},Aa W B F xs->(∀x∈xs,∀b,x.ownBlock=U b->W'.heap[b]?=W.heap[b]?)->Aa W' B F xs|[],xs,h,_=>h|n::F,xs,⟨a,g,e,h,t⟩,c=>by subst e;exact⟨a,g,rfl,dB h λb d=>c a (by simp) b d,t.block λx f=>c x<|by simp[f]⟩
theorem Aa.snoc{W:ax}{B:Nat}{n:Nd}{kv:az}(b:W.ownsRow B 233 9 kv n.kids.length<|fO gZ n.kids):∀{F:List Nd}{xs:List az},Aa W B F xs->Aa W B (F++[n]) (xs++[aE n.pfx,kv])|[],xs,h=>by cases h;exact⟨kv,[],rfl,b,rfl⟩|m::F,xs,⟨a,c,e,h,t⟩=>by subst e;exact⟨a,c++[aE n.pfx,kv],rfl,h,t.snoc b⟩
theorem lK.nil(W)(B):lK W B [] (aC V 0 0) []:=⟨mL _ _ _ _,rfl,by simp⟩
theorem lK.block{W W'}{B}{F}{v}{xs}(h:lK W B F v xs)(d:∀b,B<=b->b<W->W'.heap[b]?=W.heap[b]?)(e:W.heap.size<=W'.heap.size):lK W' B F v xs:=⟨dB h.row λb a=>d b (h.row.lt b a).1 (h.row.lt b a).2,h.ins.block λx c b a=>d b (h.sep x c b a).1 (h.sep x c b a).2.1,λx c b a=>⟨(h.sep x c b a).1,cB (h.sep x c b a).2.1 e,(h.sep x c b a).2.2⟩⟩
theorem lK.snoc{W W'}{B}{F}{v v'}{xs}{n}{kv}(h:lK W B F v xs)(e:W.ownsRow B 233 9 kv n.kids.length<|fO gZ n.kids)(hs:∀b,kv.ownBlock=U b->v.ownBlock≠b)(i:W'.ownsRow B 184 2 v' (F.length+1)<|xs++[n.pfx,kv])(f:∀b,b<W.heap.size->v.ownBlock≠b->W'.heap[b]?=W.heap[b]?)(j:v'.ownBlock=v.ownBlock\/∃b,v'.ownBlock=U b/\W.heap.size<=b)(g:W.heap.size<=W'.heap.size):lK W' B (F++[n]) v'<|xs++[n.pfx,kv]:=by
 have d:∀x∈xs++[aE n.pfx,kv],∀b,x.ownBlock=U b->B<=b/\b<W/\v.ownBlock≠b:=λx a b c=>by
  rcases rY.1 a with a|a;.exact h.sep x a b c
  .simp only[di,dJ,dQ]at a;rcases a with rfl|rfl;.simp[Fz]at c
   .exact⟨(e.lt b c).1,(e.lt b c).2,hs b c⟩
 refine⟨by grind,(h.ins.snoc e).block λx a b c=>f b (d x a b c).2.1 (d x a b c).2.2,λx a b c=>?_⟩;grind
structure anV(r g:Nat)(F:List Nd)(t:List UInt8)(w:ax)(j:Nat)(v:az)(W:ax):Prop where
 row:∃xs,lK W w.heap.size (F.take j) v xs
 jv:∃off cap,fT r g off cap ((F.drop j).flatMap iV++t) ai W
 keep:O (λb=>b=r) w W
theorem ZK:(Q.info? 184).map (λi=>(i.zero,i.size,i.bytes))=U (U<|bO #[aE ⟨#[]⟩,aC V 0 0],2,40):=by kernel_rfl
theorem awZ(r g y cap Q1 a4 Q2)(F)(t)(w)(h:fT r g y cap (cZ iV F++t) ai w)(hF:∀n∈F,n.pfx.size<=1073741824∧n.kids.length<=100000)(hc:I8 r Q1 a4 Q2 w)(hz:F.length<=124000):bz Q 153 #[aF r,dF (ei 154) #[] #[aF Q1,aF Q2]] w λe w'=>∃v z,e=bj v∧lK w' w F v z∧wv r g t w w':=by
 rw[cZ,jw]at h;have oZ:=h.BI;have N:=h.lt;have HC:=X (Gz r g y cap F.length _ w h<|by omega);have HF:=X<|aM hF hc;obtain⟨i0,hi,a,QW,K⟩:=tT ZK;go_enter aqH,ntmps153;go_wp2_with(go_at_call 194;go_must(refine HC.out.mono ?_);rintro e w1⟨rfl,I⟩;have H1:=X I;refine Halt.of ?_);unfold Halt;go_wp2;go_loopg[5,6]F.lengthλk s5 s6 wr=>∃(v:az)(j:Nat),v=s5∧s6=Y cP (k:Nat)∧k+j=F.length∧anV r g F t w j v wr;case atStart=>exact⟨_,0,rfl,rfl,rfl,⟨⟨_,lK.nil _ _⟩,by simpa using H1.out.1,H1.out.2⟩⟩
 case round=>
  obtain⟨v,j,rfl,rfl,hk,E⟩:=hrel;obtain⟨o1,c1,q⟩:=E.jv;have b1:wr.cell? ⟨r,1,V⟩=U (cx ai):=M q.box 1;by_cases hj:j<F.length
  ·obtain⟨u,rfl⟩:∃u,gk=u+1:=⟨gk-1,by omega⟩;have O:(F.drop j).flatMap iV++t=iV F[j]++((F.drop<|j+1).flatMap iV++t):=by grind[List.drop_eq_getElem_cons,List.append_assoc]
   rw[O]at q;have A:=aw1 r g o1 c1 Q1 a4 Q2 F[j] _ wr q (HF.out.2.keep E.keep) (HF.out.1 _<|nC hj).1 (HF.out.1 _<|nC hj).2;obtain⟨p,hx⟩:∃p,F[j].pfx=p:=⟨_,rfl⟩;rw[hx]at A;have HC:=X A;have x:=X<|aM E hx;have KB:=E.keep.size;have P:cP.wrap (((u+1:Nat):Int)-1)=(u:Int):=by grind[IntKind.wrap_u64]
   have B:(0:Int)<((u+1:Nat):Int):=by omega
   obtain⟨kz,T⟩:∃kz:Int,kz=((u+1:Nat):Int):=⟨_,rfl⟩;rw[<-T]at P B⊢;go_wp2_with(go_at_call 154;go_must(refine HC.out.mono ?_);rintro e w5⟨kv,rfl,i,h5⟩;obtain⟨ad,kc,rfl⟩:=fV i;obtain⟨kn,m⟩:∃kn,F[j].kids.length=kn:=⟨_,rfl⟩;rw[m];have C:=X h5;have H6:=X<|aM m i;refine Halt.of ?_);unfold Halt;obtain⟨z,f⟩:=x.out.1.row;have H:=f.block λb I R=>C.out.2.block b R<|by omega C.out.2.size;have lG:=C.out.2.size;have J:(F.take j).length=j:=by grind
   have HNS:=X f;have d:=X<|aM H J;go_wp2_with(at_builtin;go_must(refine SS _ rfl _ _ 177 rfl w.heap.size 184 i0 (bO #[aE ⟨#[]⟩,aC V 0 0]) 2 40 Wi hi a QW K rfl (by decide) v j z rfl (dB (by have:=d.out.1.row;grind) λb s=>dr _ _ _ (d.out.1.row.lt b s).2) ⟨w5.heap.size,0,V⟩ 1 1 [aE p,aC ad kn kc] rfl rfl (BY (by grind) _ _ rfl) (by simp[A5]) (by unfold vQ;omega) (by omega) (by simp;omega) ?_);intro v7 w7 G c _ Q3;refine Halt.of ?_);have l:∀b,b<w.heap.size->w7.heap[b]?=w5.heap[b]?:=λb s=>(c.block b (by simp;omega) λe=>by have:=(d.out.1.row.lt b e.symm).1;omega).trans (dr _ _ _<|by omega);have D:=c.size;have Q0:anV r g F t w (j+1) v7 w7:=by
    have m:=H6.out.1;have i:=H6.out.2;rw[<-m]at G;have hsn:=d.out.1.snoc (W':=w7) (v':=v7) (n:=F[j]) (jD i<|by omega) λb I R=>by have:=(i.lt b I).1;have:=(HNS.out.row.lt b R).2;omega (by rw[d.out.2,x.out.2];exact G) (λb s hn=>(c.block b (by simp;omega) λe=>hn e.symm).trans<|dr _ _ _ s) (Q3.imp id λe=>⟨_,e,by simp⟩) (by simp at D;omega);have gB:F.take (j+1)=F.take j++[F[j]]:=by rw[wS,mq hj];rfl
    refine⟨by grind,?_,?_⟩;·obtain⟨o5,c5,L⟩:=C.out.1;exact⟨o5,c5,L.keep (l r oZ) (l g N)<|by simp at D;omega⟩
    ·have o:=x.out.1.keep.trans C.out.2;exact⟨c.os.trans o.os,c.tape.trans o.tape,c.output.trans o.output,by grind,λb s hn=>(l b s).trans<|o.block b s hn⟩
   unfold Halt;go_wp2;go_roundg u;case rel=>exact⟨v7,j+1,rfl,by go_simp,by omega,(X Q0).out⟩
   grind
  ·have S:gk=0:=by omega
   subst S;have Z:j=F.length:=by omega
   subst Z;have x:=X E;go_wp2;go_ret;obtain⟨z,f⟩:=x.out.row;rw[vk]at f;refine⟨_,z,rfl,f,?_,x.out.keep⟩;have:=x.out.jv;grind
structure jr(W:ax)(B p:Nat)(m:dR)(vr vw vn vd:az)(xs:List az):Prop where
 box:W.heap[p]?=U (aH #[vr,vw,vn,vd] 180 (0,0))lt:B<=p
 bu:W.ownsRow B 46 5 vr m.bu.length (rows m.bu)cq:W.ownsRow B 9 1 vw m.cq.length (fO aE m.cq)nodes:lK W B m.nodes vn xs
 roots:W.ownsRow B 76 8 vd m.roots.length<|fO iy m.roots
structure acS(m:dR):Prop where
 bu:∀x∈m.bu,Fit x
 cq:∀s∈m.cq,s.size<=1073741824
 nodes:∀n∈m.nodes,n.pfx.size<=1073741824/\n.kids.length<=100000
 nr:m.bu.length<=600000
 nw:m.cq.length<=600000
 nn:m.nodes.length<=124000
 nd:m.roots.length<=100000
structure mZ(r g a3 a4 a5:Nat)(l:List UInt8)(w W:ax):Prop where
 jv:∃off cap,fT r g off cap l ai W
 cap:I8 r a3 a4 a5 W
 keep:O (λb=>b=r) w W
variable {r g a3 a4 a5:Nat} {l l':List UInt8} {w W W':ax}
theorem anU:mZ r g a3 a4 a5 l w W.drew↔mZ r g a3 a4 a5 l w W:=by constructor<;>rintro⟨⟨o,c,h⟩,a,b⟩<;>exact⟨⟨o,c,h.box,h.fits,h.lt,h.ne,h.cells⟩,⟨⟨a.p3,a.p4,a.n3,a.n4⟩,a.p5,a.n5⟩,⟨b.os,b.tape,b.output,b.size,b.block⟩⟩
theorem mZ.next(h:mZ r g a3 a4 a5 l w W)(a:wv r g l' W W'):mZ r g a3 a4 a5 l' w W':=⟨a.1,h.cap.keep a.2,h.keep.trans a.2⟩
theorem mZ.held(h:mZ r g a3 a4 a5 l w W):W.cell? a3=U (aF r)/\W.cell? a4=U (dF (ei 146) #[] #[aF a3]):=⟨h.cap.p3,h.cap.p4⟩
theorem lK.base{W}{B B'}{F}{v}{xs}(h:lK W B F v xs)(c:B'<=B):lK W B' F v xs:=by refine⟨jD h.row c,?_,λx f b d=>⟨bC c (h.sep x f b d).1,(h.sep x f b d).2⟩⟩;have:=h.ins;clear h;induction F generalizing xs with|nil=>exact this|cons n F i=>obtain⟨k,m,e,j,o⟩:=this;exact⟨k,m,e,jD j c,i o⟩
set_option maxHeartbeats 2000000 in
theorem axS(m)(g B cap)(w)(TZ:(gz m).length<=cap)(hg:g<w.heap.size)(jJ:∀j(h),w.cell? ⟨g,B+j,V⟩=U (jj (gz m)[j]))(Q3:acS m):bz Q 100 #[aC (U ⟨g,B,V⟩) (gz m).length cap] w λe f=>∃p vr vw vn vd T,e=bj (aF<|U ⟨p,0,V⟩)/\jr f w p m vr vw vn vd T/\aY w w f:=by
 obtain⟨R,z,N,D⟩:=m;obtain⟨n,hn⟩:∃n,(gz ⟨R,z,N,D⟩).length=n:=⟨_,rfl⟩;have hmm:gz ⟨R,z,N,D⟩=cZ gU R++(cZ dh z++(cZ iV N++(cZ ia D++[]))):=by simp[gz]
 rw[hn];obtain⟨s,u⟩:=ex<|(((w.alloc<|aH #[aC (U ⟨g,B,V⟩) n cap,cx ai] 230).alloc<|aH #[aF<|U ⟨w.heap.size,0,V⟩] 228).alloc<|aH #[dF (ei 146) #[] #[aF<|U ⟨w.heap.size+1,0,V⟩]] 231).alloc<|aH #[dF (ei 148) #[] #[aF<|U ⟨w.heap.size+1,0,V⟩,aF<|U ⟨w.heap.size+1+1,0,V⟩]] 234;have I:aY w w s:=by rw[u];exact((((dK _ _).alloc (aQ _) _).alloc (by simp) _).alloc (by simp;omega) _).alloc (by simp;omega) _
 have Q0:s.heap.size=w+4:=by rw[u];simp
 have S:mZ w g (w+1) (w+1+1) (w+1+1+1) (cZ gU R++(cZ dh z++(cZ iV N++(cZ ia D++[])))) s s:=by
  refine⟨⟨B,cap,?_,by grind,by omega,by omega,λj hj=>?_⟩,⟨⟨?_,?_,by omega,by omega⟩,?_,by omega⟩,O.refl _ _⟩;.grind[Below.heap_alloc,World.alloc_heap_new]
  .rw[<-List.getElem_of_eq hmm<|by grind];exact(I.cell (p:=⟨g,B+j,V⟩) hg).trans<|jJ j<|by grind
  .rw[u,wR _ _ _<|by simp,wR _ _ _<|by simp];exact Ny _ _ _ _<|by simp
  .rw[u,wR _ _ _<|by simp];exact Ny _ _ _ _<|by simp
  .rw[u];exact Ny _ _ _ _<|by simp
 have k3:s.cell? ⟨w.heap.size+1,0,V⟩=U (aF<|U ⟨w.heap.size,0,V⟩):=S.cap.p3;have C1:dx<|∀W,mZ w g (w+1) (w+1+1) (w+1+1+1) (cZ gU R++(cZ dh z++(cZ iV N++(cZ ia D++[])))) s W->bz Q 149 #[aF w,dF (ei 150) #[aF w] #[]] W λe f=>(∃t cap,e=bj (aC t R.length cap)/\f.ownsRow s 46 5 (aC t R.length cap) R.length (rows R))/\mZ w g (w+1) (w+1+1) (w+1+1+1) (cZ dh z++(cZ iV N++(cZ ia D++[]))) s f/\O (λb=>b=w) W f:=X λW h=>by obtain⟨o,c,J⟩:=h.jv;have Q2:=h.keep.size;exact(ax1 w.heap.size g o c R _ W J Q3.bu Q3.nr).mono λe f⟨v,y,H,E⟩=>by obtain⟨t,cap,rfl⟩:=fV H;exact⟨⟨t,cap,y,jD H Q2⟩,h.next E,E.2⟩
 have C2:dx<|∀W,mZ w g (w+1) (w+1+1) (w+1+1+1) (cZ dh z++(cZ iV N++(cZ ia D++[]))) s W->bz Q 151 #[aF w,dF (ei 152) #[aF w] #[]] W λe f=>(∃t cap,e=bj (aC t z.length cap)/\f.ownsRow s 9 1 (aC t z.length cap) z.length (fO aE z))/\mZ w g (w+1) (w+1+1) (w+1+1+1) (cZ iV N++(cZ ia D++[])) s f/\O (λb=>b=w) W f:=X λW h=>by obtain⟨o,c,J⟩:=h.jv;have Q2:=h.keep.size;exact(art w.heap.size g o c _ _ z _ W J Q3.cq h.cap.toFY Q3.nw).mono λe f⟨v,y,H,E⟩=>by obtain⟨t,cap,rfl⟩:=fV H;exact⟨⟨t,cap,y,jD H Q2⟩,h.next E,E.2⟩
 have C3:dx<|∀W,mZ w g (w+1) (w+1+1) (w+1+1+1) (cZ iV N++(cZ ia D++[])) s W->bz Q 153 #[aF w,dF (ei 154) #[] #[aF<|U ⟨w+1,0,V⟩,aF<|U ⟨w+1+1+1,0,V⟩]] W λe f=>(∃t cap T,e=bj (aC t N.length cap)/\lK f s N (aC t N.length cap) T)/\mZ w g (w+1) (w+1+1) (w+1+1+1) (cZ ia D++[]) s f/\O (λb=>b=w) W f:=X λW h=>by obtain⟨o,c,J⟩:=h.jv;have Q2:=h.keep.size;exact(awZ w.heap.size g o c _ _ _ N _ W J Q3.nodes h.cap Q3.nn).mono λe f⟨v,T,y,H,E⟩=>by obtain⟨t,cap,rfl⟩:=fV H.row;exact⟨⟨t,cap,T,y,H.base Q2⟩,h.next E,E.2⟩
 have C4:dx<|∀W,mZ w g (w+1) (w+1+1) (w+1+1+1) (cZ ia D++[]) s W->bz Q 156 #[aF w,dF (ei 146) #[] #[aF<|U ⟨w+1,0,V⟩]] W λe f=>(∃t cap,e=bj (aC t D.length cap)/\f.ownsRow s 76 8 (aC t D.length cap) D.length (fO iy D))/\mZ w g (w+1) (w+1+1) (w+1+1+1) ([]:List UInt8) s f/\O (λb=>b=w) W f:=X λW h=>by obtain⟨o,c,J⟩:=h.jv;have Q2:=h.keep.size;exact(aEx w.heap.size g o c _ _ D _ W J trivial h.cap.toFY<|bC Q3.nd<|by decide).mono λe f⟨v,y,H,E⟩=>by obtain⟨t,cap,rfl⟩:=fV H;exact⟨⟨t,cap,y,jD H Q2⟩,h.next E,E.2⟩
 have HS:dx<|∀(W:ax)(o:Obj),W.cell? ⟨w+1,0,V⟩=U (aF w)/\W.cell? ⟨w+1+1,0,V⟩=U (dF (ei 146) #[] #[aF<|U ⟨w+1,0,V⟩])->(W.alloc o).cell? ⟨w+1,0,V⟩=U (aF w)/\(W.alloc o).cell? ⟨w+1+1,0,V⟩=U (dF (ei 146) #[] #[aF<|U ⟨w+1,0,V⟩]):=by grind[Lib.hid,World.cell?_alloc_lt,Db]
 have HW:=gR.mk u I Q0;clear TZ hg jJ Q3 hn hmm u I Q0;go_enter aq3,ntmps100;go_wp2;rw[<-HW.a];refine x4 ?_;refine DJ (λW=>W.cell? ⟨w.heap.size+1,0,V⟩=U (aF<|U ⟨w.heap.size,0,V⟩)/\W.cell? ⟨w.heap.size+1+1,0,V⟩=U (dF (ei 146) #[] #[aF<|U ⟨w.heap.size+1,0,V⟩])) [0,1,4,5,8,11,12,2,6,9,3,7,10,13,14,15,16] (by kernel_rfl) (mZ.held<|anU.2 S) (λ_ _ _ _ _ h=>h) ?_;repeat(apply qQ _ rfl (by kernel_rfl) rfl;.intro W d;obtain⟨A,G⟩:=d;go_simp;try with_reducible rfl)
 refine wE rfl (by kernel_rfl) λa K P=>?_;go_simp;go_at_call 149;refine jm (C1.out _<|anU.2 S) ?_;rintro e w5⟨⟨ar,cr,rfl,C⟩,hI5,hk5⟩;refine P.out _ _ (mZ.held hI5) ?_;repeat(apply qQ _ rfl (by kernel_rfl) rfl;.intro W d;obtain⟨A,G⟩:=d;go_simp;try with_reducible rfl)
 refine wE rfl (by kernel_rfl) λa K P=>?_;go_simp;go_at_call 151;refine jm (C2.out _ hI5) ?_;rintro e w6⟨⟨aw,cw,rfl,F⟩,O4,Q1⟩;refine P.out _ _ (mZ.held O4) ?_;repeat(apply qQ _ rfl (by kernel_rfl) rfl;.intro W d;obtain⟨A,G⟩:=d;go_simp;try with_reducible rfl)
 refine wE rfl (by kernel_rfl) λa K P=>?_;go_simp;go_at_call 153;refine jm (C3.out _ O4) ?_;rintro e w7⟨⟨an,cn,T,rfl,Y⟩,hI7,M⟩;refine P.out _ _ (mZ.held hI7) ?_;repeat(apply qQ _ rfl (by kernel_rfl) rfl;.intro W d;obtain⟨A,G⟩:=d;go_simp;try with_reducible rfl)
 refine wE rfl (by kernel_rfl) λa K P=>?_;go_simp;go_at_call 156;refine jm (C4.out _ hI7) ?_;rintro e w8⟨⟨t,cd,rfl,QW⟩,i,x⟩;refine P.out _ _ (mZ.held i) ?_;repeat(apply qQ _ rfl (by kernel_rfl) rfl;.intro W d;obtain⟨A,G⟩:=d;go_simp;try with_reducible rfl)
 refine wE rfl (by kernel_rfl) λa K P=>?_;go_simp;refine P.out _ _ (HS.out _ _<|mZ.held i) ?_;repeat(apply qQ _ rfl (by kernel_rfl) rfl;.intro W d;obtain⟨A,G⟩:=d;go_simp;try with_reducible rfl)
 refine DK (by kernel_rfl) λa=>?_;simp only[dj,fo,fg,fF,eE,eD,eu];refine tS ?_;have HX:=FT.mk i QW Y F C Q1 M x;go_wp2;go_ret;obtain⟨i,QW,Y,F,C,Q1,M,x⟩:=HX;obtain⟨-,I,Q0⟩:=HW;have z8:=i.keep.size;have zA:aY w.heap.size w w8:=I.trans ⟨i.keep.os,i.keep.tape,i.keep.output,i.keep.size,λb q=>i.keep.block b (by omega)<|by omega⟩;have kk:∀{W W':ax},O (λb=>b=w) W W'->∀b,s.heap.size<=b->b<W->W'.heap[b]?=W.heap[b]?:=λk b J y=>k.block b y (by omega);have al:∀(o:Obj)b,b<w8.heap.size->(w8.alloc o).heap[b]?=w8.heap[b]?:=by grind[Below.heap_alloc]
 have L:=dB C λb q=>kk Q1 b (C.lt b q).1 (C.lt b q).2;have L:=dB L λb q=>kk M b (L.lt b q).1 (L.lt b q).2;have L:=dB L λb q=>kk x b (L.lt b q).1 (L.lt b q).2;have Z:=dB F λb q=>kk M b (F.lt b q).1 (F.lt b q).2;have Z:=dB Z λb q=>kk x b (Z.lt b q).1 (Z.lt b q).2;have r7:=Y.block (λb J y=>kk x b J y) x.size;refine⟨w8.heap.size,_,_,_,_,T,rfl,⟨gI _ _,by omega,jD (dB L λb q=>al _ b (L.lt b q).2)<|by omega,jD (dB Z λb q=>al _ b (Z.lt b q).2)<|by omega,(r7.block (λb _ y=>al _ b y)<|by simp).base<|by omega,jD (dB QW λb q=>al _ b (QW.lt b q).2)<|by omega⟩,zA.alloc (by omega) _⟩
theorem al1(N)(v)(l)(h)(w)(s:dy N w v l)(K:N<=w)(I:l.length<=1099511627776):bz Q 170 #[v,iy h] w λe C=>∃q,e=bj q/\dy N C q (l++ia h)/\bS (de v) w (de q) C:=by obtain⟨f,i,k,j,d,g,m,c,B⟩:∃f i k j d g m c:Int,iy h=bO #[Y aq f,Y aq i,Y aq k,Y aq j,Y aq d,Y aq g,Y aq m,Y aq c]:=⟨_,_,_,_,_,_,_,_,rfl⟩;have D:(ia h).map jj=[Y aq f,Y aq i,Y aq k,Y aq j,Y aq d,Y aq g,Y aq m,Y aq c]:=(al5 h).trans (by rw[B];rfl);have r:=Po h;rw[B];generalize ia h=J at*;obtain⟨E,F,p,t,n⟩:=tT KA;have A:=X s;have y:=cH.mk D r;go_enter aqq,ntmps170;go_wp2_with(at_builtin;go_must(refine SS _ rfl _ _ 79 rfl N 5 E (Y aq 0) 1 1 tB F p t n rfl (by decide) v l.length (l.map jj) rfl (A.out.alloc _) w.heap.size 8 8 [Y aq f,Y aq i,Y aq k,Y aq j,Y aq d,Y aq g,Y aq m,Y aq c] rfl rfl (BY (by grind) _ _ rfl) (by simp[A5]) (by unfold vQ;omega) (by omega) (by simp;omega) ?_);intro G H o u _ x;have z:=cH.mk o<|YL (λb s=>(A.out.lt s).2) u x;refine Halt.of ?_);unfold Halt;go_wp2;go_ret;refine⟨_,rfl,?_,z.b⟩;unfold dy;have:=z.a;rw[wU,y.a,kM,y.b];exact this
theorem fH.alloc{N}{v0 v}{w0 W}{a}{cs}{T}{l}(h:fH N v0 w0 a cs T v l W)(o):fH N v0 w0 a cs T v l<|W.alloc o:=by exact⟨h.buf.alloc _,(dr _ _ _ (eX.1 h.box).1).trans h.box,h.off,h.left.trans ⟨O.alloc _ _ _,λb c=>ay c⟩,bC h.base<|by simp⟩
theorem ayA{v v'}{W W'}(a:W.grownBy W' v.ownBlock)(c:∀b,v'.ownBlock=U b->v.ownBlock=U b\/W.heap.size<=b):bS (de v) W (de v') W':=⟨⟨a.os,a.tape,a.output,a.size,λk g d=>a.block k g λe=>d e.symm⟩,λb f=>c b f⟩
theorem azg(N)(v)(l)(k)(w)(o:dy N w v l)(hN:N<=w)(hl:l.length<=549755813888):bz Q 169 #[v,gZ k] w λe T=>∃QX,e=bj QX/\dy N T QX (l++jx k)/\bS (de v) w (de QX) T:=by
 obtain⟨c,h⟩:=k;obtain⟨p,r,z,s,x,q,y,u,H⟩:∃p r z s x q y u:Int,iy h=bO #[Y aq p,Y aq r,Y aq z,Y aq s,Y aq x,Y aq q,Y aq y,Y aq u]:=⟨_,_,_,_,_,_,_,_,rfl⟩;have n:gZ (c,h)=bO #[Y aq c.toNat,Y aq p,Y aq r,Y aq z,Y aq s,Y aq x,Y aq q,Y aq y,Y aq u]:=by unfold gZ;rw[H];rfl
 rw[n];obtain⟨Q2,hi,L,G,F⟩:=tT KA;obtain⟨E,t⟩:=ex<|w.alloc<|aH #[Y aq c.toNat,Y aq p,Y aq r,Y aq z,Y aq s,Y aq x,Y aq q,Y aq y,Y aq u] 233;have A:fH N v w w #[Y aq c.toNat,Y aq p,Y aq r,Y aq z,Y aq s,Y aq x,Y aq q,Y aq y,Y aq u] 233 v l E:=by rw[t];exact⟨o.alloc _,gI _ _,λe=>by have:=(o.lt e).2;omega,⟨O.alloc _ _ _,λb o=>ay o⟩,by simp;omega⟩
 obtain⟨g,m⟩:∃g:Array az,g=#[Y aq c.toNat,Y aq p,Y aq r,Y aq z,Y aq s,Y aq x,Y aq q,Y aq y,Y aq u]:=⟨_,rfl⟩;rw[<-m]at A;have k0:∀W:ax,l9 w g 233 W->W.cell? w=U (Y aq c.toNat):=λW f=>(M f 0).trans (by grind);have k1:∀W:ax,l9 w g 233 W->W.cell? ⟨w,1,V⟩=U (Y aq p):=λW f=>(M f 1).trans (by grind);have k2:∀W:ax,l9 w g 233 W->W.cell? ⟨w,2,V⟩=U (Y aq r):=λW f=>(M f 2).trans (by grind);have k3:∀W:ax,l9 w g 233 W->W.cell? ⟨w,3,V⟩=U (Y aq z):=λW f=>(M f 3).trans (by grind);have k4:∀W:ax,l9 w g 233 W->W.cell? ⟨w,4,V⟩=U (Y aq s):=λW f=>(M f 4).trans (by grind);have k5:∀W:ax,l9 w g 233 W->W.cell? ⟨w,5,V⟩=U (Y aq x):=λW f=>(M f 5).trans (by grind);have k6:∀W:ax,l9 w g 233 W->W.cell? ⟨w,6,V⟩=U (Y aq q):=λW f=>(M f 6).trans (by grind);have k7:∀W:ax,l9 w g 233 W->W.cell? ⟨w,7,V⟩=U (Y aq y):=λW f=>(M f 7).trans (by rw[m];rfl);have k8:∀W:ax,l9 w g 233 W->W.cell? ⟨w,8,V⟩=U (Y aq u):=λW f=>(M f 8).trans (by rw[m];rfl);have C:jj c=Y aq c.toNat:=rfl;have HV:=cH.mk H C;have Z:=cH.mk t o;have P:=fH.Ci A;clear o t H n m C;go_enter aqr,ntmps169;go_wp2;rw[<-Z.a];refine x4 ?_;refine wp_region_held_drew (S:=λW=>l9 w.heap.size g 233 W) (by kernel_rfl) (Vz.2 P) λd=>?_;refine Kj (i:=0) (v:=?v0) rfl (by kernel_rfl) (by kernel_rfl) (by kernel_rfl) (λ_ _ _ h=>h) (ay ⟨by rfl,?AJ⟩) d ?afS;(case AJ=>(intro W i;go_simp;(try with_reducible rfl)));try simp only[dj,fo,fg,eE,eD,eu]
 refine Kj (i:=1) (v:=?v1) rfl (by kernel_rfl) (by kernel_rfl) (by kernel_rfl) (λ_ _ _ h=>h) (ay ⟨by rfl,?Co⟩) d ?afR;(case Co=>(intro W i;go_simp;(try with_reducible rfl)));try simp only[dj,fo,fg,fF,eE,eD,eu]
 refine Kj (i:=2) (v:=?v2) rfl (by kernel_rfl) (by kernel_rfl) (by kernel_rfl) (λ_ _ _ h=>h) (ay ⟨by rfl,?Cn⟩) d ?afQ;(case Cn=>(intro W i;go_simp;(try with_reducible rfl)));try simp only[dj,fo,fg,fF,eE,eD,eu]
 refine Kj (i:=5) (v:=?Q1) rfl (by kernel_rfl) (by kernel_rfl) (by kernel_rfl) (λ_ _ _ h=>h) (ay ⟨by rfl,?NX⟩) d ?afP;(case NX=>(intro W i;go_simp;(try with_reducible rfl)));try simp only[dj,fo,fg,fF,eE,eD,eu]
 refine Kj (i:=6) (v:=?v6) rfl (by kernel_rfl) (by kernel_rfl) (by kernel_rfl) (λ_ _ _ h=>h) (ay ⟨by rfl,?NW⟩) d ?afO;(case NW=>(intro W i;go_simp;(try with_reducible rfl)));try simp only[dj,fo,fg,fF,eE,eD,eu]
 refine Za (rs:=[3]) (by kernel_rfl) (by simp) ?_;refine Y9 rfl (λK n=>?_) Y8;go_simp;refine n.out _ _ (fH.Ci<|(IV.2 A).alloc _) λd=>?_;try simp only[dj,fo,fg,fF,eE,eD,eu]
 refine Za (rs:=[4]) (by kernel_rfl) (by simp) ?_;refine Y9 rfl (λK n=>?_) Y8;refine step_append_lies _ rfl (cy 5) (cy 8) 79 rfl N 5 Q2 (Y aq 0) 1 1 tB hi L G F rfl (by decide) v l.length (l.map jj) rfl ((IV.2 A).alloc _).buf ⟨E.heap.size,0,V⟩ 1 1 [Y aq c.toNat] rfl rfl (BY (by grind) _ _ rfl) (by simp[A5]) (by decide) (by unfold vQ;omega) (by omega) ((IV.2 A).alloc _).base _ rfl ?_;intro Q0 c4 R I QW B a;have j:fH N v w w g 233 (aC Q0 (l.length+1) c4) (l++[c]) R:=((IV.2 A).alloc _).next (by unfold dy;rw[wU,kM];exact I) (ayA QW λb o=>by cases o;exact B.imp id λe=>Nat.le_of_eq e.symm);refine n.out _ _ (fH.Ci j) λd=>?_;try simp only[dj,fo,fg,fF,eE,eD,eu]
 refine Za (rs:=[7]) (by kernel_rfl) (by simp) ?_;refine Y9 rfl (λK n=>?_) Y8;go_simp;go_at_call 170;rw[<-HV.a];refine jm (al1 N _ _ h R j.buf j.base<|by grind) ?_;rintro e w5⟨Q1,rfl,J,Q3⟩;have D:=j.next J Q3;refine n.out _ _ (fH.Ci D) λd=>?_;try simp only[dj,fo,fg,fF,eE,eD,eu]
 refine Kj (i:=8) (v:=?v8) rfl (by kernel_rfl) (by kernel_rfl) (by kernel_rfl) (λ_ _ _ h=>h) (ay ⟨by rfl,?hy8⟩) d ?avm;(case hy8=>(intro W i;go_simp;(try with_reducible rfl)));try simp only[dj,fo,fg,fF,eE,eD,eu]
 refine wpAnyH_done (by kernel_rfl) ?_ _;refine tS ?_;have S:=X D;go_wp2;go_ret;exact⟨_,rfl,by have:=S.out.buf;rw[jw]at this;exact this,S.out.left⟩
def pH{α:Type}(T sz:Nat)(f:α->az)(w:ax)(v:az)(F:List α):Prop:=w.ownsRow 0 T sz v F.length<|fO f F
theorem alp{t:Type}{f:t->az}{sz:Nat}(d:∀x,(f x).cells.size=sz):∀(F:List t)(j i:Nat)(b:j<F.length),i<sz->(fO f F)[j*sz+i]?=(f F[j]).cells[i]?
 |x::F,0,i,b,c=>by grind[fO,List.getElem?_append_left]|x::F,j+1,i,b,c=>by
  show((f x).cells.toList++fO f F)[_]?=_;rw[List.getElem?_append_right<|by grind];have:(j+1)*sz+i-(f x).cells.toList.length=j*sz+i:=by grind
  rw[this,alp d F j i (by grind) c];rfl
theorem pH.cell{o}{T sz}{f:o->az}{w}{v}{F}(h:pH T sz f w v F)(l:∀x,(f x).cells.size=sz){j}(d):∃g b,v=aC (U ⟨g,0,V⟩) F.length b/\g<w/\∀i x,i<sz->(f F[j]).cells[i]?=U x->w.cell? ⟨g,j*sz+i,V⟩=x:=by
 rcases h.2 with⟨p,q⟩|⟨g,b,n,c,_,m,-⟩;.omega
 .refine⟨g,b,c,(eX.1 m).1,λi x e k=>?_⟩;have:=Az h (g:=g) (by rw[c];rfl) (j*sz+i) x<|(alp l F j i d e).trans k;grind[Addr.add_lit]
theorem SE{t:Type}(e:t->List UInt8)(F:List t){j}(a):(F.take<|j+1).flatMap e=(F.take j).flatMap e++e F[j]:=by grind[List.take_add_one,List.getElem?_eq_getElem,Option.toList_some]
theorem Im{t:Type}{e:t->List UInt8}{K:Nat}:∀{l:List t},(∀x∈l,(e x).length<=K)->(l.flatMap e).length<=K*l.length|[],_=>by simp|x::l,h=>by have c:=h x (by simp);have b:=Im (l:=l) λy a=>h y (by simp[a]);grind[List.length_append,List.length_cons,Nat.mul_add]
theorem aiF(k):(gZ k).cells.size=9:=rfl
theorem al4(h):(iy h).cells.size=8:=rfl
theorem ars(N)(v C)(l)(F)(w)(h:dy N w v l)(Z:N<=w)(n:pH 9 1 aE w C F)(o:∀b,de v b->C.ownBlock≠b)(p:∀s∈F,s.size<=4000)(hl:l.length<=274877906944)(t:F.length<=600000):bz Q 162 #[v,C,dF (ei 165) #[] #[]] w λe J=>∃c,e=bj c/\dy N J c (l++cZ dh F)/\bS (de v) w (de c) J:=by
 obtain⟨ad,Q0,rfl⟩:=fV n;have S:cP.wrap (F.length:Int)=(F.length:Int):=by grind[IntKind.wrap_u64]
 have D:=X (Gy N v l F.length w h Z (by omega)<|by omega);have H:=yT (n:=F.length) (by omega);go_enter aqy,ntmps162;go_wp2_with(go_at_call 199;go_must(refine D.out.mono ?_);rintro e w1⟨v1,rfl,A,E⟩;have I:=cH.mk A E;refine Halt.of ?_);unfold Halt;go_wp2;go_loopg[0,16]F.lengthλQW s0 q wr=>∃(d:az)(j:Nat),d=s0/\q=Y aG j/\QW+j=F.length/\dy N wr d (l++k F.length++(F.take j).flatMap dh)/\bS (de v) w (de d) wr;case atStart=>exact⟨v1,0,rfl,rfl,by omega,by simpa using I.a,I.b⟩
 case round=>
  obtain⟨d,j,rfl,rfl,hk,z,m⟩:=hrel;by_cases hj:j<F.length
  .obtain⟨n,o,p⟩:=(X<|aM n<|aM o p).out;obtain⟨g,L,M,Q2,u⟩:=n.cell (λ_=>rfl) hj;simp only[wQ]at M;obtain⟨rfl,-,rfl⟩:=M;have P:=λi x h1 Q1=>(ew (w:=w) (a:=⟨g,j*1+i,V⟩)<|m.1.block g Q2 λe=>o g e rfl).trans<|u i x h1 Q1;have K:(l++k F.length++(F.take j).flatMap dh).length<=549755813888:=by
    have:=Im (K:=4096) (l:=F.take j) (e:=dh) λx O=>by grind[BA,List.mem_of_mem_take]
    grind
   have y:=p F[j]<|nC hj;obtain⟨s,O⟩:∃s,F[j]=s:=⟨_,rfl⟩;rw[O]at P y;have y0:wr.cell? ⟨g,j,V⟩=U (aE s):=by have:=P 0 (aE s) (by decide) rfl;grind
   have ga:=m.1.size;have D:dx<|∀W,dy N W d (l++k F.length++(F.take j).flatMap dh)->N<=W->bz Q 165 #[d,s] W λe Q3=>∃c,e=bj c/\dy N Q3 c (l++k F.length++(F.take j).flatMap dh++dh F[j])/\bS (de d) W (de c) Q3:=X λW hW hNW=>by grind[ad6]
   have T:(j:Int)<(F.length:Int):=by omega
   have f:=gR.mk z m<|SE dh F hj;go_wp2_with(go_at_call 165;go_must(refine(D.out _ f.a<|by grind).mono ?_);rintro e w5⟨v5,rfl,r,G⟩;have R:=cH.mk r G;refine Halt.of ?_);unfold Halt;go_wp2;go_roundg(gk-1);case rel=>exact⟨v5,j+1,rfl,by go_simp,by omega,by rw[f.c,<-jw];exact R.a,f.b.trans R.b⟩
   grind
  .have B:j=F.length:=by omega
   subst B;rw[vk]at z;have f:=cH.mk z m;go_wp2;go_ret;exact⟨_,rfl,by rw[cZ,<-jw];exact f.a,f.b⟩
theorem azd(N)(v P)(l)(F)(w)(h:dy N w v l)(hN:N<=w)(z:pH 233 9 gZ w P F)(D:∀b,de v b->P.ownBlock≠b)(E:True)(hl:l.length<=274877906944)(xk:F.length<=600000):bz Q 168 #[v,P,dF (ei 169) #[] #[]] w λe Q1=>∃f,e=bj f/\dy N Q1 f (l++cZ jx F)/\bS (de v) w (de f) Q1:=by
 obtain⟨ad,cap,rfl⟩:=fV z;have hcv:cP.wrap (F.length:Int)=(F.length:Int):=by grind[IntKind.wrap_u64]
 have QW:=X (Gy N v l F.length w h hN (by omega)<|by omega);have T:=yT (n:=F.length) (by omega);go_enter aqs,ntmps168;go_wp2_with(go_at_call 199;go_must(refine QW.out.mono ?_);rintro e w1⟨v1,rfl,L,R⟩;have I:=cH.mk L R;refine Halt.of ?_);unfold Halt;go_wp2;go_loopg[0,16]F.lengthλQY s0 G wr=>∃(d:az)(j:Nat),d=s0/\G=Y aG j/\QY+j=F.length/\dy N wr d (l++k F.length++(F.take j).flatMap jx)/\bS (de v) w (de d) wr;case atStart=>exact⟨v1,0,rfl,rfl,by omega,by simpa using I.a,I.b⟩
 case round=>
  obtain⟨d,j,rfl,rfl,hk,p,r⟩:=hrel;by_cases hj:j<F.length
  .obtain⟨z,D,E⟩:=(X<|aM z<|aM D E).out;obtain⟨g,Q3,Q2,hg,J⟩:=z.cell aiF hj;simp only[wQ]at Q2;obtain⟨rfl,-,rfl⟩:=Q2;have c:=λi x h1 h2=>(ew (w:=w) (a:=⟨g,j*9+i,V⟩)<|r.1.block g hg λe=>D g e rfl).trans<|J i x h1 h2;have o:(l++k F.length++(F.take j).flatMap jx).length<=549755813888:=by
    have:=Im (K:=9) (l:=F.take j) (e:=jx) λx K=>by grind[jx,Po]
    grind
   have hfx:=E;obtain⟨n,t,B,u,A,s,C,y,q,K⟩:∃n t B u A s C y q:Int,gZ F[j]=bO #[Y aq n,Y aq t,Y aq B,Y aq u,Y aq A,Y aq s,Y aq C,Y aq y,Y aq q]:=⟨_,_,_,_,_,_,_,_,_,rfl⟩;rw[K]at c;have y0:wr.cell? ⟨g,j*9,V⟩=U (Y aq n):=c 0 (Y aq n) (by decide) rfl;have y1:=c 1 (Y aq t) (by decide) rfl;have y2:=c 2 (Y aq B) (by decide) rfl;have y3:=c 3 (Y aq u) (by decide) rfl;have y4:=c 4 (Y aq A) (by decide) rfl;have y5:=c 5 (Y aq s) (by decide) rfl;have y6:=c 6 (Y aq C) (by decide) rfl;have y7:=c 7 (Y aq y) (by decide) rfl;have y8:=c 8 (Y aq q) (by decide) rfl;have ga:=r.1.size;have QW:dx<|∀W,dy N W d (l++k F.length++(F.take j).flatMap jx)->N<=W->bz Q 169 #[d,bO #[Y aq n,Y aq t,Y aq B,Y aq u,Y aq A,Y aq s,Y aq C,Y aq y,Y aq q]] W λe Q0=>∃f,e=bj f/\dy N Q0 f (l++k F.length++(F.take j).flatMap jx++jx F[j])/\bS (de d) W (de f) Q0:=X λW hW QX=>by rw[<-K];exact azg N d _ F[j] W hW QX o
   have oC:(j:Int)<(F.length:Int):=by omega
   have m:=gR.mk p r<|SE jx F hj;go_wp2_with(go_at_call 169;go_must(refine(QW.out _ (m.a.alloc _)<|by first|omega|(simp;omega)).mono ?_);rintro e w5⟨v5,rfl,H,S⟩;have H5:=cH.mk H S;refine Halt.of ?_);unfold Halt;go_wp2;go_roundg(gk-1);case rel=>exact⟨v5,j+1,rfl,by go_simp,by omega,by rw[m.c,<-jw];exact H5.a,m.b.trans<|bS.trans ⟨O.alloc _ _ _,λb p=>ay p⟩ H5.b⟩
   grind
  .have M:j=F.length:=by omega
   subst M;rw[vk]at p;have m:=cH.mk p r;go_wp2;go_ret;exact⟨_,rfl,by rw[cZ,<-jw];exact m.a,m.b⟩
theorem aEw(N)(v M)(l)(F)(w)(h:dy N w v l)(hN:N<=w)(u:pH 76 8 iy w M F)(B:∀b,de v b->M.ownBlock≠b)(C:True)(hl:l.length<=274877906944)(xk:F.length<=600000):bz Q 171 #[v,M,dF (ei 170) #[] #[]] w λe T=>∃f,e=bj f/\dy N T f (l++cZ ia F)/\bS (de v) w (de f) T:=by
 obtain⟨ad,cap,rfl⟩:=fV u;have hcv:cP.wrap (F.length:Int)=(F.length:Int):=by grind[IntKind.wrap_u64]
 have QY:=X (Gy N v l F.length w h hN (by omega)<|by omega);have R:=yT (n:=F.length) (by omega);go_enter aqp,ntmps171;go_wp2_with(go_at_call 199;go_must(refine QY.out.mono ?_);rintro e w1⟨v1,rfl,J,P⟩;have S:=cH.mk J P;refine Halt.of ?_);unfold Halt;go_wp2;go_loopg[0,16]F.lengthλQZ s0 D wr=>∃(d:az)(j:Nat),d=s0/\D=Y aG j/\QZ+j=F.length/\dy N wr d (l++k F.length++(F.take j).flatMap ia)/\bS (de v) w (de d) wr;case atStart=>exact⟨v1,0,rfl,rfl,by omega,by simpa using S.a,S.b⟩
 case round=>
  obtain⟨d,j,rfl,rfl,hk,o,p⟩:=hrel;by_cases hj:j<F.length
  .obtain⟨u,B,C⟩:=(X<|aM u<|aM B C).out;obtain⟨g,Q2,QW,hg,H⟩:=u.cell al4 hj;simp only[wQ]at QW;obtain⟨rfl,-,rfl⟩:=QW;have c:=λi x h1 h2=>(ew (w:=w) (a:=⟨g,j*8+i,V⟩)<|p.1.block g hg λe=>B g e rfl).trans<|H i x h1 h2;have Q0:(l++k F.length++(F.take j).flatMap ia).length<=549755813888:=by
    have:=Im (K:=8) (l:=F.take j) (e:=ia) λx I=>by rw[Po];grind
    grind
   have hfx:=C;obtain⟨n,r,z,s,y,q,A,t,I⟩:∃n r z s y q A t:Int,iy F[j]=bO #[Y aq n,Y aq r,Y aq z,Y aq s,Y aq y,Y aq q,Y aq A,Y aq t]:=⟨_,_,_,_,_,_,_,_,rfl⟩;rw[I]at c;have y0:wr.cell? ⟨g,j*8,V⟩=U (Y aq n):=c 0 (Y aq n) (by decide) rfl;have y1:=c 1 (Y aq r) (by decide) rfl;have y2:=c 2 (Y aq z) (by decide) rfl;have y3:=c 3 (Y aq s) (by decide) rfl;have y4:=c 4 (Y aq y) (by decide) rfl;have y5:=c 5 (Y aq q) (by decide) rfl;have y6:=c 6 (Y aq A) (by decide) rfl;have y7:=c 7 (Y aq t) (by decide) rfl;have ga:=p.1.size;have QY:dx<|∀W,dy N W d (l++k F.length++(F.take j).flatMap ia)->N<=W->bz Q 170 #[d,bO #[Y aq n,Y aq r,Y aq z,Y aq s,Y aq y,Y aq q,Y aq A,Y aq t]] W λe Q3=>∃f,e=bj f/\dy N Q3 f (l++k F.length++(F.take j).flatMap ia++ia F[j])/\bS (de d) W (de f) Q3:=X λW hW L=>by rw[<-I];exact al1 N d _ F[j] W hW L<|by omega
   have oC:(j:Int)<(F.length:Int):=by omega
   have m:=gR.mk o p<|SE ia F hj;go_wp2_with(go_at_call 170;go_must(refine(QY.out _ (m.a.alloc _)<|by first|omega|(simp;omega)).mono ?_);rintro e w5⟨v5,rfl,E,QX⟩;have Q1:=cH.mk E QX;refine Halt.of ?_);unfold Halt;go_wp2;go_roundg(gk-1);case rel=>exact⟨v5,j+1,rfl,by go_simp,by omega,by rw[m.c,<-jw];exact Q1.a,m.b.trans<|bS.trans ⟨O.alloc _ _ _,λb o=>ay o⟩ Q1.b⟩
   grind
  .have K:j=F.length:=by omega
   subst K;rw[vk]at o;have m:=cH.mk o p;go_wp2;go_ret;exact⟨_,rfl,by rw[cZ,<-jw];exact m.a,m.b⟩
theorem azf{F:List<|UInt8×Int}(h:F.length<=100000):(cZ jx F).length<=1000000:=by
 have h1:=yT (n:=F.length) (by omega);have h2:=Im (K:=9) (l:=F) (e:=jx) λx _=>by show(jx x).length<=9;simp[jx,Po]
 rw[cZ,kM];omega
set_option maxHeartbeats 2000000 in
theorem aw0(N:Nat)(v kv:az)(l:List UInt8)(n:Nd)(w:ax)(hb:dy N w v l)(hN:N<=w.heap.size)(C:pH 233 9 gZ w kv n.kids)(hd:∀b,de v b->kv.ownBlock≠U b)(hp:n.pfx.size<=4000)(E:n.kids.length<=100000)(hl:l.length<=274877900000):bz Q 167 #[v,bO #[aE n.pfx,kv]] w λe w'=>∃v',e=bj v'/\dy N w' v' (l++iV n)/\bS (de v) w (de v') w':=by
 obtain⟨p,ks⟩:=n;simp only at C hp E;obtain⟨ad,cap,rfl⟩:=fV C;obtain⟨A,B⟩:∃A,ks.length=A:=⟨_,rfl⟩;obtain⟨cs,iv⟩:∃cs:Array az,cs=#[aE p,aC ad ks.length cap]:=⟨_,rfl⟩;obtain⟨w1,ez⟩:=ex<|w.alloc<|aH cs 184;have hA:fH N v w w.heap.size cs 184 v l w1:=by rw[ez];exact⟨hb.alloc _,gI _ _,λe=>by have:=(hb.lt e).2;omega,⟨O.alloc _ _ _,λb hb=>ay hb⟩,by simp;omega⟩
 have k0:∀W:ax,l9 w.heap.size cs 184 W->W.cell? ⟨w.heap.size,0,V⟩=U (aE p):=λW hW=>(M hW 0).trans (by rw[iv];rfl);have k1:∀W:ax,l9 w.heap.size cs 184 W->W.cell? ⟨w.heap.size,1,V⟩=U (aC ad A cap):=λW hW=>(M hW 1).trans (by rw[iv,<-B];rfl);have C1:dx<|∀W,fH N v w w.heap.size cs 184 v l W->bz Q 165 #[v,aE p] W λe W'=>∃v',e=bj v'/\fH N v w w.heap.size cs 184 v' (l++dh p) W':=X λW h=>h.text p (by omega) (by omega);have C2:dx<|∀v2 W,fH N v w w.heap.size cs 184 v2 (l++dh p) W->bz Q 168 #[v2,aC ad A cap,dF (ei 169) #[] #[]] W λe W'=>∃v',e=bj v'/\fH N v w w.heap.size cs 184 v' (l++dh p++cZ jx ks) W':=X λv2 W h=>by have lH:∀b,(aC ad ks.length cap).ownBlock=U b->b<w.heap.size:=λb hb=>(C.lt b hb).2;have EW:pH 233 9 gZ W (aC ad ks.length cap) ks:=dB C λb hb=>h.left.1.block b (lH b hb) λe=>hd b e hb;have htl:=BA p (by omega);rw[<-B];exact(azd N v2 _ (l++dh p) ks W h.buf h.base EW λb hb e=>by rcases h.left.2 b hb with h1|h1;exact hd b h1 e;exact absurd (lH b e)<|by omega trivial (by rw[kM];omega)<|bC E<|by decide).mono λe W'⟨v',h1,h2,h3⟩=>⟨v',h1,h.next h2 h3⟩
 have HW:=gR.mk ez iv B;have je:=fH.Ci hA;rw[B];clear hb hN C hd hp E ez iv B;go_enter aqt,ntmps167;go_wp2;rw[show aH #[aE p,aC ad A cap] 184=aH cs 184 by rw[HW.b,HW.c],<-HW.a];refine x4 ?_;refine DJ (λW=>l9 w.heap.size cs 184 W) [0,1,2,4,5,3,6,7] (by kernel_rfl) (Vz.2 je) (λ_ _ _ _ _ h=>h) ?_;repeat((apply qQ _ rfl (by kernel_rfl) rfl;.intro W hSw;have q0:=k0 W hSw;have q1:=k1 W hSw;go_simp;try with_reducible rfl);simp only[yN])
 refine wE rfl (by kernel_rfl) λhHeld K hK=>?_;go_simp;go_at_call 165;refine jm (C1.out _<|IV.2 hA) ?_;rintro e w2⟨v2,rfl,Uq⟩;refine hK.out _ _ (fH.Ci Uq) ?_;refine wE rfl (by kernel_rfl) λhHeld K hK=>?_;go_simp;go_at_call 168;refine jm (C2.out v2 _ Uq) ?_;rintro e w3⟨v3,rfl,Lc⟩;refine hK.out _ _ (fH.Ci Lc) ?_;repeat((apply qQ _ rfl (by kernel_rfl) rfl;.intro W hSw;go_simp;try with_reducible rfl);simp only[yN])
 refine DK (by kernel_rfl) λhHeld=>?_;refine tS ?_;have HX:=X Lc;clear hA Uq Lc je hHeld k0 k1 C1 C2;go_wp2;go_ret;exact⟨_,rfl,by have:=HX.out.buf;rw[jw]at this;exact this,HX.out.left⟩
theorem Aa.get{W:ax}{B:Nat}:∀{F:List Nd}{xs:List az}(h:Aa W B F xs)(j:Nat)(b:j<F.length),∃a,a∈xs/\xs[j*2]?=U (aE F[j].pfx)/\xs[j*2+1]?=U a/\W.ownsRow B 233 9 a F[j].kids.length (fO gZ F[j].kids)|n::F,xs,⟨a,c,e,h,t⟩,0,_=>by grind|n::F,xs,⟨a,c,e,h,t⟩,j+1,b=>by subst e;obtain⟨d,g,k,i,f⟩:=t.get j (by grind);grind
theorem lK.cell{W}{B}{F}{v}{xs}(h:lK W B F v xs){j}(d):∃g b c,v=aC (U ⟨g,0,V⟩) F.length b/\g<W/\c∈xs/\W.cell? ⟨g,j*2,V⟩=U (aE F[j].pfx)/\W.cell? ⟨g,j*2+1,V⟩=c/\W.ownsRow B 233 9 c F[j].kids.length (fO gZ F[j].kids):=by
 obtain⟨c,o,m,q,n⟩:=h.ins.get j d;rcases h.row.2 with⟨_,r⟩|⟨g,b,l,e,_,p,-⟩;.omega
 .have k:=λi x(f:xs[i]?=U x)=>Az h.row (g:=g) (by rw[e];rfl) i x f;simp only[Eu,vg]at k;grind
theorem aha{n}(b:n.pfx.size<=4000)(a:n.kids.length<=100000):(iV n).length<=1100000:=by grind[BA,azf,iV,List.length_append]
theorem awY(N)(v QX)(l)(F)(w)(h:dy N w v l)(hN:N<=w)(xs)(C:lK w 0 F QX xs)(B:∀b,de v b->QX.ownBlock≠b/\∀x∈xs,x.ownBlock≠b)(u:∀n∈F,n.pfx.size<=4000/\n.kids.length<=100000)(hl:l.length<=137438953472)(xk:F.length<=124000):bz Q 166 #[v,QX,dF (ei 167) #[] #[]] w λe Q2=>∃m,e=bj m/\dy N Q2 m (l++cZ iV F)/\bS (de v) w (de m) Q2:=by
 obtain⟨ad,cap,rfl⟩:=fV C.row;have hcv:cP.wrap (F.length:Int)=(F.length:Int):=by grind[IntKind.wrap_u64]
 have P:=X (Gy N v l F.length w h hN (by omega)<|by omega);have Q1:=yT (n:=F.length) (by omega);go_enter aqu,ntmps166;go_wp2_with(go_at_call 199;go_must(refine P.out.mono ?_);rintro e w1⟨v1,rfl,K,R⟩;have Q3:=cH.mk K R;refine Halt.of ?_);unfold Halt;go_wp2;go_loopg[0,16]F.lengthλQY s0 H wr=>∃(f:az)(j:Nat),f=s0/\H=Y aG j/\QY+j=F.length/\dy N wr f (l++k F.length++(F.take j).flatMap iV)/\bS (de v) w (de f) wr;case atStart=>exact⟨v1,0,rfl,rfl,by omega,by simpa using Q3.a,Q3.b⟩
 case round=>
  obtain⟨f,j,rfl,rfl,hk,c,i⟩:=hrel;by_cases hj:j<F.length
  .obtain⟨C,B,u⟩:=(X<|aM C<|aM B u).out;obtain⟨g,Dc,QW,hv,Q0,T,E,D,d⟩:=C.cell hj;simp only[wQ]at hv;obtain⟨rfl,-,rfl⟩:=hv;have q:¬de v g:=λe=>(B g e).1 rfl;have y0:=(ew (w:=w) (a:=⟨g,j*2,V⟩)<|i.1.block g Q0 q).trans E;have y1:=(ew (w:=w) (a:=⟨g,j*2+1,V⟩)<|i.1.block g Q0 q).trans D;have r:pH 233 9 gZ wr QW F[j].kids:=dB d λb c=>i.1.block b (d.lt b c).2 λe=>(B b e).2 QW T c;have G:∀b,de f b->QW.ownBlock≠b:=λb c e=>by
    rcases i.2 b c with h1|h1;.grind
    .exact absurd (d.lt b e).2<|by omega
   have s:=λb e=>(r.lt b e).2;obtain⟨ka,kc,rfl⟩:=fV d;obtain⟨z,t⟩:∃z,F[j].kids.length=z:=⟨_,rfl⟩;obtain⟨p,hp⟩:∃p,F[j].pfx=p:=⟨_,rfl⟩;rw[t]at y1;rw[hp]at y0;have y:(l++k F.length++(F.take j).flatMap iV).length<=274877900000:=by have:=Im (K:=1100000) (l:=F.take j) (e:=iV) λx hx=>aha (u x<|aii hx).1 (u x<|aii hx).2;grind
   have A:=u F[j]<|nC hj;have ga:=i.1.size;have P:dx<|∀W,(∀b,b<wr.heap.size->W.heap[b]?=wr.heap[b]?)->dy N W f (l++k F.length++(F.take j).flatMap iV)->N<=W->bz Q 167 #[f,bO #[p,aC ka z kc]] W λe W'=>∃m,e=bj m/\dy N W' m (l++k F.length++(F.take j).flatMap iV++iV F[j])/\bS (de f) W (de m) W':=X λW I hW M=>by rw[<-hp,<-t];exact aw0 N f _ _ F[j] W hW M (dB r λb c=>I b<|s b c) G A.1 A.2 y
   have oC:(j:Int)<(F.length:Int):=by omega
   have o:=gR.mk c i<|SE iV F hj;go_wp2_with(go_at_call 167;go_must(refine(P.out _ (λb c=>dr _ _ _ c) (o.a.alloc _)<|by first|omega|(simp;omega)).mono ?_);rintro e w5⟨v5,rfl,J,S⟩;have H5:=cH.mk J S;refine Halt.of ?_);unfold Halt;go_wp2;go_roundg(gk-1);case rel=>exact⟨v5,j+1,rfl,by go_simp,by omega,by rw[o.c,<-jw];exact H5.a,o.b.trans<|bS.trans ⟨O.alloc _ _ _,λb c=>ay c⟩ H5.b⟩
   grind
  .have L:j=F.length:=by omega
   subst L;rw[vk]at c;have o:=cH.mk c i;go_wp2;go_ret;exact⟨_,rfl,by rw[cZ,<-jw];exact o.a,o.b⟩
structure IX(m:dR):Prop where
 bu:∀x∈m.bu,Fit x
 cq:∀s∈m.cq,s.size<=4000
 nodes:∀n∈m.nodes,n.pfx.size<=4000/\n.kids.length<=100000
 nr:m.bu.length<=600000
 nw:m.cq.length<=600000
 nn:m.nodes.length<=124000
 nd:m.roots.length<=100000
theorem SG{B}{v v'}{w W W'}(h:bS (de v) W (de v') W')(c:∀b,de v b->B<=b)(a:aY B w W)(d:B<=W):aY B w W':=a.trans ⟨h.1.os,h.1.tape,h.1.output,h.1.size,λb a=>h.1.block b (by omega) λe=>absurd (c b e)<|by omega⟩
theorem afD{T sz}{d}{f:d->az}{w W}{v}{F}(h:pH T sz f w v F)(c:aY w w W):pH T sz f W v F:=dB h λb a=>c.block b (h.lt b a).2
theorem YI{b}{e:b->List UInt8}{K}{F}(h:∀x∈F,(e x).length<=K){M}(a:F.length<=M)(d:M<=600000):(cZ e F).length<=10+K*M:=by have g:=yT (n:=F.length) (by omega);have f:=Im h;have c:K*F.length<=K*M:=SP _ a;grind[cZ,List.length_append]
theorem acD(p)(m)(vr vw vn vd)(xs)(w)(h:jr w 0 p m vr vw vn vd xs)(hm:IX m):bz Q 105 #[aF p] w λe w'=>∃d,e=bj d/\dy w w' d (gz m)/\aY w w w':=by
 obtain⟨R,o,N,D⟩:=m;obtain⟨iw,-,y,O,C,QW⟩:=h;obtain⟨S,m2,L,m4,Q1,P,m7⟩:=hm;simp only at y O C QW S m2 L m4 Q1 P m7;have l1:(cZ gU R).length<=10+12400*600000:=YI (λx t=>af0<|S x t) m4 (by decide);have l2:(cZ dh o).length<=10+4010*600000:=YI λx t=>by grind[BA] Q1 (by decide);have l3:(cZ iV N).length<=10+1100000*124000:=YI (λx t=>aha (L x t).1 (L x t).2) P (by decide);obtain⟨E,A,rfl⟩:=fV y;obtain⟨aw,Q3,rfl⟩:=fV O;obtain⟨an,cn,rfl⟩:=fV C.row;obtain⟨ad,cd,rfl⟩:=fV QW;have y:IU w (aC E R.length A) R:=y;obtain⟨nR,F⟩:∃n,R.length=n:=⟨_,rfl⟩;obtain⟨Y,B⟩:∃n,o.length=n:=⟨_,rfl⟩;obtain⟨nN,H⟩:∃n,N.length=n:=⟨_,rfl⟩;obtain⟨nD,G⟩:∃n,D.length=n:=⟨_,rfl⟩;have j:∀W:ax,aY w w W->W.heap[p]?=U (aH #[aC E nR A,aC aw Y Q3,aC an nN cn,aC ad nD cd] 180 (0,0)):=λW c=>by rw[c.block p<|by grind,iw,F,B,H,G]
 have k0:∀W:ax,aY w w W->W.cell? p=U (aC E nR A):=λW c=>M (j W c) 0;have k1:∀W:ax,aY w w W->W.cell? ⟨p,1,V⟩=U (aC aw Y Q3):=λW c=>M (j W c) 1;have q:∀{W:ax}{v:az}{l:List UInt8},dy w W v l->∀b,de v b->w<=b:=λc b h=>(c.lt h).1;have C1:dx<|∀W,aY w w W->bz Q 163 #[aC V 0 0,aC E nR A,dF (ei 164) #[] #[]] W λe g=>∃d,e=bj d/\dy w g d (cZ gU R)/\aY w w g:=X λW c=>by have Cs:IU W (aC E R.length A) R:=dB y λb i=>c.block b (y.lt b i).2;rw[<-F];exact(ayn w.heap.size (aC V 0 0) _ [] R W (dy.nil _ _) c.size Cs (λb h=>by cases h) S (by simp) m4).mono λe g⟨d,u,k,r⟩=>⟨d,u,by grind,SG r (λb h=>by cases h) c c.size⟩
 have C2:dx<|∀v W,dy w W v (cZ gU R)->aY w w W->bz Q 162 #[v,aC aw Y Q3,dF (ei 165) #[] #[]] W λe g=>∃d,e=bj d/\dy w g d (cZ gU R++cZ dh o)/\aY w w g:=X λv W i c=>by rw[<-B];exact(ars w.heap.size v _ _ o W i c.size (afD O c) λb h e=>absurd (O.lt b e).2<|by grind m2 (by omega) Q1).mono λe g⟨d,u,k,r⟩=>⟨d,u,k,SG r (q i) c c.size⟩
 have C3:dx<|∀v W,dy w W v (cZ gU R++cZ dh o)->aY w w W->bz Q 166 #[v,aC an nN cn,dF (ei 167) #[] #[]] W λe g=>∃d,e=bj d/\dy w g d (cZ gU R++cZ dh o++cZ iV N)/\aY w w g:=X λv W i c=>by rw[<-H];exact(awY w.heap.size v _ _ N W i c.size xs (C.block (λb _ k=>c.block b k) c.size) (λb h=>⟨λe=>absurd (C.row.lt b e).2<|by grind,λx t e=>absurd (C.sep x t b e).2.1<|by grind⟩) L (by grind) P).mono λe g⟨d,u,k,r⟩=>⟨d,u,k,SG r (q i) c c.size⟩
 have C4:dx<|∀v W,dy w W v (cZ gU R++cZ dh o++cZ iV N)->aY w w W->bz Q 171 #[v,aC ad nD cd,dF (ei 170) #[] #[]] W λe g=>∃d,e=bj d/\dy w g d (cZ gU R++cZ dh o++cZ iV N++cZ ia D)/\aY w w g:=X λv W i c=>by rw[<-G];exact(aEw w.heap.size v _ _ D W i c.size (afD QW c) λb h e=>absurd (QW.lt b e).2<|by grind trivial (by grind)<|bC m7<|by decide).mono λe g⟨d,u,k,r⟩=>⟨d,u,k,SG r (q i) c c.size⟩
 have I:aY w w w.drew:=⟨rfl,rfl,rfl,aQ _,λ_ _=>rfl⟩;go_enter aqZ,ntmps105;go_wp2;refine x4 ?_;refine DJ (λW=>aY w.heap.size w W) [0,1,2,3,5,6,7,8,4,9,10] (by kernel_rfl) I (λ_ _ _ _ _ h=>h) ?_;repeat((apply qQ _ rfl (by kernel_rfl) rfl;.intro W f;go_simp;try with_reducible rfl);simp only[yN])
 refine wE rfl (by kernel_rfl) λa K T=>?_;go_simp;go_at_call 163;refine jm (C1.out _ I) ?_;rintro e w2⟨v2,rfl,Q0,z⟩;refine T.out _ _ z ?_;refine wE rfl (by kernel_rfl) λa K T=>?_;go_simp;go_at_call 162;refine jm (C2.out v2 _ Q0 z) ?_;rintro e w3⟨v3,rfl,CL,s⟩;refine T.out _ _ s ?_;repeat((apply qQ _ rfl (by kernel_rfl) rfl;.intro W f;go_simp;try with_reducible rfl);simp only[yN])
 refine DK (by kernel_rfl) λa=>?_;refine tS ?_;have q2:=(λW c=>M (j W c) 2) w3 s;have H3:=cH.mk CL s;go_wp2_with(go_at_call 166;go_must(refine(C3.out v3 _ H3.a H3.b).mono ?_);rintro e w4⟨v4,rfl,CK,J⟩;have q3:=(λW c=>M (j W c) 3) w4 J;have H4:=cH.mk CK J;refine Halt.of ?_);unfold Halt;go_wp2_with(go_at_call 171;go_must(refine(C4.out v4 _ H4.a H4.b).mono ?_);rintro e w5⟨v5,rfl,Q2,Z⟩;have H5:=cH.mk Q2 Z;refine Halt.of ?_);unfold Halt;go_wp2;go_ret;exact⟨_,rfl,H5.a,H5.b⟩
attribute [local go_sem] Oper.semAt_some
def lS:KE UInt8 where
 enc:=λb=>Y aq (b.toNat:Int);desc:=.int aq;same:=λa b=>by
  simp[FE];by_cases h:a=b;.simp[h]
  .have:a.toNat≠b.toNat:=λe=>h<|UInt8.toNat_inj.1 e;simp[h];omega
 flat:=λP w e n t v h=>by simp[C5,run_underlying h]
 bits:=λn a=>by cases n<;>simp[FF]
theorem aGr(gf:Nat)(lb)(S:List UInt8->Prop)(R)(w)(P:∀n w,(iJ gf n).run Q w=aW (jO gf n) w)(F:Iter Q gf lb (λk=>#[Y aq k.toNat]) S R w)(J:∀b,R b->b<w)(hN:∀j,S j->j.length<=1073741824):bz Q 211 #[aC V 0 0,dF (ei gf) #[] lb] w λe K=>∃j v,e=bj v∧S j∧K.ownsRow w 5 1 v j.length (j.map λb=>Y aq b.toNat)∧aY w w K:=by
 obtain⟨a,hi,E,z,u⟩:=tT KA;refine callsIn_wide (n:=0).1<|callsIn_of_wp_marks aqe rfl trivial ?_ rfl;simp only[ntmps211,rW,oT,lF,vV,vU,tZ,tY,tX,tW,rV,oV];gi_wp2;refine wp_rangeFunc (gf:=gf) (lb:=lb) rfl P (F.later<|(O.alloc (λ_=>False) w _).fJ λb c=>⟨J b c,id⟩) λb c=>by have:=J b c;simp;omega (λ_=>rfl) (λf W D=>∃v,kW W w 79 5 1 v f.length (f.map λb:UInt8=>Y aq (b.toNat:Int))∧D=rE w v) (λ_ _ _ _=>False) ⟨λf W D⟨v,h,e⟩b c=>h.lt b<|e▸c,λf W D W'⟨v,h,e⟩ha=>⟨v,h.fJ λb c=>ha.block b<|e▸c,e⟩⟩ (λ_=>⟨λ_ _ _ h=>h.elim,λ_ _ _ _ h=>h.elim⟩) (rE w<|aC V 0 0) (λb c=>?_) ⟨_,kW.new w 79 5 1,rfl⟩ ?round ?done ?stop
 ·rcases c with rfl|c;·grind
  ·cases c
 case round=>
  rintro l f x W D Q2 vG H⟨y,N⟩⟨v,i,rfl⟩Q1;have L:f.length+1<=1073741824:=by grind
  gi_wp2;refine⟨⟨.refl _ _,λb c=>c.imp id (·.1)⟩,λW2 p=>?_⟩;have d:=i.fJ λb c=>p.block b λe=>H<|e▸c;obtain⟨I,QW⟩:=d.cell;have m:=d.row;have t:=d.lt _<|ay rfl;have r:=X d;gi_wp2_with(gi_at_builtin;go_must(refine Ze _ rfl _ _ 79 rfl (w+1) 5 a (Y aq 0) 1 1 tB hi E z u rfl (by decide) v f.length (f.map λb:UInt8=>Y aq (b.toNat:Int)) rfl (m.alloc _) W2.heap.size 1 1 [Y aq (x.toNat:Int)] rfl rfl (cell_one_new _ _ _) (by simp[A5]) (by unfold vQ;omega) (by omega) (by simp;omega) ?_);intro v' w1 s o _ C;refine Halt.of ?_);obtain⟨g',M,A⟩:=Ca s;have q:w≠v.ownBlock:=λe=>by have:=(m.lt _ e.symm).1;omega
  have um:=(ew (w:=W2.alloc<|aH #[Y aq (x.toNat:Int)] 5)<|o.block _ (by simp;omega) q).trans<|(ew (w:=W2)<|dr _ _ _ t).trans I;have OK:=(Ev (w:=W2.alloc<|aH #[Y aq (x.toNat:Int)] 5)<|o.block _ (by simp;omega) q).trans<|(Ev (w:=W2)<|dr _ _ _ t).trans QW;subst A;unfold Halt;gi_wp2;obtain⟨h1,Q0⟩:=(X<|kW.appended (kW.fJ r.out λb c=>dr _ _ _<|kW.lt r.out b c) o s C).out;exact⟨_,⟨_,by grind,rfl⟩,Q0.shift (O.alloc _ _ _) λ_ h=>ay h⟩
 case done=>
  rintro j W D N⟨v,i,rfl⟩T Q3 G;obtain⟨I,QW⟩:=i.cell;have r:=X i;gi_wp2;refine⟨by simp,ay ⟨_,_,rfl,vp Q3,?_⟩⟩;refine⟨_,results_tmp rfl _ _ _,j,v,rfl,(X N).out,dB (BP r.out.row λg B=>Tg (r.out.row.lt g B).1) λg B=>qX λe=>G<|aB<|e▸B,?_⟩;refine IL ((X T).out.below ((dK _ _).alloc (aQ _) _) ?_) (by simp) _;rintro b(rfl|c);·grind
  ·cases c
 grind
theorem aE9(gf:Nat)(lb)(S:List UInt8->Prop)(R)(w)(g:∀a w,(iJ gf a).run Q w=aW (jO gf a) w)(d:Iter Q gf lb (λk=>#[Y aq k.toNat]) S R w)(i:∀b,R b->b<w)(l:∀c,S c->c.length<=1073741824):bz Q 196 #[dF (ei gf) #[] lb] w λe f=>∃c v,e=bj v/\S c/\f.ownsRow w 5 1 v c.length (c.map λb=>Y aq b.toNat)/\aY w w f:=by go_enter aqj,ntmps196;go_wp2_with(go_at_call 211;refine(aGr gf lb S R w g d i l).mono ?_;rintro e m⟨c,v,rfl,h⟩;obtain j:=X h);go_ret;exact⟨c,v,rfl,j.out⟩
theorem axZ(z m)(es)(Q1:(es.map (·.1)).Nodup)(w)(Q0:w.cell? z=U (.map m))(hB:cU lS w m es):Iter Q 198 #[.pointer<|U ⟨z,0,V⟩] (λk=>#[.int .u8 k.toNat]) (λks=>ks.Perm (es.map (·.1))) (λb=>b=z∨b=m) w:=by
 intro l J Jx W D0 hA M Ie hR hY h0;have H:=hB.of_block (hA.block m<|by simp);have aaZ:=(ew (w:=w)<|hA.block z<|by simp).trans Q0;obtain⟨o,Oe,n⟩:=MQ (P:=Q) (T:=245) lS F8 H;have lm:=H.lt;have zB:=Q1;refine NB adK rfl trivial ?_;simp only[ntmps198,rW,oT,lF,vV,vU,tZ,tY,tX,tW,rV,oV];gi_wp2;gi_loopg[3]es.length(λk _ wr=>∃(d:List UInt8)(D:Nat->Prop),k+d.length=es.length∧tj lS wr m W.heap.size es d∧d.Nodup∧(∀x∈d,x∈es.map (·.1))∧J d wr D∧bS D0 W D wr∧¬D W.heap.size);case atStart=>have r:=M.lt _ _ _ h0;refine⟨[],D0,by simp,n,by simp,by simp,M.st _ _ _ _ h0<|(O.alloc (λ_=>False) _ _).fJ λb t=>⟨r b t,id⟩,.other<|O.alloc _ _ _,λh=>absurd (r _ h)<|by omega⟩
 case round=>
  obtain⟨d,D,hk,n,B,L,hj,T,I⟩:=hrel;have Ih:∀b,b=z∨b=m->b<W->¬D b:=λb t r hD=>by rcases T.2 b hD with h|h;all_goals grind
  have QW:m≠W:=by omega
  have aad:=n.lt;have HN:=X zB;have HL:=X T;have HJ:=X hj;have HY:=X hY;have Q2:=X L;have R:=X B;have HK:=X hk;rcases MR (P:=Q) lS n QW 0 with⟨G,q⟩|⟨x,v,P,AO,j,q,f,E,vE⟩;·have HA:=X G;gi_wp2;go_end0;refine⟨⟨_,rfl⟩,.inl ⟨_,D,?_,HJ.out,HL.out⟩⟩;exact(Kn R.out HN.out).2 λa=>⟨Q2.out a,λp=>by obtain⟨y,S,rfl⟩:=ki.1 p;exact HA.out y S⟩
  ·obtain⟨v',zk,u⟩:=MS (P:=Q) lS f;replace q:(zJ (.pointer<|U ⟨W.heap.size,0,V⟩) ai 0).run Q wr=.ok (.tuple #[.bool Z,.int .u8 (x.toNat:Int),v]) P:=q;replace u:(CZ<|.pointer<|U ⟨W.heap.size,0,V⟩).run Q P=.ok (.tuple #[.int .u8 (x.toNat:Int),v']) P:=u;have K:x∈es.map (·.1):=by grind
   have hlen:d.length<es.length:=by have:=(Cg.2 ⟨j,B⟩).length_le_of_subset (l₂:=es.map (·.1)) (λa p=>by grind);grind
   have vI:=M.st _ _ _ _ hj<|E.fJ λb t=>⟨M.lt _ _ _ hj b t,λe=>I<|e▸t⟩;have O2:=T.step E (λb t e=>by omega);have HX:=X (⟨K,j⟩:x∈es.map (·.1)∧x∉d);have A:=X O2;obtain⟨F,i⟩:=Sd (λ_=>Z) HN.out R.out Q2.out K j rfl;rw[AD.2<|by simp,AD.2<|by simp]at i;obtain⟨fn,tmps,N,body,S,c⟩:=HY.out d x P D ⟨F,i⟩ vI;have HR:=X c;have Bn:=X i;have Cm:=S;gi_wp2;refine HR.out.mono ?_;rintro e W'(⟨rfl,Q3,s,g⟩|⟨rfl,Q3,s,g⟩)
   ·gi_wp2;gi_roundg(gk-1);case rel=>
     have C:=f.JX (g.1.block _ f.map.lt<|Ih m (by simp) lm)<|g.1.block _ f.lt I;refine⟨d++[x],Q3,by have:=HK.out;grind,C,?_,?_,s,A.out.trans g,?_⟩;·rw[Ew];exact⟨R.out,by simp,λa p b t e=>HX.out.2<|by grind⟩
     ·intro a p;rcases rY.1 p with p|p;·exact Q2.out a p
      ·rw[mu.1 p];exact HX.out.1
     ·intro h;rcases g.2 _ h with h|h;·grind
      ·have:=f.lt;omega
    case measure=>have:=HK.out;omega
   ·gi_wp2;refine tV (results_none rfl _ _ _) rfl ?_;exact⟨⟨_,rfl⟩,.inr ⟨_,Q3,⟨F,by rw[jw];exact Bn.out⟩,s,A.out.trans g⟩⟩
def kZ(xs:List UInt8):List UInt8:=xs.mergeSort λx y=>bP<|x<=y
def acM:Prop:=∀(B:Nat)(v:az)(xs:List UInt8)(w:ax),w.ownsRow B 5 1 v xs.length (xs.map λb=>Y aq (b.toNat:Int))->B<=w.heap.size->xs.length<=256->bz Q 197 #[v] w λe w'=>e=bj (bQ #[])/\w'.ownsRow B 5 1 v xs.length ((kZ xs).map λb=>Y aq (b.toNat:Int))/\aY B w w'
theorem asz(d:acM)(gf:Nat)(lb)(S)(R)(w)(p:∀c w,(iJ gf c).run Q w=aW (jO gf c) w)(i:Iter Q gf lb (λk=>#[Y aq k.toNat]) S R w)(s:∀b,R b->b<w)(n:∀a,S a->a.length<=256):bz Q 160 #[dF (ei gf) #[] lb] w λe l=>∃a v,e=bj v/\S a/\l.ownsRow w 5 1 v a.length ((kZ a).map λb=>Y aq b.toNat)/\aY w w l:=by have o:=X (aE9 gf lb S R w p i s λa h=>bC (n a h)<|by decide);go_enter aqA,ntmps160;go_wp2_with(go_at_call 196;go_must(refine o.out.mono ?_);rintro e q⟨a,v,rfl,r,g,j⟩;have f:=gR.mk r g j;refine Halt.of ?_);unfold Halt;go_wp2_with(go_at_call 197;go_must(refine((X d).out w v a q f.b f.c.size<|(X n).out a f.a).mono ?_);rintro e t⟨rfl,g,j⟩;have m:=cH.mk g j;refine Halt.of ?_);unfold Halt;go_wp2;go_ret;exact⟨a,v,rfl,f.a,m.a,f.c.trans m.b⟩
theorem aiH(m)(w):bz Q 161 #[bW<|U m] w λe a=>e=bj (dF (ei 198) #[] #[aF w])/\a=w.alloc (aH #[bW m] 245):=by go_enter aqz,ntmps161;go_wp2;go_ret;exact⟨rfl,rfl⟩
theorem aew(f:acM)(m)(es)(w)(p:cU lS w m es)(q:(es.map (·.1)).Nodup)(t:es.length<=256)(n)(g:w.cell? ⟨n,0,V⟩=U (bW m)):bz Q 160 #[dF (ei 198) #[] #[aF n]] w λe o=>∃v,e=bj v∧o.ownsRow w 5 1 v es.length ((kZ (es.map (·.1))).map λb=>Y aq b.toNat)∧aY w w o:=by
 refine(asz f 198 _ (λs=>s.Perm (es.map (·.1))) (λb=>b=n∨b=m) w (λi w=>aq6 i w) (axZ n m es q w g p) (λb u=>by
  rcases u with rfl|rfl;·exact Db g
  ·exact p.lt) λk h=>by rw[h.length_eq,Cb];exact t).mono ?_;rintro e o⟨k,v,l,j,A,r⟩;refine⟨v,l,?_,r⟩;have z:k.length=es.length:=by rw[j.length_eq,Cb]
 have B:kZ k=kZ (es.map (·.1)):=by
  refine SZ (le:=λx y:UInt8=>x<=y) (λa b _ _ l j=>UInt8.le_antisymm l j) ?_ ?_<|((Kl _ _).trans j).trans (Kl _ _).symm;all_goals have:=Nz (le:=λx y:UInt8=>bP<|x<=y) λa b c l j=>by grind λa b=>by grind
  ·exact(this k).imp λh=>by grind
  ·exact(this _).imp λh=>by grind
 grind
def tP(n:Nat)(k:ByteArray):UInt8:=if h:n<k.size then k[n]else 0
theorem Sr{n}{k}(h):tP n k=k[n]:=wP h
def mJ(acc:List UInt8):List UInt8->List UInt8|[]=>acc|c::cs=>if c∈acc then mJ acc cs else mJ (acc++[c]) cs
def x8(L:List s)(p:ByteArray)(c:UInt8):UInt8×az:=(c,iy<|C<|ep L<|push p c)
theorem aD1:(mR 128).all λn=>(Utf8.encode n).data.toList==[kT n]=Z:=by kernel_rfl
theorem aE4(c)(h:c.toNat<128)(w):(convert 5 9<|Y aq c.toNat).run Q w=aW (aE ⟨#[c]⟩) w:=by
 have:=ND.1 aD1 c.toNat<|SQ.2 h;simp only[lQ]at this;have e:Utf8.encode (c.toNat:Int)=⟨#[c]⟩:=by rw[<-Lib.mk_data<|Utf8.encode (c.toNat:Int),this];simp
 unfold convert;simp[run_underlying,Conv.intToString,e]
theorem afB:∀(a:List ByteArray),fO aE a=a.map aE|[]=>rfl|k::a=>by show aE k::fO aE a=_;rw[afB a];rfl
theorem X8(c:UInt8):∀(l a:List UInt8),mJ a (l++[c])=if c∈mJ a l then mJ a l else mJ a l++[c]|[],a=>rfl|d::l,a=>by simp only[oV,mJ];split<;>exact X8 c l _
theorem Nh(L:List s)(p:ByteArray)(c:UInt8):∀(l:List UInt8),look (l.map<|x8 L p) c=if c∈l then U (x8 L p c).2 else V
 |[]=>rfl|d::l=>by
  simp only[gh,x8,look];by_cases h:d=c;.grind
  .rw[if_neg h,Nh L p c l];simp[Nw h,x8]
theorem af9{t:Type}[DecidableEq t](k:t)(v:az):∀{l:List<|t×az},look l k=V->put l k v=l++[(k,v)]
 |[],_=>rfl|(a,u)::l,h=>by
  unfold look at h;unfold put;by_cases e:a=k;·grind
  ·rw[if_neg e]at h⊢;rw[af9 k v h];rfl
structure KdI(N:Nat)(v:az)(ks:List ByteArray)(es:List<|UInt8×az)(w W:ax):Prop where
 map:cU lS W N es
 row:W.ownsRow (N+1) 9 1 v ks.length (ks.map aE)below:aY N w W
theorem Qk(w):(kQ 76).run Q w=aW (bO #[Y aq 0,Y aq 0,Y aq 0,Y aq 0,Y aq 0,Y aq 0,Y aq 0,Y aq 0]) w:=by kernel_rfl
theorem ax2(w):(Lt 245 V).run Q w=aW (bW w) (w.alloc<|iY #[] 0):=by kernel_rfl
theorem aiD(m)(L)(pfx)(w)(hp:pfx.size<=4096)(K:cI w m L)(hL:L.length<=1073741824)(ht:fx w)(hF:∀x∈L,Fit x)(N:∀k∈gy<|su L pfx,pfx.size<k.size∧(tP pfx.size k).toNat<128):bz Q 159 #[bW m,pfx] w λe w'=>∃R,e=bj (bW<|U R)∧cU lS w' R ((mJ []<|(gy<|su L pfx).map<|tP pfx.size).map<|x8 L pfx)∧w<=R∧aY w w w':=by
 have F:=K.lt;obtain⟨z,p⟩:=ex<|w.alloc<|iY #[] 0;have u:aY w w z:=by rw[p];exact(dK _ _).alloc (aQ _) _
 have B:z.heap.size=w+1:=by rw[p];simp
 have I:cU lS z w []:=by grind[cU.new,lS]
 have HK:=X<|aiG m L pfx z (K.of_block<|u.block m F) hL;obtain⟨ks,r⟩:=ex<|gy<|su L pfx;have zw:ks.length<=1073741824:=by rw[r,Js];exact bC (AE _ _)<|by grind
 rw[<-r]at HK N⊢;have y:=uJ.mk p u B I;have J:=uJ.mk K ht hF N;clear K ht hF N p u B I r;have hmk:=ax2;go_enter aqC,ntmps159;go_wp2_with(go_at_call 86;rw[<-y.a];go_must(refine HK.out.mono ?_);rintro e w2⟨v,rfl,hr,o⟩;have H2:=cH.mk hr o;refine Halt.of ?_);unfold Halt;obtain⟨S,n⟩:=H2;obtain⟨d,s,rfl⟩:=fV S;have O:KdI w (aC d ks.length s) ks [] w w2:=⟨y.d.of_block<|n.block _<|by have:=y.c;omega,by have:=y.c;grind,y.b.trans ⟨n.os,n.tape,n.output,n.size,λb o=>n.block b<|by have:=y.b.size;omega⟩⟩;have H0:=X O;go_wp2;go_loopg[16]ks.lengthλk Q3 wr=>∃(j:Nat),Q3=Y aG j∧k+j=ks.length∧KdI w.heap.size (aC d ks.length s) ks ((mJ []<|(ks.take j).map<|tP pfx.size).map<|x8 L pfx) w wr;case atStart=>exact⟨0,rfl,by omega,by simpa[mJ]using H0.out⟩
 case round=>
  obtain⟨j,rfl,N,i⟩:=hrel;by_cases hj:j<ks.length
  ·obtain⟨g,Dc,hv,hg,hY⟩:=pH.cell (f:=aE) (F:=ks) (w:=wr) (v:=aC d ks.length s) (sz:=1) (T:=9) (by have:=jD i.row<|lP _;unfold pH;rw[afB];exact this) (λ_=>rfl) hj;simp only[wQ]at hv;obtain⟨rfl,-,rfl⟩:=hv;have y0:wr.cell? ⟨g,j,V⟩=U (aE ks[j]):=by have:=hY 0 (aE ks[j]) (by decide) rfl;rwa[Nat.mul_one]at this
   have A:=J.d ks[j]<|nC hj;obtain⟨k,t⟩:=ex ks[j];rw[<-t]at y0 A;obtain⟨c,D⟩:=A;have hi1:(pfx.size:Int)<(k.size:Int):=by omega
   have oC:(j:Int)<(ks.length:Int):=by omega
   have h:=gR.mk i t D;clear i hY t D;obtain⟨es,E⟩:=ex<|(mJ []<|(ks.take j).map<|tP pfx.size).map<|x8 L pfx;rw[<-E]at h;have M:=X E;rcases l:look es (k[pfx.size]'c)with _|x
   ·have QW:=X l;have hcv:=aE4 (k[pfx.size]'c) (by rw[<-Sr c];exact h.c);go_wp2_with(first|(at_lookup;refine Jc _ lS rfl _ _ 245 rfl 5 76 F8 yF _ (Qk _) w.heap.size es (k[pfx.size]'c) rfl h.a.map rfl ?_;rw[QW.out];simp only[Option.getD_none,Option.isSome_none])|(go_at_call 51;go_must(refine((X λW o=>UF m L _ W (J.a.of_block<|o.block m F) hL (J.b.below o<|aQ _) J.c).out _<|h.a.below.alloc h.a.below.size _).mono ?_);rintro e w5⟨rfl,f⟩;have H5:=X f;refine Halt.of ?_));unfold Halt;go_wp2_with(at_mapUpdate;refine Qo _ lS rfl _ _ _ 245 rfl 5 76 F8 yF w.heap.size es (k[pfx.size]'c) (iy<|C<|ep L<|push pfx<|k[pfx.size]'c) rfl (h.a.map.of_block<|(H5.out.block _<|by simp;have:=h.a.map.lt;omega).trans<|dr _ _ _ h.a.map.lt) rfl rfl ?_;intro w6 P Q2 G8;have q:=gR.mk P Q2 G8;refine Halt.of ?_);unfold Halt;go_wp2;go_roundg(gk-1);case rel=>
     refine⟨j+1,by go_simp,by omega,?_⟩;have i:=h.a;have f:=H5.out;have lG:=f.size;simp only[vt]at lG;have Tz:∀b,w.heap.size<b->b<wr->w6.heap[b]?=wr.heap[b]?:=λb h1 h2=>(q.b.block b (by omega)<|by omega).trans<|(f.block b<|by simp;omega).trans<|dr _ _ _ h2;have H:∀b,b<w.heap.size->w6.heap[b]?=wr.heap[b]?:=λb h1=>by have h2:=i.below.size;exact(q.b.block b (by omega)<|by omega).trans<|(f.block b<|by simp;omega).trans<|dr _ _ _<|by omega
     have T:mJ [] ((ks.take<|j+1).map<|tP pfx.size)=mJ [] ((ks.take j).map<|tP pfx.size)++[k[pfx.size]'c]:=by rw[wS,mq hj,B9,wU,<-h.b,gh,qs,X8,Sr c,if_neg];intro Q0;have:=QW.out;rw[M.out,Nh,cJ Q0]at this;grind
     refine⟨?_,dB i.row λb o=>Tz b (by have:=(i.row.lt b o).1;omega) (i.row.lt b o).2,i.below.trans ⟨q.b.os.trans f.os,q.b.tape.trans f.tape,q.b.output.trans f.output,by have:=q.c;omega,H⟩⟩;have:=q.a;rw[af9 _ _ QW.out,M.out]at this;rw[T,wU];exact this
    case measure=>omega
   ·have a:x=iy (C<|ep L<|push pfx<|k[pfx.size]'c)∧k[pfx.size]'c∈mJ [] ((ks.take j).map<|tP pfx.size):=by
     rw[M.out,Nh]at l;split at l;·rename_i Q0;exact⟨(tQ l).symm,Q0⟩
     ·cases l
    obtain⟨d0,d1,d2,d3,d4,d5,d6,d7,hD⟩:∃d0 d1 d2 d3 d4 d5 d6 d7:Int,x=bO #[Y aq d0,Y aq d1,Y aq d2,Y aq d3,Y aq d4,Y aq d5,Y aq d6,Y aq d7]:=⟨_,_,_,_,_,_,_,_,a.1⟩;have QW:=X l;have HM:=X a.2;clear a l;subst hD;go_wp2_with(at_lookup;refine Jc _ lS rfl _ _ 245 rfl 5 76 F8 yF _ (Qk _) w.heap.size es (k[pfx.size]'c) rfl h.a.map rfl ?_;rw[QW.out];simp only[fW,Zj]);go_roundg(gk-1);case rel=>
     refine⟨j+1,by go_simp,by omega,?_⟩;have i:=h.a;have T:mJ [] ((ks.take<|j+1).map<|tP pfx.size)=mJ [] ((ks.take j).map<|tP pfx.size):=by rw[wS,mq hj,B9,wU,<-h.b,gh,qs,X8,Sr c,cJ HM.out]
     rw[T,<-M.out];exact⟨i.map.alloc _,dB i.row λb o=>dr _ _ _ (i.row.lt b o).2,i.below.alloc i.below.size _⟩
    case measure=>omega
  ·have Q1:j=ks.length:=by omega
   subst Q1;have h:=X i;go_wp2;go_ret;exact⟨_,rfl,by have:=h.out.map;rw[vk]at this;exact this,aQ _,h.out.below⟩
attribute [local go_sem] Oper.semAt_some
structure uP(B:Nat)(W:ax)(N:Nat)(T e size:Nat)(v:az)(n:Nat)(xs:List az):Prop where
 box:W.heap[N]?=U (aH #[v] T (0,0))row:W.ownsRow B e size v n xs
 ne:v.ownBlock≠U N
section
variable {B:Nat} {W W' W1:ax} {N T e size n n':Nat} {v v':az} {xs xs':List az}
theorem uP.lt(h:uP B W N T e size v n xs):∀b,rE N v b->b<W:=by
 rintro b(rfl|a);.exact(eX.1 h.box).1
 .exact(h.row.lt b a).2
theorem uP.fJ(h:uP B W N T e size v n xs)(a:∀b,rE N v b->W'.heap[b]?=W.heap[b]?):uP B W' N T e size v n xs:=⟨(a N<|ay rfl).trans h.box,dB h.row λg c=>a g<|aB c,h.ne⟩
theorem uP.cell(h:uP B W N T e size v n xs):W.cell? N=v/\W.frozen? N=ai:=by simp[pz,yu,h.box]
theorem JR{a}(c:W.ownsRow B e size v n xs)(b:v.ownBlock≠a.block)(u):(W.setCell a u).ownsRow B e size v n xs:=dB c λg d=>gJ _ _ _ _ λe=>b<|by grind
theorem uP.appended(h:uP B W N T e size v n xs)(a:W.grownBy W1 v.ownBlock)(l:W1.ownsRow B e size v' n' xs')(f:v'.ownBlock=v.ownBlock\/v'.ownBlock=W):uP B (W1.setCell N v') N T e size v' n' xs'/\bS (rE N v) W (rE N v') (W1.setCell N v'):=by
 have o:=(eX.1 h.box).1;have g:=(a.block N o λe=>h.ne e.symm).trans h.box;have c:v'.ownBlock≠N:=by
  rcases f with d|d;.rw[d];exact h.ne
  grind
 refine⟨⟨An g,JR l c _,c⟩,?_,?_⟩;.refine⟨a.os,a.tape,a.output,by simpa[jL]using a.size,λk j i=>?_⟩;exact(gJ _ _ _ _ λe=>i<|ay e).trans<|a.block k j λe=>i<|aB e.symm
 .rintro b(rfl|m);.exact ay<|ay rfl
  .rcases f with d|d;.exact ay<|aB<|d▸m
   grind
end
theorem au6(l)(x):rows (l++[x])=rows l++x.cells:=by grind[XF,rows]
theorem aGq(B)(v0)(y)(H)(gf:Nat)(lb)(S)(R)(w)(eg:∀A w,(iJ gf A).run Q w=aW (jO gf A) w)(L:Iter Q gf lb (λx=>#[x.val]) S R w)(hR:∀b,R b->b<w)(hB:B<=w.heap.size)(m:w.ownsRow B 46 5 v0 y H)(QX:∀b,R b->v0.ownBlock≠b)(hN:∀z,S z->y+z.length<=1073741824):bz Q 158 #[v0,dF (ei gf) #[] lb] w λe w'=>∃z v,e=bj v∧S z∧w'.ownsRow B 46 5 v (y+z.length) (H++rows z)∧bS (de v0) w (de v) w':=by
 obtain⟨i0,hi,qy,Q0,a⟩:=tT aiV;obtain⟨ad,G,rfl⟩:=fV m;have N:=λb d=>(m.lt b d).2;have u:uP B (w.alloc<|aH #[aC ad y G] 35) w 35 46 5 (aC ad y G) y<|H++rows []:=⟨gI w _,by grind[rows,dB,Below.heap_alloc],λh=>absurd (N _ h)<|by omega⟩;have I:=cH.mk m N;obtain⟨v0,r⟩:=ex<|aC ad y G;rw[<-r]at u I QX⊢;refine callsIn_wide (n:=0).1<|callsIn_of_wp_marks aqD rfl trivial ?_ rfl;simp only[ntmps158,rW,oT,lF,vV,vU,tZ,tY,tX,tW,rV,oV];rw[r];gi_wp2;rw[<-r];refine wp_rangeFunc (gf:=gf) (lb:=lb) rfl eg (L.later<|(O.alloc (λ_=>False) w _).fJ λb d=>⟨hR b d,id⟩) λb d=>by have:=hR b d;simp;omega (λ_=>rfl) (λo W D=>∃v,uP B W w 35 46 5 v (y+o.length) (H++rows o)∧D=rE w v) (λ_ _ _ _=>False) ⟨λo W D⟨v,h,e⟩b d=>h.lt b<|e▸d,λo W D W'⟨v,h,e⟩ha=>⟨v,h.fJ λb d=>ha.block b<|e▸d,e⟩⟩ (λ_=>⟨λ_ _ _ h=>h.elim,λ_ _ _ _ h=>h.elim⟩) (rE w v0) (λb d=>?_) ⟨_,u,rfl⟩ ?round ?done ?stop;·rcases d with rfl|d;all_goals grind
 case round=>
  rintro l o x W D t vG P⟨ju,hS⟩⟨v,k,rfl⟩xm;have hlen:y+(o.length+1)<=1073741824:=by grind
  obtain⟨n,f,c,q,QW⟩:=x;unfold s.val;gi_wp2;refine⟨⟨O.alloc _ _ _,λb d=>d.imp id (·.1)⟩,λW2 p=>?_⟩;have T:l≠W:=by omega
  have i:=k.fJ λb d=>(p.block b λe=>P<|e▸d).trans<|dr _ _ _<|k.lt b d;have j:W2.heap[W.heap.size]?=U (aH #[n,f,c,q,QW] 46 (0,0)):=(p.block _ λe=>T e.symm).trans<|gI W _;have r0:W2.cell? W=U n:=M j 0;have r1:W2.cell? ⟨W,1,V⟩=U f:=M j 1;have r2:W2.cell? ⟨W,2,V⟩=U c:=M j 2;have r3:W2.cell? ⟨W,3,V⟩=U q:=M j 3;have r4:W2.cell? ⟨W,4,V⟩=U QW:=M j 4;obtain⟨hc,hf⟩:=i.cell;have m:=i.row;have C:=i.lt;have Q3:=C _<|ay rfl;have J:W2.heap.size=W+1:=by rw[p.size];simp
  have K9:B<=W2:=by omega
  have HA:=X i;clear k i J p P xm hS L C u j QX t vG T r;gi_wp2_with(gi_at_builtin;go_must(refine Ze _ rfl _ _ 35 rfl B 46 i0 (bO #[aE ⟨#[]⟩,aE ⟨#[]⟩,Y aG 0,Y aG 0,aE ⟨#[]⟩]) 5 64 adx hi qy Q0 a rfl (by decide) v (y+o.length) (H++rows o) rfl (m.alloc _) W2.heap.size 1 1 [n,f,c,q,QW] rfl rfl (BY (by grind) _ _ rfl) (by simp[A5]) (by unfold vQ;omega) (by omega) (by simp;omega) ?_);intro v' w1 QY F _ Q1;refine Halt.of ?_);obtain⟨g',Dc,Q2⟩:=Ca QY;have K:w≠v.ownBlock:=λe=>HA.out.ne e.symm;have um:=(ew (w:=W2.alloc<|aH #[n,f,c,q,QW] 46)<|F.block _ (by simp;omega) K).trans<|(ew (w:=W2)<|dr _ _ _ Q3).trans hc;have OK:=(Ev (w:=W2.alloc<|aH #[n,f,c,q,QW] 46)<|F.block _ (by simp;omega) K).trans<|(Ev (w:=W2)<|dr _ _ _ Q3).trans hf;subst Q2;unfold Halt;gi_wp2;obtain⟨E,h2⟩:=(X<|uP.appended (uP.fJ HA.out λb d=>dr _ _ _<|uP.lt HA.out b d) F QY Q1).out;refine⟨_,⟨_,?_,rfl⟩,h2.shift (O.alloc _ _ _) λ_ h=>ay h⟩;rw[au6,kM,zc,<-jw,<-Nat.add_assoc];exact E
 case done=>
  rintro z W D hS⟨v,k,rfl⟩hL hK rq;obtain⟨hc,hf⟩:=k.cell;have HL:=X hL;gi_wp2;refine⟨by simp,ay ⟨_,_,rfl,vp hK,?_⟩⟩;refine⟨_,results_tmp rfl _ _ _,z,v,rfl,(X hS).out,dB (X k).out.row λg hg=>qX λe=>rq<|aB<|e▸hg,?_⟩;have E:=HL.out;refine⟨⟨E.1.os,E.1.tape,E.1.output,by have:=E.1.size;simp at this⊢;omega,λb d hn=>?_⟩,λb d=>?_⟩
  ·refine(qX<|by simp;omega).trans<|(E.1.block b (by simp;omega) ?_).trans<|dr _ _ _ d;rintro(h|h);·grind
   ·exact hn<|r▸h
  ·rcases E.2 b (aB d)with(h|h)|h;·grind
   ·exact ay<|r▸h
   ·exact aB<|by simp at h;omega
 grind
section
variable {B p:Nat} {m:dR} {vr vw vn vd v':az} {xs:List az} {W W1 W2:ax}
def eO(W:ax)(b e:Nat):Prop:=∃cur,W.heap[b]?=U (aH cur e (0,0))
theorem eO.one{b e a}(h:eO W b e)(k:eO W b a):e=a:=by obtain⟨c,h⟩:=h;obtain⟨d,k⟩:=k;grind
theorem fP{e s n b:Nat}{v}{f}(h:W.ownsRow B e s v n f)(a:v.ownBlock=b):eO W b e:=by
 rcases h.2 with⟨rfl,_⟩|⟨g,c,i,rfl,_,d,_⟩;.cases a
 .cases a;exact⟨_,d⟩
theorem GX:∀{F:List Nd}{xs:List az},Aa W B F xs->∀x∈xs,∀b,x.ownBlock=U b->eO W b 233
 |[],xs,h,x,a,b,c=>by cases h;cases a|n::F,xs,⟨f,d,e,h,t⟩,x,a,b,c=>by
  subst e;simp only[di]at a;rcases a with rfl|rfl|a;.cases c
  .grind[fP]
  .exact GX t x a b c
theorem lK.keep{F}{v}(h:lK W B F v xs)(e:∀b,v.ownBlock=U b->W1.heap[b]?=W.heap[b]?)(f:∀x∈xs,∀b,x.ownBlock=U b->W1.heap[b]?=W.heap[b]?)(d:W.heap.size<=W1):lK W1 B F v xs:=⟨dB h.row e,h.ins.block f,λx a b c=>⟨(h.sep x a b c).1,cB (h.sep x a b c).2.1 d,(h.sep x a b c).2.2⟩⟩
def yQ(p:Nat)(vr vw vn:az)(b:Nat):Prop:=b=p\/vr.ownBlock=U b\/vw.ownBlock=U b\/vn.ownBlock=U b
theorem jr.rQ(h:jr W B p m vr vw vn vd xs):p<W:=(eX.1 h.box).1
theorem jr.rR(h:jr W B p m vr vw vn vd xs):eO W p 180:=⟨_,h.box⟩
theorem jr.dlt(h:jr W B p m vr vw vn vd xs):∀b,yQ p vr vw vn b->B<=b/\b<W:=by
 rintro b(rfl|a|a|a);.exact⟨h.lt,h.rQ⟩
 .exact h.bu.lt b a
 .exact h.cq.lt b a
 .exact h.nodes.row.lt b a
theorem jr.del(h:jr W B p m vr vw vn vd xs):∀b,yQ p vr vw vn b->eO W b 180\/eO W b 46\/eO W b 9\/eO W b 184:=by
 rintro b(rfl|a|a|a);.exact ay h.rR
 .exact aB<|ay<|fP h.bu a
 .exact aB<|aB<|ay<|fP h.cq a
 .exact aB<|aB<|aB<|fP h.nodes.row a
theorem jr.below(h:jr W B p m vr vw vn vd xs)(c:aY W W W1):jr W1 B p m vr vw vn vd xs:=⟨(c.block p h.rQ).trans h.box,h.lt,dB h.bu λb a=>c.block b (h.bu.lt b a).2,dB h.cq λb a=>c.block b (h.cq.lt b a).2,h.nodes.keep (λb a=>c.block b (h.nodes.row.lt b a).2) (λx d b a=>c.block b (h.nodes.sep x d b a).2.1) c.size,dB h.roots λb a=>c.block b (h.roots.lt b a).2⟩
theorem DV{cs}{T i:Nat}{u}(h:W.heap[p]?=U (aH cs T (0,0))):(W.setCell ⟨p,i,V⟩ u).heap[p]?=U (aH (cs.setIfInBounds i u) T (0,0)):=by simp only[jL,zf,h,ee,gL];rfl
theorem Am(W:ax)(a)(u):(W.setCell a u).heap.size=W:=by simp[jL]
theorem jr.aGD(h:jr W B p m vr vw vn vd xs)(g:aY W W W1)(f:bS (de vr) W1 (de v') W2){R}(u:W2.ownsRow B 46 5 v' (m.bu++R).length<|rows<|m.bu++R):jr (W2.setCell p v') B p {m with bu:=m.bu++R} v' vw vn vd xs/\bS (yQ p vr vw vn) W (yQ p v' vw vn) (W2.setCell p v'):=by
 have s:=g.size;have d:∀b,b<W.heap.size->¬eO W b 180->¬eO W b 46->(W2.setCell p v').heap[b]?=W.heap[b]?:=λb j l v=>by have r:b≠p:=λe=>l<|e▸h.rR;rw[gJ _ _ _ _ r,f.1.block b (by omega) λe=>v<|fP h.bu e,g.block b j]
 have o:v'.ownBlock≠p:=λe=>by
  rcases f.2 p e with l|l;.exact absurd (eO.one h.rR<|fP h.bu l)<|by decide
  .have:=h.rQ;omega
 have i:∀b,eO W b 9\/eO W b 184\/eO W b 233\/eO W b 76->¬eO W b 180/\¬eO W b 46:=λb g=>by grind[eO.one]
 have q:W2.heap[p]?=U (aH #[vr,vw,vn,vd] 180 (0,0)):=by rw[f.1.block p (by have:=h.rQ;omega) λe=>absurd (eO.one h.rR<|fP h.bu e)<|by decide,g.block p h.rQ,h.box]
 refine⟨⟨DV q,h.lt,JR u o _,?_,?_,?_⟩,⟨f.1.os.trans g.os,f.1.tape.trans g.tape,f.1.output.trans g.output,?_,λb j t=>?_⟩,λb k=>?_⟩;.exact dB h.cq λb c=>d b (h.cq.lt b c).2 (i b<|ay<|fP h.cq c).1 (i b<|ay<|fP h.cq c).2
 .exact h.nodes.keep (λb c=>d b (h.nodes.row.lt b c).2 (i b<|aB<|ay<|fP h.nodes.row c).1 (i b<|aB<|ay<|fP h.nodes.row c).2) (λx n b c=>d b (h.nodes.sep x n b c).2.1 (i b<|aB<|aB<|ay<|GX h.nodes.ins x n b c).1 (i b<|aB<|aB<|ay<|GX h.nodes.ins x n b c).2)<|by rw[Am];exact bC s f.1.size
 .exact dB h.roots λb c=>d b (h.roots.lt b c).2 (i b<|aB<|aB<|aB<|fP h.roots c).1 (i b<|aB<|aB<|aB<|fP h.roots c).2
 .rw[Am];exact bC s f.1.size
 .rw[gJ _ _ _ _ λe=>t<|ay e,f.1.block b (by omega) λe=>t<|aB<|ay e,g.block b j]
 .rcases k with rfl|k|k|k;.exact ay<|ay rfl
  .rcases f.2 b k with l|l;.exact ay<|aB<|ay l
   grind
  .exact ay<|aB<|aB<|ay k
  .exact ay<|aB<|aB<|aB k
theorem jr.anA(h:jr W B p m vr vw vn vd xs)(g:aY W W W1)(f:bS (de vw) W1 (de v') W2){s}(v:W2.ownsRow B 9 1 v' (m.cq++s).length<|fO aE<|m.cq++s):jr (W2.setCell ⟨p,1,V⟩ v') B p {m with cq:=m.cq++s} vr v' vn vd xs/\bS (yQ p vr vw vn) W (yQ p vr v' vn) (W2.setCell ⟨p,1,V⟩ v'):=by
 have t:=g.size;have d:∀b,b<W.heap.size->¬eO W b 180->¬eO W b 9->(W2.setCell ⟨p,1,V⟩ v').heap[b]?=W.heap[b]?:=λb j l w=>by have r:b≠p:=λe=>l<|e▸h.rR;rw[gJ _ _ _ _ r,f.1.block b (by omega) λe=>w<|fP h.cq e,g.block b j]
 have o:v'.ownBlock≠p:=λe=>by
  rcases f.2 p e with l|l;.exact absurd (eO.one h.rR<|fP h.cq l)<|by decide
  .have:=h.rQ;omega
 have i:∀b,eO W b 46\/eO W b 184\/eO W b 233\/eO W b 76->¬eO W b 180/\¬eO W b 9:=λb g=>by grind[eO.one]
 have q:W2.heap[p]?=U (aH #[vr,vw,vn,vd] 180 (0,0)):=by rw[f.1.block p (by have:=h.rQ;omega) λe=>absurd (eO.one h.rR<|fP h.cq e)<|by decide,g.block p h.rQ,h.box]
 refine⟨⟨DV q,h.lt,?_,JR v o _,?_,?_⟩,⟨f.1.os.trans g.os,f.1.tape.trans g.tape,f.1.output.trans g.output,?_,λb j u=>?_⟩,λb k=>?_⟩;.exact dB h.bu λb c=>d b (h.bu.lt b c).2 (i b<|ay<|fP h.bu c).1 (i b<|ay<|fP h.bu c).2
 .exact h.nodes.keep (λb c=>d b (h.nodes.row.lt b c).2 (i b<|aB<|ay<|fP h.nodes.row c).1 (i b<|aB<|ay<|fP h.nodes.row c).2) (λx n b c=>d b (h.nodes.sep x n b c).2.1 (i b<|aB<|aB<|ay<|GX h.nodes.ins x n b c).1 (i b<|aB<|aB<|ay<|GX h.nodes.ins x n b c).2)<|by rw[Am];exact bC t f.1.size
 .exact dB h.roots λb c=>d b (h.roots.lt b c).2 (i b<|aB<|aB<|aB<|fP h.roots c).1 (i b<|aB<|aB<|aB<|fP h.roots c).2
 .rw[Am];exact bC t f.1.size
 .rw[gJ _ _ _ _ λe=>u<|ay e,f.1.block b (by omega) λe=>u<|aB<|aB<|ay e,g.block b j]
 .rcases k with rfl|k|k|k;.exact ay<|ay rfl
  .exact ay<|aB<|ay k
  .rcases f.2 b k with l|l;.exact ay<|aB<|aB<|ay l
   grind
  .exact ay<|aB<|aB<|aB k
theorem jr.anC(h:jr W B p m vr vw vn vd xs)(j:aY W W W1)(d:bS (de vn) W1 (de v') W2){n}{kv}(z:W1.ownsRow W 233 9 kv n.kids.length<|fO gZ n.kids)(w:W2.ownsRow B 184 2 v' (m.nodes.length+1)<|xs++[n.pfx,kv])(A:B<=W):jr (W2.setCell ⟨p,2,V⟩ v') B p {m with nodes:=m.nodes++[n]} vr vw v' vd (xs++[aE n.pfx,kv])/\bS (yQ p vr vw vn) W (yQ p vr vw v') (W2.setCell ⟨p,2,V⟩ v'):=by
 have y:=j.size;have i:∀b,b<W.heap.size->¬eO W b 180->¬eO W b 184->(W2.setCell ⟨p,2,V⟩ v').heap[b]?=W.heap[b]?:=λb f k D=>by have v:b≠p:=λe=>k<|e▸h.rR;rw[gJ _ _ _ _ v,d.1.block b (by omega) λe=>D<|fP h.nodes.row e,j.block b f]
 have u:v'.ownBlock≠p:=λe=>by
  rcases d.2 p e with k|k;.exact absurd (eO.one h.rR<|fP h.nodes.row k)<|by decide
  .have:=h.rQ;omega
 have o:∀b,eO W b 46\/eO W b 9\/eO W b 233\/eO W b 76->¬eO W b 180/\¬eO W b 184:=λb j=>by grind[eO.one]
 have q:W2.heap[p]?=U (aH #[vr,vw,vn,vd] 180 (0,0)):=by rw[d.1.block p (by have:=h.rQ;omega) λe=>absurd (eO.one h.rR<|fP h.nodes.row e)<|by decide,j.block p h.rQ,h.box]
 have r:=(h.nodes.keep (λb c=>j.block b (h.nodes.row.lt b c).2) (λx t b c=>j.block b (h.nodes.sep x t b c).2.1) y).snoc (jD z A) λb c e=>by have:=(z.lt b c).1;have:=(h.nodes.row.lt b e).2;omega w (λb f s=>d.1.block b f s) (by cases c:v'.ownBlock with
   |none=>
    rcases w.2 with⟨rfl,F⟩|⟨g,C,E,rfl,_⟩;.omega
    .cases c|some b=>
    rcases d.2 b c with k|k;.left;exact k.symm
    grind) d.1.size;refine⟨⟨DV q,h.lt,?_,?_,?_,?_⟩,⟨d.1.os.trans j.os,d.1.tape.trans j.tape,d.1.output.trans j.output,?_,λb f s=>?_⟩,λb l=>?_⟩;.exact dB h.bu λb c=>i b (h.bu.lt b c).2 (o b<|ay<|fP h.bu c).1 (o b<|ay<|fP h.bu c).2
 .exact dB h.cq λb c=>i b (h.cq.lt b c).2 (o b<|aB<|ay<|fP h.cq c).1 (o b<|aB<|ay<|fP h.cq c).2
 .exact r.keep (λb c=>gJ _ _ _ _ λe=>u<|(show b=p from e)▸c) (λx t b c=>gJ _ _ _ _ λe=>absurd (eO.one ⟨_,q⟩<|(show b=p from e)▸GX r.ins x t b c)<|by decide)<|by rw[Am];grind
 .exact dB h.roots λb c=>i b (h.roots.lt b c).2 (o b<|aB<|aB<|aB<|fP h.roots c).1 (o b<|aB<|aB<|aB<|fP h.roots c).2
 .rw[Am];exact bC y d.1.size
 .rw[gJ _ _ _ _ λe=>s<|ay e,d.1.block b (by omega) λe=>s<|aB<|aB<|aB e,j.block b f]
 .rcases l with rfl|l|l|l;.exact ay<|ay rfl
  .exact ay<|aB<|ay l
  .exact ay<|aB<|aB<|ay l
  .rcases d.2 b l with k|k;.exact ay<|aB<|aB<|aB k
   grind
end
def iR(W:ax)(B p:Nat)(m:dR)(D:Nat->Prop):Prop:=∃vr vw vn vd xs,jr W B p m vr vw vn vd xs/\D=yQ p vr vw vn
theorem iR.below{W W1}{B p}{m}{D}(h:iR W B p m D)(f:aY W W W1):iR W1 B p m D:=by obtain⟨d,a,g,b,c,h,e⟩:=h;exact⟨d,a,g,b,c,h.below f,e⟩
theorem iR.lt{W}{B p}{m}{D}(h:iR W B p m D):∀b,D b->B<=b/\b<W:=by obtain⟨e,a,f,c,d,h,rfl⟩:=h;exact h.dlt
theorem Q4(B p o)(m)(D)(L)(pfx)(w)(h:iR w B p m D)(S:cI w o L)(K9:B<=w)(hL:L.length<=1073741824)(hn:m.bu.length+(ep L pfx).length<=1073741824):bz Q 102 #[aF p,bW o,pfx] w λe y=>e=bj (bQ #[])∧∃Q1,iR y B p {m with bu:=m.bu++ep L pfx} Q1∧bS D w Q1 y:=by
 obtain⟨E,vw,Q0,vd,q,s,rfl⟩:=h;obtain⟨ad,z,u⟩:=fV s.bu;have k0:∀W:ax,W.heap[p]?=U (aH #[E,vw,Q0,vd] 180 (0,0))->W.cell? p=E∧W.frozen? p=ai:=λW hW=>⟨M hW 0,by simp[yu,hW]⟩;have C:=s.box;have K:=S.lt;have O:∀b,b=o->E.ownBlock≠b:=λb e hv=>by subst e;obtain⟨cur,h1⟩:=fP s.bu hv;obtain⟨en,ck,h2,_⟩:=S;grind
 have P:=λb T=>(s.bu.lt b T).2;have j:=uJ.mk s S O P;have Cu:=s.rQ;rw[u]at k0 C;go_enter aq2,ntmps102;go_wp2;refine x4 ?_;refine wp_region_Z (S:=λW=>W.heap[p]?=U (aH #[aC ad m.bu.length z,vw,Q0,vd] 180 (0,0))) (z:=11) (by kernel_rfl) C λc=>?_;refine mg (i:=0) (v:=?v0) rfl (by kernel_rfl) (by kernel_rfl) (by kernel_rfl) (by kernel_rfl) (λ_ _ _ h=>h) (ay ⟨by rfl,?AJ⟩) c ?afS;(case AJ=>(intro W f;go_simp;(try with_reducible rfl)));try simp only[dj,fo,fg,eE,eD,eu]
 refine mg (i:=1) (v:=?v1) rfl (by kernel_rfl) (by kernel_rfl) (by kernel_rfl) (by kernel_rfl) (λ_ _ _ h=>h) (ay ⟨by rfl,?Co⟩) c ?afR;(case Co=>(intro W f;go_simp;(try with_reducible rfl)));try simp only[dj,fo,fg,fF,eE,eD,eu]
 refine mg (i:=2) (v:=?v2) rfl (by kernel_rfl) (by kernel_rfl) (by kernel_rfl) (by kernel_rfl) (λ_ _ _ h=>h) (ay ⟨by rfl,?Cn⟩) c ?afQ;(case Cn=>(intro W f;go_simp;(try with_reducible rfl)));try simp only[dj,fo,fg,fF,eE,eD,eu]
 refine mg (i:=3) (v:=?v3) rfl (by kernel_rfl) (by kernel_rfl) (by kernel_rfl) (by kernel_rfl) (λ_ _ _ h=>h) (ay ⟨by rfl,?ZO⟩) c ?avo;(case ZO=>(intro W f;go_simp;(try with_reducible rfl)));try simp only[dj,fo,fg,fF,eE,eD,eu]
 refine mg (i:=4) (v:=?v4) rfl (by kernel_rfl) (by kernel_rfl) (by kernel_rfl) (by kernel_rfl) (λ_ _ _ h=>h) (ay ⟨by rfl,?ZN⟩) c ?avn;(case ZN=>(intro W f;go_simp;(try with_reducible rfl)));try simp only[dj,fo,fg,fF,eE,eD,eu]
 refine mg (i:=5) (v:=?v5) rfl (by kernel_rfl) (by kernel_rfl) (by kernel_rfl) (by kernel_rfl) (λ_ _ _ h=>h) (ay ⟨by rfl,?NX⟩) c ?afP;(case NX=>(intro W f;go_simp;(try with_reducible rfl)));try simp only[dj,fo,fg,fF,eE,eD,eu]
 refine mg (i:=6) (v:=?v6) rfl (by kernel_rfl) (by kernel_rfl) (by kernel_rfl) (by kernel_rfl) (λ_ _ _ h=>h) (ay ⟨by rfl,?NW⟩) c ?afO;(case NW=>(intro W f;go_simp;(try with_reducible rfl)));try simp only[dj,fo,fg,fF,eE,eD,eu]
 obtain⟨g,k⟩:=ex w.drew;rw[<-k]at c⊢;have n:g.heap.size=w:=by rw[k];rfl
 have t:=X k;have A:=X n;clear k n;refine DD (i:=7) (by kernel_rfl) rfl (by rfl) ?_;go_simp;go_at_call 52;refine jm (acG o pfx g) ?_;rintro e i⟨rfl,l⟩;have d:aY g g i:=by rw[l];exact((dK _ _).alloc (aQ _) _).alloc (by simp) _
 have QW:=(d.block p<|by grind).trans c;have I:dx<|i.heap.size=g+2:=X (by rw[l];simp);have G:i.cell? g=U (bW o)∧i.cell? ⟨g+1,0,V⟩=U (aE pfx):=by rw[l];constructor<;>go_simp
 clear l;refine⟨by grind,?_⟩;try simp only[dj,fo,fg,fF,eE,eD,eu]
 have hC:dx<|bz Q 158 #[aC ad m.bu.length z,dF (ei 85) #[] #[aF g,aF<|U ⟨g+1,0,V⟩]] i λe y=>∃q v,e=bj v∧q=ep L pfx∧y.ownsRow B 46 5 v (m.bu.length+q.length) (rows m.bu++rows q)∧bS (de E) i (de v) y:=by
  have n:=A.out;have QX:=I.out;have Q3:aY w w i:=by rw[t.out]at d;exact⟨d.os,d.tape,d.output,d.size,d.block⟩
  have a:=j.b.of_block<|Q3.block o K;refine X ?_;rw[<-u];refine aGq B E m.bu.length (rows m.bu) 85 _ (λq=>q=ep L pfx) (λb=>b=g.heap.size∨b=g.heap.size+1∨b=o) i (λx w=>aq5 x w) (acH _ _ o L pfx i G.1 G.2 a hL) ?_ (by omega) (dB j.a.bu λb T=>Q3.block b<|j.d b T) ?_ (λq e=>by grind);·grind
  ·rintro b(rfl|rfl|rfl)e;·have:=j.d _ e;omega
   ·have:=j.d _ e;omega
   ·exact j.c _ rfl e
 refine DD (i:=8) (by kernel_rfl) rfl (by rfl) ?_;go_simp;go_at_call 158;refine jm hC.out ?_;rintro e w2⟨Dy,v2,rfl,rfl,R,H⟩;have n:=A.out;have QX:=I.out;have r:=(H.1.block p (by omega) λe=>absurd (eO.one j.a.rR<|fP j.a.bu e)<|by decide).trans QW;obtain⟨N,F,J⟩:=fV R;have Q2:=X (j.a.aGD (R:=ep L pfx) (by rw[t.out]at d;exact(⟨d.os,d.tape,d.output,d.size,d.block⟩:aY w.heap.size w i)) H<|by grind[List.length_append,XF]);obtain⟨u0,uf⟩:=k0 w2 r;subst J;refine⟨by grind,?_⟩;try simp only[dj,fo,fg,fF,eE,eD,eu]
 refine DC (i:=9) (v:=aF<|U ⟨p,0,V⟩) (w':=w2) (by kernel_rfl) rfl (by rfl) ?EH (λ_=>r) ?aHN;(case EH=>(go_simp));try simp only[dj,fo,fg,fF,eE,eD,eu]
 refine DC (i:=10) (v:=aF<|U ⟨p,0,V⟩) (w':=w2) (by kernel_rfl) rfl (by rfl) ?Z8 (λ_=>r) ?avq;(case Z8=>(go_simp));try simp only[dj,fo,fg,fF,eE,eD,eu]
 refine VH (i:=11) (w':=w2.setCell ⟨p,0,V⟩<|aC N (m.bu.length+(ep L pfx).length) F) (by kernel_rfl) rfl (by rfl) ?Z7 (λh=>Bool.noConfusion h) ?avp;(case Z7=>(go_simp));try simp only[dj,fo,fg,fF,eu]
 refine VI (by kernel_rfl) ?_ _;refine tS ?_;go_wp2;go_end0;exact⟨rfl,_,⟨_,_,_,_,_,Q2.out.1,rfl⟩,Q2.out.2⟩
end
end Go.Proofs.YtpdbmpbmepkikaaGreatDoor
