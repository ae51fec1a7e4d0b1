/- Laws. -/
import Derived.Laws.AppendOwnNone
import Derived.Laws.CopyOwn
import Derived.Test.YtpdbmpbmepkikaaGreatDoorP10
set_option maxRecDepth 100000
set_option maxHeartbeats 400000
set_option linter.all false
open Go.Proofs.Tryz
open And renaming intro->bP
open BitVec renaming ofInt->Ma
open Bool renaming true->Z,false->ai
open Decidable renaming decide->cq
open Go renaming World->av,Value->ay,Calls->bE,Addr->eK,maxLen->uZ
open Go.Ending renaming returned->bj
open Go.Fn renaming func->ep
open Go.IntKind renaming i64->aH,u8->aq,u64->cK
open Go.Obj renaming cells->aF
open Go.Operand renaming tmp->cu
open Go.Result renaming ok->aV
open Go.RowKit renaming Below->bC,Hid->dR
open Go.Value renaming ownBlock->Mb,int->Y,slice->aD,pointer->aE,string->aG,agg->bN,tuple->bO,bool->cz,func->dH,oneCell'->za
open Go.World renaming alloc->Ig,setCell->jE,cell?->og
open List renaming range->lW
open Nat renaming reduceSub->x9,reduceAdd->ya
open Option renaming some->U,none->V
open Or renaming inr->aA,inl->ax
open UInt8 renaming ofNat->jZ
namespace Go.Proofs.YtpdbmpbmepkikaaGreatDoor
def J8:=@List.length_map
def sd:=@Go.World.ownsRow_nil
def UP:=@Int.emod_lt_of_pos
def kM:=@Nat.zero_le
def yL:=@List.take_add_one
def El:=@Option.toList_some
def rZ:=@List.getElem_mem
def vJ:=@List.take_length
def UO:=@List.length_drop
def UN:=@Nat.mul_comm
def adj:=@Nat.mul_le_mul_right
def qA:=@Go.IntKind.wrap_i64
def adi:=@List.getElem_append_left
def as8:=@List.drop_eq_getElem_cons
def UM:=@List.foldl_cons
def aEg:=@List.append_inj'
def as7:=@List.prefix_append
def GB:=@List.filter_eq_self
def uF:=@List.mem_cons_self
def qz:=@List.mem_flatMap
def adh:=@List.flatMap_nil
def Ek:=@List.exists_mem_of_ne_nil
def yK:=@List.sum_cons
def OE:=@List.flatMap_cons
def UL:=@List.filter_filter
def OD:=@decide_eq_true
def xF:=@List.length_singleton
def J7:=@List.sum_nil
def OC:=@Nat.mul_le_mul_left
def GA:=@List.ne_nil_of_mem
def adg:=@List.eq_nil_iff_forall_not_mem
section
open Go.RowKit
attribute [local go_sem] Oper.semAt_some
theorem axU(bp bn p m g)(id)(L)(n)(w)
  (qR:w.cell? bp=U (.pointer (p))) (xW:w.cell? bn=U (.string n)) (K9:fD w p id m g) (hB:cJ w m L) (hL:L.length<=1073741824) (hn:n.size<=4096):
  aBj Q 67 #[.pointer (U ⟨bp,0,V⟩),.pointer (U ⟨bn,0,V⟩)] (λx=> #[x.field,x.value]) (λxs=>xs=nO L n) (λb=>b=bp∨b=bn∨b=p∨b=m) w:=by
 intro Q1 Q2 J Jx W B ecf Qw A f hR T QW;have QX:cJ W m L:=hB.of_block (Qw.block m (by simp))
 have M:fD W p id m g:=(Qw.block p (by simp)).trans K9
 have V9:W.cell? ⟨bp,0,V⟩=U (.pointer (U ⟨p,0,V⟩)):=(eD (w:=w) (Qw.block bp (by simp))).trans qR
 have K0:=(eD (w:=w) (Qw.block bn (by simp))).trans xW
 have Pd:=M.cell.2.1;have lbp:=nU W _ V9;have lbn:=nU W _ K0;have lp:=M.lt;have lm:=QX.lt;have KA:=M.ne QX;have HX:=X (bP Qw (bP A (bP f (bP hR (bP T QW)))));have HB:=X QX;clear Qw A f hR T QW QX hB qR xW K9 M;refine callsIn_of_wp_marks RZ rfl trivial ?_ rfl;simp only[ntmps67,uH,qB,lQ,ya,x9,vP,vO,vN,vM,vL,qC];gi_wp2;obtain⟨S,z⟩:∃S,S=W.alloc (.cells #[.func (.func Q1) #[] Q2] 92):=⟨_,rfl⟩;have e0:S.cell? bp=U (.pointer (p)):=by rw[z];go_simp
 have e1:S.cell? bn=U (.string n):=by rw[z];go_simp
 have e2:S.cell? ⟨p,1,V⟩=U (.map (m)):=by rw[z];go_simp
 have HW:=X z;have HC:=X (SW m L n S.drew (by rw[z];exact(HB.out.alloc _).of_block rfl) hL hn)
 rw[<-z];clear z;refine wpIn_mono ?aei (λe a w h=>NoPanic.imp e a w h)
 gi_region_with (gi_at_call 68;refine(callsIn_wide.2 HC.out).mono ?_;rintro e v ⟨lb,rfl,hx,r⟩)
 all_goals
  refine NoPanic.normal ?_;have Mr:=X (bP hx r);clear hx r HC e0 e1 e2;gi_wp2;obtain⟨⟨R,QZ,N⟩,C⟩:=Mr.out;clear Mr;obtain⟨Qw,A,f,hR,T,QW⟩:=HX.out;have jK:S.heap.size=W+1:=by rw[HW.out];simp
  have lC:S.drew.heap.size=W+1:=jK;have q:bC W W S:=by rw[HW.out];exact(ei _ _).alloc (aW _) _
  have i:=q.drew.trans (C.mono (by grind))
  have P:v.heap[W.heap.size]? =U (.cells #[.func (.func Q1) #[] Q2] 92 (0,0)):=(C.block _ (by grind)).trans (by rw[HW.out];exact iN _ _)
  have Ve:=C.size;rw[lC] at Ve;have l:=A.lt _ _ _ QW;have E:∀b,B b->b≠W:=λb r e=>by grind
  have xU:∀b,B b->b≠m:=by grind
  have H0:rC W W B (.func (.func Q1) #[] Q2) J [] v (λb=>B b∨b=W):=
   ⟨B,A.st _ _ _ _ QW ((O.iL (F:=λ_=>False) i).fZ λb r=>⟨l b r,λh=>h⟩),⟨λb=>vR,λb r=>.inl r,P,i.size⟩⟩
  refine wp_rangeFunc (gf:=120) (lb:=lb) rfl (C5 M5 rfl (by decide)) QZ (λb r=>(N b r).1) (λ_=>rfl)
   (rC W.heap.size W B (.func (.func Q1) #[] Q2) J) (λc F W' D=>c=.ret∧rC W.heap.size W B (.func (.func Q1) #[] Q2) Jx F W' D) (rC.owned A) (λc=>⟨λQY w D h b r=>(rC.owned f).lt QY w D h.2 b r,λQY w D w' h ha=>⟨h.1,(rC.owned f).st QY w D w' h.2 ha⟩⟩)
   (λb=>B b∨b=W.heap.size) (λb r hr=>?xM) H0 ?round ?done ?stop
  case xM=>
   grind
  case done=>
   rintro xs G D Cc ⟨u,I,j⟩ H hK qV;have hl:=j.left i (aW _) H;have nB:¬u v:=λh=>qV ((j.fa _).2 (.inl h));have y:=A.st _ _ _ _ I ((s8.putObj G v.heap.size (.deferred V)).fZ nB);have su:bT B W u (G.putObj v (.deferred V)):=hl.step (O.putObj (F:=λb=>b=v.heap.size) G v.heap.size _ rfl) (λx hx e=>by omega)
   have d:dR (J xs (G.putObj v (.deferred V)) u∧bT B W u (G.putObj v (.deferred V))):=by grind
   clear HX HB Qw A f hR T QW i QZ l E xU H0 I j H hl y su P HW N C q;gi_wp2;refine⟨by simp,.inl ⟨_,_,rfl,vK hK,?_⟩⟩
   exact⟨_,results_none rfl _ _ _,⟨_,rfl⟩,.inl ⟨_,u,Cc,d.out.1,d.out.2⟩⟩
  case stop=>
   rintro c F G D ⟨jh,Pc⟩ ⟨rfl,u,I,j⟩ H hK qV;have hl:=j.left i (aW _) H;have nB:¬u v:=λh=>qV ((j.fa _).2 (.inl h));have y:=f.st _ _ _ _ I ((s8.putObj G v.heap.size (.deferred V)).fZ nB);have su:bT B W u (G.putObj v (.deferred V)):=hl.step (O.putObj (F:=λb=>b=v.heap.size) G v.heap.size _ rfl) (λx hx e=>by omega)
   have d:dR (Jx F (G.putObj v (.deferred V)) u∧bT B W u (G.putObj v (.deferred V))):=by grind
   clear HX HB Qw A f hR T QW i QZ l E xU H0 I j H hl y su P HW N C q;gi_wp2;refine⟨by simp,.inl ⟨_,_,rfl,vK hK,?_⟩⟩
   exact⟨_,results_none rfl _ _ _,⟨_,rfl⟩,.inr ⟨_,u,⟨jh,Pc⟩,d.out.1,d.out.2⟩⟩
  case round=>
   rintro l2 F ⟨xn,xf,xc,xr,xv⟩ Wr D Au uP pY ⟨jh,hS⟩ j wm;obtain⟨u,I,j⟩:=j;unfold s.val;have Q0:=(rC.owned A).lt F Wr D ⟨u,I,j⟩;have HI:=X (bP I j);have HS:=X hS;have Mu:=X (bP A (bP f (bP T (bP E (bP Q0 pY)))));have AE:=(j.fa W.heap.size).2 (.inr rfl);clear HX HB Qw A f hR T QW i QZ l E xU H0 P HW N C q I j hS;gi_wp2;refine⟨⟨O.alloc _ _ _,λb r=>r.imp (λh=>h) (·.1)⟩,λQ3 t=>?_⟩;have jl:Q3.heap[Wr.heap.size]? =U (.cells #[xn,xf,xc,xr,xv] 46 (0,0)):=(t.block _ (by omega)).trans (iN _ _)
   have c1:Q3.cell? ⟨Wr,1,V⟩=U (.string xf):=K jl 1;have c4:Q3.cell? ⟨Wr,4,V⟩=U (.string xv):=K jl 4;obtain⟨I,j⟩:=HI.out;obtain⟨A,f,T,E,Wy,Hs⟩:=Mu.out;have kb:=λb r=>(t.block b (λe=>Hs (e▸r))).trans (dr _ _ _ (Q0 b r));have jL:zz W W B (.func (.func Q1) #[] Q2) Q3 D u:=⟨j.fa,j.old,(kb _ AE).trans j.box,bq j.size (by grind)⟩
   have Av:=A.st _ _ _ _ I ⟨t.os,t.tape,t.output,by grind,λk hk=>kb k ((j.fa k).2 (.inl hk))⟩
   have q1:Q3.cell? W=U (.func (.func Q1) #[] Q2):=K jL.box 0;have mD:=T F ⟨xn,xf,xc,xr,xv⟩ Q3 u ⟨jh,HS.out⟩ Av;have zx:=X (CallsIn.inRound l2 mD);have H2:=X (bP jL E);gi_wp2;refine zx.out.mono ?_;rintro e W' EJ;have d:dR (∀(o:Nat->Prop),bT u Q3 o W'->zz W W B (.func (.func Q1) #[] Q2) W' (λb=>o b∨b=W) o∧bT (λb=>D b∨(Wr<=b∧b<(Wr.alloc (.cells #[xn,xf,xc,xr,xv] 46)))) Q3 (λb=>o b∨b=W) W'):=X λo hL=>by obtain⟨f1,f2⟩:=H2.out.1.step H2.out.2 rfl hL;exact⟨f1,f2.shift (O.refl _ _) (λb r=>.inl r)⟩
   rcases EJ with⟨rfl,o,y,Cx⟩|⟨rfl,o,y,Cx⟩
   ·have HE:=X (bP y Cx);gi_wp2;exact⟨_,⟨o,HE.out.1,(d.out _ HE.out.2).1⟩,(d.out _ HE.out.2).2⟩
   ·have HE:=X (bP y Cx);gi_wp2;exact⟨_,⟨rfl,o,HE.out.1,(d.out _ HE.out.2).1⟩,(d.out _ HE.out.2).2⟩
attribute [local go_sem] Oper.semAt_some
theorem axS(p)(n)(w):
  bE Q 44 #[aE (U ⟨p,0,V⟩),aG n] w λe a=>e=bj (dH (ep 67) #[] #[aE (w),aE (U ⟨w+1,0,V⟩)])∧
   a=(w.alloc (aF #[aE (p)] 77)).alloc (aF #[n] 9):=by
 go_enter akk,ntmps44;go_wp2;go_ret;exact⟨rfl,rfl⟩
theorem axv(l)(x):lU (l++[x])=lU l++[x.field,x.value]:=by simp[lU]
structure Q9(N:Nat)(pre:List s)(W:av)(D:Nat->Prop)(v:ay):Prop where
 acc:j7 W N 51 9 1 v (2*pre.length) ((lU pre).map aG)
 ok:W.heap[N+1]? =U (aF #[cz Z] 4 (0,0))
 fa:D=λb=>qg N v b∨b=N+1
theorem Q9.owned(N):ql (λa W D=>∃v,Q9 N a W D v):=⟨λa W D ⟨v,h⟩ b c=>by
  rw[h.fa] at c;rcases c with c|rfl
  ·exact h.acc.lt b c
  ·exact(dc.1 h.ok).1,
 λa W D e ⟨v,h⟩ d=>⟨v,h.acc.fZ λb c=>d.block b (by rw[h.fa];grind),(d.block _ (by rw[h.fa];grind)).trans h.ok,h.fa⟩⟩
def IK(bo bn bk bl:Nat)(F:List s)(lv:ay)(E:Nat->Prop)(last:Bool)(pre:List s)(W:av)(D:Nat->Prop):Prop:=
 ∃no k,Mv bo bn bk bl Z no k lv W∧(last=ai->no=ai∧k=(2*pre.length:Nat))∧zq W lv (lU F)∧D=E
theorem IK.owned{r n s bl}{F}{o}{q}(c:∀b,q b↔(b=r∨b=n∨b=s∨b=bl∨o.ownBlock=U b))(f):ql (IK r n s bl F o q f):=⟨λi W D ⟨p,k,h,_,j,e⟩ b m=>by
  subst e;rcases(c b).1 m with rfl|rfl|rfl|rfl|m
  ·exact(dc.1 h.ok).1
  ·exact(dc.1 h.no).1
  ·exact(dc.1 h.k).1
  ·exact(dc.1 h.l).1
  ·exact(World.ownsRow.lt j b m).2,
 λi W D v ⟨p,k,h,t,j,e⟩ d=>by subst e;exact⟨p,k,⟨(d.block _ ((c _).2 (ax rfl))).trans h.ok,(d.block _ ((c _).2 (aA (ax rfl)))).trans h.no,(d.block _ ((c _).2 (aA (aA (ax rfl))))).trans h.k,(d.block _ ((c _).2 (aA (aA (aA (ax rfl)))))).trans h.l⟩,t,dI j λg u=>d.block g ((c g).2 (aA (aA (aA (aA u))))),rfl⟩⟩
theorem aoP(i f j bl B z p m I)(id)(L)(n)(o)(_W0 W:av)(t)(D:∀b,t b↔(b=i∨b=f∨b=j∨b=bl∨o.ownBlock=U b))
  (C:W.cell? ⟨B,0,V⟩=U (aE (U ⟨p,0,V⟩))) (E:W.cell? ⟨z,0,V⟩=U (aG n)) (Q1:fD W p id m I) (P:cJ W m L) (a:L.length<=1073741824) (Q2:n.size<=4096) (N:(nO L n).length<=1000000)
  (T:i≠f∧i≠j∧i≠bl∧f≠j∧f≠bl∧j≠bl) (Pn:∀b,o.ownBlock=U b->b≠i∧b≠f∧b≠j∧b≠bl)
  (w:∀b,t b->¬(b=B∨b=z∨b=p∨b=m)) (H:Mv i f j bl Z ai 0 o W) (hs:zq W o (lU (nO L n))):
  bE Q 67 #[dH (ep 45) #[] #[aE (i),aE (f),aE (j),aE (bl)],aE (B),aE (z)] W λe q=>
   (∃v,e=bj v)∧(∃s k,Mv i f j bl Z s k o q)∧zq q o (lU (nO L n))∧O t W q:=by
 obtain⟨F,G⟩:=ex (nO L n);have y:=axU B z p m I id L n W C E Q1 P a Q2;rw[<-G] at y hs N⊢;have S:=y 45 #[aE (U i),aE (U f),aE (U j),aE (U bl)] (IK i f j bl F o t ai) (IK i f j bl F o t Z) W t
  (C5 YJ rfl (by decide)) ⟨rfl,rfl,rfl,aW _,λ_ _=>rfl⟩ (IK.owned D ai) (IK.owned D Z) w ?_ ⟨ai,0,H,λ_=>⟨rfl,rfl⟩,hs,rfl⟩
 ·refine(callsIn_wide (n:=0)).1 (S.mono ?_);rintro e q ⟨J,(⟨xs,Q3,_,⟨s,k,h,_,c,rfl⟩,d⟩|⟨l,Q3,_,⟨s,k,h,_,c,rfl⟩,d⟩)⟩
  ·exact⟨J,⟨s,k,h⟩,c,d.1⟩
  ·exact⟨J,⟨s,k,h⟩,c,d.1⟩
 ·rintro l x QW A ⟨jh,hS⟩ ⟨s,k,h,Q0,r,rfl⟩;obtain⟨rfl,rfl⟩:=Q0 rfl;have X:l.length<F.length:=by grind
  have R:F[l.length]=x:=by grind
  have:=axT i f j bl F l.length X N o QW h r T;rw[R] at this;refine(callsIn_wide.2 this).mono ?_;rintro e q ⟨rfl,M,u⟩;have c:zq q o (lU F):=dI r λg hg=>u.block g (World.ownsRow.lt r g hg).2 (by grind)
  have d:bT A QW A q:=⟨u.mono λb _ K=>(D b).2 (by grind),λb K=>ax K⟩
  by_cases hle:2*l.length+2<=F.length
  ·exact ax ⟨by grind,A,⟨_,_,M,λ_=>⟨by grind,by simp⟩,c,rfl⟩,d⟩
  ·exact aA ⟨by grind,A,⟨_,_,M,(λh=>Bool.noConfusion h),c,rfl⟩,d⟩
theorem axR(pw)(lv)(R)(i:Nat)(hi)(id)(m g0)(L)(n)(w)(hW:ry w pw lv R)(EA:R.length<=1000000)(P:fD w R[i] id m g0)(c:cJ w m L)(hL:L.length<=500000)(hn:n.size<=4096):
  bE Q 27 #[aE (pw),i,aG n] w λe w'=>∃v,e=bj (bO #[v,Z])∧w'.ownsRow w 9 1 v (lU (nO L n)).length ((lU (nO L n)).map aG)∧bC w w w':=by
 obtain⟨gs,T,hv,t,hci⟩:=hW.cell hi;subst hv;obtain⟨p,hp⟩:=ex (R[i]);rw[<-hp] at P hci;have xV:w.cell? pw=U (aD (gs) R.length T):=K hW.box 0;have aEK:=(dc.1 hW.box).1;obtain⟨i0,hi9,Pb,hq1,hq2⟩:=info_parts Eu;have Pr:(i:Int)<(R.length:Int):=by omega
 have KB:=P.lt;have yS:=c.lt;have HB:=cI.mk P c;clear P c hW hp;refine(callsIn_wide (n:=0)).1 (callsIn_of_wp_marks akt rfl trivial ?_ rfl);simp only[ntmps27,uH,qB,lQ,ya,x9,vP,vO,vN,vM,vL,qC]
 gi_wp2_with (gi_at_call 44;refine(callsIn_wide.2 (axS p n _)).mono ?_;rintro e w1 ⟨rfl,Q0⟩;have Q2:=X Q0;clear Q0)
 obtain⟨P,c⟩:=HB;have E:bC w w w1:=by rw[Q2.out];exact((((ei _ _).alloc (aW _) _).alloc (by simp) _).alloc (by simp;omega) _).alloc (by simp;omega) _
 have jK:w1.heap.size=w+4:=by rw[Q2.out];simp
 have Wi:w1.heap[w.heap.size]? =U (aF #[aD V 0 0] 51 (0,0)):=by rw[Q2.out];simp only[Ig];grind
 have hbo:w1.heap[w.heap.size+1]? =U (aF #[Z] 4 (0,0)):=by rw[Q2.out];simp only[Ig];grind
 have qR:w1.cell? ⟨w+1+1,0,V⟩=U (aE (p)):=by rw[Q2.out];go_simp
 have xW:w1.cell? ⟨w+1+1+1,0,V⟩=U (aG n):=by rw[Q2.out];go_simp
 have Q1:fD w1 p id m g0:=(E.block p KB).trans P;have wu:=c.below E;have hSl:(nO L n).length<=500000:=by refine bq (Em _ _) ?_;unfold dX;rw[J8,Nl];exact bq (Em _ _) (by grind)
 refine wp_rangeFunc (gf:=67) (lb:= #[aE (U ⟨w.heap.size+1+1,0,V⟩),aE (U ⟨w.heap.size+1+1+1,0,V⟩)]) rfl (C5 RZ rfl (by decide)) (axV (w.heap.size+1+1) (w.heap.size+1+1+1) p m g0 id L n w1 qR xW Q1 wu (by omega) hn) (λb d=>by grind) (λ_=>rfl)
  (λz W D=>∃v,Q9 w.heap.size z W D v) (λ_ _ _ _=>False) (Q9.owned _) (λ_=>⟨λ_ _ _ h=>h.elim,λ_ _ _ _ h=>h.elim⟩)
  (λb=>qg w.heap.size (aD V 0 0) b∨b=w.heap.size+1) (λb d=>?xM) ⟨_,⟨Wi,sd _ _ _ _⟩,hbo,rfl⟩ ?round ?done ?stop
 case xM=>
  rcases d with(rfl|d)|rfl
  ·grind
  ·cases d
  grind
 case stop=>grind
 case round=>
  rintro l z ⟨xn,xf,xc,xr,xv⟩ W D Au uP pY ⟨jh,hS⟩ ⟨v,S⟩ wm;have hlen:z.length+1<=500000:=by grind
  have HI:=X S;have hd:=S.fa;subst hd;gi_wp2;refine⟨⟨.refl _ _,λb d=>d.imp (λh=>h) (·.1)⟩,λW2 A=>?_⟩;have kb:=λb d=>A.block b (λe=>pY (e▸d));have o:=HI.out.acc.fZ λb d=>kb b (ax d);have I:=(kb _ (aA rfl)).trans HI.out.ok;obtain⟨hc,hf⟩:=o.cell;have f:=o.row;have hN2:=o.lt _ (ax rfl);have HA:=X o;have HOk:=X I
  gi_wp2_with (gi_at_builtin;go_must (refine wpListIn_append_own_at _ rfl _ _ 51 rfl (w.heap.size+1) 9 i0 (aG ⟨#[]⟩) 1 16 FK hi9 Pb hq1 hq2 rfl (by decide) v (2*z.length) ((lU z).map aG) rfl (f.alloc _) ⟨W2.heap.size,0,V⟩ 2 2 [aG xf,aG xv] rfl rfl (zY (by grind) _ _ rfl) (by simp[za]) (by unfold uZ;omega) (by omega) (by simp;omega) ?_);intro v' w3 Pf C _ kF;refine Halt.of ?_)
  obtain⟨g',A4,Cf⟩:=ownsRow_succ Pf;have hnb:w≠v.ownBlock:=λe=>by have:=(f.lt _ e.symm).1;omega
  have s:U (w.heap.size+1)≠v.ownBlock:=λe=>by
   obtain⟨QW,M⟩:=f;rcases M with⟨rfl,_⟩|⟨g,cap,cur,rfl,_,t,_⟩
   ·cases e
   ·simp only[Mb,ec] at e;subst e;rw[HOk.out] at t;cases t
  have sx:=(eD (w:=W2.alloc (aF #[aG xf,aG xv] 9)) (C.block _ (by simp;omega) hnb)).trans ((eD (w:=W2) (dr _ _ _ hN2)).trans hc)
  have KT:=(B4 (w:=W2.alloc (aF #[aG xf,aG xv] 9)) (C.block _ (by simp;omega) hnb)).trans ((B4 (w:=W2) (dr _ _ _ hN2)).trans hf)
  have avh:=X ((C.block _ (by simp;omega) s).trans ((dr _ _ _ ((dc.1 I).1)).trans HOk.out))
  subst Cf;unfold Halt;gi_wp2;obtain⟨QW,M⟩:=(X (j7.appended (j7.fZ HA.out (λb d=>dr _ _ _ (j7.lt HA.out b d))) C Pf kF)).out;refine⟨_,⟨_,(⟨by rw[axv,uI,jV];exact QW,(gy _ _ _ _ (by simp)).trans avh.out,rfl⟩)⟩,?_⟩
  have h3:=M.shift (O.alloc (λ_=>False) W2 (aF #[aG xf,aG xv] 9)) (E:=λb=>(qg w.heap.size v b∨b=w.heap.size+1)∨(W.heap.size<=b∧b<W.heap.size)) λ_ h=>ax (ax h);refine⟨h3.1,λb d=>?_⟩;rcases d with d|d
  ·exact h3.2 b d
  grind
 case done=>
  rintro xs W D Cc ⟨v,S⟩ F hK qV;subst Cc;have hd:=S.fa;subst hd;have hKl:=(dc.1 hK).1;have VC:=S.ok;obtain⟨awj,f⟩:=S.acc;have hWz:=F.1.size;obtain⟨W2,r⟩:=ex ((W.alloc (aF #[Y aH 0] 3)).alloc (aF #[cz ai] 4));have u:bC W W W2:=by rw[r];exact((ei _ _).alloc (aW _) _).alloc (by simp) _
  have lC:W2.heap.size=W+2:=by rw[r];simp
  have Cp:W2.heap[W.heap.size]? =U (aF #[Y aH 0] 3 (0,0)):=by grind[Below.heap_alloc,World.alloc_heap_new]
  have xP:W2.heap[W.heap.size+1]? =U (aF #[ai] 4 (0,0)):=by
   grind[World.alloc_heap_new,World.size_alloc]
  have G:∀g,v.ownBlock=U g->w<g∧g<W∧(g=w+1∨w+4<=g):=λg t=>by
   have QW:=f.lt g t;refine⟨by omega,QW.2,?_⟩
   rcases F.2 g (ax (aA t)) with((h|h)|h)|h
   ·omega
   ·cases h
   all_goals grind
  have J:∀g,v.ownBlock=U g->g≠w+1:=λg t e=>by
   obtain⟨QW,M⟩:=f;rcases M with⟨rfl,_⟩|⟨g',cap,cur,rfl,_,C,_⟩
   ·cases t
   ·simp only[Mb,ec] at t
    grind
  have j:∀b,b<w1.heap.size->b≠w->b≠w+1->W2.heap[b]? =w1.heap[b]? :=λb d h0 QW=>(u.block b (by omega)).trans (F.1.block b d (by rintro((h|h)|h);exact h0 h;cases h;grind))
  have N:=aoP (w.heap.size+1) (W.heap.size+1) W.heap.size w.heap.size (w.heap.size+1+1) (w.heap.size+1+1+1) p m g0 id L n v w W2
   (λb=>b=w.heap.size+1∨b=W.heap.size+1∨b=W.heap.size∨b=w.heap.size∨v.ownBlock=U b) (λb=>vR)
   ((eD (w:=w1) (a:=⟨_,_,V⟩) (j _ (by grind) (by grind) (by grind))).trans qR) ((eD (w:=w1) (a:=⟨_,_,V⟩) (j _ (by grind) (by grind) (by grind))).trans xW)
   ((j p (by omega) (by omega) (by omega)).trans Q1) (wu.of_block (j m (by omega) (by omega) (by omega))) (by omega) hn (by omega) ⟨by omega,by omega,by omega,by omega,by omega,by omega⟩
   (λb d=>by have QW:=G b d;have M:=J b d;omega)
   (λb d=>by
    rcases d with rfl|rfl|rfl|rfl|d
    ·rintro(h|h|h|h)<;>omega
    ·rintro(h|h|h|h)<;>omega
    ·rintro(h|h|h|h)<;>omega
    ·rintro(h|h|h|h)<;>omega
    ·have QW:=G b d;have M:=J b d;rintro(h|h|h|h)<;>omega)
   ⟨(u.block _ (by omega)).trans VC,xP,Cp,(u.block _ (by omega)).trans awj⟩
   (zq.aq4 (by rw[afO];exact dI f λg t=>u.block g (f.lt g t).2))
  have y:=(F.below E (λb d=>by rcases d with(h|h)|h;omega;cases h;omega)).trans (u.mono (by omega))
  have q:=(u.block _ hKl).trans hK;have H:v.ownBlock≠w1:=λe=>qV (ax (aA e));rw[jK] at q H;have HC:=X N;have aFB:w.heap.size+4<W:=by omega
  rw[r] at HC
  gi_wp2_with (gi_at_call 67;refine(callsIn_wide.2 HC.out).mono ?_;rintro e W3 ⟨⟨rv,rfl⟩,⟨no,k,h45⟩,Q3,B⟩;refine Halt.of ?_)
  have e0:W3.cell? w=v:=K h45.l 0;have e1:W3.cell? ⟨w+1,0,V⟩=U (cz Z):=K h45.ok 0;unfold Halt;gi_wp2;refine wpIn_mono ?aei (λe a w h=>NoPanic.imp e a w h)
  gi_region_with (fail)
  all_goals
   refine NoPanic.normal ?_;gi_wp2;obtain⟨Q3,B⟩:=(X (bP Q3 B)).out;obtain⟨y,q,H,G,r⟩:=(X (bP y (bP q (bP H (bP G r))))).out;rw[<-r] at B;have lC:W2.heap.size=W+2:=by rw[r];simp
   refine⟨by simp,ax ⟨_,_,rfl,vK ((B.block _ ((dc.1 q).1) (by grind)).trans q),?_⟩⟩
   refine⟨_,results_tmp2 rfl _ _ _,v,rfl,?_,?_⟩
   ·exact dI (JC (w:=W3.drew) Q3 λg t=>by grind) λg t=>qE (λe=>H (e▸t))
   ·refine Iy (Fo y (B.trans (O.drew _ _)) (λx hx e=>?_)) (by omega) _
    grind
def Fw(w:av)(v:ay)(l:List s):Prop:=w.ownsRow 0 46 5 v l.length (rows l)
theorem Fw.cell{w}{v}{l}(h:Fw w v l){j}(f):∃g c,v=aD (U ⟨g,0,V⟩) l.length c∧g<w∧
  w.cell? ⟨g,j*5,V⟩=U (aG l[j].name)∧w.cell? ⟨g,j*5+1,V⟩=U (aG l[j].field)∧w.cell? ⟨g,j*5+2,V⟩=U (Y aH l[j].c)∧w.cell? ⟨g,j*5+3,V⟩=U (Y aH l[j].r)∧w.cell? ⟨g,j*5+4,V⟩=U (aG l[j].value):=by
 obtain⟨q,e⟩:=h;rcases e with⟨_,e⟩|⟨g,c,o,k,_,d,p,_,_,m⟩
 ·omega
 ·have b:∀i,i<5->w.cell? ⟨g,j*5+i,V⟩=l[j].cells[i]? :=λi n=>by
   have:=K d (j*5+i);rw[this,<-aaF f i n,<-m,List.getElem?_take_of_lt (by omega)]
   simp
  exact⟨g,c,k,(dc.1 d).1,b 0 (by omega),b 1 (by omega),b 2 (by omega),b 3 (by omega),b 4 (by omega)⟩
attribute [local go_sem] Oper.semAt_some
theorem adQ:(Q.info? 46).map (λi=>(i.zero,i.size,i.bytes))=U (U (bN #[aG ⟨#[]⟩,aG ⟨#[]⟩,Y aH 0,Y aH 0,aG ⟨#[]⟩]),5,64):=by kernel_rfl
theorem atX:(Q.info? 77).map (λi=>(i.zero,i.size,i.bytes))=U (U (aE V),1,8):=by kernel_rfl
theorem ry.ne{w}{b}{c}{f}(h:ry w b c f):c.ownBlock≠b:=λe=>by
 obtain⟨l,j⟩:=h.row;rcases j with⟨rfl,_⟩|⟨g,i,k,rfl,_,d,_⟩
 ·cases e
 ·have:g=b:=by simpa[Mb] using e
  subst this;rw[h.box] at d;cases d
def Ge(l:List s)(id:Int)(n f v:ByteArray):List s×Int×ByteArray:=
 if ld n 8 then(if ld f 4 then(if 20<v.size then(l,3,v) else(IZ l ⟨n,f,js l+1,id,v⟩,0,⟨#[]⟩)) else(l,2,f)) else(l,1,n)
def HU(l:List s)(id:Int)(n:ByteArray):List s×Int×ByteArray:=
 if ld n 8 then(if(P8 l n).isEmpty then(l,4,n) else(IZ l ⟨n,⟨#[]⟩,js l+1,id,⟨#[]⟩⟩,0,⟨#[]⟩)) else(l,1,n)
def xg(c:Int)(n:Nat):Nat:=((if c<0 then-(c+1) else c) % n).toNat
theorem Tq{c}{n}(h:0<n):xg c n<n:=by
 unfold xg;have a:=UP (if c<0 then-(c+1) else c) (show(0:Int)<n by omega)
 grind
end
end Go.Proofs.YtpdbmpbmepkikaaGreatDoor
set_option maxRecDepth 100000
namespace Go.Proofs.YtpdbmpbmepkikaaGreatDoor
section
open Go.RowKit
theorem Tj{w:av}{m e i n:Nat}{v}{xs}(h:w.ownsRow m e i v n xs){b}(c:v.ownBlock=U b):∃a,w.heap[b]? =U (aF a e (0,0)):=by
 rcases h.2 with⟨rfl,_⟩|⟨g,d,a,rfl,_,f,_⟩
 ·cases c
 ·simp only[Mb,ec] at c
  grind
theorem ahl{w:av}{a b:Nat}{c d}{t u:Nat}{r s}(e:w.heap[a]? =U (aF c t r))(f:w.heap[b]? =U (aF d u s))(h:t≠u):a≠b:=by
 grind
variable {N K:Nat} {w w':av} {x pw:Nat} {pv qv:ay}
theorem atS(l)(x):(ins l x).length<=l.length+1:=by
 induction l with
 |nil=>simp[ins]
 |cons y l a=>grind[ins]
theorem ahh{l}{k}(a:0<=k)(h:∀y∈l,y.c<=k):js l<=k:=by
 grind[ahg]
theorem Sq{s}{k}(h:ld s k=Z):xq s=Z∧s.size≠0∧s.size<=k:=by
 simp only[ld,cS,fI] at h
 grind
structure uj(K:Nat)(L l:List s):Prop where
 bk:Bk L l
 len:l.length<=K
 cnt:∀y∈l,0<=y.c∧y.c<=K∧ic y.r
theorem uj.more{K'}{L l}(h:uj K L l)(c:K<=K'):uj K' L l:=
 ⟨h.bk,bq h.len c,λy b=>⟨(h.cnt y b).1,by have:=(h.cnt y b).2.1;omega,(h.cnt y b).2.2⟩⟩
theorem uj.take{L l}(h:uj K L l){n f v}{id}(hid:ic id)(c:Good ⟨n,f,js l+1,id,v⟩):uj (K+1) (fq L ⟨n,f,js L+1,id,v⟩) (IZ l ⟨n,f,js l+1,id,v⟩):=by
 rw[Rp h.bk.sorted,h.bk.clock];have e:=ahh (by omega) λy b=>(h.cnt y b).2.1
 have d:=Xv l;refine⟨h.bk.take c,bq (atS _ _) (by have:=h.len;omega),λy b=>?_⟩
 rcases GR b with rfl|b
 ·grind
 ·exact⟨(h.cnt y b).1,by have:=(h.cnt y b).2.1;omega,(h.cnt y b).2.2⟩
theorem uj.put{L l}(h:uj K L l){id}(hid:ic id)(n f v):uj (K+1) (nP L id n f v).1 (Ge l id n f v).1∧(nP L id n f v).2=(Ge l id n f v).2:=by
 unfold nP Ge;cases b:ld n 8 with
 |false=>exact⟨h.more (by omega),rfl⟩
 |true=>
  cases e:ld f 4 with
  |false=>exact⟨h.more (by omega),rfl⟩
  |true=>
   by_cases h3:20<v.size
   ·simp only[h3,iM];exact⟨h.more (by omega),trivial⟩
   ·simp only[h3,iM,uJ];obtain⟨i,d,g⟩:=Sq b;obtain⟨a,j,c⟩:=Sq e;exact⟨h.take hid ⟨i,d,g,a,c,by grind⟩,trivial⟩
theorem uj.delete{L l}(h:uj K L l){id}(hid:ic id)(n):uj (K+1) (qZ L id n).1 (HU l id n).1∧(qZ L id n).2=(HU l id n).2:=by
 unfold qZ HU;cases a:ld n 8 with
 |false=>exact⟨h.more (by omega),rfl⟩
 |true=>
  rw[h.bk.shown];cases e:(P8 l n).isEmpty with
  |true=>simp only[iM];exact⟨h.more (by omega),trivial⟩
  |false=>
   simp only[iM];obtain⟨c,b,d⟩:=Sq a;exact⟨h.take hid ⟨c,b,d,rfl,kM _,kM _⟩,rfl⟩
end
end Go.Proofs.YtpdbmpbmepkikaaGreatDoor
set_option maxRecDepth 100000
set_option maxRecDepth 100000
namespace Go.Proofs.YtpdbmpbmepkikaaGreatDoor
section
open Go.RowKit
theorem Fw.cases{w}{v}{l}(h:Fw w v l):∃b a,v=aD b l.length a:=by
 obtain⟨d,c⟩:=h
 grind
theorem aa5{x}(h:Fit x):(gI x).length<=12400:=by
 have f:=zI x.name (by have:=h.name;omega)
 have e:=zI x.field (by have:=h.field;omega)
 have b:=zI x.value (by have:=h.value;omega)
 have d:=xo (Ds h.c);have g:=xo (Ds h.r);have:=h.name;have:=h.field;have:=h.value
 grind[gI,List.length_append]
theorem apI{l:List s}(h:∀x∈l,Fit x):(l.flatMap gI).length<=12400*l.length:=by
 induction l with
 |nil=>simp
 |cons x l a=>
  grind[aa5,List.length_append,List.length_cons]
theorem asA(N)(v R)(l)(F)(w)(h:dx N w v l)(hN:N<=w)(t:Fw w R F)(C:∀b,cZ v b->R.ownBlock≠b)(D:∀x∈F,Fit x)(hl:l.length<=274877906944)(hz:F.length<=600000):
  bE Q 163 #[v,R,dH (ep 164) #[] #[]] w λe Q1=>∃m,e=bj m∧dx N Q1 m (l++cV gI F)∧bT (cZ v) w (cZ m) Q1:=by
 obtain⟨ad,cap,rfl⟩:=t.cases;have hcv:cK.wrap (F.length:Int)=(F.length:Int):=by grind[IntKind.wrap_u64]
 have S:=X (DU N v l F.length w h hN (by omega) (by omega))
 have Q3:=xo (n:=F.length) (by omega)
 have E:∀g y,ad=U ⟨g,y,V⟩->g<w:=λg y e=>by
  subst e;rcases t.2 with⟨h,_⟩|⟨g',B,cur,M,_,hg,_⟩
  all_goals grind
 have HLt:=X E;go_enter akP,ntmps163;go_wp2_with (go_at_call 199;go_must (refine S.out.mono ?_);rintro e w1 ⟨v1,rfl,QY,Q0⟩;have G:=cI.mk QY Q0;refine Halt.of ?_)
 unfold Halt;go_wp2;go_loopg [0,16] F.length (λQZ s0 J wr=>∃(d:ay) (j:Nat),d=s0∧J=Y aH j∧QZ+j=F.length∧dx N wr d (l++k F.length++(F.take j).flatMap gI)∧bT (cZ v) w (cZ d) wr)
 case atStart=>exact⟨v1,0,rfl,rfl,by omega,by simpa using G.a,G.b⟩
 case round=>
  obtain⟨d,j,rfl,rfl,hk,u,z⟩:=hrel;by_cases hj:j<F.length
  ·obtain⟨t,C,D⟩:=(X (bP t (bP C D))).out;obtain⟨g,B,M,hg,Q2,L,H,T,I⟩:=t.cell hj;simp only[Value.slice.injEq] at M;obtain⟨rfl,-,rfl⟩:=M;have A:=λi=>eD (w:=w) (a:=⟨g,i,V⟩) (z.1.block g hg (λe=>C g e rfl));rw[<-A] at Q2 L H T I;have a:(l++k F.length++(F.take j).flatMap gI).length<=549755813888:=by
    grind[apI,List.mem_of_mem_take,List.length_take,List.length_append]
   have p:(F.take (j+1)).flatMap gI=(F.take j).flatMap gI++gI F[j]:=by rw[yL,pR hj,El,List.flatMap_append];grind
   have o:=D F[j] (rZ hj);obtain⟨x,hx⟩:=ex (F[j]);rw[<-hx] at Q2 L H T I p o;have fP:=z.1.size;obtain⟨n,f,c,r,s⟩:=x;simp only at Q2 L H T I;have S:dR (∀W,dx N W d (l++k F.length++(F.take j).flatMap gI)->N<=W->bE Q 164 #[d,bN #[n,f,c,r,s]] W λe W'=>∃m,e=bj m∧dx N W' m (l++k F.length++(F.take j).flatMap gI++gI ⟨n,f,c,r,s⟩)∧bT (cZ d) W (cZ m) W'):=
    X λW hW QX=>apJ N d _ ⟨n,f,c,r,s⟩ W hW QX o a
   have uR:(j:Int)<(F.length:Int):=by omega
   have q:=gD.mk u z p;clear u z p o hx A a C D t G;go_wp2_with (go_at_call 164;go_must (refine(S.out _ (q.a.alloc _) (by simp;omega)).mono ?_);rintro e w5 ⟨v5,rfl,K,QW⟩;have H5:=cI.mk K QW;refine Halt.of ?_)
   unfold Halt;go_wp2;go_roundg (gk-1)
   case rel=>exact⟨v5,j+1,rfl,by go_simp,by omega,by rw[q.c,<-jy];exact H5.a,q.b.trans (bT.trans ⟨O.alloc _ _ _,λb u=>ax u⟩ H5.b)⟩
   grind
  ·have P:j=F.length:=by omega
   subst P;rw[vJ] at u;have q:=cI.mk u z;go_wp2;go_ret;exact⟨_,rfl,by rw[cV,<-jy];exact q.a,q.b⟩
attribute [local go_sem] Oper.semAt_some
theorem ajw(l:List UInt8):∀u∈l.map iR,u.oneCell'=Z:=λu a=>by obtain⟨b,_,rfl⟩:=lR.1 a;rfl
end
end Go.Proofs.YtpdbmpbmepkikaaGreatDoor
set_option maxRecDepth 100000
namespace Go.Proofs.YtpdbmpbmepkikaaGreatDoor
section
open Go.RowKit
structure fM(r g off cap:Nat)(l:List UInt8)(bad:Bool)(W:av):Prop where
 box:W.heap[r]? =U (aF #[aD (U ⟨g,off,V⟩) l.length cap,cz bad] 230 (0,0))
 fits:l.length<=cap
 lt:g<W.heap.size
 ne:g≠r
 cells:∀j (h:j<l.length),W.cell? ⟨g,off+j,V⟩=U (iR l[j])
theorem fM.keep{r g a cap}{l}{b}{W W'}(h:fM r g a cap l b W)(c:W'.heap[r]? =W.heap[r]?)(f:W'.heap[g]? =W.heap[g]?)(d:W.heap.size<=W'.heap.size):fM r g a cap l b W':=
 ⟨c.trans h.box,h.fits,cF h.lt d,h.ne,λj e=>(eD (w:=W) (a:=⟨g,a+j,V⟩) f).trans (h.cells j e)⟩
theorem fM.below{r g b cap N}{l}{a}{W W'}(h:fM r g b cap l a W)(c:bC N W W')(d:W<=N):fM r g b cap l a W':=
 h.keep (c.block _ (cF (dc.1 h.box).1 d)) (c.block _ (cF h.lt d)) c.size
theorem fM.zN{r g b cap}{l}{a}{W}(h:fM r g b cap l a W):r<W:=(dc.1 h.box).1
theorem fM.drop{r g c cap n}{l}{d}{W}(h:fM r g c cap l d W)(i:n<=l.length)(b)(k:b=c+n∨cap=n):
  fM r g b (cap-n) (l.drop n) d (W.setCell r (aD (U ⟨g,b,V⟩) (l.length-n) (cap-n))):=by
 refine⟨?_,?_,?_,h.ne,λj f=>?_⟩
 ·simp only[jE,yM,h.box,ey,iM,UO];rfl
 ·rw[UO];have:=h.fits;omega
 ·simpa[jE] using h.lt
 ·rw[UO] at f;have m:=h.fits;have e:b+j=c+(n+j):=by omega
  rw[e,List.getElem_drop];exact(eD (w:=W) (a:=⟨g,c+(n+j),V⟩) (gy _ _ _ _ h.ne)).trans (h.cells (n+j) (by omega))
theorem fM.amH{r g a cap}{l}{b}{W}(h:fM r g a cap l b W):fM r g a cap l Z (W.setCell ⟨r,1,V⟩ (Z)):=by
 refine⟨?_,h.fits,?_,h.ne,λj c=>(eD (w:=W) (a:=⟨g,a+j,V⟩) (gy _ _ _ _ h.ne)).trans (h.cells j c)⟩
 ·simp only[jE,yM,h.box,ey,iM];rfl
 ·simpa[jE] using h.lt
theorem Nf(r g c cap n)(l)(w)(h:fM r g c cap l ai w)(i:n<=l.length):
  bE Q 147 #[aE (r),n] w λe j=>e=bj (aD (U ⟨g,c,V⟩) n n)∧(∃d,fM r g d (cap-n) (l.drop n) ai j)∧O (λb=>b=r) w j:=by
 have s:w.cell? r=U (aD (U ⟨g,c,V⟩) l.length cap):=K h.box 0;have q:=tL h.box 0;have p:(n:Int)<=(l.length:Int):=by omega
 have m:(n:Int)<=(cap:Int):=by have:=h.fits;omega
 have f:=X h;have o:¬(l.length:Int)<(n:Int):=by omega
 have k:¬l.length<n:=by omega
 go_enter YR,ntmps147;go_wp2
 case inr h=>
  go_ret;exact⟨rfl,⟨_,f.out.drop i _ (ax rfl)⟩,O.setCell _ _ _ rfl⟩
 case inl h=>
  subst h;go_ret;refine⟨rfl,⟨c,?_⟩,O.setCell _ _ _ rfl⟩;have:=f.out.drop i c (aA rfl)
  grind
theorem al0(r g a cap n)(l)(c)(w)(h:fM r g a cap l c w)(i:l.length<n):
  bE Q 147 #[aE (r),n] w λe d=>e=bj (aD V 0 0)∧fM r g a cap l Z d∧O (λb=>b=r) w d:=by
 have j:w.cell? r=U (aD (U ⟨g,a,V⟩) l.length cap):=K h.box 0;have m:w.cell? ⟨r,1,V⟩=U c:=K h.box 1;have k:=tL h.box 1;have f:(l.length:Int)<(n:Int):=by omega
 go_enter YR,ntmps147;go_wp2;go_ret;exact⟨rfl,(X h).out.amH,O.setCell _ _ _ rfl⟩
theorem aoC(m z:Nat):cK.wrap ((m)*2^z)=((m*2^z % 18446744073709551616:Nat)):=by
 grind[IntKind.wrap_u64]
theorem aqO{a m z}(d:a<2^z)(c:z<=63):a|||m*2^z % 18446744073709551616=a+m*2^z % 18446744073709551616:=by
 have e:m*2^z % 18446744073709551616=2^z*(m % 2^(64-z)):=by
  have b:(18446744073709551616:Nat)=2^z*2^(64-z):=by rw[<-Nat.pow_add,show z+(64-z)=64 by omega]
  grind[Nat.mul_comm,Nat.mul_mod_mul_left]
 grind[Nat.two_pow_add_eq_or_of_lt,Nat.add_comm]
theorem aAU:∀x,x<256->x&&&127=x % 128:=λx _=>Nat.and_two_pow_sub_one_eq_mod x 7
theorem apV(f k a)(b)(l):rO (f+1) k a (b::l)=if b.toNat<128 then(a+b.toNat % 128*2^k % 18446744073709551616,l,ai) else rO f (k+7) (a+b.toNat % 128*2^k % 18446744073709551616) l:=rfl
theorem aq9(r g B cap)(l)(w)(h:fM r g B cap l ai w):
  bE Q 194 #[aE (r)] w λe Q1=>e=bj (Y cK (rO 10 0 0 l).1)∧(∃C G,fM r g C G (rO 10 0 0 l).2.1 (rO 10 0 0 l).2.2 Q1)∧O (λb=>b=r) w Q1:=by
 obtain⟨R,M⟩:=ex (rO 10 0 0 l);rw[<-M];have Q2:=cI.mk h M;clear h M;go_enter akC,ntmps194;go_wp2;go_loopg [3,4] 10 (λk s3 s4 wr=>∃(z f i j:Nat) (I:List UInt8),s3=Y cK f∧s4=z∧7*k+z=70∧rO k z f I=R∧fM r g i j I ai wr∧f<2^z∧f<18446744073709551616∧O (λb=>b=r) w wr)
 case atStart=>exact⟨0,0,B,cap,l,rfl,rfl,rfl,Q2.b.symm,Q2.a,by decide,by decide,O.refl _ _⟩
 case round=>
  obtain⟨z,f,i,j,I,rfl,rfl,hk,a,s,u,o,c⟩:=hrel;by_cases hz:z<64
  ·obtain⟨H,rfl⟩:∃H,gk=H+1:=⟨gk-1,by omega⟩
   have tP:(z:Int)<64:=by omega
   cases I with
   |nil=>
    go_wp2_with (go_at_call 147;go_must (refine(X (al0 r g i j 1 [] ai wr s (by simp))).out.mono ?_);rintro e T ⟨rfl,p,q⟩;have c1:T.cell? ⟨r,1,V⟩=U Z:=K p.box 1;have y:=cI.mk p q;refine Halt.of ?_)
    unfold Halt;go_wp2;go_ret;obtain⟨a,c⟩:=(X (bP a c)).out;rw[rO] at a;subst a;exact⟨rfl,⟨_,_,y.a⟩,c.trans y.b⟩
   |cons b l2=>
    have HC:=X (Nf r g i j 1 (b::l2) wr s (by simp))
    have Q0:wr.cell? ⟨g,i,V⟩=(iR b):=s.cells 0 (Nat.zero_lt_succ _);have QX:=s.ne;have N:=s.lt;obtain⟨m,Q3⟩:=ex (b.toNat % 128);have xX:b.toNat<256:=b.toNat_lt;have W:bits .and aq (b.toNat:Int) 127=(m:Int):=by
     grind[u8_and_nat,aAU]
    have hcv:cK.wrap (m:Int)=(m:Int):=by grind[IntKind.wrap_u64]
    have A:=aoC m z;have v:=aqO (m:=m) u (by omega:z<=63)
    obtain⟨x,S⟩:=ex (m*2^z % 18446744073709551616);rw[<-S] at A v;have t:x<18446744073709551616:=by omega
    have QY:bits .or cK (f:Int) (x:Int)=((f+x:Nat):Int):=by
     grind[u64_or_nat]
    have d:f+x<18446744073709551616:=by rw[<-v];exact Nat.or_lt_two_pow (n:=64) o t
    have n:f+x<2^(z+7):=by
     have h2:m*2^z<=127*2^z:=adj _ (by omega)
     grind
    have hw7:aH.wrap ((z:Int)+7)=(z:Int)+7:=by grind[IntKind.wrap_i64]
    rw[apV,<-Q3,<-S] at a;have L:=sV.mk a c n d;unfold iR at Q0;obtain⟨QW,D⟩:=ex (f+x);rw[<-D] at QY L;clear a s c u v Q3 S n d D o t;go_wp2_with (go_at_call 147;go_must (refine HC.out.mono ?_);rintro e T ⟨rfl,⟨F,p⟩,q⟩;have c1:T.cell? ⟨r,1,V⟩=U ai:=K p.box 1;have y5:=(eD (w:=wr) (a:=⟨g,i,V⟩) (q.block g N QX)).trans Q0;have y:=cI.mk p q;refine Halt.of ?_)
    unfold Halt;by_cases Hx:b.toNat<128
    ·have J:(b.toNat:Int)<128:=by omega
     go_wp2;go_ret;obtain⟨a,c,-,-⟩:=kp L;rw[dn Hx] at a;subst a;exact⟨rfl,⟨_,_,y.a⟩,c.trans y.b⟩
    ·have J:¬(b.toNat:Int)<128:=by omega
     go_wp2;go_roundg H
     case rel=>
      obtain⟨a,c,n,d⟩:=L;rw[if_neg Hx] at a;exact⟨z+7,QW,F,j-1,l2,rfl,by go_simp,by omega,a,y.a,n,d,c.trans y.b⟩
     grind
  ·have P:gk=0:=by omega
   subst P;have E:z=70:=by omega
   subst E;rw[rO] at a;go_wp2;go_ret;obtain⟨a,c,s⟩:=(X (bP a (bP c s))).out;subst a;exact⟨rfl,⟨_,_,s⟩,c⟩
def uu(r g:Nat)(t:List UInt8)(w w':av):Prop:=(∃off cap,fM r g off cap t ai w')∧O (λb=>b=r) w w'
theorem DV(r g b cap n)(t)(w)(h:fM r g b cap (k n++t) ai w)(d:n<18446744073709551616):
  bE Q 194 #[aE (r)] w λe j=>e=bj (Y cK n)∧uu r g t w j:=by
 have:=aq9 r g b cap _ w h;rw[apT d] at this;exact this.mono λ_ _ ⟨i,f,c⟩=>⟨i,f,c⟩
theorem ag7(W)(g a)(s)(h:∀j (c),W.cell? ⟨g,a+j,V⟩=U (Y aq ((bl s)[j].toNat))):(convert 79 9 (aD (U ⟨g,a,V⟩) s.size s.size)).run Q W=aV (aG s) W:=by
 have b:=run_convert_bytes_back (P:=Q) W 79 9 5 ⟨g,a,V⟩ s.size (bl s) rH wT rG (λj c=>by grind[Addr.add_lit])
 have e:(⟨(bl s).toArray⟩:ByteArray)=s:=by grind
 rw[e] at b;exact b
theorem Jc(r g k cap)(s)(t)(w)(h:fM r g k cap (de s++t) ai w)(hs:s.size<=1073741824):
  bE Q 152 #[aE (r)] w λe F=>e=bj (s)∧uu r g t w F:=by
 rw[de,jy] at h;have D:aH.wrap (s.size:Int)=(s.size:Int):=by grind[IntKind.wrap_i64]
 have y:min (s.size:Int) 1073741824=(s.size:Int):=by omega
 go_enter ak0,ntmps152;go_wp2_with (go_at_call 194;go_must (refine(X (DV r g k cap s.size (bl s++t) w h (by omega))).out.mono ?_);rintro e w1 ⟨rfl,E⟩;have C:=X E;refine Halt.of ?_)
 unfold Halt;obtain⟨⟨b,f,c⟩,p⟩:=C.out;have B:(bl s).length=s.size:=rfl;have i:(bl s++t).drop s.size=t:=by grind
 have d:∀j (n:j<(bl s).length),w1.cell? ⟨g,b+j,V⟩=U (Y aq ((bl s)[j].toNat:Int)):=λj n=>by
  have:=c.cells j (by grind)
  rw[adi n] at this;exact this
 have o:=c.lt;have q:=c.ne;have x:=gD.mk p i d;go_wp2_with (go_at_call 147;go_must (refine(X (Nf r g b f s.size (bl s++t) w1 c (by grind))).out.mono ?_);rintro e G ⟨rfl,⟨l,v⟩,m⟩;have u:=ag7 G g b s (λj n=>(eD (w:=w1) (a:=⟨g,b+j,V⟩) (m.block g o q)).trans (x.c j n));have A:=cI.mk v m;refine Halt.of ?_)
 unfold Halt;go_wp2;go_ret;refine⟨rfl,⟨l,f-s.size,?_⟩,x.a.trans A.b⟩;have:=A.a
 grind
theorem aiQ{x}(b:0<=x)(a:x<9223372036854775808):bits .xor aH x 0=x:=by
 show aH.wrap ((Ma 64 x^^^Ma 64 0).toNat:Int)=x
 grind[BitVec.toNat_ofInt,IntKind.wrap_i64]
theorem aiR{x:Nat}(b:x<9223372036854775808):bits .xor aH (x) (-1)= -(x)-1:=by
 have:=Lib.i64_not x b;rw[<-this];show aH.wrap ((Ma 64 (x:Int)^^^Ma 64 (-1)).toNat:Int)=aH.wrap ((Ma 64 (-1)^^^Ma 64 (x:Int)).toNat:Int)
 grind
theorem Yx(r g d cap)(z)(t)(w)(h:fM r g d cap (k (gF z)++t) ai w)(s:ic z):
  bE Q 195 #[aE (r)] w λe u=>e=bj (z)∧uu r g t w u:=by
 have o:=Ds s;have b:=ajt z;obtain⟨n,i⟩:=ex (gF z);rw[<-i] at h o b;have p:=X (DV r g d cap n t w h o);have a:bits .and cK (n:Int) 1=((n % 2:Nat):Int):=by grind[Lib.u64_and1]
 have f:aH.wrap ((n:Int)/2)=((n/2:Nat):Int):=by grind[IntKind.wrap_i64]
 clear h i;unfold RP at b;by_cases h2:n % 2=0
 ·rw[dn h2] at b;rw[h2] at a;have j:bits .xor aH ((n/2:Nat):Int) 0=z:=by grind[aiQ]
  obtain⟨q,c⟩:=ex (n/2);rw[<-c] at f j;clear b c;go_enter YO,ntmps195;go_wp2_with (go_at_call 194;go_must (refine p.out.mono ?_);rintro e v ⟨rfl,l⟩;have x:=X l;refine Halt.of ?_)
  unfold Halt;go_wp2;go_ret;exact⟨rfl,x.out⟩
 ·rw[if_neg h2] at b;have m:n % 2=1:=by omega
  rw[m] at a;have j:bits .xor aH ((n/2:Nat):Int) (-1)=z:=by rw[aiR (by omega)];exact b
  obtain⟨q,c⟩:=ex (n/2);rw[<-c] at f j;clear b c;go_enter YO,ntmps195;go_wp2_with (go_at_call 194;go_must (refine p.out.mono ?_);rintro e v ⟨rfl,l⟩;have x:=X l;refine Halt.of ?_)
  unfold Halt;go_wp2;go_ret;exact⟨rfl,x.out⟩
theorem apK(r g m cap)(x)(t)(w)(h:fM r g m cap (gI x++t) ai w)(hx:Fit x):
  bE Q 150 #[aE (r)] w λe w'=>e=bj x.val∧uu r g t w w':=by
 obtain⟨n,f,c,q,QX⟩:=x;obtain⟨h1,h2,h3,S,Q1⟩:=hx;simp only at h1 h2 h3 S Q1;simp only[gI,jy] at h;have oc:=h.zN;have sw:=h.lt;obtain⟨o,u⟩:=ex (w.alloc (aF #[aG ⟨#[]⟩,aG ⟨#[]⟩,Y aH 0,Y aH 0,aG ⟨#[]⟩] 46));have J:o.heap[w.heap.size]? =U (aF #[aG ⟨#[]⟩,aG ⟨#[]⟩,Y aH 0,Y aH 0,aG ⟨#[]⟩] 46 (0,0)):=by grind[World.alloc_heap_new]
 have QZ:O (λb=>b=r) w o:=by grind[O.alloc]
 have H:fM r g m cap (de n++(de f++(k (gF c)++(k (gF q)++(de QX++t))))) ai o:=by rw[u];exact h.below ((ei _ _).alloc (aW _) _) (aW _)
 have B:w.heap.size<o:=by grind
 have C1:=X (Jc r g m cap n _ o H (by omega))
 have HW:=X u;have j:=gD.mk QZ J B;unfold s.val;go_enter ak2,ntmps150;go_wp2_with (rw[<-HW.out];go_at_call 152;go_must (refine C1.out.mono ?_);rintro e w2 ⟨rfl,M⟩;have T:=X M;refine Halt.of ?_)
 unfold Halt;obtain⟨⟨o2,c2,G⟩,Cp⟩:=T.out;go_wp2_with (go_at_call 152;go_must (refine(X (Jc r g o2 c2 f _ w2 G (by omega))).out.mono ?_);rintro e w3 ⟨rfl,D⟩;have QW:=X D;refine Halt.of ?_)
 unfold Halt;obtain⟨⟨o3,c3,E⟩,VQ⟩:=QW.out;go_wp2_with (go_at_call 195;go_must (refine(X (Yx r g o3 c3 c _ w3 E S)).out.mono ?_);rintro e Z ⟨rfl,y⟩;have R:=X y;refine Halt.of ?_)
 unfold Halt;obtain⟨⟨o4,c4,F⟩,hk4⟩:=R.out;go_wp2_with (go_at_call 195;go_must (refine(X (Yx r g o4 c4 q _ Z F Q1)).out.mono ?_);rintro e w5 ⟨rfl,I⟩;have W:=X I;refine Halt.of ?_)
 unfold Halt;obtain⟨⟨o5,Q2,z⟩,hk5⟩:=W.out;go_wp2_with (go_at_call 152;go_must (refine(X (Jc r g o5 Q2 QX _ w5 z (by omega))).out.mono ?_);rintro e l ⟨rfl,QY⟩;have P:=X QY;refine Halt.of ?_)
 unfold Halt;have d:=T.out.2.trans (QW.out.2.trans (R.out.2.trans (W.out.2.trans P.out.2)));have Qw:=(d.block _ j.c (by omega)).trans j.b
 have a0:l.cell? w=U (aG ⟨#[]⟩):=K Qw 0;have a1:l.cell? ⟨w,1,V⟩=U (aG ⟨#[]⟩):=K Qw 1;have a2:l.cell? ⟨w,2,V⟩=U (Y aH 0):=K Qw 2;have a3:l.cell? ⟨w,3,V⟩=U (Y aH 0):=K Qw 3;have a4:l.cell? ⟨w,4,V⟩=U (aG ⟨#[]⟩):=K Qw 4;have fz:∀i,l.frozen? ⟨w,i,V⟩=ai:=by grind[Joins.unfrozen_of_block]
 have A:td w 46 l #[aG ⟨#[]⟩,aG ⟨#[]⟩,Y aH 0,Y aH 0,aG ⟨#[]⟩] l:=⟨Qw,O.refl _ _⟩;have Q0:=cI.mk A d;go_wp2;generalize L:jE _ _ _=WF;obtain⟨p,a⟩:=(L▸(((((Q0.a.set 0 _).set 1 _).set 2 _).set 3 _).set 4 _));simp only[eC,eB,ee] at p;refine xG (results_cell_row rfl _ _ w.heap.size 46 _ (0,0) _ rfl p ajD rfl (by kernel_rfl)) rfl ?_
 obtain⟨⟨o6,c6,C⟩,-⟩:=P.out;have d:=Q0.b;have v:=d.size;have N:=j.c;refine⟨rfl,⟨o6,c6,C.keep (a.block _ (by omega) (by omega)) (a.block _ (by omega) (by omega)) a.size⟩,?_⟩
 exact⟨a.os.trans (d.os.trans j.a.os),a.tape.trans (d.tape.trans j.a.tape),a.output.trans (d.output.trans j.a.output),bq (Nat.le_of_lt N) (bq v a.size),λb hb Q3=>(a.block b (by omega) (by omega)).trans ((d.block b (by omega) Q3).trans (j.a.block b hb Q3))⟩
structure ain(r g:Nat)(F:List s)(t:List UInt8)(w:av)(j:Nat)(v:ay)(W:av):Prop where
 row:W.ownsRow w.heap.size 46 5 v j (rows (F.take j))
 ja:∃off cap,fM r g off cap ((F.drop j).flatMap gI++t) ai W
 keep:O (λb=>b=r) w W
theorem ase(r g C cap)(F)(t)(w)(h:fM r g C cap (cV gI F++t) ai w)(hF:∀x∈F,Fit x)(hz:F.length<=600000):
  bE Q 149 #[aE (r),dH (ep 150) #[aE (r)] #[]] w λe R=>∃v,e=bj v∧R.ownsRow w 46 5 v F.length (rows F)∧uu r g t w R:=by
 rw[cV,jy] at h;have P:=h.zN;have Q2:=h.lt;have H:=X (DV r g C cap F.length _ w h (by omega))
 have HF:=X hF;go_enter ak4,ntmps149;go_wp2_with (go_at_call 194;go_must (refine H.out.mono ?_);rintro e w1 ⟨rfl,h1⟩;have a:=X h1;refine Halt.of ?_)
 unfold Halt;go_wp2;go_loopg [5,6] F.length (λk s5 s6 wr=>∃(v:ay) (j:Nat),v=s5∧s6=Y cK (k:Nat)∧k+j=F.length∧ain r g F t w j v wr)
 case atStart=>exact⟨_,0,rfl,rfl,rfl,⟨sd _ _ _ _,by simpa using a.out.1,a.out.2⟩⟩
 case round=>
  obtain⟨v,j,rfl,rfl,hk,G⟩:=hrel;obtain⟨o1,c1,y⟩:=G.ja;have b1:wr.cell? ⟨r,1,V⟩=U (cz ai):=K y.box 1;by_cases hj:j<F.length
  ·obtain⟨B,rfl⟩:∃B,gk=B+1:=⟨gk-1,by omega⟩
   have L:(F.drop j).flatMap gI++t=gI F[j]++((F.drop (j+1)).flatMap gI++t):=by
    grind[List.drop_eq_getElem_cons,List.append_assoc]
   have A:rows (F.take (j+1))=rows (F.take j)++F[j].cells:=by
    grind[List.take_add_one,List.getElem?_eq_getElem,Option.toList_some,Tg,rows]
   rw[L] at y;have p:=apK r g o1 c1 F[j] _ wr y (HF.out F[j] (rZ hj));obtain⟨x,hx⟩:=ex (F[j]);rw[<-hx] at p A;obtain⟨n,f,c,q,Q1⟩:=x;unfold s.val at p;simp only[s.cells] at A;have H:=X p;have m:=cI.mk G A;have GW:=G.keep.size;have M:cK.wrap (((B+1:Nat):Int)-1)=(B:Int):=by grind[IntKind.wrap_u64]
   have D:(0:Int)<((B+1:Nat):Int):=by omega
   obtain⟨kz,O⟩:∃kz:Int,kz=((B+1:Nat):Int):=⟨_,rfl⟩;rw[<-O] at M D⊢;go_wp2_with (go_at_call 150;go_must (refine H.out.mono ?_);rintro e w5 ⟨rfl,h5⟩;have E:=X h5;refine Halt.of ?_)
   unfold Halt;have z:=dI m.a.row λb o=>E.out.2.block b (m.a.row.lt b o).2 (by have:=(m.a.row.lt b o).1;omega)
   have nY:=E.out.2.size;have u:=X z;go_wp2_with (at_builtin;go_must (refine app1 rfl rfl Yz adQ rfl rfl (dI u.out λb o=>dr _ _ _ (u.out.lt b o).2) rfl (by grind) rfl rfl (by omega) (by simp;omega) ?_);intro J Z W d _ kF;refine Halt.of ?_)
   have i:∀b,b<w.heap.size->Z.heap[b]? =w5.heap[b]? :=λb o=>(d.block b (by simp;omega) (λe=>by have:=(u.out.lt b e.symm).1;omega)).trans (dr _ _ _ (by omega))
   have T:=d.size;have Q0:ain r g F t w (j+1) J Z:=by
    refine⟨by rw[m.b];exact W,?_,?_⟩
    ·obtain⟨o5,c5,I⟩:=E.out.1;exact⟨o5,c5,I.keep (i r P) (i g Q2) (by simp at T;omega)⟩
    ·have l:=m.a.keep.trans E.out.2;exact⟨d.os.trans l.os,d.tape.trans l.tape,d.output.trans l.output,by grind,λb o hn=>(i b o).trans (l.block b o hn)⟩
   unfold Halt;go_wp2;go_roundg B
   case rel=>exact⟨J,j+1,rfl,by go_simp,by omega,(X Q0).out⟩
   grind
  ·have N:gk=0:=by omega
   subst N;have S:j=F.length:=by omega
   subst S;have m:=X G;go_wp2;go_ret;refine⟨_,rfl,?_,?_,m.out.keep⟩
   ·have:=m.out.row;rw[vJ] at this;exact this
   ·have:=m.out.ja
    grind
theorem amI{a}(L cs:List a)(h:cs.length=L.length):splice L 0 cs=cs:=by simp[splice,h]
end
section
def C(l:List s)(n f:ByteArray):Option s:=l.find? λy=>cq (y.name=n)&&cq (y.field=f)
def Ec(a b:s):s:=if kg b a then b else a
def gT:Option s->Option s->Option s
 |none,b=>b
 |a,V=>a
 |some a,U b=>U (Ec a b)
theorem ai8(a):kg a a=ai:=by simp[kg,JL]
theorem Rq{a b c}(h:kg a b=Z)(k:kg b c=Z):kg a c=Z:=by
 unfold kg at*;by_cases g:a.c=b.c<;>by_cases e:b.c=c.c
 ·by_cases f:a.r=b.r<;>by_cases d:b.r=c.r
  ·grind[Oo]
  ·grind
  ·grind
  grind
 ·grind
 ·grind
 grind
theorem ai9{a b}(h:kg a b=Z):kg b a=ai:=by
 grind[Rq,ai8]
theorem Yo{a b}(i:sameKey a b=Z)(h:kg a b=ai)(g:kg b a=ai):a=b:=by
 obtain⟨n,f,c,r,v⟩:=a;obtain⟨j,m,e,d,o⟩:=b;simp only[sameKey,cS] at i;unfold kg at h g;by_cases l:c=e
 ·by_cases k:r=d
  ·grind[Ul]
  grind
 grind
def Keyed(n f:ByteArray)(a:Option s):Prop:=∀x,a=U x->x.name=n∧x.field=f
theorem Keyed.same{n f}{x y}(h:Keyed n f (U x))(k:Keyed n f (U y)):sameKey x y=Z:=by have h:=h x rfl;have k:=k y rfl;simp[sameKey,h.1,h.2,k.1,k.2]
theorem asc{n f}{a b}(e:Keyed n f a)(g:Keyed n f b):Keyed n f (gT a b):=by
 intro x d;cases a with
 |none=>exact g x d
 |some a=>cases b with
  |none=>exact e x d
  |some b=>
   simp only[gT,Ec] at d;split at d
   ·exact g x (by grind)
   ·exact e x (by grind)
theorem Om{n f}{a b}(d:Keyed n f a)(h:Keyed n f b):gT a b=gT b a:=by
 cases a with
 |none=>cases b<;>rfl
 |some a=>cases b with
  |none=>rfl
  |some b=>
   simp only[gT,Ec,ec];cases g:kg b a with
   |true=>grind[ai9]
   |false=>
    cases e:kg a b with
    |true=>simp
    |false=>exact Yo (d.same h) e g
theorem Ed(a):gT a a=a:=by
 cases a with
 |none=>rfl
 |some a=>simp[gT,Ec]
theorem Gn(a):gT a V=a:=by cases a<;>rfl
theorem Uj{n f}{a b c}(e:Keyed n f a)(i:Keyed n f b)(k:Keyed n f c):gT (gT a b) c=gT a (gT b c):=by
 cases a with
 |none=>rfl
 |some a=>cases b with
  |none=>rfl
  |some b=>cases c with
   |none=>rfl
   |some c=>
    simp only[gT,Ec];cases h:kg b a with
    |true=>
     grind[Rq]
    |false=>
     cases l:kg c b with
     |true=>simp
     |false=>
      cases j:kg c a with
      |false=>grind
      |true=>
       cases g:kg a b with
       |true=>grind[Rq]
       |false=>
        have:=Yo (e.same i) g h
        grind
theorem sM(l)(n f):Keyed n f (C l n f):=λx b=>by
 have:=List.find?_some b
 grind
theorem wL{l}{n f}{x}(h:C l n f=U x):x∈l∧x.name=n∧x.field=f:=
 ⟨OJ h,sM l n f x h⟩
theorem QJ{l}(hs:p l){x}(c:x∈l):C l x.name x.field=U x:=by
 cases h:C l x.name x.field with
 |none=>exact absurd (List.find?_eq_none.1 h x c) (by simp)
 |some y=>
  have b:=wL h;rw[hs.inj b.1 c (by simp[sameKey,b.2.1,b.2.2])]
theorem Fp{l l'}(hs:p l)(b:p l')(h:∀n f,C l n f=C l' n f):l=l':=by
 refine hs.unique b ((OI hs.nodup b.nodup).2 λx=>⟨λc=>?_,λc=>?_⟩)
 ·have:=QJ hs c
  grind[wL]
 ·have:=QJ b c
  grind[wL]
theorem ahQ{l:List s}(hs:p l)(x:s)(n f:ByteArray):C (ins l x) n f=if x.name=n∧x.field=f then gT (C l n f) (U x) else C l n f:=by
 induction l with
 |nil=>
  simp only[ins,C,Kg,List.find?_nil,gT]
  grind
 |cons y l c=>
  have g:=vQ.1 hs;have c:=c g.2;by_cases h:x.name=n∧x.field=f
  ·obtain⟨rfl,rfl⟩:=h;simp only[and_self,iM] at c⊢;rw[ins];by_cases b:sameKey y x=Z
   ·have d:(cq (y.name=x.name)&&cq (y.field=x.field))=Z:=b;rw[dn b];have e:C (y::l) x.name x.field=U y:=by unfold C;grind
    rw[e];simp only[gT,Ec];cases a:kg x y with
    |true=>simp[C,Kg]
    |false=>grind
   ·have d:(cq (y.name=x.name)&&cq (y.field=x.field))=ai:=by simpa[sameKey] using b
    have e:C (y::l) x.name x.field=C l x.name x.field:=by unfold C;grind
    rw[if_neg b,e];by_cases i:ahead x y=Z
    ·rw[dn i];have k:C l x.name x.field=V:=by
      cases m:C l x.name x.field with
      |none=>rfl
      |some z=>
       have j:=wL m;have:=QM i (g.1 z j.1)
       grind[Ba]
     rw[k];simp[C,Kg,gT]
    ·have:C (y::ins l x) x.name x.field=C (ins l x) x.name x.field:=by unfold C;grind
     grind
  ·rw[ins];split
   ·rename_i b;split
    ·have o:(cq (y.name=n)&&cq (y.field=f))=ai:=by
      simp only[sameKey,cS,fI] at b
      grind
     unfold C;grind
    grind
   ·split
    ·unfold C;grind
    ·unfold C at c⊢
     grind
theorem XO{a}(d:p a)(b)(l:p b)(n f):C (b.foldl ins a) n f=gT (C a n f) (C b n f):=by
 induction b generalizing a with
 |nil=>simp[C,Gn]
 |cons x b g=>
  have i:=vQ.1 l;rw[UM,g (OX d x) i.2,ahQ d];by_cases h:x.name=n∧x.field=f
  ·have e:C (x::b) n f=U x:=by unfold C;grind
   have j:C b n f=V:=by
    cases k:C b n f with
    |none=>rfl
    |some z=>
     have m:=wL k
     grind[Ba]
   rw[dn h,e,j,Gn]
  ·have e:C (x::b) n f=C b n f:=by unfold C;grind
   grind
def kP(a b:List s):List s:=b.foldl ins a
theorem Ca{a}(d:p a)(b):p (kP a b):=afY d b
theorem U7{a b}(d:p a)(e:p b):kP a b=kP b a:=
 Fp (Ca d b) (Ca e a) λn f=>by rw[kP,kP,XO d b e,XO e a d];grind[Om,sM]
def push(p:ByteArray)(c:UInt8):ByteArray:=p++⟨#[c]⟩
theorem ye(p)(c):bl (push p c)=bl p++[c]:=by grind[push,aAa]
theorem tC(p):(bl p).length=p.size:=by cases p;rfl
theorem size_push(p)(c):(push p c).size=p.size+1:=by grind[tC,ye,List.length_append]
theorem push_inj{p q}{c d}(h:push p c=push q d):p=q∧c=d:=by
 have e:bl p++[c]=bl q++[d]:=by grind[ye]
 grind[List.append_inj',zk]
def below(p n f:ByteArray):Bool:=(bl p).isPrefixOf (bl (iA n f))
theorem vh{p n f}:below p n f=Z↔bl p<+:bl (iA n f):=List.isPrefixOf_iff_prefix
theorem yf{p n f}{c}(h:below (push p c) n f=Z):below p n f=Z:=by
 grind[vh,ye,List.prefix_append]
theorem ahF{p n f}{c d}(h:below (push p c) n f=Z)(k:below (push p d) n f=Z):c=d:=by
 rw[vh,ye] at h k;obtain⟨t,b⟩:=h;obtain⟨u,a⟩:=k
 grind[List.append_assoc,List.append_cancel_left,List.cons.injEq]
theorem ahE{p q n f}(h:below p n f=Z)(k:below q n f=Z)(hs:p.size=q.size):p=q:=by
 rw[vh] at h k;obtain⟨t,b⟩:=h;obtain⟨u,a⟩:=k
 grind[zk,List.append_inj,tC]
theorem ahD{p n f}(h:below p n f=Z)(hs:p.size<(iA n f).size):∃c,below (push p c) n f=Z:=by
 rw[vh] at h;obtain⟨t,a⟩:=h;cases t with
 |nil=>
  grind[tC,iA]
 |cons c t=>exact⟨c,by rw[vh,ye];exact⟨t,by grind⟩⟩
theorem Iz(n f):below ⟨#[]⟩ n f=Z:=by grind[vh]
def q(l:List s)(p:ByteArray):List s:=l.filter λx=>below p x.name x.field
theorem my{l}{p}{x}:x∈q l p↔x∈l∧below p x.name x.field=Z:=by grind[q]
theorem FQ(l):q l ⟨#[]⟩=l:=GB.2 λ_ _=>Iz _ _
def C8:List UInt8:=(lW 256).map jZ
theorem ar8(c):c∈C8:=by unfold C8;rw[lR];exact⟨c.toNat,List.mem_range.2 c.toNat_lt,by simp⟩
theorem are:C8.Nodup:=by
 unfold C8;unfold List.Nodup;rw[Ke];refine UT (λ{a b} g d f e=>?_) List.pairwise_lt_range;have d:=List.mem_range.1 d;have:=congrArg UInt8.toNat e
 grind[UInt8.toNat_ofNat']
def oW(l:List s)(p:ByteArray):List UInt8:=C8.filter λc=> !(q l (push p c)).isEmpty
theorem JH{l}{p}{c}:c∈oW l p↔q l (push p c)≠ []:=by
 grind[oW,ar8]
theorem TN(l)(p):(oW l p).Nodup:=are.filter _
structure Nd where
 pfx:ByteArray
 kids:List (UInt8×Int)
structure dP where
 bh:List s
 cp:List ByteArray
 nodes:List Nd
 roots:List Int
section
variable (hs:List s->Int)
def B8(l:List s)(p:ByteArray):List (UInt8×Int):=(oW l p).map λc=>(c,hs (q l (push p c)))
def iT(l:List s)(p:ByteArray):Nd:=⟨p,B8 hs l p⟩
def qI(l:List s)(p:ByteArray)(k:UInt8×Int):List s:=if q l (push p k.1)≠ []∧hs (q l (push p k.1))≠k.2∧k.1=0 then q l (push p k.1) else []
def qH(l:List s)(p:ByteArray)(k:UInt8×Int):List ByteArray:=if q l (push p k.1)=[]∨(hs (q l (push p k.1))≠k.2∧k.1=0) then [push p k.1] else []
def qJ(l:List s)(p:ByteArray)(k:UInt8×Int):List Nd:=if q l (push p k.1)≠ []∧hs (q l (push p k.1))≠k.2∧k.1≠0 then [iT hs l (push p k.1)] else []
def BF(l:List s)(n:Nd):List UInt8:=(oW l n.pfx).filter λc=> !(n.kids.map (·.1)).contains c
def wK(l:List s)(n:Nd):List s:=n.kids.flatMap (qI hs l n.pfx)++(BF l n).flatMap λc=>q l (push n.pfx c)
def ue(l:List s)(n:Nd):List ByteArray:=n.kids.flatMap (qH hs l n.pfx)
def ug(l:List s)(n:Nd):List Nd:=n.kids.flatMap (qJ hs l n.pfx)
def t(l:List s)(m:dP):dP where
 bh:=m.cp.flatMap (q l)++m.nodes.flatMap (wK hs l)
 cp:=m.nodes.flatMap (ue hs l)
 nodes:=m.nodes.flatMap (ug hs l)++m.roots.flatMap λd=>if d=hs l then [] else [iT hs l ⟨#[]⟩]
 roots:=[]
def dP.none(m:dP):Bool:=m.bh.isEmpty&&m.cp.isEmpty&&m.nodes.isEmpty
def aS(l:List s)(m:dP):List s:=m.bh.foldl ins l
def Ft(l:List s)(m:dP):Option dP:=if(t hs (aS l m) m).none then V else U (t hs (aS l m) m)
end
def told(R:List s)(n f:ByteArray):Bool:=R.any λx=>cq (x.name=n)&&cq (x.field=f)
theorem Du{R}{n f}:told R n f=Z↔ ∃x∈R,x.name=n∧x.field=f:=by
 unfold told
 grind
theorem On{n f}{a b}(d:Keyed n f a)(c:Keyed n f b):gT (gT a b) b=gT a b:=by grind[Uj,Ed]
theorem alZ{X A}(d:p X)(a:p A)(n f):∀(R),(∀x∈R,x∈X)->C (R.foldl ins A) n f=if told R n f then gT (C A n f) (C X n f) else C A n f:=by
 intro R;induction R generalizing A with
 |nil=>intro _;rfl
 |cons x R c=>
  intro h;rw[UM,c (OX a x) λy g=>h y (uE _ g),ahQ a];have i:=QJ d (h x (uF ..));have b:told (x::R) n f=(cq (x.name=n)&&cq (x.field=f)||told R n f):=rfl;rw[b];by_cases e:x.name=n∧x.field=f
  ·obtain⟨rfl,rfl⟩:=e;simp only[and_self,iM,decide_true]
   grind[On,sM]
  grind
theorem M8{Y}(a:p Y)(m):p (aS Y m):=afY a _
def wQ(A B X:List s):Prop:=∀n f,C X n f=C A n f∨C X n f=gT (C A n f) (C B n f)
structure rE(A B X Y:List s):Prop where
 sA:p A
 sB:p B
 sX:p X
 sY:p Y
 gX:∀x∈X,Good x
 gY:∀x∈Y,Good x
 bX:wQ A B X
 bY:wQ B A Y
theorem acv(A B)(n f):gT (C B n f) (C A n f)=gT (C A n f) (C B n f):=Om (sM _ _ _) (sM _ _ _)
theorem atG(A B)(n f):gT (C A n f) (gT (C A n f) (C B n f))=gT (C A n f) (C B n f):=by rw[<-Uj (sM _ _ _) (sM _ _ _) (sM _ _ _),Ed]
theorem FM{X Y}(c:p X)(b:p Y){m}(h:∀x∈m.bh,x∈X)(n f):C (aS Y m) n f=if told m.bh n f then gT (C Y n f) (C X n f) else C Y n f:=alZ c b n f _ h
theorem WM:∀{R l:List s} {x},x∈R.foldl ins l->x∈l∨x∈R
 | [],l,x,h=>ax h
 |y::R,l,x,h=>by
  rw[UM] at h;rcases WM h with h|h
  ·grind[GR,List.mem_cons_self]
  grind
theorem rE.aS{A B X C}(h:rE A B X C){m}(d:∀x∈m.bh,x∈X):rE B A (aS C m) X:=by
 refine⟨h.sB,h.sA,M8 h.sY m,h.sX,λx b=>?_,h.gX,λn f=>?_,h.bX⟩
 ·rcases WM b with b|b
  ·exact h.gY x b
  ·exact h.gX x (d x b)
 ·rw[FM h.sX h.sY d];split
  ·right;have i:=acv A B n f;have g:=atG B A n f;rcases h.bX n f with c|c<;>rcases h.bY n f with e|e<;>rw[c,e]
   ·grind[On,sM]
   ·grind
   grind[Ed]
  ·exact h.bY n f
theorem ahP{l}{n f}:C l n f=V↔ ∀x∈l,¬(x.name=n∧x.field=f):=by
 unfold C
 grind
theorem QI{l}(p n f):C (q l p) n f=if below p n f then C l n f else V:=by
 split
 ·unfold C q
  grind
 grind[ahP,my]
theorem zJ{X Y}(c:p X)(b:p Y){a}(h:∀n f,below a n f=Z->C X n f=C Y n f):q X a=q Y a:=by
 refine Fp (c.filter _) (b.filter _) λn f=>?_
 grind[QI]
theorem sub_eq{X Y}{p}(h:q X p=q Y p){n f}(c:below p n f=Z):C X n f=C Y n f:=by
 have b:=QI (l:=X) p n f;have a:=QI (l:=Y) p n f
 grind
theorem Jf{X}{p}(h:q X p=[]){n f}(b:below p n f=Z):C X n f=V:=by have a:=QI (l:=X) p n f;rw[b,dn rfl,h] at a;rw[<-a];rfl
theorem Mm{X}{x}(b:x∈X):C X x.name x.field≠V:=λh=>(ahP.1 h) x b ⟨rfl,rfl⟩
section
variable (hs:List s->Int)
structure mg(A B X Y:List s)(m:dP)(ℓ:Nat):Prop where
 bk:rE A B X Y
 bh:∀x∈m.bh,x∈X
 node:∀nd∈m.nodes,nd=iT hs X nd.pfx
 size:∀nd∈m.nodes,nd.pfx.size=ℓ
 nz:∀nd∈m.nodes,(0:UInt8)∉bl nd.pfx
 deep:m.nodes≠ []->ℓ<=13
 diff:∀nd∈m.nodes,∃n f,below nd.pfx n f=Z∧C A n f≠C B n f
 IY:∀w∈m.cp,w.size=ℓ
 dis:∀w∈m.cp,∀nd∈m.nodes,w≠nd.pfx
 apart:∀x∈m.bh,∀nd∈m.nodes,below nd.pfx x.name x.field=ai
 act:∀nd∈m.nodes,∀n f,below nd.pfx n f=Z->C X n f=C A n f∧C Y n f=C B n f
 roots:m.roots=[]
variable {hs} {A B X a:List s} {m:dP} {ℓ:Nat}
theorem Ab{X}{p}{k}:k∈(iT hs X p).kids↔q X (push p k.1)≠ []∧k.2=hs (q X (push p k.1)):=by
 show k∈(oW X p).map _↔_
 grind[JH]
theorem Oh{X a}{p}{c}:c∈BF a (iT hs X p)↔q a (push p c)≠ []∧q X (push p c)=[]:=by
 unfold BF;rw[xH,JH];refine and_congr_right λ_=>?_;rw[Bool.not_eq_true',<-Bool.not_eq_true,List.contains_iff_mem,lR];constructor
 ·intro h;refine nq λb=>h ⟨(c,hs (q X (push p c))),Ab.2 ⟨b,rfl⟩,rfl⟩
 grind[Ab]
theorem Ug{X a}{p}{x}:x∈wK hs a (iT hs X p)↔ ∃c,x∈q a (push p c)∧(q X (push p c)=[]∨(q X (push p c)≠ []∧hs (q a (push p c))≠hs (q X (push p c))∧c=0)):=by
 unfold wK;simp only[qD,qz];constructor
 ·rintro(⟨k,g,b⟩|⟨c,i,b⟩)
  ·obtain⟨d,f⟩:=Ab.1 g;unfold qI at b;split at b
   ·rename_i h;exact⟨k.1,b,aA ⟨d,by rw[<-f];exact h.2.1,h.2.2⟩⟩
   grind
  ·exact⟨c,b,ax (Oh.1 i).2⟩
 ·rintro⟨c,b,h|⟨d,f,j⟩⟩
  ·exact aA ⟨c,Oh.2 ⟨(λe=>by grind),h⟩,b⟩
  ·refine ax ⟨(c,hs (q X (push p c))),Ab.2 ⟨d,rfl⟩,?_⟩;show x∈qI hs a p _;unfold qI
   grind
theorem Oi{X a}{p w}:w∈ue hs a (iT hs X p)↔ ∃c,w=push p c∧q X (push p c)≠ []∧(q a (push p c)=[]∨(hs (q a (push p c))≠hs (q X (push p c))∧c=0)):=by
 unfold ue;simp only[qz];constructor
 ·rintro⟨k,f,b⟩;obtain⟨d,e⟩:=Ab.1 f;unfold qH at b;split at b
  ·rename_i h;rw[mA] at b;exact⟨k.1,b,d,by rw[<-e];exact h⟩
  grind
 ·rintro⟨c,rfl,d,e⟩;refine⟨(c,hs (q X (push p c))),Ab.2 ⟨d,rfl⟩,?_⟩;show _∈qH hs a p _;unfold qH
  grind
theorem acu{X a}{p}{e}:e∈ug hs a (iT hs X p)↔ ∃c,e=iT hs a (push p c)∧q X (push p c)≠ []∧q a (push p c)≠ []∧hs (q a (push p c))≠hs (q X (push p c))∧c≠0:=by
 unfold ug;simp only[qz];constructor
 ·rintro⟨k,g,b⟩;obtain⟨d,f⟩:=Ab.1 g;unfold qJ at b;split at b
  ·rename_i h;rw[mA] at b;exact⟨k.1,b,d,h.1,by rw[<-f];exact h.2.1,h.2.2⟩
  grind
 ·rintro⟨c,rfl,d,f,i,j⟩;refine⟨(c,hs (q X (push p c))),Ab.2 ⟨d,rfl⟩,?_⟩;show _∈qJ hs a p _;unfold qJ
  grind
theorem mg.quiet(M:mg hs A B X a m ℓ){b}(c:b∈m.nodes){n f}(d:below b.pfx n f=Z):C (aS a m) n f=C B n f∧C X n f=C A n f:=by refine⟨?_,(M.act b c n f d).1⟩;rw[FM M.bk.sX M.bk.sY M.bh,if_neg,(M.act b c n f d).2];intro h;obtain⟨x,e,rfl,rfl⟩:=Du.1 h;rw[M.apart x e b c] at d;grind
theorem adJ{x}(d:Good x){p}{c}(b:below (push p c) x.name x.field=Z):p.size+1<=14∧(c≠0->p.size+1<=13):=by
 rw[vh,ye,zi] at b;have j:=b.length_le;have i:=d.JG;have h:=d.Lq;simp only[jV,qB,tC] at j i h;refine⟨by omega,λg=>?_⟩
 refine nq λf=>g ?_;have e:(bl p++[c]).length=(bl x.name++46::(bl x.field++[0])).length:=by
  grind[List.length_append,List.length_cons,List.length_nil,tC]
 have:=b.eq_of_length e
 grind[List.append_inj']
theorem mg.step(M:mg hs A B X a m ℓ):mg hs B A (aS a m) X (t hs (aS a m) m) (ℓ+1):=by
 have r:∀x∈(t hs (aS a m) m).bh,x∈aS a m∧((∃w∈m.cp,below w x.name x.field=Z)∨∃g∈m.nodes,∃c,below (push g.pfx c) x.name x.field=Z∧(q X (push g.pfx c)=[]∨c=0)):=by
  intro x k;simp only[t,qD,qz] at k;rcases k with⟨w,p,k⟩|⟨g,j,k⟩
  ·grind[my]
  ·rw[M.node g j] at k
   grind[Ug,my]
 have i:∀d∈(t hs (aS a m) m).nodes,∃g∈m.nodes,∃c,d=iT hs (aS a m) (push g.pfx c)∧q X (push g.pfx c)≠ []∧q (aS a m) (push g.pfx c)≠ []∧hs (q (aS a m) (push g.pfx c))≠hs (q X (push g.pfx c))∧c≠0:=by
  intro d b;simp only[t,M.roots,adh,tK,qz] at b;obtain⟨g,j,k⟩:=b;rw[M.node g j] at k
  grind[acu]
 have o:∀w∈(t hs (aS a m) m).cp,∃g∈m.nodes,∃c,w=push g.pfx c∧(q (aS a m) (push g.pfx c)=[]∨c=0):=by
  intro w p;simp only[t,qz] at p;obtain⟨g,j,k⟩:=p;rw[M.node g j] at k
  grind[Oi]
 have P:=M.bk.aS M.bh;refine⟨P,λx k=>(r x k).1,λd b=>?_,λd b=>?_,λd b=>?_,λy=>?_,λd b=>?_,λw p=>?_,λw p d b=>?_,λx k d b=>?_,λd b n f s=>?_,rfl⟩
 ·obtain⟨g,j,c,rfl,_⟩:=i d b;rfl
 ·obtain⟨g,j,c,rfl,_⟩:=i d b;show(push g.pfx c).size=_;rw[size_push,M.size g j]
 ·obtain⟨g,j,c,rfl,_,_,_,v⟩:=i d b;show(0:UInt8)∉bl (push g.pfx c);rw[ye,qD,mA];rintro(h|h)
  ·exact M.nz g j h
  grind
 ·obtain⟨d,b⟩:=Ek _ y;obtain⟨g,j,c,rfl,H,_,_,v⟩:=i d b;obtain⟨x,k⟩:=Ek _ H;obtain⟨u,F⟩:=my.1 k;have:=(adJ (M.bk.gX x u) F).2 v;rw[M.size g j] at this
  grind
 ·obtain⟨g,j,c,rfl,_,_,J,_⟩:=i d b;show∃n f,below (push g.pfx c) n f=Z∧_;refine nq λG=>J ?_;rw[zJ P.sX M.bk.sX λn f s=>?_];obtain⟨L,I⟩:=M.quiet j (yf s)
  grind
 ·obtain⟨g,j,c,rfl,_⟩:=o w p;rw[size_push,M.size g j]
 ·obtain⟨g,j,c,rfl,u⟩:=o w p;obtain⟨l,Q0,D,rfl,_,F,_,K⟩:=i d b;show push g.pfx c≠push l.pfx D
  grind[push_inj]
 ·obtain⟨l,Q0,D,rfl,u,_,_,K⟩:=i d b;show below (push l.pfx D) x.name x.field=ai;rw[Bool.eq_false_iff];intro s;obtain⟨_,⟨w,p,E⟩|⟨g,j,c,C,v⟩⟩:=r x k
  ·exact M.dis w p l Q0 (ahE E (yf s) (by rw[M.IY w p,M.size l Q0]))
  ·have e:=ahE C s (by rw[size_push,size_push,M.size g j,M.size l Q0])
   rw[<-e] at u;obtain⟨_,I⟩:=push_inj e
   grind
 ·obtain⟨g,j,c,rfl,_⟩:=i d b;have z:below (push g.pfx c) n f=Z:=s;exact M.quiet j (yf z)
def Clear(hs:List s->Int)(A B:List s):Prop:=∀p,(∃x,(x∈A∨x∈B)∧below p x.name x.field=Z)->hs (q A p)=hs (q B p)->q A p=q B p
def Conv(X a:List s)(m:dP):Prop:=∀n f,(∃nd∈m.nodes,below nd.pfx n f=Z)∨(∃w∈m.cp,below w n f=Z∧gT (C (aS a m) n f) (C X n f)=C (aS a m) n f)∨C X n f=C (aS a m) n f
theorem mg.conv(M:mg hs A B X a m ℓ)(I:Clear hs A B∨m.nodes=[])(h:Conv X a m):Conv (aS a m) X (t hs (aS a m) m):=by
 have v:=M.step;intro n f;have k:=FM v.bk.sX v.bk.sY v.bh n f;have N:=λ(l H:List s)=>Om (n:=n) (f:=f) (sM l n f) (sM H n f);have P:told (t hs (aS a m) m).bh n f=Z->C (aS a m) n f≠V:=λp=>by obtain⟨x,j,rfl,rfl⟩:=Du.1 p;exact Mm (v.bh x j)
 have E:C X n f=C (aS a m) n f->C (aS a m) n f=C (aS X (t hs (aS a m) m)) n f:=λe=>by
  grind[Ed]
 rcases h n f with⟨d,Q3,o⟩|⟨w,G,o,z⟩|e
 ·obtain⟨S,W⟩:=M.quiet Q3 o;have Q1:d.pfx.size<(iA n f).size:=by rw[<-tC,<-tC (iA n f)];have F:=vh.1 o;refine Nat.lt_of_le_of_ne F.length_le λO=>M.nz d Q3 ?_;rw[F.eq_of_length O,zi];simp
  obtain⟨c,r⟩:=ahD o Q1;have Q2:=M.node d Q3;by_cases j:q X (push d.pfx c)=[]
  ·have L:=Jf j r;refine aA (aA ?_);cases Q0:C (aS a m) n f with
   |none=>grind
   |some y=>
    obtain⟨b,i,g⟩:=wL Q0;have p:told (t hs (aS a m) m).bh n f=Z:=Du.2 ⟨y,by
     simp only[t,qD,qz]
     grind[Ug,my],i,g⟩
    rw[k,dn p,L,Q0];rfl
  ·by_cases Q0:q (aS a m) (push d.pfx c)=[]
   ·have R:=Jf Q0 r;refine aA (ax ⟨push d.pfx c,?_,r,?_⟩)
    ·simp only[t,qz]
     grind[Oi]
    grind[Gn]
   ·by_cases K:hs (q (aS a m) (push d.pfx c))=hs (q X (push d.pfx c))
    ·have D:=I.resolve_right λe=>by grind
     have Q:q X (push d.pfx c)=q A (push d.pfx c):=zJ M.bk.sX M.bk.sA λn f o=>(M.quiet Q3 (yf o)).2;have T:q (aS a m) (push d.pfx c)=q B (push d.pfx c):=zJ v.bk.sX M.bk.sB λn f o=>(M.quiet Q3 (yf o)).1;rw[Q] at j;obtain⟨x,j⟩:=Ek _ j;have:=D (push d.pfx c) ⟨x,ax (my.1 j).1,(my.1 j).2⟩ (by grind)
     grind[sub_eq]
    ·by_cases J:c=0
     ·refine aA (ax ⟨push d.pfx c,?_,r,?_⟩)
      ·simp only[t,qz]
       grind[Oi]
      ·cases b:C (aS a m) n f with
       |none=>rw[Gn]
       |some y=>
        obtain⟨u,i,g⟩:=wL b;have p:told (t hs (aS a m) m).bh n f=Z:=Du.2 ⟨y,by
         simp only[t,qD,qz];refine aA ⟨d,Q3,?_⟩;rw[Q2]
         grind[Ug,my],i,g⟩
        rw[k,dn p,<-b]
        grind[On,sM]
     ·refine ax ⟨iT hs (aS a m) (push d.pfx c),?_,r⟩;simp only[t,qD,qz];refine ax ⟨d,Q3,?_⟩;rw[Q2];exact acu.2 ⟨c,rfl,j,Q0,K,J⟩
 ·refine aA (aA ?_);cases b:C (aS a m) n f with
  |none=>
   rw[k,if_neg (λp=>P p b)];rw[b] at z;cases j:C X n f with
   |none=>rfl
   |some x=>rw[j] at z;cases z
  |some y=>
   obtain⟨u,i,g⟩:=wL b;have p:told (t hs (aS a m) m).bh n f=Z:=Du.2 ⟨y,by simp only[t,qD,qz];exact ax ⟨w,G,my.2 ⟨u,by rw[i,g];exact o⟩⟩,i,g⟩
   rw[k,dn p,N X (aS a m),z,b]
 grind
end
def gO(h:Int):List UInt8:=[h/72057594037927936 % 256,h/281474976710656 % 256,h/1099511627776 % 256,h/4294967296 % 256,h/16777216 % 256,h/65536 % 256,h/256 % 256,h % 256].map λz=>jZ z.toNat
def jd(k:UInt8×Int):List UInt8:=k.1::gO k.2
def iG(n:Nd):List UInt8:=de n.pfx++cV jd n.kids
def gi(m:dP):List UInt8:=cV gI m.bh++cV de m.cp++cV iG m.nodes++cV gO m.roots
section
variable {α:Type}
theorem FP{f g:α->Nat}:∀{l:List α},(∀a∈l,f a<=g a)->(l.map f).sum<=(l.map g).sum
 | [],_=>aW _
 |a::l,h=>Nat.add_le_add (h a (uF ..)) (FP λb e=>h b (uE _ e))
theorem sum_add{f g:α->Nat}:∀(l:List α),(l.map λa=>f a+g a).sum=(l.map f).sum+(l.map g).sum
 | []=>rfl
 |a::l=>by simp only[fS,yK,sum_add l];omega
theorem Bv{f:α->Nat}(k):∀(l:List α),(l.map λa=>f a*k).sum=(l.map f).sum*k
 | []=>by simp
 |a::l=>by simp only[fS,yK,Bv k l,Nat.add_mul]
theorem Je(k):∀(l:List α),(l.map λ_=>k).sum=k*l.length
 | []=>rfl
 |a::l=>by simp only[fS,yK,Je k l,qB,Nat.mul_add];omega
theorem Gr{t:Type}{f:α->List t}:∀(l:List α),(l.flatMap f).length=(l.map λa=>(f a).length).sum
 | []=>rfl
 |a::l=>by simp only[OE,jV,Gr l,fS,yK]
end
theorem aqV{P:UInt8->Bool}{cs:List UInt8}(f:cs.Nodup)(h:∀c d,P c=Z->P d=Z->c=d):(cs.map λc=>if P c then 1 else 0).sum<=1∧((∀c,P c=ai)->(cs.map λc=>if P c then 1 else 0).sum=0):=by
 induction cs with
 |nil=>grind
 |cons c cs g=>
  by_cases e:P c=Z
  ·have:(cs.map λc=>if P c then 1 else 0).sum=0:=by
    have:∀(l:List UInt8),(∀d∈l,d∈cs)->(l.map λc=>if P c then 1 else 0).sum=0:=by
     intro l;induction l with
     |nil=>grind
     |cons d l b=>
      grind
    grind
   grind
  grind
theorem aql(J:List s){cs:List UInt8}(b:cs.Nodup){P:UInt8->s->Bool}{Q}(h:∀c x,P c x=Z->Q x=Z)(f:∀c d x,P c x=Z->P d x=Z->c=d):(cs.map λc=>(J.filter (P c)).length).sum<=(J.filter Q).length:=by
 induction J with
 |nil=>simp only[Kb,lQ];rw[Je];omega
 |cons x J g=>
  have e:(cs.map λc=>((x::J).filter (P c)).length)=cs.map λc=>(if P c x then 1 else 0)+(J.filter (P c)).length:=by
   grind
  rw[e,sum_add];obtain⟨j,i⟩:=aqV (P:=λc=>P c x) b λc d=>f c d x
  grind
theorem TM:∀(a n),n<128^(a+1)->(k n).length<=a+1
 |0,n,h=>by grind[xm]
 |a+1,n,h=>by
  by_cases c:n<128
  ·grind[xm]
  ·rw[DX c,qB];have:=TM a (n/128) (by grind)
   omega
theorem arb(n):(k n).length<=1+n:=by
 induction n using Nat.strongRecOn with
 |_ n b=>
  grind[xm,DX,List.length_cons]
theorem DW{n}(h:n<128):(k n).length=1:=by grind[xm]
theorem Jd{s}(h:s.size<128):(de s).length=1+s.size:=by
 unfold de
 grind[List.length_append,DW,tC]
theorem Uo{e}{f:e->List UInt8}{l}{c}(h:∀x∈l,(f x).length+1<=c):(cV f l).length<=1+c*l.length:=by unfold cV;rw[jV,Gr];have g:=arb l.length;have d:=FP (f:=λa=>(f a).length+1) (g:=λ_=>c) (l:=l) h;rw[sum_add,Je,Je] at d;omega
def Fits(x:s):Prop:=gF x.c<18446744073709551616∧gF x.r<18446744073709551616
theorem apL{x}(h:Good x)(b:Fits x):(gI x).length<=55:=by
 unfold gI;simp only[jV];have g:=Jd (s:=x.name) (by have:=h.JG;omega)
 have f:=Jd (s:=x.field) (by have:=h.Lq;omega)
 have d:=Jd (s:=x.value) (by have:=h.value;omega)
 have e:=TM 9 (gF x.c) (Nat.lt_trans b.1 (by grind))
 have i:=TM 9 (gF x.r) (Nat.lt_trans b.2 (by grind))
 have:=h.JG;have:=h.Lq;have:=h.value;omega
def keyBytes:List UInt8:=C8.filter λc=>c==0||c==46||letter c
theorem atC:keyBytes.length=28:=by decide
theorem XK{x}(b:Good x){p}{c}(d:below (push p c) x.name x.field=Z):c=0∨c=46∨letter c=Z:=by
 rw[vh,ye,zi] at d;have:c∈bl x.name++46::(bl x.field++[0]):=d.subset (by simp)
 simp only[qD,dh,dJ] at this;rcases this with h|h|h|h
 ·have:=b.name;unfold xq at this;grind
 ·grind
 ·have:=b.field;unfold xq at this;grind
 grind
theorem ab8{X}(i:∀x∈X,Good x)(p):(oW X p).length<=28:=by
 rw[<-atC];have e:oW X p=(keyBytes).filter λc=> !(q X (push p c)).isEmpty:=by
  unfold oW keyBytes;rw[UL];refine List.filter_congr λc _=>?_;cases j:(q X (push p c)).isEmpty
  ·have b:q X (push p c)≠ []:=λe=>by grind
   obtain⟨x,d⟩:=Ek _ b;obtain⟨g,f⟩:=my.1 d;rcases XK (i x g) f with rfl|rfl|h
   ·rfl
   ·rfl
   grind
  grind
 grind
section
variable {hs:List s->Int} {A B X Y:List s} {m:dP} {ℓ:Nat}
theorem aro(c:∀x∈X,Good x){p}(h:p.size<=13):(iG (iT hs X p)).length+1<=268:=by
 unfold iG;rw[jV];have e:=Jd (s:=p) (by omega)
 have g:=ab8 c p;have f:(B8 hs X p).length=(oW X p).length:=by unfold B8;grind
 have d:(cV jd (B8 hs X p)).length=1+9*(B8 hs X p).length:=by
  unfold cV;rw[jV,Gr,DW (by omega)]
  have:∀a,(jd a).length=9:=λa=>rfl
  grind[Je]
 show(de p).length+(cV jd (B8 hs X p)).length+1<=268;omega
theorem Uc(g:∀x∈X,Good x∧Fits x)(k:∀x∈m.bh,x∈X)(c:∀w∈m.cp,w.size<=14)(d:∀b∈m.nodes,b=iT hs X b.pfx∧b.pfx.size<=13)(l:m.roots=[]):
  (gi m).length<=4+56*m.bh.length+16*m.cp.length+268*m.nodes.length:=by
 unfold gi;simp only[jV];have f:=Uo (f:=gI) (l:=m.bh) (c:=56) λx i=>by grind[apL]
 have n:=Uo (f:=de) (l:=m.cp) (c:=16) λw h=>by grind[Jd]
 have j:=Uo (f:=iG) (l:=m.nodes) (c:=268) λb h=>by grind[aro]
 have e:(cV gO m.roots).length=1:=by unfold cV;grind[List.length_append,DW]
 omega
variable (A B)
def differ(x:s):Bool:=cq (C A x.name x.field≠C B x.name x.field)
def dC(p:ByteArray):Nat:=((q (kP A B) p).filter (differ A B)).length
variable {A B}
theorem ayZ(p){cs:List UInt8}(b:cs.Nodup):(cs.map λc=>dC A B (push p c)).sum<=dC A B p:=by
 unfold dC q;simp only[UL];refine aql _ b (λc x h=>?_) λc d x h k=>?_
 ·grind[yf]
 ·grind[ahF]
theorem Km(c:p A)(b:p B)(n f):C (kP A B) n f=gT (C A n f) (C B n f):=XO c B b n f
theorem agH(g:p A)(d:p B){a n f}(j:below a n f=Z)(h:C A n f≠C B n f):1<=dC A B a:=by
 cases b:C (kP A B) n f with
 |none=>
  rw[Km g d] at b;cases i:C A n f<;>cases c:C B n f<;>rw[i,c] at b
  ·grind
  ·cases b
  ·cases b
  ·cases b
 |some x=>
  obtain⟨e,rfl,rfl⟩:=wL b;exact List.length_pos_of_mem (xH.2 ⟨my.2 ⟨e,j⟩,OD h⟩)
theorem ay0(b:p A)(d:p B){a}(h:∀n f,below a n f=Z->C B n f=V):(q A a).length=dC A B a:=by
 unfold dC;rw[zJ (Ca b B) b λn f i=>by grind[Km,Gn]]
 rw[GB.2];intro x c;obtain⟨e,g⟩:=my.1 c;refine OD ?_
 grind[Mm]
theorem ayY(c:p A)(b:p B){a}(h:∀n f,below a n f=Z->C A n f=V):(q B a).length=dC A B a:=by
 unfold dC;rw[zJ (Ca c B) b λn f e=>by rw[Km c b,h n f e];rfl]
 rw[GB.2];intro x d;obtain⟨g,i⟩:=my.1 d;refine OD ?_
 grind[Mm]
theorem agG(b:p A)(a:p B)(c):dC B A c=dC A B c:=by
 unfold dC;rw[U7 a b];unfold differ
 grind
theorem sub_zero{l}(hs:p l)(b:∀x∈l,Good x)(v):(q l (push v 0)).length<=1:=by
 have f:∀x∈q l (push v 0),bl x.key=bl v++[0]:=λx a=>by
  obtain⟨o,k⟩:=my.1 a;have b:=b x o;rw[vh,ye] at k;show bl (iA _ _)=_;obtain⟨t,g⟩:=k;rw[<-g];cases t with
  |nil=>simp
  |cons c t=>
   rw[zi] at g;have n:=vE b.name (c:=0) (by grind)
   have s:=vE b.field (c:=0) (by grind)
   have r:(0)∉bl x.name++46::bl x.field:=by grind
   by_cases u:(0)∈bl v
   ·have d:bl v<+:(bl x.name++46::bl x.field)++[0]:=⟨0::c::t,(by grind)⟩
    have:=by
     refine List.prefix_of_prefix_length_le d (as7 _ _) ?_
     grind
    grind
   grind[Uk]
 match h:q l (push v 0) with
 | []=>simp
 | [x]=>simp
 |x::y::t=>
  have i:=(my.1 (by grind:x∈q l (push v 0))).1
  have j:=(my.1 (by grind:y∈q l (push v 0))).1
  have e:=hs.inj i j ((sameKey_iff (b x i) (b y j)).2 (zk ((f x (by grind)).trans (f y (by grind)).symm)))
  have n:=(hs.filter λx=>below (push v 0) x.name x.field).nodup;unfold q at h
  grind
end
variable{hs:List s->Int}{A B X Q:List s}{m:dP}{ℓ:Nat}
def wt(A B E:List s)(K:Nat)(R:List s)(W:List ByteArray)(N:List Nd):Nat:=
 56*R.length+16*W.length+268*N.length+(N.map λnd=>dC A B nd.pfx*K).sum+(W.map λw=>56*(q E w).length).sum
theorem MF(b)(K)(R d)(W W')(N c):wt A B b K (R++d) (W++W') (N++c)=wt A B b K R W N+wt A B b K d W' c:=by
 unfold wt
 grind
theorem ME{t:Type}(d)(K)(r)(w)(n):∀(l:List t),wt A B d K (l.flatMap r) (l.flatMap w) (l.flatMap n)=(l.map λa=>wt A B d K (r a) (w a) (n a)).sum
 | []=>rfl
 |a::l=>by simp only[OE,fS,yK];rw[MF,ME d K r w n l]
theorem Rm(a)(K)(R):wt A B a K R [] []=56*R.length:=by simp[wt]
def jC(ℓ:Nat):Nat:=268*(13-ℓ)+128
def phi(A B E:List s)(ℓ:Nat)(m:dP):Nat:=(m.nodes.map λnd=>dC A B nd.pfx*jC ℓ).sum+(m.cp.map λw=>56*(q E w).length).sum
theorem mg.kid(M:mg hs A B X Q m ℓ){b:Nd}(o:b∈m.nodes){k:UInt8×Int}(w:k∈b.kids):
  wt A B (aS X (t hs (aS Q m) m)) (jC (ℓ+1)) (qI hs (aS Q m) b.pfx k) (qH hs (aS Q m) b.pfx k) (qJ hs (aS Q m) b.pfx k)<=dC A B (push b.pfx k.1)*jC ℓ:=by
 have d:=M.step;rw[M.node b o] at w;obtain⟨H,K⟩:=Ab.1 w;have I:∀n f,below (push b.pfx k.1) n f=Z->C (aS Q m) n f=C B n f:=λn f c=>(M.quiet o (yf c)).1;have Q1:∀n f,below (push b.pfx k.1) n f=Z->C X n f=C A n f:=λn f c=>(M.quiet o (yf c)).2;have u:128<=jC ℓ:=by unfold jC;omega
 by_cases s:q (aS Q m) (push b.pfx k.1)=[]
 ·have g:qI hs (aS Q m) b.pfx k=[]:=by unfold qI;grind
  have i:qH hs (aS Q m) b.pfx k=[push b.pfx k.1]:=by unfold qH;grind
  have j:qJ hs (aS Q m) b.pfx k=[]:=by unfold qJ;grind
  have y:∀n f,below (push b.pfx k.1) n f=Z->C B n f=V:=λn f c=>by grind[Jf]
  have E:q (aS X (t hs (aS Q m) m)) (push b.pfx k.1)=q A (push b.pfx k.1):=zJ (M8 M.bk.sX _) M.bk.sA λn f c=>by rw[FM d.bk.sX d.bk.sY d.bh,if_neg,Q1 n f c];intro G;obtain⟨x,r,rfl,rfl⟩:=Du.1 G;exact Mm (d.bh x r) (Jf s c)
  have N:q X (push b.pfx k.1)=q A (push b.pfx k.1):=zJ M.bk.sX M.bk.sA Q1;have z:=ay0 M.bk.sA M.bk.sB y;have J:1<=(q A (push b.pfx k.1)).length:=by
   grind
  rw[g,i,j];unfold wt;simp only[lQ,xF,sg,J7,fS,yK,E];rw[z] at J⊢;have:=OC (dC A B (push b.pfx k.1)) u;omega
 ·by_cases v:hs (q (aS Q m) (push b.pfx k.1))=k.2
  ·have g:qI hs (aS Q m) b.pfx k=[]:=by unfold qI;grind
   have i:qH hs (aS Q m) b.pfx k=[]:=by unfold qH;grind
   have j:qJ hs (aS Q m) b.pfx k=[]:=by unfold qJ;grind
   rw[g,i,j];exact kM _
  ·have O:1<=dC A B (push b.pfx k.1):=by refine nq λp=>v ?_;rw[K,zJ d.bk.sX M.bk.sX λn f c=>?_];rw[I n f c,Q1 n f c];exact nq λh=>p (agH M.bk.sA M.bk.sB c λe=>h e.symm)
   by_cases l:k.1=0
   ·have g:qI hs (aS Q m) b.pfx k=q (aS Q m) (push b.pfx k.1):=by unfold qI;grind
    have i:qH hs (aS Q m) b.pfx k=[push b.pfx k.1]:=by unfold qH;grind
    have j:qJ hs (aS Q m) b.pfx k=[]:=by unfold qJ;grind
    have F:=sub_zero d.bk.sX d.bk.gX b.pfx;have L:=sub_zero (M8 M.bk.sX (t hs (aS Q m) m)) (d.bk.aS d.bh).gX b.pfx;rw[<-l] at F L;rw[g,i,j];unfold wt;simp only[lQ,xF,sg,J7,fS,yK];have:=OC (dC A B (push b.pfx k.1)) u;omega
   ·have g:qI hs (aS Q m) b.pfx k=[]:=by unfold qI;rw[if_neg];exact λh=>l h.2.2
    have i:qH hs (aS Q m) b.pfx k=[]:=by unfold qH;rw[if_neg];exact λh=>h.elim s λh=>l h.2
    have j:qJ hs (aS Q m) b.pfx k=[iT hs (aS Q m) (push b.pfx k.1)]:=by unfold qJ;rw[dn ⟨s,v,l⟩]
    have P:ℓ+1<=13:=by obtain⟨x,r⟩:=Ek _ H;obtain⟨a,D⟩:=my.1 r;have:=(adJ (M.bk.gX x a) D).2 l;rw[M.size b o] at this;exact this
    have Q0:jC ℓ=jC (ℓ+1)+268:=by unfold jC;omega
    rw[g,i,j];unfold wt;simp only[lQ,xF,sg,J7,fS,yK];show _+dC A B (push b.pfx k.1)*jC (ℓ+1)+0+0<=_;rw[Q0,Nat.mul_add];omega
theorem mg.nd(M:mg hs A B X Q m ℓ){nd}(j:nd∈m.nodes):
  wt A B (aS X (t hs (aS Q m) m)) (jC (ℓ+1)) (wK hs (aS Q m) nd) (ue hs (aS Q m) nd) (ug hs (aS Q m) nd)<=dC A B nd.pfx*jC ℓ:=by
 have o:=M.node nd j;have z:128<=jC ℓ:=by unfold jC;omega
 have d:ue hs (aS Q m) nd=ue hs (aS Q m) nd++[]:=(tK _).symm;have r:ug hs (aS Q m) nd=ug hs (aS Q m) nd++[]:=(tK _).symm;rw[d,r];unfold wK;rw[MF,Rm];unfold ue ug;rw[ME];have s:=FP (l:=nd.kids) (f:=λk=>wt A B (aS X (t hs (aS Q m) m)) (jC (ℓ+1)) (qI hs (aS Q m) nd.pfx k) (qH hs (aS Q m) nd.pfx k) (qJ hs (aS Q m) nd.pfx k)) (g:=λk=>dC A B (push nd.pfx k.1)*jC ℓ) λk P=>M.kid j P;have v:56*((BF (aS Q m) nd).flatMap λc=>q (aS Q m) (push nd.pfx c)).length<=((BF (aS Q m) nd).map λc=>dC A B (push nd.pfx c)*jC ℓ).sum:=by
  rw[Gr,UN,<-Bv];refine FP λc x=>?_;have l:c∈BF (aS Q m) (iT hs X nd.pfx):=by grind
  obtain⟨_,w⟩:=Oh.1 l;rw[(zJ (M8 M.bk.sY m) M.bk.sB λn f i=>(M.quiet j (yf i)).1),ayY M.bk.sA M.bk.sB λn f i=>by rw[<-(M.quiet j (yf i)).2];grind[Jf]]
  exact OC _ (by omega)
 have u:(nd.kids.map λk=>dC A B (push nd.pfx k.1)*jC ℓ).sum=((oW X nd.pfx).map λc=>dC A B (push nd.pfx c)*jC ℓ).sum:=by rw[o];show(((oW X nd.pfx).map _).map _).sum=_;rw[En];rfl
 have h:(oW X nd.pfx++BF (aS Q m) nd).Nodup:=by
  rw[GD];refine⟨TN _ _,(TN _ _).filter _,λa y b i e=>?_⟩
  grind[JH,Oh]
 have p:=ayZ (A:=A) (B:=B) nd.pfx h;rw[uI,List.sum_append] at p;rw[Bv,Bv] at u;rw[Bv] at v s;have C:=adj (jC ℓ) p
 grind
theorem mg.ajd(M:mg hs A B X Q m ℓ)(o:∀x∈aS Q m,Fits x)(p:m.cp=[]∨ℓ<=14):
  (gi (t hs (aS Q m) m)).length+phi B A (aS X (t hs (aS Q m) m)) (ℓ+1) (t hs (aS Q m) m)<=4+phi A B (aS Q m) ℓ m:=by
 have d:=M.step;have f:wt A B (aS X (t hs (aS Q m) m)) (jC (ℓ+1)) (t hs (aS Q m) m).bh (t hs (aS Q m) m).cp (t hs (aS Q m) m).nodes<=phi A B (aS Q m) ℓ m:=by
  have j:(t hs (aS Q m) m).cp=[]++m.nodes.flatMap (ue hs (aS Q m)):=rfl;have k:(t hs (aS Q m) m).nodes=[]++m.nodes.flatMap (ug hs (aS Q m)):=by show _++m.roots.flatMap _=_;rw[M.roots];simp
  have l:(t hs (aS Q m) m).bh=m.cp.flatMap (q (aS Q m))++m.nodes.flatMap (wK hs (aS Q m)):=rfl;rw[j,k,l,MF,Rm,ME,Gr,UN,<-Bv];unfold phi;have n:=FP (l:=m.nodes) (f:=λb=>wt A B (aS X (t hs (aS Q m) m)) (jC (ℓ+1)) (wK hs (aS Q m) b) (ue hs (aS Q m) b) (ug hs (aS Q m) b)) (g:=λb=>dC A B b.pfx*jC ℓ) λb c=>M.nd c
  grind
 have h:phi B A (aS X (t hs (aS Q m) m)) (ℓ+1) (t hs (aS Q m) m)=phi A B (aS X (t hs (aS Q m) m)) (ℓ+1) (t hs (aS Q m) m):=by unfold phi;congr 2;exact JX λb _=>by rw[agG M.bk.sA M.bk.sB]
 have i:=Uc (m:=t hs (aS Q m) m) (X:=aS Q m) (hs:=hs) (λx g=>⟨d.bk.gX x g,o x g⟩) d.bh (λw e=>?_) (λb c=>⟨d.node b c,by have n:=d.deep (GA c);have a:=d.size b c;omega⟩) rfl
 ·have r:phi A B (aS X (t hs (aS Q m) m)) (ℓ+1) (t hs (aS Q m) m)=((t hs (aS Q m) m).nodes.map λb=>dC A B b.pfx*jC (ℓ+1)).sum+((t hs (aS Q m) m).cp.map λw=>56*(q (aS X (t hs (aS Q m) m)) w).length).sum:=rfl;unfold wt at f;omega
 ·rw[d.IY w e];simp only[t,qz] at e;obtain⟨b,c,_⟩:=e;have:=M.deep (GA c);omega
def rk(m:dP)(ℓ:Nat):Nat:=if m.nodes=[] then(if m.cp=[] then 0 else 1) else 15-ℓ
theorem mg.apZ(M:mg hs A B X Q m ℓ)(h:(t hs (aS Q m) m).none=ai):rk (t hs (aS Q m) m) (ℓ+1)<rk m ℓ:=by
 unfold rk;by_cases b:m.nodes=[]
 ·have f:(t hs (aS Q m) m).nodes=[]:=by simp[t,b,M.roots]
  have d:(t hs (aS Q m) m).cp=[]:=by simp[t,b]
  by_cases c:m.cp=[]
  ·have e:(t hs (aS Q m) m).bh=[]:=by simp[t,b,c]
   unfold dP.none at h
   grind
  grind
 ·have g:=M.deep b
  grind
abbrev jb:ByteArray:=⟨#[]⟩
structure gC(hs:List s->Int)(cl:Prop)(A B X Q:List s)(m:dP)(P k:Nat):Prop where
 bk:rE A B X Q
 fX:∀x∈X,Fits x
 fY:∀x∈Q,Fits x
 xO:(X=A∧Q=B∧m=⟨[],[],[],[hs A]⟩∧76+3880*dC A B jb<=P∧16<=k∧(cl->Clear hs A B))∨
  (∃ℓ,mg hs A B X Q m ℓ∧(m.cp=[]∨ℓ<=14)∧(gi m).length+4*rk m ℓ+phi A B (aS Q m) ℓ m<=P∧rk m ℓ<=k∧(cl->Conv X Q m∧(Clear hs A B∨m.nodes=[])))
section
variable {hs:List s->Int} {cl:Prop} {A B X Q:List s} {m m':dP} {P k:Nat}
theorem Ja(Q)(h):aS Q ⟨[],[],[],[h]⟩=Q:=rfl
theorem alu(d:∀x∈X,Fits x)(b:∀x∈Q,Fits x)(c:∀x∈m.bh,x∈X):∀x∈aS Q m,Fits x:=λx a=>by
 rcases WM a with h|h
 ·grind
 grind
theorem gC.bh(T:gC hs cl A B X Q m P k):∀x∈m.bh,x∈X:=by
 rcases T.xO with⟨rfl,rfl,rfl,_⟩|⟨a,M,_⟩
 ·grind
 ·exact M.bh
theorem gC.tk(T:gC hs cl A B X Q m P k):rE B A (aS Q m) X∧∀x∈aS Q m,Fits x:=⟨T.bk.aS T.bh,alu T.fX T.fY T.bh⟩
theorem ayX(d:p A)(c:p B)(h:hs A≠hs B):1<=dC A B jb∧∃n f,below jb n f=Z∧C B n f≠C A n f:=by
 have:∃n f,C B n f≠C A n f:=by refine nq λg=>h ?_;rw[Fp d c λn f=>nq λe=>g ⟨n,f,λb=>e b.symm⟩]
 obtain⟨n,f,e⟩:=this;exact⟨agH d c (Iz n f) (λb=>e b.symm),n,f,Iz n f,e⟩
theorem gC.size(T:gC hs cl A B X Q m P k):(gi m).length<=P:=by
 rcases T.xO with⟨rfl,rfl,rfl,b,_⟩|⟨c,M,_,b,_⟩
 ·have:(gi ⟨[],[],[],[hs X]⟩).length=12:=by
   unfold gi cV;simp only[jV,lQ,DW (show 0<128 by grind),DW (show 1<128 by grind),xF,OE]
   rfl
  omega
 grind
theorem gC.next(T:gC hs cl A B X Q m P k)(h:Ft hs Q m=U m'):∃y v,(gi m).length+y<=P∧v<k∧gC hs cl B A (aS Q m) X m' y v:=by
 have d:=T.tk;unfold Ft at h;split at h
 ·grind
 rename_i F;injection h with h;subst h;rcases T.xO with⟨rfl,rfl,rfl,H,J,q⟩|⟨g,M,s,H,J,q⟩
 ·have o:hs X≠hs Q:=λe=>F (by simp[t,dP.none,Ja,e])
  have D:t hs (aS Q ⟨[],[],[],[hs X]⟩) ⟨[],[],[],[hs X]⟩=⟨[],[],[iT hs Q jb],[]⟩:=by simp[t,Ja,o]
  rw[D];rw[Ja] at d⊢;obtain⟨O,j⟩:=ayX T.bk.sA T.bk.sB o;have M:mg hs Q X Q X ⟨[],[],[iT hs Q jb],[]⟩ 0:=by
   refine⟨d.1,λx i=>(by grind),λl b=>?_,λl b=>?_,λl b=>?_,λ_=>by omega,λl b=>?_,λw s=>(by grind),λw s=>(by grind),λx i=>(by grind),λl b n f a=>⟨rfl,rfl⟩,rfl⟩<;>(simp only[mA] at b;subst b)
   ·rfl
   ·rfl
   ·show(0:UInt8)∉bl jb;simp
   ·exact j
  have r:=Uc (m:=⟨[],[],[iT hs Q jb],[]⟩) (X:=Q) (hs:=hs) (λx i=>⟨T.bk.gY x i,T.fY x i⟩) M.bh (λw s=>by grind) (λl b=>⟨M.node l b,by rw[M.size l b];omega⟩) rfl
  have z:phi Q X (aS X ⟨[],[],[iT hs Q jb],[]⟩) 0 ⟨[],[],[iT hs Q jb],[]⟩=dC X Q jb*3612:=by
   simp only[phi,fS,sg,yK,J7];show dC Q X jb*jC 0+0+0=_;rw[agG T.bk.sA T.bk.sB,show jC 0=3612 from by decide]
   omega
  have L:rk ⟨[],[],[iT hs Q jb],[]⟩ 0=15:=by simp[rk]
  have G:(gi ⟨[],[],[],[hs X]⟩).length=12:=by
   unfold gi cV;simp only[jV,adh,lQ,DW (show 0<128 by grind),DW (show 1<128 by grind),xF,OE,tK]
   rfl
  simp only[lQ,xF] at r;refine⟨(gi ⟨[],[],[iT hs Q jb],[]⟩).length+4*15+dC X Q jb*3612,15,by grind,by omega,⟨d.1,T.fY,T.fX,aA ⟨0,M,ax rfl,by grind,by grind,λc=>⟨λn f=>ax ⟨_,mA.2 rfl,Iz n f⟩,ax λp u e=>?_⟩⟩⟩⟩
  obtain⟨x,i,a⟩:=u;exact(q c p ⟨x,i.symm,a⟩ e.symm).symm
 ·have I:=M.step;have N:=M.apZ (by grind)
  have C:=M.ajd d.2 s;refine⟨(gi (t hs (aS Q m) m)).length+4*rk (t hs (aS Q m) m) (g+1)+phi B A (aS X (t hs (aS Q m) m)) (g+1) (t hs (aS Q m) m),rk (t hs (aS Q m) m) (g+1),by omega,by omega,⟨d.1,d.2,T.fX,aA ⟨g+1,I,?_,aW _,aW _,λc=>⟨M.conv (q c).2 (q c).1,?_⟩⟩⟩⟩
  ·by_cases e:(t hs (aS Q m) m).cp=[]
   ·grind
   ·right;have:m.nodes≠ []:=λK=>e (by simp[t,K])
    have:=M.deep this;omega
  ·rcases(q c).2 with E|e
   ·left;intro p u e;obtain⟨x,i,a⟩:=u;exact(E p ⟨x,i.symm,a⟩ e.symm).symm
   ·simp[t,e,M.roots]
theorem gC.last(T:gC hs cl A B X Q m P k)(h:Ft hs Q m=V)(c:cl):aS Q m=X∧X=kP A B:=by
 have g:=T.tk;have b:aS Q m=X:=by
  unfold Ft at h;split at h
  ·rename_i l;rcases T.xO with⟨rfl,rfl,rfl,a,o,i⟩|⟨r,M,u,a,o,i⟩
   ·have y:hs X=hs Q:=by refine nq λj=>?_;simp[t,dP.none,Ja,j] at l
    rw[Ja];by_cases d:∃x,x∈X∨x∈Q
    ·obtain⟨x,d⟩:=d;have:=i c jb ⟨x,d,Iz _ _⟩ (by grind[FQ])
     grind[FQ]
    ·rw[adg.2 λx h=>d ⟨x,ax h⟩,adg.2 λx h=>d ⟨x,aA h⟩]
   ·simp only[dP.none,cS] at l;have e:aS X (t hs (aS Q m) m)=X:=by
     show List.foldl ins X (t hs (aS Q m) m).bh=X
     grind
    refine Fp g.1.sX T.bk.sX λn f=>?_;rcases(M.conv (i c).2 (i c).1) n f with⟨v,s,_⟩|⟨w,q,_⟩|h
    ·grind
    ·grind
    grind
  grind
 refine⟨b,Fp T.bk.sX (Ca T.bk.sA B) λn f=>?_⟩;rw[Km T.bk.sA T.bk.sB];rcases T.bk.bX n f with p|p
 ·have o:=g.1.bX n f
  grind[Ed,acv]
 grind
theorem rE.start(b:p A)(a:p B)(c:∀x∈A,Good x)(d:∀x∈B,Good x):rE A B A B:=⟨b,a,b,a,c,d,λ_ _=>ax rfl,λ_ _=>ax rfl⟩
theorem gC.root(d:p A)(c:p B)(a:∀x∈A,Good x∧Fits x)(b:∀x∈B,Good x∧Fits x):gC hs (Clear hs A B) A B A B ⟨[],[],[],[hs A]⟩ (76+3880*dC A B jb) 16:=
 ⟨.start d c (λx h=>(a x h).1) (λx h=>(b x h).1),λx h=>(a x h).2,λx h=>(b x h).2,ax ⟨rfl,rfl,rfl,aW _,aW _,id⟩⟩
theorem gC.aoR(u:p A)(a:p B)(g:∀x∈A,Good x∧Fits x)(o:∀x∈B,Good x∧Fits x):∃P k,gC hs True A B A B ⟨A,[jb],[],[]⟩ P k∧k=1∧P=80+56*A.length+56*(A.length+B.length):=by
 have e:rE A B A B:=.start u a (λx h=>(g x h).1) (λx h=>(o x h).1);have M:mg hs A B A B ⟨A,[jb],[],[]⟩ 0:=⟨e,λx h=>h,λb h=>(by grind),λb h=>(by grind),λb h=>(by grind),λh=>absurd rfl h,λb h=>(by grind),λw d=>by rw[mA.1 d];rfl,λw d b h=>(by grind),λx D b h=>(by grind),λb h=>(by grind),rfl⟩
 have c:=Uc (m:=⟨A,[jb],[],[]⟩) (X:=A) (hs:=hs) g M.bh (λw d=>by rw[M.IY w d];omega) (λb h=>by grind) rfl
 have t:∀(R l:List s),(R.foldl ins l).length<=l.length+R.length:=by
  intro R;induction R with
  |nil=>grind
  |cons x R E=>
   intro l;have j:∀(l:List s),(ins l x).length<=l.length+1:=by
    intro l;induction l with
    |nil=>exact aW _
    |cons y l q=>
     unfold ins
     grind
   grind
 have i:phi A B (aS B ⟨A,[jb],[],[]⟩) 0 ⟨A,[jb],[],[]⟩<=56*(A.length+B.length):=by simp only[phi,sg,J7,fS,yK,FQ,Ah,Nat.add_zero];have:=t A B;show 56*(List.foldl ins B A).length<=_;omega
 have I:rk (⟨A,[jb],[],[]⟩:dP) 0=1:=by simp[rk]
 simp only[lQ,xF] at c;refine⟨_,_,⟨e,λx h=>(g x h).2,λx h=>(o x h).2,aA ⟨0,M,aA (by omega),by grind,by grind,λ_=>⟨λn f=>aA (ax ⟨jb,mA.2 rfl,Iz n f,?_⟩),aA rfl⟩⟩⟩,rfl,rfl⟩
 rw[FM e.sX e.sY M.bh];split
 ·grind[On,sM]
 ·rename_i H;have:C A n f=V:=by
   cases r:C A n f with
   |none=>rfl
   |some x=>
    obtain⟨j,z,v⟩:=wL r;exact absurd (Du.2 ⟨x,j,z,v⟩) H
  grind[Gn]
end
end
section
open Go.RowKit
theorem ajx(z):iR (jZ (z % 256).toNat)=Y aq (z % 256):=by
 grind[Int.emod_nonneg,Int.emod_lt_of_pos,iR,UInt8.toNat_ofNat_of_lt']
theorem LB(h):(gO h).length=8:=rfl
theorem agz(h):(gO h).map iR=(gV h).cells.toList:=by show List.map iR [_,_,_,_,_,_,_,_]=_;simp only[fS,sg,ajx];rfl
structure Bj(r g off cap a3 N:Nat)(z:List ay)(l:List UInt8)(w W:av):Prop where
 ja:fM r g off cap l ai W
 arr:W.heap[N]? =U (aF z.toArray 76 (0,0))
 ptr:W.cell? ⟨a3,0,V⟩=U (aE (U ⟨r,0,V⟩))
 keep:O (λb=>b=r) w W
 lt:N<W.heap.size
theorem aiC{r g a cap b N}{z}{l}{w W}(h:Bj r g a cap b N z l w W):Bj r g a cap b N z l w W.drew:=
 ⟨⟨h.ja.box,h.ja.fits,h.ja.lt,h.ja.ne,h.ja.cells⟩,h.arr,h.ptr,⟨h.keep.os,h.keep.tape,h.keep.output,h.keep.size,h.keep.block⟩,h.lt⟩
theorem agw(r g d cap a3)(h)(t)(w)(P:fM r g d cap (gO h++t) ai w)(hc:w.cell? ⟨a3,0,V⟩=U (aE (r)))(ha:a3≠r):
  bE Q 146 #[aE (a3)] w λe M=>e=bj (gV h)∧uu r g t w M:=by
 obtain⟨x,z,G,A,D,y,F,B,hD⟩:∃x z G A D y F B:Int,gV h=bN #[Y aq x,Y aq z,Y aq G,Y aq A,Y aq D,Y aq y,Y aq F,Y aq B]:=⟨_,_,_,_,_,_,_,_,rfl⟩;have hV:(gO h).map iR=[Y aq x,Y aq z,Y aq G,Y aq A,Y aq D,Y aq y,Y aq F,Y aq B]:=(agz h).trans (by rw[hD];rfl)
 have R:=LB h;rw[hD];generalize gO h=q at*;have oc:=P.zN;have J:=P.lt;have QX:a3<w:=by
  rcases Nat.lt_or_ge a3 w with h|h
  ·exact h
  ·simp[og,xB h] at hc
 obtain⟨s,m⟩:∃s:List ay,s=List.replicate 8 (Y aq 0):=⟨_,rfl⟩;obtain⟨w1,fK⟩:=ex (w.alloc (aF #[Y aq 0,Y aq 0,Y aq 0,Y aq 0,Y aq 0,Y aq 0,Y aq 0,Y aq 0] 76));have hI1:Bj r g d cap a3 w s (q++t) w w1:=by rw[fK,m];exact⟨P.below ((ei _ _).alloc (aW _) _) (aW _),iN _ _,by grind[World.cell?_alloc_lt],O.alloc _ _ _,by simp⟩
 have hp:∀W:av,Bj r g d cap a3 w s (q++t) w W->W.cell? a3=U (aE (U r)):=λW p=>p.ptr;have HT:dR (∀W,Bj r g d cap a3 w s (q++t) w W->bE Q 147 #[aE (r),Y aH 8] W λe M=>e=bj (aD (U ⟨g,d,V⟩) 8 8)∧(∃H,Bj r g H (cap-8) a3 w s t w M)∧∀j (Q2:j<q.length),M.cell? ⟨g,d+j,V⟩=(iR q[j])):=
  X λW p=>(Nf r g d cap 8 _ W p.ja (by grind)).mono λe M ⟨h1,⟨o,h2⟩,u⟩=>by
   have hd:(q++t).drop 8=t:=by grind
   rw[hd] at h2;refine⟨h1,⟨o,h2,(u.block _ p.lt (by omega)).trans p.arr,?_,p.keep.trans u,cF p.lt u.size⟩,λj Q2=>?_⟩
   ·exact(eD (a:=a3) (u.block _ (cF QX p.keep.size) ha)).trans p.ptr
   ·have:=p.ja.cells j (by grind)
    rw[adi (Q2)] at this;exact(eD (a:=⟨g,d+j,V⟩) (u.block _ (cF J p.keep.size) p.ja.ne)).trans this
 have QW:s.length=8:=by grind
 have Q1:=cI.mk fK QW;have T:dR (∀W:av,(∀j (Q2:j<q.length),W.cell? ⟨g,d+j,V⟩=(iR q[j]))->∀j v,((q).map iR)[j]? =U v->W.cell? ((⟨g,d,V⟩:eK).add j)=U v):=X λW QY j v hv=>by
  grind[Option.map_eq_some_iff,List.getElem?_eq_some_iff,Addr.add_lit]
 have HB:dR (∀W Q3:av,bC w W Q3->W.cell? a3=U (aE (r))->Q3.cell? a3=U (aE (r))):=X λW Q3 C h=>(C.cell (p:=a3) QX).trans h;have L:dR (((q).map iR).length=Nat.min 8 8):=X (by grind)
 go_enter ak6,ntmps146;go_wp2;rw[<-Q1.a]
 go_region_held3 (λW=>W.cell? a3=U (aE (U r))) (with_reducible (first|assumption|exact Bj.ptr (by assumption)|exact Bj.ptr (aiC (by assumption))|exact HB.out _ _ (by assumption) (Bj.ptr (by assumption))))
  ((first
   |(go_at_call 147;with_reducible refine jc (HT.out _ ?fK) ?_;(case fK=>grind[aiC]);rintro e w2 ⟨rfl,⟨N,l⟩,QY⟩)
   |(with_reducible refine step_copy_splice rfl (cu 2) (cu 4) 79 79 rfl 5 rH (by kernel_rfl) _ _ 8 8 8 8 rfl rfl w 0 s 76 l.arr ((q).map iR) ?c1 ?c2 ?c3 (ajw _) w w2 (ei _ _) (aW _) ?_;(case c1=>grind);(case c2=>exact λ_=>⟨rfl,_,rfl,T.out _ QY⟩);(case c3=>rw[Q1.b,J8,R];grind);intro n u k)))
 have c:n.heap[w.heap.size]? =U (aF #[Y aq x,Y aq z,Y aq G,Y aq A,Y aq D,Y aq y,Y aq F,Y aq B] 76 (0,0)):=by
  have:=u.out;rw[amI _ _ (by rw[Q1.b,L.out];rfl),hV] at this
  grind
 have VQ:O (λb=>b=r) w n:=⟨k.os.trans l.keep.os,k.tape.trans l.keep.tape,k.output.trans l.keep.output,bq l.keep.size k.size,λb C Q0=>(k.block b C).trans (l.keep.block b C Q0)⟩;have S:=l.ja.keep (k.block r oc) (k.block g J) k.size;have q0:n.cell? w=U (Y aq x):=K c 0;have q1:n.cell? ⟨w,1,V⟩=U (Y aq z):=K c 1;have q2:n.cell? ⟨w,2,V⟩=U (Y aq G):=K c 2;have q3:n.cell? ⟨w,3,V⟩=U (Y aq A):=K c 3;have q4:n.cell? ⟨w,4,V⟩=U (Y aq D):=K c 4;have q5:n.cell? ⟨w,5,V⟩=U (Y aq y):=K c 5;have q6:n.cell? ⟨w,6,V⟩=U (Y aq F):=K c 6;have q7:n.cell? ⟨w,7,V⟩=U (Y aq B):=K c 7;have fz:∀i,n.frozen? ⟨w,i,V⟩=ai:=by grind[Joins.unfrozen_of_block]
 have HA:=gD.mk (show td w 76 n #[Y aq x,Y aq z,Y aq G,Y aq A,Y aq D,Y aq y,Y aq F,Y aq B] n from⟨c,O.refl _ _⟩) VQ S;go_wp2;generalize K8:jE _ _ _=WF;obtain⟨I,f⟩:=(K8▸((((((((HA.a.set 0 _).set 1 _).set 2 _).set 3 _).set 4 _).set 5 _).set 6 _).set 7 _));simp only[eC,eB,ee] at I;refine xG (results_cell_row rfl _ _ w 76 _ (0,0) _ rfl I MX rfl (by kernel_rfl)) rfl ?_
 obtain⟨-,E,P⟩:=HA;have:=E.size;exact⟨rfl,⟨N,_,P.keep (f.block _ (by omega) (by omega)) (f.block _ (by omega) (by omega)) f.size⟩,⟨f.os.trans E.os,f.tape.trans E.tape,f.output.trans E.output,bq E.size f.size,λb C Q0=>(f.block b (by omega) (by omega)).trans (E.block b C Q0)⟩⟩
def gL(k:UInt8×Int):ay:=bN (#[iR k.1]++(gV k.2).cells)
structure Dh(r a3 a4:Nat)(w:av):Prop where
 p3:w.cell? ⟨a3,0,V⟩=U (aE (U ⟨r,0,V⟩))
 p4:w.cell? ⟨a4,0,V⟩=U (dH (ep 146) #[] #[aE (U ⟨a3,0,V⟩)])
 n3:a3≠r
 n4:a4≠r
theorem A3{w:av}{b i}{v}(h:w.cell? ⟨b,i,V⟩=U v):b<w:=by
 rcases Nat.lt_or_ge b w with a|a
 ·exact a
 ·simp[og,xB a] at h
theorem Dh.keep{r a3 a4}{w w'}(h:Dh r a3 a4 w)(c:O (λb=>b=r) w w'):Dh r a3 a4 w':=
 ⟨(eD (a:=a3) (c.block _ (A3 h.p3) h.n3)).trans h.p3,(eD (a:=a4) (c.block _ (A3 h.p4) h.n4)).trans h.p4,h.n3,h.n4⟩
theorem atx(r g p cap M a4)(k)(t)(w)(F:fM r g p cap (jd k++t) ai w)(L:Dh r M a4 w):
  bE Q 148 #[aE (M),aE (a4)] w λe w'=>e=bj (gL k)∧uu r g t w w':=by
 obtain⟨c,I⟩:=k;obtain⟨P,R,d2,T,QW,QX,d6,W,C⟩:∃P R d2 T QW QX d6 W:Int,gV I=bN #[Y aq P,Y aq R,Y aq d2,Y aq T,Y aq QW,Y aq QX,Y aq d6,Y aq W]:=⟨_,_,_,_,_,_,_,_,rfl⟩;have hK:gL (c,I)=bN #[Y aq c.toNat,Y aq P,Y aq R,Y aq d2,Y aq T,Y aq QW,Y aq QX,Y aq d6,Y aq W]:=by unfold gL;rw[C];rfl
 rw[hK];have oc:=F.zN;have sw:=F.lt;have VO:=A3 L.p3;have hl4:=A3 L.p4;obtain⟨y,D⟩:=ex (w.alloc (aF #[Y aq 0,Y aq 0,Y aq 0,Y aq 0,Y aq 0,Y aq 0,Y aq 0,Y aq 0,Y aq 0] 233));have f:O (λb=>b=r) w y:=by grind[O.alloc]
 have n:fM r g p cap (c::(gO I++t)) ai y:=by rw[D];exact F.below ((ei _ _).alloc (aW _) _) (aW _)
 have x:y.heap[w.heap.size]? =U (aF #[Y aq 0,Y aq 0,Y aq 0,Y aq 0,Y aq 0,Y aq 0,Y aq 0,Y aq 0,Y aq 0] 233 (0,0)):=by grind[World.alloc_heap_new]
 have m:w.heap.size<y:=by grind
 have v:=L.keep f;have p3:=L.p3;have C1:=X (Nf r g p cap 1 _ y n (by simp))
 have HW:=X D;have HK:=zw.mk f n x m v C;go_enter ak5,ntmps148;go_wp2_with (rw[<-HW.out];go_at_call 147;go_must (refine C1.out.mono ?_);rintro e u ⟨rfl,uP⟩;have H2:=X uP;refine Halt.of ?_)
 unfold Halt;obtain⟨f,n,x,m,v,C⟩:=HK;obtain⟨⟨o2,j⟩,d⟩:=H2.out;have tP:=d.size;have j:fM r g o2 (cap-1) (gO I++t) ai u:=j;have o:=v.keep d;have H:=(d.block _ m (by omega)).trans x
 have p3:=o.p3;have p4:=o.p4;have q1:u.cell? ⟨r,1,V⟩=U (cz ai):=K j.box 1;have q2:u.cell? ⟨g,p,V⟩=U (Y aq c.toNat):=by
  have:=n.cells 0 (by simp)
  exact(eD (a:=⟨g,p,V⟩) (d.block _ n.lt n.ne)).trans this
 have Q2:∀i:_root_.Fin 9,u.cell? ⟨w,i.val,V⟩=U (Y aq 0):=λi=>(K H i.val).trans (by obtain⟨i,hi⟩:=i;rcases i with _|_|_|_|_|_|_|_|_|i<;>first|rfl|grind)
 have fz:∀i,u.frozen? ⟨w,i,V⟩=ai:=by grind[Joins.unfrozen_of_block]
 have z:=Bh.mk j d o H m f C Q2;have y0:u.cell? w=U (Y aq 0):=Q2 0;go_wp2_with (go_at_call 146;refine Halt.of ?_)
 unfold Halt;obtain⟨j,d,o,H,m,f,C,Q2⟩:=id z;have QY:=d.size;obtain⟨N,E⟩:=ex (u.setCell ⟨w.heap.size,0,V⟩ (Y aq c.toNat));have QZ:td w 233 u #[Y aq c.toNat,Y aq 0,Y aq 0,Y aq 0,Y aq 0,Y aq 0,Y aq 0,Y aq 0,Y aq 0] N:=by rw[E];exact td.set ⟨H,O.refl _ _⟩ 0 _
 rw[<-E];have S:=j.keep (QZ.keep.block r (by omega) (by omega)) (QZ.keep.block g (by omega) (by omega)) QZ.keep.size
 have Q3:=(eD (a:=⟨M,0,V⟩) (QZ.keep.block _ (by grind) (by grind))).trans o.p3
 have q:=gD.mk QZ S Q3;refine(agw r g o2 (cap-1) M I t N q.b q.c z.c.n3).mono ?_;rintro e l ⟨rfl,⟨o4,c4,Q0⟩,G⟩;rw[z.g];have s:l.heap[w.heap.size]? =U (aF #[Y aq c.toNat,Y aq 0,Y aq 0,Y aq 0,Y aq 0,Y aq 0,Y aq 0,Y aq 0,Y aq 0] 233 (0,0)):=(G.block _ (by have:=z.e;have:=z.b.size;have:=q.a.keep.size;omega) (by omega)).trans q.a.block
 have u0:l.cell? w=U (Y aq c.toNat):=K s 0;have u1:l.cell? ⟨w,1,V⟩=U (Y aq 0):=K s 1;have u2:l.cell? ⟨w,2,V⟩=U (Y aq 0):=K s 2;have u3:l.cell? ⟨w,3,V⟩=U (Y aq 0):=K s 3;have u4:l.cell? ⟨w,4,V⟩=U (Y aq 0):=K s 4;have u5:l.cell? ⟨w,5,V⟩=U (Y aq 0):=K s 5;have u6:l.cell? ⟨w,6,V⟩=U (Y aq 0):=K s 6;have u7:l.cell? ⟨w,7,V⟩=U (Y aq 0):=K s 7;have u8:l.cell? ⟨w,8,V⟩=U (Y aq 0):=K s 8;have fz:∀i,l.frozen? ⟨w,i,V⟩=ai:=by grind[Joins.unfrozen_of_block]
 have HA:=gD.mk (show td w.heap.size 233 l #[Y aq c.toNat,Y aq 0,Y aq 0,Y aq 0,Y aq 0,Y aq 0,Y aq 0,Y aq 0,Y aq 0] l from⟨s,O.refl _ _⟩) G Q0;go_wp2;generalize K8:jE _ _ _=WF;obtain⟨B,h⟩:=(K8▸(((((((((((((((((HA.a.set 1 _).set 2 _).set 3 _).set 4 _).set 5 _).set 6 _).set 7 _).set 8 _).set 0 _).set 1 _).set 2 _).set 3 _).set 4 _).set 5 _).set 6 _).set 7 _).set 8 _));simp only[eC,eB,ee] at B;refine xG (results_cell_row rfl _ _ w.heap.size 233 _ (0,0) _ rfl B ajH rfl (by kernel_rfl)) rfl ?_
 obtain⟨-,J,F⟩:=HA;obtain⟨j,d,o,H,m,f,-,-⟩:=z;have A:=q.a.keep;have QY:=d.size;have Cb:=A.size;have uN:=J.size;refine⟨rfl,⟨o4,c4,F.keep (h.block _ (by omega) (by omega)) (h.block _ (by omega) (by omega)) h.size⟩,?_⟩
 exact⟨h.os.trans (J.os.trans (A.os.trans (d.os.trans f.os))),h.tape.trans (J.tape.trans (A.tape.trans (d.tape.trans f.tape))),h.output.trans (J.output.trans (A.output.trans (d.output.trans f.output))),by grind,
  λb hb Q1=>(h.block b (by omega) (by omega)).trans ((J.block b (by omega) Q1).trans ((A.block b (by omega) (by omega)).trans ((d.block b (by omega) Q1).trans (f.block b hb Q1))))⟩
def fG{α:Type}(f:α->ay)(F:List α):List ay:=F.flatMap λx=>(f x).cells.toList
theorem NF{a}(f)(F:List a){j}(b):fG f (F.take (j+1))=fG f (F.take j)++(f F[j]).cells.toList:=by
 grind[fG,List.take_add_one,List.getElem?_eq_getElem,Option.toList_some]
structure IP{α:Type}(f:α->ay)(enc:α->List UInt8)(T sz r g a3 a4:Nat)(F:List α)(t:List UInt8)(w:av)(j:Nat)(v:ay)(W:av):Prop where
 row:W.ownsRow w.heap.size T sz v j (fG f (F.take j))
 ja:∃off cap,fM r g off cap ((F.drop j).flatMap enc++t) ai W
 keep:O (λb=>b=r) w W
theorem adR:(Q.info? 233).map (λi=>(i.zero,i.size,i.bytes))=U (U (bN #[Y aq 0,Y aq 0,Y aq 0,Y aq 0,Y aq 0,Y aq 0,Y aq 0,Y aq 0,Y aq 0]),9,9):=by kernel_rfl
theorem atY:(Q.info? 76).map (λi=>(i.zero,i.size,i.bytes))=U (U (bN #[Y aq 0,Y aq 0,Y aq 0,Y aq 0,Y aq 0,Y aq 0,Y aq 0,Y aq 0]),8,8):=by kernel_rfl
theorem alH(r g q cap N P)(F)(t)(w)(h:fM r g q cap (cV de F++t) ai w)(hF:∀s∈F,s.size<=1073741824)(hc:Dh r N P w)(hz:F.length<=600000):
  bE Q 151 #[aE (r),dH (ep 152) #[aE (r)] #[]] w λe W=>∃v,e=bj v∧W.ownsRow w 9 1 v F.length (fG aG F)∧uu r g t w W:=by
 rw[cV,jy] at h;have T:=h.zN;have E:=h.lt;have S:=X (DV r g q cap F.length _ w h (by omega))
 have HF:=cI.mk hF hc;go_enter ak1,ntmps151;go_wp2_with (go_at_call 194;go_must (refine S.out.mono ?_);rintro e w1 ⟨rfl,h1⟩;have D:=X h1;refine Halt.of ?_)
 unfold Halt;go_wp2;go_loopg [5,6] F.length (λk s5 s6 wr=>∃(v:ay) (j:Nat),v=s5∧s6=Y cK (k:Nat)∧k+j=F.length∧IP aG de 9 1 r g N P F t w j v wr)
 case atStart=>exact⟨_,0,rfl,rfl,rfl,⟨sd _ _ _ _,by simpa using D.out.1,D.out.2⟩⟩
 case round=>
  obtain⟨v,j,rfl,rfl,hk,A⟩:=hrel;obtain⟨o1,c1,n⟩:=A.ja;have b1:wr.cell? ⟨r,1,V⟩=U (cz ai):=K n.box 1;by_cases hj:j<F.length
  ·obtain⟨p,rfl⟩:∃p,gk=p+1:=⟨gk-1,by omega⟩
   have G:(F.drop j).flatMap de++t=de F[j]++((F.drop (j+1)).flatMap de++t):=by
    grind[List.drop_eq_getElem_cons,List.append_assoc]
   have y:=NF aG F hj;rw[G] at n;have u:=Jc r g o1 c1 F[j] _ wr n (HF.a F[j] (rZ hj));obtain⟨s,hx⟩:∃s,F[j]=s:=⟨_,rfl⟩;rw[hx] at u y;have S:=X u;have i:=cI.mk A y;have GW:=A.keep.size;have H:cK.wrap (((p+1:Nat):Int)-1)=(p:Int):=by grind[IntKind.wrap_u64]
   have x:(0:Int)<((p+1:Nat):Int):=by omega
   obtain⟨Q0,J⟩:∃Q0:Int,Q0=((p+1:Nat):Int):=⟨_,rfl⟩;rw[<-J] at H x⊢;go_wp2_with (go_at_call 152;go_must (refine S.out.mono ?_);rintro e O ⟨rfl,h5⟩;have z:=X h5;refine Halt.of ?_)
   unfold Halt;have o:O.ownsRow w 9 1 v j (fG aG (F.take j)):=dI i.a.row λb l=>z.out.2.block b (i.a.row.lt b l).2 (by have:=(i.a.row.lt b l).1;omega)
   have nY:=z.out.2.size;have m:=X o;go_wp2_with (at_builtin;go_must (refine app1 rfl rfl FK Eu rfl rfl (dI m.out λb l=>dr _ _ _ (m.out.lt b l).2) rfl (by grind) rfl rfl (by omega) (by simp;omega) ?_);intro Z M B c _ kF;refine Halt.of ?_)
   have d:∀b,b<w.heap.size->M.heap[b]? =O.heap[b]? :=λb l=>(c.block b (by simp;omega) (λe=>by have:=(m.out.lt b e.symm).1;omega)).trans (dr _ _ _ (by omega))
   have R:=c.size;have L:IP aG de 9 1 r g N P F t w (j+1) Z M:=by
    refine⟨by rw[i.b];exact B,?_,?_⟩
    ·obtain⟨o5,c5,C⟩:=z.out.1;exact⟨o5,c5,C.keep (d r T) (d g E) (by simp at R;omega)⟩
    ·have f:=i.a.keep.trans z.out.2;exact⟨c.os.trans f.os,c.tape.trans f.tape,c.output.trans f.output,by grind,λb l hn=>(d b l).trans (f.block b l hn)⟩
   unfold Halt;go_wp2;go_roundg p
   case rel=>exact⟨Z,j+1,rfl,by go_simp,by omega,(X L).out⟩
   grind
  ·have I:gk=0:=by omega
   subst I;have a:j=F.length:=by omega
   subst a;have i:=X A;go_wp2;go_ret;refine⟨_,rfl,?_,?_,i.out.keep⟩
   ·have:=i.out.row;rw[vJ] at this;exact this
   ·have:=i.out.ja
    grind
theorem atu(r g q cap y z)(F)(t)(w)(h:fM r g q cap (cV jd F++t) ai w)(hF:True)(hc:Dh r y z w)(hz:F.length<=600000):
  bE Q 155 #[aE (r),dH (ep 148) #[] #[aE (y),aE (z)]] w λe w'=>∃v,e=bj v∧w'.ownsRow w 233 9 v F.length (fG gL F)∧uu r g t w w':=by
 rw[cV,jy] at h;have Z:=h.zN;have H:=h.lt;have T:=X (DV r g q cap F.length _ w h (by omega))
 have HF:=cI.mk hF hc;go_enter akX,ntmps155;go_wp2_with (go_at_call 194;go_must (refine T.out.mono ?_);rintro e w1 ⟨rfl,h1⟩;have H1:=X h1;refine Halt.of ?_)
 unfold Halt;go_wp2;go_loopg [5,6] F.length (λk s5 s6 wr=>∃(v:ay) (j:Nat),v=s5∧s6=Y cK (k:Nat)∧k+j=F.length∧IP gL jd 233 9 r g y z F t w j v wr)
 case atStart=>exact⟨_,0,rfl,rfl,rfl,⟨sd _ _ _ _,by simpa using H1.out.1,H1.out.2⟩⟩
 case round=>
  obtain⟨v,j,rfl,rfl,hk,A⟩:=hrel;obtain⟨o1,c1,n⟩:=A.ja;have b1:wr.cell? ⟨r,1,V⟩=U (cz ai):=K n.box 1;by_cases hj:j<F.length
  ·obtain⟨p,rfl⟩:∃p,gk=p+1:=⟨gk-1,by omega⟩
   have L:(F.drop j).flatMap jd++t=jd F[j]++((F.drop (j+1)).flatMap jd++t):=by
    grind[List.drop_eq_getElem_cons,List.append_assoc]
   have x:=NF gL F hj;rw[L] at n;have s:=atx r g o1 c1 y z F[j] _ wr n (HF.b.keep A.keep);obtain⟨I,Q1,d2,M,C,J,d6,Q0,E,hx⟩:∃I Q1 d2 M C J d6 Q0 E:Int,gL F[j]=bN #[Y aq I,Y aq Q1,Y aq d2,Y aq M,Y aq C,Y aq J,Y aq d6,Y aq Q0,Y aq E]:=⟨_,_,_,_,_,_,_,_,_,rfl⟩;rw[hx] at s x;have T:=X s;have i:=cI.mk A x;have GW:=A.keep.size;have N:cK.wrap (((p+1:Nat):Int)-1)=(p:Int):=by grind[IntKind.wrap_u64]
   have u:(0:Int)<((p+1:Nat):Int):=by omega
   obtain⟨kz,P⟩:∃kz:Int,kz=((p+1:Nat):Int):=⟨_,rfl⟩;rw[<-P] at N u⊢;go_wp2_with (go_at_call 148;go_must (refine T.out.mono ?_);rintro e R ⟨rfl,h5⟩;have B:=X h5;refine Halt.of ?_)
   unfold Halt;have o:R.ownsRow w 233 9 v j (fG gL (F.take j)):=dI i.a.row λb l=>B.out.2.block b (i.a.row.lt b l).2 (by have:=(i.a.row.lt b l).1;omega)
   have nY:=B.out.2.size;have m:=X o;go_wp2_with (at_builtin;go_must (refine app1 rfl rfl YD adR rfl rfl (dI m.out λb l=>dr _ _ _ (m.out.lt b l).2) rfl (by grind) rfl rfl (by omega) (by simp;omega) ?_);intro v7 w7 Kz c _ kF;refine Halt.of ?_)
   have d:∀b,b<w.heap.size->w7.heap[b]? =R.heap[b]? :=λb l=>(c.block b (by simp;omega) (λe=>by have:=(m.out.lt b e.symm).1;omega)).trans (dr _ _ _ (by omega))
   have a:=c.size;have S:IP gL jd 233 9 r g y z F t w (j+1) v7 w7:=by
    refine⟨by rw[i.b];exact Kz,?_,?_⟩
    ·obtain⟨o5,c5,D⟩:=B.out.1;exact⟨o5,c5,D.keep (d r Z) (d g H) (by simp at a;omega)⟩
    ·have f:=i.a.keep.trans B.out.2;exact⟨c.os.trans f.os,c.tape.trans f.tape,c.output.trans f.output,by grind,λb l hn=>(d b l).trans (f.block b l hn)⟩
   unfold Halt;go_wp2;go_roundg p
   case rel=>exact⟨v7,j+1,rfl,by go_simp,by omega,(X S).out⟩
   grind
  ·have O:gk=0:=by omega
   subst O;have W:j=F.length:=by omega
   subst W;have i:=X A;go_wp2;go_ret;refine⟨_,rfl,?_,?_,i.out.keep⟩
   ·have:=i.out.row;rw[vJ] at this;exact this
   ·have:=i.out.ja
    grind
theorem ayK(r g q cap y B)(F)(t)(w)(h:fM r g q cap (cV gO F++t) ai w)(hF:True)(hc:Dh r y B w)(hz:F.length<=600000):
  bE Q 156 #[aE (r),dH (ep 146) #[] #[aE (y)]] w λe w'=>∃v,e=bj v∧w'.ownsRow w 76 8 v F.length (fG gV F)∧uu r g t w w':=by
 rw[cV,jy] at h;have P:=h.zN;have E:=h.lt;have R:=X (DV r g q cap F.length _ w h (by omega))
 have HF:=cI.mk hF hc;go_enter akW,ntmps156;go_wp2_with (go_at_call 194;go_must (refine R.out.mono ?_);rintro e w1 ⟨rfl,h1⟩;have H1:=X h1;refine Halt.of ?_)
 unfold Halt;go_wp2;go_loopg [5,6] F.length (λk s5 s6 wr=>∃(v:ay) (j:Nat),v=s5∧s6=Y cK (k:Nat)∧k+j=F.length∧IP gV gO 76 8 r g y B F t w j v wr)
 case atStart=>exact⟨_,0,rfl,rfl,rfl,⟨sd _ _ _ _,by simpa using H1.out.1,H1.out.2⟩⟩
 case round=>
  obtain⟨v,j,rfl,rfl,hk,z⟩:=hrel;obtain⟨o1,c1,n⟩:=z.ja;have b1:wr.cell? ⟨r,1,V⟩=U (cz ai):=K n.box 1;by_cases hj:j<F.length
  ·obtain⟨p,rfl⟩:∃p,gk=p+1:=⟨gk-1,by omega⟩
   have J:(F.drop j).flatMap gO++t=gO F[j]++((F.drop (j+1)).flatMap gO++t):=by
    grind[List.drop_eq_getElem_cons,List.append_assoc]
   have x:=NF gV F hj;rw[J] at n;have s:=agw r g o1 c1 y F[j] _ wr n (HF.b.keep z.keep).p3 HF.b.n3;obtain⟨G,I,d2,Q0,S,H,d6,O,hx⟩:∃G I d2 Q0 S H d6 O:Int,gV F[j]=bN #[Y aq G,Y aq I,Y aq d2,Y aq Q0,Y aq S,Y aq H,Y aq d6,Y aq O]:=⟨_,_,_,_,_,_,_,_,rfl⟩;rw[hx] at s x;have R:=X s;have i:=cI.mk z x;have GW:=z.keep.size;have L:cK.wrap (((p+1:Nat):Int)-1)=(p:Int):=by grind[IntKind.wrap_u64]
   have u:(0:Int)<((p+1:Nat):Int):=by omega
   obtain⟨kz,N⟩:∃kz:Int,kz=((p+1:Nat):Int):=⟨_,rfl⟩;rw[<-N] at L u⊢;go_wp2_with (go_at_call 146;go_must (refine R.out.mono ?_);rintro e T ⟨rfl,h5⟩;have A:=X h5;refine Halt.of ?_)
   unfold Halt;have o:T.ownsRow w 76 8 v j (fG gV (F.take j)):=dI i.a.row λb l=>A.out.2.block b (i.a.row.lt b l).2 (by have:=(i.a.row.lt b l).1;omega)
   have nY:=A.out.2.size;have m:=X o;go_wp2_with (at_builtin;go_must (refine app1 rfl rfl ajI atY rfl rfl (dI m.out λb l=>dr _ _ _ (m.out.lt b l).2) rfl (by grind) rfl rfl (by omega) (by simp;omega) ?_);intro v7 w7 Z c _ kF;refine Halt.of ?_)
   have d:∀b,b<w.heap.size->w7.heap[b]? =T.heap[b]? :=λb l=>(c.block b (by simp;omega) (λe=>by have:=(m.out.lt b e.symm).1;omega)).trans (dr _ _ _ (by omega))
   have W:=c.size;have a:IP gV gO 76 8 r g y B F t w (j+1) v7 w7:=by
    refine⟨by rw[i.b];exact Z,?_,?_⟩
    ·obtain⟨o5,c5,C⟩:=A.out.1;exact⟨o5,c5,C.keep (d r P) (d g E) (by simp at W;omega)⟩
    ·have f:=i.a.keep.trans A.out.2;exact⟨c.os.trans f.os,c.tape.trans f.tape,c.output.trans f.output,by grind,λb l hn=>(d b l).trans (f.block b l hn)⟩
   unfold Halt;go_wp2;go_roundg p
   case rel=>exact⟨v7,j+1,rfl,by go_simp,by omega,(X a).out⟩
   grind
  ·have M:gk=0:=by omega
   subst M;have D:j=F.length:=by omega
   subst D;have i:=X z;go_wp2;go_ret;refine⟨_,rfl,?_,?_,i.out.keep⟩
   ·have:=i.out.row;rw[vJ] at this;exact this
   ·have:=i.out.ja
    grind
end
end Go.Proofs.YtpdbmpbmepkikaaGreatDoor
