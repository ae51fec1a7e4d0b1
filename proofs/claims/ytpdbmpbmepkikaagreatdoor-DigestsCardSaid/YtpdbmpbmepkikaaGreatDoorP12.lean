/- Laws. -/
import Derived.Laws.EntriesVeiled
import Derived.Deep.AppendLies
import Derived.Test.YtpdbmpbmepkikaaGreatDoorP11
set_option maxRecDepth 100000
set_option maxHeartbeats 400000
set_option linter.all false
open Go.Proofs.Tryz
open And renaming intro->bP
open Bool renaming true->Z,false->ai
open Decidable renaming decide->cq
open Go renaming World->av,Value->ay,Calls->bE,callFunc->iu,zeroValue->kG,maxLen->uZ
open Go.Act renaming put->dj
open Go.Ending renaming returned->bj
open Go.Fn renaming func->ep
open Go.Instr renaming next->AX,checkKey->AY,sameBits->C0,sameNow->CY,entry->Fc,makeMap->LV
open Go.IntKind renaming i64->aH,u8->aq,u64->cK
open Go.Next renaming enter->jr
open Go.Obj renaming cells->aF,map->iP
open Go.Operand renaming tmp->cu
open Go.Result renaming ok->aV
open Go.RowKit renaming Below->bC,Hid->dR
open Go.Value renaming ownBlock->Mb,int->Y,slice->aD,pointer->aE,string->aG,agg->bN,tuple->bO,map->cj,bool->cz,func->dH,oneCell'->za
open Go.World renaming setCell->jE,cell?->og,frozen?->wI
open List renaming range->lW
open Nat renaming reduceSub->x9,reduceAdd->ya
open Option renaming some->U,none->V
open Or renaming inr->aA,inl->ax
open UInt8 renaming ofNat->jZ
namespace Go.Proofs.YtpdbmpbmepkikaaGreatDoor
def OB:=@Go.World.cell?_setCell_far
def J6:=@Ne.symm
def yJ:=@Go.info_parts
def UK:=@Go.wpList_append_own_at
def vI:=@Go.wp_region_noPanic
def eZ:=@List.getElem_toArray
def eY:=@List.getElem_cons_zero
def fu:=@List.getElem_cons_succ
def vH:=@Go.NoPanic.normal
def Gz:=@Go.wpAnyH_take
def UJ:=@Go.wpAnyH_ready
def UI:=@Go.AllReadyH.cons
def UH:=@Go.AllReadyH.nil
def Gy:=@Go.World.ownsRow.cells
def vG:=@Go.Value.slice.injEq
def adf:=@List.mem_of_mem_take
def ade:=@Go.wpListIn_append_own_at
section
open Go.RowKit
structure FC(r a3 a4 a5:Nat)(w:av):Prop extends Dh r a3 a4 w where
 p5:w.cell? ⟨a5,0,V⟩=U (dH (ep 148) #[] #[aE (U ⟨a3,0,V⟩),aE (U ⟨a4,0,V⟩)])
 n5:a5≠r
theorem FC.keep{r c e a5}{w w'}(h:FC r c e a5 w)(d:O (λb=>b=r) w w'):FC r c e a5 w':=
 ⟨h.toDh.keep d,(eD (a:=a5) (d.block _ (A3 h.p5) h.n5)).trans h.p5,h.n5⟩
theorem ji{W:av}{B B' e sz n:Nat}{v}{xs}(h:W.ownsRow B e sz v n xs)(i:B'<=B):W.ownsRow B' e sz v n xs:=by
 refine⟨h.1,?_⟩;rcases h.2 with h|⟨g,a,b,f,d,c⟩
 ·grind
 ·exact aA ⟨g,a,b,f,bq i d,c⟩
theorem gu{W:av}{B e sz n:Nat}{v}{xs}(h:W.ownsRow B e sz v n xs):∃b a,v=aD b n a:=by
 rcases h.2 with⟨h,d⟩|⟨g,a,c,h,-⟩
 all_goals grind
structure l9(r g a3 a4 a5 N:Nat)(l:List UInt8)(w W:av):Prop where
 ja:∃off cap,fM r g off cap l ai W
 box:W.heap[N]? =U (aF #[aG ⟨#[]⟩,aD V 0 0] 184 (0,0))
 cap:FC r a3 a4 a5 W
 keep:O (λb=>b=r) w W
 lt:N<W.heap.size
variable {r g a3 a4 a5 N:Nat} {l l':List UInt8} {w W W':av}
theorem aik:l9 r g a3 a4 a5 N l w W.drew↔l9 r g a3 a4 a5 N l w W:=by constructor<;>rintro⟨⟨o,c,h⟩,e,a,b,d⟩<;>exact⟨⟨o,c,h.box,h.fits,h.lt,h.ne,h.cells⟩,e,⟨⟨a.p3,a.p4,a.n3,a.n4⟩,a.p5,a.n5⟩,⟨b.os,b.tape,b.output,b.size,b.block⟩,d⟩
theorem l9.c0(h:l9 r g a3 a4 a5 N l w W):W.cell? N=U (aG ⟨#[]⟩):=K h.box 0
theorem l9.c1(h:l9 r g a3 a4 a5 N l w W):W.cell? ⟨N,1,V⟩=U (aD V 0 0):=K h.box 1
theorem l9.fz(h:l9 r g a3 a4 a5 N l w W):∀i,W.frozen? ⟨N,i,V⟩=ai:=λi=>tL h.box i
theorem l9.next(h:l9 r g a3 a4 a5 N l w W)(a:uu r g l' W W')(b:N≠r):l9 r g a3 a4 a5 N l' w W':=
 ⟨a.1,(a.2.block _ h.lt b).trans h.box,h.cap.keep a.2,h.keep.trans a.2,cF h.lt a.2.size⟩
theorem l9.held(h:l9 r g a3 a4 a5 N l w W):W.cell? a3=U (aE (r))∧W.cell? a5=U (dH (ep 148) #[] #[aE (a3),aE (a4)]):=⟨h.cap.p3,h.cap.p5⟩
theorem ark(r g C cap a3 a4 a5)(n)(t)(w)(A:fM r g C cap (iG n++t) ai w)(D:FC r a3 a4 a5 w)(L:n.pfx.size<=1073741824)(B:n.kids.length<=100000):
  bE Q 154 #[aE (a3),aE (a5)] w λe j=>∃QW,e=bj (bN #[n.pfx,QW])∧j.ownsRow w 233 9 QW n.kids.length (fG gL n.kids)∧uu r g t w j:=by
 obtain⟨p,i⟩:=n;simp only at L B⊢;simp only[iG,jy] at A;have oc:=A.zN;have T:=A.lt;obtain⟨I,fK⟩:=ex (w.alloc (aF #[aG ⟨#[]⟩,aD V 0 0] 184));have hI1:l9 r g a3 a4 a5 w (de p++(cV jd i++t)) w I:=by rw[fK];exact⟨⟨_,_,A.below ((ei _ _).alloc (aW _) _) (aW _)⟩,iN _ _,D.keep (O.alloc _ _ _),O.alloc _ _ _,by simp⟩
 have k3:∀W:av,∀l,l9 r g a3 a4 a5 w l w W->W.cell? a3=U (aE (U r)):=λW l h=>h.cap.p3;have S:dR (∀W,l9 r g a3 a4 a5 w (de p++(cV jd i++t)) w W->bE Q 152 #[aE (r)] W λe j=>e=bj (p)∧l9 r g a3 a4 a5 w (cV jd i++t) w j):=X λW h=>by obtain⟨o,c,G⟩:=h.ja;exact(Jc r g o c p _ W G L).mono λe j ⟨F,z⟩=>⟨F,h.next z (by omega)⟩
 have a:dR (∀W,l9 r g a3 a4 a5 w (cV jd i++t) w W->bE Q 155 #[aE (r),dH (ep 148) #[] #[aE (a3),aE (a4)]] W λe j=>∃s cap,e=bj (aD s i.length cap)∧j.ownsRow (w+1) 233 9 (aD s i.length cap) i.length (fG gL i)∧l9 r g a3 a4 a5 w t w j):=X λW h=>by
  obtain⟨o,c,G⟩:=h.ja;exact(atu r g o c a3 a4 i t W G trivial h.cap.toDh (bq B (by decide))).mono λe j ⟨v,F,z,Q1⟩=>by obtain⟨s,cap,rfl⟩:=gu z;exact⟨s,cap,F,ji z h.lt,h.next Q1 (by omega)⟩
 have Q3:=A3 D.p3;have hl5:=A3 D.p5;have HS:dR (∀(W:av) (x y:ay),(W.cell? a3=U (aE (r))∧W.cell? a5=U (dH (ep 148) #[] #[aE (a3),aE (a4)]))->(((W.setCell w x).setCell ⟨w,1,V⟩ y).cell? a3=U (aE (r))∧((W.setCell w x).setCell ⟨w,1,V⟩ y).cell? a5=U (dH (ep 148) #[] #[aE (a3),aE (a4)]))):=X λW x y h=>by
  have K:a3≠w:=by omega
  have M:a5≠w:=by omega
  rw[OB _ ⟨w,1,V⟩ a3 _ (J6 K),OB _ w.heap.size a3 _ (J6 K),OB _ ⟨w,1,V⟩ a5 _ (J6 M),OB _ w.heap.size a5 _ (J6 M)];exact h
 go_enter akY,ntmps154;go_wp2;rw[<-(X fK).out]
 go_region_held3 (λW=>W.cell? a3=U (aE (U r))∧W.cell? a5=U (dH (ep 148) #[] #[aE (U a3),aE (U a4)])) (with_reducible (first|exact l9.held (by assumption)|exact l9.held (aik.2 (by assumption))|exact HS.out _ _ _ (l9.held (by assumption))))
  ((first
   |(go_at_call 152;with_reducible refine jc (S.out _ ?fK) ?_;(case fK=>grind[aik]);rintro e w2 ⟨rfl,jL⟩)
   |(go_at_call 155;with_reducible refine jc (a.out _ ?fK) ?_;(case fK=>grind);rintro e P ⟨s,kc,rfl,f,k⟩;have b0:=k.c0;have b1:=k.c1;have fz:=k.fz)))
 have J:=X (bP k f);go_wp2;generalize H:jE _ _ _=WF;obtain⟨m,d⟩:=(H▸(((show td w 184 P _ P from⟨J.out.1.box,O.refl _ _⟩).set 0 _).set 1 _));simp only[eC,eB,ee] at m;refine xG (results_cell_row rfl _ _ w 184 _ (0,0) _ rfl m YC rfl (by kernel_rfl)) rfl ?_
 obtain⟨⟨⟨Q0,Q2,E⟩,q,qR,u,R⟩,f⟩:=J.out;have QX:=d.size;refine⟨_,rfl,ji (dI f λb q=>d.block b (f.lt b q).2 (by have:=(f.lt b q).1;omega)) (by omega),⟨Q0,Q2,E.keep (d.block _ (by omega) (by omega)) (d.block _ (by grind) (by omega)) QX⟩,?_⟩
 exact⟨d.os.trans u.os,d.tape.trans u.tape,d.output.trans u.output,bq u.size QX,λb q B=>(d.block b (by omega) (by omega)).trans (u.block b q B)⟩
def yl(W:av)(B:Nat):List Nd->List ay->Prop
 | [],xs=>xs=[]
 |n::F,xs=>∃kv ys,xs=aG n.pfx::kv::ys∧W.ownsRow B 233 9 kv n.kids.length (fG gL n.kids)∧yl W B F ys
structure kI(W:av)(B:Nat)(F:List Nd)(v:ay)(xs:List ay):Prop where
 row:W.ownsRow B 184 2 v F.length xs
 ins:yl W B F xs
 sep:∀x∈xs,∀b,x.ownBlock=U b->B<=b∧b<W.heap.size∧v.ownBlock≠U b
theorem yl.block{W W':av}{B:Nat}:∀{F:List Nd} {xs:List ay},yl W B F xs->(∀x∈xs,∀b,x.ownBlock=U b->W'.heap[b]? =W.heap[b]?)->yl W' B F xs
 | [],xs,h,_=>h
 |n::F,xs,⟨a,g,e,h,t⟩,c=>by subst e;exact⟨a,g,rfl,dI h λb d=>c a (by simp) b d,t.block λx f=>c x (by simp[f])⟩
theorem yl.snoc{W:av}{B:Nat}{n:Nd}{kv:ay}(b:W.ownsRow B 233 9 kv n.kids.length (fG gL n.kids)):∀{F:List Nd} {xs:List ay},yl W B F xs->yl W B (F++[n]) (xs++[aG n.pfx,kv])
 | [],xs,h=>by cases h;exact⟨kv,[],rfl,b,rfl⟩
 |m::F,xs,⟨a,c,e,h,t⟩=>by subst e;exact⟨a,c++[aG n.pfx,kv],rfl,h,t.snoc b⟩
theorem kI.nil(W)(B):kI W B [] (aD V 0 0) []:=⟨sd _ _ _ _,rfl,by simp⟩
theorem kI.block{W W'}{B}{F}{v}{xs}(h:kI W B F v xs)(d:∀b,B<=b->b<W->W'.heap[b]? =W.heap[b]?)(e:W.heap.size<=W'.heap.size):kI W' B F v xs:=
 ⟨dI h.row λb a=>d b (h.row.lt b a).1 (h.row.lt b a).2,h.ins.block λx c b a=>d b (h.sep x c b a).1 (h.sep x c b a).2.1,λx c b a=>⟨(h.sep x c b a).1,cF (h.sep x c b a).2.1 e,(h.sep x c b a).2.2⟩⟩
theorem kI.snoc{W W'}{B}{F}{v v'}{xs}{n}{kv}(h:kI W B F v xs)(e:W.ownsRow B 233 9 kv n.kids.length (fG gL n.kids))(hs:∀b,kv.ownBlock=U b->v.ownBlock≠b)
  (i:W'.ownsRow B 184 2 v' (F.length+1) (xs++[n.pfx,kv])) (f:∀b,b<W.heap.size->v.ownBlock≠b->W'.heap[b]? =W.heap[b]?) (j:v'.ownBlock=v.ownBlock∨∃b,v'.ownBlock=U b∧W.heap.size<=b) (g:W.heap.size<=W'.heap.size):kI W' B (F++[n]) v' (xs++[n.pfx,kv]):=by
 have d:∀x∈xs++[aG n.pfx,kv],∀b,x.ownBlock=U b->B<=b∧b<W∧v.ownBlock≠b:=λx a b c=>by
  rcases qD.1 a with a|a
  ·exact h.sep x a b c
  ·simp only[dh,dJ,dO] at a;rcases a with rfl|rfl
   ·simp[Mb] at c
   ·exact⟨(e.lt b c).1,(e.lt b c).2,hs b c⟩
 refine⟨by grind,(h.ins.snoc e).block λx a b c=>f b (d x a b c).2.1 (d x a b c).2.2,λx a b c=>?_⟩
 grind
structure aim(r g:Nat)(F:List Nd)(t:List UInt8)(w:av)(j:Nat)(v:ay)(W:av):Prop where
 row:∃xs,kI W w.heap.size (F.take j) v xs
 ja:∃off cap,fM r g off cap ((F.drop j).flatMap iG++t) ai W
 keep:O (λb=>b=r) w W
theorem Vb:(Q.info? 184).map (λi=>(i.zero,i.size,i.bytes))=U (U (bN #[aG ⟨#[]⟩,aD V 0 0]),2,40):=by kernel_rfl
theorem ari(r g y cap Q1 a4 Q2)(F)(t)(w)(h:fM r g y cap (cV iG F++t) ai w)(hF:∀n∈F,n.pfx.size<=1073741824∧n.kids.length<=100000)(hc:FC r Q1 a4 Q2 w)(hz:F.length<=124000):
  bE Q 153 #[aE (r),dH (ep 154) #[] #[aE (Q1),aE (Q2)]] w λe w'=>∃v z,e=bj v∧kI w' w F v z∧uu r g t w w':=by
 rw[cV,jy] at h;have oc:=h.zN;have N:=h.lt;have HC:=X (DV r g y cap F.length _ w h (by omega))
 have HF:=X (bP hF hc);obtain⟨i0,hi,a,M,QW⟩:=yJ Vb;go_enter akZ,ntmps153;go_wp2_with (go_at_call 194;go_must (refine HC.out.mono ?_);rintro e w1 ⟨rfl,I⟩;have H1:=X I;refine Halt.of ?_)
 unfold Halt;go_wp2;go_loopg [5,6] F.length (λk s5 s6 wr=>∃(v:ay) (j:Nat),v=s5∧s6=Y cK (k:Nat)∧k+j=F.length∧aim r g F t w j v wr)
 case atStart=>exact⟨_,0,rfl,rfl,rfl,⟨⟨_,kI.nil _ _⟩,by simpa using H1.out.1,H1.out.2⟩⟩
 case round=>
  obtain⟨v,j,rfl,rfl,hk,E⟩:=hrel;obtain⟨o1,c1,q⟩:=E.ja;have b1:wr.cell? ⟨r,1,V⟩=U (cz ai):=K q.box 1;by_cases hj:j<F.length
  ·obtain⟨u,rfl⟩:∃u,gk=u+1:=⟨gk-1,by omega⟩
   have O:(F.drop j).flatMap iG++t=iG F[j]++((F.drop (j+1)).flatMap iG++t):=by
    grind[List.drop_eq_getElem_cons,List.append_assoc]
   rw[O] at q;have A:=ark r g o1 c1 Q1 a4 Q2 F[j] _ wr q (HF.out.2.keep E.keep) (HF.out.1 _ (rZ hj)).1 (HF.out.1 _ (rZ hj)).2;obtain⟨p,hx⟩:∃p,F[j].pfx=p:=⟨_,rfl⟩;rw[hx] at A;have HC:=X A;have x:=X (bP E hx);have GW:=E.keep.size;have P:cK.wrap (((u+1:Nat):Int)-1)=(u:Int):=by grind[IntKind.wrap_u64]
   have B:(0:Int)<((u+1:Nat):Int):=by omega
   obtain⟨kz,T⟩:∃kz:Int,kz=((u+1:Nat):Int):=⟨_,rfl⟩;rw[<-T] at P B⊢;go_wp2_with (go_at_call 154;go_must (refine HC.out.mono ?_);rintro e w5 ⟨kv,rfl,i,h5⟩;obtain⟨ad,kc,rfl⟩:=gu i;obtain⟨kn,m⟩:∃kn,F[j].kids.length=kn:=⟨_,rfl⟩;rw[m];have C:=X h5;have H6:=X (bP m i);refine Halt.of ?_)
   unfold Halt;obtain⟨z,f⟩:=x.out.1.row;have H:=f.block (λb I R=>C.out.2.block b R (by omega)) C.out.2.size
   have nY:=C.out.2.size;have J:(F.take j).length=j:=by grind
   have HNS:=X f;have d:=X (bP H J);go_wp2_with (at_builtin;go_must (refine UK _ rfl _ _ 177 rfl w.heap.size 184 i0 (bN #[aG ⟨#[]⟩,aD V 0 0]) 2 40 RX hi a M QW rfl (by decide) v j z rfl (dI (by have:=d.out.1.row;grind) λb s=>dr _ _ _ (d.out.1.row.lt b s).2) ⟨w5.heap.size,0,V⟩ 1 1 [aG p,aD ad kn kc] rfl rfl (zY (by grind) _ _ rfl) (by simp[za]) (by unfold uZ;omega) (by omega) (by simp;omega) ?_);intro v7 w7 G c _ Q3;refine Halt.of ?_)
   have l:∀b,b<w.heap.size->w7.heap[b]? =w5.heap[b]? :=λb s=>(c.block b (by simp;omega) (λe=>by have:=(d.out.1.row.lt b e.symm).1;omega)).trans (dr _ _ _ (by omega))
   have D:=c.size;have Q0:aim r g F t w (j+1) v7 w7:=by
    have m:=H6.out.1;have i:=H6.out.2;rw[<-m] at G;have hsn:=d.out.1.snoc (W':=w7) (v':=v7) (n:=F[j]) (ji i (by omega))
     (λb I R=>by have:=(i.lt b I).1;have:=(HNS.out.row.lt b R).2;omega) (by rw[d.out.2,x.out.2];exact G)
     (λb s hn=>(c.block b (by simp;omega) (λe=>hn e.symm)).trans (dr _ _ _ s)) (Q3.imp id λe=>⟨_,e,by simp⟩) (by simp at D;omega)
    have gM:F.take (j+1)=F.take j++[F[j]]:=by rw[yL,pR hj];rfl
    refine⟨by grind,?_,?_⟩
    ·obtain⟨o5,c5,L⟩:=C.out.1;exact⟨o5,c5,L.keep (l r oc) (l g N) (by simp at D;omega)⟩
    ·have o:=x.out.1.keep.trans C.out.2;exact⟨c.os.trans o.os,c.tape.trans o.tape,c.output.trans o.output,by grind,λb s hn=>(l b s).trans (o.block b s hn)⟩
   unfold Halt;go_wp2;go_roundg u
   case rel=>exact⟨v7,j+1,rfl,by go_simp,by omega,(X Q0).out⟩
   grind
  ·have S:gk=0:=by omega
   subst S;have Z:j=F.length:=by omega
   subst Z;have x:=X E;go_wp2;go_ret;obtain⟨z,f⟩:=x.out.row;rw[vJ] at f;refine⟨_,z,rfl,f,?_,x.out.keep⟩;have:=x.out.ja
   grind
structure iY(W:av)(B p:Nat)(m:dP)(vr vw vn vd:ay)(xs:List ay):Prop where
 box:W.heap[p]? =U (aF #[vr,vw,vn,vd] 180 (0,0))
 lt:B<=p
 bh:W.ownsRow B 46 5 vr m.bh.length (rows m.bh)
 cp:W.ownsRow B 9 1 vw m.cp.length (fG aG m.cp)
 nodes:kI W B m.nodes vn xs
 roots:W.ownsRow B 76 8 vd m.roots.length (fG gV m.roots)
structure X5(m:dP):Prop where
 bh:∀x∈m.bh,Fit x
 cp:∀s∈m.cp,s.size<=1073741824
 nodes:∀n∈m.nodes,n.pfx.size<=1073741824∧n.kids.length<=100000
 nr:m.bh.length<=600000
 nw:m.cp.length<=600000
 nn:m.nodes.length<=124000
 nd:m.roots.length<=100000
structure me(r g a3 a4 a5:Nat)(l:List UInt8)(w W:av):Prop where
 ja:∃off cap,fM r g off cap l ai W
 cap:FC r a3 a4 a5 W
 keep:O (λb=>b=r) w W
variable {r g a3 a4 a5:Nat} {l l':List UInt8} {w W W':av}
theorem ail:me r g a3 a4 a5 l w W.drew↔me r g a3 a4 a5 l w W:=by constructor<;>rintro⟨⟨o,c,h⟩,a,b⟩<;>exact⟨⟨o,c,h.box,h.fits,h.lt,h.ne,h.cells⟩,⟨⟨a.p3,a.p4,a.n3,a.n4⟩,a.p5,a.n5⟩,⟨b.os,b.tape,b.output,b.size,b.block⟩⟩
theorem me.next(h:me r g a3 a4 a5 l w W)(a:uu r g l' W W'):me r g a3 a4 a5 l' w W':=⟨a.1,h.cap.keep a.2,h.keep.trans a.2⟩
theorem me.held(h:me r g a3 a4 a5 l w W):W.cell? a3=U (aE (r))∧W.cell? a4=U (dH (ep 146) #[] #[aE (a3)]):=⟨h.cap.p3,h.cap.p4⟩
theorem kI.base{W}{B B'}{F}{v}{xs}(h:kI W B F v xs)(c:B'<=B):kI W B' F v xs:=by
 refine⟨ji h.row c,?_,λx f b d=>⟨bq c (h.sep x f b d).1,(h.sep x f b d).2⟩⟩;have:=h.ins;clear h;induction F generalizing xs with
 |nil=>exact this
 |cons n F i=>
  obtain⟨k,m,e,j,o⟩:=this;exact⟨k,m,e,ji j c,i o⟩
set_option maxHeartbeats 2000000 in
theorem ar7 (m) (g B cap) (w) (Px:(gi m).length<=cap) (hg:g<w.heap.size) (jl:∀j (h),w.cell? ⟨g,B+j,V⟩=U (iR (gi m)[j])) (Q3:X5 m):
  bE Q 100 #[aD (U ⟨g,B,V⟩) (gi m).length cap] w λe f=>∃p vr vw vn vd T,e=bj (aE (U ⟨p,0,V⟩))∧iY f w p m vr vw vn vd T∧bC w w f:=by
 obtain⟨R,z,N,D⟩:=m;obtain⟨n,hn⟩:∃n,(gi ⟨R,z,N,D⟩).length=n:=⟨_,rfl⟩;have hmm:gi ⟨R,z,N,D⟩=cV gI R++(cV de z++(cV iG N++(cV gO D++[]))):=by simp[gi]
 rw[hn];obtain⟨s,u⟩:=ex ((((w.alloc (aF #[aD (U ⟨g,B,V⟩) n cap,cz ai] 230)).alloc (aF #[aE (U ⟨w.heap.size,0,V⟩)] 228)).alloc (aF #[dH (ep 146) #[] #[aE (U ⟨w.heap.size+1,0,V⟩)]] 231)).alloc (aF #[dH (ep 148) #[] #[aE (U ⟨w.heap.size+1,0,V⟩),aE (U ⟨w.heap.size+1+1,0,V⟩)]] 234));have I:bC w w s:=by rw[u];exact((((ei _ _).alloc (aW _) _).alloc (by simp) _).alloc (by simp;omega) _).alloc (by simp;omega) _
 have Q0:s.heap.size=w+4:=by rw[u];simp
 have S:me (w) g (w+1) (w+1+1) (w+1+1+1) (cV gI R++(cV de z++(cV iG N++(cV gO D++[])))) s s:=by
  refine⟨⟨B,cap,?_,by grind,by omega,by omega,λj hj=>?_⟩,⟨⟨?_,?_,by omega,by omega⟩,?_,by omega⟩,O.refl _ _⟩
  ·grind[Below.heap_alloc,World.alloc_heap_new]
  ·rw[<-List.getElem_of_eq hmm (by grind)]
   exact(I.cell (p:=⟨g,B+j,V⟩) hg).trans (jl j (by grind))
  ·rw[u,uG _ _ _ (by simp),uG _ _ _ (by simp)];exact Ka _ _ _ _ (by simp)
  ·rw[u,uG _ _ _ (by simp)];exact Ka _ _ _ _ (by simp)
  ·rw[u];exact Ka _ _ _ _ (by simp)
 have k3:s.cell? ⟨w.heap.size+1,0,V⟩=U (aE (U ⟨w.heap.size,0,V⟩)):=S.cap.p3;have C1:dR (∀W,me (w) g (w+1) (w+1+1) (w+1+1+1) (cV gI R++(cV de z++(cV iG N++(cV gO D++[])))) s W->bE Q 149 #[aE (w),dH (ep 150) #[aE (w)] #[]] W λe f=>(∃t cap,e=bj (aD t R.length cap)∧f.ownsRow s 46 5 (aD t R.length cap) R.length (rows R))∧me (w) g (w+1) (w+1+1) (w+1+1+1) (cV de z++(cV iG N++(cV gO D++[]))) s f∧O (λb=>b=w) W f):=X λW h=>by
  obtain⟨o,c,J⟩:=h.ja;have Q2:=h.keep.size;exact(ase (w.heap.size) g o c R _ W J Q3.bh Q3.nr).mono λe f ⟨v,y,H,E⟩=>by obtain⟨t,cap,rfl⟩:=gu H;exact⟨⟨t,cap,y,ji H Q2⟩,h.next E,E.2⟩
 have C2:dR (∀W,me (w) g (w+1) (w+1+1) (w+1+1+1) (cV de z++(cV iG N++(cV gO D++[]))) s W->bE Q 151 #[aE (w),dH (ep 152) #[aE (w)] #[]] W λe f=>(∃t cap,e=bj (aD t z.length cap)∧f.ownsRow s 9 1 (aD t z.length cap) z.length (fG aG z))∧me (w) g (w+1) (w+1+1) (w+1+1+1) (cV iG N++(cV gO D++[])) s f∧O (λb=>b=w) W f):=X λW h=>by
  obtain⟨o,c,J⟩:=h.ja;have Q2:=h.keep.size;exact(alH (w.heap.size) g o c _ _ z _ W J Q3.cp h.cap.toDh Q3.nw).mono λe f ⟨v,y,H,E⟩=>by obtain⟨t,cap,rfl⟩:=gu H;exact⟨⟨t,cap,y,ji H Q2⟩,h.next E,E.2⟩
 have C3:dR (∀W,me (w) g (w+1) (w+1+1) (w+1+1+1) (cV iG N++(cV gO D++[])) s W->bE Q 153 #[aE (w),dH (ep 154) #[] #[aE (U ⟨w+1,0,V⟩),aE (U ⟨w+1+1+1,0,V⟩)]] W λe f=>(∃t cap T,e=bj (aD t N.length cap)∧kI f s N (aD t N.length cap) T)∧me (w) g (w+1) (w+1+1) (w+1+1+1) (cV gO D++[]) s f∧O (λb=>b=w) W f):=X λW h=>by
  obtain⟨o,c,J⟩:=h.ja;have Q2:=h.keep.size;exact(ari (w.heap.size) g o c _ _ _ N _ W J Q3.nodes h.cap Q3.nn).mono λe f ⟨v,T,y,H,E⟩=>by obtain⟨t,cap,rfl⟩:=gu H.row;exact⟨⟨t,cap,T,y,H.base Q2⟩,h.next E,E.2⟩
 have C4:dR (∀W,me (w) g (w+1) (w+1+1) (w+1+1+1) (cV gO D++[]) s W->bE Q 156 #[aE (w),dH (ep 146) #[] #[aE (U ⟨w+1,0,V⟩)]] W λe f=>(∃t cap,e=bj (aD t D.length cap)∧f.ownsRow s 76 8 (aD t D.length cap) D.length (fG gV D))∧me (w) g (w+1) (w+1+1) (w+1+1+1) (([]:List UInt8)) s f∧O (λb=>b=w) W f):=X λW h=>by
  obtain⟨o,c,J⟩:=h.ja;have Q2:=h.keep.size;exact(ayK (w.heap.size) g o c _ _ D _ W J trivial h.cap.toDh (bq Q3.nd (by decide))).mono λe f ⟨v,y,H,E⟩=>by obtain⟨t,cap,rfl⟩:=gu H;exact⟨⟨t,cap,y,ji H Q2⟩,h.next E,E.2⟩
 have HS:dR (∀(W:av) (o:Obj),(W.cell? ⟨w+1,0,V⟩=U (aE (w))∧W.cell? ⟨w+1+1,0,V⟩=U (dH (ep 146) #[] #[aE (U ⟨w+1,0,V⟩)]))->((W.alloc o).cell? ⟨w+1,0,V⟩=U (aE (w))∧(W.alloc o).cell? ⟨w+1+1,0,V⟩=U (dH (ep 146) #[] #[aE (U ⟨w+1,0,V⟩)]))):=by grind[Lib.hid,World.cell?_alloc_lt,A3]
 have HW:=gD.mk u I Q0;clear Px hg jl Q3 hn hmm u I Q0;go_enter ali,ntmps100;go_wp2;rw[<-HW.a];refine vI ?_;refine Bs (λW=>W.cell? ⟨w.heap.size+1,0,V⟩=U (aE (U ⟨w.heap.size,0,V⟩))∧W.cell? ⟨w.heap.size+1+1,0,V⟩=U (dH (ep 146) #[] #[aE (U ⟨w.heap.size+1,0,V⟩)])) [0,1,4,5,8,11,12,2,6,9,3,7,10,13,14,15,16] (by kernel_rfl) (me.held (ail.2 S)) (λ_ _ _ _ _ h=>h) ?_
 repeat(apply pM _ rfl (by kernel_rfl) rfl;·intro W d;obtain⟨A,G⟩:=d;go_simp;try with_reducible rfl)
 refine uw rfl (by kernel_rfl) λa K P=>?_
 go_simp;go_at_call 149;refine jc (C1.out _ (ail.2 S)) ?_;rintro e w5 ⟨⟨ar,cr,rfl,C⟩,hI5,hk5⟩;refine P.out _ _ (me.held hI5) ?_
 repeat(apply pM _ rfl (by kernel_rfl) rfl;·intro W d;obtain⟨A,G⟩:=d;go_simp;try with_reducible rfl)
 refine uw rfl (by kernel_rfl) λa K P=>?_
 go_simp;go_at_call 151;refine jc (C2.out _ hI5) ?_;rintro e w6 ⟨⟨aw,cw,rfl,F⟩,Lf,Q1⟩;refine P.out _ _ (me.held Lf) ?_
 repeat(apply pM _ rfl (by kernel_rfl) rfl;·intro W d;obtain⟨A,G⟩:=d;go_simp;try with_reducible rfl)
 refine uw rfl (by kernel_rfl) λa K P=>?_
 go_simp;go_at_call 153;refine jc (C3.out _ Lf) ?_;rintro e w7 ⟨⟨an,cn,T,rfl,Y⟩,hI7,M⟩;refine P.out _ _ (me.held hI7) ?_
 repeat(apply pM _ rfl (by kernel_rfl) rfl;·intro W d;obtain⟨A,G⟩:=d;go_simp;try with_reducible rfl)
 refine uw rfl (by kernel_rfl) λa K P=>?_
 go_simp;go_at_call 156;refine jc (C4.out _ hI7) ?_;rintro e w8 ⟨⟨t,cd,rfl,QW⟩,i,x⟩;refine P.out _ _ (me.held i) ?_
 repeat(apply pM _ rfl (by kernel_rfl) rfl;·intro W d;obtain⟨A,G⟩:=d;go_simp;try with_reducible rfl)
 refine uw rfl (by kernel_rfl) λa K P=>?_
 go_simp;refine P.out _ _ (HS.out _ _ (me.held i)) ?_
 repeat(apply pM _ rfl (by kernel_rfl) rfl;·intro W d;obtain⟨A,G⟩:=d;go_simp;try with_reducible rfl)
 refine Bt (by kernel_rfl) λa=>?_
 simp only[dj,eZ,eY,fu,eC,eB,ee];refine vH ?_;have HX:=Bh.mk i QW Y F C Q1 M x;go_wp2;go_ret;obtain⟨i,QW,Y,F,C,Q1,M,x⟩:=HX;obtain⟨-,I,Q0⟩:=HW;have z8:=i.keep.size;have xX:bC w.heap.size w w8:=I.trans ⟨i.keep.os,i.keep.tape,i.keep.output,i.keep.size,λb q=>i.keep.block b (by omega) (by omega)⟩
 have kk:∀{W W':av},O (λb=>b=w) W W'->∀b,s.heap.size<=b->b<W->W'.heap[b]? =W.heap[b]? :=λk b J y=>k.block b y (by omega)
 have al:∀(o:Obj) b,b<w8.heap.size->(w8.alloc o).heap[b]? =w8.heap[b]? :=by grind[Below.heap_alloc]
 have L:=dI C λb q=>kk Q1 b (C.lt b q).1 (C.lt b q).2;have L:=dI L λb q=>kk M b (L.lt b q).1 (L.lt b q).2;have L:=dI L λb q=>kk x b (L.lt b q).1 (L.lt b q).2;have Z:=dI F λb q=>kk M b (F.lt b q).1 (F.lt b q).2;have Z:=dI Z λb q=>kk x b (Z.lt b q).1 (Z.lt b q).2;have r7:=Y.block (λb J y=>kk x b J y) x.size;refine⟨w8.heap.size,_,_,_,_,T,rfl,⟨iN _ _,by omega,ji (dI L λb q=>al _ b (L.lt b q).2) (by omega),ji (dI Z λb q=>al _ b (Z.lt b q).2) (by omega),(r7.block (λb _ y=>al _ b y) (by simp)).base (by omega),ji (dI QW λb q=>al _ b (QW.lt b q).2) (by omega)⟩,xX.alloc (by omega) _⟩
theorem agv(N)(v)(l)(h)(w)(s:dx N w v l)(K:N<=w)(I:l.length<=1099511627776):
  bE Q 170 #[v,gV h] w λe C=>∃q,e=bj q∧dx N C q (l++gO h)∧bT (cZ v) w (cZ q) C:=by
 obtain⟨f,i,k,j,d,g,m,c,B⟩:∃f i k j d g m c:Int,gV h=bN #[Y aq f,Y aq i,Y aq k,Y aq j,Y aq d,Y aq g,Y aq m,Y aq c]:=⟨_,_,_,_,_,_,_,_,rfl⟩;have D:(gO h).map iR=[Y aq f,Y aq i,Y aq k,Y aq j,Y aq d,Y aq g,Y aq m,Y aq c]:=(agz h).trans (by rw[B];rfl)
 have r:=LB h;rw[B];generalize gO h=J at*;obtain⟨E,F,p,t,n⟩:=yJ GS;have A:=X s;have y:=cI.mk D r;go_enter akI,ntmps170;go_wp2_with (at_builtin;go_must (refine UK _ rfl _ _ 79 rfl N 5 E (Y aq 0) 1 1 rH F p t n rfl (by decide) v l.length (l.map iR) rfl (A.out.alloc _) w.heap.size 8 8 [Y aq f,Y aq i,Y aq k,Y aq j,Y aq d,Y aq g,Y aq m,Y aq c] rfl rfl (zY (by grind) _ _ rfl) (by simp[za]) (by unfold uZ;omega) (by omega) (by simp;omega) ?_);intro G H o u _ x;have z:=cI.mk o (Us (λb s=>(A.out.lt s).2) u x);refine Halt.of ?_)
 unfold Halt;go_wp2;go_ret;refine⟨_,rfl,?_,z.b⟩;unfold dx;have:=z.a;rw[uI,y.a,jV,y.b];exact this
theorem fx.alloc{N}{v0 v}{w0 W}{a}{cs}{T}{l}(h:fx N v0 w0 a cs T v l W)(o):fx N v0 w0 a cs T v l (W.alloc o):=by exact⟨h.buf.alloc _,(dr _ _ _ ((dc.1 h.box).1)).trans h.box,h.off,h.left.trans ⟨O.alloc _ _ _,λb c=>ax c⟩,bq h.base (by simp)⟩
theorem asN{v v'}{W W'}(a:W.grownBy W' v.ownBlock)(c:∀b,v'.ownBlock=U b->v.ownBlock=U b∨W.heap.size<=b):bT (cZ v) W (cZ v') W':=
 ⟨⟨a.os,a.tape,a.output,a.size,λk g d=>a.block k g λe=>d e.symm⟩,λb f=>c b f⟩
theorem atw(N)(v)(l)(k)(w)(o:dx N w v l)(hN:N<=w)(hl:l.length<=549755813888):
  bE Q 169 #[v,gL k] w λe T=>∃M,e=bj M∧dx N T M (l++jd k)∧bT (cZ v) w (cZ M) T:=by
 obtain⟨c,h⟩:=k;obtain⟨p,r,z,s,x,q,y,u,H⟩:∃p r z s x q y u:Int,gV h=bN #[Y aq p,Y aq r,Y aq z,Y aq s,Y aq x,Y aq q,Y aq y,Y aq u]:=⟨_,_,_,_,_,_,_,_,rfl⟩;have n:gL (c,h)=bN #[Y aq c.toNat,Y aq p,Y aq r,Y aq z,Y aq s,Y aq x,Y aq q,Y aq y,Y aq u]:=by unfold gL;rw[H];rfl
 rw[n];obtain⟨Q2,hi,L,G,F⟩:=yJ GS;obtain⟨E,t⟩:=ex (w.alloc (aF #[Y aq c.toNat,Y aq p,Y aq r,Y aq z,Y aq s,Y aq x,Y aq q,Y aq y,Y aq u] 233));have A:fx N v w w #[Y aq c.toNat,Y aq p,Y aq r,Y aq z,Y aq s,Y aq x,Y aq q,Y aq y,Y aq u] 233 v l E:=by rw[t];exact⟨o.alloc _,iN _ _,λe=>by have:=(o.lt e).2;omega,⟨O.alloc _ _ _,λb o=>ax o⟩,by simp;omega⟩
 obtain⟨g,m⟩:∃g:Array ay,g= #[Y aq c.toNat,Y aq p,Y aq r,Y aq z,Y aq s,Y aq x,Y aq q,Y aq y,Y aq u]:=⟨_,rfl⟩;rw[<-m] at A;have k0:∀W:av,kV w g 233 W->W.cell? w=U (Y aq c.toNat):=λW f=>(K f 0).trans (by grind)
 have k1:∀W:av,kV w g 233 W->W.cell? ⟨w,1,V⟩=U (Y aq p):=λW f=>(K f 1).trans (by grind)
 have k2:∀W:av,kV w g 233 W->W.cell? ⟨w,2,V⟩=U (Y aq r):=λW f=>(K f 2).trans (by grind)
 have k3:∀W:av,kV w g 233 W->W.cell? ⟨w,3,V⟩=U (Y aq z):=λW f=>(K f 3).trans (by grind)
 have k4:∀W:av,kV w g 233 W->W.cell? ⟨w,4,V⟩=U (Y aq s):=λW f=>(K f 4).trans (by grind)
 have k5:∀W:av,kV w g 233 W->W.cell? ⟨w,5,V⟩=U (Y aq x):=λW f=>(K f 5).trans (by grind)
 have k6:∀W:av,kV w g 233 W->W.cell? ⟨w,6,V⟩=U (Y aq q):=λW f=>(K f 6).trans (by grind)
 have k7:∀W:av,kV w g 233 W->W.cell? ⟨w,7,V⟩=U (Y aq y):=λW f=>(K f 7).trans (by rw[m];rfl)
 have k8:∀W:av,kV w g 233 W->W.cell? ⟨w,8,V⟩=U (Y aq u):=λW f=>(K f 8).trans (by rw[m];rfl)
 have C:iR c=Y aq c.toNat:=rfl;have HV:=cI.mk H C;have Z:=cI.mk t o;have P:=fx.Ao A;clear o t H n m C;go_enter akJ,ntmps169;go_wp2;rw[<-Z.a];refine vI ?_;refine wp_region_held_drew (S:=λW=>kV w.heap.size g 233 W) (by kernel_rfl) (Rf.2 P) (λd=>?_)
 refine Gz (i:=0) (v:=?v0) rfl (by kernel_rfl) (by kernel_rfl) (by kernel_rfl) (λ_ _ _ h=>h) (ax ⟨by rfl,?yQ⟩) d ?aaW;(case yQ=>(intro W i;go_simp;(try with_reducible rfl)))
 try simp only[dj,eZ,eY,eC,eB,ee]
 refine Gz (i:=1) (v:=?v1) rfl (by kernel_rfl) (by kernel_rfl) (by kernel_rfl) (λ_ _ _ h=>h) (ax ⟨by rfl,?Aq⟩) d ?aaV;(case Aq=>(intro W i;go_simp;(try with_reducible rfl)))
 try simp only[dj,eZ,eY,fu,eC,eB,ee]
 refine Gz (i:=2) (v:=?v2) rfl (by kernel_rfl) (by kernel_rfl) (by kernel_rfl) (λ_ _ _ h=>h) (ax ⟨by rfl,?Ap⟩) d ?aaU;(case Ap=>(intro W i;go_simp;(try with_reducible rfl)))
 try simp only[dj,eZ,eY,fu,eC,eB,ee]
 refine Gz (i:=5) (v:=?Q1) rfl (by kernel_rfl) (by kernel_rfl) (by kernel_rfl) (λ_ _ _ h=>h) (ax ⟨by rfl,?Kt⟩) d ?aaT;(case Kt=>(intro W i;go_simp;(try with_reducible rfl)))
 try simp only[dj,eZ,eY,fu,eC,eB,ee]
 refine Gz (i:=6) (v:=?v6) rfl (by kernel_rfl) (by kernel_rfl) (by kernel_rfl) (λ_ _ _ h=>h) (ax ⟨by rfl,?Ks⟩) d ?aaS;(case Ks=>(intro W i;go_simp;(try with_reducible rfl)))
 try simp only[dj,eZ,eY,fu,eC,eB,ee]
 refine UJ (rs:=[3]) (by kernel_rfl) (by simp) ?_
 refine UI rfl (λQX n=>?_) UH;go_simp;refine n.out _ _ (fx.Ao ((Fx.2 A).alloc _)) (λd=>?_)
 try simp only[dj,eZ,eY,fu,eC,eB,ee]
 refine UJ (rs:=[4]) (by kernel_rfl) (by simp) ?_
 refine UI rfl (λQX n=>?_) UH;refine step_append_lies _ rfl (cu 5) (cu 8) 79 rfl N 5 Q2 (Y aq 0) 1 1 rH hi L G F rfl (by decide) v l.length (l.map iR) rfl ((Fx.2 A).alloc _).buf ⟨E.heap.size,0,V⟩ 1 1 [Y aq c.toNat] rfl rfl (zY (by grind) _ _ rfl) (by simp[za]) (by decide) (by unfold uZ;omega) (by omega) ((Fx.2 A).alloc _).base _ rfl ?_
 intro Q0 c4 R I QW B a;have j:fx N v w w g 233 (aD (Q0) (l.length+1) c4) (l++[c]) R:=((Fx.2 A).alloc _).next (by unfold dx;rw[uI,jV];exact I) (asN QW (λb o=>by cases o;exact B.imp id λe=>Nat.le_of_eq e.symm))
 refine n.out _ _ (fx.Ao j) (λd=>?_)
 try simp only[dj,eZ,eY,fu,eC,eB,ee]
 refine UJ (rs:=[7]) (by kernel_rfl) (by simp) ?_
 refine UI rfl (λQX n=>?_) UH;go_simp;go_at_call 170;rw[<-HV.a];refine jc (agv N _ _ h R j.buf j.base (by grind)) ?_
 rintro e w5 ⟨Q1,rfl,J,Q3⟩;have D:=j.next J Q3;refine n.out _ _ (fx.Ao D) (λd=>?_)
 try simp only[dj,eZ,eY,fu,eC,eB,ee]
 refine Gz (i:=8) (v:=?v8) rfl (by kernel_rfl) (by kernel_rfl) (by kernel_rfl) (λ_ _ _ h=>h) (ax ⟨by rfl,?hy8⟩) d ?apy;(case hy8=>(intro W i;go_simp;(try with_reducible rfl)))
 try simp only[dj,eZ,eY,fu,eC,eB,ee]
 refine wpAnyH_done (by kernel_rfl) ?_ _
 refine vH ?_;have S:=X D;go_wp2;go_ret;exact⟨_,rfl,by have:=S.out.buf;rw[jy] at this;exact this,S.out.left⟩
def oz{α:Type}(T sz:Nat)(f:α->ay)(w:av)(v:ay)(F:List α):Prop:=w.ownsRow 0 T sz v F.length (fG f F)
theorem af1{t:Type}{f:t->ay}{sz:Nat}(d:∀x,(f x).cells.size=sz):∀(F:List t) (j i:Nat) (b:j<F.length),i<sz->(fG f F)[j*sz+i]? =(f F[j]).cells[i]?
 |x::F,0,i,b,c=>by
  grind[fG,List.getElem?_append_left]
 |x::F,j+1,i,b,c=>by
  show((f x).cells.toList++fG f F)[_]? =_;rw[List.getElem?_append_right (by grind)]
  have:(j+1)*sz+i-(f x).cells.toList.length=j*sz+i:=by grind
  rw[this,af1 d F j i (by grind) c];rfl
theorem oz.cell{o}{T sz}{f:o->ay}{w}{v}{F}(h:oz T sz f w v F)(l:∀x,(f x).cells.size=sz){j}(d):∃g b,v=aD (U ⟨g,0,V⟩) F.length b∧g<w∧
  ∀i x,i<sz->(f F[j]).cells[i]? =U x->w.cell? ⟨g,j*sz+i,V⟩=x:=by
 rcases h.2 with⟨p,q⟩|⟨g,b,n,c,_,m,-⟩
 ·omega
 ·refine⟨g,b,c,(dc.1 m).1,λi x e k=>?_⟩;have:=Gy h (g:=g) (by rw[c];rfl) (j*sz+i) x ((af1 l F j i d e).trans k)
  grind[Addr.add_lit]
theorem Oq{t:Type}(e:t->List UInt8)(F:List t){j}(a):(F.take (j+1)).flatMap e=(F.take j).flatMap e++e F[j]:=by
 grind[List.take_add_one,List.getElem?_eq_getElem,Option.toList_some]
theorem E0{t:Type}{e:t->List UInt8}{K:Nat}:∀{l:List t},(∀x∈l,(e x).length<=K)->(l.flatMap e).length<=K*l.length
 | [],_=>by simp
 |x::l,h=>by
  have c:=h x (by simp)
  have b:=E0 (l:=l) λy a=>h y (by simp[a])
  grind[List.length_append,List.length_cons,Nat.mul_add]
theorem adE(k):(gL k).cells.size=9:=rfl
theorem agy(h):(gV h).cells.size=8:=rfl
theorem alG(N)(v C)(l)(F)(w)(h:dx N w v l)(Z:N<=w)(n:oz 9 1 aG w C F)(o:∀b,cZ v b->C.ownBlock≠b)(p:∀s∈F,s.size<=4000)(hl:l.length<=274877906944)(t:F.length<=600000):
  bE Q 162 #[v,C,dH (ep 165) #[] #[]] w λe J=>∃c,e=bj c∧dx N J c (l++cV de F)∧bT (cZ v) w (cZ c) J:=by
 obtain⟨ad,Q0,rfl⟩:=gu n;have S:cK.wrap (F.length:Int)=(F.length:Int):=by grind[IntKind.wrap_u64]
 have D:=X (DU N v l F.length w h Z (by omega) (by omega))
 have H:=xo (n:=F.length) (by omega)
 go_enter akQ,ntmps162;go_wp2_with (go_at_call 199;go_must (refine D.out.mono ?_);rintro e w1 ⟨v1,rfl,A,E⟩;have I:=cI.mk A E;refine Halt.of ?_)
 unfold Halt;go_wp2;go_loopg [0,16] F.length (λQW s0 q wr=>∃(d:ay) (j:Nat),d=s0∧q=Y aH j∧QW+j=F.length∧dx N wr d (l++k F.length++(F.take j).flatMap de)∧bT (cZ v) w (cZ d) wr)
 case atStart=>exact⟨v1,0,rfl,rfl,by omega,by simpa using I.a,I.b⟩
 case round=>
  obtain⟨d,j,rfl,rfl,hk,z,m⟩:=hrel;by_cases hj:j<F.length
  ·obtain⟨n,o,p⟩:=(X (bP n (bP o p))).out;obtain⟨g,L,M,Q2,u⟩:=n.cell (λ_=>rfl) hj;simp only[vG] at M;obtain⟨rfl,-,rfl⟩:=M;have P:=λi x h1 Q1=>(eD (w:=w) (a:=⟨g,j*1+i,V⟩) (m.1.block g Q2 (λe=>o g e rfl))).trans (u i x h1 Q1);have K:(l++k F.length++(F.take j).flatMap de).length<=549755813888:=by
    have:=E0 (K:=4096) (l:=F.take j) (e:=de) λx O=>by grind[zI,List.mem_of_mem_take]
    grind
   have y:=p F[j] (rZ hj);obtain⟨s,O⟩:∃s,F[j]=s:=⟨_,rfl⟩;rw[O] at P y;have y0:wr.cell? ⟨g,j,V⟩=U (aG s):=by have:=P 0 (aG s) (by decide) rfl;grind
   have fP:=m.1.size;have D:dR (∀W,dx N W d (l++k F.length++(F.take j).flatMap de)->N<=W->bE Q 165 #[d,s] W λe Q3=>∃c,e=bj c∧dx N Q3 c (l++k F.length++(F.take j).flatMap de++de F[j])∧bT (cZ d) W (cZ c) Q3):=
    X λW hW hNW=>by grind[Y7]
   have T:(j:Int)<(F.length:Int):=by omega
   have f:=gD.mk z m (Oq de F hj);go_wp2_with (go_at_call 165;go_must (refine(D.out _ f.a (by grind)).mono ?_);rintro e w5 ⟨v5,rfl,r,G⟩;have R:=cI.mk r G;refine Halt.of ?_)
   unfold Halt;go_wp2;go_roundg (gk-1)
   case rel=>exact⟨v5,j+1,rfl,by go_simp,by omega,by rw[f.c,<-jy];exact R.a,f.b.trans R.b⟩
   grind
  ·have B:j=F.length:=by omega
   subst B;rw[vJ] at z;have f:=cI.mk z m;go_wp2;go_ret;exact⟨_,rfl,by rw[cV,<-jy];exact f.a,f.b⟩
theorem att(N)(v P)(l)(F)(w)(h:dx N w v l)(hN:N<=w)(z:oz 233 9 gL w P F)(D:∀b,cZ v b->P.ownBlock≠b)(E:True)(hl:l.length<=274877906944)(hFl:F.length<=600000):
  bE Q 168 #[v,P,dH (ep 169) #[] #[]] w λe Q1=>∃f,e=bj f∧dx N Q1 f (l++cV jd F)∧bT (cZ v) w (cZ f) Q1:=by
 obtain⟨ad,cap,rfl⟩:=gu z;have hcv:cK.wrap (F.length:Int)=(F.length:Int):=by grind[IntKind.wrap_u64]
 have QW:=X (DU N v l F.length w h hN (by omega) (by omega))
 have T:=xo (n:=F.length) (by omega)
 go_enter akK,ntmps168;go_wp2_with (go_at_call 199;go_must (refine QW.out.mono ?_);rintro e w1 ⟨v1,rfl,L,R⟩;have I:=cI.mk L R;refine Halt.of ?_)
 unfold Halt;go_wp2;go_loopg [0,16] F.length (λQY s0 G wr=>∃(d:ay) (j:Nat),d=s0∧G=Y aH j∧QY+j=F.length∧dx N wr d (l++k F.length++(F.take j).flatMap jd)∧bT (cZ v) w (cZ d) wr)
 case atStart=>exact⟨v1,0,rfl,rfl,by omega,by simpa using I.a,I.b⟩
 case round=>
  obtain⟨d,j,rfl,rfl,hk,p,r⟩:=hrel;by_cases hj:j<F.length
  ·obtain⟨z,D,E⟩:=(X (bP z (bP D E))).out;obtain⟨g,Q3,Q2,hg,J⟩:=z.cell adE hj;simp only[vG] at Q2;obtain⟨rfl,-,rfl⟩:=Q2;have c:=λi x h1 h2=>(eD (w:=w) (a:=⟨g,j*9+i,V⟩) (r.1.block g hg (λe=>D g e rfl))).trans (J i x h1 h2);have o:(l++k F.length++(F.take j).flatMap jd).length<=549755813888:=by
    have:=E0 (K:=9) (l:=F.take j) (e:=jd) λx K=>by grind[jd,LB]
    grind
   have hfx:=E;obtain⟨n,t,B,u,A,s,C,y,q,K⟩:∃n t B u A s C y q:Int,gL F[j]=bN #[Y aq n,Y aq t,Y aq B,Y aq u,Y aq A,Y aq s,Y aq C,Y aq y,Y aq q]:=⟨_,_,_,_,_,_,_,_,_,rfl⟩;rw[K] at c;have y0:wr.cell? ⟨g,j*9,V⟩=U (Y aq n):=c 0 (Y aq n) (by decide) rfl
   have y1:=c 1 (Y aq t) (by decide) rfl
   have y2:=c 2 (Y aq B) (by decide) rfl
   have y3:=c 3 (Y aq u) (by decide) rfl
   have y4:=c 4 (Y aq A) (by decide) rfl
   have y5:=c 5 (Y aq s) (by decide) rfl
   have y6:=c 6 (Y aq C) (by decide) rfl
   have y7:=c 7 (Y aq y) (by decide) rfl
   have y8:=c 8 (Y aq q) (by decide) rfl
   have fP:=r.1.size;have QW:dR (∀W,dx N W d (l++k F.length++(F.take j).flatMap jd)->N<=W->bE Q 169 #[d,bN #[Y aq n,Y aq t,Y aq B,Y aq u,Y aq A,Y aq s,Y aq C,Y aq y,Y aq q]] W λe Q0=>∃f,e=bj f∧dx N Q0 f (l++k F.length++(F.take j).flatMap jd++jd F[j])∧bT (cZ d) W (cZ f) Q0):=
    X λW hW QX=>by rw[<-K];exact atw N d _ F[j] W hW QX o
   have uR:(j:Int)<(F.length:Int):=by omega
   have m:=gD.mk p r (Oq jd F hj);go_wp2_with (go_at_call 169;go_must (refine(QW.out _ (m.a.alloc _) (by first|omega|(simp;omega))).mono ?_);rintro e w5 ⟨v5,rfl,H,S⟩;have H5:=cI.mk H S;refine Halt.of ?_)
   unfold Halt;go_wp2;go_roundg (gk-1)
   case rel=>exact⟨v5,j+1,rfl,by go_simp,by omega,by rw[m.c,<-jy];exact H5.a,m.b.trans (bT.trans ⟨O.alloc _ _ _,λb p=>ax p⟩ H5.b)⟩
   grind
  ·have M:j=F.length:=by omega
   subst M;rw[vJ] at p;have m:=cI.mk p r;go_wp2;go_ret;exact⟨_,rfl,by rw[cV,<-jy];exact m.a,m.b⟩
theorem ayJ(N)(v M)(l)(F)(w)(h:dx N w v l)(hN:N<=w)(u:oz 76 8 gV w M F)(B:∀b,cZ v b->M.ownBlock≠b)(C:True)(hl:l.length<=274877906944)(hFl:F.length<=600000):
  bE Q 171 #[v,M,dH (ep 170) #[] #[]] w λe T=>∃f,e=bj f∧dx N T f (l++cV gO F)∧bT (cZ v) w (cZ f) T:=by
 obtain⟨ad,cap,rfl⟩:=gu u;have hcv:cK.wrap (F.length:Int)=(F.length:Int):=by grind[IntKind.wrap_u64]
 have QY:=X (DU N v l F.length w h hN (by omega) (by omega))
 have R:=xo (n:=F.length) (by omega)
 go_enter akH,ntmps171;go_wp2_with (go_at_call 199;go_must (refine QY.out.mono ?_);rintro e w1 ⟨v1,rfl,J,P⟩;have S:=cI.mk J P;refine Halt.of ?_)
 unfold Halt;go_wp2;go_loopg [0,16] F.length (λQZ s0 D wr=>∃(d:ay) (j:Nat),d=s0∧D=Y aH j∧QZ+j=F.length∧dx N wr d (l++k F.length++(F.take j).flatMap gO)∧bT (cZ v) w (cZ d) wr)
 case atStart=>exact⟨v1,0,rfl,rfl,by omega,by simpa using S.a,S.b⟩
 case round=>
  obtain⟨d,j,rfl,rfl,hk,o,p⟩:=hrel;by_cases hj:j<F.length
  ·obtain⟨u,B,C⟩:=(X (bP u (bP B C))).out;obtain⟨g,Q2,QW,hg,H⟩:=u.cell agy hj;simp only[vG] at QW;obtain⟨rfl,-,rfl⟩:=QW;have c:=λi x h1 h2=>(eD (w:=w) (a:=⟨g,j*8+i,V⟩) (p.1.block g hg (λe=>B g e rfl))).trans (H i x h1 h2);have Q0:(l++k F.length++(F.take j).flatMap gO).length<=549755813888:=by
    have:=E0 (K:=8) (l:=F.take j) (e:=gO) λx I=>by rw[LB];grind
    grind
   have hfx:=C;obtain⟨n,r,z,s,y,q,A,t,I⟩:∃n r z s y q A t:Int,gV F[j]=bN #[Y aq n,Y aq r,Y aq z,Y aq s,Y aq y,Y aq q,Y aq A,Y aq t]:=⟨_,_,_,_,_,_,_,_,rfl⟩;rw[I] at c;have y0:wr.cell? ⟨g,j*8,V⟩=U (Y aq n):=c 0 (Y aq n) (by decide) rfl
   have y1:=c 1 (Y aq r) (by decide) rfl
   have y2:=c 2 (Y aq z) (by decide) rfl
   have y3:=c 3 (Y aq s) (by decide) rfl
   have y4:=c 4 (Y aq y) (by decide) rfl
   have y5:=c 5 (Y aq q) (by decide) rfl
   have y6:=c 6 (Y aq A) (by decide) rfl
   have y7:=c 7 (Y aq t) (by decide) rfl
   have fP:=p.1.size;have QY:dR (∀W,dx N W d (l++k F.length++(F.take j).flatMap gO)->N<=W->bE Q 170 #[d,bN #[Y aq n,Y aq r,Y aq z,Y aq s,Y aq y,Y aq q,Y aq A,Y aq t]] W λe Q3=>∃f,e=bj f∧dx N Q3 f (l++k F.length++(F.take j).flatMap gO++gO F[j])∧bT (cZ d) W (cZ f) Q3):=
    X λW hW L=>by rw[<-I];exact agv N d _ F[j] W hW L (by omega)
   have uR:(j:Int)<(F.length:Int):=by omega
   have m:=gD.mk o p (Oq gO F hj);go_wp2_with (go_at_call 170;go_must (refine(QY.out _ (m.a.alloc _) (by first|omega|(simp;omega))).mono ?_);rintro e w5 ⟨v5,rfl,E,QX⟩;have Q1:=cI.mk E QX;refine Halt.of ?_)
   unfold Halt;go_wp2;go_roundg (gk-1)
   case rel=>exact⟨v5,j+1,rfl,by go_simp,by omega,by rw[m.c,<-jy];exact Q1.a,m.b.trans (bT.trans ⟨O.alloc _ _ _,λb o=>ax o⟩ Q1.b)⟩
   grind
  ·have K:j=F.length:=by omega
   subst K;rw[vJ] at o;have m:=cI.mk o p;go_wp2;go_ret;exact⟨_,rfl,by rw[cV,<-jy];exact m.a,m.b⟩
theorem atv{F:List (UInt8×Int)}(h:F.length<=100000):(cV jd F).length<=1000000:=by
 have h1:=xo (n:=F.length) (by omega)
 have h2:=E0 (K:=9) (l:=F) (e:=jd) λx _=>by show(jd x).length<=9;simp[jd,LB]
 rw[cV,jV];omega
set_option maxHeartbeats 2000000 in
theorem arj (N:Nat) (v kv:ay) (l:List UInt8) (n:Nd) (w:av) (hb:dx N w v l) (hN:N<=w.heap.size) (J:oz 233 9 gL w kv n.kids) (hd:∀b,cZ v b->kv.ownBlock≠U b) (hp:n.pfx.size<=4000) (B:n.kids.length<=100000) (hl:l.length<=274877900000):
  bE Q 167 #[v,bN #[aG n.pfx,kv]] w λe w'=>∃v',e=bj v'∧dx N w' v' (l++iG n)∧bT (cZ v) w (cZ v') w':=by
 obtain⟨p,ks⟩:=n;simp only at J hp B;obtain⟨ad,cap,rfl⟩:=gu J;obtain⟨E,A⟩:∃E,ks.length=E:=⟨_,rfl⟩;obtain⟨cs,C⟩:∃cs:Array ay,cs= #[aG p,aD ad ks.length cap]:=⟨_,rfl⟩;obtain⟨w1,fK⟩:=ex (w.alloc (aF cs 184));have hA:fx N v w w.heap.size cs 184 v l w1:=by rw[fK];exact⟨hb.alloc _,iN _ _,λe=>by have:=(hb.lt e).2;omega,⟨O.alloc _ _ _,λb hb=>ax hb⟩,by simp;omega⟩
 have k0:∀W:av,kV w.heap.size cs 184 W->W.cell? ⟨w.heap.size,0,V⟩=U (aG p):=λW hW=>(K hW 0).trans (by rw[C];rfl)
 have k1:∀W:av,kV w.heap.size cs 184 W->W.cell? ⟨w.heap.size,1,V⟩=U (aD ad E cap):=λW hW=>(K hW 1).trans (by rw[C,<-A];rfl)
 have C1:dR (∀W,fx N v w w.heap.size cs 184 v l W->bE Q 165 #[v,aG p] W λe W'=>∃v',e=bj v'∧fx N v w w.heap.size cs 184 v' (l++de p) W'):=X λW h=>h.text p (by omega) (by omega)
 have C2:dR (∀v2 W,fx N v w w.heap.size cs 184 v2 (l++de p) W->bE Q 168 #[v2,aD ad E cap,dH (ep 169) #[] #[]] W λe W'=>∃v',e=bj v'∧fx N v w w.heap.size cs 184 v' (l++de p++cV jd ks) W'):=X λv2 W h=>by
  have pq:∀b,(aD ad ks.length cap).ownBlock=U b->b<w.heap.size:=λb hb=>(J.lt b hb).2;have Cp:oz 233 9 gL W (aD ad ks.length cap) ks:=dI J λb hb=>h.left.1.block b (pq b hb) λe=>hd b e hb;have htl:=zI p (by omega)
  rw[<-A];exact(att N v2 _ (l++de p) ks W h.buf h.base Cp (λb hb e=>by rcases h.left.2 b hb with h1|h1;exact hd b h1 e;exact absurd (pq b e) (by omega)) trivial (by rw[jV];omega) (bq B (by decide))).mono λe W' ⟨v',h1,h2,h3⟩=>⟨v',h1,h.next h2 h3⟩
 have HW:=gD.mk fK C A;have wj:=fx.Ao hA;rw[A];clear hb hN J hd hp B fK C A;go_enter akL,ntmps167;go_wp2;rw[show(aF #[aG p,aD ad E cap] 184)=aF cs 184 by rw[HW.b,HW.c],<-HW.a]
 refine vI ?_;refine Bs (λW=>kV w.heap.size cs 184 W) [0,1,2,4,5,3,6,7] (by kernel_rfl) (Rf.2 wj) (λ_ _ _ _ _ h=>h) ?_
 repeat((apply pM _ rfl (by kernel_rfl) rfl;·intro W hSw;have q0:=k0 W hSw;have q1:=k1 W hSw;go_simp;try with_reducible rfl);simp only[xd])
 refine uw rfl (by kernel_rfl) λhHeld D hK=>?_
 go_simp;go_at_call 165;refine jc (C1.out _ (Fx.2 hA)) ?_;rintro e w2 ⟨v2,rfl,PV⟩;refine hK.out _ _ (fx.Ao PV) ?_;refine uw rfl (by kernel_rfl) λhHeld D hK=>?_
 go_simp;go_at_call 168;refine jc (C2.out v2 _ PV) ?_;rintro e w3 ⟨v3,rfl,Hw⟩;refine hK.out _ _ (fx.Ao Hw) ?_
 repeat((apply pM _ rfl (by kernel_rfl) rfl;·intro W hSw;go_simp;try with_reducible rfl);simp only[xd])
 refine Bt (by kernel_rfl) λhHeld=>?_
 refine vH ?_;have HX:=X Hw;clear hA PV Hw wj hHeld k0 k1 C1 C2;go_wp2;go_ret;exact⟨_,rfl,by have:=HX.out.buf;rw[jy] at this;exact this,HX.out.left⟩
theorem yl.get{W:av}{B:Nat}:∀{F:List Nd} {xs:List ay} (h:yl W B F xs) (j:Nat) (b:j<F.length),∃a,a∈xs∧xs[j*2]? =U (aG F[j].pfx)∧xs[j*2+1]? =U a∧W.ownsRow B 233 9 a F[j].kids.length (fG gL F[j].kids)
 |n::F,xs,⟨a,c,e,h,t⟩,0,_=>by grind
 |n::F,xs,⟨a,c,e,h,t⟩,j+1,b=>by
  subst e;obtain⟨d,g,k,i,f⟩:=t.get j (by grind)
  grind
theorem kI.cell{W}{B}{F}{v}{xs}(h:kI W B F v xs){j}(d):∃g b c,v=aD (U ⟨g,0,V⟩) F.length b∧g<W∧c∈xs∧
  W.cell? ⟨g,j*2,V⟩=U (aG F[j].pfx)∧W.cell? ⟨g,j*2+1,V⟩=c∧W.ownsRow B 233 9 c F[j].kids.length (fG gL F[j].kids):=by
 obtain⟨c,o,m,q,n⟩:=h.ins.get j d;rcases h.row.2 with⟨_,r⟩|⟨g,b,l,e,_,p,-⟩
 ·omega
 ·have k:=λi x (f:xs[i]? =U x)=>Gy h.row (g:=g) (by rw[e];rfl) i x f
  simp only[Addr.add_lit,Ah] at k
  grind
theorem ab3{n}(b:n.pfx.size<=4000)(a:n.kids.length<=100000):(iG n).length<=1100000:=by
 grind[zI,atv,iG,List.length_append]
theorem arh(N)(v QX)(l)(F)(w)(h:dx N w v l)(hN:N<=w)(xs)(C:kI w 0 F QX xs)(B:∀b,cZ v b->QX.ownBlock≠b∧∀x∈xs,x.ownBlock≠b)(u:∀n∈F,n.pfx.size<=4000∧n.kids.length<=100000)(hl:l.length<=137438953472)(hFl:F.length<=124000):
  bE Q 166 #[v,QX,dH (ep 167) #[] #[]] w λe Q2=>∃m,e=bj m∧dx N Q2 m (l++cV iG F)∧bT (cZ v) w (cZ m) Q2:=by
 obtain⟨ad,cap,rfl⟩:=gu C.row;have hcv:cK.wrap (F.length:Int)=(F.length:Int):=by grind[IntKind.wrap_u64]
 have P:=X (DU N v l F.length w h hN (by omega) (by omega))
 have Q1:=xo (n:=F.length) (by omega)
 go_enter akM,ntmps166;go_wp2_with (go_at_call 199;go_must (refine P.out.mono ?_);rintro e w1 ⟨v1,rfl,K,R⟩;have Q3:=cI.mk K R;refine Halt.of ?_)
 unfold Halt;go_wp2;go_loopg [0,16] F.length (λQY s0 H wr=>∃(f:ay) (j:Nat),f=s0∧H=Y aH j∧QY+j=F.length∧dx N wr f (l++k F.length++(F.take j).flatMap iG)∧bT (cZ v) w (cZ f) wr)
 case atStart=>exact⟨v1,0,rfl,rfl,by omega,by simpa using Q3.a,Q3.b⟩
 case round=>
  obtain⟨f,j,rfl,rfl,hk,c,i⟩:=hrel;by_cases hj:j<F.length
  ·obtain⟨C,B,u⟩:=(X (bP C (bP B u))).out;obtain⟨g,A4,QW,hv,Q0,T,E,D,d⟩:=C.cell hj;simp only[vG] at hv;obtain⟨rfl,-,rfl⟩:=hv;have q:¬cZ v g:=λe=>(B g e).1 rfl;have y0:=(eD (w:=w) (a:=⟨g,j*2,V⟩) (i.1.block g Q0 q)).trans E;have y1:=(eD (w:=w) (a:=⟨g,j*2+1,V⟩) (i.1.block g Q0 q)).trans D;have r:oz 233 9 gL wr QW F[j].kids:=dI d λb c=>i.1.block b (d.lt b c).2 λe=>(B b e).2 QW T c;have G:∀b,cZ f b->QW.ownBlock≠b:=λb c e=>by
    rcases i.2 b c with h1|h1
    ·grind
    ·exact absurd (d.lt b e).2 (by omega)
   have s:=λb e=>(r.lt b e).2;obtain⟨ka,kc,rfl⟩:=gu d;obtain⟨z,t⟩:∃z,F[j].kids.length=z:=⟨_,rfl⟩;obtain⟨p,hp⟩:∃p,F[j].pfx=p:=⟨_,rfl⟩;rw[t] at y1;rw[hp] at y0;have y:(l++k F.length++(F.take j).flatMap iG).length<=274877900000:=by
    have:=E0 (K:=1100000) (l:=F.take j) (e:=iG) λx hx=>ab3 (u x (adf hx)).1 (u x (adf hx)).2
    grind
   have A:=u F[j] (rZ hj);have fP:=i.1.size;have P:dR (∀W,(∀b,b<wr.heap.size->W.heap[b]? =wr.heap[b]?)->dx N W f (l++k F.length++(F.take j).flatMap iG)->N<=W->bE Q 167 #[f,bN #[p,aD ka z kc]] W λe W'=>∃m,e=bj m∧dx N W' m (l++k F.length++(F.take j).flatMap iG++iG F[j])∧bT (cZ f) W (cZ m) W'):=
    X λW I hW M=>by rw[<-hp,<-t];exact arj N f _ _ F[j] W hW M (dI r λb c=>I b (s b c)) G A.1 A.2 y
   have uR:(j:Int)<(F.length:Int):=by omega
   have o:=gD.mk c i (Oq iG F hj);go_wp2_with (go_at_call 167;go_must (refine(P.out _ (λb c=>dr _ _ _ c) (o.a.alloc _) (by first|omega|(simp;omega))).mono ?_);rintro e w5 ⟨v5,rfl,J,S⟩;have H5:=cI.mk J S;refine Halt.of ?_)
   unfold Halt;go_wp2;go_roundg (gk-1)
   case rel=>exact⟨v5,j+1,rfl,by go_simp,by omega,by rw[o.c,<-jy];exact H5.a,o.b.trans (bT.trans ⟨O.alloc _ _ _,λb c=>ax c⟩ H5.b)⟩
   grind
  ·have L:j=F.length:=by omega
   subst L;rw[vJ] at c;have o:=cI.mk c i;go_wp2;go_ret;exact⟨_,rfl,by rw[cV,<-jy];exact o.a,o.b⟩
structure Fz(m:dP):Prop where
 bh:∀x∈m.bh,Fit x
 cp:∀s∈m.cp,s.size<=4000
 nodes:∀n∈m.nodes,n.pfx.size<=4000∧n.kids.length<=100000
 nr:m.bh.length<=600000
 nw:m.cp.length<=600000
 nn:m.nodes.length<=124000
 nd:m.roots.length<=100000
theorem Ou{B}{v v'}{w W W'}(h:bT (cZ v) W (cZ v') W')(c:∀b,cZ v b->B<=b)(a:bC B w W)(d:B<=W):bC B w W':=
 a.trans ⟨h.1.os,h.1.tape,h.1.output,h.1.size,λb a=>h.1.block b (by omega) λe=>absurd (c b e) (by omega)⟩
theorem aaI{T sz}{d}{f:d->ay}{w W}{v}{F}(h:oz T sz f w v F)(c:bC w w W):oz T sz f W v F:=dI h λb a=>c.block b (h.lt b a).2
theorem Up{b}{e:b->List UInt8}{K}{F}(h:∀x∈F,(e x).length<=K){M}(a:F.length<=M)(d:M<=600000):(cV e F).length<=10+K*M:=by
 have g:=xo (n:=F.length) (by omega)
 have f:=E0 h;have c:K*F.length<=K*M:=OC _ a
 grind[cV,List.length_append]
theorem XH(p)(m)(vr vw vn vd)(xs)(w)(h:iY w 0 p m vr vw vn vd xs)(hm:Fz m):
  bE Q 105 #[aE (p)] w λe w'=>∃d,e=bj d∧dx w w' d (gi m)∧bC w w w':=by
 obtain⟨R,o,N,D⟩:=m;obtain⟨Ho,-,y,O,C,M⟩:=h;obtain⟨S,m2,L,m4,Q1,P,m7⟩:=hm;simp only at y O C M S m2 L m4 Q1 P m7;have l1:(cV gI R).length<=10+12400*600000:=Up (λx t=>aa5 (S x t)) m4 (by decide)
 have l2:(cV de o).length<=10+4010*600000:=Up (λx t=>by grind[zI]) Q1 (by decide)
 have l3:(cV iG N).length<=10+1100000*124000:=Up (λx t=>ab3 (L x t).1 (L x t).2) P (by decide)
 obtain⟨E,A,rfl⟩:=gu y;obtain⟨aw,Q3,rfl⟩:=gu O;obtain⟨an,cn,rfl⟩:=gu C.row;obtain⟨ad,cd,rfl⟩:=gu M;have y:Fw w (aD E R.length A) R:=y;obtain⟨nR,F⟩:∃n,R.length=n:=⟨_,rfl⟩;obtain⟨Y,B⟩:∃n,o.length=n:=⟨_,rfl⟩;obtain⟨nN,H⟩:∃n,N.length=n:=⟨_,rfl⟩;obtain⟨nD,G⟩:∃n,D.length=n:=⟨_,rfl⟩;have j:∀W:av,bC w w W->W.heap[p]? =U (aF #[aD E nR A,aD aw Y Q3,aD an nN cn,aD ad nD cd] 180 (0,0)):=λW c=>by rw[c.block p (by grind),Ho,F,B,H,G]
 have k0:∀W:av,bC w w W->W.cell? p=U (aD E nR A):=λW c=>K (j W c) 0;have k1:∀W:av,bC w w W->W.cell? ⟨p,1,V⟩=U (aD aw Y Q3):=λW c=>K (j W c) 1;have q:∀{W:av} {v:ay} {l:List UInt8},dx w W v l->∀b,cZ v b->w<=b:=λc b h=>(c.lt h).1;have C1:dR (∀W,bC w w W->bE Q 163 #[aD V 0 0,aD E nR A,dH (ep 164) #[] #[]] W λe g=>∃d,e=bj d∧dx w g d (cV gI R)∧bC w w g):=X λW c=>by have As:Fw W (aD E R.length A) R:=dI y λb i=>c.block b (y.lt b i).2;rw[<-F];exact(asA w.heap.size (aD V 0 0) _ [] R W (dx.nil _ _) c.size As (λb h=>by cases h) S (by simp) m4).mono λe g ⟨d,u,k,r⟩=>⟨d,u,by grind,Ou r (λb h=>by cases h) c c.size⟩
 have C2:dR (∀v W,dx w W v (cV gI R)->bC w w W->bE Q 162 #[v,aD aw Y Q3,dH (ep 165) #[] #[]] W λe g=>∃d,e=bj d∧dx w g d (cV gI R++cV de o)∧bC w w g):=X λv W i c=>by rw[<-B];exact(alG w.heap.size v _ _ o W i c.size (aaI O c) (λb h e=>absurd (O.lt b e).2 (by grind)) m2 (by omega) Q1).mono λe g ⟨d,u,k,r⟩=>⟨d,u,k,Ou r (q i) c c.size⟩
 have C3:dR (∀v W,dx w W v (cV gI R++cV de o)->bC w w W->bE Q 166 #[v,aD an nN cn,dH (ep 167) #[] #[]] W λe g=>∃d,e=bj d∧dx w g d (cV gI R++cV de o++cV iG N)∧bC w w g):=X λv W i c=>by rw[<-H];exact(arh w.heap.size v _ _ N W i c.size xs (C.block (λb _ k=>c.block b k) c.size) (λb h=>⟨λe=>absurd (C.row.lt b e).2 (by grind),λx t e=>absurd (C.sep x t b e).2.1 (by grind)⟩) L (by grind) P).mono λe g ⟨d,u,k,r⟩=>⟨d,u,k,Ou r (q i) c c.size⟩
 have C4:dR (∀v W,dx w W v (cV gI R++cV de o++cV iG N)->bC w w W->bE Q 171 #[v,aD ad nD cd,dH (ep 170) #[] #[]] W λe g=>∃d,e=bj d∧dx w g d (cV gI R++cV de o++cV iG N++cV gO D)∧bC w w g):=X λv W i c=>by rw[<-G];exact(ayJ w.heap.size v _ _ D W i c.size (aaI M c) (λb h e=>absurd (M.lt b e).2 (by grind)) trivial (by grind) (bq m7 (by decide))).mono λe g ⟨d,u,k,r⟩=>⟨d,u,k,Ou r (q i) c c.size⟩
 have I:bC w w w.drew:=⟨rfl,rfl,rfl,aW _,λ_ _=>rfl⟩;go_enter ale,ntmps105;go_wp2;refine vI ?_;refine Bs (λW=>bC w.heap.size w W) [0,1,2,3,5,6,7,8,4,9,10] (by kernel_rfl) (I) (λ_ _ _ _ _ h=>h) ?_
 repeat((apply pM _ rfl (by kernel_rfl) rfl;·intro W f;go_simp;try with_reducible rfl);simp only[xd])
 refine uw rfl (by kernel_rfl) λa QW T=>?_
 go_simp;go_at_call 163;refine jc (C1.out _ I) ?_;rintro e w2 ⟨v2,rfl,Q0,z⟩;refine T.out _ _ (z) ?_;refine uw rfl (by kernel_rfl) λa QW T=>?_
 go_simp;go_at_call 162;refine jc (C2.out v2 _ Q0 z) ?_;rintro e w3 ⟨v3,rfl,hB3,s⟩;refine T.out _ _ (s) ?_
 repeat((apply pM _ rfl (by kernel_rfl) rfl;·intro W f;go_simp;try with_reducible rfl);simp only[xd])
 refine Bt (by kernel_rfl) λa=>?_
 refine vH ?_;have q2:=(λW c=>K (j W c) 2) w3 s;have H3:=cI.mk hB3 s;go_wp2_with (go_at_call 166;go_must (refine(C3.out v3 _ H3.a H3.b).mono ?_);rintro e w4 ⟨v4,rfl,hB4,J⟩;have q3:=(λW c=>K (j W c) 3) w4 J;have H4:=cI.mk hB4 J;refine Halt.of ?_)
 unfold Halt;go_wp2_with (go_at_call 171;go_must (refine(C4.out v4 _ H4.a H4.b).mono ?_);rintro e w5 ⟨v5,rfl,Q2,Z⟩;have H5:=cI.mk Q2 Z;refine Halt.of ?_)
 unfold Halt;go_wp2;go_ret;exact⟨_,rfl,H5.a,H5.b⟩
attribute [local go_sem] Oper.semAt_some
def kO:KE UInt8 where
 enc:=λb=>Y aq (b.toNat:Int)
 desc:=.int aq
 same:=λa b=>by
  simp[CY];by_cases h:a=b
  ·simp[h]
  ·have:a.toNat≠b.toNat:=λe=>h (UInt8.toNat_inj.1 e);simp[h];omega
 flat:=λP w e n t v h=>by simp[AY,run_underlying h]
 bits:=λn a=>by cases n<;>simp[C0]
theorem aAT(gf:Nat)(lb)(S:List UInt8->Prop)(R)(w)(P:∀n w,(iu gf n).run Q w=aV (jr gf n) w)
  (F:Iter Q gf lb (λk=> #[Y aq (k.toNat)]) S R w) (J:∀b,R b->b<w) (hN:∀j,S j->j.length<=1073741824):
  bE Q 211 #[aD V 0 0,dH (ep gf) #[] lb] w λe K=>∃j v,e=bj v∧S j∧K.ownsRow w 5 1 v j.length (j.map (λb=>Y aq (b.toNat)))∧bC w w K:=by
 obtain⟨a,hi,E,z,u⟩:=yJ GS;refine(callsIn_wide (n:=0)).1 (callsIn_of_wp_marks akw rfl trivial ?_ rfl);simp only[ntmps211,uH,qB,lQ,ya,x9,vP,vO,vN,vM,vL,qC];gi_wp2;refine wp_rangeFunc (gf:=gf) (lb:=lb) rfl P (F.later ((O.alloc (λ_=>False) w _).fZ λb c=>⟨J b c,id⟩)) (λb c=>by have:=J b c;simp;omega) (λ_=>rfl)
  (λf W D=>∃v,j7 W w 79 5 1 v f.length (f.map (λb:UInt8=>Y aq (b.toNat:Int)))∧D=qg w v) (λ_ _ _ _=>False)
  ⟨λf W D ⟨v,h,e⟩ b c=>h.lt b (e▸c),λf W D W' ⟨v,h,e⟩ ha=>⟨v,h.fZ λb c=>ha.block b (e▸c),e⟩⟩ (λ_=>⟨λ_ _ _ h=>h.elim,λ_ _ _ _ h=>h.elim⟩)
  (qg w (aD V 0 0)) (λb c=>?_) ⟨_,(j7.new w 79 5 1),rfl⟩ ?round ?done ?stop
 ·rcases c with rfl|c
  ·grind
  ·cases c
 case round=>
  rintro l f x W D Q2 uP H ⟨y,N⟩ ⟨v,i,rfl⟩ Q1;have L:f.length+1<=1073741824:=by grind
  gi_wp2;refine⟨⟨.refl _ _,λb c=>c.imp id (·.1)⟩,λW2 p=>?_⟩;have d:=i.fZ λb c=>p.block b λe=>H (e▸c);obtain⟨I,QW⟩:=d.cell;have m:=d.row;have t:=d.lt _ (ax rfl);have r:=X d
  gi_wp2_with (gi_at_builtin;go_must (refine ade _ rfl _ _ 79 rfl (w+1) 5 a (Y aq 0) 1 1 rH hi E z u rfl (by decide) v f.length (f.map (λb:UInt8=>Y aq (b.toNat:Int))) rfl (m.alloc _) W2.heap.size 1 1 [Y aq (x.toNat:Int)] rfl rfl (cell_one_new _ _ _) (by simp[za]) (by unfold uZ;omega) (by omega) (by simp;omega) ?_);intro v' w1 s o _ C;refine Halt.of ?_)
  obtain⟨g',M,A⟩:=ownsRow_succ s;have q:w≠v.ownBlock:=λe=>by have:=(m.lt _ e.symm).1;omega
  have sx:=(eD (w:=W2.alloc (aF #[Y aq (x.toNat:Int)] 5)) (o.block _ (by simp;omega) q)).trans ((eD (w:=W2) (dr _ _ _ t)).trans I)
  have KT:=(B4 (w:=W2.alloc (aF #[Y aq (x.toNat:Int)] 5)) (o.block _ (by simp;omega) q)).trans ((B4 (w:=W2) (dr _ _ _ t)).trans QW)
  subst A;unfold Halt;gi_wp2;obtain⟨h1,Q0⟩:=(X (j7.appended (j7.fZ r.out (λb c=>dr _ _ _ (j7.lt r.out b c))) o s C)).out;exact⟨_,⟨_,by grind,rfl⟩,Q0.shift (O.alloc _ _ _) λ_ h=>ax h⟩
 case done=>
  rintro j W D N ⟨v,i,rfl⟩ T Q3 G;obtain⟨I,QW⟩:=i.cell;have r:=X i;gi_wp2;refine⟨by simp,ax ⟨_,_,rfl,vK Q3,?_⟩⟩
  refine⟨_,results_tmp rfl _ _ _,j,v,rfl,(X N).out,dI (JC r.out.row λg B=>OR (r.out.row.lt g B).1) (λg B=>qE λe=>G (aA (e▸B))),?_⟩;refine Iy ((X T).out.below ((ei _ _).alloc (aW _) _) ?_) (by simp) _
  rintro b (rfl|c)
  ·grind
  ·cases c
 grind
theorem azk(gf:Nat)(lb)(S:List UInt8->Prop)(R)(w)(g:∀a w,(iu gf a).run Q w=aV (jr gf a) w)
  (d:Iter Q gf lb (λk=> #[Y aq (k.toNat)]) S R w) (i:∀b,R b->b<w) (l:∀c,S c->c.length<=1073741824):
  bE Q 196 #[dH (ep gf) #[] lb] w λe f=>∃c v,e=bj v∧S c∧f.ownsRow w 5 1 v c.length (c.map (λb=>Y aq (b.toNat)))∧bC w w f:=by
 go_enter akB,ntmps196;go_wp2_with (go_at_call 211;refine(aAT gf lb S R w g d i l).mono ?_;rintro e m ⟨c,v,rfl,h⟩;obtain j:=X h)
 go_ret;exact⟨c,v,rfl,j.out⟩
theorem asd(z m)(es)(Q1:(es.map (·.1)).Nodup)(w)(Q0:w.cell? z=U (.map (m)))(hB:di kO w m es):
  Iter Q 198 #[.pointer (U ⟨z,0,V⟩)] (λk=> #[.int .u8 (k.toNat)]) (λks=>ks.Perm (es.map (·.1))) (λb=>b=z∨b=m) w:=by
 intro l J Jx W D0 hA M Le hR hY h0;have H:=hB.of_block (hA.block m (by simp))
 have awg:=(eD (w:=w) (hA.block z (by simp))).trans Q0
 obtain⟨o,Vw,n⟩:=Ta (P:=Q) (T:=245) kO Dt H;have lm:=H.lt;have AI:=Q1;refine callsIn_of_wp YN rfl trivial ?_;simp only[ntmps198,uH,qB,lQ,ya,x9,vP,vO,vN,vM,vL,qC];gi_wp2
 gi_loopg [3] es.length (λk _ wr=>∃(d:List UInt8) (D:Nat->Prop),k+d.length=es.length∧uq kO wr m W.heap.size es d∧d.Nodup∧(∀x∈d,x∈es.map (·.1))∧
   J d wr D∧bT D0 W D wr∧¬D W.heap.size)
 case atStart=>
  have r:=M.lt _ _ _ h0;refine⟨[],D0,by simp,n,by simp,by simp,M.st _ _ _ _ h0 ((O.alloc (λ_=>False) _ _).fZ λb t=>⟨r b t,id⟩),.other (O.alloc _ _ _),λh=>absurd (r _ h) (by omega)⟩
 case round=>
  obtain⟨d,D,hk,n,B,L,hj,T,I⟩:=hrel;have WA:∀b,(b=z∨b=m)->b<W->¬D b:=λb t r hD=>by
   rcases T.2 b hD with h|h
   all_goals grind
  have QW:m≠W:=by omega
  have au4:=n.lt;have HN:=X AI;have HL:=X T;have HJ:=X hj;have HY:=X hY;have Q2:=X L;have R:=X B;have HK:=X hk;rcases Tb (P:=Q) kO n QW 0 with⟨G,q⟩|⟨x,v,P,Cr,j,q,f,E,Ar⟩
  ·have HA:=X G;gi_wp2
   go_end0
   refine⟨⟨_,rfl⟩,.inl ⟨_,D,?_,HJ.out,HL.out⟩⟩;exact(OI R.out HN.out).2 λa=>⟨Q2.out a,λp=>by obtain⟨y,S,rfl⟩:=lR.1 p;exact HA.out y S⟩
  ·obtain⟨v',Cf,u⟩:=Tc (P:=Q) kO f;replace q:(AX (.pointer (U ⟨W.heap.size,0,V⟩)) ai 0).run Q wr=.ok (.tuple #[.bool Z,.int .u8 (x.toNat:Int),v]) P:=q;replace u:(Fc (.pointer (U ⟨W.heap.size,0,V⟩))).run Q P=.ok (.tuple #[.int .u8 (x.toNat:Int),v']) P:=u;have K:x∈es.map (·.1):=by grind
   have hlen:d.length<es.length:=by
    have:=(Ep.2 ⟨j,B⟩).length_le_of_subset (l₂:=es.map (·.1)) (λa p=>by
     grind)
    grind
   have Av:=M.st _ _ _ _ hj (E.fZ λb t=>⟨M.lt _ _ _ hj b t,λe=>I (e▸t)⟩);have hL2:=T.step E (λb t e=>by omega)
   have HX:=X (⟨K,j⟩:x∈es.map (·.1)∧x∉d);have A:=X hL2;obtain⟨F,i⟩:=abr (λ_=>Z) HN.out R.out Q2.out K j rfl;rw[GB.2 (by simp),GB.2 (by simp)] at i
   obtain⟨fn,tmps,N,body,S,c⟩:=HY.out d x P D ⟨F,i⟩ Av;have HR:=X c;have Ms:=X i;have GV:=S;gi_wp2;refine HR.out.mono ?_;rintro e W' (⟨rfl,Q3,s,g⟩|⟨rfl,Q3,s,g⟩)
   ·gi_wp2
    gi_roundg (gk-1)
    case rel=>
     have C:=f.TK (g.1.block _ f.map.lt (WA m (by simp) lm)) (g.1.block _ f.lt I)
     refine⟨d++[x],Q3,by have:=HK.out;grind,C,?_,?_,s,A.out.trans g,?_⟩
     ·rw[GD];exact⟨R.out,by simp,λa p b t e=>HX.out.2 (by grind)⟩
     ·intro a p;rcases qD.1 p with p|p
      ·exact Q2.out a p
      ·rw[mA.1 p];exact HX.out.1
     ·intro h;rcases g.2 _ h with h|h
      ·grind
      ·have:=f.lt;omega
    case measure=>have:=HK.out;omega
   ·gi_wp2;refine xG (results_none rfl _ _ _) rfl ?_;exact⟨⟨_,rfl⟩,.inr ⟨_,Q3,⟨F,by rw[jy];exact Ms.out⟩,s,A.out.trans g⟩⟩
def ki(xs:List UInt8):List UInt8:=xs.mergeSort λx y=>cq (x<=y)
def XR:Prop:=∀(B:Nat) (v:ay) (xs:List UInt8) (w:av),w.ownsRow B 5 1 v xs.length (xs.map λb=>Y aq (b.toNat:Int))->B<=w.heap.size->xs.length<=256->
 bE Q 197 #[v] w λe w'=>e=bj (bO #[])∧w'.ownsRow B 5 1 v xs.length ((ki xs).map λb=>Y aq (b.toNat:Int))∧bC B w w'
theorem amK(d:XR)(gf:Nat)(lb)(S)(R)(w)(p:∀c w,(iu gf c).run Q w=aV (jr gf c) w)
  (i:Iter Q gf lb (λk=> #[Y aq (k.toNat)]) S R w) (s:∀b,R b->b<w) (n:∀a,S a->a.length<=256):
  bE Q 160 #[dH (ep gf) #[] lb] w λe l=>∃a v,e=bj v∧S a∧l.ownsRow w 5 1 v a.length ((ki a).map λb=>Y aq (b.toNat))∧bC w w l:=by
 have o:=X (azk gf lb S R w p i s λa h=>bq (n a h) (by decide))
 go_enter akS,ntmps160;go_wp2_with (go_at_call 196;go_must (refine o.out.mono ?_);rintro e q ⟨a,v,rfl,r,g,j⟩;have f:=gD.mk r g j;refine Halt.of ?_)
 unfold Halt;go_wp2_with (go_at_call 197;go_must (refine((X d).out w v a q f.b f.c.size ((X n).out a f.a)).mono ?_);rintro e t ⟨rfl,g,j⟩;have m:=cI.mk g j;refine Halt.of ?_)
 unfold Halt;go_wp2;go_ret;exact⟨a,v,rfl,f.a,m.a,f.c.trans m.b⟩
theorem adG(m)(w):
  bE Q 161 #[cj (U m)] w λe a=>e=bj (dH (ep 198) #[] #[aE (w)])∧a=w.alloc (aF #[cj (m)] 245):=by
 go_enter akR,ntmps161;go_wp2;go_ret;exact⟨rfl,rfl⟩
theorem Zs(f:XR)(m)(es)(w)(p:di kO w m es)(q:(es.map (·.1)).Nodup)(t:es.length<=256)(n)(g:w.cell? ⟨n,0,V⟩=U (cj (m))):
  bE Q 160 #[dH (ep 198) #[] #[aE (n)]] w λe o=>∃v,e=bj v∧o.ownsRow w 5 1 v es.length ((ki (es.map (·.1))).map λb=>Y aq (b.toNat))∧bC w w o:=by
 refine(amK f 198 _ (λs=>s.Perm (es.map (·.1))) (λb=>b=n∨b=m) w (λi w=>alm i w) (asd n m es q w g p) (λb u=>by
  rcases u with rfl|rfl
  ·exact A3 g
  ·exact p.lt) (λk h=>by rw[h.length_eq,J8];exact t)).mono ?_
 rintro e o ⟨k,v,l,j,A,r⟩;refine⟨v,l,?_,r⟩;have z:k.length=es.length:=by rw[j.length_eq,J8]
 have B:ki k=ki (es.map (·.1)):=by
  refine OK (le:=λx y:UInt8=>x<=y) (λa b _ _ l j=>UInt8.le_antisymm l j) ?_ ?_ (((GC _ _).trans j).trans (GC _ _).symm)
  all_goals
   have:=Kc (le:=λx y:UInt8=>cq (x<=y)) (λa b c l j=>by grind) (λa b=>by grind)
  ·exact(this k).imp λh=>by grind
  ·exact(this _).imp λh=>by grind
 grind
def rX(n:Nat)(k:ByteArray):UInt8:=if h:n<k.size then k[n] else 0
theorem Od{n}{k}(h):rX n k=k[n]:=xA h
def lO(acc:List UInt8):List UInt8->List UInt8
 | []=>acc
 |c::cs=>if c∈acc then lO acc cs else lO (acc++[c]) cs
def vT(L:List s)(p:ByteArray)(c:UInt8):UInt8×ay:=(c,gV (y (dX L (push p c))))
theorem ayh:(lW 128).all (λn=>(Utf8.encode (n)).data.toList==[jZ n])=Z:=by kernel_rfl
theorem aze(c)(h:c.toNat<128)(w):(convert 5 9 (Y aq (c.toNat))).run Q w=aV (aG ⟨#[c]⟩) w:=by
 have:=List.all_eq_true.1 ayh c.toNat (List.mem_range.2 h);simp only[beq_iff_eq] at this;have e:Utf8.encode (c.toNat:Int)=⟨#[c]⟩:=by rw[<-Lib.mk_data (Utf8.encode (c.toNat:Int)),this];simp
 unfold convert;simp[run_underlying,Conv.intToString,e]
theorem aaG:∀(a:List ByteArray),fG aG a=a.map aG
 | []=>rfl
 |k::a=>by show aG k::fG aG a=_;rw[aaG a];rfl
theorem TC(c:UInt8):∀(l a:List UInt8),lO a (l++[c])=if c∈lO a l then lO a l else lO a l++[c]
 | [],a=>rfl
 |d::l,a=>by simp only[qC,lO];split<;>exact TC c l _
theorem JN(L:List s)(p:ByteArray)(c:UInt8):∀(l:List UInt8),look (l.map (vT L p)) c=if c∈l then U (vT L p c).2 else V
 | []=>rfl
 |d::l=>by
  simp only[fS,vT,look];by_cases h:d=c
  ·grind
  ·rw[if_neg h,JN L p c l];simp[J6 h,vT]
theorem abe{t:Type}[DecidableEq t](k:t)(v:ay):∀{l:List (t×ay)},look l k=V->put l k v=l++[(k,v)]
 | [],_=>rfl
 |(a,u)::l,h=>by
  unfold look at h;unfold put;by_cases e:a=k
  ·grind
  ·rw[if_neg e] at h⊢;rw[abe k v h];rfl
structure KdI(N:Nat)(v:ay)(ks:List ByteArray)(es:List (UInt8×ay))(w W:av):Prop where
 map:di kO W N es
 row:W.ownsRow (N+1) 9 1 v ks.length (ks.map aG)
 below:bC N w W
theorem MC(w):(kG 76).run Q w=aV (bN #[Y aq 0,Y aq 0,Y aq 0,Y aq 0,Y aq 0,Y aq 0,Y aq 0,Y aq 0]) w:=by kernel_rfl
theorem asf(w):(LV 245 V).run Q w=aV (cj (w)) (w.alloc (iP #[] 0)):=by kernel_rfl
theorem adC(m)(L)(pfx)(w)(hp:pfx.size<=4096)(K:cJ w m L)(hL:L.length<=1073741824)(ht:ga w)(hF:∀x∈L,Fit x)(N:∀k∈jG (qK L pfx),pfx.size<k.size∧(rX pfx.size k).toNat<128):
  bE Q 159 #[cj (m),pfx] w λe w'=>∃R,e=bj (cj (U R))∧di kO w' R ((lO [] ((jG (qK L pfx)).map (rX pfx.size))).map (vT L pfx))∧w<=R∧bC w w w':=by
 have F:=K.lt;obtain⟨z,p⟩:=ex (w.alloc (iP #[] 0));have u:bC w w z:=by rw[p];exact(ei _ _).alloc (aW _) _
 have B:z.heap.size=w+1:=by rw[p];simp
 have I:di kO z w []:=by grind[di.new,kO]
 have HK:=X (adF m L pfx z (K.of_block (u.block m F)) hL);obtain⟨ks,r⟩:=ex (jG (qK L pfx));have xR:ks.length<=1073741824:=by rw[r,Nl];exact bq (Em _ _) (by grind)
 rw[<-r] at HK N⊢;have QW:=sV.mk p u B I;have J:=sV.mk K ht hF N;clear K ht hF N p u B I r;have VE:=asf;go_enter akU,ntmps159;go_wp2_with (go_at_call 86;rw[<-QW.a];go_must (refine HK.out.mono ?_);rintro e w2 ⟨v,rfl,hr,o⟩;have H2:=cI.mk hr o;refine Halt.of ?_)
 unfold Halt;obtain⟨S,n⟩:=H2;obtain⟨d,s,rfl⟩:=gu S;have O:KdI w (aD d ks.length s) ks [] w w2:=⟨QW.d.of_block (n.block _ (by have:=QW.c;omega)),by have:=QW.c;grind,QW.b.trans ⟨n.os,n.tape,n.output,n.size,λb o=>n.block b (by have:=QW.b.size;omega)⟩⟩
 have H0:=X O;go_wp2;go_loopg [16] ks.length (λk Q3 wr=>∃(j:Nat),Q3=Y aH j∧k+j=ks.length∧KdI w.heap.size (aD d ks.length s) ks ((lO [] ((ks.take j).map (rX pfx.size))).map (vT L pfx)) w wr)
 case atStart=>exact⟨0,rfl,by omega,by simpa[lO] using H0.out⟩
 case round=>
  obtain⟨j,rfl,N,i⟩:=hrel;by_cases hj:j<ks.length
  ·obtain⟨g,A4,hv,hg,hY⟩:=oz.cell (f:=aG) (F:=ks) (w:=wr) (v:=aD d ks.length s) (sz:=1) (T:=9) (by have:=ji i.row (kM _);unfold oz;rw[aaG];exact this) (λ_=>rfl) hj
   simp only[vG] at hv;obtain⟨rfl,-,rfl⟩:=hv;have y0:wr.cell? ⟨g,j,V⟩=U (aG ks[j]):=by have:=hY 0 (aG ks[j]) (by decide) rfl;rwa [Nat.mul_one] at this
   have A:=J.d ks[j] (rZ hj);obtain⟨k,t⟩:=ex (ks[j]);rw[<-t] at y0 A;obtain⟨c,D⟩:=A;have hi1:(pfx.size:Int)<(k.size:Int):=by omega
   have uR:(j:Int)<(ks.length:Int):=by omega
   have h:=gD.mk i t D;clear i hY t D;obtain⟨es,E⟩:=ex ((lO [] ((ks.take j).map (rX pfx.size))).map (vT L pfx));rw[<-E] at h;have M:=X E;rcases l:look es (k[pfx.size]'c) with _|x
   ·have C:=X l;have hcv:=aze (k[pfx.size]'c) (by rw[<-Od c];exact h.c)
    go_wp2_with (first
     |(at_lookup;refine FE _ kO rfl _ _ 245 rfl 5 76 Dt wT _ (MC _) w.heap.size es (k[pfx.size]'c) rfl h.a.map rfl ?_;rw[C.out];simp only[Option.getD_none,Option.isSome_none])
     |(go_at_call 51;go_must (refine((X λW o=>Qa m L _ W (J.a.of_block (o.block m F)) hL (J.b.below o (aW _)) J.c).out _ (h.a.below.alloc h.a.below.size _)).mono ?_);rintro e w5 ⟨rfl,f⟩;have H5:=X f;refine Halt.of ?_))
    unfold Halt;go_wp2_with (at_mapUpdate;refine MG _ kO rfl _ _ _ 245 rfl 5 76 Dt wT w.heap.size es (k[pfx.size]'c) (gV (y (dX L (push pfx (k[pfx.size]'c))))) rfl (h.a.map.of_block ((H5.out.block _ (by simp;have:=h.a.map.lt;omega)).trans (dr _ _ _ h.a.map.lt))) rfl rfl ?_;intro w6 P Q2 Ew;have q:=gD.mk P Q2 Ew;refine Halt.of ?_)
    unfold Halt;go_wp2;go_roundg (gk-1)
    case rel=>
     refine⟨j+1,by go_simp,by omega,?_⟩
     have i:=h.a;have f:=H5.out;have nY:=f.size;simp only[uL] at nY;have O8:∀b,w.heap.size<b->b<wr->w6.heap[b]? =wr.heap[b]? :=λb h1 h2=>(q.b.block b (by omega) (by omega)).trans ((f.block b (by simp;omega)).trans (dr _ _ _ h2))
     have H:∀b,b<w.heap.size->w6.heap[b]? =wr.heap[b]? :=λb h1=>by have h2:=i.below.size;exact(q.b.block b (by omega) (by omega)).trans ((f.block b (by simp;omega)).trans (dr _ _ _ (by omega)))
     have T:lO [] ((ks.take (j+1)).map (rX pfx.size))=lO [] ((ks.take j).map (rX pfx.size))++[k[pfx.size]'c]:=by
      rw[yL,pR hj,El,uI,<-h.b,fS,sg,TC,Od c,if_neg];intro Q0;have:=C.out;rw[M.out,JN,dn Q0] at this
      grind
     refine⟨?_,dI i.row λb o=>O8 b (by have:=(i.row.lt b o).1;omega) (i.row.lt b o).2,i.below.trans ⟨q.b.os.trans f.os,q.b.tape.trans f.tape,q.b.output.trans f.output,by have:=q.c;omega,H⟩⟩
     have:=q.a;rw[abe _ _ C.out,M.out] at this;rw[T,uI];exact this
    case measure=>omega
   ·have a:x=gV (y (dX L (push pfx (k[pfx.size]'c))))∧(k[pfx.size]'c)∈lO [] ((ks.take j).map (rX pfx.size)):=by
     rw[M.out,JN] at l;split at l
     ·rename_i Q0;exact⟨(rY l).symm,Q0⟩
     ·cases l
    obtain⟨d0,d1,d2,d3,d4,d5,d6,d7,hD⟩:∃d0 d1 d2 d3 d4 d5 d6 d7:Int,x=bN #[Y aq d0,Y aq d1,Y aq d2,Y aq d3,Y aq d4,Y aq d5,Y aq d6,Y aq d7]:=⟨_,_,_,_,_,_,_,_,a.1⟩;have C:=X l;have HM:=X a.2;clear a l;subst hD;go_wp2_with (at_lookup;refine FE _ kO rfl _ _ 245 rfl 5 76 Dt wT _ (MC _) w.heap.size es (k[pfx.size]'c) rfl h.a.map rfl ?_;rw[C.out];simp only[fO,US])
    go_roundg (gk-1)
    case rel=>
     refine⟨j+1,by go_simp,by omega,?_⟩
     have i:=h.a;have T:lO [] ((ks.take (j+1)).map (rX pfx.size))=lO [] ((ks.take j).map (rX pfx.size)):=by rw[yL,pR hj,El,uI,<-h.b,fS,sg,TC,Od c,dn HM.out]
     rw[T,<-M.out];exact⟨i.map.alloc _,dI i.row λb o=>dr _ _ _ (i.row.lt b o).2,i.below.alloc i.below.size _⟩
    case measure=>omega
  ·have Q1:j=ks.length:=by omega
   subst Q1;have h:=X i;go_wp2;go_ret;exact⟨_,rfl,by have:=h.out.map;rw[vJ] at this;exact this,aW _,h.out.below⟩
attribute [local go_sem] Oper.semAt_some
structure tf(B:Nat)(W:av)(N:Nat)(T e size:Nat)(v:ay)(n:Nat)(xs:List ay):Prop where
 box:W.heap[N]? =U (aF #[v] T (0,0))
 row:W.ownsRow B e size v n xs
 ne:v.ownBlock≠U N
section
variable {B:Nat} {W W' W1:av} {N T e size n n':Nat} {v v':ay} {xs Yj:List ay}
theorem tf.lt(h:tf B W N T e size v n xs):∀b,qg N v b->b<W:=by
 rintro b (rfl|a)
 ·exact(dc.1 h.box).1
 ·exact(h.row.lt b a).2
theorem tf.fZ(h:tf B W N T e size v n xs)(a:∀b,qg N v b->W'.heap[b]? =W.heap[b]?):tf B W' N T e size v n xs:=
 ⟨(a N (ax rfl)).trans h.box,dI h.row λg c=>a g (aA c),h.ne⟩
theorem tf.cell(h:tf B W N T e size v n xs):W.cell? N=v∧W.frozen? N=ai:=by simp[og,wI,h.box]
theorem Gg{a}(c:W.ownsRow B e size v n xs)(b:v.ownBlock≠a.block)(u):(W.setCell a u).ownsRow B e size v n xs:=
 dI c λg d=>gy _ _ _ _ λe=>b (by grind)
theorem tf.appended(h:tf B W N T e size v n xs)(a:W.grownBy W1 v.ownBlock)(l:W1.ownsRow B e size v' n' Yj)(f:v'.ownBlock=v.ownBlock∨v'.ownBlock=W):
  tf B (W1.setCell N v') N T e size v' n' Yj∧bT (qg N v) W (qg N v') (W1.setCell N v'):=by
 have o:=(dc.1 h.box).1;have g:=(a.block N o (λe=>h.ne e.symm)).trans h.box;have c:v'.ownBlock≠N:=by
  rcases f with d|d
  ·rw[d];exact h.ne
  grind
 refine⟨⟨yA g,Gg l c _,c⟩,?_,?_⟩
 ·refine⟨a.os,a.tape,a.output,by simpa[jE] using a.size,λk j i=>?_⟩
  exact(gy _ _ _ _ (λe=>i (ax e))).trans (a.block k j (λe=>i (aA e.symm)))
 ·rintro b (rfl|m)
  ·exact ax (ax rfl)
  ·rcases f with d|d
   ·exact ax (aA (d▸m))
   grind
end
theorem apg(l)(x):rows (l++[x])=rows l++x.cells:=by grind[Tg,rows]
theorem aAS(B)(v0)(y)(H)(gf:Nat)(lb)(S)(R)(w)(eg:∀A w,(iu gf A).run Q w=aV (jr gf A) w)
  (L:Iter Q gf lb (λx=> #[x.val]) S R w) (hR:∀b,R b->b<w) (hB:B<=w.heap.size) (m:w.ownsRow B 46 5 v0 y H) (QX:∀b,R b->v0.ownBlock≠b) (hN:∀z,S z->y+z.length<=1073741824):
  bE Q 158 #[v0,dH (ep gf) #[] lb] w λe w'=>∃z v,e=bj v∧S z∧w'.ownsRow B 46 5 v (y+z.length) (H++rows z)∧bT (cZ v0) w (cZ v) w':=by
 obtain⟨i0,hi,qN,Q0,a⟩:=yJ adQ;obtain⟨ad,G,rfl⟩:=gu m;have N:=λb d=>(m.lt b d).2;have u:tf B (w.alloc (aF #[aD ad y G] 35)) w 35 46 5 (aD ad y G) y (H++rows []):=⟨iN w _,by grind[rows,dI,Below.heap_alloc],λh=>absurd (N _ h) (by omega)⟩
 have I:=cI.mk m N;obtain⟨v0,r⟩:=ex (aD ad y G);rw[<-r] at u I QX⊢;refine(callsIn_wide (n:=0)).1 (callsIn_of_wp_marks akV rfl trivial ?_ rfl);simp only[ntmps158,uH,qB,lQ,ya,x9,vP,vO,vN,vM,vL,qC];rw[r];gi_wp2;rw[<-r];refine wp_rangeFunc (gf:=gf) (lb:=lb) rfl eg (L.later ((O.alloc (λ_=>False) w _).fZ λb d=>⟨hR b d,id⟩)) (λb d=>by have:=hR b d;simp;omega) (λ_=>rfl)
  (λo W D=>∃v,tf B W w 35 46 5 v (y+o.length) (H++rows o)∧D=qg w v) (λ_ _ _ _=>False)
  ⟨λo W D ⟨v,h,e⟩ b d=>h.lt b (e▸d),λo W D W' ⟨v,h,e⟩ ha=>⟨v,h.fZ λb d=>ha.block b (e▸d),e⟩⟩ (λ_=>⟨λ_ _ _ h=>h.elim,λ_ _ _ _ h=>h.elim⟩)
  (qg w v0) (λb d=>?_) ⟨_,u,rfl⟩ ?round ?done ?stop
 ·rcases d with rfl|d
  all_goals grind
 case round=>
  rintro l o x W D t uP P ⟨jh,hS⟩ ⟨v,k,rfl⟩ wm;have hlen:y+(o.length+1)<=1073741824:=by grind
  obtain⟨n,f,c,q,QW⟩:=x;unfold s.val;gi_wp2;refine⟨⟨O.alloc _ _ _,λb d=>d.imp id (·.1)⟩,λW2 p=>?_⟩;have T:l≠W:=by omega
  have i:=k.fZ λb d=>(p.block b λe=>P (e▸d)).trans (dr _ _ _ (k.lt b d));have j:W2.heap[W.heap.size]? =U (aF #[n,f,c,q,QW] 46 (0,0)):=(p.block _ (λe=>T e.symm)).trans (iN W _);have r0:W2.cell? W=U n:=K j 0;have r1:W2.cell? ⟨W,1,V⟩=U f:=K j 1;have r2:W2.cell? ⟨W,2,V⟩=U c:=K j 2;have r3:W2.cell? ⟨W,3,V⟩=U q:=K j 3;have r4:W2.cell? ⟨W,4,V⟩=U QW:=K j 4;obtain⟨hc,hf⟩:=i.cell;have m:=i.row;have C:=i.lt;have Q3:=C _ (ax rfl);have J:W2.heap.size=W+1:=by rw[p.size];simp
  have Hu:B<=W2:=by omega
  have HA:=X i;clear k i J p P wm hS L C u j QX t uP T r
  gi_wp2_with (gi_at_builtin;go_must (refine ade _ rfl _ _ 35 rfl B 46 i0 (bN #[aG ⟨#[]⟩,aG ⟨#[]⟩,Y aH 0,Y aH 0,aG ⟨#[]⟩]) 5 64 Yz hi qN Q0 a rfl (by decide) v (y+o.length) (H++rows o) rfl (m.alloc _) W2.heap.size 1 1 [n,f,c,q,QW] rfl rfl (zY (by grind) _ _ rfl) (by simp[za]) (by unfold uZ;omega) (by omega) (by simp;omega) ?_);intro v' w1 M F _ Q1;refine Halt.of ?_)
  obtain⟨g',A4,Q2⟩:=ownsRow_succ M;have QY:w≠v.ownBlock:=λe=>HA.out.ne e.symm;have sx:=(eD (w:=W2.alloc (aF #[n,f,c,q,QW] 46)) (F.block _ (by simp;omega) QY)).trans ((eD (w:=W2) (dr _ _ _ Q3)).trans hc)
  have KT:=(B4 (w:=W2.alloc (aF #[n,f,c,q,QW] 46)) (F.block _ (by simp;omega) QY)).trans ((B4 (w:=W2) (dr _ _ _ Q3)).trans hf)
  subst Q2;unfold Halt;gi_wp2;obtain⟨E,h2⟩:=(X (tf.appended (tf.fZ HA.out (λb d=>dr _ _ _ (tf.lt HA.out b d))) F M Q1)).out;refine⟨_,⟨_,?_,rfl⟩,h2.shift (O.alloc _ _ _) λ_ h=>ax h⟩;rw[apg,jV,xF,<-jy,<-Nat.add_assoc];exact E
 case done=>
  rintro z W D hS ⟨v,k,rfl⟩ hL hK qV;obtain⟨hc,hf⟩:=k.cell;have HL:=X hL;gi_wp2;refine⟨by simp,ax ⟨_,_,rfl,vK hK,?_⟩⟩
  refine⟨_,results_tmp rfl _ _ _,z,v,rfl,(X hS).out,dI (X k).out.row (λg hg=>qE λe=>qV (aA (e▸hg))),?_⟩;have E:=HL.out;refine⟨⟨E.1.os,E.1.tape,E.1.output,by have:=E.1.size;simp at this⊢;omega,λb d hn=>?_⟩,λb d=>?_⟩
  ·refine(qE (by simp;omega)).trans ((E.1.block b (by simp;omega) ?_).trans (dr _ _ _ d))
   rintro(h|h)
   ·grind
   ·exact hn (r▸h)
  ·rcases E.2 b (aA d) with(h|h)|h
   ·grind
   ·exact ax (r▸h)
   ·exact aA (by simp at h;omega)
 grind
section
variable {B p:Nat} {m:dP} {vr vw vn vd v':ay} {xs:List ay} {W W1 W2:av}
def eJ(W:av)(b e:Nat):Prop:=∃cur,W.heap[b]? =U (aF cur e (0,0))
theorem eJ.one{b e a}(h:eJ W b e)(k:eJ W b a):e=a:=by
 obtain⟨c,h⟩:=h;obtain⟨d,k⟩:=k
 grind
theorem fH{e s n b:Nat}{v}{f}(h:W.ownsRow B e s v n f)(a:v.ownBlock=b):eJ W b e:=by
 rcases h.2 with⟨rfl,_⟩|⟨g,c,i,rfl,_,d,_⟩
 ·cases a
 ·cases a;exact⟨_,d⟩
theorem Es:∀{F:List Nd} {xs:List ay},yl W B F xs->∀x∈xs,∀b,x.ownBlock=U b->eJ W b 233
 | [],xs,h,x,a,b,c=>by cases h;cases a
 |n::F,xs,⟨f,d,e,h,t⟩,x,a,b,c=>by
  subst e;simp only[dh] at a;rcases a with rfl|rfl|a
  ·cases c
  ·grind[fH]
  ·exact Es t x a b c
theorem kI.keep{F}{v}(h:kI W B F v xs)(e:∀b,v.ownBlock=U b->W1.heap[b]? =W.heap[b]?)(f:∀x∈xs,∀b,x.ownBlock=U b->W1.heap[b]? =W.heap[b]?)(d:W.heap.size<=W1):kI W1 B F v xs:=
 ⟨dI h.row e,h.ins.block f,λx a b c=>⟨(h.sep x a b c).1,cF (h.sep x a b c).2.1 d,(h.sep x a b c).2.2⟩⟩
def xj(p:Nat)(vr vw vn:ay)(b:Nat):Prop:=b=p∨vr.ownBlock=U b∨vw.ownBlock=U b∨vn.ownBlock=U b
theorem iY.qu(h:iY W B p m vr vw vn vd xs):p<W:=(dc.1 h.box).1
theorem iY.qw(h:iY W B p m vr vw vn vd xs):eJ W p 180:=⟨_,h.box⟩
theorem iY.dlt(h:iY W B p m vr vw vn vd xs):∀b,xj p vr vw vn b->B<=b∧b<W:=by
 rintro b (rfl|a|a|a)
 ·exact⟨h.lt,h.qu⟩
 ·exact h.bh.lt b a
 ·exact h.cp.lt b a
 ·exact h.nodes.row.lt b a
theorem iY.del(h:iY W B p m vr vw vn vd xs):∀b,xj p vr vw vn b->eJ W b 180∨eJ W b 46∨eJ W b 9∨eJ W b 184:=by
 rintro b (rfl|a|a|a)
 ·exact ax h.qw
 ·exact aA (ax (fH h.bh a))
 ·exact aA (aA (ax (fH h.cp a)))
 ·exact aA (aA (aA (fH h.nodes.row a)))
theorem iY.below(h:iY W B p m vr vw vn vd xs)(c:bC W W W1):iY W1 B p m vr vw vn vd xs:=
 ⟨(c.block p h.qu).trans h.box,h.lt,dI h.bh λb a=>c.block b (h.bh.lt b a).2,dI h.cp λb a=>c.block b (h.cp.lt b a).2,
  h.nodes.keep (λb a=>c.block b (h.nodes.row.lt b a).2) (λx d b a=>c.block b (h.nodes.sep x d b a).2.1) c.size,dI h.roots λb a=>c.block b (h.roots.lt b a).2⟩
theorem BA{cs}{T i:Nat}{u}(h:W.heap[p]? =U (aF cs T (0,0))):(W.setCell ⟨p,i,V⟩ u).heap[p]? =U (aF (cs.setIfInBounds i u) T (0,0)):=by simp only[jE,yM,h,ey,iM];rfl
theorem yz(W:av)(a)(u):(W.setCell a u).heap.size=W:=by simp[jE]
theorem iY.aA7(h:iY W B p m vr vw vn vd xs)(g:bC W W W1)(f:bT (cZ vr) W1 (cZ v') W2){R}(u:W2.ownsRow B 46 5 v' (m.bh++R).length (rows (m.bh++R))):
  iY (W2.setCell p v') B p {m with bh:=m.bh++R} v' vw vn vd xs∧bT (xj p vr vw vn) W (xj p v' vw vn) (W2.setCell p v'):=by
 have s:=g.size;have d:∀b,b<W.heap.size->¬eJ W b 180->¬eJ W b 46->(W2.setCell p v').heap[b]? =W.heap[b]? :=λb j l v=>by have r:b≠p:=λe=>l (e▸h.qw);rw[gy _ _ _ _ r,f.1.block b (by omega) (λe=>v (fH h.bh e)),g.block b j]
 have o:v'.ownBlock≠p:=λe=>by
  rcases f.2 p e with l|l
  ·exact absurd (eJ.one h.qw (fH h.bh l)) (by decide)
  ·have:=h.qu;omega
 have i:∀b,eJ W b 9∨eJ W b 184∨eJ W b 233∨eJ W b 76->¬eJ W b 180∧¬eJ W b 46:=λb g=>by
  grind[eJ.one]
 have q:W2.heap[p]? =U (aF #[vr,vw,vn,vd] 180 (0,0)):=by rw[f.1.block p (by have:=h.qu;omega) (λe=>absurd (eJ.one h.qw (fH h.bh e)) (by decide)),g.block p h.qu,h.box]
 refine⟨⟨BA q,h.lt,Gg u o _,?_,?_,?_⟩,⟨f.1.os.trans g.os,f.1.tape.trans g.tape,f.1.output.trans g.output,?_,λb j t=>?_⟩,λb k=>?_⟩
 ·exact dI h.cp λb c=>d b (h.cp.lt b c).2 (i b (ax (fH h.cp c))).1 (i b (ax (fH h.cp c))).2
 ·exact h.nodes.keep (λb c=>d b (h.nodes.row.lt b c).2 (i b (aA (ax (fH h.nodes.row c)))).1 (i b (aA (ax (fH h.nodes.row c)))).2)
   (λx n b c=>d b (h.nodes.sep x n b c).2.1 (i b (aA (aA (ax (Es h.nodes.ins x n b c))))).1 (i b (aA (aA (ax (Es h.nodes.ins x n b c))))).2) (by rw[yz];exact bq s f.1.size)
 ·exact dI h.roots λb c=>d b (h.roots.lt b c).2 (i b (aA (aA (aA (fH h.roots c))))).1 (i b (aA (aA (aA (fH h.roots c))))).2
 ·rw[yz];exact bq s f.1.size
 ·rw[gy _ _ _ _ (λe=>t (ax e)),f.1.block b (by omega) (λe=>t (aA (ax e))),g.block b j]
 ·rcases k with rfl|k|k|k
  ·exact ax (ax rfl)
  ·rcases f.2 b k with l|l
   ·exact ax (aA (ax l))
   grind
  ·exact ax (aA (aA (ax k)))
  ·exact ax (aA (aA (aA k)))
theorem iY.ah2(h:iY W B p m vr vw vn vd xs)(g:bC W W W1)(f:bT (cZ vw) W1 (cZ v') W2){s}(v:W2.ownsRow B 9 1 v' (m.cp++s).length (fG aG (m.cp++s))):
  iY (W2.setCell ⟨p,1,V⟩ v') B p {m with cp:=m.cp++s} vr v' vn vd xs∧bT (xj p vr vw vn) W (xj p vr v' vn) (W2.setCell ⟨p,1,V⟩ v'):=by
 have t:=g.size;have d:∀b,b<W.heap.size->¬eJ W b 180->¬eJ W b 9->(W2.setCell ⟨p,1,V⟩ v').heap[b]? =W.heap[b]? :=λb j l w=>by have r:b≠p:=λe=>l (e▸h.qw);rw[gy _ _ _ _ r,f.1.block b (by omega) (λe=>w (fH h.cp e)),g.block b j]
 have o:v'.ownBlock≠p:=λe=>by
  rcases f.2 p e with l|l
  ·exact absurd (eJ.one h.qw (fH h.cp l)) (by decide)
  ·have:=h.qu;omega
 have i:∀b,eJ W b 46∨eJ W b 184∨eJ W b 233∨eJ W b 76->¬eJ W b 180∧¬eJ W b 9:=λb g=>by
  grind[eJ.one]
 have q:W2.heap[p]? =U (aF #[vr,vw,vn,vd] 180 (0,0)):=by rw[f.1.block p (by have:=h.qu;omega) (λe=>absurd (eJ.one h.qw (fH h.cp e)) (by decide)),g.block p h.qu,h.box]
 refine⟨⟨BA q,h.lt,?_,Gg v o _,?_,?_⟩,⟨f.1.os.trans g.os,f.1.tape.trans g.tape,f.1.output.trans g.output,?_,λb j u=>?_⟩,λb k=>?_⟩
 ·exact dI h.bh λb c=>d b (h.bh.lt b c).2 (i b (ax (fH h.bh c))).1 (i b (ax (fH h.bh c))).2
 ·exact h.nodes.keep (λb c=>d b (h.nodes.row.lt b c).2 (i b (aA (ax (fH h.nodes.row c)))).1 (i b (aA (ax (fH h.nodes.row c)))).2)
   (λx n b c=>d b (h.nodes.sep x n b c).2.1 (i b (aA (aA (ax (Es h.nodes.ins x n b c))))).1 (i b (aA (aA (ax (Es h.nodes.ins x n b c))))).2) (by rw[yz];exact bq t f.1.size)
 ·exact dI h.roots λb c=>d b (h.roots.lt b c).2 (i b (aA (aA (aA (fH h.roots c))))).1 (i b (aA (aA (aA (fH h.roots c))))).2
 ·rw[yz];exact bq t f.1.size
 ·rw[gy _ _ _ _ (λe=>u (ax e)),f.1.block b (by omega) (λe=>u (aA (aA (ax e)))),g.block b j]
 ·rcases k with rfl|k|k|k
  ·exact ax (ax rfl)
  ·exact ax (aA (ax k))
  ·rcases f.2 b k with l|l
   ·exact ax (aA (aA (ax l)))
   grind
  ·exact ax (aA (aA (aA k)))
theorem iY.ah3(h:iY W B p m vr vw vn vd xs)(j:bC W W W1)(d:bT (cZ vn) W1 (cZ v') W2){n}{kv}(z:W1.ownsRow W 233 9 kv n.kids.length (fG gL n.kids))(w:W2.ownsRow B 184 2 v' (m.nodes.length+1) (xs++[n.pfx,kv]))(A:B<=W):
  iY (W2.setCell ⟨p,2,V⟩ v') B p {m with nodes:=m.nodes++[n]} vr vw v' vd (xs++[aG n.pfx,kv])∧bT (xj p vr vw vn) W (xj p vr vw v') (W2.setCell ⟨p,2,V⟩ v'):=by
 have y:=j.size;have i:∀b,b<W.heap.size->¬eJ W b 180->¬eJ W b 184->(W2.setCell ⟨p,2,V⟩ v').heap[b]? =W.heap[b]? :=λb f k D=>by have v:b≠p:=λe=>k (e▸h.qw);rw[gy _ _ _ _ v,d.1.block b (by omega) (λe=>D (fH h.nodes.row e)),j.block b f]
 have u:v'.ownBlock≠p:=λe=>by
  rcases d.2 p e with k|k
  ·exact absurd (eJ.one h.qw (fH h.nodes.row k)) (by decide)
  ·have:=h.qu;omega
 have o:∀b,eJ W b 46∨eJ W b 9∨eJ W b 233∨eJ W b 76->¬eJ W b 180∧¬eJ W b 184:=λb j=>by
  grind[eJ.one]
 have q:W2.heap[p]? =U (aF #[vr,vw,vn,vd] 180 (0,0)):=by rw[d.1.block p (by have:=h.qu;omega) (λe=>absurd (eJ.one h.qw (fH h.nodes.row e)) (by decide)),j.block p h.qu,h.box]
 have r:=(h.nodes.keep (λb c=>j.block b (h.nodes.row.lt b c).2) (λx t b c=>j.block b (h.nodes.sep x t b c).2.1) y).snoc (ji z A) (λb c e=>by have:=(z.lt b c).1;have:=(h.nodes.row.lt b e).2;omega) w (λb f s=>d.1.block b f s)
  (by
   cases c:v'.ownBlock with
   |none=>
    rcases w.2 with⟨rfl,F⟩|⟨g,C,E,rfl,_⟩
    ·omega
    ·cases c
   |some b=>
    rcases d.2 b c with k|k
    ·left;exact k.symm
    grind) d.1.size
 refine⟨⟨BA q,h.lt,?_,?_,?_,?_⟩,⟨d.1.os.trans j.os,d.1.tape.trans j.tape,d.1.output.trans j.output,?_,λb f s=>?_⟩,λb l=>?_⟩
 ·exact dI h.bh λb c=>i b (h.bh.lt b c).2 (o b (ax (fH h.bh c))).1 (o b (ax (fH h.bh c))).2
 ·exact dI h.cp λb c=>i b (h.cp.lt b c).2 (o b (aA (ax (fH h.cp c)))).1 (o b (aA (ax (fH h.cp c)))).2
 ·exact r.keep (λb c=>gy _ _ _ _ λe=>u ((show b=p from e)▸c)) (λx t b c=>gy _ _ _ _ λe=>absurd (eJ.one (⟨_,q⟩) ((show b=p from e)▸Es r.ins x t b c)) (by decide)) (by rw[yz];grind)
 ·exact dI h.roots λb c=>i b (h.roots.lt b c).2 (o b (aA (aA (aA (fH h.roots c))))).1 (o b (aA (aA (aA (fH h.roots c))))).2
 ·rw[yz];exact bq y d.1.size
 ·rw[gy _ _ _ _ (λe=>s (ax e)),d.1.block b (by omega) (λe=>s (aA (aA (aA e)))),j.block b f]
 ·rcases l with rfl|l|l|l
  ·exact ax (ax rfl)
  ·exact ax (aA (ax l))
  ·exact ax (aA (aA (ax l)))
  ·rcases d.2 b l with k|k
   ·exact ax (aA (aA (aA k)))
   grind
end
def iD(W:av)(B p:Nat)(m:dP)(D:Nat->Prop):Prop:=∃vr vw vn vd xs,iY W B p m vr vw vn vd xs∧D=xj p vr vw vn
theorem iD.below{W W1}{B p}{m}{D}(h:iD W B p m D)(f:bC W W W1):iD W1 B p m D:=by obtain⟨d,a,g,b,c,h,e⟩:=h;exact⟨d,a,g,b,c,h.below f,e⟩
theorem iD.lt{W}{B p}{m}{D}(h:iD W B p m D):∀b,D b->B<=b∧b<W:=by obtain⟨e,a,f,c,d,h,rfl⟩:=h;exact h.dlt
theorem M9(B p o)(m)(D)(L)(pfx)(w)(h:iD w B p m D)(S:cJ w o L)(Hu:B<=w)(hL:L.length<=1073741824)(hn:m.bh.length+(dX L pfx).length<=1073741824):
  bE Q 102 #[aE (p),cj (o),pfx] w λe y=>e=bj (bO #[])∧∃Q1,iD y B p {m with bh:=m.bh++dX L pfx} Q1∧bT D w Q1 y:=by
 obtain⟨E,vw,Q0,vd,q,s,rfl⟩:=h;obtain⟨ad,z,u⟩:=gu s.bh;have k0:∀W:av,W.heap[p]? =U (aF #[E,vw,Q0,vd] 180 (0,0))->W.cell? p=E∧W.frozen? p=ai:=λW hW=>⟨K hW 0,by simp[wI,hW]⟩
 have C:=s.box;have QX:=S.lt;have O:∀b,b=o->E.ownBlock≠b:=λb e hv=>by
  subst e;obtain⟨cur,h1⟩:=fH s.bh hv;obtain⟨en,ck,h2,_⟩:=S
  grind
 have P:=λb T=>(s.bh.lt b T).2;have j:=sV.mk s S O P;have KB:=s.qu;rw[u] at k0 C;go_enter alh,ntmps102;go_wp2;refine vI ?_;refine wp_region_Z (S:=λW=>W.heap[p]? =U (aF #[aD ad m.bh.length z,vw,Q0,vd] 180 (0,0))) (z:=11) (by kernel_rfl) (C) (λc=>?_)
 refine kZ (i:=0) (v:=?v0) rfl (by kernel_rfl) (by kernel_rfl) (by kernel_rfl) (by kernel_rfl) (λ_ _ _ h=>h) (ax ⟨by rfl,?yQ⟩) c ?aaW;(case yQ=>(intro W f;go_simp;(try with_reducible rfl)))
 try simp only[dj,eZ,eY,eC,eB,ee]
 refine kZ (i:=1) (v:=?v1) rfl (by kernel_rfl) (by kernel_rfl) (by kernel_rfl) (by kernel_rfl) (λ_ _ _ h=>h) (ax ⟨by rfl,?Aq⟩) c ?aaV;(case Aq=>(intro W f;go_simp;(try with_reducible rfl)))
 try simp only[dj,eZ,eY,fu,eC,eB,ee]
 refine kZ (i:=2) (v:=?v2) rfl (by kernel_rfl) (by kernel_rfl) (by kernel_rfl) (by kernel_rfl) (λ_ _ _ h=>h) (ax ⟨by rfl,?Ap⟩) c ?aaU;(case Ap=>(intro W f;go_simp;(try with_reducible rfl)))
 try simp only[dj,eZ,eY,fu,eC,eB,ee]
 refine kZ (i:=3) (v:=?v3) rfl (by kernel_rfl) (by kernel_rfl) (by kernel_rfl) (by kernel_rfl) (λ_ _ _ h=>h) (ax ⟨by rfl,?Vg⟩) c ?apA;(case Vg=>(intro W f;go_simp;(try with_reducible rfl)))
 try simp only[dj,eZ,eY,fu,eC,eB,ee]
 refine kZ (i:=4) (v:=?v4) rfl (by kernel_rfl) (by kernel_rfl) (by kernel_rfl) (by kernel_rfl) (λ_ _ _ h=>h) (ax ⟨by rfl,?Vf⟩) c ?apz;(case Vf=>(intro W f;go_simp;(try with_reducible rfl)))
 try simp only[dj,eZ,eY,fu,eC,eB,ee]
 refine kZ (i:=5) (v:=?v5) rfl (by kernel_rfl) (by kernel_rfl) (by kernel_rfl) (by kernel_rfl) (λ_ _ _ h=>h) (ax ⟨by rfl,?Kt⟩) c ?aaT;(case Kt=>(intro W f;go_simp;(try with_reducible rfl)))
 try simp only[dj,eZ,eY,fu,eC,eB,ee]
 refine kZ (i:=6) (v:=?v6) rfl (by kernel_rfl) (by kernel_rfl) (by kernel_rfl) (by kernel_rfl) (λ_ _ _ h=>h) (ax ⟨by rfl,?Ks⟩) c ?aaS;(case Ks=>(intro W f;go_simp;(try with_reducible rfl)))
 try simp only[dj,eZ,eY,fu,eC,eB,ee]
 obtain⟨g,k⟩:=ex w.drew;rw[<-k] at c⊢;have n:g.heap.size=w:=by rw[k];rfl
 have t:=X k;have A:=X n;clear k n;refine Bp (i:=7) (by kernel_rfl) rfl (by rfl) ?_
 go_simp;go_at_call 52;refine jc (XL o pfx g) ?_;rintro e i ⟨rfl,l⟩;have d:bC g g i:=by rw[l];exact((ei _ _).alloc (aW _) _).alloc (by simp) _
 have QW:=(d.block p (by grind)).trans c
 have I:dR (i.heap.size=g+2):=X (by rw[l];simp)
 have G:i.cell? g=U (cj (o))∧i.cell? ⟨g+1,0,V⟩=U (aG pfx):=by rw[l];constructor<;>go_simp
 clear l;refine⟨by grind,?_⟩
 try simp only[dj,eZ,eY,fu,eC,eB,ee]
 have hC:dR (bE Q 158 #[aD ad m.bh.length z,dH (ep 85) #[] #[aE (g),aE (U ⟨g+1,0,V⟩)]] i λe y=>∃q v,e=bj v∧q=dX L pfx∧y.ownsRow B 46 5 v (m.bh.length+q.length) (rows m.bh++rows q)∧bT (cZ E) i (cZ v) y):=by
  have n:=A.out;have M:=I.out;have Q3:bC w w i:=by rw[t.out] at d;exact⟨d.os,d.tape,d.output,d.size,d.block⟩
  have a:=j.b.of_block (Q3.block o QX);refine X ?_;rw[<-u];refine aAS B E m.bh.length (rows m.bh) 85 _ (λq=>q=dX L pfx) (λb=>b=g.heap.size∨b=g.heap.size+1∨b=o) i (λx w=>alk x w) (XM _ _ o L pfx i G.1 G.2 a hL) ?_ (by omega) (dI j.a.bh λb T=>Q3.block b (j.d b T)) ?_ (λq e=>by grind)
  ·grind
  ·rintro b (rfl|rfl|rfl) e
   ·have:=j.d _ e;omega
   ·have:=j.d _ e;omega
   ·exact j.c _ rfl e
 refine Bp (i:=8) (by kernel_rfl) rfl (by rfl) ?_
 go_simp;go_at_call 158;refine jc hC.out ?_;rintro e w2 ⟨Bn,v2,rfl,rfl,R,H⟩;have n:=A.out;have M:=I.out;have r:=(H.1.block p (by omega) (λe=>absurd (eJ.one j.a.qw (fH j.a.bh e)) (by decide))).trans QW
 obtain⟨N,F,J⟩:=gu R;have Q2:=X (j.a.aA7 (R:=dX L pfx) (by rw[t.out] at d;exact(⟨d.os,d.tape,d.output,d.size,d.block⟩:bC w.heap.size w i)) H (by grind[List.length_append,Tg]))
 obtain⟨u0,uf⟩:=k0 w2 r;subst J;refine⟨by grind,?_⟩
 try simp only[dj,eZ,eY,fu,eC,eB,ee]
 refine Bo (i:=9) (v:=aE (U ⟨p,0,V⟩)) (w':=w2) (by kernel_rfl) rfl (by rfl) ?Vo (λ_=>r) ?aDx;(case Vo=>(go_simp))
 try simp only[dj,eZ,eY,fu,eC,eB,ee]
 refine Bo (i:=10) (v:=aE (U ⟨p,0,V⟩)) (w':=w2) (by kernel_rfl) rfl (by rfl) ?Vr (λ_=>r) ?apC;(case Vr=>(go_simp))
 try simp only[dj,eZ,eY,fu,eC,eB,ee]
 refine Rn (i:=11) (w':=w2.setCell ⟨p,0,V⟩ (aD N (m.bh.length+(dX L pfx).length) F)) (by kernel_rfl) rfl (by rfl) ?Vq (λh=>Bool.noConfusion h) ?apB;(case Vq=>(go_simp))
 try simp only[dj,eZ,eY,fu,ee]
 refine Ro (by kernel_rfl) ?_ _
 refine vH ?_;go_wp2
 go_end0
 exact⟨rfl,_,⟨_,_,_,_,_,Q2.out.1,rfl⟩,Q2.out.2⟩
end
end Go.Proofs.YtpdbmpbmepkikaaGreatDoor
