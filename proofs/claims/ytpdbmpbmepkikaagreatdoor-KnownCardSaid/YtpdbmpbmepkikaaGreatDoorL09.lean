/- Laws. -/
import Derived.Conc.LeavingOf
import Derived.Deep.DeepHandedRow
import Derived.SevenTiedAt
import Derived.Test.YtpdbmpbmepkikaaGreatDoorL05
import Derived.Test.YtpdbmpbmepkikaaGreatDoorL08
set_option maxRecDepth 100000
set_option maxHeartbeats 400000
set_option linter.all false
open Go.Proofs.Tryz
open And renaming intro->aM
open Bool renaming true->Z,false->ai
open Classical renaming choose->IG
open Decidable renaming decide->bP
open Go renaming reachBytes->IB,World->ax,Value->az,Calls->bz,TypeId->dV,Addr->eF,lone->iZ,runNT->ic,maxLen->vQ
open Go.CallKind renaming normal->eo
open Go.DataW renaming weightsAll->ab2,weights->abU
open Go.Ending renaming returned->bj
open Go.Frame renaming enter->eP
open Go.IntKind renaming i64->aG
open Go.Obj renaming cells->aH,map->iY
open Go.Proofs.Tryz renaming prog->aD
open Go.RowKit renaming Below->aY,Hid->dx,wrap64->jM
open Go.Stepped renaming next->fR
open Go.Value renaming oneCell'->A5,cells->A8,ownBlock->Fz,okWide->IC,int->Y,slice->aC,string->aE,pointer->aF,agg->bO,tuple->bQ,bool->cx,iface->iK
open Go.World renaming setCell->jL,cell?->pz
open List renaming range->mR
open Option renaming some->U,none->V
open Or renaming inr->aB,inl->ay
namespace Go.Proofs.YtpdbmpbmepkikaaGreatDoor
def ah9:=@Int.emod_nonneg
def SM:=@Go.DataW.trod_string
def ah8:=@List.mem_flatten
def Y2:=@List.mem_append_left
def ah6:=@List.getElem_of_mem
def ayR:=@List.mem_of_getElem?
def ah5:=@Option.isSome_none
def Y0:=@Array.getElem?_append_right
section
open Go.RowKit
theorem XP(c)(n:Nat)(w)(m:0<n)(k:n<=1000000)(j:ij c):bz Q 18 #[c,n] w λe g=>e=bj (tH c n)/\g=w:=by
 have a:((tH c n:Nat):Int)=(if c<0 then-(c+1)else c)%n:=by grind[tH,Int.toNat_of_nonneg,Int.emod_nonneg]
 have i:¬(n:Int)=0:=by omega
 have h:¬n=0:=by omega
 obtain⟨o,q⟩:=j;by_cases h0:c<0
 .have r:aG.wrap (c+1)=c+1:=by grind[IntKind.wrap_i64]
  have p:aG.wrap (-(c+1))=-(c+1):=by grind[IntKind.wrap_i64]
  have l:(-(c+1)).tmod (n:Int)=-(c+1)%n:=by grind
  rw[cJ h0]at a;have d:=X (aM a<|aM (Zd (-(c+1))<|show(0:Int)<n by omega)<|ah9 (-(c+1))<|show(n:Int)≠0 by omega);go_enter adO,ntmps18;go_wp2;go_ret;obtain⟨a,_,_⟩:=d.out;exact⟨congrArg (λz=>bj<|Y aG z) a.symm,rfl⟩
 .have l:c.tmod (n:Int)=c%n:=by grind
  have f:=Zd c (show(0:Int)<n by omega);have b:=ah9 c (show(n:Int)≠0 by omega);rw[if_neg h0]at a;have d:=X<|aM a<|aM f b;clear a f b;go_enter adO,ntmps18;go_wp2;go_ret;obtain⟨a,_,_⟩:=d.out;exact⟨congrArg (λz=>bj<|Y aG z) a.symm,rfl⟩
theorem Yk(pw)(v)(q)(id)(w)(E:rF w pw v q)(EM:q.length<=1000000):bz Q 37 #[aF pw,Y aG id] w λe B=>e=bj Z∧∃A p m g,rF B pw A (q++[p])∧fq B p id m g∧cI B m []∧cU (qY aG) B g []∧w<=p∧w<=m∧w<=g∧m≠g∧(∀b,A.ownBlock=U b->v.ownBlock=b∨w<=b)∧O (λb=>b=pw∨v.ownBlock=b) w B:=by
 obtain⟨Q0,i,J,K,I⟩:=tT azG;have d:=(dm.1 E.box).1;have Q2:=X<|axl id w;have x:=X E;go_enter apZ,ntmps37;go_wp2_with(first|(go_at_call 50;refine Q2.out.mono ?_;rintro e C⟨rfl,G,F,H,f⟩;refine Halt.of ?_));have a:=X<|aM G<|aM F<|aM H f;have R:=(f.cell (p:=pw) d).trans<|M E.box 0;have KV:=(f.frozen (p:=pw) d).trans<|vo E.box 0;have D:=cB d f.size;have z:=dB x.out.row λg N=>f.block g (x.out.row.lt g N).2;have r:=X z;unfold Halt;go_wp2_with(at_builtin;go_must(refine SS _ rfl _ _ 72 rfl 0 77 Q0 (aF V) 1 8 apb i J K I rfl (by decide) v q.length _ rfl (dB r.out λg N=>dr _ _ _ (r.out.lt g N).2) C.heap.size 1 1 [aF<|U ⟨w.heap.size+2,0,V⟩] rfl rfl (BY (by grind) _ _ rfl) (by simp[A5]) (by unfold vQ;omega) (by omega) (by simp) ?_);intro v5 t l c _ n;refine Halt.of ?_);have y:pw≠v.ownBlock:=λe=>x.out.ne e.symm;have L:=(c.block _ (by simp;omega) y).trans<|dr _ _ _ D;have S:t.cell? pw=v:=by grind[World.cell?_of_block]
 have hf5:t.frozen? pw=ai:=by grind[World.frozen?_of_block]
 obtain⟨Q3,o,QX⟩:=Ca l;subst QX;unfold Halt;go_wp2;go_ret;obtain⟨l,c,n,L⟩:=(X<|aM l<|aM c<|aM n L).out;obtain⟨G,F,H,f⟩:=a.out;have W:=f.size;have s:∀k,k<C.heap.size->k≠pw->k≠v.ownBlock->(t.setCell pw<|aC Q3 (q.length+1) o).heap[k]?=C.heap[k]?:=λk j Q1 h2=>(gJ _ _ _ _ Q1).trans<|(c.block k (by simp;omega) h2).trans<|dr _ _ _ j;have T:=λk j=>(x.out.row.lt k j).2;have u:∀k,w.heap.size<=k->k<C->(t.setCell pw<|aC Q3 (q.length+1) o).heap[k]?=C.heap[k]?:=λk h0 j=>s k j (by omega) (λe=>by grind);refine⟨rfl,_,w+2,w,w+1,⟨An<|L.trans<|(f.block pw d).trans x.out.box,?_⟩,(u _ (by omega) G.lt).trans G,F.of_block<|u _ (by omega) F.lt,H.of_block<|u _ (by omega) H.lt,by omega,by omega,by omega,by omega,?_,?_⟩
 ·have e:(q++[w.heap.size+2]).map (λp=>aF<|U ⟨p,0,V⟩)=q.map (λp=>aF<|U ⟨p,0,V⟩)++[aF<|U ⟨w+2,0,V⟩]:=by simp
  rw[e,kM];refine dB l λk j=>gJ _ _ _ _ λQW=>?_;simp only[Fz,dX]at j n;simp only at QW;rcases n with h|h;·rw[j,QW]at h;exact y h
  grind[World.size_alloc]
 ·grind[World.size_alloc,Option.some.injEq]
 ·refine⟨?_,?_,?_,?_,λk j P=>?_⟩;·show t.os=_;rw[c.os];exact f.os
  ·show t.tape=_;rw[c.tape];exact f.tape
  ·show t.output=_;rw[c.output];exact f.output
  ·have:=c.size;simp[jL]at this⊢;omega
  ·exact(s k (by omega) (λe=>P<|ay e) λe=>P<|aB e.symm).trans<|f.block k j
theorem adh{w w'}{o}{s}{u}(h:rF w o s u)(r:O (λb=>b=o\/s.ownBlock=b) w w'):(∀p id m g,fq w p id m g->fq w' p id m g)/\(∀m L,cI w m L->cI w' m L)/\∀g i,cU (qY aG) w g i->cU (qY aG) w' g i:=by
 have t:∀(b:Nat)(d:_)(c:_),w.heap[b]?=U (iY d c)->w'.heap[b]?=w.heap[b]?:=λb d c j=>r.block b (dm.1 j).1 λe=>by
  rcases e with e|e;.rw[e,h.box]at j;cases j
  .obtain⟨k,a⟩:=XH h.row e;grind
 refine⟨λp id m g f=>(r.block p f.lt λe=>?_).trans f,λm L l=>?_,λg i n=>?_⟩
 .rcases e with e|e;.exact amP f h.box (by decide) e
  .obtain⟨k,a⟩:=XH h.row e;exact amP f a (by decide) rfl
 .obtain⟨d,c,q,_⟩:=id l;exact l.of_block<|t _ _ _ q
 .obtain⟨d,c,q,_⟩:=id n;exact n.of_block<|t _ _ _ q
def R3(a b c:Rk):Nat->Rk:=λk=>if k=0 then a else if k=1 then b else c
theorem acQ(a b c):R3 a b c 0=a:=rfl
theorem acP(a b c):R3 a b c 1=b:=rfl
theorem acO(a b c):R3 a b c 2=c:=rfl
theorem av0{w:ax}:rF (w.alloc<|aH #[aC V 0 0] 74) w (aC V 0 0) []:=⟨gI _ _,mL _ _ _ _⟩
theorem Wv(w):bz Q 16 #[] w λe w'=>∃(Q2:Nat)(pv:az)(R:Nat->Rk),e=bj (bQ #[aF Q2,Z])/\iB w 0 0 [] w' Q2 pv R/\(∀k,k<3->(R k).id=k+1/\(R k).l=[]/\(R k).bs=[])/\aY w w w':=by
 obtain⟨o,f⟩:∃o,o=w.alloc (aH #[aC V 0 0] 74):=⟨_,rfl⟩;have q:rF o w (aC V 0 0) []:=by grind[av0]
 have n:aY w w o:=by rw[f];exact(dK _ _).alloc (aQ _) _
 have s:o.heap.size=w+1:=by rw[f];simp
 have HW:=X<|aM f<|aM q<|aM n s;go_enter aqB,ntmps16;go_wp2_with(go_at_call 37;rw[<-HW.out.1];go_must(refine(X<|Yk w _ [] 1 o q<|by simp).out.mono ?_);rintro e O⟨rfl,l⟩;have H2:=X l;refine Halt.of ?_);unfold Halt;obtain⟨K,Q3,m0,P,A,C,D,E,a5,T,a,a8,H,c⟩:=H2.out;go_wp2_with(go_at_call 37;go_must(refine(X<|Yk w _ _ 2 O A<|by simp).out.mono ?_);rintro e M⟨rfl,l⟩;have H3:=X l;refine Halt.of ?_);unfold Halt;obtain⟨lv3,W,Q1,g1,B,F,z,G,b5,b6,b7,b8,b9,d⟩:=H3.out;have HB:=X<|aM B<|aM F<|aM z<|aM G<|aM b5<|aM b6<|aM b7<|aM b8<|aM b9 d;go_wp2_with(go_at_call 37;go_must(refine(X<|Yk w _ _ 3 M B<|by simp).out.mono ?_);rintro e r⟨rfl,l⟩;have H4:=X l;refine Halt.of ?_);unfold Halt;go_wp2;go_ret2;obtain⟨A,C,D,E,a5,T,a,a8,H,c⟩:=(X<|aM A<|aM C<|aM D<|aM E<|aM a5<|aM T<|aM a<|aM a8<|aM H c).out;obtain⟨B,F,z,G,b5,b6,b7,b8,b9,d⟩:=HB.out;obtain⟨t,S,m2,Q0,c1,c2,c3,c4,c5,c6,c7,c8,c9,v⟩:=H4.out;obtain⟨-,q,n,s⟩:=HW.out;obtain⟨r1,r2,r3⟩:=adh A d;obtain⟨QW,s2,s3⟩:=adh B v;have l0:=C.lt;have l1:=D.lt;have l2:=E.lt;have l3:=F.lt;have l4:=z.lt;have l5:=G.lt;have z0:=c.size;have v1:∀b,K.ownBlock=U b->w<=b:=λb u=>by
  rcases H b u with h|h;.cases h
  .omega
 have v3:∀b,t.ownBlock=U b->w<=b:=λb u=>by grind
 have J:∀(p:Nat)(id:Int)(m g:Nat),fq r p id m g->cI r m []->cU (qY aG) r g []->w<=p->w<=m->w<=g->ij id->wj w 0 0 [] r ⟨p,id,m,g,[],[],[]⟩:=λp id m g q1 q2 q3 q4 q5 q6 q7=>⟨q1,q2,⟨List.Perm.refl _,List.Pairwise.nil,λx l=>by cases l⟩,q3,λy I=>(by cases I),λy I=>(by cases I),λk=>⟨0,rfl,aQ _⟩,q4,q5,q6,q7⟩;refine⟨w,t,R3 ⟨Q3,1,m0,P,[],[],[]⟩ ⟨W,2,Q1,g1,[],[],[]⟩ ⟨S,3,m2,Q0,[],[],[]⟩,rfl,⟨c1,λi N=>?_,λi j N hj L=>?_,λi j N hj=>?_,λi j N hj L=>?_,aQ _,v3,aQ _⟩,λk hk=>?_,?_⟩
 .have:i=0\/i=1\/i=2:=by omega
  rcases this with rfl|rfl|rfl;.exact J Q3 1 m0 P (QW _ _ _ _<|r1 _ _ _ _ C) (s2 _ _<|r2 _ _ D) (s3 _ _<|r3 _ _ E) (by omega) (by omega) (by omega)<|by grind[ij]
  .exact J W 2 Q1 g1 (QW _ _ _ _ F) (s2 _ _ z) (s3 _ _ G) (by omega) (by omega) (by omega)<|by grind[ij]
  .exact J S 3 m2 Q0 c2 c3 c4 (by omega) (by omega) (by omega)<|by grind[ij]
 .have h1:i=0\/i=1\/i=2:=by omega
  have h2:j=0\/j=1\/j=2:=by omega
  grind[acQ,acP,acO]
 .have h1:i=0\/i=1\/i=2:=by omega
  have h2:j=0\/j=1\/j=2:=by omega
  grind[acQ,acP,acO]
 .have h1:i=0\/i=1\/i=2:=by omega
  have h2:j=0\/j=1\/j=2:=by omega
  grind[acQ,acP,acO]
 .have:k=0\/k=1\/k=2:=by omega
  rcases this with rfl|rfl|rfl<;>exact⟨rfl,rfl,rfl⟩
 .have k1:aY w o O:=c.below (by omega) λb u h=>by
   rcases h with h|h;.omega
   .cases h
  have k2:aY w O M:=d.below (by omega) λb u h=>by grind
  have k3:aY w M r:=v.below (by omega) λb u h=>by grind
  exact((n.trans k1).trans k2).trans k3
section
variable {A B X C X' Y':List s}
theorem am7(d:yC A B X)(c:yC B A C)(n f):ir (D X n f) (D C n f)=ir (D A n f) (D B n f):=by have g:=tc A n f;have e:=tc B n f;have h:=axX g e;rcases d n f with b|b<;>rcases c n f with a|a<;>rw[b,a];all_goals grind[SB,SC,El]
theorem am4(b:yC A B X)(c:yC B A C)(a:yC X C X'):yC A B X':=λn f=>by
 rcases a n f with e|e;.rw[e];exact b n f
 grind[am7]
theorem aFM(a:j X)(c:j C)(b:j A)(d:j B)(g:yC A B X)(e:yC B A C):fZ X C=fZ A B:=Di (ue a C) (ue b B) λn f=>by grind[NO,am7]
theorem am5(a:j X)(b:j A)(h:yC A A X):X=A:=Di a b λn f=>by rcases h n f with e|e;all_goals grind[El]
structure Wd(A B:List s)(n t:Nat)(X C:List s):Prop where
 bk:tA A B X C
 all:(∃u,1<=u/\u<=t/\(n+u)%8=0)->X=fZ A B/\C=fZ A B
theorem Wd.start(d:j A)(a:j B)(b:∀x∈A,Good x)(c:∀x∈B,Good x)(n):Wd A B n 0 A B:=⟨.start d a b c,λ⟨u,f,e,_⟩=>by omega⟩
theorem Wd.next{n t}{l}{o fr sz}(h:Wd A B n t X C)(H:Vl l X C o V X' Y' fr sz)(c:(n+(t+1))%8=0->l):Wd A B n (t+1) X' Y':=by
 have a:=h.bk;have k:=H.bk;refine⟨⟨a.sA,a.sB,k.sX,k.sY,k.gX,k.gY,am4 a.bX a.bY k.bX,am4 a.bY a.bX k.bY⟩,λ⟨u,m,p,j⟩=>?_⟩;by_cases e:u=t+1;.subst e;obtain⟨b,d⟩:=H.whole (ay rfl)<|c j;rw[b,d,aFM a.sX a.sY a.sA a.sB a.bX a.bY];grind
 .obtain⟨b,d⟩:=h.all ⟨u,m,by omega,j⟩;have g:=k.bX;have f:=k.bY;have i:=ue a.sA B;rw[b,d]at g f;exact⟨am5 k.sX i g,am5 k.sY i f⟩
theorem Wd.eight{n}(h:Wd A B n 8 X C):X=fZ A B/\C=fZ A B:=h.all ⟨8-n%8,by omega,by omega,by omega⟩
end
structure anG(N K S:Nat)(ks:Keys)(w w':ax)(pw:Nat)(pv:az)(R R':Nat->Rk)(i j:Nat):Prop where
 iC:iB N K S ks w' pw pv R'
 li:(R' i).l=fZ (R i).l (R j).l
 lj:(R' j).l=fZ (R i).l (R j).l
 lk:∀k,k≠i->k≠j->(R' k).l=(R k).l
 same:oM R R'
 keep:O (oO R) w w'
 cnt:∀n:Nat,(look (R i).bs (R j).id).getD (Y aG 0)=Y aG n->(look (R' i).bs (R j).id).getD (Y aG 0)=Y aG ((n+8:Nat):Int)
theorem FZ(N K S)(G)(w)(E)(pv)(R)(i j:Nat)(p:i<3)(x:j<3)(A:i≠j)(h:iB N K S G w E pv R)(hN:5<=N)(hK:K<=4096)(hS:S<=1000000)(ht:fx w)(hf:pK w):bz Q 19 #[aF E,i,j] w λe T=>e=bj (bQ #[])/\∃d,anG N K (S+8) G w T E pv R d i j:=by
 obtain⟨n,hn,J⟩:=(h.eT i p).Gp (R j).id;have F:Wd (R i).l (R j).l n 0 (R i).l (R j).l:=.start (h.eT i p).bk.sorted (h.eT j x).bk.sorted (h.eT i p).bk.nL (h.eT j x).bk.nL n;have v:=Bm.mk h ht hf hn J F;go_enter aql,ntmps19;go_wp2;go_loopg[6]8λk Q2 wr=>∃(t:Nat)(d:Nat->Rk),Q2=t/\k+t=8/\iB N K (S+t) G wr E pv d/\Wd (R i).l (R j).l n t (d i).l (d j).l/\(∀k,k≠i->k≠j->(d k).l=(R k).l)/\oM R d/\(look (d i).bs (R j).id).getD (Y aG 0)=((n+t:Nat):Int)/\O (oO R) w wr;case atStart=>exact⟨0,R,rfl,rfl,v.a,v.f,λ_ _ _=>rfl,oM.refl R,v.d,O.refl _ _⟩
 case round=>
  obtain⟨t,d,rfl,W,l,g,B,hid,z,f⟩:=hrel;by_cases ht8:t<8
  .have L:(t:Int)<8:=by omega
   have o:=l.eT i p;have u:=l.eT j x;have y:∀k,k<3->(d k).l.length<=4096:=λk hk=>by have:=(l.eT k hk).len;have:=l.kl;omega
   have s:(look (d i).bs (d j).id).getD (Y aG 0)=((n+t:Nat):Int):=by rw[hid.id j];exact z
   have C:=X<|ar5 E pv (jR d) i j p x (d i).r4 (d j).r4 ((n+t:Nat):Int) (d i).L (d j).L (d i).l (d j).l (d i).bs (aC V 0 0) V wr l.lN (by grind[qS]) (xQ d p) (xQ d x) o.rep u.rep (λe=>by have r:=o.rep;have D:=u.rep;unfold fq at r D;have e':(d i).p=(d j).p:=e;rw[e',D]at r;injection r with r;injection r with r;simp at r;exact l.ms i j p x A r.2.1.symm) (l.ms i j p x A) (l.gm i i p p) (l.gm i j p x) o.book u.book o.bk u.bk (o.fits<|by omega) (u.fits<|by omega) (y i p) (y j x) (v.b.keep f λq=>by have:=v.a.lo q;omega) ((f.block 4 (dm.1 v.c).1 λq=>by have:=v.a.lo q;omega).trans v.c) o.map s (by omega) (by have:=v.e;omega) rfl;have I:=Bm.mk l g B hid s f;have H:aG.wrap ((t:Int)+1)=(t:Int)+1:=by grind[IntKind.wrap_i64]
   have c:jM ((t:Int)+1)=(t:Int)+1:=by unfold jM;omega
   go_wp2_with(go_at_call 23;go_must(refine C.out.mono ?_);rintro e w7 P;obtain⟨fr,sz,A',B',M,rfl,r,D⟩:=I.a.sync p x A I.e P;have Q0:=X<|aM r D;refine Halt.of ?_);unfold Halt;go_wp2;go_roundg(gk-1);case rel=>obtain⟨l,g,B,hid,s,f⟩:=I;obtain⟨r,D,U,Q1,h5,Z,h7,h8⟩:=Q0.out;refine⟨t+1,M,congrArg (Y aG)<|by omega,by omega,D,?_,λk a b=>(h5 k a b).trans<|B k a b,hid.trans Z,by rw[<-hid.id j];exact h7,f.trans<|by rw[<-hid.maps];exact h8⟩;rw[U,Q1];exact g.next r λe=>ay<|by omega
   grind
  .have:t=8:=by omega
   subst this;go_wp2;go_end0;obtain⟨l,g,B,hid,f,z⟩:=(X<|aM l<|aM g<|aM B<|aM hid<|aM f z).out;exact⟨rfl,d,l,g.eight.1,g.eight.2,B,hid,f,λm hm=>by have h:=v.d.symm.trans hm;grind⟩
structure kH where
 who:Int
 n:ByteArray
 f:ByteArray
 v:ByteArray
def kH.cells(x:kH):List az:=[Y aG x.who,aE x.n,aE x.f,aE x.v]
def zG(l:List kH):List az:=l.flatMap kH.cells
theorem abI{l}{j}(a)(i)(d:i<4):(zG l)[j*4+i]?=l[j].cells[i]?:=by induction l generalizing j with|nil=>grind|cons x l c=>show(x.cells++zG l)[j*4+i]?=_;have b:x.cells.length=4:=rfl;grind
def FX(w:ax)(v:az)(l:List kH):Prop:=(∃ad cap,v=aC ad 0 cap)/\l=[]\/∃g off cap,v=aC (U ⟨g,off,V⟩) l.length cap/\g<w.heap.size/\∀i u,(zG l)[i]?=U u->w.cell? ⟨g,off+i,V⟩=U u
def sW(x:kH):Nat:=4+x.n.size+x.f.size+x.v.size/4
def oc(l:List kH):Nat:=l.foldl (λn x=>n+sW x) 0
theorem ar7(l)(x):oc (l++[x])=oc l+sW x:=by simp[oc]
theorem ar6{l:List kH}{j}(a):oc (l.take<|j+1)=oc (l.take j)+sW l[j]:=by grind[List.take_add_one,List.getElem?_eq_getElem,Option.toList_some,ar7]
theorem asa(l l'):oc l<=oc (l++l'):=by unfold oc;rw[List.foldl_append];generalize List.foldl (λn x=>n+sW x) 0 l=k;induction l' generalizing k with|nil=>grind|cons x l' b=>grind
theorem ar8(l)(j):oc (l.take j)<=oc l:=by grind[asa,List.take_append_drop]
def Gj(l:List kH):Bool:=bP<|oc l<=1200
set_option maxHeartbeats 1000000 in
theorem asH(v)(l)(w)(h:FX w v l)(hl:l.length<=140737488355328)(K:∀x∈l,x.n.size<=140737488355328/\x.f.size<=140737488355328/\x.v.size<=140737488355328):bz Q 14 #[v] w λe P=>e=bj (Gj l)/\aY w w P:=by
 rcases h with⟨⟨ad,cap,rfl⟩,rfl⟩|⟨g,a,cap,rfl,hg,hc⟩
 .go_enter adS,ntmps14;go_wp2;go_loopg[3,4]0λk m i wr=>m=Y aG 0/\i=Y aG 0/\wr=w;case atStart=>grind
  case round=>obtain⟨rfl,rfl,rfl⟩:=hrel;go_wp2;go_ret;exact⟨yK<|by simp[Gj,oc],dK _ _⟩
 .have L:=X hc;have HZ:=X K;go_enter adS,ntmps14;go_wp2;go_loopg[3,4]l.lengthλk m i wr=>∃(j z:Nat),m=Y aG z/\i=Y aG j/\k+j=l.length/\z=oc (l.take j)/\z<=1200/\aY w.heap.size w wr;case atStart=>grind[oc,Below.refl]
  case round=>
   obtain⟨j,z,rfl,rfl,hk,D,wX,d⟩:=hrel;by_cases hj:j<l.length
   .obtain⟨x,hx⟩:=ex l[j];have Tq:=HZ.out l[j]<|nC hj;have H:=ar6 hj;have o:=ar8 l<|j+1;rw[<-hx]at Tq H;have kc:∀i,i<4->∀u,x.cells[i]?=U u->wr.cell? ⟨g,a+j*4+i,V⟩=U u:=λi O u hu=>(d.cell (p:=⟨g,a+j*4+i,V⟩) hg).trans (by rw[Nat.add_assoc];exact L.out _ _<|by rw[abI hj i O,<-hx];exact hu);have I:=kc 1 (by omega) _ rfl;have y5:=kc 2 (by omega) _ rfl;have T:=kc 3 (by omega) _ rfl;have C:4+x.n.size+x.f.size+x.v.size/4=sW x:=rfl;obtain⟨N,E,hx3⟩:=Tq;have oC:(j:Int)<(l.length:Int):=by omega
    obtain⟨q,A⟩:=ex<|x.v.size/4;rw[<-A]at C;have M:q<=140737488355328:=by omega
    have wq:(x.v.size:Int).tdiv 4=(q:Int):=by rw[A];rfl
    have w5:aG.wrap (q:Int)=(q:Int):=by rw[qW];omega
    have w0:aG.wrap ((z:Int)+4)=z+4:=by rw[qW];omega
    have w1:aG.wrap ((z:Int)+4+x.n.size)=z+4+x.n.size:=by rw[qW];omega
    have w2:aG.wrap ((z:Int)+4+x.n.size+x.f.size)=z+4+x.n.size+x.f.size:=by rw[qW];omega
    have F:aG.wrap ((z:Int)+4+x.n.size+x.f.size+q)=z+4+x.n.size+x.f.size+q:=by rw[qW];omega
    have t:=Dr.mk H o D hx<|show aY w.heap.size w wr.drew from d.drew;clear H o D hx kc d A;by_cases KX:1200<z+4+x.n.size+x.f.size+q
    .have hbi:(1200:Int)<(z:Int)+4+x.n.size+x.f.size+q:=by omega
     go_wp2;go_region_held3λW=>W.cell? ⟨g,a+j*4+1,V⟩=U (aE x.n)/\W.cell? ⟨g,a+j*4+2,V⟩=U (aE x.f)/\W.cell? ⟨g,a+j*4+3,V⟩=U (aE x.v)(go_keep)(fail);go_wp2;go_ret;obtain⟨H,o,D,hx,d⟩:=id t;exact⟨yK<|by simp[Gj];omega,d⟩
    .go_wp2;go_region_held3λW=>W.cell? ⟨g,a+j*4+1,V⟩=U (aE x.n)/\W.cell? ⟨g,a+j*4+2,V⟩=U (aE x.f)/\W.cell? ⟨g,a+j*4+3,V⟩=U (aE x.v)(go_keep)(fail);go_wp2;go_roundg(gk-1);case rel=>obtain⟨H,o,D,hx,d⟩:=t;exact⟨j+1,z+4+x.n.size+x.f.size+q,by simp,by go_simp,by omega,by omega,by omega,d⟩
     case measure=>omega
   .have B:j=l.length:=by omega
    subst B;rw[vk]at D;have t:=cH.mk D d;go_wp2;go_ret;obtain⟨D,d⟩:=t;exact⟨yK<|by simp[Gj];omega,d⟩
end
section
open Go.ChangeShapes Go.WideShapes Go.RowKit Go.Conc
section
variable {H:Type} {enc:dV×az->H}
theorem afL{a}{C}{os}{f}{fn}{s:OpenSpec}{F}{l}{c p g n}{q}(K:ownKnob C.prog.godebug=V)(m:os.Started)(P:C.prog.funcs[f]?=U fn)(r:∃(w:ax)(b:Tape)(i:Input),w.os=os/\(w.forCall b i).Shaped C.prog/\i.vars=[]/\Input.okWide C.prog (w.forCall b i) .any w f i/\s.preRow enc C.prog fn l c q (w.forCall b i).memory i.args/\a.holds C.prog (iZ (eP C.prog f i.args eo) []<|w.forCall b i))(A:∀(W)(base)(h)(y B)(d),(∀(j:Nat)t v,fn.params[j]?=U t->h[j]?=U v->IC C.prog W .any base t v)->DataW.Whole enc C.prog fn.params.toList s.vars c W h.toList y B d->l.all (PathCond.test C.prog ⟨fn.params.toList,y,s.bare.plain.varTypes C.prog,B⟩)=Z->(DataW.weightsEach C.prog (fn.params.toList++s.bare.plain.varTypes C.prog)<|y++B).all (.<=IB)=Z->laidMetH C.prog q W->W.ShapedOpen C.prog->∃M k o z D,ic C.prog (M+1) (solo (G (eP C.prog f h eo) []) W) #[]=(.ended o z,D)/\runN C.prog M (solo (G (eP C.prog f h eo) []) W)=fR k/\step C.prog k=.ended o z/\Conc.Good C.prog (λv R=>(s.at F).post enc C.prog fn c p g n W h v R) k o z D):ReturnsInLeavingWide a C os f .any (s.preRow enc C.prog fn l c q)<|(s.at F).post enc C.prog fn c p g n:=by
 refine returnsInLeavingWide_of_good K m r ?_;intro w b i _ I _ E x _;obtain⟨_,_,_,J,O,_,_,_,_,u⟩:=E;have e:J=fn:=by grind
 subst e;obtain⟨⟨L,Q2⟩,S⟩:=x;obtain⟨y,B,d,N,Q,Q1⟩:=OpenSpec.pre_parts L;obtain⟨M,k,o,z,D,Q0,Y,X,T⟩:=A (w.forCall b i) w i.args y B d u (DataW.Whole.of_heap (w':=w.forCall b i) (by rfl) N) Q (S.weights N) (Q2.of_heap<|by rfl) I;exact⟨M,k,o,z,D,Q0,Y,X,T.mono λv L=>ChangeSpec.post_blind L⟩
end
theorem amR{l}{p}{s}{c}{a}{b}{d}{g}(v:c.holds p s)(n:c.wfByText s=Z)(e:c.laidByTextAt l p a b)(k:c.start=.entering)(i:c.noBlocks=ai/\c.again=ai)(x:p.checked.prog.mainIs=U (d.1,d.2.toList))(q:(!d.1&&d.2.isEmpty&&!g)=ai)(u:∀f m,p.checked.prog.funcNamed c.func=U f->p.checked.prog.funcs[f]?=U m->g=p.checked.prog.looks []/\∀(j:Nat)t,m.params[j]?=U t->p.checked.prog.wantsStandIn t=ai)(w:Z=c.goesBy p.checked.prog):Claim7.holds p (.plain s) {stood:={row:=c,standIns:=[],harness:=d,looks:=g},kinds:=[],alts:=[],goes:=Z,laidByText:=Z,laidKinds:=a,laidTests:=b,laidLooks:=l}:=by exact⟨Claim7.tied_new_at l a b (Claim7.new_of_sixth v d g k i x ((λr=>by simpa[Claim7.isSixth]using q) c) u) n,λD o=>(by cases o),e,(λh=>by cases h),w⟩
section
variable {H:Type} {enc:dV×az->H} {w:ax} {base:Nat} {spare:Nat->Bool} {held:Bool}
open Go.Deep
def Iq{H:Type}(x:kH):DataW H:=.agg [.lit<|.int aG x.who,.lit<|.string x.n.data.toList,.lit<|.string x.f.data.toList,.lit<|.string x.v.data.toList]
theorem alc{fs}(h:aD.underlying 30=U (.struct fs)):oneCellFields aD fs=Z∧fs.toList.map (·.type)=[3,9,9,9]:=by have e:=(underlying30).symm.trans h;simp only[dX,TypeDesc.struct.injEq]at e;subst e;exact⟨by kernel_rfl,rfl⟩
theorem ads:∃a,aD.underlying 30=U (.struct a):=⟨_,underlying30⟩
theorem LH:aD.cellsOf 30=4:=by kernel_rfl
theorem YJ{t:Type}{l:List t}(h:l.length=4):∃a b c d,l=[a,b,c,d]:=by
 rcases l with _|⟨a,l⟩;.simp at h
 rcases l with _|⟨b,l⟩;.simp at h
 rcases l with _|⟨c,l⟩;.simp at h
 rcases l with _|⟨d,l⟩;.simp at h
 rcases l with _|⟨i,l⟩;all_goals grind
theorem awB{d}{cs}{x}(h:DataW.trod enc aD w base spare held d 30 cs=U x):∃o,cs=o.cells/\x=(Iq o,[])/\ij o.who:=by
 obtain⟨M,z⟩:=ads;obtain⟨m,c⟩:=alc z;obtain⟨xs,n,_,D,t,hl,hf⟩:=DataW.trod_struct z h;rw[LH]at t;obtain⟨fl⟩:=M;obtain⟨u,k,y,q,rfl⟩:=YJ (l:=fl) (by have:=congrArg List.length c;grind);simp only[gh,qs,GU,and_true]at c;obtain⟨L,F,E,J⟩:=c;obtain⟨O,R,V,Q,rfl⟩:=YJ t;have b:∀(j:Nat)(f:Field),(#[u,k,y,q]:Array Field)[j]?=f->DataW.trod enc aD w base spare held n f.type ((([O,R,V,Q]:List az).drop j).take 1)=xs[j]?:=λj f hj=>by grind[hone_of]
 obtain⟨X,Y,W,Z,rfl⟩:=YJ (l:=xs) (by grind);have g:=b 0 u rfl;have A:=b 1 k rfl;have v:=b 2 y rfl;have s:=b 3 q rfl;rw[L]at g;rw[F]at A;rw[E]at v;rw[J]at s;obtain⟨C,l,S,e⟩:=DataW.trod_int underlying3 g;obtain⟨B,i,T,_⟩:=SM underlying9 A;obtain⟨P,p,K,_⟩:=SM underlying9 v;obtain⟨I,r,N,_⟩:=SM underlying9 s;simp only[List.drop_zero,List.drop_succ_cons,List.take_succ_cons,Nv,GU,and_true]at l i p r;subst l i p r S T K N;refine⟨⟨C,B,P,I⟩,rfl,by rw[D];rfl,?_⟩;simpa[Lit.wf,IntKind.min,IntKind.max,IntKind.signed,IntKind.bits,ij]using e
theorem aFF:aD.bytesOf 30=56:=by kernel_rfl
theorem aoM(x):(Iq (H:=H) x).weights aD 30=[x.n.size,x.f.size,x.v.size]:=by obtain⟨c,b⟩:=ads;obtain⟨_,a⟩:=alc b;unfold Iq abU;rw[b];simp only;rw[a];simp[DataW.weightsEach,abU]
theorem aoN{P}{e}{ds:List<|DataW H}{d}(h:d∈ds){n}(a:n∈d.weights P e):n∈ab2 P e ds:=by induction ds with|nil=>cases h|cons y ds b=>rw[ab2,Tk];grind
theorem awA{r:_root_.Go.Reach}{n:Nat}{v:az}{d:DataW H}{p:List MemPlace}(hv:IC aD w r n 22 v)(h:DataW.Trod enc aD w base spare held 22 v d p)(hz:∀n∈d.weights aD 22,n<=IB):∃l:List kH,FX w v l/\l.length<=140737488355328/\(∀x∈l,x.n.size<=140737488355328/\x.f.size<=140737488355328/\x.v.size<=140737488355328)/\∀x∈l,ij x.who:=by
 obtain⟨Q0,W,c0,rfl⟩:=okWide_slice underlying22 hv;obtain⟨X,hf⟩:=h;rcases open_slice underlying22 hf with⟨I,A⟩|⟨a,c,M,m,n,D,Pl,I,hb,P,hm,R,A,hi⟩
 .have e:(aC Q0 W c0:az)=aC V 0 0:=by simpa[A8]using I
  rw[e];exact⟨[],ay ⟨⟨_,_,rfl⟩,rfl⟩,lP _,λx A=>(by cases A),λx A=>by cases A⟩
 .have e:(aC Q0 W c0:az)=aC (U a) c M:=by simpa[A8]using I
  rw[e];have hlm:c<=m:=by rw[R];split<;>omega
  have step:∀i,i<c->∃o:kH,D i=Iq o/\ij o.who/\∀j u,o.cells[j]?=U u->w.cell? ((a.add<|i*4).add j)=U u:=λi y=>by obtain⟨cs',Q1,ht⟩:=hi i (by omega);rw[LH]at Q1;obtain⟨o,ho,L,hI⟩:=awB ht;simp only[Ez]at L;obtain⟨_,jJ,T⟩:=World.cells?_some Q1;refine⟨o,L.1,hI,λj u E=>?_⟩;have hj:j<4:=(SU.1 E).1;rw[T j hj,ho];exact E
  let f:Nat->kH:=λi=>if h:i<c then IG (step i h)else⟨0,⟨#[]⟩,⟨#[]⟩,⟨#[]⟩⟩;have F:∀i,i<c->D i=Iq (f i)/\ij (f i).who/\∀j u,(f i).cells[j]?=U u->w.cell? ((a.add<|i*4).add j)=U u:=λi y=>by have:=Aw<|step i y;have e:f i=IG (step i y):=wP y;rw[e];exact this
  obtain⟨l,P⟩:=ex<|(mR c).map f;have z:l.length=c:=by rw[P];simp
  have q:∀i(h:i<l.length),l[i]=f i:=λi h=>by subst P;simp
  simp only[Ez]at A;have b:∀k∈c*56::((mR c).map λi=>(Iq (H:=H)<|f i).weights aD 30).flatten,k<=IB:=λk J=>by
   have hdw:d.weights aD 22=(c+(m-c))*56::(ab2 aD 30 ((mR c).map D)++ab2 aD 30 ((mR<|m-c).map λj=>D<|c+j)):=by rw[A.1,abU,underlying22];simp[aFF]
   rcases di.1 J with rfl|J;.have:=hz ((c+(m-c))*56) (by grind);grind
   .obtain⟨ws,S,OA⟩:=ah8.1 J;obtain⟨i,y,rfl⟩:=ki.1 S;have aJz:=Ku.1 y;refine hz k ?_;grind[List.mem_cons_of_mem,List.mem_append_left,aoN,List.mem_map_of_mem]
  refine⟨l,?_,?_,λx A=>?_,λx A=>?_⟩
  .by_cases h0:c=0;.subst h0;exact ay ⟨⟨_,_,rfl⟩,Cc z⟩
   .have t:=(F 0<|by omega).2.2 0 _ rfl;have ea:(a.add<|0*4).add 0=a:=by simp[Addr.add]
    rw[ea]at t;have N:a.spot=V:=by
     unfold pz at t;split at t
     .split at t;.cases t
      .rename_i h;simpa using h
     grind
    obtain⟨g,C,sp⟩:=a;simp only at N;subst N;have O:∀i j,((⟨g,C,V⟩:eF).add<|i*4).add j=⟨g,C+(i*4+j),V⟩:=λi j=>by unfold Addr.add;split<;>split<;>simp_all<;>omega
    refine aB ⟨g,C,M,by rw[z],oU w _ t,λk u E=>?_⟩;have J:k<4*c:=by
     have:=(SU.1 E).1;have e:(zG l).length=4*l.length:=by clear E this q z P;induction l with|nil=>rfl|cons x l ih=>grind[zG,List.length_append,kH.cells]
     grind
    have Q2:k=k/4*4+k%4:=by omega
    have Q:k/4<l.length:=by grind
    have B:=abI Q (k%4) (by omega);rw[<-Q2]at B;rw[B,q]at E;have:=(F _<|by omega).2.2 _ _ E;rw[O,<-Q2]at this;grind
  .rw[z];have:=b (c*56) (by simp);unfold IB at this;omega
  .obtain⟨i,K,rfl⟩:=ah6 A;rw[q];have s:∀k∈(Iq (H:=H)<|f i).weights aD 30,k<=IB:=λk J=>b k<|vh _<|ah8.2 ⟨_,SX<|Ku.2<|by grind,J⟩;rw[aoM]at s;have k1:=s _<|vi ..;have k2:=s (f i).f.size (by simp);have k3:=s (f i).v.size (by simp);unfold IB at k1 k2 k3;omega
  .obtain⟨i,K,rfl⟩:=ah6 A;rw[q];exact(F i<|by rw[<-z];exact K).2.1
end
end
section
open Go.RowKit Go.Conc
def isInt:az->Bool|Y _ _=>Z|_=>ai
theorem azz{v}(h:isInt v=Z):n v=Z:=by cases v<;>first|rfl|cases h
noncomputable def ZI(t:dV):Bool:=match aD.cellTypes aD.depth t with
 |some ts=>ts.all λu=>match aD.underlying u with|some<|.int _=>Z|_=>ai
 |none=>ai
theorem au7{w}{t}{cs}(h:Row.ok aD w .any 0 t cs)(b:ZI t=Z):∀v∈cs,isInt v=Z:=by obtain⟨m,f,_,k⟩:=h;unfold ZI at b;rw[f]at b;simp only[uc]at b;intro v g;obtain⟨i,j,rfl⟩:=YW.1 g;obtain⟨u,l,c⟩:=k i _<|gW j;have a:=b u<|ayR l;unfold Cell.ok at c;generalize aD.underlying u=e at a c;generalize cs[i]=x at c⊢;cases e with|none=>cases a|some d=>cases d<;>first|(cases a;done)|(cases x<;>first|rfl|grind)
noncomputable def Jd:ax:=(begin aD (λ_ _=>0) default).world
noncomputable def Bw(g:Nat):Option<|Array az×dV:=Jd.heap[g]?.bind Obj.row?
theorem z0:(Bw 0).map (λx=>(x.1.size,x.2))=U (1,196):=by kernel_rfl
theorem z1:(Bw 1).map (λx=>(x.1.size,x.2))=U (256,327):=by kernel_rfl
theorem z2:(Bw 2).map (λx=>(x.1.size,x.2))=U (32,330):=by kernel_rfl
theorem z3:(Bw 3).map (λx=>(x.1.size,x.2))=U (20,340):=by kernel_rfl
theorem z4:(Bw 4).map (λx=>(x.1.size,x.2))=U (1,3):=by kernel_rfl
theorem z5:(Bw 5).map (λx=>(x.1.size,x.2))=U (32,347):=by kernel_rfl
theorem z6:(Bw 6).map (λx=>(x.1.size,x.2))=U (64,348):=by kernel_rfl
theorem adq:Jd.heap.size=12:=by kernel_rfl
theorem aoZ:Jd.heap[7]?.any (λo=>match o with|aH c _ _=>c.all isInt|_=>ai)=Z:=by kernel_rfl
theorem bt:([327,330,3,340,347,348].all λt=>aD.buildable t&&ZI t)=Z:=by kernel_rfl
structure FW(w:ax):Prop where
 size:12<=w.heap.size
 g0:∃c t,w.heap[0]?=U (aH c t)/\c.size=1
 ints:∀b,b=1\/b=2\/b=3\/b=4\/b=5\/b=6->∃c t,w.heap[b]?=U (aH c t)/\∀v∈c,isInt v=Z
 types:∃c t f,w.heap[7]?=U (aH c t f)/\∀v∈c,isInt v=Z
theorem FW.of{w}(h:w.ShapedOpen aD):FW w:=by
 obtain⟨I,A⟩:=h;have j:∀{g n t:Nat},g<7->(Bw g).map (λx=>(x.1.size,x.2))=(n,t)->∃d,w.heap[g]?=U (aH d t)/\d.size=n/\(aD.buildable t=Z->Row.ok aD w .any 0 t d):=λ{g n t}p m=>by obtain⟨⟨z,B⟩,s,f⟩:=ze.1 m;simp only[Ez]at f;obtain⟨rfl,rfl⟩:=f;obtain⟨d,r,y,i⟩:=I g z B (by rw[CP];exact p) s;exact⟨d,r,y,i⟩
 have E:=uc.1 bt;have l:∀{g n t:Nat},g<7->(Bw g).map (λx=>(x.1.size,x.2))=(n,t)->t∈[327,330,3,340,347,348]->∃c t,w.heap[g]?=U (aH c t)/\∀v∈c,isInt v=Z:=λ{g n t}p m H=>by obtain⟨d,r,y,i⟩:=j p m;have:=E t H;rw[cG]at this;exact⟨d,t,r,au7 (i this.1) this.2⟩
 have q:∀k,7<=k->k<12->∃o,w.heap[k]?=U o:=λk D K=>by obtain⟨o,F,e,_⟩:=A k (by rw[CP];exact D) (by show k<Jd;grind[adq]);exact⟨o,e⟩
 refine⟨?_,?_,?_,?_⟩;.obtain⟨o,C⟩:=q 11 (by decide) (by decide);exact(dm.1 C).1
 .grind[z0]
 .rintro b(rfl|rfl|rfl|rfl|rfl|rfl);.grind[z1]
  .grind[z2]
  .grind[z3]
  .grind[z4]
  .grind[z5]
  .exact l (by decide) z6<|by decide
 .obtain⟨o,F,s,f,u⟩:=A 7 (by grind[CP]) (by show 7<Jd.heap.size;grind[adq]);have J:World.looseAt (7-aD.globals.size)=ai:=by rw[CP];rfl
  rw[J]at u;subst u;have L:Jd.heap[7]?=o:=f;grind[aoZ,Array.all_eq_true_iff_forall_mem]
def rI(N:Nat)(b:Nat):Bool:=b==7||decide (N<=b)
def rJ(N:Nat)(A:Option Dv)(b:Nat):Bool:=b==7||decide (N<=b)||A.any λA=>b==A.g
structure Vk(w w':ax):Prop where
 os:w'.os=w.os
 out:w'.output=w.output
 size:w.heap.size<=w'.heap.size
 blk:∀b,b<w.heap.size->w'.heap[b]?=w.heap[b]?
def Nl(l:List kH)(off:Nat):Array az:=(List.replicate off (cx ai)++zG l).toArray
theorem alO{l}:∀x∈zG l,n x=Z:=by intro x b;obtain⟨y,_,a⟩:=rU.1 b;simp only[kH.cells,di,dJ,dQ]at a;rcases a with rfl|rfl|rfl|rfl<;>rfl
theorem ayN{l}{b}:∀x∈Nl l b,n x=Z:=by
 intro x a;simp only[Nl,fQ,Tk,List.mem_replicate]at a;rcases a with⟨_,rfl⟩|a;.rfl
 grind[alO]
theorem ahU{l}{a i}(h:a<=i):(Nl l a)[i]?=(zG l)[i-a]?:=by grind[Nl,List.getElem?_append_right]
theorem aD3{w}{v}{l}(h:FX w v l)(q:FW w):∃(A:Option Dv)(p:az),(∀B,A=U B->7<B.g/\B.g<w/\w.heap[B.g]?=U (aH B.c' B.e' B.f')/\∀x∈B.c,n x=Z)/\(∀I,I.arg=A->mX I p v)/\(p=aC V 0 0\/∃B d Q3 c,A=U B/\p=aC (U ⟨B.g,d,V⟩) Q3 c)/\∀W,(∀B,A=U B->W.heap[B.g]?=U (aH B.c B.e B.f))->FX W p l:=by
 by_cases hl:l=[]
 .subst hl;obtain⟨E,j,rfl⟩:∃E j,v=aC E 0 j:=by rcases h with⟨h,_⟩|⟨g,d,j,h,_⟩;all_goals grind
  exact⟨V,aC V 0 0,λB O=>(by cases O),λI F=>aB ⟨_,_,rfl,rfl⟩,ay rfl,λW _=>ay ⟨⟨_,_,rfl⟩,rfl⟩⟩
 .obtain⟨g,d,j,rfl,Q0,r⟩:=h.resolve_left λh=>hl h.2;have M:(zG l).length=4*l.length:=by clear r hl h;induction l with|nil=>rfl|cons x l a=>show(x.cells++zG l).length=_;rw[kM,a];simp[kH.cells];omega
  have D:0<l.length:=by grind
  obtain⟨y,L,K,P⟩:∃c e f,w.heap[g]?=U (aH c e f):=by have:=r 0 _ (mq<|by omega);unfold pz at this;grind
  have k:∀i u,(zG l)[i]?=U u->y[d+i]?=U u:=λi u J=>by have:=r i u J;unfold pz at this;grind
  have m:∃s,y[d+1]?=U (aE s):=by cases l with|nil=>grind|cons x l=>exact⟨x.n,k 1 _ rfl⟩
  obtain⟨s,R⟩:=m;have X:7<g:=by
   refine Nat.lt_of_not_le λN=>?_;have H:∀{c t f},w.heap[g]?=U (aH c t f)->¬∀v∈c,isInt v=Z:=λ{c t f}e T=>by rw[P]at e;cases e;have:=T _<|tR R;cases this
   have Q:∀b,b=1\/b=2\/b=3\/b=4\/b=5\/b=6->g≠b:=λb S e=>by obtain⟨c,t,z,C⟩:=q.ints b S;grind
   have n0:g≠0:=λe=>by obtain⟨c,t,z,C⟩:=q.g0;grind
   have n7:g≠7:=λe=>by obtain⟨c,t,f,z,C⟩:=q.types;grind
   grind
  refine⟨U ⟨g,d,Nl l d,L,K,y,L,K,λi x Q2 Q1=>?_⟩,aC (U ⟨g,d,V⟩) l.length j,?_,?_,?_,?_⟩;.grind[ahU,alO,List.mem_of_getElem?,Nat.add_sub_cancel']
  .grind[ayN]
  .intro I F;exact ay ⟨rfl,aB<|aB ⟨_,_,F,rfl,aQ _,aB ⟨_,_,rfl⟩⟩⟩
  .grind
  .intro W o;have o:=o _ rfl;refine aB ⟨g,d,j,rfl,(dm.1 o).1,λi u J=>?_⟩;unfold pz;rw[o];simp only[ah5,ow,ox];grind[ahU,Nat.add_sub_cancel_left]
theorem iS.cellsOf{w}(h:iS w){c}{t}(a:w.heap[0]?=U (aH c t))(hs:c.size=1):∀v∈c,v=iK 264 (bO #[aF<|U ⟨7,87,V⟩]):=by unfold iS pz at h;rw[a]at h;simp only[ah5,ow,ox]at h;grind[Array.mem_iff_getElem,Array.getElem?_eq_getElem,Option.some.inj]
theorem JV{I}{N}{w}(g:FW w)(k:iS w)(m:I.F 7=Z)(n:12<=N){b}{o}(i:w.heap[b]?=U o)(l:b=0\/b=3\/b=5\/b=6\/b=7):er I N o=Z:=by
 have d:∀{c:Array az},(∀v∈c,isInt v=Z)->c.all (S I N)=Z:=λ{c}h=>by rw[lE];exactλv j=>(qT (ρ:=id)<|azz<|h v j).1
 by_cases e0:b=0;.subst e0;obtain⟨c,t,a,e⟩:=g.g0;have l:=k.cellsOf a e;rw[i]at a;cases a;simp only[er,lE];grind[H.ji,S,qj,oR]
 by_cases E:b=7;.subst E;obtain⟨c,t,f,a,e⟩:=g.types;rw[i]at a;cases a;exact d e
 obtain⟨c,t,a,e⟩:=g.ints b (by omega);rw[i]at a;cases a;exact d e
theorem JO{N b}(h:b<N)(a:b≠7):rI N b=ai:=by grind[rI,Bool.or_eq_false_iff,beq_eq_false_iff_ne,decide_eq_false_iff_not]
theorem UA{R}{b}(h:ru ai R b=Z):b=0\/b=3\/b=5\/b=6\/7<=b/\R b=Z:=by grind[ru]
theorem alg{R}{b}(h:ru Z R b=Z):b=0\/b=3\/b=4\/b=5\/b=6\/7<=b/\R b=Z:=by grind[ru]
theorem Pc{a}{R}{b}(h:7<=b)(c:R b=Z):ru a R b=Z:=by unfold ru;grind
theorem aD2(CN:∀Wg,Dw Wg)(xe:∀Wg,FL Wg){f}{fn}{c}(qz:aD.funcs[f]?=U fn)(KS:iP[f]?=U fn)(i:fn.body=U c)(AY:Ll f=Z)(CJ:zS.testBit f=Z){W0}{v}{l}{rest}(q:∀x∈rest,n x=Z)(xm:Lh f 0=Z)(hD:∀j,Lh f (j+1)=Z->rest.size<=j)(hE:FX W0 v l)(P:FW W0)(T:iS W0)(L:fx W0)(p:∀W v,FX W v l->iS W->fx W->pK W->bz Q f (#[v]++rest) W λe a=>e=bj Z∧aY W W a):∃N r o w' t',ic aD (N+1) (solo (G (eP aD f (#[v]++rest) eo) []) W0) #[]=(.ended o w',t')∧runN aD N (solo (G (eP aD f (#[v]++rest) eo) []) W0)=fR r∧step aD r=.ended o w'∧Go.Conc.Good aD (λx a=>x=Z∧Vk W0 a) r o w' t':=by
 obtain⟨A,QW,E,hOk,hvL,g⟩:=aD3 hE P;obtain⟨m,Q2⟩:∃N,N=W0.heap.size:=⟨_,rfl⟩;have h12:12<=m:=by rw[Q2];exact P.size
 have R:∀B,A=U B->B.g≠4:=λB k e=>by have:=(E B k).1;omega
 have O:(iX (rI m) A).F 7=Z:=rfl;have I:(vO<|rJ m A).F 7=Z:=rfl;have lw:∀b,b≠4->(∀B,A=U B->b≠B.g)->(iW A W0).heap[b]?=W0.heap[b]?:=λb h1 h2=>SH h1 h2;have lwA:∀B,A=U B->(iW A W0).heap[B.g]?=U (aH B.c B.e B.f):=λB k=>by rw[k];exact ahP<|by rw[<-Q2];have:=(E B k).2.1;omega
 have X:∀b,b<=7->∀B,A=U B->b≠B.g:=λb h B k e=>by have:=(E B k).1;omega
 have C:∀b,b=0∨b=3->(iW A W0).heap[b]?=W0.heap[b]?:=λb h=>lw b (by omega) (X b<|by omega);refine ak3 (fs:=iP) (I:=iX (rI m) A) (I2:=vO<|rJ m A) (nm:=ql) CN xe (adw rfl rfl R) (R:=λx Q0=>x=Z∧∃s d,aY (iW A W0) (World.re (iW A W0) s d)<|World.re Q0 s d) (λx Q0 s d h=>⟨h.1,s,d,?_⟩) (f:=f) (args:=#[QW]++rest) (args':=#[v]++rest) (v0:=W0) qz KS i AY CJ ?_ ?_ ?_ ?_ ?_ ?_ ?_ ?_ ?_ ?_;·obtain⟨_,τ',d',h⟩:=h;exact⟨h.os,rfl,h.output,h.size,h.block⟩
 ·refine⟨by simp,λj x F w=>?_,λj x F w=>?_⟩;·cases j with|zero=>rw[show(iX (rI m) A).D f 0=Lh f 0 from rfl,xm]at w;cases w|succ j=>
    have J:rest[j]?=x:=by rw[Y0<|by simp]at F;simpa using F
    refine⟨(qT (ρ:=id)<|q x<|tR J).1,?_⟩;rw[Gq,Y0<|by simp];simpa using J
  ·cases j with|zero=>
    have h0:∀y:az,(#[y]++rest)[0]?=y:=λy=>by rw[Array.getElem?_append_left<|by simp];rfl
    have t:x=QW:=by rw[h0]at F;grind
    subst t;exact⟨v,h0 v,hOk _ rfl⟩|succ j=>have:=hD j w;rw[Y0<|by simp,x3<|by simpa using this]at F;cases F
 ·intro x t;rcases Ce.1 t with t|t
  ·have t:x=QW:=by simpa using t
   subst t;rcases hvL with rfl|⟨B,off,QX,c,k,rfl⟩;·simp[S]
   ·simp only[S,Es];have:=E B k;refine H.ji.2 ⟨by omega,Pc (by omega) ?_⟩;rw[k];simp[rJ]
  ·exact(qT (ρ:=id)<|q x t).1
 ·intro B k;have h:=E B k;refine⟨?_,h.2.2.1,h.2.2.2⟩;have:(iX (rI m) A).F B.g=rI m B.g:=by show ru ai (rI m) B.g=_;unfold ru;grind
  grind[JO]
 ·intro b o i z;have Q1:=(dm.1 i).1;refine JV P T O (by omega) i ?_;rcases UA z with h|h|h|h|⟨h,u⟩;all_goals grind[JO]
 ·intro b o i h4 AZ z;have Q1:=(dm.1 i).1;refine JV P T I (by omega) i ?_;rcases alg z with h|h|h|h|h|⟨h,u⟩;·omega
  ·omega
  ·omega
  ·omega
  ·omega
  ·by_cases e:b=7;·omega
   ·exfalso;unfold rJ at u;simp only[jT,lQ,eU]at u;rcases u with(u|u)|u;·grind
    ·omega
    ·cases Q3:A with|none=>grind|some B=>rw[Q3]at u;exact AZ B Q3<|by grind
 ·intro b i;exact⟨Pc (by omega)<|by unfold rI;grind,Pc (by omega)<|by unfold rJ;grind⟩
 ·rw[CP];omega
 ·omega
 ·intro s;have c1:FX (World.re (iW A W0) s 0) QW l:=g _ λB k=>lwA B k;have c2:iS<|World.re (iW A W0) s 0:=T.of_block (C 0<|by simp);have c3:fx<|World.re (iW A W0) s 0:=L.of_block (C 3<|by simp);have c4:pK<|World.re (iW A W0) s 0:=SI (by omega) R;exact(p _ _ c1 c2 c3 c4).mono λe a⟨he,i⟩=>⟨_,he,rfl,s,0,⟨i.os,rfl,i.output,i.size,i.block⟩⟩
 ·intro x x' Q0 v1 ρ cl⟨t,s,d,k⟩ZQ M ga D K hold;subst t;refine⟨by rw[ZQ.2];rfl,?_,K,?_,λb i=>?_⟩;·rw[M.os];exact k.os.trans (YN A W0).1
  ·have h1:=M.low (W0-1) (by omega);rw[D _<|by omega]at h1;omega
  ·cases z:(iX (rI m) A).F b with|false=>grind|true=>
    have Lb:∀B,A=U B->b≠B.g:=λB CM e=>by
     have h:=E B CM;have:(iX (rI m) A).F B.g=rI m B.g:=by show ru ai (rI m) B.g=_;unfold ru;grind
     grind[JO]
    have e1:Q0.heap[b]?=W0.heap[b]?:=(k.block b<|by rw[YM];exact i).trans<|lw b (λe=>by rw[e]at z;cases z) Lb;rw[gW i]at e1⊢;obtain⟨k1,k2⟩:=M.blk b _ e1 z;have mP:er (iX (rI m) A) W0 W0.heap[b]=Z:=by refine JV P T O (by omega) (gW i) ?_;rcases UA z with h|h|h|h|⟨h,u⟩;all_goals grind[JO]
    rw[D b i,XJ (σ:=id) (λc hc=>D c hc) mP,MV]at k2;exact k2
end
section
open Go.RowKit
def sZ(x:kH)(id:Int)(l:List s):List s:=if x.f.size=0 then(xx l id x.n).1 else(wK l id x.n x.f x.v).1
def pn(x:kH)(ls:Nat->List s):Nat->List s:=λk=>if k=tH x.who 3 then sZ x (k+1) (ls k)else ls k
theorem avW{l}(hs:j l){id}{n f v}{y}(h:y∈(wK l id n f v).1):y∈l\/y.name=n/\y.field=f:=by grind[wK,Mp,GZ]
theorem aEE{l}(hs:j l){id}{n}{y}(h:y∈(xx l id n).1):y∈l\/y.name=n/\y.field=⟨#[]⟩:=by grind[xx,Mp,GZ]
structure IZ(N K S:Nat)(x:kH)(w w':ax)(pw:Nat)(pv:az)(R R':Nat->Rk)(ks':Keys):Prop where
 iC:iB N (K+1) S ks' w' pw pv R'
 ls:∀k,k<3->(R' k).l=pn x (λk=>(R k).l) k
 same:oM R R'
 bs:∀k,(R' k).bs=(R k).bs
 keep:O (oO R) w w'
theorem wj.wrote{N K S}{a}{w}{o}(h:wj N K S a w o)(b:a.length<=K):vZ K o.L o.l:=⟨h.bk,bC h.len b,h.cnt⟩
theorem iB.A2{N K S}{u}{w w'}{t}{pv}{R}{x}(h:iB N K S u w t pv R)(hid:∀k,k<3->(R k).id=k+1){i}(l:i=tH x.who 3){L'}(z:cI w' (R i).m L')(r:vZ (K+1) L'<|sZ x (R i).id (R i).l)(v:O (λb=>b=(R i).m) w w'):∃C j,IZ N K S x w w' t pv R C j:=by
 have c:i<3:=by rw[l];exact Sa<|by omega
 have s:=(h.eT i c).bk.sorted;have D:=(h.more (K':=K+1) (S':=S) (ks':=u++[(x.n,if x.f.size=0 then⟨#[]⟩else x.f)]) (by omega) (aQ _) (λy d=>Y2 _ d)<|by have:=h.kl;grind).edit c v z r.bk r.cnt λy d=>by
  unfold sZ at d;split at d
  .rename_i e;rw[cJ e];rcases aEE s d with q|⟨A,B⟩;.exact Y2 _<|(h.eT i c).ks y q
   grind
  .rename_i e;rw[if_neg e];rcases avW s d with q|⟨A,B⟩;.exact Y2 _<|(h.eT i c).ks y q
   grind
 refine⟨_,_,D,λk o=>?_,⟨λk=>uT Rk.p R (o:=(R i).uY L'<|sZ x (R i).id (R i).l) rfl k,λk=>uT Rk.id R (o:=(R i).uY L'<|sZ x (R i).id (R i).l) rfl k,λk=>uT Rk.m R (o:=(R i).uY L'<|sZ x (R i).id (R i).l) rfl k,λk=>uT Rk.g R (o:=(R i).uY L'<|sZ x (R i).id (R i).l) rfl k⟩,λk=>uT Rk.bs R (o:=(R i).uY L'<|sZ x (R i).id (R i).l) rfl k,v.mono λb _ e=>⟨i,c,ay e⟩⟩;unfold pn;by_cases e:k=i;.subst e;rw[QG,cJ l,<-hid k o];rfl
 .rw[QH R _ e,if_neg λq=>e<|q.trans l.symm]
theorem aD4(N K S)(ks)(w)(F)(pv)(R)(x)(h:iB N K S ks w F pv R)(hid:∀k,k<3->(R k).id=k+1)(hN:5<=N)(hK:K<=1000000)(T:ij x.who)(Q2:x.n.size<=65536)(Q0:x.f.size<=65536)(Q1:iS w):bz Q 17 #[aF F,bO #[x.who,x.n,x.f,x.v]] w λe w'=>e=bj (bQ #[])∧∃D g,IZ N K S x w w' F pv R D g:=by
 obtain⟨i,s⟩:=ex<|tH x.who 3;have m:i<3:=by rw[s];exact Sa<|by omega
 obtain⟨H,u⟩:=ex<|w.alloc<|aH #[x.who,x.n,x.f,x.v] 30;have c:aY w w H:=by rw[u];exact(dK _ _).alloc (aQ _) _
 have l:=h.below c;have b:=l.eT i m;have A:=xQ R m;have r:gP (R i).L<9223372036854775807:=by rw[b.bk.clock];have:=PO (l:=(R i).l) (k:=(K:Int)) (by omega) λy f=>(b.cnt y f).2.1;omega
 have o:=b.wrote l.kl;have p:dx<|∀W,bz Q 18 #[x.who,Y aG 3] W λe W'=>e=bj i∧W'=W:=X λW=>by grind[XP]
 have q:=X<|abR F pv (jR R) i m (R i).id (R i).m (R i).g (R i).L x.n H l.lN (by grind[qS]) (by rw[A];exact b.rep) b.book (by have:=b.mN;omega) (Q1.below c<|aQ _) Q2 (by rw[b.bk.perm.length_eq];have:=o.len;omega) r;have I:=X<|RY F pv (jR R) i m (R i).id (R i).m (R i).g (R i).L x.n x.f x.v H l.lN (by grind[qS]) (by rw[A];exact b.rep) b.book (by have:=b.mN;omega) (Q1.below c<|aQ _) Q2 Q0 r;have a:=Bm.mk l hid s c o b.Ck;have L:=X u;clear h hid s l b c o u r A T Q1;obtain⟨n,J,t,P⟩:=x;simp only at p q I a L Q2 Q0⊢;by_cases OL:t=⟨#[]⟩;·subst OL;go_enter adP,ntmps17;go_wp2_with(first|(go_at_call 18;go_must(refine(p.out _).mono ?_);rintro e M⟨rfl,z⟩;subst z;refine Halt.of ?_)|(go_at_call 28;rw[<-L.out];go_must(refine q.out.mono ?_);rintro e M⟨rfl,C,G⟩;have B:=cH.mk C G;refine Halt.of ?_));unfold Halt;go_wp2_with(first|(go_at_call 28;rw[<-L.out];go_must(refine q.out.mono ?_);rintro e M⟨rfl,C,G⟩;have B:=cH.mk C G;refine Halt.of ?_));unfold Halt;go_wp2;go_end0;obtain⟨l,hid,s,c,o,j⟩:=kp a;obtain⟨D,g,E⟩:=l.A2 (x:=⟨n,J,⟨#[]⟩,P⟩) hid s B.a (o.delete j J).1 B.b;exact⟨rfl,D,g,E.iC,E.ls,E.same,E.bs,(O.iH c).trans E.keep⟩
 ·have OK:¬t.toList=[]:=λe=>OL (zR<|by grind[Jk]);have hf2:t.toList.isEmpty=ai:=by grind
  go_enter adP,ntmps17;go_wp2_with(first|(go_at_call 18;go_must(refine(p.out _).mono ?_);rintro e M⟨rfl,z⟩;subst z;refine Halt.of ?_));unfold Halt;go_wp2_with(first|(go_at_call 26;rw[<-L.out];go_must(refine I.out.mono ?_);rintro e M⟨rfl,C,G⟩;have B:=cH.mk C G;refine Halt.of ?_));unfold Halt;go_wp2;go_end0;obtain⟨l,hid,s,c,o,j⟩:=a;have KS:¬t.size=0:=λe=>OL (by obtain⟨d⟩:=t;have:d.size=0:=e;grind);have v:=(o.put j J t P).1;obtain⟨D,g,E⟩:=l.A2 (x:=⟨n,J,t,P⟩) hid s B.a (by unfold sZ;grind) B.b;exact⟨rfl,D,g,E.iC,E.ls,E.same,E.bs,(O.iH c).trans E.keep⟩
def td:ByteArray:=⟨#[97,110,110]⟩
def tE:ByteArray:=⟨#[116,101,108]⟩
def uv:ByteArray:=⟨#[53]⟩
theorem avY:og [] 1 td tE uv=([⟨td,tE,1,1,uv⟩],0,⟨#[]⟩):=by kernel_rfl
theorem alP:sZ ⟨0,td,tE,uv⟩ 1 []=[⟨td,tE,1,1,uv⟩]:=by kernel_rfl
theorem JQ(i:Nat)(b:i<3):i=tH i 3:=by
 have:i=0\/i=1\/i=2:=by omega
 rcases this with rfl|rfl|rfl<;>rfl
theorem aur:lJ (jC [⟨td,tE,1,1,uv⟩] td)=[tE,uv]:=by kernel_rfl
theorem aFJ{L}{x}(h:Bk L [x]):L=[x]:=List.perm_singleton.1 h.perm
theorem aFK{L}(h:Bk L []):L=[]:=List.perm_nil.1 h.perm
theorem ant(w:ax)(hT:iS w)(ht:fx w)(Q2:pK w):bz Q 15 #[] w λe w'=>e=bj (cx Z)/\aY w.heap.size w w':=by
 have h4:=(dm.1 Q2).1;have C:=X<|Wv w;have O:=gR.mk hT ht Q2;clear hT ht Q2;go_enter aqL,ntmps15;go_wp2_with(go_at_call 16;go_must(refine C.out.mono ?_);rintro e w1⟨I,J,R,rfl,D⟩;have Q1:=X D;refine Halt.of ?_);unfold Halt;obtain⟨o,l,f⟩:=Q1.out;have G:=l 0 (by omega);have z:=l 1 (by omega);have i:=o.eT 0 (by omega);have p:(R 0).L=[]:=aFK (by have:=i.bk;grind);have r:=RY I J (jR R) 0 (by grind[qS]) (R 0).id (R 0).m (R 0).g (R 0).L td tE uv w1 o.lN (by grind[qS]) i.rep i.book (by have:=i.mN;omega) (O.a.below f<|aQ _) (by decide) (by decide) (by rw[p];decide);have e1:(R 0).id=1:=G.1;rw[p,e1,avY]at r;have t:=X r;clear o l f G z i r p e1 C;unfold td tE uv at t;go_wp2_with(go_at_call 26;go_must(refine t.out.mono ?_);rintro e s⟨rfl,hB,u⟩;have H2:=cH.mk hB u;refine Halt.of ?_);unfold Halt;clear t;obtain⟨o,l,f⟩:=Q1.out;have G:=l 0 (by omega);have z:=l 1 (by omega);obtain⟨L,Q0,j⟩:∃R' S,IZ w 0 0 ⟨0,td,tE,uv⟩ w1 s I J R R' S:=o.A2 (x:=⟨0,td,tE,uv⟩) (λk u=>(l k u).1) (i:=0) (by rfl) (L':=[⟨td,tE,1,1,uv⟩]) H2.a (by rw[G.2.1,show(R 0).id=1 from G.1,alP];exact⟨⟨List.Perm.refl _,List.pairwise_singleton ..,λx D=>by rw[mu.1 D];exact⟨by decide,by decide,by decide,by decide,by decide,by decide⟩⟩,by decide,λy hy=>by grind[List.mem_singleton,ij]⟩) H2.b;have A:=f.trans (j.keep.below f.size λb hb q=>by have:=o.lo q;omega);have T:(L 0).l=[⟨td,tE,1,1,uv⟩]:=by rw[j.ls 0<|by omega];unfold pn;rw[cJ<|show 0=tH 0 3 by decide];grind[alP]
 have P:(L 1).l=[]:=by rw[j.ls 1<|by omega];unfold pn;rw[if_neg<|show¬1=tH 0 3 by decide];grind
 obtain⟨H,B⟩:=ex<|s.alloc<|aH #[Y aG 0,aE ⟨#[]⟩] 49;have h:aY s s H:=by rw[B];exact(dK _ _).alloc (aQ _) _
 have g:H.heap[s.heap.size]?=U (aH #[Y aG 0,aE ⟨#[]⟩] 49 (0,0)):=by grind[World.alloc_heap_new]
 have c:=A.trans<|h.mono A.size;have N:=X<|FZ w 1 0 Q0 H I J L 0 1 (by omega) (by omega) (by omega) (j.iC.below h) (by omega) (by omega) (by omega) (O.b.below c<|aQ _)<|(c.block 4 h4).trans O.c;have HE:=FU.mk B T P j g c h;go_wp2_with(go_at_call 19;rw[<-HE.a];go_must(refine N.out.mono ?_);rintro e w4⟨rfl,m,D⟩;have H4:=X D;refine Halt.of ?_);unfold Halt;obtain⟨-,T,P,j,g,c,h⟩:=HE;have E:=H4.out;have Q3:¬oO L s:=λ⟨k,u,q⟩=>by have o:=(j.iC.eT k u).book.lt;have h2:=(j.iC.eT k u).map.lt;omega
 have l4:(m 1).l=[⟨td,tE,1,1,uv⟩]:=by rw[E.lj,T,P];rfl
 have i:=E.iC.eT 1 (by omega);have W:(m 1).L=[⟨td,tE,1,1,uv⟩]:=aFJ (by have:=i.bk;grind);have F:=UD I J (jR m) 1 (by grind[qS]) (m 1).id (m 1).m (m 1).g (m 1).L td w4 E.iC.lN (by grind[qS]) i.rep i.book (by grind) (by decide);rw[W,aur]at F;have t:=X F;have K:=cH.mk ((E.keep.block _ (dm.1 g).1 Q3).trans g) (c.trans<|E.keep.below c.size λb hb q=>by have:=j.iC.lo q;omega);unfold td tE uv at t;go_wp2_with(go_at_call 27;go_must(refine t.out.mono ?_);rintro e a⟨v,rfl,d,n⟩;have H5:=cH.mk d n;refine Halt.of ?_);unfold Halt;obtain⟨d,n⟩:=kp H5;obtain⟨g5,QW,rfl⟩:∃g5 QW,v=aC (U ⟨g5,0,V⟩) 2 QW:=by rcases d.2 with⟨_,h0⟩|⟨g5,QW,cur,rfl,_⟩;all_goals grind
 have y0:a.cell? g5=U (aE ⟨#[116,101,108]⟩):=by have:=Az d (g:=g5) rfl 0 _ rfl;rwa[Eu,vg]at this
 have y1:a.cell? ⟨g5,1,V⟩=U (aE ⟨#[53]⟩):=by have:=Az d (g:=g5) rfl 1 _ rfl;rwa[Eu,vg]at this
 have y3:a.cell? s=U (Y aG 0):=M ((n.block _ (dm.1 K.a).1).trans K.a) 0;go_wp2;go_ret;exact⟨rfl,K.b.trans<|H5.b.mono K.b.size⟩
def after(es:List kH):Nat->List s:=es.foldl (λls x=>pn x ls) λ_=>[]
theorem aGA(es)(x):after (es++[x])=pn x (after es):=by simp[after]
theorem aGz{l:List kH}{j}(a):after (l.take<|j+1)=pn l[j] (after<|l.take j):=by grind[List.take_add_one,List.getElem?_eq_getElem,Option.toList_some,aGA]
theorem aD7{x}{b a}{k}(h:b k=a k):pn x b k=pn x a k:=by grind[pn]
theorem WC:∀(l:List kH)(k:Nat),l.foldl (λn x=>n+sW x) k=k+oc l|[],k=>rfl|x::l,k=>by have b:=WC l<|k+sW x;have a:=WC l<|0+sW x;show List.foldl _ (k+sW x) l=k+List.foldl _ (0+sW x) l;grind
theorem ar9(x)(l):oc (x::l)=sW x+oc l:=by have a:=WC l<|0+sW x;show List.foldl _ (0+sW x) l=_;grind
theorem asG{l}(h:Gj l=Z):l.length<=300/\∀x∈l,x.n.size<=1200/\x.f.size<=1200:=by
 have c:oc l<=1200:=by grind[Gj]
 have a:∀l:List kH,4*l.length<=oc l/\∀x∈l,sW x<=oc l:=λl=>by induction l with|nil=>grind|cons y l b=>grind[ar9,sW,List.length_cons]
 grind[sW]
def Vy(N:Nat)(l:List kH)(pw:Nat)(pv:az)(R:Nat->Rk)(w0:ax)(j:Nat)(W:ax):Prop:=∃R' ks,iB N j 0 ks W pw pv R'/\oM R R'/\(∀k,k<3->(R' k).l=after (l.take j) k)/\O (oO R) w0 W
theorem Vy.next{N}{l}{e}{d}{R b f}{w0 W W'}{j}{a}(g)(hs:oM R b)(i:∀k,k<3->(b k).l=after (l.take j) k)(h:O (oO R) w0 W)(E:IZ N j 0 l[j] W W' e d b f a):Vy N l e d R w0 (j+1) W':=⟨f,a,E.iC,hs.trans E.same,λk c=>by rw[E.ls k c,aGz g];grind[aD7],h.trans<|by rw[<-hs.maps];exact E.keep⟩
variable{N K S:Nat}{ks:Keys}{w w':ax}{pw:Nat}{pv:az}{R:Nat->Rk}
theorem iB.len(h:iB N K S ks w pw pv R)(hK:K<=4096){k:Nat}(E:k<3):(R k).l.length<=4096:=by have:=(h.eT k E).len;have:=h.kl;omega
end
end Go.Proofs.YtpdbmpbmepkikaaGreatDoor
