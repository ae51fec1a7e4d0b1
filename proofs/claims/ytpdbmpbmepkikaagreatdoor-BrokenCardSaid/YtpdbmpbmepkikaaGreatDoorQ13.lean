/- Laws. -/
import Derived.Test.YtpdbmpbmepkikaaGreatDoorQ12
set_option maxRecDepth 100000
set_option maxHeartbeats 400000
set_option linter.all false
open Go.Proofs.Tryz
open Bool renaming false->ai
open Go renaming World->ay,Value->az,Calls->bz,callFunc->iA,maxLen->vg
open Go.Act renaming put->cA
open Go.Ending renaming returned->bj
open Go.Fn renaming func->ez
open Go.IntKind renaming i64->aC
open Go.Next renaming enter->jL
open Go.Obj renaming cells->aH
open Go.Result renaming ok->aY
open Go.RowKit renaming Below->aW,Hid->dD
open Go.Value renaming int->V,string->aD,slice->aE,pointer->aG,agg->bJ,tuple->bO,map->cq,func->dM,oneCell'->zh
open Go.World renaming setCell->jk,cell?->pg,frozen?->x8
open Nat renaming reduceSub->wP,reduceAdd->wS
open Option renaming some->U,none->Z
open Or renaming inr->aA,inl->ax
namespace Go.Proofs.YtpdbmpbmepkikaaGreatDoor
section
open Go.RowKit
attribute [local go_sem] Oper.semAt_some
structure uk(B:Nat)(W:ay)(N:Nat)(T e size:Nat)(v:az)(n:Nat)(xs:List az):Prop where
 box:W.heap[N]?=U (aH #[v] T (0,0))row:W.ownsRow B e size v n xs
 ne:v.ownBlock≠U N
section
variable {B:Nat} {W W' W1:ay} {N T e size n n':Nat} {v v':az} {xs xs':List az}
theorem uk.lt(h:uk B W N T e size v n xs):∀b,nI N v b->b<W:=by
 rintro b(rfl|a);.exact(cU.1 h.box).1
 .exact(h.row.lt b a).2
theorem uk.fI(h:uk B W N T e size v n xs)(a:∀b,nI N v b->W'.heap[b]?=W.heap[b]?):uk B W' N T e size v n xs:=⟨(a N<|ax rfl).trans h.box,dx h.row λg c=>a g<|aA c,h.ne⟩
theorem uk.cell(h:uk B W N T e size v n xs):W.cell? N=v/\W.frozen? N=ai:=by simp[pg,x8,h.box]
theorem IQ{a}(c:W.ownsRow B e size v n xs)(b:v.ownBlock≠a.block)(u):(W.setCell a u).ownsRow B e size v n xs:=dx c λg d=>gQ _ _ _ _ λe=>b<|by grind
theorem uk.appended(h:uk B W N T e size v n xs)(a:W.grownBy W1 v.ownBlock)(l:W1.ownsRow B e size v' n' xs')(f:v'.ownBlock=v.ownBlock\/v'.ownBlock=W):uk B (W1.setCell N v') N T e size v' n' xs'/\bS (nI N v) W (nI N v') (W1.setCell N v'):=by
 have o:=(cU.1 h.box).1;have g:=(a.block N o λe=>h.ne e.symm).trans h.box;have c:v'.ownBlock≠N:=by
  rcases f with d|d;.rw[d];exact h.ne
  grind
 refine⟨⟨vJ g,IQ l c _,c⟩,?_,?_⟩;.refine⟨a.os,a.tape,a.output,by simpa[jk]using a.size,λk j i=>?_⟩;exact(gQ _ _ _ _ λe=>i<|ax e).trans<|a.block k j λe=>i<|aA e.symm
 .rintro b(rfl|m);.exact ax<|ax rfl
  .rcases f with d|d;.exact ax<|aA<|d▸m
   grind
end
theorem as2(l)(x):rows (l++[x])=rows l++x.cells:=by grind[QN,rows]
theorem aD8(B)(v0)(y)(H)(gf:Nat)(lb)(S)(R)(w)(eg:∀A w,(iA gf A).run Q w=aY (jL gf A) w)(L:Iter Q gf lb (λx=>#[x.val]) S R w)(hR:∀b,R b->b<w)(hB:B<=w.heap.size)(m:w.ownsRow B 46 5 v0 y H)(QW:∀b,R b->v0.ownBlock≠b)(hN:∀z,S z->y+z.length<=1073741824):bz Q 158 #[v0,dM (ez gf) #[] lb] w λe w'=>∃z v,e=bj v∧S z∧w'.ownsRow B 46 5 v (y+z.length) (H++rows z)∧bS (dh v0) w (dh v) w':=by
 obtain⟨i0,hi,rY,Q1,a⟩:=Aa Y3;obtain⟨ad,G,rfl⟩:=gD m;have N:=λb d=>(m.lt b d).2;have u:uk B (w.alloc<|aH #[aE ad y G] 35) w 35 46 5 (aE ad y G) y<|H++rows []:=⟨iF w _,by grind[rows,dx,Below.heap_alloc],λh=>absurd (N _ h)<|by omega⟩;have I:=cH.mk m N;obtain⟨v0,r⟩:=ex<|aE ad y G;rw[<-r]at u I QW⊢;refine callsIn_wide (n:=0).1<|callsIn_of_wp_marks aoJ rfl trivial ?_ rfl;simp only[ntmps158,tF,qi,lG,wS,wP,uN,uM,uL,uK,uJ,qj];rw[r];gi_wp2;rw[<-r];refine wp_rangeFunc (gf:=gf) (lb:=lb) rfl eg (L.later<|(aK.alloc (λ_=>False) w _).fI λb d=>⟨hR b d,id⟩) λb d=>by have:=hR b d;simp;omega (λ_=>rfl) (λo W D=>∃v,uk B W w 35 46 5 v (y+o.length) (H++rows o)∧D=nI w v) (λ_ _ _ _=>False) ⟨λo W D⟨v,h,e⟩b d=>h.lt b<|e▸d,λo W D W'⟨v,h,e⟩ha=>⟨v,h.fI λb d=>ha.block b<|e▸d,e⟩⟩ (λ_=>⟨λ_ _ _ h=>h.elim,λ_ _ _ _ h=>h.elim⟩) (nI w v0) (λb d=>?_) ⟨_,u,rfl⟩ ?round ?done ?stop;·rcases d with rfl|d;all_goals grind
 case round=>
  rintro l o x W D t uV P⟨jq,hS⟩⟨v,k,rfl⟩vc;have hlen:y+(o.length+1)<=1073741824:=by grind
  obtain⟨n,f,c,q,s⟩:=x;unfold O.val;gi_wp2;refine⟨⟨aK.alloc _ _ _,λb d=>d.imp id (·.1)⟩,λW2 p=>?_⟩;have T:l≠W:=by omega
  have i:=k.fI λb d=>(p.block b λe=>P<|e▸d).trans<|dm _ _ _<|k.lt b d;have j:W2.heap[W.heap.size]?=U (aH #[n,f,c,q,s] 46 (0,0)):=(p.block _ λe=>T e.symm).trans<|iF W _;have r0:W2.cell? W=U n:=M j 0;have r1:W2.cell? ⟨W,1,Z⟩=U f:=M j 1;have r2:W2.cell? ⟨W,2,Z⟩=U c:=M j 2;have r3:W2.cell? ⟨W,3,Z⟩=U q:=M j 3;have r4:W2.cell? ⟨W,4,Z⟩=U s:=M j 4;obtain⟨hc,hf⟩:=i.cell;have m:=i.row;have C:=i.lt;have Q3:=C _<|ax rfl;have J:W2.heap.size=W+1:=by rw[p.size];simp
  have Ke:B<=W2:=by omega
  have HA:=X i;clear k i J p P vc hS L C u j QW t uV T r;gi_wp2_with(gi_at_builtin;go_must(refine Sa _ rfl _ _ 35 rfl B 46 i0 (bJ #[aD ⟨#[]⟩,aD ⟨#[]⟩,V aC 0,V aC 0,aD ⟨#[]⟩]) 5 64 Vx hi rY Q1 a rfl (by decide) v (y+o.length) (H++rows o) rfl (m.alloc _) W2.heap.size 1 1 [n,f,c,q,s] rfl rfl (Bn (by grind) _ _ rfl) (by simp[zh]) (by unfold vg;omega) (by omega) (by simp;omega) ?_);intro v' w1 QX F _ Q0;refine Halt.of ?_);obtain⟨g',Cq,Q2⟩:=ownsRow_succ QX;have K:w≠v.ownBlock:=λe=>HA.out.ne e.symm;have sj:=(ei (w:=W2.alloc<|aH #[n,f,c,q,s] 46)<|F.block _ (by simp;omega) K).trans<|(ei (w:=W2)<|dm _ _ _ Q3).trans hc;have Gp:=(Ad (w:=W2.alloc<|aH #[n,f,c,q,s] 46)<|F.block _ (by simp;omega) K).trans<|(Ad (w:=W2)<|dm _ _ _ Q3).trans hf;subst Q2;unfold Halt;gi_wp2;obtain⟨E,h2⟩:=(X<|uk.appended (uk.fI HA.out λb d=>dm _ _ _<|uk.lt HA.out b d) F QX Q0).out;refine⟨_,⟨_,?_,rfl⟩,h2.shift (aK.alloc _ _ _) λ_ h=>ax h⟩;rw[as2,j7,yL,<-jG,<-Nat.add_assoc];exact E
 case done=>
  rintro z W D hS⟨v,k,rfl⟩hL hK qu;obtain⟨hc,hf⟩:=k.cell;have HL:=X hL;gi_wp2;refine⟨by simp,ax ⟨_,_,rfl,vQ hK,?_⟩⟩;refine⟨_,results_tmp rfl _ _ _,z,v,rfl,(X hS).out,dx (X k).out.row λg hg=>qQ λe=>qu<|aA<|e▸hg,?_⟩;have E:=HL.out;refine⟨⟨E.1.os,E.1.tape,E.1.output,by have:=E.1.size;simp at this⊢;omega,λb d hn=>?_⟩,λb d=>?_⟩
  ·refine(qQ<|by simp;omega).trans<|(E.1.block b (by simp;omega) ?_).trans<|dm _ _ _ d;rintro(h|h);·grind
   ·exact hn<|r▸h
  ·rcases E.2 b (aA d)with(h|h)|h;·grind
   ·exact ax<|r▸h
   ·exact aA<|by simp at h;omega
 grind
section
variable {B p:Nat} {m:dZ} {vr vw vn vd v':az} {xs:List az} {W W1 W2:ay}
def eS(W:ay)(b e:Nat):Prop:=∃cur,W.heap[b]?=U (aH cur e (0,0))
theorem eS.one{b e a}(h:eS W b e)(k:eS W b a):e=a:=by obtain⟨c,h⟩:=h;obtain⟨d,k⟩:=k;grind
theorem fN{e s n b:Nat}{v}{f}(h:W.ownsRow B e s v n f)(a:v.ownBlock=b):eS W b e:=by
 rcases h.2 with⟨rfl,_⟩|⟨g,c,i,rfl,_,d,_⟩;.cases a
 .cases a;exact⟨_,d⟩
theorem F1:∀{F:List Nd}{xs:List az},zz W B F xs->∀x∈xs,∀b,x.ownBlock=U b->eS W b 233
 |[],xs,h,x,a,b,c=>by cases h;cases a|n::F,xs,⟨f,d,e,h,t⟩,x,a,b,c=>by
  subst e;simp only[dj]at a;rcases a with rfl|rfl|a;.cases c
  .grind[fN]
  .exact F1 t x a b c
theorem lD.keep{F}{v}(h:lD W B F v xs)(e:∀b,v.ownBlock=U b->W1.heap[b]?=W.heap[b]?)(f:∀x∈xs,∀b,x.ownBlock=U b->W1.heap[b]?=W.heap[b]?)(d:W.heap.size<=W1):lD W1 B F v xs:=⟨dx h.row e,h.ins.block f,λx a b c=>⟨(h.sep x a b c).1,cE (h.sep x a b c).2.1 d,(h.sep x a b c).2.2⟩⟩
def yw(p:Nat)(vr vw vn:az)(b:Nat):Prop:=b=p\/vr.ownBlock=U b\/vw.ownBlock=U b\/vn.ownBlock=U b
theorem jm.rL(h:jm W B p m vr vw vn vd xs):p<W:=(cU.1 h.box).1
theorem jm.rM(h:jm W B p m vr vw vn vd xs):eS W p 180:=⟨_,h.box⟩
theorem jm.dlt(h:jm W B p m vr vw vn vd xs):∀b,yw p vr vw vn b->B<=b/\b<W:=by
 rintro b(rfl|a|a|a);.exact⟨h.lt,h.rL⟩
 .exact h.bq.lt b a
 .exact h.cu.lt b a
 .exact h.nodes.row.lt b a
theorem jm.del(h:jm W B p m vr vw vn vd xs):∀b,yw p vr vw vn b->eS W b 180\/eS W b 46\/eS W b 9\/eS W b 184:=by
 rintro b(rfl|a|a|a);.exact ax h.rM
 .exact aA<|ax<|fN h.bq a
 .exact aA<|aA<|ax<|fN h.cu a
 .exact aA<|aA<|aA<|fN h.nodes.row a
theorem jm.below(h:jm W B p m vr vw vn vd xs)(c:aW W W W1):jm W1 B p m vr vw vn vd xs:=⟨(c.block p h.rL).trans h.box,h.lt,dx h.bq λb a=>c.block b (h.bq.lt b a).2,dx h.cu λb a=>c.block b (h.cu.lt b a).2,h.nodes.keep (λb a=>c.block b (h.nodes.row.lt b a).2) (λx d b a=>c.block b (h.nodes.sep x d b a).2.1) c.size,dx h.roots λb a=>c.block b (h.roots.lt b a).2⟩
theorem Da{cs}{T i:Nat}{u}(h:W.heap[p]?=U (aH cs T (0,0))):(W.setCell ⟨p,i,Z⟩ u).heap[p]?=U (aH (cs.setIfInBounds i u) T (0,0)):=by simp only[jk,Ae,h,eG,iW];rfl
theorem zO(W:ay)(a)(u):(W.setCell a u).heap.size=W:=by simp[jk]
theorem jm.aEn(h:jm W B p m vr vw vn vd xs)(g:aW W W W1)(f:bS (dh vr) W1 (dh v') W2){R}(u:W2.ownsRow B 46 5 v' (m.bq++R).length<|rows<|m.bq++R):jm (W2.setCell p v') B p {m with bq:=m.bq++R} v' vw vn vd xs/\bS (yw p vr vw vn) W (yw p v' vw vn) (W2.setCell p v'):=by
 have s:=g.size;have d:∀b,b<W.heap.size->¬eS W b 180->¬eS W b 46->(W2.setCell p v').heap[b]?=W.heap[b]?:=λb j l v=>by have r:b≠p:=λe=>l<|e▸h.rM;rw[gQ _ _ _ _ r,f.1.block b (by omega) λe=>v<|fN h.bq e,g.block b j]
 have o:v'.ownBlock≠p:=λe=>by
  rcases f.2 p e with l|l;.exact absurd (eS.one h.rM<|fN h.bq l)<|by decide
  .have:=h.rL;omega
 have i:∀b,eS W b 9\/eS W b 184\/eS W b 233\/eS W b 76->¬eS W b 180/\¬eS W b 46:=λb g=>by grind[eS.one]
 have q:W2.heap[p]?=U (aH #[vr,vw,vn,vd] 180 (0,0)):=by rw[f.1.block p (by have:=h.rL;omega) λe=>absurd (eS.one h.rM<|fN h.bq e)<|by decide,g.block p h.rL,h.box]
 refine⟨⟨Da q,h.lt,IQ u o _,?_,?_,?_⟩,⟨f.1.os.trans g.os,f.1.tape.trans g.tape,f.1.output.trans g.output,?_,λb j t=>?_⟩,λb k=>?_⟩;.exact dx h.cu λb c=>d b (h.cu.lt b c).2 (i b<|ax<|fN h.cu c).1 (i b<|ax<|fN h.cu c).2
 .exact h.nodes.keep (λb c=>d b (h.nodes.row.lt b c).2 (i b<|aA<|ax<|fN h.nodes.row c).1 (i b<|aA<|ax<|fN h.nodes.row c).2) (λx n b c=>d b (h.nodes.sep x n b c).2.1 (i b<|aA<|aA<|ax<|F1 h.nodes.ins x n b c).1 (i b<|aA<|aA<|ax<|F1 h.nodes.ins x n b c).2)<|by rw[zO];exact bC s f.1.size
 .exact dx h.roots λb c=>d b (h.roots.lt b c).2 (i b<|aA<|aA<|aA<|fN h.roots c).1 (i b<|aA<|aA<|aA<|fN h.roots c).2
 .rw[zO];exact bC s f.1.size
 .rw[gQ _ _ _ _ λe=>t<|ax e,f.1.block b (by omega) λe=>t<|aA<|ax e,g.block b j]
 .rcases k with rfl|k|k|k;.exact ax<|ax rfl
  .rcases f.2 b k with l|l;.exact ax<|aA<|ax l
   grind
  .exact ax<|aA<|aA<|ax k
  .exact ax<|aA<|aA<|aA k
theorem jm.alI(h:jm W B p m vr vw vn vd xs)(g:aW W W W1)(f:bS (dh vw) W1 (dh v') W2){s}(v:W2.ownsRow B 9 1 v' (m.cu++s).length<|fM aD<|m.cu++s):jm (W2.setCell ⟨p,1,Z⟩ v') B p {m with cu:=m.cu++s} vr v' vn vd xs/\bS (yw p vr vw vn) W (yw p vr v' vn) (W2.setCell ⟨p,1,Z⟩ v'):=by
 have t:=g.size;have d:∀b,b<W.heap.size->¬eS W b 180->¬eS W b 9->(W2.setCell ⟨p,1,Z⟩ v').heap[b]?=W.heap[b]?:=λb j l w=>by have r:b≠p:=λe=>l<|e▸h.rM;rw[gQ _ _ _ _ r,f.1.block b (by omega) λe=>w<|fN h.cu e,g.block b j]
 have o:v'.ownBlock≠p:=λe=>by
  rcases f.2 p e with l|l;.exact absurd (eS.one h.rM<|fN h.cu l)<|by decide
  .have:=h.rL;omega
 have i:∀b,eS W b 46\/eS W b 184\/eS W b 233\/eS W b 76->¬eS W b 180/\¬eS W b 9:=λb g=>by grind[eS.one]
 have q:W2.heap[p]?=U (aH #[vr,vw,vn,vd] 180 (0,0)):=by rw[f.1.block p (by have:=h.rL;omega) λe=>absurd (eS.one h.rM<|fN h.cu e)<|by decide,g.block p h.rL,h.box]
 refine⟨⟨Da q,h.lt,?_,IQ v o _,?_,?_⟩,⟨f.1.os.trans g.os,f.1.tape.trans g.tape,f.1.output.trans g.output,?_,λb j u=>?_⟩,λb k=>?_⟩;.exact dx h.bq λb c=>d b (h.bq.lt b c).2 (i b<|ax<|fN h.bq c).1 (i b<|ax<|fN h.bq c).2
 .exact h.nodes.keep (λb c=>d b (h.nodes.row.lt b c).2 (i b<|aA<|ax<|fN h.nodes.row c).1 (i b<|aA<|ax<|fN h.nodes.row c).2) (λx n b c=>d b (h.nodes.sep x n b c).2.1 (i b<|aA<|aA<|ax<|F1 h.nodes.ins x n b c).1 (i b<|aA<|aA<|ax<|F1 h.nodes.ins x n b c).2)<|by rw[zO];exact bC t f.1.size
 .exact dx h.roots λb c=>d b (h.roots.lt b c).2 (i b<|aA<|aA<|aA<|fN h.roots c).1 (i b<|aA<|aA<|aA<|fN h.roots c).2
 .rw[zO];exact bC t f.1.size
 .rw[gQ _ _ _ _ λe=>u<|ax e,f.1.block b (by omega) λe=>u<|aA<|aA<|ax e,g.block b j]
 .rcases k with rfl|k|k|k;.exact ax<|ax rfl
  .exact ax<|aA<|ax k
  .rcases f.2 b k with l|l;.exact ax<|aA<|aA<|ax l
   grind
  .exact ax<|aA<|aA<|aA k
theorem jm.alJ(h:jm W B p m vr vw vn vd xs)(j:aW W W W1)(d:bS (dh vn) W1 (dh v') W2){n}{kv}(z:W1.ownsRow W 233 9 kv n.kids.length<|fM gS n.kids)(w:W2.ownsRow B 184 2 v' (m.nodes.length+1)<|xs++[n.pfx,kv])(A:B<=W):jm (W2.setCell ⟨p,2,Z⟩ v') B p {m with nodes:=m.nodes++[n]} vr vw v' vd (xs++[aD n.pfx,kv])/\bS (yw p vr vw vn) W (yw p vr vw v') (W2.setCell ⟨p,2,Z⟩ v'):=by
 have y:=j.size;have i:∀b,b<W.heap.size->¬eS W b 180->¬eS W b 184->(W2.setCell ⟨p,2,Z⟩ v').heap[b]?=W.heap[b]?:=λb f k D=>by have v:b≠p:=λe=>k<|e▸h.rM;rw[gQ _ _ _ _ v,d.1.block b (by omega) λe=>D<|fN h.nodes.row e,j.block b f]
 have u:v'.ownBlock≠p:=λe=>by
  rcases d.2 p e with k|k;.exact absurd (eS.one h.rM<|fN h.nodes.row k)<|by decide
  .have:=h.rL;omega
 have o:∀b,eS W b 46\/eS W b 9\/eS W b 233\/eS W b 76->¬eS W b 180/\¬eS W b 184:=λb j=>by grind[eS.one]
 have q:W2.heap[p]?=U (aH #[vr,vw,vn,vd] 180 (0,0)):=by rw[d.1.block p (by have:=h.rL;omega) λe=>absurd (eS.one h.rM<|fN h.nodes.row e)<|by decide,j.block p h.rL,h.box]
 have r:=(h.nodes.keep (λb c=>j.block b (h.nodes.row.lt b c).2) (λx t b c=>j.block b (h.nodes.sep x t b c).2.1) y).snoc (jr z A) λb c e=>by have:=(z.lt b c).1;have:=(h.nodes.row.lt b e).2;omega w (λb f s=>d.1.block b f s) (by cases c:v'.ownBlock with
   |none=>
    rcases w.2 with⟨rfl,F⟩|⟨g,C,E,rfl,_⟩;.omega
    .cases c|some b=>
    rcases d.2 b c with k|k;.left;exact k.symm
    grind) d.1.size;refine⟨⟨Da q,h.lt,?_,?_,?_,?_⟩,⟨d.1.os.trans j.os,d.1.tape.trans j.tape,d.1.output.trans j.output,?_,λb f s=>?_⟩,λb l=>?_⟩;.exact dx h.bq λb c=>i b (h.bq.lt b c).2 (o b<|ax<|fN h.bq c).1 (o b<|ax<|fN h.bq c).2
 .exact dx h.cu λb c=>i b (h.cu.lt b c).2 (o b<|aA<|ax<|fN h.cu c).1 (o b<|aA<|ax<|fN h.cu c).2
 .exact r.keep (λb c=>gQ _ _ _ _ λe=>u<|(show b=p from e)▸c) (λx t b c=>gQ _ _ _ _ λe=>absurd (eS.one ⟨_,q⟩<|(show b=p from e)▸F1 r.ins x t b c)<|by decide)<|by rw[zO];grind
 .exact dx h.roots λb c=>i b (h.roots.lt b c).2 (o b<|aA<|aA<|aA<|fN h.roots c).1 (o b<|aA<|aA<|aA<|fN h.roots c).2
 .rw[zO];exact bC y d.1.size
 .rw[gQ _ _ _ _ λe=>s<|ax e,d.1.block b (by omega) λe=>s<|aA<|aA<|aA e,j.block b f]
 .rcases l with rfl|l|l|l;.exact ax<|ax rfl
  .exact ax<|aA<|ax l
  .exact ax<|aA<|aA<|ax l
  .rcases d.2 b l with k|k;.exact ax<|aA<|aA<|aA k
   grind
end
def iK(W:ay)(B p:Nat)(m:dZ)(D:Nat->Prop):Prop:=∃vr vw vn vd xs,jm W B p m vr vw vn vd xs/\D=yw p vr vw vn
theorem iK.below{W W1}{B p}{m}{D}(h:iK W B p m D)(f:aW W W W1):iK W1 B p m D:=by obtain⟨d,a,g,b,c,h,e⟩:=h;exact⟨d,a,g,b,c,h.below f,e⟩
theorem iK.lt{W}{B p}{m}{D}(h:iK W B p m D):∀b,D b->B<=b/\b<W:=by obtain⟨e,a,f,c,d,h,rfl⟩:=h;exact h.dlt
theorem Qf(B p o)(m)(D)(L)(pfx)(w)(h:iK w B p m D)(S:cI w o L)(Ke:B<=w)(hL:L.length<=1073741824)(hn:m.bq.length+(dS L pfx).length<=1073741824):bz Q 102 #[aG p,cq o,pfx] w λe y=>e=bj (bO #[])∧∃Q2,iK y B p {m with bq:=m.bq++dS L pfx} Q2∧bS D w Q2 y:=by
 obtain⟨E,vw,Q0,vd,q,s,rfl⟩:=h;obtain⟨ad,z,u⟩:=gD s.bq;have k0:∀W:ay,W.heap[p]?=U (aH #[E,vw,Q0,vd] 180 (0,0))->W.cell? p=E∧W.frozen? p=ai:=λW hW=>⟨M hW 0,by simp[x8,hW]⟩;have C:=s.box;have K:=S.lt;have O:∀b,b=o->E.ownBlock≠b:=λb e hv=>by subst e;obtain⟨cur,h1⟩:=fN s.bq hv;obtain⟨en,ck,h2,_⟩:=S;grind
 have P:=λb T=>(s.bq.lt b T).2;have j:=vB.mk s S O P;have Ge:=s.rL;rw[u]at k0 C;go_enter ao6,ntmps102;go_wp2;refine xG ?_;refine wp_region_Z (S:=λW=>W.heap[p]?=U (aH #[aE ad m.bq.length z,vw,Q0,vd] 180 (0,0))) (z:=11) (by kernel_rfl) C λc=>?_;refine fU (i:=0) (v:=?v0) rfl (by kernel_rfl) (by kernel_rfl) (by kernel_rfl) (by kernel_rfl) (λ_ _ _ h=>h) (ax ⟨by rfl,?xN⟩) c ?WQ;(case xN=>(intro W f;go_simp;(try with_reducible rfl)));try simp only[cA,dO,dN,dA,dz,dr]
 refine fU (i:=1) (v:=?v1) rfl (by kernel_rfl) (by kernel_rfl) (by kernel_rfl) (by kernel_rfl) (λ_ _ _ h=>h) (ax ⟨by rfl,?yR⟩) c ?WO;(case yR=>(intro W f;go_simp;(try with_reducible rfl)));try simp only[cA,dO,dN,dX,dA,dz,dr]
 refine fU (i:=2) (v:=?v2) rfl (by kernel_rfl) (by kernel_rfl) (by kernel_rfl) (by kernel_rfl) (λ_ _ _ h=>h) (ax ⟨by rfl,?yQ⟩) c ?WN;(case yQ=>(intro W f;go_simp;(try with_reducible rfl)));try simp only[cA,dO,dN,dX,dA,dz,dr]
 refine fU (i:=3) (v:=?v3) rfl (by kernel_rfl) (by kernel_rfl) (by kernel_rfl) (by kernel_rfl) (λ_ _ _ h=>h) (ax ⟨by rfl,?MW⟩) c ?aeD;(case MW=>(intro W f;go_simp;(try with_reducible rfl)));try simp only[cA,dO,dN,dX,dA,dz,dr]
 refine fU (i:=4) (v:=?v4) rfl (by kernel_rfl) (by kernel_rfl) (by kernel_rfl) (by kernel_rfl) (λ_ _ _ h=>h) (ax ⟨by rfl,?MV⟩) c ?aeC;(case MV=>(intro W f;go_simp;(try with_reducible rfl)));try simp only[cA,dO,dN,dX,dA,dz,dr]
 refine fU (i:=5) (v:=?v5) rfl (by kernel_rfl) (by kernel_rfl) (by kernel_rfl) (by kernel_rfl) (λ_ _ _ h=>h) (ax ⟨by rfl,?F6⟩) c ?WM;(case F6=>(intro W f;go_simp;(try with_reducible rfl)));try simp only[cA,dO,dN,dX,dA,dz,dr]
 refine fU (i:=6) (v:=?v6) rfl (by kernel_rfl) (by kernel_rfl) (by kernel_rfl) (by kernel_rfl) (λ_ _ _ h=>h) (ax ⟨by rfl,?F5⟩) c ?WL;(case F5=>(intro W f;go_simp;(try with_reducible rfl)));try simp only[cA,dO,dN,dX,dA,dz,dr]
 obtain⟨g,k⟩:=ex w.drew;rw[<-k]at c⊢;have n:g.heap.size=w:=by rw[k];rfl
 have t:=X k;have A:=X n;clear k n;refine CP (i:=7) (by kernel_rfl) rfl (by rfl) ?_;go_simp;go_at_call 52;refine jg (Uz o pfx g) ?_;rintro e i⟨rfl,l⟩;have d:aW g g i:=by rw[l];exact((eo _ _).alloc (aS _) _).alloc (by simp) _
 have QW:=(d.block p<|by grind).trans c;have I:dD<|i.heap.size=g+2:=X (by rw[l];simp);have G:i.cell? g=U (cq o)∧i.cell? ⟨g+1,0,Z⟩=U (aD pfx):=by rw[l];constructor<;>go_simp
 clear l;refine⟨by grind,?_⟩;try simp only[cA,dO,dN,dX,dA,dz,dr]
 have hC:dD<|bz Q 158 #[aE ad m.bq.length z,dM (ez 85) #[] #[aG g,aG<|U ⟨g+1,0,Z⟩]] i λe y=>∃q v,e=bj v∧q=dS L pfx∧y.ownsRow B 46 5 v (m.bq.length+q.length) (rows m.bq++rows q)∧bS (dh E) i (dh v) y:=by
  have n:=A.out;have QX:=I.out;have Q3:aW w w i:=by rw[t.out]at d;exact⟨d.os,d.tape,d.output,d.size,d.block⟩
  have a:=j.b.of_block<|Q3.block o K;refine X ?_;rw[<-u];refine aD8 B E m.bq.length (rows m.bq) 85 _ (λq=>q=dS L pfx) (λb=>b=g.heap.size∨b=g.heap.size+1∨b=o) i (λx w=>ao9 x w) (UA _ _ o L pfx i G.1 G.2 a hL) ?_ (by omega) (dx j.a.bq λb T=>Q3.block b<|j.d b T) ?_ (λq e=>by grind);·grind
  ·rintro b(rfl|rfl|rfl)e;·have:=j.d _ e;omega
   ·have:=j.d _ e;omega
   ·exact j.c _ rfl e
 refine CP (i:=8) (by kernel_rfl) rfl (by rfl) ?_;go_simp;go_at_call 158;refine jg hC.out ?_;rintro e w2⟨CN,v2,rfl,rfl,R,H⟩;have n:=A.out;have QX:=I.out;have r:=(H.1.block p (by omega) λe=>absurd (eS.one j.a.rM<|fN j.a.bq e)<|by decide).trans QW;obtain⟨N,F,J⟩:=gD R;have Q1:=X (j.a.aEn (R:=dS L pfx) (by rw[t.out]at d;exact(⟨d.os,d.tape,d.output,d.size,d.block⟩:aW w.heap.size w i)) H<|by grind[List.length_append,QN]);obtain⟨u0,uf⟩:=k0 w2 r;subst J;refine⟨by grind,?_⟩;try simp only[cA,dO,dN,dX,dA,dz,dr]
 refine CO (i:=9) (v:=aG<|U ⟨p,0,Z⟩) (w':=w2) (by kernel_rfl) rfl (by rfl) ?BH (λ_=>r) ?ati;(case BH=>(go_simp));try simp only[cA,dO,dN,dX,dA,dz,dr]
 refine CO (i:=10) (v:=aG<|U ⟨p,0,Z⟩) (w':=w2) (by kernel_rfl) rfl (by rfl) ?Zh (λ_=>r) ?aeF;(case Zh=>(go_simp));try simp only[cA,dO,dN,dX,dA,dz,dr]
 refine PM (i:=11) (w':=w2.setCell ⟨p,0,Z⟩<|aE N (m.bq.length+(dS L pfx).length) F) (by kernel_rfl) rfl (by rfl) ?Zg (λh=>Bool.noConfusion h) ?aeE;(case Zg=>(go_simp));try simp only[cA,dO,dN,dX,dr]
 refine PN (by kernel_rfl) ?_ _;refine qN ?_;go_wp2;go_end0;exact⟨rfl,_,⟨_,_,_,_,_,Q1.out.1,rfl⟩,Q1.out.2⟩
end
end Go.Proofs.YtpdbmpbmepkikaaGreatDoor
