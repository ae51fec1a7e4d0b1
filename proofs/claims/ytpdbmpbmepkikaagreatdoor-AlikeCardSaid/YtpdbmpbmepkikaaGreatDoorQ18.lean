/- Laws. -/
import Derived.Test.YtpdbmpbmepkikaaGreatDoorQ16
set_option maxRecDepth 100000
set_option maxHeartbeats 400000
set_option linter.all false
open Go.Proofs.Tryz
open And renaming intro->aM
open Bool renaming true->Y
open Go renaming World->ay,Value->az,Calls->bz
open Go.Ending renaming returned->bj
open Go.IntKind renaming i64->aC
open Go.RowKit renaming Below->aW,Hid->dD,wrap64->iJ
open Go.Value renaming int->V,string->aD,slice->aE,pointer->aG,tuple->bO,bool->bQ
open Option renaming some->U,none->Z
open Or renaming inr->aA,inl->ax
namespace Go.Proofs.YtpdbmpbmepkikaaGreatDoor
section
open Go.RowKit
section
variable {N K S M:Nat} {ks kq:Keys} {w w':ay} {pw qw:Nat} {pv qv:az} {R R' Q:Nat->Rk}
structure Low(M pw:Nat)(pv:az)(R:Nat->Rk):Prop where
 pw:pw<M
 pv:∀b,pv.ownBlock=U b->b<M
 eE:∀k,k<3->(R k).p<M/\(R k).m<M/\(R k).g<M
theorem fJ.low(h:fJ N K S ks w pw pv R):Low w.heap.size pw pv R:=⟨(cU.1 h.mY.box).1,λb hb=>(h.mY.row.lt b hb).2,λk E=>⟨(h.eE k E).rep.lt,(h.eE k E).book.lt,(h.eE k E).map.lt⟩⟩
theorem Low.maps(h:Low M pw pv R){b:Nat}(hb:oG R b):b<M:=by
 obtain⟨k,E,q|q⟩:=hb<;>rw[q];.exact(h.eE k E).2.1
 .exact(h.eE k E).2.2
theorem fJ.keep(h:fJ N K S ks w pw pv R){F:Nat->Prop}(E:aK F w w')(h1:¬F pw)(h2:∀b,pv.ownBlock=U b->¬F b)(h3:∀k,k<3->¬F (R k).p/\¬F (R k).m/\¬F (R k).g):fJ N K S ks w' pw pv R:=⟨⟨(E.block _ h.low.pw h1).trans h.mY.box,dx h.mY.row λb hb=>E.block b (h.mY.row.lt b hb).2<|h2 b hb⟩,λi hi=>(h.eE i hi).blocks (E.block _ (h.low.eE i hi).1 (h3 i hi).1) (E.block _ (h.low.eE i hi).2.1 (h3 i hi).2.1)<|E.block _ (h.low.eE i hi).2.2 (h3 i hi).2.2,h.ms,h.gm,h.gs,h.kl,h.IL,h.IK⟩
theorem fJ.Uy(h:fJ N K S ks w pw pv R)(hl:Low M pw pv R){F:Nat->Prop}(J:aK F w w')(hF:∀b,F b->M<=b):fJ N K S ks w' pw pv R:=h.keep J λq=>by have:=hF _ q;have:=hl.pw;omega λb hb q=>by have:=hF _ q;have:=hl.pv b hb;omega λk E=>⟨λq=>by have:=hF _ q;have:=(hl.eE k E).1;omega,λq=>by have:=hF _ q;have:=(hl.eE k E).2.1;omega,λq=>by have:=hF _ q;have:=(hl.eE k E).2.2;omega⟩
theorem fJ.above(h:fJ M K S ks w pw pv R){F:Nat->Prop}(J:aK F w w')(hF:∀b,F b->b<M):fJ M K S ks w' pw pv R:=h.keep J λq=>by have:=hF _ q;have:=h.IK;omega λb hb q=>by have:=hF _ q;have:=h.IL b hb;omega λk E=>⟨λq=>by have:=hF _ q;have:=(h.eE k E).pN;omega,λq=>by have:=hF _ q;have:=(h.eE k E).mN;omega,λq=>by have:=hF _ q;have:=(h.eE k E).gN;omega⟩
theorem Low.same(h:Low M pw pv R)(s:pE R R'):Low M pw pv R':=⟨h.pw,h.pv,λk E=>by rw[s.p,s.m,s.g];exact h.eE k E⟩
end
def aEI(N M:Nat)(l:List jQ)(pw:Nat)(pv:az)(R:Nat->Rk)(qw:Nat)(qv:az)(Q:Nat->Rk)(w0:ay)(j:Nat)(W:ay):Prop:=∃R' ks E kq,fJ N j 0 ks W pw pv R'/\pE R R'/\(∀k,k<3->(R' k).l=after (l.take j) k)/\fJ M j 0 kq W qw qv E/\pE Q E/\(∀k,k<3->(E k).l=after (l.take j) k)/\aK (λb=>oG R b\/oG Q b) w0 W
section
variable {X Y Z:List O}
def J3(X Y Z:List O):List O:=gz (gz X Y) Z
theorem J3.a(J:j X)(E:j Y):J3 X Y Z=J3 Y X Z:=by unfold J3;rw[F3 J E]
theorem J3.b(U:j X)(J:j Y)(E:j Z):J3 X Y Z=J3 X Z Y:=by unfold J3;rw[YY U J E,F3 J E,<-YY U E J]
theorem J3.self(J:j X)(U:j Y)(E:j Z):gz (J3 X Y Z) (gz X Y)=J3 X Y Z:=by have h:=qU J Y;unfold J3;rw[F3 (qU h Z) h,<-YY h h E,axe h]
theorem J3.perm{A:Nat->List O}(hA:∀k,j<|A k){a b c:Nat}(ha:a<3)(hb:b<3)(hc:c<3)(B:a≠b)(J:a≠c)(E:b≠c):J3 (A a) (A b) (A c)=J3 (A 0) (A 1) (A 2):=by
 have h:a=0/\b=1/\c=2\/a=0/\b=2/\c=1\/a=1/\b=0/\c=2\/a=1/\b=2/\c=0\/a=2/\b=0/\c=1\/a=2/\b=1/\c=0:=by omega
 have h0:=hA 0;have h1:=hA 1;have h2:=hA 2;rcases h with⟨rfl,rfl,rfl⟩|⟨rfl,rfl,rfl⟩|⟨rfl,rfl,rfl⟩|⟨rfl,rfl,rfl⟩|⟨rfl,rfl,rfl⟩|⟨rfl,rfl,rfl⟩;.rfl
 .exact J3.b h0 h2 h1
 .exact J3.a h1 h0
 .rw[J3.b h1 h2 h0,J3.a h1 h0]
 .rw[J3.a h2 h0,J3.b h0 h2 h1]
 .rw[J3.a h2 h1,J3.b h1 h2 h0,J3.a h1 h0]
end
theorem aD5(p:Nat)(hp:p<6):∃a b c q:Nat,(a<3/\b<3/\c<3/\a≠b/\a≠c/\b≠c)/\(p:Int).tmod 3=(a:Int)/\(p:Int).tdiv 3=(q:Int)/\(p:Int)/3=(q:Int)/\aC.wrap (a:Int)=(a:Int)/\aC.wrap (q:Int)=(q:Int)/\aC.wrap (b:Int)=(b:Int)/\aC.wrap ((a:Int)+1)=(a:Int)+1/\iJ ((a:Int)+1)=(a:Int)+1/\iJ (q:Int)=(q:Int)/\aC.wrap ((a:Int)+1+(q:Int))=(a:Int)+1+(q:Int)/\iJ ((a:Int)+1+(q:Int))=(a:Int)+1+(q:Int)/\((a:Int)+1+(q:Int)).tmod 3=(b:Int)/\aC.wrap (3-(a:Int))=3-(a:Int)/\iJ (3-(a:Int))=3-(a:Int)/\aC.wrap (3-(a:Int)-(b:Int))=(c:Int)/\iJ (3-(a:Int)-(b:Int))=(c:Int):=by
 have h:p=0\/p=1\/p=2\/p=3\/p=4\/p=5:=by omega
 refine⟨p%3,(p%3+1+p/3)%3,3-p%3-(p%3+1+p/3)%3,p/3,?_⟩;rcases h with rfl|rfl|rfl|rfl|rfl|rfl<;>decide+kernel
set_option maxHeartbeats 16000000 in
theorem aEf(v:az)(l:List jQ)(i:Int)(w:ay)(h:AW w v l)(hl:l.length<=140737488355328)(hz:∀x∈l,x.n.size<=140737488355328/\x.f.size<=140737488355328/\x.v.size<=140737488355328)(hw:∀x∈l,gu x.who)(hi:gu i)(hT:jA w)(ht:fQ w)(hf:sQ w):bz Q 4 #[v,V aC i] w λe w'=>e=bj (bQ Y)/\aW w.heap.size w w':=by
 have HC:=X<|VT v l w h hl hz;obtain⟨xw,xu,F7⟩:∃xw xu,v=aE xw l.length xu:=by
  rcases h with⟨⟨ad,cap,rfl⟩,rfl⟩|⟨g,off,cap,rfl,_⟩;.exact⟨_,_,rfl⟩
  .exact⟨_,_,rfl⟩
 subst F7;have h4:4<w.heap.size:=(cU.1 hf).1;cases qV:A9 l with|false=>rw[qV]at HC;clear h hl hz hw hi hT ht hf qV;go_enter acD,ntmps4;go_wp2_with(go_at_call 14;go_must(refine HC.out.mono ?_);rintro e w1⟨rfl,gU⟩;have mm:=X gU;clear gU);go_ret;exact⟨rfl,mm.out⟩|true=>
  rw[qV]at HC;obtain⟨lJ,jV⟩:=VS qV;have HH:=X<|aM h<|aM hw<|aM hi<|aM hT<|aM ht<|aM hf<|aM lJ jV;clear h hl hz hw hi hT ht hf qV lJ jV;go_enter acD,ntmps4;go_wp2_with(go_at_call 14;go_must(refine HC.out.mono ?_);rintro e w1⟨rfl,gU⟩;have mm:=X gU;clear gU;refine Halt.of ?_);unfold Halt;have Fb:=X<|abv w1 (HH.out.2.2.2.1.below mm.out<|aS _) (HH.out.2.2.2.2.1.below mm.out<|aS _)<|(mm.out.block 4 h4).trans HH.out.2.2.2.2.2.1;clear HC;go_wp2_with(go_at_call 15;go_must(refine Fb.out.mono ?_);rintro e w2⟨rfl,l7⟩;have zC:=X<|mm.out.trans<|l7.mono mm.out.size;clear l7;refine Halt.of ?_);unfold Halt;have zF:=X<|Lv w2;clear Fb;go_wp2_with(go_at_call 16;go_must(refine zF.out.mono ?_);rintro e w3⟨pw,pv,R,rfl,wE,hR,iP⟩;have H3:=X<|aM wE<|aM hR<|zC.out.trans<|iP.mono zC.out.size;clear wE hR iP;refine Halt.of ?_);unfold Halt;clear zF;have zF:=X<|Lv w3;have HL:=X H3.out.1.low;go_wp2_with(go_at_call 16;go_must(refine zF.out.mono ?_);rintro e w4⟨qw,qv,D,rfl,hT4,hQ,As⟩;have H4:=X<|aM hT4<|aM hQ As;clear hT4 hQ As;refine Halt.of ?_);unfold Halt;clear zF;have aiK:aW w.heap.size w w4:=H3.out.2.2.trans<|H4.out.2.2.mono H3.out.2.2.size;have UR:=X aiK;clear aiK;go_wp2;go_loopg[11]l.lengthλn s11 wr=>∃d:Nat,s11=V aC d/\n+d=l.length/\aEI w2.heap.size w3.heap.size l pw pv R qw qv D w4 d wr;case atStart=>exact⟨0,rfl,by omega,R,[],D,[],H3.out.1.below H4.out.2.2,.refl _,λk hk=>(H3.out.2.1 k hk).2.1,H4.out.1,.refl _,λk hk=>(H4.out.2.1 k hk).2.1,.refl _ _⟩
  case round=>
   obtain⟨d,rfl,hn,R',ks,Q',kq,qs,ko,kK,B0,B2,DW,mG⟩:=hrel;have jW:w.heap.size<=w2.heap.size:=zC.out.size;have jV:w.heap.size<=w3.heap.size:=H3.out.2.2.size;have jx:aW w.heap.size w wr:=UR.out.trans (mG.below UR.out.size λb hb q=>by
    rcases q with q|q;.have:=H3.out.1.lo q;omega
    .have:=H4.out.1.lo q;omega);have Eh:∀b,oG R' b->b<w3.heap.size:=λb q=>HL.out.maps (by rwa[ko.maps]at q);have Ei:∀b,oG Q' b->w3.heap.size<=b:=λb q=>B0.lo q;by_cases hj:d<l.length
   .obtain⟨hS,hw,hi,hT,ht,hf,lJ,ahz⟩:=HH.out;rcases hS with⟨zb,NL⟩|⟨g,off,cap,zb,hg,hc⟩;.rw[NL]at hj;simp at hj
    simp only[oU]at zb;obtain⟨rfl,-,rfl⟩:=zb;have wm:=lV hj;obtain⟨op,iX⟩:∃op,op=l[d]:=⟨_,rfl⟩;have kc:∀W,aW w.heap.size w W->∀i,i<4->∀u,op.cells[i]?=U u->W.cell? ⟨g,off+d*4+i,Z⟩=U u:=λW hW i hi u hu=>(hW.cell (p:=⟨g,off+d*4+i,Z⟩) hg).trans (by rw[Nat.add_assoc];exact hc _ _<|by rw[Om hj i hi,<-iX];exact hu);have DR:=hw _ wm;have fo:=ahz _ wm;rw[<-iX]at DR fo;have zE:=X<|TV w2.heap.size d 0 ks wr pw pv R' op qs (λk hk=>by rw[ko.id k];exact(H3.out.2.1 k hk).1) (by omega) (by omega) DR (by omega) (by omega)<|hT.below jx<|aS _;have e0:wr.cell? ⟨g,off+d*4,Z⟩=U (V aC op.who):=kc wr jx 0 (by omega) _ rfl;have e1:wr.cell? ⟨g,off+d*4+1,Z⟩=U (aD op.n):=kc wr jx 1 (by omega) _ rfl;have e2:wr.cell? ⟨g,off+d*4+2,Z⟩=U (aD op.f):=kc wr jx 2 (by omega) _ rfl;have e3:wr.cell? ⟨g,off+d*4+3,Z⟩=U (aD op.v):=kc wr jx 3 (by omega) _ rfl;have nB:(d:Int)<(l.length:Int):=by omega
    have fg:aC.wrap ((d:Int)+1)=(d:Int)+1:=by rw[mB];omega
    have yS:iJ ((d:Int)+1)=(d:Int)+1:=by unfold iJ;omega
    have B:=X<|aM iX<|aM ko<|aM kK<|aM B0<|aM B2<|aM DW<|aM mG<|aM Eh<|aM Ei<|aM kc<|aM DR<|aM fo<|aM hT<|aM jx lJ;clear hw hi hT ht hf lJ ahz hc wm iX kc qs ko kK B0 B2 DW mG jx Eh Ei DR fo;go_wp2_with(go_at_call 17;go_must(refine zE.out.mono ?_);rintro e w7⟨rfl,R7,Yo,E7⟩;have H7:=X E7;clear E7;refine Halt.of ?_);unfold Halt;clear zE e0 e1 e2 e3;obtain⟨iX,ko,kK,B0,B2,DW,mG,Eh,Ei,kc,DR,fo,hT,jx,lJ⟩:=B.out;have J8:aW w.heap.size w w7:=jx.trans (H7.out.keep.below jx.size λb hb q=>by rw[ko.maps]at q;have:=H3.out.1.lo q;omega);have aiT:=B0.above H7.out.keep Eh;have zE:=X<|TV w3.heap.size d 0 kq w7 qw qv Q' op aiT (λk hk=>by rw[B2.id k];exact(H4.out.2.1 k hk).1) (by omega) (by omega) DR (by omega) (by omega)<|hT.below J8<|aS _;have e0:w7.cell? ⟨g,off+d*4,Z⟩=U (V aC op.who):=kc w7 J8 0 (by omega) _ rfl;have e1:w7.cell? ⟨g,off+d*4+1,Z⟩=U (aD op.n):=kc w7 J8 1 (by omega) _ rfl;have e2:w7.cell? ⟨g,off+d*4+2,Z⟩=U (aD op.f):=kc w7 J8 2 (by omega) _ rfl;have e3:w7.cell? ⟨g,off+d*4+3,Z⟩=U (aD op.v):=kc w7 J8 3 (by omega) _ rfl;clear iX ko kK B0 B2 DW mG Eh Ei kc DR fo hT jx lJ J8 aiT;go_wp2_with(go_at_call 17;go_must(refine zE.out.mono ?_);rintro e w8⟨rfl,Q8,kq8,E8⟩;have H8:=X E8;clear E8;refine Halt.of ?_);unfold Halt;clear zE;go_wp2;go_roundg(gk-1);case rel=>
     obtain⟨iX,ko,kK,B0,B2,DW,mG,Eh,Ei,kc,DR,fo,hT,jx,lJ⟩:=B.out;have E:=H7.out;have F:=H8.out;rw[iX]at E F;refine⟨d+1,congrArg (V aC)<|by omega,by omega,R7,Yo,Q8,kq8,E.jD.Uy (M:=w3.heap.size) ((HL.out.same ko).same E.same) F.keep Ei,ko.trans E.same,λk qX=>by rw[E.ls k qX,abw hj];exact aaU<|kK k qX,F.jD,B2.trans F.same,λk qX=>by rw[F.ls k qX,abw hj];exact aaU<|DW k qX,mG.trans<|(E.keep.mono λb _ q=>?_).trans<|F.keep.mono λb _ q=>?_⟩;.rw[ko.maps]at q;exact ax q
     .rw[B2.maps]at q;exact aA q
    case measure=>omega
   .have jw:l.length=d:=by omega
    subst jw;have Em:=HH.out.2.2.1;obtain⟨p,hp⟩:∃p,p=uB i 6:=⟨_,rfl⟩;have hp6:p<6:=by rw[hp];exact Mb<|by omega
    obtain⟨a,b,c,q,⟨ki,iP,wz,BY,NJ,Tk⟩,hAR⟩:=aD5 p hp6;have AR:=X hAR;clear hAR;have Fa:dD<|∀W,bz Q 18 #[V aC i,V aC 6] W λe W'=>e=bj (V aC p)/\W'=W:=X λW=>by have:=Me i 6 W (by omega) (by omega) Em;rw[<-hp]at this;exact this
    have Gj:=HH.out.2.2.2.2.2.2.1;have Ni:=HL.out.same ko;obtain⟨wo,rfl⟩:∃wo,wo=wr:=⟨wr,rfl⟩;have lZ:5<=w2.heap.size:=by omega
    have JD:5<=w3.heap.size:=by omega
    have Ts:∀W,aW w.heap.size w W->fQ W/\sQ W:=λW hW=>⟨HH.out.2.2.2.2.1.below hW<|aS _,(hW.block 4 h4).trans HH.out.2.2.2.2.2.1⟩;have C:=X<|CR w2.heap.size l.length 0 ks wo pw pv R' a b ki iP BY qs lZ (by omega) (by omega) (Ts _ jx).1 (Ts _ jx).2;have B:=X<|aM qs<|aM jx<|aM kK<|aM B0<|aM DW<|aM Ni<|aM Eh<|aM Ei<|aM Ts<|aM Gj<|aM jW<|aM jV hp;clear Em qs ko kK B0 B2 DW mG jx Eh Ei Ni Ts Gj jW jV hp;go_wp2_with(go_at_call 18;go_must(refine(Fa.out _).mono ?_);rintro e w5⟨rfl,Ak⟩;subst Ak;refine Halt.of ?_);unfold Halt;clear Fa;obtain⟨wp1,wp2,wp3,wa,wq,wb,y1,y1',wq',x2,U7,hm,x3,U6,x4,U5⟩:=AR.out;go_wp2_with(go_at_call 19;go_must(refine C.out.mono ?_);rintro e wa1⟨rfl,R1,hx⟩;have CB:=X hx;clear hx;refine Halt.of ?_);unfold Halt;clear C;clear wp1 wp2 wp3 wa wq wb y1 y1' wq' x2 U7 hm x3 U6 x4 U5 AR;have ox:aW w.heap.size w wa1:=B.out.2.1.trans (CB.out.keep.below B.out.2.1.size λb hb q=>by have:=B.out.1.lo q;have:=B.out.2.2.2.2.2.2.2.2.2.2.1;omega);have C:=X<|CR w2.heap.size l.length 8 ks wa1 pw pv R1 b c iP wz Tk CB.out.jD lZ (by have:=B.out.2.2.2.2.2.2.2.2.2.1;omega) (by omega) (B.out.2.2.2.2.2.2.2.2.1 _ ox).1 (B.out.2.2.2.2.2.2.2.2.1 _ ox).2;have amj:=X ox;clear ox;go_wp2_with(go_at_call 19;go_must(refine C.out.mono ?_);rintro e wa2⟨rfl,R2,hx⟩;have EX:=X hx;clear hx;refine Halt.of ?_);unfold Halt;clear C;have Kj:aW w.heap.size w wa2:=amj.out.trans (EX.out.keep.below amj.out.size λb hb q=>by have:=CB.out.jD.lo q;have:=B.out.2.2.2.2.2.2.2.2.2.2.1;omega);have C:=X<|CR w2.heap.size l.length 16 ks wa2 pw pv R2 c a wz ki (λe=>NJ e.symm) EX.out.jD lZ (by have:=B.out.2.2.2.2.2.2.2.2.2.1;omega) (by omega) (B.out.2.2.2.2.2.2.2.2.1 _ Kj).1 (B.out.2.2.2.2.2.2.2.2.1 _ Kj).2;have ami:=X Kj;clear Kj;go_wp2_with(go_at_call 19;go_must(refine C.out.mono ?_);rintro e wa3⟨rfl,R3,hx⟩;have KT:=X hx;clear hx;refine Halt.of ?_);unfold Halt;clear C;have Ki:aW w.heap.size w wa3:=ami.out.trans (KT.out.keep.below ami.out.size λb hb q=>by have:=EX.out.jD.lo q;have:=B.out.2.2.2.2.2.2.2.2.2.2.1;omega);have SZ:∀b,oG R1 b->b<w3.heap.size:=λb q=>B.out.2.2.2.2.2.2.1 b (by rwa[CB.out.same.maps]at q);have DV:∀b,oG R2 b->b<w3.heap.size:=λb q=>SZ b (by rwa[EX.out.same.maps]at q);have aai:=((B.out.2.2.2.1.above CB.out.keep B.out.2.2.2.2.2.2.1).above EX.out.keep SZ).above KT.out.keep DV;have C:=X<|CR w3.heap.size l.length 0 kq wa3 qw qv Q' 0 1 (by omega) (by omega) (by omega) aai JD (by have:=B.out.2.2.2.2.2.2.2.2.2.1;omega) (by omega) (B.out.2.2.2.2.2.2.2.2.1 _ Ki).1 (B.out.2.2.2.2.2.2.2.2.1 _ Ki).2;have US:=X<|aM Ki aai;clear Ki SZ DV aai;go_wp2_with(go_at_call 19;go_must(refine C.out.mono ?_);rintro e wa4⟨rfl,Q1,hx⟩;have EW:=X hx;clear hx;refine Halt.of ?_);unfold Halt;clear C;have Kh:aW w.heap.size w wa4:=US.out.1.trans (EW.out.keep.below US.out.1.size λb hb q=>by have:=US.out.2.lo q;have:=B.out.2.2.2.2.2.2.2.2.2.2.2.1;omega);have C:=X<|CR w3.heap.size l.length 8 kq wa4 qw qv Q1 2 1 (by omega) (by omega) (by omega) EW.out.jD JD (by have:=B.out.2.2.2.2.2.2.2.2.2.1;omega) (by omega) (B.out.2.2.2.2.2.2.2.2.1 _ Kh).1 (B.out.2.2.2.2.2.2.2.2.1 _ Kh).2;have amh:=X Kh;clear Kh;go_wp2_with(go_at_call 19;go_must(refine C.out.mono ?_);rintro e wa5⟨rfl,Q2,hx⟩;have Hj:=X hx;clear hx;refine Halt.of ?_);unfold Halt;clear C;have TD:aW w.heap.size w wa5:=amh.out.trans (Hj.out.keep.below amh.out.size λb hb q=>by have:=EW.out.jD.lo q;have:=B.out.2.2.2.2.2.2.2.2.2.2.2.1;omega);have C:=X<|CR w3.heap.size l.length 16 kq wa5 qw qv Q2 1 0 (by omega) (by omega) (by omega) Hj.out.jD JD (by have:=B.out.2.2.2.2.2.2.2.2.2.1;omega) (by omega) (B.out.2.2.2.2.2.2.2.2.1 _ TD).1 (B.out.2.2.2.2.2.2.2.2.1 _ TD).2;have amg:=X TD;clear TD;go_wp2_with(go_at_call 19;go_must(refine C.out.mono ?_);rintro e CV⟨rfl,Q3,hx⟩;have UI:=X hx;clear hx;refine Halt.of ?_);unfold Halt;clear C;have Er:aW w.heap.size w CV:=amg.out.trans (UI.out.keep.below amg.out.size λb hb q=>by have:=Hj.out.jD.lo q;have:=B.out.2.2.2.2.2.2.2.2.2.2.2.1;omega);obtain⟨J,hJ⟩:∃J,J=J3 (after l 0) (after l 1) (after l 2):=⟨_,rfl⟩;have Am:∀k,k<3->(R' k).l=after l k:=λk hk=>by have:=B.out.2.2.1 k hk;rwa[Sr<|aS _]at this
    have JP:∀k,k<3->(Q' k).l=after l k:=λk hk=>by have:=B.out.2.2.2.2.1 k hk;rwa[Sr<|aS _]at this
    have Al:∀k,k<3->j (after l k):=λk hk=>by rw[<-Am k hk];exact(B.out.1.eE k hk).bk.sorted
    have hJa:J3 (after l a) (after l b) (after l c)=J:=by rw[hJ];have:=J3.perm (A:=λk=>if k<3 then after l k else[]) (λk=>by show j<|if k<3 then after l k else[];split;exact Al k ‹_›;exact List.Pairwise.nil) ki iP wz BY NJ Tk;simpa[ki,iP,wz]using this
    have r2c:(R2 c).l=J:=by rw[EX.out.lj,CB.out.lj,CB.out.lk c (λe=>NJ e.symm) λe=>Tk e.symm,Am a ki,Am b iP,Am c wz];exact hJa
    have r2a:(R2 a).l=gz (after l a) (after l b):=by rw[EX.out.lk a BY NJ,CB.out.li,Am a ki,Am b iP]
    have r3:gz (R2 c).l (R2 a).l=J:=by rw[r2c,r2a,<-hJa];exact J3.self (Al a ki) (Al b iP)<|Al c wz
    have WV:(R3 a).l=J:=KT.out.lj.trans r3;have r3c:(R3 c).l=J:=KT.out.li.trans r3;have q1:(Q2 1).l=J:=by rw[Hj.out.lj,EW.out.lk 2 (by omega)<|by omega,EW.out.lj,JP 0<|by omega,JP 1<|by omega,JP 2<|by omega,hJ];exact F3 (Al 2<|by omega)<|qU (Al 0<|by omega) _
    have q0:(Q2 0).l=gz (after l 0) (after l 1):=by rw[Hj.out.lk 0 (by omega)<|by omega,EW.out.li,JP 0<|by omega,JP 1<|by omega]
    have q3:(Q3 0).l=J:=by rw[UI.out.lj,q1,q0,hJ];exact J3.self (Al 0<|by omega) (Al 1<|by omega)<|Al 2<|by omega
    have Ta:Low w3.heap.size pw pv R3:=((B.out.2.2.2.2.2.1.same CB.out.same).same EX.out.same).same KT.out.same;have wE:=((KT.out.jD.Uy Ta EW.out.keep λb q=>US.out.2.lo q).Uy Ta Hj.out.keep λb q=>EW.out.jD.lo q).Uy Ta UI.out.keep λb q=>Hj.out.jD.lo q;have hlen:J.length<=4096:=by rw[<-WV];exact wE.len (by have:=B.out.2.2.2.2.2.2.2.2.2.1;omega) ki
    have CA:dD<|∀W,aW CV.heap.size CV W->bz Q 21 #[aG<|U ⟨pw,0,Z⟩,V aC a] W λe W'=>∃v,e=bj (bO #[v,bQ Y])/\qE W.heap.size W' v J/\aW W.heap.size W W':=X λW hW=>by have:=(wE.below hW).bq ki (by have:=B.out.2.2.2.2.2.2.2.2.2.1;omega);rwa[WV]at this
    have CC:dD<|∀W,aW CV.heap.size CV W->bz Q 21 #[aG<|U ⟨pw,0,Z⟩,V aC c] W λe W'=>∃v,e=bj (bO #[v,bQ Y])/\qE W.heap.size W' v J/\aW W.heap.size W W':=X λW hW=>by have:=(wE.below hW).bq wz (by have:=B.out.2.2.2.2.2.2.2.2.2.1;omega);rwa[r3c]at this
    have CQ:dD<|∀W,aW CV.heap.size CV W->bz Q 21 #[aG<|U ⟨qw,0,Z⟩,V aC 0] W λe W'=>∃v,e=bj (bO #[v,bQ Y])/\qE W.heap.size W' v J/\aW W.heap.size W W':=X λW hW=>by have:=(UI.out.jD.below hW).bq (k:=0) (by omega) (by have:=B.out.2.2.2.2.2.2.2.2.2.1;omega);rwa[q3]at this
    have UQ:=X<|aM Er hlen;clear Er hJ Am JP Al hJa r2c r2a r3 WV r3c q1 q0 q3 Ta wE hlen;go_wp2_with(go_at_call 21;go_must(refine(CA.out _<|eo _ _).mono ?_);rintro e wb1⟨v1,rfl,tJ,gU⟩;have K1:=X<|aM tJ gU;clear tJ gU;refine Halt.of ?_);unfold Halt;go_wp2_with(go_at_call 21;go_must(refine(CC.out _ K1.out.2).mono ?_);rintro e wb2⟨v2,rfl,yU,l7⟩;have K2:=X<|aM yU l7;clear yU l7;refine Halt.of ?_);unfold Halt;have h12:=K1.out.2.trans<|K2.out.2.mono K1.out.2.size;have K12:=X h12;clear h12;go_wp2_with(go_at_call 21;go_must(refine(CQ.out _ K12.out).mono ?_);rintro e wb3⟨v3,rfl,DK,iP⟩;have K3:=X<|aM DK iP;clear DK iP;refine Halt.of ?_);unfold Halt;clear CA CC CQ;have Kl:=K12.out.trans<|K3.out.2.mono K12.out.size;have tJ:qE CV.heap.size wb3 v1 J:=K1.out.1.below<|K2.out.2.trans<|K3.out.2.mono K2.out.2.size;have zD:=X (QL v1 v2 J wb3 tJ.at (K2.out.1.below K3.out.2).at<|by have:=UQ.out.2;omega);have K13:=X<|aM Kl tJ;clear Kl tJ;go_wp2_with(go_at_call 22;go_must(refine zD.out.mono ?_);rintro e wb4⟨rfl,As⟩;have K4:=X As;clear As;refine Halt.of ?_);unfold Halt;clear zD;have zD:=X (QL v1 v3 J wb4 (K13.out.2.below K4.out).at (K3.out.1.below K4.out).at<|by have:=UQ.out.2;omega);go_wp2_with(go_at_call 22;go_must(refine zD.out.mono ?_);rintro e wb5⟨rfl,NH⟩;have K5:=X NH;clear NH;refine Halt.of ?_);unfold Halt;clear zD;go_wp2;go_ret;have h9:=K13.out.1.trans<|(K4.out.trans<|K5.out.mono K4.out.size).mono K13.out.1.size;exact⟨rfl,UQ.out.1.trans<|h9.mono UQ.out.1.size⟩
end
end Go.Proofs.YtpdbmpbmepkikaaGreatDoor
