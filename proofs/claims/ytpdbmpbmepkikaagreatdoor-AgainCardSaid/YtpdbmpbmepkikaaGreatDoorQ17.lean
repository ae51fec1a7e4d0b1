/- Laws. -/
import Derived.Test.YtpdbmpbmepkikaaGreatDoorQ16
set_option maxRecDepth 100000
set_option maxHeartbeats 400000
set_option linter.all false
open Go.Proofs.Tryz
open And renaming intro->aM
open Bool renaming true->Y
open Go renaming World->ay,Value->az,Calls->bz
open Go.Ending renaming returned->bj
open Go.IntKind renaming i64->aC
open Go.RowKit renaming Below->aW,Hid->dD,wrap64->iJ
open Go.Value renaming int->V,string->aD,slice->aE,pointer->aG,tuple->bO,bool->bQ
open Option renaming some->U,none->Z
namespace Go.Proofs.YtpdbmpbmepkikaaGreatDoor
section
open Go.RowKit
set_option maxHeartbeats 8000000 in
theorem aEi(v:az)(l:List jQ)(i:Int)(w:ay)(h:AW w v l)(hl:l.length<=140737488355328)(hz:∀x∈l,x.n.size<=140737488355328/\x.f.size<=140737488355328/\x.v.size<=140737488355328)(hw:∀x∈l,gu x.who)(hi:gu i)(hT:jA w)(ht:fQ w)(hf:sQ w):bz Q 5 #[v,V aC i] w λe w'=>e=bj (bQ Y)/\aW w.heap.size w w':=by
 have B:=X<|VT v l w h hl hz;obtain⟨xw,xu,F7⟩:∃xw xu,v=aE xw l.length xu:=by
  rcases h with⟨⟨ad,cap,rfl⟩,rfl⟩|⟨g,off,cap,rfl,_⟩;.exact⟨_,_,rfl⟩
  .exact⟨_,_,rfl⟩
 subst F7;have h4:4<w.heap.size:=(cU.1 hf).1;cases qV:A9 l with|false=>rw[qV]at B;clear h hl hz hw hi hT ht hf qV;go_enter acy,ntmps5;go_wp2_with(go_at_call 14;go_must(refine B.out.mono ?_);rintro e w1⟨rfl,gU⟩;have mm:=X gU;clear gU);go_ret;exact⟨rfl,mm.out⟩|true=>
  rw[qV]at B;obtain⟨lJ,jV⟩:=VS qV;have A:=X<|aM h<|aM hw<|aM hi<|aM hT<|aM ht<|aM hf<|aM lJ jV;clear h hl hz hw hi hT ht hf qV lJ jV;go_enter acy,ntmps5;go_wp2_with(go_at_call 14;go_must(refine B.out.mono ?_);rintro e w1⟨rfl,gU⟩;have mm:=X gU;clear gU;refine Halt.of ?_);unfold Halt;have Fb:=X<|abv w1 (A.out.2.2.2.1.below mm.out<|aS _) (A.out.2.2.2.2.1.below mm.out<|aS _)<|(mm.out.block 4 h4).trans A.out.2.2.2.2.2.1;clear B;go_wp2_with(go_at_call 15;go_must(refine Fb.out.mono ?_);rintro e w2⟨rfl,l7⟩;have zC:=X<|mm.out.trans<|l7.mono mm.out.size;clear l7;refine Halt.of ?_);unfold Halt;have zF:=X<|Lv w2;clear Fb;go_wp2_with(go_at_call 16;go_must(refine zF.out.mono ?_);rintro e w3⟨pw,pv,R,rfl,wE,hR,iP⟩;have H3:=X<|aM wE<|aM hR<|zC.out.trans<|iP.mono zC.out.size;clear wE hR iP;refine Halt.of ?_);unfold Halt;clear zF;go_wp2;go_loopg[9]l.lengthλn s9 wr=>∃j:Nat,s9=V aC j/\n+j=l.length/\Lc w2.heap.size l pw pv R w3 j wr;case atStart=>exact⟨0,rfl,by omega,R,[],H3.out.1,.refl _,λk hk=>(H3.out.2.1 k hk).2.1,.refl _ _⟩
  case round=>
   obtain⟨j,rfl,hn,R',ks,qs,ko,kK,mG⟩:=hrel;have jW:w.heap.size<=w2.heap.size:=zC.out.size;have jx:aW w.heap.size w wr:=H3.out.2.2.trans (mG.below H3.out.2.2.size λb hb q=>by have:=H3.out.1.lo q;omega);by_cases hj:j<l.length
   .obtain⟨hS,hw,hi,hT,ht,hf,lJ,jV⟩:=A.out;rcases hS with⟨zb,NL⟩|⟨g,off,cap,zb,hg,hc⟩;.rw[NL]at hj;simp at hj
    simp only[oU]at zb;obtain⟨rfl,-,rfl⟩:=zb;have wm:=lV hj;obtain⟨op,iX⟩:∃op,op=l[j]:=⟨_,rfl⟩;have kc:∀i,i<4->∀u,op.cells[i]?=U u->wr.cell? ⟨g,off+j*4+i,Z⟩=U u:=λi hi u hu=>(jx.cell (p:=⟨g,off+j*4+i,Z⟩) hg).trans (by rw[Nat.add_assoc];exact hc _ _<|by rw[Om hj i hi,<-iX];exact hu);have zE:=X<|TV w2.heap.size j 0 ks wr pw pv R' op qs (λk hk=>by rw[ko.id k];exact(H3.out.2.1 k hk).1) (by omega) (by omega) (by rw[iX];exact hw _ wm) (by rw[iX];have:=jV _ wm;omega) (by rw[iX];have:=jV _ wm;omega)<|hT.below jx<|aS _;have e0:wr.cell? ⟨g,off+j*4,Z⟩=U (V aC op.who):=kc 0 (by omega) _ rfl;have e1:wr.cell? ⟨g,off+j*4+1,Z⟩=U (aD op.n):=kc 1 (by omega) _ rfl;have e2:wr.cell? ⟨g,off+j*4+2,Z⟩=U (aD op.f):=kc 2 (by omega) _ rfl;have e3:wr.cell? ⟨g,off+j*4+3,Z⟩=U (aD op.v):=kc 3 (by omega) _ rfl;have nB:(j:Int)<(l.length:Int):=by omega
    have fg:aC.wrap ((j:Int)+1)=(j:Int)+1:=by rw[mB];omega
    have yS:iJ ((j:Int)+1)=(j:Int)+1:=by unfold iJ;omega
    have HI:=X<|aM iX<|aM ko<|aM kK mG;clear hw hi hT ht hf lJ jV hc wm iX kc qs ko kK mG jx;go_wp2_with(go_at_call 17;go_must(refine zE.out.mono ?_);rintro e w7⟨rfl,R7,Yo,E7⟩;have H7:=X E7;clear E7;refine Halt.of ?_);unfold Halt;clear zE;go_wp2;go_roundg(gk-1);case rel=>obtain⟨iX,ko,kK,mG⟩:=HI.out;have E:=H7.out;rw[iX]at E;exact⟨j+1,congrArg (V aC)<|by omega,by omega,Lc.next hj ko kK mG E⟩
    case measure=>omega
   .have jw:l.length=j:=by omega
    subst jw;have Em:=A.out.2.2.1;obtain⟨a,ha⟩:∃a,a=uB i 3:=⟨_,rfl⟩;have ki:a<3:=by rw[ha];exact Mb<|by omega
    obtain⟨b,hb⟩:∃b,b=(a+1)%3:=⟨_,rfl⟩;have iP:b<3:=by omega
    have BY:a≠b:=by omega
    have Fa:dD<|∀W,bz Q 18 #[V aC i,V aC 3] W λe W'=>e=bj (V aC a)/\W'=W:=X λW=>by have:=Me i 3 W (by omega) (by omega) Em;rw[<-ha]at this;exact this
    have lJ:=A.out.2.2.2.2.2.2.1;have oI:=X<|CR w2.heap.size l.length 0 ks wr pw pv R' a b ki iP BY qs (by omega) (by omega) (by omega) (A.out.2.2.2.2.1.below jx<|aS _)<|(jx.block 4 h4).trans A.out.2.2.2.2.2.1;have w1:aC.wrap ((a:Int)+1)=(a:Int)+1:=by rw[mB];omega
    have w1':iJ ((a:Int)+1)=(a:Int)+1:=by unfold iJ;omega
    have hm:((a:Int)+1).tmod 3=(b:Int):=by rw[Int.tmod_eq_emod_of_nonneg<|by omega];omega
    have w2':aC.wrap (b:Int)=(b:Int):=by rw[mB];omega
    have HI:=X<|aM qs<|aM jx<|aM ha hb;obtain⟨wo,rfl⟩:∃wo,wo=wr:=⟨wr,rfl⟩;clear Em ha hb lJ qs ko kK mG jx;go_wp2_with(go_at_call 18;go_must(refine(Fa.out _).mono ?_);rintro e w5⟨rfl,Ak⟩;subst Ak;refine Halt.of ?_);unfold Halt;clear Fa;go_wp2_with(go_at_call 19;go_must(refine oI.out.mono ?_);rintro e w7⟨rfl,R7,hx⟩;have H7:=X hx;clear hx;refine Halt.of ?_);unfold Halt;clear oI;have E7:=H7.out;have Gj:=A.out.2.2.2.2.2.2.1;have tN:aW w.heap.size w w7:=HI.out.2.1.trans (E7.keep.below HI.out.2.1.size λb hb q=>by have:=HI.out.1.lo q;omega);have SS:=E7.cnt 0 (by
     obtain⟨n,h1,h2⟩:=(HI.out.1.eE a ki).Bb (R' b).id;have:n=0:=by omega
     rw[h1,this]);have J:=X<|aM E7<|aM tN SS;have sV:=X (E7.jD.bq ki<|by omega);clear E7 tN SS;go_wp2_with(go_at_call 21;go_must(refine sV.out.mono ?_);rintro e w8⟨v1,rfl,tJ,qY⟩;have H8:=X<|aM tJ qY;clear tJ qY;refine Halt.of ?_);unfold Halt;clear sV;have T8:=J.out.1.jD.below H8.out.2;have Tm:=J.out.2.1.trans<|H8.out.2.mono J.out.2.1.size;have Px:=X<|T8.QK ki iP BY (by omega) (n0:=8) (by omega) (by rw[J.out.1.same.id b];exact J.out.2.2) (vm:=aE Z 0 0) (c:=Z) rfl (A.out.2.2.2.2.1.below Tm<|aS _)<|(Tm.block 4 h4).trans A.out.2.2.2.2.2.1;have HI8:=X<|aM T8 Tm;clear T8 Tm;go_wp2_with(go_at_call 23;go_must(refine Px.out.mono ?_);rintro e w9⟨fr,sz,A',B',R9,rfl,hx⟩;have H9:=X hx;clear hx;refine Halt.of ?_);unfold Halt;clear Px;obtain⟨Av,B1,DY,JO,-,-,-,El⟩:=H9.out;have hJ:A'=(R7 a).l/\B'=(R7 a).l:=by have e:=J.out.1.li.trans J.out.1.lj.symm;have b1:=Av.bk.bX;have b2:=Av.bk.bY;rw[<-e]at b1 b2;exact⟨Uw Av.bk.sX Av.bk.sA b1,Uw Av.bk.sY Av.bk.sA b2⟩
    have yY:0<fr:=Mv λe=>by have:=Av.zero.1 e;cases this
    have fo:sz<=76:=by
     have h:=Av.size;have e:=J.out.1.li.trans J.out.1.lj.symm;rw[<-e]at h;have:sH (R7 a).l (R7 a).l (((8:Nat):Int)+1)=76:=by unfold sH;rw[if_neg<|by omega,aCp]
     omega
    have hjz:=Av.jz;have NI:aW w.heap.size w w9:=HI8.out.2.trans (El.below HI8.out.2.size λb hb q=>by have:=HI8.out.1.lo q;omega);have BH:qE w7.heap.size w9 v1 (R7 a).l:=H8.out.1.keep El λb q=>by
     obtain⟨k,hk,q|q⟩:=q<;>rw[q];.exact(J.out.1.jD.eE k hk).book.lt
     .exact(J.out.1.jD.eE k hk).map.lt
    have sV:=X (B1.bq ki<|by omega);have Py:dD<|∀W,aW w9.heap.size w9 W->bz Q 21 #[aG<|U ⟨pw,0,Z⟩,V aC b] W λe W'=>∃v,e=bj (bO #[v,bQ Y])/\qE W.heap.size W' v (R7 a).l/\aW W.heap.size W W':=X λW hW=>by have:=(B1.below hW).bq iP (by omega);rwa[JO,hJ.2]at this
    rw[DY,hJ.1]at sV;have hlen:(R7 a).l.length<=4096:=J.out.1.jD.len (by omega) ki;have Lb:=X<|aM NI<|aM BH hlen;have Gp:(0:Int)<(fr:Int):=by omega
    have jv:(0:Int)<(sz:Int):=by omega
    have jW:(sz:Int)<=100:=by omega
    clear Av B1 DY JO El hJ yY fo hjz NI BH hlen;go_wp2_with(go_at_call 21;go_must(refine sV.out.mono ?_);rintro e wA⟨v2,rfl,yU,Gt⟩;have HA:=X<|aM yU Gt;clear yU Gt;refine Halt.of ?_);unfold Halt;clear sV;go_wp2_with(go_at_call 21;go_must(refine(Py.out _ HA.out.2).mono ?_);rintro e wB⟨v3,rfl,DK,hbB⟩;have HB:=X<|aM DK hbB;clear DK hbB;refine Halt.of ?_);unfold Halt;clear Py;have hAB:aW w9.heap.size w9 wB:=HA.out.2.trans<|HB.out.2.mono HA.out.2.size;have zD:=X (QL v1 v2 _ wB (Lb.out.2.1.below hAB).at (HA.out.1.below HB.out.2).at<|by have:=Lb.out.2.2;omega);have UT:=X hAB;clear hAB;go_wp2_with(go_at_call 22;go_must(refine zD.out.mono ?_);rintro e wC⟨rfl,hbC⟩;have B:=X hbC;clear hbC;refine Halt.of ?_);unfold Halt;clear zD;have zD:=X (QL v1 v3 _ wC (Lb.out.2.1.below<|UT.out.trans<|B.out.mono UT.out.size).at (HB.out.1.below B.out).at<|by have:=Lb.out.2.2;omega);go_wp2_with(go_at_call 22;go_must(refine zD.out.mono ?_);rintro e wD⟨rfl,hbD⟩;have HD:=X hbD;clear hbD;refine Halt.of ?_);unfold Halt;clear zD;go_wp2;go_ret;have h9:=UT.out.trans<|(B.out.trans<|HD.out.mono B.out.size).mono UT.out.size;exact⟨rfl,Lb.out.1.trans<|h9.mono Lb.out.1.size⟩
end
end Go.Proofs.YtpdbmpbmepkikaaGreatDoor
