/- Laws. -/
import Derived.Test.YtpdbmpbmepkikaaGreatDoorQ14
set_option maxRecDepth 100000
set_option maxHeartbeats 400000
set_option linter.all false
open Go.Proofs.Tryz
open And renaming intro->aM
open Bool renaming true->Y,false->ai
open Decidable renaming decide->cg
open Go renaming World->ay,Value->az,Calls->bz,maxLen->vg
open Go.Act renaming put->cA
open Go.Ending renaming returned->bj
open Go.IntKind renaming i64->aC,u8->aq
open Go.Lib renaming hasPrefix->OC,TabIs->zi
open Go.Obj renaming cells->aH
open Go.Op renaming equalIn->sF
open Go.Result renaming ok->aY
open Go.RowKit renaming Below->aW,Hid->dD,wrap64->iJ
open Go.Value renaming cells->Cf,int->V,string->aD,slice->aE,pointer->aG,agg->bJ,tuple->bO,map->cq,oneCell'->zh
open Go.World renaming frozen?->x8
open Option renaming some->U,none->Z
open Or renaming inr->aA,inl->ax
namespace Go.Proofs.YtpdbmpbmepkikaaGreatDoor
def ME:=@List.take_zero
def MD:=@Go.ownsRow_succ
def Je:=@List.take_of_length_le
def agQ:=@List.filter_sublist
section
open Go.RowKit
structure amn(L:List O)(m:dZ)(n:Nd):Prop where
 len:L.length<=1073741824
 fit:∀x∈L,Fit x
 nodup:(n.kids.map (·.1)).Nodup
 u64:∀k∈n.kids,tZ k.2
 key:yN L n.pfx
 deep:∀c:UInt8,c≠0->yN L (push n.pfx c)nk:n.kids.length<=100000
 nr:(oC L m n).bq.length<=1000000000
 nw:(oC L m n).cu.length<=1000000000
 nn:(oC L m n).nodes.length<=1000000000
theorem av1(L)(p)(a)(c):∃(e h k j i g d f:Int)(b:Bool),(look (wL ((kV L p).map<|xK L p) a) c).getD (bJ #[V aq 0,V aq 0,V aq 0,V aq 0,V aq 0,V aq 0,V aq 0,V aq 0])=bJ #[V aq e,V aq h,V aq k,V aq j,V aq i,V aq g,V aq d,V aq f]/\(look (wL ((kV L p).map<|xK L p) a) c).isSome=b/\b=cg (c∉a/\c∈kV L p)/\(b=Y->bJ #[V aq e,V aq h,V aq k,V aq j,V aq i,V aq g,V aq d,V aq f]=iR (t<|dS L<|push p c)):=by
 rw[agk,Mp];by_cases h1:c∈a;.rw[dy h1];exact⟨0,0,0,0,0,0,0,0,ai,rfl,rfl,by simp[h1],by simp⟩
 .rw[if_neg h1];by_cases h2:c∈kV L p;.rw[dy h2];exact⟨_,_,_,_,_,_,_,_,Y,rfl,rfl,by grind,λ_=>rfl⟩
  .rw[if_neg h2];exact⟨0,0,0,0,0,0,0,0,ai,rfl,rfl,by simp[h2],by simp⟩
set_option maxHeartbeats 4000000 in
theorem aCJ (B p S) (m) (D) (L) (n) (kv) (w) (h:iK w B p m D) (hB:cI w S L) (Ke:B<=w) (h4:4<=B) (ht:fQ w) (tK:w.ownsRow 0 233 9 kv n.kids.length<|fM gS n.kids) (hO:amn L m n):bz Q 103 #[aG p,cq S,bJ #[n.pfx,kv]] w λe w'=>e=bj (bO #[])∧∃D',iK w' B p (oC L m n) D'∧bS D w D' w':=by
 obtain⟨uP,tI,rfl⟩:=gD tK;obtain⟨pfx,xQ⟩:=ex n.pfx;obtain⟨kl,yX⟩:=ex n.kids.length;have yW:=hB.lt;have ow:=h.lt;obtain⟨w0,SG⟩:=ex<|w.alloc<|aH #[aD pfx,aE uP kl tI] 184;have Gu:aW w w w0:=by rw[SG];exact(eo _ _).alloc (aS _) _
 have rY:w0.heap.size=w+1:=by rw[SG];simp
 have iO:w0.heap[w.heap.size]? =U (aH #[pfx,aE uP kl tI] 184 (0,0)):=by grind[World.alloc_heap_new]
 have HC:=X (ahh S L pfx w0 (by rw[xQ];exact hO.key.1) (hB.of_block<|Gu.block S yW) hO.len (ht.below Gu<|aS _) hO.fit<|by rw[xQ];exact hO.key.2);have HH:=zB.mk h hB ht tK hO ow;have HW:=vB.mk SG Gu rY iO;have HP:=cH.mk xQ yX;have aHc:kl<=100000:=by rw[yX];exact hO.nk
 rw[<-xQ,<-yX];clear h hB ht tK hO SG Gu rY iO xQ yX ow;have k0:w0.cell? ⟨w.heap.size,0,Z⟩=U (aD pfx):=M HW.d 0;go_enter ao5,ntmps103;go_wp2_with (go_at_call 159;rw[<-HW.a];go_must (refine HC.out.mono ?_);rintro e w1 ⟨m2,rfl,DV,Nh,gU⟩;have H1:=gF.mk DV Nh gU;clear DV Nh gU;refine Halt.of ?_);unfold Halt;clear HC k0;obtain⟨es,yZ⟩:=ex<|(kV L pfx).map<|xK L pfx;have zc:dn lI w1 m2 es:=by rw[yZ];exact H1.a
 have u:aW w.heap.size w w1:=HW.b.trans ⟨H1.c.os,H1.c.tape,H1.c.output,H1.c.size,λb hb=>H1.c.block b<|by have:=HW.c;omega⟩;have oY:w1.heap[w.heap.size]? =U (aH #[aD pfx,aE uP kl tI] 184 (0,0)):=(H1.c.block _<|by have:=HW.c;omega).trans HW.d;have aib:w<m2:=by have:=H1.b;have:=HW.c;omega
 have En:Pw B p m2 m D L n es w1 0 D w1:=⟨by rw[ME,af7];exact HH.a.below u,zc,aK.refl _ _,λb hb=>ax hb⟩;have q0:w1.cell? ⟨w.heap.size,0,Z⟩=U (aD pfx):=M oY 0;have q1:w1.cell? ⟨w,1,Z⟩=U (aE uP kl tI):=M oY 1;have HX:=zB.mk En u oY aib yZ zc;clear En u oY yZ zc H1 HW;go_wp2;go_loopg [21] kl λk s21 wr=>∃(j:Nat) (D':Nat->Prop),s21=V aC j∧k+j=kl∧Pw B p m2 m D L n es w1 j D' wr;case atStart=>exact⟨0,D,rfl,by omega,HX.a⟩
 case round=>
  obtain⟨j,D',rfl,hk,hI⟩:=hrel;by_cases hj:j<kl
  ·have yX:=HP.b;have xQ:=HP.a;obtain⟨hG,hB,ht,tK,hO,ow⟩:=kp HH;obtain⟨-,u,oY,-,yZ,zc⟩:=kp HX;have jh:j<n.kids.length:=by omega
   have SZ:=zc.lt;have B4:=(je.1 oY).1;have v:=(hI.keep.block _ B4<|by rintro(h|h);exact absurd (ow _ h).2 (by omega);omega).trans oY;have b0:wr.cell? w=U (aD pfx):=M v 0;have wh:pF 233 9 gS w (aE uP kl tI) n.kids:=by rw[yX];exact tK
   obtain⟨g,Cq,hv,hg,hY0⟩:=wh.cell ahj jh;simp only[oU] at hv;obtain⟨rfl,-,rfl⟩:=hv;have hgD:¬D g:=λhd=>by obtain⟨vr,vw,vn,vd,xs,hM,rfl⟩:=hG;have h1:=fN tK<|show(aE (U ⟨g,0,Z⟩) n.kids.length tI).ownBlock=U g from rfl;rcases hM.del g hd with h|h|h|h<;>exact absurd (eS.one h1 h)<|by decide
   have hgb:=(hI.keep.block g (by have:=u.size;omega)<|by rintro(h|h);exact hgD h;omega).trans<|u.block g hg;have HY:=λi x h1 h2=>(ei (w:=w) (a:=⟨g,j*9+i,Z⟩) hgb).trans<|hY0 i x h1 h2;obtain⟨c,hc⟩:=ex n.kids[j].1;obtain⟨h,hh⟩:=ex n.kids[j].2;have qW:n.kids[j]=(c,h):=by rw[hc,hh]
   rw[qW,ahi] at HY;obtain⟨d0,e0⟩:∃d,d=h/72057594037927936 % 256:=⟨_,rfl⟩;obtain⟨d1,e1⟩:∃d,d=h/281474976710656 % 256:=⟨_,rfl⟩;obtain⟨d2,e2⟩:∃d,d=h/1099511627776 % 256:=⟨_,rfl⟩;obtain⟨d3,e3⟩:∃d,d=h/4294967296 % 256:=⟨_,rfl⟩;obtain⟨d4,e4⟩:∃d,d=h/16777216 % 256:=⟨_,rfl⟩;obtain⟨d5,e5⟩:∃d,d=h/65536 % 256:=⟨_,rfl⟩;obtain⟨d6,e6⟩:∃d,d=h/256 % 256:=⟨_,rfl⟩;obtain⟨d7,e7⟩:∃d,d=h % 256:=⟨_,rfl⟩;rw[<-e0,<-e1,<-e2,<-e3,<-e4,<-e5,<-e6,<-e7] at HY;have ait:bJ #[V aq d0,V aq d1,V aq d2,V aq d3,V aq d4,V aq d5,V aq d6,V aq d7]=iR h:=by rw[e0,e1,e2,e3,e4,e5,e6,e7];rfl
   clear e0 e1 e2 e3 e4 e5 e6 e7 hY0;have y0:wr.cell? ⟨g,j*9,Z⟩=U (V aq (c.toNat:Int)):=HY 0 _ (by decide) rfl;have y1:wr.cell? ⟨g,j*9+1,Z⟩=U (V aq d0):=HY 1 _ (by decide) rfl;have y2:wr.cell? ⟨g,j*9+2,Z⟩=U (V aq d1):=HY 2 _ (by decide) rfl;have y3:wr.cell? ⟨g,j*9+3,Z⟩=U (V aq d2):=HY 3 _ (by decide) rfl;have y4:wr.cell? ⟨g,j*9+4,Z⟩=U (V aq d3):=HY 4 _ (by decide) rfl;have y5:wr.cell? ⟨g,j*9+5,Z⟩=U (V aq d4):=HY 5 _ (by decide) rfl;have y6:wr.cell? ⟨g,j*9+6,Z⟩=U (V aq d5):=HY 6 _ (by decide) rfl;have y7:wr.cell? ⟨g,j*9+7,Z⟩=U (V aq d6):=HY 7 _ (by decide) rfl;have y8:wr.cell? ⟨g,j*9+8,Z⟩=U (V aq d7):=HY 8 _ (by decide) rfl;obtain⟨z0,z1,z2,z3,z4,z5,z6,z7,tb,ZH,ZG,Zi,hz⟩:=av1 L pfx ((n.kids.take j).map (·.1)) c;obtain⟨em,z⟩:=ex (wL es ((n.kids.take j).map (·.1)));rw[<-yZ,<-z] at ZH ZG;have HM:dD<|dn lI wr m2 em:=X (by rw[z];exact hI.map);have Ea:c∉(n.kids.take j).map (·.1):=λhm=>by have jX:=hO.nodup;rw[<-awI j n.kids,awE jh,vT,gd,Jm] at jX;exact jX.2.2 _ hm _ (vP ..) hc
   have Gd:pfx.size<=4096:=by rw[xQ];exact hO.key.1
   have nB:(j:Int)<(kl:Int):=by omega
   have hNw:=cE B4 hI.keep.size;have hNn:¬w.heap.size=wr.heap.size:=by omega
   have hcv:=akP c<|wr.alloc<|aH #[V aq (c.toNat:Int),V aq d0,V aq d1,V aq d2,V aq d3,V aq d4,V aq d5,V aq d6,V aq d7] 233;simp only[vX] at hcv;have HI:=Hq9.mk hI qW z Zi hz ait Ea ZH ZG;clear yX xQ hG hB ht tK hO ow u oY yZ zc v wh hgD hgb HY hc hh qW z Zi hz ait Ea hI ZH ZG;go_wp2_with (first|(at_lookup;refine Hx _ lI rfl _ _ 245 rfl 5 76 Fs zL _ (PE _) m2 em c rfl ((HM.out.alloc _).alloc _) rfl ?_;rw[HI.h,HI.i])|(refine amJ _ lI rfl _ _ 245 5 rfl 5 76 Fs zL m2 em c rfl (((HM.out.alloc _).alloc _).alloc _) rfl ?_;intro r wG F F8;have H6:=gF.mk wG F F8;clear wG F F8;refine Halt.of ?_));obtain⟨wx,v,F,I,xO,MS⟩:=aEl H6.b HM.out.lt;have wG:=H6.a;have P:=(HI.a.N0.below v).aqc (HM.out.of_block<|v.block _ HM.out.lt) F;clear H6 hcv y0 y1 y2 y3 y4 y5 y6 y7 y8 b0;have fo:=XV L m n j;obtain⟨mj,H⟩:=ex<|jT L m n.pfx<|n.kids.take j;rw[<-H] at P fo;have hO:=HH.e;have ot:=hO.nr;have JK:=hO.nw;have JL:=hO.nn;obtain⟨vr,vw,vn,vd,xs,wF,N⟩:=P;obtain⟨wl,MX⟩:=ex mj.cu.length;have aGy:wl<=1000000000:=by omega
   have wh:=wF.cu;rw[<-MX] at wh;obtain⟨CU,CS,MZ⟩:=gD wh;have M9:=wF.box;have Ge:=wF.rL;have JD:wr.heap.size+3<=r:=by have:=F.size;omega
   have E:=al7.mk wF N v F wG I xO H MX wh JD;clear wF N v F wG I xO H MX wh JD fo hO ot JK JL MS;subst MZ;unfold Halt;cases tb with
   |false=>
    have p1:r.cell? ⟨p,1,Z⟩=U (aE CU wl CS):=M M9 1;obtain⟨i0,hi,rY,jv,jW⟩:=Aa F4;go_wp2_with (at_builtin;go_must (refine app1 (v:=aE CU wl CS) rfl rfl Ia F4 rfl rfl (dx E.j λb hb=>dm _ _ _ (E.j.lt b hb).2) rfl (by first|rfl|simp) rfl rfl (by omega) (by have:=E.k;simp;omega) ?_);intro v7 w7 M6 xS _ kg;refine Halt.of ?_);have tN:=(xS.block p (by simp;omega) λe=>absurd (eS.one E.a.rM<|fN E.a.cu e.symm)<|by decide).trans<|(dm _ _ _ Ge).trans M9;have u1:w7.cell? ⟨p,1,Z⟩=U (aE CU wl CS):=M tN 1;have uf:w7.frozen? ⟨p,1,Z⟩=ai:=by simp[x8,tN]
    have tL:=RI xS kg;have C:=E.a.alI (W1:=r.alloc<|aH #[aD<|pfx++⟨#[c]⟩] 9) (s:=[push pfx c]) ((eo _ _).alloc (aS _) _) tL (by rw[j7,<-E.i,aeq];exact M6);obtain⟨g7,abk,Zf⟩:=MD M6;have HF:=X C;clear M6 xS kg tL C tN hi rY jv jW p1;subst Zf;unfold Halt;go_wp2;go_roundg (gk-1);case rel=>
     obtain⟨wF,N,v,F,wG,-,-,H,-,-,-⟩:=kp E;obtain⟨hI,qW,z,Zi,-,-,-,-,-⟩:=kp HI;have jh:j<n.kids.length:=by grind
     have xP:=HP.a;have hni:c∉kV L n.pfx:=λEc=>by
      have:¬(c∉(n.kids.take j).map (·.1)∧c∈kV L pfx):=by grind
      exact this ⟨HI.g,xP▸Ec⟩
     have gI:=(Qn L n.pfx c h).1 hni;have s:=XU L m n jh;rw[qW,gI.1,gI.2.1,gI.2.2,uI,uI,<-H,<-xP] at s;rw[z] at wG;have BU:iK _ B p (jT L m n.pfx<|n.kids.take<|j+1) _:=⟨_,_,_,_,_,by rw[<-xP,s];exact HF.out.1,rfl⟩;refine⟨j+1,_,by go_simp,by omega,hI.next jh v F (by grind) (by rw[N];exact HF.out.2) ⟨_,_,_,_,_,H▸wF,N⟩ BU⟩
    case measure=>omega|true=>
    obtain⟨I,xO⟩:=aM E.f E.g;have e0:r.cell? wr=U (V aq (c.toNat:Int)):=M I 0;have e1:r.cell? ⟨wr,1,Z⟩=U (V aq d0):=M I 1;have e2:r.cell? ⟨wr,1+1,Z⟩=U (V aq d1):=M I 2;have e3:r.cell? ⟨wr,1+2,Z⟩=U (V aq d2):=M I 3;have e4:r.cell? ⟨wr,1+3,Z⟩=U (V aq d3):=M I 4;have e5:r.cell? ⟨wr,1+4,Z⟩=U (V aq d4):=M I 5;have e6:r.cell? ⟨wr,1+5,Z⟩=U (V aq d5):=M I 6;have e7:r.cell? ⟨wr,1+6,Z⟩=U (V aq d6):=M I 7;have e8:r.cell? ⟨wr,1+7,Z⟩=U (V aq d7):=M I 8;have f0:r.cell? ⟨wr+1+1,0,Z⟩=U (V aq z0):=M xO 0;have f1:r.cell? ⟨wr+1+1,1,Z⟩=U (V aq z1):=M xO 1;have f2:r.cell? ⟨wr+1+1,2,Z⟩=U (V aq z2):=M xO 2;have f3:r.cell? ⟨wr+1+1,3,Z⟩=U (V aq z3):=M xO 3;have f4:r.cell? ⟨wr+1+1,4,Z⟩=U (V aq z4):=M xO 4;have f5:r.cell? ⟨wr+1+1,5,Z⟩=U (V aq z5):=M xO 5;have f6:r.cell? ⟨wr+1+1,6,Z⟩=U (V aq z6):=M xO 6;have f7:r.cell? ⟨wr+1+1,7,Z⟩=U (V aq z7):=M xO 7;clear I xO;obtain⟨eb,Gr⟩:=ex<|z0==d0&&(z1==d1&&(z2==d2&&(z3==d3&&(z4==d4&&(z5==d5&&(z6==d6&&z7==d7))))));have hq:=aj5 z0 z1 z2 z3 z4 z5 z6 z7 d0 d1 d2 d3 d4 d5 d6 d7 r;rw[<-Gr] at hq;have Ec:c∈kV L n.pfx:=by have:=of_decide_eq_true HI.d.symm;rw[<-HP.a];exact this.2
    have hju:tZ h:=by have:=HH.e.u64 n.kids[j] (lV<|by have:=HP.b;omega);rw[HI.b] at this;exact this
    have Aq:eb=cg (t (dS L<|push n.pfx c)=h):=by have h1:=HI.e rfl;have h2:=HI.f;rw[HP.a] at h1;unfold iR at h1 h2;injection h1 with h1;injection h2 with h2;simp only[Array.mk.injEq,FY,Value.int.injEq,true_and,and_true] at h1 h2;obtain⟨a0,a1,a2,a3,a4,a5,a6,a7⟩:=h1;obtain⟨c0,c1,c2,c3,c4,c5,c6,c7⟩:=h2;rw[Gr,a0,a1,a2,a3,a4,a5,a6,a7,c0,c1,c2,c3,c4,c5,c6,c7];exact akg (Tn _) hju
    have HE:=cH.mk Ec Aq;clear Gr Ec hju Aq;cases eb with
    |true=>
     go_wp2;go_roundg (gk-1);case rel=>
      obtain⟨wF,N,v,F,wG,-,-,H,-,-,-⟩:=kp E;obtain⟨hI,qW,z,-,-,-,-,-,-⟩:=kp HI;have jh:j<n.kids.length:=by grind
      have xP:=HP.a;have gI:=(Qn L n.pfx c h).2.1 HE.a<|of_decide_eq_true HE.b.symm;have s:=XU L m n jh;rw[qW,gI.1,gI.2.1,gI.2.2,uI,uI,uI,<-H,<-xP] at s;rw[z] at wG;have JU:iK r B p mj D':=⟨_,_,_,_,_,wF,N⟩;refine⟨j+1,D',by go_simp,by omega,hI.next jh v F (by grind) (.refl _ _) (JU.msg H)<|JU.msg ?_⟩;rw[<-xP,s]
     case measure=>omega|false=>
     have Er:cI r S L:=by
      have hB:=HH.b;have SX:¬D S:=λhd=>by obtain⟨e,⟨cur,he⟩,_⟩:=HH.a.elem S hd;obtain⟨en,ck,h2,_⟩:=hB;rw[he] at h2;cases h2
      have JF:=HX.b.size;have SK:=HI.a.keep.size;have SE:=E.c.size;refine hB.of_block<|(E.d.block S (by omega)<|by omega).trans<|(E.c.block S<|by omega).trans<|(HI.a.keep.block S (by omega)<|by rintro(h|h);exact SX h;omega).trans<|HX.b.block S yW
     have Tt:fQ r:=by have ht:=HH.c;have h3:=ht.lt;have JF:=HX.b.size;have SK:=HI.a.keep.size;have SE:=E.c.size;refine ht.of_block<|(E.d.block 3 (by omega)<|by omega).trans<|(E.c.block 3<|by omega).trans<|(HI.a.keep.block 3 (by omega)<|by rintro(h|h);exact absurd (HH.f 3 h).1 (by omega);omega).trans<|HX.b.block 3 h3
     have P:iK r B p mj D':=⟨_,_,_,_,_,E.a,E.b⟩;have ajg:B<=r:=by have:=E.k;omega
     have jh:j<n.kids.length:=by have:=HP.b;omega
     have lg:t (dS L<|push n.pfx c)≠h:=of_decide_eq_false HE.b.symm;have s:=XU L m n jh;rw[HI.b,<-E.h] at s;have R:=XV L m n<|j+1;rw[s] at R;simp only[j7] at R;have G:=HH.e;have DX:=aM G.nr<|aM G.nw G.nn;by_cases sk:c=0
     ·have gI:=(Qn L n.pfx c h).2.2.1 HE.a lg sk;rw[gI.1,gI.2.1,gI.2.2] at s R;have hTl:=Qf B p S mj D' L (push pfx c) r P Er ajg G.len (by rw[HP.a];omega);have HT:=X hTl;have HQ:=vB.mk s jh Er Tt;have Z6:(c.toNat:Int)=0:=by rw[sk];rfl
      have aGz:mj.cu.length+1<=1000000000:=by simp only[yL] at R;omega
      clear s R hTl G DX gI lg Tt Er P sk;go_wp2_with (go_at_call 102;go_must (refine HT.out.mono ?_);rintro e w7 ⟨rfl,D7,uZ,tL⟩;have H7:=cH.mk uZ tL;clear uZ tL;refine Halt.of ?_);have hz7:=H7.b.1.size;obtain⟨zK,zJ,Lr,xo,CN,tO,Ep⟩:=H7.a;have JH:=tO.cu;simp only at JH;rw[<-E.i] at JH;obtain⟨Vg,Vd,ax9⟩:=gD JH;have Zr:=tO.box;have ah0:=tO.rL;have DN:=tO.rM;have ahE:=λb hb=>fN (b:=b) JH hb;have UP:=gF.mk tO Ep JH;clear tO Ep JH;subst ax9;have p1:w7.cell? ⟨p,1,Z⟩=U (aE Vg wl Vd):=M Zr 1;obtain⟨i0,hi,rY,jv,jW⟩:=Aa F4;clear e0 hq e1 e2 e3 e4 e5 e6 e7 e8 f0 f1 f2 f3 f4 f5 f6 f7 Z6;unfold Halt;go_wp2_with (at_builtin;go_must (refine app1 (v:=aE Vg wl Vd) rfl rfl Ia F4 rfl rfl (dx UP.c λb hb=>dm _ _ _ (UP.c.lt b hb).2) rfl (by first|rfl|simp) rfl rfl (by omega) (by simp;omega) ?_);intro v8 w8 Gb BU _ kg;refine Halt.of ?_);have qY:=(BU.block p (by simp;omega) λe=>absurd (eS.one DN<|ahE p e.symm)<|by decide).trans<|(dm _ _ _ ah0).trans Zr;have u1:w8.cell? ⟨p,1,Z⟩=U (aE Vg wl Vd):=M qY 1;have uf:w8.frozen? ⟨p,1,Z⟩=ai:=by simp[x8,qY]
      have Nl:=RI BU kg;have C:=UP.a.alI (W1:=w7.alloc<|aH #[aD<|pfx++⟨#[c]⟩] 9) (s:=[push pfx c]) ((eo _ _).alloc (aS _) _) Nl (by simp only[j7];rw[<-E.i,aeq];exact Gb);obtain⟨g8,ak4,M0⟩:=MD Gb;have HF:=X C;clear Gb BU kg Nl C qY hi rY jv jW p1 DN ahE Zr ah0;subst M0;unfold Halt;go_wp2;go_roundg (gk-1);case rel=>obtain⟨wF,N,v,F,wG,-,-,H,-,-,-⟩:=kp E;obtain⟨hI,qW,z,-,-,-,-,-,-⟩:=kp HI;obtain⟨s,jh,-,-⟩:=HQ;have xP:=HP.a;rw[uI,<-xP] at s;rw[z] at wG;have JU:iK r B p mj D':=⟨_,_,_,_,_,wF,N⟩;have Ap:iK _ B p (jT L m n.pfx<|n.kids.take<|j+1) _:=⟨_,_,_,_,_,by rw[<-xP,s];exact HF.out.1,rfl⟩;refine⟨j+1,_,by go_simp,by omega,hI.next jh v F (by grind) (H7.b.trans<|by rw[UP.b];exact HF.out.2) (JU.msg H) Ap⟩
      case measure=>omega
     ·have gI:=(Qn L n.pfx c h).2.2.2 HE.a lg sk;rw[gI.1,gI.2.1,gI.2.2] at s R;have Z5:=G.deep c sk;have B3:dD<|∀W,r.heap.size=W.heap.size->W.heap=r.heap->bz Q 104 #[cq S,aD<|pfx++⟨#[c]⟩] W λe w'=>∃kv,e=bj (bJ #[aD<|pfx++⟨#[c]⟩,kv])∧w'.ownsRow W 233 9 kv (qm L<|push pfx c).length (fM gS<|qm L<|push pfx c)∧aW W W w':=X λW _ e=>by have GG:=Er.of_block (by rw[e]);have hT':=Tt.of_block (by rw[e]);exact afN S L (push pfx c) W (by rw[HP.a];exact Z5.1) GG G.len hT' G.fit<|by rw[HP.a];exact Z5.2
      have ay0:mj.nodes.length+1<=1000000000:=by simp only[yL] at R;omega
      have mE:=E.a.nodes.row;obtain⟨nl,DT⟩:=ex mj.nodes.length;rw[<-DT] at mE ay0;obtain⟨FO,FN,DJ⟩:=gD mE;have HQ:=CJ.mk s jh DT mE DJ;have Z6:¬(c.toNat:Int)=0:=λe=>sk (awD.1<|by have h0:(0:UInt8).toNat=0:=rfl;omega);have DN:=E.a.rM;have Nc:=λb hb=>fN (b:=b) mE hb;have k0:∀W:ay,W.heap[p]? =U (aH #[vr,aE CU wl CS,aE FO nl FN,vd] 180 (0,0))->W.cell? ⟨p,2,Z⟩=U (aE FO nl FN)∧W.frozen? ⟨p,2,Z⟩=ai:=λW hW=>⟨M hW 2,by simp[x8,hW]⟩;have HE2:=X ajg;clear s R G DX gI lg Tt Er P sk Z5 mE DT;rw[DJ] at M9;go_wp2;refine xG ?_;refine wp_region_Z (S:=λW=>W.heap[p]? =U (aH #[vr,aE CU wl CS,aE FO nl FN,vd] 180 (0,0))) (z:=12) (by kernel_rfl) M9 λhHeld=>?_;refine fU (i:=0) (v:=?v0) rfl (by kernel_rfl) (by kernel_rfl) (by kernel_rfl) (by kernel_rfl) (λ_ _ _ h=>h) (ax ⟨by rfl,?xN⟩) hHeld ?WQ;(case xN=>(intro W hSw;go_simp;(try with_reducible rfl)));try simp only[cA,dO,dN,dA,dz,dr]
      refine fU (i:=1) (v:=?v1) rfl (by kernel_rfl) (by kernel_rfl) (by kernel_rfl) (by kernel_rfl) (λ_ _ _ h=>h) (ax ⟨by rfl,?yR⟩) hHeld ?WO;(case yR=>(intro W hSw;go_simp;(try with_reducible rfl)));try simp only[cA,dO,dN,dX,dA,dz,dr]
      refine fU (i:=2) (v:=?v2) rfl (by kernel_rfl) (by kernel_rfl) (by kernel_rfl) (by kernel_rfl) (λ_ _ _ h=>h) (ax ⟨by rfl,?yQ⟩) hHeld ?WN;(case yQ=>(intro W hSw;go_simp;(try with_reducible rfl)));try simp only[cA,dO,dN,dX,dA,dz,dr]
      refine fU (i:=3) (v:=?v3) rfl (by kernel_rfl) (by kernel_rfl) (by kernel_rfl) (by kernel_rfl) (λ_ _ _ h=>h) (ax ⟨by rfl,?MW⟩) hHeld ?aeD;(case MW=>(intro W hSw;go_simp;(try with_reducible rfl)));try simp only[cA,dO,dN,dX,dA,dz,dr]
      refine fU (i:=4) (v:=?v4) rfl (by kernel_rfl) (by kernel_rfl) (by kernel_rfl) (by kernel_rfl) (λ_ _ _ h=>h) (ax ⟨by rfl,?MV⟩) hHeld ?aeC;(case MV=>(intro W hSw;have q0:=(k0 W hSw).1;go_simp;(try with_reducible rfl)));try simp only[cA,dO,dN,dX,dA,dz,dr]
      refine fU (i:=5) (v:=?v5) rfl (by kernel_rfl) (by kernel_rfl) (by kernel_rfl) (by kernel_rfl) (λ_ _ _ h=>h) (ax ⟨by rfl,?F6⟩) hHeld ?WM;(case F6=>(intro W hSw;go_simp;(try with_reducible rfl)));try simp only[cA,dO,dN,dX,dA,dz,dr]
      refine fU (i:=6) (v:=?v6) rfl (by kernel_rfl) (by kernel_rfl) (by kernel_rfl) (by kernel_rfl) (λ_ _ _ h=>h) (ax ⟨by rfl,?F5⟩) hHeld ?WL;(case F5=>(intro W hSw;go_simp;(try with_reducible rfl)));try simp only[cA,dO,dN,dX,dA,dz,dr]
      obtain⟨W0,BZ⟩:=ex r.drew;rw[<-BZ] at hHeld⊢;have rE:=cH.mk BZ (show W0.heap=r.heap by rw[BZ];rfl);clear BZ e0 e1 e2 e3 e4 e5 e6 e7 e8 f0 f1 f2 f3 f4 f5 f6 f7 hq Z6;refine CP (i:=7) (by kernel_rfl) rfl (by rfl) ?_;go_simp;go_at_call 104;refine jg (B3.out W0 (by rw[rE.b]) rE.b) ?_;rintro e w7 ⟨kv,rfl,uW,tN⟩;have sd:=(tN.block p<|by rw[rE.b];exact Ge).trans hHeld;obtain⟨yP,yO,Gk⟩:=gD uW;obtain⟨yD,Gl⟩:=ex (qm L<|push pfx c).length;rw[<-Gl] at Gk;have H7:=gF.mk uW tN Gl;clear uW tN Gl;subst Gk;refine⟨by first|exact sd|exact λ_=>sd,?_⟩;try simp only[cA,dO,dN,dX,dA,dz,dr]
      refine CO (i:=8) (v:=aE (U ⟨w7.heap.size,0,Z⟩) 1 1) (w':=w7.alloc<|aH #[aD<|pfx++⟨#[c]⟩,aE yP yD yO] 184) (by kernel_rfl) rfl (by rfl) ?M0 (λ_=>(dm _ _ _ (je.1 sd).1).trans sd) ?aeB;(case M0=>(go_simp));try simp only[cA,dO,dN,dX,dA,dz,dr]
      obtain⟨i0,hi,rY,jv,jW⟩:=Aa Y4;have NG:aW r r w7:=by have h1:=H7.b;rw[rE.b] at h1;have h0:=rE.a;refine⟨h1.os.trans<|by rw[h0];rfl,h1.tape.trans<|by rw[h0];rfl,h1.output.trans<|by rw[h0];rfl,by have:=h1.size;rw[rE.b] at this;exact this,λb hb=>(h1.block b hb).trans<|by rw[rE.b]⟩
      have ahT:(w7.alloc<|aH #[aD<|pfx++⟨#[c]⟩,aE yP yD yO] 184).ownsRow B 184 2 (aE FO nl FN) nl xs:=by obtain⟨-,-,-,mE,DJ⟩:=kp HQ;rw[DJ] at mE;exact dx mE λb hb=>(dm _ _ _<|by have:=(mE.lt b hb).2;have:=NG.size;omega).trans<|NG.block b (mE.lt b hb).2
      have axE:=NG.size;refine CP (i:=9) (by kernel_rfl) rfl (by rfl) ?_;refine afu _ _ 177 rfl B 184 i0 (bJ #[aD ⟨#[]⟩,aE Z 0 0]) 2 40 Vy hi rY jv jW rfl (by decide) (aE FO nl FN) nl xs rfl ahT ⟨w7.heap.size,0,Z⟩ 1 1 [aD<|pfx++⟨#[c]⟩,aE yP yD yO] rfl rfl (Bn (by first|rfl|simp) _ _ rfl) (by simp[zh]) (by unfold vg;omega) (by omega) (by have:=HE2.out;simp;omega) ?_;intro v8 w8 Gb BU kg;have Nl:=RI BU kg;have rZ:=(BU.block p (by simp;omega) λe=>absurd (eS.one DN<|Nc p<|by rw[HQ.e];exact e.symm)<|by decide).trans<|(dm _ _ _<|by omega).trans sd;obtain⟨u1,uf⟩:=k0 w8 rZ;have C:=E.a.alJ (W1:=w7.alloc<|aH #[aD<|pfx++⟨#[c]⟩,aE yP yD yO] 184) (n:=Dq L<|push pfx c) (kv:=aE yP yD yO) (NG.trans ⟨rfl,rfl,rfl,by simp,λb hb=>dm _ _ _<|by omega⟩) (by rw[HQ.e];exact Nl) (by have:=H7.a;rw[rE.b] at this;exact dx this λb hb=>dm _ _ _ (this.lt b hb).2) (by rw[<-HQ.c];exact Gb) HE2.out;obtain⟨g8,ak4,M0⟩:=MD Gb;have HF:=X C;clear Gb BU kg Nl C ahT NG hi rY jv jW B3 axE;subst M0;refine⟨by first|exact rZ|exact λ_=>rZ,?_⟩;try simp only[cA,dO,dN,dX,dA,dz,dr]
      refine CO (i:=10) (v:=aG<|U ⟨p,0,Z⟩) (w':=w8) (by kernel_rfl) rfl (by rfl) ?Zh (λ_=>rZ) ?aeF;(case Zh=>(go_simp));try simp only[cA,dO,dN,dX,dA,dz,dr]
      refine CO (i:=11) (v:=aG<|U ⟨p,2,Z⟩) (w':=w8) (by kernel_rfl) rfl (by rfl) ?Zg (λ_=>rZ) ?aeE;(case Zg=>(go_simp));try simp only[cA,dO,dN,dX,dA,dz,dr]
      refine PM (i:=12) (w':=w8.setCell ⟨p,2,Z⟩<|aE (U ⟨g8,0,Z⟩) (nl+1) ak4) (by kernel_rfl) rfl (by rfl) ?ayd (λh=>Bool.noConfusion h) ?atj;(case ayd=>(go_simp));try simp only[cA,dO,dN,dX,dr]
      refine PN (by kernel_rfl) ?_ _;refine qN ?_;clear hHeld sd rZ k0 u1 uf DN Nc M9;go_wp2;go_roundg (gk-1);case rel=>obtain⟨wF,N,v,F,wG,-,-,H,-,-,-⟩:=E;obtain⟨hI,qW,z,-,-,-,-,-,-⟩:=HI;obtain⟨s,jh,-,-,-⟩:=HQ;have xP:=HP.a;rw[uI,uI,<-xP] at s;rw[z] at wG;have JU:iK r B p mj D':=⟨_,_,_,_,_,wF,N⟩;have Ap:iK _ B p (jT L m n.pfx<|n.kids.take<|j+1) _:=⟨_,_,_,_,_,by rw[<-xP,s];exact HF.out.1,rfl⟩;refine⟨j+1,_,by go_simp,by omega,hI.next jh v F (by grind) (by rw[N];exact HF.out.2) (JU.msg H) Ap⟩
      case measure=>omega
  ·have jw:j=kl:=by omega
   have wu:gk=0:=by omega
   subst wu;obtain⟨wq,rfl⟩:=ex wr;obtain⟨pm,M7⟩:=ex<|jT L m n.pfx n.kids;obtain⟨em,z⟩:=ex (wL es (n.kids.map (·.1)));have gT:n.kids.take j=n.kids:=Je (by have:=HP.b;omega);have hGr:iK wq B p pm D':=by rw[M7,<-gT];exact hI.N0
   have NQ:dn lI wq m2 em:=by rw[z,<-gT];exact hI.map
   have ou:em.map (·.1)=(kV L pfx).filter λc=> !(n.kids.map (·.1)).contains c:=by rw[z,akl,HX.e,YP]
   have jX:(em.map (·.1)).Nodup:=by rw[ou];exact(Mg _ _ List.nodup_nil).sublist agQ
   have R:em.length<=256:=by rw[<-Jj (f:=(·.1))];exact afJ jX
   have ahV:kQ (em.map (·.1))=IF L n:=by rw[ou,HP.a];rfl
   have J:=E5.mk hI M7 hGr NQ jX R ahV;clear hI M7 z gT hGr NQ ou jX R ahV;go_wp2_with (go_at_call 161;go_must (refine(ahk m2 wq).mono ?_);rintro e w5 ⟨rfl,Ak⟩;have H5:=X Ak;clear Ak;refine Halt.of ?_);unfold Halt;have E:=X (adn adp m2 em w5 (J.d.of_block<|by rw[H5.out];exact dm _ _ _ J.d.lt) J.e J.f wq.heap.size<|by rw[H5.out];go_simp);go_wp2_with (go_at_call 160;go_must (refine E.out.mono ?_);rintro e r ⟨sv,rfl,A,hb6⟩;have H6:=cH.mk A hb6;clear A hb6;refine Halt.of ?_);unfold Halt;obtain⟨cs,iz⟩:=ex<|IF L n;obtain⟨rl,o7⟩:=ex cs.length;have An:em.length=rl:=by rw[o7,iz,<-J.g];simp[kQ]
   have A:r.ownsRow w5 5 1 sv rl<|cs.map λb=>V aq (b.toNat:Int):=by have:=H6.a;rw[J.g,<-iz,An] at this;exact this
   have ayK:rl<=256:=by rw[<-An];exact J.f
   obtain⟨xw,xu,rfl⟩:=gD A;have lZ:w5.heap.size=wq+1:=by rw[H5.out];simp
   have K:aW wq wq r:=by
    have h3:aW wq wq w5:=by rw[H5.out];exact(eo _ _).alloc (aS _) _
    exact h3.trans ⟨H6.b.os,H6.b.tape,H6.b.output,H6.b.size,λb hb=>H6.b.block b<|by omega⟩
   have P:=J.c.below K;have NU:CrI B p pm D' L pfx cs r 0 D' r:=⟨by rw[ME,aBm];exact P,.refl _ _⟩;have HY:=E5.mk A K P NU iz o7 lZ;clear A K P NU iz o7 lZ An E H5 H6 hj;go_wp2;go_loopg [95] rl λk s95 wr=>∃(i:Nat) (D2:Nat->Prop),s95=V aC i∧k+i=rl∧CrI B p pm D' L pfx cs r i D2 wr;case atStart=>exact⟨0,D',rfl,by omega,HY.d⟩
   case round=>
    obtain⟨i,D2,rfl,hki,ku⟩:=hrel;obtain⟨A,K,P,-,iz,o7,lZ⟩:=HY;have hwr:=J.a.keep.size;have fg:=HX.b.size;have B4:=(je.1 HX.c).1;have NV:¬D' w:=λhd=>by
     rcases J.a.own _ hd with h|h;·exact absurd (HH.f _ h).2<|by omega
     ·omega
    have uR:=ku.keep.1.size;by_cases hi:i<rl
    ·have v:=(ku.keep.1.block _ (by have:=K.size;omega) NV).trans<|(K.block _<|by omega).trans<|(J.a.keep.block _ B4<|by rintro(h|h);exact absurd (HH.f _ h).2 (by omega);omega).trans HX.c;have b0:wr.cell? w=U (aD pfx):=M v 0;have SK:pF 5 1 (λb:UInt8=>V aq (b.toNat:Int)) wr (aE xw rl xu) cs:=by unfold pF;rw[WH,<-o7];refine dx (jr A<|kI _) λb hb=>ku.keep.1.block b (A.lt b hb).2 λhd=>?_;have h1:=(A.lt b hb).1;have h2:=(J.c.lt b hd).2;omega
     obtain⟨g,Cq,hv,hg,hY⟩:=SK.cell (λ_=>rfl) (show i<cs.length by omega);simp only[oU] at hv;obtain⟨rfl,-,rfl⟩:=hv;obtain⟨c,hc⟩:=ex<|cs[i]'(by omega);have y0:wr.cell? ⟨g,i,Z⟩=U (V aq (c.toNat:Int)):=by have:=hY 0 (V aq ((cs[i]'(by omega)).toNat:Int)) (by decide) rfl;rw[Nat.mul_one] at this;rw[hc];exact this
     have G:=HH.e;have gT:cs.take (i+1)=cs.take i++[c]:=by rw[xH,oS<|show i<cs.length by omega,hc];rfl
     have ZN:=aBl L m n<|i+1;rw[<-J.b,<-HP.a,<-iz,gT,ajU] at ZN;simp only[j7] at ZN;have ot:=G.nr;have Ke:cI wr S L:=by
      have hB:=HH.b;have SX:¬D S:=λhd=>by obtain⟨e,⟨cur,he⟩,_⟩:=HH.a.elem S hd;obtain⟨en,ck,h2,_⟩:=hB;rw[he] at h2;cases h2
      have azf:¬D' S:=λhd=>by
       rcases J.a.own _ hd with h|h;·exact SX h
       ·omega
      exact hB.of_block<|(ku.keep.1.block S (by have:=K.size;omega) azf).trans<|(K.block S<|by omega).trans<|(J.a.keep.block S (by omega)<|by rintro(h|h);exact SX h;omega).trans<|HX.b.block S yW
     have HT:=X (λ(W:ay) (hW:aW wr.heap.size wr W)=>Qf B p S (wK L pm pfx<|cs.take i) D2 L (push pfx c) W (ku.N0.below hW) (Ke.of_block<|hW.block S Ke.lt) (by have:=hW.size;have:=K.size;omega) G.len<|by omega);have Gd:pfx.size<=4096:=by rw[HP.a];exact G.key.1
     have No:(i:Int)<(rl:Int):=by omega
     have hNw:w.heap.size<wr:=by have:=K.size;omega
     have hNn:¬w.heap.size=wr.heap.size:=by omega
     have hcv:=akP c wr;have HI2:=cH.mk ku gT;clear A K P iz o7 lZ v SK hY hc G gT ZN ot Ke ku NV uR;go_wp2_with (go_at_call 102;go_must (refine(HT.out _<|(eo _ _).alloc (aS _) _).mono ?_);rintro e w7 ⟨rfl,D7,uZ,tL⟩;have H7:=cH.mk uZ tL;refine Halt.of ?_);unfold Halt;go_wp2;go_roundg (gk-1);case rel=>refine⟨i+1,D7,by go_simp,by omega,⟨by rw[HI2.b,ajU];exact H7.a,HI2.a.keep.trans<|bS.trans ⟨aK.alloc _ _ _,λb hb=>ax hb⟩ H7.b⟩⟩
     case measure=>omega
    ·have hie:i=rl:=by omega
     have wu:gk=0:=by omega
     subst wu;have C:iK wr B p (oC L m n) D2:=by have h1:=ku.N0;rw[Je<|by omega,J.b,HP.a,iz] at h1;exact h1
     have Nk:bS D w D2 wr:=by
      have DZ:=J.a.keep;have u:=HX.b;have aib:=HX.d;refine⟨⟨ku.keep.1.os.trans<|K.os.trans<|DZ.os.trans u.os,ku.keep.1.tape.trans<|K.tape.trans<|DZ.tape.trans u.tape,ku.keep.1.output.trans<|K.output.trans<|DZ.output.trans u.output,by have:=K.size;omega,λb hb hn=>?_⟩,λb hd=>?_⟩
      ·have ay8:¬D' b:=λhd=>by
        rcases J.a.own _ hd with h|h;·exact hn h
        ·omega
       rw[ku.keep.1.block b (by have:=K.size;omega) ay8,K.block b<|by omega,DZ.block b (by omega)<|by rintro(h|h);exact hn h;omega];exact u.block b hb
      ·rcases ku.keep.2 b hd with h|h
       ·rcases J.a.own _ h with h|h;·exact ax h
        ·exact aA<|by omega
       ·exact aA<|by have:=K.size;omega
     have HF:=X<|aM C Nk;go_wp2;go_end0;exact⟨rfl,D2,HF.out⟩
def yA:dZ:=⟨[],[],[],[]⟩
def jE:ByteArray:=⟨#[]⟩
def qG(L:List O)(m:dZ)(ws:List ByteArray):dZ:={m with bq:=m.bq++ws.flatMap (dS L)}
def mz(L:List O)(m:dZ)(E:List Nd):dZ:=E.foldl (oC L) m
def zQ(L:List O)(m:dZ)(d:Int):dZ:=if d=t (dS L jE)then m else{m with nodes:=m.nodes++[Dq L jE]}
def kF(L:List O)(m:dZ)(ds:List Int):dZ:=ds.foldl (zQ L) m
def tn(L:List O)(mi:dZ):dZ:=kF L (mz L (qG L yA mi.cu) mi.nodes) mi.roots
theorem am2(L)(m):qG L m []=m:=by simp[qG]
theorem ab3(L)(m)(a)(p):qG L m (a++[p])={qG L m a with bq:=(qG L m a).bq++dS L p}:=by simp[qG]
theorem afL(L)(m)(a)(n):mz L m (a++[n])=oC L (mz L m a) n:=by simp[mz]
theorem as7(L)(m)(ds)(d):kF L m (ds++[d])=zQ L (kF L m ds) d:=by simp[kF]
structure xj(a b:dZ):Prop where
 r:a.bq.length<=b.bq.length
 w:a.cu.length<=b.cu.length
 n:a.nodes.length<=b.nodes.length
theorem xj.refl(a):xj a a:=⟨aS _,aS _,aS _⟩
theorem xj.trans{a b c}(h:xj a b)(k:xj b c):xj a c:=⟨bC h.r k.r,bC h.w k.w,bC h.n k.n⟩
theorem aCN(L)(m)(n):xj m<|oC L m n:=by have h:=XV L m n 0;rw[ME,af7]at h;exact⟨h.1,h.2.1,h.2.2⟩
theorem XG(L:List O):∀(a:List Nd)(m:dZ),xj m<|mz L m a|[],m=>.refl m|n::a,m=>(aCN L m n).trans<|XG L a _
theorem as6(L)(m)(d):xj m<|zQ L m d:=by
 unfold zQ;split;.exact .refl m
 .exact⟨aS _,aS _,by simp⟩
theorem QT(L:List O):∀(ds:List Int)(m:dZ),xj m<|kF L m ds|[],m=>.refl m|d::ds,m=>(as6 L m d).trans<|QT L ds _
theorem auT(L)(m)(b)(j):xj (mz L m<|b.take j)<|mz L m b:=by
 have:mz L m b=mz L (mz L m<|b.take j) (b.drop j):=by grind[mz,List.take_append_drop]
 grind[XG]
theorem as5(L)(m)(ds)(j):xj (kF L m<|ds.take j)<|kF L m ds:=by
 have:kF L m ds=kF L (kF L m<|ds.take j) (ds.drop j):=by grind[kF,List.take_append_drop]
 grind[QT]
theorem am0(L)(m)(b)(j):xj (qG L m<|b.take j)<|qG L m b:=by have:=Oc (dS L) b j;exact⟨by grind[qG,List.length_append],aS _,aS _⟩
structure U1(L:List O)(mi:dZ):Prop where
 len:L.length<=1073741824
 fit:∀x∈L,Fit x
 nodup:∀n∈mi.nodes,(n.kids.map (·.1)).Nodup
 u64:∀n∈mi.nodes,∀k∈n.kids,tZ k.2
 key:∀n∈mi.nodes,yN L n.pfx
 deep:∀n∈mi.nodes,∀c:UInt8,c≠0->yN L (push n.pfx c)nk:∀n∈mi.nodes,n.kids.length<=100000
 root:yN L jE
 rd:∀d∈mi.roots,tZ d
 out:Hq<|tn L mi
theorem U1.cm{L}{a}(h:U1 L a){j}(d):amn L (mz L (qG L yA a.cu)<|a.nodes.take j) a.nodes[j]:=by
 have b:=lV d;have e:mz L (qG L yA a.cu) (a.nodes.take<|j+1)=oC L (mz L (qG L yA a.cu)<|a.nodes.take j) a.nodes[j]:=by grind[List.take_add_one,List.getElem?_eq_getElem,Option.toList_some,afL]
 have c:=(auT L (qG L yA a.cu) a.nodes<|j+1).trans<|QT L a.roots _;rw[e]at c;refine⟨h.len,h.fit,h.nodup _ b,h.u64 _ b,h.key _ b,h.deep _ b,h.nk _ b,?_,?_,?_⟩;.exact bC c.r<|bC h.out.nr<|by decide
 .exact bC c.w<|bC h.out.nw<|by decide
 .exact bC c.n<|bC h.out.nn<|by decide
def zy(B E:Nat)(D0:Nat->Prop)(w2:ay)(m:dZ)(W:ay):Prop:=∃D',iK W B E m D'/\bS D0 w2 D' W
theorem zy.start{w:ay}:zy w w (λb=>b=w) (w.alloc<|aH #[aE Z 0 0,aE Z 0 0,aE Z 0 0,aE Z 0 0] 180) yA<|w.alloc<|aH #[aE Z 0 0,aE Z 0 0,aE Z 0 0,aE Z 0 0] 180:=by
 refine⟨_,⟨aE Z 0 0,aE Z 0 0,aE Z 0 0,aE Z 0 0,[],⟨iF _ _,aS _,rQ _ _ _ _,rQ _ _ _ _,lD.nil _ _,rQ _ _ _ _⟩,rfl⟩,⟨aK.refl _ _,λb a=>ax ?_⟩⟩;rcases a with h|h|h|h;.exact h
 .cases h
 .cases h
 .cases h
theorem zy.low{B d}{c}{a W}{m}(h:zy B d c a m W)(f:∀b,c b->B<=b){b}(j:b<B)(g:B<=a):W.heap[b]?=a.heap[b]?:=by obtain⟨i,_,h⟩:=h;exact h.1.block b (by omega) λe=>absurd (f b e)<|by omega
set_option maxHeartbeats 8000000 in
theorem abu (r mb gb:Nat) (id:Int) (L:List O) (mi:dZ) (g off cap:Nat) (w:ay) (hR:fE w r id mb gb) (hB:cI w mb L) (ht:fQ w) (Tj:(gy mi).length<=cap) (hg:g<w.heap.size)(eK:∀j (h:j<(gy mi).length),w.cell? ⟨g,off+j,Z⟩=U (jb (gy mi)[j])) (hm:abF mi) (hk:∀x∈mi.bq,x.Ok) (hO:U1 (mi.bq.foldl fD L) mi):bz Q 59 #[aG<|U ⟨r,0,Z⟩,aE (U ⟨g,off,Z⟩) (gy mi).length cap] w λe w'=>cI w' mb (mi.bq.foldl fD L)∧aK (λb=>b=mb) w w'∧((tn (mi.bq.foldl fD L) mi).none=Y∧e=bj (aE Z 0 0)∨(tn (mi.bq.foldl fD L) mi).none=ai∧∃v,e=bj v∧dF w.heap.size w' v (gy<|tn (mi.bq.foldl fD L) mi)):=by
 have HC:=X<|avJ mi g off cap w Tj hg eK hm;obtain⟨J,NS⟩:=ex<|mi.bq.foldl fD L;rw[<-NS] at hO⊢;have o7:=hR.lt;have yW:=hB.lt;have hrm:r≠mb:=hR.ne hB;have HH:=E5.mk hR hB ht hm hO NS hk;clear hR hB ht Tj hg eK hm hO NS hk;go_enter an1,ntmps59;go_wp2_with (go_at_call 100;go_must (refine HC.out.mono ?_);rintro e w1 ⟨p,vr,vw,vn,vd,xs,rfl,hM,gU⟩;have H1:=cH.mk hM gU;clear hM gU;refine Halt.of ?_);unfold Halt;clear HC;obtain⟨rad,atJ,SH⟩:=gD H1.a.bq;obtain⟨CU,CS,MZ⟩:=gD H1.a.cu;obtain⟨FO,FN,DJ⟩:=gD H1.a.nodes.row;obtain⟨dad,akn,Ze⟩:=gD H1.a.roots;obtain⟨nr,ot⟩:=ex mi.bq.length;obtain⟨nw,JK⟩:=ex mi.cu.length;obtain⟨nn,JL⟩:=ex mi.nodes.length;obtain⟨nd,jX⟩:=ex mi.roots.length;rw[<-ot] at SH;rw[<-JK] at MZ;rw[<-JL] at DJ;rw[<-jX] at Ze;have BW:=H1.a.box;have hR1:fE w1 r id mb gb:=(H1.b.block r o7).trans HH.a;have ox:cI w1 mb L:=HH.b.of_block<|H1.b.block mb yW;have Gy:fQ w1:=HH.c.below H1.b<|aS _;have SP:w.heap.size<=p:=H1.a.lt;have hn5:nr<=600000∧nw<=600000∧nn<=124000∧nd<=100000:=by have h:=HH.d;exact⟨ot▸h.nr,JK▸h.nw,JL▸h.nn,jX▸h.nd⟩
 obtain⟨aG3,aG2,aG1,aG0⟩:=hn5;have HV:=E4.mk SH MZ DJ Ze ot JK JL jX;have HX:=gF.mk hR1 ox Gy;have c0:w1.cell? ⟨p,0,Z⟩=U (aE rad nr atJ):=(M BW 0).trans (by rw[SH];rfl);clear SH MZ DJ Ze ot JK JL jX hR1 ox Gy BW;go_wp2;go_loopg [22] nr λk s22 wr=>∃(j:Nat),s22=V aC j∧k+j=nr∧cI wr mb ((mi.bq.take j).foldl fD L)∧aK (λb=>b=mb) w1 wr;case atStart=>exact⟨0,rfl,by omega,HX.b,aK.refl _ _⟩
 case round=>
  obtain⟨j,rfl,qW,Kg,hK⟩:=hrel;by_cases hj:j<nr
  ·have jh:j<mi.bq.length:=by have:=HV.e;omega
   have Zc:=H1.b.size;have nC:fE wr r id mb gb:=(hK.block r (by omega)<|by omega).trans HX.a;obtain⟨gg,hgg⟩:∃gg,rad=U ⟨gg,0,Z⟩:=by
    have h:=H1.a.bq.2;rw[HV.a] at h;rcases h with⟨h,h0⟩|⟨gg,c,cur,h,_⟩;·omega
    ·injection h with h;exact⟨gg,h⟩
   subst hgg;have tK:=H1.a.bq;have BQ:eS w1 gg 46:=fN tK (by rw[HV.a];rfl);have sg:gg<w1.heap.size:=(je.1 BQ.choose_spec).1;have Nr:gg≠mb:=λe=>by obtain⟨cur,h1⟩:=BQ;obtain⟨en,ck,h2,_⟩:=HX.b;rw[e,h2] at h1;cases h1
   obtain⟨x,hx⟩:=ex mi.bq[j];have JZ:∀i v,i<5->x.cells[i]? =U v->wr.cell? ⟨gg,j*5+i,Z⟩=U v:=λi v hi hv=>by have h1:=Jf tK (g:=gg) (by rw[HV.a];rfl) (j*5+i) v ((aeo jh i hi).trans<|by rw[<-hx];exact hv);rw[R5,Bw] at h1;exact(ei (w:=w1) (a:=⟨gg,j*5+i,Z⟩)<|hK.block gg sg Nr).trans h1
   have gT:(mi.bq.take<|j+1).foldl fD L=fD ((mi.bq.take j).foldl fD L) x:=by rw[xH,oS jh,By,List.foldl_append,<-hx];rfl
   have hxo:x.Ok:=by rw[hx];exact HH.g _<|lV jh
   have HTk:=X λ(W:ay) (h:cI W mb<|(mi.bq.take j).foldl fD L)=>ac5 x hxo mb _ W h;obtain⟨n,f,c,q,s⟩:=x;have y0:wr.cell? ⟨gg,j*5,Z⟩=U (aD n):=JZ 0 _ (by decide) rfl;have y1:wr.cell? ⟨gg,j*5+1,Z⟩=U (aD f):=JZ 1 _ (by decide) rfl;have y2:wr.cell? ⟨gg,j*5+2,Z⟩=U (V aC c):=JZ 2 _ (by decide) rfl;have y3:wr.cell? ⟨gg,j*5+3,Z⟩=U (V aC q):=JZ 3 _ (by decide) rfl;have y4:wr.cell? ⟨gg,j*5+4,Z⟩=U (aD s):=JZ 4 _ (by decide) rfl;obtain⟨wx,uS⟩:=ex<|wr.alloc<|aH #[aD n,aD f,V aC c,V aC q,aD s] 46;have ji:aW wr.heap.size wr wx:=by rw[uS];exact(eo _ _).alloc (aS _) _
   have hrr:=nC.lt;have Eg:wx.heap[r]? =U (aH #[V aC id,cq<|U mb,cq<|U gb] 110 (0,0))∧wx.heap[wr.heap.size]? =U (aH #[aD n,aD f,V aC c,V aC q,aD s] 46 (0,0)):=⟨(ji.block r hrr).trans nC,by rw[uS];exact iF _ _⟩;have ayZ:(wr.heap.size:Nat)≠mb:=by have:=Kg.lt;omega
   have k1:∀W:ay,W.heap[r]? =U (aH #[V aC id,cq<|U mb,cq<|U gb] 110 (0,0))∧W.heap[wr.heap.size]? =U (aH #[aD n,aD f,V aC c,V aC q,aD s] 46 (0,0))->W.cell? ⟨r,1,Z⟩=U (cq<|U mb)∧W.cell? ⟨wr.heap.size,0,Z⟩=U (aD n)∧W.cell? ⟨wr.heap.size,1,Z⟩=U (aD f)∧W.cell? ⟨wr.heap.size,2,Z⟩=U (V aC c)∧W.cell? ⟨wr.heap.size,3,Z⟩=U (V aC q)∧W.cell? ⟨wr.heap.size,4,Z⟩=U (aD s):=λW h=>⟨M h.1 1,M h.2 0,M h.2 1,M h.2 2,M h.2 3,M h.2 4⟩;have nB:(j:Int)<(nr:Int):=by omega
   have HI:=E5.mk Kg hK ji gT uS nC Zc;clear Kg hK ji gT tK BQ sg Nr hx JZ hxo nC;go_wp2;rw[<-HI.e];clear uS y0 y1 y2 y3 y4;refine xG ?_;refine CX (λW=>W.heap[r]? =U (aH #[V aC id,cq<|U mb,cq<|U gb] 110 (0,0))∧W.heap[wr.heap.size]? =U (aH #[aD n,aD f,V aC c,V aC q,aD s] 46 (0,0))) [0,1,2,3,4,5] (by kernel_rfl) Eg (λ_ _ _ _ _ h=>h) ?_;repeat((apply qH _ rfl (by kernel_rfl) rfl;·intro W hSw;obtain⟨q0,q1,q2,q3,q4,q5⟩:=k1 W hSw;go_simp;try with_reducible rfl);simp only[yq])
   refine vE rfl (by kernel_rfl) λhHeld K hK=>?_;go_simp;go_at_call 101;refine jg (HTk.out wx.drew (HI.a.of_block<|HI.c.block mb HI.a.lt).drew) ?_;rintro e w7 ⟨rfl,NX,Td⟩;have sd:w7.heap[r]? =U (aH #[V aC id,cq<|U mb,cq<|U gb] 110 (0,0))∧w7.heap[wr.heap.size]? =U (aH #[aD n,aD f,V aC c,V aC q,aD s] 46 (0,0)):=⟨(Td.block r (je.1 hHeld.1).1 hrm).trans hHeld.1,(Td.block _ (je.1 hHeld.2).1 ayZ).trans hHeld.2⟩;refine hK.out _ _ sd ?_;refine CY (by kernel_rfl) λhHeld=>?_;refine qN ?_;have H7:=cH.mk NX Td;clear NX Td sd hHeld k1 Eg;go_wp2;go_roundg (gk-1);case rel=>obtain⟨-,hK,ji,gT,-,-,-⟩:=HI;refine⟨j+1,by go_simp,by omega,by rw[gT];exact H7.a,hK.trans<|aK.trans' (F:=λ_=>False) (G:=λb=>b=mb) (aK.iD ji) ((aK.drew _ _).trans H7.b) (λ_ _ h=>h.elim) λ_ _ h=>h⟩
   case measure=>omega
  ·have jw:nr=j:=by omega
   have wu:gk=0:=by omega
   subst wu;subst jw;obtain⟨E,rfl⟩:=ex wr;have NW:cI E mb J:=by rw[Je<|by have:=HV.e;omega] at Kg;rw[HH.f];exact Kg
   have Tx:jm E w.heap.size p mi vr vw vn vd xs:=H1.a.same (λb e hb=>hK.block b (je.1 hb.choose_spec).1 λhe=>by obtain⟨cur,h1⟩:=hb;obtain⟨en,ck,h2,_⟩:=HX.b;rw[he,h2] at h1;cases h1) hK.size;have Zc:=H1.b.size;have hRA:fE E r id mb gb:=(hK.block r (by omega)<|by omega).trans HX.a;have h3m:(3:Nat)≠mb:=λe=>by have ht:=HH.c;obtain⟨en,clock,hb,_⟩:=HH.b;rw[<-e] at hb;unfold fQ zi World.var? at ht;rw[Fv] at ht;simp[hb] at ht
   have hTA:fQ E:=HX.c.keep hK h3m;have h4A:4<=E.heap.size:=by have:=hTA.lt;omega
   obtain⟨w2,yT⟩:=ex<|E.alloc<|aH #[aE Z 0 0,aE Z 0 0,aE Z 0 0,aE Z 0 0] 180;have hO0:zy E.heap.size E.heap.size (λb=>b=E.heap.size) w2 yA w2:=by rw[yT];exact zy.start
   have jW:w2.heap.size=E.heap.size+1:=by rw[yT];simp
   have JN:∀(m:dZ) (W:ay),zy E.heap.size E.heap.size (λb=>b=E.heap.size) w2 m W->∀b,b<E.heap.size->W.heap[b]? =E.heap[b]? :=λm W h b hb=>(h.low (λb hb=>by rw[hb];exact aS _) hb<|by omega).trans (by rw[yT];exact dm _ _ _ hb);have ah7:∀(m:dZ) (W:ay),zy E.heap.size E.heap.size (λb=>b=E.heap.size) w2 m W->E.heap.size<=W.heap.size:=λm W h=>by obtain⟨D',_,h⟩:=h;have:=h.1.size;omega
   have hpA:=Tx.rL;have SM:=hRA.lt;have SY:=NW.lt;have A:=al7.mk NW Tx hRA hTA h4A yT hO0 jW JN ah7 hK;have c1:E.cell? ⟨p,1,Z⟩=U (aE CU nw CS):=(M Tx.box 1).trans (by rw[HV.b];rfl);clear Kg NW Tx hRA hTA h4A yT hO0 jW JN ah7 hK hj c0 qW;go_wp2;rw[<-A.f];go_loopg [40] nw λk s40 wr=>∃(j:Nat),s40=V aC j∧k+j=nw∧zy E.heap.size E.heap.size (λb=>b=E.heap.size) w2 (qG J yA<|mi.cu.take j) wr;case atStart=>exact⟨0,rfl,by omega,by rw[ME,am2];exact A.g⟩
   case round=>
    obtain⟨j,rfl,qW,hI⟩:=hrel;by_cases hj:j<nw
    ·have jh:j<mi.cu.length:=by have:=HV.f;omega
     have C:=A.i _ wr hI;have wh:pF 9 1 aD E (aE CU nw CS) mi.cu:=by have h:=A.b.cu;rw[HV.b] at h;exact jr h<|kI _
     obtain⟨wg,Cq,hv,hg,hY⟩:=wh.cell (λ_=>rfl) jh;simp only[oU] at hv;obtain⟨rfl,-,rfl⟩:=hv;obtain⟨q,hq⟩:=ex mi.cu[j];have y0:wr.cell? ⟨wg,j,Z⟩=U (aD q):=by have:=hY 0 (aD mi.cu[j]) (by decide) rfl;rw[Nat.mul_one] at this;rw[hq];exact(ei (w:=E) (a:=⟨wg,j,Z⟩)<|C wg hg).trans this
     have r1:wr.cell? ⟨r,1,Z⟩=U (cq<|U mb):=M ((C r SM).trans A.c) 1;have gT:mi.cu.take (j+1)=mi.cu.take j++[q]:=by rw[xH,oS jh,hq];rfl
     have hO:=HH.e;have hle:=((am0 J yA mi.cu<|j+1).trans<|XG J mi.nodes _).trans<|QT J mi.roots _;rw[gT,ab3] at hle;have Ni:=bC hle.r hO.out.nr;simp only[j7] at Ni;obtain⟨D',hG,hL⟩:=hI;have HT:=gF.mk (Qf E.heap.size E.heap.size mb _ D' J q wr hG (A.a.of_block<|C mb SY) (by have:=hL.1.size;have:=A.h;omega) hO.len<|by omega) gT hL;have nB:(j:Int)<(nw:Int):=by omega
     clear C wh hY hq gT hO hle Ni hG hL;go_wp2_with (go_at_call 102;go_must (refine HT.a.mono ?_);rintro e w7 ⟨rfl,D7,uZ,tL⟩;have H7:=cH.mk uZ tL;clear uZ tL;refine Halt.of ?_);unfold Halt;go_wp2;go_roundg (gk-1);case rel=>exact⟨j+1,by go_simp,by omega,D7,by rw[HT.b,ab3];exact H7.a,HT.c.trans H7.b⟩
     case measure=>omega
    ·have jw:nw=j:=by omega
     have wu:gk=0:=by omega
     subst wu;subst jw;obtain⟨wB,rfl⟩:=ex wr;rw[Je<|by have:=HV.f;omega] at hI;obtain⟨mW,ZB⟩:=ex<|qG J yA mi.cu;rw[<-ZB] at hI;have aiC:=(A.i _ wB hI p hpA).trans A.b.box;have c2:wB.cell? ⟨p,2,Z⟩=U (aE FO nn FN):=(M aiC 2).trans (by rw[HV.c];rfl);have HB:=cH.mk hI ZB;clear hI ZB aiC hj c1 qW;go_wp2;go_loopg [57] nn λk s57 wr=>∃(j:Nat),s57=V aC j∧k+j=nn∧zy E.heap.size E.heap.size (λb=>b=E.heap.size) w2 (mz J mW<|mi.nodes.take j) wr;case atStart=>exact⟨0,rfl,by omega,HB.a⟩
     case round=>
      obtain⟨j,rfl,qW,hI⟩:=hrel;by_cases hj:j<nn
      ·have jh:j<mi.nodes.length:=by have:=HV.g;omega
       have C:=A.i _ wr hI;obtain⟨ng,Cq,kv,hv,hg,Gk,xN,yR,uW⟩:=A.b.nodes.cell jh;rw[HV.c] at hv;simp only[oU] at hv;obtain⟨rfl,-,rfl⟩:=hv;obtain⟨nj,mF⟩:=ex mi.nodes[j];rw[<-mF] at xN uW;obtain⟨uP,tI,Tc⟩:=gD uW;obtain⟨kl,yX⟩:=ex nj.kids.length;rw[<-yX] at Tc;obtain⟨q,hq⟩:=ex nj.pfx;rw[<-hq] at xN;rw[Tc] at yR;have y0:wr.cell? ⟨ng,j*2,Z⟩=U (aD q):=(ei (w:=E) (a:=⟨ng,j*2,Z⟩)<|C ng hg).trans xN;have y1:wr.cell? ⟨ng,j*2+1,Z⟩=U (aE uP kl tI):=(ei (w:=E) (a:=⟨ng,j*2+1,Z⟩)<|C ng hg).trans yR;have gT:mz J mW (mi.nodes.take<|j+1)=oC J (mz J mW<|mi.nodes.take j) nj:=by rw[xH,oS jh,By,afL,mF]
       have hO:=HH.e;have JY:=hO.cm jh;rw[<-HB.b,<-mF] at JY;have fo:=A.j _ wr hI;obtain⟨D',hG,hL⟩:=hI;obtain⟨wx,uS⟩:=ex<|wr.alloc<|aH #[aD q,aE uP kl tI] 184;have ji:aW wr.heap.size wr wx:=by rw[uS];exact(eo _ _).alloc (aS _) _
       have nC:wr.heap[r]? =U (aH #[V aC id,cq<|U mb,cq<|U gb] 110 (0,0)):=(C r SM).trans A.c;have Eg:wx.heap[r]? =U (aH #[V aC id,cq<|U mb,cq<|U gb] 110 (0,0))∧wx.heap[wr.heap.size]? =U (aH #[aD q,aE uP kl tI] 184 (0,0)):=⟨(ji.block r<|by omega).trans nC,by rw[uS];exact iF _ _⟩;have k1:∀W:ay,W.heap[r]? =U (aH #[V aC id,cq<|U mb,cq<|U gb] 110 (0,0))∧W.heap[wr.heap.size]? =U (aH #[aD q,aE uP kl tI] 184 (0,0))->W.cell? ⟨r,1,Z⟩=U (cq<|U mb)∧W.cell? ⟨wr.heap.size,0,Z⟩=U (aD q)∧W.cell? ⟨wr.heap.size,1,Z⟩=U (aE uP kl tI):=λW h=>⟨M h.1 1,M h.2 0,M h.2 1⟩;have HT:dD<|bz Q 103 #[aG<|U ⟨E.heap.size,0,Z⟩,cq<|U mb,bJ #[aD q,aE uP kl tI]] wx.drew λe w'=>e=bj (bO #[])∧∃D2,iK w' E.heap.size E.heap.size (mz J mW<|mi.nodes.take<|j+1) D2∧bS D' wx.drew D2 w':=by have l6:aW wr.heap.size wr wx.drew:=⟨ji.os,ji.tape,ji.output,ji.size,ji.block⟩;have uR:=l6.size;refine X ?_;rw[gT,hq,<-Tc];refine aCJ E.heap.size E.heap.size mb _ D' J nj kv wx.drew (hG.below l6) (A.a.of_block<|(l6.block mb<|by omega).trans<|C mb SY) (by omega) A.e (A.d.of_block<|(l6.block 3<|by have:=A.e;omega).trans<|C 3<|by have:=A.e;omega) (jr (B:=w.heap.size) ?_<|kI _) JY;exact dx uW λb hb=>(l6.block b<|by have:=(uW.lt b hb).2;omega).trans<|C b (uW.lt b hb).2
       have nB:(j:Int)<(nn:Int):=by omega
       have hrs:r<wr.heap.size:=by omega
       have HI:=vB.mk hL ji uS hG;clear C Gk xN yR uW mF Tc yX hq gT hO JY hL ji nC hG;go_wp2;rw[<-HI.c];clear uS y0 y1;refine xG ?_;refine CX (λW=>W.heap[r]? =U (aH #[V aC id,cq<|U mb,cq<|U gb] 110 (0,0))∧W.heap[wr.heap.size]? =U (aH #[aD q,aE uP kl tI] 184 (0,0))) [0,1,2,3,4,5,6] (by kernel_rfl) Eg (λ_ _ _ _ _ h=>h) ?_;repeat((apply qH _ rfl (by kernel_rfl) rfl;·intro W hSw;obtain⟨q0,q1,q2⟩:=k1 W hSw;go_simp;try with_reducible rfl);simp only[yq])
       refine vE rfl (by kernel_rfl) λhHeld K hK=>?_;go_simp;go_at_call 103;refine jg HT.out ?_;rintro e w7 ⟨rfl,D7,uZ,tL⟩;have Ng:∀b,b<E.heap.size∨b=wr.heap.size->¬D' b:=λb hb hd=>by have h1:=HI.d.lt b hd;rcases hb with hb|hb<;>omega
       have sd:w7.heap[r]? =U (aH #[V aC id,cq<|U mb,cq<|U gb] 110 (0,0))∧w7.heap[wr.heap.size]? =U (aH #[aD q,aE uP kl tI] 184 (0,0)):=⟨(tL.1.block r (je.1 hHeld.1).1<|Ng r<|ax SM).trans hHeld.1,(tL.1.block _ (je.1 hHeld.2).1<|Ng _<|aA rfl).trans hHeld.2⟩;refine hK.out _ _ sd ?_;refine CY (by kernel_rfl) λhHeld=>?_;refine qN ?_;have H7:=cH.mk uZ tL;clear uZ tL sd hHeld k1 Eg Ng;go_wp2;go_roundg (gk-1);case rel=>obtain⟨hL,ji,-,-⟩:=HI;have l6:aW wr.heap.size wr wx.drew:=⟨ji.os,ji.tape,ji.output,ji.size,ji.block⟩;exact⟨j+1,by go_simp,by omega,D7,H7.a,hL.trans<|bS.trans (bS.other<|aK.iD l6) H7.b⟩
       case measure=>omega
      ·have jw:nn=j:=by omega
       have wu:gk=0:=by omega
       subst wu;subst jw;obtain⟨wC,rfl⟩:=ex wr;rw[Je<|by have:=HV.g;omega] at hI;obtain⟨mN,ZC⟩:=ex<|mz J mW mi.nodes;rw[<-ZC] at hI;have aiB:=(A.i _ wC hI p hpA).trans A.b.box;have c3:wC.cell? ⟨p,3,Z⟩=U (aE dad nd akn):=(M aiB 3).trans (by rw[HV.d];rfl);have HCc:=cH.mk hI ZC;clear hI ZC aiB hj c2 qW;go_wp2;go_loopg [74] nd λk s74 wr=>∃(j:Nat),s74=V aC j∧k+j=nd∧zy E.heap.size E.heap.size (λb=>b=E.heap.size) w2 (kF J mN<|mi.roots.take j) wr;case atStart=>exact⟨0,rfl,by omega,HCc.a⟩
       case round=>
        obtain⟨j,rfl,qW,hI⟩:=hrel;by_cases hj:j<nd
        ·have jh:j<mi.roots.length:=by have:=HV.h;omega
         have C:=A.i _ wr hI;have wh:pF 76 8 iR E (aE dad nd akn) mi.roots:=by have h:=A.b.roots;rw[HV.d] at h;exact jr h<|kI _
         obtain⟨dg,Cq,hv,hg,hY⟩:=wh.cell akh jh;simp only[oU] at hv;obtain⟨rfl,-,rfl⟩:=hv;obtain⟨d,hd⟩:=ex mi.roots[j];rw[<-hd] at hY;unfold iR at hY;obtain⟨d0,si⟩:∃z,z=d/72057594037927936 % 256:=⟨_,rfl⟩;obtain⟨d1,Ny⟩:∃z,z=d/281474976710656 % 256:=⟨_,rfl⟩;obtain⟨d2,JX⟩:∃z,z=d/1099511627776 % 256:=⟨_,rfl⟩;obtain⟨d3,JW⟩:∃z,z=d/4294967296 % 256:=⟨_,rfl⟩;obtain⟨d4,Nx⟩:∃z,z=d/16777216 % 256:=⟨_,rfl⟩;obtain⟨d5,JV⟩:∃z,z=d/65536 % 256:=⟨_,rfl⟩;obtain⟨d6,Nw⟩:∃z,z=d/256 % 256:=⟨_,rfl⟩;obtain⟨d7,Nv⟩:∃z,z=d % 256:=⟨_,rfl⟩;rw[<-si,<-Ny,<-JX,<-JW,<-Nx,<-JV,<-Nw,<-Nv] at hY;have y0:wr.cell? ⟨dg,j*8,Z⟩=U (V aq d0):=(ei (w:=E) (a:=⟨dg,j*8,Z⟩)<|C dg hg).trans<|hY 0 _ (by decide) rfl;have y1:wr.cell? ⟨dg,j*8+1,Z⟩=U (V aq d1):=(ei (w:=E) (a:=⟨dg,j*8+1,Z⟩)<|C dg hg).trans<|hY 1 _ (by decide) rfl;have y2:wr.cell? ⟨dg,j*8+2,Z⟩=U (V aq d2):=(ei (w:=E) (a:=⟨dg,j*8+2,Z⟩)<|C dg hg).trans<|hY 2 _ (by decide) rfl;have y3:wr.cell? ⟨dg,j*8+3,Z⟩=U (V aq d3):=(ei (w:=E) (a:=⟨dg,j*8+3,Z⟩)<|C dg hg).trans<|hY 3 _ (by decide) rfl;have y4:wr.cell? ⟨dg,j*8+4,Z⟩=U (V aq d4):=(ei (w:=E) (a:=⟨dg,j*8+4,Z⟩)<|C dg hg).trans<|hY 4 _ (by decide) rfl;have y5:wr.cell? ⟨dg,j*8+5,Z⟩=U (V aq d5):=(ei (w:=E) (a:=⟨dg,j*8+5,Z⟩)<|C dg hg).trans<|hY 5 _ (by decide) rfl;have y6:wr.cell? ⟨dg,j*8+6,Z⟩=U (V aq d6):=(ei (w:=E) (a:=⟨dg,j*8+6,Z⟩)<|C dg hg).trans<|hY 6 _ (by decide) rfl;have y7:wr.cell? ⟨dg,j*8+7,Z⟩=U (V aq d7):=(ei (w:=E) (a:=⟨dg,j*8+7,Z⟩)<|C dg hg).trans<|hY 7 _ (by decide) rfl;obtain⟨hs,BP⟩:=ex<|t<|dS J jE;obtain⟨e0,Z4⟩:∃z,z=hs/72057594037927936 % 256:=⟨_,rfl⟩;obtain⟨e1,ZV⟩:∃z,z=hs/281474976710656 % 256:=⟨_,rfl⟩;obtain⟨e2,ZU⟩:∃z,z=hs/1099511627776 % 256:=⟨_,rfl⟩;obtain⟨e3,ZT⟩:∃z,z=hs/4294967296 % 256:=⟨_,rfl⟩;obtain⟨e4,ZS⟩:∃z,z=hs/16777216 % 256:=⟨_,rfl⟩;obtain⟨e5,ZR⟩:∃z,z=hs/65536 % 256:=⟨_,rfl⟩;obtain⟨e6,ZQ⟩:∃z,z=hs/256 % 256:=⟨_,rfl⟩;obtain⟨e7,ZP⟩:∃z,z=hs % 256:=⟨_,rfl⟩;have hdv:iR hs=bJ #[V aq e0,V aq e1,V aq e2,V aq e3,V aq e4,V aq e5,V aq e6,V aq e7]:=by rw[Z4,ZV,ZU,ZT,ZS,ZR,ZQ,ZP];rfl
         obtain⟨eb,Gr⟩:=ex<|d0==e0&&(d1==e1&&(d2==e2&&(d3==e3&&(d4==e4&&(d5==e5&&(d6==e6&&d7==e7))))));have hO:=HH.e;have Aq:eb=cg (d=hs):=by rw[Gr,si,Ny,JX,JW,Nx,JV,Nw,Nv,Z4,ZV,ZU,ZT,ZS,ZR,ZQ,ZP];exact akg (by rw[hd];exact hO.rd _<|lV jh)<|by rw[BP];exact Tn _
         have hq:∀W,(sF 10000 76 (bJ #[V aq d0,V aq d1,V aq d2,V aq d3,V aq d4,V aq d5,V aq d6,V aq d7])<|bJ #[V aq e0,V aq e1,V aq e2,V aq e3,V aq e4,V aq e5,V aq e6,V aq e7]).run Q W=aY eb W:=λW=>by rw[aj5,<-Gr]
         have gT:kF J mN (mi.roots.take<|j+1)=zQ J (kF J mN<|mi.roots.take j) d:=by rw[xH,oS jh,By,as7,hd]
         have hle:=as5 J mN mi.roots<|j+1;rw[gT] at hle;have Gh:(zQ J (kF J mN<|mi.roots.take j) d).nodes.length<=124000:=bC hle.n (by have:=hO.out.nn;unfold tn at this;rw[<-HB.b,<-HCc.b] at this;exact this);have fo:=A.j _ wr hI;obtain⟨D',hG,hL⟩:=hI;obtain⟨wx,uS⟩:=ex<|wr.alloc<|aH #[V aq d0,V aq d1,V aq d2,V aq d3,V aq d4,V aq d5,V aq d6,V aq d7] 76;have ji:aW wr.heap.size wr wx:=by rw[uS];exact(eo _ _).alloc (aS _) _
         have nC:wr.heap[r]? =U (aH #[V aC id,cq<|U mb,cq<|U gb] 110 (0,0)):=(C r SM).trans A.c;have Eg:wx.heap[r]? =U (aH #[V aC id,cq<|U mb,cq<|U gb] 110 (0,0))∧wx.heap[wr.heap.size]? =U (aH #[V aq d0,V aq d1,V aq d2,V aq d3,V aq d4,V aq d5,V aq d6,V aq d7] 76 (0,0)):=⟨(ji.block r<|by omega).trans nC,by rw[uS];exact iF _ _⟩;have k1:∀W:ay,W.heap[r]? =U (aH #[V aC id,cq<|U mb,cq<|U gb] 110 (0,0))∧W.heap[wr.heap.size]? =U (aH #[V aq d0,V aq d1,V aq d2,V aq d3,V aq d4,V aq d5,V aq d6,V aq d7] 76 (0,0))->W.cell? ⟨r,1,Z⟩=U (cq<|U mb)∧W.cell? ⟨wr.heap.size,0,Z⟩=U (V aq d0)∧W.cell? ⟨wr.heap.size,1,Z⟩=U (V aq d1)∧W.cell? ⟨wr.heap.size,2,Z⟩=U (V aq d2)∧W.cell? ⟨wr.heap.size,3,Z⟩=U (V aq d3)∧W.cell? ⟨wr.heap.size,4,Z⟩=U (V aq d4)∧W.cell? ⟨wr.heap.size,5,Z⟩=U (V aq d5)∧W.cell? ⟨wr.heap.size,6,Z⟩=U (V aq d6)∧W.cell? ⟨wr.heap.size,7,Z⟩=U (V aq d7):=λW h=>⟨M h.1 1,M h.2 0,M h.2 1,M h.2 2,M h.2 3,M h.2 4,M h.2 5,M h.2 6,M h.2 7⟩;have l6:aW wr.heap.size wr wx.drew:=⟨ji.os,ji.tape,ji.output,ji.size,ji.block⟩;have uR:=l6.size;have GD:cI wx.drew mb J:=A.a.of_block<|(l6.block mb<|by omega).trans<|C mb SY;have J7:fQ wx.drew:=A.d.of_block ((l6.block 3<|by have:=A.e;omega).trans<|C 3<|by have:=A.e;omega);have HT:dD<|bz Q 51 #[cq<|U mb,aD ⟨#[]⟩] wx.drew λe w'=>e=bj (bJ #[V aq e0,V aq e1,V aq e2,V aq e3,V aq e4,V aq e5,V aq e6,V aq e7])∧aW wx.drew.heap.size wx.drew w':=by refine X ?_;rw[<-hdv,BP];exact aaY mb J jE wx.drew GD hO.len J7 hO.fit
         have nB:(j:Int)<(nd:Int):=by omega
         have hrs:r<wr.heap.size:=by omega
         have HI:=al8.mk hL l6 uS hG gT Aq BP GD J7 Gh;clear C wh hY hd si Ny JX JW Nx JV Nw Nv Z4 ZV ZU ZT ZS ZR ZQ ZP hdv Gr hO Aq BP gT hle hL hG nC GD J7 l6 uR ji Gh;go_wp2;rw[<-HI.c];clear uS y0 y1 y2 y3 y4 y5 y6 y7;refine xG ?_;refine CX (λW=>W.heap[r]? =U (aH #[V aC id,cq<|U mb,cq<|U gb] 110 (0,0))∧W.heap[wr.heap.size]? =U (aH #[V aq d0,V aq d1,V aq d2,V aq d3,V aq d4,V aq d5,V aq d6,V aq d7] 76 (0,0))) [0,1,2,3,4,5,6] (by kernel_rfl) Eg (λ_ _ _ _ _ h=>h) ?_;repeat((apply qH _ rfl (by kernel_rfl) rfl;·intro W hSw;obtain⟨q0,q1,q2,q3,q4,q5,q6,q7,q8⟩:=k1 W hSw;go_simp;try with_reducible rfl);simp only[yq])
         refine vE rfl (by kernel_rfl) λhHeld K hK=>?_;go_simp;go_at_call 51;refine jg HT.out ?_;rintro e w7 ⟨rfl,tN⟩;have sd:w7.heap[r]? =U (aH #[V aC id,cq<|U mb,cq<|U gb] 110 (0,0))∧w7.heap[wr.heap.size]? =U (aH #[V aq d0,V aq d1,V aq d2,V aq d3,V aq d4,V aq d5,V aq d6,V aq d7] 76 (0,0)):=⟨(tN.block r (je.1 hHeld.1).1).trans hHeld.1,(tN.block _ (je.1 hHeld.2).1).trans hHeld.2⟩;refine hK.out _ _ sd ?_;repeat((apply qH _ rfl (by kernel_rfl) rfl;·intro W hSw;have q0:=hq W;go_simp;try with_reducible rfl);simp only[yq])
         refine CY (by kernel_rfl) λhHeld=>?_;refine qN ?_;have H7:=cH.mk tN sd.1;clear tN sd hHeld k1 Eg hq HT;cases eb with
         |true=>
          go_wp2;go_roundg (gk-1);case rel=>obtain⟨hL,l6,-,hG,gT,Aq,BP,-,-,-⟩:=kp HI;have BX:aW wr.heap.size wr w7:=l6.trans ⟨H7.a.os,H7.a.tape,H7.a.output,H7.a.size,λb hb=>H7.a.block b<|by have:=l6.size;omega⟩;have DM:zQ J (kF J mN<|mi.roots.take j) d=kF J mN (mi.roots.take j):=dy (by rw[of_decide_eq_true Aq.symm,BP]);exact⟨j+1,by go_simp,by omega,D',by rw[gT,DM];exact hG.below BX,hL.trans<|bS.other<|aK.iD BX⟩
          case measure=>omega|false=>
          obtain⟨hL,l6,-,hG,gT,Aq,BP,GD,J7,Gh⟩:=HI;have SD:=l6.size;have BX:aW wr.heap.size wr w7:=l6.trans ⟨H7.a.os,H7.a.tape,H7.a.output,H7.a.size,λb hb=>H7.a.block b<|by omega⟩;have aGs:=BX.size;have uZ:=hG.below BX;obtain⟨zK,zJ,Lr,xo,CN,tO,Ep⟩:=uZ;have DM:zQ J (kF J mN<|mi.roots.take j) d={kF J mN<|mi.roots.take j with nodes:=(kF J mN<|mi.roots.take j).nodes++[Dq J jE]}:=if_neg (by rw[<-BP];exact of_decide_eq_false Aq.symm);rw[DM] at Gh;obtain⟨mj,JM⟩:=ex<|kF J mN<|mi.roots.take j;rw[<-JM] at tO DM Gh;obtain⟨nl,DT⟩:=ex mj.nodes.length;have aGX:nl+1<=124000:=by simp only[j7,yL] at Gh;omega
          have mE:=tO.nodes.row;rw[<-DT] at mE;obtain⟨Bp,Bo,Zd⟩:=gD mE;have Nc:=λb hb=>fN (b:=b) mE hb;have DN:=tO.rM;have aac:=tO.box;have hO:=HH.e;have NX:cI w7 mb J:=GD.of_block<|H7.a.block mb GD.lt;have hT7:fQ w7:=J7.below H7.a<|aS _;have B3:dD<|∀W,W.heap=w7.heap->bz Q 104 #[cq<|U mb,aD ⟨#[]⟩] W λe w'=>∃kv,e=bj (bJ #[aD ⟨#[]⟩,kv])∧w'.ownsRow W.heap.size 233 9 kv (qm J jE).length (fM gS<|qm J jE)∧aW W.heap.size W w':=X λW e=>afN mb J jE W hO.root.1 (NX.of_block<|by rw[e]) hO.len (hT7.of_block<|by rw[e]) hO.fit hO.root.2;rw[Zd] at aac;have hS7:w7.heap[r]? =U (aH #[V aC id,cq<|U mb,cq<|U gb] 110 (0,0))∧w7.heap[E.heap.size]? =U (aH #[zK,zJ,aE Bp nl Bo,xo] 180 (0,0)):=⟨H7.b,aac⟩;have k1:∀W:ay,W.heap[r]? =U (aH #[V aC id,cq<|U mb,cq<|U gb] 110 (0,0))∧W.heap[E.heap.size]? =U (aH #[zK,zJ,aE Bp nl Bo,xo] 180 (0,0))->W.cell? ⟨r,1,Z⟩=U (cq<|U mb)∧W.cell? ⟨E.heap.size,2,Z⟩=U (aE Bp nl Bo)∧W.frozen? ⟨E.heap.size,2,Z⟩=ai:=λW h=>⟨M h.1 1,M h.2 2,by simp[x8,h.2]⟩;have MX:E.heap.size<w7.heap.size:=tO.rL;have ayJ:r<w7.heap.size:=by omega
          have HQ:=al8.mk tO Ep DM DT mE Zd BX hL gT JM;clear hL l6 hG gT Aq BP GD J7 Gh tO Ep DM DT mE hO NX hT7 aac BX JM H7;go_wp2;refine xG ?_;refine wp_region_Z (S:=λW=>W.heap[r]? =U (aH #[V aC id,cq<|U mb,cq<|U gb] 110 (0,0))∧W.heap[E.heap.size]? =U (aH #[zK,zJ,aE Bp nl Bo,xo] 180 (0,0))) (z:=14) (by kernel_rfl) hS7 λhHeld=>?_;refine fU (i:=0) (v:=?vz0) rfl (by kernel_rfl) (by kernel_rfl) (by kernel_rfl) (by kernel_rfl) (λ_ _ _ h=>h) (ax ⟨by rfl,?axO⟩) hHeld ?aFv;(case axO=>(intro W hSw;go_simp;(try with_reducible rfl)));try simp only[cA,dO,dN,dX,dA,dz,dr]
          refine fU (i:=1) (v:=?vz1) rfl (by kernel_rfl) (by kernel_rfl) (by kernel_rfl) (by kernel_rfl) (λ_ _ _ h=>h) (ax ⟨by rfl,?axN⟩) hHeld ?aFu;(case axN=>(intro W hSw;go_simp;(try with_reducible rfl)));try simp only[cA,dO,dN,dX,dA,dz,dr]
          refine fU (i:=2) (v:=?vz2) rfl (by kernel_rfl) (by kernel_rfl) (by kernel_rfl) (by kernel_rfl) (λ_ _ _ h=>h) (ax ⟨by rfl,?axM⟩) hHeld ?aFp;(case axM=>(intro W hSw;go_simp;(try with_reducible rfl)));try simp only[cA,dO,dN,dX,dA,dz,dr]
          refine fU (i:=3) (v:=?vz3) rfl (by kernel_rfl) (by kernel_rfl) (by kernel_rfl) (by kernel_rfl) (λ_ _ _ h=>h) (ax ⟨by rfl,?axL⟩) hHeld ?aFo;(case axL=>(intro W hSw;go_simp;(try with_reducible rfl)));try simp only[cA,dO,dN,dX,dA,dz,dr]
          refine fU (i:=4) (v:=?vz4) rfl (by kernel_rfl) (by kernel_rfl) (by kernel_rfl) (by kernel_rfl) (λ_ _ _ h=>h) (ax ⟨by rfl,?axK⟩) hHeld ?aFn;(case axK=>(intro W hSw;obtain⟨q0,q1,q2⟩:=k1 W hSw;go_simp;(try with_reducible rfl)));try simp only[cA,dO,dN,dX,dA,dz,dr]
          refine fU (i:=5) (v:=?vz5) rfl (by kernel_rfl) (by kernel_rfl) (by kernel_rfl) (by kernel_rfl) (λ_ _ _ h=>h) (ax ⟨by rfl,?axJ⟩) hHeld ?aFm;(case axJ=>(intro W hSw;go_simp;(try with_reducible rfl)));try simp only[cA,dO,dN,dX,dA,dz,dr]
          refine fU (i:=6) (v:=?vz6) rfl (by kernel_rfl) (by kernel_rfl) (by kernel_rfl) (by kernel_rfl) (λ_ _ _ h=>h) (ax ⟨by rfl,?axI⟩) hHeld ?aFl;(case axI=>(intro W hSw;go_simp;(try with_reducible rfl)));try simp only[cA,dO,dN,dX,dA,dz,dr]
          refine fU (i:=7) (v:=?vz7) rfl (by kernel_rfl) (by kernel_rfl) (by kernel_rfl) (by kernel_rfl) (λ_ _ _ h=>h) (ax ⟨by rfl,?axH⟩) hHeld ?aFk;(case axH=>(intro W hSw;go_simp;(try with_reducible rfl)));try simp only[cA,dO,dN,dX,dA,dz,dr]
          refine fU (i:=8) (v:=?vz8) rfl (by kernel_rfl) (by kernel_rfl) (by kernel_rfl) (by kernel_rfl) (λ_ _ _ h=>h) (ax ⟨by rfl,?axG⟩) hHeld ?aFj;(case axG=>(intro W hSw;obtain⟨q0,q1,q2⟩:=k1 W hSw;go_simp;(try with_reducible rfl)));try simp only[cA,dO,dN,dX,dA,dz,dr]
          obtain⟨W0,BZ⟩:=ex w7.drew;rw[<-BZ] at hHeld⊢;have rE:=cH.mk BZ (show W0.heap=w7.heap by rw[BZ];rfl);clear BZ;refine CP (i:=9) (by kernel_rfl) rfl (by rfl) ?_;go_simp;go_at_call 104;refine jg (B3.out W0 rE.b) ?_;rintro e w8 ⟨kv,rfl,uW,qY⟩;have rZ:w8.heap[r]? =U (aH #[V aC id,cq<|U mb,cq<|U gb] 110 (0,0))∧w8.heap[E.heap.size]? =U (aH #[zK,zJ,aE Bp nl Bo,xo] 180 (0,0)):=⟨(qY.block r<|by rw[rE.b];exact ayJ).trans hHeld.1,(qY.block _<|by rw[rE.b];exact MX).trans hHeld.2⟩;obtain⟨yP,yO,Gk⟩:=gD uW;obtain⟨yD,Gl⟩:=ex (qm J jE).length;rw[<-Gl] at Gk;have H8:=gF.mk uW qY Gl;clear uW qY Gl;subst Gk;have ZI:r<w8.heap.size:=(je.1 rZ.1).1;have ZJ:E.heap.size<w8.heap.size:=(je.1 rZ.2).1;refine⟨by first|exact rZ|exact λ_=>rZ,?_⟩;try simp only[cA,dO,dN,dX,dA,dz,dr]
          refine CO (i:=10) (v:=aE (U ⟨w8.heap.size,0,Z⟩) 1 1) (w':=w8.alloc<|aH #[aD ⟨#[]⟩,aE yP yD yO] 184) (by kernel_rfl) rfl (by rfl) ?ax8 (λ_=>⟨(dm _ _ _ ZI).trans rZ.1,(dm _ _ _ ZJ).trans rZ.2⟩) ?aFt;(case ax8=>(go_simp));try simp only[cA,dO,dN,dX,dA,dz,dr]
          obtain⟨i0,hi,rY,jv,jW⟩:=Aa Y4;have Tl:aW w7.heap.size w7 w8:=by have h1:=H8.b;rw[rE.b] at h1;have h0:=rE.a;refine⟨h1.os.trans<|by rw[h0];rfl,h1.tape.trans<|by rw[h0];rfl,h1.output.trans<|by rw[h0];rfl,by have:=h1.size;rw[rE.b] at this;exact this,λb hb=>(h1.block b hb).trans<|by rw[rE.b]⟩
          have axD:=Tl.size;have ahS:(w8.alloc<|aH #[aD ⟨#[]⟩,aE yP yD yO] 184).ownsRow E.heap.size 184 2 (aE Bp nl Bo) nl CN:=by have mE:=HQ.e;rw[HQ.f] at mE;exact dx mE λb hb=>(dm _ _ _<|by have:=(mE.lt b hb).2;omega).trans<|Tl.block b (mE.lt b hb).2
          refine CP (i:=11) (by kernel_rfl) rfl (by rfl) ?_;refine afu _ _ 177 rfl E.heap.size 184 i0 (bJ #[aD ⟨#[]⟩,aE Z 0 0]) 2 40 Vy hi rY jv jW rfl (by decide) (aE Bp nl Bo) nl CN rfl ahS ⟨w8.heap.size,0,Z⟩ 1 1 [aD ⟨#[]⟩,aE yP yD yO] rfl rfl (Bn (by first|rfl|simp) _ _ rfl) (by simp[zh]) (by unfold vg;omega) (by omega) (by simp;omega) ?_;intro v9 w9 Zn Ap kg;have hl9:=RI Ap kg;have Zv:∀b,b=r∨b=E.heap.size->U b≠(aE Bp nl Bo).ownBlock:=λb hb e=>by
           have h1:eS w7 b 184:=Nc b (by rw[HQ.f];exact e.symm);rcases hb with rfl|rfl;·obtain⟨cur,h1⟩:=h1;rw[hS7.1] at h1;cases h1
           ·exact absurd (eS.one DN h1)<|by decide
          have JS:w9.heap[r]? =U (aH #[V aC id,cq<|U mb,cq<|U gb] 110 (0,0))∧w9.heap[E.heap.size]? =U (aH #[zK,zJ,aE Bp nl Bo,xo] 180 (0,0)):=⟨(Ap.block r (by simp;omega)<|Zv r<|ax rfl).trans<|(dm _ _ _ ZI).trans rZ.1,(Ap.block _ (by simp;omega)<|Zv _<|aA rfl).trans<|(dm _ _ _ ZJ).trans rZ.2⟩;obtain⟨-,u1,uf⟩:=k1 w9 JS;have BV:=HQ.a.alJ (W1:=w8.alloc<|aH #[aD ⟨#[]⟩,aE yP yD yO] 184) (n:=Dq J jE) (kv:=aE yP yD yO) (Tl.trans ⟨rfl,rfl,rfl,by simp,λb hb=>dm _ _ _<|by omega⟩) (by rw[HQ.f];exact hl9) (by have:=H8.a;rw[rE.b] at this;exact dx this λb hb=>dm _ _ _ (this.lt b hb).2) (by rw[<-HQ.d];exact Zn) (by omega);obtain⟨g9,aC9,BH⟩:=MD Zn;have HF:=X BV;clear Zn Ap kg hl9 BV ahS Tl hi rY jv jW B3 axD Zv;subst BH;refine⟨by first|exact JS|exact λ_=>JS,?_⟩;try simp only[cA,dO,dN,dX,dA,dz,dr]
          refine CO (i:=12) (v:=aG<|U ⟨E.heap.size,0,Z⟩) (w':=w9) (by kernel_rfl) rfl (by rfl) ?ax7 (λ_=>JS) ?aFs;(case ax7=>(go_simp));try simp only[cA,dO,dN,dX,dA,dz,dr]
          refine CO (i:=13) (v:=aG<|U ⟨E.heap.size,2,Z⟩) (w':=w9) (by kernel_rfl) rfl (by rfl) ?ax6 (λ_=>JS) ?aFr;(case ax6=>(go_simp));try simp only[cA,dO,dN,dX,dA,dz,dr]
          refine PM (i:=14) (w':=w9.setCell ⟨E.heap.size,2,Z⟩<|aE (U ⟨g9,0,Z⟩) (nl+1) aC9) (by kernel_rfl) rfl (by rfl) ?ax5 (λh=>Bool.noConfusion h) ?aFq;(case ax5=>(go_simp));try simp only[cA,dO,dN,dX,dA,dz,dr]
          refine PN (by kernel_rfl) ?_ _;refine qN ?_;clear hHeld rZ JS k1 u1 uf DN Nc hS7 ZI ZJ;go_wp2;go_roundg (gk-1);case rel=>obtain⟨tO,Ep,DM,DT,mE,Zd,BX,hL,gT,JM⟩:=HQ;have Ap:iK _ E.heap.size E.heap.size (kF J mN<|mi.roots.take<|j+1) _:=⟨_,_,_,_,_,by rw[gT,<-JM,DM];exact HF.out.1,rfl⟩;exact⟨j+1,by go_simp,by omega,_,Ap,hL.trans<|(bS.other<|aK.iD BX).trans<|by rw[Ep];exact HF.out.2⟩
          case measure=>omega
        ·have jw:nd=j:=by omega
         have wu:gk=0:=by omega
         subst wu;subst jw;obtain⟨wD,rfl⟩:=ex wr;rw[Je<|by have:=HV.h;omega] at hI;obtain⟨mo,ny⟩:=ex<|tn J mi;have e0:kF J mN mi.roots=mo:=by rw[ny,HCc.b,HB.b];rfl
         rw[e0] at hI;have C:=A.i _ wD hI;obtain⟨D',⟨zK,zJ,Lr,xo,CN,hM,-⟩,hL⟩:=hI;obtain⟨n0,xR⟩:=ex mo.bq.length;obtain⟨n1,wj⟩:=ex mo.cu.length;obtain⟨n2,uU⟩:=ex mo.nodes.length;have Gc:=hM.bq;have JI:=hM.cu;have BJ:=hM.nodes.row;rw[<-xR] at Gc;rw[<-wj] at JI;rw[<-uU] at BJ;obtain⟨a0,c0',hv0⟩:=gD Gc;obtain⟨a1,c1',tJ⟩:=gD JI;obtain⟨a2,c2',yU⟩:=gD BJ;have hO:=HH.e;have hl0:n0<=600000:=by rw[xR,ny];exact hO.out.nr
         have An:n1<=600000:=by rw[wj,ny];exact hO.out.nw
         have uV:n2<=124000:=by rw[uU,ny];exact hO.out.nn
         have aab:=hM.box;rw[hv0,tJ,yU] at aab;have GF:cI wD mb J:=A.a.of_block<|C mb SY;have Zc:=H1.b.size;have GA:=A.k;have Gz:aK (λb=>b=mb) w wD:=by have h2:w2=E.alloc (aH #[aE Z 0 0,aE Z 0 0,aE Z 0 0,aE Z 0 0] 180):=A.f;refine⟨hL.1.os.trans<|(by rw[h2];rfl:w2.os=E.os).trans<|GA.os.trans H1.b.os,hL.1.tape.trans<|(by rw[h2];rfl:w2.tape=E.tape).trans<|GA.tape.trans H1.b.tape,hL.1.output.trans<|(by rw[h2];rfl:w2.output=E.output).trans<|GA.output.trans H1.b.output,by have:=hL.1.size;have:=A.h;have:=GA.size;omega,λb hb hn=>?_⟩;exact(C b<|by have:=GA.size;omega).trans<|(GA.block b (by omega) hn).trans<|H1.b.block b hb
         have MU:w.heap.size<=wD.heap.size:=Gz.size;have Tz:jm wD 0 E.heap.size mo zK zJ Lr xo CN:=⟨hM.box,kI _,jr hM.bq<|kI _,jr hM.cu<|kI _,hM.nodes.base<|kI _,jr hM.roots<|kI _⟩;have hMd:jm wD.drew 0 E.heap.size mo zK zJ Lr xo CN:=Tz.same (λ_ _ _=>rfl)<|aS _;have HBy:=X (abo E.heap.size mo zK zJ Lr xo CN wD.drew hMd<|by rw[ny];exact hO.out);have k1:∀W:ay,W.heap[E.heap.size]? =U (aH #[aE a0 n0 c0',aE a1 n1 c1',aE a2 n2 c2',xo] 180 (0,0))->W.cell? ⟨E.heap.size,0,Z⟩=U (aE a0 n0 c0')∧W.cell? ⟨E.heap.size,1,Z⟩=U (aE a1 n1 c1')∧W.cell? ⟨E.heap.size,2,Z⟩=U (aE a2 n2 c2'):=λW h=>⟨M h 0,M h 1,M h 2⟩;have HZ:=E5.mk GF Gz ny xR wj uU MU;clear C hM hL Gc JI BJ hv0 tJ yU hO GF GA Gz Tz hMd ny e0 xR wj uU MU hj qW;go_wp2;refine xG ?_;refine CX (λW=>W.heap[E.heap.size]? =U (aH #[aE a0 n0 c0',aE a1 n1 c1',aE a2 n2 c2',xo] 180 (0,0))) [0,1,2,3,4,5,6,7,8,9,10,11,12,13,14,15,16,17] (by kernel_rfl) aab (λ_ _ _ _ _ h=>h) ?_;repeat((apply qH _ rfl (by kernel_rfl) rfl;·intro W hSw;obtain⟨q0,q1,q2⟩:=k1 W hSw;go_simp;try with_reducible rfl);simp only[yq])
         refine CY (by kernel_rfl) λhHeld=>?_;refine qN ?_;clear hHeld k1 aab;have hwa:aC.wrap ((n0:Int)+n1)=(n0:Int)+n1:=by rw[mB];omega
         have hwb:aC.wrap ((n0:Int)+n1+n2)=(n0:Int)+n1+n2:=by rw[mB];omega
         rw[hwa,hwb];clear hwa hwb;by_cases hz:n0+n1+n2=0
         ·have MT:((n0:Int)+n1+n2==0)=Y:=by simp;omega
          rw[MT];clear MT;go_wp2;go_ret;obtain⟨GF,Gz,ny,xR,wj,uU,MU⟩:=kp HZ;refine⟨GF.drew,Gz.trans<|aK.drew _ _,ax ⟨?_,rfl⟩⟩;rw[<-ny];have h0:mo.bq=[]:=BA (by omega);have h1:mo.cu=[]:=BA (by omega);have h2:mo.nodes=[]:=BA (by omega);simp[dZ.none,h0,h1,h2]
         ·have MT:((n0:Int)+n1+n2==0)=ai:=by simp;omega
          rw[MT];clear MT;go_wp2_with (go_at_call 105;go_must (refine HBy.out.mono ?_);rintro e w9 ⟨v9,rfl,Ar,NF⟩;have H9:=cH.mk Ar NF;clear Ar NF;refine Halt.of ?_);unfold Halt;go_wp2;go_ret;obtain⟨GF,Gz,ny,xR,wj,uU,MU⟩:=HZ;have ou:aK (λb=>b=mb) w w9:=(Gz.trans<|aK.drew _ _).trans<|aK.iD H9.b;refine⟨GF.drew.of_block<|H9.b.block mb GF.lt,ou,aA ⟨?_,v9,rfl,?_⟩⟩
          ·rw[<-ny];have lg:¬(mo.bq=[]∧mo.cu=[]∧mo.nodes=[]):=λh=>by obtain⟨h0,h1,h2⟩:=h;rw[h0] at xR;rw[h1] at wj;rw[h2] at uU;simp only[lG] at xR wj uU;omega
           simp only[dZ.none,Bool.and_eq_false_iff,List.isEmpty_eq_false_iff];by_cases h0:mo.bq=[]
           ·by_cases h1:mo.cu=[];·exact aA λh2=>lg ⟨h0,h1,h2⟩
            ·exact ax<|aA h1
           ·exact ax<|ax h0
          ·rw[<-ny];exact jr H9.a MU
def firstM(L:List O)(n:Int):dZ:=if n%8=0 then⟨dS L jE,[jE],[],[]⟩else⟨[],[],[],[t<|dS L jE]⟩
theorem P7:Q.underlying 108=U (.map 3 3):=by kernel_rfl
theorem Mo{t:Type}[DecidableEq t](k:t)(v:az):∀(l:List<|t×az),look (put l k v) k=U v
 |[]=>by simp[put,look]|(a,u)::l=>by
  unfold put;by_cases h:a=k;.rw[dy h];simp[look]
  .rw[if_neg h];show(if a=k then U u else look (put l k v) k)=U v;rw[if_neg h];exact Mo k v l
theorem aBi(W:ay)(h){b g d a i c e f}(j:iR h=bJ #[V aq b,V aq g,V aq d,V aq a,V aq i,V aq c,V aq e,V aq f]):jm ((W.alloc<|aH #[V aq b,V aq g,V aq d,V aq a,V aq i,V aq c,V aq e,V aq f] 76).alloc<|aH #[aE Z 0 0,aE Z 0 0,aE Z 0 0,aE W 1 1] 180) 0 (W+1) ⟨[],[],[],[h]⟩ (aE Z 0 0) (aE Z 0 0) (aE Z 0 0) (aE W 1 1) []:=by
 have k:((W.alloc<|aH #[V aq b,V aq g,V aq d,V aq a,V aq i,V aq c,V aq e,V aq f] 76).alloc<|aH #[aE Z 0 0,aE Z 0 0,aE Z 0 0,aE W 1 1] 180).heap[W.heap.size+1]?=U (aH #[aE Z 0 0,aE Z 0 0,aE Z 0 0,aE W 1 1] 180 (0,0)):=by grind[World.alloc_heap_new,World.size_alloc]
 refine⟨k,kI _,rQ _ _ _ _,rQ _ _ _ _,lD.nil _ _,⟨by simp[fM,j,Cf],aA ⟨W,1,_,rfl,kI _,(dm _ _ _<|by simp).trans<|iF _ _,aS _,by decide,rfl,?_⟩⟩⟩;simp[fM,j,Cf]
theorem aBh(W:ay)(B)(a:B<=W.heap.size):iK ((W.alloc<|aH #[aD ⟨#[]⟩] 9).alloc<|aH #[aE Z 0 0,aE W 1 1,aE Z 0 0,aE Z 0 0] 180) B (W+1) ⟨[],[jE],[],[]⟩<|yw (W+1) (aE Z 0 0) (aE W 1 1)<|aE Z 0 0:=by
 have b:((W.alloc<|aH #[aD ⟨#[]⟩] 9).alloc<|aH #[aE Z 0 0,aE W 1 1,aE Z 0 0,aE Z 0 0] 180).heap[W.heap.size+1]?=U (aH #[aE Z 0 0,aE W 1 1,aE Z 0 0,aE Z 0 0] 180 (0,0)):=by grind[World.alloc_heap_new,World.size_alloc]
 exact⟨_,_,_,aE Z 0 0,[],⟨b,by omega,rQ _ _ _ _,⟨rfl,aA ⟨W,1,_,rfl,a,(dm _ _ _<|by simp).trans<|iF _ _,aS _,by decide,rfl,rfl⟩⟩,lD.nil _ _,rQ _ _ _ _⟩,rfl⟩
theorem aBj(r n g)(id f d)(L)(bs)(w)(hR:fE w r id n g)(hB:cI w n L)(ht:fQ w)(hM:dn (qT aC) w g bs)(BL:(look bs f).getD (V aC 0)=V aC d)(xR:0<=d)(wj:d<4611686018427387904)(hL:L.length<=1073741824)(hF:∀x∈L,Fit x)(Nr:g≠n)(O:Hq<|firstM L<|d+1):bz Q 60 #[aG r,f] w λe w'=>∃v,e=bj v/\dF w w' v (gy<|firstM L<|d+1)/\dn (qT aC) w' g (put bs f<|V aC<|d+1)/\aK (λb=>b=g) w w':=by
 have o7:=hR.lt;have yW:=hB.lt;have sg:=hM.lt;have hrg:r≠g:=λe=>by obtain⟨en,ck,h,_⟩:=hM;grind[fE]
 have h3g:(3:Nat)≠g:=λe=>by obtain⟨en,clock,I,_⟩:=hM;rw[<-e]at I;unfold fQ zi World.var? at ht;grind[Fv]
 have r2:w.cell? ⟨r,2,Z⟩=U (cq g):=M hR 2;have fg:aC.wrap (d+1)=d+1:=by grind[IntKind.wrap_i64]
 have hww:iJ (d+1)=d+1:=by unfold iJ;omega
 have q:=E5.mk hR hB ht hM BL hF O;go_enter an0,ntmps60;go_wp2_with(first|(at_lookup;refine PL _ (qT aC) rfl _ _ 108 rfl 3 3 P7 Lt _ (P8 _) g bs f rfl q.d rfl ?_;rw[q.e])|(at_mapUpdate;refine PK _ (qT aC) rfl _ _ _ 108 rfl 3 3 P7 Lt g bs f (V aC<|d+1) rfl q.d rfl rfl ?_;intro w1 zc Eb DL;have y:=gF.mk zc Eb DL;refine Halt.of ?_));have P:fE w1 r id n g:=(y.b.block r o7 hrg).trans q.a;have Q3:=q.b.of_block<|y.b.block n yW λe=>Nr e.symm;have J:=q.c.keep y.b h3g;have r1:w1.cell? ⟨r,1,Z⟩=U (cq n):=M P 1;have HC:=X<|aaY n L jE w1 Q3 hL J q.f;obtain⟨m,T⟩:=ex<|t<|dS L jE;rw[<-T]at HC;have A:=CJ.mk P Q3 J y.c T;obtain⟨d0,N⟩:∃z,z=m/72057594037927936%256:=⟨_,rfl⟩;obtain⟨d1,QX⟩:∃z,z=m/281474976710656%256:=⟨_,rfl⟩;obtain⟨d2,W⟩:∃z,z=m/1099511627776%256:=⟨_,rfl⟩;obtain⟨d3,S⟩:∃z,z=m/4294967296%256:=⟨_,rfl⟩;obtain⟨d4,R⟩:∃z,z=m/16777216%256:=⟨_,rfl⟩;obtain⟨d5,QW⟩:∃z,z=m/65536%256:=⟨_,rfl⟩;obtain⟨d6,Q0⟩:∃z,z=m/256%256:=⟨_,rfl⟩;obtain⟨d7,K⟩:∃z,z=m%256:=⟨_,rfl⟩;have E:iR m=bJ #[V aq d0,V aq d1,V aq d2,V aq d3,V aq d4,V aq d5,V aq d6,V aq d7]:=by rw[N,QX,W,S,R,QW,Q0,K];rfl
 rw[E]at HC;have HD:=X E;clear N QX W S R QW Q0 K E;unfold Halt;go_wp2_with(go_at_call 51;go_must(refine HC.out.mono ?_);rintro e c⟨rfl,l7⟩;have a:=X l7;refine Halt.of ?_);have jW:=a.out.size;have Q2:=y.b.trans<|aK.iD a.out;have Ty:=y.a.of_block<|a.out.block g y.a.lt;have F:fE c r id n g:=(a.out.block r<|by have:=A.d;omega).trans A.a;have Kj:=A.b.of_block<|a.out.block n A.b.lt;have ahA:=A.d;have r2:c.cell? ⟨r,2,Z⟩=U (cq g):=M F 2;have r3:c.cell? ⟨r,1,Z⟩=U (cq n):=M F 1;have aGN:r<c:=by omega
 have s:=vB.mk Q2 Ty F Kj;have htm:(d+1).tmod 8=(d+1)%8:=by grind
 obtain⟨n8,SS⟩:=ex<|(d+1)%8;rw[<-SS]at htm;unfold Halt;by_cases hq:n8=0
 .have l:firstM L (d+1)=⟨dS L jE,[jE],[],[]⟩:=dy (by omega);obtain⟨o,Q1⟩:=ex<|(c.alloc<|aH #[V aq d0,V aq d1,V aq d2,V aq d3,V aq d4,V aq d5,V aq d6,V aq d7] 76).alloc<|aH #[aE Z 0 0,aE Z 0 0,aE Z 0 0,aE (U ⟨c.heap.size,0,Z⟩) 1 1] 180;have B:o.heap.size=c+1+1:=by rw[Q1];simp
  have As:aW c c o:=by rw[Q1];exact((eo _ _).alloc (aS _) _).alloc (by simp) _
  have hG:=aBh o o.heap.size<|aS _;obtain⟨H,u⟩:=ex<|(o.alloc<|aH #[aD ⟨#[]⟩] 9).alloc<|aH #[aE Z 0 0,aE (U ⟨o.heap.size,0,Z⟩) 1 1,aE Z 0 0,aE Z 0 0] 180;rw[<-u]at hG;have QY:aW c c H:=As.trans (by rw[u];exact((eo _ _).alloc (by omega) _).alloc (by simp;omega) _);have lZ:H.heap.size=o+1+1:=by rw[u];simp
  have ot:=q.g.nr;rw[l]at ot;have hT:=Qf o.heap.size (o.heap.size+1) n ⟨[],[jE],[],[]⟩ _ L jE H hG (s.d.of_block<|QY.block n s.d.lt) (by omega) hL (by grind);have ax2:H=(((c.alloc<|aH #[V aq d0,V aq d1,V aq d2,V aq d3,V aq d4,V aq d5,V aq d6,V aq d7] 76).alloc<|aH #[aE Z 0 0,aE Z 0 0,aE Z 0 0,aE c 1 1] 180).alloc<|aH #[aD ⟨#[]⟩] 9).alloc (aH #[aE Z 0 0,aE (U ⟨c+1+1,0,Z⟩) 1 1,aE Z 0 0,aE Z 0 0] 180):=by grind
  rw[B]at hT;have HT:=zB.mk hT ax2 QY lZ B l;have aGM:r<c+1:=by omega
  have aGL:r<c+1+1:=by omega
  have ayK:r<c+1+1+1:=by omega
  go_wp2_with(first|(at_lookup;refine PL _ (qT aC) rfl _ _ 108 rfl 3 3 P7 Lt _ (P8 _) g (put bs f<|V aC<|d+1) f rfl ((s.b.alloc _).alloc _) rfl ?_;rw[Mo];simp only[fV])|(go_at_call 102;rw[<-HT.b];go_must(refine HT.a.mono ?_);rintro e w7⟨rfl,D7,uZ,j⟩;have H7:=cH.mk uZ j;refine Halt.of ?_));unfold Halt;obtain⟨vr,vw,vn,vd,xs,p,Ep⟩:=H7.a;have Tz:jm w7 0 (c+1+1+1) (firstM L<|d+1) vr vw vn vd xs:=by rw[HT.f];exact⟨p.box,kI _,jr p.bq<|kI _,jr p.cu<|kI _,p.nodes.base<|kI _,jr p.roots<|kI _⟩
  have C:=X<|abo (c.heap.size+1+1+1) _ _ _ _ _ _ _ Tz q.g;go_wp2_with(go_at_call 105;go_must(refine C.out.mono ?_);rintro e w9⟨v9,rfl,G,D⟩;have H9:=X<|aM G D;refine Halt.of ?_);unfold Halt;go_wp2;go_ret;obtain⟨-,-,QY,lZ,B,l⟩:=HT;have j:=H7.b;have k:=H9.out;have hz7:=j.1.size;have Ng:∀b,b<c.heap.size->¬yw (c+1+1+1) (aE Z 0 0) (aE (U ⟨c+1+1,0,Z⟩) 1 1) (aE Z 0 0) b:=λb I hd=>by
   rcases hd with h|h|h|h;.omega
   .cases h
   .cases h;grind
   .cases h
  have i:=QY.trans<|(⟨j.1.os,j.1.tape,j.1.output,hz7,λb I=>j.1.block b (by omega)<|Ng b I⟩:aW c.heap.size H w7).trans ⟨k.2.os,k.2.tape,k.2.output,k.2.size,λb I=>k.2.block b<|by omega⟩;refine⟨v9,rfl,?_,s.b.of_block<|i.block g s.b.lt,s.a.trans<|aK.iD i⟩;exact jr k.1<|by grind
 .have l:firstM L (d+1)=⟨[],[],[],[t<|dS L jE]⟩:=if_neg (by omega);have C:=X (abo (c.heap.size+1) _ _ _ _ _ _ _ (aBi c m HD.out)<|by rw[A.e,<-l];exact q.g);go_wp2_with(first|(at_lookup;refine PL _ (qT aC) rfl _ _ 108 rfl 3 3 P7 Lt _ (P8 _) g (put bs f<|V aC<|d+1) f rfl ((s.b.alloc _).alloc _) rfl ?_;rw[Mo];simp only[fV])|(go_at_call 105;go_must(refine C.out.mono ?_);rintro e w9⟨v9,rfl,G,D⟩;have H9:=X<|aM G D;refine Halt.of ?_));unfold Halt;go_wp2;go_ret;have k:=H9.out;have i:aW c c w9:=by exact(((eo _ _).alloc (aS _) _).alloc (by simp) _).trans ⟨k.2.os,k.2.tape,k.2.output,k.2.size,λb I=>k.2.block b<|by simp;omega⟩
  refine⟨v9,rfl,?_,s.b.of_block<|i.block g s.b.lt,s.a.trans<|aK.iD i⟩;rw[(X l).out,<-A.e];exact jr k.1<|by simp;omega
end
section
variable{L l:List O}{p:ByteArray}
theorem WW(x:O):preB p x.key=below p x.name x.field:=by rw[BD,wW];unfold preB OC;exact List.isPrefixOf_iff_prefix
theorem A6(h:Bk L l)(p):dS L p=q l p:=by rw[h.below p];exact List.filter_congr λx _=>WW x
theorem X4(h:Bk L l){k}:k∈jS (qS L p)↔∃x∈l,x.key=k/\below p x.name x.field=Y:=by
 rw[(LG _).mem_iff];unfold qS;rw[Ac,mC];constructor;.rintro⟨⟨x,a,rfl⟩,c⟩;exact⟨x,h.perm.subset a,rfl,by grind[WW]⟩
 .rintro⟨x,a,rfl,b⟩;exact⟨⟨x,h.perm.symm.subset a,rfl⟩,by grind[WW]⟩
theorem XH{x:O}(e:below p x.name x.field=Y)(hs:p.size<x.key.size):below (push p<|tD p.size x.key) x.name x.field=Y:=by
 obtain⟨c,b⟩:=ali e hs;have:tD p.size x.key=c:=by
  rw[Rr hs];rw[wW,zq]at b;obtain⟨t,d⟩:=b;have f:(bl x.key)[p.size]?=c:=by show(bl<|iG x.name x.field)[p.size]?=U c;rw[<-d,jG,List.getElem?_append_right<|by rw[uy];grind,uy];simp
  have g:(bl x.key)[p.size]?=x.key[p.size]'hs:=by unfold bl;rw[oS<|by grind];rfl
  grind
 grind
theorem au1{x}(e:Good x)(c:0∉bl p)(b:below p x.name x.field=Y):p.size<x.key.size:=by refine oe λg=>c ?_;rw[wW]at b;have d:=b.length_le;rw[uy,uy]at d;have f:=b.eq_of_length (by rw[uy,uy];have:x.key.size=(iG x.name x.field).size:=rfl;omega);grind[AK]
theorem Jy(h:Bk L l)(g:p.size<=4096)(f:0∉bl p):yN L p:=by
 refine⟨g,λk d=>?_⟩;obtain⟨x,a,rfl,c⟩:=(X4 h).1 d;have b:=au1 (h.nE x a) f c;refine⟨b,?_⟩;rcases alm (h.nE x a) (XH c b)with e|e|e;.rw[e];decide
 .rw[e];decide
 .unfold letter at e;simp only[cV,fO,UInt8.le_iff_toNat_le]at e;grind
theorem Xr(c:UInt8):∀(l a:List UInt8),c∈my a l↔c∈a\/c∈l
 |[],a=>by simp[my]|d::l,a=>by
  unfold my;split;.rename_i b;rw[Xr c l a];grind
  .rw[Xr c l _];grind
theorem afw(h:Bk L l)(j:yN L p)(c):c∈kV L p↔c∈qc l p:=by
 unfold kV;rw[Xr,Mj];constructor
 .rintro(d|d);.cases d
  .obtain⟨k,b,rfl⟩:=mC.1 d;obtain⟨x,i,rfl,f⟩:=(X4 h).1 b;intro e;have:=nt.2 ⟨i,XH f (j.2 _ b).1⟩;grind
 .intro g;obtain⟨x,i⟩:=FW _ g;obtain⟨d,m⟩:=nt.1 i;right;have f:=zv m;have b:=(X4 (p:=p) h).2 ⟨x,d,rfl,f⟩;refine mC.2 ⟨x.key,b,?_⟩;exact alk (XH f (j.2 _ b).1) m
theorem acg:∀{a b:List UInt8},a.Pairwise (.<.)->b.Pairwise (.<.)->(∀c,c∈a↔c∈b)->a=b
 |[],[],_,_,_=>rfl|[],y::b,_,_,h=>absurd ((h y).2<|vP ..)<|by simp|x::a,[],_,_,h=>absurd ((h x).1<|vP ..)<|by simp|x::a,y::b,g,i,h=>by
  have d:=xI.1 g;have e:=xI.1 i;have f:x=y:=by grind[List.mem_cons_self,UInt8.lt_trans,UInt8.lt_irrefl]
  subst f;rw[acg d.2 e.2 λc=>?_];grind
theorem aEd:EU.Pairwise (.<.):=by unfold EU;rw[List.pairwise_map];grind[List.Pairwise.imp_of_mem,List.pairwise_lt_range,UInt8.lt_iff_toNat_lt,UInt8.toNat_ofNat']
theorem aqx{l}(h:l.Nodup):(kQ l).Pairwise (.<.):=by have e:(kQ l).Pairwise λx y=>cg (x<=y)=Y:=MJ λa b c e d=>by grind λa b=>by grind l;have d:(kQ l).Nodup:=(Jl l _).nodup_iff.2 h;refine List.Pairwise.imp₂ (λa b e d=>?_) e d;grind
theorem adm(h:Bk L l)(a:yN L p)(P):kQ ((kV L p).filter P)=(qc l p).filter P:=by refine acg (aqx<|(Mg _ _ List.nodup_nil).sublist agQ) ((aEd.filter _).filter _) λc=>?_;grind[ado,afw]
theorem awZ(h:Bk L l)(a:yN L p):qm L p=DG t l p:=by have b:=adm h a λ_=>Y;grind[List.filter_eq_self,qm,DG,List.map_congr_left,A6]
theorem afM(h:Bk L l)(a:yN L p):Dq L p=jd t l p:=by grind[Dq,jd,awZ]
section
variable {L l:List O} {m mi:dZ} {n:Nd}
theorem ae2{p}{c}(a:0∉bl p)(b:c≠0):0∉bl (push p c):=by grind[zq]
theorem cmp_eq(h:Bk L l)(o:n.pfx.size<=4000)(d:0∉bl n.pfx):oC L m n={m with bq:=m.bq++ya t l n,cu:=m.cu++vk t l n,nodes:=m.nodes++vl t l n}:=by
 have b:=Jy h (p:=n.pfx) (by omega) d;have a:∀c,c∈kV L n.pfx↔q l (push n.pfx c)≠[]:=λc=>by rw[afw h b,Mj]
 have e:cR L n.pfx=rU t l n.pfx:=funext λk=>by grind[cR,rU,A6]
 have f:cW L n.pfx=rT t l n.pfx:=funext λk=>by unfold cW rT;simp only[a,A6 h,Decidable.not_not]
 have g:cN L n.pfx=rV t l n.pfx:=funext λk=>by unfold cN rV;grind[A6,afM,Jy,size_push,ae2]
 have j:IF L n=De l n:=adm h b _;have i:(λc=>dS L<|push n.pfx c)=λc=>q l<|push n.pfx c:=funext λc=>A6 h _;unfold oC wK jT;grind[ya,vk,vl,List.append_assoc]
theorem afK(h:Bk L l):∀(a:List Nd)(m:dZ),(∀n∈a,n.pfx.size<=4000/\(0:UInt8)∉bl n.pfx)->mz L m a={m with bq:=m.bq++a.flatMap (ya t l),cu:=m.cu++a.flatMap (vk t l),nodes:=m.nodes++a.flatMap (vl t l)}|[],m,_=>by simp[mz]|n::a,m,b=>by have d:=b n<|vP ..;have e:=afK h a (oC L m n) λx c=>b x<|vO _ c;grind[mz,oC,cmp_eq,List.append_assoc]
theorem aj7:jE.size=0:=rfl
theorem aet(h:Bk L l):∀(ds:List Int)(m:dZ),kF L m ds={m with nodes:=m.nodes++ds.flatMap λd=>if d=t l then[]else[jd t l ⟨#[]⟩]}
 |[],m=>by simp[kF]|d::ds,m=>by
  have b:dS L jE=l:=by rw[A6 h];exact Ik l
  have a:yN L jE:=Jy h (by grind[aj7]) (by simp[jE,bl]);show kF L (zQ L m d) ds=_;rw[aet h ds];unfold zQ;rw[b];by_cases hd:d=t l;.grind
  .rw[if_neg hd,afM h a];grind[jE]
theorem auq(h:Bk L l)(b:mi.cu=mi.cu)(a:∀n∈mi.nodes,n.pfx.size<=4000/\0∉bl n.pfx):tn L mi=C t l mi:=by unfold tn;rw[aet h,afK h _ _ a];have e:=funext λp=>A6 h p;grind[qG,yA,C]
theorem acU:∀(R:List O){L l:List O},Bk L l->(∀x∈R,Good x)->Bk (R.foldl fD L) (R.foldl ins l)|[],_,_,h,_=>h|x::R,L,l,h,a=>acU R (h.take<|a x<|vP ..) λy b=>a y<|vO _ b
theorem ajR(h:Bk L l)(k):firstM L k=if k%8=0 then⟨l,[jF],[],[]⟩else⟨[],[],[],[t l]⟩:=by
 have a:dS L jE=l:=by rw[A6 h];exact Ik l
 unfold firstM;rw[a];rfl
end
section
variable {hs:List O->Int} {cl:Prop} {A B X G:List O} {m m':dZ} {P k ℓ:Nat}
theorem mU.azF(M:mU hs A B X G m ℓ):wt A B (aV X<|C hs (aV G m) m) (jY<|ℓ+1) (C hs (aV G m) m).bq (C hs (aV G m) m).cu (C hs (aV G m) m).nodes<=phi A B (aV G m) ℓ m:=by
 have b:(C hs (aV G m) m).cu=[]++m.nodes.flatMap (vk hs<|aV G m):=rfl;have d:(C hs (aV G m) m).nodes=[]++m.nodes.flatMap (vl hs<|aV G m):=by show _++m.roots.flatMap _=_;rw[M.roots];simp
 have e:(C hs (aV G m) m).bq=m.cu.flatMap (q<|aV G m)++m.nodes.flatMap (ya hs<|aV G m):=rfl;rw[b,d,e,PI,U8,PG,I7,Nat.mul_comm,<-C0];unfold phi;have f:=Ij (l:=m.nodes) (f:=λa=>wt A B (aV X<|C hs (aV G m) m) (jY<|ℓ+1) (ya hs (aV G m) a) (vk hs (aV G m) a)<|vl hs (aV G m) a) (g:=λa=>dC A B a.pfx*jY ℓ) λa c=>M.nd c;grind
theorem mU.am1(M:mU hs A B X G m ℓ):∀w∈(C hs (aV G m) m).cu,1<=(q (aV X<|C hs (aV G m) m) w).length:=λw i=>by
 obtain⟨g,l,b⟩:=rP.1 i;rw[M.node g l]at b;obtain⟨c,rfl,d,-⟩:=Rw.1 b;obtain⟨x,n⟩:=FW _ d;obtain⟨e,j⟩:=nt.1 n;have f:=M.step;have a:K (aV X<|C hs (aV G m) m) x.name x.field≠Z:=by
  rw[Ie f.bk.sX f.bk.sY f.bq];have s:=Pe e;split;.cases h:K X x.name x.field with|none=>grind|some y=>cases K (aV G m) x.name x.field<;>simp[ie]
  grind
 cases h:K (aV X<|C hs (aV G m) m) x.name x.field with|none=>grind|some y=>obtain⟨o,p,r⟩:=tX h;have:y∈q (aV X<|C hs (aV G m) m) (push g.pfx c):=nt.2 ⟨o,by grind⟩;grind
end
theorem Od{x}(h:Good x)(c:Fits x):Fit x:=by
 have i:=h.Mi;have g:=h.Oe;have e:=h.value;obtain⟨d,b⟩:=c;have a:∀z:Int,gL z<18446744073709551616->gu z:=λz f=>by grind[gL,gu]
 exact⟨by omega,by omega,by omega,a _ d,a _ b⟩
theorem Xu{x}(h:Good x):x.Ok:=⟨by have:=h.Mi;omega,by have:=h.Oe;omega⟩
theorem afI{t:Type}[DecidableEq t]:∀{a b:List t},a.Nodup->(∀x∈a,x∈b)->a.length<=b.length|[],_,_,_=>kI _|x::a,b,f,h=>by have c:=FZ.1 f;have g:=h x<|vP ..;have i:=afI (b:=b.erase x) c.2 λy d=>(List.mem_erase_of_ne λe=>c.1<|by grind).2<|h y<|vO _ d;grind
theorem ahs(x:O):∀l:List O,(ins l x).length<=l.length+1|[]=>aS _|y::l=>by have a:=ahs x l;grind[ins,List.length_cons]
theorem TS:∀(R l:List O),(R.foldl ins l).length<=l.length+R.length|[],l=>aS _|x::R,l=>by have:=TS R<|ins l x;grind[ahs,List.length_cons]
structure CL(m:dZ):Prop where
 nr:m.bq.length<=600000
 nw:m.cu.length<=600000
 nn:m.nodes.length<=124000
 nd:m.roots.length<=100000
theorem Rp{X}{p}(a:∀x∈X,Good x):(jd t X p).kids.length<=28:=by show((qc X p).map _).length<=28;grind[List.length_map,afT]
theorem auZ(X)(p):((jd t X p).kids.map (·.1)).Nodup:=by show(((qc X p).map _).map _).Nodup;rw[FX];grind[t,q,push,List.map_id,XF]
theorem auY(X)(p):∀k∈(jd t X p).kids,tZ k.2:=λk a=>by obtain⟨c,-,rfl⟩:=mC.1<|show k∈(qc X p).map _ from a;exact Tn _
section
variable {cl:Prop} {A B X F LY:List O} {m:dZ} {P k:Nat}
theorem gK.ok(T:gK t cl A B X F m P k)(a:CL m):abF m:=by
 refine⟨λx d=>Od (T.bk.gX x<|T.bq x d)<|T.fX x<|T.bq x d,?_,?_,a.nr,a.nw,a.nn,a.nd⟩
 .rcases T.yV with⟨-,-,rfl,-⟩|⟨c,M,e,-⟩;.grind
  .intro s f;rw[M.Lg s f];grind
 .rcases T.yV with⟨-,-,rfl,-⟩|⟨c,M,e,-⟩;.grind
  .intro n b;rw[M.size n b];have g:=M.deep<|Jh b;have h:n.kids.length<=28:=by rw[M.node n b];exact Rp M.bk.gX
   grind
theorem gK.IW(T:gK t cl A B X F m P k):∀n∈m.nodes,n=jd t X n.pfx/\n.pfx.size<=13/\0∉bl n.pfx:=by
 rcases T.yV with⟨-,-,rfl,-⟩|⟨b,M,c,-⟩;.grind
 .intro n a;exact⟨M.node n a,by rw[M.size n a];exact M.deep<|Jh a,M.nz n a⟩
theorem gK.tc(T:gK t cl A B X F m P k)(h:Bk LY F):Bk (m.bq.foldl fD LY)<|aV F m:=acU _ h λx a=>T.bk.gX x<|T.bq x a
theorem gK.out(T:gK t cl A B X F m P k)(h:Bk LY F):tn (m.bq.foldl fD LY) m=C t (aV F m) m:=auq (T.tc h) rfl λn b=>by have:=T.IW n b;grind
theorem gK.afo(T:gK t cl A B X F m P k)(u:P<=33000000):Hq<|C t (aV F m) m:=by
 rcases T.yV with⟨rfl,rfl,rfl,-⟩|⟨i,M,r,a,-⟩
 .have Q1:aV F ⟨[],[],[],[t X]⟩=F:=rfl;have o:(C t F ⟨[],[],[],[t X]⟩).nodes=[]\/(C t F ⟨[],[],[],[t X]⟩).nodes=[jd t F jF]:=by grind[C]
  rw[Q1];refine⟨λx g=>(by cases g),λs h=>(by cases h),λn c=>?_,by show 0<=_;omega,by show 0<=_;omega,?_,by show 0<=_;omega⟩
  .rcases o with e|e;.grind
   .rw[e,mA]at c;subst c;have:=Rp (X:=F) (p:=jF) T.bk.gY;have Q0:(jd t F jF).pfx.size=0:=rfl;grind
  grind
 .have b:=M.step;have j:=M.azF;have f:=M.am1;have l:phi A B (aV F m) i m<=33000000:=by omega
  have p:(C t (aV F m) m).cu.length<=((C t (aV F m) m).cu.map λw=>(q (aV X<|C t (aV F m) m) w).length).sum:=by generalize(C t (aV F m) m).cu=W at f;induction W with|nil=>simp|cons w W z=>grind
  have d:((C t (aV F m) m).cu.map λw=>56*(q (aV X<|C t (aV F m) m) w).length).sum=((C t (aV F m) m).cu.map λw=>(q (aV X<|C t (aV F m) m) w).length).sum*56:=by rw[<-C0];grind
  unfold wt at j;rw[d]at j;refine⟨λx g=>Od (b.bk.gX x<|b.bq x g)<|T.tk.2 x<|b.bq x g,λs h=>?_,λn c=>?_,by omega,by omega,by omega,by rw[b.roots];simp⟩;.rw[b.Lg s h];obtain⟨y,c,-⟩:=rP.1 h;have:=M.deep<|Jh c;omega
  .have E:=b.deep<|Jh c;have D:n.kids.length<=28:=by rw[b.node n c];exact Rp b.bk.gX
   have v:=b.size n c;grind
theorem Hq.cnt{m}(h:Hq m):CL m:=⟨h.nr,h.nw,h.nn,h.nd⟩
theorem gK.an(T:gK t cl A B X F m P k)(h:Bk LY F)(i:CL m)(o:P<=33000000)(q:F.length<=1000000000):U1 (m.bq.foldl fD LY) m:=by
 have f:=T.tc h;have l:∀d∈m.roots,tZ d:=by
  rcases T.yV with⟨-,-,rfl,-⟩|⟨g,M,-⟩;.grind[List.mem_singleton,Tn]
  .rw[M.roots];grind
 refine⟨?_,λx j=>?_,λn b=>?_,λn b=>?_,λn b=>?_,λn b c p=>?_,λn b=>?_,?_,l,?_⟩;.rw[f.perm.length_eq];have:=TS m.bq F;have:=i.nr;show(List.foldl ins F m.bq).length<=_;omega
 .have e:=f.perm.subset j;exact Od (f.nE x e)<|T.tk.2 x e
 .rw[(T.IW n b).1];grind[auZ]
 .rw[(T.IW n b).1];exact auY _ _
 .have:=T.IW n b;grind[Jy]
 .have:=T.IW n b;grind[Jy,size_push,ae2]
 .have:n.kids.length<=28:=by rw[(T.IW n b).1];exact Rp T.bk.gX
  omega
 .exact Jy f (by grind[aj7])<|by simp[jE,bl]
 .rw[T.out h];exact T.afo o
end
structure AQ where
 p:Nat
 id:Int
 mb:Nat
 gb:Nat
def AQ.At(R:AQ)(w:ay):Prop:=fE w R.p R.id R.mb R.gb
structure Pj(cl:Prop)(A B:List O)(P0:Nat)(c:Option Int)(A' B':List O)(j z:Nat):Prop where
 bk:sW A B A' B'
 fA:∀x∈A',Fits x
 fB:∀x∈B',Fits x
 cap:∀x,c=U x->0<=x->(j:Int)<=x
 zero:j=0↔c=U 0
 size:z<=P0
 whole:(c=Z\/∃x,c=U x/\(x<0\/(j:Int)<x))->cl->A'=gz A B/\B'=gz A B
 j16:j<=17
 jz:j<=z
structure AO(N:Nat)(R0 R1:AQ)(A B:List O)(cl:Prop)(P0:Nat)(c:Option Int)(w1:ay)(k j z:Nat)(v:az)(ok:Bool)(S R:AQ)(W:ay)(AS AR LX LY X C:List O):Prop where
 who:S=R0/\R=R1/\AS=A/\AR=B\/(S=R1/\R=R0/\AS=B/\AR=A)bX:cI W S.mb LX
 kX:Bk LX X
 bY:cI W R.mb LY
 kY:Bk LY C
 keep:aK (λb=>b=R0.mb\/b=R1.mb) w1 W
 cap:∀x,c=U x->0<=x->(j:Int)<=x
 lX:X.length<=10000000+600000*j
 lY:C.length<=10000000+600000*j
 MR:j<=17
 zP:z<=P0
 st:(ok=Y/\∃m P k',k=k'+1/\j+k'<=16/\z+P<=P0/\gK t cl AS AR X C m P k'/\CL m/\dF N W v (gy m))\/ok=ai/\k=0/\1<=j/\sW AS AR X C/\(∀x∈X,Fits x)/\(∀x∈C,Fits x)/\(cl->X=gz AS AR/\C=gz AS AR)jz:j<=z
theorem FP(m):1<=(gy m).length:=by grind[gy,da,List.length_append,auO]
section
variable {N:Nat} {R0 R1 S R:AQ} {A B AS AR LX LY X Q1:List O} {cl:Prop} {P0 k j z:Nat} {c:Option Int} {w1 W W':ay} {v v':az} {ok:Bool} {m:dZ} {P k':Nat}
theorem gK.mono{hs}{cl cl'}{A B X Q1}{m}{P k}(T:gK hs cl A B X Q1 m P k)(h:cl'->cl):gK hs cl' A B X Q1 m P k:=⟨T.bk,T.fX,T.fY,T.yV.imp (λ⟨a,b,c,d,e,f⟩=>⟨a,b,c,d,e,λx=>f<|h x⟩) λ⟨g,M,a,b,c,f⟩=>⟨g,M,a,b,c,λx=>f<|h x⟩⟩
theorem sW.swap{A B X Q1}(h:sW A B X Q1):sW B A Q1 X:=⟨h.sB,h.sA,h.sY,h.sX,h.gY,h.gX,h.bY,h.bX⟩
theorem AO.next(I:AO N R0 R1 A B cl P0 c w1 k j z v Y S R W AS AR LX LY X Q1)(H:R0.mb≠R1.mb)(hP:P0<=33000000)(f:∀x,c=U x->0<=x->j<x)(O:N<=W)(T:gK t cl AS AR X Q1 m P k')(E:CL m)(hk:k=k'+1)(Q0:j+k'<=16)(Q2:z+P<=P0)(u:cI W' R.mb<|m.bq.foldl fD LY)(y:aK (λb=>b=R.mb) W W')(w:(tn (m.bq.foldl fD LY) m).none=Y/\ok=ai\/(tn (m.bq.foldl fD LY) m).none=ai/\ok=Y/\dF W W' v' (gy<|tn (m.bq.foldl fD LY) m)):∃n,n<k/\AO N R0 R1 A B cl P0 c w1 n (j+1) (z+(gy m).length) v' ok R S W' AR AS (m.bq.foldl fD LY) LX (aV Q1 m) X:=by
 have i:R=R0/\S=R1/\AR=A/\AS=B\/R=R1/\S=R0/\AR=B/\AS=A:=by rcases I.who with⟨a,b,c,d⟩|⟨a,b,c,d⟩;all_goals grind
 have s:S.mb≠R.mb:=by grind
 rw[T.out I.kY]at w;have K:=T.size;have M:=FP m;have p:(aV Q1 m).length<=10000000+600000*(j+1):=by have:=TS m.bq Q1;have:=E.nr;have:=I.lY;show(List.foldl ins Q1 m.bq).length<=_;omega
 have l:X.length<=10000000+600000*(j+1):=by have:=I.lX;omega
 have h:∀x,c=U x->0<=x->((j+1:Nat):Int)<=x:=λx Q3 r=>by grind
 have g:=I.keep.trans (y.mono λb _ e=>by grind);have o:=I.bX.of_block<|y.block S.mb I.bX.lt s;have q:=T.tk;rcases w with⟨Q3,r⟩|⟨Q3,r,L⟩;.refine⟨0,by omega,i,u,T.tc I.kY,o,I.kX,g,h,p,l,by omega,by omega,aA ⟨r,rfl,by omega,q.1,q.2,T.fX,λQW=>?_⟩,by have:=I.jz;omega⟩;obtain⟨D,Q⟩:=T.last (by unfold Hh;grind) QW;rw[D,F3 T.bk.sB T.bk.sA];grind
 .have F:Hh t Q1 m=C t (aV Q1 m) m:=by unfold Hh;grind
  obtain⟨G,n,g1,g2,J⟩:=T.next F;refine⟨n+1,by omega,i,u,T.tc I.kY,o,I.kX,g,h,p,l,by omega,by omega,ax ⟨r,_,G,n,rfl,by omega,by omega,J,(T.afo<|by omega).cnt,jr L O⟩,by have:=I.jz;omega⟩
theorem AO.over(I:AO N R0 R1 A B cl P0 c w1 k j z v ok S R W AS AR LX LY X Q1)(s:ok=ai\/∃x,c=U x/\0<=x/\x<=j):∃n f i q,cI W R0.mb n/\Bk n i/\cI W R1.mb f/\Bk f q/\Pj cl A B P0 c i q j z:=by
 have e:sW AS AR X Q1/\(∀x∈X,Fits x)/\(∀x∈Q1,Fits x)/\(j=0↔c=U 0)/\((c=Z\/∃x,c=U x/\(x<0\/(j:Int)<x))->cl->X=gz AS AR/\Q1=gz AS AR):=by
  have t:c=U 0->j=0:=λh=>by have:=I.cap 0 h (by omega);omega
  rcases I.st with⟨d,m,P,k',-,-,-,T,-⟩|⟨d,-,H,G,F,D,E⟩;.subst d;obtain⟨x,w,r,u⟩:=s.resolve_left (by simp);refine⟨T.bk,T.fX,T.fY,⟨λh=>?_,t⟩,λC=>?_⟩;all_goals grind
  grind
 obtain⟨b,o,l,g,p⟩:=e;rcases I.who with⟨rfl,rfl,rfl,rfl⟩|⟨rfl,rfl,rfl,rfl⟩;.exact⟨LX,LY,X,Q1,I.bX,I.kX,I.bY,I.kY,b,o,l,I.cap,g,I.zP,p,I.MR,I.jz⟩
 .refine⟨LY,LX,Q1,X,I.bY,I.kY,I.bX,I.kX,b.swap,l,o,I.cap,g,I.zP,λd y=>?_,I.MR,I.jz⟩;have:=p d y;rw[F3 b.sA b.sB]at this;grind
def sH(A B:List O)(n:Int):Nat:=if n%8=0 then 80+56*A.length+56*(A.length+B.length)else 76+3880*dC A B jF
theorem aCu(A B)(p):dC A B p<=A.length+B.length:=by unfold dC;refine bC (Bz _ _) ?_;unfold q;refine bC (Bz _ _) ?_;exact TS B A
theorem aC8{A B}(d:A.length<=4096)(b:B.length<=4096)(n):sH A B n<=33000000:=by unfold sH;have:=aCu A B jF;grind
theorem aCp(A)(p):dC A A p=0:=by grind[dC,List.length_eq_zero_iff,List.filter_eq_nil_iff,differ]
theorem AO.start{n}(g:Bk LX A)(i:Bk LY B)(s:∀x∈A,Fits x)(C:∀x∈B,Fits x)(D:A.length<=4096)(F:B.length<=4096)(u:cI W R0.mb LX)(w:cI W R1.mb LY)(p:dF N W v<|gy<|firstM LX n):AO N R0 R1 A B (n%8=0\/Clear t A B) (sH A B n) c W 17 0 0 v Y R0 R1 W A B LX LY A B:=by
 have l:∀x∈A,Good x/\Fits x:=λx h=>⟨g.nE x h,s x h⟩;have o:∀x∈B,Good x/\Fits x:=λx h=>⟨i.nE x h,C x h⟩;have y:∃P,P<=sH A B n/\gK t (n%8=0\/Clear t A B) A B A B (firstM LX n) P 16/\CL (firstM LX n):=by
  rw[ajR g];unfold sH;by_cases h:n%8=0;.rw[dy h,dy h];obtain⟨P,k,T,rfl,rfl⟩:=gK.asD (hs:=t) g.sorted i.sorted l o;refine⟨_,aS _,⟨T.bk,T.fX,T.fY,?_⟩,⟨by grind,by simp,by simp,by simp⟩⟩;rcases T.yV with⟨-,-,e,-⟩|⟨q,M,a,b,d,f⟩;all_goals grind
  .rw[if_neg h,if_neg h];exact⟨_,aS _,(gK.root g.sorted i.sorted l o).mono λQ0=>Q0.resolve_left h,⟨by simp,by simp,by simp,by simp⟩⟩
 obtain⟨P,E,T,r⟩:=y;exact⟨ax ⟨rfl,rfl,rfl,rfl⟩,u,g,w,i,aK.refl _ _,λx _ h=>h,by omega,by omega,by omega,kI _,ax ⟨rfl,_,P,16,rfl,by omega,by omega,T,r,p⟩,aS _⟩
end
end
end Go.Proofs.YtpdbmpbmepkikaaGreatDoor
