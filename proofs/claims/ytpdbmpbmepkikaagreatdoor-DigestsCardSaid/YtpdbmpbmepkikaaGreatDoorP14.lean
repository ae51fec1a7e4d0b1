/- Laws. -/
import Derived.Test.YtpdbmpbmepkikaaGreatDoorP13
set_option maxRecDepth 100000
set_option maxHeartbeats 400000
set_option linter.all false
open Go.Proofs.Tryz
open And renaming intro->bP
open Bool renaming true->Z,false->ai
open Decidable renaming decide->cq
open Go renaming World->av,Value->ay,Calls->bE,maxLen->uZ
open Go.Act renaming put->dj
open Go.Ending renaming returned->bj
open Go.IntKind renaming i64->aH,u8->aq
open Go.Lib renaming hasPrefix->LN,TabIs->x6
open Go.Obj renaming cells->aF
open Go.Op renaming equalIn->rf
open Go.Result renaming ok->aV
open Go.RowKit renaming Below->bC,Hid->dR,wrap64->om
open Go.Value renaming cells->AV,int->Y,slice->aD,pointer->aE,string->aG,agg->bN,tuple->bO,map->cj,oneCell'->za
open Go.World renaming frozen?->wI
open Option renaming some->U,none->V
open Or renaming inr->aA,inl->ax
namespace Go.Proofs.YtpdbmpbmepkikaaGreatDoor
def J5:=@List.take_zero
def as5:=@List.take_append_drop
def J1:=@Go.ownsRow_succ
def Gx:=@List.take_of_length_le
def ac7:=@List.filter_sublist
section
open Go.RowKit
structure aiE(L:List s)(m:dP)(n:Nd):Prop where
 len:L.length<=1073741824
 fit:∀x∈L,Fit x
 nodup:(n.kids.map (·.1)).Nodup
 u64:∀k∈n.kids,sO k.2
 key:xJ L n.pfx
 deep:∀c:UInt8,c≠0->xJ L (push n.pfx c)
 nk:n.kids.length<=100000
 nr:(nH L m n).bh.length<=1000000000
 nw:(nH L m n).cp.length<=1000000000
 nn:(nH L m n).nodes.length<=1000000000
theorem asq(L)(p)(a)(c):∃(e h k j i g d f:Int) (b:Bool),(look (uY ((kA L p).map (vT L p)) a) c).getD (bN #[Y aq 0,Y aq 0,Y aq 0,Y aq 0,Y aq 0,Y aq 0,Y aq 0,Y aq 0])=bN #[Y aq e,Y aq h,Y aq k,Y aq j,Y aq i,Y aq g,Y aq d,Y aq f]∧
  (look (uY ((kA L p).map (vT L p)) a) c).isSome=b∧b=cq (c∉a∧c∈kA L p)∧(b=Z->bN #[Y aq e,Y aq h,Y aq k,Y aq j,Y aq i,Y aq g,Y aq d,Y aq f]=gV (y (dX L (push p c)))):=by
 rw[acE,JN];by_cases h1:c∈a
 ·rw[dn h1];exact⟨0,0,0,0,0,0,0,0,ai,rfl,rfl,by simp[h1],by simp⟩
 ·rw[if_neg h1];by_cases h2:c∈kA L p
  ·rw[dn h2];exact⟨_,_,_,_,_,_,_,_,Z,rfl,rfl,by grind,λ_=>rfl⟩
  ·rw[if_neg h2];exact⟨0,0,0,0,0,0,0,0,ai,rfl,rfl,by simp[h2],by simp⟩
set_option maxHeartbeats 4000000 in
theorem azh (B p S) (m) (D) (L) (n) (kv) (w) (h:iD w B p m D) (hB:cJ w S L) (Hu:B<=w) (h4:4<=B) (ht:ga w) (sk:w.ownsRow 0 233 9 kv n.kids.length (fG gL n.kids)) (hO:aiE L m n):
  bE Q 103 #[aE (p),cj (S),bN #[n.pfx,kv]] w λe w'=>e=bj (bO #[])∧∃D',iD w' B p (nH L m n) D'∧bT D w D' w':=by
 obtain⟨tN,sj,rfl⟩:=gu sk;obtain⟨pfx,vY⟩:=ex n.pfx;obtain⟨kl,xR⟩:=ex n.kids.length;have yS:=hB.lt;have pY:=h.lt;obtain⟨w0,O2⟩:=ex (w.alloc (aF #[aG pfx,aD tN kl sj] 184));have EM:bC w w w0:=by rw[O2];exact(ei _ _).alloc (aW _) _
 have qN:w0.heap.size=w+1:=by rw[O2];simp
 have Cd:w0.heap[w.heap.size]? =U (aF #[pfx,aD tN kl sj] 184 (0,0)):=by grind[World.alloc_heap_new]
 have HC:=X (adC S L pfx w0 (by rw[vY];exact hO.key.1) (hB.of_block (EM.block S yS)) hO.len (ht.below EM (aW _)) hO.fit (by rw[vY];exact hO.key.2))
 have HH:=zw.mk h hB ht sk hO pY;have HW:=sV.mk O2 EM qN Cd;have HP:=cI.mk vY xR;have aFa:kl<=100000:=by rw[xR];exact hO.nk
 rw[<-vY,<-xR];clear h hB ht sk hO O2 EM qN Cd vY xR pY;have k0:w0.cell? ⟨w.heap.size,0,V⟩=U (aG pfx):=K HW.d 0;go_enter alg,ntmps103;go_wp2_with (go_at_call 159;rw[<-HW.a];go_must (refine HC.out.mono ?_);rintro e w1 ⟨m2,rfl,KM,KL,wj⟩;have H1:=gD.mk KM KL wj;clear KM KL wj;refine Halt.of ?_)
 unfold Halt;clear HC k0;obtain⟨es,xS⟩:=ex ((kA L pfx).map (vT L pfx));have xZ:di kO w1 m2 es:=by rw[xS];exact H1.a
 have u:bC w.heap.size w w1:=HW.b.trans ⟨H1.c.os,H1.c.tape,H1.c.output,H1.c.size,λb hb=>H1.c.block b (by have:=HW.c;omega)⟩
 have nZ:w1.heap[w.heap.size]? =U (aF #[aG pfx,aD tN kl sj] 184 (0,0)):=(H1.c.block _ (by have:=HW.c;omega)).trans HW.d
 have aex:w<m2:=by have:=H1.b;have:=HW.c;omega
 have Cy:My B p m2 m D L n es w1 0 D w1:=⟨by rw[J5,acr];exact HH.a.below u,xZ,O.refl _ _,λb hb=>ax hb⟩
 have q0:w1.cell? ⟨w.heap.size,0,V⟩=U (aG pfx):=K nZ 0;have q1:w1.cell? ⟨w,1,V⟩=U (aD tN kl sj):=K nZ 1;have HX:=zw.mk Cy u nZ aex xS xZ;clear Cy u nZ xS xZ H1 HW;go_wp2;go_loopg [21] kl (λk s21 wr=>∃(j:Nat) (D':Nat->Prop),s21=Y aH j∧k+j=kl∧My B p m2 m D L n es w1 j D' wr)
 case atStart=>exact⟨0,D,rfl,by omega,HX.a⟩
 case round=>
  obtain⟨j,D',rfl,hk,T⟩:=hrel;by_cases hj:j<kl
  ·have xR:=HP.b;have vY:=HP.a;obtain⟨hG,hB,ht,sk,hO,pY⟩:=kp HH;obtain⟨-,u,nZ,-,xS,xZ⟩:=kp HX;have iU:j<n.kids.length:=by omega
   have hm1:=xZ.lt;have AJ:=(dc.1 nZ).1;have v:=(T.keep.block _ AJ (by rintro(h|h);exact absurd (pY _ h).2 (by omega);omega)).trans nZ
   have b0:wr.cell? w=U (aG pfx):=K v 0;have uO:oz 233 9 gL w (aD tN kl sj) n.kids:=by rw[xR];exact sk
   obtain⟨g,A4,hv,hg,hY0⟩:=uO.cell adE iU;simp only[vG] at hv;obtain⟨rfl,-,rfl⟩:=hv;have hgD:¬D g:=λhd=>by obtain⟨vr,vw,vn,vd,xs,hM,rfl⟩:=hG;have h1:=fH sk (show(aD (U ⟨g,0,V⟩) n.kids.length sj).ownBlock=U g from rfl);rcases hM.del g hd with h|h|h|h<;>exact absurd (eJ.one h1 h) (by decide)
   have hgb:=(T.keep.block g (by have:=u.size;omega) (by rintro(h|h);exact hgD h;omega)).trans (u.block g hg)
   have HY:=λi x h1 h2=>(eD (w:=w) (a:=⟨g,j*9+i,V⟩) hgb).trans (hY0 i x h1 h2);obtain⟨c,hc⟩:=ex (n.kids[j].1);obtain⟨h,hh⟩:=ex (n.kids[j].2);have pW:n.kids[j]=(c,h):=by rw[hc,hh]
   rw[pW,adD] at HY;obtain⟨d0,e0⟩:∃d,d=h/72057594037927936 % 256:=⟨_,rfl⟩;obtain⟨d1,e1⟩:∃d,d=h/281474976710656 % 256:=⟨_,rfl⟩;obtain⟨d2,e2⟩:∃d,d=h/1099511627776 % 256:=⟨_,rfl⟩;obtain⟨d3,e3⟩:∃d,d=h/4294967296 % 256:=⟨_,rfl⟩;obtain⟨d4,e4⟩:∃d,d=h/16777216 % 256:=⟨_,rfl⟩;obtain⟨d5,e5⟩:∃d,d=h/65536 % 256:=⟨_,rfl⟩;obtain⟨d6,e6⟩:∃d,d=h/256 % 256:=⟨_,rfl⟩;obtain⟨d7,e7⟩:∃d,d=h % 256:=⟨_,rfl⟩;rw[<-e0,<-e1,<-e2,<-e3,<-e4,<-e5,<-e6,<-e7] at HY;have aeM:bN #[Y aq d0,Y aq d1,Y aq d2,Y aq d3,Y aq d4,Y aq d5,Y aq d6,Y aq d7]=gV h:=by rw[e0,e1,e2,e3,e4,e5,e6,e7];rfl
   clear e0 e1 e2 e3 e4 e5 e6 e7 hY0;have y0:wr.cell? ⟨g,j*9,V⟩=U (Y aq (c.toNat:Int)):=HY 0 _ (by decide) rfl
   have y1:wr.cell? ⟨g,j*9+1,V⟩=U (Y aq d0):=HY 1 _ (by decide) rfl
   have y2:wr.cell? ⟨g,j*9+2,V⟩=U (Y aq d1):=HY 2 _ (by decide) rfl
   have y3:wr.cell? ⟨g,j*9+3,V⟩=U (Y aq d2):=HY 3 _ (by decide) rfl
   have y4:wr.cell? ⟨g,j*9+4,V⟩=U (Y aq d3):=HY 4 _ (by decide) rfl
   have y5:wr.cell? ⟨g,j*9+5,V⟩=U (Y aq d4):=HY 5 _ (by decide) rfl
   have y6:wr.cell? ⟨g,j*9+6,V⟩=U (Y aq d5):=HY 6 _ (by decide) rfl
   have y7:wr.cell? ⟨g,j*9+7,V⟩=U (Y aq d6):=HY 7 _ (by decide) rfl
   have y8:wr.cell? ⟨g,j*9+8,V⟩=U (Y aq d7):=HY 8 _ (by decide) rfl
   obtain⟨z0,z1,z2,z3,z4,z5,z6,z7,tb,VL,VK,Vs,hz⟩:=asq L pfx ((n.kids.take j).map (·.1)) c;obtain⟨em,z⟩:=ex (uY es ((n.kids.take j).map (·.1)));rw[<-xS,<-z] at VL VK;have HM:dR (di kO wr m2 em):=X (by rw[z];exact T.map)
   have Co:c∉(n.kids.take j).map (·.1):=λhm=>by have jX:=hO.nodup;rw[<-as5 j n.kids,as8 iU,uI,fS,GD] at jX;exact jX.2.2 _ hm _ (uF ..) hc
   have EA:pfx.size<=4096:=by rw[vY];exact hO.key.1
   have uR:(j:Int)<(kl:Int):=by omega
   have hNw:=cF AJ T.keep.size;have hNn:¬w.heap.size=wr.heap.size:=by omega
   have hcv:=ag8 c (wr.alloc (aF #[Y aq (c.toNat:Int),Y aq d0,Y aq d1,Y aq d2,Y aq d3,Y aq d4,Y aq d5,Y aq d6,Y aq d7] 233));simp only[uL] at hcv;have HI:=Hq9.mk T pW z Vs hz aeM Co VL VK;clear xR vY hG hB ht sk hO pY u nZ xS xZ v uO hgD hgb HY hc hh pW z Vs hz aeM Co T VL VK;go_wp2_with (first
    |(at_lookup;refine FE _ kO rfl _ _ 245 rfl 5 76 Dt wT _ (MC _) m2 em c rfl (((HM.out.alloc _).alloc _)) rfl ?_;rw[HI.h,HI.i])
    |(refine aiX _ kO rfl _ _ 245 5 rfl 5 76 Dt wT m2 em c rfl ((((HM.out.alloc _).alloc _)).alloc _) rfl ?_;intro r uT F Ew;have H6:=gD.mk uT F Ew;clear uT F Ew;refine Halt.of ?_))
   obtain⟨wx,v,F,I,vW,Ko⟩:=aA5 H6.b HM.out.lt;have uT:=H6.a;have P:=(HI.a.Lm.below v).amr (HM.out.of_block (v.block _ HM.out.lt)) F;clear H6 hcv y0 y1 y2 y3 y4 y5 y6 y7 y8 b0;have fP:=Ue L m n j;obtain⟨mj,H⟩:=ex (jx L m n.pfx (n.kids.take j));rw[<-H] at P fP;have hO:=HH.e;have nA:=hO.nr;have G0:=hO.nw;have G5:=hO.nn;obtain⟨vr,vw,vn,vd,xs,uS,R⟩:=P;obtain⟨wl,Ku⟩:=ex mj.cp.length;have aEu:wl<=1000000000:=by omega
   have uO:=uS.cp;rw[<-Ku] at uO;obtain⟨Br,Bq,Kv⟩:=gu uO;have KD:=uS.box;have KB:=uS.qu;have hz6:wr.heap.size+3<=r:=by have:=F.size;omega
   have E:=air.mk uS R v F uT I vW H Ku uO hz6;clear uS R v F uT I vW H Ku uO hz6 fP hO nA G0 G5 Ko;subst Kv;unfold Halt;cases tb with
   |false=>
    have p1:r.cell? ⟨p,1,V⟩=U (aD Br wl Bq):=K KD 1;obtain⟨i0,hi,qN,jK,lC⟩:=yJ Eu;go_wp2_with (at_builtin;go_must (refine app1 (v:=aD Br wl Bq) rfl rfl FK Eu rfl rfl (dI E.j λb hb=>dr _ _ _ (E.j.lt b hb).2) rfl (by first|rfl|simp) rfl rfl (by omega) (by have:=E.k;simp;omega) ?_);intro v7 w7 Kz wc _ kF;refine Halt.of ?_)
    have wh:=(wc.block p (by simp;omega) (λe=>absurd (eJ.one E.a.qw (fH E.a.cp e.symm)) (by decide))).trans ((dr _ _ _ KB).trans KD)
    have u1:w7.cell? ⟨p,1,V⟩=U (aD Br wl Bq):=K wh 1;have uf:w7.frozen? ⟨p,1,V⟩=ai:=by simp[wI,wh]
    have sr:=Ot wc kF;have C:=E.a.ah2 (W1:=r.alloc (aF #[aG (pfx++⟨#[c]⟩)] 9)) (s:=[push pfx c]) ((ei _ _).alloc (aW _) _) sr (by rw[jV,<-E.i,aaH];exact Kz)
    obtain⟨g7,XD,Vp⟩:=J1 Kz;have HF:=X C;clear Kz wc kF sr C wh hi qN jK lC p1;subst Vp;unfold Halt;go_wp2;go_roundg (gk-1)
    case rel=>
     obtain⟨uS,R,v,F,uT,-,-,H,-,-,-⟩:=kp E;obtain⟨T,pW,z,Vs,-,-,-,-,-⟩:=kp HI;have iU:j<n.kids.length:=by grind
     have vX:=HP.a;have hni:c∉kA L n.pfx:=λCr=>by
      have:¬(c∉(n.kids.take j).map (·.1)∧c∈kA L pfx):=by grind
      exact this ⟨HI.g,vX▸Cr⟩
     have gz:=(Nj L n.pfx c h).1 hni;have s:=Ud L m n iU;rw[pW,gz.1,gz.2.1,gz.2.2,tK,tK,<-H,<-vX] at s;rw[z] at uT;have AA:iD _ B p (jx L m n.pfx (n.kids.take (j+1))) _:=⟨_,_,_,_,_,by rw[<-vX,s];exact HF.out.1,rfl⟩
     refine⟨j+1,_,by go_simp,by omega,T.next iU v F (by grind) (by rw[R];exact HF.out.2) ⟨_,_,_,_,_,H▸uS,R⟩ AA⟩
    case measure=>omega
   |true=>
    obtain⟨I,vW⟩:=bP E.f E.g;have e0:r.cell? wr=U (Y aq (c.toNat:Int)):=K I 0;have e1:r.cell? ⟨wr,1,V⟩=U (Y aq d0):=K I 1;have e2:r.cell? ⟨wr,1+1,V⟩=U (Y aq d1):=K I 2;have e3:r.cell? ⟨wr,1+2,V⟩=U (Y aq d2):=K I 3;have e4:r.cell? ⟨wr,1+3,V⟩=U (Y aq d3):=K I 4;have e5:r.cell? ⟨wr,1+4,V⟩=U (Y aq d4):=K I 5;have e6:r.cell? ⟨wr,1+5,V⟩=U (Y aq d5):=K I 6;have e7:r.cell? ⟨wr,1+6,V⟩=U (Y aq d6):=K I 7;have e8:r.cell? ⟨wr,1+7,V⟩=U (Y aq d7):=K I 8;have f0:r.cell? ⟨wr+1+1,0,V⟩=U (Y aq z0):=K vW 0;have f1:r.cell? ⟨wr+1+1,1,V⟩=U (Y aq z1):=K vW 1;have f2:r.cell? ⟨wr+1+1,2,V⟩=U (Y aq z2):=K vW 2;have f3:r.cell? ⟨wr+1+1,3,V⟩=U (Y aq z3):=K vW 3;have f4:r.cell? ⟨wr+1+1,4,V⟩=U (Y aq z4):=K vW 4;have f5:r.cell? ⟨wr+1+1,5,V⟩=U (Y aq z5):=K vW 5;have f6:r.cell? ⟨wr+1+1,6,V⟩=U (Y aq z6):=K vW 6;have f7:r.cell? ⟨wr+1+1,7,V⟩=U (Y aq z7):=K vW 7;clear I vW;obtain⟨eb,EK⟩:=ex (z0==d0&&(z1==d1&&(z2==d2&&(z3==d3&&(z4==d4&&(z5==d5&&(z6==d6&&z7==d7)))))));have hq:=agl z0 z1 z2 z3 z4 z5 z6 z7 d0 d1 d2 d3 d4 d5 d6 d7 r;rw[<-EK] at hq;have Cr:c∈kA L n.pfx:=by have:=of_decide_eq_true HI.d.symm;rw[<-HP.a];exact this.2
    have hju:sO h:=by
     have:=HH.e.u64 n.kids[j] (rZ (by have:=HP.b;omega))
     rw[HI.b] at this;exact this
    have yU:eb=cq (y (dX L (push n.pfx c))=h):=by have h1:=HI.e rfl;have h2:=HI.f;rw[HP.a] at h1;unfold gV at h1 h2;injection h1 with h1;injection h2 with h2;simp only[Array.mk.injEq,Eo,Value.int.injEq,true_and,and_true] at h1 h2;obtain⟨a0,a1,a2,a3,a4,a5,a6,a7⟩:=h1;obtain⟨c0,c1,c2,c3,c4,c5,c6,c7⟩:=h2;rw[EK,a0,a1,a2,a3,a4,a5,a6,a7,c0,c1,c2,c3,c4,c5,c6,c7];exact agx (PC _) hju
    have HE:=cI.mk Cr yU;clear EK Cr hju yU;cases eb with
    |true=>
     go_wp2;go_roundg (gk-1)
     case rel=>
      obtain⟨uS,R,v,F,uT,-,-,H,-,-,-⟩:=kp E;obtain⟨T,pW,z,-,-,-,-,-,-⟩:=kp HI;have iU:j<n.kids.length:=by grind
      have vX:=HP.a;have gz:=(Nj L n.pfx c h).2.1 HE.a (of_decide_eq_true HE.b.symm);have s:=Ud L m n iU;rw[pW,gz.1,gz.2.1,gz.2.2,tK,tK,tK,<-H,<-vX] at s;rw[z] at uT;have He:iD r B p mj D':=⟨_,_,_,_,_,uS,R⟩;refine⟨j+1,D',by go_simp,by omega,T.next iU v F (by grind) (.refl _ _) (He.msg H) (He.msg ?_)⟩
      rw[<-vX,s]
     case measure=>omega
    |false=>
     have Lj:cJ r S L:=by
      have hB:=HH.b;have Pk:¬D S:=λhd=>by obtain⟨e,⟨cur,he⟩,_⟩:=HH.a.elem S hd;obtain⟨en,ck,h2,_⟩:=hB;rw[he] at h2;cases h2
      have GW:=HX.b.size;have O7:=HI.a.keep.size;have O0:=E.c.size;refine hB.of_block ((E.d.block S (by omega) (by omega)).trans ((E.c.block S (by omega)).trans ((HI.a.keep.block S (by omega) (by rintro(h|h);exact Pk h;omega)).trans (HX.b.block S yS))))
     have PI:ga r:=by have ht:=HH.c;have h3:=ht.lt;have GW:=HX.b.size;have O7:=HI.a.keep.size;have O0:=E.c.size;refine ht.of_block ((E.d.block 3 (by omega) (by omega)).trans ((E.c.block 3 (by omega)).trans ((HI.a.keep.block 3 (by omega) (by rintro(h|h);exact absurd (HH.f 3 h).1 (by omega);omega)).trans (HX.b.block 3 h3))))
     have P:iD r B p mj D':=⟨_,_,_,_,_,E.a,E.b⟩;have afv:B<=r:=by have:=E.k;omega
     have iU:j<n.kids.length:=by have:=HP.b;omega
     have kE:y (dX L (push n.pfx c))≠h:=of_decide_eq_false HE.b.symm;have s:=Ud L m n iU;rw[HI.b,<-E.h] at s;have N:=Ue L m n (j+1);rw[s] at N;simp only[jV] at N;have G:=HH.e;have Cm:=bP G.nr (bP G.nw G.nn);by_cases qS:c=0
     ·have gz:=(Nj L n.pfx c h).2.2.1 HE.a kE qS;rw[gz.1,gz.2.1,gz.2.2] at s N;have hTl:=M9 B p S mj D' L (push pfx c) r P Lj afv G.len (by rw[HP.a];omega)
      have HT:=X hTl;have HQ:=sV.mk s iU Lj PI;have V8:(c.toNat:Int)=0:=by rw[qS];rfl
      have aEv:mj.cp.length+1<=1000000000:=by simp only[xF] at N;omega
      clear s N hTl G Cm gz kE PI Lj P qS;go_wp2_with (go_at_call 102;go_must (refine HT.out.mono ?_);rintro e w7 ⟨rfl,D7,tX,sr⟩;have H7:=cI.mk tX sr;clear tX sr;refine Halt.of ?_)
      have hz7:=H7.b.1.size;obtain⟨yw,yu,I7,vt,Bn,sC,CC⟩:=H7.a;have GY:=sC.cp;simp only at GY;rw[<-E.i] at GY;obtain⟨Rt,Rs,auv⟩:=gu GY;have Vz:=sC.box;have aem:=sC.qu;have Ci:=sC.qw;have adZ:=λb hb=>fH (b:=b) GY hb;have Q8:=gD.mk sC CC GY;clear sC CC GY;subst auv;have p1:w7.cell? ⟨p,1,V⟩=U (aD Rt wl Rs):=K Vz 1;obtain⟨i0,hi,qN,jK,lC⟩:=yJ Eu;clear e0 hq e1 e2 e3 e4 e5 e6 e7 e8 f0 f1 f2 f3 f4 f5 f6 f7 V8;unfold Halt;go_wp2_with (at_builtin;go_must (refine app1 (v:=aD Rt wl Rs) rfl rfl FK Eu rfl rfl (dI Q8.c λb hb=>dr _ _ _ (Q8.c.lt b hb).2) rfl (by first|rfl|simp) rfl rfl (by omega) (by simp;omega) ?_);intro v8 w8 Ey AA _ kF;refine Halt.of ?_)
      have xX:=(AA.block p (by simp;omega) (λe=>absurd (eJ.one Ci (adZ p e.symm)) (by decide))).trans ((dr _ _ _ aem).trans Vz)
      have u1:w8.cell? ⟨p,1,V⟩=U (aD Rt wl Rs):=K xX 1;have uf:w8.frozen? ⟨p,1,V⟩=ai:=by simp[wI,xX]
      have KP:=Ot AA kF;have C:=Q8.a.ah2 (W1:=w7.alloc (aF #[aG (pfx++⟨#[c]⟩)] 9)) (s:=[push pfx c]) ((ei _ _).alloc (aW _) _) KP (by simp only[jV];rw[<-E.i,aaH];exact Ey)
      obtain⟨g8,ahn,Kx⟩:=J1 Ey;have HF:=X C;clear Ey AA kF KP C xX hi qN jK lC p1 Ci adZ Vz aem;subst Kx;unfold Halt;go_wp2;go_roundg (gk-1)
      case rel=>
       obtain⟨uS,R,v,F,uT,-,-,H,-,-,-⟩:=kp E;obtain⟨T,pW,z,-,-,-,-,-,-⟩:=kp HI;obtain⟨s,iU,-,-⟩:=HQ;have vX:=HP.a;rw[tK,<-vX] at s;rw[z] at uT;have He:iD r B p mj D':=⟨_,_,_,_,_,uS,R⟩;have yT:iD _ B p (jx L m n.pfx (n.kids.take (j+1))) _:=⟨_,_,_,_,_,by rw[<-vX,s];exact HF.out.1,rfl⟩
       refine⟨j+1,_,by go_simp,by omega,T.next iU v F (by grind) (H7.b.trans (by rw[Q8.b];exact HF.out.2)) (He.msg H) yT⟩
      case measure=>omega
     ·have gz:=(Nj L n.pfx c h).2.2.2 HE.a kE qS;rw[gz.1,gz.2.1,gz.2.2] at s N;have V7:=G.deep c qS;have AI:dR (∀W,r.heap.size=W.heap.size->W.heap=r.heap->bE Q 104 #[cj (S),aG (pfx++⟨#[c]⟩)] W λe w'=>∃kv,e=bj (bN #[aG (pfx++⟨#[c]⟩),kv])∧w'.ownsRow W 233 9 kv (pg L (push pfx c)).length (fG gL (pg L (push pfx c)))∧bC W W w'):=X λW _ e=>by
       have EX:=Lj.of_block (by rw[e])
       have hT':=PI.of_block (by rw[e])
       exact ab2 S L (push pfx c) W (by rw[HP.a];exact V7.1) EX G.len hT' G.fit (by rw[HP.a];exact V7.2)
      have avm:mj.nodes.length+1<=1000000000:=by simp only[xF] at N;omega
      have lS:=E.a.nodes.row;obtain⟨nl,Cj⟩:=ex mj.nodes.length;rw[<-Cj] at lS avm;obtain⟨Ea,DZ,Ce⟩:=gu lS;have HQ:=Bi.mk s iU Cj lS Ce;have V8:¬(c.toNat:Int)=0:=λe=>qS (as6.1 (by have h0:(0:UInt8).toNat=0:=rfl;omega))
      have Ci:=E.a.qw;have KH:=λb hb=>fH (b:=b) lS hb;have k0:∀W:av,W.heap[p]? =U (aF #[vr,aD Br wl Bq,aD Ea nl DZ,vd] 180 (0,0))->W.cell? ⟨p,2,V⟩=U (aD Ea nl DZ)∧W.frozen? ⟨p,2,V⟩=ai:=λW hW=>⟨K hW 2,by simp[wI,hW]⟩
      have HE2:=X afv;clear s N G Cm gz kE PI Lj P qS V7 lS Cj;rw[Ce] at KD;go_wp2;refine vI ?_;refine wp_region_Z (S:=λW=>W.heap[p]? =U (aF #[vr,aD Br wl Bq,aD Ea nl DZ,vd] 180 (0,0))) (z:=12) (by kernel_rfl) (KD) (λhHeld=>?_)
      refine kZ (i:=0) (v:=?v0) rfl (by kernel_rfl) (by kernel_rfl) (by kernel_rfl) (by kernel_rfl) (λ_ _ _ h=>h) (ax ⟨by rfl,?yQ⟩) hHeld ?aaW;(case yQ=>(intro W hSw;go_simp;(try with_reducible rfl)))
      try simp only[dj,eZ,eY,eC,eB,ee]
      refine kZ (i:=1) (v:=?v1) rfl (by kernel_rfl) (by kernel_rfl) (by kernel_rfl) (by kernel_rfl) (λ_ _ _ h=>h) (ax ⟨by rfl,?Aq⟩) hHeld ?aaV;(case Aq=>(intro W hSw;go_simp;(try with_reducible rfl)))
      try simp only[dj,eZ,eY,fu,eC,eB,ee]
      refine kZ (i:=2) (v:=?v2) rfl (by kernel_rfl) (by kernel_rfl) (by kernel_rfl) (by kernel_rfl) (λ_ _ _ h=>h) (ax ⟨by rfl,?Ap⟩) hHeld ?aaU;(case Ap=>(intro W hSw;go_simp;(try with_reducible rfl)))
      try simp only[dj,eZ,eY,fu,eC,eB,ee]
      refine kZ (i:=3) (v:=?v3) rfl (by kernel_rfl) (by kernel_rfl) (by kernel_rfl) (by kernel_rfl) (λ_ _ _ h=>h) (ax ⟨by rfl,?Vg⟩) hHeld ?apA;(case Vg=>(intro W hSw;go_simp;(try with_reducible rfl)))
      try simp only[dj,eZ,eY,fu,eC,eB,ee]
      refine kZ (i:=4) (v:=?v4) rfl (by kernel_rfl) (by kernel_rfl) (by kernel_rfl) (by kernel_rfl) (λ_ _ _ h=>h) (ax ⟨by rfl,?Vf⟩) hHeld ?apz;(case Vf=>(intro W hSw;have q0:=(k0 W hSw).1;go_simp;(try with_reducible rfl)))
      try simp only[dj,eZ,eY,fu,eC,eB,ee]
      refine kZ (i:=5) (v:=?v5) rfl (by kernel_rfl) (by kernel_rfl) (by kernel_rfl) (by kernel_rfl) (λ_ _ _ h=>h) (ax ⟨by rfl,?Kt⟩) hHeld ?aaT;(case Kt=>(intro W hSw;go_simp;(try with_reducible rfl)))
      try simp only[dj,eZ,eY,fu,eC,eB,ee]
      refine kZ (i:=6) (v:=?v6) rfl (by kernel_rfl) (by kernel_rfl) (by kernel_rfl) (by kernel_rfl) (λ_ _ _ h=>h) (ax ⟨by rfl,?Ks⟩) hHeld ?aaS;(case Ks=>(intro W hSw;go_simp;(try with_reducible rfl)))
      try simp only[dj,eZ,eY,fu,eC,eB,ee]
      obtain⟨W0,AH⟩:=ex r.drew;rw[<-AH] at hHeld⊢;have qm:=cI.mk AH (show W0.heap=r.heap by rw[AH];rfl)
      clear AH e0 e1 e2 e3 e4 e5 e6 e7 e8 f0 f1 f2 f3 f4 f5 f6 f7 hq V8;refine Bp (i:=7) (by kernel_rfl) rfl (by rfl) ?_
      go_simp;go_at_call 104;refine jc (AI.out W0 (by rw[qm.b]) qm.b) ?_
      rintro e w7 ⟨kv,rfl,tT,wh⟩;have qP:=(wh.block p (by rw[qm.b];exact KB)).trans hHeld
      obtain⟨xL,xK,EF⟩:=gu tT;obtain⟨xx,EG⟩:=ex ((pg L (push pfx c)).length);rw[<-EG] at EF;have H7:=gD.mk tT wh EG;clear tT wh EG;subst EF;refine⟨by first|exact qP|exact λ_=>qP,?_⟩
      try simp only[dj,eZ,eY,fu,eC,eB,ee]
      refine Bo (i:=8) (v:=aD (U ⟨w7.heap.size,0,V⟩) 1 1) (w':=w7.alloc (aF #[aG (pfx++⟨#[c]⟩),aD xL xx xK] 184)) (by kernel_rfl) rfl (by rfl) ?Kx (λ_=>(dr _ _ _ (dc.1 qP).1).trans qP) ?apy;(case Kx=>(go_simp))
      try simp only[dj,eZ,eY,fu,eC,eB,ee]
      obtain⟨i0,hi,qN,jK,lC⟩:=yJ Vb;have K5:bC r r w7:=by have h1:=H7.b;rw[qm.b] at h1;have h0:=qm.a;refine⟨h1.os.trans (by rw[h0];rfl),h1.tape.trans (by rw[h0];rfl),h1.output.trans (by rw[h0];rfl),by have:=h1.size;rw[qm.b] at this;exact this,λb hb=>(h1.block b hb).trans (by rw[qm.b])⟩
      have aee:(w7.alloc (aF #[aG (pfx++⟨#[c]⟩),aD xL xx xK] 184)).ownsRow B 184 2 (aD Ea nl DZ) nl xs:=by obtain⟨-,-,-,lS,Ce⟩:=kp HQ;rw[Ce] at lS;exact dI lS λb hb=>(dr _ _ _ (by have:=(lS.lt b hb).2;have:=K5.size;omega)).trans (K5.block b (lS.lt b hb).2)
      have aua:=K5.size;refine Bp (i:=9) (by kernel_rfl) rfl (by rfl) ?_
      refine abJ _ _ 177 rfl B 184 i0 (bN #[aG ⟨#[]⟩,aD V 0 0]) 2 40 RX hi qN jK lC rfl (by decide) (aD Ea nl DZ) nl xs rfl aee ⟨w7.heap.size,0,V⟩ 1 1 [aG (pfx++⟨#[c]⟩),aD xL xx xK] rfl rfl (zY (by first|rfl|simp) _ _ rfl) (by simp[za]) (by unfold uZ;omega) (by omega) (by have:=HE2.out;simp;omega) ?_
      intro v8 w8 Ey AA kF;have KP:=Ot AA kF;have qO:=(AA.block p (by simp;omega) (λe=>absurd (eJ.one Ci (KH p (by rw[HQ.e];exact e.symm))) (by decide))).trans ((dr _ _ _ (by omega)).trans qP)
      obtain⟨u1,uf⟩:=k0 w8 qO;have C:=E.a.ah3 (W1:=w7.alloc (aF #[aG (pfx++⟨#[c]⟩),aD xL xx xK] 184)) (n:=BX L (push pfx c)) (kv:=aD xL xx xK) (K5.trans ⟨rfl,rfl,rfl,by simp,λb hb=>dr _ _ _ (by omega)⟩) (by rw[HQ.e];exact KP)
       (by have:=H7.a;rw[qm.b] at this;exact dI this λb hb=>dr _ _ _ (this.lt b hb).2) (by rw[<-HQ.c];exact Ey) HE2.out
      obtain⟨g8,ahn,Kx⟩:=J1 Ey;have HF:=X C;clear Ey AA kF KP C aee K5 hi qN jK lC AI aua;subst Kx;refine⟨by first|exact qO|exact λ_=>qO,?_⟩
      try simp only[dj,eZ,eY,fu,eC,eB,ee]
      refine Bo (i:=10) (v:=aE (U ⟨p,0,V⟩)) (w':=w8) (by kernel_rfl) rfl (by rfl) ?Vr (λ_=>qO) ?apC;(case Vr=>(go_simp))
      try simp only[dj,eZ,eY,fu,eC,eB,ee]
      refine Bo (i:=11) (v:=aE (U ⟨p,2,V⟩)) (w':=w8) (by kernel_rfl) rfl (by rfl) ?Vq (λ_=>qO) ?apB;(case Vq=>(go_simp))
      try simp only[dj,eZ,eY,fu,eC,eB,ee]
      refine Rn (i:=12) (w':=w8.setCell ⟨p,2,V⟩ (aD (U ⟨g8,0,V⟩) (nl+1) ahn)) (by kernel_rfl) rfl (by rfl) ?auz (λh=>Bool.noConfusion h) ?aDy;(case auz=>(go_simp))
      try simp only[dj,eZ,eY,fu,ee]
      refine Ro (by kernel_rfl) ?_ _
      refine vH ?_;clear hHeld qP qO k0 u1 uf Ci KH KD;go_wp2;go_roundg (gk-1)
      case rel=>
       obtain⟨uS,R,v,F,uT,-,-,H,-,-,-⟩:=E;obtain⟨T,pW,z,-,-,-,-,-,-⟩:=HI;obtain⟨s,iU,-,-,-⟩:=HQ;have vX:=HP.a;rw[tK,tK,<-vX] at s;rw[z] at uT;have He:iD r B p mj D':=⟨_,_,_,_,_,uS,R⟩;have yT:iD _ B p (jx L m n.pfx (n.kids.take (j+1))) _:=⟨_,_,_,_,_,by rw[<-vX,s];exact HF.out.1,rfl⟩
       refine⟨j+1,_,by go_simp,by omega,T.next iU v F (by grind) (by rw[R];exact HF.out.2) (He.msg H) yT⟩
      case measure=>omega
  ·have tU:j=kl:=by omega
   have uQ:gk=0:=by omega
   subst uQ;obtain⟨wq,rfl⟩:=ex wr;obtain⟨pm,KA⟩:=ex (jx L m n.pfx n.kids);obtain⟨em,z⟩:=ex (uY es (n.kids.map (·.1)));have gM:n.kids.take j=n.kids:=Gx (by have:=HP.b;omega)
   have hGr:iD wq B p pm D':=by rw[KA,<-gM];exact T.Lm
   have Lb:di kO wq m2 em:=by rw[z,<-gM];exact T.map
   have nB:em.map (·.1)=(kA L pfx).filter λc=> !(n.kids.map (·.1)).contains c:=by rw[z,agC,HX.e,UZ]
   have jX:(em.map (·.1)).Nodup:=by rw[nB];exact(JE _ _ List.nodup_nil).sublist (ac7)
   have N:em.length<=256:=by rw[<-J8 (f:=(·.1))];exact abY jX
   have aeg:ki (em.map (·.1))=Ga L n:=by rw[nB,HP.a];rfl
   have J:=Df.mk T KA hGr Lb jX N aeg;clear T KA z gM hGr Lb nB jX N aeg;go_wp2_with (go_at_call 161;go_must (refine(adG m2 wq).mono ?_);rintro e w5 ⟨rfl,O1⟩;have H5:=X O1;clear O1;refine Halt.of ?_)
   unfold Halt;have E:=X (Zs Zu m2 em w5 (J.d.of_block (by rw[H5.out];exact dr _ _ _ J.d.lt)) J.e J.f wq.heap.size (by rw[H5.out];go_simp))
   go_wp2_with (go_at_call 160;go_must (refine E.out.mono ?_);rintro e r ⟨sv,rfl,A,hb6⟩;have H6:=cI.mk A hb6;clear A hb6;refine Halt.of ?_)
   unfold Halt;obtain⟨cs,ir⟩:=ex (Ga L n);obtain⟨rl,oc⟩:=ex cs.length;have Au:em.length=rl:=by rw[oc,ir,<-J.g];simp[ki]
   have A:r.ownsRow w5 5 1 sv rl (cs.map λb=>Y aq (b.toNat:Int)):=by have:=H6.a;rw[J.g,<-ir,Au] at this;exact this
   have au6:rl<=256:=by rw[<-Au];exact J.f
   obtain⟨F6,SY,rfl⟩:=gu A;have nY:w5.heap.size=wq+1:=by rw[H5.out];simp
   have M:bC wq wq r:=by
    have h3:bC wq wq w5:=by rw[H5.out];exact(ei _ _).alloc (aW _) _
    exact h3.trans ⟨H6.b.os,H6.b.tape,H6.b.output,H6.b.size,λb hb=>H6.b.block b (by omega)⟩
   have P:=J.c.below M;have Lf:CrI B p pm D' L pfx cs r 0 D' r:=⟨by rw[J5,axP];exact P,.refl _ _⟩
   have HY:=Df.mk A M P Lf ir oc nY;clear A M P Lf ir oc nY Au E H5 H6 hj;go_wp2;go_loopg [95] rl (λk s95 wr=>∃(i:Nat) (D2:Nat->Prop),s95=Y aH i∧k+i=rl∧CrI B p pm D' L pfx cs r i D2 wr)
   case atStart=>exact⟨0,D',rfl,by omega,HY.d⟩
   case round=>
    obtain⟨i,D2,rfl,hki,jL⟩:=hrel;obtain⟨A,M,P,-,ir,oc,nY⟩:=HY;have hwr:=J.a.keep.size;have fK:=HX.b.size;have AJ:=(dc.1 HX.c).1;have Lg:¬D' w:=λhd=>by
     rcases J.a.own _ hd with h|h
     ·exact absurd (HH.f _ h).2 (by omega)
     ·omega
    have tP:=jL.keep.1.size;by_cases hi:i<rl
    ·have v:=(jL.keep.1.block _ (by have:=M.size;omega) Lg).trans ((M.block _ (by omega)).trans ((J.a.keep.block _ AJ (by rintro(h|h);exact absurd (HH.f _ h).2 (by omega);omega)).trans HX.c))
     have b0:wr.cell? w=U (aG pfx):=K v 0;have O7:oz 5 1 (λb:UInt8=>Y aq (b.toNat:Int)) wr (aD F6 rl SY) cs:=by unfold oz;rw[Ti,<-oc];refine dI (ji A (kM _)) λb hb=>jL.keep.1.block b (A.lt b hb).2 λhd=>?_;have h1:=(A.lt b hb).1;have h2:=(J.c.lt b hd).2;omega
     obtain⟨g,A4,hv,hg,hY⟩:=O7.cell (λ_=>rfl) (show i<cs.length by omega)
     simp only[vG] at hv;obtain⟨rfl,-,rfl⟩:=hv;obtain⟨c,hc⟩:=ex (cs[i]'(by omega))
     have y0:wr.cell? ⟨g,i,V⟩=U (Y aq (c.toNat:Int)):=by have:=hY 0 (Y aq ((cs[i]'(by omega)).toNat:Int)) (by decide) rfl;rw[Nat.mul_one] at this;rw[hc];exact this
     have G:=HH.e;have gM:cs.take (i+1)=cs.take i++[c]:=by rw[yL,pR (show i<cs.length by omega),hc];rfl
     have VW:=axO L m n (i+1);rw[<-J.b,<-HP.a,<-ir,gM,af9] at VW;simp only[jV] at VW;have nA:=G.nr;have Hu:cJ wr S L:=by
      have hB:=HH.b;have Pk:¬D S:=λhd=>by obtain⟨e,⟨cur,he⟩,_⟩:=HH.a.elem S hd;obtain⟨en,ck,h2,_⟩:=hB;rw[he] at h2;cases h2
      have avE:¬D' S:=λhd=>by
       rcases J.a.own _ hd with h|h
       ·exact Pk h
       ·omega
      exact hB.of_block ((jL.keep.1.block S (by have:=M.size;omega) avE).trans ((M.block S (by omega)).trans ((J.a.keep.block S (by omega) (by rintro(h|h);exact Pk h;omega)).trans (HX.b.block S yS))))
     have HT:=X (λ(W:av) (hW:bC wr.heap.size wr W)=>M9 B p S (uX L pm pfx (cs.take i)) D2 L (push pfx c) W (jL.Lm.below hW) (Hu.of_block (hW.block S Hu.lt)) (by have:=hW.size;have:=M.size;omega) G.len (by omega))
     have EA:pfx.size<=4096:=by rw[HP.a];exact G.key.1
     have Pr:(i:Int)<(rl:Int):=by omega
     have hNw:w.heap.size<wr:=by have:=M.size;omega
     have hNn:¬w.heap.size=wr.heap.size:=by omega
     have hcv:=ag8 c wr;have HI2:=cI.mk jL gM;clear A M P ir oc nY v O7 hY hc G gM VW nA Hu jL Lg tP;go_wp2_with (go_at_call 102;go_must (refine(HT.out _ ((ei _ _).alloc (aW _) _)).mono ?_);rintro e w7 ⟨rfl,D7,tX,sr⟩;have H7:=cI.mk tX sr;refine Halt.of ?_)
     unfold Halt;go_wp2;go_roundg (gk-1)
     case rel=>
      refine⟨i+1,D7,by go_simp,by omega,⟨by rw[HI2.b,af9];exact H7.a,HI2.a.keep.trans (bT.trans ⟨O.alloc _ _ _,λb hb=>ax hb⟩ H7.b)⟩⟩
     case measure=>omega
    ·have hie:i=rl:=by omega
     have uQ:gk=0:=by omega
     subst uQ;have C:iD wr B p (nH L m n) D2:=by
      have h1:=jL.Lm;rw[Gx (by omega),J.b,HP.a,ir] at h1
      exact h1
     have KO:bT D w D2 wr:=by
      have Cn:=J.a.keep;have u:=HX.b;have aex:=HX.d;refine⟨⟨jL.keep.1.os.trans (M.os.trans (Cn.os.trans u.os)),jL.keep.1.tape.trans (M.tape.trans (Cn.tape.trans u.tape)),jL.keep.1.output.trans (M.output.trans (Cn.output.trans u.output)),by have:=M.size;omega,λb hb hn=>?_⟩,λb hd=>?_⟩
      ·have avt:¬D' b:=λhd=>by
        rcases J.a.own _ hd with h|h
        ·exact hn h
        ·omega
       rw[jL.keep.1.block b (by have:=M.size;omega) avt,M.block b (by omega),Cn.block b (by omega) (by rintro(h|h);exact hn h;omega)]
       exact u.block b hb
      ·rcases jL.keep.2 b hd with h|h
       ·rcases J.a.own _ h with h|h
        ·exact ax h
        ·exact aA (by omega)
       ·exact aA (by have:=M.size;omega)
     have HF:=X (bP C KO);go_wp2
     go_end0
     exact⟨rfl,D2,HF.out⟩
def xp:dP:=⟨[],[],[],[]⟩
def jj:ByteArray:=⟨#[]⟩
def pL(L:List s)(m:dP)(ws:List ByteArray):dP:={m with bh:=m.bh++ws.flatMap (dX L)}
def lP(L:List s)(m:dP)(E:List Nd):dP:=E.foldl (nH L) m
def yB(L:List s)(m:dP)(d:Int):dP:=if d=y (dX L jj) then m else{m with nodes:=m.nodes++[BX L jj]}
def jS(L:List s)(m:dP)(ds:List Int):dP:=ds.foldl (yB L) m
def rQ(L:List s)(mi:dP):dP:=jS L (lP L (pL L xp mi.cp) mi.nodes) mi.roots
theorem aji(L)(m):pL L m []=m:=by simp[pL]
theorem Yr(L)(m)(a)(p):pL L m (a++[p])={pL L m a with bh:=(pL L m a).bh++dX L p}:=by simp[pL]
theorem ab0(L)(m)(a)(n):lP L m (a++[n])=nH L (lP L m a) n:=by simp[lP]
theorem apl(L)(m)(ds)(d):jS L m (ds++[d])=yB L (jS L m ds) d:=by simp[jS]
structure vp(a b:dP):Prop where
 r:a.bh.length<=b.bh.length
 w:a.cp.length<=b.cp.length
 n:a.nodes.length<=b.nodes.length
theorem vp.refl(a):vp a a:=⟨aW _,aW _,aW _⟩
theorem vp.trans{a b c}(h:vp a b)(k:vp b c):vp a c:=⟨bq h.r k.r,bq h.w k.w,bq h.n k.n⟩
theorem azl(L)(m)(n):vp m (nH L m n):=by have h:=Ue L m n 0;rw[J5,acr] at h;exact⟨h.1,h.2.1,h.2.2⟩
theorem TO(L:List s):∀(a:List Nd) (m:dP),vp m (lP L m a)
 | [],m=>.refl m
 |n::a,m=>(azl L m n).trans (TO L a _)
theorem apk(L)(m)(d):vp m (yB L m d):=by
 unfold yB;split
 ·exact .refl m
 ·exact⟨aW _,aW _,by simp⟩
theorem NH(L:List s):∀(ds:List Int) (m:dP),vp m (jS L m ds)
 | [],m=>.refl m
 |d::ds,m=>(apk L m d).trans (NH L ds _)
theorem arf(L)(m)(b)(j):vp (lP L m (b.take j)) (lP L m b):=by
 have:lP L m b=lP L (lP L m (b.take j)) (b.drop j):=by
  grind[lP,List.take_append_drop]
 grind[TO]
theorem apj(L)(m)(ds)(j):vp (jS L m (ds.take j)) (jS L m ds):=by
 have:jS L m ds=jS L (jS L m (ds.take j)) (ds.drop j):=by
  grind[jS,List.take_append_drop]
 grind[NH]
theorem ajg(L)(m)(b)(j):vp (pL L m (b.take j)) (pL L m b):=by have:=Lp (dX L) b j;exact⟨by grind[pL,List.length_append],aW _,aW _⟩
structure Rh(L:List s)(mi:dP):Prop where
 len:L.length<=1073741824
 fit:∀x∈L,Fit x
 nodup:∀n∈mi.nodes,(n.kids.map (·.1)).Nodup
 u64:∀n∈mi.nodes,∀k∈n.kids,sO k.2
 key:∀n∈mi.nodes,xJ L n.pfx
 deep:∀n∈mi.nodes,∀c:UInt8,c≠0->xJ L (push n.pfx c)
 nk:∀n∈mi.nodes,n.kids.length<=100000
 root:xJ L jj
 rd:∀d∈mi.roots,sO d
 out:Fz (rQ L mi)
theorem Rh.cm{L}{a}(h:Rh L a){j}(d):aiE L (lP L (pL L xp a.cp) (a.nodes.take j)) a.nodes[j]:=by
 have b:=rZ d;have e:lP L (pL L xp a.cp) (a.nodes.take (j+1))=nH L (lP L (pL L xp a.cp) (a.nodes.take j)) a.nodes[j]:=by
  grind[List.take_add_one,List.getElem?_eq_getElem,Option.toList_some,ab0]
 have c:=(arf L (pL L xp a.cp) a.nodes (j+1)).trans (NH L a.roots _);rw[e] at c;refine⟨h.len,h.fit,h.nodup _ b,h.u64 _ b,h.key _ b,h.deep _ b,h.nk _ b,?_,?_,?_⟩
 ·exact bq c.r (bq h.out.nr (by decide))
 ·exact bq c.w (bq h.out.nw (by decide))
 ·exact bq c.n (bq h.out.nn (by decide))
def yj(B E:Nat)(D0:Nat->Prop)(w2:av)(m:dP)(W:av):Prop:=∃D',iD W B E m D'∧bT D0 w2 D' W
theorem yj.start{w:av}:yj w w (λb=>b=w) (w.alloc (aF #[aD V 0 0,aD V 0 0,aD V 0 0,aD V 0 0] 180)) xp (w.alloc (aF #[aD V 0 0,aD V 0 0,aD V 0 0,aD V 0 0] 180)):=by
 refine⟨_,⟨aD V 0 0,aD V 0 0,aD V 0 0,aD V 0 0,[],⟨iN _ _,aW _,sd _ _ _ _,sd _ _ _ _,kI.nil _ _,sd _ _ _ _⟩,rfl⟩,⟨O.refl _ _,λb a=>ax ?_⟩⟩;rcases a with h|h|h|h
 ·exact h
 ·cases h
 ·cases h
 ·cases h
theorem yj.low{B d}{c}{a W}{m}(h:yj B d c a m W)(f:∀b,c b->B<=b){b}(j:b<B)(g:B<=a):W.heap[b]? =a.heap[b]? :=by obtain⟨i,_,h⟩:=h;exact h.1.block b (by omega) λe=>absurd (f b e) (by omega)
set_option maxHeartbeats 8000000 in
theorem XP (r mb gb:Nat) (id:Int) (L:List s) (mi:dP) (g off cap:Nat) (w:av) (hR:fD w r id mb gb) (hB:cJ w mb L) (ht:ga w) (Px:(gi mi).length<=cap) (hg:g<w.heap.size)
  (jl:∀j (h:j<(gi mi).length),w.cell? ⟨g,off+j,V⟩=U (iR (gi mi)[j])) (hm:X5 mi) (hk:∀x∈mi.bh,x.Ok) (hO:Rh (mi.bh.foldl fq L) mi):
  bE Q 59 #[aE (U ⟨r,0,V⟩),aD (U ⟨g,off,V⟩) (gi mi).length cap] w λe w'=>cJ w' mb (mi.bh.foldl fq L)∧O (λb=>b=mb) w w'∧
   (((rQ (mi.bh.foldl fq L) mi).none=Z∧e=bj (aD V 0 0))∨((rQ (mi.bh.foldl fq L) mi).none=ai∧∃v,e=bj v∧dx w.heap.size w' v (gi (rQ (mi.bh.foldl fq L) mi)))):=by
 have HC:=X (ar7 mi g off cap w Px hg jl hm);obtain⟨J,Ld⟩:=ex (mi.bh.foldl fq L);rw[<-Ld] at hO⊢;have oc:=hR.lt;have yS:=hB.lt;have hrm:r≠mb:=hR.ne hB;have HH:=Df.mk hR hB ht hm hO Ld hk;clear hR hB ht Px hg jl hm hO Ld hk;go_enter akg,ntmps59;go_wp2_with (go_at_call 100;go_must (refine HC.out.mono ?_);rintro e w1 ⟨p,vr,vw,vn,vd,xs,rfl,hM,wj⟩;have H1:=cI.mk hM wj;clear hM wj;refine Halt.of ?_)
 unfold Halt;clear HC;obtain⟨rad,apY,O3⟩:=gu H1.a.bh;obtain⟨Br,Bq,Kv⟩:=gu H1.a.cp;obtain⟨Ea,DZ,Ce⟩:=gu H1.a.nodes.row;obtain⟨dad,agE,Vn⟩:=gu H1.a.roots;obtain⟨nr,nA⟩:=ex mi.bh.length;obtain⟨nw,G0⟩:=ex mi.cp.length;obtain⟨nn,G5⟩:=ex mi.nodes.length;obtain⟨nd,jX⟩:=ex mi.roots.length;rw[<-nA] at O3;rw[<-G0] at Kv;rw[<-G5] at Ce;rw[<-jX] at Vn;have AE:=H1.a.box;have hR1:fD w1 r id mb gb:=(H1.b.block r oc).trans HH.a;have wu:cJ w1 mb L:=HH.b.of_block (H1.b.block mb yS);have ER:ga w1:=HH.c.below H1.b (aW _);have Pd:w.heap.size<=p:=H1.a.lt;have hn5:nr<=600000∧nw<=600000∧nn<=124000∧nd<=100000:=by have h:=HH.d;exact⟨nA▸h.nr,G0▸h.nw,G5▸h.nn,jX▸h.nd⟩
 obtain⟨aEZ,aEY,aEX,aEW⟩:=hn5;have HV:=Bh.mk O3 Kv Ce Vn nA G0 G5 jX;have HX:=gD.mk hR1 wu ER;have c0:w1.cell? ⟨p,0,V⟩=U (aD rad nr apY):=(K AE 0).trans (by rw[O3];rfl)
 clear O3 Kv Ce Vn nA G0 G5 jX hR1 wu ER AE;go_wp2;go_loopg [22] nr (λk s22 wr=>∃(j:Nat),s22=Y aH j∧k+j=nr∧cJ wr mb ((mi.bh.take j).foldl fq L)∧O (λb=>b=mb) w1 wr)
 case atStart=>exact⟨0,rfl,by omega,HX.b,O.refl _ _⟩
 case round=>
  obtain⟨j,rfl,pW,Hv,hK⟩:=hrel;by_cases hj:j<nr
  ·have iU:j<mi.bh.length:=by have:=HV.e;omega
   have Vl:=H1.b.size;have mD:fD wr r id mb gb:=(hK.block r (by omega) (by omega)).trans HX.a
   obtain⟨gg,hgg⟩:∃gg,rad=U ⟨gg,0,V⟩:=by
    have h:=H1.a.bh.2;rw[HV.a] at h;rcases h with⟨h,h0⟩|⟨gg,c,cur,h,_⟩
    ·omega
    ·injection h with h;exact⟨gg,h⟩
   subst hgg;have sk:=H1.a.bh;have Az:eJ w1 gg 46:=fH sk (by rw[HV.a];rfl)
   have sw:gg<w1.heap.size:=(dc.1 Az.choose_spec).1;have KS:gg≠mb:=λe=>by obtain⟨cur,h1⟩:=Az;obtain⟨en,ck,h2,_⟩:=HX.b;rw[e,h2] at h1;cases h1
   obtain⟨x,hx⟩:=ex (mi.bh[j]);have Hh:∀i v,i<5->x.cells[i]? =U v->wr.cell? ⟨gg,j*5+i,V⟩=U v:=λi v hi hv=>by
    have h1:=Gy sk (g:=gg) (by rw[HV.a];rfl) (j*5+i) v ((aaF iU i hi).trans (by rw[<-hx];exact hv))
    rw[Addr.add_lit,Ah] at h1;exact(eD (w:=w1) (a:=⟨gg,j*5+i,V⟩) (hK.block gg sw KS)).trans h1
   have gM:(mi.bh.take (j+1)).foldl fq L=fq ((mi.bh.take j).foldl fq L) x:=by rw[yL,pR iU,El,List.foldl_append,<-hx];rfl
   have hxo:x.Ok:=by rw[hx];exact HH.g _ (rZ iU)
   have HTk:=X (λ(W:av) (h:cJ W mb ((mi.bh.take j).foldl fq L))=>Zd x hxo mb _ W h);obtain⟨n,f,c,q,H⟩:=x;have y0:wr.cell? ⟨gg,j*5,V⟩=U (aG n):=Hh 0 _ (by decide) rfl
   have y1:wr.cell? ⟨gg,j*5+1,V⟩=U (aG f):=Hh 1 _ (by decide) rfl
   have y2:wr.cell? ⟨gg,j*5+2,V⟩=U (Y aH c):=Hh 2 _ (by decide) rfl
   have y3:wr.cell? ⟨gg,j*5+3,V⟩=U (Y aH q):=Hh 3 _ (by decide) rfl
   have y4:wr.cell? ⟨gg,j*5+4,V⟩=U (aG H):=Hh 4 _ (by decide) rfl
   obtain⟨wx,tQ⟩:=ex (wr.alloc (aF #[aG n,aG f,Y aH c,Y aH q,aG H] 46));have C:bC wr.heap.size wr wx:=by rw[tQ];exact(ei _ _).alloc (aW _) _
   have hrr:=mD.lt;have Cv:wx.heap[r]? =U (aF #[Y aH id,cj (U mb),cj (U gb)] 110 (0,0))∧wx.heap[wr.heap.size]? =U (aF #[aG n,aG f,Y aH c,Y aH q,aG H] 46 (0,0)):=⟨(C.block r hrr).trans mD,by rw[tQ];exact iN _ _⟩
   have avl:(wr.heap.size:Nat)≠mb:=by have:=Hv.lt;omega
   have k1:∀W:av,(W.heap[r]? =U (aF #[Y aH id,cj (U mb),cj (U gb)] 110 (0,0))∧W.heap[wr.heap.size]? =U (aF #[aG n,aG f,Y aH c,Y aH q,aG H] 46 (0,0)))->W.cell? ⟨r,1,V⟩=U (cj (U mb))∧W.cell? ⟨wr.heap.size,0,V⟩=U (aG n)∧W.cell? ⟨wr.heap.size,1,V⟩=U (aG f)∧W.cell? ⟨wr.heap.size,2,V⟩=U (Y aH c)∧W.cell? ⟨wr.heap.size,3,V⟩=U (Y aH q)∧W.cell? ⟨wr.heap.size,4,V⟩=U (aG H):=λW h=>⟨K h.1 1,K h.2 0,K h.2 1,K h.2 2,K h.2 3,K h.2 4⟩;have uR:(j:Int)<(nr:Int):=by omega
   have HI:=Df.mk Hv hK C gM tQ mD Vl;clear Hv hK C gM sk Az sw KS hx Hh hxo mD;go_wp2;rw[<-HI.e];clear tQ y0 y1 y2 y3 y4;refine vI ?_;refine Bs (λW=>W.heap[r]? =U (aF #[Y aH id,cj (U mb),cj (U gb)] 110 (0,0))∧W.heap[wr.heap.size]? =U (aF #[aG n,aG f,Y aH c,Y aH q,aG H] 46 (0,0))) [0,1,2,3,4,5] (by kernel_rfl) (Cv) (λ_ _ _ _ _ h=>h) ?_
   repeat((apply pM _ rfl (by kernel_rfl) rfl;·intro W hSw;obtain⟨q0,q1,q2,q3,q4,q5⟩:=k1 W hSw;go_simp;try with_reducible rfl);simp only[xd])
   refine uw rfl (by kernel_rfl) λhHeld I hK=>?_
   go_simp;go_at_call 101;refine jc (HTk.out wx.drew ((HI.a.of_block (HI.c.block mb HI.a.lt)).drew)) ?_;rintro e w7 ⟨rfl,Li,Pq⟩;have qP:w7.heap[r]? =U (aF #[Y aH id,cj (U mb),cj (U gb)] 110 (0,0))∧w7.heap[wr.heap.size]? =U (aF #[aG n,aG f,Y aH c,Y aH q,aG H] 46 (0,0)):=⟨(Pq.block r (dc.1 hHeld.1).1 hrm).trans hHeld.1,(Pq.block _ (dc.1 hHeld.2).1 avl).trans hHeld.2⟩;refine hK.out _ _ (qP) ?_;refine Bt (by kernel_rfl) λhHeld=>?_
   refine vH ?_;have H7:=cI.mk Li Pq;clear Li Pq qP hHeld k1 Cv;go_wp2;go_roundg (gk-1)
   case rel=>
    obtain⟨-,hK,C,gM,-,-,-⟩:=HI;refine⟨j+1,by go_simp,by omega,by rw[gM];exact H7.a,hK.trans (O.trans' (F:=λ_=>False) (G:=λb=>b=mb) (O.iL C) ((O.drew _ _).trans H7.b) (λ_ _ h=>h.elim) (λ_ _ h=>h))⟩
   case measure=>omega
  ·have tU:nr=j:=by omega
   have uQ:gk=0:=by omega
   subst uQ;subst tU;obtain⟨E,rfl⟩:=ex wr;have Lh:cJ E mb J:=by rw[Gx (by have:=HV.e;omega)] at Hv;rw[HH.f];exact Hv
   have PM:iY E w.heap.size p mi vr vw vn vd xs:=H1.a.same (λb e hb=>hK.block b (dc.1 hb.choose_spec).1 λhe=>by obtain⟨cur,h1⟩:=hb;obtain⟨en,ck,h2,_⟩:=HX.b;rw[he,h2] at h1;cases h1) hK.size
   have Vl:=H1.b.size;have Wu:fD E r id mb gb:=(hK.block r (by omega) (by omega)).trans HX.a
   have h3m:(3:Nat)≠mb:=λe=>by have ht:=HH.c;obtain⟨en,clock,hb,_⟩:=HH.b;rw[<-e] at hb;unfold ga x6 World.var? at ht;rw[Dw] at ht;simp[hb] at ht
   have Wp:ga E:=HX.c.keep hK h3m;have h4A:4<=E.heap.size:=by have:=Wp.lt;omega
   obtain⟨w2,xN⟩:=ex (E.alloc (aF #[aD V 0 0,aD V 0 0,aD V 0 0,aD V 0 0] 180));have hO0:yj E.heap.size E.heap.size (λb=>b=E.heap.size) w2 xp w2:=by rw[xN];exact yj.start
   have lC:w2.heap.size=E.heap.size+1:=by rw[xN];simp
   have G8:∀(m:dP) (W:av),yj E.heap.size E.heap.size (λb=>b=E.heap.size) w2 m W->∀b,b<E.heap.size->W.heap[b]? =E.heap[b]? :=λm W h b hb=>(h.low (λb hb=>by rw[hb];exact aW _) hb (by omega)).trans (by rw[xN];exact dr _ _ _ hb)
   have aes:∀(m:dP) (W:av),yj E.heap.size E.heap.size (λb=>b=E.heap.size) w2 m W->E.heap.size<=W.heap.size:=λm W h=>by obtain⟨D',_,h⟩:=h;have:=h.1.size;omega
   have hpA:=PM.qu;have O9:=Wu.lt;have Pm:=Lh.lt;have A:=air.mk Lh PM Wu Wp h4A xN hO0 lC G8 aes hK;have c1:E.cell? ⟨p,1,V⟩=U (aD Br nw Bq):=(K PM.box 1).trans (by rw[HV.b];rfl)
   clear Hv Lh PM Wu Wp h4A xN hO0 lC G8 aes hK hj c0 pW;go_wp2;rw[<-A.f];go_loopg [40] nw (λk s40 wr=>∃(j:Nat),s40=Y aH j∧k+j=nw∧yj E.heap.size E.heap.size (λb=>b=E.heap.size) w2 (pL J xp (mi.cp.take j)) wr)
   case atStart=>exact⟨0,rfl,by omega,by rw[J5,aji];exact A.g⟩
   case round=>
    obtain⟨j,rfl,pW,hI⟩:=hrel;by_cases hj:j<nw
    ·have iU:j<mi.cp.length:=by have:=HV.f;omega
     have D:=A.i _ wr hI;have uO:oz 9 1 aG E (aD Br nw Bq) mi.cp:=by have h:=A.b.cp;rw[HV.b] at h;exact ji h (kM _)
     obtain⟨wg,A4,hv,hg,hY⟩:=uO.cell (λ_=>rfl) iU;simp only[vG] at hv;obtain⟨rfl,-,rfl⟩:=hv;obtain⟨q,hq⟩:=ex (mi.cp[j]);have y0:wr.cell? ⟨wg,j,V⟩=U (aG q):=by
      have:=hY 0 (aG mi.cp[j]) (by decide) rfl
      rw[Nat.mul_one] at this;rw[hq];exact(eD (w:=E) (a:=⟨wg,j,V⟩) (D wg hg)).trans this
     have r1:wr.cell? ⟨r,1,V⟩=U (cj (U mb)):=K ((D r O9).trans A.c) 1;have gM:mi.cp.take (j+1)=mi.cp.take j++[q]:=by rw[yL,pR iU,hq];rfl
     have hO:=HH.e;have hle:=((ajg J xp mi.cp (j+1)).trans (TO J mi.nodes _)).trans (NH J mi.roots _);rw[gM,Yr] at hle;have hlr:=bq hle.r hO.out.nr;simp only[jV] at hlr;obtain⟨D',hG,hL⟩:=hI;have HT:=gD.mk (M9 E.heap.size E.heap.size mb _ D' J q wr hG (A.a.of_block (D mb Pm)) (by have:=hL.1.size;have:=A.h;omega) hO.len (by omega)) gM hL
     have uR:(j:Int)<(nw:Int):=by omega
     clear D uO hY hq gM hO hle hlr hG hL;go_wp2_with (go_at_call 102;go_must (refine HT.a.mono ?_);rintro e w7 ⟨rfl,D7,tX,sr⟩;have H7:=cI.mk tX sr;clear tX sr;refine Halt.of ?_)
     unfold Halt;go_wp2;go_roundg (gk-1)
     case rel=>exact⟨j+1,by go_simp,by omega,D7,by rw[HT.b,Yr];exact H7.a,HT.c.trans H7.b⟩
     case measure=>omega
    ·have tU:nw=j:=by omega
     have uQ:gk=0:=by omega
     subst uQ;subst tU;obtain⟨wB,rfl⟩:=ex wr;rw[Gx (by have:=HV.f;omega)] at hI
     obtain⟨mW,VF⟩:=ex (pL J xp mi.cp);rw[<-VF] at hI;have aeU:=(A.i _ wB hI p hpA).trans A.b.box;have c2:wB.cell? ⟨p,2,V⟩=U (aD Ea nn DZ):=(K aeU 2).trans (by rw[HV.c];rfl)
     have HB:=cI.mk hI VF;clear hI VF aeU hj c1 pW;go_wp2;go_loopg [57] nn (λk s57 wr=>∃(j:Nat),s57=Y aH j∧k+j=nn∧yj E.heap.size E.heap.size (λb=>b=E.heap.size) w2 (lP J mW (mi.nodes.take j)) wr)
     case atStart=>exact⟨0,rfl,by omega,HB.a⟩
     case round=>
      obtain⟨j,rfl,pW,hI⟩:=hrel;by_cases hj:j<nn
      ·have iU:j<mi.nodes.length:=by have:=HV.g;omega
       have D:=A.i _ wr hI;obtain⟨ng,A4,kv,hv,hg,EF,yQ,Aq,tT⟩:=A.b.nodes.cell iU;rw[HV.c] at hv;simp only[vG] at hv;obtain⟨rfl,-,rfl⟩:=hv;obtain⟨nj,Pg⟩:=ex (mi.nodes[j]);rw[<-Pg] at yQ tT;obtain⟨tN,sj,Pp⟩:=gu tT;obtain⟨kl,xR⟩:=ex nj.kids.length;rw[<-xR] at Pp;obtain⟨q,hq⟩:=ex nj.pfx;rw[<-hq] at yQ;rw[Pp] at Aq;have y0:wr.cell? ⟨ng,j*2,V⟩=U (aG q):=(eD (w:=E) (a:=⟨ng,j*2,V⟩) (D ng hg)).trans yQ;have y1:wr.cell? ⟨ng,j*2+1,V⟩=U (aD tN kl sj):=(eD (w:=E) (a:=⟨ng,j*2+1,V⟩) (D ng hg)).trans Aq;have gM:lP J mW (mi.nodes.take (j+1))=nH J (lP J mW (mi.nodes.take j)) nj:=by rw[yL,pR iU,El,ab0,Pg]
       have hO:=HH.e;have Hg:=hO.cm iU;rw[<-HB.b,<-Pg] at Hg;have fP:=A.j _ wr hI;obtain⟨D',hG,hL⟩:=hI;obtain⟨wx,tQ⟩:=ex (wr.alloc (aF #[aG q,aD tN kl sj] 184));have C:bC wr.heap.size wr wx:=by rw[tQ];exact(ei _ _).alloc (aW _) _
       have mD:wr.heap[r]? =U (aF #[Y aH id,cj (U mb),cj (U gb)] 110 (0,0)):=(D r O9).trans A.c;have Cv:wx.heap[r]? =U (aF #[Y aH id,cj (U mb),cj (U gb)] 110 (0,0))∧wx.heap[wr.heap.size]? =U (aF #[aG q,aD tN kl sj] 184 (0,0)):=⟨(C.block r (by omega)).trans mD,by rw[tQ];exact iN _ _⟩
       have k1:∀W:av,(W.heap[r]? =U (aF #[Y aH id,cj (U mb),cj (U gb)] 110 (0,0))∧W.heap[wr.heap.size]? =U (aF #[aG q,aD tN kl sj] 184 (0,0)))->W.cell? ⟨r,1,V⟩=U (cj (U mb))∧W.cell? ⟨wr.heap.size,0,V⟩=U (aG q)∧W.cell? ⟨wr.heap.size,1,V⟩=U (aD tN kl sj):=λW h=>⟨K h.1 1,K h.2 0,K h.2 1⟩;have HT:dR (bE Q 103 #[aE (U ⟨E.heap.size,0,V⟩),cj (U mb),bN #[aG q,aD tN kl sj]] wx.drew λe w'=>e=bj (bO #[])∧∃D2,iD w' E.heap.size E.heap.size (lP J mW (mi.nodes.take (j+1))) D2∧bT D' wx.drew D2 w'):=by
        have lD:bC wr.heap.size wr wx.drew:=⟨C.os,C.tape,C.output,C.size,C.block⟩;have tP:=lD.size;refine X ?_;rw[gM,hq,<-Pp];refine azh E.heap.size E.heap.size mb _ D' J nj kv wx.drew (hG.below lD) (A.a.of_block ((lD.block mb (by omega)).trans (D mb Pm))) (by omega) A.e (A.d.of_block ((lD.block 3 (by have:=A.e;omega)).trans (D 3 (by have:=A.e;omega)))) (ji (B:=w.heap.size) ?_ (kM _)) Hg
        exact dI tT λb hb=>(lD.block b (by have:=(tT.lt b hb).2;omega)).trans (D b (tT.lt b hb).2)
       have uR:(j:Int)<(nn:Int):=by omega
       have hrs:r<wr.heap.size:=by omega
       have HI:=sV.mk hL C tQ hG;clear D EF yQ Aq tT Pg Pp xR hq gM hO Hg hL C mD hG;go_wp2;rw[<-HI.c];clear tQ y0 y1;refine vI ?_;refine Bs (λW=>W.heap[r]? =U (aF #[Y aH id,cj (U mb),cj (U gb)] 110 (0,0))∧W.heap[wr.heap.size]? =U (aF #[aG q,aD tN kl sj] 184 (0,0))) [0,1,2,3,4,5,6] (by kernel_rfl) (Cv) (λ_ _ _ _ _ h=>h) ?_
       repeat((apply pM _ rfl (by kernel_rfl) rfl;·intro W hSw;obtain⟨q0,q1,q2⟩:=k1 W hSw;go_simp;try with_reducible rfl);simp only[xd])
       refine uw rfl (by kernel_rfl) λhHeld I hK=>?_
       go_simp;go_at_call 103;refine jc HT.out ?_;rintro e w7 ⟨rfl,D7,tX,sr⟩;have KI:∀b,b<E.heap.size∨b=wr.heap.size->¬D' b:=λb hb hd=>by have h1:=HI.d.lt b hd;rcases hb with hb|hb<;>omega
       have qP:w7.heap[r]? =U (aF #[Y aH id,cj (U mb),cj (U gb)] 110 (0,0))∧w7.heap[wr.heap.size]? =U (aF #[aG q,aD tN kl sj] 184 (0,0)):=⟨(sr.1.block r (dc.1 hHeld.1).1 (KI r (ax O9))).trans hHeld.1,(sr.1.block _ (dc.1 hHeld.2).1 (KI _ (aA rfl))).trans hHeld.2⟩;refine hK.out _ _ (qP) ?_;refine Bt (by kernel_rfl) λhHeld=>?_
       refine vH ?_;have H7:=cI.mk tX sr;clear tX sr qP hHeld k1 Cv KI;go_wp2;go_roundg (gk-1)
       case rel=>
        obtain⟨hL,C,-,-⟩:=HI;have lD:bC wr.heap.size wr wx.drew:=⟨C.os,C.tape,C.output,C.size,C.block⟩;exact⟨j+1,by go_simp,by omega,D7,H7.a,hL.trans (bT.trans (bT.other (O.iL lD)) H7.b)⟩
       case measure=>omega
      ·have tU:nn=j:=by omega
       have uQ:gk=0:=by omega
       subst uQ;subst tU;obtain⟨wC,rfl⟩:=ex wr;rw[Gx (by have:=HV.g;omega)] at hI
       obtain⟨mN,VG⟩:=ex (lP J mW mi.nodes);rw[<-VG] at hI;have aeT:=(A.i _ wC hI p hpA).trans A.b.box;have c3:wC.cell? ⟨p,3,V⟩=U (aD dad nd agE):=(K aeT 3).trans (by rw[HV.d];rfl)
       have X8:=cI.mk hI VG;clear hI VG aeT hj c2 pW;go_wp2;go_loopg [74] nd (λk s74 wr=>∃(j:Nat),s74=Y aH j∧k+j=nd∧yj E.heap.size E.heap.size (λb=>b=E.heap.size) w2 (jS J mN (mi.roots.take j)) wr)
       case atStart=>exact⟨0,rfl,by omega,X8.a⟩
       case round=>
        obtain⟨j,rfl,pW,hI⟩:=hrel;by_cases hj:j<nd
        ·have iU:j<mi.roots.length:=by have:=HV.h;omega
         have D:=A.i _ wr hI;have uO:oz 76 8 gV E (aD dad nd agE) mi.roots:=by have h:=A.b.roots;rw[HV.d] at h;exact ji h (kM _)
         obtain⟨dg,A4,hv,hg,hY⟩:=uO.cell agy iU;simp only[vG] at hv;obtain⟨rfl,-,rfl⟩:=hv;obtain⟨d,hd⟩:=ex (mi.roots[j]);rw[<-hd] at hY;unfold gV at hY;obtain⟨d0,qQ⟩:∃z,z=d/72057594037927936 % 256:=⟨_,rfl⟩;obtain⟨d1,Pw⟩:∃z,z=d/281474976710656 % 256:=⟨_,rfl⟩;obtain⟨d2,KZ⟩:∃z,z=d/1099511627776 % 256:=⟨_,rfl⟩;obtain⟨d3,KY⟩:∃z,z=d/4294967296 % 256:=⟨_,rfl⟩;obtain⟨d4,KX⟩:∃z,z=d/16777216 % 256:=⟨_,rfl⟩;obtain⟨d5,Hf⟩:∃z,z=d/65536 % 256:=⟨_,rfl⟩;obtain⟨d6,KW⟩:∃z,z=d/256 % 256:=⟨_,rfl⟩;obtain⟨d7,KV⟩:∃z,z=d % 256:=⟨_,rfl⟩;rw[<-qQ,<-Pw,<-KZ,<-KY,<-KX,<-Hf,<-KW,<-KV] at hY;have y0:wr.cell? ⟨dg,j*8,V⟩=U (Y aq d0):=(eD (w:=E) (a:=⟨dg,j*8,V⟩) (D dg hg)).trans (hY 0 _ (by decide) rfl)
         have y1:wr.cell? ⟨dg,j*8+1,V⟩=U (Y aq d1):=(eD (w:=E) (a:=⟨dg,j*8+1,V⟩) (D dg hg)).trans (hY 1 _ (by decide) rfl)
         have y2:wr.cell? ⟨dg,j*8+2,V⟩=U (Y aq d2):=(eD (w:=E) (a:=⟨dg,j*8+2,V⟩) (D dg hg)).trans (hY 2 _ (by decide) rfl)
         have y3:wr.cell? ⟨dg,j*8+3,V⟩=U (Y aq d3):=(eD (w:=E) (a:=⟨dg,j*8+3,V⟩) (D dg hg)).trans (hY 3 _ (by decide) rfl)
         have y4:wr.cell? ⟨dg,j*8+4,V⟩=U (Y aq d4):=(eD (w:=E) (a:=⟨dg,j*8+4,V⟩) (D dg hg)).trans (hY 4 _ (by decide) rfl)
         have y5:wr.cell? ⟨dg,j*8+5,V⟩=U (Y aq d5):=(eD (w:=E) (a:=⟨dg,j*8+5,V⟩) (D dg hg)).trans (hY 5 _ (by decide) rfl)
         have y6:wr.cell? ⟨dg,j*8+6,V⟩=U (Y aq d6):=(eD (w:=E) (a:=⟨dg,j*8+6,V⟩) (D dg hg)).trans (hY 6 _ (by decide) rfl)
         have y7:wr.cell? ⟨dg,j*8+7,V⟩=U (Y aq d7):=(eD (w:=E) (a:=⟨dg,j*8+7,V⟩) (D dg hg)).trans (hY 7 _ (by decide) rfl)
         obtain⟨hs,Ay⟩:=ex (y (dX J jj));obtain⟨e0,V6⟩:∃z,z=hs/72057594037927936 % 256:=⟨_,rfl⟩;obtain⟨e1,V5⟩:∃z,z=hs/281474976710656 % 256:=⟨_,rfl⟩;obtain⟨e2,V4⟩:∃z,z=hs/1099511627776 % 256:=⟨_,rfl⟩;obtain⟨e3,V3⟩:∃z,z=hs/4294967296 % 256:=⟨_,rfl⟩;obtain⟨e4,V1⟩:∃z,z=hs/16777216 % 256:=⟨_,rfl⟩;obtain⟨e5,V0⟩:∃z,z=hs/65536 % 256:=⟨_,rfl⟩;obtain⟨e6,VZ⟩:∃z,z=hs/256 % 256:=⟨_,rfl⟩;obtain⟨e7,VY⟩:∃z,z=hs % 256:=⟨_,rfl⟩;have hdv:gV hs=bN #[Y aq e0,Y aq e1,Y aq e2,Y aq e3,Y aq e4,Y aq e5,Y aq e6,Y aq e7]:=by rw[V6,V5,V4,V3,V1,V0,VZ,VY];rfl
         obtain⟨eb,EK⟩:=ex (d0==e0&&(d1==e1&&(d2==e2&&(d3==e3&&(d4==e4&&(d5==e5&&(d6==e6&&d7==e7)))))));have hO:=HH.e;have yU:eb=cq (d=hs):=by rw[EK,qQ,Pw,KZ,KY,KX,Hf,KW,KV,V6,V5,V4,V3,V1,V0,VZ,VY];exact agx (by rw[hd];exact hO.rd _ (rZ iU)) (by rw[Ay];exact PC _)
         have hq:∀W,(rf 10000 76 (bN #[Y aq d0,Y aq d1,Y aq d2,Y aq d3,Y aq d4,Y aq d5,Y aq d6,Y aq d7]) (bN #[Y aq e0,Y aq e1,Y aq e2,Y aq e3,Y aq e4,Y aq e5,Y aq e6,Y aq e7])).run Q W=aV eb W:=λW=>by rw[agl,<-EK]
         have gM:jS J mN (mi.roots.take (j+1))=yB J (jS J mN (mi.roots.take j)) d:=by rw[yL,pR iU,El,apl,hd]
         have hle:=apj J mN mi.roots (j+1);rw[gM] at hle;have EC:(yB J (jS J mN (mi.roots.take j)) d).nodes.length<=124000:=bq hle.n (by have:=hO.out.nn;unfold rQ at this;rw[<-HB.b,<-X8.b] at this;exact this)
         have fP:=A.j _ wr hI;obtain⟨D',hG,hL⟩:=hI;obtain⟨wx,tQ⟩:=ex (wr.alloc (aF #[Y aq d0,Y aq d1,Y aq d2,Y aq d3,Y aq d4,Y aq d5,Y aq d6,Y aq d7] 76));have C:bC wr.heap.size wr wx:=by rw[tQ];exact(ei _ _).alloc (aW _) _
         have mD:wr.heap[r]? =U (aF #[Y aH id,cj (U mb),cj (U gb)] 110 (0,0)):=(D r O9).trans A.c;have Cv:wx.heap[r]? =U (aF #[Y aH id,cj (U mb),cj (U gb)] 110 (0,0))∧wx.heap[wr.heap.size]? =U (aF #[Y aq d0,Y aq d1,Y aq d2,Y aq d3,Y aq d4,Y aq d5,Y aq d6,Y aq d7] 76 (0,0)):=⟨(C.block r (by omega)).trans mD,by rw[tQ];exact iN _ _⟩
         have k1:∀W:av,(W.heap[r]? =U (aF #[Y aH id,cj (U mb),cj (U gb)] 110 (0,0))∧W.heap[wr.heap.size]? =U (aF #[Y aq d0,Y aq d1,Y aq d2,Y aq d3,Y aq d4,Y aq d5,Y aq d6,Y aq d7] 76 (0,0)))->W.cell? ⟨r,1,V⟩=U (cj (U mb))∧W.cell? ⟨wr.heap.size,0,V⟩=U (Y aq d0)∧W.cell? ⟨wr.heap.size,1,V⟩=U (Y aq d1)∧W.cell? ⟨wr.heap.size,2,V⟩=U (Y aq d2)∧W.cell? ⟨wr.heap.size,3,V⟩=U (Y aq d3)∧W.cell? ⟨wr.heap.size,4,V⟩=U (Y aq d4)∧W.cell? ⟨wr.heap.size,5,V⟩=U (Y aq d5)∧W.cell? ⟨wr.heap.size,6,V⟩=U (Y aq d6)∧W.cell? ⟨wr.heap.size,7,V⟩=U (Y aq d7):=λW h=>⟨K h.1 1,K h.2 0,K h.2 1,K h.2 2,K h.2 3,K h.2 4,K h.2 5,K h.2 6,K h.2 7⟩;have lD:bC wr.heap.size wr wx.drew:=⟨C.os,C.tape,C.output,C.size,C.block⟩;have tP:=lD.size;have EV:cJ wx.drew mb J:=A.a.of_block ((lD.block mb (by omega)).trans (D mb Pm))
         have Hq:ga wx.drew:=A.d.of_block ((lD.block 3 (by have:=A.e;omega)).trans (D 3 (by have:=A.e;omega)))
         have HT:dR (bE Q 51 #[cj (U mb),aG ⟨#[]⟩] wx.drew λe w'=>e=bj (bN #[Y aq e0,Y aq e1,Y aq e2,Y aq e3,Y aq e4,Y aq e5,Y aq e6,Y aq e7])∧bC wx.drew.heap.size wx.drew w'):=by refine X ?_;rw[<-hdv,Ay];exact Qa mb J jj wx.drew EV hO.len Hq hO.fit
         have uR:(j:Int)<(nd:Int):=by omega
         have hrs:r<wr.heap.size:=by omega
         have HI:=ais.mk hL lD tQ hG gM yU Ay EV Hq EC;clear D uO hY hd qQ Pw KZ KY KX Hf KW KV V6 V5 V4 V3 V1 V0 VZ VY hdv EK hO yU Ay gM hle hL hG mD EV Hq lD tP C EC;go_wp2;rw[<-HI.c];clear tQ y0 y1 y2 y3 y4 y5 y6 y7;refine vI ?_;refine Bs (λW=>W.heap[r]? =U (aF #[Y aH id,cj (U mb),cj (U gb)] 110 (0,0))∧W.heap[wr.heap.size]? =U (aF #[Y aq d0,Y aq d1,Y aq d2,Y aq d3,Y aq d4,Y aq d5,Y aq d6,Y aq d7] 76 (0,0))) [0,1,2,3,4,5,6] (by kernel_rfl) (Cv) (λ_ _ _ _ _ h=>h) ?_
         repeat((apply pM _ rfl (by kernel_rfl) rfl;·intro W hSw;obtain⟨q0,q1,q2,q3,q4,q5,q6,q7,q8⟩:=k1 W hSw;go_simp;try with_reducible rfl);simp only[xd])
         refine uw rfl (by kernel_rfl) λhHeld I hK=>?_
         go_simp;go_at_call 51;refine jc HT.out ?_;rintro e w7 ⟨rfl,wh⟩;have qP:w7.heap[r]? =U (aF #[Y aH id,cj (U mb),cj (U gb)] 110 (0,0))∧w7.heap[wr.heap.size]? =U (aF #[Y aq d0,Y aq d1,Y aq d2,Y aq d3,Y aq d4,Y aq d5,Y aq d6,Y aq d7] 76 (0,0)):=⟨(wh.block r (dc.1 hHeld.1).1).trans hHeld.1,(wh.block _ (dc.1 hHeld.2).1).trans hHeld.2⟩;refine hK.out _ _ (qP) ?_
         repeat((apply pM _ rfl (by kernel_rfl) rfl;·intro W hSw;have q0:=hq W;go_simp;try with_reducible rfl);simp only[xd])
         refine Bt (by kernel_rfl) λhHeld=>?_
         refine vH ?_;have H7:=cI.mk wh qP.1;clear wh qP hHeld k1 Cv hq HT;cases eb with
         |true=>
          go_wp2;go_roundg (gk-1)
          case rel=>
           obtain⟨hL,lD,-,hG,gM,yU,Ay,-,-,-⟩:=kp HI;have AF:bC wr.heap.size wr w7:=lD.trans ⟨H7.a.os,H7.a.tape,H7.a.output,H7.a.size,λb hb=>H7.a.block b (by have:=lD.size;omega)⟩
           have Ch:yB J (jS J mN (mi.roots.take j)) d=jS J mN (mi.roots.take j):=dn (by rw[of_decide_eq_true yU.symm,Ay])
           exact⟨j+1,by go_simp,by omega,D',by rw[gM,Ch];exact hG.below AF,hL.trans (bT.other (O.iL AF))⟩
          case measure=>omega
         |false=>
          obtain⟨hL,lD,-,hG,gM,yU,Ay,EV,Hq,EC⟩:=HI;have OZ:=lD.size;have AF:bC wr.heap.size wr w7:=lD.trans ⟨H7.a.os,H7.a.tape,H7.a.output,H7.a.size,λb hb=>H7.a.block b (by omega)⟩
          have aEo:=AF.size;have tX:=hG.below AF;obtain⟨yw,yu,I7,vt,Bn,sC,CC⟩:=tX;have Ch:yB J (jS J mN (mi.roots.take j)) d={jS J mN (mi.roots.take j) with nodes:=(jS J mN (mi.roots.take j)).nodes++[BX J jj]}:=if_neg (by rw[<-Ay];exact of_decide_eq_false yU.symm)
          rw[Ch] at EC;obtain⟨mj,KJ⟩:=ex (jS J mN (mi.roots.take j));rw[<-KJ] at sC Ch EC;obtain⟨nl,Cj⟩:=ex mj.nodes.length;have aEU:nl+1<=124000:=by simp only[jV,xF] at EC;omega
          have lS:=sC.nodes.row;rw[<-Cj] at lS;obtain⟨Aa,zZ,Vm⟩:=gu lS;have KH:=λb hb=>fH (b:=b) lS hb;have Ci:=sC.qw;have Wh:=sC.box;have hO:=HH.e;have Li:cJ w7 mb J:=EV.of_block (H7.a.block mb EV.lt);have hT7:ga w7:=Hq.below H7.a (aW _);have AI:dR (∀W,W.heap=w7.heap->bE Q 104 #[cj (U mb),aG ⟨#[]⟩] W λe w'=>∃kv,e=bj (bN #[aG ⟨#[]⟩,kv])∧w'.ownsRow W.heap.size 233 9 kv (pg J jj).length (fG gL (pg J jj))∧bC W.heap.size W w'):=X λW e=>
           ab2 mb J jj W hO.root.1 (Li.of_block (by rw[e])) hO.len (hT7.of_block (by rw[e])) hO.fit hO.root.2
          rw[Vm] at Wh;have Wq:w7.heap[r]? =U (aF #[Y aH id,cj (U mb),cj (U gb)] 110 (0,0))∧w7.heap[E.heap.size]? =U (aF #[yw,yu,aD Aa nl zZ,vt] 180 (0,0)):=⟨H7.b,Wh⟩;have k1:∀W:av,(W.heap[r]? =U (aF #[Y aH id,cj (U mb),cj (U gb)] 110 (0,0))∧W.heap[E.heap.size]? =U (aF #[yw,yu,aD Aa nl zZ,vt] 180 (0,0)))->W.cell? ⟨r,1,V⟩=U (cj (U mb))∧W.cell? ⟨E.heap.size,2,V⟩=U (aD Aa nl zZ)∧W.frozen? ⟨E.heap.size,2,V⟩=ai:=λW h=>⟨K h.1 1,K h.2 2,by simp[wI,h.2]⟩
          have Ku:E.heap.size<w7.heap.size:=sC.qu;have au5:r<w7.heap.size:=by omega
          have HQ:=ais.mk sC CC Ch Cj lS Vm AF hL gM KJ;clear hL lD hG gM yU Ay EV Hq EC sC CC Ch Cj lS hO Li hT7 Wh AF KJ H7;go_wp2;refine vI ?_;refine wp_region_Z (S:=λW=>W.heap[r]? =U (aF #[Y aH id,cj (U mb),cj (U gb)] 110 (0,0))∧W.heap[E.heap.size]? =U (aF #[yw,yu,aD Aa nl zZ,vt] 180 (0,0))) (z:=14) (by kernel_rfl) (Wq) (λhHeld=>?_)
          refine kZ (i:=0) (v:=?vz0) rfl (by kernel_rfl) (by kernel_rfl) (by kernel_rfl) (by kernel_rfl) (λ_ _ _ h=>h) (ax ⟨by rfl,?auk⟩) hHeld ?aDw;(case auk=>(intro W hSw;go_simp;(try with_reducible rfl)))
          try simp only[dj,eZ,eY,fu,eC,eB,ee]
          refine kZ (i:=1) (v:=?vz1) rfl (by kernel_rfl) (by kernel_rfl) (by kernel_rfl) (by kernel_rfl) (λ_ _ _ h=>h) (ax ⟨by rfl,?auj⟩) hHeld ?aDv;(case auj=>(intro W hSw;go_simp;(try with_reducible rfl)))
          try simp only[dj,eZ,eY,fu,eC,eB,ee]
          refine kZ (i:=2) (v:=?vz2) rfl (by kernel_rfl) (by kernel_rfl) (by kernel_rfl) (by kernel_rfl) (λ_ _ _ h=>h) (ax ⟨by rfl,?aui⟩) hHeld ?aDq;(case aui=>(intro W hSw;go_simp;(try with_reducible rfl)))
          try simp only[dj,eZ,eY,fu,eC,eB,ee]
          refine kZ (i:=3) (v:=?vz3) rfl (by kernel_rfl) (by kernel_rfl) (by kernel_rfl) (by kernel_rfl) (λ_ _ _ h=>h) (ax ⟨by rfl,?auh⟩) hHeld ?aDp;(case auh=>(intro W hSw;go_simp;(try with_reducible rfl)))
          try simp only[dj,eZ,eY,fu,eC,eB,ee]
          refine kZ (i:=4) (v:=?vz4) rfl (by kernel_rfl) (by kernel_rfl) (by kernel_rfl) (by kernel_rfl) (λ_ _ _ h=>h) (ax ⟨by rfl,?aug⟩) hHeld ?aDo;(case aug=>(intro W hSw;obtain⟨q0,q1,q2⟩:=k1 W hSw;go_simp;(try with_reducible rfl)))
          try simp only[dj,eZ,eY,fu,eC,eB,ee]
          refine kZ (i:=5) (v:=?vz5) rfl (by kernel_rfl) (by kernel_rfl) (by kernel_rfl) (by kernel_rfl) (λ_ _ _ h=>h) (ax ⟨by rfl,?auf⟩) hHeld ?aDn;(case auf=>(intro W hSw;go_simp;(try with_reducible rfl)))
          try simp only[dj,eZ,eY,fu,eC,eB,ee]
          refine kZ (i:=6) (v:=?vz6) rfl (by kernel_rfl) (by kernel_rfl) (by kernel_rfl) (by kernel_rfl) (λ_ _ _ h=>h) (ax ⟨by rfl,?aue⟩) hHeld ?aDm;(case aue=>(intro W hSw;go_simp;(try with_reducible rfl)))
          try simp only[dj,eZ,eY,fu,eC,eB,ee]
          refine kZ (i:=7) (v:=?vz7) rfl (by kernel_rfl) (by kernel_rfl) (by kernel_rfl) (by kernel_rfl) (λ_ _ _ h=>h) (ax ⟨by rfl,?aud⟩) hHeld ?aDl;(case aud=>(intro W hSw;go_simp;(try with_reducible rfl)))
          try simp only[dj,eZ,eY,fu,eC,eB,ee]
          refine kZ (i:=8) (v:=?vz8) rfl (by kernel_rfl) (by kernel_rfl) (by kernel_rfl) (by kernel_rfl) (λ_ _ _ h=>h) (ax ⟨by rfl,?auc⟩) hHeld ?aDk;(case auc=>(intro W hSw;obtain⟨q0,q1,q2⟩:=k1 W hSw;go_simp;(try with_reducible rfl)))
          try simp only[dj,eZ,eY,fu,eC,eB,ee]
          obtain⟨W0,AH⟩:=ex w7.drew;rw[<-AH] at hHeld⊢;have qm:=cI.mk AH (show W0.heap=w7.heap by rw[AH];rfl)
          clear AH;refine Bp (i:=9) (by kernel_rfl) rfl (by rfl) ?_
          go_simp;go_at_call 104;refine jc (AI.out W0 qm.b) ?_;rintro e w8 ⟨kv,rfl,tT,xX⟩;have qO:w8.heap[r]? =U (aF #[Y aH id,cj (U mb),cj (U gb)] 110 (0,0))∧w8.heap[E.heap.size]? =U (aF #[yw,yu,aD Aa nl zZ,vt] 180 (0,0)):=⟨(xX.block r (by rw[qm.b];exact au5)).trans hHeld.1,(xX.block _ (by rw[qm.b];exact Ku)).trans hHeld.2⟩
          obtain⟨xL,xK,EF⟩:=gu tT;obtain⟨xx,EG⟩:=ex ((pg J jj).length);rw[<-EG] at EF;have H8:=gD.mk tT xX EG;clear tT xX EG;subst EF;have VM:r<w8.heap.size:=(dc.1 qO.1).1;have VN:E.heap.size<w8.heap.size:=(dc.1 qO.2).1;refine⟨by first|exact qO|exact λ_=>qO,?_⟩
          try simp only[dj,eZ,eY,fu,eC,eB,ee]
          refine Bo (i:=10) (v:=aD (U ⟨w8.heap.size,0,V⟩) 1 1) (w':=w8.alloc (aF #[aG ⟨#[]⟩,aD xL xx xK] 184)) (by kernel_rfl) rfl (by rfl) ?auu (λ_=>⟨(dr _ _ _ VM).trans qO.1,(dr _ _ _ VN).trans qO.2⟩) ?aDu;(case auu=>(go_simp))
          try simp only[dj,eZ,eY,fu,eC,eB,ee]
          obtain⟨i0,hi,qN,jK,lC⟩:=yJ Vb;have Py:bC w7.heap.size w7 w8:=by have h1:=H8.b;rw[qm.b] at h1;have h0:=qm.a;refine⟨h1.os.trans (by rw[h0];rfl),h1.tape.trans (by rw[h0];rfl),h1.output.trans (by rw[h0];rfl),by have:=h1.size;rw[qm.b] at this;exact this,λb hb=>(h1.block b hb).trans (by rw[qm.b])⟩
          have at7:=Py.size;have aed:(w8.alloc (aF #[aG ⟨#[]⟩,aD xL xx xK] 184)).ownsRow E.heap.size 184 2 (aD Aa nl zZ) nl Bn:=by have lS:=HQ.e;rw[HQ.f] at lS;exact dI lS λb hb=>(dr _ _ _ (by have:=(lS.lt b hb).2;omega)).trans (Py.block b (lS.lt b hb).2)
          refine Bp (i:=11) (by kernel_rfl) rfl (by rfl) ?_
          refine abJ _ _ 177 rfl E.heap.size 184 i0 (bN #[aG ⟨#[]⟩,aD V 0 0]) 2 40 RX hi qN jK lC rfl (by decide) (aD Aa nl zZ) nl Bn rfl aed ⟨w8.heap.size,0,V⟩ 1 1 [aG ⟨#[]⟩,aD xL xx xK] rfl rfl (zY (by first|rfl|simp) _ _ rfl) (by simp[za]) (by unfold uZ;omega) (by omega) (by simp;omega) ?_
          intro v9 w9 Vx yT kF;have hl9:=Ot yT kF;have VD:∀b,(b=r∨b=E.heap.size)->U b≠(aD Aa nl zZ).ownBlock:=λb hb e=>by
           have h1:eJ w7 b 184:=KH b (by rw[HQ.f];exact e.symm)
           rcases hb with rfl|rfl
           ·obtain⟨cur,h1⟩:=h1;rw[Wq.1] at h1;cases h1
           ·exact absurd (eJ.one Ci h1) (by decide)
          have G9:w9.heap[r]? =U (aF #[Y aH id,cj (U mb),cj (U gb)] 110 (0,0))∧w9.heap[E.heap.size]? =U (aF #[yw,yu,aD Aa nl zZ,vt] 180 (0,0)):=⟨(yT.block r (by simp;omega) (VD r (ax rfl))).trans ((dr _ _ _ VM).trans qO.1),(yT.block _ (by simp;omega) (VD _ (aA rfl))).trans ((dr _ _ _ VN).trans qO.2)⟩
          obtain⟨-,u1,uf⟩:=k1 w9 G9;have AD:=HQ.a.ah3 (W1:=w8.alloc (aF #[aG ⟨#[]⟩,aD xL xx xK] 184)) (n:=BX J jj) (kv:=aD xL xx xK) (Py.trans ⟨rfl,rfl,rfl,by simp,λb hb=>dr _ _ _ (by omega)⟩) (by rw[HQ.f];exact hl9)
           (by have:=H8.a;rw[qm.b] at this;exact dI this λb hb=>dr _ _ _ (this.lt b hb).2) (by rw[<-HQ.d];exact Vx) (by omega)
          obtain⟨g9,azH,Vo⟩:=J1 Vx;have HF:=X AD;clear Vx yT kF hl9 AD aed Py hi qN jK lC AI at7 VD;subst Vo;refine⟨by first|exact G9|exact λ_=>G9,?_⟩
          try simp only[dj,eZ,eY,fu,eC,eB,ee]
          refine Bo (i:=12) (v:=aE (U ⟨E.heap.size,0,V⟩)) (w':=w9) (by kernel_rfl) rfl (by rfl) ?aut (λ_=>G9) ?aDt;(case aut=>(go_simp))
          try simp only[dj,eZ,eY,fu,eC,eB,ee]
          refine Bo (i:=13) (v:=aE (U ⟨E.heap.size,2,V⟩)) (w':=w9) (by kernel_rfl) rfl (by rfl) ?aus (λ_=>G9) ?aDs;(case aus=>(go_simp))
          try simp only[dj,eZ,eY,fu,eC,eB,ee]
          refine Rn (i:=14) (w':=w9.setCell ⟨E.heap.size,2,V⟩ (aD (U ⟨g9,0,V⟩) (nl+1) azH)) (by kernel_rfl) rfl (by rfl) ?aur (λh=>Bool.noConfusion h) ?aDr;(case aur=>(go_simp))
          try simp only[dj,eZ,eY,fu,eC,eB,ee]
          refine Ro (by kernel_rfl) ?_ _
          refine vH ?_;clear hHeld qO G9 k1 u1 uf Ci KH Wq VM VN;go_wp2;go_roundg (gk-1)
          case rel=>
           obtain⟨sC,CC,Ch,Cj,lS,Vm,AF,hL,gM,KJ⟩:=HQ;have yT:iD _ E.heap.size E.heap.size (jS J mN (mi.roots.take (j+1))) _:=⟨_,_,_,_,_,by rw[gM,<-KJ,Ch];exact HF.out.1,rfl⟩
           exact⟨j+1,by go_simp,by omega,_,yT,hL.trans ((bT.other (O.iL AF)).trans (by rw[CC];exact HF.out.2))⟩
          case measure=>omega
        ·have tU:nd=j:=by omega
         have uQ:gk=0:=by omega
         subst uQ;subst tU;obtain⟨wD,rfl⟩:=ex wr;rw[Gx (by have:=HV.h;omega)] at hI
         obtain⟨mo,mB⟩:=ex (rQ J mi);have e0:jS J mN mi.roots=mo:=by rw[mB,X8.b,HB.b];rfl
         rw[e0] at hI;have D:=A.i _ wD hI;obtain⟨D',⟨yw,yu,I7,vt,Bn,hM,-⟩,hL⟩:=hI;obtain⟨n0,xQ⟩:=ex mo.bh.length;obtain⟨n1,vZ⟩:=ex mo.cp.length;obtain⟨n2,xP⟩:=ex mo.nodes.length;have Ez:=hM.bh;have GZ:=hM.cp;have As:=hM.nodes.row;rw[<-xQ] at Ez;rw[<-vZ] at GZ;rw[<-xP] at As;obtain⟨a0,XG,hv0⟩:=gu Ez;obtain⟨a1,XF,hv1⟩:=gu GZ;obtain⟨a2,XE,hv2⟩:=gu As;have hO:=HH.e;have hl0:n0<=600000:=by rw[xQ,mB];exact hO.out.nr
         have Au:n1<=600000:=by rw[vZ,mB];exact hO.out.nw
         have uP:n2<=124000:=by rw[xP,mB];exact hO.out.nn
         have We:=hM.box;rw[hv0,hv1,hv2] at We;have EW:cJ wD mb J:=A.a.of_block (D mb Pm);have Vl:=H1.b.size;have ET:=A.k;have ES:O (λb=>b=mb) w wD:=by
          have h2:w2=E.alloc (aF #[aD V 0 0,aD V 0 0,aD V 0 0,aD V 0 0] 180):=A.f;refine⟨hL.1.os.trans ((by rw[h2];rfl:w2.os=E.os).trans (ET.os.trans H1.b.os)),hL.1.tape.trans ((by rw[h2];rfl:w2.tape=E.tape).trans (ET.tape.trans H1.b.tape)),hL.1.output.trans ((by rw[h2];rfl:w2.output=E.output).trans (ET.output.trans H1.b.output)),by have:=hL.1.size;have:=A.h;have:=ET.size;omega,λb hb hn=>?_⟩
          exact(D b (by have:=ET.size;omega)).trans ((ET.block b (by omega) hn).trans (H1.b.block b hb))
         have Kr:w.heap.size<=wD.heap.size:=ES.size;have PO:iY wD 0 E.heap.size mo yw yu I7 vt Bn:=⟨hM.box,kM _,ji hM.bh (kM _),ji hM.cp (kM _),hM.nodes.base (kM _),ji hM.roots (kM _)⟩;have hMd:iY wD.drew 0 E.heap.size mo yw yu I7 vt Bn:=PO.same (λ_ _ _=>rfl) (aW _);have HBy:=X (XH E.heap.size mo yw yu I7 vt Bn wD.drew hMd (by rw[mB];exact hO.out))
         have k1:∀W:av,W.heap[E.heap.size]? =U (aF #[aD a0 n0 XG,aD a1 n1 XF,aD a2 n2 XE,vt] 180 (0,0))->W.cell? ⟨E.heap.size,0,V⟩=U (aD a0 n0 XG)∧W.cell? ⟨E.heap.size,1,V⟩=U (aD a1 n1 XF)∧W.cell? ⟨E.heap.size,2,V⟩=U (aD a2 n2 XE):=λW h=>⟨K h 0,K h 1,K h 2⟩;have HZ:=Df.mk EW ES mB xQ vZ xP Kr;clear D hM hL Ez GZ As hv0 hv1 hv2 hO EW ET ES PO hMd mB e0 xQ vZ xP Kr hj pW;go_wp2;refine vI ?_;refine Bs (λW=>W.heap[E.heap.size]? =U (aF #[aD a0 n0 XG,aD a1 n1 XF,aD a2 n2 XE,vt] 180 (0,0))) [0,1,2,3,4,5,6,7,8,9,10,11,12,13,14,15,16,17] (by kernel_rfl) (We) (λ_ _ _ _ _ h=>h) ?_
         repeat((apply pM _ rfl (by kernel_rfl) rfl;·intro W hSw;obtain⟨q0,q1,q2⟩:=k1 W hSw;go_simp;try with_reducible rfl);simp only[xd])
         refine Bt (by kernel_rfl) λhHeld=>?_
         refine vH ?_;clear hHeld k1 We;have hwa:aH.wrap ((n0:Int)+n1)=(n0:Int)+n1:=by rw[qA];omega
         have hwb:aH.wrap ((n0:Int)+n1+n2)=(n0:Int)+n1+n2:=by rw[qA];omega
         rw[hwa,hwb];clear hwa hwb;by_cases hz:n0+n1+n2=0
         ·have Kq:((n0:Int)+n1+n2==0)=Z:=by simp;omega
          rw[Kq];clear Kq;go_wp2;go_ret;obtain⟨EW,ES,mB,xQ,vZ,xP,Kr⟩:=kp HZ;refine⟨EW.drew,ES.trans (O.drew _ _),ax ⟨?_,rfl⟩⟩;rw[<-mB];have h0:mo.bh=[]:=B3 (by omega)
          have h1:mo.cp=[]:=B3 (by omega)
          have h2:mo.nodes=[]:=B3 (by omega)
          simp[dP.none,h0,h1,h2]
         ·have Kq:((n0:Int)+n1+n2==0)=ai:=by simp;omega
          rw[Kq];clear Kq;go_wp2_with (go_at_call 105;go_must (refine HBy.out.mono ?_);rintro e w9 ⟨v9,rfl,yV,hb9⟩;have H9:=cI.mk yV hb9;clear yV hb9;refine Halt.of ?_)
          unfold Halt;go_wp2;go_ret;obtain⟨EW,ES,mB,xQ,vZ,xP,Kr⟩:=HZ;have nB:O (λb=>b=mb) w w9:=(ES.trans (O.drew _ _)).trans (O.iL H9.b);refine⟨EW.drew.of_block (H9.b.block mb EW.lt),nB,aA ⟨?_,v9,rfl,?_⟩⟩
          ·rw[<-mB];have kE:¬(mo.bh=[]∧mo.cp=[]∧mo.nodes=[]):=λh=>by obtain⟨h0,h1,h2⟩:=h;rw[h0] at xQ;rw[h1] at vZ;rw[h2] at xP;simp only[lQ] at xQ vZ xP;omega
           simp only[dP.none,Bool.and_eq_false_iff,List.isEmpty_eq_false_iff];by_cases h0:mo.bh=[]
           ·by_cases h1:mo.cp=[]
            ·exact aA λh2=>kE ⟨h0,h1,h2⟩
            ·exact ax (aA h1)
           ·exact ax (ax h0)
          ·rw[<-mB];exact ji H9.a Kr
def firstM(L:List s)(n:Int):dP:=if n % 8=0 then⟨dX L jj,[jj],[],[]⟩ else⟨[],[],[],[y (dX L jj)]⟩
theorem MV:Q.underlying 108=U (.map 3 3):=by kernel_rfl
theorem JM{t:Type}[DecidableEq t](k:t)(v:ay):∀(l:List (t×ay)),look (put l k v) k=U v
 | []=>by simp[put,look]
 |(a,u)::l=>by
  unfold put;by_cases h:a=k
  ·rw[dn h];simp[look]
  ·rw[if_neg h];show(if a=k then U u else look (put l k v) k)=U v
   rw[if_neg h];exact JM k v l
theorem axL(W:av)(h){b g d a i c e f}(j:gV h=bN #[Y aq b,Y aq g,Y aq d,Y aq a,Y aq i,Y aq c,Y aq e,Y aq f]):
  iY ((W.alloc (aF #[Y aq b,Y aq g,Y aq d,Y aq a,Y aq i,Y aq c,Y aq e,Y aq f] 76)).alloc (aF #[aD V 0 0,aD V 0 0,aD V 0 0,aD (W) 1 1] 180)) 0 (W+1) ⟨[],[],[],[h]⟩ (aD V 0 0) (aD V 0 0) (aD V 0 0) (aD (W) 1 1) []:=by
 have k:((W.alloc (aF #[Y aq b,Y aq g,Y aq d,Y aq a,Y aq i,Y aq c,Y aq e,Y aq f] 76)).alloc (aF #[aD V 0 0,aD V 0 0,aD V 0 0,aD (W) 1 1] 180)).heap[W.heap.size+1]? =U (aF #[aD V 0 0,aD V 0 0,aD V 0 0,aD (W) 1 1] 180 (0,0)):=by
  grind[World.alloc_heap_new,World.size_alloc]
 refine⟨k,kM _,sd _ _ _ _,sd _ _ _ _,kI.nil _ _,⟨by simp[fG,j,AV],aA ⟨W,1,_,rfl,kM _,(dr _ _ _ (by simp)).trans (iN _ _),aW _,by decide,rfl,?_⟩⟩⟩
 simp[fG,j,AV]
theorem axK(W:av)(B)(a:B<=W.heap.size):
  iD ((W.alloc (aF #[aG ⟨#[]⟩] 9)).alloc (aF #[aD V 0 0,aD (W) 1 1,aD V 0 0,aD V 0 0] 180)) B (W+1) ⟨[],[jj],[],[]⟩ (xj (W+1) (aD V 0 0) (aD (W) 1 1) (aD V 0 0)):=by
 have b:((W.alloc (aF #[aG ⟨#[]⟩] 9)).alloc (aF #[aD V 0 0,aD (W) 1 1,aD V 0 0,aD V 0 0] 180)).heap[W.heap.size+1]? =U (aF #[aD V 0 0,aD (W) 1 1,aD V 0 0,aD V 0 0] 180 (0,0)):=by
  grind[World.alloc_heap_new,World.size_alloc]
 exact⟨_,_,_,aD V 0 0,[],⟨b,by omega,sd _ _ _ _,⟨rfl,aA ⟨W,1,_,rfl,a,(dr _ _ _ (by simp)).trans (iN _ _),aW _,by decide,rfl,rfl⟩⟩,kI.nil _ _,sd _ _ _ _⟩,rfl⟩
theorem axM(r n g)(id f d)(L)(bs)(w)(hR:fD w r id n g)(hB:cJ w n L)(ht:ga w)(hM:di (pV aH) w g bs)(ED:(look bs f).getD (Y aH 0)=Y aH d)(xQ:0<=d)(vZ:d<4611686018427387904)(hL:L.length<=1073741824)(hF:∀x∈L,Fit x)(KS:g≠n)(QX:Fz (firstM L (d+1))):
  bE Q 60 #[aE (r),f] w λe w'=>∃v,e=bj v∧dx w w' v (gi (firstM L (d+1)))∧di (pV aH) w' g (put bs f (Y aH (d+1)))∧O (λb=>b=g) w w':=by
 have oc:=hR.lt;have yS:=hB.lt;have sw:=hM.lt;have hrg:r≠g:=λe=>by
  obtain⟨en,ck,h,_⟩:=hM
  grind[fD]
 have h3g:(3:Nat)≠g:=λe=>by
  obtain⟨en,clock,I,_⟩:=hM;rw[<-e] at I;unfold ga x6 World.var? at ht
  grind[Dw]
 have r2:w.cell? ⟨r,2,V⟩=U (cj (g)):=K hR 2;have fK:aH.wrap (d+1)=d+1:=by grind[IntKind.wrap_i64]
 have hww:om (d+1)=d+1:=by unfold om;omega
 have q:=Df.mk hR hB ht hM ED hF QX;go_enter akf,ntmps60;go_wp2_with (first
  |(at_lookup;refine MH _ (pV aH) rfl _ _ 108 rfl 3 3 MV I9 _ (MW _) g bs f rfl q.d rfl ?_;rw[q.e])
  |(at_mapUpdate;refine MG _ (pV aH) rfl _ _ _ 108 rfl 3 3 MV I9 g bs f (Y aH (d+1)) rfl q.d rfl rfl ?_;intro w1 xZ Cq Cg;have QZ:=gD.mk xZ Cq Cg;refine Halt.of ?_))
 have P:fD w1 r id n g:=(QZ.b.block r oc hrg).trans q.a;have Q3:=q.b.of_block (QZ.b.block n yS (λe=>KS e.symm));have J:=q.c.keep QZ.b h3g;have r1:w1.cell? ⟨r,1,V⟩=U (cj (n)):=K P 1;have HC:=X (Qa n L jj w1 Q3 hL J q.f);obtain⟨m,T⟩:=ex (y (dX L jj));rw[<-T] at HC;have A:=Bi.mk P Q3 J QZ.c T;obtain⟨d0,N⟩:∃z,z=m/72057594037927936 % 256:=⟨_,rfl⟩;obtain⟨d1,M⟩:∃z,z=m/281474976710656 % 256:=⟨_,rfl⟩;obtain⟨d2,W⟩:∃z,z=m/1099511627776 % 256:=⟨_,rfl⟩;obtain⟨d3,S⟩:∃z,z=m/4294967296 % 256:=⟨_,rfl⟩;obtain⟨d4,R⟩:∃z,z=m/16777216 % 256:=⟨_,rfl⟩;obtain⟨d5,QW⟩:∃z,z=m/65536 % 256:=⟨_,rfl⟩;obtain⟨d6,Q0⟩:∃z,z=m/256 % 256:=⟨_,rfl⟩;obtain⟨d7,QY⟩:∃z,z=m % 256:=⟨_,rfl⟩;have E:gV m=bN #[Y aq d0,Y aq d1,Y aq d2,Y aq d3,Y aq d4,Y aq d5,Y aq d6,Y aq d7]:=by rw[N,M,W,S,R,QW,Q0,QY];rfl
 rw[E] at HC;have HD:=X E;clear N M W S R QW Q0 QY E;unfold Halt;go_wp2_with (go_at_call 51;go_must (refine HC.out.mono ?_);rintro e c ⟨rfl,AG⟩;have a:=X AG;refine Halt.of ?_)
 have lC:=a.out.size;have Q1:=QZ.b.trans (O.iL a.out);have PN:=QZ.a.of_block (a.out.block g QZ.a.lt);have F:fD c r id n g:=(a.out.block r (by have:=A.d;omega)).trans A.a
 have hB2:=A.b.of_block (a.out.block n A.b.lt);have adW:=A.d;have r2:c.cell? ⟨r,2,V⟩=U (cj (g)):=K F 2;have r3:c.cell? ⟨r,1,V⟩=U (cj (n)):=K F 1;have aEJ:r<c:=by omega
 have s:=sV.mk Q1 PN F hB2;have htm:(d+1).tmod 8=(d+1) % 8:=by grind
 obtain⟨n8,hn8⟩:=ex ((d+1) % 8);rw[<-hn8] at htm;unfold Halt;by_cases hq:n8=0
 ·have l:firstM L (d+1)=⟨dX L jj,[jj],[],[]⟩:=dn (by omega)
  obtain⟨o,Q2⟩:=ex ((c.alloc (aF #[Y aq d0,Y aq d1,Y aq d2,Y aq d3,Y aq d4,Y aq d5,Y aq d6,Y aq d7] 76)).alloc (aF #[aD V 0 0,aD V 0 0,aD V 0 0,aD (U ⟨c.heap.size,0,V⟩) 1 1] 180));have B:o.heap.size=c+1+1:=by rw[Q2];simp
  have Pz:bC c c o:=by rw[Q2];exact((ei _ _).alloc (aW _) _).alloc (by simp) _
  have hG:=axK o o.heap.size (aW _);obtain⟨H,u⟩:=ex ((o.alloc (aF #[aG ⟨#[]⟩] 9)).alloc (aF #[aD V 0 0,aD (U ⟨o.heap.size,0,V⟩) 1 1,aD V 0 0,aD V 0 0] 180));rw[<-u] at hG;have t:bC c c H:=Pz.trans (by rw[u];exact((ei _ _).alloc (by omega) _).alloc (by simp;omega) _)
  have nY:H.heap.size=o+1+1:=by rw[u];simp
  have nA:=q.g.nr;rw[l] at nA;have hT:=M9 o.heap.size (o.heap.size+1) n ⟨[],[jj],[],[]⟩ _ L jj H hG (s.d.of_block (t.block n s.d.lt)) (by omega) hL (by grind)
  have auo:H=(((c.alloc (aF #[Y aq d0,Y aq d1,Y aq d2,Y aq d3,Y aq d4,Y aq d5,Y aq d6,Y aq d7] 76)).alloc (aF #[aD V 0 0,aD V 0 0,aD V 0 0,aD (c) 1 1] 180)).alloc (aF #[aG ⟨#[]⟩] 9)).alloc (aF #[aD V 0 0,aD (U ⟨c+1+1,0,V⟩) 1 1,aD V 0 0,aD V 0 0] 180):=by grind
  rw[B] at hT;have HT:=zw.mk hT auo t nY B l;have aEI:r<c+1:=by omega
  have aEH:r<c+1+1:=by omega
  have au6:r<c+1+1+1:=by omega
  go_wp2_with (first
   |(at_lookup;refine MH _ (pV aH) rfl _ _ 108 rfl 3 3 MV I9 _ (MW _) g (put bs f (Y aH (d+1))) f rfl ((s.b.alloc _).alloc _) rfl ?_;rw[JM];simp only[fO])
   |(go_at_call 102;rw[<-HT.b];go_must (refine HT.a.mono ?_);rintro e w7 ⟨rfl,D7,tX,j⟩;have H7:=cI.mk tX j;refine Halt.of ?_))
  unfold Halt;obtain⟨vr,vw,vn,vd,xs,p,CC⟩:=H7.a;have PO:iY w7 0 (c+1+1+1) (firstM L (d+1)) vr vw vn vd xs:=by rw[HT.f];exact⟨p.box,kM _,ji p.bh (kM _),ji p.cp (kM _),p.nodes.base (kM _),ji p.roots (kM _)⟩
  have C:=X (XH (c.heap.size+1+1+1) _ _ _ _ _ _ _ PO q.g);go_wp2_with (go_at_call 105;go_must (refine C.out.mono ?_);rintro e w9 ⟨v9,rfl,G,D⟩;have H9:=X (bP G D);refine Halt.of ?_)
  unfold Halt;go_wp2;go_ret;obtain⟨-,-,t,nY,B,l⟩:=HT;have j:=H7.b;have k:=H9.out;have hz7:=j.1.size;have KI:∀b,b<c.heap.size->¬xj (c+1+1+1) (aD V 0 0) (aD (U ⟨c+1+1,0,V⟩) 1 1) (aD V 0 0) b:=λb I hd=>by
   rcases hd with h|h|h|h
   ·omega
   ·cases h
   ·cases h
    grind
   ·cases h
  have i:=t.trans ((⟨j.1.os,j.1.tape,j.1.output,hz7,λb I=>j.1.block b (by omega) (KI b I)⟩:bC c.heap.size H w7).trans ⟨k.2.os,k.2.tape,k.2.output,k.2.size,λb I=>k.2.block b (by omega)⟩)
  refine⟨v9,rfl,?_,s.b.of_block (i.block g s.b.lt),s.a.trans (O.iL i)⟩;exact ji k.1 (by grind)
 ·have l:firstM L (d+1)=⟨[],[],[],[y (dX L jj)]⟩:=if_neg (by omega)
  have C:=X (XH (c.heap.size+1) _ _ _ _ _ _ _ (axL c m HD.out) (by rw[A.e,<-l];exact q.g))
  go_wp2_with (first
   |(at_lookup;refine MH _ (pV aH) rfl _ _ 108 rfl 3 3 MV I9 _ (MW _) g (put bs f (Y aH (d+1))) f rfl ((s.b.alloc _).alloc _) rfl ?_;rw[JM];simp only[fO])
   |(go_at_call 105;go_must (refine C.out.mono ?_);rintro e w9 ⟨v9,rfl,G,D⟩;have H9:=X (bP G D);refine Halt.of ?_))
  unfold Halt;go_wp2;go_ret;have k:=H9.out;have i:bC c c w9:=by exact(((ei _ _).alloc (aW _) _).alloc (by simp) _).trans ⟨k.2.os,k.2.tape,k.2.output,k.2.size,λb I=>k.2.block b (by simp;omega)⟩
  refine⟨v9,rfl,?_,s.b.of_block (i.block g s.b.lt),s.a.trans (O.iL i)⟩;rw[(X l).out,<-A.e];exact ji k.1 (by simp;omega)
end
section
variable{L l:List s}{p:ByteArray}
theorem Tn(x:s):preB p x.key=below p x.name x.field:=by rw[Al,vh];unfold preB LN;exact List.isPrefixOf_iff_prefix
theorem yy(h:Bk L l)(p):dX L p=q l p:=by rw[h.below p];exact List.filter_congr λx _=>Tn x
theorem Uf(h:Bk L l){k}:k∈jG (qK L p)↔ ∃x∈l,x.key=k∧below p x.name x.field=Z:=by
 rw[(Ji _).mem_iff];unfold qK;rw[xH,lR];constructor
 ·rintro⟨⟨x,a,rfl⟩,c⟩;exact⟨x,h.perm.subset a,rfl,by grind[Tn]⟩
 ·rintro⟨x,a,rfl,b⟩;exact⟨⟨x,h.perm.symm.subset a,rfl⟩,by grind[Tn]⟩
theorem TP{x:s}(e:below p x.name x.field=Z)(hs:p.size<x.key.size):below (push p (rX p.size x.key)) x.name x.field=Z:=by
 obtain⟨c,b⟩:=ahD e hs;have:rX p.size x.key=c:=by
  rw[Od hs];rw[vh,ye] at b;obtain⟨t,d⟩:=b;have f:(bl x.key)[p.size]? =c:=by
   show(bl (iA x.name x.field))[p.size]? =U c;rw[<-d,jy,List.getElem?_append_right (by rw[tC];grind),tC]
   simp
  have g:(bl x.key)[p.size]? =(x.key[p.size]'hs):=by
   unfold bl;rw[pR (by grind)]
   rfl
  grind
 grind
theorem arp{x}(e:Good x)(c:(0)∉bl p)(b:below p x.name x.field=Z):p.size<x.key.size:=by
 refine nq λg=>c ?_;rw[vh] at b;have d:=b.length_le;rw[tC,tC] at d;have f:=b.eq_of_length (by rw[tC,tC];have:x.key.size=(iA x.name x.field).size:=rfl;omega)
 grind[zi]
theorem GO(h:Bk L l)(g:p.size<=4096)(f:(0)∉bl p):xJ L p:=by
 refine⟨g,λk d=>?_⟩;obtain⟨x,a,rfl,c⟩:=(Uf h).1 d;have b:=arp (h.lT x a) f c;refine⟨b,?_⟩;rcases XK (h.lT x a) (TP c b) with e|e|e
 ·rw[e];decide
 ·rw[e];decide
 ·unfold letter at e;simp only[cS,fI,UInt8.le_iff_toNat_le] at e
  grind
theorem TD(c:UInt8):∀(l a:List UInt8),c∈lO a l↔c∈a∨c∈l
 | [],a=>by simp[lO]
 |d::l,a=>by
  unfold lO;split
  ·rename_i b;rw[TD c l a]
   grind
  ·rw[TD c l _]
   grind
theorem abL(h:Bk L l)(j:xJ L p)(c):c∈kA L p↔c∈oW l p:=by
 unfold kA;rw[TD,JH];constructor
 ·rintro(d|d)
  ·cases d
  ·obtain⟨k,b,rfl⟩:=lR.1 d;obtain⟨x,i,rfl,f⟩:=(Uf h).1 b;intro e;have:=my.2 ⟨i,TP f (j.2 _ b).1⟩
   grind
 ·intro g;obtain⟨x,i⟩:=Ek _ g;obtain⟨d,m⟩:=my.1 i;right;have f:=yf m;have b:=(Uf (p:=p) h).2 ⟨x,d,rfl,f⟩;refine lR.2 ⟨x.key,b,?_⟩;exact ahF (TP f (j.2 _ b).1) m
theorem Yv:∀{a b:List UInt8},a.Pairwise (· < ·)->b.Pairwise (· < ·)->(∀c,c∈a↔c∈b)->a=b
 | [],[],_,_,_=>rfl
 | [],y::b,_,_,h=>absurd ((h y).2 (uF ..)) (by simp)
 |x::a,[],_,_,h=>absurd ((h x).1 (uF ..)) (by simp)
 |x::a,y::b,g,i,h=>by
  have d:=vQ.1 g;have e:=vQ.1 i;have f:x=y:=by
   grind[List.mem_cons_self,UInt8.lt_trans,UInt8.lt_irrefl]
  subst f;rw[Yv d.2 e.2 λc=>?_]
  grind
theorem aAY:C8.Pairwise (· < ·):=by
 unfold C8;rw[Ke]
 grind[List.Pairwise.imp_of_mem,List.pairwise_lt_range,UInt8.lt_iff_toNat_lt,UInt8.toNat_ofNat']
theorem amM{l}(h:l.Nodup):(ki l).Pairwise (· < ·):=by
 have e:(ki l).Pairwise (λx y=>cq (x<=y)=Z):=Kc (λa b c e d=>by grind) (λa b=>by
  grind) l
 have d:(ki l).Nodup:=(GC l _).nodup_iff.2 h;refine List.Pairwise.imp₂ (λa b e d=>?_) e d
 grind
theorem Zr(h:Bk L l)(a:xJ L p)(P):ki ((kA L p).filter P)=(oW l p).filter P:=by
 refine Yv (amM ((JE _ _ List.nodup_nil).sublist ac7)) ((aAY.filter _).filter _) λc=>?_
 grind[Zt,abL]
theorem atr(h:Bk L l)(a:xJ L p):pg L p=B8 y l p:=by
 have b:=Zr h a λ_=>Z
 grind[List.filter_eq_self,pg,B8,List.map_congr_left,yy]
theorem ab1(h:Bk L l)(a:xJ L p):BX L p=iT y l p:=by
 grind[BX,iT,atr]
section
variable {L l:List s} {m mi:dP} {n:Nd}
theorem abg{p}{c}(a:(0)∉bl p)(b:c≠0):(0)∉bl (push p c):=by
 grind[ye]
theorem cmp_eq(h:Bk L l)(o:n.pfx.size<=4000)(d:(0)∉bl n.pfx):nH L m n={m with bh:=m.bh++wK y l n,cp:=m.cp++ue y l n,nodes:=m.nodes++ug y l n}:=by
 have b:=GO h (p:=n.pfx) (by omega) d
 have a:∀c,c∈kA L n.pfx↔q l (push n.pfx c)≠ []:=λc=>by rw[abL h b,JH]
 have e:cR L n.pfx=qI y l n.pfx:=funext λk=>by
  grind[cR,qI,yy]
 have f:cW L n.pfx=qH y l n.pfx:=funext λk=>by unfold cW qH;simp only[a,yy h,Decidable.not_not]
 have g:cN L n.pfx=qJ y l n.pfx:=funext λk=>by
  unfold cN qJ
  grind[yy,ab1,GO,size_push,abg]
 have j:Ga L n=BF l n:=Zr h b _;have i:(λc=>dX L (push n.pfx c))=λc=>q l (push n.pfx c):=funext λc=>yy h _;unfold nH uX jx
 grind[wK,ue,ug,List.append_assoc]
theorem abZ(h:Bk L l):∀(a:List Nd) (m:dP),(∀n∈a,n.pfx.size<=4000∧(0:UInt8)∉bl n.pfx)->lP L m a={m with bh:=m.bh++a.flatMap (wK y l),cp:=m.cp++a.flatMap (ue y l),nodes:=m.nodes++a.flatMap (ug y l)}
 | [],m,_=>by simp[lP]
 |n::a,m,b=>by
  have d:=b n (uF ..);have e:=abZ h a (nH L m n) λx c=>b x (uE _ c)
  grind[lP,nH,cmp_eq,List.append_assoc]
theorem agn:jj.size=0:=rfl
theorem aaK(h:Bk L l):∀(ds:List Int) (m:dP),jS L m ds={m with nodes:=m.nodes++ds.flatMap λd=>if d=y l then [] else [iT y l ⟨#[]⟩]}
 | [],m=>by simp[jS]
 |d::ds,m=>by
  have b:dX L jj=l:=by rw[yy h];exact FQ l
  have a:xJ L jj:=GO h (by grind[agn]) (by simp[jj,bl])
  show jS L (yB L m d) ds=_;rw[aaK h ds];unfold yB;rw[b];by_cases hd:d=y l
  ·grind
  ·rw[if_neg hd,ab1 h a]
   grind[jj]
theorem aqL(h:Bk L l)(b:mi.cp=mi.cp)(a:∀n∈mi.nodes,n.pfx.size<=4000∧(0)∉bl n.pfx):rQ L mi=t y l mi:=by
 unfold rQ;rw[aaK h,abZ h _ _ a];have e:=funext λp=>yy h p
 grind[pL,xp,t]
theorem Y2:∀(R:List s) {L l:List s},Bk L l->(∀x∈R,Good x)->Bk (R.foldl fq L) (R.foldl ins l)
 | [],_,_,h,_=>h
 |x::R,L,l,h,a=>Y2 R (h.take (a x (uF ..))) λy b=>a y (uE _ b)
theorem af6(h:Bk L l)(k):firstM L k=if k % 8=0 then⟨l,[jb],[],[]⟩ else⟨[],[],[],[y l]⟩:=by
 have a:dX L jj=l:=by rw[yy h];exact FQ l
 unfold firstM;rw[a];rfl
end
section
variable {hs:List s->Int} {cl:Prop} {A B X G:List s} {m m':dP} {P k ℓ:Nat}
theorem mg.av4(M:mg hs A B X G m ℓ):wt A B (aS X (t hs (aS G m) m)) (jC (ℓ+1)) (t hs (aS G m) m).bh (t hs (aS G m) m).cp (t hs (aS G m) m).nodes<=phi A B (aS G m) ℓ m:=by
 have b:(t hs (aS G m) m).cp=[]++m.nodes.flatMap (ue hs (aS G m)):=rfl;have d:(t hs (aS G m) m).nodes=[]++m.nodes.flatMap (ug hs (aS G m)):=by show _++m.roots.flatMap _=_;rw[M.roots];simp
 have e:(t hs (aS G m) m).bh=m.cp.flatMap (q (aS G m))++m.nodes.flatMap (wK hs (aS G m)):=rfl;rw[b,d,e,MF,Rm,ME,Gr,UN,<-Bv];unfold phi;have f:=FP (l:=m.nodes) (f:=λa=>wt A B (aS X (t hs (aS G m) m)) (jC (ℓ+1)) (wK hs (aS G m) a) (ue hs (aS G m) a) (ug hs (aS G m) a)) (g:=λa=>dC A B a.pfx*jC ℓ) λa c=>M.nd c
 grind
theorem mg.ajh(M:mg hs A B X G m ℓ):∀w∈(t hs (aS G m) m).cp,1<=(q (aS X (t hs (aS G m) m)) w).length:=λw i=>by
 obtain⟨g,l,b⟩:=qz.1 i;rw[M.node g l] at b;obtain⟨c,rfl,d,-⟩:=Oi.1 b;obtain⟨x,n⟩:=Ek _ d;obtain⟨e,j⟩:=my.1 n;have f:=M.step;have a:C (aS X (t hs (aS G m) m)) x.name x.field≠V:=by
  rw[FM f.bk.sX f.bk.sY f.bh];have s:=Mm e;split
  ·cases h:C X x.name x.field with
   |none=>grind
   |some y=>
    cases C (aS G m) x.name x.field<;>simp[gT]
  grind
 cases h:C (aS X (t hs (aS G m) m)) x.name x.field with
 |none=>grind
 |some y=>
  obtain⟨o,p,r⟩:=wL h;have:y∈q (aS X (t hs (aS G m) m)) (push g.pfx c):=my.2 ⟨o,by grind⟩
  grind
end
theorem Hz{x}(h:Good x)(c:Fits x):Fit x:=by
 have i:=h.JG;have g:=h.Lq;have e:=h.value;obtain⟨d,b⟩:=c;have a:∀z:Int,gF z<18446744073709551616->ic z:=λz f=>by
  grind[gF,ic]
 exact⟨by omega,by omega,by omega,a _ d,a _ b⟩
theorem TF{x}(h:Good x):x.Ok:=⟨by have:=h.JG;omega,by have:=h.Lq;omega⟩
theorem abX{t:Type}[DecidableEq t]:∀{a b:List t},a.Nodup->(∀x∈a,x∈b)->a.length<=b.length
 | [],_,_,_=>kM _
 |x::a,b,f,h=>by
  have c:=Ep.1 f;have g:=h x (uF ..);have i:=abX (b:=b.erase x) c.2 λy d=>(List.mem_erase_of_ne (λe=>c.1 (by grind))).2 (h y (uE _ d))
  grind
theorem adO(x:s):∀l:List s,(ins l x).length<=l.length+1
 | []=>aW _
 |y::l=>by
  have a:=adO x l
  grind[ins,List.length_cons]
theorem P6:∀(R l:List s),(R.foldl ins l).length<=l.length+R.length
 | [],l=>aW _
 |x::R,l=>by
  have:=P6 R (ins l x)
  grind[adO,List.length_cons]
structure Bl(m:dP):Prop where
 nr:m.bh.length<=600000
 nw:m.cp.length<=600000
 nn:m.nodes.length<=124000
 nd:m.roots.length<=100000
theorem Ob{X}{p}(a:∀x∈X,Good x):(iT y X p).kids.length<=28:=by
 show((oW X p).map _).length<=28
 grind[List.length_map,ab8]
theorem arn(X)(p):((iT y X p).kids.map (·.1)).Nodup:=by
 show(((oW X p).map _).map _).Nodup;rw[En]
 grind[y,q,push,List.map_id,TN]
theorem arl(X)(p):∀k∈(iT y X p).kids,sO k.2:=λk a=>by obtain⟨c,-,rfl⟩:=lR.1 (show k∈(oW X p).map _ from a);exact PC _
section
variable {cl:Prop} {A B X F LY:List s} {m:dP} {P k:Nat}
theorem gC.ok(T:gC y cl A B X F m P k)(a:Bl m):X5 m:=by
 refine⟨λx d=>Hz (T.bk.gX x (T.bh x d)) (T.fX x (T.bh x d)),?_,?_,a.nr,a.nw,a.nn,a.nd⟩
 ·rcases T.xO with⟨-,-,rfl,-⟩|⟨c,M,e,-⟩
  ·grind
  ·intro s f;rw[M.IY s f]
   grind
 ·rcases T.xO with⟨-,-,rfl,-⟩|⟨c,M,e,-⟩
  ·grind
  ·intro n b;rw[M.size n b];have g:=M.deep (GA b);have h:n.kids.length<=28:=by rw[M.node n b];exact Ob M.bk.gX
   grind
theorem gC.Gl(T:gC y cl A B X F m P k):∀n∈m.nodes,n=iT y X n.pfx∧n.pfx.size<=13∧(0)∉bl n.pfx:=by
 rcases T.xO with⟨-,-,rfl,-⟩|⟨b,M,c,-⟩
 ·grind
 ·intro n a;exact⟨M.node n a,by rw[M.size n a];exact(M.deep (GA a)),M.nz n a⟩
theorem gC.rL(T:gC y cl A B X F m P k)(h:Bk LY F):Bk (m.bh.foldl fq LY) (aS F m):=Y2 _ h λx a=>T.bk.gX x (T.bh x a)
theorem gC.out(T:gC y cl A B X F m P k)(h:Bk LY F):rQ (m.bh.foldl fq LY) m=t y (aS F m) m:=aqL (T.rL h) rfl λn b=>by
 have:=T.Gl n b
 grind
theorem gC.abD(T:gC y cl A B X F m P k)(u:P<=33000000):Fz (t y (aS F m) m):=by
 rcases T.xO with⟨rfl,rfl,rfl,-⟩|⟨i,M,r,C,-⟩
 ·have Q1:aS F ⟨[],[],[],[y X]⟩=F:=rfl;have o:(t y F ⟨[],[],[],[y X]⟩).nodes=[]∨(t y F ⟨[],[],[],[y X]⟩).nodes=[iT y F jb]:=by
   grind[t]
  rw[Q1];refine⟨λx g=>(by cases g),λs h=>(by cases h),λn c=>?_,by show 0<=_;omega,by show 0<=_;omega,?_,by show 0<=_;omega⟩
  ·rcases o with e|e
   ·grind
   ·rw[e,mA] at c;subst c;have:=Ob (X:=F) (p:=jb) T.bk.gY;have Q0:(iT y F jb).pfx.size=0:=rfl
    grind
  grind
 ·have b:=M.step;have j:=M.av4;have f:=M.ajh;have l:phi A B (aS F m) i m<=33000000:=by omega
  have p:(t y (aS F m) m).cp.length<=((t y (aS F m) m).cp.map λw=>(q (aS X (t y (aS F m) m)) w).length).sum:=by
   generalize(t y (aS F m) m).cp=W at f;induction W with
   |nil=>simp
   |cons w W z=>
    grind
  have d:((t y (aS F m) m).cp.map λw=>56*(q (aS X (t y (aS F m) m)) w).length).sum=((t y (aS F m) m).cp.map λw=>(q (aS X (t y (aS F m) m)) w).length).sum*56:=by
   rw[<-Bv]
   grind
  unfold wt at j;rw[d] at j;refine⟨λx g=>Hz (b.bk.gX x (b.bh x g)) (T.tk.2 x (b.bh x g)),λs h=>?_,λn c=>?_,by omega,by omega,by omega,by rw[b.roots];simp⟩
  ·rw[b.IY s h];obtain⟨a,c,-⟩:=qz.1 h;have:=M.deep (GA c);omega
  ·have E:=b.deep (GA c);have D:n.kids.length<=28:=by rw[b.node n c];exact Ob b.bk.gX
   have v:=b.size n c
   grind
theorem Fz.cnt{m}(h:Fz m):Bl m:=⟨h.nr,h.nw,h.nn,h.nd⟩
theorem gC.an(T:gC y cl A B X F m P k)(h:Bk LY F)(i:Bl m)(o:P<=33000000)(q:F.length<=1000000000):Rh (m.bh.foldl fq LY) m:=by
 have f:=T.rL h;have l:∀d∈m.roots,sO d:=by
  rcases T.xO with⟨-,-,rfl,-⟩|⟨g,M,-⟩
  ·grind[List.mem_singleton,PC]
  ·rw[M.roots];grind
 refine⟨?_,λx j=>?_,λn b=>?_,λn b=>?_,λn b=>?_,λn b c p=>?_,λn b=>?_,?_,l,?_⟩
 ·rw[f.perm.length_eq];have:=P6 m.bh F;have:=i.nr;show(List.foldl ins F m.bh).length<=_;omega
 ·have e:=f.perm.subset j;exact Hz (f.lT x e) (T.tk.2 x e)
 ·rw[(T.Gl n b).1];grind[arn]
 ·rw[(T.Gl n b).1];exact arl _ _
 ·have:=T.Gl n b
  grind[GO]
 ·have:=T.Gl n b
  grind[GO,size_push,abg]
 ·have:n.kids.length<=28:=by rw[(T.Gl n b).1];exact Ob T.bk.gX
  omega
 ·exact GO f (by grind[agn]) (by simp[jj,bl])
 ·rw[T.out h];exact T.abD o
end
structure zu where
 p:Nat
 id:Int
 mb:Nat
 gb:Nat
def zu.At(R:zu)(w:av):Prop:=fD w R.p R.id R.mb R.gb
structure QV(cl:Prop)(A B:List s)(P0:Nat)(c:Option Int)(A' B':List s)(j z:Nat):Prop where
 bk:rE A B A' B'
 fA:∀x∈A',Fits x
 fB:∀x∈B',Fits x
 cap:∀x,c=U x->0<=x->(j:Int)<=x
 zero:j=0↔c=U 0
 size:z<=P0
 whole:(c=V∨∃x,c=U x∧(x<0∨(j:Int)<x))->cl->A'=kP A B∧B'=kP A B
 j16:j<=17
 jz:j<=z
structure zo(N:Nat)(R0 R1:zu)(A B:List s)(cl:Prop)(P0:Nat)(c:Option Int)(w1:av)(k j z:Nat)(v:ay)(ok:Bool)(S R:zu)(W:av)(AS AR LX LY X Y:List s):Prop where
 who:(S=R0∧R=R1∧AS=A∧AR=B)∨(S=R1∧R=R0∧AS=B∧AR=A)
 bX:cJ W S.mb LX
 kX:Bk LX X
 bY:cJ W R.mb LY
 kY:Bk LY Y
 keep:O (λb=>b=R0.mb∨b=R1.mb) w1 W
 cap:∀x,c=U x->0<=x->(j:Int)<=x
 lX:X.length<=10000000+600000*j
 lY:Y.length<=10000000+600000*j
 Kn:j<=17
 zP:z<=P0
 st:(ok=Z∧∃m P k',k=k'+1∧j+k'<=16∧z+P<=P0∧gC y cl AS AR X Y m P k'∧Bl m∧dx N W v (gi m))∨
  (ok=ai∧k=0∧1<=j∧rE AS AR X Y∧(∀x∈X,Fits x)∧(∀x∈Y,Fits x)∧(cl->X=kP AS AR∧Y=kP AS AR))
 jz:j<=z
theorem Eb(m):1<=(gi m).length:=by
 grind[gi,cV,List.length_append,ara]
section
variable {N:Nat} {R0 R1 S R:zu} {A B AS AR LX LY X Q2:List s} {cl:Prop} {P0 k j z:Nat} {c:Option Int} {w1 W W':av} {v v':ay} {ok:Bool} {m:dP} {P k':Nat}
theorem gC.mono{hs}{cl cl'}{A B X Q2}{m}{P k}(T:gC hs cl A B X Q2 m P k)(h:cl'->cl):gC hs cl' A B X Q2 m P k:=
 ⟨T.bk,T.fX,T.fY,T.xO.imp (λ⟨a,b,c,d,e,f⟩=>⟨a,b,c,d,e,λx=>f (h x)⟩) λ⟨g,M,a,b,c,f⟩=>⟨g,M,a,b,c,λx=>f (h x)⟩⟩
theorem rE.swap{A B X Q2}(h:rE A B X Q2):rE B A Q2 X:=⟨h.sB,h.sA,h.sY,h.sX,h.gY,h.gX,h.bY,h.bX⟩
theorem zo.next(I:zo N R0 R1 A B cl P0 c w1 k j z v Z S R W AS AR LX LY X Q2)(H:R0.mb≠R1.mb)(hP:P0<=33000000)(f:∀x,c=U x->0<=x->(j)<x)(Q3:N<=W)
  (T:gC y cl AS AR X Q2 m P k') (E:Bl m) (hk:k=k'+1) (Q0:j+k'<=16) (Q1:z+P<=P0)
  (u:cJ W' R.mb (m.bh.foldl fq LY)) (QW:O (λb=>b=R.mb) W W')
  (w:((rQ (m.bh.foldl fq LY) m).none=Z∧ok=ai)∨((rQ (m.bh.foldl fq LY) m).none=ai∧ok=Z∧dx W W' v' (gi (rQ (m.bh.foldl fq LY) m)))):
  ∃n,n<k∧zo N R0 R1 A B cl P0 c w1 n (j+1) (z+(gi m).length) v' ok R S W' AR AS (m.bh.foldl fq LY) LX (aS Q2 m) X:=by
 have i:(R=R0∧S=R1∧AR=A∧AS=B)∨(R=R1∧S=R0∧AR=B∧AS=A):=by
  rcases I.who with⟨a,b,c,d⟩|⟨a,b,c,d⟩
  all_goals grind
 have s:S.mb≠R.mb:=by
  grind
 rw[(T.out I.kY)] at w;have K:=T.size;have M:=Eb m;have p:(aS Q2 m).length<=10000000+600000*(j+1):=by have:=P6 m.bh Q2;have:=E.nr;have:=I.lY;show(List.foldl ins Q2 m.bh).length<=_;omega
 have l:X.length<=10000000+600000*(j+1):=by have:=I.lX;omega
 have h:∀x,c=U x->0<=x->((j+1:Nat):Int)<=x:=λx C r=>by grind
 have g:=I.keep.trans (QW.mono λb _ e=>by
  grind)
 have o:=I.bX.of_block (QW.block S.mb I.bX.lt s);have q:=T.tk;rcases w with⟨C,r⟩|⟨C,r,L⟩
 ·refine⟨0,by omega,i,u,T.rL I.kY,o,I.kX,g,h,p,l,by omega,by omega,aA ⟨r,rfl,by omega,q.1,q.2,T.fX,λQX=>?_⟩,by have:=I.jz;omega⟩
  obtain⟨D,Q⟩:=T.last (by unfold Ft;grind) QX
  rw[D,U7 T.bk.sB T.bk.sA]
  grind
 ·have F:Ft y Q2 m=(t y (aS Q2 m) m):=by unfold Ft;grind
  obtain⟨G,n,g1,g2,J⟩:=T.next F;refine⟨n+1,by omega,i,u,T.rL I.kY,o,I.kX,g,h,p,l,by omega,by omega,ax ⟨r,_,G,n,rfl,by omega,by omega,J,(T.abD (by omega)).cnt,ji L Q3⟩,by have:=I.jz;omega⟩
theorem zo.over(I:zo N R0 R1 A B cl P0 c w1 k j z v ok S R W AS AR LX LY X Q2)(s:ok=ai∨∃x,c=U x∧0<=x∧x<=(j)):
  ∃n f i q,cJ W R0.mb n∧Bk n i∧cJ W R1.mb f∧Bk f q∧QV cl A B P0 c i q j z:=by
 have e:rE AS AR X Q2∧(∀x∈X,Fits x)∧(∀x∈Q2,Fits x)∧(j=0↔c=U 0)∧((c=V∨∃x,c=U x∧(x<0∨(j:Int)<x))->cl->X=kP AS AR∧Q2=kP AS AR):=by
  have t:c=U 0->j=0:=λh=>by have:=I.cap 0 h (by omega);omega
  rcases I.st with⟨d,m,P,k',-,-,-,T,-⟩|⟨d,-,H,G,F,D,E⟩
  ·subst d;obtain⟨x,w,r,u⟩:=s.resolve_left (by simp)
   refine⟨T.bk,T.fX,T.fY,⟨λh=>?_,t⟩,λC=>?_⟩
   all_goals grind
  grind
 obtain⟨b,o,l,g,p⟩:=e;rcases I.who with⟨rfl,rfl,rfl,rfl⟩|⟨rfl,rfl,rfl,rfl⟩
 ·exact⟨LX,LY,X,Q2,I.bX,I.kX,I.bY,I.kY,b,o,l,I.cap,g,I.zP,p,I.Kn,I.jz⟩
 ·refine⟨LY,LX,Q2,X,I.bY,I.kY,I.bX,I.kX,b.swap,l,o,I.cap,g,I.zP,λd y=>?_,I.Kn,I.jz⟩;have:=p d y;rw[U7 b.sA b.sB] at this
  grind
def vf(A B:List s)(n:Int):Nat:=if n % 8=0 then 80+56*A.length+56*(A.length+B.length) else 76+3880*dC A B jb
theorem ay1(A B)(p):dC A B p<=A.length+B.length:=by unfold dC;refine bq (Em _ _) ?_;unfold q;refine bq (Em _ _) ?_;exact P6 B A
theorem azG{A B}(d:A.length<=4096)(b:B.length<=4096)(n):vf A B n<=33000000:=by
 unfold vf;have:=ay1 A B jb
 grind
theorem zo.start{n}(g:Bk LX A)(i:Bk LY B)(s:∀x∈A,Fits x)(C:∀x∈B,Fits x)(D:A.length<=4096)(F:B.length<=4096)(u:cJ W R0.mb LX)(w:cJ W R1.mb LY)(p:dx N W v (gi (firstM LX n))):
  zo N R0 R1 A B (n % 8=0∨Clear y A B) (vf A B n) c W 17 0 0 v Z R0 R1 W A B LX LY A B:=by
 have l:∀x∈A,Good x∧Fits x:=λx h=>⟨g.lT x h,s x h⟩;have o:∀x∈B,Good x∧Fits x:=λx h=>⟨i.lT x h,C x h⟩;have Q0:∃P,P<=vf A B n∧gC y (n % 8=0∨Clear y A B) A B A B (firstM LX n) P 16∧Bl (firstM LX n):=by
  rw[af6 g];unfold vf;by_cases h:n % 8=0
  ·rw[dn h,dn h];obtain⟨P,k,T,rfl,rfl⟩:=gC.aoR (hs:=y) g.sorted i.sorted l o;refine⟨_,aW _,⟨T.bk,T.fX,T.fY,?_⟩,⟨by grind,by simp,by simp,by simp⟩⟩
   rcases T.xO with⟨-,-,e,-⟩|⟨q,M,a,b,d,f⟩
   all_goals grind
  ·rw[if_neg h,if_neg h];exact⟨_,aW _,(gC.root g.sorted i.sorted l o).mono λt=>t.resolve_left h,⟨by simp,by simp,by simp,by simp⟩⟩
 obtain⟨P,E,T,r⟩:=Q0;exact⟨ax ⟨rfl,rfl,rfl,rfl⟩,u,g,w,i,O.refl _ _,λx _ h=>h,by omega,by omega,by omega,kM _,ax ⟨rfl,_,P,16,rfl,by omega,by omega,T,r,p⟩,aW _⟩
end
end
end Go.Proofs.YtpdbmpbmepkikaaGreatDoor
