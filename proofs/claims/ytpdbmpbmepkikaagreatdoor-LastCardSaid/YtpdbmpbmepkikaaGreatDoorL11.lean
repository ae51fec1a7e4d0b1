/- Laws. -/
import Derived.Test.YtpdbmpbmepkikaaGreatDoorL09
set_option maxRecDepth 100000
set_option maxHeartbeats 400000
set_option linter.all false
open Go.Proofs.Tryz
open And renaming intro->aM
open Bool renaming true->Z,false->ai
open Decidable renaming decide->bP
open Go renaming World->ax,Value->az,Calls->bz
open Go.Ending renaming returned->bj
open Go.IntKind renaming i64->aG
open Go.Obj renaming cells->aH
open Go.RowKit renaming Below->aY,Hid->dx,wrap64->jM
open Go.Value renaming int->Y,slice->aC,string->aE,pointer->aF,bool->cx
open Option renaming some->U,none->V
namespace Go.Proofs.YtpdbmpbmepkikaaGreatDoor
def YY:=@decide_eq_false
def YX:=@List.getElem?_map
section
variable{J X C:List s}{r x:s}{n:ByteArray}
theorem agQ(r:s):j [r]:=List.pairwise_singleton ..
theorem aiO(J:List s)(r:s):fZ J [r]=ins J r:=rfl
theorem ahh(E:j J)(hr:∀y∈J,y.c<r.c):D (ins J r) r.name r.field=U r:=by rw[Va E,cJ ⟨rfl,rfl⟩];cases h:D J r.name r.field with|none=>rfl|some y=>have hy:=hr y (uD h).1;show U (if j4 r y then r else y)=_;rw[cJ<|by unfold j4;rw[cJ<|by omega];exact Kk hy]
theorem axk(E:j J)(hr:∀y∈J,y.c<r.c):r∈ins J r:=(uD<|ahh E hr).1
theorem aiS(E:j J)(r:s):fZ (ins J r) J=ins J r:=by have h1:=agQ r;rw[<-aiO,NP E h1,ZG h1 E E,aiP E]
theorem azC(hC:j C)(E:j X)(r:s):fZ (ins (fZ C X) r) X=ins (fZ C X) r:=by have h1:=agQ r;have h2:=ue hC X;rw[<-aiO,NP h2 h1,ZG h1 h2 E,ZG hC E E,aiP E]
theorem ak4(l:List s)(n:ByteArray):Uv l n=D l n ⟨#[]⟩:=rfl
theorem axj(E:j J)(hr:∀y∈J,y.c<r.c)(hf:r.field≠⟨#[]⟩):r∈qD (ins J r) r.name:=by refine rX.2 ⟨axk E hr,?_⟩;have h1:bP (r.field=⟨#[]⟩)=ai:=YY hf;unfold JF;rw[h1,Kk rfl,ak4,Va E,if_neg λh=>hf h.2];cases h:D J r.name ⟨#[]⟩with|none=>rfl|some y=>have:=hr y (uD h).1;simp[wN,this]
theorem aEH(E:j J)(hr:∀y∈J,y.c<r.c)(hf:r.field=⟨#[]⟩):qD (ins J r) r.name=[]:=by
 have h0:=ahh E hr;rw[hf]at h0;refine List.filter_eq_nil_iff.2 λy hy hs=>?_;unfold JF at hs;rw[ak4,h0]at hs;simp only[cG,eU,Zp,decide_eq_false_iff_not]at hs;obtain⟨⟨h1,h2⟩,h3⟩:=hs;rcases GZ hy with e|e;.rw[e]at h2;exact h2 hf
 .have:=hr y e;simp only[wN,jT,cG,eU]at h3;omega
theorem avZ{l:List s}{id:Int}{n f v:ByteArray}(hs:j l)(h:(wK l id n f v).2.1=0):ld n 8=Z∧(wK l id n f v).1=ins l ⟨n,f,gP l+1,id,v⟩:=by
 unfold wK at h⊢;split at h
 ·rename_i h1;rw[cJ h1];split at h
  ·rename_i h2;rw[cJ h2];split at h;·cases h
   ·rename_i h3;rw[if_neg h3];exact⟨h1,Mp hs _⟩
  ·cases h
 ·cases h
theorem aEG{l:List s}{id:Int}{n:ByteArray}(hs:j l)(h1:ld n 8=Z)(h2:qD l n≠[]):(xx l id n).2.1=0/\(xx l id n).1=ins l ⟨n,⟨#[]⟩,gP l+1,id,⟨#[]⟩⟩:=by
 unfold xx;have h3:(qD l n).isEmpty=ai:=by cases h:qD l n with|nil=>exact absurd h h2|cons _ _=>rfl
 rw[cJ h1,h3,if_neg<|by simp,Mp hs];exact⟨rfl,rfl⟩
def Gt(v:ByteArray)(x:s):Bool:=bP (x.field=⟨#[108,97,115,116]⟩)&&bP (x.value=v)
end
section
open Go.RowKit
theorem Dz(x:Int)(h:-1000000<=x)(h2:x<=1000000):aG.wrap x=x/\jM x=x:=⟨by rw[qW];omega,by unfold jM;omega⟩
theorem asC(xs:List ByteArray):(gy xs).length=xs.length:=by unfold gy;simp
theorem aGn(a:Nat)(ha:a<3):∃b c:Nat,(b<3/\c<3/\a≠b/\a≠c/\b≠c)/\((a:Int)+1).tmod 3=(b:Int)/\((a:Int)+2).tmod 3=(c:Int)/\aG.wrap ((a:Int)+1)=(a:Int)+1/\jM ((a:Int)+1)=(a:Int)+1/\aG.wrap ((a:Int)+2)=(a:Int)+2/\jM ((a:Int)+2)=(a:Int)+2/\aG.wrap (b:Int)=(b:Int)/\aG.wrap (c:Int)=(c:Int):=by
 have h:a=0\/a=1\/a=2:=by omega
 refine⟨(a+1)%3,(a+2)%3,?_⟩;rcases h with rfl|rfl|rfl<;>decide+kernel
set_option maxHeartbeats 16000000 in
theorem ayM (v:az) (l:List kH) (i:Int) (nm vl:ByteArray) (hnm:nm.size<=140737488355328) (hvl:vl.size<=140737488355328) (w:ax) (h:FX w v l) (hl:l.length<=140737488355328) (hz:∀x∈l,x.n.size<=140737488355328∧x.f.size<=140737488355328∧x.v.size<=140737488355328) (hw:∀x∈l,ij x.who) (hi:ij i) (hT:iS w) (ht:fx w) (hf:pK w):bz Q 7 #[v,Y aG i,aE nm,aE vl] w λe w'=>e=bj (cx Z)∧aY w.heap.size w w':=by
 have HC:=X<|asH v l w h hl hz;obtain⟨JH,JG,hsv⟩:∃JH JG,v=aC JH l.length JG:=by
  rcases h with⟨⟨ad,cap,rfl⟩,rfl⟩|⟨g,off,cap,rfl,_⟩;·exact⟨_,_,rfl⟩
  ·exact⟨_,_,rfl⟩
 subst hsv;have h4:4<w.heap.size:=(dm.1 hf).1;cases G5:Gj l with|false=>rw[G5] at HC;clear h hl hz hw hi hT ht hf G5;go_enter QN,ntmps7;go_wp2_with (go_at_call 14;go_must (refine HC.out.mono ?_);rintro e w1 ⟨rfl,je⟩;have Ac:=X je;clear je);go_ret;exact⟨rfl,Ac.out⟩|true=>
  rw[G5] at HC;obtain⟨AM,qZ⟩:=asG G5;by_cases aBh:50<nm.size
  ·have aBg:(50:Int)<(nm.size:Int):=by omega
   clear h hl hz hw hi hT ht hf G5 AM qZ;go_enter QN,ntmps7;go_wp2_with (go_at_call 14;go_must (refine HC.out.mono ?_);rintro e w1 ⟨rfl,je⟩;have Ac:=X je;clear je);go_ret;exact⟨rfl,Ac.out⟩
  have aBg:¬(50:Int)<(nm.size:Int):=by omega
  by_cases aAk:50<vl.size
  ·have aAj:(50:Int)<(vl.size:Int):=by omega
   clear h hl hz hw hi hT ht hf G5 AM qZ;go_enter QN,ntmps7;go_wp2_with (go_at_call 14;go_must (refine HC.out.mono ?_);rintro e w1 ⟨rfl,je⟩;have Ac:=X je;clear je);go_ret;exact⟨rfl,Ac.out⟩
  have aAj:¬(50:Int)<(vl.size:Int):=by omega
  have HH:=X<|aM h<|aM hw<|aM hi<|aM hT<|aM ht<|aM hf<|aM AM qZ;clear h hl hz hw hi hT ht hf G5 AM qZ;go_enter QN,ntmps7;go_wp2_with (go_at_call 14;go_must (refine HC.out.mono ?_);rintro e w1 ⟨rfl,je⟩;have Ac:=X je;clear je;refine Halt.of ?_);unfold Halt;have Qg:=X<|ant w1 (HH.out.2.2.2.1.below Ac.out<|aQ _) (HH.out.2.2.2.2.1.below Ac.out<|aQ _)<|(Ac.out.block 4 h4).trans HH.out.2.2.2.2.2.1;clear HC;go_wp2_with (go_at_call 15;go_must (refine Qg.out.mono ?_);rintro e w2 ⟨rfl,uq⟩;have HB2:=X<|Ac.out.trans<|uq.mono Ac.out.size;clear uq;refine Halt.of ?_);unfold Halt;have Qf:=X<|Wv w2;clear Qg;go_wp2_with (go_at_call 16;go_must (refine Qf.out.mono ?_);rintro e w3 ⟨pw,pv,R,rfl,sN,hR,gM⟩;have H3:=X<|aM sN<|aM hR<|HB2.out.trans<|gM.mono HB2.out.size;clear sN hR gM;refine Halt.of ?_);unfold Halt;clear Qf;go_wp2;go_loopg [13] l.length λn XA wr=>∃f:Nat,XA=Y aG f∧n+f=l.length∧Vy w2.heap.size l pw pv R w3 f wr;case atStart=>exact⟨0,rfl,by omega,R,[],H3.out.1,.refl _,λk C=>(H3.out.2.1 k C).2.1,.refl _ _⟩
  case round=>
   obtain⟨f,rfl,hn,R',ks,ri,mA,lU,ku⟩:=hrel;have lT:w.heap.size<=w2.heap.size:=HB2.out.size;have xg:aY w.heap.size w wr:=H3.out.2.2.trans (ku.below H3.out.2.2.size λb hb q=>by have:=H3.out.1.lo q;omega);by_cases hj:f<l.length
   ·obtain⟨hS,hw,hi,hT,ht,hf,AM,qZ⟩:=HH.out;rcases hS with⟨qC,hS2⟩|⟨g,off,cap,qC,hg,hc⟩;·rw[hS2] at hj;simp at hj
    simp only[wQ] at qC;obtain⟨rfl,-,rfl⟩:=qC;have ES:=nC hj;obtain⟨op,vF⟩:∃op,op=l[f]:=⟨_,rfl⟩;have kc:∀i,i<4->∀u,op.cells[i]? =U u->wr.cell? ⟨g,off+f*4+i,V⟩=U u:=λi hi u hu=>(xg.cell (p:=⟨g,off+f*4+i,V⟩) hg).trans (by rw[Nat.add_assoc];exact hc _ _<|by rw[abI hj i hi,<-vF];exact hu);have C17:=X<|aD4 w2.heap.size f 0 ks wr pw pv R' op ri (λk C=>by rw[mA.id k];exact(H3.out.2.1 k C).1) (by omega) (by omega) (by rw[vF];exact hw _ ES) (by rw[vF];have:=qZ _ ES;omega) (by rw[vF];have:=qZ _ ES;omega)<|hT.below xg<|aQ _;have e0:wr.cell? ⟨g,off+f*4,V⟩=U (Y aG op.who):=kc 0 (by omega) _ rfl;have e1:wr.cell? ⟨g,off+f*4+1,V⟩=U (aE op.n):=kc 1 (by omega) _ rfl;have e2:wr.cell? ⟨g,off+f*4+2,V⟩=U (aE op.f):=kc 2 (by omega) _ rfl;have e3:wr.cell? ⟨g,off+f*4+3,V⟩=U (aE op.v):=kc 3 (by omega) _ rfl;have oC:(f:Int)<(l.length:Int):=by omega
    have ez:aG.wrap ((f:Int)+1)=(f:Int)+1:=by rw[qW];omega
    have ug:jM ((f:Int)+1)=(f:Int)+1:=by unfold jM;omega
    have HI:=X<|aM vF<|aM mA<|aM lU ku;clear hw hi hT ht hf AM qZ hc ES vF kc ri mA lU ku xg;go_wp2_with (go_at_call 17;go_must (refine C17.out.mono ?_);rintro e w7 ⟨rfl,R7,ks7,E7⟩;have H7:=X E7;clear E7;refine Halt.of ?_);unfold Halt;clear C17;go_wp2;go_roundg (gk-1);case rel=>obtain⟨vF,mA,lU,ku⟩:=HI.out;have E:=H7.out;rw[vF] at E;exact⟨f+1,congrArg (Y aG)<|by omega,by omega,Vy.next hj mA lU ku E⟩
    case measure=>omega
   ·have kP:l.length=f:=by omega
    subst kP;have akF:=HH.out.2.2.1;obtain⟨a,ha⟩:∃a,a=tH i 3:=⟨_,rfl⟩;have oD:a<3:=by rw[ha];exact Sa<|by omega
    obtain⟨b,c,⟨gM,o7,qB,yl,xd⟩,hAR⟩:=aGn a oD;have Qe:dx<|∀W,bz Q 18 #[Y aG i,Y aG 3] W λe W'=>e=bj (Y aG a)∧W'=W:=X λW=>by have:=XP i 3 W (by omega) (by omega) akF;rw[<-ha] at this;exact this
    have Hl:=HH.out.2.2.2.2.2.2.1;have lG:5<=w2.heap.size:=by omega
    have Uf:∀W,aY w.heap.size w W->fx W∧pK W:=λW hW=>⟨HH.out.2.2.2.2.1.below hW<|aQ _,(hW.block 4 h4).trans HH.out.2.2.2.2.2.1⟩;have ake:∀(W W':ax) (K S:Nat) (kx:Keys) (RX:Nat->Rk),iB w2.heap.size K S kx W pw pv RX->aY w.heap.size w W->O (oO RX) W W'->aY w.heap.size w W':=λ_ _ _ _ _ _ hT hW hK=>hW.trans (hK.below hW.size λb hb q=>by have:=hT.lo q;omega);obtain⟨wo,rfl⟩:∃wo,wo=wr:=⟨wr,rfl⟩;have ajS:∀k,k<3->(R' k).id=k+1:=λk C=>by rw[mA.id k];exact(H3.out.2.1 k C).1
    have pL:=X<|FZ w2.heap.size l.length 0 ks wo pw pv R' b a gM oD (λe=>qB e.symm) ri lG (by omega) (by omega) (Uf _ xg).1 (Uf _ xg).2;have HI:=X<|aM ri<|aM xg ajS;have HT:=X<|aM Uf Hl;have IY:=X ake;have AR:=X hAR;clear akF ri mA lU ku xg ajS Uf Hl ake hAR ha;go_wp2_with (go_at_call 18;go_must (refine(Qe.out _).mono ?_);rintro e w5 ⟨rfl,KC⟩;subst KC;refine Halt.of ?_);unfold Halt;clear Qe;obtain⟨y1,y2,y3,y4,y5,y6,y7,y8⟩:=AR.out;go_wp2_with (go_at_call 19;go_must (refine pL.out.mono ?_);rintro e v1 ⟨rfl,R1,hx⟩;have V1:=X hx;clear hx;refine Halt.of ?_);unfold Halt;clear pL y1 y2 y3 y4 y5 y6 y7 y8 AR;have o9:=IY.out _ _ _ _ _ _ HI.out.1 HI.out.2.1 V1.out.keep;have pL:=X<|FZ w2.heap.size l.length 8 ks v1 pw pv R1 c a o7 oD (λe=>yl e.symm) V1.out.iC lG (by have:=HT.out.2;omega) (by omega) (HT.out.1 _ o9).1 (HT.out.1 _ o9).2;have aGZ:=X o9;clear o9;go_wp2_with (go_at_call 19;go_must (refine pL.out.mono ?_);rintro e v2 ⟨rfl,R2,hx⟩;have V2:=X hx;clear hx;refine Halt.of ?_);unfold Halt;clear pL;have O7:=IY.out _ _ _ _ _ _ V1.out.iC aGZ.out V2.out.keep;have ajR:∀k,k<3->(R2 k).id=k+1:=λk C=>by rw[V2.out.same.id k,V1.out.same.id k];exact HI.out.2.2 k C
    have T2:=V2.out.iC;have zm:=T2.eT a oD;have jW:=zm.wrote T2.kl;have aaY:gP (R2 a).L<9223372036854775807:=by rw[zm.bk.clock];have:=PO (l:=(R2 a).l) (k:=(l.length:Int)) (by omega) λy hy=>(zm.cnt y hy).2.1;have:=HT.out.2;omega
    have Ja:=RY pw pv (jR R2) a oD (R2 a).id (R2 a).m (R2 a).g (R2 a).L nm ⟨#[108,97,115,116]⟩ vl v2 T2.lN (by rw[qS];omega) (by rw[xQ R2 oD];exact zm.rep) zm.book (by have:=zm.mN;omega) (HH.out.2.2.2.1.below O7<|aQ _) (by omega) (by decide) aaY;obtain⟨kd,hkd⟩:∃kd,kd=(wK (R2 a).l (R2 a).id nm ⟨#[108,97,115,116]⟩ vl).2.1:=⟨_,rfl⟩;obtain⟨sd,hsd⟩:∃sd,sd=(wK (R2 a).l (R2 a).id nm ⟨#[108,97,115,116]⟩ vl).2.2:=⟨_,rfl⟩;have Og:=jW.put zm.Ck nm ⟨#[108,97,115,116]⟩ vl;rw[Og.2,<-hkd,<-hsd] at Ja;have an9:=X Ja;have H2:=X<|aM O7<|aM ajR<|aM Og.1<|aM hkd<|aM aaY T2;clear O7 ajR T2 zm jW aaY Ja Og hkd hsd;go_wp2_with (go_at_call 26;go_must (refine an9.out.mono ?_);rintro e v3 ⟨rfl,hB,C⟩;have H3':=X<|aM hB C;clear hB C;refine Halt.of ?_);unfold Halt;clear an9;obtain⟨R3,ks3,E3⟩:∃R' ks',IZ w2.heap.size l.length 16 ⟨a,nm,⟨#[108,97,115,116]⟩,vl⟩ v2 v3 pw pv R2 R' ks':=H2.out.2.2.2.2.2.A2 (x:=⟨a,nm,⟨#[108,97,115,116]⟩,vl⟩) H2.out.2.1 (i:=a) (JQ a oD) (L':=(og (R2 a).L (R2 a).id nm ⟨#[108,97,115,116]⟩ vl).1) H3'.out.1 (by unfold sZ;rw[if_neg (by decide:¬(⟨#[108,97,115,116]⟩:ByteArray).size=0)];exact H2.out.2.2.1) H3'.out.2;have CL:=IY.out _ _ _ _ _ _ H2.out.2.2.2.2.2 H2.out.1 E3.keep;obtain⟨v4,Tu⟩:∃v4,v4=v3.alloc (aH #[Y aG kd,aE sd] 49):=⟨_,rfl⟩;have yj:aY v3.heap.size v3 v4:=by rw[Tu];exact(dK _ _).alloc (aQ _) _
    have Hh:v4.heap[v3.heap.size]? =U (aH #[Y aG kd,aE sd] 49 (0,0)):=by rw[Tu];exact gI _ _
    have CK:=CL.trans<|yj.mono CL.size;have Hl:=HT.out.2;have pL:=X<|FZ w2.heap.size (l.length+1) 16 ks3 v4 pw pv R3 a b oD gM qB (E3.iC.below yj) lG (by omega) (by omega) (HT.out.1 _ CK).1 (HT.out.1 _ CK).2;have Ad:=X<|aM Tu<|aM Hh<|aM CK<|aM E3 yj;clear Tu Hh CK E3 yj CL Hl;go_wp2_with (go_at_call 19;rw[<-Ad.out.1];go_must (refine pL.out.mono ?_);rintro e v5 ⟨rfl,R5,hx⟩;have V5:=X hx;clear hx;refine Halt.of ?_);unfold Halt;clear pL;have Uo:=IY.out _ _ _ _ _ _ (Ad.out.2.2.2.1.iC.below Ad.out.2.2.2.2) Ad.out.2.2.1 V5.out.keep;have Hl:=HT.out.2;have pL:=X<|FZ w2.heap.size (l.length+1) 24 ks3 v5 pw pv R5 a c oD o7 yl V5.out.iC lG (by omega) (by omega) (HT.out.1 _ Uo).1 (HT.out.1 _ Uo).2;have Vt:=X Uo;clear Uo Hl;go_wp2_with (go_at_call 19;go_must (refine pL.out.mono ?_);rintro e v6 ⟨rfl,A,hx⟩;have V6:=X hx;clear hx;refine Halt.of ?_);unfold Halt;clear pL;have Ff:=IY.out _ _ _ _ _ _ V5.out.iC Vt.out V6.out.keep;have Ot:∀RX,oM R3 RX->¬oO RX v3.heap.size:=λRX hS q=>by rw[hS.maps] at q;obtain⟨k,C,q⟩:=q;have h1:=(Ad.out.2.2.2.1.iC.eT k C).book.lt;have h2:=(Ad.out.2.2.2.1.iC.eT k C).map.lt;omega
    have hq6:v6.heap[v3.heap.size]? =U (aH #[Y aG kd,aE sd] 49 (0,0)):=by have lH:=(dm.1 Ad.out.2.1).1;exact(V6.out.keep.block _ (cB lH V5.out.keep.size)<|Ot _ V5.out.same).trans<|(V5.out.keep.block _ lH<|Ot _<|.refl _).trans Ad.out.2.1
    have k6:v6.cell? ⟨v3.heap.size,0,V⟩=U (Y aG kd):=M hq6 0;have HB6:=X Ff;clear Ot hq6 Ff;by_cases uk:kd=0
    ·have hz:=uk.symm.trans H2.out.2.2.2.1;obtain⟨G0,hpd⟩:=avZ (H2.out.2.2.2.2.2.eT a oD).bk.sorted hz.symm;obtain⟨J,hJ⟩:∃J,J=(R2 a).l:=⟨_,rfl⟩;obtain⟨r,hr⟩:∃r:s,r=⟨nm,⟨#[108,97,115,116]⟩,gP J+1,(R2 a).id,vl⟩:=⟨_,rfl⟩;have sJ:j J:=by rw[hJ];exact(H2.out.2.2.2.2.2.eT a oD).bk.sorted
     have hrc:∀y∈J,y.c<r.c:=λy hy=>by have:=YO hy;rw[hr];show y.c<gP J+1;omega
     have e3a:(R3 a).l=ins J r:=by rw[Ad.out.2.2.2.1.ls a oD];unfold pn;rw[cJ<|JQ a oD];unfold sZ;rw[if_neg (by decide:¬(⟨#[108,97,115,116]⟩:ByteArray).size=0)];have:=hpd;rw[H2.out.2.1 a oD] at this;rw[hr,H2.out.2.1 a oD,hJ];exact this
     have e3k:∀k,k<3->k≠a->(R3 k).l=(R2 k).l:=λk C hka=>by rw[Ad.out.2.2.2.1.ls k C];unfold pn;rw[if_neg λq=>hka<|q.trans (JQ a oD).symm]
     have eJ:J=fZ (R1 c).l (R1 b).l:=by rw[hJ,V2.out.lj,V1.out.lj.trans V1.out.li.symm]
     have eJc:(R2 c).l=J:=by rw[hJ,V2.out.lj,V2.out.li]
     have e2b:(R2 b).l=(R1 b).l:=V2.out.lk b xd λe=>qB e.symm;have s1:∀k,k<3->j (R1 k).l:=λk C=>(V1.out.iC.eT k C).bk.sorted;have e5:fZ (R3 a).l (R3 b).l=ins J r:=by rw[e3a,e3k b gM λe=>qB e.symm,e2b,eJ];exact azC (s1 c o7) (s1 b gM) r
     have e6:fZ (R5 a).l (R5 c).l=ins J r:=by rw[V5.out.li,e5,V5.out.lk c (λe=>yl e.symm) λe=>xd e.symm,e3k c o7 λe=>yl e.symm,eJc];exact aiS sJ r
     have xY:(A b).l=ins J r:=by rw[V6.out.lk b (λe=>qB e.symm) xd,V5.out.lj,e5]
     have Eo:(A c).l=ins J r:=V6.out.lj.trans e6;obtain⟨J',hJ'⟩:∃J',J'=ins J r:=⟨_,rfl⟩;rw[<-hJ'] at xY Eo;have BH:j J':=by rw[<-xY];exact(V6.out.iC.eT b gM).bk.sorted
     obtain⟨F,hF⟩:∃F,F=qD J' nm:=⟨_,rfl⟩;have hrF:r∈F:=by rw[hF,hJ'];have:=axj sJ hrc (by rw[hr];show(⟨#[108,97,115,116]⟩:ByteArray)≠⟨#[]⟩;decide);rwa [show r.name=nm by rw[hr]] at this
     have KY:F.any (Gt vl)=Z:=List.any_eq_true.2 ⟨r,hrF,by rw[hr];simp[Gt]⟩;have EO:nm.size<=4096:=by omega
     have sC:=HT.out.2;have KL:=V6.out.iC.eT b gM;have ajL:=V6.out.iC.len (by omega) gM;have xk:F.length<=4096:=by rw[hF];exact bC (AE _ _)<|by rw[<-xY];exact ajL
     have Af:=UD pw pv (jR A) b gM (A b).id (A b).m (A b).g (A b).L nm v6 V6.out.iC.lN (by rw[qS];omega) (by rw[xQ A gM];exact KL.rep) KL.book (by rw[KL.bk.perm.length_eq];omega) EO;rw[KL.bk.shown nm,xY,<-hF] at Af;have HC:=X Af;have HX:=X<|aM G0<|aM BH<|aM xY<|aM Eo<|aM hF<|aM (GR hrF)<|aM KY<|aM EO xk;have HN:=X<|aM qB<|aM yl xd;clear qB yl xd aBh aAk;clear hz G0 hpd hJ hr sJ hrc e3a e3k eJ eJc e2b s1 e5 e6 xY Eo hJ' BH hF hrF KY EO KL ajL xk Af sC;go_wp2_with (go_at_call 27;go_must (refine HC.out.mono ?_);rintro e v7 ⟨xv,rfl,jG,uo⟩;have H7:=X<|aM jG uo;clear jG uo;refine Halt.of ?_);unfold Halt;clear HC k6;obtain⟨xad,aHb,rfl⟩:=fV H7.out.1;obtain⟨m,hm⟩:∃m,m=F.length:=⟨_,rfl⟩;obtain⟨q,hq⟩:∃q,q=(lJ F).length:=⟨_,rfl⟩;have KH:q=2*m:=by rw[hq,hm];exact abr F
     rw[<-hq] at H7⊢;have HM:=X<|aM hm KH;clear hm hq KH;go_wp2;go_loopg [20,21] m λk s20 Xu wr=>∃(f t:Nat) (hv:Bool),s20=cx hv∧Xu=Y aG t∧t=2*f∧k+f=m∧hv=(F.take f).any (Gt vl)∧v7=wr;case atStart=>exact⟨0,0,ai,rfl,rfl,rfl,by omega,rfl,rfl⟩
     case round=>
      obtain⟨f,t,hv,rfl,rfl,Oc,nJ,OG,Cr⟩:=hrel;subst Cr;have KX:=HX.out.2.2.2.2.2.2.2.2;rw[<-HM.out.1] at KX;have KH:=HM.out.2;by_cases hj:f<m
      ·have hjF:f<F.length:=by rw[<-HM.out.1];exact hj
       obtain⟨g,hg⟩:∃g,xad=U ⟨g,0,V⟩:=by
        rcases H7.out.1.2 with⟨_,h0⟩|⟨g,cap,cur,h,_⟩;·omega
        ·injection h with h;exact⟨g,h⟩
       subst hg;obtain⟨x,hx⟩:∃x,x=F[f]:=⟨_,rfl⟩;have y0:v7.cell? ⟨g,t,V⟩=U (aE x.field):=by have:=Az H7.out.1 (g:=g) rfl (2*f) (aE x.field) (by rw[YX,(abt hjF).1,hx];rfl);rwa [Eu,vg,<-Oc] at this
       have y1:v7.cell? ⟨g,t+1,V⟩=U (aE x.value):=by have:=Az H7.out.1 (g:=g) rfl (2*f+1) (aE x.value) (by rw[YX,(abt hjF).2,hx];rfl);rwa [Eu,vg,<-Oc] at this
       have gB:(F.take<|f+1).any (Gt vl)=(hv||Gt vl x):=by rw[wS,mq hjF,B9,List.any_append,OG,hx];simp
       have oC:(t:Int)+1<(q:Int):=by omega
       have aaF:(t:Int)<(q:Int):=by omega
       have aaE:t<q:=by omega
       have aaD:t+1<q:=by omega
       have ez:∀z:Int,z=(t:Int)+1->jM z=z:=λz hz=>(Dz z (by omega)<|by omega).2;have jW:∀z:Int,z=(t:Int)+1->aG.wrap z=z:=λz hz=>(Dz z (by omega)<|by omega).1;have ug:∀z:Int,z=(t:Int)+2->jM z=z:=λz hz=>(Dz z (by omega)<|by omega).2;have Cq:∀z:Int,z=(t:Int)+2->aG.wrap z=z:=λz hz=>(Dz z (by omega)<|by omega).1;have HJ:=X<|aM gB<|aM OG<|aM Oc<|aM KX KH;clear gB OG hx Oc KX KH;cases hv with
       |true=>
        go_wp2;go_roundg (gk-1);case rel=>clear ez jW ug Cq oC aaF aaE aaD;obtain⟨h1,h2,h3,h4⟩:=HJ.out;exact⟨f+1,t+2,Z,rfl,rfl,by omega,by omega,by rw[h1];rfl,rfl⟩
        case measure=>clear ez jW ug Cq;omega|false=>
        by_cases hf:x.field=⟨#[108,97,115,116]⟩
        ·have hfb:(x.field.toList==[108,97,115,116])=Z:=by rw[hf];kernel_rfl
         obtain⟨bv,hvb⟩:∃bv,(x.value.toList==vl.toList)=bv:=⟨_,rfl⟩;have HV:=X<|aM hf<|hvb.symm.trans<|Ws _ _;clear hf;go_wp2;go_roundg (gk-1);case rel=>clear ez jW ug Cq oC aaF aaE aaD;obtain⟨h1,h2,h3,h4⟩:=HJ.out;exact⟨f+1,t+2,bv,rfl,rfl,by omega,by omega,by rw[h1,HV.out.2];simp[Gt,HV.out.1],rfl⟩
         case measure=>clear ez jW ug Cq;omega
        ·have hfb:(x.field.toList==[108,97,115,116])=ai:=by have:=Ws x.field ⟨#[108,97,115,116]⟩;rw[YY hf,show(⟨#[108,97,115,116]⟩:ByteArray).toList=[108,97,115,116] by kernel_rfl] at this;exact this
         go_wp2;go_roundg (gk-1);case rel=>clear ez jW ug Cq oC aaF aaE aaD;obtain⟨h1,h2,h3,h4⟩:=HJ.out;exact⟨f+1,t+2,ai,rfl,rfl,by omega,by omega,by rw[h1];simp[Gt,hf],rfl⟩
         case measure=>clear ez jW ug Cq;omega
      ·have kP:f=m:=by omega
       have hvt:hv=Z:=by rw[OG,Zr<|by rw[kP,HM.out.1];exact aQ _];exact HX.out.2.2.2.2.2.2.1
       subst hvt;have hqt:¬(t:Int)+1<(q:Int):=by omega
       have ez:∀z:Int,z=(t:Int)+1->jM z=z:=λz hz=>(Dz z (by omega)<|by omega).2;have jW:∀z:Int,z=(t:Int)+1->aG.wrap z=z:=λz hz=>(Dz z (by omega)<|by omega).1;clear OG kP Oc nJ KX KH hj;obtain⟨G0,BH,xY,Eo,hF,Ul,KY,EO,xk⟩:=HX.out;obtain⟨qB,yl,xd⟩:=HN.out;have sC:=HT.out.2;have T7:=V6.out.iC.below H7.out.2;have vM:aY w.heap.size w v7:=HB6.out.trans<|H7.out.2.mono HB6.out.size;have Cx:∀k,k<3->(A k).id=k+1:=λk C=>by rw[V6.out.same.id,V5.out.same.id,Ad.out.2.2.2.1.same.id];exact H2.out.2.1 k C
       have Cv:=T7.eT b gM;have ZU:=Cv.wrote T7.kl;have aj6:gP (A b).L<9223372036854775807:=by rw[Cv.bk.clock];have:=PO (l:=(A b).l) (k:=((l.length+1:Nat):Int)) (by omega) λy hy=>(Cv.cnt y hy).2.1;omega
       have aBr:=T7.len (by omega) gM;have I9:=abR pw pv (jR A) b gM (A b).id (A b).m (A b).g (A b).L nm v7 T7.lN (by rw[qS];omega) (by rw[xQ A gM];exact Cv.rep) Cv.book (by have:=Cv.mN;omega) (HH.out.2.2.2.1.below vM<|aQ _) (by omega) (by rw[Cv.bk.perm.length_eq];omega) aj6;have E0:=ZU.delete Cv.Ck nm;have EZ:=aEG (id:=(A b).id) BH G0 (by rw[<-hF];exact Ul);obtain⟨s2,vE⟩:∃s2,s2=(xx (A b).l (A b).id nm).2.2:=⟨_,rfl⟩;rw[E0.2,<-vE,show(xx (A b).l (A b).id nm).2.1=0 by rw[xY];exact EZ.1] at I9;have HC:=X I9;have HD:=X<|aM T7<|aM vM<|aM Cx<|aM E0.1<|aM EZ.2 sC;clear G0 BH xY Eo hF Ul KY EO xk qB yl xd sC T7 vM Cx Cv ZU aj6 aBr I9 E0 EZ vE;go_wp2_with (go_at_call 28;go_must (refine HC.out.mono ?_);rintro e v8 ⟨rfl,hB,C⟩;have H8:=X<|aM hB C;clear hB C;refine Halt.of ?_);unfold Halt;clear HC ez jW hqt;obtain⟨T7,vM,Cx,E0,EZ,sC⟩:=HD.out;obtain⟨qB,yl,xd⟩:=HN.out;obtain⟨R8,ks8,E8⟩:∃R' ks',IZ w2.heap.size (l.length+1) 32 ⟨b,nm,⟨#[]⟩,⟨#[]⟩⟩ v7 v8 pw pv A R' ks':=T7.A2 (x:=⟨b,nm,⟨#[]⟩,⟨#[]⟩⟩) Cx (i:=b) (JQ b gM) (L':=(rA (A b).L (A b).id nm).1) H8.out.1 (by unfold sZ;rw[cJ (by decide:(⟨#[]⟩:ByteArray).size=0)];exact E0) H8.out.2;have hB8:=IY.out _ _ _ _ _ _ T7 vM E8.keep;obtain⟨v9,EH⟩:∃v9,v9=v8.alloc (aH #[Y aG 0,aE s2] 49):=⟨_,rfl⟩;have AU:aY v8.heap.size v8 v9:=by rw[EH];exact(dK _ _).alloc (aQ _) _
       have KI:v9.heap[v8.heap.size]? =U (aH #[Y aG 0,aE s2] 49 (0,0)):=by rw[EH];exact gI _ _
       have Ik:=hB8.trans<|AU.mono hB8.size;have pL:=X<|FZ w2.heap.size (l.length+1+1) 32 ks8 v9 pw pv R8 b c gM o7 xd (E8.iC.below AU) lG (by omega) (by omega) (HT.out.1 _ Ik).1 (HT.out.1 _ Ik).2;have H9:=X<|aM EH<|aM KI<|aM Ik<|aM E8 AU;clear T7 vM Cx E0 EZ sC qB yl xd E8 hB8 EH AU KI Ik;go_wp2_with (go_at_call 19;rw[<-H9.out.1];go_must (refine pL.out.mono ?_);rintro e vA ⟨rfl,RA,hx⟩;have VA:=X hx;clear hx;refine Halt.of ?_);unfold Halt;clear pL;obtain⟨G0,BH,xY,Eo,hF,Ul,KY,EO,xk⟩:=HX.out;obtain⟨qB,yl,xd⟩:=HN.out;obtain⟨-,KI,Ik,E8,AU⟩:=H9.out;obtain⟨T7,vM,Cx,E0,EZ,sC⟩:=HD.out;have AZ:=IY.out _ _ _ _ _ _ (E8.iC.below AU) Ik VA.out.keep;obtain⟨d,hd⟩:∃d:s,d=⟨nm,⟨#[]⟩,gP J'+1,(A b).id,⟨#[]⟩⟩:=⟨_,rfl⟩;have hdc:∀y∈J',y.c<d.c:=λy hy=>by have:=YO hy;rw[hd];show y.c<gP J'+1;omega
       have e8b:(R8 b).l=ins J' d:=by rw[E8.ls b gM];unfold pn;rw[cJ<|JQ b gM];unfold sZ;rw[cJ (by decide:(⟨#[]⟩:ByteArray).size=0)];have:=EZ;rw[Cx b gM] at this;simp only;rw[xY,hd,Cx b gM];exact this
       have e8c:(R8 c).l=J':=by rw[E8.ls c o7];unfold pn;rw[if_neg λq=>xd (q.trans (JQ b gM).symm).symm];exact Eo
       have lAc:(RA c).l=ins J' d:=by rw[VA.out.lj,e8b,e8c];exact aiS BH d
       have AL:qD (ins J' d) nm=[]:=by have:=aEH BH hdc (by rw[hd]);rwa [show d.name=nm by rw[hd]] at this
       have On:=VA.out.iC.eT c o7;have hlA:=VA.out.iC.len (by omega) o7;have mM:jC (RA c).L nm=[]:=by rw[On.bk.shown nm,lAc,AL]
       have Af:=UD pw pv (jR RA) c o7 (RA c).id (RA c).m (RA c).g (RA c).L nm vA VA.out.iC.lN (by rw[qS];omega) (by rw[xQ RA o7];exact On.rep) On.book (by rw[On.bk.perm.length_eq];omega) EO;rw[mM] at Af;have Qd:dx<|∀W,aY vA.heap.size vA W->bz Q 29 #[aF<|U ⟨pw,0,V⟩,Y aG c,aE nm] W λe w'=>∃v,∃B:List ByteArray,e=bj v∧nm∉B∧B.length<=1000000∧w'.ownsRow W.heap.size 9 1 v B.length (B.map aE)∧aY W.heap.size W w':=X λW hW=>by
        have hTW:=VA.out.iC.below hW;have Om:=hTW.eT c o7;refine(ahj pw pv (jR RA) c o7 (RA c).id (RA c).m (RA c).g (RA c).L nm W hTW.lN (by rw[qS];omega) (by rw[xQ RA o7];exact Om.rep) Om.book (by rw[Om.bk.perm.length_eq];omega) λx hx=>?_).mono ?_;·have:=(Om.bk.Uu x hx).GF;omega
        ·rintro e w' ⟨v,xs,he,jo,ES,jG,hb⟩;refine⟨v,_,he,λhz=>?_,?_,jG,hb⟩;·have:=(rX.1 hz).2;rw[mM] at this;simp at this
         ·refine bC (AE _ _) ?_;rw[asC];have:=Yh jo (b:=(RA c).L.map (·.name)) λn hn=>by obtain⟨y,hy,q⟩:=(ES n).1 hn;exact ki.2 ⟨y,hy,q⟩
          rw[Cb,Om.bk.perm.length_eq] at this;omega
       have TH:∀RX,oM R8 RX->¬oO RX v8.heap.size:=λRX hS q=>by rw[hS.maps] at q;obtain⟨k,C,q⟩:=q;have h1:=(E8.iC.eT k C).book.lt;have h2:=(E8.iC.eT k C).map.lt;omega
       have hqA:vA.heap[v8.heap.size]? =U (aH #[Y aG 0,aE s2] 49 (0,0)):=(VA.out.keep.block _ (dm.1 KI).1<|TH _<|.refl _).trans KI;have HC:=X Af;have HA:=X<|aM AZ hqA;clear G0 BH xY Eo hF Ul KY EO xk qB yl xd KI Ik E8 AU T7 vM Cx E0 EZ sC AZ hd hdc e8b e8c lAc AL On hlA mM Af TH hqA;go_wp2_with (go_at_call 27;go_must (refine HC.out.mono ?_);rintro e vB ⟨yv,rfl,jG,hbB⟩;have HB:=X<|aM jG hbB;clear jG hbB;refine Halt.of ?_);unfold Halt;clear HC;obtain⟨yad,aG9,rfl⟩:=fV HB.out.1;go_wp2_with (go_at_call 29;go_must (refine(Qd.out _ HB.out.2).mono ?_);rintro e vC ⟨zv,B,rfl,hnz,hZl,jG,hbC⟩;have HC:=X<|aM hnz<|aM jG<|aM hbC hZl;clear hnz hZl jG hbC;refine Halt.of ?_);unfold Halt;clear Qd;obtain⟨zad,aG8,rfl⟩:=fV HC.out.2.1;obtain⟨zn,NS⟩:∃zn,zn=B.length:=⟨_,rfl⟩;rw[<-NS] at HC⊢;have HZ:=X NS;have hBC:aY vA.heap.size vA vC:=HB.out.2.trans<|HC.out.2.2.1.mono HB.out.2.size;have kC:vC.cell? ⟨v8.heap.size,0,V⟩=U (Y aG 0):=M ((hBC.block _ (dm.1 HA.out.2).1).trans HA.out.2) 0;have HE:=X<|HA.out.1.trans<|hBC.mono HA.out.1.size;clear NS hBC;go_wp2;go_loopg [26] zn λk s26 wr=>∃f:Nat,s26=Y aG f∧k+f=zn∧vC=wr;case atStart=>exact⟨0,rfl,by omega,rfl⟩
       case round=>
        obtain⟨f,rfl,nJ,Cr⟩:=hrel;subst Cr;by_cases hj:f<zn
        ·have hjZ:f<B.length:=by rw[<-HZ.out];exact hj
         obtain⟨g,hg⟩:∃g,zad=U ⟨g,0,V⟩:=by
          rcases HC.out.2.1.2 with⟨_,h0⟩|⟨g,cap,cur,h,_⟩;·omega
          ·injection h with h;exact⟨g,h⟩
         subst hg;have y0:vC.cell? ⟨g,f,V⟩=U (aE B[f]):=by have:=Az HC.out.2.1 (g:=g) rfl f (aE B[f]) (by rw[YX,mq hjZ];rfl);rwa [Eu,vg] at this
         have jH:(B[f].toList==nm.toList)=ai:=by rw[Ws];exact YY λq=>HC.out.1<|by rw[<-q];exact nC hjZ
         obtain⟨zj,hzj⟩:∃zj,zj=B[f]:=⟨_,rfl⟩;rw[<-hzj] at y0 jH;have oC:(f:Int)<(zn:Int):=by omega
         have hZ:=HC.out.2.2.2;have NS:=HZ.out;have ez:∀z:Int,z=(f:Int)+1->jM z=z:=λz hz=>(Dz z (by omega)<|by omega).2;have jW:∀z:Int,z=(f:Int)+1->aG.wrap z=z:=λz hz=>(Dz z (by omega)<|by omega).1;clear hzj hjZ hZ NS;go_wp2;go_roundg (gk-1);case rel=>exact⟨f+1,rfl,by omega,rfl⟩
         case measure=>clear ez jW;omega
        ·have kP:zn=f:=by omega
         have jd:¬(f:Int)<(zn:Int):=by omega
         go_wp2;go_ret;exact⟨rfl,HE.out⟩
    ·go_wp2;go_ret;exact⟨rfl,HB6.out⟩
end
end Go.Proofs.YtpdbmpbmepkikaaGreatDoor
