/- Laws. -/
import Derived.Conc.LeavingOf
import Derived.Deep.DeepHandedRow
import Derived.SevenTiedAt
import Derived.Test.YtpdbmpbmepkikaaGreatDoorQ08
import Derived.Test.YtpdbmpbmepkikaaGreatDoorQ15
set_option maxRecDepth 100000
set_option maxHeartbeats 400000
set_option linter.all false
open Go.Proofs.Tryz
open And renaming intro->aM
open Bool renaming true->Y,false->ai
open Classical renaming choose->G0
open Decidable renaming decide->cg
open Go renaming reachBytes->OF,World->ay,Value->az,Calls->bz,Addr->eT,TypeId->ey,binOp->fZ,callFunc->iA,lone->iS,runNT->ik,maxLen->vg
open Go.CallKind renaming normal->eC
open Go.DataW renaming weightsAll->aba,weights->aky
open Go.Ending renaming returned->bj
open Go.Frame renaming enter->eW
open Go.IntKind renaming i64->aC
open Go.Lib renaming TabIs->zi
open Go.Next renaming enter->jL
open Go.Obj renaming cells->aH,map->iZ
open Go.Op renaming maxDepth->Oz,equalIn->sF
open Go.Proofs.Tryz renaming prog->aF,f41->oB
open Go.Result renaming ok->aY
open Go.RowKit renaming Below->aW,Hid->dD,wrap64->iJ
open Go.Stepped renaming next->fW
open Go.Value renaming cells->Cf,ownBlock->GW,okWide->Uk,int->V,string->aD,slice->aE,pointer->aG,agg->bJ,tuple->bO,bool->bQ,iface->iB,oneCell'->zh
open Go.World renaming setCell->jk,cell?->pg
open List renaming range->mJ
open Option renaming isNone->OO,some->U,none->Z
open Or renaming inr->aA,inl->ax
namespace Go.Proofs.YtpdbmpbmepkikaaGreatDoor
def agP:=@Int.emod_nonneg
def agO:=@Int.emod_lt_of_pos
def Yx:=@Go.DataW.trod_string
def agN:=@List.getElem?_eq_some_iff
def agM:=@List.mem_flatten
def Yw:=@List.mem_append_left
def agL:=@List.getElem_of_mem
def awC:=@Array.mem_iff_getElem
def awB:=@List.mem_of_getElem?
def agJ:=@Option.isSome_none
def Yv:=@Array.getElem?_append_right
section
open Go.RowKit
theorem ntmps41:vG.ntmps=87:=by kernel_rfl
def sQ(w:ay):Prop:=w.heap[4]?=U (aH #[V aC 0] 3 (0,0))
def Pn(w:ay)(v:az):Option Int->Prop|none=>v=aE Z 0 0|some x=>∃g n cap,v=aE (U ⟨g,0,Z⟩) n cap/\1<=n/\w.cell? ⟨g,0,Z⟩=U (V aC x)/\g≠4
theorem aBK{w}{a b}{e d}{g h}(c:a≠b)(j:w.heap[a.block]?=U (.cells e g))(l:w.heap[b.block]?=U (.cells d h)):(fZ .eql 77 (.pointer<|U a)<|.pointer b).run Q w=.ok ai w:=by obtain⟨i,k,f⟩:=yM.1 (by kernel_rfl);exact run_eql_ptr_other w anl k (of_decide_eq_false f) c j l
theorem aeH{w}{p m m' g}{id}{L}(h:fE w p id m g)(b:cI w m' L):p≠m':=by rintro rfl;obtain⟨d,a,c,_⟩:=b;grind[fE]
theorem KI{N}{W}{v}{l}(h:dF N W v l)(m:1<=l.length):∃g a,v=aE (U ⟨g,0,Z⟩) l.length a/\l.length<=a/\g<W/\∀j(b),W.cell? ⟨g,0+j,Z⟩=jb l[j]:=by
 obtain⟨k,e⟩:=id h;rcases e with⟨rfl,o⟩|⟨g,a,f,rfl,_,d,c,_,_,i⟩;.omega
 .refine⟨g,a,rfl,c,(cU.1 d).1,λj b=>?_⟩;have n:=Jf h (g:=g) rfl j (jb l[j]) (by grind);grind[Addr.add_lit]
theorem WK{e:Ending}{p q}{x}{F:az->Prop}(h:p/\e=bj x\/q/\∃v,e=bj v/\F v):∃v,e=bj v/\(p/\v=x\/q/\F v):=by grind
def KV(R0 R1:AQ)(n0:Int)(A B:List O)(bs:List<|Int×az)(c:Option Int)(w:ay)(e:Ending)(w':ay):Prop:=∃(j z:Nat)(J E A' B':List O),e=bj (bO #[V aC j,V aC z])/\cI w' R0.mb J/\Bk J A'/\cI w' R1.mb E/\Bk E B'/\Pj ((n0+1)%8=0\/Clear t A B) A B (sH A B<|n0+1) c A' B' j z/\dn (qT aC) w' R0.gb (put bs R1.id<|V aC<|n0+1)/\aK (λb=>b=R0.mb\/b=R1.mb\/b=R0.gb) w w'
theorem xY(p)(n c)(w):(fZ .eql 79 (.slice p n c)<|.slice Z 0 0).run Q w=.ok p.isNone w:=by
 have h:∀d:Nat,(sF (d+1) 79 (.slice p n c)<|.slice Z 0 0).run Q w=.ok p.isNone w:=λd=>by cases p<;>simp[sF,run_underlying uv]
 simp only[fZ];simp[Op.equal,Oz,h 9999]
set_option maxHeartbeats 8000000 in
theorem ap6(R0 R1)(n0)(LX LY A B)(bs)(vm)(c)(w)(h0:R0.At w)(h1:R1.At w)(hp:R0.p≠R1.p)(hm:R0.mb≠R1.mb)(Ed:R0.gb≠R0.mb)(hg1:R0.gb≠R1.mb)(bA:cI w R0.mb LX)(bB:cI w R1.mb LY)(hA:Bk LX A)(hB:Bk LY B)(fA:∀x∈A,Fits x)(fB:∀x∈B,Fits x)(lA:A.length<=4096)(lB:B.length<=4096)(ht:fQ w)(hf:sQ w)(hM:dn (qT .i64) w R0.gb bs)(BL:(look bs R1.id).getD (.int .i64 0)=.int .i64 n0)(xR:0<=n0)(wj:n0<4611686018427387904)(hc:Pn w vm c):bz Q 41 #[.pointer R0.p,.pointer R1.p,vm] w λe w'=>KV R0 R1 n0 A B bs c w e w':=by
 obtain⟨p0,i0,QY,g0⟩:=R0;obtain⟨p1,i1,m1,g1⟩:=R1;unfold AQ.At at h0 h1;simp only at h0 h1 hp hm Ed hg1 bA bB hM BL⊢;have k4:w.cell? ⟨4,0,Z⟩=U (.int .i64 0):=M hf 0;have f4:w.frozen? ⟨4,0,Z⟩=ai:=qO hf 0;have y1:w.cell? p1=U (.int .i64 i1):=M h1 0;have z4:4<w.heap.size:=(cU.1 hf).1;have n40:¬p0=4:=λe=>by grind[fE,sQ]
 have n41:¬p1=4:=λe=>by grind[fE,sQ]
 have m40:QY≠4:=λe=>by obtain⟨en,ck,h,_⟩:=bA;grind[sQ]
 have m41:m1≠4:=λe=>by obtain⟨en,ck,h,_⟩:=bB;grind[sQ]
 have g40:g0≠4:=λe=>by obtain⟨en,ck,h,_⟩:=hM;grind[sQ]
 have p0g:p0≠g0:=λe=>by obtain⟨en,ck,h,_⟩:=hM;grind[fE]
 have p1g:p1≠g0:=λe=>by obtain⟨en,ck,h,_⟩:=hM;grind[fE]
 have auk:p0≠QY:=h0.ne bA;have auj:p0≠m1:=aeH h0 bB;have auf:=aeH h1 bA;have aue:=h1.ne bB;have t3:∀b,b=g0∨b=QY∨b=m1∨b=4->(3:Nat)≠b:=λb hb e=>by
  unfold fQ zi World.var? at ht;rw[Fv]at ht;rw[<-e]at hb;rcases hb with h|h|h|h;·obtain⟨en,ck,h',_⟩:=hM;grind
  ·obtain⟨en,ck,h',_⟩:=bA;grind
  ·obtain⟨en,ck,h',_⟩:=bB;grind
  grind
 obtain⟨wf,Zb⟩:=ex<|w.setCell ⟨4,0,Z⟩<|.int .i64 1;have Ar:∀b,b≠4->wf.heap[b]?=w.heap[b]?:=λb hb=>by grind[Below.heap_setCell]
 have hKf:aK (λb=>b=4) w wf:=by grind[aK.setCell]
 have e77:(fZ .eql 77 (.pointer p0)<|.pointer p1).run Q (w.setCell ⟨4,0,Z⟩<|.int .i64 1)=.ok ai (w.setCell ⟨4,0,Z⟩<|.int .i64 1):=by rw[<-Zb];exact aBK λe=>hp<|by grind ((Ar p0 n40).trans h0)<|(Ar p1 n41).trans h1
 have hBf:=bA.of_block<|Ar QY m40;have hmf:=hM.of_block<|Ar g0 g40;have Nt:Hq<|firstM LX<|n0+1:=by
  rw[ajR hA];split;·exact⟨λx hx=>Od (hA.nE x hx)<|fA x hx,λs hs=>by rw[mA.1 hs];show 0<=_;omega,λn E=>(by cases E),by grind,by simp,by simp,by simp⟩
  ·exact⟨λx hx=>(by cases hx),λs hs=>(by cases hs),λn E=>(by cases E),by simp,by simp,by simp,by simp⟩
 have C60:=X<|aBj p0 QY g0 i0 i1 n0 LX bs wf ((Ar p0 n40).trans h0) hBf (ht.keep hKf<|t3 4<|.inr<|.inr<|.inr rfl) hmf BL xR wj (by rw[hA.perm.length_eq];omega) (λx hx=>Od (hA.nE x<|hA.perm.subset hx)<|fA x<|hA.perm.subset hx) Ed Nt;have HH:=aEz.mk h0 h1 bA bB hM ht hf hc hA hB fA fB;have HW:=vB.mk Zb Ar hKf t3;clear h0 h1 bA bB hM ht hf hc hA hB fA fB Zb Ar hKf t3 hBf hmf Nt BL;go_enter acB,ntmps41;simp only[Cv,Rg,zS,IT,Rh,nZ,Dk,Dj,yx,od,vf,yl,x9,Fu,eO,eU,kW,kJ,cS,eN,oB,fV];go_wp2_with(go_at_call 60;rw[<-HW.a];go_must(refine C60.out.mono ?_);rintro e w1⟨v,rfl,Q2,zc,Eb⟩;have H1:=gF.mk Q2 zc Eb;clear Q2 zc Eb;refine Halt.of ?_);unfold Halt;clear e77;have hcS:sH A B (n0+1)<=33000000:=aC8 lA lB _;have f:aK (λb=>b=4∨b=g0) w w1:=(HW.c.mono λ_ _ h=>.inl h).trans<|H1.c.mono λ_ _ h=>.inr h;have ahW:∀R:AQ,R=⟨p0,i0,QY,g0⟩∨R=⟨p1,i1,m1,g1⟩->fE w1 R.p R.id R.mb R.gb∧R.p≠QY∧R.p≠m1∧R.p<w1:=λR hR=>by
  rcases hR with rfl|rfl;·exact⟨(f.block p0 HH.a.lt<|by grind).trans HH.a,auk,auj,cE HH.a.lt f.size⟩
  ·exact⟨(f.block p1 HH.b.lt<|by grind).trans HH.b,auf,aue,cE HH.b.lt f.size⟩
 have En:AO wf ⟨p0,i0,QY,g0⟩ ⟨p1,i1,m1,g1⟩ A B ((n0+1)%8=0∨Clear t A B) (sH A B<|n0+1) c w1 17 0 0 v Y ⟨p0,i0,QY,g0⟩ ⟨p1,i1,m1,g1⟩ w1 A B LX LY A B:=AO.start HH.i HH.j HH.k HH.l lA lB (HH.c.of_block<|f.block QY HH.c.lt<|by grind) (HH.d.of_block<|f.block m1 HH.d.lt<|by grind) H1.a;have Gy:=HH.f.keep f (by rintro(h|h);exact absurd h (by decide);exact HW.d g0 (.inl rfl) h);have ahO:=H1.c.size;have aiw:∀{gv:Nat}{x:Int}(W:ay),aK (λb=>b=QY∨b=m1) w1 W->w.cell? gv=U (.int .i64 x)->gv≠4->W.cell? gv=U (.int .i64 x):=λ{gv x}W hK hcv h4=>by
  have NB:gv<w:=oh w _ hcv;have Gg:∀(b:Nat)(en:_)(ck:_),w.heap[b]?=U (.map en ck)->gv≠b:=λb en ck hb e=>by subst e;unfold pg at hcv;grind
  have hg:gv≠g0:=by obtain⟨en,ck,h,_⟩:=HH.e;grind
  have h0':gv≠QY:=by obtain⟨en,ck,h,_⟩:=HH.c;grind
  have TJ:gv≠m1:=by obtain⟨en,ck,h,_⟩:=HH.d;grind
  refine Eq.trans ?_ hcv;exact(hK.cell (p:=⟨gv,0,Z⟩) (by have:=f.size;grind)<|by grind).trans<|f.cell (p:=⟨gv,0,Z⟩) NB<|by grind
 have SN:w1.heap[4]?=U (.cells #[.int .i64 1] 3 (0,0)):=(H1.c.block 4 (cE z4 HW.c.size) λe=>g40 e.symm).trans (by rw[HW.a];exact Da HH.g);have BV:∀W,aK (λb=>b=QY∨b=m1) w1 W->dn (qT .i64) (W.setCell ⟨4,0,Z⟩<|.int .i64 0) g0 (put bs i1<|.int .i64<|n0+1)∧aK (λb=>b=QY∨b=m1∨b=g0) w (W.setCell ⟨4,0,Z⟩<|.int .i64 0)∧∀m L,m=QY∨m=m1->cI W m L->cI (W.setCell ⟨4,0,Z⟩<|.int .i64 0) m L:=λW hK=>by
  refine⟨H1.b.of_block<|(gQ _ _ _ _ g40).trans<|hK.block g0 H1.b.lt<|by grind,?_,λm L hm hB=>hB.of_block<|gQ _ _ _ _<|by grind⟩;have hz:(W.setCell ⟨4,0,Z⟩<|.int .i64 0).heap.size=W:=zO _ _ _;refine⟨(hK.os.trans f.os:W.os=w.os),(hK.tape.trans f.tape:W.tape=w.tape),(hK.output.trans f.output:W.output=w.output),by rw[hz];exact bC f.size hK.size,λb hb E=>?_⟩;by_cases e:b=4;·subst e;rw[Da<|(hK.block 4 (cU.1 SN).1<|by grind).trans SN];exact HH.g.symm
  ·rw[gQ _ _ _ _ e,hK.block b (cE hb f.size) λh=>E<|by grind,f.block b hb λh=>by grind]
 have H:=Hq9.mk hcS f ahW En Gy ahO @aiw SN BV;clear hcS f ahW En Gy ahO aiw SN BV;go_wp2;go_loopg[6,7,12,13,14,15]17λk s6 s7 s12 s13 s14 s15 wr=>∃(j z:Nat)(ok:Bool)(S R:AQ)(AS AR LX' E3 Q3 Q1:List O),s6=.int .i64 j∧s7=.int .i64 z∧s13=.bool ok∧s14=.pointer (U ⟨S.p,0,Z⟩)∧s15=.pointer (U ⟨R.p,0,Z⟩)∧AO wf.heap.size ⟨p0,i0,QY,g0⟩ ⟨p1,i1,m1,g1⟩ A B ((n0+1)%8=0∨Clear t A B) (sH A B<|n0+1) c w1 k j z s12 ok S R wr AS AR LX' E3 Q3 Q1;case atStart=>exact⟨0,0,Y,⟨p0,i0,QY,g0⟩,⟨p1,i1,m1,g1⟩,A,B,LX,LY,A,B,rfl,rfl,rfl,rfl,rfl,H.d⟩
 case round=>obtain⟨j,z,ok,S,R,AS,AR,LX',E3,Q3,Q1,rfl,rfl,rfl,rfl,rfl,I⟩:=hrel;have Zo:=(I.keep.block 4 (cU.1 H.h).1<|by rintro(h|h);exact m40 h.symm;exact m41 h.symm).trans H.h;have kr4:wr.cell? ⟨4,0,Z⟩=U (.int .i64 1):=M Zo 0;have fr4:=qO Zo 0;clear Zo;cases ok with
  |false=>have HO:=cH.mk (I.over<|.inl rfl) I.keep;clear I;go_wp2;go_ret2;obtain⟨⟨L0,L1,A',B',q1,q2,q3,q4,q5⟩,DZ⟩:=HO;obtain⟨e1,e2,e3⟩:=H.i wr DZ;exact⟨j,z,L0,L1,A',B',rfl,e3 _ _ (.inl rfl) q1,q2,e3 _ _ (.inr rfl) q3,q4,q5,e1,e2⟩
  |true=>cases c with|none=>
    have hvm:vm=.slice Z 0 0:=HH.h;subst hvm;have Ee:∀x,(Z:Option Int)=U x->0<=x->(j:Int)<x:=λx h=>by cases h
    obtain⟨m,P,k',hk,i,l,T,F,Q2⟩:∃m P k',gk=k'+1∧j+k'<=16∧z+P<=sH A B (n0+1)∧gK t ((n0+1)%8=0∨Clear t A B) AS AR Q3 Q1 m P k'∧CL m∧dF wf.heap.size wr u12 (gy m):=by
     rcases I.st with⟨-,h⟩|⟨h,-⟩;·exact h
     ·cases h
    have NN:=H.a;have fo:=T.size;obtain⟨g,cap,rfl,G,sg,eK⟩:=KI Q2<|FP m;have hR:R=⟨p0,i0,QY,g0⟩∨R=⟨p1,i1,m1,g1⟩:=by
     rcases I.who with⟨-,h,-⟩|⟨-,h,-⟩;·exact .inr h
     ·exact .inl h
    obtain⟨r1,r2,r3,r4⟩:=H.c R hR;have d:=bC H.f I.keep.size;have Q0:=X (abu R.p R.mb R.gb R.id E3 m g 0 cap wr ((I.keep.block R.p r4<|by rintro(h|h);exact r2 h;exact r3 h).trans r1) I.bY (H.e.keep I.keep<|by rintro(h|h);exact HW.d QY (.inr<|.inl rfl) h;exact HW.d m1 (.inr<|.inr<|.inl rfl) h) G sg eK (T.ok F) (λx hx=>Xu<|T.bk.gX x<|T.bq x hx)<|T.an I.kY F (by omega)<|by have:=I.lY;have:=I.MR;omega);obtain⟨n,E⟩:=ex (gy m).length;rw[<-E]at Q0;have fg:aC.wrap ((j:Int)+1)=(j:Int)+1:=by rw[mB];omega
    have yT:aC.wrap ((z:Int)+(n:Int))=(z:Int)+(n:Int):=by rw[mB];omega
    have yS:iJ ((j:Int)+1)=(j:Int)+1:=by unfold iJ;omega
    have hw4:iJ ((z:Int)+(n:Int))=(z:Int)+(n:Int):=by unfold iJ;omega
    have HI:=E4.mk I hk i l T F d E;clear I hk i l T F Q2 NN fo G sg eK hR r1 r2 r3 r4 d;rw[<-E];clear E;go_wp2_with(go_at_call 59;go_must(refine Q0.out.mono ?_);rintro e w9⟨q,o,u⟩;have N:=WK u;clear u;obtain⟨v9,rfl,r⟩:=N;have H9:=gF.mk q o r;clear q o r;refine Halt.of ?_);unfold Halt;clear Q0;obtain⟨I,hk,i,l,T,F,d,E⟩:=HI;obtain⟨q,o,r⟩:=H9;rcases r with⟨C,rfl⟩|⟨QZ,QW⟩
    ·obtain⟨k2,D,QX⟩:=I.next hm H.a Ee d T F hk i l q o (v':=.slice Z 0 0)<|.inl ⟨C,rfl⟩;rw[<-E]at QX;have HN:=cH.mk D QX;have K:=λ(w:ay)(a:eT)(n c:Nat)=>xY (U a) n c w;have J:=λ(w:ay)=>xY Z 0 0 w;simp only[OO]at K J;clear I hk i l T F d E q o C D QX;go_wp2;go_roundg k2;case rel=>exact⟨j+1,z+n,ai,R,S,AR,AS,_,_,_,_,congrArg (V aC)<|by omega,congrArg (V aC)<|by omega,rfl,rfl,rfl,HN.b⟩
     case measure=>exact HN.a
    ·obtain⟨g9,c9,rfl,-,-,-⟩:=KI QW<|FP _;obtain⟨k2,D,QX⟩:=I.next hm H.a Ee d T F hk i l q o<|.inr ⟨QZ,rfl,QW⟩;rw[<-E]at QX;have HN:=cH.mk D QX;have K:=λ(w:ay)(a:eT)(n c:Nat)=>xY (U a) n c w;have J:=λ(w:ay)=>xY Z 0 0 w;simp only[OO]at K J;obtain⟨n9,DU⟩:=ex (gy<|tn (m.bq.foldl fD E3) m).length;rw[<-DU]at HN⊢;clear I hk i l T F d E q o QZ D QX QW DU;go_wp2;go_roundg k2;case rel=>exact⟨j+1,z+n,Y,R,S,AR,AS,_,_,_,_,congrArg (V aC)<|by omega,congrArg (V aC)<|by omega,rfl,rfl,rfl,HN.b⟩
     case measure=>exact HN.a|some x=>
    obtain⟨gv,nv,cv,rfl,hnv,hcv,hg4⟩:=show Pn w vm (U x)from HH.h;have hcv:=H.g wr I.keep hcv hg4;have aGV:(0:Int)<(nv:Int):=by omega
    have aGU:¬(nv:Int)=0:=by omega
    have aGT:¬nv=0:=by omega
    by_cases iO:x<0
    ·have Ee:∀y,U x=U y->0<=y->(j:Int)<y:=λy h=>by injection h with h;omega
     obtain⟨m,P,k',hk,i,l,T,F,Q2⟩:∃m P k',gk=k'+1∧j+k'<=16∧z+P<=sH A B (n0+1)∧gK t ((n0+1)%8=0∨Clear t A B) AS AR Q3 Q1 m P k'∧CL m∧dF wf.heap.size wr u12 (gy m):=by
      rcases I.st with⟨-,h⟩|⟨h,-⟩;·exact h
      ·cases h
     have NN:=H.a;have fo:=T.size;obtain⟨g,cap,rfl,G,sg,eK⟩:=KI Q2<|FP m;have hR:R=⟨p0,i0,QY,g0⟩∨R=⟨p1,i1,m1,g1⟩:=by
      rcases I.who with⟨-,h,-⟩|⟨-,h,-⟩;·exact .inr h
      ·exact .inl h
     obtain⟨r1,r2,r3,r4⟩:=H.c R hR;have d:=bC H.f I.keep.size;have Q0:=X (abu R.p R.mb R.gb R.id E3 m g 0 cap wr ((I.keep.block R.p r4<|by rintro(h|h);exact r2 h;exact r3 h).trans r1) I.bY (H.e.keep I.keep<|by rintro(h|h);exact HW.d QY (.inr<|.inl rfl) h;exact HW.d m1 (.inr<|.inr<|.inl rfl) h) G sg eK (T.ok F) (λx hx=>Xu<|T.bk.gX x<|T.bq x hx)<|T.an I.kY F (by omega)<|by have:=I.lY;have:=I.MR;omega);obtain⟨n,E⟩:=ex (gy m).length;rw[<-E]at Q0;have fg:aC.wrap ((j:Int)+1)=(j:Int)+1:=by rw[mB];omega
     have yT:aC.wrap ((z:Int)+(n:Int))=(z:Int)+(n:Int):=by rw[mB];omega
     have yS:iJ ((j:Int)+1)=(j:Int)+1:=by unfold iJ;omega
     have hw4:iJ ((z:Int)+(n:Int))=(z:Int)+(n:Int):=by unfold iJ;omega
     have HI:=E4.mk I hk i l T F d E;clear I hk i l T F Q2 NN fo G sg eK hR r1 r2 r3 r4 d;rw[<-E];clear E;go_wp2_with(go_at_call 59;go_must(refine Q0.out.mono ?_);rintro e w9⟨q,o,u⟩;have N:=WK u;clear u;obtain⟨v9,rfl,r⟩:=N;have H9:=gF.mk q o r;clear q o r;refine Halt.of ?_);unfold Halt;clear Q0;obtain⟨I,hk,i,l,T,F,d,E⟩:=HI;obtain⟨q,o,r⟩:=H9;rcases r with⟨C,rfl⟩|⟨QZ,QW⟩
     ·obtain⟨k2,D,QX⟩:=I.next hm H.a Ee d T F hk i l q o (v':=.slice Z 0 0)<|.inl ⟨C,rfl⟩;rw[<-E]at QX;have HN:=cH.mk D QX;have K:=λ(w:ay)(a:eT)(n c:Nat)=>xY (U a) n c w;have J:=λ(w:ay)=>xY Z 0 0 w;simp only[OO]at K J;clear I hk i l T F d E q o C D QX;go_wp2;go_roundg k2;case rel=>exact⟨j+1,z+n,ai,R,S,AR,AS,_,_,_,_,congrArg (V aC)<|by omega,congrArg (V aC)<|by omega,rfl,rfl,rfl,HN.b⟩
      case measure=>exact HN.a
     ·obtain⟨g9,c9,rfl,-,-,-⟩:=KI QW<|FP _;obtain⟨k2,D,QX⟩:=I.next hm H.a Ee d T F hk i l q o<|.inr ⟨QZ,rfl,QW⟩;rw[<-E]at QX;have HN:=cH.mk D QX;have K:=λ(w:ay)(a:eT)(n c:Nat)=>xY (U a) n c w;have J:=λ(w:ay)=>xY Z 0 0 w;simp only[OO]at K J;obtain⟨n9,DU⟩:=ex (gy<|tn (m.bq.foldl fD E3) m).length;rw[<-DU]at HN⊢;clear I hk i l T F d E q o QZ D QX QW DU;go_wp2;go_roundg k2;case rel=>exact⟨j+1,z+n,Y,R,S,AR,AS,_,_,_,_,congrArg (V aC)<|by omega,congrArg (V aC)<|by omega,rfl,rfl,rfl,HN.b⟩
      case measure=>exact HN.a
    ·by_cases hxj:(j:Int)<x
     ·have Ee:∀y,U x=U y->0<=y->(j:Int)<y:=λy h=>by injection h with h;omega
      obtain⟨m,P,k',hk,i,l,T,F,Q2⟩:∃m P k',gk=k'+1∧j+k'<=16∧z+P<=sH A B (n0+1)∧gK t ((n0+1)%8=0∨Clear t A B) AS AR Q3 Q1 m P k'∧CL m∧dF wf.heap.size wr u12 (gy m):=by
       rcases I.st with⟨-,h⟩|⟨h,-⟩;·exact h
       ·cases h
      have NN:=H.a;have fo:=T.size;obtain⟨g,cap,rfl,G,sg,eK⟩:=KI Q2<|FP m;have hR:R=⟨p0,i0,QY,g0⟩∨R=⟨p1,i1,m1,g1⟩:=by
       rcases I.who with⟨-,h,-⟩|⟨-,h,-⟩;·exact .inr h
       ·exact .inl h
      obtain⟨r1,r2,r3,r4⟩:=H.c R hR;have d:=bC H.f I.keep.size;have Q0:=X (abu R.p R.mb R.gb R.id E3 m g 0 cap wr ((I.keep.block R.p r4<|by rintro(h|h);exact r2 h;exact r3 h).trans r1) I.bY (H.e.keep I.keep<|by rintro(h|h);exact HW.d QY (.inr<|.inl rfl) h;exact HW.d m1 (.inr<|.inr<|.inl rfl) h) G sg eK (T.ok F) (λx hx=>Xu<|T.bk.gX x<|T.bq x hx)<|T.an I.kY F (by omega)<|by have:=I.lY;have:=I.MR;omega);obtain⟨n,E⟩:=ex (gy m).length;rw[<-E]at Q0;have fg:aC.wrap ((j:Int)+1)=(j:Int)+1:=by rw[mB];omega
      have yT:aC.wrap ((z:Int)+(n:Int))=(z:Int)+(n:Int):=by rw[mB];omega
      have yS:iJ ((j:Int)+1)=(j:Int)+1:=by unfold iJ;omega
      have hw4:iJ ((z:Int)+(n:Int))=(z:Int)+(n:Int):=by unfold iJ;omega
      have HI:=E4.mk I hk i l T F d E;clear I hk i l T F Q2 NN fo G sg eK hR r1 r2 r3 r4 d;rw[<-E];clear E;go_wp2_with(go_at_call 59;go_must(refine Q0.out.mono ?_);rintro e w9⟨q,o,u⟩;have N:=WK u;clear u;obtain⟨v9,rfl,r⟩:=N;have H9:=gF.mk q o r;clear q o r;refine Halt.of ?_);unfold Halt;clear Q0;obtain⟨I,hk,i,l,T,F,d,E⟩:=HI;obtain⟨q,o,r⟩:=H9;rcases r with⟨C,rfl⟩|⟨QZ,QW⟩
      ·obtain⟨k2,D,QX⟩:=I.next hm H.a Ee d T F hk i l q o (v':=.slice Z 0 0)<|.inl ⟨C,rfl⟩;rw[<-E]at QX;have HN:=cH.mk D QX;have K:=λ(w:ay)(a:eT)(n c:Nat)=>xY (U a) n c w;have J:=λ(w:ay)=>xY Z 0 0 w;simp only[OO]at K J;clear I hk i l T F d E q o C D QX;go_wp2;go_roundg k2;case rel=>exact⟨j+1,z+n,ai,R,S,AR,AS,_,_,_,_,congrArg (V aC)<|by omega,congrArg (V aC)<|by omega,rfl,rfl,rfl,HN.b⟩
       case measure=>exact HN.a
      ·obtain⟨g9,c9,rfl,-,-,-⟩:=KI QW<|FP _;obtain⟨k2,D,QX⟩:=I.next hm H.a Ee d T F hk i l q o<|.inr ⟨QZ,rfl,QW⟩;rw[<-E]at QX;have HN:=cH.mk D QX;have K:=λ(w:ay)(a:eT)(n c:Nat)=>xY (U a) n c w;have J:=λ(w:ay)=>xY Z 0 0 w;simp only[OO]at K J;obtain⟨n9,DU⟩:=ex (gy<|tn (m.bq.foldl fD E3) m).length;rw[<-DU]at HN⊢;clear I hk i l T F d E q o QZ D QX QW DU;go_wp2;go_roundg k2;case rel=>exact⟨j+1,z+n,Y,R,S,AR,AS,_,_,_,_,congrArg (V aC)<|by omega,congrArg (V aC)<|by omega,rfl,rfl,rfl,HN.b⟩
       case measure=>exact HN.a
     ·have HO:=cH.mk (I.over<|.inr ⟨x,rfl,by omega,by omega⟩) I.keep;clear I;go_wp2;go_ret2;obtain⟨⟨L0,L1,A',B',q1,q2,q3,q4,q5⟩,DZ⟩:=HO;obtain⟨e1,e2,e3⟩:=H.i wr DZ;exact⟨j,z,L0,L1,A',B',rfl,e3 _ _ (.inl rfl) q1,q2,e3 _ _ (.inr rfl) q3,q4,q5,e1,e2⟩
@[simp]theorem aFb(args)(w):(iA 41 args).run Q w=aY (jL 41 args) w:=Ow acB (by kernel_rfl) args w
theorem KV.drew{l i}{m}{A B}{bs}{c}{w w'}{e}(h:KV l i m A B bs c w.drew e w'):KV l i m A B bs c w e w':=by obtain⟨j,z,s,n,p,r,a,b,o,d,f,g,q,k⟩:=h;exact⟨j,z,s,n,p,r,a,b,o,d,f,g,q,(aK.drew _ _).trans k⟩
theorem adb(G)(lv)(r)(i j:Nat)(hi)(hj:j<r.length)(g n)(C)(J P A B)(bs)(H)(c)(w)(O:sM w G lv r)(Gd:r.length<=1000000)(e0:r[i]=g.p)(e1:r[j]=n.p)(h0:g.At w)(h1:n.At w)(hp:g.p≠n.p)(hm:g.mb≠n.mb)(QX:g.gb≠g.mb)(QW:g.gb≠n.mb)(Q2:cI w g.mb J)(Q1:cI w n.mb P)(hA:Bk J A)(hB:Bk P B)(fA:∀x∈A,Fits x)(fB:∀x∈B,Fits x)(lA:A.length<=4096)(lB:B.length<=4096)(ht:fQ w)(hf:sQ w)(Q3:dn (qT aC) w g.gb bs)(S:(look bs n.id).getD (V aC 0)=V aC C)(N:0<=C)(I:C<4611686018427387904)(hc:Pn w H c):bz Q 23 #[aG G,i,j,H] w λe w'=>KV g n C A B bs c w e w':=by
 obtain⟨D,z,hv,hg,s⟩:=O.cell hi;have t:w.cell? ⟨D,j,Z⟩=U (aG r[j]):=by obtain⟨R,Y,we,-,h⟩:=O.cell hj;grind
 subst hv;rw[e0]at s;rw[e1]at t;have E:w.cell? G=U (aE D r.length z):=M O.box 0;have No:(i:Int)<(r.length:Int):=by omega
 have nB:(j:Int)<(r.length:Int):=by omega
 have hT:∀{b:Nat}{v:az}{i:Nat},w.cell? ⟨b,i,Z⟩=v->b<w/\b≠g.mb/\b≠n.mb/\b≠g.gb:=λ{b v i}o=>by
  have Gg:∀(q:Nat)(y:_)(F:_),w.heap[q]?=U (iZ y F)->b≠q:=λq y F hb e=>by subst e;unfold pg at o;grind
  refine⟨oh w _ o,?_,?_,?_⟩;.obtain⟨y,F,h,_⟩:=Q2;grind
  .obtain⟨y,F,h,_⟩:=Q1;grind
  .obtain⟨y,F,h,_⟩:=Q3;grind
 have QY:∀(W:ay)(b k:Nat)(v:az),aK (λb=>b=g.mb\/b=n.mb\/b=g.gb) w W->w.cell? ⟨b,k,Z⟩=v->W.cell? ⟨b,k,Z⟩=v:=λW b k v L o=>by obtain⟨f,l,q3,q4⟩:=hT o;exact(L.cell (p:=⟨b,k,Z⟩) f<|by grind).trans o
 have T:=X QY;go_enter aoi,ntmps23;go_wp2;refine xG ?_;refine CX (λW=>W.cell? ⟨G,0,Z⟩=U (aE (U ⟨D,0,Z⟩) r.length z)/\W.cell? ⟨D,i,Z⟩=U (aG<|U ⟨g.p,0,Z⟩)/\W.cell? ⟨D,j,Z⟩=U (aG<|U ⟨n.p,0,Z⟩)) [0,1,2,3,4,5,6,7,8,9,10,11,12,13,14,15,16,17,18,19] (by kernel_rfl) ⟨E,s,t⟩ (λ_ _ _ _ _ h=>h) ?_;repeat((apply qH _ rfl (by kernel_rfl) rfl;.intro W d;obtain⟨m,f,l⟩:=d;go_simp;try with_reducible rfl);simp only[yq])
 refine vE rfl (by kernel_rfl) λa K L=>?_;go_simp;go_at_call 41;refine jg (X<|ap6 g n C J P A B bs H c w.drew h0 h1 hp hm QX QW (Q2.of_block rfl) (Q1.of_block rfl) hA hB fA fB lA lB ht hf Q3.drew S N I<|by cases c<;>exact hc).out ?_;rintro e w7 Q0;obtain⟨fj,fz,L0,L1,A',B',rfl,hQ⟩:=Q0.drew;have u:=hQ.2.2.2.2.2.2;refine L.out _ _ ⟨T.out _ _ _ _ u E,T.out _ _ _ _ u s,T.out _ _ _ _ u t⟩ ?_;repeat((apply qH _ rfl (by kernel_rfl) rfl;.intro W d;go_simp;try with_reducible rfl);simp only[yq])
 refine CY (by kernel_rfl) λa=>?_;refine qN ?_;go_wp2;go_ret2;exact(X Q0).out.drew
structure Rk where
 p:Nat
 id:Int
 m:Nat
 g:Nat
 L:List O
 l:List O
 bs:List<|Int×az
def Rk.r4(o:Rk):AQ:=⟨o.p,o.id,o.m,o.g⟩
def Rk.uz(o:Rk)(L' l':List O):Rk:=⟨o.p,o.id,o.m,o.g,L',l',o.bs⟩
def Rk.asp(o:Rk)(L' l':List O)(Ct:List<|Int×az):Rk:=⟨o.p,o.id,o.m,o.g,L',l',Ct⟩
abbrev Keys:=List<|ByteArray×ByteArray
structure vu(N K S:Nat)(ks:Keys)(w:ay)(o:Rk):Prop where
 rep:fE w o.p o.id o.m o.g
 book:cI w o.m o.L
 bk:Bk o.L o.l
 map:dn (qT aC) w o.g o.bs
 cnt:∀y∈o.l,0<=y.c/\y.c<=K/\gu y.r
 ks:∀y∈o.l,(y.name,y.field)∈ks
 Bb:∀k,∃n:Nat,(look o.bs k).getD (V aC 0)=V aC n/\n<=S
 pN:N<=o.p
 mN:N<=o.m
 gN:N<=o.g
 JC:gu o.id
def qJ(R:Nat->Rk):List Nat:=[(R 0).p,(R 1).p,(R 2).p]
structure fJ(N K S:Nat)(ks:Keys)(w:ay)(pw:Nat)(pv:az)(R:Nat->Rk):Prop where
 mY:sM w pw pv (qJ R)eE:∀i,i<3->vu N K S ks w (R i)ms:∀i j,i<3->j<3->i≠j->(R i).m≠(R j).m
 gm:∀i j,i<3->j<3->(R i).g≠(R j).m
 gs:∀i j,i<3->j<3->i≠j->(R i).g≠(R j).g
 kl:ks.length<=K
 IL:∀b,pv.ownBlock=U b->N<=b
 IK:N<=pw
def oG(R:Nat->Rk)(b:Nat):Prop:=∃k,k<3/\(b=(R k).m\/b=(R k).g)
structure pE(R R':Nat->Rk):Prop where
 p:∀k,(R' k).p=(R k).p
 id:∀k,(R' k).id=(R k).id
 m:∀k,(R' k).m=(R k).m
 g:∀k,(R' k).g=(R k).g
theorem pE.refl(R):pE R R:=⟨λ_=>rfl,λ_=>rfl,λ_=>rfl,λ_=>rfl⟩
theorem pE.trans{R b a}(h:pE R b)(k:pE b a):pE R a:=⟨λi=>(k.p i).trans<|h.p i,λi=>(k.id i).trans<|h.id i,λi=>(k.m i).trans<|h.m i,λi=>(k.g i).trans<|h.g i⟩
theorem pE.maps{R a}(h:pE R a):oG a=oG R:=funext λb=>by unfold oG;simp only[h.m,h.g]
theorem fJ.lo{N K S}{f}{w}{d}{c}{R}(h:fJ N K S f w d c R){b}(g:oG R b):N<=b:=by
 obtain⟨k,a,e|e⟩:=g<;>rw[e];.exact(h.eE k a).mN
 .exact(h.eE k a).gN
theorem Bg(R):(qJ R).length=3:=rfl
theorem IN(R){i}(h:i<3):(qJ R)[i]'h=(R i).p:=by
 have:i=0\/i=1\/i=2:=by omega
 rcases this with rfl|rfl|rfl<;>rfl
theorem agi{t:Type}[DecidableEq t]{k k':t}(v:az)(h:k≠k'):∀(l:List<|t×az),look (put l k v) k'=look l k'
 |[]=>by grind[put,look]|(a,u)::l=>by
  unfold put;by_cases e:a=k;.rw[dy e];subst e;show(if a=k' then _ else look l k')=if a=k' then _ else look l k';grind
  .rw[if_neg e];show(if a=k' then U u else look (put l k v) k')=if a=k' then U u else look l k';rw[agi v h l]
theorem abr{A B X}(d:j X)(h:xk A B X){x}(c:x∈X):x∈A\/x∈B:=by
 have f:=Pd d c;have g:∀{a b:Option O}{y:O},ie a b=y->a=y\/b=y:=λ{a b y}h=>by cases a with|none=>exact aA h|some a=>cases b with|none=>exact ax h|some b=>simp only[ie,ew,Dr]at h;grind
 rcases h x.name x.field with e|e;all_goals grind[tX]
section
variable {N K S K' S':Nat} {ks ks':Keys} {w w':ay} {pw:Nat} {pv:az} {R:Nat->Rk} {o:Rk}
theorem vu.blocks(h:vu N K S ks w o)(c:w'.heap[o.p]?=w.heap[o.p]?)(b:w'.heap[o.m]?=w.heap[o.m]?)(a:w'.heap[o.g]?=w.heap[o.g]?):vu N K S ks w' o:=⟨c.trans h.rep,h.book.of_block b,h.bk,h.map.of_block a,h.cnt,h.ks,h.Bb,h.pN,h.mN,h.gN,h.JC⟩
theorem vu.more(h:vu N K S ks w o)(f:K<=K')(g:S<=S')(e:∀x∈ks,x∈ks'):vu N K' S' ks' w o:=⟨h.rep,h.book,h.bk,h.map,λy d=>⟨(h.cnt y d).1,by have:=(h.cnt y d).2.1;omega,(h.cnt y d).2.2⟩,λy d=>e _<|h.ks y d,λk=>by obtain⟨n,a,b⟩:=h.Bb k;grind,h.pN,h.mN,h.gN,h.JC⟩
theorem vu.fits(h:vu N K S ks w o)(c:K<=1000000):∀x∈o.l,Fits x:=λx a=>by obtain⟨e,d,b⟩:=h.cnt x a;exact⟨Fq ⟨by omega,by omega⟩,Fq b⟩
theorem vu.len(h:vu N K S ks w o):o.l.length<=ks.length:=by
 have g:(o.l.map λx=>(x.name,x.field)).Nodup:=List.pairwise_map.2 (h.bk.sorted.imp λ{a b}i e=>by grind[Cy]);have:=afI g (b:=ks) λx f=>by obtain⟨y,d,rfl⟩:=mC.1 f;exact h.ks y d
 grind
theorem fJ.below(h:fJ N K S ks w pw pv R)(a:aW w w w'):fJ N K S ks w' pw pv R:=⟨⟨(a.block _ (cU.1 h.mY.box).1).trans h.mY.box,dx h.mY.row λb d=>a.block b (h.mY.row.lt b d).2⟩,λi c=>(h.eE i c).blocks (a.block _ (h.eE i c).rep.lt) (a.block _ (h.eE i c).book.lt)<|a.block _ (h.eE i c).map.lt,h.ms,h.gm,h.gs,h.kl,h.IL,h.IK⟩
theorem fJ.more(h:fJ N K S ks w pw pv R)(a:K<=K')(e:S<=S')(c:∀x∈ks,x∈ks')(d:ks'.length<=K'):fJ N K' S' ks' w pw pv R:=⟨h.mY,λi b=>(h.eE i b).more a e c,h.ms,h.gm,h.gs,d,h.IL,h.IK⟩
def pX(R:Nat->Rk)(i:Nat)(o:Rk):Nat->Rk:=λk=>if k=i then o else R k
theorem P5(R)(i)(o):pX R i o i=o:=dy rfl
theorem P6(R){i k}(o)(h:k≠i):pX R i o k=R k:=if_neg h
theorem ur{t:Type}(f:Rk->t)(R){i}{o}(h:f o=f (R i))(k):f (pX R i o k)=f (R k):=by grind[pX]
theorem atZ(R){i}{o}(h:o.p=(R i).p):qJ (pX R i o)=qJ R:=by unfold qJ;rw[ur Rk.p R h,ur Rk.p R h,ur Rk.p R h]
theorem fJ.touch(h:fJ N K S ks w pw pv R){F}(k:aK F w w')(n:∀b,F b->∃l j,w.heap[b]?=U (iZ l j)):sM w' pw pv (qJ R)/\∀i,i<3->fE w' (R i).p (R i).id (R i).m (R i).g:=by
 have g:∀(b:Nat)(c:Array az)(t:Nat),w.heap[b]?=aH c t (0,0)->w'.heap[b]?=w.heap[b]?:=λb c t a=>k.block b (cU.1 a).1 λe=>by grind
 refine⟨⟨(g _ _ _ h.mY.box).trans h.mY.box,dx h.mY.row λb a=>?_⟩,λi d=>(g _ _ _ (h.eE i d).rep).trans (h.eE i d).rep⟩;obtain⟨m,f⟩:=WI h.mY.row a;grind
theorem fJ.edit(h:fJ N K S ks w pw pv R){i}(q:i<3){L' l'}(p:aK (λb=>b=(R i).m) w w')(x:cI w' (R i).m L')(t:Bk L' l')(z:∀y∈l',0<=y.c/\y.c<=K/\gu y.r)(s:∀y∈l',(y.name,y.field)∈ks):fJ N K S ks w' pw pv<|pX R i<|(R i).uz L' l':=by
 obtain⟨v,u⟩:=h.touch p λb e=>by subst e;obtain⟨B,A,f,_⟩:=(h.eE i q).book;grind
 refine⟨by rw[atZ R (o:=(R i).uz L' l') rfl];exact v,λk d=>?_,λa b l n j=>?_,λa b l n=>?_,λa b l n j=>?_,h.kl,h.IL,h.IK⟩
 .have f:=h.eE k d;by_cases e:k=i;.subst e;rw[P5];exact⟨u k d,x,t,f.map.of_block<|p.block _ f.map.lt<|h.gm k k d d,z,s,f.Bb,f.pN,f.mN,f.gN,f.JC⟩
  .rw[P6 R _ e];refine f.blocks ((u k d).trans f.rep.symm) (p.block _ f.book.lt<|h.ms k i d q e)<|p.block _ f.map.lt<|h.gm k i d q
 .rw[ur Rk.m R (o:=(R i).uz L' l') rfl,ur Rk.m R (o:=(R i).uz L' l') rfl];exact h.ms a b l n j
 .rw[ur Rk.g R (o:=(R i).uz L' l') rfl,ur Rk.m R (o:=(R i).uz L' l') rfl];exact h.gm a b l n
 .rw[ur Rk.g R (o:=(R i).uz L' l') rfl,ur Rk.g R (o:=(R i).uz L' l') rfl];exact h.gs a b l n j
theorem fJ.sync(h:fJ N K S ks w pw pv R){i j}(z:i<3)(p:j<3)(wv:i≠j){n:Nat}{c}{e}(hn:(look (R i).bs (R j).id).getD (V aC 0)=n)(H:KV (R i).r4 (R j).r4 n (R i).l (R j).l (R i).bs c w e w'):∃(W X:Nat)(B E:List O)(M:Nat->Rk),e=bj (bO #[W,X])/\Pj ((n+1:Int)%8=0\/Clear t (R i).l (R j).l) (R i).l (R j).l (sH (R i).l (R j).l<|n+1) c B E W X/\fJ N K (S+1) ks w' pw pv M/\(M i).l=B/\(M j).l=E/\(∀k,k≠i->k≠j->(M k).l=(R k).l)/\pE R M/\(look (M i).bs (R j).id).getD (V aC 0)=(n+1:Nat)/\aK (oG R) w w':=by
 obtain⟨W,X,L0,L1,B,E,h1,h2,h3,h4,h5,r,h7,L⟩:=H;have s:=h.eE i z;have l:=h.eE j p;simp only[Rk.r4]at h2 h4 h7 L;obtain⟨hW,m⟩:=h.touch L λb e=>by
  rcases e with e|e|e<;>subst e;.obtain⟨en,ck,q,_⟩:=s.book;grind
  .obtain⟨en,ck,q,_⟩:=l.book;grind
  .obtain⟨en,ck,q,_⟩:=s.map;grind
 have F:∀x,x∈B\/x∈E->x∈(R i).l\/x∈(R j).l:=λx v=>by
  rcases v with v|v;.exact abr r.bk.sX r.bk.bX v
  .exact(abr r.bk.sY r.bk.bY v).symm
 have G:∀x,x∈B\/x∈E->0<=x.c/\x.c<=K/\gu x.r:=λx v=>by
  rcases F x v with q|q;.exact s.cnt x q
  .exact l.cnt x q
 have P:∀x,x∈B\/x∈E->(x.name,x.field)∈ks:=λx v=>by
  rcases F x v with q|q;.exact s.ks x q
  .exact l.ks x q
 let D:=(R i).asp L0 B<|put (R i).bs (R j).id<|V aC<|(n:Nat)+1;let C:=(R j).uz L1 E;have g:pX (pX R i D) j C i=D:=by grind[P6,P5]
 have ej:pX (pX R i D) j C j=C:=P5 _ _ _;have ek:∀k,k≠i->k≠j->pX (pX R i D) j C k=R k:=λk h1 h2=>by grind[P6]
 have u:∀{α:Type}(f:Rk->α),f D=f (R i)->f C=f (R j)->∀k,f (pX (pX R i D) j C k)=f (R k):=λf a b k=>by grind
 refine⟨W,X,B,E,pX (pX R i D) j C,h1,r,⟨?_,λk Q0=>?_,λa b Q T J=>?_,λa b Q T=>?_,λa b Q T J=>?_,h.kl,h.IL,h.IK⟩,by rw[g];rfl,by rw[ej];rfl,λk a b=>by grind,⟨λk=>u Rk.p rfl rfl k,λk=>u Rk.id rfl rfl k,λk=>u Rk.m rfl rfl k,λk=>u Rk.g rfl rfl k⟩,?_,L.mono λb _ e=>?_⟩
 .have:qJ (pX (pX R i D) j C)=qJ R:=by unfold qJ;rw[u Rk.p rfl rfl,u Rk.p rfl rfl,u Rk.p rfl rfl]
  grind
 .by_cases e1:k=j;.subst e1;rw[ej];exact⟨m k Q0,h4,h5,l.map.of_block<|L.block _ l.map.lt<|by rintro(q|q|q);exact h.gm k i Q0 z q;exact h.gm k k Q0 Q0 q;exact h.gs k i Q0 z (by grind) q,λy I=>G y<|aA I,λy I=>P y<|aA I,λd=>by obtain⟨n,a,b⟩:=l.Bb d;exact⟨n,a,by omega⟩,l.pN,l.mN,l.gN,l.JC⟩
  .by_cases e2:k=i
   .subst e2;rw[g];refine⟨m k Q0,h2,h3,h7,λy I=>G y<|ax I,λy I=>P y<|ax I,λd=>?_,s.pN,s.mN,s.gN,s.JC⟩;by_cases e:(R j).id=d;.subst e;obtain⟨n,a,b⟩:=s.Bb (R j).id;rw[hn]at a;injection a with _ a;exact⟨n+1,by show(look (put (R k).bs (R j).id _) (R j).id).getD _=_;grind[Mo],by omega⟩
    .obtain⟨n,a,b⟩:=s.Bb d;exact⟨n,by show(look (put (R k).bs (R j).id _) d).getD _=_;grind[agi],by omega⟩
   .rw[ek k e2 e1];have A:=h.eE k Q0;exact(A.more (aS _) (Jp _) λ_ q=>q).blocks ((m k Q0).trans A.rep.symm) (L.block _ A.book.lt<|by rintro(q|q|q);exact h.ms k i Q0 z e2 q;exact h.ms k j Q0 p e1 q;exact h.gm i k z Q0 q.symm)<|L.block _ A.map.lt<|by rintro(q|q|q);exact h.gm k i Q0 z q;exact h.gm k j Q0 p q;exact h.gs k i Q0 z e2 q
 .rw[u Rk.m rfl rfl,u Rk.m rfl rfl];exact h.ms a b Q T J
 .rw[u Rk.g rfl rfl,u Rk.m rfl rfl];exact h.gm a b Q T
 .rw[u Rk.g rfl rfl,u Rk.g rfl rfl];exact h.gs a b Q T J
 .rw[g];show(look (put (R i).bs (R j).id _) (R j).id).getD _=_;grind[Mo]
 .rcases e with e|e|e;.exact⟨i,z,ax e⟩
  .exact⟨j,p,ax e⟩
  .exact⟨i,z,aA e⟩
end
theorem Me(c)(n:Nat)(w)(m:0<n)(k:n<=1000000)(j:gu c):bz Q 18 #[c,n] w λe g=>e=bj (uB c n)/\g=w:=by
 have a:((uB c n:Nat):Int)=(if c<0 then-(c+1)else c)%n:=by grind[uB,Int.toNat_of_nonneg,Int.emod_nonneg]
 have i:¬(n:Int)=0:=by omega
 have h:¬n=0:=by omega
 obtain⟨o,q⟩:=j;by_cases h0:c<0
 .have r:aC.wrap (c+1)=c+1:=by grind[IntKind.wrap_i64]
  have p:aC.wrap (-(c+1))=-(c+1):=by grind[IntKind.wrap_i64]
  have l:(-(c+1)).tmod (n:Int)=-(c+1)%n:=by grind
  rw[dy h0]at a;have d:=X (aM a<|aM (agO (-(c+1))<|show(0:Int)<n by omega)<|agP (-(c+1))<|show(n:Int)≠0 by omega);go_enter acH,ntmps18;go_wp2;go_ret;obtain⟨a,_,_⟩:=d.out;exact⟨congrArg (λz=>bj<|V aC z) a.symm,rfl⟩
 .have l:c.tmod (n:Int)=c%n:=by grind
  have f:=agO c (show(0:Int)<n by omega);have b:=agP c (show(n:Int)≠0 by omega);rw[if_neg h0]at a;have d:=X<|aM a<|aM f b;clear a f b;go_enter acH,ntmps18;go_wp2;go_ret;obtain⟨a,_,_⟩:=d.out;exact⟨congrArg (λz=>bj<|V aC z) a.symm,rfl⟩
theorem XI(pw)(v)(q)(id)(w)(E:sM w pw v q)(Gd:q.length<=1000000):bz Q 37 #[aG pw,V aC id] w λe B=>e=bj Y∧∃A p m g,sM B pw A (q++[p])∧fE B p id m g∧cI B m []∧dn (qT aC) B g []∧w<=p∧w<=m∧w<=g∧m≠g∧(∀b,A.ownBlock=U b->v.ownBlock=b∨w<=b)∧aK (λb=>b=pw∨v.ownBlock=b) w B:=by
 obtain⟨Q1,i,J,K,I⟩:=Aa axt;have d:=(cU.1 E.box).1;have Q2:=X<|avf id w;have x:=X E;go_enter an7,ntmps37;go_wp2_with(first|(go_at_call 50;refine Q2.out.mono ?_;rintro e C⟨rfl,G,F,H,f⟩;refine Halt.of ?_));have a:=X<|aM G<|aM F<|aM H f;have R:=(f.cell (p:=pw) d).trans<|M E.box 0;have J1:=(f.frozen (p:=pw) d).trans<|qO E.box 0;have D:=cE d f.size;have z:=dx x.out.row λg N=>f.block g (x.out.row.lt g N).2;have r:=X z;unfold Halt;go_wp2_with(at_builtin;go_must(refine YD _ rfl _ _ 72 rfl 0 77 Q1 (aG Z) 1 8 anm i J K I rfl (by decide) v q.length _ rfl (dx r.out λg N=>dm _ _ _ (r.out.lt g N).2) C.heap.size 1 1 [aG<|U ⟨w.heap.size+2,0,Z⟩] rfl rfl (Bn (by grind) _ _ rfl) (by simp[zh]) (by unfold vg;omega) (by omega) (by simp) ?_);intro v5 t l c _ n;refine Halt.of ?_);have y:pw≠v.ownBlock:=λe=>x.out.ne e.symm;have L:=(c.block _ (by simp;omega) y).trans<|dm _ _ _ D;have S:t.cell? pw=v:=by grind[World.cell?_of_block]
 have hf5:t.frozen? pw=ai:=by grind[World.frozen?_of_block]
 obtain⟨Q3,o,QW⟩:=MD l;subst QW;unfold Halt;go_wp2;go_ret;obtain⟨l,c,n,L⟩:=(X<|aM l<|aM c<|aM n L).out;obtain⟨G,F,H,f⟩:=a.out;have W:=f.size;have s:∀k,k<C.heap.size->k≠pw->k≠v.ownBlock->(t.setCell pw<|aE Q3 (q.length+1) o).heap[k]?=C.heap[k]?:=λk j Q0 h2=>(gQ _ _ _ _ Q0).trans<|(c.block k (by simp;omega) h2).trans<|dm _ _ _ j;have T:=λk j=>(x.out.row.lt k j).2;have u:∀k,w.heap.size<=k->k<C->(t.setCell pw<|aE Q3 (q.length+1) o).heap[k]?=C.heap[k]?:=λk h0 j=>s k j (by omega) (λe=>by grind);refine⟨rfl,_,w+2,w,w+1,⟨vJ<|L.trans<|(f.block pw d).trans x.out.box,?_⟩,(u _ (by omega) G.lt).trans G,F.of_block<|u _ (by omega) F.lt,H.of_block<|u _ (by omega) H.lt,by omega,by omega,by omega,by omega,?_,?_⟩
 ·have e:(q++[w.heap.size+2]).map (λp=>aG<|U ⟨p,0,Z⟩)=q.map (λp=>aG<|U ⟨p,0,Z⟩)++[aG<|U ⟨w+2,0,Z⟩]:=by simp
  rw[e,j7];refine dx l λk j=>gQ _ _ _ _ λO=>?_;simp only[GW,ew]at j n;simp only at O;rcases n with h|h;·rw[j,O]at h;exact y h
  grind[World.size_alloc]
 ·grind[World.size_alloc,Option.some.injEq]
 ·refine⟨?_,?_,?_,?_,λk j P=>?_⟩;·show t.os=_;rw[c.os];exact f.os
  ·show t.tape=_;rw[c.tape];exact f.tape
  ·show t.output=_;rw[c.output];exact f.output
  ·have:=c.size;simp[jk]at this⊢;omega
  ·exact(s k (by omega) (λe=>P<|ax e) λe=>P<|aA e.symm).trans<|f.block k j
theorem abY{w w'}{o}{s}{u}(h:sM w o s u)(r:aK (λb=>b=o\/s.ownBlock=b) w w'):(∀p id m g,fE w p id m g->fE w' p id m g)/\(∀m L,cI w m L->cI w' m L)/\∀g i,dn (qT aC) w g i->dn (qT aC) w' g i:=by
 have t:∀(b:Nat)(d:_)(c:_),w.heap[b]?=U (iZ d c)->w'.heap[b]?=w.heap[b]?:=λb d c j=>r.block b (cU.1 j).1 λe=>by
  rcases e with e|e;.rw[e,h.box]at j;cases j
  .obtain⟨k,a⟩:=WI h.row e;grind
 refine⟨λp id m g f=>(r.block p f.lt λe=>?_).trans f,λm L l=>?_,λg i n=>?_⟩
 .rcases e with e|e;.exact ak2 f h.box (by decide) e
  .obtain⟨k,a⟩:=WI h.row e;exact ak2 f a (by decide) rfl
 .obtain⟨d,c,q,_⟩:=id l;exact l.of_block<|t _ _ _ q
 .obtain⟨d,c,q,_⟩:=id n;exact n.of_block<|t _ _ _ q
def R3(a b c:Rk):Nat->Rk:=λk=>if k=0 then a else if k=1 then b else c
theorem abD(a b c):R3 a b c 0=a:=rfl
theorem abC(a b c):R3 a b c 1=b:=rfl
theorem abB(a b c):R3 a b c 2=c:=rfl
theorem atY{w:ay}:sM (w.alloc<|aH #[aE Z 0 0] 74) w (aE Z 0 0) []:=⟨iF _ _,rQ _ _ _ _⟩
theorem Lv(w):bz Q 16 #[] w λe w'=>∃(Q1:Nat)(pv:az)(R:Nat->Rk),e=bj (bO #[aG Q1,Y])/\fJ w 0 0 [] w' Q1 pv R/\(∀k,k<3->(R k).id=k+1/\(R k).l=[]/\(R k).bs=[])/\aW w w w':=by
 obtain⟨o,f⟩:∃o,o=w.alloc (aH #[aE Z 0 0] 74):=⟨_,rfl⟩;have q:sM o w (aE Z 0 0) []:=by grind[atY]
 have n:aW w w o:=by rw[f];exact(eo _ _).alloc (aS _) _
 have s:o.heap.size=w+1:=by rw[f];simp
 have HW:=X<|aM f<|aM q<|aM n s;go_enter aoH,ntmps16;go_wp2_with(go_at_call 37;rw[<-HW.out.1];go_must(refine(X<|XI w _ [] 1 o q<|by simp).out.mono ?_);rintro e O⟨rfl,l⟩;have H2:=X l;refine Halt.of ?_);unfold Halt;obtain⟨K,Q3,m0,P,A,C,D,E,a5,T,a,a8,H,c⟩:=H2.out;go_wp2_with(go_at_call 37;go_must(refine(X<|XI w _ _ 2 O A<|by simp).out.mono ?_);rintro e M⟨rfl,l⟩;have H3:=X l;refine Halt.of ?_);unfold Halt;obtain⟨lv3,W,Q2,g1,B,F,z,G,b5,b6,b7,b8,b9,d⟩:=H3.out;have HB:=X<|aM B<|aM F<|aM z<|aM G<|aM b5<|aM b6<|aM b7<|aM b8<|aM b9 d;go_wp2_with(go_at_call 37;go_must(refine(X<|XI w _ _ 3 M B<|by simp).out.mono ?_);rintro e r⟨rfl,l⟩;have H4:=X l;refine Halt.of ?_);unfold Halt;go_wp2;go_ret2;obtain⟨A,C,D,E,a5,T,a,a8,H,c⟩:=(X<|aM A<|aM C<|aM D<|aM E<|aM a5<|aM T<|aM a<|aM a8<|aM H c).out;obtain⟨B,F,z,G,b5,b6,b7,b8,b9,d⟩:=HB.out;obtain⟨t,S,m2,Q0,c1,c2,c3,c4,c5,c6,c7,c8,c9,v⟩:=H4.out;obtain⟨-,q,n,s⟩:=HW.out;obtain⟨r1,r2,r3⟩:=abY A d;obtain⟨QW,s2,s3⟩:=abY B v;have l0:=C.lt;have l1:=D.lt;have l2:=E.lt;have l3:=F.lt;have l4:=z.lt;have l5:=G.lt;have z0:=c.size;have v1:∀b,K.ownBlock=U b->w<=b:=λb u=>by
  rcases H b u with h|h;.cases h
  .omega
 have v3:∀b,t.ownBlock=U b->w<=b:=λb u=>by grind
 have J:∀(p:Nat)(id:Int)(m g:Nat),fE r p id m g->cI r m []->dn (qT aC) r g []->w<=p->w<=m->w<=g->gu id->vu w 0 0 [] r ⟨p,id,m,g,[],[],[]⟩:=λp id m g q1 q2 q3 q4 q5 q6 q7=>⟨q1,q2,⟨List.Perm.refl _,List.Pairwise.nil,λx l=>by cases l⟩,q3,λy I=>(by cases I),λy I=>(by cases I),λk=>⟨0,rfl,aS _⟩,q4,q5,q6,q7⟩;refine⟨w,t,R3 ⟨Q3,1,m0,P,[],[],[]⟩ ⟨W,2,Q2,g1,[],[],[]⟩ ⟨S,3,m2,Q0,[],[],[]⟩,rfl,⟨c1,λi N=>?_,λi j N hj L=>?_,λi j N hj=>?_,λi j N hj L=>?_,aS _,v3,aS _⟩,λk hk=>?_,?_⟩
 .have:i=0\/i=1\/i=2:=by omega
  rcases this with rfl|rfl|rfl;.exact J Q3 1 m0 P (QW _ _ _ _<|r1 _ _ _ _ C) (s2 _ _<|r2 _ _ D) (s3 _ _<|r3 _ _ E) (by omega) (by omega) (by omega)<|by grind[gu]
  .exact J W 2 Q2 g1 (QW _ _ _ _ F) (s2 _ _ z) (s3 _ _ G) (by omega) (by omega) (by omega)<|by grind[gu]
  .exact J S 3 m2 Q0 c2 c3 c4 (by omega) (by omega) (by omega)<|by grind[gu]
 .have h1:i=0\/i=1\/i=2:=by omega
  have h2:j=0\/j=1\/j=2:=by omega
  grind[abD,abC,abB]
 .have h1:i=0\/i=1\/i=2:=by omega
  have h2:j=0\/j=1\/j=2:=by omega
  grind[abD,abC,abB]
 .have h1:i=0\/i=1\/i=2:=by omega
  have h2:j=0\/j=1\/j=2:=by omega
  grind[abD,abC,abB]
 .have:k=0\/k=1\/k=2:=by omega
  rcases this with rfl|rfl|rfl<;>exact⟨rfl,rfl,rfl⟩
 .have k1:aW w o O:=c.below (by omega) λb u h=>by
   rcases h with h|h;.omega
   .cases h
  have k2:aW w O M:=d.below (by omega) λb u h=>by grind
  have k3:aW w M r:=v.below (by omega) λb u h=>by grind
  exact((n.trans k1).trans k2).trans k3
section
variable {A B X C X' Y':List O}
theorem alh(d:xk A B X)(c:xk B A C)(n f):ie (K X n f) (K C n f)=ie (K A n f) (K B n f):=by have g:=sI A n f;have e:=sI B n f;have h:=avO g e;rcases d n f with b|b<;>rcases c n f with a|a<;>rw[b,a];all_goals grind[Rz,RB,Ds]
theorem alg(b:xk A B X)(c:xk B A C)(a:xk X C X'):xk A B X':=λn f=>by
 rcases a n f with e|e;.rw[e];exact b n f
 grind[alh]
theorem aDs(a:j X)(c:j C)(b:j A)(d:j B)(g:xk A B X)(e:xk B A C):gz X C=gz A B:=Cx (qU a C) (qU b B) λn f=>by grind[MQ,alh]
theorem Uw(a:j X)(b:j A)(h:xk A A X):X=A:=Cx a b λn f=>by rcases h n f with e|e;all_goals grind[Ds]
structure Wd(A B:List O)(n t:Nat)(X C:List O):Prop where
 bk:sW A B X C
 all:(∃u,1<=u/\u<=t/\(n+u)%8=0)->X=gz A B/\C=gz A B
theorem Wd.start(d:j A)(a:j B)(b:∀x∈A,Good x)(c:∀x∈B,Good x)(n):Wd A B n 0 A B:=⟨.start d a b c,λ⟨u,f,e,_⟩=>by omega⟩
theorem Wd.next{n t}{l}{o fr sz}(h:Wd A B n t X C)(H:Pj l X C o Z X' Y' fr sz)(c:(n+(t+1))%8=0->l):Wd A B n (t+1) X' Y':=by
 have a:=h.bk;have k:=H.bk;refine⟨⟨a.sA,a.sB,k.sX,k.sY,k.gX,k.gY,alg a.bX a.bY k.bX,alg a.bY a.bX k.bY⟩,λ⟨u,m,p,j⟩=>?_⟩;by_cases e:u=t+1;.subst e;obtain⟨b,d⟩:=H.whole (ax rfl)<|c j;rw[b,d,aDs a.sX a.sY a.sA a.sB a.bX a.bY];grind
 .obtain⟨b,d⟩:=h.all ⟨u,m,by omega,j⟩;have g:=k.bX;have f:=k.bY;have i:=qU a.sA B;rw[b,d]at g f;exact⟨Uw k.sX i g,Uw k.sY i f⟩
theorem Wd.eight{n}(h:Wd A B n 8 X C):X=gz A B/\C=gz A B:=h.all ⟨8-n%8,by omega,by omega,by omega⟩
end
structure aEr(N K S:Nat)(ks:Keys)(w w':ay)(pw:Nat)(pv:az)(R R':Nat->Rk)(i j:Nat):Prop where
 jD:fJ N K S ks w' pw pv R'
 li:(R' i).l=gz (R i).l (R j).l
 lj:(R' j).l=gz (R i).l (R j).l
 lk:∀k,k≠i->k≠j->(R' k).l=(R k).l
 same:pE R R'
 keep:aK (oG R) w w'
 cnt:∀n:Nat,(look (R i).bs (R j).id).getD (V aC 0)=V aC n->(look (R' i).bs (R j).id).getD (V aC 0)=V aC ((n+8:Nat):Int)
theorem CR(N K S)(G)(w)(E)(pv)(R)(i j:Nat)(p:i<3)(x:j<3)(A:i≠j)(h:fJ N K S G w E pv R)(hN:5<=N)(hK:K<=4096)(hS:S<=1000000)(ht:fQ w)(hf:sQ w):bz Q 19 #[aG E,i,j] w λe T=>e=bj (bO #[])/\∃d,aEr N K (S+8) G w T E pv R d i j:=by
 obtain⟨n,hn,J⟩:=(h.eE i p).Bb (R j).id;have F:Wd (R i).l (R j).l n 0 (R i).l (R j).l:=.start (h.eE i p).bk.sorted (h.eE j x).bk.sorted (h.eE i p).bk.nE (h.eE j x).bk.nE n;have v:=zB.mk h ht hf hn J F;go_enter aor,ntmps19;go_wp2;go_loopg[6]8λk O wr=>∃(t:Nat)(d:Nat->Rk),O=t/\k+t=8/\fJ N K (S+t) G wr E pv d/\Wd (R i).l (R j).l n t (d i).l (d j).l/\(∀k,k≠i->k≠j->(d k).l=(R k).l)/\pE R d/\(look (d i).bs (R j).id).getD (V aC 0)=((n+t:Nat):Int)/\aK (oG R) w wr;case atStart=>exact⟨0,R,rfl,rfl,v.a,v.f,λ_ _ _=>rfl,pE.refl R,v.d,aK.refl _ _⟩
 case round=>
  obtain⟨t,d,rfl,W,l,g,B,hid,z,f⟩:=hrel;by_cases ht8:t<8
  .have L:(t:Int)<8:=by omega
   have o:=l.eE i p;have u:=l.eE j x;have y:∀k,k<3->(d k).l.length<=4096:=λk hk=>by have:=(l.eE k hk).len;have:=l.kl;omega
   have s:(look (d i).bs (d j).id).getD (V aC 0)=((n+t:Nat):Int):=by rw[hid.id j];exact z
   have C:=X<|adb E pv (qJ d) i j p x (d i).r4 (d j).r4 ((n+t:Nat):Int) (d i).L (d j).L (d i).l (d j).l (d i).bs (aE Z 0 0) Z wr l.mY (by grind[Bg]) (IN d p) (IN d x) o.rep u.rep (λe=>by have r:=o.rep;have D:=u.rep;unfold fE at r D;have e':(d i).p=(d j).p:=e;rw[e',D]at r;injection r with r;injection r with r;simp at r;exact l.ms i j p x A r.2.1.symm) (l.ms i j p x A) (l.gm i i p p) (l.gm i j p x) o.book u.book o.bk u.bk (o.fits<|by omega) (u.fits<|by omega) (y i p) (y j x) (v.b.keep f λq=>by have:=v.a.lo q;omega) ((f.block 4 (cU.1 v.c).1 λq=>by have:=v.a.lo q;omega).trans v.c) o.map s (by omega) (by have:=v.e;omega) rfl;have I:=zB.mk l g B hid s f;have c:aC.wrap ((t:Int)+1)=(t:Int)+1:=by grind[IntKind.wrap_i64]
   have Y:iJ ((t:Int)+1)=(t:Int)+1:=by unfold iJ;omega
   go_wp2_with(go_at_call 23;go_must(refine C.out.mono ?_);rintro e w7 P;obtain⟨fr,sz,A',B',M,rfl,r,D⟩:=I.a.sync p x A I.e P;have Q0:=X<|aM r D;refine Halt.of ?_);unfold Halt;go_wp2;go_roundg(gk-1);case rel=>obtain⟨l,g,B,hid,s,f⟩:=I;obtain⟨r,D,U,Q1,h5,H,h7,h8⟩:=Q0.out;refine⟨t+1,M,congrArg (V aC)<|by omega,by omega,D,?_,λk a b=>(h5 k a b).trans<|B k a b,hid.trans H,by rw[<-hid.id j];exact h7,f.trans<|by rw[<-hid.maps];exact h8⟩;rw[U,Q1];exact g.next r λe=>ax<|by omega
   grind
  .have:t=8:=by omega
   subst this;go_wp2;go_end0;obtain⟨l,g,B,hid,f,z⟩:=(X<|aM l<|aM g<|aM B<|aM hid<|aM f z).out;exact⟨rfl,d,l,g.eight.1,g.eight.2,B,hid,f,λm hm=>by have h:=v.d.symm.trans hm;grind⟩
structure jQ where
 who:Int
 n:ByteArray
 f:ByteArray
 v:ByteArray
def jQ.cells(x:jQ):List az:=[V aC x.who,aD x.n,aD x.f,aD x.v]
def zf(l:List jQ):List az:=l.flatMap jQ.cells
theorem Om{l}{j}(a)(i)(d:i<4):(zf l)[j*4+i]?=l[j].cells[i]?:=by induction l generalizing j with|nil=>grind|cons x l c=>show(x.cells++zf l)[j*4+i]?=_;have b:x.cells.length=4:=rfl;grind
def AW(w:ay)(v:az)(l:List jQ):Prop:=(∃ad cap,v=aE ad 0 cap)/\l=[]\/∃g off cap,v=aE (U ⟨g,off,Z⟩) l.length cap/\g<w.heap.size/\∀i u,(zf l)[i]?=U u->w.cell? ⟨g,off+i,Z⟩=U u
def sD(x:jQ):Nat:=4+x.n.size+x.f.size+x.v.size/4
def nV(l:List jQ):Nat:=l.foldl (λn x=>n+sD x) 0
theorem ap8(l)(x):nV (l++[x])=nV l+sD x:=by simp[nV]
theorem ap7{l:List jQ}{j}(a):nV (l.take<|j+1)=nV (l.take j)+sD l[j]:=by grind[List.take_add_one,List.getElem?_eq_getElem,Option.toList_some,ap8]
theorem aqb(l l'):nV l<=nV (l++l'):=by unfold nV;rw[List.foldl_append];generalize List.foldl (λn x=>n+sD x) 0 l=k;induction l' generalizing k with|nil=>grind|cons x l' b=>grind
theorem ap9(l)(j):nV (l.take j)<=nV l:=by grind[aqb,List.take_append_drop]
def A9(l:List jQ):Bool:=cg<|nV l<=1200
set_option maxHeartbeats 1000000 in
theorem VT(v)(l)(w)(h:AW w v l)(hl:l.length<=140737488355328)(K:∀x∈l,x.n.size<=140737488355328/\x.f.size<=140737488355328/\x.v.size<=140737488355328):bz Q 14 #[v] w λe P=>e=bj (A9 l)/\aW w w P:=by
 rcases h with⟨⟨ad,cap,rfl⟩,rfl⟩|⟨g,a,cap,rfl,hg,hc⟩
 .go_enter acL,ntmps14;go_wp2;go_loopg[3,4]0λk m i wr=>m=V aC 0/\i=V aC 0/\wr=w;case atStart=>grind
  case round=>obtain⟨rfl,rfl,rfl⟩:=hrel;go_wp2;go_ret;exact⟨xx<|by simp[A9,nV],eo _ _⟩
 .have L:=X hc;have HZ:=X K;go_enter acL,ntmps14;go_wp2;go_loopg[3,4]l.lengthλk m i wr=>∃(j z:Nat),m=V aC z/\i=V aC j/\k+j=l.length/\z=nV (l.take j)/\z<=1200/\aW w.heap.size w wr;case atStart=>grind[nV,Below.refl]
  case round=>
   obtain⟨j,z,rfl,rfl,hk,J,wc,d⟩:=hrel;by_cases hj:j<l.length
   .obtain⟨x,hx⟩:=ex l[j];have SE:=HZ.out l[j]<|lV hj;have D:=ap7 hj;have o:=ap9 l<|j+1;rw[<-hx]at SE D;have I:∀i,i<4->∀u,x.cells[i]?=U u->wr.cell? ⟨g,a+j*4+i,Z⟩=U u:=λi O u hu=>(d.cell (p:=⟨g,a+j*4+i,Z⟩) hg).trans (by rw[Nat.add_assoc];exact L.out _ _<|by rw[Om hj i O,<-hx];exact hu);have H:=I 1 (by omega) _ rfl;have y5:=I 2 (by omega) _ rfl;have T:=I 3 (by omega) _ rfl;have C:4+x.n.size+x.f.size+x.v.size/4=sD x:=rfl;obtain⟨N,E,hx3⟩:=SE;have nB:(j:Int)<(l.length:Int):=by omega
    obtain⟨q,A⟩:=ex<|x.v.size/4;rw[<-A]at C;have M:q<=140737488355328:=by omega
    have wq:(x.v.size:Int).tdiv 4=(q:Int):=by rw[A];rfl
    have w5:aC.wrap (q:Int)=(q:Int):=by rw[mB];omega
    have w0:aC.wrap ((z:Int)+4)=z+4:=by rw[mB];omega
    have w1:aC.wrap ((z:Int)+4+x.n.size)=z+4+x.n.size:=by rw[mB];omega
    have w2:aC.wrap ((z:Int)+4+x.n.size+x.f.size)=z+4+x.n.size+x.f.size:=by rw[mB];omega
    have F:aC.wrap ((z:Int)+4+x.n.size+x.f.size+q)=z+4+x.n.size+x.f.size+q:=by rw[mB];omega
    have t:=CJ.mk D o J hx<|show aW w.heap.size w wr.drew from d.drew;clear D o J hx I d A;by_cases aHE:1200<z+4+x.n.size+x.f.size+q
    .have hbi:(1200:Int)<(z:Int)+4+x.n.size+x.f.size+q:=by omega
     go_wp2;go_region_held3λW=>W.cell? ⟨g,a+j*4+1,Z⟩=U (aD x.n)/\W.cell? ⟨g,a+j*4+2,Z⟩=U (aD x.f)/\W.cell? ⟨g,a+j*4+3,Z⟩=U (aD x.v)(go_keep)(fail);go_wp2;go_ret;obtain⟨D,o,J,hx,d⟩:=id t;exact⟨xx<|by simp[A9];omega,d⟩
    .go_wp2;go_region_held3λW=>W.cell? ⟨g,a+j*4+1,Z⟩=U (aD x.n)/\W.cell? ⟨g,a+j*4+2,Z⟩=U (aD x.f)/\W.cell? ⟨g,a+j*4+3,Z⟩=U (aD x.v)(go_keep)(fail);go_wp2;go_roundg(gk-1);case rel=>obtain⟨D,o,J,hx,d⟩:=t;exact⟨j+1,z+4+x.n.size+x.f.size+q,by simp,by go_simp,by omega,by omega,by omega,d⟩
     case measure=>omega
   .have B:j=l.length:=by omega
    subst B;rw[uF]at J;have t:=cH.mk J d;go_wp2;go_ret;obtain⟨J,d⟩:=t;exact⟨xx<|by simp[A9];omega,d⟩
end
section
open Go.ChangeShapes Go.WideShapes Go.RowKit Go.Conc
section
variable {H:Type} {enc:ey×az->H}
theorem WJ{a}{C}{os}{f}{fn}{s:OpenSpec}{F}{l}{c p g n}{q}(K:ownKnob C.prog.godebug=Z)(m:os.Started)(P:C.prog.funcs[f]?=U fn)(r:∃(w:ay)(b:Tape)(i:Input),w.os=os/\(w.forCall b i).Shaped C.prog/\i.vars=[]/\Input.okWide C.prog (w.forCall b i) .any w f i/\s.preRow enc C.prog fn l c q (w.forCall b i).memory i.args/\a.holds C.prog (iS (eW C.prog f i.args eC) []<|w.forCall b i))(A:∀(W)(base)(h)(y B)(d),(∀(j:Nat)t v,fn.params[j]?=U t->h[j]?=U v->Uk C.prog W .any base t v)->DataW.Whole enc C.prog fn.params.toList s.vars c W h.toList y B d->l.all (PathCond.test C.prog ⟨fn.params.toList,y,s.bare.plain.varTypes C.prog,B⟩)=Y->(DataW.weightsEach C.prog (fn.params.toList++s.bare.plain.varTypes C.prog)<|y++B).all (.<=OF)=Y->laidMetH C.prog q W->W.ShapedOpen C.prog->∃M k o z D,ik C.prog (M+1) (solo (G (eW C.prog f h eC) []) W) #[]=(.ended o z,D)/\runN C.prog M (solo (G (eW C.prog f h eC) []) W)=fW k/\step C.prog k=.ended o z/\Conc.Good C.prog (λv R=>(s.at F).post enc C.prog fn c p g n W h v R) k o z D):ReturnsInLeavingWide a C os f .any (s.preRow enc C.prog fn l c q)<|(s.at F).post enc C.prog fn c p g n:=by
 refine returnsInLeavingWide_of_good K m r ?_;intro w b i _ I _ E x _;obtain⟨_,_,_,J,O,_,_,_,_,u⟩:=E;have e:J=fn:=by grind
 subst e;obtain⟨⟨L,V⟩,S⟩:=x;obtain⟨y,B,d,N,Q,Q1⟩:=OpenSpec.pre_parts L;obtain⟨M,k,o,z,D,Q0,Q2,X,T⟩:=A (w.forCall b i) w i.args y B d u (DataW.Whole.of_heap (w':=w.forCall b i) (by rfl) N) Q (S.weights N) (V.of_heap<|by rfl) I;exact⟨M,k,o,z,D,Q0,Q2,X,T.mono λv L=>ChangeSpec.post_blind L⟩
end
theorem abj{l}{p}{s}{c}{a}{b}{d}{g}(v:c.holds p s)(n:c.wfByText s=Y)(e:c.laidByTextAt l p a b)(k:c.start=.entering)(i:c.noBlocks=ai/\c.again=ai)(x:p.checked.prog.mainIs=U (d.1,d.2.toList))(q:(!d.1&&d.2.isEmpty&&!g)=ai)(u:∀f m,p.checked.prog.funcNamed c.func=U f->p.checked.prog.funcs[f]?=U m->g=p.checked.prog.looks []/\∀(j:Nat)t,m.params[j]?=U t->p.checked.prog.wantsStandIn t=ai)(w:Y=c.goesBy p.checked.prog):Claim7.holds p (.plain s) {stood:={row:=c,standIns:=[],harness:=d,looks:=g},kinds:=[],alts:=[],goes:=Y,laidByText:=Y,laidKinds:=a,laidTests:=b,laidLooks:=l}:=by exact⟨Claim7.tied_new_at l a b (Claim7.new_of_sixth v d g k i x ((λr=>by simpa[Claim7.isSixth]using q) c) u) n,λD o=>(by cases o),e,(λh=>by cases h),w⟩
section
variable {H:Type} {enc:ey×az->H} {w:ay} {base:Nat} {spare:Nat->Bool} {held:Bool}
open Go.Deep
def GM{H:Type}(x:jQ):DataW H:=.agg [.lit<|.int aC x.who,.lit<|.string x.n.data.toList,.lit<|.string x.f.data.toList,.lit<|.string x.v.data.toList]
theorem ajA{fs}(h:aF.underlying 30=U (.struct fs)):oneCellFields aF fs=Y∧fs.toList.map (·.type)=[3,9,9,9]:=by have e:=(underlying30).symm.trans h;simp only[ew,TypeDesc.struct.injEq]at e;subst e;exact⟨by kernel_rfl,rfl⟩
theorem ach:∃a,aF.underlying 30=U (.struct a):=⟨_,underlying30⟩
theorem EP:aF.cellsOf 30=4:=by kernel_rfl
theorem Yf{t:Type}{l:List t}(h:l.length=4):∃a b c d,l=[a,b,c,d]:=by
 rcases l with _|⟨a,l⟩;.simp at h
 rcases l with _|⟨b,l⟩;.simp at h
 rcases l with _|⟨c,l⟩;.simp at h
 rcases l with _|⟨d,l⟩;.simp at h
 rcases l with _|⟨i,l⟩;all_goals grind
theorem auw{d}{cs}{x}(h:DataW.trod enc aF w base spare held d 30 cs=U x):∃o,cs=o.cells/\x=(GM o,[])/\gu o.who:=by
 obtain⟨M,z⟩:=ach;obtain⟨m,c⟩:=ajA z;obtain⟨xs,n,_,D,t,hl,hf⟩:=DataW.trod_struct z h;rw[EP]at t;obtain⟨fl⟩:=M;obtain⟨u,k,y,q,rfl⟩:=Yf (l:=fl) (by have:=congrArg List.length c;grind);simp only[gd,tG,FY,and_true]at c;obtain⟨L,F,E,J⟩:=c;obtain⟨O,R,V,Q,rfl⟩:=Yf t;have b:∀(j:Nat)(f:Field),(#[u,k,y,q]:Array Field)[j]?=f->DataW.trod enc aF w base spare held n f.type ((([O,R,V,Q]:List az).drop j).take 1)=xs[j]?:=λj f hj=>by grind[hone_of]
 obtain⟨X,Y,W,Z,rfl⟩:=Yf (l:=xs) (by grind);have g:=b 0 u rfl;have A:=b 1 k rfl;have v:=b 2 y rfl;have s:=b 3 q rfl;rw[L]at g;rw[F]at A;rw[E]at v;rw[J]at s;obtain⟨C,l,S,e⟩:=DataW.trod_int underlying3 g;obtain⟨B,i,T,_⟩:=Yx underlying9 A;obtain⟨P,p,K,_⟩:=Yx underlying9 v;obtain⟨I,r,N,_⟩:=Yx underlying9 s;simp only[List.drop_zero,List.drop_succ_cons,List.take_succ_cons,ME,FY,and_true]at l i p r;subst l i p r S T K N;refine⟨⟨C,B,P,I⟩,rfl,by rw[D];rfl,?_⟩;simpa[Lit.wf,IntKind.min,IntKind.max,IntKind.signed,IntKind.bits,gu]using e
theorem aDk:aF.bytesOf 30=56:=by kernel_rfl
theorem amW(x):(GM (H:=H) x).weights aF 30=[x.n.size,x.f.size,x.v.size]:=by obtain⟨c,b⟩:=ach;obtain⟨_,a⟩:=ajA b;unfold GM aky;rw[b];simp only;rw[a];simp[DataW.weightsEach,aky]
theorem amX{P}{e}{ds:List<|DataW H}{d}(h:d∈ds){n}(a:n∈d.weights P e):n∈aba P e ds:=by induction ds with|nil=>cases h|cons y ds b=>rw[aba,qP];grind
theorem Xp{r:_root_.Go.Reach}{n:Nat}{v:az}{d:DataW H}{p:List MemPlace}(hv:Uk aF w r n 22 v)(h:DataW.Trod enc aF w base spare held 22 v d p)(hz:∀n∈d.weights aF 22,n<=OF):∃l:List jQ,AW w v l/\l.length<=140737488355328/\(∀x∈l,x.n.size<=140737488355328/\x.f.size<=140737488355328/\x.v.size<=140737488355328)/\∀x∈l,gu x.who:=by
 obtain⟨Q0,W,c0,rfl⟩:=okWide_slice underlying22 hv;obtain⟨X,hf⟩:=h;rcases open_slice underlying22 hf with⟨I,A⟩|⟨a,c,M,m,n,D,Pl,I,hb,P,hm,R,A,hi⟩
 .have e:(aE Q0 W c0:az)=aE Z 0 0:=by simpa[Cf]using I
  rw[e];exact⟨[],ax ⟨⟨_,_,rfl⟩,rfl⟩,kI _,λx A=>(by cases A),λx A=>by cases A⟩
 .have e:(aE Q0 W c0:az)=aE (U a) c M:=by simpa[Cf]using I
  rw[e];have hlm:c<=m:=by rw[R];split<;>omega
  have step:∀i,i<c->∃o:jQ,D i=GM o/\gu o.who/\∀j u,o.cells[j]?=U u->w.cell? ((a.add<|i*4).add j)=U u:=λi y=>by obtain⟨cs',Q2,ht⟩:=hi i (by omega);rw[EP]at Q2;obtain⟨o,ho,L,hI⟩:=auw ht;simp only[DD]at L;obtain⟨_,eK,T⟩:=World.cells?_some Q2;refine⟨o,L.1,hI,λj u E=>?_⟩;have hj:j<4:=(agN.1 E).1;rw[T j hj,ho];exact E
  let f:Nat->jQ:=λi=>if h:i<c then G0 (step i h)else⟨0,⟨#[]⟩,⟨#[]⟩,⟨#[]⟩⟩;have F:∀i,i<c->D i=GM (f i)/\gu (f i).who/\∀j u,(f i).cells[j]?=U u->w.cell? ((a.add<|i*4).add j)=U u:=λi y=>by have:=zZ<|step i y;have e:f i=G0 (step i y):=yG y;rw[e];exact this
  obtain⟨l,P⟩:=ex<|(mJ c).map f;have z:l.length=c:=by rw[P];simp
  have q:∀i(h:i<l.length),l[i]=f i:=λi h=>by subst P;simp
  simp only[DD]at A;have b:∀k∈c*56::((mJ c).map λi=>(GM (H:=H)<|f i).weights aF 30).flatten,k<=OF:=λk J=>by
   have hdw:d.weights aF 22=(c+(m-c))*56::(aba aF 30 ((mJ c).map D)++aba aF 30 ((mJ<|m-c).map λj=>D<|c+j)):=by rw[A.1,aky,underlying22];simp[aDk]
   rcases dj.1 J with rfl|J;.have:=hz ((c+(m-c))*56) (by grind);grind
   .obtain⟨ws,S,Tb⟩:=agM.1 J;obtain⟨i,y,rfl⟩:=mC.1 S;have aHi:=Js.1 y;refine hz k ?_;grind[List.mem_cons_of_mem,List.mem_append_left,amX,List.mem_map_of_mem]
  refine⟨l,?_,?_,λx A=>?_,λx A=>?_⟩
  .by_cases h0:c=0;.subst h0;exact ax ⟨⟨_,_,rfl⟩,BA z⟩
   .have t:=(F 0<|by omega).2.2 0 _ rfl;have ea:(a.add<|0*4).add 0=a:=by simp[Addr.add]
    rw[ea]at t;have N:a.spot=Z:=by
     unfold pg at t;split at t
     .split at t;.cases t
      .rename_i h;simpa using h
     grind
    obtain⟨g,C,sp⟩:=a;simp only at N;subst N;have O:∀i j,((⟨g,C,Z⟩:eT).add<|i*4).add j=⟨g,C+(i*4+j),Z⟩:=λi j=>by unfold Addr.add;split<;>split<;>simp_all<;>omega
    refine aA ⟨g,C,M,by rw[z],oh w _ t,λk u E=>?_⟩;have J:k<4*c:=by
     have:=(agN.1 E).1;have e:(zf l).length=4*l.length:=by clear E this q z P;induction l with|nil=>rfl|cons x l ih=>grind[zf,List.length_append,jQ.cells]
     grind
    have Q1:k=k/4*4+k%4:=by omega
    have Q:k/4<l.length:=by grind
    have B:=Om Q (k%4) (by omega);rw[<-Q1]at B;rw[B,q]at E;have:=(F _<|by omega).2.2 _ _ E;rw[O,<-Q1]at this;grind
  .rw[z];have:=b (c*56) (by simp);unfold OF at this;omega
  .obtain⟨i,K,rfl⟩:=agL A;rw[q];have s:∀k∈(GM (H:=H)<|f i).weights aF 30,k<=OF:=λk J=>b k<|vO _<|agM.2 ⟨_,YJ<|Js.2<|by grind,J⟩;rw[amW]at s;have k1:=s _<|vP ..;have k2:=s (f i).f.size (by simp);have k3:=s (f i).v.size (by simp);unfold OF at k1 k2 k3;omega
  .obtain⟨i,K,rfl⟩:=agL A;rw[q];exact(F i<|by rw[<-z];exact K).2.1
end
end
section
open Go.RowKit Go.Conc
def isInt:az->Bool|V _ _=>Y|_=>ai
theorem axm{v}(h:isInt v=Y):n v=Y:=by cases v<;>first|rfl|cases h
noncomputable def Y0(t:ey):Bool:=match aF.cellTypes aF.depth t with
 |some ts=>ts.all λu=>match aF.underlying u with|some<|.int _=>Y|_=>ai
 |none=>ai
theorem as3{w}{t}{cs}(h:Row.ok aF w .any 0 t cs)(b:Y0 t=Y):∀v∈cs,isInt v=Y:=by obtain⟨m,f,_,k⟩:=h;unfold Y0 at b;rw[f]at b;simp only[RY]at b;intro v g;obtain⟨i,j,rfl⟩:=awC.1 g;obtain⟨u,l,c⟩:=k i _<|iy j;have a:=b u<|awB l;unfold Cell.ok at c;generalize aF.underlying u=e at a c;generalize cs[i]=x at c⊢;cases e with|none=>cases a|some d=>cases d<;>first|(cases a;done)|(cases x<;>first|rfl|grind)
noncomputable def Hy:ay:=(begin aF (λ_ _=>0) default).world
noncomputable def A2(g:Nat):Option<|Array az×ey:=Hy.heap[g]?.bind Obj.row?
theorem z0:(A2 0).map (λx=>(x.1.size,x.2))=U (1,196):=by kernel_rfl
theorem z1:(A2 1).map (λx=>(x.1.size,x.2))=U (256,327):=by kernel_rfl
theorem z2:(A2 2).map (λx=>(x.1.size,x.2))=U (32,330):=by kernel_rfl
theorem z3:(A2 3).map (λx=>(x.1.size,x.2))=U (20,340):=by kernel_rfl
theorem z4:(A2 4).map (λx=>(x.1.size,x.2))=U (1,3):=by kernel_rfl
theorem z5:(A2 5).map (λx=>(x.1.size,x.2))=U (32,347):=by kernel_rfl
theorem z6:(A2 6).map (λx=>(x.1.size,x.2))=U (64,348):=by kernel_rfl
theorem acf:Hy.heap.size=12:=by kernel_rfl
theorem am9:Hy.heap[7]?.any (λo=>match o with|aH c _ _=>c.all isInt|_=>ai)=Y:=by kernel_rfl
theorem bt:([327,330,3,340,347,348].all λt=>aF.buildable t&&Y0 t)=Y:=by kernel_rfl
structure E6(w:ay):Prop where
 size:12<=w.heap.size
 g0:∃c t,w.heap[0]?=U (aH c t)/\c.size=1
 ints:∀b,b=1\/b=2\/b=3\/b=4\/b=5\/b=6->∃c t,w.heap[b]?=U (aH c t)/\∀v∈c,isInt v=Y
 types:∃c t f,w.heap[7]?=U (aH c t f)/\∀v∈c,isInt v=Y
theorem E6.of{w}(h:w.ShapedOpen aF):E6 w:=by
 obtain⟨I,A⟩:=h;have j:∀{g n t:Nat},g<7->(A2 g).map (λx=>(x.1.size,x.2))=(n,t)->∃d,w.heap[g]?=U (aH d t)/\d.size=n/\(aF.buildable t=Y->Row.ok aF w .any 0 t d):=λ{g n t}p m=>by obtain⟨⟨z,B⟩,s,f⟩:=yM.1 m;simp only[DD]at f;obtain⟨rfl,rfl⟩:=f;obtain⟨d,r,y,i⟩:=I g z B (by rw[Et];exact p) s;exact⟨d,r,y,i⟩
 have E:=RY.1 bt;have l:∀{g n t:Nat},g<7->(A2 g).map (λx=>(x.1.size,x.2))=(n,t)->t∈[327,330,3,340,347,348]->∃c t,w.heap[g]?=U (aH c t)/\∀v∈c,isInt v=Y:=λ{g n t}p m H=>by obtain⟨d,r,y,i⟩:=j p m;have:=E t H;rw[cV]at this;exact⟨d,t,r,as3 (i this.1) this.2⟩
 have q:∀k,7<=k->k<12->∃o,w.heap[k]?=U o:=λk D K=>by obtain⟨o,F,e,_⟩:=A k (by rw[Et];exact D) (by show k<Hy;grind[acf]);exact⟨o,e⟩
 refine⟨?_,?_,?_,?_⟩;.obtain⟨o,C⟩:=q 11 (by decide) (by decide);exact(cU.1 C).1
 .grind[z0]
 .rintro b(rfl|rfl|rfl|rfl|rfl|rfl);.grind[z1]
  .grind[z2]
  .grind[z3]
  .grind[z4]
  .grind[z5]
  .exact l (by decide) z6<|by decide
 .obtain⟨o,F,s,f,u⟩:=A 7 (by grind[Et]) (by show 7<Hy.heap.size;grind[acf]);have J:World.looseAt (7-aF.globals.size)=ai:=by rw[Et];rfl
  rw[J]at u;subst u;have L:Hy.heap[7]?=o:=f;grind[am9,Array.all_eq_true_iff_forall_mem]
def rI(N:Nat)(b:Nat):Bool:=b==7||decide (N<=b)
def rJ(N:Nat)(A:Option Fc)(b:Nat):Bool:=b==7||decide (N<=b)||A.any λA=>b==A.g
structure aby(w w':ay):Prop where
 os:w'.os=w.os
 out:w'.output=w.output
 size:w.heap.size<=w'.heap.size
 blk:∀b,b<w.heap.size->w'.heap[b]?=w.heap[b]?
def Mt(l:List jQ)(off:Nat):Array az:=(List.replicate off (bQ ai)++zf l).toArray
theorem aj8{l}:∀x∈zf l,n x=Y:=by intro x b;obtain⟨y,_,a⟩:=rP.1 b;simp only[jQ.cells,dj,dP,dY]at a;rcases a with rfl|rfl|rfl|rfl<;>rfl
theorem awy{l}{b}:∀x∈Mt l b,n x=Y:=by
 intro x a;simp only[Mt,fP,qP,List.mem_replicate]at a;rcases a with⟨_,rfl⟩|a;.rfl
 grind[aj8]
theorem agz{l}{a i}(h:a<=i):(Mt l a)[i]?=(zf l)[i-a]?:=by grind[Mt,List.getElem?_append_right]
theorem aBQ{w}{v}{l}(h:AW w v l)(q:E6 w):∃(A:Option Fc)(p:az),(∀B,A=U B->7<B.g/\B.g<w/\w.heap[B.g]?=U (aH B.c' B.e' B.f')/\∀x∈B.c,n x=Y)/\(∀I,I.arg=A->mQ I p v)/\(p=aE Z 0 0\/∃B d Q3 c,A=U B/\p=aE (U ⟨B.g,d,Z⟩) Q3 c)/\∀W,(∀B,A=U B->W.heap[B.g]?=U (aH B.c B.e B.f))->AW W p l:=by
 by_cases hl:l=[]
 .subst hl;obtain⟨E,j,rfl⟩:∃E j,v=aE E 0 j:=by rcases h with⟨h,_⟩|⟨g,d,j,h,_⟩;all_goals grind
  exact⟨Z,aE Z 0 0,λB O=>(by cases O),λI F=>aA ⟨_,_,rfl,rfl⟩,ax rfl,λW _=>ax ⟨⟨_,_,rfl⟩,rfl⟩⟩
 .obtain⟨g,d,j,rfl,Q0,r⟩:=h.resolve_left λh=>hl h.2;have M:(zf l).length=4*l.length:=by clear r hl h;induction l with|nil=>rfl|cons x l a=>show(x.cells++zf l).length=_;rw[j7,a];simp[jQ.cells];omega
  have D:0<l.length:=by grind
  obtain⟨y,L,K,P⟩:∃c e f,w.heap[g]?=U (aH c e f):=by have:=r 0 _ (oS<|by omega);unfold pg at this;grind
  have k:∀i u,(zf l)[i]?=U u->y[d+i]?=U u:=λi u J=>by have:=r i u J;unfold pg at this;grind
  have m:∃s,y[d+1]?=U (aD s):=by cases l with|nil=>grind|cons x l=>exact⟨x.n,k 1 _ rfl⟩
  obtain⟨s,R⟩:=m;have X:7<g:=by
   refine Nat.lt_of_not_le λN=>?_;have H:∀{c t f},w.heap[g]?=U (aH c t f)->¬∀v∈c,isInt v=Y:=λ{c t f}e T=>by rw[P]at e;cases e;have:=T _<|uG R;cases this
   have Q:∀b,b=1\/b=2\/b=3\/b=4\/b=5\/b=6->g≠b:=λb S e=>by obtain⟨c,t,z,C⟩:=q.ints b S;grind
   have n0:g≠0:=λe=>by obtain⟨c,t,z,C⟩:=q.g0;grind
   have n7:g≠7:=λe=>by obtain⟨c,t,f,z,C⟩:=q.types;grind
   grind
  refine⟨U ⟨g,d,Mt l d,L,K,y,L,K,λi x Q1 Q2=>?_⟩,aE (U ⟨g,d,Z⟩) l.length j,?_,?_,?_,?_⟩;.grind[agz,aj8,List.mem_of_getElem?,Nat.add_sub_cancel']
  .grind[awy]
  .intro I F;exact ax ⟨rfl,aA<|aA ⟨_,_,F,rfl,aS _,aA ⟨_,_,rfl⟩⟩⟩
  .grind
  .intro W o;have o:=o _ rfl;refine aA ⟨g,d,j,rfl,(cU.1 o).1,λi u J=>?_⟩;unfold pg;rw[o];simp only[agJ,oT,vU];grind[agz,Nat.add_sub_cancel_left]
theorem jA.cellsOf{w}(h:jA w){c}{t}(a:w.heap[0]?=U (aH c t))(hs:c.size=1):∀v∈c,v=iB 264 (bJ #[aG<|U ⟨7,87,Z⟩]):=by unfold jA pg at h;rw[a]at h;simp only[agJ,oT,vU]at h;grind[Array.mem_iff_getElem,Array.getElem?_eq_getElem,Option.some.inj]
theorem Xt{I}{N}{w}(g:E6 w)(k:jA w)(m:I.F 7=Y)(n:12<=N){b}{o}(i:w.heap[b]?=U o)(l:b=0\/b=3\/b=5\/b=6\/b=7):eF I N o=Y:=by
 have d:∀{c:Array az},(∀v∈c,isInt v=Y)->c.all (S I N)=Y:=λ{c}h=>by rw[kZ];exactλv j=>(tj (ρ:=id)<|axm<|h v j).1
 by_cases e0:b=0;.subst e0;obtain⟨c,t,a,e⟩:=g.g0;have l:=k.cellsOf a e;rw[i]at a;cases a;simp only[eF,kZ];grind[H.ja,S,qb,oP]
 by_cases E:b=7;.subst E;obtain⟨c,t,f,a,e⟩:=g.types;rw[i]at a;cases a;exact d e
 obtain⟨c,t,a,e⟩:=g.ints b (by omega);rw[i]at a;cases a;exact d e
theorem Q9{N b}(h:b<N)(a:b≠7):rI N b=ai:=by grind[rI,Bool.or_eq_false_iff,beq_eq_false_iff_ne,decide_eq_false_iff_not]
theorem ajE{R}{b}(h:rf ai R b=Y):b=0\/b=3\/b=5\/b=6\/7<=b/\R b=Y:=by grind[rf]
theorem aA8{R}{b}(h:rf Y R b=Y):b=0\/b=3\/b=4\/b=5\/b=6\/7<=b/\R b=Y:=by grind[rf]
theorem aaE{a}{R}{b}(h:7<=b)(c:R b=Y):rf a R b=Y:=by unfold rf;grind
theorem aaS(GH:∀Wg,Fe Wg)(za:∀Wg,Hi Wg){f}{fn}{c}(qp:aF.funcs[f]?=U fn)(Tf:iQ[f]?=U fn)(i:fn.body=U c)(Eo:Ot f=Y)(Gx:AL.testBit f=Y){W0}{v}{l}{rest}(q:∀x∈rest,n x=Y)(vc:On f 0=Y)(hD:∀j,On f (j+1)=Y->rest.size<=j)(hE:AW W0 v l)(P:E6 W0)(T:jA W0)(L:fQ W0)(p:∀W v,AW W v l->jA W->fQ W->sQ W->bz Q f (#[v]++rest) W λe a=>e=bj Y∧aW W W a):∃N r o w' t',ik aF (N+1) (solo (G (eW aF f (#[v]++rest) eC) []) W0) #[]=(.ended o w',t')∧runN aF N (solo (G (eW aF f (#[v]++rest) eC) []) W0)=fW r∧step aF r=.ended o w'∧Go.Conc.Good aF (λx a=>x=Y∧aby W0 a) r o w' t':=by
 obtain⟨A,QW,E,hOk,hvL,g⟩:=aBQ hE P;obtain⟨m,Q2⟩:∃N,N=W0.heap.size:=⟨_,rfl⟩;have h12:12<=m:=by rw[Q2];exact P.size
 have R:∀B,A=U B->B.g≠4:=λB k e=>by have:=(E B k).1;omega
 have O:(jI (rI m) A).F 7=Y:=rfl;have I:(xX<|rJ m A).F 7=Y:=rfl;have lw:∀b,b≠4->(∀B,A=U B->b≠B.g)->(kH A W0).heap[b]?=W0.heap[b]?:=λb h1 h2=>Yi h1 h2;have lwA:∀B,A=U B->(kH A W0).heap[B.g]?=U (aH B.c B.e B.f):=λB k=>by rw[k];exact agv<|by rw[<-Q2];have:=(E B k).2.1;omega
 have X:∀b,b<=7->∀B,A=U B->b≠B.g:=λb h B k e=>by have:=(E B k).1;omega
 have C:∀b,b=0∨b=3->(kH A W0).heap[b]?=W0.heap[b]?:=λb h=>lw b (by omega) (X b<|by omega);refine aAW (fs:=iQ) (I:=jI (rI m) A) (I2:=xX<|rJ m A) (nm:=qL) GH za (anj rfl rfl R) (R:=λx Q1=>x=Y∧∃s d,aW (kH A W0) (World.re (kH A W0) s d)<|World.re Q1 s d) (λx Q1 s d h=>⟨h.1,s,d,?_⟩) (f:=f) (args:=#[QW]++rest) (args':=#[v]++rest) (v0:=W0) qp Tf i Eo Gx ?_ ?_ ?_ ?_ ?_ ?_ ?_ ?_ ?_ ?_;·obtain⟨_,τ',d',h⟩:=h;exact⟨h.os,rfl,h.output,h.size,h.block⟩
 ·refine⟨by simp,λj x F w=>?_,λj x F w=>?_⟩;·cases j with|zero=>rw[show(jI (rI m) A).D f 0=On f 0 from rfl,vc]at w;cases w|succ j=>
    have J:rest[j]?=x:=by rw[Yv<|by simp]at F;simpa using F
    refine⟨(tj (ρ:=id)<|q x<|uG J).1,?_⟩;rw[II,Yv<|by simp];simpa using J
  ·cases j with|zero=>
    have h0:∀y:az,(#[y]++rest)[0]?=y:=λy=>by rw[Array.getElem?_append_left<|by simp];rfl
    have t:x=QW:=by rw[h0]at F;grind
    subst t;exact⟨v,h0 v,hOk _ rfl⟩|succ j=>have:=hD j w;rw[Yv<|by simp,yH<|by simpa using this]at F;cases F
 ·intro x t;rcases BB.1 t with t|t
  ·have t:x=QW:=by simpa using t
   subst t;rcases hvL with rfl|⟨B,off,QX,c,k,rfl⟩;·simp[S]
   ·simp only[S,Dw];have:=E B k;refine H.ja.2 ⟨by omega,aaE (by omega) ?_⟩;rw[k];simp[rJ]
  ·exact(tj (ρ:=id)<|q x t).1
 ·intro B k;have h:=E B k;refine⟨?_,h.2.2.1,h.2.2.2⟩;have:(jI (rI m) A).F B.g=rI m B.g:=by show rf ai (rI m) B.g=_;unfold rf;grind
  grind[Q9]
 ·intro b o i z;have Q0:=(cU.1 i).1;refine Xt P T O (by omega) i ?_;rcases ajE z with h|h|h|h|⟨h,u⟩;all_goals grind[Q9]
 ·intro b o i h4 NW z;have Q0:=(cU.1 i).1;refine Xt P T I (by omega) i ?_;rcases aA8 z with h|h|h|h|h|⟨h,u⟩;·omega
  ·omega
  ·omega
  ·omega
  ·omega
  ·by_cases e:b=7;·omega
   ·exfalso;unfold rJ at u;simp only[lF,og,fO]at u;rcases u with(u|u)|u;·grind
    ·omega
    ·cases Q3:A with|none=>grind|some B=>rw[Q3]at u;exact NW B Q3<|by grind
 ·intro b i;exact⟨aaE (by omega)<|by unfold rI;grind,aaE (by omega)<|by unfold rJ;grind⟩
 ·rw[Et];omega
 ·omega
 ·intro s;have c1:AW (World.re (kH A W0) s 0) QW l:=g _ λB k=>lwA B k;have c2:jA<|World.re (kH A W0) s 0:=T.of_block (C 0<|by simp);have c3:fQ<|World.re (kH A W0) s 0:=L.of_block (C 3<|by simp);have c4:sQ<|World.re (kH A W0) s 0:=Yj (by omega) R;exact(p _ _ c1 c2 c3 c4).mono λe a⟨he,i⟩=>⟨_,he,rfl,s,0,⟨i.os,rfl,i.output,i.size,i.block⟩⟩
 ·intro x x' Q1 v1 ρ cl⟨t,s,d,k⟩hxv M fo D K hold;subst t;refine⟨by rw[hxv.2];rfl,?_,K,?_,λb i=>?_⟩;·rw[M.os];exact k.os.trans (agu A W0).1
  ·have h1:=M.low (W0-1) (by omega);rw[D _<|by omega]at h1;omega
  ·cases z:(jI (rI m) A).F b with|false=>grind|true=>
    have TF:∀B,A=U B->b≠B.g:=λB GG e=>by
     have h:=E B GG;have:(jI (rI m) A).F B.g=rI m B.g:=by show rf ai (rI m) B.g=_;unfold rf;grind
     grind[Q9]
    have e1:Q1.heap[b]?=W0.heap[b]?:=(k.block b<|by rw[agt];exact i).trans<|lw b (λe=>by rw[e]at z;cases z) TF;rw[iy i]at e1⊢;obtain⟨k1,k2⟩:=M.blk b _ e1 z;have Nb:eF (jI (rI m) A) W0 W0.heap[b]=Y:=by refine Xt P T O (by omega) (iy i) ?_;rcases ajE z with h|h|h|h|⟨h,u⟩;all_goals grind[Q9]
    rw[D b i,aeL (σ:=id) (λc hc=>D c hc) Nb,Q6]at k2;exact k2
end
section
open Go.RowKit
def Az(x:jQ)(id:Int)(l:List O):List O:=if x.f.size=0 then(Kq l id x.n).1 else(IM l id x.n x.f x.v).1
def AA(x:jQ)(ls:Nat->List O):Nat->List O:=λk=>if k=uB x.who 3 then Az x (k+1) (ls k)else ls k
theorem atV{l}(hs:j l){id}{n f v}{y}(h:y∈(IM l id n f v).1):y∈l\/y.name=n/\y.field=f:=by grind[IM,U9,JA]
theorem aCh{l}(hs:j l){id}{n}{y}(h:y∈(Kq l id n).1):y∈l\/y.name=n/\y.field=⟨#[]⟩:=by grind[Kq,U9,JA]
structure UY(N K S:Nat)(x:jQ)(w w':ay)(pw:Nat)(pv:az)(R R':Nat->Rk)(ks':Keys):Prop where
 jD:fJ N (K+1) S ks' w' pw pv R'
 ls:∀k,k<3->(R' k).l=AA x (λk=>(R k).l) k
 same:pE R R'
 bs:∀k,(R' k).bs=(R k).bs
 keep:aK (oG R) w w'
theorem vu.wrote{N K S}{a}{w}{o}(h:vu N K S a w o)(b:a.length<=K):vp K o.L o.l:=⟨h.bk,bC h.len b,h.cnt⟩
theorem fJ.aaT{N K S}{u}{w w'}{t}{pv}{R}{x}(h:fJ N K S u w t pv R)(hid:∀k,k<3->(R k).id=k+1){i}(l:i=uB x.who 3){L'}(z:cI w' (R i).m L')(r:vp (K+1) L'<|Az x (R i).id (R i).l)(v:aK (λb=>b=(R i).m) w w'):∃C j,UY N K S x w w' t pv R C j:=by
 have c:i<3:=by rw[l];exact Mb<|by omega
 have s:=(h.eE i c).bk.sorted;have D:=(h.more (K':=K+1) (S':=S) (ks':=u++[(x.n,if x.f.size=0 then⟨#[]⟩else x.f)]) (by omega) (aS _) (λy d=>Yw _ d)<|by have:=h.kl;grind).edit c v z r.bk r.cnt λy d=>by
  unfold Az at d;split at d
  .rename_i e;rw[dy e];rcases aCh s d with q|⟨A,B⟩;.exact Yw _<|(h.eE i c).ks y q
   grind
  .rename_i e;rw[if_neg e];rcases atV s d with q|⟨A,B⟩;.exact Yw _<|(h.eE i c).ks y q
   grind
 refine⟨_,_,D,λk o=>?_,⟨λk=>ur Rk.p R (o:=(R i).uz L'<|Az x (R i).id (R i).l) rfl k,λk=>ur Rk.id R (o:=(R i).uz L'<|Az x (R i).id (R i).l) rfl k,λk=>ur Rk.m R (o:=(R i).uz L'<|Az x (R i).id (R i).l) rfl k,λk=>ur Rk.g R (o:=(R i).uz L'<|Az x (R i).id (R i).l) rfl k⟩,λk=>ur Rk.bs R (o:=(R i).uz L'<|Az x (R i).id (R i).l) rfl k,v.mono λb _ e=>⟨i,c,ax e⟩⟩;unfold AA;by_cases e:k=i;.subst e;rw[P5,dy l,<-hid k o];rfl
 .rw[P6 R _ e,if_neg λq=>e<|q.trans l.symm]
theorem TV(N K S)(ks)(w)(F)(pv)(R)(x)(h:fJ N K S ks w F pv R)(hid:∀k,k<3->(R k).id=k+1)(hN:5<=N)(hK:K<=1000000)(T:gu x.who)(O:x.n.size<=65536)(Q0:x.f.size<=65536)(Q1:jA w):bz Q 17 #[aG F,bJ #[x.who,x.n,x.f,x.v]] w λe w'=>e=bj (bO #[])∧∃D g,UY N K S x w w' F pv R D g:=by
 obtain⟨i,s⟩:=ex<|uB x.who 3;have m:i<3:=by rw[s];exact Mb<|by omega
 obtain⟨H,u⟩:=ex<|w.alloc<|aH #[x.who,x.n,x.f,x.v] 30;have c:aW w w H:=by rw[u];exact(eo _ _).alloc (aS _) _
 have l:=h.below c;have b:=l.eE i m;have A:=IN R m;have r:jM (R i).L<9223372036854775807:=by rw[b.bk.clock];have:=akY (l:=(R i).l) (k:=(K:Int)) (by omega) λy f=>(b.cnt y f).2.1;omega
 have o:=b.wrote l.kl;have p:dD<|∀W,bz Q 18 #[x.who,V aC 3] W λe W'=>e=bj i∧W'=W:=X λW=>by grind[Me]
 have q:=X<|aCj F pv (qJ R) i m (R i).id (R i).m (R i).g (R i).L x.n H l.mY (by grind[Bg]) (by rw[A];exact b.rep) b.book (by have:=b.mN;omega) (Q1.below c<|aS _) O (by rw[b.bk.perm.length_eq];have:=o.len;omega) r;have I:=X<|ae1 F pv (qJ R) i m (R i).id (R i).m (R i).g (R i).L x.n x.f x.v H l.mY (by grind[Bg]) (by rw[A];exact b.rep) b.book (by have:=b.mN;omega) (Q1.below c<|aS _) O Q0 r;have a:=zB.mk l hid s c o b.JC;have L:=X u;clear h hid s l b c o u r A T Q1;obtain⟨v,J,t,P⟩:=x;simp only at p q I a L O Q0⊢;by_cases Nu:t=⟨#[]⟩;·subst Nu;go_enter acI,ntmps17;go_wp2_with(first|(go_at_call 18;go_must(refine(p.out _).mono ?_);rintro e M⟨rfl,z⟩;subst z;refine Halt.of ?_)|(go_at_call 28;rw[<-L.out];go_must(refine q.out.mono ?_);rintro e M⟨rfl,C,G⟩;have B:=cH.mk C G;refine Halt.of ?_));unfold Halt;go_wp2_with(first|(go_at_call 28;rw[<-L.out];go_must(refine q.out.mono ?_);rintro e M⟨rfl,C,G⟩;have B:=cH.mk C G;refine Halt.of ?_));unfold Halt;go_wp2;go_end0;obtain⟨l,hid,s,c,o,j⟩:=kp a;obtain⟨D,g,E⟩:=l.aaT (x:=⟨v,J,⟨#[]⟩,P⟩) hid s B.a (o.delete j J).1 B.b;exact⟨rfl,D,g,E.jD,E.ls,E.same,E.bs,(aK.iD c).trans E.keep⟩
 ·have Gp:¬t.toList=[]:=λe=>Nu (zu<|by grind[Ig]);have hf2:t.toList.isEmpty=ai:=by grind
  go_enter acI,ntmps17;go_wp2_with(first|(go_at_call 18;go_must(refine(p.out _).mono ?_);rintro e M⟨rfl,z⟩;subst z;refine Halt.of ?_));unfold Halt;go_wp2_with(first|(go_at_call 26;rw[<-L.out];go_must(refine I.out.mono ?_);rintro e M⟨rfl,C,G⟩;have B:=cH.mk C G;refine Halt.of ?_));unfold Halt;go_wp2;go_end0;obtain⟨l,hid,s,c,o,j⟩:=a;have Tf:¬t.size=0:=λe=>Nu (by obtain⟨d⟩:=t;have:d.size=0:=e;grind);have n:=(o.put j J t P).1;obtain⟨D,g,E⟩:=l.aaT (x:=⟨v,J,t,P⟩) hid s B.a (by unfold Az;grind) B.b;exact⟨rfl,D,g,E.jD,E.ls,E.same,E.bs,(aK.iD c).trans E.keep⟩
def sJ:ByteArray:=⟨#[97,110,110]⟩
def td:ByteArray:=⟨#[116,101,108]⟩
def tQ:ByteArray:=⟨#[53]⟩
theorem atX:oO [] 1 sJ td tQ=([⟨sJ,td,1,1,tQ⟩],0,⟨#[]⟩):=by kernel_rfl
theorem aj9:Az ⟨0,sJ,td,tQ⟩ 1 []=[⟨sJ,td,1,1,tQ⟩]:=by kernel_rfl
theorem asl:mH (oN [⟨sJ,td,1,1,tQ⟩] sJ)=[td,tQ]:=by kernel_rfl
theorem aDp{L}{x}(h:Bk L [x]):L=[x]:=List.perm_singleton.1 h.perm
theorem aDq{L}(h:Bk L []):L=[]:=List.perm_nil.1 h.perm
theorem abv(w:ay)(hT:jA w)(ht:fQ w)(Q2:sQ w):bz Q 15 #[] w λe w'=>e=bj (bQ Y)/\aW w.heap.size w w':=by
 have h4:=(cU.1 Q2).1;have C:=X<|Lv w;have O:=gF.mk hT ht Q2;clear hT ht Q2;go_enter aoR,ntmps15;go_wp2_with(go_at_call 16;go_must(refine C.out.mono ?_);rintro e w1⟨I,J,R,rfl,D⟩;have Q0:=X D;refine Halt.of ?_);unfold Halt;obtain⟨o,l,f⟩:=Q0.out;have G:=l 0 (by omega);have z:=l 1 (by omega);have i:=o.eE 0 (by omega);have p:(R 0).L=[]:=aDq (by have:=i.bk;grind);have r:=ae1 I J (qJ R) 0 (by grind[Bg]) (R 0).id (R 0).m (R 0).g (R 0).L sJ td tQ w1 o.mY (by grind[Bg]) i.rep i.book (by have:=i.mN;omega) (O.a.below f<|aS _) (by decide) (by decide) (by rw[p];decide);have e1:(R 0).id=1:=G.1;rw[p,e1,atX]at r;have t:=X r;clear o l f G z i r p e1 C;unfold sJ td tQ at t;go_wp2_with(go_at_call 26;go_must(refine t.out.mono ?_);rintro e s⟨rfl,hB,u⟩;have H2:=cH.mk hB u;refine Halt.of ?_);unfold Halt;clear t;obtain⟨o,l,f⟩:=Q0.out;have G:=l 0 (by omega);have z:=l 1 (by omega);obtain⟨L,Q1,j⟩:∃R' S,UY w 0 0 ⟨0,sJ,td,tQ⟩ w1 s I J R R' S:=o.aaT (x:=⟨0,sJ,td,tQ⟩) (λk u=>(l k u).1) (i:=0) (by rfl) (L':=[⟨sJ,td,1,1,tQ⟩]) H2.a (by rw[G.2.1,show(R 0).id=1 from G.1,aj9];exact⟨⟨List.Perm.refl _,List.pairwise_singleton ..,λx D=>by rw[mA.1 D];exact⟨by decide,by decide,by decide,by decide,by decide,by decide⟩⟩,by decide,λy hy=>by grind[List.mem_singleton,gu]⟩) H2.b;have A:=f.trans (j.keep.below f.size λb hb q=>by have:=o.lo q;omega);have T:(L 0).l=[⟨sJ,td,1,1,tQ⟩]:=by rw[j.ls 0<|by omega];unfold AA;rw[dy<|show 0=uB 0 3 by decide];grind[aj9]
 have P:(L 1).l=[]:=by rw[j.ls 1<|by omega];unfold AA;rw[if_neg<|show¬1=uB 0 3 by decide];grind
 obtain⟨H,B⟩:=ex<|s.alloc<|aH #[V aC 0,aD ⟨#[]⟩] 49;have h:aW s s H:=by rw[B];exact(eo _ _).alloc (aS _) _
 have g:H.heap[s.heap.size]?=U (aH #[V aC 0,aD ⟨#[]⟩] 49 (0,0)):=by grind[World.alloc_heap_new]
 have c:=A.trans<|h.mono A.size;have N:=X<|CR w 1 0 Q1 H I J L 0 1 (by omega) (by omega) (by omega) (j.jD.below h) (by omega) (by omega) (by omega) (O.b.below c<|aS _)<|(c.block 4 h4).trans O.c;have HE:=E5.mk B T P j g c h;go_wp2_with(go_at_call 19;rw[<-HE.a];go_must(refine N.out.mono ?_);rintro e w4⟨rfl,m,D⟩;have H4:=X D;refine Halt.of ?_);unfold Halt;obtain⟨-,T,P,j,g,c,h⟩:=HE;have E:=H4.out;have Q3:¬oG L s:=λ⟨k,u,q⟩=>by have o:=(j.jD.eE k u).book.lt;have h2:=(j.jD.eE k u).map.lt;omega
 have l4:(m 1).l=[⟨sJ,td,1,1,tQ⟩]:=by rw[E.lj,T,P];rfl
 have i:=E.jD.eE 1 (by omega);have W:(m 1).L=[⟨sJ,td,1,1,tQ⟩]:=aDp (by have:=i.bk;grind);have F:=aBo I J (qJ m) 1 (by grind[Bg]) (m 1).id (m 1).m (m 1).g (m 1).L sJ w4 E.jD.mY (by grind[Bg]) i.rep i.book (by grind) (by decide);rw[W,asl]at F;have t:=X F;have K:=cH.mk ((E.keep.block _ (cU.1 g).1 Q3).trans g) (c.trans<|E.keep.below c.size λb hb q=>by have:=j.jD.lo q;omega);unfold sJ td tQ at t;go_wp2_with(go_at_call 27;go_must(refine t.out.mono ?_);rintro e a⟨v,rfl,d,n⟩;have H5:=cH.mk d n;refine Halt.of ?_);unfold Halt;obtain⟨d,n⟩:=kp H5;obtain⟨g5,QW,rfl⟩:∃g5 QW,v=aE (U ⟨g5,0,Z⟩) 2 QW:=by rcases d.2 with⟨_,h0⟩|⟨g5,QW,cur,rfl,_⟩;all_goals grind
 have y0:a.cell? g5=U (aD ⟨#[116,101,108]⟩):=by have:=Jf d (g:=g5) rfl 0 _ rfl;rwa[R5,Bw]at this
 have y1:a.cell? ⟨g5,1,Z⟩=U (aD ⟨#[53]⟩):=by have:=Jf d (g:=g5) rfl 1 _ rfl;rwa[R5,Bw]at this
 have y3:a.cell? s=U (V aC 0):=M ((n.block _ (cU.1 K.a).1).trans K.a) 0;go_wp2;go_ret;exact⟨rfl,K.b.trans<|H5.b.mono K.b.size⟩
def after(es:List jQ):Nat->List O:=es.foldl (λls x=>AA x ls) λ_=>[]
theorem aEk(es)(x):after (es++[x])=AA x (after es):=by simp[after]
theorem abw{l:List jQ}{j}(a):after (l.take<|j+1)=AA l[j] (after<|l.take j):=by grind[List.take_add_one,List.getElem?_eq_getElem,Option.toList_some,aEk]
theorem aaU{x}{b a}{k}(h:b k=a k):AA x b k=AA x a k:=by grind[AA]
theorem VO:∀(l:List jQ)(k:Nat),l.foldl (λn x=>n+sD x) k=k+nV l|[],k=>rfl|x::l,k=>by have b:=VO l<|k+sD x;have a:=VO l<|0+sD x;show List.foldl _ (k+sD x) l=k+List.foldl _ (0+sD x) l;grind
theorem aqa(x)(l):nV (x::l)=sD x+nV l:=by have a:=VO l<|0+sD x;show List.foldl _ (0+sD x) l=_;grind
theorem VS{l}(h:A9 l=Y):l.length<=300/\∀x∈l,x.n.size<=1200/\x.f.size<=1200:=by
 have c:nV l<=1200:=by grind[A9]
 have a:∀l:List jQ,4*l.length<=nV l/\∀x∈l,sD x<=nV l:=λl=>by induction l with|nil=>grind|cons y l b=>grind[aqa,sD,List.length_cons]
 grind[sD]
def Lc(N:Nat)(l:List jQ)(pw:Nat)(pv:az)(R:Nat->Rk)(w0:ay)(j:Nat)(W:ay):Prop:=∃R' ks,fJ N j 0 ks W pw pv R'/\pE R R'/\(∀k,k<3->(R' k).l=after (l.take j) k)/\aK (oG R) w0 W
theorem Lc.next{N}{l}{e}{d}{R b f}{w0 W W'}{j}{a}(g)(hs:pE R b)(i:∀k,k<3->(b k).l=after (l.take j) k)(h:aK (oG R) w0 W)(E:UY N j 0 l[j] W W' e d b f a):Lc N l e d R w0 (j+1) W':=⟨f,a,E.jD,hs.trans E.same,λk c=>by rw[E.ls k c,abw g];grind[aaU],h.trans<|by rw[<-hs.maps];exact E.keep⟩
theorem aDt{L l}(h:Bk L l):dS L ⟨#[]⟩=l:=by rw[A6 h];exact Ik l
theorem lC.KD{w:ay}{v:az}{l:List O}(h:lC w v l):∃ad cap,v=aE ad l.length cap:=by
 rcases h.2 with⟨h1,h2⟩|⟨g,cap,cur,hv,_⟩;.exact⟨Z,0,by rw[h2];exact h1⟩
 .exact⟨_,_,hv⟩
theorem avg(n f v:ByteArray)(c r:Int)(W:ay):(fZ .neq 46 (bJ #[aD n,aD f,V aC c,V aC r,aD v])<|bJ #[aD n,aD f,V aC c,V aC r,aD v]).run Q W=aY (bQ ai) W:=by go_simp
set_option maxHeartbeats 2000000 in
theorem QL(va vb:az)(l:List O)(w:ay)(ha:lC w va l)(hb:lC w vb l)(hl:l.length<=2000000):bz Q 22 #[va,vb] w λe w'=>e=bj (bQ Y)/\aW w.heap.size w w':=by
 obtain⟨ad,ca,rfl⟩:=ha.KD;obtain⟨bd,cb,rfl⟩:=hb.KD;have HA:=X<|aM ha hb;clear ha hb;go_enter aoj,ntmps22;go_wp2;go_loopg[5]l.lengthλk s wr=>∃j:Nat,s=V aC j/\k+j=l.length/\aW w.heap.size w wr;case atStart=>exact⟨0,rfl,by omega,eo _ _⟩
 case round=>
  obtain⟨j,rfl,hk,hB⟩:=hrel;by_cases hj:j<l.length
  .obtain⟨g,c1,hv,hg,B,y1,y2,A,J⟩:=HA.out.1.cell hj;obtain⟨g',c2,we,Ns,u0,u1,u2,u3,u4⟩:=HA.out.2.cell hj;simp only[oU,true_and]at hv we;obtain⟨rfl,-⟩:=hv;obtain⟨rfl,-⟩:=we;obtain⟨x,hx⟩:∃x,x=l[j]:=⟨_,rfl⟩;rw[<-hx]at B y1 y2 A J u0 u1 u2 u3 u4;obtain⟨n,f,c,r,v⟩:=x;simp only at B y1 y2 A J u0 u1 u2 u3 u4;have eK:∀i,wr.cell? ⟨g,i,Z⟩=w.cell? ⟨g,i,Z⟩:=λi=>hB.cell (p:=⟨_,_,Z⟩) hg;have E:∀i,wr.cell? ⟨g',i,Z⟩=w.cell? ⟨g',i,Z⟩:=λi=>hB.cell (p:=⟨_,_,Z⟩) Ns;rw[<-eK]at B y1 y2 A J;rw[<-E]at u0 u1 u2 u3 u4;have aGY:=avg n f v c r;have nB:(j:Int)<(l.length:Int):=by omega
   have jP:=X<|show aW w.heap.size w wr.drew from hB.drew;clear eK E hx hB;go_wp2;go_region_held3λW=>W.cell? ⟨g,j*5,Z⟩=U (aD n)/\W.cell? ⟨g,j*5+1,Z⟩=U (aD f)/\W.cell? ⟨g,j*5+2,Z⟩=U (V aC c)/\W.cell? ⟨g,j*5+3,Z⟩=U (V aC r)/\W.cell? ⟨g,j*5+4,Z⟩=U (aD v)/\W.cell? ⟨g',j*5,Z⟩=U (aD n)/\W.cell? ⟨g',j*5+1,Z⟩=U (aD f)/\W.cell? ⟨g',j*5+2,Z⟩=U (V aC c)/\W.cell? ⟨g',j*5+3,Z⟩=U (V aC r)/\W.cell? ⟨g',j*5+4,Z⟩=U (aD v)(go_keep)(fail);go_wp2;go_roundg(gk-1);case rel=>exact⟨j+1,by go_simp,by omega,jP.out⟩
   case measure=>omega
  .have jw:j=l.length:=by omega
   subst jw;have jP:=X hB;clear hB;go_wp2;go_ret;exact⟨rfl,jP.out⟩
variable{N K S:Nat}{ks:Keys}{w w':ay}{pw:Nat}{pv:az}{R:Nat->Rk}
theorem fJ.len(h:fJ N K S ks w pw pv R)(hK:K<=4096){k:Nat}(E:k<3):(R k).l.length<=4096:=by have:=(h.eE k E).len;have:=h.kl;omega
theorem fJ.QK(h:fJ N K S ks w pw pv R){i j:Nat}(hi:i<3)(E:j<3)(B:i≠j)(hK:K<=4096){n0:Nat}(xR:n0<=1000000)(hn:(look (R i).bs (R j).id).getD (V aC 0)=V aC (n0:Nat)){vm:az}{c:Option Int}(hc:Pn w vm c)(ht:fQ w)(hf:sQ w):bz Q 23 #[aG<|U ⟨pw,0,Z⟩,V aC i,V aC j,vm] w λe w'=>∃(fr sz:Nat)(A' B':List O)(R':Nat->Rk),e=bj (bO #[V aC fr,V aC sz])/\Pj (((n0:Nat)+1:Int)%8=0\/Clear t (R i).l (R j).l) (R i).l (R j).l (sH (R i).l (R j).l<|(n0:Nat)+1) c A' B' fr sz/\fJ N K (S+1) ks w' pw pv R'/\(R' i).l=A'/\(R' j).l=B'/\(∀k,k≠i->k≠j->(R' k).l=(R k).l)/\pE R R'/\(look (R' i).bs (R j).id).getD (V aC 0)=V aC ((n0+1:Nat):Int)/\aK (oG R) w w':=by have J:=h.eE i hi;have A:=h.eE j E;refine(adb pw pv (qJ R) i j hi E (R i).r4 (R j).r4 (n0:Nat) (R i).L (R j).L (R i).l (R j).l (R i).bs vm c w h.mY (by rw[Bg];omega) (IN R hi) (IN R E) J.rep A.rep (λe=>by have h1:=J.rep;have h2:=A.rep;unfold fE at h1 h2;have e':(R i).p=(R j).p:=e;rw[e',h2]at h1;injection h1 with h1;injection h1 with h1;simp at h1;exact h.ms i j hi E B h1.2.1.symm) (h.ms i j hi E B) (h.gm i i hi hi) (h.gm i j hi E) J.book A.book J.bk A.bk (J.fits<|by omega) (A.fits<|by omega) (h.len hK hi) (h.len hK E) ht hf J.map hn (by omega) (by omega) hc).mono λe w' hP=>h.sync hi E B hn hP
def qE(N:Nat)(w:ay)(v:az)(l:List O):Prop:=w.ownsRow N 46 5 v l.length<|rows l
theorem qE.at{M:Nat}{v:az}{l:List O}(h:qE M w v l):lC w v l:=jr h<|kI _
theorem qE.keep{M:Nat}{v:az}{l:List O}{F:Nat->Prop}(h:qE M w v l)(E:aK F w w')(hF:∀b,F b->b<M):qE M w' v l:=dx h λb hb=>E.block b (h.lt b hb).2 λq=>by have:=hF b q;have:=(h.lt b hb).1;omega
theorem qE.below{M:Nat}{v:az}{l:List O}(h:qE M w v l)(E:aW w.heap.size w w'):qE M w' v l:=dx h λb hb=>E.block b (h.lt b hb).2
theorem fJ.bq(h:fJ N K S ks w pw pv R){k:Nat}(E:k<3)(hK:K<=4096):bz Q 21 #[aG<|U ⟨pw,0,Z⟩,V aC k] w λe w'=>∃v,e=bj (bO #[v,bQ Y])/\qE w.heap.size w' v (R k).l/\aW w.heap.size w w':=by have ho:=h.eE k E;have:=att pw pv (qJ R) k E (R k).id (R k).m (R k).g (R k).L w h.mY (by rw[Bg];omega) (by rw[IN R E];exact ho.rep) ho.book (by rw[ho.bk.perm.length_eq];have:=h.len hK E;omega);rw[aDt ho.bk]at this;exact this
end
end Go.Proofs.YtpdbmpbmepkikaaGreatDoor
