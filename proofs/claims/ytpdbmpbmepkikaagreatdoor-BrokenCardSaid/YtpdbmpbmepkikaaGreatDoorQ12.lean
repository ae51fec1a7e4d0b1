/- Laws. -/
import Derived.Laws.EntriesVeiled
import Derived.Deep.AppendLies
import Derived.Test.YtpdbmpbmepkikaaGreatDoorQ11
set_option maxRecDepth 100000
set_option maxHeartbeats 400000
set_option linter.all false
open Go.Proofs.Tryz
open And renaming intro->aM
open Bool renaming true->Y,false->ai
open Decidable renaming decide->cg
open Go renaming World->ay,Value->az,Calls->bz,Addr->eT,callFunc->iA,zeroValue->lu,maxLen->vg
open Go.Act renaming put->cA
open Go.Ending renaming returned->bj
open Go.Fn renaming func->ez
open Go.Instr renaming next->Ci,checkKey->Cj,sameNow->EN,sameBits->EO,entry->GV,makeMap->OJ
open Go.IntKind renaming i64->aC,u8->aq,u64->cO
open Go.Next renaming enter->jL
open Go.Obj renaming cells->aH,map->iZ
open Go.Operand renaming tmp->cx
open Go.Result renaming ok->aY
open Go.RowKit renaming Below->aW,Hid->dD
open Go.Value renaming ownBlock->GW,int->V,string->aD,slice->aE,pointer->aG,agg->bJ,tuple->bO,bool->bQ,map->cq,func->dM,oneCell'->zh
open Go.World renaming setCell->jk,cell?->pg
open List renaming range->mJ
open Nat renaming reduceSub->wP,reduceAdd->wS
open Option renaming some->U,none->Z
open Or renaming inr->aA,inl->ax
open UInt8 renaming ofNat->ru
namespace Go.Proofs.YtpdbmpbmepkikaaGreatDoor
def YE:=@List.flatMap_cons
def yL:=@List.length_singleton
def MG:=@List.sum_nil
def R8:=@Nat.mul_le_mul_left
def Jh:=@List.ne_nil_of_mem
def agW:=@List.eq_nil_iff_forall_not_mem
def R5:=@Go.Addr.add_lit
def awE:=@List.drop_eq_getElem_cons
def RZ:=@Go.World.cell?_setCell_far
def MF:=@Ne.symm
def Aa:=@Go.info_parts
def YD:=@Go.wpList_append_own_at
def xG:=@Go.wp_region_noPanic
def Jg:=@Go.wpAnyH_take
def YC:=@Go.wpAnyH_ready
def YB:=@Go.AllReadyH.cons
def YA:=@Go.AllReadyH.nil
def Jf:=@Go.World.ownsRow.cells
def oU:=@Go.Value.slice.injEq
def agV:=@List.mem_of_mem_take
section
variable{hs:List O->Int}{A B X Q:List O}{m:dZ}{ℓ:Nat}
def wt(A B E:List O)(K:Nat)(R:List O)(W:List ByteArray)(N:List Nd):Nat:=56*R.length+16*W.length+268*N.length+(N.map λnd=>dC A B nd.pfx*K).sum+(W.map λw=>56*(q E w).length).sum
theorem PI(b)(K)(R d)(W W')(N c):wt A B b K (R++d) (W++W') (N++c)=wt A B b K R W N+wt A B b K d W' c:=by unfold wt;grind
theorem PG{t:Type}(d)(K)(r)(w)(n):∀(l:List t),wt A B d K (l.flatMap r) (l.flatMap w) (l.flatMap n)=(l.map λa=>wt A B d K (r a) (w a)<|n a).sum|[]=>rfl|a::l=>by simp only[YE,gd,Ab];rw[PI,PG d K r w n l]
theorem U8(a)(K)(R):wt A B a K R [] []=56*R.length:=by simp[wt]
def jY(ℓ:Nat):Nat:=268*(13-ℓ)+128
def phi(A B E:List O)(ℓ:Nat)(m:dZ):Nat:=(m.nodes.map λnd=>dC A B nd.pfx*jY ℓ).sum+(m.cu.map λw=>56*(q E w).length).sum
theorem mU.kid(M:mU hs A B X Q m ℓ){b:Nd}(o:b∈m.nodes){k:UInt8×Int}(w:k∈b.kids):wt A B (aV X<|C hs (aV Q m) m) (jY<|ℓ+1) (rU hs (aV Q m) b.pfx k) (rT hs (aV Q m) b.pfx k) (rV hs (aV Q m) b.pfx k)<=dC A B (push b.pfx k.1)*jY ℓ:=by
 have d:=M.step;rw[M.node b o]at w;obtain⟨H,a⟩:=Bq.1 w;have I:∀n f,below (push b.pfx k.1) n f=Y->K (aV Q m) n f=K B n f:=λn f c=>(M.quiet o<|zv c).1;have Q1:∀n f,below (push b.pfx k.1) n f=Y->K X n f=K A n f:=λn f c=>(M.quiet o<|zv c).2;have u:128<=jY ℓ:=by unfold jY;omega
 by_cases s:q (aV Q m) (push b.pfx k.1)=[]
 ·have g:rU hs (aV Q m) b.pfx k=[]:=by unfold rU;grind
  have i:rT hs (aV Q m) b.pfx k=[push b.pfx k.1]:=by unfold rT;grind
  have j:rV hs (aV Q m) b.pfx k=[]:=by unfold rV;grind
  have y:∀n f,below (push b.pfx k.1) n f=Y->K B n f=Z:=λn f c=>by grind[LB]
  have E:q (aV X<|C hs (aV Q m) m) (push b.pfx k.1)=q A (push b.pfx k.1):=A5 (Qe M.bk.sX _) M.bk.sA λn f c=>by rw[Ie d.bk.sX d.bk.sY d.bq,if_neg,Q1 n f c];intro G;obtain⟨x,r,rfl,rfl⟩:=Ft.1 G;exact Pe (d.bq x r)<|LB s c
  have N:q X (push b.pfx k.1)=q A (push b.pfx k.1):=A5 M.bk.sX M.bk.sA Q1;have z:=aCt M.bk.sA M.bk.sB y;have J:1<=(q A<|push b.pfx k.1).length:=by grind
  rw[g,i,j];unfold wt;simp only[lG,yL,tG,MG,gd,Ab,E];rw[z]at J⊢;have:=R8 (dC A B<|push b.pfx k.1) u;omega
 ·by_cases v:hs (q (aV Q m)<|push b.pfx k.1)=k.2
  ·have g:rU hs (aV Q m) b.pfx k=[]:=by unfold rU;grind
   have i:rT hs (aV Q m) b.pfx k=[]:=by unfold rT;grind
   have j:rV hs (aV Q m) b.pfx k=[]:=by unfold rV;grind
   rw[g,i,j];exact kI _
  ·have O:1<=dC A B (push b.pfx k.1):=by refine oe λp=>v ?_;rw[a,A5 d.bk.sX M.bk.sX λn f c=>?_];rw[I n f c,Q1 n f c];exact oe λh=>p<|akq M.bk.sA M.bk.sB c λe=>h e.symm
   by_cases l:k.1=0
   ·have g:rU hs (aV Q m) b.pfx k=q (aV Q m) (push b.pfx k.1):=by unfold rU;grind
    have i:rT hs (aV Q m) b.pfx k=[push b.pfx k.1]:=by unfold rT;grind
    have j:rV hs (aV Q m) b.pfx k=[]:=by unfold rV;grind
    have F:=sub_zero d.bk.sX d.bk.gX b.pfx;have L:=sub_zero (Qe M.bk.sX<|C hs (aV Q m) m) (d.bk.aV d.bq).gX b.pfx;rw[<-l]at F L;rw[g,i,j];unfold wt;simp only[lG,yL,tG,MG,gd,Ab];have:=R8 (dC A B<|push b.pfx k.1) u;omega
   ·have g:rU hs (aV Q m) b.pfx k=[]:=by unfold rU;rw[if_neg];exactλh=>l h.2.2
    have i:rT hs (aV Q m) b.pfx k=[]:=by unfold rT;rw[if_neg];exactλh=>h.elim s λh=>l h.2
    have j:rV hs (aV Q m) b.pfx k=[jd hs (aV Q m)<|push b.pfx k.1]:=by unfold rV;rw[dy ⟨s,v,l⟩]
    have P:ℓ+1<=13:=by obtain⟨x,r⟩:=FW _ H;obtain⟨Q0,D⟩:=nt.1 r;have:=(ahn (M.bk.gX x Q0) D).2 l;rw[M.size b o]at this;exact this
    have t:jY ℓ=jY (ℓ+1)+268:=by unfold jY;omega
    rw[g,i,j];unfold wt;simp only[lG,yL,tG,MG,gd,Ab];show _+dC A B (push b.pfx k.1)*jY (ℓ+1)+0+0<=_;rw[t,Nat.mul_add];omega
theorem mU.nd(M:mU hs A B X Q m ℓ){nd}(j:nd∈m.nodes):wt A B (aV X<|C hs (aV Q m) m) (jY<|ℓ+1) (ya hs (aV Q m) nd) (vk hs (aV Q m) nd) (vl hs (aV Q m) nd)<=dC A B nd.pfx*jY ℓ:=by
 have o:=M.node nd j;have z:128<=jY ℓ:=by unfold jY;omega
 have Q0:vk hs (aV Q m) nd=vk hs (aV Q m) nd++[]:=(uI _).symm;have r:vl hs (aV Q m) nd=vl hs (aV Q m) nd++[]:=(uI _).symm;rw[Q0,r];unfold ya;rw[PI,U8];unfold vk vl;rw[PG];have s:=Ij (l:=nd.kids) (f:=λk=>wt A B (aV X<|C hs (aV Q m) m) (jY<|ℓ+1) (rU hs (aV Q m) nd.pfx k) (rT hs (aV Q m) nd.pfx k)<|rV hs (aV Q m) nd.pfx k) (g:=λk=>dC A B (push nd.pfx k.1)*jY ℓ) λk t=>M.kid j t;have v:56*((De (aV Q m) nd).flatMap λc=>q (aV Q m)<|push nd.pfx c).length<=((De (aV Q m) nd).map λc=>dC A B (push nd.pfx c)*jY ℓ).sum:=by
  rw[I7,Nat.mul_comm,<-C0];refine Ij λc x=>?_;have l:c∈De (aV Q m) (jd hs X nd.pfx):=by grind
  obtain⟨_,w⟩:=Rv.1 l;rw[A5 (Qe M.bk.sY m) M.bk.sB λn f i=>(M.quiet j<|zv i).1,aCr M.bk.sA M.bk.sB λn f i=>by rw[<-(M.quiet j<|zv i).2];grind[LB]];exact R8 _<|by omega
 have u:(nd.kids.map λk=>dC A B (push nd.pfx k.1)*jY ℓ).sum=((qc X nd.pfx).map λc=>dC A B (push nd.pfx c)*jY ℓ).sum:=by rw[o];show(((qc X nd.pfx).map _).map _).sum=_;rw[FX];rfl
 have h:(qc X nd.pfx++De (aV Q m) nd).Nodup:=by rw[Jm];refine⟨XF _ _,(XF _ _).filter _,λa y b i e=>?_⟩;grind[Mj,Rv]
 have p:=aCs (A:=A) (B:=B) nd.pfx h;rw[vT,List.sum_append]at p;rw[C0,C0]at u;rw[C0]at v s;have d:=Nat.mul_le_mul_right (jY ℓ) p;grind
theorem mU.amY(M:mU hs A B X Q m ℓ)(o:∀x∈aV Q m,Fits x)(p:m.cu=[]\/ℓ<=14):(gy<|C hs (aV Q m) m).length+phi B A (aV X<|C hs (aV Q m) m) (ℓ+1) (C hs (aV Q m) m)<=4+phi A B (aV Q m) ℓ m:=by
 have d:=M.step;have f:wt A B (aV X<|C hs (aV Q m) m) (jY<|ℓ+1) (C hs (aV Q m) m).bq (C hs (aV Q m) m).cu (C hs (aV Q m) m).nodes<=phi A B (aV Q m) ℓ m:=by
  have j:(C hs (aV Q m) m).cu=[]++m.nodes.flatMap (vk hs<|aV Q m):=rfl;have k:(C hs (aV Q m) m).nodes=[]++m.nodes.flatMap (vl hs<|aV Q m):=by show _++m.roots.flatMap _=_;rw[M.roots];simp
  have l:(C hs (aV Q m) m).bq=m.cu.flatMap (q<|aV Q m)++m.nodes.flatMap (ya hs<|aV Q m):=rfl;rw[j,k,l,PI,U8,PG,I7,Nat.mul_comm,<-C0];unfold phi;have n:=Ij (l:=m.nodes) (f:=λb=>wt A B (aV X<|C hs (aV Q m) m) (jY<|ℓ+1) (ya hs (aV Q m) b) (vk hs (aV Q m) b)<|vl hs (aV Q m) b) (g:=λb=>dC A B b.pfx*jY ℓ) λb c=>M.nd c;grind
 have h:phi B A (aV X<|C hs (aV Q m) m) (ℓ+1) (C hs (aV Q m) m)=phi A B (aV X<|C hs (aV Q m) m) (ℓ+1) (C hs (aV Q m) m):=by unfold phi;congr 2;exact Mz λb _=>by rw[akp M.bk.sA M.bk.sB]
 have i:=XT (m:=C hs (aV Q m) m) (X:=aV Q m) (hs:=hs) (λx g=>⟨d.bk.gX x g,o x g⟩) d.bq (λw e=>?_) (λb c=>⟨d.node b c,by have n:=d.deep<|Jh c;have a:=d.size b c;omega⟩) rfl;.have r:phi A B (aV X<|C hs (aV Q m) m) (ℓ+1) (C hs (aV Q m) m)=((C hs (aV Q m) m).nodes.map λb=>dC A B b.pfx*jY (ℓ+1)).sum+((C hs (aV Q m) m).cu.map λw=>56*(q (aV X<|C hs (aV Q m) m) w).length).sum:=rfl;unfold wt at f;omega
 .rw[d.Lg w e];simp only[C,rP]at e;obtain⟨b,c,_⟩:=e;have:=M.deep<|Jh c;omega
def rk(m:dZ)(ℓ:Nat):Nat:=if m.nodes=[]then(if m.cu=[]then 0 else 1)else 15-ℓ
theorem mU.atL(M:mU hs A B X Q m ℓ)(h:(C hs (aV Q m) m).none=ai):rk (C hs (aV Q m) m) (ℓ+1)<rk m ℓ:=by
 unfold rk;by_cases b:m.nodes=[]
 .have f:(C hs (aV Q m) m).nodes=[]:=by simp[C,b,M.roots]
  have d:(C hs (aV Q m) m).cu=[]:=by simp[C,b]
  by_cases c:m.cu=[]
  .have e:(C hs (aV Q m) m).bq=[]:=by simp[C,b,c]
   unfold dZ.none at h;grind
  grind
 .have g:=M.deep b;grind
abbrev jF:ByteArray:=⟨#[]⟩
structure gK(hs:List O->Int)(cl:Prop)(A B X Q:List O)(m:dZ)(P k:Nat):Prop where
 bk:sW A B X Q
 fX:∀x∈X,Fits x
 fY:∀x∈Q,Fits x
 yV:X=A/\Q=B/\m=⟨[],[],[],[hs A]⟩/\76+3880*dC A B jF<=P/\16<=k/\(cl->Clear hs A B)\/∃ℓ,mU hs A B X Q m ℓ/\(m.cu=[]\/ℓ<=14)/\(gy m).length+4*rk m ℓ+phi A B (aV Q m) ℓ m<=P/\rk m ℓ<=k/\(cl->Conv X Q m/\(Clear hs A B\/m.nodes=[]))
section
variable {hs:List O->Int} {cl:Prop} {A B X Q:List O} {m m':dZ} {P k:Nat}
theorem Lu(Q)(h):aV Q ⟨[],[],[],[h]⟩=Q:=rfl
theorem aph(d:∀x∈X,Fits x)(b:∀x∈Q,Fits x)(c:∀x∈m.bq,x∈X):∀x∈aV Q m,Fits x:=λx a=>by
 rcases aaG a with h|h;.grind
 grind
theorem gK.bq(T:gK hs cl A B X Q m P k):∀x∈m.bq,x∈X:=by
 rcases T.yV with⟨rfl,rfl,rfl,_⟩|⟨a,M,_⟩;.grind
 .exact M.bq
theorem gK.tk(T:gK hs cl A B X Q m P k):sW B A (aV Q m) X/\∀x∈aV Q m,Fits x:=⟨T.bk.aV T.bq,aph T.fX T.fY T.bq⟩
theorem aCq(d:j A)(c:j B)(h:hs A≠hs B):1<=dC A B jF/\∃n f,below jF n f=Y/\K B n f≠K A n f:=by
 have:∃n f,K B n f≠K A n f:=by refine oe λg=>h ?_;rw[Cx d c λn f=>oe λe=>g ⟨n,f,λb=>e b.symm⟩]
 obtain⟨n,f,e⟩:=this;exact⟨akq d c (KM n f) λb=>e b.symm,n,f,KM n f,e⟩
theorem gK.size(T:gK hs cl A B X Q m P k):(gy m).length<=P:=by
 rcases T.yV with⟨rfl,rfl,rfl,b,_⟩|⟨c,M,_,b,_⟩
 .have:(gy ⟨[],[],[],[hs X]⟩).length=12:=by unfold gy da;simp only[j7,lG,FK<|show 0<128 by grind,FK<|show 1<128 by grind,yL,YE];rfl
  omega
 grind
theorem gK.next(T:gK hs cl A B X Q m P k)(h:Hh hs Q m=U m'):∃y v,(gy m).length+y<=P∧v<k∧gK hs cl B A (aV Q m) X m' y v:=by
 have d:=T.tk;unfold Hh at h;split at h;·grind
 rename_i F;injection h with h;subst h;rcases T.yV with⟨rfl,rfl,rfl,H,J,q⟩|⟨g,M,s,H,J,q⟩
 ·have o:hs X≠hs Q:=λe=>F (by simp[C,dZ.none,Lu,e]);have D:C hs (aV Q ⟨[],[],[],[hs X]⟩) ⟨[],[],[],[hs X]⟩=⟨[],[],[jd hs Q jF],[]⟩:=by simp[C,Lu,o]
  rw[D];rw[Lu]at d⊢;obtain⟨O,j⟩:=aCq T.bk.sA T.bk.sB o;have M:mU hs Q X Q X ⟨[],[],[jd hs Q jF],[]⟩ 0:=by
   refine⟨d.1,λx i=>by grind,λl b=>?_,λl b=>?_,λl b=>?_,λ_=>by omega,λl b=>?_,λw s=>by grind,λw s=>by grind,λx i=>by grind,λl b n f t=>⟨rfl,rfl⟩,rfl⟩<;>(simp only[mA]at b;subst b);·rfl
   ·rfl
   ·show(0:UInt8)∉bl jF;simp
   ·exact j
  have r:=XT (m:=⟨[],[],[jd hs Q jF],[]⟩) (X:=Q) (hs:=hs) (λx i=>⟨T.bk.gY x i,T.fY x i⟩) M.bq λw s=>by grind (λl b=>⟨M.node l b,by rw[M.size l b];omega⟩) rfl;have z:phi Q X (aV X ⟨[],[],[jd hs Q jF],[]⟩) 0 ⟨[],[],[jd hs Q jF],[]⟩=dC X Q jF*3612:=by simp only[phi,gd,tG,Ab,MG];show dC Q X jF*jY 0+0+0=_;rw[akp T.bk.sA T.bk.sB,show jY 0=3612 from by decide];omega
  have L:rk ⟨[],[],[jd hs Q jF],[]⟩ 0=15:=by simp[rk]
  have G:(gy ⟨[],[],[],[hs X]⟩).length=12:=by unfold gy da;simp only[j7,List.flatMap_nil,lG,FK<|show 0<128 by grind,FK<|show 1<128 by grind,yL,YE,uI];rfl
  simp only[lG,yL]at r;refine⟨(gy ⟨[],[],[jd hs Q jF],[]⟩).length+4*15+dC X Q jF*3612,15,by grind,by omega,⟨d.1,T.fY,T.fX,aA ⟨0,M,ax rfl,by grind,by grind,λc=>⟨λn f=>ax ⟨_,mA.2 rfl,KM n f⟩,ax λp u e=>?_⟩⟩⟩⟩;obtain⟨x,i,t⟩:=u;exact(q c p ⟨x,i.symm,t⟩ e.symm).symm
 ·have I:=M.step;have N:=M.atL (by grind);have a:=M.amY d.2 s;refine⟨(gy<|C hs (aV Q m) m).length+4*rk (C hs (aV Q m) m) (g+1)+phi B A (aV X<|C hs (aV Q m) m) (g+1) (C hs (aV Q m) m),rk (C hs (aV Q m) m)<|g+1,by omega,by omega,⟨d.1,d.2,T.fX,aA ⟨g+1,I,?_,aS _,aS _,λc=>⟨M.conv (q c).2 (q c).1,?_⟩⟩⟩⟩
  ·by_cases e:(C hs (aV Q m) m).cu=[];·grind
   ·right;have:m.nodes≠[]:=λK=>e (by simp[C,K]);have:=M.deep this;omega
  ·rcases(q c).2 with E|e;·left;intro p u e;obtain⟨x,i,t⟩:=u;exact(E p ⟨x,i.symm,t⟩ e.symm).symm
   ·simp[C,e,M.roots]
theorem gK.last(T:gK hs cl A B X Q m P k)(h:Hh hs Q m=Z)(c:cl):aV Q m=X/\X=gz A B:=by
 have g:=T.tk;have b:aV Q m=X:=by
  unfold Hh at h;split at h
  .rename_i l;rcases T.yV with⟨rfl,rfl,rfl,t,o,i⟩|⟨r,M,u,t,o,i⟩
   .have y:hs X=hs Q:=by refine oe λj=>?_;simp[C,dZ.none,Lu,j]at l
    rw[Lu];by_cases d:∃x,x∈X\/x∈Q;.obtain⟨x,d⟩:=d;have:=i c jF ⟨x,d,KM _ _⟩ (by grind[Ik]);grind[Ik]
    .rw[agW.2 λx h=>d ⟨x,ax h⟩,agW.2 λx h=>d ⟨x,aA h⟩]
   .simp only[dZ.none,cV]at l;have e:aV X (C hs (aV Q m) m)=X:=by show List.foldl ins X (C hs (aV Q m) m).bq=X;grind
    refine Cx g.1.sX T.bk.sX λn f=>?_;rcases(M.conv (i c).2 (i c).1) n f with⟨v,s,_⟩|⟨w,q,_⟩|h;.grind
    .grind
    grind
  grind
 refine⟨b,Cx T.bk.sX (qU T.bk.sA B) λn f=>?_⟩;rw[MQ T.bk.sA T.bk.sB];rcases T.bk.bX n f with p|p;.have o:=g.1.bX n f;grind[Ds,aga]
 grind
theorem sW.start(b:j A)(a:j B)(c:∀x∈A,Good x)(d:∀x∈B,Good x):sW A B A B:=⟨b,a,b,a,c,d,λ_ _=>ax rfl,λ_ _=>ax rfl⟩
theorem gK.root(d:j A)(c:j B)(a:∀x∈A,Good x/\Fits x)(b:∀x∈B,Good x/\Fits x):gK hs (Clear hs A B) A B A B ⟨[],[],[],[hs A]⟩ (76+3880*dC A B jF) 16:=⟨.start d c (λx h=>(a x h).1) λx h=>(b x h).1,λx h=>(a x h).2,λx h=>(b x h).2,ax ⟨rfl,rfl,rfl,aS _,aS _,id⟩⟩
theorem gK.asD(u:j A)(p:j B)(g:∀x∈A,Good x/\Fits x)(o:∀x∈B,Good x/\Fits x):∃P k,gK hs True A B A B ⟨A,[jF],[],[]⟩ P k/\k=1/\P=80+56*A.length+56*(A.length+B.length):=by
 have e:sW A B A B:=.start u p (λx h=>(g x h).1) λx h=>(o x h).1;have M:mU hs A B A B ⟨A,[jF],[],[]⟩ 0:=⟨e,λx h=>h,λb h=>by grind,λb h=>by grind,λb h=>by grind,λh=>absurd rfl h,λb h=>by grind,λw d=>by rw[mA.1 d];rfl,λw d b h=>by grind,λx D b h=>by grind,λb h=>by grind,rfl⟩;have c:=XT (m:=⟨A,[jF],[],[]⟩) (X:=A) (hs:=hs) g M.bq λw d=>by rw[M.Lg w d];omega λb h=>by grind rfl;have t:∀(R l:List O),(R.foldl ins l).length<=l.length+R.length:=by intro R;induction R with|nil=>grind|cons x R E=>
   intro l;have a:∀(l:List O),(ins l x).length<=l.length+1:=by intro l;induction l with|nil=>exact aS _|cons y l q=>unfold ins;grind
   grind
 have i:phi A B (aV B ⟨A,[jF],[],[]⟩) 0 ⟨A,[jF],[],[]⟩<=56*(A.length+B.length):=by simp only[phi,tG,MG,gd,Ab,Ik,Bw,Nat.add_zero];have:=t A B;show 56*(List.foldl ins B A).length<=_;omega
 have C:rk (⟨A,[jF],[],[]⟩:dZ) 0=1:=by simp[rk]
 simp only[lG,yL]at c;refine⟨_,_,⟨e,λx h=>(g x h).2,λx h=>(o x h).2,aA ⟨0,M,aA<|by omega,by grind,by grind,λ_=>⟨λn f=>aA<|ax ⟨jF,mA.2 rfl,KM n f,?_⟩,aA rfl⟩⟩⟩,rfl,rfl⟩;rw[Ie e.sX e.sY M.bq];split;.grind[RE,sI]
 .rename_i s;have:K A n f=Z:=by cases r:K A n f with|none=>rfl|some x=>obtain⟨a,z,v⟩:=tX r;exact absurd (Ft.2 ⟨x,a,z,v⟩) s
  grind[IY]
end
end
section
open Go.RowKit
theorem anh(z):jb (ru (z%256).toNat)=V aq (z%256):=by grind[Int.emod_nonneg,Int.emod_lt_of_pos,jb,UInt8.toNat_ofNat_of_lt']
theorem Oq(h):(gV h).length=8:=rfl
theorem aki(h):(gV h).map jb=(iR h).cells.toList:=by show List.map jb [_,_,_,_,_,_,_,_]=_;simp only[gd,tG,anh];rfl
structure CK(r g off cap a3 N:Nat)(z:List az)(l:List UInt8)(w W:ay):Prop where
 js:fS r g off cap l ai W
 arr:W.heap[N]?=U (aH z.toArray 76 (0,0))ptr:W.cell? ⟨a3,0,Z⟩=U (aG<|U ⟨r,0,Z⟩)keep:aK (λb=>b=r) w W
 lt:N<W.heap.size
theorem aml{r g a cap b N}{z}{l}{w W}(h:CK r g a cap b N z l w W):CK r g a cap b N z l w W.drew:=⟨⟨h.js.box,h.js.fits,h.js.lt,h.js.ne,h.js.cells⟩,h.arr,h.ptr,⟨h.keep.os,h.keep.tape,h.keep.output,h.keep.size,h.keep.block⟩,h.lt⟩
theorem akf(r g d cap a3)(h)(t)(w)(P:fS r g d cap (gV h++t) ai w)(hc:w.cell? ⟨a3,0,Z⟩=U (aG r))(ha:a3≠r):bz Q 146 #[aG a3] w λe QX=>e=bj (iR h)/\vA r g t w QX:=by
 obtain⟨x,z,G,A,D,y,F,B,hD⟩:∃x z G A D y F B:Int,iR h=bJ #[V aq x,V aq z,V aq G,V aq A,V aq D,V aq y,V aq F,V aq B]:=⟨_,_,_,_,_,_,_,_,rfl⟩;have hV:(gV h).map jb=[V aq x,V aq z,V aq G,V aq A,V aq D,V aq y,V aq F,V aq B]:=(aki h).trans (by rw[hD];rfl);have R:=Oq h;rw[hD];generalize gV h=q at*;have o7:=P.Bc;have J:=P.lt;have O:a3<w:=by
  rcases Nat.lt_or_ge a3 w with h|h;.exact h
  .simp[pg,yH h]at hc
 obtain⟨s,m⟩:∃s:List az,s=List.replicate 8 (V aq 0):=⟨_,rfl⟩;obtain⟨w1,fg⟩:=ex<|w.alloc<|aH #[V aq 0,V aq 0,V aq 0,V aq 0,V aq 0,V aq 0,V aq 0,V aq 0] 76;have hI1:CK r g d cap a3 w s (q++t) w w1:=by rw[fg,m];exact⟨P.below ((eo _ _).alloc (aS _) _)<|aS _,iF _ _,by grind[World.cell?_alloc_lt],aK.alloc _ _ _,by simp⟩
 have hp:∀W:ay,CK r g d cap a3 w s (q++t) w W->W.cell? a3=U (aG<|U r):=λW p=>p.ptr;have HT:dD<|∀W,CK r g d cap a3 w s (q++t) w W->bz Q 147 #[aG r,V aC 8] W λe QX=>e=bj (aE (U ⟨g,d,Z⟩) 8 8)/\(∃H,CK r g H (cap-8) a3 w s t w QX)/\∀j(Q1:j<q.length),QX.cell? ⟨g,d+j,Z⟩=jb q[j]:=X λW p=>(Qj r g d cap 8 _ W p.js<|by grind).mono λe QX⟨h1,⟨o,h2⟩,u⟩=>by
   have hd:(q++t).drop 8=t:=by grind
   rw[hd]at h2;refine⟨h1,⟨o,h2,(u.block _ p.lt<|by omega).trans p.arr,?_,p.keep.trans u,cE p.lt u.size⟩,λj Q1=>?_⟩;.exact(ei (a:=a3)<|u.block _ (cE O p.keep.size) ha).trans p.ptr
   .have:=p.js.cells j (by grind);rw[List.getElem_append_left Q1]at this;exact(ei (a:=⟨g,d+j,Z⟩)<|u.block _ (cE J p.keep.size) p.js.ne).trans this
 have QW:s.length=8:=by grind
 have Q2:=cH.mk fg QW;have T:dD<|∀W:ay,(∀j(Q1:j<q.length),W.cell? ⟨g,d+j,Z⟩=jb q[j])->∀j v,((q).map jb)[j]?=U v->W.cell? ((⟨g,d,Z⟩:eT).add j)=U v:=X λW K j v hv=>by grind[Option.map_eq_some_iff,List.getElem?_eq_some_iff,Addr.add_lit]
 have HB:dD<|∀W Q3:ay,aW w W Q3->W.cell? a3=U (aG r)->Q3.cell? a3=U (aG r):=X λW Q3 C h=>(C.cell (p:=a3) O).trans h;have L:dD<|((q).map jb).length=Nat.min 8 8:=X (by grind);go_enter aoU,ntmps146;go_wp2;rw[<-Q2.a];go_region_held3λW=>W.cell? a3=U (aG<|U r)(with_reducible(first|assumption|exact CK.ptr<|by assumption|exact CK.ptr<|aml<|by assumption|exact HB.out _ _ (by assumption)<|CK.ptr<|by assumption))((first|(go_at_call 147;with_reducible refine jg (HT.out _ ?fg) ?_;(case fg=>grind[aml]);rintro e w2⟨rfl,⟨N,l⟩,K⟩)|(with_reducible refine step_copy_splice rfl (cx 2) (cx 4) 79 79 rfl 5 uv (by kernel_rfl) _ _ 8 8 8 8 rfl rfl w 0 s 76 l.arr ((q).map jb) ?c1 ?c2 ?c3 (ang _) w w2 (eo _ _) (aS _) ?_;(case c1=>grind);(case c2=>exactλ_=>⟨rfl,_,rfl,T.out _ K⟩);(case c3=>rw[Q2.b,Jj,R];grind);intro n u k)));have c:n.heap[w.heap.size]?=U (aH #[V aq x,V aq z,V aq G,V aq A,V aq D,V aq y,V aq F,V aq B] 76 (0,0)):=by have:=u.out;rw[aqt _ _<|by rw[Q2.b,L.out];rfl,hV]at this;grind
 have qX:aK (λb=>b=r) w n:=⟨k.os.trans l.keep.os,k.tape.trans l.keep.tape,k.output.trans l.keep.output,bC l.keep.size k.size,λb C Q0=>(k.block b C).trans<|l.keep.block b C Q0⟩;have S:=l.js.keep (k.block r o7) (k.block g J) k.size;have q0:n.cell? w=U (V aq x):=M c 0;have q1:n.cell? ⟨w,1,Z⟩=U (V aq z):=M c 1;have q2:n.cell? ⟨w,2,Z⟩=U (V aq G):=M c 2;have q3:n.cell? ⟨w,3,Z⟩=U (V aq A):=M c 3;have q4:n.cell? ⟨w,4,Z⟩=U (V aq D):=M c 4;have q5:n.cell? ⟨w,5,Z⟩=U (V aq y):=M c 5;have q6:n.cell? ⟨w,6,Z⟩=U (V aq F):=M c 6;have q7:n.cell? ⟨w,7,Z⟩=U (V aq B):=M c 7;have fz:∀i,n.frozen? ⟨w,i,Z⟩=ai:=by grind[Joins.unfrozen_of_block]
 have HA:=gF.mk (show vC w 76 n #[V aq x,V aq z,V aq G,V aq A,V aq D,V aq y,V aq F,V aq B] n from⟨c,aK.refl _ _⟩) qX S;go_wp2;generalize NK:jk _ _ _=WF;obtain⟨I,f⟩:=NK▸(((((((HA.a.set 0 _).set 1 _).set 2 _).set 3 _).set 4 _).set 5 _).set 6 _).set 7 _;simp only[dA,dz,dr]at I;refine vS (results_cell_row rfl _ _ w 76 _ (0,0) _ rfl I Vw rfl<|by kernel_rfl) rfl ?_;obtain⟨-,E,P⟩:=HA;have:=E.size;exact⟨rfl,⟨N,_,P.keep (f.block _ (by omega)<|by omega) (f.block _ (by omega)<|by omega) f.size⟩,⟨f.os.trans E.os,f.tape.trans E.tape,f.output.trans E.output,bC E.size f.size,λb C Q0=>(f.block b (by omega)<|by omega).trans<|E.block b C Q0⟩⟩
def gS(k:UInt8×Int):az:=bJ<|#[jb k.1]++(iR k.2).cells
structure E9(r a3 a4:Nat)(w:ay):Prop where
 p3:w.cell? ⟨a3,0,Z⟩=U (aG<|U ⟨r,0,Z⟩)p4:w.cell? ⟨a4,0,Z⟩=U (dM (ez 146) #[] #[aG<|U ⟨a3,0,Z⟩])n3:a3≠r
 n4:a4≠r
theorem Cp{w:ay}{b i}{v}(h:w.cell? ⟨b,i,Z⟩=U v):b<w:=by
 rcases Nat.lt_or_ge b w with a|a;.exact a
 .simp[pg,yH a]at h
theorem E9.keep{r a3 a4}{w w'}(h:E9 r a3 a4 w)(c:aK (λb=>b=r) w w'):E9 r a3 a4 w':=⟨(ei (a:=a3)<|c.block _ (Cp h.p3) h.n3).trans h.p3,(ei (a:=a4)<|c.block _ (Cp h.p4) h.n4).trans h.p4,h.n3,h.n4⟩
theorem aw4(r g p cap QY a4)(k)(t)(w)(F:fS r g p cap (ju k++t) ai w)(L:E9 r QY a4 w):bz Q 148 #[aG QY,aG a4] w λe w'=>e=bj (gS k)/\vA r g t w w':=by
 obtain⟨c,I⟩:=k;obtain⟨P,R,d2,T,QW,QX,d6,W,C⟩:∃P R d2 T QW QX d6 W:Int,iR I=bJ #[V aq P,V aq R,V aq d2,V aq T,V aq QW,V aq QX,V aq d6,V aq W]:=⟨_,_,_,_,_,_,_,_,rfl⟩;have hK:gS (c,I)=bJ #[V aq c.toNat,V aq P,V aq R,V aq d2,V aq T,V aq QW,V aq QX,V aq d6,V aq W]:=by unfold gS;rw[C];rfl
 rw[hK];have o7:=F.Bc;have sg:=F.lt;have lJ:=Cp L.p3;have Gj:=Cp L.p4;obtain⟨y,D⟩:=ex<|w.alloc<|aH #[V aq 0,V aq 0,V aq 0,V aq 0,V aq 0,V aq 0,V aq 0,V aq 0,V aq 0] 233;have f:aK (λb=>b=r) w y:=by grind[aK.alloc]
 have n:fS r g p cap (c::(gV I++t)) ai y:=by rw[D];exact F.below ((eo _ _).alloc (aS _) _)<|aS _
 have x:y.heap[w.heap.size]?=U (aH #[V aq 0,V aq 0,V aq 0,V aq 0,V aq 0,V aq 0,V aq 0,V aq 0,V aq 0] 233 (0,0)):=by grind[World.alloc_heap_new]
 have m:w.heap.size<y:=by grind
 have v:=L.keep f;have p3:=L.p3;have C1:=X (Qj r g p cap 1 _ y n<|by simp);have HW:=X D;have HK:=zB.mk f n x m v C;go_enter aoT,ntmps148;go_wp2_with(rw[<-HW.out];go_at_call 147;go_must(refine C1.out.mono ?_);rintro e u⟨rfl,uV⟩;have H2:=X uV;refine Halt.of ?_);unfold Halt;obtain⟨f,n,x,m,v,C⟩:=HK;obtain⟨⟨o2,j⟩,d⟩:=H2.out;have uR:=d.size;have j:fS r g o2 (cap-1) (gV I++t) ai u:=j;have o:=v.keep d;have H:=(d.block _ m<|by omega).trans x;have p3:=o.p3;have p4:=o.p4;have q1:u.cell? ⟨r,1,Z⟩=U (bQ ai):=M j.box 1;have q2:u.cell? ⟨g,p,Z⟩=U (V aq c.toNat):=by have:=n.cells 0 (by simp);exact(ei (a:=⟨g,p,Z⟩)<|d.block _ n.lt n.ne).trans this
 have Q3:∀i:_root_.Fin 9,u.cell? ⟨w,i.val,Z⟩=U (V aq 0):=λi=>(M H i.val).trans (by obtain⟨i,hi⟩:=i;rcases i with _|_|_|_|_|_|_|_|_|i<;>first|rfl|grind);have fz:∀i,u.frozen? ⟨w,i,Z⟩=ai:=by grind[Joins.unfrozen_of_block]
 have z:=E4.mk j d o H m f C Q3;have y0:u.cell? w=U (V aq 0):=Q3 0;go_wp2_with(go_at_call 146;refine Halt.of ?_);unfold Halt;obtain⟨j,d,o,H,m,f,C,Q3⟩:=id z;have O:=d.size;obtain⟨N,E⟩:=ex<|u.setCell ⟨w.heap.size,0,Z⟩<|V aq c.toNat;have K:vC w 233 u #[V aq c.toNat,V aq 0,V aq 0,V aq 0,V aq 0,V aq 0,V aq 0,V aq 0,V aq 0] N:=by rw[E];exact vC.set ⟨H,aK.refl _ _⟩ 0 _
 rw[<-E];have S:=j.keep (K.keep.block r (by omega)<|by omega) (K.keep.block g (by omega)<|by omega) K.keep.size;have Q2:=(ei (a:=⟨QY,0,Z⟩)<|K.keep.block _ (by grind)<|by grind).trans o.p3;have q:=gF.mk K S Q2;refine(akf r g o2 (cap-1) QY I t N q.b q.c z.c.n3).mono ?_;rintro e l⟨rfl,⟨o4,c4,Q0⟩,G⟩;rw[z.g];have s:l.heap[w.heap.size]?=U (aH #[V aq c.toNat,V aq 0,V aq 0,V aq 0,V aq 0,V aq 0,V aq 0,V aq 0,V aq 0] 233 (0,0)):=(G.block _ (by have:=z.e;have:=z.b.size;have:=q.a.keep.size;omega)<|by omega).trans q.a.block;have u0:l.cell? w=U (V aq c.toNat):=M s 0;have u1:l.cell? ⟨w,1,Z⟩=U (V aq 0):=M s 1;have u2:l.cell? ⟨w,2,Z⟩=U (V aq 0):=M s 2;have u3:l.cell? ⟨w,3,Z⟩=U (V aq 0):=M s 3;have u4:l.cell? ⟨w,4,Z⟩=U (V aq 0):=M s 4;have u5:l.cell? ⟨w,5,Z⟩=U (V aq 0):=M s 5;have u6:l.cell? ⟨w,6,Z⟩=U (V aq 0):=M s 6;have u7:l.cell? ⟨w,7,Z⟩=U (V aq 0):=M s 7;have u8:l.cell? ⟨w,8,Z⟩=U (V aq 0):=M s 8;have fz:∀i,l.frozen? ⟨w,i,Z⟩=ai:=by grind[Joins.unfrozen_of_block]
 have HA:=gF.mk (show vC w.heap.size 233 l #[V aq c.toNat,V aq 0,V aq 0,V aq 0,V aq 0,V aq 0,V aq 0,V aq 0,V aq 0] l from⟨s,aK.refl _ _⟩) G Q0;go_wp2;generalize NK:jk _ _ _=WF;obtain⟨B,h⟩:=NK▸((((((((((((((((HA.a.set 1 _).set 2 _).set 3 _).set 4 _).set 5 _).set 6 _).set 7 _).set 8 _).set 0 _).set 1 _).set 2 _).set 3 _).set 4 _).set 5 _).set 6 _).set 7 _).set 8 _;simp only[dA,dz,dr]at B;refine vS (results_cell_row rfl _ _ w.heap.size 233 _ (0,0) _ rfl B anr rfl<|by kernel_rfl) rfl ?_;obtain⟨-,J,F⟩:=HA;obtain⟨j,d,o,H,m,f,-,-⟩:=z;have A:=q.a.keep;have O:=d.size;have jV:=A.size;have wc:=J.size;refine⟨rfl,⟨o4,c4,F.keep (h.block _ (by omega)<|by omega) (h.block _ (by omega)<|by omega) h.size⟩,?_⟩;exact⟨h.os.trans<|J.os.trans<|A.os.trans<|d.os.trans f.os,h.tape.trans<|J.tape.trans<|A.tape.trans<|d.tape.trans f.tape,h.output.trans<|J.output.trans<|A.output.trans<|d.output.trans f.output,by grind,λb hb Q1=>(h.block b (by omega)<|by omega).trans<|(J.block b (by omega) Q1).trans<|(A.block b (by omega)<|by omega).trans<|(d.block b (by omega) Q1).trans<|f.block b hb Q1⟩
def fM{α:Type}(f:α->az)(F:List α):List az:=F.flatMap λx=>(f x).cells.toList
theorem QO{a}(f)(F:List a){j}(b):fM f (F.take<|j+1)=fM f (F.take j)++(f F[j]).cells.toList:=by grind[fM,List.take_add_one,List.getElem?_eq_getElem,Option.toList_some]
structure K8{α:Type}(f:α->az)(enc:α->List UInt8)(T sz r g a3 a4:Nat)(F:List α)(t:List UInt8)(w:ay)(j:Nat)(v:az)(W:ay):Prop where
 row:W.ownsRow w.heap.size T sz v j (fM f<|F.take j)js:∃off cap,fS r g off cap ((F.drop j).flatMap enc++t) ai W
 keep:aK (λb=>b=r) w W
theorem ahu:(Q.info? 233).map (λi=>(i.zero,i.size,i.bytes))=U (U<|bJ #[V aq 0,V aq 0,V aq 0,V aq 0,V aq 0,V aq 0,V aq 0,V aq 0,V aq 0],9,9):=by kernel_rfl
theorem axu:(Q.info? 76).map (λi=>(i.zero,i.size,i.bytes))=U (U<|bJ #[V aq 0,V aq 0,V aq 0,V aq 0,V aq 0,V aq 0,V aq 0,V aq 0],8,8):=by kernel_rfl
theorem apv(r g q cap N P)(F)(t)(w)(h:fS r g q cap (da di F++t) ai w)(hF:∀s∈F,s.size<=1073741824)(hc:E9 r N P w)(hz:F.length<=600000):bz Q 151 #[aG r,dM (ez 152) #[aG r] #[]] w λe W=>∃v,e=bj v∧W.ownsRow w 9 1 v F.length (fM aD F)∧vA r g t w W:=by
 rw[da,jG]at h;have T:=h.Bc;have E:=h.lt;have S:=X (FJ r g q cap F.length _ w h<|by omega);have HF:=cH.mk hF hc;go_enter aoP,ntmps151;go_wp2_with(go_at_call 194;go_must(refine S.out.mono ?_);rintro e w1⟨rfl,h1⟩;have K:=X h1;refine Halt.of ?_);unfold Halt;go_wp2;go_loopg[5,6]F.lengthλk s5 s6 wr=>∃(v:az)(j:Nat),v=s5∧s6=V cO (k:Nat)∧k+j=F.length∧K8 aD di 9 1 r g N P F t w j v wr;case atStart=>exact⟨_,0,rfl,rfl,rfl,⟨rQ _ _ _ _,by simpa using K.out.1,K.out.2⟩⟩
 case round=>
  obtain⟨v,j,rfl,rfl,hk,A⟩:=hrel;obtain⟨o1,c1,n⟩:=A.js;have b1:wr.cell? ⟨r,1,Z⟩=U (bQ ai):=M n.box 1;by_cases hj:j<F.length
  ·obtain⟨p,rfl⟩:∃p,gk=p+1:=⟨gk-1,by omega⟩;have G:(F.drop j).flatMap di++t=di F[j]++((F.drop<|j+1).flatMap di++t):=by grind[List.drop_eq_getElem_cons,List.append_assoc]
   have y:=QO aD F hj;rw[G]at n;have u:=Lx r g o1 c1 F[j] _ wr n<|HF.a F[j]<|lV hj;obtain⟨s,hx⟩:∃s,F[j]=s:=⟨_,rfl⟩;rw[hx]at u y;have S:=X u;have i:=cH.mk A y;have JF:=A.keep.size;have H:cO.wrap (((p+1:Nat):Int)-1)=(p:Int):=by grind[IntKind.wrap_u64]
   have x:(0:Int)<((p+1:Nat):Int):=by omega
   obtain⟨Y,J⟩:∃Y:Int,Y=((p+1:Nat):Int):=⟨_,rfl⟩;rw[<-J]at H x⊢;go_wp2_with(go_at_call 152;go_must(refine S.out.mono ?_);rintro e O⟨rfl,h5⟩;have z:=X h5;refine Halt.of ?_);unfold Halt;have o:O.ownsRow w 9 1 v j<|fM aD<|F.take j:=dx i.a.row λb l=>z.out.2.block b (i.a.row.lt b l).2 (by have:=(i.a.row.lt b l).1;omega);have lZ:=z.out.2.size;have m:=X o;go_wp2_with(at_builtin;go_must(refine app1 rfl rfl Ia F4 rfl rfl (dx m.out λb l=>dm _ _ _ (m.out.lt b l).2) rfl (by grind) rfl rfl (by omega) (by simp;omega) ?_);intro D Q0 B c _ kg;refine Halt.of ?_);have d:∀b,b<w.heap.size->Q0.heap[b]?=O.heap[b]?:=λb l=>(c.block b (by simp;omega) λe=>by have:=(m.out.lt b e.symm).1;omega).trans (dm _ _ _<|by omega);have R:=c.size;have L:K8 aD di 9 1 r g N P F t w (j+1) D Q0:=by
    refine⟨by rw[i.b];exact B,?_,?_⟩;·obtain⟨o5,c5,C⟩:=z.out.1;exact⟨o5,c5,C.keep (d r T) (d g E)<|by simp at R;omega⟩
    ·have f:=i.a.keep.trans z.out.2;exact⟨c.os.trans f.os,c.tape.trans f.tape,c.output.trans f.output,by grind,λb l hn=>(d b l).trans<|f.block b l hn⟩
   unfold Halt;go_wp2;go_roundg p;case rel=>exact⟨D,j+1,rfl,by go_simp,by omega,(X L).out⟩
   grind
  ·have I:gk=0:=by omega
   subst I;have a:j=F.length:=by omega
   subst a;have i:=X A;go_wp2;go_ret;refine⟨_,rfl,?_,?_,i.out.keep⟩;·have:=i.out.row;rw[uF]at this;exact this
   ·have:=i.out.js;grind
theorem aw1(r g q cap y z)(F)(t)(w)(h:fS r g q cap (da ju F++t) ai w)(hF:True)(hc:E9 r y z w)(hz:F.length<=600000):bz Q 155 #[aG r,dM (ez 148) #[] #[aG y,aG z]] w λe w'=>∃v,e=bj v∧w'.ownsRow w 233 9 v F.length (fM gS F)∧vA r g t w w':=by
 rw[da,jG]at h;have R:=h.Bc;have H:=h.lt;have Y:=X (FJ r g q cap F.length _ w h<|by omega);have HF:=cH.mk hF hc;go_enter aoL,ntmps155;go_wp2_with(go_at_call 194;go_must(refine Y.out.mono ?_);rintro e w1⟨rfl,h1⟩;have H1:=X h1;refine Halt.of ?_);unfold Halt;go_wp2;go_loopg[5,6]F.lengthλk s5 s6 wr=>∃(v:az)(j:Nat),v=s5∧s6=V cO (k:Nat)∧k+j=F.length∧K8 gS ju 233 9 r g y z F t w j v wr;case atStart=>exact⟨_,0,rfl,rfl,rfl,⟨rQ _ _ _ _,by simpa using H1.out.1,H1.out.2⟩⟩
 case round=>
  obtain⟨v,j,rfl,rfl,hk,A⟩:=hrel;obtain⟨o1,c1,n⟩:=A.js;have b1:wr.cell? ⟨r,1,Z⟩=U (bQ ai):=M n.box 1;by_cases hj:j<F.length
  ·obtain⟨p,rfl⟩:∃p,gk=p+1:=⟨gk-1,by omega⟩;have L:(F.drop j).flatMap ju++t=ju F[j]++((F.drop<|j+1).flatMap ju++t):=by grind[List.drop_eq_getElem_cons,List.append_assoc]
   have x:=QO gS F hj;rw[L]at n;have s:=aw4 r g o1 c1 y z F[j] _ wr n<|HF.b.keep A.keep;obtain⟨I,K,d2,Q1,C,J,d6,Q0,E,hx⟩:∃I K d2 Q1 C J d6 Q0 E:Int,gS F[j]=bJ #[V aq I,V aq K,V aq d2,V aq Q1,V aq C,V aq J,V aq d6,V aq Q0,V aq E]:=⟨_,_,_,_,_,_,_,_,_,rfl⟩;rw[hx]at s x;have Y:=X s;have i:=cH.mk A x;have JF:=A.keep.size;have N:cO.wrap (((p+1:Nat):Int)-1)=(p:Int):=by grind[IntKind.wrap_u64]
   have u:(0:Int)<((p+1:Nat):Int):=by omega
   obtain⟨kz,P⟩:∃kz:Int,kz=((p+1:Nat):Int):=⟨_,rfl⟩;rw[<-P]at N u⊢;go_wp2_with(go_at_call 148;go_must(refine Y.out.mono ?_);rintro e T⟨rfl,h5⟩;have B:=X h5;refine Halt.of ?_);unfold Halt;have o:T.ownsRow w 233 9 v j<|fM gS<|F.take j:=dx i.a.row λb l=>B.out.2.block b (i.a.row.lt b l).2 (by have:=(i.a.row.lt b l).1;omega);have lZ:=B.out.2.size;have m:=X o;go_wp2_with(at_builtin;go_must(refine app1 rfl rfl aco ahu rfl rfl (dx m.out λb l=>dm _ _ _ (m.out.lt b l).2) rfl (by grind) rfl rfl (by omega) (by simp;omega) ?_);intro v7 w7 M6 c _ kg;refine Halt.of ?_);have d:∀b,b<w.heap.size->w7.heap[b]?=T.heap[b]?:=λb l=>(c.block b (by simp;omega) λe=>by have:=(m.out.lt b e.symm).1;omega).trans (dm _ _ _<|by omega);have a:=c.size;have S:K8 gS ju 233 9 r g y z F t w (j+1) v7 w7:=by
    refine⟨by rw[i.b];exact M6,?_,?_⟩;·obtain⟨o5,c5,D⟩:=B.out.1;exact⟨o5,c5,D.keep (d r R) (d g H)<|by simp at a;omega⟩
    ·have f:=i.a.keep.trans B.out.2;exact⟨c.os.trans f.os,c.tape.trans f.tape,c.output.trans f.output,by grind,λb l hn=>(d b l).trans<|f.block b l hn⟩
   unfold Halt;go_wp2;go_roundg p;case rel=>exact⟨v7,j+1,rfl,by go_simp,by omega,(X S).out⟩
   grind
  ·have O:gk=0:=by omega
   subst O;have W:j=F.length:=by omega
   subst W;have i:=X A;go_wp2;go_ret;refine⟨_,rfl,?_,?_,i.out.keep⟩;·have:=i.out.row;rw[uF]at this;exact this
   ·have:=i.out.js;grind
theorem aCf(r g q cap y B)(F)(t)(w)(h:fS r g q cap (da gV F++t) ai w)(hF:True)(hc:E9 r y B w)(hz:F.length<=600000):bz Q 156 #[aG r,dM (ez 146) #[] #[aG y]] w λe w'=>∃v,e=bj v∧w'.ownsRow w 76 8 v F.length (fM iR F)∧vA r g t w w':=by
 rw[da,jG]at h;have Y:=h.Bc;have E:=h.lt;have R:=X (FJ r g q cap F.length _ w h<|by omega);have HF:=cH.mk hF hc;go_enter aoK,ntmps156;go_wp2_with(go_at_call 194;go_must(refine R.out.mono ?_);rintro e w1⟨rfl,h1⟩;have H1:=X h1;refine Halt.of ?_);unfold Halt;go_wp2;go_loopg[5,6]F.lengthλk s5 s6 wr=>∃(v:az)(j:Nat),v=s5∧s6=V cO (k:Nat)∧k+j=F.length∧K8 iR gV 76 8 r g y B F t w j v wr;case atStart=>exact⟨_,0,rfl,rfl,rfl,⟨rQ _ _ _ _,by simpa using H1.out.1,H1.out.2⟩⟩
 case round=>
  obtain⟨v,j,rfl,rfl,hk,z⟩:=hrel;obtain⟨o1,c1,n⟩:=z.js;have b1:wr.cell? ⟨r,1,Z⟩=U (bQ ai):=M n.box 1;by_cases hj:j<F.length
  ·obtain⟨p,rfl⟩:∃p,gk=p+1:=⟨gk-1,by omega⟩;have J:(F.drop j).flatMap gV++t=gV F[j]++((F.drop<|j+1).flatMap gV++t):=by grind[List.drop_eq_getElem_cons,List.append_assoc]
   have x:=QO iR F hj;rw[J]at n;have s:=akf r g o1 c1 y F[j] _ wr n (HF.b.keep z.keep).p3 HF.b.n3;obtain⟨G,I,d2,K,S,H,d6,O,hx⟩:∃G I d2 K S H d6 O:Int,iR F[j]=bJ #[V aq G,V aq I,V aq d2,V aq K,V aq S,V aq H,V aq d6,V aq O]:=⟨_,_,_,_,_,_,_,_,rfl⟩;rw[hx]at s x;have R:=X s;have i:=cH.mk z x;have JF:=z.keep.size;have L:cO.wrap (((p+1:Nat):Int)-1)=(p:Int):=by grind[IntKind.wrap_u64]
   have u:(0:Int)<((p+1:Nat):Int):=by omega
   obtain⟨kz,N⟩:∃kz:Int,kz=((p+1:Nat):Int):=⟨_,rfl⟩;rw[<-N]at L u⊢;go_wp2_with(go_at_call 146;go_must(refine R.out.mono ?_);rintro e T⟨rfl,h5⟩;have A:=X h5;refine Halt.of ?_);unfold Halt;have o:T.ownsRow w 76 8 v j<|fM iR<|F.take j:=dx i.a.row λb l=>A.out.2.block b (i.a.row.lt b l).2 (by have:=(i.a.row.lt b l).1;omega);have lZ:=A.out.2.size;have m:=X o;go_wp2_with(at_builtin;go_must(refine app1 rfl rfl ans axu rfl rfl (dx m.out λb l=>dm _ _ _ (m.out.lt b l).2) rfl (by grind) rfl rfl (by omega) (by simp;omega) ?_);intro v7 w7 D c _ kg;refine Halt.of ?_);have d:∀b,b<w.heap.size->w7.heap[b]?=T.heap[b]?:=λb l=>(c.block b (by simp;omega) λe=>by have:=(m.out.lt b e.symm).1;omega).trans (dm _ _ _<|by omega);have W:=c.size;have a:K8 iR gV 76 8 r g y B F t w (j+1) v7 w7:=by
    refine⟨by rw[i.b];exact D,?_,?_⟩;·obtain⟨o5,c5,C⟩:=A.out.1;exact⟨o5,c5,C.keep (d r Y) (d g E)<|by simp at W;omega⟩
    ·have f:=i.a.keep.trans A.out.2;exact⟨c.os.trans f.os,c.tape.trans f.tape,c.output.trans f.output,by grind,λb l hn=>(d b l).trans<|f.block b l hn⟩
   unfold Halt;go_wp2;go_roundg p;case rel=>exact⟨v7,j+1,rfl,by go_simp,by omega,(X a).out⟩
   grind
  ·have Q0:gk=0:=by omega
   subst Q0;have P:j=F.length:=by omega
   subst P;have i:=X z;go_wp2;go_ret;refine⟨_,rfl,?_,?_,i.out.keep⟩;·have:=i.out.row;rw[uF]at this;exact this
   ·have:=i.out.js;grind
structure Hu(r a3 a4 a5:Nat)(w:ay):Prop extends E9 r a3 a4 w where p5:w.cell? ⟨a5,0,Z⟩=U (dM (ez 148) #[] #[aG<|U ⟨a3,0,Z⟩,aG<|U ⟨a4,0,Z⟩])n5:a5≠r
theorem Hu.keep{r c e a5}{w w'}(h:Hu r c e a5 w)(d:aK (λb=>b=r) w w'):Hu r c e a5 w':=⟨h.toE9.keep d,(ei (a:=a5)<|d.block _ (Cp h.p5) h.n5).trans h.p5,h.n5⟩
theorem jr{W:ay}{B B' e sz n:Nat}{v}{xs}(h:W.ownsRow B e sz v n xs)(i:B'<=B):W.ownsRow B' e sz v n xs:=by
 refine⟨h.1,?_⟩;rcases h.2 with h|⟨g,a,b,f,d,c⟩;.grind
 .exact aA ⟨g,a,b,f,bC i d,c⟩
theorem gD{W:ay}{B e sz n:Nat}{v}{xs}(h:W.ownsRow B e sz v n xs):∃b a,v=aE b n a:=by rcases h.2 with⟨h,d⟩|⟨g,a,c,h,-⟩;all_goals grind
structure mR(r g a3 a4 a5 N:Nat)(l:List UInt8)(w W:ay):Prop where
 js:∃off cap,fS r g off cap l ai W
 box:W.heap[N]?=U (aH #[aD ⟨#[]⟩,aE Z 0 0] 184 (0,0))cap:Hu r a3 a4 a5 W
 keep:aK (λb=>b=r) w W
 lt:N<W.heap.size
variable {r g a3 a4 a5 N:Nat} {l l':List UInt8} {w W W':ay}
theorem alZ:mR r g a3 a4 a5 N l w W.drew↔mR r g a3 a4 a5 N l w W:=by constructor<;>rintro⟨⟨o,c,h⟩,e,a,b,d⟩<;>exact⟨⟨o,c,h.box,h.fits,h.lt,h.ne,h.cells⟩,e,⟨⟨a.p3,a.p4,a.n3,a.n4⟩,a.p5,a.n5⟩,⟨b.os,b.tape,b.output,b.size,b.block⟩,d⟩
theorem mR.c0(h:mR r g a3 a4 a5 N l w W):W.cell? N=U (aD ⟨#[]⟩):=M h.box 0
theorem mR.c1(h:mR r g a3 a4 a5 N l w W):W.cell? ⟨N,1,Z⟩=U (aE Z 0 0):=M h.box 1
theorem mR.fz(h:mR r g a3 a4 a5 N l w W):∀i,W.frozen? ⟨N,i,Z⟩=ai:=λi=>qO h.box i
theorem mR.next(h:mR r g a3 a4 a5 N l w W)(a:vA r g l' W W')(b:N≠r):mR r g a3 a4 a5 N l' w W':=⟨a.1,(a.2.block _ h.lt b).trans h.box,h.cap.keep a.2,h.keep.trans a.2,cE h.lt a.2.size⟩
theorem mR.held(h:mR r g a3 a4 a5 N l w W):W.cell? a3=U (aG r)/\W.cell? a5=U (dM (ez 148) #[] #[aG a3,aG a4]):=⟨h.cap.p3,h.cap.p5⟩
theorem auX(r g C cap a3 a4 a5)(n)(t)(w)(A:fS r g C cap (iN n++t) ai w)(D:Hu r a3 a4 a5 w)(L:n.pfx.size<=1073741824)(B:n.kids.length<=100000):bz Q 154 #[aG a3,aG a5] w λe j=>∃QW,e=bj (bJ #[n.pfx,QW])∧j.ownsRow w 233 9 QW n.kids.length (fM gS n.kids)∧vA r g t w j:=by
 obtain⟨p,i⟩:=n;simp only at L B⊢;simp only[iN,jG]at A;have o7:=A.Bc;have T:=A.lt;obtain⟨I,fg⟩:=ex<|w.alloc<|aH #[aD ⟨#[]⟩,aE Z 0 0] 184;have hI1:mR r g a3 a4 a5 w (di p++(da ju i++t)) w I:=by rw[fg];exact⟨⟨_,_,A.below ((eo _ _).alloc (aS _) _)<|aS _⟩,iF _ _,D.keep<|aK.alloc _ _ _,aK.alloc _ _ _,by simp⟩
 have k3:∀W:ay,∀l,mR r g a3 a4 a5 w l w W->W.cell? a3=U (aG<|U r):=λW l h=>h.cap.p3;have S:dD<|∀W,mR r g a3 a4 a5 w (di p++(da ju i++t)) w W->bz Q 152 #[aG r] W λe j=>e=bj p∧mR r g a3 a4 a5 w (da ju i++t) w j:=X λW h=>by obtain⟨o,c,G⟩:=h.js;exact(Lx r g o c p _ W G L).mono λe j⟨F,z⟩=>⟨F,h.next z<|by omega⟩
 have a:dD<|∀W,mR r g a3 a4 a5 w (da ju i++t) w W->bz Q 155 #[aG r,dM (ez 148) #[] #[aG a3,aG a4]] W λe j=>∃s cap,e=bj (aE s i.length cap)∧j.ownsRow (w+1) 233 9 (aE s i.length cap) i.length (fM gS i)∧mR r g a3 a4 a5 w t w j:=X λW h=>by obtain⟨o,c,G⟩:=h.js;exact(aw1 r g o c a3 a4 i t W G trivial h.cap.toE9<|bC B<|by decide).mono λe j⟨v,F,z,Q2⟩=>by obtain⟨s,cap,rfl⟩:=gD z;exact⟨s,cap,F,jr z h.lt,h.next Q2<|by omega⟩
 have Q3:=Cp D.p3;have hl5:=Cp D.p5;have HS:dD<|∀(W:ay)(x y:az),W.cell? a3=U (aG r)∧W.cell? a5=U (dM (ez 148) #[] #[aG a3,aG a4])->((W.setCell w x).setCell ⟨w,1,Z⟩ y).cell? a3=U (aG r)∧((W.setCell w x).setCell ⟨w,1,Z⟩ y).cell? a5=U (dM (ez 148) #[] #[aG a3,aG a4]):=X λW x y h=>by
  have K:a3≠w:=by omega
  have M:a5≠w:=by omega
  rw[RZ _ ⟨w,1,Z⟩ a3 _<|MF K,RZ _ w.heap.size a3 _<|MF K,RZ _ ⟨w,1,Z⟩ a5 _<|MF M,RZ _ w.heap.size a5 _<|MF M];exact h
 go_enter aoM,ntmps154;go_wp2;rw[<-(X fg).out];go_region_held3λW=>W.cell? a3=U (aG<|U r)∧W.cell? a5=U (dM (ez 148) #[] #[aG<|U a3,aG<|U a4])(with_reducible(first|exact mR.held<|by assumption|exact mR.held<|alZ.2<|by assumption|exact HS.out _ _ _<|mR.held<|by assumption))((first|(go_at_call 152;with_reducible refine jg (S.out _ ?fg) ?_;(case fg=>grind[alZ]);rintro e w2⟨rfl,ku⟩)|(go_at_call 155;with_reducible refine jg (a.out _ ?fg) ?_;(case fg=>grind);rintro e P⟨s,kc,rfl,f,k⟩;have b0:=k.c0;have b1:=k.c1;have fz:=k.fz)));have J:=X<|aM k f;go_wp2;generalize H:jk _ _ _=WF;obtain⟨m,d⟩:=H▸((show vC w 184 P _ P from⟨J.out.1.box,aK.refl _ _⟩).set 0 _).set 1 _;simp only[dA,dz,dr]at m;refine vS (results_cell_row rfl _ _ w 184 _ (0,0) _ rfl m acn rfl<|by kernel_rfl) rfl ?_;obtain⟨⟨⟨Q0,Q1,E⟩,q,o8,u,R⟩,f⟩:=J.out;have O:=d.size;refine⟨_,rfl,jr (dx f λb q=>d.block b (f.lt b q).2<|by have:=(f.lt b q).1;omega)<|by omega,⟨Q0,Q1,E.keep (d.block _ (by omega)<|by omega) (d.block _ (by grind)<|by omega) O⟩,?_⟩;exact⟨d.os.trans u.os,d.tape.trans u.tape,d.output.trans u.output,bC u.size O,λb q B=>(d.block b (by omega)<|by omega).trans<|u.block b q B⟩
def zz(W:ay)(B:Nat):List Nd->List az->Prop|[],xs=>xs=[]|n::F,xs=>∃kv ys,xs=aD n.pfx::kv::ys/\W.ownsRow B 233 9 kv n.kids.length (fM gS n.kids)/\zz W B F ys
structure lD(W:ay)(B:Nat)(F:List Nd)(v:az)(xs:List az):Prop where
 row:W.ownsRow B 184 2 v F.length xs
 ins:zz W B F xs
 sep:∀x∈xs,∀b,x.ownBlock=U b->B<=b/\b<W.heap.size/\v.ownBlock≠U b
theorem zz.block{W W':ay}{B:Nat}:∀{F:List Nd}{xs:List az},zz W B F xs->(∀x∈xs,∀b,x.ownBlock=U b->W'.heap[b]?=W.heap[b]?)->zz W' B F xs|[],xs,h,_=>h|n::F,xs,⟨a,g,e,h,t⟩,c=>by subst e;exact⟨a,g,rfl,dx h λb d=>c a (by simp) b d,t.block λx f=>c x<|by simp[f]⟩
theorem zz.snoc{W:ay}{B:Nat}{n:Nd}{kv:az}(b:W.ownsRow B 233 9 kv n.kids.length<|fM gS n.kids):∀{F:List Nd}{xs:List az},zz W B F xs->zz W B (F++[n]) (xs++[aD n.pfx,kv])|[],xs,h=>by cases h;exact⟨kv,[],rfl,b,rfl⟩|m::F,xs,⟨a,c,e,h,t⟩=>by subst e;exact⟨a,c++[aD n.pfx,kv],rfl,h,t.snoc b⟩
theorem lD.nil(W)(B):lD W B [] (aE Z 0 0) []:=⟨rQ _ _ _ _,rfl,by simp⟩
theorem lD.block{W W'}{B}{F}{v}{xs}(h:lD W B F v xs)(d:∀b,B<=b->b<W->W'.heap[b]?=W.heap[b]?)(e:W.heap.size<=W'.heap.size):lD W' B F v xs:=⟨dx h.row λb a=>d b (h.row.lt b a).1 (h.row.lt b a).2,h.ins.block λx c b a=>d b (h.sep x c b a).1 (h.sep x c b a).2.1,λx c b a=>⟨(h.sep x c b a).1,cE (h.sep x c b a).2.1 e,(h.sep x c b a).2.2⟩⟩
theorem lD.snoc{W W'}{B}{F}{v v'}{xs}{n}{kv}(h:lD W B F v xs)(e:W.ownsRow B 233 9 kv n.kids.length<|fM gS n.kids)(hs:∀b,kv.ownBlock=U b->v.ownBlock≠b)(i:W'.ownsRow B 184 2 v' (F.length+1)<|xs++[n.pfx,kv])(f:∀b,b<W.heap.size->v.ownBlock≠b->W'.heap[b]?=W.heap[b]?)(j:v'.ownBlock=v.ownBlock\/∃b,v'.ownBlock=U b/\W.heap.size<=b)(g:W.heap.size<=W'.heap.size):lD W' B (F++[n]) v'<|xs++[n.pfx,kv]:=by
 have d:∀x∈xs++[aD n.pfx,kv],∀b,x.ownBlock=U b->B<=b/\b<W/\v.ownBlock≠b:=λx a b c=>by
  rcases qP.1 a with a|a;.exact h.sep x a b c
  .simp only[dj,dP,dY]at a;rcases a with rfl|rfl;.simp[GW]at c
   .exact⟨(e.lt b c).1,(e.lt b c).2,hs b c⟩
 refine⟨by grind,(h.ins.snoc e).block λx a b c=>f b (d x a b c).2.1 (d x a b c).2.2,λx a b c=>?_⟩;grind
structure al1(r g:Nat)(F:List Nd)(t:List UInt8)(w:ay)(j:Nat)(v:az)(W:ay):Prop where
 row:∃xs,lD W w.heap.size (F.take j) v xs
 js:∃off cap,fS r g off cap ((F.drop j).flatMap iN++t) ai W
 keep:aK (λb=>b=r) w W
theorem Y4:(Q.info? 184).map (λi=>(i.zero,i.size,i.bytes))=U (U<|bJ #[aD ⟨#[]⟩,aE Z 0 0],2,40):=by kernel_rfl
theorem auV(r g y cap Y a4 Q2)(F)(t)(w)(h:fS r g y cap (da iN F++t) ai w)(hF:∀n∈F,n.pfx.size<=1073741824∧n.kids.length<=100000)(hc:Hu r Y a4 Q2 w)(hz:F.length<=124000):bz Q 153 #[aG r,dM (ez 154) #[] #[aG Y,aG Q2]] w λe w'=>∃v z,e=bj v∧lD w' w F v z∧vA r g t w w':=by
 rw[da,jG]at h;have o7:=h.Bc;have N:=h.lt;have HC:=X (FJ r g y cap F.length _ w h<|by omega);have HF:=X<|aM hF hc;obtain⟨i0,hi,a,QW,K⟩:=Aa Y4;go_enter aoN,ntmps153;go_wp2_with(go_at_call 194;go_must(refine HC.out.mono ?_);rintro e w1⟨rfl,I⟩;have H1:=X I;refine Halt.of ?_);unfold Halt;go_wp2;go_loopg[5,6]F.lengthλk s5 s6 wr=>∃(v:az)(j:Nat),v=s5∧s6=V cO (k:Nat)∧k+j=F.length∧al1 r g F t w j v wr;case atStart=>exact⟨_,0,rfl,rfl,rfl,⟨⟨_,lD.nil _ _⟩,by simpa using H1.out.1,H1.out.2⟩⟩
 case round=>
  obtain⟨v,j,rfl,rfl,hk,E⟩:=hrel;obtain⟨o1,c1,q⟩:=E.js;have b1:wr.cell? ⟨r,1,Z⟩=U (bQ ai):=M q.box 1;by_cases hj:j<F.length
  ·obtain⟨u,rfl⟩:∃u,gk=u+1:=⟨gk-1,by omega⟩;have O:(F.drop j).flatMap iN++t=iN F[j]++((F.drop<|j+1).flatMap iN++t):=by grind[List.drop_eq_getElem_cons,List.append_assoc]
   rw[O]at q;have A:=auX r g o1 c1 Y a4 Q2 F[j] _ wr q (HF.out.2.keep E.keep) (HF.out.1 _<|lV hj).1 (HF.out.1 _<|lV hj).2;obtain⟨p,hx⟩:∃p,F[j].pfx=p:=⟨_,rfl⟩;rw[hx]at A;have HC:=X A;have x:=X<|aM E hx;have JF:=E.keep.size;have P:cO.wrap (((u+1:Nat):Int)-1)=(u:Int):=by grind[IntKind.wrap_u64]
   have B:(0:Int)<((u+1:Nat):Int):=by omega
   obtain⟨kz,T⟩:∃kz:Int,kz=((u+1:Nat):Int):=⟨_,rfl⟩;rw[<-T]at P B⊢;go_wp2_with(go_at_call 154;go_must(refine HC.out.mono ?_);rintro e w5⟨kv,rfl,i,h5⟩;obtain⟨ad,kc,rfl⟩:=gD i;obtain⟨kn,m⟩:∃kn,F[j].kids.length=kn:=⟨_,rfl⟩;rw[m];have C:=X h5;have H6:=X<|aM m i;refine Halt.of ?_);unfold Halt;obtain⟨z,f⟩:=x.out.1.row;have H:=f.block λb I R=>C.out.2.block b R<|by omega C.out.2.size;have lZ:=C.out.2.size;have J:(F.take j).length=j:=by grind
   have HNS:=X f;have d:=X<|aM H J;go_wp2_with(at_builtin;go_must(refine YD _ rfl _ _ 177 rfl w.heap.size 184 i0 (bJ #[aD ⟨#[]⟩,aE Z 0 0]) 2 40 Vy hi a QW K rfl (by decide) v j z rfl (dx (by have:=d.out.1.row;grind) λb s=>dm _ _ _ (d.out.1.row.lt b s).2) ⟨w5.heap.size,0,Z⟩ 1 1 [aD p,aE ad kn kc] rfl rfl (Bn (by grind) _ _ rfl) (by simp[zh]) (by unfold vg;omega) (by omega) (by simp;omega) ?_);intro v7 w7 G c _ Q3;refine Halt.of ?_);have l:∀b,b<w.heap.size->w7.heap[b]?=w5.heap[b]?:=λb s=>(c.block b (by simp;omega) λe=>by have:=(d.out.1.row.lt b e.symm).1;omega).trans (dm _ _ _<|by omega);have D:=c.size;have Q1:al1 r g F t w (j+1) v7 w7:=by
    have m:=H6.out.1;have i:=H6.out.2;rw[<-m]at G;have hsn:=d.out.1.snoc (W':=w7) (v':=v7) (n:=F[j]) (jr i<|by omega) λb I R=>by have:=(i.lt b I).1;have:=(HNS.out.row.lt b R).2;omega (by rw[d.out.2,x.out.2];exact G) (λb s hn=>(c.block b (by simp;omega) λe=>hn e.symm).trans<|dm _ _ _ s) (Q3.imp id λe=>⟨_,e,by simp⟩) (by simp at D;omega);have gT:F.take (j+1)=F.take j++[F[j]]:=by rw[xH,oS hj];rfl
    refine⟨by grind,?_,?_⟩;·obtain⟨o5,c5,L⟩:=C.out.1;exact⟨o5,c5,L.keep (l r o7) (l g N)<|by simp at D;omega⟩
    ·have o:=x.out.1.keep.trans C.out.2;exact⟨c.os.trans o.os,c.tape.trans o.tape,c.output.trans o.output,by grind,λb s hn=>(l b s).trans<|o.block b s hn⟩
   unfold Halt;go_wp2;go_roundg u;case rel=>exact⟨v7,j+1,rfl,by go_simp,by omega,(X Q1).out⟩
   grind
  ·have S:gk=0:=by omega
   subst S;have Q0:j=F.length:=by omega
   subst Q0;have x:=X E;go_wp2;go_ret;obtain⟨z,f⟩:=x.out.row;rw[uF]at f;refine⟨_,z,rfl,f,?_,x.out.keep⟩;have:=x.out.js;grind
structure jm(W:ay)(B p:Nat)(m:dZ)(vr vw vn vd:az)(xs:List az):Prop where
 box:W.heap[p]?=U (aH #[vr,vw,vn,vd] 180 (0,0))lt:B<=p
 bq:W.ownsRow B 46 5 vr m.bq.length (rows m.bq)cu:W.ownsRow B 9 1 vw m.cu.length (fM aD m.cu)nodes:lD W B m.nodes vn xs
 roots:W.ownsRow B 76 8 vd m.roots.length<|fM iR m.roots
structure abF(m:dZ):Prop where
 bq:∀x∈m.bq,Fit x
 cu:∀s∈m.cu,s.size<=1073741824
 nodes:∀n∈m.nodes,n.pfx.size<=1073741824/\n.kids.length<=100000
 nr:m.bq.length<=600000
 nw:m.cu.length<=600000
 nn:m.nodes.length<=124000
 nd:m.roots.length<=100000
structure mS(r g a3 a4 a5:Nat)(l:List UInt8)(w W:ay):Prop where
 js:∃off cap,fS r g off cap l ai W
 cap:Hu r a3 a4 a5 W
 keep:aK (λb=>b=r) w W
variable {r g a3 a4 a5:Nat} {l l':List UInt8} {w W W':ay}
theorem al0:mS r g a3 a4 a5 l w W.drew↔mS r g a3 a4 a5 l w W:=by constructor<;>rintro⟨⟨o,c,h⟩,a,b⟩<;>exact⟨⟨o,c,h.box,h.fits,h.lt,h.ne,h.cells⟩,⟨⟨a.p3,a.p4,a.n3,a.n4⟩,a.p5,a.n5⟩,⟨b.os,b.tape,b.output,b.size,b.block⟩⟩
theorem mS.next(h:mS r g a3 a4 a5 l w W)(a:vA r g l' W W'):mS r g a3 a4 a5 l' w W':=⟨a.1,h.cap.keep a.2,h.keep.trans a.2⟩
theorem mS.held(h:mS r g a3 a4 a5 l w W):W.cell? a3=U (aG r)/\W.cell? a4=U (dM (ez 146) #[] #[aG a3]):=⟨h.cap.p3,h.cap.p4⟩
theorem lD.base{W}{B B'}{F}{v}{xs}(h:lD W B F v xs)(c:B'<=B):lD W B' F v xs:=by refine⟨jr h.row c,?_,λx f b d=>⟨bC c (h.sep x f b d).1,(h.sep x f b d).2⟩⟩;have:=h.ins;clear h;induction F generalizing xs with|nil=>exact this|cons n F i=>obtain⟨k,m,e,j,o⟩:=this;exact⟨k,m,e,jr j c,i o⟩
set_option maxHeartbeats 2000000 in
theorem avJ(m)(g B cap)(w)(Tj:(gy m).length<=cap)(hg:g<w.heap.size)(eK:∀j(h),w.cell? ⟨g,B+j,Z⟩=U (jb (gy m)[j]))(Q3:abF m):bz Q 100 #[aE (U ⟨g,B,Z⟩) (gy m).length cap] w λe f=>∃p vr vw vn vd T,e=bj (aG<|U ⟨p,0,Z⟩)/\jm f w p m vr vw vn vd T/\aW w w f:=by
 obtain⟨R,z,N,D⟩:=m;obtain⟨n,hn⟩:∃n,(gy ⟨R,z,N,D⟩).length=n:=⟨_,rfl⟩;have hmm:gy ⟨R,z,N,D⟩=da gO R++(da di z++(da iN N++(da gV D++[]))):=by simp[gy]
 rw[hn];obtain⟨s,u⟩:=ex<|(((w.alloc<|aH #[aE (U ⟨g,B,Z⟩) n cap,bQ ai] 230).alloc<|aH #[aG<|U ⟨w.heap.size,0,Z⟩] 228).alloc<|aH #[dM (ez 146) #[] #[aG<|U ⟨w.heap.size+1,0,Z⟩]] 231).alloc<|aH #[dM (ez 148) #[] #[aG<|U ⟨w.heap.size+1,0,Z⟩,aG<|U ⟨w.heap.size+1+1,0,Z⟩]] 234;have I:aW w w s:=by rw[u];exact((((eo _ _).alloc (aS _) _).alloc (by simp) _).alloc (by simp;omega) _).alloc (by simp;omega) _
 have Q0:s.heap.size=w+4:=by rw[u];simp
 have S:mS w g (w+1) (w+1+1) (w+1+1+1) (da gO R++(da di z++(da iN N++(da gV D++[])))) s s:=by
  refine⟨⟨B,cap,?_,by grind,by omega,by omega,λj hj=>?_⟩,⟨⟨?_,?_,by omega,by omega⟩,?_,by omega⟩,aK.refl _ _⟩;.grind[Below.heap_alloc,World.alloc_heap_new]
  .rw[<-List.getElem_of_eq hmm<|by grind];exact(I.cell (p:=⟨g,B+j,Z⟩) hg).trans<|eK j<|by grind
  .rw[u,vR _ _ _<|by simp,vR _ _ _<|by simp];exact Jk _ _ _ _<|by simp
  .rw[u,vR _ _ _<|by simp];exact Jk _ _ _ _<|by simp
  .rw[u];exact Jk _ _ _ _<|by simp
 have k3:s.cell? ⟨w.heap.size+1,0,Z⟩=U (aG<|U ⟨w.heap.size,0,Z⟩):=S.cap.p3;have C1:dD<|∀W,mS w g (w+1) (w+1+1) (w+1+1+1) (da gO R++(da di z++(da iN N++(da gV D++[])))) s W->bz Q 149 #[aG w,dM (ez 150) #[aG w] #[]] W λe f=>(∃t cap,e=bj (aE t R.length cap)/\f.ownsRow s 46 5 (aE t R.length cap) R.length (rows R))/\mS w g (w+1) (w+1+1) (w+1+1+1) (da di z++(da iN N++(da gV D++[]))) s f/\aK (λb=>b=w) W f:=X λW h=>by obtain⟨o,c,J⟩:=h.js;have Q2:=h.keep.size;exact(avQ w.heap.size g o c R _ W J Q3.bq Q3.nr).mono λe f⟨v,y,H,E⟩=>by obtain⟨t,cap,rfl⟩:=gD H;exact⟨⟨t,cap,y,jr H Q2⟩,h.next E,E.2⟩
 have C2:dD<|∀W,mS w g (w+1) (w+1+1) (w+1+1+1) (da di z++(da iN N++(da gV D++[]))) s W->bz Q 151 #[aG w,dM (ez 152) #[aG w] #[]] W λe f=>(∃t cap,e=bj (aE t z.length cap)/\f.ownsRow s 9 1 (aE t z.length cap) z.length (fM aD z))/\mS w g (w+1) (w+1+1) (w+1+1+1) (da iN N++(da gV D++[])) s f/\aK (λb=>b=w) W f:=X λW h=>by obtain⟨o,c,J⟩:=h.js;have Q2:=h.keep.size;exact(apv w.heap.size g o c _ _ z _ W J Q3.cu h.cap.toE9 Q3.nw).mono λe f⟨v,y,H,E⟩=>by obtain⟨t,cap,rfl⟩:=gD H;exact⟨⟨t,cap,y,jr H Q2⟩,h.next E,E.2⟩
 have C3:dD<|∀W,mS w g (w+1) (w+1+1) (w+1+1+1) (da iN N++(da gV D++[])) s W->bz Q 153 #[aG w,dM (ez 154) #[] #[aG<|U ⟨w+1,0,Z⟩,aG<|U ⟨w+1+1+1,0,Z⟩]] W λe f=>(∃t cap T,e=bj (aE t N.length cap)/\lD f s N (aE t N.length cap) T)/\mS w g (w+1) (w+1+1) (w+1+1+1) (da gV D++[]) s f/\aK (λb=>b=w) W f:=X λW h=>by obtain⟨o,c,J⟩:=h.js;have Q2:=h.keep.size;exact(auV w.heap.size g o c _ _ _ N _ W J Q3.nodes h.cap Q3.nn).mono λe f⟨v,T,y,H,E⟩=>by obtain⟨t,cap,rfl⟩:=gD H.row;exact⟨⟨t,cap,T,y,H.base Q2⟩,h.next E,E.2⟩
 have C4:dD<|∀W,mS w g (w+1) (w+1+1) (w+1+1+1) (da gV D++[]) s W->bz Q 156 #[aG w,dM (ez 146) #[] #[aG<|U ⟨w+1,0,Z⟩]] W λe f=>(∃t cap,e=bj (aE t D.length cap)/\f.ownsRow s 76 8 (aE t D.length cap) D.length (fM iR D))/\mS w g (w+1) (w+1+1) (w+1+1+1) ([]:List UInt8) s f/\aK (λb=>b=w) W f:=X λW h=>by obtain⟨o,c,J⟩:=h.js;have Q2:=h.keep.size;exact(aCf w.heap.size g o c _ _ D _ W J trivial h.cap.toE9<|bC Q3.nd<|by decide).mono λe f⟨v,y,H,E⟩=>by obtain⟨t,cap,rfl⟩:=gD H;exact⟨⟨t,cap,y,jr H Q2⟩,h.next E,E.2⟩
 have HS:dD<|∀(W:ay)(o:Obj),W.cell? ⟨w+1,0,Z⟩=U (aG w)/\W.cell? ⟨w+1+1,0,Z⟩=U (dM (ez 146) #[] #[aG<|U ⟨w+1,0,Z⟩])->(W.alloc o).cell? ⟨w+1,0,Z⟩=U (aG w)/\(W.alloc o).cell? ⟨w+1+1,0,Z⟩=U (dM (ez 146) #[] #[aG<|U ⟨w+1,0,Z⟩]):=by grind[Lib.hid,World.cell?_alloc_lt,Cp]
 have HW:=gF.mk u I Q0;clear Tj hg eK Q3 hn hmm u I Q0;go_enter ao7,ntmps100;go_wp2;rw[<-HW.a];refine xG ?_;refine CX (λW=>W.cell? ⟨w.heap.size+1,0,Z⟩=U (aG<|U ⟨w.heap.size,0,Z⟩)/\W.cell? ⟨w.heap.size+1+1,0,Z⟩=U (dM (ez 146) #[] #[aG<|U ⟨w.heap.size+1,0,Z⟩])) [0,1,4,5,8,11,12,2,6,9,3,7,10,13,14,15,16] (by kernel_rfl) (mS.held<|al0.2 S) (λ_ _ _ _ _ h=>h) ?_;repeat(apply qH _ rfl (by kernel_rfl) rfl;.intro W d;obtain⟨A,G⟩:=d;go_simp;try with_reducible rfl)
 refine vE rfl (by kernel_rfl) λa K P=>?_;go_simp;go_at_call 149;refine jg (C1.out _<|al0.2 S) ?_;rintro e w5⟨⟨ar,cr,rfl,C⟩,hI5,hk5⟩;refine P.out _ _ (mS.held hI5) ?_;repeat(apply qH _ rfl (by kernel_rfl) rfl;.intro W d;obtain⟨A,G⟩:=d;go_simp;try with_reducible rfl)
 refine vE rfl (by kernel_rfl) λa K P=>?_;go_simp;go_at_call 151;refine jg (C2.out _ hI5) ?_;rintro e w6⟨⟨aw,cw,rfl,F⟩,NU,V⟩;refine P.out _ _ (mS.held NU) ?_;repeat(apply qH _ rfl (by kernel_rfl) rfl;.intro W d;obtain⟨A,G⟩:=d;go_simp;try with_reducible rfl)
 refine vE rfl (by kernel_rfl) λa K P=>?_;go_simp;go_at_call 153;refine jg (C3.out _ NU) ?_;rintro e w7⟨⟨an,cn,T,rfl,Y⟩,hI7,M⟩;refine P.out _ _ (mS.held hI7) ?_;repeat(apply qH _ rfl (by kernel_rfl) rfl;.intro W d;obtain⟨A,G⟩:=d;go_simp;try with_reducible rfl)
 refine vE rfl (by kernel_rfl) λa K P=>?_;go_simp;go_at_call 156;refine jg (C4.out _ hI7) ?_;rintro e w8⟨⟨t,cd,rfl,O⟩,i,x⟩;refine P.out _ _ (mS.held i) ?_;repeat(apply qH _ rfl (by kernel_rfl) rfl;.intro W d;obtain⟨A,G⟩:=d;go_simp;try with_reducible rfl)
 refine vE rfl (by kernel_rfl) λa K P=>?_;go_simp;refine P.out _ _ (HS.out _ _<|mS.held i) ?_;repeat(apply qH _ rfl (by kernel_rfl) rfl;.intro W d;obtain⟨A,G⟩:=d;go_simp;try with_reducible rfl)
 refine CY (by kernel_rfl) λa=>?_;simp only[cA,dO,dN,dX,dA,dz,dr];refine qN ?_;have HX:=E4.mk i O Y F C V M x;go_wp2;go_ret;obtain⟨i,O,Y,F,C,V,M,x⟩:=HX;obtain⟨-,I,Q0⟩:=HW;have z8:=i.keep.size;have qY:aW w.heap.size w w8:=I.trans ⟨i.keep.os,i.keep.tape,i.keep.output,i.keep.size,λb q=>i.keep.block b (by omega)<|by omega⟩;have kk:∀{W W':ay},aK (λb=>b=w) W W'->∀b,s.heap.size<=b->b<W->W'.heap[b]?=W.heap[b]?:=λk b J y=>k.block b y (by omega);have al:∀(o:Obj)b,b<w8.heap.size->(w8.alloc o).heap[b]?=w8.heap[b]?:=by grind[Below.heap_alloc]
 have L:=dx C λb q=>kk V b (C.lt b q).1 (C.lt b q).2;have L:=dx L λb q=>kk M b (L.lt b q).1 (L.lt b q).2;have L:=dx L λb q=>kk x b (L.lt b q).1 (L.lt b q).2;have Q1:=dx F λb q=>kk M b (F.lt b q).1 (F.lt b q).2;have Q1:=dx Q1 λb q=>kk x b (Q1.lt b q).1 (Q1.lt b q).2;have r7:=Y.block (λb J y=>kk x b J y) x.size;refine⟨w8.heap.size,_,_,_,_,T,rfl,⟨iF _ _,by omega,jr (dx L λb q=>al _ b (L.lt b q).2)<|by omega,jr (dx Q1 λb q=>al _ b (Q1.lt b q).2)<|by omega,(r7.block (λb _ y=>al _ b y)<|by simp).base<|by omega,jr (dx O λb q=>al _ b (O.lt b q).2)<|by omega⟩,qY.alloc (by omega) _⟩
theorem ake(N)(v)(l)(h)(w)(s:dF N w v l)(K:N<=w)(I:l.length<=1099511627776):bz Q 170 #[v,iR h] w λe C=>∃q,e=bj q/\dF N C q (l++gV h)/\bS (dh v) w (dh q) C:=by obtain⟨f,i,k,j,d,g,m,c,B⟩:∃f i k j d g m c:Int,iR h=bJ #[V aq f,V aq i,V aq k,V aq j,V aq d,V aq g,V aq m,V aq c]:=⟨_,_,_,_,_,_,_,_,rfl⟩;have D:(gV h).map jb=[V aq f,V aq i,V aq k,V aq j,V aq d,V aq g,V aq m,V aq c]:=(aki h).trans (by rw[B];rfl);have r:=Oq h;rw[B];generalize gV h=J at*;obtain⟨E,F,p,t,n⟩:=Aa JB;have A:=X s;have y:=cH.mk D r;go_enter aow,ntmps170;go_wp2_with(at_builtin;go_must(refine YD _ rfl _ _ 79 rfl N 5 E (V aq 0) 1 1 uv F p t n rfl (by decide) v l.length (l.map jb) rfl (A.out.alloc _) w.heap.size 8 8 [V aq f,V aq i,V aq k,V aq j,V aq d,V aq g,V aq m,V aq c] rfl rfl (Bn (by grind) _ _ rfl) (by simp[zh]) (by unfold vg;omega) (by omega) (by simp;omega) ?_);intro G H o u _ x;have z:=cH.mk o<|Yh (λb s=>(A.out.lt s).2) u x;refine Halt.of ?_);unfold Halt;go_wp2;go_ret;refine⟨_,rfl,?_,z.b⟩;unfold dF;have:=z.a;rw[vT,y.a,j7,y.b];exact this
theorem fF.alloc{N}{v0 v}{w0 W}{a}{cs}{T}{l}(h:fF N v0 w0 a cs T v l W)(o):fF N v0 w0 a cs T v l<|W.alloc o:=by exact⟨h.buf.alloc _,(dm _ _ _ (cU.1 h.box).1).trans h.box,h.off,h.left.trans ⟨aK.alloc _ _ _,λb c=>ax c⟩,bC h.base<|by simp⟩
theorem awm{v v'}{W W'}(a:W.grownBy W' v.ownBlock)(c:∀b,v'.ownBlock=U b->v.ownBlock=U b\/W.heap.size<=b):bS (dh v) W (dh v') W':=⟨⟨a.os,a.tape,a.output,a.size,λk g d=>a.block k g λe=>d e.symm⟩,λb f=>c b f⟩
theorem aw3(N)(v)(l)(k)(w)(o:dF N w v l)(hN:N<=w)(hl:l.length<=549755813888):bz Q 169 #[v,gS k] w λe T=>∃QW,e=bj QW/\dF N T QW (l++ju k)/\bS (dh v) w (dh QW) T:=by
 obtain⟨c,h⟩:=k;obtain⟨p,r,z,s,x,q,y,u,H⟩:∃p r z s x q y u:Int,iR h=bJ #[V aq p,V aq r,V aq z,V aq s,V aq x,V aq q,V aq y,V aq u]:=⟨_,_,_,_,_,_,_,_,rfl⟩;have n:gS (c,h)=bJ #[V aq c.toNat,V aq p,V aq r,V aq z,V aq s,V aq x,V aq q,V aq y,V aq u]:=by unfold gS;rw[H];rfl
 rw[n];obtain⟨Q2,hi,L,G,F⟩:=Aa JB;obtain⟨E,t⟩:=ex<|w.alloc<|aH #[V aq c.toNat,V aq p,V aq r,V aq z,V aq s,V aq x,V aq q,V aq y,V aq u] 233;have A:fF N v w w #[V aq c.toNat,V aq p,V aq r,V aq z,V aq s,V aq x,V aq q,V aq y,V aq u] 233 v l E:=by rw[t];exact⟨o.alloc _,iF _ _,λe=>by have:=(o.lt e).2;omega,⟨aK.alloc _ _ _,λb o=>ax o⟩,by simp;omega⟩
 obtain⟨g,m⟩:∃g:Array az,g=#[V aq c.toNat,V aq p,V aq r,V aq z,V aq s,V aq x,V aq q,V aq y,V aq u]:=⟨_,rfl⟩;rw[<-m]at A;have k0:∀W:ay,lP w g 233 W->W.cell? w=U (V aq c.toNat):=λW f=>(M f 0).trans (by grind);have k1:∀W:ay,lP w g 233 W->W.cell? ⟨w,1,Z⟩=U (V aq p):=λW f=>(M f 1).trans (by grind);have k2:∀W:ay,lP w g 233 W->W.cell? ⟨w,2,Z⟩=U (V aq r):=λW f=>(M f 2).trans (by grind);have k3:∀W:ay,lP w g 233 W->W.cell? ⟨w,3,Z⟩=U (V aq z):=λW f=>(M f 3).trans (by grind);have k4:∀W:ay,lP w g 233 W->W.cell? ⟨w,4,Z⟩=U (V aq s):=λW f=>(M f 4).trans (by grind);have k5:∀W:ay,lP w g 233 W->W.cell? ⟨w,5,Z⟩=U (V aq x):=λW f=>(M f 5).trans (by grind);have k6:∀W:ay,lP w g 233 W->W.cell? ⟨w,6,Z⟩=U (V aq q):=λW f=>(M f 6).trans (by grind);have k7:∀W:ay,lP w g 233 W->W.cell? ⟨w,7,Z⟩=U (V aq y):=λW f=>(M f 7).trans (by rw[m];rfl);have k8:∀W:ay,lP w g 233 W->W.cell? ⟨w,8,Z⟩=U (V aq u):=λW f=>(M f 8).trans (by rw[m];rfl);have C:jb c=V aq c.toNat:=rfl;have HV:=cH.mk H C;have Q0:=cH.mk t o;have P:=fF.BG A;clear o t H n m C;go_enter aox,ntmps169;go_wp2;rw[<-Q0.a];refine xG ?_;refine wp_region_held_drew (S:=λW=>lP w.heap.size g 233 W) (by kernel_rfl) (UZ.2 P) λd=>?_;refine Jg (i:=0) (v:=?v0) rfl (by kernel_rfl) (by kernel_rfl) (by kernel_rfl) (λ_ _ _ h=>h) (ax ⟨by rfl,?xN⟩) d ?WQ;(case xN=>(intro W i;go_simp;(try with_reducible rfl)));try simp only[cA,dO,dN,dA,dz,dr]
 refine Jg (i:=1) (v:=?v1) rfl (by kernel_rfl) (by kernel_rfl) (by kernel_rfl) (λ_ _ _ h=>h) (ax ⟨by rfl,?yR⟩) d ?WO;(case yR=>(intro W i;go_simp;(try with_reducible rfl)));try simp only[cA,dO,dN,dX,dA,dz,dr]
 refine Jg (i:=2) (v:=?v2) rfl (by kernel_rfl) (by kernel_rfl) (by kernel_rfl) (λ_ _ _ h=>h) (ax ⟨by rfl,?yQ⟩) d ?WN;(case yQ=>(intro W i;go_simp;(try with_reducible rfl)));try simp only[cA,dO,dN,dX,dA,dz,dr]
 refine Jg (i:=5) (v:=?Y) rfl (by kernel_rfl) (by kernel_rfl) (by kernel_rfl) (λ_ _ _ h=>h) (ax ⟨by rfl,?F6⟩) d ?WM;(case F6=>(intro W i;go_simp;(try with_reducible rfl)));try simp only[cA,dO,dN,dX,dA,dz,dr]
 refine Jg (i:=6) (v:=?v6) rfl (by kernel_rfl) (by kernel_rfl) (by kernel_rfl) (λ_ _ _ h=>h) (ax ⟨by rfl,?F5⟩) d ?WL;(case F5=>(intro W i;go_simp;(try with_reducible rfl)));try simp only[cA,dO,dN,dX,dA,dz,dr]
 refine YC (rs:=[3]) (by kernel_rfl) (by simp) ?_;refine YB rfl (λK n=>?_) YA;go_simp;refine n.out _ _ (fF.BG<|(Ho.2 A).alloc _) λd=>?_;try simp only[cA,dO,dN,dX,dA,dz,dr]
 refine YC (rs:=[4]) (by kernel_rfl) (by simp) ?_;refine YB rfl (λK n=>?_) YA;refine step_append_lies _ rfl (cx 5) (cx 8) 79 rfl N 5 Q2 (V aq 0) 1 1 uv hi L G F rfl (by decide) v l.length (l.map jb) rfl ((Ho.2 A).alloc _).buf ⟨E.heap.size,0,Z⟩ 1 1 [V aq c.toNat] rfl rfl (Bn (by grind) _ _ rfl) (by simp[zh]) (by decide) (by unfold vg;omega) (by omega) ((Ho.2 A).alloc _).base _ rfl ?_;intro Q1 c4 R I O B a;have j:fF N v w w g 233 (aE Q1 (l.length+1) c4) (l++[c]) R:=((Ho.2 A).alloc _).next (by unfold dF;rw[vT,j7];exact I) (awm O λb o=>by cases o;exact B.imp id λe=>Nat.le_of_eq e.symm);refine n.out _ _ (fF.BG j) λd=>?_;try simp only[cA,dO,dN,dX,dA,dz,dr]
 refine YC (rs:=[7]) (by kernel_rfl) (by simp) ?_;refine YB rfl (λK n=>?_) YA;go_simp;go_at_call 170;rw[<-HV.a];refine jg (ake N _ _ h R j.buf j.base<|by grind) ?_;rintro e w5⟨Y,rfl,J,Q3⟩;have D:=j.next J Q3;refine n.out _ _ (fF.BG D) λd=>?_;try simp only[cA,dO,dN,dX,dA,dz,dr]
 refine Jg (i:=8) (v:=?v8) rfl (by kernel_rfl) (by kernel_rfl) (by kernel_rfl) (λ_ _ _ h=>h) (ax ⟨by rfl,?Y7⟩) d ?aeB;(case Y7=>(intro W i;go_simp;(try with_reducible rfl)));try simp only[cA,dO,dN,dX,dA,dz,dr]
 refine wpAnyH_done (by kernel_rfl) ?_ _;refine qN ?_;have S:=X D;go_wp2;go_ret;exact⟨_,rfl,by have:=S.out.buf;rw[jG]at this;exact this,S.out.left⟩
def pF{α:Type}(T sz:Nat)(f:α->az)(w:ay)(v:az)(F:List α):Prop:=w.ownsRow 0 T sz v F.length<|fM f F
theorem ajM{t:Type}{f:t->az}{sz:Nat}(d:∀x,(f x).cells.size=sz):∀(F:List t)(j i:Nat)(b:j<F.length),i<sz->(fM f F)[j*sz+i]?=(f F[j]).cells[i]?
 |x::F,0,i,b,c=>by grind[fM,List.getElem?_append_left]|x::F,j+1,i,b,c=>by
  show((f x).cells.toList++fM f F)[_]?=_;rw[List.getElem?_append_right<|by grind];have:(j+1)*sz+i-(f x).cells.toList.length=j*sz+i:=by grind
  rw[this,ajM d F j i (by grind) c];rfl
theorem pF.cell{o}{T sz}{f:o->az}{w}{v}{F}(h:pF T sz f w v F)(l:∀x,(f x).cells.size=sz){j}(d):∃g b,v=aE (U ⟨g,0,Z⟩) F.length b/\g<w/\∀i x,i<sz->(f F[j]).cells[i]?=U x->w.cell? ⟨g,j*sz+i,Z⟩=x:=by
 rcases h.2 with⟨p,q⟩|⟨g,b,n,c,_,m,-⟩;.omega
 .refine⟨g,b,c,(cU.1 m).1,λi x e k=>?_⟩;have:=Jf h (g:=g) (by rw[c];rfl) (j*sz+i) x<|(ajM l F j i d e).trans k;grind[Addr.add_lit]
theorem RH{t:Type}(e:t->List UInt8)(F:List t){j}(a):(F.take<|j+1).flatMap e=(F.take j).flatMap e++e F[j]:=by grind[List.take_add_one,List.getElem?_eq_getElem,Option.toList_some]
theorem GJ{t:Type}{e:t->List UInt8}{K:Nat}:∀{l:List t},(∀x∈l,(e x).length<=K)->(l.flatMap e).length<=K*l.length|[],_=>by simp|x::l,h=>by have c:=h x (by simp);have b:=GJ (l:=l) λy a=>h y (by simp[a]);grind[List.length_append,List.length_cons,Nat.mul_add]
theorem ahj(k):(gS k).cells.size=9:=rfl
theorem akh(h):(iR h).cells.size=8:=rfl
theorem apu(N)(v C)(l)(F)(w)(h:dF N w v l)(Q0:N<=w)(n:pF 9 1 aD w C F)(o:∀b,dh v b->C.ownBlock≠b)(p:∀s∈F,s.size<=4000)(hl:l.length<=274877906944)(t:F.length<=600000):bz Q 162 #[v,C,dM (ez 165) #[] #[]] w λe J=>∃c,e=bj c/\dF N J c (l++da di F)/\bS (dh v) w (dh c) J:=by
 obtain⟨ad,Q1,rfl⟩:=gD n;have S:cO.wrap (F.length:Int)=(F.length:Int):=by grind[IntKind.wrap_u64]
 have D:=X (FI N v l F.length w h Q0 (by omega)<|by omega);have H:=yz (n:=F.length) (by omega);go_enter aoE,ntmps162;go_wp2_with(go_at_call 199;go_must(refine D.out.mono ?_);rintro e w1⟨v1,rfl,A,E⟩;have I:=cH.mk A E;refine Halt.of ?_);unfold Halt;go_wp2;go_loopg[0,16]F.lengthλQW s0 q wr=>∃(d:az)(j:Nat),d=s0/\q=V aC j/\QW+j=F.length/\dF N wr d (l++k F.length++(F.take j).flatMap di)/\bS (dh v) w (dh d) wr;case atStart=>exact⟨v1,0,rfl,rfl,by omega,by simpa using I.a,I.b⟩
 case round=>
  obtain⟨d,j,rfl,rfl,hk,z,m⟩:=hrel;by_cases hj:j<F.length
  .obtain⟨n,o,p⟩:=(X<|aM n<|aM o p).out;obtain⟨g,L,M,Q2,u⟩:=n.cell (λ_=>rfl) hj;simp only[oU]at M;obtain⟨rfl,-,rfl⟩:=M;have P:=λi x h1 Y=>(ei (w:=w) (a:=⟨g,j*1+i,Z⟩)<|m.1.block g Q2 λe=>o g e rfl).trans<|u i x h1 Y;have K:(l++k F.length++(F.take j).flatMap di).length<=549755813888:=by
    have:=GJ (K:=4096) (l:=F.take j) (e:=di) λx O=>by grind[A4,List.mem_of_mem_take]
    grind
   have y:=p F[j]<|lV hj;obtain⟨s,O⟩:∃s,F[j]=s:=⟨_,rfl⟩;rw[O]at P y;have y0:wr.cell? ⟨g,j,Z⟩=U (aD s):=by have:=P 0 (aD s) (by decide) rfl;grind
   have fo:=m.1.size;have D:dD<|∀W,dF N W d (l++k F.length++(F.take j).flatMap di)->N<=W->bz Q 165 #[d,s] W λe Q3=>∃c,e=bj c/\dF N Q3 c (l++k F.length++(F.take j).flatMap di++di F[j])/\bS (dh d) W (dh c) Q3:=X λW hW hNW=>by grind[acZ]
   have T:(j:Int)<(F.length:Int):=by omega
   have f:=gF.mk z m<|RH di F hj;go_wp2_with(go_at_call 165;go_must(refine(D.out _ f.a<|by grind).mono ?_);rintro e w5⟨v5,rfl,r,G⟩;have R:=cH.mk r G;refine Halt.of ?_);unfold Halt;go_wp2;go_roundg(gk-1);case rel=>exact⟨v5,j+1,rfl,by go_simp,by omega,by rw[f.c,<-jG];exact R.a,f.b.trans R.b⟩
   grind
  .have B:j=F.length:=by omega
   subst B;rw[uF]at z;have f:=cH.mk z m;go_wp2;go_ret;exact⟨_,rfl,by rw[da,<-jG];exact f.a,f.b⟩
theorem aw0(N)(v P)(l)(F)(w)(h:dF N w v l)(hN:N<=w)(z:pF 233 9 gS w P F)(D:∀b,dh v b->P.ownBlock≠b)(E:True)(hl:l.length<=274877906944)(hFl:F.length<=600000):bz Q 168 #[v,P,dM (ez 169) #[] #[]] w λe Q2=>∃f,e=bj f/\dF N Q2 f (l++da ju F)/\bS (dh v) w (dh f) Q2:=by
 obtain⟨ad,cap,rfl⟩:=gD z;have hcv:cO.wrap (F.length:Int)=(F.length:Int):=by grind[IntKind.wrap_u64]
 have QW:=X (FI N v l F.length w h hN (by omega)<|by omega);have T:=yz (n:=F.length) (by omega);go_enter aoy,ntmps168;go_wp2_with(go_at_call 199;go_must(refine QW.out.mono ?_);rintro e w1⟨v1,rfl,L,R⟩;have I:=cH.mk L R;refine Halt.of ?_);unfold Halt;go_wp2;go_loopg[0,16]F.lengthλQX s0 G wr=>∃(d:az)(j:Nat),d=s0/\G=V aC j/\QX+j=F.length/\dF N wr d (l++k F.length++(F.take j).flatMap ju)/\bS (dh v) w (dh d) wr;case atStart=>exact⟨v1,0,rfl,rfl,by omega,by simpa using I.a,I.b⟩
 case round=>
  obtain⟨d,j,rfl,rfl,hk,p,r⟩:=hrel;by_cases hj:j<F.length
  .obtain⟨z,D,E⟩:=(X<|aM z<|aM D E).out;obtain⟨g,Q3,Q1,hg,J⟩:=z.cell ahj hj;simp only[oU]at Q1;obtain⟨rfl,-,rfl⟩:=Q1;have c:=λi x h1 h2=>(ei (w:=w) (a:=⟨g,j*9+i,Z⟩)<|r.1.block g hg λe=>D g e rfl).trans<|J i x h1 h2;have o:(l++k F.length++(F.take j).flatMap ju).length<=549755813888:=by
    have:=GJ (K:=9) (l:=F.take j) (e:=ju) λx K=>by grind[ju,Oq]
    grind
   have hfx:=E;obtain⟨n,t,B,u,A,s,C,y,q,K⟩:∃n t B u A s C y q:Int,gS F[j]=bJ #[V aq n,V aq t,V aq B,V aq u,V aq A,V aq s,V aq C,V aq y,V aq q]:=⟨_,_,_,_,_,_,_,_,_,rfl⟩;rw[K]at c;have y0:wr.cell? ⟨g,j*9,Z⟩=U (V aq n):=c 0 (V aq n) (by decide) rfl;have y1:=c 1 (V aq t) (by decide) rfl;have y2:=c 2 (V aq B) (by decide) rfl;have y3:=c 3 (V aq u) (by decide) rfl;have y4:=c 4 (V aq A) (by decide) rfl;have y5:=c 5 (V aq s) (by decide) rfl;have y6:=c 6 (V aq C) (by decide) rfl;have y7:=c 7 (V aq y) (by decide) rfl;have y8:=c 8 (V aq q) (by decide) rfl;have fo:=r.1.size;have QW:dD<|∀W,dF N W d (l++k F.length++(F.take j).flatMap ju)->N<=W->bz Q 169 #[d,bJ #[V aq n,V aq t,V aq B,V aq u,V aq A,V aq s,V aq C,V aq y,V aq q]] W λe Q0=>∃f,e=bj f/\dF N Q0 f (l++k F.length++(F.take j).flatMap ju++ju F[j])/\bS (dh d) W (dh f) Q0:=X λW hW O=>by rw[<-K];exact aw3 N d _ F[j] W hW O o
   have nB:(j:Int)<(F.length:Int):=by omega
   have m:=gF.mk p r<|RH ju F hj;go_wp2_with(go_at_call 169;go_must(refine(QW.out _ (m.a.alloc _)<|by first|omega|(simp;omega)).mono ?_);rintro e w5⟨v5,rfl,H,S⟩;have H5:=cH.mk H S;refine Halt.of ?_);unfold Halt;go_wp2;go_roundg(gk-1);case rel=>exact⟨v5,j+1,rfl,by go_simp,by omega,by rw[m.c,<-jG];exact H5.a,m.b.trans<|bS.trans ⟨aK.alloc _ _ _,λb p=>ax p⟩ H5.b⟩
   grind
  .have M:j=F.length:=by omega
   subst M;rw[uF]at p;have m:=cH.mk p r;go_wp2;go_ret;exact⟨_,rfl,by rw[da,<-jG];exact m.a,m.b⟩
theorem aCe(N)(v M)(l)(F)(w)(h:dF N w v l)(hN:N<=w)(u:pF 76 8 iR w M F)(B:∀b,dh v b->M.ownBlock≠b)(C:True)(hl:l.length<=274877906944)(hFl:F.length<=600000):bz Q 171 #[v,M,dM (ez 170) #[] #[]] w λe T=>∃f,e=bj f/\dF N T f (l++da gV F)/\bS (dh v) w (dh f) T:=by
 obtain⟨ad,cap,rfl⟩:=gD u;have hcv:cO.wrap (F.length:Int)=(F.length:Int):=by grind[IntKind.wrap_u64]
 have O:=X (FI N v l F.length w h hN (by omega)<|by omega);have R:=yz (n:=F.length) (by omega);go_enter aov,ntmps171;go_wp2_with(go_at_call 199;go_must(refine O.out.mono ?_);rintro e w1⟨v1,rfl,J,P⟩;have S:=cH.mk J P;refine Halt.of ?_);unfold Halt;go_wp2;go_loopg[0,16]F.lengthλQY s0 D wr=>∃(d:az)(j:Nat),d=s0/\D=V aC j/\QY+j=F.length/\dF N wr d (l++k F.length++(F.take j).flatMap gV)/\bS (dh v) w (dh d) wr;case atStart=>exact⟨v1,0,rfl,rfl,by omega,by simpa using S.a,S.b⟩
 case round=>
  obtain⟨d,j,rfl,rfl,hk,o,p⟩:=hrel;by_cases hj:j<F.length
  .obtain⟨u,B,C⟩:=(X<|aM u<|aM B C).out;obtain⟨g,Q3,QW,hg,H⟩:=u.cell akh hj;simp only[oU]at QW;obtain⟨rfl,-,rfl⟩:=QW;have c:=λi x h1 h2=>(ei (w:=w) (a:=⟨g,j*8+i,Z⟩)<|p.1.block g hg λe=>B g e rfl).trans<|H i x h1 h2;have Q0:(l++k F.length++(F.take j).flatMap gV).length<=549755813888:=by
    have:=GJ (K:=8) (l:=F.take j) (e:=gV) λx I=>by rw[Oq];grind
    grind
   have hfx:=C;obtain⟨n,r,z,s,y,q,A,t,I⟩:∃n r z s y q A t:Int,iR F[j]=bJ #[V aq n,V aq r,V aq z,V aq s,V aq y,V aq q,V aq A,V aq t]:=⟨_,_,_,_,_,_,_,_,rfl⟩;rw[I]at c;have y0:wr.cell? ⟨g,j*8,Z⟩=U (V aq n):=c 0 (V aq n) (by decide) rfl;have y1:=c 1 (V aq r) (by decide) rfl;have y2:=c 2 (V aq z) (by decide) rfl;have y3:=c 3 (V aq s) (by decide) rfl;have y4:=c 4 (V aq y) (by decide) rfl;have y5:=c 5 (V aq q) (by decide) rfl;have y6:=c 6 (V aq A) (by decide) rfl;have y7:=c 7 (V aq t) (by decide) rfl;have fo:=p.1.size;have O:dD<|∀W,dF N W d (l++k F.length++(F.take j).flatMap gV)->N<=W->bz Q 170 #[d,bJ #[V aq n,V aq r,V aq z,V aq s,V aq y,V aq q,V aq A,V aq t]] W λe Q2=>∃f,e=bj f/\dF N Q2 f (l++k F.length++(F.take j).flatMap gV++gV F[j])/\bS (dh d) W (dh f) Q2:=X λW hW L=>by rw[<-I];exact ake N d _ F[j] W hW L<|by omega
   have nB:(j:Int)<(F.length:Int):=by omega
   have m:=gF.mk o p<|RH gV F hj;go_wp2_with(go_at_call 170;go_must(refine(O.out _ (m.a.alloc _)<|by first|omega|(simp;omega)).mono ?_);rintro e w5⟨v5,rfl,E,QX⟩;have Q1:=cH.mk E QX;refine Halt.of ?_);unfold Halt;go_wp2;go_roundg(gk-1);case rel=>exact⟨v5,j+1,rfl,by go_simp,by omega,by rw[m.c,<-jG];exact Q1.a,m.b.trans<|bS.trans ⟨aK.alloc _ _ _,λb o=>ax o⟩ Q1.b⟩
   grind
  .have K:j=F.length:=by omega
   subst K;rw[uF]at o;have m:=cH.mk o p;go_wp2;go_ret;exact⟨_,rfl,by rw[da,<-jG];exact m.a,m.b⟩
theorem aw2{F:List<|UInt8×Int}(h:F.length<=100000):(da ju F).length<=1000000:=by
 have h1:=yz (n:=F.length) (by omega);have h2:=GJ (K:=9) (l:=F) (e:=ju) λx _=>by show(ju x).length<=9;simp[ju,Oq]
 rw[da,j7];omega
set_option maxHeartbeats 2000000 in
theorem auW(N:Nat)(v kv:az)(l:List UInt8)(n:Nd)(w:ay)(hb:dF N w v l)(hN:N<=w.heap.size)(J:pF 233 9 gS w kv n.kids)(hd:∀b,dh v b->kv.ownBlock≠U b)(hp:n.pfx.size<=4000)(ZK:n.kids.length<=100000)(hl:l.length<=274877900000):bz Q 167 #[v,bJ #[aD n.pfx,kv]] w λe w'=>∃v',e=bj v'/\dF N w' v' (l++iN n)/\bS (dh v) w (dh v') w':=by
 obtain⟨p,ks⟩:=n;simp only at J hp ZK;obtain⟨ad,cap,rfl⟩:=gD J;obtain⟨E,A⟩:∃E,ks.length=E:=⟨_,rfl⟩;obtain⟨cs,B⟩:∃cs:Array az,cs=#[aD p,aE ad ks.length cap]:=⟨_,rfl⟩;obtain⟨w1,fg⟩:=ex<|w.alloc<|aH cs 184;have hA:fF N v w w.heap.size cs 184 v l w1:=by rw[fg];exact⟨hb.alloc _,iF _ _,λe=>by have:=(hb.lt e).2;omega,⟨aK.alloc _ _ _,λb hb=>ax hb⟩,by simp;omega⟩
 have k0:∀W:ay,lP w.heap.size cs 184 W->W.cell? ⟨w.heap.size,0,Z⟩=U (aD p):=λW hW=>(M hW 0).trans (by rw[B];rfl);have k1:∀W:ay,lP w.heap.size cs 184 W->W.cell? ⟨w.heap.size,1,Z⟩=U (aE ad E cap):=λW hW=>(M hW 1).trans (by rw[B,<-A];rfl);have C1:dD<|∀W,fF N v w w.heap.size cs 184 v l W->bz Q 165 #[v,aD p] W λe W'=>∃v',e=bj v'/\fF N v w w.heap.size cs 184 v' (l++di p) W':=X λW h=>h.text p (by omega) (by omega);have C2:dD<|∀v2 W,fF N v w w.heap.size cs 184 v2 (l++di p) W->bz Q 168 #[v2,aE ad E cap,dM (ez 169) #[] #[]] W λe W'=>∃v',e=bj v'/\fF N v w w.heap.size cs 184 v' (l++di p++da ju ks) W':=X λv2 W h=>by have lq:∀b,(aE ad ks.length cap).ownBlock=U b->b<w.heap.size:=λb hb=>(J.lt b hb).2;have Ao:pF 233 9 gS W (aE ad ks.length cap) ks:=dx J λb hb=>h.left.1.block b (lq b hb) λe=>hd b e hb;have htl:=A4 p (by omega);rw[<-A];exact(aw0 N v2 _ (l++di p) ks W h.buf h.base Ao λb hb e=>by rcases h.left.2 b hb with h1|h1;exact hd b h1 e;exact absurd (lq b e)<|by omega trivial (by rw[j7];omega)<|bC ZK<|by decide).mono λe W'⟨v',h1,h2,h3⟩=>⟨v',h1,h.next h2 h3⟩
 have HW:=gF.mk fg B A;have gU:=fF.BG hA;rw[A];clear hb hN J hd hp ZK fg B A;go_enter aoz,ntmps167;go_wp2;rw[show aH #[aD p,aE ad E cap] 184=aH cs 184 by rw[HW.b,HW.c],<-HW.a];refine xG ?_;refine CX (λW=>lP w.heap.size cs 184 W) [0,1,2,4,5,3,6,7] (by kernel_rfl) (UZ.2 gU) (λ_ _ _ _ _ h=>h) ?_;repeat((apply qH _ rfl (by kernel_rfl) rfl;.intro W hSw;have q0:=k0 W hSw;have q1:=k1 W hSw;go_simp;try with_reducible rfl);simp only[yq])
 refine vE rfl (by kernel_rfl) λhHeld K hK=>?_;go_simp;go_at_call 165;refine jg (C1.out _<|Ho.2 hA) ?_;rintro e w2⟨v2,rfl,TG⟩;refine hK.out _ _ (fF.BG TG) ?_;refine vE rfl (by kernel_rfl) λhHeld K hK=>?_;go_simp;go_at_call 168;refine jg (C2.out v2 _ TG) ?_;rintro e w3⟨v3,rfl,Kk⟩;refine hK.out _ _ (fF.BG Kk) ?_;repeat((apply qH _ rfl (by kernel_rfl) rfl;.intro W hSw;go_simp;try with_reducible rfl);simp only[yq])
 refine CY (by kernel_rfl) λhHeld=>?_;refine qN ?_;have HX:=X Kk;clear hA TG Kk gU hHeld k0 k1 C1 C2;go_wp2;go_ret;exact⟨_,rfl,by have:=HX.out.buf;rw[jG]at this;exact this,HX.out.left⟩
theorem zz.get{W:ay}{B:Nat}:∀{F:List Nd}{xs:List az}(h:zz W B F xs)(j:Nat)(b:j<F.length),∃a,a∈xs/\xs[j*2]?=U (aD F[j].pfx)/\xs[j*2+1]?=U a/\W.ownsRow B 233 9 a F[j].kids.length (fM gS F[j].kids)|n::F,xs,⟨a,c,e,h,t⟩,0,_=>by grind|n::F,xs,⟨a,c,e,h,t⟩,j+1,b=>by subst e;obtain⟨d,g,k,i,f⟩:=t.get j (by grind);grind
theorem lD.cell{W}{B}{F}{v}{xs}(h:lD W B F v xs){j}(d):∃g b c,v=aE (U ⟨g,0,Z⟩) F.length b/\g<W/\c∈xs/\W.cell? ⟨g,j*2,Z⟩=U (aD F[j].pfx)/\W.cell? ⟨g,j*2+1,Z⟩=c/\W.ownsRow B 233 9 c F[j].kids.length (fM gS F[j].kids):=by
 obtain⟨c,o,m,q,n⟩:=h.ins.get j d;rcases h.row.2 with⟨_,r⟩|⟨g,b,l,e,_,p,-⟩;.omega
 .have k:=λi x(f:xs[i]?=U x)=>Jf h.row (g:=g) (by rw[e];rfl) i x f;simp only[R5,Bw]at k;grind
theorem afO{n}(b:n.pfx.size<=4000)(a:n.kids.length<=100000):(iN n).length<=1100000:=by grind[A4,aw2,iN,List.length_append]
theorem auU(N)(v O)(l)(F)(w)(h:dF N w v l)(hN:N<=w)(xs)(C:lD w 0 F O xs)(B:∀b,dh v b->O.ownBlock≠b/\∀x∈xs,x.ownBlock≠b)(u:∀n∈F,n.pfx.size<=4000/\n.kids.length<=100000)(hl:l.length<=137438953472)(hFl:F.length<=124000):bz Q 166 #[v,O,dM (ez 167) #[] #[]] w λe Q1=>∃m,e=bj m/\dF N Q1 m (l++da iN F)/\bS (dh v) w (dh m) Q1:=by
 obtain⟨ad,cap,rfl⟩:=gD C.row;have hcv:cO.wrap (F.length:Int)=(F.length:Int):=by grind[IntKind.wrap_u64]
 have P:=X (FI N v l F.length w h hN (by omega)<|by omega);have Q2:=yz (n:=F.length) (by omega);go_enter aoA,ntmps166;go_wp2_with(go_at_call 199;go_must(refine P.out.mono ?_);rintro e w1⟨v1,rfl,K,R⟩;have Q3:=cH.mk K R;refine Halt.of ?_);unfold Halt;go_wp2;go_loopg[0,16]F.lengthλQX s0 H wr=>∃(f:az)(j:Nat),f=s0/\H=V aC j/\QX+j=F.length/\dF N wr f (l++k F.length++(F.take j).flatMap iN)/\bS (dh v) w (dh f) wr;case atStart=>exact⟨v1,0,rfl,rfl,by omega,by simpa using Q3.a,Q3.b⟩
 case round=>
  obtain⟨f,j,rfl,rfl,hk,c,i⟩:=hrel;by_cases hj:j<F.length
  .obtain⟨C,B,u⟩:=(X<|aM C<|aM B u).out;obtain⟨g,Cq,QW,hv,Q0,T,E,D,d⟩:=C.cell hj;simp only[oU]at hv;obtain⟨rfl,-,rfl⟩:=hv;have q:¬dh v g:=λe=>(B g e).1 rfl;have y0:=(ei (w:=w) (a:=⟨g,j*2,Z⟩)<|i.1.block g Q0 q).trans E;have y1:=(ei (w:=w) (a:=⟨g,j*2+1,Z⟩)<|i.1.block g Q0 q).trans D;have r:pF 233 9 gS wr QW F[j].kids:=dx d λb c=>i.1.block b (d.lt b c).2 λe=>(B b e).2 QW T c;have G:∀b,dh f b->QW.ownBlock≠b:=λb c e=>by
    rcases i.2 b c with h1|h1;.grind
    .exact absurd (d.lt b e).2<|by omega
   have s:=λb e=>(r.lt b e).2;obtain⟨ka,kc,rfl⟩:=gD d;obtain⟨z,t⟩:∃z,F[j].kids.length=z:=⟨_,rfl⟩;obtain⟨p,hp⟩:∃p,F[j].pfx=p:=⟨_,rfl⟩;rw[t]at y1;rw[hp]at y0;have y:(l++k F.length++(F.take j).flatMap iN).length<=274877900000:=by have:=GJ (K:=1100000) (l:=F.take j) (e:=iN) λx hx=>afO (u x<|agV hx).1 (u x<|agV hx).2;grind
   have A:=u F[j]<|lV hj;have fo:=i.1.size;have P:dD<|∀W,(∀b,b<wr.heap.size->W.heap[b]?=wr.heap[b]?)->dF N W f (l++k F.length++(F.take j).flatMap iN)->N<=W->bz Q 167 #[f,bJ #[p,aE ka z kc]] W λe W'=>∃m,e=bj m/\dF N W' m (l++k F.length++(F.take j).flatMap iN++iN F[j])/\bS (dh f) W (dh m) W':=X λW I hW M=>by rw[<-hp,<-t];exact auW N f _ _ F[j] W hW M (dx r λb c=>I b<|s b c) G A.1 A.2 y
   have nB:(j:Int)<(F.length:Int):=by omega
   have o:=gF.mk c i<|RH iN F hj;go_wp2_with(go_at_call 167;go_must(refine(P.out _ (λb c=>dm _ _ _ c) (o.a.alloc _)<|by first|omega|(simp;omega)).mono ?_);rintro e w5⟨v5,rfl,J,S⟩;have H5:=cH.mk J S;refine Halt.of ?_);unfold Halt;go_wp2;go_roundg(gk-1);case rel=>exact⟨v5,j+1,rfl,by go_simp,by omega,by rw[o.c,<-jG];exact H5.a,o.b.trans<|bS.trans ⟨aK.alloc _ _ _,λb c=>ax c⟩ H5.b⟩
   grind
  .have L:j=F.length:=by omega
   subst L;rw[uF]at c;have o:=cH.mk c i;go_wp2;go_ret;exact⟨_,rfl,by rw[da,<-jG];exact o.a,o.b⟩
structure Hq(m:dZ):Prop where
 bq:∀x∈m.bq,Fit x
 cu:∀s∈m.cu,s.size<=4000
 nodes:∀n∈m.nodes,n.pfx.size<=4000/\n.kids.length<=100000
 nr:m.bq.length<=600000
 nw:m.cu.length<=600000
 nn:m.nodes.length<=124000
 nd:m.roots.length<=100000
theorem RJ{B}{v v'}{w W W'}(h:bS (dh v) W (dh v') W')(c:∀b,dh v b->B<=b)(a:aW B w W)(d:B<=W):aW B w W':=a.trans ⟨h.1.os,h.1.tape,h.1.output,h.1.size,λb a=>h.1.block b (by omega) λe=>absurd (c b e)<|by omega⟩
theorem aer{T sz}{d}{f:d->az}{w W}{v}{F}(h:pF T sz f w v F)(c:aW w w W):pF T sz f W v F:=dx h λb a=>c.block b (h.lt b a).2
theorem Ye{b}{e:b->List UInt8}{K}{F}(h:∀x∈F,(e x).length<=K){M}(a:F.length<=M)(d:M<=600000):(da e F).length<=10+K*M:=by have g:=yz (n:=F.length) (by omega);have f:=GJ h;have c:K*F.length<=K*M:=R8 _ a;grind[da,List.length_append]
theorem abo(p)(m)(vr vw vn vd)(xs)(w)(h:jm w 0 p m vr vw vn vd xs)(hm:Hq m):bz Q 105 #[aG p] w λe w'=>∃d,e=bj d/\dF w w' d (gy m)/\aW w w w':=by
 obtain⟨R,o,N,D⟩:=m;obtain⟨J5,-,y,O,C,QW⟩:=h;obtain⟨S,m2,L,m4,V,P,m7⟩:=hm;simp only at y O C QW S m2 L m4 V P m7;have l1:(da gO R).length<=10+12400*600000:=Ye (λx t=>aeO<|S x t) m4 (by decide);have l2:(da di o).length<=10+4010*600000:=Ye λx t=>by grind[A4] V (by decide);have l3:(da iN N).length<=10+1100000*124000:=Ye (λx t=>afO (L x t).1 (L x t).2) P (by decide);obtain⟨E,A,rfl⟩:=gD y;obtain⟨aw,Q3,rfl⟩:=gD O;obtain⟨an,cn,rfl⟩:=gD C.row;obtain⟨ad,cd,rfl⟩:=gD QW;have y:lC w (aE E R.length A) R:=y;obtain⟨nR,F⟩:∃n,R.length=n:=⟨_,rfl⟩;obtain⟨Y,B⟩:∃n,o.length=n:=⟨_,rfl⟩;obtain⟨nN,H⟩:∃n,N.length=n:=⟨_,rfl⟩;obtain⟨nD,G⟩:∃n,D.length=n:=⟨_,rfl⟩;have j:∀W:ay,aW w w W->W.heap[p]?=U (aH #[aE E nR A,aE aw Y Q3,aE an nN cn,aE ad nD cd] 180 (0,0)):=λW c=>by rw[c.block p<|by grind,J5,F,B,H,G]
 have k0:∀W:ay,aW w w W->W.cell? p=U (aE E nR A):=λW c=>M (j W c) 0;have k1:∀W:ay,aW w w W->W.cell? ⟨p,1,Z⟩=U (aE aw Y Q3):=λW c=>M (j W c) 1;have q:∀{W:ay}{v:az}{l:List UInt8},dF w W v l->∀b,dh v b->w<=b:=λc b h=>(c.lt h).1;have C1:dD<|∀W,aW w w W->bz Q 163 #[aE Z 0 0,aE E nR A,dM (ez 164) #[] #[]] W λe g=>∃d,e=bj d/\dF w g d (da gO R)/\aW w w g:=X λW c=>by have BJ:lC W (aE E R.length A) R:=dx y λb i=>c.block b (y.lt b i).2;rw[<-F];exact(av9 w.heap.size (aE Z 0 0) _ [] R W (dF.nil _ _) c.size BJ (λb h=>by cases h) S (by simp) m4).mono λe g⟨d,u,k,r⟩=>⟨d,u,by grind,RJ r (λb h=>by cases h) c c.size⟩
 have C2:dD<|∀v W,dF w W v (da gO R)->aW w w W->bz Q 162 #[v,aE aw Y Q3,dM (ez 165) #[] #[]] W λe g=>∃d,e=bj d/\dF w g d (da gO R++da di o)/\aW w w g:=X λv W i c=>by rw[<-B];exact(apu w.heap.size v _ _ o W i c.size (aer O c) λb h e=>absurd (O.lt b e).2<|by grind m2 (by omega) V).mono λe g⟨d,u,k,r⟩=>⟨d,u,k,RJ r (q i) c c.size⟩
 have C3:dD<|∀v W,dF w W v (da gO R++da di o)->aW w w W->bz Q 166 #[v,aE an nN cn,dM (ez 167) #[] #[]] W λe g=>∃d,e=bj d/\dF w g d (da gO R++da di o++da iN N)/\aW w w g:=X λv W i c=>by rw[<-H];exact(auU w.heap.size v _ _ N W i c.size xs (C.block (λb _ k=>c.block b k) c.size) (λb h=>⟨λe=>absurd (C.row.lt b e).2<|by grind,λx t e=>absurd (C.sep x t b e).2.1<|by grind⟩) L (by grind) P).mono λe g⟨d,u,k,r⟩=>⟨d,u,k,RJ r (q i) c c.size⟩
 have C4:dD<|∀v W,dF w W v (da gO R++da di o++da iN N)->aW w w W->bz Q 171 #[v,aE ad nD cd,dM (ez 170) #[] #[]] W λe g=>∃d,e=bj d/\dF w g d (da gO R++da di o++da iN N++da gV D)/\aW w w g:=X λv W i c=>by rw[<-G];exact(aCe w.heap.size v _ _ D W i c.size (aer QW c) λb h e=>absurd (QW.lt b e).2<|by grind trivial (by grind)<|bC m7<|by decide).mono λe g⟨d,u,k,r⟩=>⟨d,u,k,RJ r (q i) c c.size⟩
 have I:aW w w w.drew:=⟨rfl,rfl,rfl,aS _,λ_ _=>rfl⟩;go_enter ao3,ntmps105;go_wp2;refine xG ?_;refine CX (λW=>aW w.heap.size w W) [0,1,2,3,5,6,7,8,4,9,10] (by kernel_rfl) I (λ_ _ _ _ _ h=>h) ?_;repeat((apply qH _ rfl (by kernel_rfl) rfl;.intro W f;go_simp;try with_reducible rfl);simp only[yq])
 refine vE rfl (by kernel_rfl) λa K T=>?_;go_simp;go_at_call 163;refine jg (C1.out _ I) ?_;rintro e w2⟨v2,rfl,Q0,z⟩;refine T.out _ _ z ?_;refine vE rfl (by kernel_rfl) λa K T=>?_;go_simp;go_at_call 162;refine jg (C2.out v2 _ Q0 z) ?_;rintro e w3⟨v3,rfl,Ki,s⟩;refine T.out _ _ s ?_;repeat((apply qH _ rfl (by kernel_rfl) rfl;.intro W f;go_simp;try with_reducible rfl);simp only[yq])
 refine CY (by kernel_rfl) λa=>?_;refine qN ?_;have q2:=(λW c=>M (j W c) 2) w3 s;have H3:=cH.mk Ki s;go_wp2_with(go_at_call 166;go_must(refine(C3.out v3 _ H3.a H3.b).mono ?_);rintro e w4⟨v4,rfl,Kh,J⟩;have q3:=(λW c=>M (j W c) 3) w4 J;have H4:=cH.mk Kh J;refine Halt.of ?_);unfold Halt;go_wp2_with(go_at_call 171;go_must(refine(C4.out v4 _ H4.a H4.b).mono ?_);rintro e w5⟨v5,rfl,Q2,Q1⟩;have H5:=cH.mk Q2 Q1;refine Halt.of ?_);unfold Halt;go_wp2;go_ret;exact⟨_,rfl,H5.a,H5.b⟩
attribute [local go_sem] Oper.semAt_some
def lI:KE UInt8 where
 enc:=λb=>V aq (b.toNat:Int);desc:=.int aq;same:=λa b=>by
  simp[EN];by_cases h:a=b;.simp[h]
  .have:a.toNat≠b.toNat:=λe=>h<|UInt8.toNat_inj.1 e;simp[h];omega
 flat:=λP w e n t v h=>by simp[Cj,run_underlying h]
 bits:=λn a=>by cases n<;>simp[EO]
theorem aD9(gf:Nat)(lb)(S:List UInt8->Prop)(R)(w)(P:∀n w,(iA gf n).run Q w=aY (jL gf n) w)(F:Iter Q gf lb (λk=>#[V aq k.toNat]) S R w)(J:∀b,R b->b<w)(hN:∀j,S j->j.length<=1073741824):bz Q 211 #[aE Z 0 0,dM (ez gf) #[] lb] w λe K=>∃j v,e=bj v∧S j∧K.ownsRow w 5 1 v j.length (j.map λb=>V aq b.toNat)∧aW w w K:=by
 obtain⟨a,hi,E,z,u⟩:=Aa JB;refine callsIn_wide (n:=0).1<|callsIn_of_wp_marks aok rfl trivial ?_ rfl;simp only[ntmps211,tF,qi,lG,wS,wP,uN,uM,uL,uK,uJ,qj];gi_wp2;refine wp_rangeFunc (gf:=gf) (lb:=lb) rfl P (F.later<|(aK.alloc (λ_=>False) w _).fI λb c=>⟨J b c,id⟩) λb c=>by have:=J b c;simp;omega (λ_=>rfl) (λf W D=>∃v,jC W w 79 5 1 v f.length (f.map λb:UInt8=>V aq (b.toNat:Int))∧D=nI w v) (λ_ _ _ _=>False) ⟨λf W D⟨v,h,e⟩b c=>h.lt b<|e▸c,λf W D W'⟨v,h,e⟩ha=>⟨v,h.fI λb c=>ha.block b<|e▸c,e⟩⟩ (λ_=>⟨λ_ _ _ h=>h.elim,λ_ _ _ _ h=>h.elim⟩) (nI w<|aE Z 0 0) (λb c=>?_) ⟨_,jC.new w 79 5 1,rfl⟩ ?round ?done ?stop
 ·rcases c with rfl|c;·grind
  ·cases c
 case round=>
  rintro l f x W D Q2 uV H⟨y,N⟩⟨v,i,rfl⟩Q0;have L:f.length+1<=1073741824:=by grind
  gi_wp2;refine⟨⟨.refl _ _,λb c=>c.imp id (·.1)⟩,λW2 p=>?_⟩;have d:=i.fI λb c=>p.block b λe=>H<|e▸c;obtain⟨I,O⟩:=d.cell;have m:=d.row;have t:=d.lt _<|ax rfl;have r:=X d;gi_wp2_with(gi_at_builtin;go_must(refine Sa _ rfl _ _ 79 rfl (w+1) 5 a (V aq 0) 1 1 uv hi E z u rfl (by decide) v f.length (f.map λb:UInt8=>V aq (b.toNat:Int)) rfl (m.alloc _) W2.heap.size 1 1 [V aq (x.toNat:Int)] rfl rfl (cell_one_new _ _ _) (by simp[zh]) (by unfold vg;omega) (by omega) (by simp;omega) ?_);intro v' w1 s o _ C;refine Halt.of ?_);obtain⟨g',M,A⟩:=ownsRow_succ s;have q:w≠v.ownBlock:=λe=>by have:=(m.lt _ e.symm).1;omega
  have sj:=(ei (w:=W2.alloc<|aH #[V aq (x.toNat:Int)] 5)<|o.block _ (by simp;omega) q).trans<|(ei (w:=W2)<|dm _ _ _ t).trans I;have Gp:=(Ad (w:=W2.alloc<|aH #[V aq (x.toNat:Int)] 5)<|o.block _ (by simp;omega) q).trans<|(Ad (w:=W2)<|dm _ _ _ t).trans O;subst A;unfold Halt;gi_wp2;obtain⟨h1,Q1⟩:=(X<|jC.appended (jC.fI r.out λb c=>dm _ _ _<|jC.lt r.out b c) o s C).out;exact⟨_,⟨_,by grind,rfl⟩,Q1.shift (aK.alloc _ _ _) λ_ h=>ax h⟩
 case done=>
  rintro j W D N⟨v,i,rfl⟩T Q3 G;obtain⟨I,O⟩:=i.cell;have r:=X i;gi_wp2;refine⟨by simp,ax ⟨_,_,rfl,vQ Q3,?_⟩⟩;refine⟨_,results_tmp rfl _ _ _,j,v,rfl,(X N).out,dx (FE r.out.row λg B=>Su (r.out.row.lt g B).1) λg B=>qQ λe=>G<|aA<|e▸B,?_⟩;refine G9 ((X T).out.below ((eo _ _).alloc (aS _) _) ?_) (by simp) _;rintro b(rfl|c);·grind
  ·cases c
 grind
theorem aCM(gf:Nat)(lb)(S:List UInt8->Prop)(R)(w)(g:∀a w,(iA gf a).run Q w=aY (jL gf a) w)(d:Iter Q gf lb (λk=>#[V aq k.toNat]) S R w)(i:∀b,R b->b<w)(l:∀c,S c->c.length<=1073741824):bz Q 196 #[dM (ez gf) #[] lb] w λe f=>∃c v,e=bj v/\S c/\f.ownsRow w 5 1 v c.length (c.map λb=>V aq b.toNat)/\aW w w f:=by go_enter aop,ntmps196;go_wp2_with(go_at_call 211;refine(aD9 gf lb S R w g d i l).mono ?_;rintro e m⟨c,v,rfl,h⟩;obtain j:=X h);go_ret;exact⟨c,v,rfl,j.out⟩
theorem avP(z m)(es)(Q0:(es.map (·.1)).Nodup)(w)(Q1:w.cell? z=U (.map m))(hB:dn lI w m es):Iter Q 198 #[.pointer<|U ⟨z,0,Z⟩] (λk=>#[.int .u8 k.toNat]) (λks=>ks.Perm (es.map (·.1))) (λb=>b=z∨b=m) w:=by
 intro l J Jx W D0 hA M GB hR hY h0;have H:=hB.of_block (hA.block m<|by simp);have azR:=(ei (w:=w)<|hA.block z<|by simp).trans Q1;obtain⟨o,Zl,n⟩:=Wz (P:=Q) (T:=245) lI Fs H;have lm:=H.lt;have B3:=Q0;refine Sg acF rfl trivial ?_;simp only[ntmps198,tF,qi,lG,wS,wP,uN,uM,uL,uK,uJ,qj];gi_wp2;gi_loopg[3]es.length(λk _ wr=>∃(d:List UInt8)(D:Nat->Prop),k+d.length=es.length∧vv lI wr m W.heap.size es d∧d.Nodup∧(∀x∈d,x∈es.map (·.1))∧J d wr D∧bS D0 W D wr∧¬D W.heap.size);case atStart=>have r:=M.lt _ _ _ h0;refine⟨[],D0,by simp,n,by simp,by simp,M.st _ _ _ _ h0<|(aK.alloc (λ_=>False) _ _).fI λb t=>⟨r b t,id⟩,.other<|aK.alloc _ _ _,λh=>absurd (r _ h)<|by omega⟩
 case round=>
  obtain⟨d,D,hk,n,B,L,hj,T,I⟩:=hrel;have hDb:∀b,b=z∨b=m->b<W->¬D b:=λb t r hD=>by rcases T.2 b hD with h|h;all_goals grind
  have O:m≠W:=by omega
  have ayI:=n.lt;have HN:=X B3;have HL:=X T;have HJ:=X hj;have HY:=X hY;have Q2:=X L;have R:=X B;have HK:=X hk;rcases WA (P:=Q) lI n O 0 with⟨G,q⟩|⟨x,v,P,Ec,j,q,f,E,BI⟩;·have HA:=X G;gi_wp2;go_end0;refine⟨⟨_,rfl⟩,.inl ⟨_,D,?_,HJ.out,HL.out⟩⟩;exact(Si R.out HN.out).2 λa=>⟨Q2.out a,λp=>by obtain⟨y,S,rfl⟩:=mC.1 p;exact HA.out y S⟩
  ·obtain⟨v',we,u⟩:=WB (P:=Q) lI f;replace q:(Ci (.pointer<|U ⟨W.heap.size,0,Z⟩) ai 0).run Q wr=.ok (.tuple #[.bool Y,.int .u8 (x.toNat:Int),v]) P:=q;replace u:(GV<|.pointer<|U ⟨W.heap.size,0,Z⟩).run Q P=.ok (.tuple #[.int .u8 (x.toNat:Int),v']) P:=u;have K:x∈es.map (·.1):=by grind
   have hlen:d.length<es.length:=by have:=(FZ.2 ⟨j,B⟩).length_le_of_subset (l₂:=es.map (·.1)) (λa p=>by grind);grind
   have BM:=M.st _ _ _ _ hj<|E.fI λb t=>⟨M.lt _ _ _ hj b t,λe=>I<|e▸t⟩;have hL2:=T.step E (λb t e=>by omega);have HX:=X (⟨K,j⟩:x∈es.map (·.1)∧x∉d);have A:=X hL2;obtain⟨F,i⟩:=afc (λ_=>Y) HN.out R.out Q2.out K j rfl;rw[Ji.2<|by simp,Ji.2<|by simp]at i;obtain⟨fn,tmps,N,body,S,c⟩:=HY.out d x P D ⟨F,i⟩ BM;have HR:=X c;have Hr:=X i;have JE:=S;gi_wp2;refine HR.out.mono ?_;rintro e W'(⟨rfl,Q3,s,g⟩|⟨rfl,Q3,s,g⟩)
   ·gi_wp2;gi_roundg(gk-1);case rel=>
     have C:=f.XD (g.1.block _ f.map.lt<|hDb m (by simp) lm)<|g.1.block _ f.lt I;refine⟨d++[x],Q3,by have:=HK.out;grind,C,?_,?_,s,A.out.trans g,?_⟩;·rw[Jm];exact⟨R.out,by simp,λa p b t e=>HX.out.2<|by grind⟩
     ·intro a p;rcases qP.1 p with p|p;·exact Q2.out a p
      ·rw[mA.1 p];exact HX.out.1
     ·intro h;rcases g.2 _ h with h|h;·grind
      ·have:=f.lt;omega
    case measure=>have:=HK.out;omega
   ·gi_wp2;refine vS (results_none rfl _ _ _) rfl ?_;exact⟨⟨_,rfl⟩,.inr ⟨_,Q3,⟨F,by rw[jG];exact Hr.out⟩,s,A.out.trans g⟩⟩
def kQ(xs:List UInt8):List UInt8:=xs.mergeSort λx y=>cg<|x<=y
def abz:Prop:=∀(B:Nat)(v:az)(xs:List UInt8)(w:ay),w.ownsRow B 5 1 v xs.length (xs.map λb=>V aq (b.toNat:Int))->B<=w.heap.size->xs.length<=256->bz Q 197 #[v] w λe w'=>e=bj (bO #[])/\w'.ownsRow B 5 1 v xs.length ((kQ xs).map λb=>V aq (b.toNat:Int))/\aW B w w'
theorem aqv(d:abz)(gf:Nat)(lb)(S)(R)(w)(p:∀c w,(iA gf c).run Q w=aY (jL gf c) w)(i:Iter Q gf lb (λk=>#[V aq k.toNat]) S R w)(s:∀b,R b->b<w)(n:∀a,S a->a.length<=256):bz Q 160 #[dM (ez gf) #[] lb] w λe l=>∃a v,e=bj v/\S a/\l.ownsRow w 5 1 v a.length ((kQ a).map λb=>V aq b.toNat)/\aW w w l:=by have o:=X (aCM gf lb S R w p i s λa h=>bC (n a h)<|by decide);go_enter aoG,ntmps160;go_wp2_with(go_at_call 196;go_must(refine o.out.mono ?_);rintro e q⟨a,v,rfl,r,g,j⟩;have f:=gF.mk r g j;refine Halt.of ?_);unfold Halt;go_wp2_with(go_at_call 197;go_must(refine((X d).out w v a q f.b f.c.size<|(X n).out a f.a).mono ?_);rintro e t⟨rfl,g,j⟩;have m:=cH.mk g j;refine Halt.of ?_);unfold Halt;go_wp2;go_ret;exact⟨a,v,rfl,f.a,m.a,f.c.trans m.b⟩
theorem ahk(m)(w):bz Q 161 #[cq<|U m] w λe a=>e=bj (dM (ez 198) #[] #[aG w])/\a=w.alloc (aH #[cq m] 245):=by go_enter aoF,ntmps161;go_wp2;go_ret;exact⟨rfl,rfl⟩
theorem adn(f:abz)(m)(es)(w)(p:dn lI w m es)(q:(es.map (·.1)).Nodup)(t:es.length<=256)(n)(g:w.cell? ⟨n,0,Z⟩=U (cq m)):bz Q 160 #[dM (ez 198) #[] #[aG n]] w λe o=>∃v,e=bj v∧o.ownsRow w 5 1 v es.length ((kQ (es.map (·.1))).map λb=>V aq b.toNat)∧aW w w o:=by
 refine(aqv f 198 _ (λs=>s.Perm (es.map (·.1))) (λb=>b=n∨b=m) w (λi w=>apa i w) (avP n m es q w g p) (λb u=>by
  rcases u with rfl|rfl;·exact Cp g
  ·exact p.lt) λk h=>by rw[h.length_eq,Jj];exact t).mono ?_;rintro e o⟨k,v,l,j,A,r⟩;refine⟨v,l,?_,r⟩;have z:k.length=es.length:=by rw[j.length_eq,Jj]
 have B:kQ k=kQ (es.map (·.1)):=by
  refine Sk (le:=λx y:UInt8=>x<=y) (λa b _ _ l j=>UInt8.le_antisymm l j) ?_ ?_<|((Jl _ _).trans j).trans (Jl _ _).symm;all_goals have:=MJ (le:=λx y:UInt8=>cg<|x<=y) λa b c l j=>by grind λa b=>by grind
  ·exact(this k).imp λh=>by grind
  ·exact(this _).imp λh=>by grind
 grind
def tD(n:Nat)(k:ByteArray):UInt8:=if h:n<k.size then k[n]else 0
theorem Rr{n}{k}(h):tD n k=k[n]:=yG h
def my(acc:List UInt8):List UInt8->List UInt8|[]=>acc|c::cs=>if c∈acc then my acc cs else my (acc++[c]) cs
def xK(L:List O)(p:ByteArray)(c:UInt8):UInt8×az:=(c,iR<|t<|dS L<|push p c)
theorem aBP:(mJ 128).all λn=>(Utf8.encode n).data.toList==[ru n]=Y:=by kernel_rfl
theorem aCH(c)(h:c.toNat<128)(w):(convert 5 9<|V aq c.toNat).run Q w=aY (aD ⟨#[c]⟩) w:=by
 have:=List.all_eq_true.1 aBP c.toNat<|List.mem_range.2 h;simp only[beq_iff_eq]at this;have e:Utf8.encode (c.toNat:Int)=⟨#[c]⟩:=by rw[<-Lib.mk_data<|Utf8.encode (c.toNat:Int),this];simp
 unfold convert;simp[run_underlying,Conv.intToString,e]
theorem aep:∀(a:List ByteArray),fM aD a=a.map aD|[]=>rfl|k::a=>by show aD k::fM aD a=_;rw[aep a];rfl
theorem Xq(c:UInt8):∀(l a:List UInt8),my a (l++[c])=if c∈my a l then my a l else my a l++[c]|[],a=>rfl|d::l,a=>by simp only[qj,my];split<;>exact Xq c l _
theorem Mp(L:List O)(p:ByteArray)(c:UInt8):∀(l:List UInt8),look (l.map<|xK L p) c=if c∈l then U (xK L p c).2 else Z
 |[]=>rfl|d::l=>by
  simp only[gd,xK,look];by_cases h:d=c;.grind
  .rw[if_neg h,Mp L p c l];simp[MF h,xK]
theorem ae0{t:Type}[DecidableEq t](k:t)(v:az):∀{l:List<|t×az},look l k=Z->put l k v=l++[(k,v)]
 |[],_=>rfl|(a,u)::l,h=>by
  unfold look at h;unfold put;by_cases e:a=k;·grind
  ·rw[if_neg e]at h⊢;rw[ae0 k v h];rfl
structure KdI(N:Nat)(v:az)(ks:List ByteArray)(es:List<|UInt8×az)(w W:ay):Prop where
 map:dn lI W N es
 row:W.ownsRow (N+1) 9 1 v ks.length (ks.map aD)below:aW N w W
theorem PE(w):(lu 76).run Q w=aY (bJ #[V aq 0,V aq 0,V aq 0,V aq 0,V aq 0,V aq 0,V aq 0,V aq 0]) w:=by kernel_rfl
theorem avR(w):(OJ 245 Z).run Q w=aY (cq w) (w.alloc<|iZ #[] 0):=by kernel_rfl
theorem ahh(m)(L)(pfx)(w)(hp:pfx.size<=4096)(K:cI w m L)(hL:L.length<=1073741824)(ht:fQ w)(hF:∀x∈L,Fit x)(N:∀k∈jS<|qS L pfx,pfx.size<k.size∧(tD pfx.size k).toNat<128):bz Q 159 #[cq m,pfx] w λe w'=>∃R,e=bj (cq<|U R)∧dn lI w' R ((my []<|(jS<|qS L pfx).map<|tD pfx.size).map<|xK L pfx)∧w<=R∧aW w w w':=by
 have F:=K.lt;obtain⟨z,p⟩:=ex<|w.alloc<|iZ #[] 0;have u:aW w w z:=by rw[p];exact(eo _ _).alloc (aS _) _
 have B:z.heap.size=w+1:=by rw[p];simp
 have I:dn lI z w []:=by grind[dn.new,lI]
 have HK:=X<|YQ m L pfx z (K.of_block<|u.block m F) hL;obtain⟨ks,r⟩:=ex<|jS<|qS L pfx;have yX:ks.length<=1073741824:=by rw[r,Ip];exact bC (Bz _ _)<|by grind
 rw[<-r]at HK N⊢;have y:=vB.mk p u B I;have J:=vB.mk K ht hF N;clear K ht hF N p u B I r;have ZA:=avR;go_enter aoI,ntmps159;go_wp2_with(go_at_call 86;rw[<-y.a];go_must(refine HK.out.mono ?_);rintro e w2⟨v,rfl,hr,o⟩;have H2:=cH.mk hr o;refine Halt.of ?_);unfold Halt;obtain⟨S,n⟩:=H2;obtain⟨d,s,rfl⟩:=gD S;have O:KdI w (aE d ks.length s) ks [] w w2:=⟨y.d.of_block<|n.block _<|by have:=y.c;omega,by have:=y.c;grind,y.b.trans ⟨n.os,n.tape,n.output,n.size,λb o=>n.block b<|by have:=y.b.size;omega⟩⟩;have H0:=X O;go_wp2;go_loopg[16]ks.lengthλk Q3 wr=>∃(j:Nat),Q3=V aC j∧k+j=ks.length∧KdI w.heap.size (aE d ks.length s) ks ((my []<|(ks.take j).map<|tD pfx.size).map<|xK L pfx) w wr;case atStart=>exact⟨0,rfl,by omega,by simpa[my]using H0.out⟩
 case round=>
  obtain⟨j,rfl,N,i⟩:=hrel;by_cases hj:j<ks.length
  ·obtain⟨g,Cq,hv,hg,hY⟩:=pF.cell (f:=aD) (F:=ks) (w:=wr) (v:=aE d ks.length s) (sz:=1) (T:=9) (by have:=jr i.row<|kI _;unfold pF;rw[aep];exact this) (λ_=>rfl) hj;simp only[oU]at hv;obtain⟨rfl,-,rfl⟩:=hv;have y0:wr.cell? ⟨g,j,Z⟩=U (aD ks[j]):=by have:=hY 0 (aD ks[j]) (by decide) rfl;rwa[Nat.mul_one]at this
   have A:=J.d ks[j]<|lV hj;obtain⟨k,QW⟩:=ex ks[j];rw[<-QW]at y0 A;obtain⟨c,D⟩:=A;have hi1:(pfx.size:Int)<(k.size:Int):=by omega
   have nB:(j:Int)<(ks.length:Int):=by omega
   have h:=gF.mk i QW D;clear i hY QW D;obtain⟨es,E⟩:=ex<|(my []<|(ks.take j).map<|tD pfx.size).map<|xK L pfx;rw[<-E]at h;have M:=X E;rcases l:look es (k[pfx.size]'c)with _|x
   ·have C:=X l;have hcv:=aCH (k[pfx.size]'c) (by rw[<-Rr c];exact h.c);go_wp2_with(first|(at_lookup;refine Hx _ lI rfl _ _ 245 rfl 5 76 Fs zL _ (PE _) w.heap.size es (k[pfx.size]'c) rfl h.a.map rfl ?_;rw[C.out];simp only[Option.getD_none,Option.isSome_none])|(go_at_call 51;go_must(refine((X λW o=>aaY m L _ W (J.a.of_block<|o.block m F) hL (J.b.below o<|aS _) J.c).out _<|h.a.below.alloc h.a.below.size _).mono ?_);rintro e w5⟨rfl,f⟩;have H5:=X f;refine Halt.of ?_));unfold Halt;go_wp2_with(at_mapUpdate;refine PK _ lI rfl _ _ _ 245 rfl 5 76 Fs zL w.heap.size es (k[pfx.size]'c) (iR<|t<|dS L<|push pfx<|k[pfx.size]'c) rfl (h.a.map.of_block<|(H5.out.block _<|by simp;have:=h.a.map.lt;omega).trans<|dm _ _ _ h.a.map.lt) rfl rfl ?_;intro w6 P Q2 F8;have q:=gF.mk P Q2 F8;refine Halt.of ?_);unfold Halt;go_wp2;go_roundg(gk-1);case rel=>
     refine⟨j+1,by go_simp,by omega,?_⟩;have i:=h.a;have f:=H5.out;have lZ:=f.size;simp only[vX]at lZ;have SL:∀b,w.heap.size<b->b<wr->w6.heap[b]?=wr.heap[b]?:=λb h1 h2=>(q.b.block b (by omega)<|by omega).trans<|(f.block b<|by simp;omega).trans<|dm _ _ _ h2;have H:∀b,b<w.heap.size->w6.heap[b]?=wr.heap[b]?:=λb h1=>by have h2:=i.below.size;exact(q.b.block b (by omega)<|by omega).trans<|(f.block b<|by simp;omega).trans<|dm _ _ _<|by omega
     have T:my [] ((ks.take<|j+1).map<|tD pfx.size)=my [] ((ks.take j).map<|tD pfx.size)++[k[pfx.size]'c]:=by rw[xH,oS hj,By,vT,<-h.b,gd,tG,Xq,Rr c,if_neg];intro Q1;have:=C.out;rw[M.out,Mp,dy Q1]at this;grind
     refine⟨?_,dx i.row λb o=>SL b (by have:=(i.row.lt b o).1;omega) (i.row.lt b o).2,i.below.trans ⟨q.b.os.trans f.os,q.b.tape.trans f.tape,q.b.output.trans f.output,by have:=q.c;omega,H⟩⟩;have:=q.a;rw[ae0 _ _ C.out,M.out]at this;rw[T,vT];exact this
    case measure=>omega
   ·have a:x=iR (t<|dS L<|push pfx<|k[pfx.size]'c)∧k[pfx.size]'c∈my [] ((ks.take j).map<|tD pfx.size):=by
     rw[M.out,Mp]at l;split at l;·rename_i Q1;exact⟨(tE l).symm,Q1⟩
     ·cases l
    obtain⟨d0,d1,d2,d3,d4,d5,d6,d7,hD⟩:∃d0 d1 d2 d3 d4 d5 d6 d7:Int,x=bJ #[V aq d0,V aq d1,V aq d2,V aq d3,V aq d4,V aq d5,V aq d6,V aq d7]:=⟨_,_,_,_,_,_,_,_,a.1⟩;have C:=X l;have HM:=X a.2;clear a l;subst hD;go_wp2_with(at_lookup;refine Hx _ lI rfl _ _ 245 rfl 5 76 Fs zL _ (PE _) w.heap.size es (k[pfx.size]'c) rfl h.a.map rfl ?_;rw[C.out];simp only[fV,YK]);go_roundg(gk-1);case rel=>
     refine⟨j+1,by go_simp,by omega,?_⟩;have i:=h.a;have T:my [] ((ks.take<|j+1).map<|tD pfx.size)=my [] ((ks.take j).map<|tD pfx.size):=by rw[xH,oS hj,By,vT,<-h.b,gd,tG,Xq,Rr c,dy HM.out]
     rw[T,<-M.out];exact⟨i.map.alloc _,dx i.row λb o=>dm _ _ _ (i.row.lt b o).2,i.below.alloc i.below.size _⟩
    case measure=>omega
  ·have Q0:j=ks.length:=by omega
   subst Q0;have h:=X i;go_wp2;go_ret;exact⟨_,rfl,by have:=h.out.map;rw[uF]at this;exact this,aS _,h.out.below⟩
end
end Go.Proofs.YtpdbmpbmepkikaaGreatDoor
