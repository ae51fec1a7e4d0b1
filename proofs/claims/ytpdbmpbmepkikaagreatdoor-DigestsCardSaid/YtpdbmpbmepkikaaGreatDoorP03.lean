/- Laws. -/
import Derived.Test.YtpdbmpbmepkikaaGreatDoorProg
import Derived.Test.YtpdbmpbmepkikaaGreatDoorP02
set_option maxRecDepth 100000
set_option maxHeartbeats 400000
set_option linter.all false
open Go.Proofs.Tryz
open Bool renaming true->Z,false->ai
open Classical renaming choose->Fh
open Go renaming Goroutine->aU,Frame->aX,undef->ak,World->av,Value->ay,Calls->bE,Program->bU,stepG->bZ,Sem->cy,Oper->dD,Func->dV,yielded->dY,TypeId->dZ,Addr->eK,Item->eS,FuncId->fb,lone->iH,Event->iW,results->jN,doReturn->nC
open Go.CallKind renaming normal->er
open Go.Code renaming region->dQ,seq->eE
open Go.Departure renaming mixedOrders->mE
open Go.Ending renaming returned->bj
open Go.Extern.ReflectliteType renaming relation->Il,toType->Qq,typeOf->Qr,method->Qu,assignableTo->Xo,abiMethod->Xt,elem->ag2,implements_->agV
open Go.Extern.ReflectliteValue renaming valueError->AO,method->AP,parts->Fa,unpack->LI,set->Mf,isNil->Qm,elem->Qp,methodAny->Qs,partsAny->Xr,mk->ag4
open Go.Extern.Rtype renaming kind->Ic,directlyAssignable->Ik
open Go.Frame renaming oper?->LM,enter->eO,pos->oe
open Go.FrameMode renaming returning->fC
open Go.GStep renaming go->bS,ended->ff
open Go.GoStatus renaming running->dM
open Go.Instr renaming takeDeferred->Qn
open Go.IntKind renaming i64->aH,u8->aq,u64->cK
open Go.Item renaming inRegion->aP,code->bD,inBlock->lI
open Go.Obj renaming deferred->wG
open Go.Op renaming assign->oh
open Go.Operand renaming tmp->cu,const->gB
open Go.Outcome renaming stuck->jO
open Go.Program renaming methodsOfAPack->azb
open Go.Proofs.Tryz renaming prog->aC,f41->nG
open Go.Region renaming wanted->eP,schedule->lZ
open Go.Result renaming ok->aV,halt->dL
open Go.Sem renaming runT->fe
open Go.Stepped renaming next->fQ
open Go.Target renaming collected->Ie
open Go.Value renaming int->Y,slice->aD,pointer->aE,string->aG,agg->bN,tuple->bO,chan->cY,map->cj,bool->cz,func->dH,iface->iv,nilIface->mF
open Go.stepG renaming oper->CS,exec->va,apply->vb
open List renaming range->lW
open Option renaming some->U,none->V
open Or renaming inr->aA,inl->ax
open Pure renaming pure->bH
namespace Go.Proofs.YtpdbmpbmepkikaaGreatDoor
def iM:=@if_true
def Gv:=@Array.mapM_eq_mapM_toList
def Oz:=@List.mapM_nil
def Gu:=@List.mapM_cons
def xA:=@dif_pos
def UB:=@Array.getElem_mem
def Ej:=@dif_neg
def Ah:=@Nat.zero_add
def nq:=@Classical.byContradiction
def yI:=@Classical.choose_spec
def acW:=@Nat.exists_eq_add_of_le
def acV:=@List.getElem?_append_left
def pR:=@List.getElem?_eq_getElem
def rY:=@Option.some.inj
def UA:=@Array.getElem?_setIfInBounds
def JX:=@List.map_congr_left
section
variable{ρ:Nat->Nat}{I:H}{q:bU}{fs:Array dV}{N M:Nat}{nm:String->Bool}{L:Option Nat}{X:fb->Prop}{b:aX}{bs B':List aX}{w v:av}{m m':Bool}
theorem fN.DY{fr fr'}(h:fN ρ I q nm N fr fr'):∀d x y z k,fr.todo≠ .call d x y z::k:=λd x y z k e=>by
 have:=h.E5 (.call d x y z) (by grind)
 cases this
theorem fN.JF{fr fr'}(h:fN ρ I q nm N fr fr'):∀d x y z k,fr'.todo≠ .call d x y z::k:=λd x y z k e=>h.DY d x y z k (h.todo.symm.trans e)
theorem aoh(hL:mJ I q fs nm)(c:Same I q fs nm X){fr fr':aX}{cs cs':List aX}(h:fN ρ I q nm w.heap.size fr fr')(t:gQ ρ I q nm w.heap.size cs cs'){s K:cy Next}
  (hs:W ρ I (J q fs) q (Bf ρ I q fr) w.heap.size s K) (hW:dN ρ I L w v) (g:∀i,ρ (w.heap.size+i)=v.heap.size+i):
  u ρ I L (b::bs) (After ρ I q fs nm X b bs B') w v (vb (J q fs) Z fr (cs++b::bs) V s w) (vb q Z fr' (cs'++B') V K v):=by
 have E:=W.alike hs w v #[] #[] rfl hW g;have n1:=h.DY;have Q3:=h.JF;unfold vb;simp only[iM];have S:=W.alike (L:=V) hs w {v with tape:=w.tape,drawn:=w.drawn} #[] #[] rfl hW.full g;generalize s.runT (J q fs) w #[]=R at E S⊢;generalize K.runT q {v with tape:=w.tape,drawn:=w.drawn} #[]=R2 at S;generalize K.runT q v #[]=R' at E⊢;obtain⟨r,es⟩:=R;obtain⟨r',es'⟩:=R';cases r with
 |halt x G=>
  obtain⟨F,w0,h0,T,Q⟩:=E;cases x<;>first|exact trivial|exact absurd F o8|skip
  case panic p=>exact u.off (ju.Xb (aA h) t h0 T Q)
  case unsupported QX=>
   cases QX<;>first|exact trivial|cases F
 |ok a G=>
  obtain⟨P,E⟩:=E;by_cases n:∀D,L=U D->G.drawn<=D
  case neg=>
   obtain⟨_,_,_,_,C,_,_,_⟩:=S.2 (by simp)
   cases C with
   |gh QW C=>cases C<;>exact u.past P n
   |arg=>exact u.past P n
   |enter=>exact u.past P n
  obtain⟨b0,v1,e1,e,C,l,B,hE⟩:=E n;obtain⟨rfl,rfl⟩:=Prod.mk.inj e;have A:w.heap.size<=G.heap.size:=B.nM;have j:∀e∈(#[]++e1:Array iW),wP ρ I G.heap.size e:=by grind
  cases C with
  |arg Q2 hv=>
   refine u.after (u.go l (.within (aA ((h.mono A).WO λops i Q0 k ht o d ho hd'=>?_)) (t.mono A))) B g (kept j)
   grind
  |enter QW H y=>
   refine u.after ?_ B g (kept j);dsimp only;split
   ·grind
   ·split
    ·rename_i e;grind
    ·exact u.go l (.within (cs:=fr::cs) (cs':=fr'::cs') (aA (fN.yX c H y)) (.cons (aA ⟨h.mono A,QW⟩) (t.mono A)))
  |gh QW C=>
   have z:oA ρ I q nm G.heap.size fr fr':=aA ⟨h.mono A,QW⟩;cases C with
   |value hv=>exact u.after (u.go l (.within (z.finish hv) (t.mono A))) B g (kept j)
   |skip=>exact u.after (u.go l (.within (z.finish (RV.plain tu)) (t.mono A))) B g (kept j)
   |enter H Q1 y=>
    refine u.after ?_ B g (kept j);dsimp only;split
    ·rename_i e;exact absurd e (n1 _ _ _ _ _)
    ·split
     ·rename_i e;exact absurd e (Q3 _ _ _ _ _)
     ·rename_i f l7 pI _ _ _ _;refine u.go l ?_;by_cases F:X f
      ·exact .cut (ax F) y z (t.mono A)
      ·exact .within (cs:=fr::cs) (cs':=fr'::cs') (ax (eW.yX c H F Q1 y)) (.cons z (t.mono A))
   |Xg hc y=>
    refine u.after ?_ B g (kept j);dsimp only;split
    ·rename_i e;exact absurd e (n1 _ _ _ _ _)
    ·split
     ·rename_i e;exact absurd e (Q3 _ _ _ _ _)
     ·exact u.go l (.cut (aA hc) y z (t.mono A))
   |round hl H O ha Q1=>
    refine u.after (u.go l ?_) B g (kept j);exact .within (cs:=fr::cs) (cs':=fr'::cs') (ax (eW.aaJ c hl H O ha Q1)) (.cons z (t.mono A))
theorem aiP{D}(ops){e c}(h:rA ρ I N D e c)(j):dY ops c j=dY ops e j:=by
 unfold dY;cases (ops[j]?).bind (·.dst) with
 |none=>rfl
 |some d=>
  simp only[xC];cases g:e[d]? with
  |none=>rw[xB (by rw[h.size];grind)]
  |some v=>
   cases f:D d with
   |true=>
    obtain⟨l,i,k⟩:=h.arg d v g f;rw[i];rcases k with⟨rfl,_⟩|⟨_,_,rfl,rfl⟩<;>rfl
   |false=>
    rw[(h.here d v g f).2];cases v<;>rfl
theorem fN.to{fr fr'}(h:fN ρ I q nm N fr fr'){l}(c:∀i∈l,CM I q nm (I.D fr.fn) i=Z):fN ρ I q nm N {fr with todo:=l} {fr' with todo:=l}:=
 ⟨h.fn,h.here,h.df,h.tmps,rfl,c,h.E7,h.Qb,h.mode,h.vC,h.qG,h.vS,h.F7,h.NG⟩
theorem fN.ret{fr fr'}(h:fN ρ I q nm N fr fr'):fN ρ I q nm N {fr with mode:=fC} {fr' with mode:=fC}:=
 ⟨h.fn,h.here,h.df,h.tmps,h.todo,h.E5,h.E7,h.Qb,rfl,aA rfl,h.qG,h.vS,h.F7,h.NG⟩
theorem anu(S:uk ρ I L q fs nm X w v){fr fr'}{cs cs'}(h:fN ρ I q nm w.heap.size fr fr')(t:gQ ρ I q nm w.heap.size cs cs'){ops}{i}{l}{k}(g:fr.todo=aP ops (i::l)::k):
  u ρ I L (b::bs) (After ρ I q fs nm X b bs B') w v (CS (J q fs) Z fr (cs++b::bs) V w) (CS q Z fr' (cs'++B') V v):=by
 have n:=h.todo.trans g;have j:=h.E5 (aP ops (i::l)) (by grind)
 have r:fr.oper? =ops[i]? :=by unfold LM;grind
 have p:fr'.oper? =ops[i]? :=by unfold LM;grind
 unfold CS;rw[r,p];cases f:ops[i]? with
 |none=>exact trivial
 |some o=>
  simp only[CM,kC] at j;have d:=j o (tI f);have s:∀c,o.op≠ .defer c:=λc e=>by
   unfold CL yx Ia at d
   grind
  have:=aoh (b:=b) (bs:=bs) (B':=B') S.lay S.same h t (aor S h g f d) S.ku S.shift
  grind
def RVl(ρ:Nat->Nat)(I:H)(N:Nat)(l l':List ay):Prop:=(∀v∈l,S I N v=Z)∧l'=l.map (F ρ)
theorem anp{D:Nat->Bool}{fn k:dV}(o:k.results=fn.results)(u:fn.results.all (zQ D)=Z){T A:Array ay}(h:rA ρ I N D T A):W ρ I (J q fs) q (RV ρ I) N (jN fn T) (jN k A):=by
 have f:∀{M:Nat} (t:Nat),N<=M->D t=ai->RV ρ I M (T.getD t ak) (A.getD t ak):=λ{M} t g C=>by
  rw[iz,iz];cases E:T[t]? with
  |none=>rw[xB (by rw[h.size];grind)];exact RV.plain tu
  |some v=>obtain⟨i,H⟩:=h.here t v E C;rw[H];exact⟨eX g i,rfl⟩
 unfold jN;rw[o,Gv,Gv];simp only[kC] at u;have p:∀(l:List ResultVar) (M:Nat),N<=M->(∀r∈l,zQ D r=Z)->W ρ I (J q fs) q (RVl ρ I) M (l.mapM λ |.tmp t=>bH (T.getD t ak)|.cell a t=>do loadVar t (<-asAddr (T.getD a ak))) (l.mapM λ |.tmp t=>bH (A.getD t ak)|.cell a t=>do loadVar t (<-asAddr (A.getD a ak))):=by
  intro l;induction l with
  |nil=>intro M g _;rw[Oz,Oz];exact .pure' ⟨by simp,rfl⟩
  |cons x l F=>
   intro M g n;rw[Gu,Gu];have s:=n x (by simp)
   refine W.bind' (R:=RV ρ I) ?_ ?_
   ·cases x with
    |tmp t=>exact .pure' (f t g (by simpa[zQ] using s))
    |cell a t=>
     refine W.bind' (Jq (f a g (by simpa[zQ] using s))) ?_
     grind[Bz]
   ·rintro K a P B ⟨R,rfl⟩;refine W.bind' (F K (bq g B) λr o=>n r (by grind)) ?_
    rintro O c S d ⟨Q,rfl⟩;refine .pure' ⟨λv y=>?_,rfl⟩
    grind[eX]
 have i:=p fn.results.toList N (aW _) λr o=>u r (by grind)
 show W ρ I (J q fs) q (RV ρ I) N ((Functor.map List.toArray _)>>=_) ((Functor.map List.toArray _)>>=_);refine W.bind' (R:=bu ρ I) (W.bind i (k':=λl=>.pure l.toArray) (k:=λl=>.pure l.toArray) ?_) ?_
 ·rintro M l Q0 g ⟨n,rfl⟩;exact .pure ⟨λv y=>n v (by grind),by simp⟩
 ·rintro M G z g e;refine .pure' ?_;have j:=e.size;by_cases i:G.size=1
  ·rw[xA i,xA (by rw[j];exact i)]
   refine⟨e.1 _ (UB _),?_⟩;obtain⟨_,rfl⟩:=e;simp
  ·rw[Ej i,Ej (by rw[j];exact i)]
   exact RV.tuple e
theorem am8(F:zC I q m' B')(S:uk ρ I L q fs nm X w v){fr fr'}{cs cs'}(h:fN ρ I q nm w.heap.size fr fr')(t:gQ ρ I q nm w.heap.size cs cs')(E:fr.mode=fC):
  u ρ I L (b::bs) (After ρ I q fs nm X b bs B') w v (unwind (J q fs) m fr (cs++b::bs) V w) (unwind q m' fr' (cs'++B') V v):=by
 have z:=h.mode.trans E;obtain⟨C,j,k,p,D,l,B⟩:=fr;obtain⟨o,i,e,Q3,y,g,n⟩:=fr';subst E z;have Q2:=h.fn;subst Q2;have O:=h.E7;have R:=h.Qb;subst O R;obtain⟨K,Q,f,c,G,a,d,Q1,_⟩:=S.same.Xd o h.df;show u _ _ _ _ _ w v (match fs[o]? with|none=>_|some C=>_) (match q.funcs[o]? with|none=>_|some C=>_)
 rw[((S.same.same o K Q).1),G];refine u.of_run (q:=q) (fs:=fs) (fn:=o) (f:=λr=>match r with
  |aV x w=>nC (J q fs) m ⟨o,j,k,[],fC,l,B⟩ (cs++b::bs) V x w
  |dL (.stuck s) w=>ff (jO s (oe (J q fs) ⟨o,j,k,[],fC,l,B⟩)) w
  |dL _ w=>ff (jO "return: the result variables cannot be read" (oe (J q fs) ⟨o,j,k,[],fC,l,B⟩)) w)
  (f':=λr=>match r with
  |aV x w=>nC q m' ⟨o,i,e,[],fC,g,n⟩ (cs'++B') V x w
  |dL (.stuck s) w=>ff (jO s (oe q ⟨o,i,e,[],fC,g,n⟩)) w
  |dL _ w=>ff (jO "return: the result variables cannot be read" (oe q ⟨o,i,e,[],fC,g,n⟩)) w)
  (anp rfl Q1 h.tmps) S.ku S.shift ?_ ?_
 ·intro L x Q0 P W T H A _;exact NA F h.qG h.vS h.here (t.mono T) H A
 ·intro x P _;cases x<;>exact ax ⟨_,_,_,rfl⟩
theorem anV(hB:zC I q m' B')(S:uk ρ I L q fs nm X w v){fr fr':aX}{cs cs':List aX}(h:fN ρ I q nm w.heap.size fr fr')(t:gQ ρ I q nm w.heap.size cs cs'):
  u ρ I L (b::bs) (After ρ I q fs nm X b bs B') w v (va (J q fs) m Z fr (cs++b::bs) V w) (va q m' Z fr' (cs'++B') V v):=by
 have Ky:=h.todo;have GZ:=h.F7;have As:=h.NG;obtain⟨D,A,todo,p,H,E,ro⟩:=fr;obtain⟨G,y,Q2,s,Q3,B,ro'⟩:=fr';simp only at Ky GZ As;subst Ky GZ As;have C:∀l:List eS,(∀i∈l,CM I q nm (I.D D) i=Z)->u ρ I L (b::bs) (After ρ I q fs nm X b bs B') w v (bS (r (⟨D,A,l,p,H,E,V⟩:aX) (cs++b::bs)) w) (bS (r (⟨G,y,l,s,Q3,B,V⟩:aX) (cs'++B')) v):=
  λl hl=>u.go S.ku (.within (aA (h.to hl)) t)
 have O:∀(j:Option Code) (o o':Outcome),u ρ I L (b::bs) (After ρ I q fs nm X b bs B') w v
   (if j matches V|some .ret then bS (r (⟨D,A,Q2,p,fC,E,V⟩:aX) (cs++b::bs)) w else ff o w)
   (if j matches V|some .ret then bS (r (⟨G,y,Q2,s,fC,B,V⟩:aX) (cs'++B')) v else ff o' v):=λj o o'=>by
  have go1:=u.go (B:=b::bs) (A:=After ρ I q fs nm X b bs B') S.ku (.within (aA h.ret) t);cases j with
  |none=>grind
  |some c=>cases c<;>first|grind|exact trivial
 have tW:=h.eval S.fair S.low;unfold va;cases Q2 with
 |nil=>exact O V _ _
 |cons i k=>
  have Q:=h.E5 i (by simp)
  have R:∀j∈k,CM I q nm (I.D D) j=Z:=λj hj=>h.E5 j (by grind)
  simp only at Q;cases i with
  |call _ _ _ _=>cases Q
  |extern _ _=>cases Q
  |inScope _=>cases Q
  |inRangeFunc l=>cases Q
  |endRangeFunc l=>cases Q
  |beginRound=>cases Q
  |inBlock id=>exact C k R
  |inLoop c=>exact C (bD c:: .inLoop c::k) (gU.2 ⟨Q,gU.2 ⟨Q,R⟩⟩)
  |inRegion f l=>
   cases l with
   |nil=>exact C k R
   |cons i l=>
    have hy:dY f y=dY f A:=funext (aiP f h.tmps);have h1:=anu (b:=b) (bs:=bs) (B':=B') S h t rfl;have h2:u ρ I L (b::bs) (After ρ I q fs nm X b bs B') w v (bS (r ((⟨D,A,aP f (i::l)::k,p,H,E,V⟩:aX).finish ak) (cs++b::bs)) w) (bS (r ((⟨G,y,aP f (i::l)::k,s,Q3,B,V⟩:aX).finish ak) (cs'++B')) v):=
     u.go S.ku (.within (aA (h.WO λ_ _ _ _ _ o d _ _=>⟨λ_=>⟨(rP (ρ:=ρ) tu).1,(rP (ρ:=ρ) (I:=I) (N:=w.heap.size) tu).2.symm⟩,λ_=>l8.undef⟩)) t)
    by_cases hw:((f[i]?).map (eP · (dY f A))).getD ai=Z
    ·grind
    ·have hw':¬((f[i]?).map (eP · (dY f y))).getD ai=Z:=by grind
     show u _ _ _ _ _ w v (if((f[i]?).map (eP · (dY f A))).getD ai=Z then _ else _) (if((f[i]?).map (eP · (dY f y))).getD ai=Z then _ else _)
     rw[if_neg hw,if_neg hw'];exact h2
  |code c=>
   have K:lF I q nm (I.D D) c=Z:=Q;cases c with
   |scope _=>cases K
   |label _=>cases K
   |goto _=>cases K
   |rangeFunc _ _ _ _=>cases K
   |refuse _=>exact trivial
   |ret=>exact O (U .ret) _ _
   |skip=>exact C k R
   |seq a c=>
    simp only[lF,cS] at K;exact C (bD a::bD c::k) (gU.2 ⟨K.1,gU.2 ⟨K.2,R⟩⟩)
   |block id c=>exact C (bD c::lI id::k) (gU.2 ⟨K,gU.2 ⟨rfl,R⟩⟩)
   |loop c=>exact C (bD c:: .inLoop c::k) (gU.2 ⟨K,gU.2 ⟨K,R⟩⟩)
   |cond x a c=>
    simp only[lF,cS] at K;obtain⟨e,e2⟩:=tW x K.1.1;have P:∀(QX u':ay) (o o':Outcome),u'=F ρ QX->u ρ I L (b::bs) (After ρ I q fs nm X b bs B') w v
      (match QX with
       |cz z=>bS (r ⟨D,A,bD (if z then a else c)::k,p,H,E,V⟩ (cs++b::bs)) w
       |_=>ff o w)
      (match u' with
       |cz z=>bS (r ⟨G,y,bD (if z then a else c)::k,s,Q3,B,V⟩ (cs'++B')) v
       |_=>ff o' v):=by
     rintro QX _ o o' rfl;cases QX<;>try exact trivial
     rename_i z;cases z with
     |true=>exact C (bD a::k) (gU.2 ⟨K.1.2,R⟩)
     |false=>exact C (bD c::k) (gU.2 ⟨K.2,R⟩)
    exact P _ _ _ _ e2
   |exit id=>
    have P:∀(o:Option (List eS)) (g g':GStep),(∀l,o=U l->∀i∈l,CM I q nm (I.D D) i=Z)->u ρ I L (b::bs) (After ρ I q fs nm X b bs B') w v g g'->
      u ρ I L (b::bs) (After ρ I q fs nm X b bs B') w v (o.elim g λl=>bS (r ⟨D,A,l,p,H,E,V⟩ (cs++b::bs)) w) (o.elim g' λl=>bS (r ⟨G,y,l,s,Q3,B,V⟩ (cs'++B')) v):=by
     rintro o g g' ho hg;cases o with
     |none=>exact hg
     |some l=>exact C l (ho l rfl)
    exact P (exitTo id k) _ _ (λl hl i Q=>R i (Lt id k l hl i Q)) (O (U (.exit id)) _ _)
   |region id f d=>
    have W:CM I q nm (I.D D) (aP f [])=Z:=K;cases d with
    |false=>exact C (aP f (lW f.size)::k) (gU.2 ⟨W,R⟩)
    |true=>
     have tV:G=D:=h.fn;subst tV;have go2:∀(n:Nat) (T Q0:av),dN ρ I L T Q0->fg ρ I w v T Q0->T.heap.size=w.heap.size->u ρ I L (b::bs) (After ρ I q fs nm X b bs B') w v
       (bS (r ⟨G,A,aP f (lZ (q.follows mE) f n)::k,p,H,E,V⟩ (cs++b::bs)) T)
       (bS (r ⟨G,y,aP f (lZ (q.follows mE) f n)::k,s,Q3,B,V⟩ (cs'++B')) Q0):=λn T Q0 Q1 hT hs=>
      aA ⟨hT.CJ,λ_=>⟨_,Q0, #[],rfl,.within (aA ((h.mono (by omega)).to (l:=aP f (lZ (q.follows mE) f n)::k) (gU.2 ⟨W,R⟩))) (t.mono (by omega)),Q1,hT,by simp⟩⟩
     have P:∀(n:Nat) (T Q0:av) (QW r':Result Nat),QW=aV n T->r'=aV n Q0->dN ρ I L T Q0->fg ρ I w v T Q0->T.heap.size=w.heap.size->u ρ I L (b::bs) (After ρ I q fs nm X b bs B') w v
       (match QW with
        |aV t w=>bS (r ⟨G,A,aP f (lZ ((J q fs).follows mE) f t)::k,p,H,E,V⟩ (cs++b::bs)) w
        |dL _ w=>ff (jO "order" (oe (J q fs) ⟨G,A,bD (dQ id f Z)::k,p,H,E,V⟩)) w)
       (match r' with
        |aV t w=>bS (r ⟨G,y,aP f (lZ (q.follows mE) f t)::k,s,Q3,B,V⟩ (cs'++B')) w
        |dL _ w=>ff (jO "order" (oe q ⟨G,y,bD (dQ id f Z)::k,s,Q3,B,V⟩)) w):=by
      rintro n T Q0 _ _ rfl rfl Q1 hT hs;exact go2 n T Q0 Q1 hT hs
     rcases aai (p:=J q fs) (q:=q) (.order G id) S.ku with⟨n,e,e2⟩|⟨n,e,e2⟩|⟨n,e,hn⟩
     ·exact P n w v _ _ e e2 S.ku (fg.refl _ _) rfl
     ·exact P n _ _ _ _ e e2 S.ku.draw (fg.draw _ _) rfl
     ·have U0:∀(QW:Result Nat) (g:GStep),QW=aV n {w with drawn:=w.drawn+1}->u ρ I L (b::bs) (After ρ I q fs nm X b bs B') w v
       (match QW with
        |aV t w=>bS (r ⟨G,A,aP f (lZ ((J q fs).follows mE) f t)::k,p,H,E,V⟩ (cs++b::bs)) w
        |dL _ w=>ff (jO "order" (oe (J q fs) ⟨G,A,bD (dQ id f Z)::k,p,H,E,V⟩)) w) g:=by
       rintro _ g rfl;exact u.past (GH _) hn
      exact U0 _ _ e
theorem bu.getD{c a}(h:bu ρ I N c a)(t):RV ρ I N (c.getD t ak) (a.getD t ak):=by
 rw[iz,iz];cases d:c[t]? with
 |none=>rw[h.get_none d];exact RV.plain tu
 |some v=>obtain⟨f,e⟩:=h.get d;rw[e];exact⟨f,rfl⟩
theorem ZN{t:Type}{f f':t->cy ay}:∀(l:List t) (N:Nat),(∀x M,N<=M->W ρ I (J q fs) q (RV ρ I) M (f x) (f' x))->W ρ I (J q fs) q (RVl ρ I) N (l.mapM f) (l.mapM f')
 | [],N,d=>by rw[Oz,Oz];exact .pure' ⟨by simp,rfl⟩
 |x::l,N,d=>by
  rw[Gu,Gu];refine W.bind' (d x N (aW _)) ?_;rintro M a j g ⟨n,rfl⟩;refine W.bind' (ZN l M λx K e=>d x K (bq g e)) ?_;rintro K c h e ⟨k,rfl⟩;refine .pure' ⟨λv i=>?_,rfl⟩
  grind[eX]
theorem anq{fn e}(o:e.results=fn.results){f c}(h:bu ρ I N f c):W ρ I (J q fs) q (RV ρ I) N (jN fn f) (jN e c):=by
 unfold jN;rw[o,Gv,Gv];have i:=ZN (ρ:=ρ) (I:=I) (q:=q) (fs:=fs) (f:=λ |.tmp t=>bH (f.getD t ak)|.cell a t=>do loadVar t (<-asAddr (f.getD a ak))) (f':=λ |.tmp t=>bH (c.getD t ak)|.cell a t=>do loadVar t (<-asAddr (c.getD a ak))) fn.results.toList N (λx M g=>by
  cases x with
  |tmp t=>exact .pure' ((h.mono g).getD t)
  |cell a t=>
   refine W.bind' (Jq ((h.mono g).getD a)) ?_
   grind[Bz])
 show W ρ I (J q fs) q (RV ρ I) N ((Functor.map List.toArray _)>>=_) ((Functor.map List.toArray _)>>=_);refine W.bind' (R:=bu ρ I) (W.bind i (k':=λl=>.pure l.toArray) (k:=λl=>.pure l.toArray) ?_) ?_
 ·rintro M l r g ⟨k,rfl⟩;exact .pure ⟨λv s=>k v (by grind),by simp⟩
 ·rintro M n p g d;refine .pure' ?_;have j:=d.size;by_cases i:n.size=1
  ·rw[xA i,xA (by grind)]
   refine⟨d.1 _ (UB _),?_⟩;obtain⟨_,rfl⟩:=d;simp
  ·rw[Ej i,Ej (by grind)]
   grind[RV.tuple]
theorem am9(T:zC I q m' B')(S:uk ρ I L q fs nm X w v){fr fr'}{cs cs'}(h:eW ρ I q nm w fr fr')(t:gQ ρ I q nm w cs cs')(O:fr.mode=fC):
  u ρ I L (b::bs) (After ρ I q fs nm X b bs B') w v (unwind (J q fs) m fr (cs++b::bs) V w) (unwind q m' fr' (cs'++B') V v):=by
 have y:=h.mode.trans O;obtain⟨G,i,j,C,a,n,A⟩:=fr;obtain⟨o,g,d,z,Q2,e,p⟩:=fr';simp only at O y;subst O y;have E:o=G:=h.fn;subst E;obtain⟨l,hl,Q0,c⟩:=h.defers;simp only at Q0 c;subst Q0 c;unfold unwind;cases l with
 |cons r l=>
  have D:∀x∈l,I.blk w x=Z:=by grind
  refine u.of_run (q:=q) (fs:=fs) (fn:=o) (f:=λQ=>match Q with
   |aV QX w=>bS {frame:=⟨o,i,j,QX++l.map (λr=>{target:=Ie r,args:= #[]}),fC,n,A⟩,callers:=cs++b::bs,status:=dM,dying:=V} w
   |dL _ w=>ff (jO "the deferred calls of a range-over-func loop have been taken" (oe (J q fs) ⟨o,i,j,(r::l).map (λr=>{target:=Ie r,args:= #[]}),fC,n,A⟩)) w)
   (f':=λQ=>match Q with
   |aV QX w=>bS {frame:=⟨o,g,d,QX++l.map (λr=>{target:=Ie (ρ r),args:= #[]}),fC,e,p⟩,callers:=cs'++B',status:=dM,dying:=V} w
   |dL _ w=>ff (jO "the deferred calls of a range-over-func loop have been taken" (oe q ⟨o,g,d,(r::l).map (λr=>{target:=Ie (ρ r),args:= #[]}),fC,e,p⟩)) w)
   (anc (hl r (by simp))) S.ku S.shift ?_ ?_
  ·rintro L _ _ W v1 B ⟨rfl,rfl⟩ QW _;refine u.go QW (.within (ax ?_) (t.mono B));obtain⟨e1,e2,e3,e4,e5,e6,e7,e8,e9,F,K,P⟩:=h.mono B;exact⟨e1,e2,e3,e4,e5,⟨l,λx Q3=>H.eu (D x Q3) B,rfl,rfl⟩,e7,e8,e9,F,K,P⟩
  grind
 |nil=>
  have k:=S.same.res o h.here;simp only[List.map_nil];show u _ _ _ _ _ w v (match fs[o]? with|none=>_|some G=>_) (match q.funcs[o]? with|none=>_|some G=>_)
  cases Q1:fs[o]? with
  |none=>
   rw[Q1] at k;cases R:q.funcs[o]? with
   |some _=>grind
   |none=>exact NA T h.qG h.vS (by rw[h.fn];exact h.here) t (h.tmps.getD 0) S.ku
  |some f=>
   rw[Q1] at k;cases R:q.funcs[o]? with
   |none=>grind
   |some f'=>
    rw[R] at k;simp only[ey,ec] at k;refine u.of_run (q:=q) (fs:=fs) (fn:=o) (f:=λr=>match r with
     |aV x w=>nC (J q fs) m ⟨o,i,j,[],fC,n,A⟩ (cs++b::bs) V x w
     |dL (.stuck s) w=>ff (jO s (oe (J q fs) ⟨o,i,j,[],fC,n,A⟩)) w
     |dL _ w=>ff (jO "return: the result variables cannot be read" (oe (J q fs) ⟨o,i,j,[],fC,n,A⟩)) w)
     (f':=λr=>match r with
     |aV x w=>nC q m' ⟨o,g,d,[],fC,e,p⟩ (cs'++B') V x w
     |dL (.stuck s) w=>ff (jO s (oe q ⟨o,g,d,[],fC,e,p⟩)) w
     |dL _ w=>ff (jO "return: the result variables cannot be read" (oe q ⟨o,g,d,[],fC,e,p⟩)) w)
     (anq k.symm h.tmps) S.ku S.shift ?_ ?_
    ·intro L x x' W v1 B Q3 QW _;exact NA T h.qG h.vS (by rw[h.fn];exact h.here) (t.mono B) Q3 QW
    ·intro x W _;cases x<;>exact ax ⟨_,_,_,rfl⟩
theorem SA(c:zC I q m' B')(S:uk ρ I L q fs nm X w v){fr fr'}{cs cs'}(h:ju ρ I q nm w fr fr')(t:gQ ρ I q nm w cs cs'):
  u ρ I L (b::bs) (After ρ I q fs nm X b bs B') w v (bZ (J q fs) m (r fr (cs++b::bs)) w) (bZ q m' (r fr' (cs'++B')) v):=by
 rcases h with h|h
 ·unfold bZ r;dsimp only;rw[h.mode];rcases h.vC with a|a
  all_goals grind[anW,am9]
 ·unfold bZ r;dsimp only;rw[h.mode];rcases h.vC with a|a
  all_goals grind[anV,am8]
theorem aa4(a):dA id a=a:=rfl
theorem apF(f):zR id f=f:=by cases f<;>rfl
mutual
theorem Gc:∀v:ay,F id v=v
 |dH fn first cap=>by simp only[F,apF,NK]
 |iv t v=>by simp only[F];rw[Gc v]
 |bN cs=>by simp only[F,NK]
 |bO cs=>by simp only[F,NK]
 |aE V=>by simp[F]
 |aE (U a)=>by simp[F,aa4]
 |aD V _ _=>by simp[F]
 |aD (U a) _ _=>by simp[F,aa4]
 |cj V=>by simp[F]
 |cj (U _)=>by simp[F]
 |cY V=>by simp[F]
 |cY (U _)=>by simp[F]
 |cz _=>by simp[F]
 |Y _ _=>by simp[F]
 |.float _ _=>by simp[F]
 |.complex _ _ _=>by simp[F]
 |aG _=>by simp[F]
 |.nilFunc=>by simp[F]
 |mF=>by simp[F]
theorem NK:∀v:Array ay,mU id v=v
 |⟨l⟩=>by simp only[mU,aa0]
theorem aa0:∀l:List ay,oU id l=l
 | []=>by simp[oU]
 |v::l=>by simp only[oU];rw[Gc v,aa0 l]
end
theorem JK(l:Array ay):l.map (F id)=l:=by rw[<-wY,NK]
theorem apH(e):ko id e=e:=by cases e;simp[ko,Gc]
theorem NM(o):eV id o=o:=by
 cases o<;>simp only[eV]
 case cells=>rw[JK]
 case map es c=>
  have:ko (id:Nat->Nat)=id:=funext apH
  grind[Array.map_id]
 case mapIter m _ _ _=>grind
 case loop l=>simp only[BH,JK,id]
 case number=>rfl
theorem aa3(i):iK id i=i:=by cases i<;>rfl
theorem bu.same{l l'}(h:bu id I N l l'):l'=l:=by rw[h.2,JK]
theorem eW.same{a c}(h:eW id I q nm N a c):c=a:=by
 obtain⟨A,P,C,y,Q,⟨l,L,D,z⟩,u,J,e,g,n,K⟩:=h;obtain⟨O,x,i,j,B,t,H⟩:=a;obtain⟨G,p,d,f,o,k,r⟩:=c;simp only at A C y D z u e g n;have F:=C.same;have E:d=i:=by rw[y,show iK (id:Nat->Nat)=id from funext aa3,List.map_id]
 have s:r=H:=by grind
 subst F E s A u D z e g;rfl
theorem ju.same(e:∀f,I.DF f=ai){a c}(h:ju id I q nm N a c):c=a:=h.elim (·.same) λh=>by have:=h.df;grind
theorem oA.same(d:∀f,I.DF f=ai){a c}(h:oA id I q nm N a c):c=a:=ju.same d h.top
theorem gQ.same(a:∀f,I.DF f=ai){l l'}(h:gQ id I q nm N l l'):l'=l:=by
 induction h with
 |nil=>rfl
 |cons h _ c=>rw[h.same a,c]
theorem eW.wZ{ρ}{a c}(h:eW ρ I q nm N a c):eW id I q nm N a a:=by obtain⟨l,e,d,f⟩:=h.defers;exact⟨rfl,h.here,⟨h.tmps.1,(JK _).symm⟩,by rw[show iK (id:Nat->Nat)=id from funext aa3,List.map_id],h.items,⟨l,e,d,d⟩,rfl,h.vC,h.qG,h.qG,by grind,h.rounds⟩
theorem fN.wZ{ρ}{a c}(h:fN ρ I q nm N a c):fN id I q nm N a a:=
 ⟨rfl,h.here,h.df,⟨rfl,λt v d e=>⟨(h.tmps.here t v d e).1,by grind[Gc]⟩,λt v d e=>by obtain⟨g,_,f⟩:=h.tmps.arg t v d e;exact⟨_,d,f.left⟩⟩,rfl,h.E5,h.E7,h.E7,rfl,h.vC,h.qG,h.qG,h.F7,h.F7⟩
theorem ju.wZ{ρ}{a c}(h:ju ρ I q nm N a c):ju id I q nm N a a:=h.imp (·.wZ) (·.wZ)
theorem oA.wZ{ρ}{a c}(h:oA ρ I q nm N a c):oA id I q nm N a a:=h.imp (·.wZ) λh=>⟨h.1.wZ,h.2⟩
theorem gQ.wZ{ρ}{l l'}(h:gQ ρ I q nm N l l'):gQ id I q nm N l l:=by
 induction h with
 |nil=>exact .nil
 |cons h _ a=>exact .cons h.wZ a
def World.re(w:av)(τ:Nat->Question->Nat)(d:Nat):av:={w with tape:=τ,drawn:=d}
theorem Whole.ku{L}(f:I.arg=V)(h:Whole I w)(c)(d)(j:∀i,(∀D,L=U D->w.drawn+i<D)->c (d+i)=w.tape (w.drawn+i)):dN id I L w (World.re w c d):=
 ⟨rfl,j,λa b e=>e,λb o g k=>⟨h.blk b o g k,by rw[NM];exact g⟩,h.jM,λA l=>by grind⟩
theorem fg.same{L}{w1 c}{k}{d}(u:Whole I w)(f:fg id I w (World.re w k d) w1 c)(r:dN id I L w1 c):c=World.re w1 k (d+(w1.drawn-w.drawn)):=by
 have x:c.heap.size=w1:=by
  have l:=f.size;have o:=f.nM
  grind[World.re]
 have p:c.heap=w1.heap:=by
  refine Array.ext_getElem? λi=>?_;by_cases hi:i<w1
  ·have n:w1.heap[i]? =w1.heap[i]:=by grind
   cases h:I.F i with
   |true=>
    have:=(r.blk i _ n h).2
    grind[NM]
   |false=>
    have g:i<w:=by refine Nat.lt_of_not_le λj=>?_;rw[u.jM i j] at h;cases h
    rw[f.Lr i g h,f.qX i g λb _ y e=>by grind]
    rfl
  grind
 have l:c.tape=k:=f.tape;have o:c.drawn=d+(w1.drawn-w.drawn):=f.drawn;have t:=r.os;have s:c.output=w1.output:=by rw[f.out,f.Gh];rfl
 cases c;cases w1;simp only at p l o t s;subst p l o t s;rfl
theorem agN(P):J P P.funcs=P:=rfl
theorem WU(P):Fair id P:=⟨λ_ _ e=>e,λ_ _=>rfl,λ_ h=>h⟩
inductive vo(I:H)(P:bU)(nm:String->Bool)(b:aX)(bs:List aX)(N:Nat):aU->Prop
 |within {fr:aX} {cs:List aX} (h:ju id I P nm N fr fr) (t:gQ id I P nm N cs cs):vo I P nm b bs N (r fr (cs++b::bs))
 |back {v:ay} (h:S I N v=Z):vo I P nm b bs N (r (b.finish v) bs)
theorem ayy{P}(S:mJ I P P.funcs nm)(O:Same I P P.funcs nm (λ_=>False))(J:∀f n,I.cut f n=ai)(g:I.arg=V∧∀f,I.DF f=ai)(y:Whole I w)(K:P.globals.size<w){fr}{cs}(h:ju id I P nm w fr fr)(t:gQ id I P nm w cs cs)
  {Q3} {w1} {es} (e:bZ P Z (r fr (cs++b::bs)) w=bS Q3 w1 es) (Q0:¬ur Q3):
  w.drawn<=w1.drawn∧w.heap.size<=w1∧Whole I w1∧vo I P nm b bs w1 Q3∧
   ∀(c) (d),(∀i,w.drawn+i<w1.drawn->c (d+i)=w.tape (w.drawn+i))->∃j,bZ P Z (r fr (cs++b::bs)) (World.re w c d)=bS Q3 (World.re w1 c (d+(w1.drawn-w.drawn))) j:=by
 have k:∀(c:Nat->Question->Nat) (d:Nat),(∀i,w.drawn+i<w1.drawn->c (d+i)=w.tape (w.drawn+i))->∃p j,bZ P Z (r fr (cs++b::bs)) (World.re w c d)=bS Q3 p j∧w.drawn<=w1.drawn∧w.heap.size<=w1∧Whole I w1∧vo I P nm b bs w1 Q3∧p=World.re w1 c (d+(w1.drawn-w.drawn)):=λc d l=>by
  have:=SA (m:=Z) (m':=Z) (b:=b) (bs:=bs) (B':=b::bs) (ax ⟨b,bs,rfl⟩) (⟨S,O,WU P,K,y.jM,y.ku g.1 c d (λi Q1=>l i (Q1 _ rfl)),λi=>rfl⟩) h t;rw[agN,e] at this;rcases this with L|⟨G,Q⟩
  ·exact absurd L.off Q0
  ·obtain⟨CF,p,s,A,W,o,C,_⟩:=Q (λD hD=>by grind)
   have E:=C.same y o;cases W with
   |within x H=>
    have F:=x.same g.2;have R:=H.same g.2;subst F R;exact⟨p,s,A,G,C.nM,o.whole,.within x H,E⟩
   |back z T=>
    cases z;obtain⟨B,u⟩:=T;rw[Gc] at u;subst u;exact⟨p,s,A,G,C.nM,o.whole,.back B,E⟩
   |fin z _=>cases z
   |cut hf=>grind
 obtain⟨_,_,_,x,h2,Q2,a,_⟩:=k w.tape w.drawn (λ_ _=>rfl);refine⟨x,h2,Q2,a,λc d l=>?_⟩;obtain⟨p,j,A,_,_,_,_,F⟩:=k c d l
 grind
abbrev pJ:=Nat->Question->Nat
section
variable (P:Program) (Done:Goroutine->World->Prop)
def Reach:Nat->aU->av->Prop
 |0,g,w=>Done g w
 |n+1,g,w=>Done g w∨∃g1 w1 es,bZ P Z g w=bS g1 w1 es∧¬ur g1∧Reach n g1 w1
inductive Term:aU->av->Prop
 |done {g:aU} {w:av} (h:Done g w):Term g w
 |step {g:aU} {w:av} (f:pJ->aU×av) (h:∀τ:pJ,(∃es,bZ P Z g (World.re w τ 0)=bS (f τ).1 (f τ).2 es)∧¬ur (f τ).1) (t:∀τ,Term (f τ).1 (f τ).2):Term g w
end
section
variable {P:bU} {Done:aU->av->Prop} {Inv:aU->av->Prop}
theorem apW(w)(a σ:pJ)(d e):World.re (World.re w a d) σ e=World.re w σ e:=rfl
def mw(l:List (Question->Nat))(τ:pJ):pJ:=λi=>if h:i<l.length then l[i] else τ (i-l.length)
structure Lawful(P:bU)(Done:aU->av->Prop)(Inv:aU->av->Prop):Prop where
 blind:∀g w τ d,Done g w->Done g (World.re w τ d)
 XJ:∀g w τ d,Inv g w->Inv g (World.re w τ d)
 law:∀g w g1 w1 es,Inv g w->¬Done g w->bZ P Z g w=bS g1 w1 es->¬ur g1->w.drawn<=w1.drawn∧Inv g1 w1∧
  ∀(τ:pJ) (d:Nat),(∀i,w.drawn+i<w1.drawn->τ (d+i)=w.tape (w.drawn+i))->∃es',bZ P Z g (World.re w τ d)=bS g1 (World.re w1 τ (d+(w1.drawn-w.drawn))) es'
def Trail(P:bU)(Done:aU->av->Prop)(n:Nat)(l:List (Question->Nat))(g:aU)(w:av)(g':aU)(w':av):Prop:=
 ∀(τ:pJ) (k:Nat),Reach P Done k g (World.re w (mw l τ) 0)->n<=k∧Reach P Done (k-n) g' (World.re w' (mw l τ) l.length)
theorem Trail.nil(g)(w):Trail P Done 0 [] g w g w:=λa k h=>⟨Nat.zero_le _,by grind⟩
theorem abN(l m)(a):mw (l++m) a=mw l (mw m a):=by
 unfold mw
 grind
theorem abM(l)(a)(i):mw l a (l.length+i)=a i:=by
 unfold mw
 grind
theorem Reach.abW{k}{g}{w}(h:Reach P Done k g w)(b:¬Done g w):∃j,k=j+1∧∃a c d,bZ P Z g w=bS a c d∧¬ur a∧Reach P Done j a c:=by
 cases k with
 |zero=>exact absurd h b
 |succ j=>exact⟨j,rfl,h.resolve_left b⟩
def AM(τ:pJ)(k:Nat):List (Question->Nat):=(lW k).map τ
theorem acL(a)(k):(AM a k).length=k:=by simp[AM]
theorem aqY(a σ)(k i)(b:i<k):mw (AM a k) σ i=a i:=by
 unfold mw;rw[xA (by grind[acL])]
 simp[AM]
theorem Trail.snoc(m:Lawful P Done Inv){n}{l}{g c r}{w w1 d}{b:pJ}{es}(h:Trail P Done n l g w c w1)(E:Inv c w1)(u:¬Done c w1)
  (e:bZ P Z c (World.re w1 b 0)=bS r d es) (A:¬ur r):Trail P Done (n+1) (l++AM b d.drawn) g w r d:=by
 intro p k v;rw[abN] at v;obtain⟨C,q⟩:=h (mw (AM b d.drawn) p) k v;obtain⟨j,H,G,I,F,s,B,o⟩:=q.abW (λx=>u (m.blind c (World.re w1 (mw l (mw (AM b d.drawn) p)) l.length) w1.tape w1.drawn x));obtain⟨_,_,f⟩:=m.law _ _ _ _ _ (m.XJ _ _ _ _ E) (λx=>u (m.blind c (World.re w1 b 0) w1.tape w1.drawn x)) e A;obtain⟨D,y⟩:=f (mw l (mw (AM b d.drawn) p)) l.length (λi z=>by have t:(World.re w1 b 0).drawn=0:=rfl;rw[t,Ah] at z;rw[abM,t,Ah,aqY _ _ _ _ z];rfl)
 rw[apW] at y;rw[y] at s;cases s;refine⟨by omega,?_⟩
 rw[abN,List.length_append,acL];have:k-(n+1)=j:=by omega
 rw[this];exact o
theorem Trail.goes(f:Lawful P Done Inv){n}{l}{g e}{w w1}(h:Trail P Done n l g w e w1)(u:∀a,∃k,Reach P Done k g (World.re w a 0))(A:Inv e w1)(t:¬Done e w1)(a:pJ):
  ∃p C v,bZ P Z e (World.re w1 a 0)=bS p C v∧¬ur p:=by
 obtain⟨k,z⟩:=u (mw l a);obtain⟨_,m⟩:=h a k z;have d:=λx=>t (f.blind e (World.re w1 (mw l a) l.length) w1.tape w1.drawn x);obtain⟨j,E,D,F,B,r,b,q⟩:=m.abW d;obtain⟨_,_,c⟩:=f.law _ _ _ _ _ (f.XJ _ _ _ _ A) d r b;obtain⟨o,y⟩:=c a 0 (λi G=>by have s:(World.re w1 (mw l a) l.length).drawn=l.length:=rfl;rw[s,Ah];show a i=mw l a (l.length+i);rw[abM])
 exact⟨_,_,o,y,b⟩
structure Mp where
 g:aU
 w:av
 l:List (Question->Nat)
 n:Nat
theorem alJ(B:Lawful P Done Inv){g:aU}{w:av}(X:Inv g w)(M:∀c:pJ,∃k,Reach P Done k g (World.re w c 0)):Term P Done g w:=by
 classical
 refine nq λl=>?_
 let j:Mp->Prop:=λs=>Trail P Done s.n s.l g w s.g s.w∧Inv s.g s.w∧¬Term P Done s.g s.w
 have f:∀s:Mp,j s->∃J:Mp,j J∧J.n=s.n+1∧∃m,J.l=s.l++m:=λs ⟨y,p,Q⟩=>by
  have E:¬Done s.g s.w:=λx=>Q (.done x);have R:=λc=>y.goes B M p E c;have G:∃c o q u,bZ P Z s.g (World.re s.w c 0)=bS o q u∧¬ur o∧¬Term P Done o q:=by
   refine nq λN=>Q ?_;have d:∀c,∃x:aU×av,((∃u,bZ P Z s.g (World.re s.w c 0)=bS x.1 x.2 u)∧¬ur x.1)∧Term P Done x.1 x.2:=λc=>by obtain⟨o,q,u,e,A⟩:=R c;refine⟨(o,q),⟨⟨u,e⟩,A⟩,nq λF=>N ⟨c,o,q,u,e,A,F⟩⟩
   exact .step (λc=>Fh (d c)) (λc=>(yI (d c)).1) λc=>(yI (d c)).2
  obtain⟨c,o,q,u,e,A,F⟩:=G;have I:=(B.law _ _ _ _ _ (B.XJ _ _ c 0 p) (λx=>E (B.blind s.g (World.re s.w c 0) s.w.tape s.w.drawn x)) e A).2.1;exact⟨⟨o,q,s.l++AM c q.drawn,s.n+1⟩,⟨y.snoc B p E e A,I,F⟩,rfl,_,rfl⟩
 let L:Mp:=⟨g,w,[],0⟩
 have a:j L:=⟨Trail.nil g w,X,l⟩
 let b:Nat->{s:Mp//j s}:=λn=>Nat.rec ⟨L,a⟩ (λ_ s=>⟨Fh (f s.1 s.2),(yI (f s.1 s.2)).1⟩) n
 have N:∀n,(b n).1.n=n:=λn=>by
  induction n with
  |zero=>rfl
  |succ n O=>
   grind
 have Q1:∀n,∃m,(b (n+1)).1.l=(b n).1.l++m:=λn=>(yI (f (b n).1 (b n).2)).2.2;have C:∀n k,∃m,(b (n+k)).1.l=(b n).1.l++m:=λn k=>by
  induction k with
  |zero=>exact⟨[],by simp⟩
  |succ k O=>
   obtain⟨m,hm⟩:=O;obtain⟨S,Q0⟩:=Q1 (n+k);exact⟨m++S,by grind⟩
 let T:pJ:=λi=>if h:∃n,i<(b n).1.l.length then(b (Fh h)).1.l[i]'(yI h) else λ_=>0
 have z:∀n m i (y:i<(b n).1.l.length) (p:i<(b m).1.l.length),(b m).1.l[i]=(b n).1.l[i]:=λn m i y p=>by
  rcases Nat.le_total n m with t|t
  ·obtain⟨k,rfl⟩:=acW t;obtain⟨r,D⟩:=C n k;have:(b (n+k)).1.l[i]? =(b n).1.l[i]? :=by rw[D,acV y]
   rw[pR y,pR p] at this;exact rY this
  ·obtain⟨k,rfl⟩:=acW t;obtain⟨r,D⟩:=C m k;have:(b (m+k)).1.l[i]? =(b m).1.l[i]? :=by rw[D,acV p]
   rw[pR y,pR p] at this;exact(rY this).symm
 have K:∀n i (v:i<(b n).1.l.length),T i=(b n).1.l[i]:=λn i v=>by
  have h:∃n,i<(b n).1.l.length:=⟨n,v⟩;show(if h:∃n,i<(b n).1.l.length then(b (Fh h)).1.l[i]'(yI h) else λ_=>0)=_
  rw[xA h];exact z n _ i v _
 obtain⟨k,W⟩:=M T;have H:mw (b (k+1)).1.l (λi=>T ((b (k+1)).1.l.length+i))=T:=by
  funext i;unfold mw;by_cases v:i<(b (k+1)).1.l.length
  ·rw[xA v];exact(K (k+1) i v).symm
  ·rw[Ej v];exact congrArg T (by omega)
 have hb:=(b (k+1)).2.1 (λi=>T ((b (k+1)).1.l.length+i)) k (by rw[H];exact W)
 grind
end
variable{P:bU}
theorem amz: "fmt's door, nowhere".startsWith "fmt's door"=Z:=by kernel_rfl
def wall(P:bU):aX:={fn:=P.funcs.size,tmps:= #[],todo:=[.call default ai "fmt's door, nowhere" #[]],defers:=[],mode:=.run,kind:=er}
theorem Yt(P)(c):((wall P).raise c).catches P=Z:=by
 unfold Frame.catches Frame.raise wall;have:P.funcs[P.funcs.size]? =V:=by grind
 grind[amz]
def sU(I:H)(P:bU)(g:aU)(w:av):Prop:=FA I [wall P] g w∨∃c,g=r ((wall P).raise c) []
theorem sU.off{g}(h:sU I P g w):ur g:=by
 rcases h with h|⟨c,rfl⟩
 ·exact h.off
 ·exact raise_mode _ _
theorem al5{w0}(i:Whole I w0)(g:iZ w0 w){r}(p:I.blk w0 r=Z):
  match((Qn r).runT P w #[]).1 with
  |aV c l=>c=[]∧∃e,e.heap.size=w0.heap.size∧Whole I e∧iZ e l
  |dL _ _=>True:=by
 obtain⟨d,m⟩:=H.iQ.1 p;have k:=(g.2 r d).trans (iq d);have n:=i.blk r _ (iq d) m;generalize w0.heap[r]=o at k n;show match(fe P (Sem.getObj r λo=>match o with|wG (U c)=>Sem.setObj r (wG V) (Sem.pure c)|_=>Sem.halt (.stuck "range over a function: the deferred calls have been taken")) w #[]).1 with
  |aV c l=>_
  |dL _ _=>True
 rw[yO];simp only[k];cases o<;>try exact trivial
 rename_i c;cases c with
 |none=>exact trivial
 |some c=>
  have h:c=[]:=by grind[ew]
  subst h;dsimp only;rw[yO];simp only[k];rw[fe];refine⟨rfl,{w0 with heap:=w0.heap.setIfInBounds r (wG V)},by simp,⟨λb o f j=>?_,λb f=>i.jM b (by grind)⟩,by simpa using g.1,λb f=>?_⟩
  ·simp only[UA,tJ] at f⊢;split at f
   ·grind[ew]
   ·exact i.blk b o f j
  ·simp only[UA,tJ] at f⊢;have q:=g.1;by_cases E:r=b
   ·grind
   ·rw[if_neg E,if_neg E];exact g.2 b f
theorem aso{g m}{w1}{es}(h:sU I P g w)(e:bZ P Z g w=bS m w1 es):sU I P m w1:=by
 rcases h with⟨f,k,c,H,rfl,v,o,G,u,B⟩|⟨c,rfl⟩
 ·have b:unwind P Z f (k++[wall P]) V w=bS m w1 es:=by
   rw[<-e];unfold bZ r
   grind
  unfold unwind at b;cases j:f.defers with
  |cons d J=>
   rw[j] at o b;obtain⟨T,rfl,E⟩:=o d (by simp)
   have A:=al5 (P:=P) u B E;dsimp only at b;generalize(Qn T).runT P w #[]=R at A b;obtain⟨x,C⟩:=R;cases x with
   |halt y K=>cases b
   |ok l K=>
    obtain⟨rfl,q,F,s,n⟩:=A;cases b;refine ax ⟨{f with defers:=[]++J},k,c,q,rfl,v,λd p=>?_,λx L=>?_,s,n⟩
    ·rw[F];exact o d (uE _ p)
    grind
  |nil=>
   rw[j] at b;simp only[v] at b;split at b
   ·cases b
   ·cases k with
    |nil=>
     cases b;exact aA ⟨c,rfl⟩
    |cons x k=>
     cases b;obtain⟨z,i⟩:=raise_mode x c;exact ax ⟨x.raise c,k,z,H,rfl,i,by grind[Jy],λy D=>G y (by simp[D]),u,B⟩
 ·exfalso;obtain⟨z,i⟩:=raise_mode (wall P) c;have b:unwind P Z ((wall P).raise c) [] V w=bS m w1 es:=by
   rw[<-e];unfold bZ r
   grind
  unfold unwind at b;have t:((wall P).raise c).defers=[]:=by rw[Jy];rfl
  rw[t] at b;simp only[i,Yt,iM] at b;cases b
def Plain(Q:aU->av->Prop):GStep->Prop
 |bS g w _=>Q g w
 |ff _ _ _=>True
 |_=>False
theorem asp{g}(h:sU I P g w):Plain (sU I P) (bZ P Z g w):=by
 have b:∀A,bZ P Z g w=A->Plain (λ_ _=>True) A->Plain (sU I P) (bZ P Z g w):=λA e n=>by
  rw[e];cases A<;>first|exact n|skip
  exact aso h e
 refine b _ rfl ?_;rcases h with⟨f,k,c,z,rfl,q,o,v,s,y⟩|⟨c,rfl⟩
 ·have l:bZ P Z (r f (k++[wall P])) w=unwind P Z f (k++[wall P]) V w:=by
   unfold bZ r
   grind
  rw[l];unfold unwind;cases i:f.defers with
  |cons d t=>
   rw[i] at o;obtain⟨A,rfl,n⟩:=o d (by simp)
   dsimp only;generalize(Qn A).runT P w #[]=R;obtain⟨x,p⟩:=R;cases x<;>exact trivial
  |nil=>
   simp only[q];split
   ·exact trivial
   ·cases k<;>exact trivial
 ·obtain⟨u,j⟩:=raise_mode (wall P) c;have l:bZ P Z (r ((wall P).raise c) []) w=unwind P Z ((wall P).raise c) [] V w:=by
   unfold bZ r
   grind
  rw[l];unfold unwind;have m:((wall P).raise c).defers=[]:=by rw[Jy];rfl
  rw[m];simp only[j,Yt,iM];exact trivial
theorem Dz{fr fr'}{cs cs'}{w w'}{es}(h:bZ P Z (r fr cs) w=bS (r fr' cs') w' es):step P (iH fr cs w)=fQ (iH fr' cs' w'):=by refine step_lone_go ?_;show(bZ P Z (r fr cs) w).bare=_;rw[h];rfl
theorem Ni{fr}{cs}{w w'}{o}{es}(h:bZ P Z (r fr cs) w=ff o w' es):step P (iH fr cs w)=.ended o w':=by refine step_lone_ended ?_;show(bZ P Z (r fr cs) w).bare=_;rw[h];rfl
theorem sU.form{g}(h:sU I P g w):∃b a,g=r b a:=by
 rcases h with⟨f,a,c,d,rfl,_⟩|⟨c,rfl⟩
 all_goals grind
theorem Um{f:aX}{C:List aX}{w0:av}(p:f.mode=fC):∀(n:Nat) (fr:aX) (cs:List aX) (w:av),sU I P (r fr cs) w->runN P n (iH fr cs w)≠fQ (iH f C w0)
 |0,fr,cs,w,h,e=>by
  have:iH fr cs w=iH f C w0:=by simpa[runN] using e
  have q:fr=f:=by have:=congrArg (λm:Machine=>(m.gs[0]?).map (·.frame)) this;simpa[iH] using this
  obtain⟨c,k⟩:=h.off;have:fr.mode=.panicking c:=k
  grind
 |n+1,fr,cs,w,h,e=>by
  have b:=asp h;cases i:bZ P Z (r fr cs) w<;>rw[i] at b<;>try exact b.elim
  ·rename_i A j l;obtain⟨d,g,rfl⟩:=sU.form b;rw[runN,Dz i] at e;exact Um p n d g j b e
  ·rename_i o j l;rw[runN,Ni i] at e;cases e
theorem arq:Extern.next "fmt's door, nowhere"=V:=by kernel_rfl
theorem I0(v)(w):∃o b a,bZ P Z (r ((wall P).finish v) []) w=ff o b a:=by unfold bZ r;show∃o b a,va P Z Z ((wall P).finish v) [] V w=ff o b a;unfold va;show∃o b a,(Extern.next "fmt's door, nowhere").elim _ _=ff o b a;rw[arq];exact⟨_,_,_,rfl⟩
theorem afI(y:mJ I P P.funcs nm)(s:Same I P P.funcs nm (λ_=>False))(k:∀f n,I.cut f n=ai)(b:I.arg=V∧∀f,I.DF f=ai)(j:Whole I w)(p:P.globals.size<w){g}(h:vo I P nm (wall P) [] w g):
  Plain (λl c=>sU I P l c∨(vo I P nm (wall P) [] c l∧Whole I c∧w.heap.size<=c)) (bZ P Z g w):=by
 cases h with
 |back G=>
  obtain⟨o,c,H,e⟩:=I0 (P:=P) _ w;rw[e];exact trivial
 |within h t=>
  have S:uk id I V P P.funcs nm (λ_=>False) w (World.re w w.tape w.drawn):=
   ⟨y,s,WU P,p,j.jM,j.ku b.1 w.tape w.drawn (λ_ _=>rfl),λi=>rfl⟩
  have:=SA (m:=Z) (m':=Z) (b:=wall P) (bs:=[]) (B':=[wall P]) (ax ⟨wall P,[],rfl⟩) S h t;rw[agN] at this;generalize bZ P Z (r _ (_++[wall P])) w=R at this⊢;cases R<;>first|exact trivial|exact this.elim|skip
  rcases this with v|⟨_,u⟩
  ·exact ax (ax v)
  ·obtain⟨F,J,q,_,C,d,E,_⟩:=u (λD A=>by cases A)
   refine aA ⟨?_,d.whole,E.nM⟩;cases C with
   |within B x=>exact .within B.wZ x.wZ
   |back _ z=>exact .back z.1
   |fin m _=>cases m
   |cut K=>grind
theorem vo.form{b}{bs}{g}(h:vo I P nm b bs N g):∃c a,g=r c a:=by
 cases h with
 |within h t=>grind
 |back h=>grind
theorem ju.ar2{ρ}{q}{a c}(h:ju ρ I q nm N a c):a.mode=.run∨a.mode=fC:=h.elim (·.vC) (·.vC)
theorem vo.arc{g}(h:vo I P nm (wall P) [] N g):¬ur g:=by
 rintro⟨c,a⟩;cases h with
 |within h t=>
  have b:=h.ar2
  grind[r]
 |back h=>cases a
def zA(P:bU)(R:ay->av->Prop)(g:aU)(w:av):Prop:=∃v,g=r ((wall P).finish v) []∧R v w
theorem aba(A:mJ I P P.funcs nm)(u:Same I P P.funcs nm (λ_=>False))(i:∀L n,I.cut L n=ai)(b:I.arg=V∧∀L,I.DF L=ai){R:ay->av->Prop}{f:aX}{w0:av}{v:ay}(E:f.leaving P w0 (bj v))(C:R v w0):
  ∀(n:Nat) (fr:aX) (cs:List aX) (w:av),vo I P nm (wall P) [] w.heap.size (r fr cs)->Whole I w->P.globals.size<w.heap.size->runN P n (iH fr cs w)=fQ (iH f [wall P] w0)->Reach P (zA P R) (n+1) (r fr cs) w
 |0,fr,cs,w,B,t,s,e=>by
  have K:iH fr cs w=iH f [wall P] w0:=by simpa[runN] using e
  have q:step P (iH fr cs w)=fQ (iH ((wall P).finish v) [] w0):=by grind[step_leave_returned]
  have j:=afI A u i b t s B;refine aA ?_;cases k:bZ P Z (r fr cs) w<;>rw[k] at j<;>try exact j.elim
  ·rename_i J l T;obtain⟨d,g,rfl⟩:=(j.elim sU.form λh=>h.1.form);rw[Dz k] at q;have x:iH d g l=iH ((wall P).finish v) [] w0:=by grind
   have G:d=(wall P).finish v:=by have:=congrArg (λm:Machine=>(m.gs[0]?).map (·.frame)) x;simpa[iH] using this
   have z:g=[]:=by have:=congrArg (λm:Machine=>(m.gs[0]?).map (·.callers)) x;simpa[iH] using this
   have y:l=w0:=congrArg Machine.world x;subst G z y;refine⟨_,_,T,rfl,?_,v,rfl,C⟩;rintro⟨c,z⟩;cases z
  ·rename_i o l T;rw[Ni k] at q;cases q
 |n+1,fr,cs,w,B,t,s,e=>by
  have j:=afI A u i b t s B;refine aA ?_;cases k:bZ P Z (r fr cs) w<;>rw[k] at j<;>try exact j.elim
  ·rename_i J l T;obtain⟨d,g,rfl⟩:=(j.elim sU.form λh=>h.1.form);rw[runN,Dz k] at e;rcases j with p|⟨D,H,F⟩
   ·exact absurd e (Um E.1 n d g l p)
   ·exact⟨_,_,T,rfl,D.arc,aba A u i b E C n d g l D H (cF s F) e⟩
  ·rename_i o l T;rw[runN,Ni k] at e;cases e
def aBk(I:H)(P:bU)(nm:String->Bool)(g:aU)(w:av):Prop:=vo I P nm (wall P) [] w.heap.size g∧Whole I w∧P.globals.size<w.heap.size
theorem lawful(s:mJ I P P.funcs nm)(q:Same I P P.funcs nm (λ_=>False))(b:∀f n,I.cut f n=ai)(a:I.arg=V∧∀f,I.DF f=ai){R}(u:∀v w c d,R v w->R v (World.re w c d)):Lawful P (zA P R) (aBk I P nm):=by
 refine⟨?_,?_,?_⟩
 ·rintro g w c d ⟨v,C,l⟩;exact⟨v,C,u v w c d l⟩
 ·rintro g w c d ⟨k,j,i⟩;exact⟨k,⟨j.blk,j.jM⟩,i⟩
 ·rintro g w F E D ⟨k,j,i⟩ _ e p;cases k with
  |back l=>
   obtain⟨o,G,m,r⟩:=I0 (P:=P) _ w;rw[r] at e;cases e
  |within h t=>
   obtain⟨z,B,A,x,y⟩:=ayy s q b a j i h t e p;exact⟨z,⟨x,A,cF i B⟩,y⟩
theorem alK(o:mJ I P P.funcs nm)(k:Same I P P.funcs nm (λ_=>False))(b:∀f n,I.cut f n=ai)(a:I.arg=V∧∀f,I.DF f=ai){R}(t:∀v w h d,R v w->R v (World.re w h d)){f}{i}(j:Whole I w)(l:P.globals.size<w)
  (A:I.T f=Z) (u:∃m c,P.funcs[f]? =U m∧m.body=U c) (s:∀v∈i,S I w v=Z)
  (C:∀h:pJ,bE P f i (World.re w h 0) λe p=>∃v,e=bj v∧R v p):
  Term P (zA P R) (r (eO P f i er) [wall P]) w:=by
 have g:vo I P nm (wall P) [] w (r (eO P f i er) ([]++wall P::[])):=.within (ax (eW.yX (fs:=P.funcs) k A (λx=>x) u ⟨s,(JK i).symm⟩)) .nil;refine alJ (lawful o k b a t) ⟨g,j,l⟩ λh=>?_;obtain⟨e,p,B,⟨v,rfl,q⟩,⟨n,y⟩,_,z⟩:=C h [wall P];exact⟨n+1,aba o k b a z q n _ _ _ g ⟨j.blk,j.jM⟩ l y⟩
variable{σ:Nat->Nat}{v':av}
theorem RV.re(h:∀b,b<N->ρ b=σ b){x x'}(a:RV ρ I N x x'):RV σ I N x x':=⟨a.1,a.2.trans (BG h a.1)⟩
theorem bu.re(h:∀b,b<N->ρ b=σ b){x x'}(a:bu ρ I N x x'):bu σ I N x x':=
 ⟨a.1,a.2.trans (JW λy c=>BG h (a.1 y c))⟩
theorem apE(h:∀b,b<N->ρ b=σ b){i}(a:rW I q nm N i=Z):iK ρ i=iK σ i:=by
 cases i<;>try rfl
 all_goals
  simp only[rW,H.blk,cS,fI] at a
  grind[iK]
theorem eW.re(h:∀b,b<N->ρ b=σ b){a b}(x:eW ρ I q nm N a b):eW σ I q nm N a b:=by
 obtain⟨s,y,t,n,j,⟨l,m,z,o⟩,k,f,d,e,c,g⟩:=x;refine⟨s,y,t.re h,n.trans (JX λi p=>apE h (j i p)),j,⟨l,m,z,o.trans (JX λr u=>?_)⟩,k,f,d,e,?_,g⟩
 ·grind[H.iQ]
 ·rw[c];cases u:a.roundOf with
  |none=>rfl
  |some l=>grind[H.iQ]
theorem fN.re(h:∀b,b<N->ρ b=σ b){a b}(r:fN ρ I q nm N a b):fN σ I q nm N a b:=by obtain⟨o,s,p,c,x,m,u,n,l,j,g,i,e,k⟩:=r;exact⟨o,s,p,⟨c.size,λt v f d=>⟨(c.here t v f d).1,by rw[(c.here t v f d).2,BG h (c.here t v f d).1]⟩,c.arg⟩,x,m,u,n,l,j,g,i,e,k⟩
theorem ju.re(h:∀b,b<N->ρ b=σ b){a b}(c:ju ρ I q nm N a b):ju σ I q nm N a b:=c.imp (·.re h) (·.re h)
theorem oA.re(h:∀b,b<N->ρ b=σ b){a b}(c:oA ρ I q nm N a b):oA σ I q nm N a b:=c.imp (·.re h) λc=>⟨c.1.re h,c.2⟩
theorem gQ.re(h:∀b,b<N->ρ b=σ b){l m}(hs:gQ ρ I q nm N l m):gQ σ I q nm N l m:=by
 induction hs with
 |nil=>exact .nil
 |cons a _ c=>exact .cons (a.re h) c
def qb(ρ:Nat->Nat)(N K:Nat):Nat->Nat:=λb=>if b<N then ρ b else K+(b-N)
theorem LA(ρ)(N K b)(h:b<N):ρ b=qb ρ N K b:=by unfold qb;grind
theorem ags(ρ)(N K i):qb ρ N K (N+i)=K+i:=by unfold qb;grind
theorem Fair.qb(h:Fair ρ q){N K}(d:∀b,b<N->ρ b<K)(g:q.globals.size<N):Fair (qb ρ N K) q:=by
 have i:q.globals.size<K:=by have:=d _ g;rw[h.fix _ (aW _)] at this;grind
 refine⟨λa b e=>?_,λb f=>?_,λb f=>?_⟩
 ·unfold YtpdbmpbmepkikaaGreatDoor.qb at e;split at e<;>split at e
  ·exact h.inj a b e
  all_goals grind
 ·rw[<-LA ρ N K b (by omega)];exact h.fix b f
 ·unfold YtpdbmpbmepkikaaGreatDoor.qb;split
  ·exact h.over b f
  ·omega
theorem dN.qb{L}(h:dN ρ I L w v)(d:∀b,b<w.heap.size->ρ b<v')(c:v'.os=v.os)(j:∀b,b<w.heap.size->I.F b=Z->v'.heap[ρ b]? =v.heap[ρ b]?)(f:∀A,I.arg=U A->v'.heap[A.g]? =v.heap[A.g]?):
  dN (qb ρ w v') I V {w with tape:=λi=>v'.tape (v'.drawn+i),drawn:=0} v':=by
 refine⟨c.trans h.os,λi _=>by simp,λa b e=>?_,λb o n l=>?_,h.jM,λA m=>?_⟩
 ·unfold YtpdbmpbmepkikaaGreatDoor.qb at e;split at e<;>split at e
  ·exact h.inj a b e
  all_goals grind
 ·have k:b<w:=by grind
  obtain⟨p,s⟩:=h.blk b o n l
  grind[LA,aa2]
 ·obtain⟨u,r,t,x⟩:=h.arg A m
  grind[LA,Array.getElem?_eq_some_iff]
theorem abx(c:Array ay):(∃a b,c= #[a,b])∨∀a b,c≠ #[a,b]:=by
 grind
theorem Tt(t):(J q fs).packed t=q.packed t:=by unfold Program.packed Program.packedAs;simp only[ahZ];rfl
theorem avg(d):∀t,(J q fs).holdsPacked d t=q.holdsPacked d t:=by
 induction d with
 |zero=>intro t;rfl
 |succ d b=>
  intro t;rw[Program.holdsPacked,Program.holdsPacked];simp only[b,Tt];rfl
theorem ar5(d):∀t,(J q fs).methodsOfAPack d t=q.methodsOfAPack d t:=by
 induction d with
 |zero=>intro t;rfl
 |succ d b=>
  intro t;rw[azb,azb];simp only[b,Tt];rfl
open Go.Extern.Rtype
theorem Nt(b)(t):W ρ I (J q fs) q RU N (noPack b t) (noPack b t):=by
 refine W.bind' lM ?_;rintro M p c d ⟨rfl,rfl⟩;rw[Tt];split
 ·exact ik _ _
 ·exact .pure' trivial
theorem anw(b)(t):W ρ I (J q fs) q RU N (noPackHeld b t) (noPackHeld b t):=by
 refine W.bind' lM ?_;rintro M _ _ f ⟨rfl,rfl⟩;refine W.bind' lM ?_;rintro K p c e ⟨rfl,rfl⟩;have d:(J c fs).depth=c.depth:=rfl;rw[avg,d];split
 ·exact ik _ _
 ·exact .pure' trivial
theorem Jm(b)(t):W ρ I (J q fs) q RU N (noPackMethods b t) (noPackMethods b t):=by
 refine W.bind' lM ?_;rintro M _ _ f ⟨rfl,rfl⟩;refine W.bind' lM ?_;rintro K p c e ⟨rfl,rfl⟩;have d:(J c fs).depth=c.depth:=rfl;rw[ar5,d];split
 ·exact ik _ _
 ·exact .pure' trivial
theorem Jn(t):W ρ I (J q fs) q RD N (typeInfo t) (typeInfo t):=(qp t).mono λ_ _ _ _ h=>h.1
theorem FX(t):W ρ I (J q fs) q RD N (under t) (under t):=by
 refine W.bind' (Jn t) ?_;rintro M i _ c rfl;split
 ·refine W.bind' (Jn _) ?_;rintro K j _ b rfl;exact .pure' rfl
 ·exact .pure' rfl
theorem Nv(t):W ρ I (J q fs) q RD N (Ic t) (Ic t):=by refine W.bind' (FX t) ?_;rintro M i _ b rfl;dsimp only;split<;>first|exact .pure' rfl|grind[T]
theorem ZT(t):W ρ I (J q fs) q RD N (hasName t) (hasName t):=by refine W.bind' (Jn t) ?_;rintro M i _ b rfl;split<;>exact .pure' rfl
theorem aad(t):W ρ I (J q fs) q RD N (elem? t) (elem? t):=by refine W.bind' (FX t) ?_;rintro M i _ b rfl;split<;>exact .pure' rfl
theorem SM(t u):W ρ I (J q fs) q RD N (implements t u) (implements t u):=by
 refine W.bind' (Jm _ _) ?_;rintro _ _ _ _ _;refine W.bind' (Jm _ _) ?_;rintro _ _ _ _ _;refine W.bind' (FX t) ?_;rintro M i _ c rfl;refine W.bind' (FX u) ?_;rintro K j _ b rfl;split
 ·exact .pure' rfl
 ·refine W.bind' (Jn u) ?_;rintro K j _ b rfl;exact .pure' rfl
 ·exact .pure' rfl
theorem aae(t u):W ρ I (J q fs) q RD N (Ik t u) (Ik t u):=by
 unfold Ik;split
 ·exact .pure' rfl
 ·refine W.bind' (ZT t) ?_;rintro M a _ e rfl;refine W.bind' (ZT u) ?_;rintro K b _ d rfl;split
  ·exact .pure' rfl
  ·refine W.bind' (FX t) ?_;rintro M i _ e rfl;refine W.bind' (FX u) ?_;rintro K j _ d rfl;dsimp only;split<;>exact .pure' rfl
section
variable (qM:Fair ρ q) (Cs:q.globals.size<N) (EI:I.F q.globals.size=true)
include qM Cs EI
theorem RV.handle(t):RV ρ I N (typeHandle (J q fs) t) (typeHandle q t):=by refine RV.ptr (a:=⟨q.globals.size,t,V⟩) ⟨H.iQ.2 ⟨Cs,EI⟩,?_⟩;show(⟨q.globals.size,t,V⟩:eK)={block:=ρ q.globals.size,off:=t,spot:=V};rw[qM.fix _ (aW _)]
theorem ZU(t):W ρ I (J q fs) q (RV ρ I) N (handle t) (handle t):=by refine W.bind' lM ?_;rintro M p b c ⟨rfl,rfl⟩;exact .pure' (RV.handle qM (by omega) EI t)
end
theorem SE(d:Fair ρ q){h f}(i:RV ρ I N h f):W ρ I (J q fs) q RD N (ofHandle h) (ofHandle f):=by
 refine W.bind' lM ?_;rintro M p c k ⟨rfl,rfl⟩;obtain⟨l,rfl⟩:=i;have e:handleType c (F ρ h)=handleType (J c fs) h:=by
  cases h<;>try rfl
  rename_i a;cases a with
  |none=>rfl
  |some a=>
   show(if ρ a.block==c.globals.size then U a.off else V)=(if a.block==c.globals.size then U a.off else V)
   have:(ρ a.block==c.globals.size)=(a.block==c.globals.size):=by
    by_cases g:a.block=c.globals.size
    ·rw[g,d.fix _ (aW _)]
    ·have j:ρ a.block≠c.globals.size:=λe=>g (d.inj _ _ (e.trans (d.fix _ (aW _)).symm))
     grind
   grind
 rw[e];split<;>first|exact .pure' rfl|grind[T]
theorem an2(b):W ρ I (J q fs) q RD N (cutType b) (cutType b):=by
 refine W.bind' lM ?_;rintro M p c d ⟨rfl,rfl⟩;show W ρ I (J c fs) c RD M (match c.cutTypes.find? (·.1==b) with|some (_,t)=>_|none=>_) _
 cases c.cutTypes.find? (·.1==b)<;>first|exact .pure' rfl|grind[T]
instance aGo(b):Calm (cutType b):=by
 refine .bind Fj λp=>?_;split
 ·exact .pure _
 ·exact .halt rfl
theorem azK(b)(t):Calm (noPackNamed b t):=by
 refine .bind Fj λp=>.bind Fj λc=>?_;split
 ·exact .halt rfl
 ·exact .pure _
instance aGn(t):Calm (spelt t):=.bind (azK _ _) λ_=>ahp t
theorem agD{b}(p)(v):z p (goPanic v:cy b):=.halt _
theorem Qc{b}(p)(m):z p (panicString m:cy b):=z.then _ λ_=>agD _ _
theorem E8{c}(p)(m)(k):z p (AO m k:cy c):=z.then _ (λt=>z.then _ λe=>z.then _ λa=>agD _ _)
open Go.Extern Go.Extern.ReflectliteType Go.Extern.ReflectliteValue
section
variable (qM:Fair ρ q) (Cs:q.globals.size<N) (EI:I.F q.globals.size=true)
include qM Cs EI
theorem Sy(t):W ρ I (J q fs) q (RV ρ I) N (Qq t) (Qq t):=by
 refine W.bind' (an2 _) ?_;rintro M d _ c rfl;refine W.bind' (ZU qM (by omega) EI t) ?_
 rintro K h e f b;refine .pure' ⟨?_,?_⟩
 ·have:=(RV.agg (bu.nil.push b)).1;simpa[S] using this
 ·rw[b.2];simp[F,wY]
theorem ZL(t){a a'}(f:RA ρ I N a a')(c):W ρ I (J q fs) q (RV ρ I) N (ag4 t a c) (ag4 t a' c):=by refine W.bind' (ZU qM Cs EI t) ?_;rintro K h g i d;refine W.bind' (Nv t) ?_;rintro M k _ e rfl;refine .pure' (RV.agg (((bu.nil.push (d.mono e)).push (RV.ptr (f.mono (by omega)))).push (RV.plain rfl)))
theorem ZD(e:∀b,N<=b->I.F b=Z){x x'}(c:RV ρ I N x x'):W ρ I (J q fs) q (RV ρ I) N (LI x) (LI x'):=by
 obtain⟨d,rfl⟩:=c;cases x<;>first|exact T _ _|exact .pure' (RV.plain rfl)|skip
 rename_i t v;refine W.bind' (SG e t ⟨by simpa[S] using d,rfl⟩) ?_
 grind[ZL]
end
def RPt(ρ:Nat->Nat)(I:H)(N:Nat)(o o':Option (dZ×eK×Nat)):Prop:=(o=V∧o'=V)∨∃t a a' E,o=U (t,a,E)∧o'=U (t,a',E)∧RA ρ I N a a'
theorem abv(h)(a)(f)(c:f≠0):Xr (bN #[h,aE (U a),Y cK f])=(do bH (U (<-ofHandle h,a,f.toNat))):=by
 rcases f with(_|n)|n
 ·grind
 ·rfl
 ·rfl
theorem aqn(x):(∃h p,x=bN #[h,p,Y cK 0])∨(∃h a f,x=bN #[h,aE (U a),Y cK f]∧f≠0)∨Xr x=stuck "reflectlite: a Value expected":=by
 cases x<;>try exact aA (aA rfl)
 rename_i c;rcases c with⟨_|⟨h,_|⟨p,_|⟨k,_|⟨z,l⟩⟩⟩⟩⟩<;>try exact aA (aA rfl)
 cases k with
 |int k f=>
  cases k<;>try (cases p<;>first|exact aA (aA rfl))
  rcases f with(_|n)|n
  ·grind
  all_goals
   cases p<;>try exact aA (aA rfl)
   rename_i o;cases o with
   |none=>exact aA (aA rfl)
   |some a=>grind
 |_=>cases p<;>first|exact aA (aA rfl)
theorem ZI(c:Fair ρ q){x x'}(k:RV ρ I N x x'):W ρ I (J q fs) q (RPt ρ I) N (Xr x) (Xr x'):=by
 obtain⟨j,rfl⟩:=k;rcases aqn x with⟨h,p,rfl⟩|⟨h,a,f,rfl,g⟩|e
 ·exact .pure' (ax ⟨rfl,rfl⟩)
 ·have d:=bu.BV (ρ:=ρ) j;have l:F ρ (bN #[h,aE (U a),Y cK f])=bN #[F ρ h,aE (U (dA ρ a)),Y cK f]:=by simp[F,wY]
  rw[l,abv _ _ _ g,abv _ _ _ g];refine W.bind' (SE c (h:=h) ⟨d.1 _ (by simp),rfl⟩) ?_
  rintro M t _ i rfl;exact .pure' (aA ⟨t,a,_,_,rfl,rfl,⟨H.eu (by have:=d.1 (aE (U a)) (by simp);simpa[S] using this) i,rfl⟩⟩)
 grind[T]
theorem SC(c:Fair ρ q){x x'}(f:RV ρ I N x x'):W ρ I (J q fs) q (RPt ρ I) N (Fa x) (Fa x'):=by
 refine W.bind' (ZI c f) ?_;rintro M o j i (⟨rfl,rfl⟩|⟨t,a,d,e,rfl,rfl,h⟩)
 ·exact .pure' (ax ⟨rfl,rfl⟩)
 ·refine W.bind' (Nt _ t) ?_;rintro K _ _ g _;exact .pure' (aA ⟨t,a,d,e,rfl,rfl,h.mono g⟩)
theorem JD(c:Array ay):(∃a,c= #[a])∨∀a,c≠ #[a]:=by
 grind
theorem SJ(n:Fair ρ q){g d}{f f'}(s:∀M,N<=M->W ρ I (J q fs) q (RV ρ I) M g d)
  (v:∀M t a m p k,N<=M->RA ρ I M a m->W ρ I (J q fs) q (RV ρ I) M (f t a p k) (f' t m p k)) {j i} (h:bu ρ I N j i):
  W ρ I (J q fs) q (RV ρ I) N (AP g f j) (AP d f' i):=by
 rcases JD j with⟨a,rfl⟩|r
 ·have e:i= #[F ρ a]:=by rw[h.2];simp
  subst e;refine W.bind' (SC n (x:=a) ⟨h.1 a (by simp),rfl⟩) ?_
  rintro M o x u (⟨rfl,rfl⟩|⟨t,a,m,p,rfl,rfl,w⟩)
  ·grind
  grind
 ·rcases j with⟨_|⟨a,_|⟨b,l⟩⟩⟩
  ·exact T _ _
  ·exact absurd rfl (r a)
  ·exact T _ _
theorem anC(n:Fair ρ q){g d}{f f'}(s:∀M,N<=M->W ρ I (J q fs) q (RV ρ I) M g d)
  (v:∀M t a m p k,N<=M->RA ρ I M a m->W ρ I (J q fs) q (RV ρ I) M (f t a p k) (f' t m p k)) {j i} (h:bu ρ I N j i):
  W ρ I (J q fs) q (RV ρ I) N (Qs g f j) (Qs d f' i):=by
 rcases JD j with⟨a,rfl⟩|r
 ·have e:i= #[F ρ a]:=by rw[h.2];simp
  subst e;refine W.bind' (ZI n (x:=a) ⟨h.1 a (by simp),rfl⟩) ?_
  rintro M o x u (⟨rfl,rfl⟩|⟨t,a,m,p,rfl,rfl,w⟩)
  ·grind
  grind
 ·rcases j with⟨_|⟨a,_|⟨b,l⟩⟩⟩
  ·exact T _ _
  ·exact absurd rfl (r a)
  ·exact T _ _
theorem axZ:rD q fs λb=>LI (b.getD 0 (bO #[])):=by
 intro ρ I N k e m c d g i h;refine ZD e c d k ?_;rw[iz,iz];cases f:g[0]? with
 |none=>rw[h.get_none f];exact RV.plain rfl
 |some v=>obtain⟨j,l⟩:=h.get f;rw[l];exact⟨j,rfl⟩
theorem ax1:rD q fs (Qs (AO "reflectlite.Value.Type" 0) λt _ _ _=>Qq t):=by intro ρ I N l c i e d j g h;exact anC c (λM f=>.dead (E8 _ _ _)) (λM t a m n k f o=>Sy c (by omega) d t) h
theorem ax5:rD q fs (AP (AO "reflectlite.Value.IsNil" 0) Qm):=by
 intro ρ I N n c j d g m f h;refine SJ c (λM e=>.dead (E8 _ _ _)) (λM t a o s k e i=>?_) h;unfold Qm;split
 ·exact .dead (z.bind (E8 _ _ _) _)
 ·refine W.bind' (Bz t i) ?_;rintro K v p u ⟨l,rfl⟩;cases v with
  |pointer a=>cases a<;>exact .pure' (RV.plain rfl)
  |slice a _ _=>cases a<;>exact .pure' (RV.plain rfl)
  |map r=>cases r<;>exact .pure' (RV.plain rfl)
  |chan r=>cases r<;>exact .pure' (RV.plain rfl)
  |_=>exact .pure' (RV.plain rfl)
theorem ax4:rD q fs (AP (bH (Y aq 0)) λ_ _ _ k=>bH (Y aq (Int.ofNat k))):=by intro ρ I N l c i d g j f h;exact SJ c (λM e=>.pure' (RV.plain (v:=Y aq 0) rfl)) (λM t a m n k e o=>.pure' (RV.plain (v:=Y aq (Int.ofNat k)) rfl)) h
theorem ax7:rD q fs (AP (AO "reflectlite.Value.Elem" 0) Qp):=by
 intro ρ I N s d B o f w l h;refine SJ d (λM r=>.dead (E8 _ _ _)) (λM t a x C k r m=>?_) h;unfold Qp;split
 ·exact .dead (z.bind (E8 _ _ _) _)
 ·refine W.bind' (Bz t m) ?_;rintro K v y c j;refine W.bind' (aad t) ?_;rintro J e _ n rfl;obtain⟨i,rfl⟩:=(j.mono n);by_cases u:k=20
  ·subst u;exact ZD d (by omega) f (λb A=>s b (by omega)) ⟨i,rfl⟩
  ·by_cases g:k=22
   ·subst g;cases v<;>try exact .dead (E8 _ _ _)
    rename_i p;cases p with
    |none=>exact .pure' (RV.plain rfl)
    |some p=>
     cases e with
     |none=>exact .dead (E8 _ _ _)
     |some e=>exact ZL d (by omega) f e (RA.qx i) _
   grind
theorem ax0:rD q fs Qr:=by
 intro ρ I N n i m d g j f h;rcases JD j with⟨a,rfl⟩|k
 ·have e:f= #[F ρ a]:=by rw[h.2];simp
  subst e;cases a<;>first|exact T _ _|exact .pure' (RV.plain rfl)|skip
  exact Sy i d g _
 ·rcases j with⟨_|⟨a,_|⟨b,l⟩⟩⟩
  ·exact T _ _
  ·exact absurd rfl (k a)
  ·exact T _ _
theorem ax2:rD q fs Mf:=by
 intro ρ I N hF w hz Q Q3 G C h;rcases abx G with⟨a,c,rfl⟩|Q1
 ·have e:C= #[F ρ a,F ρ c]:=by rw[h.2];simp
  subst e;unfold Mf;refine W.bind' (SC w (x:=a) ⟨h.1 a (by simp),rfl⟩) ?_
  rintro M o o' R QZ;refine W.bind' (SC w (x:=c) ⟨eX R (h.1 c (by simp)),rfl⟩) ?_
  rintro K p p' Q2 QY;rcases QZ with⟨rfl,rfl⟩|⟨g,x,x',fl,rfl,rfl,f⟩
  ·exact ik _ _
  ·rcases QY with⟨rfl,rfl⟩|⟨i,y,y',X,rfl,rfl,O⟩
   ·exact ik _ _
   ·dsimp only;split
    ·exact .dead (z.bind (.halt _) _)
    ·refine W.bind' (Bz i O) ?_;rintro QW D QX Q0 j;refine W.bind' (aae g i) ?_;rintro L b _ E rfl;have t:=f.mono (M:=L) (by omega)
     have n:∀{K:Nat} {s H:cy Unit},W ρ I (J q fs) q RU K s H->W ρ I (J q fs) q (RV ρ I) K (do s;bH (bO #[]):cy ay) (do H;bH (bO #[]):cy ay):=λP=>
      W.bind' P λ_ _ _ _ _=>.pure' (RV.plain rfl)
     cases b with
     |true=>exact n (Np g t (j.mono E))
     |false=>
      simp only[nT,if_false];refine W.bind' (SM g i) ?_;rintro J2 b _ r rfl;have A:=t.mono r;have Qw:=(j.mono E).mono r;cases b with
      |true=>
       simp only[iM];refine W.bind' (Nv i) ?_;rintro J3 k _ v rfl;have u:=A.mono v;have m:=Qw.mono v;split
       ·obtain⟨B,rfl⟩:=m;cases D<;>first|exact ik _ _|exact n (Np g u ⟨B,rfl⟩)
       ·exact n (Np g u ⟨by simpa[S] using m.1,by rw[m.2];rfl⟩)
      |false=>
       simp only[nT,if_false];exact .dead (z.then (spelt i) (λ_=>z.then (spelt g) (λ_=>z.bind (Qc _ _) _)))
 ·unfold Mf;rcases G with⟨_|⟨a,_|⟨c,_|⟨d,l⟩⟩⟩⟩
  ·exact T _ _
  ·exact T _ _
  ·exact absurd rfl (Q1 a c)
  ·exact T _ _
theorem SD(d:Fair ρ q){r f}(e:RV ρ I N r f):W ρ I (J q fs) q RD N (ofRtype r) (ofRtype f):=by
 obtain⟨i,rfl⟩:=e;by_cases e:∃h,r=bN #[h]
 ·obtain⟨h,rfl⟩:=e;refine W.bind' (SE d (h:=h) ⟨(bu.BV (ρ:=ρ) i).1 _ (by simp),rfl⟩) ?_
  rintro M t _ j rfl;refine W.bind' (Nt _ t) ?_;rintro K _ _ k _;exact .pure' rfl
 ·cases r<;>try exact T _ _
  rename_i g;rcases g with⟨_|⟨a,_|⟨b,l⟩⟩⟩
  ·exact T _ _
  ·grind
  ·exact T _ _
theorem agd{f}(r:∀(ρ) (I) (N),(∀b,N<=b->I.F b=Z)->Fair ρ q->q.globals.size<N->I.F q.globals.size=Z->∀t,W ρ I (J q fs) q (RV ρ I) N (f t) (f t)):rD q fs (Qu f):=by
 intro ρ I N p g n j m i d h;rcases JD i with⟨a,rfl⟩|k
 ·have e:d= #[F ρ a]:=by rw[h.2];simp
  subst e;refine W.bind' (SD g (r:=a) ⟨h.1 a (by simp),rfl⟩) ?_
  rintro M t _ o rfl
  grind
 ·rcases i with⟨_|⟨a,_|⟨b,l⟩⟩⟩
  ·exact T _ _
  ·exact absurd rfl (k a)
  ·exact T _ _
theorem ax3:rD q fs (Qu ag2):=agd λρ I N g d b c t=>by
 refine W.bind' (aad t) ?_;rintro M e _ f rfl;cases e with
 |some e=>grind[Sy]
 |none=>exact .dead (z.then _ (λ_=>Qc _ _))
theorem ax8:rD q fs (Qu λt=>do noPackHeld "Comparable" t;bH (cz (<-typeInfo t).comparable)):=agd λρ I N f d b c t=>by refine W.bind' (anw _ t) ?_;rintro M _ _ e _;refine W.bind' (Jn t) ?_;rintro K i _ g rfl;exact .pure' (RV.plain rfl)
theorem age{i}{f}(s:∀(ρ) (I) (N) t u,W ρ I (J q fs) q RD N (f t u) (f t u)):rD q fs (Il i f):=by
 intro ρ I N A j z n r m k h;rcases abx m with⟨a,c,rfl⟩|o
 ·have e:k= #[F ρ a,F ρ c]:=by rw[h.2];simp
  subst e;cases c<;>first|exact T _ _|exact .dead (Qc _ _)|skip
  rename_i t u;refine W.bind' (SD j (r:=u) ⟨by have:=h.1 (iv t u) (by simp);simpa[S] using this,rfl⟩) ?_
  rintro M x _ p rfl;refine W.bind' (SD j (r:=a) ⟨eX p (h.1 a (by simp)),rfl⟩) ?_
  rintro K y _ v rfl;refine W.bind' (s ρ I K x y) ?_;rintro B b _ w rfl;exact .pure' (RV.plain rfl)
 ·rcases m with⟨_|⟨a,_|⟨c,_|⟨d,l⟩⟩⟩⟩
  ·exact T _ _
  ·exact T _ _
  ·exact absurd rfl (o a c)
  ·exact T _ _
theorem ax6:rD q fs (Il "Implements" agV):=age λρ I N u t=>by
 refine W.bind' (Nv u) ?_;rintro M k _ b rfl;split
 ·exact .dead (z.bind (Qc _ _) _)
 ·refine W.bind' (Jm _ _) ?_;rintro _ _ _ _ _;refine W.bind' (Nt _ _) ?_
  grind[SM]
theorem ax9:rD q fs (Il "AssignableTo" Xo):=age λρ I N u t=>by
 unfold Xo;have d:∀M,W ρ I (J q fs) q RD M (do bH ((<-Ik u t)||(<-implements u t))) (do bH ((<-Ik u t)||(<-implements u t))):=λM=>by refine W.bind' (aae u t) ?_;rintro K a _ e rfl;refine W.bind' (SM u t) ?_;rintro A b _ f rfl;exact .pure' rfl
 split
 ·refine W.bind' (Jm _ _) ?_;rintro _ _ _ _ _;refine W.bind' (Jm _ _) ?_
  grind
 grind
theorem aya:rD q fs (Xt λt=>do bH (Y aq (<-Ic t))):=by
 intro ρ I N p f n i m g d h;rcases JD g with⟨a,rfl⟩|j
 ·have e:d= #[F ρ a]:=by rw[h.2];simp
  subst e;refine W.bind' (SE f (h:=a) ⟨h.1 a (by simp),rfl⟩) ?_
  rintro M t _ o rfl;refine W.bind' (Nt _ t) ?_;rintro _ _ _ _ _;refine W.bind' (Nv t) ?_;rintro K k _ r rfl;exact .pure' (RV.plain rfl)
 ·rcases g with⟨_|⟨a,_|⟨b,l⟩⟩⟩
  ·exact T _ _
  ·exact absurd rfl (j a)
  ·exact T _ _
end
section
open Go Go.Proofs
def eG:Nat->Code->Code
 |0,c=>c
 |n+1,eE _ c=>eG n c
 |_+1,c=>c
noncomputable def cP(n:Nat):Code:=eG n (nG.body.getD .skip)
def eM:Code->Array dD
 |dQ _ ops _=>ops
 |eE a _=>eM a
 |_=> #[]
noncomputable def kB:Code:=match cP 9 with|eE (.block _ (.loop c)) _=>c|c=>c
noncomputable def jW:Code:=match eG 2 kB with|.block _ c=>c|c=>c
def eH(dst:Option Tmp)(op:Op)(type:dZ):dD:={dst:=dst,op:=op,type:=type,pos:= "",after:= #[],guard:=V}
def NV:Array dD:= #[eH (U 23) (.load 3 (.global 4)) 3,eH (U 24) (.binOp .eql 3 (cu 23) (gB (Y aH 0)) 3) 4]
def yC:Array dD:= #[eH V (.store 3 (.global 4) (gB (Y aH 1))) 0,eH (U 25) (.fieldAddr 110 (cu 0) 0) 0,eH (U 26) (.fieldAddr 110 (cu 1) 0) 0]
def Gi:Array dD:= #[eH V (.store 3 (.global 4) (gB (Y aH 0))) 0]
def NW:Array dD:= #[eH (U 14) (oh (cu 0)) 0,eH (U 15) (oh (cu 1)) 0]
def mX:Array dD:= #[eH (U 69) (.call {callee:=.value (.func 59),args:= #[cu 15,cu 12],argTypes:= #[77,79]}) 79,eH (U 70) (.binOp .eql 79 (cu 69) (gB (aD V 0 0)) 79) 4]
def BP:Array dD:= #[eH (U 12) (oh (gB (aD V 0 0))) 79,eH (U 13) (oh (gB (cz ai))) 4]
def BM:Array dD:= #[eH (U 12) (oh (cu 69)) 79,eH (U 13) (oh (gB (cz Z))) 4]
def xk:Array dD:= #[eH (U 72) (.move (cu 15)) 0,eH (U 73) (.move (cu 14)) 0,eH (U 14) (oh (cu 72)) 0,eH (U 15) (oh (cu 73)) 0]
noncomputable def ni:Code:=
 eE (dQ 10 (eM kB) ai) (eE (.cond (cu 62) .skip (.exit 0)) (.block 1
  (eE (dQ 11 (eM jW) ai) (eE (dQ 12 (eM (eG 1 jW)) ai) (eE (dQ 905 mX ai) (eE (.cond (cu 70) (dQ 906 BP ai) (dQ 907 BM ai)) (dQ 908 xk ai)))))))
noncomputable def tZ:Code:=eE (dQ 904 Gi ai) .ret
noncomputable def wU:Code:=eE (dQ 8 (eM (cP 7)) ai) (eE (dQ 903 NW ai) (eE (.block 0 (.loop ni)) tZ))
noncomputable def wJ:Code:=.cond (cu 22) (eE (dQ 902 Gi ai) .ret) .skip
noncomputable def Dv:Code:=eE (dQ 0 (eM (cP 0)) ai) (eE (dQ 1 (eM (cP 1)) ai) (eE wJ wU))
noncomputable def A8:Code:=eE (dQ 900 NV ai) (eE (.cond (cu 24) .skip (.refuse "a session is under way")) (eE (dQ 901 yC ai) Dv))
noncomputable def uy:dV:={nG with body:=U A8}
noncomputable def iV:Array dV:=((aC.funcs.setIfInBounds 41 uy).setIfInBounds 180 {f180 with body:=U (.refuse "not here")}).setIfInBounds 181 {f181 with body:=U (.refuse "not here")}
theorem pA{f}(c:f≠41)(b:f≠180)(a:f≠181):iV[f]? =aC.funcs[f]? :=by
 unfold iV
 grind
end
end Go.Proofs.YtpdbmpbmepkikaaGreatDoor
