/- Laws. -/
import Derived.Test.YtpdbmpbmepkikaaGreatDoorProg
import Derived.Test.YtpdbmpbmepkikaaGreatDoorQ02
set_option maxRecDepth 100000
set_option maxHeartbeats 400000
set_option linter.all false
open Go.Proofs.Tryz
open Bool renaming true->Y,false->ai
open Classical renaming choose->G0
open Go renaming Goroutine->aX,Frame->aZ,undef->ak,World->ay,Value->az,Program->bW,Calls->bz,stepG->cj,Sem->cz,Oper->dJ,Addr->eT,Item->eY,Func->ep,yielded->eu,TypeId->ey,FuncId->fq,lone->iS,Event->jl,results->kA,doReturn->oz
open Go.CallKind renaming normal->eC
open Go.Code renaming seq->eI,region->ec
open Go.Departure renaming mixedOrders->nG
open Go.Ending renaming returned->bj
open Go.Extern.ReflectliteType renaming relation->Ky,toType->Um,typeOf->Un,method->Up,assignableTo->aa9,abiMethod->abd,implements_->akE,elem->akL
open Go.Extern.ReflectliteValue renaming valueError->Ca,method->Cb,parts->GS,set->OQ,unpack->Ox,isNil->Ui,elem->Ul,methodAny->Uo,partsAny->abc,mk->akM
open Go.Extern.Rtype renaming kind->Kt,directlyAssignable->Kx
open Go.Frame renaming oper?->OB,enter->eW,pos->o9
open Go.FrameMode renaming returning->fH
open Go.GStep renaming go->bU,ended->fx
open Go.GoStatus renaming running->dU
open Go.Instr renaming takeDeferred->Uj
open Go.IntKind renaming i64->aC,u8->aq,u64->cO
open Go.Item renaming inRegion->aT,code->bF,inBlock->mh
open Go.Obj renaming deferred->x6
open Go.Op renaming assign->pn
open Go.Operand renaming tmp->cx,const->gJ
open Go.Outcome renaming stuck->kB
open Go.Program renaming methodsOfAPack->aCE
open Go.Proofs.Tryz renaming prog->aF,f41->oB
open Go.Region renaming wanted->eX,schedule->mK
open Go.Result renaming ok->aY,halt->dR
open Go.Sem renaming runT->fu
open Go.Stepped renaming next->fW
open Go.Target renaming collected->Ku
open Go.Value renaming int->V,string->aD,slice->aE,pointer->aG,agg->bJ,tuple->bO,bool->bQ,map->cq,func->dM,chan->de,iface->iB,nilIface->nH
open Go.stepG renaming oper->EI,exec->wM,apply->wN
open List renaming range->mJ
open Option renaming some->U,none->Z
open Or renaming inr->aA,inl->ax
open Pure renaming pure->bI
namespace Go.Proofs.YtpdbmpbmepkikaaGreatDoor
def iW:=@if_true
def Jb:=@Array.mapM_eq_mapM_toList
def RR:=@List.mapM_nil
def Ja:=@List.mapM_cons
def yG:=@dif_pos
def Yu:=@Array.getElem_mem
def FV:=@dif_neg
def Bw:=@Nat.zero_add
def oe:=@Classical.byContradiction
def zZ:=@Classical.choose_spec
def agD:=@Nat.exists_eq_add_of_le
def agC:=@List.getElem?_append_left
def oS:=@List.getElem?_eq_getElem
def tE:=@Option.some.inj
def Yt:=@Array.getElem?_setIfInBounds
def Mz:=@List.map_congr_left
section
variable{ρ:Nat->Nat}{I:H}{q:bW}{fs:Array ep}{N M:Nat}{nm:String->Bool}{L:Option Nat}{X:fq->Prop}{b:aZ}{bs B':List aZ}{w v:ay}{m m':Bool}
theorem fT.FM{fr fr'}(h:fT ρ I q nm N fr fr'):∀d x y z k,fr.todo≠.call d x y z::k:=λd x y z k e=>by have:=h.GN (.call d x y z) (by grind);cases this
theorem fT.Mh{fr fr'}(h:fT ρ I q nm N fr fr'):∀d x y z k,fr'.todo≠.call d x y z::k:=λd x y z k e=>h.FM d x y z k<|h.todo.symm.trans e
theorem ar1(hL:nM I q fs nm)(c:Same I q fs nm X){fr fr':aZ}{cs cs':List aZ}(h:fT ρ I q nm w.heap.size fr fr')(t:gZ ρ I q nm w.heap.size cs cs'){s K:cz Next}(hs:W ρ I (J q fs) q (CH ρ I q fr) w.heap.size s K)(hW:dV ρ I L w v)(g:∀i,ρ (w.heap.size+i)=v.heap.size+i):u ρ I L (b::bs) (After ρ I q fs nm X b bs B') w v (wN (J q fs) Y fr (cs++b::bs) Z s w)<|wN q Y fr' (cs'++B') Z K v:=by have E:=W.alike hs w v #[] #[] rfl hW g;have n1:=h.FM;have Q3:=h.Mh;unfold wN;simp only[iW];have S:=W.alike (L:=Z) hs w {v with tape:=w.tape,drawn:=w.drawn} #[] #[] rfl hW.full g;generalize s.runT (J q fs) w #[]=R at E S⊢;generalize K.runT q {v with tape:=w.tape,drawn:=w.drawn} #[]=R2 at S;generalize K.runT q v #[]=R' at E⊢;obtain⟨r,es⟩:=R;obtain⟨r',es'⟩:=R';cases r with
 |halt x G=>
  obtain⟨F,w0,h0,T,Q⟩:=E;cases x<;>first|exact trivial|exact absurd F qh|skip
  case panic p=>exact u.off<|jN.aaV (aA h) t h0 T Q
  case unsupported QX=>cases QX<;>first|exact trivial|cases F
 |ok a G=>
  obtain⟨P,E⟩:=E;by_cases n:∀D,L=U D->G.drawn<=D;case neg=>obtain⟨_,_,_,_,C,_,_,_⟩:=S.2 (by simp);cases C with|gx QW C=>cases C<;>exact u.past P n|arg=>exact u.past P n|enter=>exact u.past P n
  obtain⟨b0,v1,e1,e,C,l,B,hE⟩:=E n;obtain⟨rfl,rfl⟩:=Prod.mk.inj e;have A:w.heap.size<=G.heap.size:=B.oM;have j:∀e∈(#[]++e1:Array jl),yf ρ I G.heap.size e:=by grind
  cases C with|arg Q1 hv=>refine u.after (u.go l<|.within (aA<|(h.mono A).aaI λops i Q0 k ht o d ho hd'=>?_)<|t.mono A) B g<|kept j;grind|enter QW H y=>
   refine u.after ?_ B g<|kept j;dsimp only;split;·grind
   ·split;·rename_i e;grind
    ·exact u.go l<|.within (cs:=fr::cs) (cs':=fr'::cs') (aA<|fT.Ay c H y)<|.cons (aA ⟨h.mono A,QW⟩)<|t.mono A|gx QW C=>have z:pG ρ I q nm G.heap.size fr fr':=aA ⟨h.mono A,QW⟩;cases C with
   |value hv=>exact u.after (u.go l<|.within (z.finish hv)<|t.mono A) B g<|kept j|skip=>exact u.after (u.go l<|.within (z.finish<|RV.plain uu)<|t.mono A) B g<|kept j|enter H Q2 y=>
    refine u.after ?_ B g<|kept j;dsimp only;split;·rename_i e;exact absurd e<|n1 _ _ _ _ _
    ·split;·rename_i e;exact absurd e<|Q3 _ _ _ _ _
     ·rename_i f mP qC _ _ _ _;refine u.go l ?_;by_cases F:X f;·exact .cut (ax F) y z<|t.mono A
      ·exact .within (cs:=fr::cs) (cs':=fr'::cs') (ax<|fe.Ay c H F Q2 y)<|.cons z<|t.mono A|aa1 hc y=>
    refine u.after ?_ B g<|kept j;dsimp only;split;·rename_i e;exact absurd e<|n1 _ _ _ _ _
    ·split;·rename_i e;exact absurd e<|Q3 _ _ _ _ _
     ·exact u.go l<|.cut (aA hc) y z<|t.mono A|round hl H O ha Q2=>refine u.after (u.go l ?_) B g<|kept j;exact .within (cs:=fr::cs) (cs':=fr'::cs') (ax<|fe.aes c hl H O ha Q2)<|.cons z<|t.mono A
theorem amC{D}(ops){e c}(h:sO ρ I N D e c)(j):eu ops c j=eu ops e j:=by unfold eu;cases ops[j]?.bind (·.dst)with|none=>rfl|some d=>simp only[yI];cases g:e[d]? with|none=>rw[yH<|by rw[h.size];grind]|some v=>cases f:D d with|true=>obtain⟨l,i,k⟩:=h.arg d v g f;rw[i];rcases k with⟨rfl,_⟩|⟨_,_,rfl,rfl⟩<;>rfl|false=>rw[(h.here d v g f).2];cases v<;>rfl
theorem fT.to{fr fr'}(h:fT ρ I q nm N fr fr'){l}(c:∀i∈l,EB I q nm (I.D fr.fn) i=Y):fT ρ I q nm N {fr with todo:=l} {fr' with todo:=l}:=⟨h.fn,h.here,h.df,h.tmps,rfl,c,h.GO,h.TX,h.mode,h.xB,h.rS,h.xJ,h.IC,h.QS⟩
theorem fT.ret{fr fr'}(h:fT ρ I q nm N fr fr'):fT ρ I q nm N {fr with mode:=fH} {fr' with mode:=fH}:=⟨h.fn,h.here,h.df,h.tmps,h.todo,h.GN,h.GO,h.TX,rfl,aA rfl,h.rS,h.xJ,h.IC,h.QS⟩
theorem arc(S:vq ρ I L q fs nm X w v){fr fr'}{cs cs'}(h:fT ρ I q nm w.heap.size fr fr')(t:gZ ρ I q nm w.heap.size cs cs'){ops}{i}{l}{k}(g:fr.todo=aT ops (i::l)::k):u ρ I L (b::bs) (After ρ I q fs nm X b bs B') w v (EI (J q fs) Y fr (cs++b::bs) Z w)<|EI q Y fr' (cs'++B') Z v:=by
 have n:=h.todo.trans g;have j:=h.GN (aT ops<|i::l) (by grind);have r:fr.oper?=ops[i]?:=by unfold OB;grind
 have p:fr'.oper?=ops[i]?:=by unfold OB;grind
 unfold EI;rw[r,p];cases f:ops[i]? with|none=>exact trivial|some o=>
  simp only[EB,kZ]at j;have d:=j o<|uG f;have s:∀c,o.op≠.defer c:=λc e=>by unfold EA zN Kr at d;grind
  have:=ar1 (b:=b) (bs:=bs) (B':=B') S.lay S.same h t (asb S h g f d) S.kT S.shift;grind
def RVl(ρ:Nat->Nat)(I:H)(N:Nat)(l l':List az):Prop:=(∀v∈l,S I N v=Y)/\l'=l.map (F ρ)
theorem aq7{D:Nat->Bool}{fn k:ep}(o:k.results=fn.results)(u:fn.results.all (Be D)=Y){T A:Array az}(h:sO ρ I N D T A):W ρ I (J q fs) q (RV ρ I) N (kA fn T)<|kA k A:=by
 have f:∀{M:Nat}(t:Nat),N<=M->D t=ai->RV ρ I M (T.getD t ak) (A.getD t ak):=λ{M}t g C=>by rw[iE,iE];cases E:T[t]? with|none=>rw[yH<|by rw[h.size];grind];exact RV.plain uu|some v=>obtain⟨i,H⟩:=h.here t v E C;rw[H];exact⟨ff g i,rfl⟩
 unfold kA;rw[o,Jb,Jb];simp only[kZ]at u;have p:∀(l:List ResultVar)(M:Nat),N<=M->(∀r∈l,Be D r=Y)->W ρ I (J q fs) q (RVl ρ I) M (l.mapM λ|.tmp t=>bI<|T.getD t ak|.cell a t=>do loadVar t<|<-asAddr<|T.getD a ak) (l.mapM λ|.tmp t=>bI<|A.getD t ak|.cell a t=>do loadVar t<|<-asAddr<|A.getD a ak):=by intro l;induction l with|nil=>intro M g _;rw[RR,RR];exact .pure' ⟨by simp,rfl⟩|cons x l F=>
   intro M g n;rw[Ja,Ja];have s:=n x (by simp);refine W.bind' (R:=RV ρ I) ?_ ?_;.cases x with|tmp t=>exact .pure'<|f t g<|by simpa[Be]using s|cell a t=>refine W.bind' (LO<|f a g<|by simpa[Be]using s) ?_;grind[C9]
   .rintro K a P B⟨R,rfl⟩;refine W.bind' (F K (bC g B) λr o=>n r<|by grind) ?_;rintro O c S d⟨Q,rfl⟩;refine .pure' ⟨λv y=>?_,rfl⟩;grind[ff]
 have i:=p fn.results.toList N (aS _) λr o=>u r (by grind);show W ρ I (J q fs) q (RV ρ I) N (Functor.map List.toArray _>>=_)<|Functor.map List.toArray _>>=_;refine W.bind' (R:=bD ρ I) (W.bind i (k':=λl=>.pure l.toArray) (k:=λl=>.pure l.toArray) ?_) ?_;.rintro M l Q0 g⟨n,rfl⟩;exact .pure ⟨λv y=>n v<|by grind,by simp⟩
 .rintro M G z g e;refine .pure' ?_;have j:=e.size;by_cases i:G.size=1;.rw[yG i,yG<|by rw[j];exact i];refine⟨e.1 _<|Yu _,?_⟩;obtain⟨_,rfl⟩:=e;simp
  .rw[FV i,FV<|by rw[j];exact i];exact RV.tuple e
theorem aqR(F:AZ I q m' B')(S:vq ρ I L q fs nm X w v){fr fr'}{cs cs'}(h:fT ρ I q nm w.heap.size fr fr')(t:gZ ρ I q nm w.heap.size cs cs')(E:fr.mode=fH):u ρ I L (b::bs) (After ρ I q fs nm X b bs B') w v (unwind (J q fs) m fr (cs++b::bs) Z w)<|unwind q m' fr' (cs'++B') Z v:=by
 have z:=h.mode.trans E;obtain⟨C,j,k,p,D,l,B⟩:=fr;obtain⟨o,i,e,Q3,y,g,n⟩:=fr';subst E z;have Q2:=h.fn;subst Q2;have O:=h.GO;have R:=h.TX;subst O R;obtain⟨K,Q,f,c,G,a,Q0,Q1,_⟩:=S.same.aaX o h.df;show u _ _ _ _ _ w v (match fs[o]? with|none=>_|some C=>_)<|match q.funcs[o]? with|none=>_|some C=>_;rw[(S.same.same o K Q).1,G];refine u.of_run (q:=q) (fs:=fs) (fn:=o) (f:=λr=>match r with|aY x w=>oz (J q fs) m ⟨o,j,k,[],fH,l,B⟩ (cs++b::bs) Z x w|dR (.stuck s) w=>fx (kB s<|o9 (J q fs) ⟨o,j,k,[],fH,l,B⟩) w|dR _ w=>fx (kB "return: the result variables cannot be read"<|o9 (J q fs) ⟨o,j,k,[],fH,l,B⟩) w) (f':=λr=>match r with|aY x w=>oz q m' ⟨o,i,e,[],fH,g,n⟩ (cs'++B') Z x w|dR (.stuck s) w=>fx (kB s<|o9 q ⟨o,i,e,[],fH,g,n⟩) w|dR _ w=>fx (kB "return: the result variables cannot be read"<|o9 q ⟨o,i,e,[],fH,g,n⟩) w) (aq7 rfl Q1 h.tmps) S.kT S.shift ?_ ?_;.intro L x d P W T H A _;exact QH F h.rS h.xJ h.here (t.mono T) H A
 .intro x P _;cases x<;>exact ax ⟨_,_,_,rfl⟩
theorem arF(hB:AZ I q m' B')(S:vq ρ I L q fs nm X w v){fr fr':aZ}{cs cs':List aZ}(h:fT ρ I q nm w.heap.size fr fr')(t:gZ ρ I q nm w.heap.size cs cs'):u ρ I L (b::bs) (After ρ I q fs nm X b bs B') w v (wM (J q fs) m Y fr (cs++b::bs) Z w)<|wM q m' Y fr' (cs'++B') Z v:=by
 have M5:=h.todo;have JI:=h.IC;have BJ:=h.QS;obtain⟨D,A,todo,p,H,E,ro⟩:=fr;obtain⟨G,y,Q2,s,Q3,B,ro'⟩:=fr';simp only at M5 JI BJ;subst M5 JI BJ;have C:∀l:List eY,(∀i∈l,EB I q nm (I.D D) i=Y)->u ρ I L (b::bs) (After ρ I q fs nm X b bs B') w v (bU (r (⟨D,A,l,p,H,E,Z⟩:aZ)<|cs++b::bs) w) (bU (r (⟨G,y,l,s,Q3,B,Z⟩:aZ)<|cs'++B') v):=λl hl=>u.go S.kT<|.within (aA<|h.to hl) t;have O:∀(j:Option Code)(o o':Outcome),u ρ I L (b::bs) (After ρ I q fs nm X b bs B') w v (if j matches Z|some .ret then bU (r (⟨D,A,Q2,p,fH,E,Z⟩:aZ)<|cs++b::bs) w else fx o w)<|if j matches Z|some .ret then bU (r (⟨G,y,Q2,s,fH,B,Z⟩:aZ)<|cs'++B') v else fx o' v:=λj o o'=>by have go1:=u.go (B:=b::bs) (A:=After ρ I q fs nm X b bs B') S.kT<|.within (aA h.ret) t;cases j with|none=>grind|some c=>cases c<;>first|grind|exact trivial
 have uX:=h.eval S.fair S.low;unfold wM;cases Q2 with|nil=>exact O Z _ _|cons i k=>have Q:=h.GN i (by simp);have R:∀j∈k,EB I q nm (I.D D) j=Y:=λj hj=>h.GN j (by grind);simp only at Q;cases i with
  |call _ _ _ _=>cases Q|extern _ _=>cases Q|inScope _=>cases Q|inRangeFunc l=>cases Q|endRangeFunc l=>cases Q|beginRound=>cases Q|inBlock id=>exact C k R|inLoop c=>exact C (bF c::.inLoop c::k)<|ig.2 ⟨Q,ig.2 ⟨Q,R⟩⟩|inRegion f l=>cases l with|nil=>exact C k R|cons i l=>
    have hy:eu f y=eu f A:=funext<|amC f h.tmps;have h1:=arc (b:=b) (bs:=bs) (B':=B') S h t rfl;have h2:u ρ I L (b::bs) (After ρ I q fs nm X b bs B') w v (bU (r ((⟨D,A,aT f (i::l)::k,p,H,E,Z⟩:aZ).finish ak)<|cs++b::bs) w)<|bU (r ((⟨G,y,aT f (i::l)::k,s,Q3,B,Z⟩:aZ).finish ak)<|cs'++B') v:=u.go S.kT<|.within (aA<|h.aaI λ_ _ _ _ _ o d _ _=>⟨λ_=>⟨(tj (ρ:=ρ) uu).1,(tj (ρ:=ρ) (I:=I) (N:=w.heap.size) uu).2.symm⟩,λ_=>mQ.undef⟩) t;by_cases hw:(f[i]?.map (eX .<|eu f A)).getD ai=Y;.grind
    .have hw':¬(f[i]?.map (eX .<|eu f y)).getD ai=Y:=by grind
     show u _ _ _ _ _ w v (if(f[i]?.map (eX .<|eu f A)).getD ai=Y then _ else _) (if(f[i]?.map (eX .<|eu f y)).getD ai=Y then _ else _);rw[if_neg hw,if_neg hw'];exact h2
  |code c=>have K:l9 I q nm (I.D D) c=Y:=Q;cases c with
   |scope _=>cases K|label _=>cases K|goto _=>cases K|rangeFunc _ _ _ _=>cases K|refuse _=>exact trivial|ret=>exact O (U .ret) _ _|skip=>exact C k R|seq a c=>simp only[l9,cV]at K;exact C (bF a::bF c::k)<|ig.2 ⟨K.1,ig.2 ⟨K.2,R⟩⟩|block id c=>exact C (bF c::mh id::k)<|ig.2 ⟨K,ig.2 ⟨rfl,R⟩⟩|loop c=>exact C (bF c::.inLoop c::k)<|ig.2 ⟨K,ig.2 ⟨K,R⟩⟩|cond x a c=>
    simp only[l9,cV]at K;obtain⟨e,e2⟩:=uX x K.1.1;have P:∀(QX u':az)(o o':Outcome),u'=F ρ QX->u ρ I L (b::bs) (After ρ I q fs nm X b bs B') w v (match QX with|bQ z=>bU (r ⟨D,A,bF (if z then a else c)::k,p,H,E,Z⟩<|cs++b::bs) w|_=>fx o w) (match u' with|bQ z=>bU (r ⟨G,y,bF (if z then a else c)::k,s,Q3,B,Z⟩<|cs'++B') v|_=>fx o' v):=by
     rintro QX _ o o' rfl;cases QX<;>try exact trivial
     rename_i z;cases z with|true=>exact C (bF a::k)<|ig.2 ⟨K.1.2,R⟩|false=>exact C (bF c::k)<|ig.2 ⟨K.2,R⟩
    exact P _ _ _ _ e2|exit id=>
    have P:∀(o:Option<|List eY)(g g':GStep),(∀l,o=U l->∀i∈l,EB I q nm (I.D D) i=Y)->u ρ I L (b::bs) (After ρ I q fs nm X b bs B') w v g g'->u ρ I L (b::bs) (After ρ I q fs nm X b bs B') w v (o.elim g λl=>bU (r ⟨D,A,l,p,H,E,Z⟩<|cs++b::bs) w) (o.elim g' λl=>bU (r ⟨G,y,l,s,Q3,B,Z⟩<|cs'++B') v):=by rintro o g g' ho hg;cases o with|none=>exact hg|some l=>exact C l<|ho l rfl
    exact P (exitTo id k) _ _ (λl hl i Q=>R i<|Oh id k l hl i Q)<|O (U<|.exit id) _ _|region id f d=>have W:EB I q nm (I.D D) (aT f [])=Y:=K;cases d with|false=>exact C (aT f (mJ f.size)::k)<|ig.2 ⟨W,R⟩|true=>
     have qp:G=D:=h.fn;subst qp;have go2:∀(n:Nat)(T Q1:ay),dV ρ I L T Q1->fy ρ I w v T Q1->T.heap.size=w.heap.size->u ρ I L (b::bs) (After ρ I q fs nm X b bs B') w v (bU (r ⟨G,A,aT f (mK (q.follows nG) f n)::k,p,H,E,Z⟩<|cs++b::bs) T) (bU (r ⟨G,y,aT f (mK (q.follows nG) f n)::k,s,Q3,B,Z⟩<|cs'++B') Q1):=λn T Q1 Q0 hT hs=>aA ⟨hT.Ey,λ_=>⟨_,Q1,#[],rfl,.within (aA<|(h.mono<|by omega).to (l:=aT f (mK (q.follows nG) f n)::k)<|ig.2 ⟨W,R⟩)<|t.mono<|by omega,Q0,hT,by simp⟩⟩;have P:∀(n:Nat)(T Q1:ay)(QW r':Result Nat),QW=aY n T->r'=aY n Q1->dV ρ I L T Q1->fy ρ I w v T Q1->T.heap.size=w.heap.size->u ρ I L (b::bs) (After ρ I q fs nm X b bs B') w v (match QW with|aY t w=>bU (r ⟨G,A,aT f (mK ((J q fs).follows nG) f t)::k,p,H,E,Z⟩<|cs++b::bs) w|dR _ w=>fx (kB "order"<|o9 (J q fs) ⟨G,A,bF (ec id f Y)::k,p,H,E,Z⟩) w) (match r' with|aY t w=>bU (r ⟨G,y,aT f (mK (q.follows nG) f t)::k,s,Q3,B,Z⟩<|cs'++B') w|dR _ w=>fx (kB "order"<|o9 q ⟨G,y,bF (ec id f Y)::k,s,Q3,B,Z⟩) w):=by rintro n T Q1 _ _ rfl rfl Q0 hT hs;exact go2 n T Q1 Q0 hT hs
     rcases ad1 (p:=J q fs) (q:=q) (.order G id) S.kT with⟨n,e,e2⟩|⟨n,e,e2⟩|⟨n,e,hn⟩;.exact P n w v _ _ e e2 S.kT (fy.refl _ _) rfl
     .exact P n _ _ _ _ e e2 S.kT.draw (fy.draw _ _) rfl
     .have YR:∀(QW:Result Nat)(g:GStep),QW=aY n {w with drawn:=w.drawn+1}->u ρ I L (b::bs) (After ρ I q fs nm X b bs B') w v (match QW with|aY t w=>bU (r ⟨G,A,aT f (mK ((J q fs).follows nG) f t)::k,p,H,E,Z⟩<|cs++b::bs) w|dR _ w=>fx (kB "order"<|o9 (J q fs) ⟨G,A,bF (ec id f Y)::k,p,H,E,Z⟩) w) g:=by rintro _ g rfl;exact u.past (Jp _) hn
      exact YR _ _ e
theorem bD.getD{c a}(h:bD ρ I N c a)(t):RV ρ I N (c.getD t ak)<|a.getD t ak:=by rw[iE,iE];cases d:c[t]? with|none=>rw[h.get_none d];exact RV.plain uu|some v=>obtain⟨f,e⟩:=h.get d;rw[e];exact⟨f,rfl⟩
theorem adE{t:Type}{f f':t->cz az}:∀(l:List t)(N:Nat),(∀x M,N<=M->W ρ I (J q fs) q (RV ρ I) M (f x) (f' x))->W ρ I (J q fs) q (RVl ρ I) N (l.mapM f) (l.mapM f')|[],N,d=>by rw[RR,RR];exact .pure' ⟨by simp,rfl⟩|x::l,N,d=>by rw[Ja,Ja];refine W.bind' (d x N<|aS _) ?_;rintro M a j g⟨n,rfl⟩;refine W.bind' (adE l M λx K e=>d x K<|bC g e) ?_;rintro K c h e⟨k,rfl⟩;refine .pure' ⟨λv i=>?_,rfl⟩;grind[ff]
theorem aq8{fn e}(o:e.results=fn.results){f c}(h:bD ρ I N f c):W ρ I (J q fs) q (RV ρ I) N (kA fn f)<|kA e c:=by
 unfold kA;rw[o,Jb,Jb];have i:=adE (ρ:=ρ) (I:=I) (q:=q) (fs:=fs) (f:=λ|.tmp t=>bI<|f.getD t ak|.cell a t=>do loadVar t<|<-asAddr<|f.getD a ak) (f':=λ|.tmp t=>bI<|c.getD t ak|.cell a t=>do loadVar t<|<-asAddr<|c.getD a ak) fn.results.toList N (λx M g=>by cases x with|tmp t=>exact .pure'<|(h.mono g).getD t|cell a t=>refine W.bind' (LO<|(h.mono g).getD a) ?_;grind[C9]);show W ρ I (J q fs) q (RV ρ I) N (Functor.map List.toArray _>>=_)<|Functor.map List.toArray _>>=_;refine W.bind' (R:=bD ρ I) (W.bind i (k':=λl=>.pure l.toArray) (k:=λl=>.pure l.toArray) ?_) ?_;.rintro M l r g⟨k,rfl⟩;exact .pure ⟨λv s=>k v<|by grind,by simp⟩
 .rintro M n p g d;refine .pure' ?_;have j:=d.size;by_cases i:n.size=1;.rw[yG i,yG<|by grind];refine⟨d.1 _<|Yu _,?_⟩;obtain⟨_,rfl⟩:=d;simp
  .rw[FV i,FV<|by grind];grind[RV.tuple]
theorem aqS(T:AZ I q m' B')(S:vq ρ I L q fs nm X w v){fr fr'}{cs cs'}(h:fe ρ I q nm w fr fr')(t:gZ ρ I q nm w cs cs')(O:fr.mode=fH):u ρ I L (b::bs) (After ρ I q fs nm X b bs B') w v (unwind (J q fs) m fr (cs++b::bs) Z w)<|unwind q m' fr' (cs'++B') Z v:=by have y:=h.mode.trans O;obtain⟨G,i,j,C,a,n,A⟩:=fr;obtain⟨o,g,d,z,Q2,e,p⟩:=fr';simp only at O y;subst O y;have E:o=G:=h.fn;subst E;obtain⟨l,hl,Q1,c⟩:=h.defers;simp only at Q1 c;subst Q1 c;unfold unwind;cases l with
 |cons r l=>
  have D:∀x∈l,I.blk w x=Y:=by grind
  refine u.of_run (q:=q) (fs:=fs) (fn:=o) (f:=λQ=>match Q with|aY QX w=>bU {frame:=⟨o,i,j,QX++l.map λr=>{target:=Ku r,args:=#[]},fH,n,A⟩,callers:=cs++b::bs,status:=dU,dying:=Z} w|dR _ w=>fx (kB "the deferred calls of a range-over-func loop have been taken"<|o9 (J q fs) ⟨o,i,j,(r::l).map λr=>{target:=Ku r,args:=#[]},fH,n,A⟩) w) (f':=λQ=>match Q with|aY QX w=>bU {frame:=⟨o,g,d,QX++l.map λr=>{target:=Ku<|ρ r,args:=#[]},fH,e,p⟩,callers:=cs'++B',status:=dU,dying:=Z} w|dR _ w=>fx (kB "the deferred calls of a range-over-func loop have been taken"<|o9 q ⟨o,g,d,(r::l).map λr=>{target:=Ku<|ρ r,args:=#[]},fH,e,p⟩) w) (aqV<|hl r<|by simp) S.kT S.shift ?_ ?_;.rintro L _ _ W v1 B⟨rfl,rfl⟩QW _;refine u.go QW<|.within (ax ?_)<|t.mono B;obtain⟨e1,e2,e3,e4,e5,e6,e7,e8,e9,F,K,P⟩:=h.mono B;exact⟨e1,e2,e3,e4,e5,⟨l,λx Q3=>H.eD (D x Q3) B,rfl,rfl⟩,e7,e8,e9,F,K,P⟩
  grind|nil=>have k:=S.same.res o h.here;simp only[List.map_nil];show u _ _ _ _ _ w v (match fs[o]? with|none=>_|some G=>_)<|match q.funcs[o]? with|none=>_|some G=>_;cases Q0:fs[o]? with
  |none=>rw[Q0]at k;cases R:q.funcs[o]? with|some _=>grind|none=>exact QH T h.rS h.xJ (by rw[h.fn];exact h.here) t (h.tmps.getD 0) S.kT
  |some f=>rw[Q0]at k;cases R:q.funcs[o]? with|none=>grind|some f'=>
    rw[R]at k;simp only[eG,ew]at k;refine u.of_run (q:=q) (fs:=fs) (fn:=o) (f:=λr=>match r with|aY x w=>oz (J q fs) m ⟨o,i,j,[],fH,n,A⟩ (cs++b::bs) Z x w|dR (.stuck s) w=>fx (kB s<|o9 (J q fs) ⟨o,i,j,[],fH,n,A⟩) w|dR _ w=>fx (kB "return: the result variables cannot be read"<|o9 (J q fs) ⟨o,i,j,[],fH,n,A⟩) w) (f':=λr=>match r with|aY x w=>oz q m' ⟨o,g,d,[],fH,e,p⟩ (cs'++B') Z x w|dR (.stuck s) w=>fx (kB s<|o9 q ⟨o,g,d,[],fH,e,p⟩) w|dR _ w=>fx (kB "return: the result variables cannot be read"<|o9 q ⟨o,g,d,[],fH,e,p⟩) w) (aq8 k.symm h.tmps) S.kT S.shift ?_ ?_;.intro L x x' W v1 B Q3 QW _;exact QH T h.rS h.xJ (by rw[h.fn];exact h.here) (t.mono B) Q3 QW
    .intro x W _;cases x<;>exact ax ⟨_,_,_,rfl⟩
theorem V3(c:AZ I q m' B')(S:vq ρ I L q fs nm X w v){fr fr'}{cs cs'}(h:jN ρ I q nm w fr fr')(t:gZ ρ I q nm w cs cs'):u ρ I L (b::bs) (After ρ I q fs nm X b bs B') w v (cj (J q fs) m (r fr<|cs++b::bs) w)<|cj q m' (r fr'<|cs'++B') v:=by
 rcases h with h|h;.unfold cj r;dsimp only;rw[h.mode];rcases h.xB with a|a;all_goals grind[arG,aqS]
 .unfold cj r;dsimp only;rw[h.mode];rcases h.xB with a|a;all_goals grind[arF,aqR]
theorem aeN(a):dH id a=a:=rfl
theorem atm(f):Bf id f=f:=by cases f<;>rfl
mutual
theorem II:∀v:az,F id v=v|dM fn first cap=>by simp only[F,atm,Q4]|iB t v=>by simp only[F];rw[II v]|bJ cs=>by simp only[F,Q4]|bO cs=>by simp only[F,Q4]|aG Z=>by simp[F]|aG<|U a=>by simp[F,aeN]|aE Z _ _=>by simp[F]|aE (U a) _ _=>by simp[F,aeN]|cq Z=>by simp[F]|cq<|U _=>by simp[F]|de Z=>by simp[F]|de<|U _=>by simp[F]|bQ _=>by simp[F]|V _ _=>by simp[F]|.float _ _=>by simp[F]|.complex _ _ _=>by simp[F]|aD _=>by simp[F]|.nilFunc=>by simp[F]|nH=>by simp[F]theorem Q4:∀v:Array az,nX id v=v|⟨l⟩=>by simp only[nX,aeJ]theorem aeJ:∀l:List az,qa id l=l|[]=>by simp[qa]|v::l=>by simp only[qa];rw[II v,aeJ l]end
theorem Mm(l:Array az):l.map (F id)=l:=by rw[<-yo,Q4]
theorem ato(e):kS id e=e:=by cases e;simp[kS,II]
theorem Q6(o):fb id o=o:=by
 cases o<;>simp only[fb];case cells=>rw[Mm]
 case map es c=>have:kS (id:Nat->Nat)=id:=funext ato;grind[Array.map_id]
 case mapIter m _ _ _=>grind
 case loop l=>simp only[Dg,Mm,id]
 case number=>rfl
theorem aeM(i):iV id i=i:=by cases i<;>rfl
theorem bD.same{l l'}(h:bD id I N l l'):l'=l:=by rw[h.2,Mm]
theorem fe.same{a c}(h:fe id I q nm N a c):c=a:=by
 obtain⟨A,P,C,y,Q,⟨l,L,D,z⟩,u,J,e,g,n,K⟩:=h;obtain⟨O,x,i,j,B,t,H⟩:=a;obtain⟨G,p,d,f,o,k,r⟩:=c;simp only at A C y D z u e g n;have F:=C.same;have E:d=i:=by rw[y,show iV (id:Nat->Nat)=id from funext aeM,List.map_id]
 have s:r=H:=by grind
 subst F E s A u D z e g;rfl
theorem jN.same(e:∀f,I.DF f=ai){a c}(h:jN id I q nm N a c):c=a:=h.elim (·.same) λh=>by have:=h.df;grind
theorem pG.same(d:∀f,I.DF f=ai){a c}(h:pG id I q nm N a c):c=a:=jN.same d h.top
theorem gZ.same(a:∀f,I.DF f=ai){l l'}(h:gZ id I q nm N l l'):l'=l:=by induction h with|nil=>rfl|cons h _ c=>rw[h.same a,c]
theorem fe.yp{ρ}{a c}(h:fe ρ I q nm N a c):fe id I q nm N a a:=by obtain⟨l,e,d,f⟩:=h.defers;exact⟨rfl,h.here,⟨h.tmps.1,(Mm _).symm⟩,by rw[show iV (id:Nat->Nat)=id from funext aeM,List.map_id],h.items,⟨l,e,d,d⟩,rfl,h.xB,h.rS,h.rS,by grind,h.rounds⟩
theorem fT.yp{ρ}{a c}(h:fT ρ I q nm N a c):fT id I q nm N a a:=⟨rfl,h.here,h.df,⟨rfl,λt v d e=>⟨(h.tmps.here t v d e).1,by grind[II]⟩,λt v d e=>by obtain⟨g,_,f⟩:=h.tmps.arg t v d e;exact⟨_,d,f.left⟩⟩,rfl,h.GN,h.GO,h.GO,rfl,h.xB,h.rS,h.rS,h.IC,h.IC⟩
theorem jN.yp{ρ}{a c}(h:jN ρ I q nm N a c):jN id I q nm N a a:=h.imp (·.yp) (·.yp)
theorem pG.yp{ρ}{a c}(h:pG ρ I q nm N a c):pG id I q nm N a a:=h.imp (·.yp) λh=>⟨h.1.yp,h.2⟩
theorem gZ.yp{ρ}{l l'}(h:gZ ρ I q nm N l l'):gZ id I q nm N l l:=by induction h with|nil=>exact .nil|cons h _ a=>exact .cons h.yp a
def World.re(w:ay)(τ:Nat->Question->Nat)(d:Nat):ay:={w with tape:=τ,drawn:=d}
theorem Whole.kT{L}(f:I.arg=Z)(h:Whole I w)(c)(d)(j:∀i,(∀D,L=U D->w.drawn+i<D)->c (d+i)=w.tape (w.drawn+i)):dV id I L w<|World.re w c d:=⟨rfl,j,λa b e=>e,λb o g k=>⟨h.blk b o g k,by rw[Q6];exact g⟩,h.kx,λA l=>by grind⟩
theorem fy.same{L}{w1 c}{k}{d}(u:Whole I w)(f:fy id I w (World.re w k d) w1 c)(r:dV id I L w1 c):c=World.re w1 k (d+(w1.drawn-w.drawn)):=by
 have x:c.heap.size=w1:=by have l:=f.size;have o:=f.oM;grind[World.re]
 have p:c.heap=w1.heap:=by
  refine Array.ext_getElem? λi=>?_;by_cases hi:i<w1
  .have n:w1.heap[i]?=w1.heap[i]:=by grind
   cases h:I.F i with|true=>have:=(r.blk i _ n h).2;grind[Q6]|false=>
    have g:i<w:=by refine Nat.lt_of_not_le λj=>?_;rw[u.kx i j]at h;cases h
    rw[f.Of i g h,f.sC i g λb _ y e=>by grind];rfl
  grind
 have l:c.tape=k:=f.tape;have o:c.drawn=d+(w1.drawn-w.drawn):=f.drawn;have t:=r.os;have s:c.output=w1.output:=by rw[f.out,f.IS];rfl
 cases c;cases w1;simp only at p l o t s;subst p l o t s;rfl
theorem akw(P):J P P.funcs=P:=rfl
theorem aaM(P):Fair id P:=⟨λ_ _ e=>e,λ_ _=>rfl,λ_ h=>h⟩
inductive xh(I:H)(P:bW)(nm:String->Bool)(b:aZ)(bs:List aZ)(N:Nat):aX->Prop|within{fr:aZ}{cs:List aZ}(h:jN id I P nm N fr fr)(t:gZ id I P nm N cs cs):xh I P nm b bs N<|r fr<|cs++b::bs|back{v:az}(h:S I N v=Y):xh I P nm b bs N<|r (b.finish v) bs
theorem aB4{P}(S:nM I P P.funcs nm)(O:Same I P P.funcs nm λ_=>False)(J:∀f n,I.cut f n=ai)(g:I.arg=Z/\∀f,I.DF f=ai)(y:Whole I w)(K:P.globals.size<w){fr}{cs}(h:jN id I P nm w fr fr)(t:gZ id I P nm w cs cs){Q3}{w1}{es}(e:cj P Y (r fr<|cs++b::bs) w=bU Q3 w1 es)(Q0:¬vz Q3):w.drawn<=w1.drawn/\w.heap.size<=w1/\Whole I w1/\xh I P nm b bs w1 Q3/\∀(c)(d),(∀i,w.drawn+i<w1.drawn->c (d+i)=w.tape (w.drawn+i))->∃j,cj P Y (r fr<|cs++b::bs) (World.re w c d)=bU Q3 (World.re w1 c<|d+(w1.drawn-w.drawn)) j:=by
 have k:∀(c:Nat->Question->Nat)(d:Nat),(∀i,w.drawn+i<w1.drawn->c (d+i)=w.tape (w.drawn+i))->∃p j,cj P Y (r fr<|cs++b::bs) (World.re w c d)=bU Q3 p j/\w.drawn<=w1.drawn/\w.heap.size<=w1/\Whole I w1/\xh I P nm b bs w1 Q3/\p=World.re w1 c (d+(w1.drawn-w.drawn)):=λc d l=>by
  have:=V3 (m:=Y) (m':=Y) (b:=b) (bs:=bs) (B':=b::bs) (ax ⟨b,bs,rfl⟩) ⟨S,O,aaM P,K,y.kx,y.kT g.1 c d λi Q2=>l i<|Q2 _ rfl,λi=>rfl⟩ h t;rw[akw,e]at this;rcases this with L|⟨G,Q⟩;.exact absurd L.off Q0
  .obtain⟨Eu,p,s,A,W,o,C,_⟩:=Q (λD hD=>by grind);have E:=C.same y o;cases W with|within x H=>have F:=x.same g.2;have R:=H.same g.2;subst F R;exact⟨p,s,A,G,C.oM,o.whole,.within x H,E⟩|back z T=>cases z;obtain⟨B,u⟩:=T;rw[II]at u;subst u;exact⟨p,s,A,G,C.oM,o.whole,.back B,E⟩|fin z _=>cases z|cut hf=>grind
 obtain⟨_,_,_,x,h2,Q1,a,_⟩:=k w.tape w.drawn λ_ _=>rfl;refine⟨x,h2,Q1,a,λc d l=>?_⟩;obtain⟨p,j,A,_,_,_,_,F⟩:=k c d l;grind
abbrev qD:=Nat->Question->Nat
section
variable (P:Program) (Done:Goroutine->World->Prop)
def Reach:Nat->aX->ay->Prop|0,g,w=>Done g w|n+1,g,w=>Done g w\/∃g1 w1 es,cj P Y g w=bU g1 w1 es/\¬vz g1/\Reach n g1 w1
inductive Term:aX->ay->Prop|done{g:aX}{w:ay}(h:Done g w):Term g w|step{g:aX}{w:ay}(f:qD->aX×ay)(h:∀τ:qD,(∃es,cj P Y g (World.re w τ 0)=bU (f τ).1 (f τ).2 es)/\¬vz (f τ).1)(t:∀τ,Term (f τ).1 (f τ).2):Term g w
end
section
variable {P:bW} {Done:aX->ay->Prop} {Inv:aX->ay->Prop}
theorem atH(w)(a σ:qD)(d e):World.re (World.re w a d) σ e=World.re w σ e:=rfl
def nq(l:List<|Question->Nat)(τ:qD):qD:=λi=>if h:i<l.length then l[i]else τ<|i-l.length
structure Lawful(P:bW)(Done:aX->ay->Prop)(Inv:aX->ay->Prop):Prop where blind:∀g w τ d,Done g w->Done g (World.re w τ d)abq:∀g w τ d,Inv g w->Inv g (World.re w τ d)law:∀g w g1 w1 es,Inv g w->¬Done g w->cj P Y g w=bU g1 w1 es->¬vz g1->w.drawn<=w1.drawn/\Inv g1 w1/\∀(τ:qD)(d:Nat),(∀i,w.drawn+i<w1.drawn->τ (d+i)=w.tape (w.drawn+i))->∃es',cj P Y g (World.re w τ d)=bU g1 (World.re w1 τ<|d+(w1.drawn-w.drawn)) es'
def Trail(P:bW)(Done:aX->ay->Prop)(n:Nat)(l:List<|Question->Nat)(g:aX)(w:ay)(g':aX)(w':ay):Prop:=∀(τ:qD)(k:Nat),Reach P Done k g (World.re w (nq l τ) 0)->n<=k/\Reach P Done (k-n) g' (World.re w' (nq l τ) l.length)
theorem Trail.nil(g)(w):Trail P Done 0 [] g w g w:=λa k h=>⟨Nat.zero_le _,by grind⟩
theorem afy(l m)(a):nq (l++m) a=nq l (nq m a):=by unfold nq;grind
theorem afx(l)(a)(i):nq l a (l.length+i)=a i:=by unfold nq;grind
theorem Reach.afH{k}{g}{w}(h:Reach P Done k g w)(b:¬Done g w):∃j,k=j+1/\∃a c d,cj P Y g w=bU a c d/\¬vz a/\Reach P Done j a c:=by cases k with|zero=>exact absurd h b|succ j=>exact⟨j,rfl,h.resolve_left b⟩
def B8(τ:qD)(k:Nat):List<|Question->Nat:=(mJ k).map τ
theorem ags(a)(k):(B8 a k).length=k:=by simp[B8]
theorem auC(a σ)(k i)(b:i<k):nq (B8 a k) σ i=a i:=by unfold nq;rw[yG<|by grind[ags]];simp[B8]
theorem Trail.snoc(m:Lawful P Done Inv){n}{l}{g c r}{w w1 d}{b:qD}{es}(h:Trail P Done n l g w c w1)(E:Inv c w1)(u:¬Done c w1)(e:cj P Y c (World.re w1 b 0)=bU r d es)(A:¬vz r):Trail P Done (n+1) (l++B8 b d.drawn) g w r d:=by
 intro p k v;rw[afy]at v;obtain⟨C,q⟩:=h (nq (B8 b d.drawn) p) k v;obtain⟨j,H,G,I,F,s,B,o⟩:=q.afH λx=>u<|m.blind c (World.re w1 (nq l<|nq (B8 b d.drawn) p) l.length) w1.tape w1.drawn x;obtain⟨_,_,f⟩:=m.law _ _ _ _ _ (m.abq _ _ _ _ E) (λx=>u<|m.blind c (World.re w1 b 0) w1.tape w1.drawn x) e A;obtain⟨D,y⟩:=f (nq l<|nq (B8 b d.drawn) p) l.length (λi z=>by have t:(World.re w1 b 0).drawn=0:=rfl;rw[t,Bw]at z;rw[afx,t,Bw,auC _ _ _ _ z];rfl);rw[atH]at y;rw[y]at s;cases s;refine⟨by omega,?_⟩;rw[afy,List.length_append,ags];have:k-(n+1)=j:=by omega
 rw[this];exact o
theorem Trail.goes(f:Lawful P Done Inv){n}{l}{g e}{w w1}(h:Trail P Done n l g w e w1)(u:∀a,∃k,Reach P Done k g<|World.re w a 0)(A:Inv e w1)(t:¬Done e w1)(a:qD):∃p C v,cj P Y e (World.re w1 a 0)=bU p C v/\¬vz p:=by obtain⟨k,z⟩:=u<|nq l a;obtain⟨_,m⟩:=h a k z;have d:=λx=>t<|f.blind e (World.re w1 (nq l a) l.length) w1.tape w1.drawn x;obtain⟨j,E,D,F,B,r,b,q⟩:=m.afH d;obtain⟨_,_,c⟩:=f.law _ _ _ _ _ (f.abq _ _ _ _ A) d r b;obtain⟨o,y⟩:=c a 0 (λi G=>by have s:(World.re w1 (nq l a) l.length).drawn=l.length:=rfl;rw[s,Bw];show a i=nq l a (l.length+i);rw[afx]);exact⟨_,_,o,y,b⟩
structure Ph where
 g:aX
 w:ay
 l:List (Question->Nat)n:Nat
theorem apx(B:Lawful P Done Inv){g:aX}{w:ay}(X:Inv g w)(M:∀c:qD,∃k,Reach P Done k g<|World.re w c 0):Term P Done g w:=by classical
 refine oe λl=>?_;let j:Ph->Prop:=λs=>Trail P Done s.n s.l g w s.g s.w/\Inv s.g s.w/\¬Term P Done s.g s.w;have f:∀s:Ph,j s->∃J:Ph,j J/\J.n=s.n+1/\∃m,J.l=s.l++m:=λs⟨y,p,Q⟩=>by
  have E:¬Done s.g s.w:=λx=>Q<|.done x;have R:=λc=>y.goes B M p E c;have G:∃c o q u,cj P Y s.g (World.re s.w c 0)=bU o q u/\¬vz o/\¬Term P Done o q:=by
   refine oe λN=>Q ?_;have d:∀c,∃x:aX×ay,((∃u,cj P Y s.g (World.re s.w c 0)=bU x.1 x.2 u)/\¬vz x.1)/\Term P Done x.1 x.2:=λc=>by obtain⟨o,q,u,e,A⟩:=R c;refine⟨(o,q),⟨⟨u,e⟩,A⟩,oe λF=>N ⟨c,o,q,u,e,A,F⟩⟩
   exact .step (λc=>G0<|d c) (λc=>(zZ<|d c).1) λc=>(zZ<|d c).2
  obtain⟨c,o,q,u,e,A,F⟩:=G;have I:=(B.law _ _ _ _ _ (B.abq _ _ c 0 p) (λx=>E<|B.blind s.g (World.re s.w c 0) s.w.tape s.w.drawn x) e A).2.1;exact⟨⟨o,q,s.l++B8 c q.drawn,s.n+1⟩,⟨y.snoc B p E e A,I,F⟩,rfl,_,rfl⟩
 let L:Ph:=⟨g,w,[],0⟩;have a:j L:=⟨Trail.nil g w,X,l⟩;let b:Nat->{s:Ph//j s}:=λn=>Nat.rec ⟨L,a⟩ (λ_ s=>⟨G0<|f s.1 s.2,(zZ<|f s.1 s.2).1⟩) n;have N:∀n,(b n).1.n=n:=λn=>by induction n with|zero=>rfl|succ n O=>grind
 have Q0:∀n,∃m,(b<|n+1).1.l=(b n).1.l++m:=λn=>(zZ<|f (b n).1 (b n).2).2.2;have C:∀n k,∃m,(b<|n+k).1.l=(b n).1.l++m:=λn k=>by induction k with|zero=>exact⟨[],by simp⟩|succ k O=>obtain⟨m,hm⟩:=O;obtain⟨S,Q1⟩:=Q0<|n+k;exact⟨m++S,by grind⟩
 let T:qD:=λi=>if h:∃n,i<(b n).1.l.length then(b<|G0 h).1.l[i]'(zZ h)elseλ_=>0;have z:∀n m i(y:i<(b n).1.l.length)(p:i<(b m).1.l.length),(b m).1.l[i]=(b n).1.l[i]:=λn m i y p=>by
  rcases Nat.le_total n m with t|t
  .obtain⟨k,rfl⟩:=agD t;obtain⟨r,D⟩:=C n k;have:(b<|n+k).1.l[i]?=(b n).1.l[i]?:=by rw[D,agC y]
   rw[oS y,oS p]at this;exact tE this
  .obtain⟨k,rfl⟩:=agD t;obtain⟨r,D⟩:=C m k;have:(b<|m+k).1.l[i]?=(b m).1.l[i]?:=by rw[D,agC p]
   rw[oS y,oS p]at this;exact(tE this).symm
 have K:∀n i(v:i<(b n).1.l.length),T i=(b n).1.l[i]:=λn i v=>by have h:∃n,i<(b n).1.l.length:=⟨n,v⟩;show(if h:∃n,i<(b n).1.l.length then(b<|G0 h).1.l[i]'(zZ h)elseλ_=>0)=_;rw[yG h];exact z n _ i v _
 obtain⟨k,W⟩:=M T;have H:nq (b<|k+1).1.l (λi=>T<|(b<|k+1).1.l.length+i)=T:=by
  funext i;unfold nq;by_cases v:i<(b<|k+1).1.l.length;.rw[yG v];exact(K (k+1) i v).symm
  .rw[FV v];exact congrArg T<|by omega
 have hb:=(b<|k+1).2.1 (λi=>T<|(b<|k+1).1.l.length+i) k (by rw[H];exact W);grind
end
variable{P:bW}
theorem aqk: "fmt's door, nowhere".startsWith "fmt's door"=Y:=by kernel_rfl
def wall(P:bW):aZ:={fn:=P.funcs.size,tmps:=#[],todo:=[.call default ai "fmt's door, nowhere" #[]],defers:=[],mode:=.run,kind:=eC}
theorem ab4(P)(c):((wall P).raise c).catches P=Y:=by
 unfold Frame.catches Frame.raise wall;have:P.funcs[P.funcs.size]?=Z:=by grind
 grind[aqk]
def ud(I:H)(P:bW)(g:aX)(w:ay):Prop:=Hs I [wall P] g w\/∃c,g=r ((wall P).raise c) []
theorem ud.off{g}(h:ud I P g w):vz g:=by
 rcases h with h|⟨c,rfl⟩;.exact h.off
 .exact raise_mode _ _
theorem apT{w0}(i:Whole I w0)(g:jo w0 w){r}(p:I.blk w0 r=Y):match((Uj r).runT P w #[]).1 with|aY c l=>c=[]∧∃e,e.heap.size=w0.heap.size∧Whole I e∧jo e l|dR _ _=>True:=by
 obtain⟨d,m⟩:=H.ja.1 p;have k:=(g.2 r d).trans<|iy d;have n:=i.blk r _ (iy d) m;generalize w0.heap[r]=o at k n;show match(fu P (Sem.getObj r λo=>match o with|x6<|U c=>Sem.setObj r (x6 Z)<|Sem.pure c|_=>Sem.halt<|.stuck "range over a function: the deferred calls have been taken") w #[]).1 with|aY c l=>_|dR _ _=>True;rw[Ag];simp only[k];cases o<;>try exact trivial
 rename_i c;cases c with|none=>exact trivial|some c=>
  have h:c=[]:=by grind[eF]
  subst h;dsimp only;rw[Ag];simp only[k];rw[fu];refine⟨rfl,{w0 with heap:=w0.heap.setIfInBounds r<|x6 Z},by simp,⟨λb o f j=>?_,λb f=>i.kx b<|by grind⟩,by simpa using g.1,λb f=>?_⟩
  ·simp only[Yt,uH]at f⊢;split at f;·grind[eF]
   ·exact i.blk b o f j
  ·simp only[Yt,uH]at f⊢;have q:=g.1;by_cases E:r=b;·grind
   ·rw[if_neg E,if_neg E];exact g.2 b f
theorem avZ{g m}{w1}{es}(h:ud I P g w)(e:cj P Y g w=bU m w1 es):ud I P m w1:=by
 rcases h with⟨f,k,c,H,rfl,v,o,G,u,B⟩|⟨c,rfl⟩
 .have b:unwind P Y f (k++[wall P]) Z w=bU m w1 es:=by rw[<-e];unfold cj r;grind
  unfold unwind at b;cases j:f.defers with
  |cons d J=>rw[j]at o b;obtain⟨T,rfl,E⟩:=o d (by simp);have A:=apT (P:=P) u B E;dsimp only at b;generalize(Uj T).runT P w #[]=R at A b;obtain⟨x,C⟩:=R;cases x with|halt y K=>cases b|ok l K=>
    obtain⟨rfl,q,F,s,n⟩:=A;cases b;refine ax ⟨{f with defers:=[]++J},k,c,q,rfl,v,λd p=>?_,λx L=>?_,s,n⟩;.rw[F];exact o d<|vO _ p
    grind
  |nil=>
   rw[j]at b;simp only[v]at b;split at b;.cases b
   .cases k with|nil=>cases b;exact aA ⟨c,rfl⟩|cons x k=>cases b;obtain⟨z,i⟩:=raise_mode x c;exact ax ⟨x.raise c,k,z,H,rfl,i,by grind[LZ],λy D=>G y<|by simp[D],u,B⟩
 .exfalso;obtain⟨z,i⟩:=raise_mode (wall P) c;have b:unwind P Y ((wall P).raise c) [] Z w=bU m w1 es:=by rw[<-e];unfold cj r;grind
  unfold unwind at b;have t:((wall P).raise c).defers=[]:=by rw[LZ];rfl
  rw[t]at b;simp only[i,ab4,iW]at b;cases b
def Plain(Q:aX->ay->Prop):GStep->Prop|bU g w _=>Q g w|fx _ _ _=>True|_=>False
theorem av0{g}(h:ud I P g w):Plain (ud I P)<|cj P Y g w:=by
 have b:∀A,cj P Y g w=A->Plain (λ_ _=>True) A->Plain (ud I P) (cj P Y g w):=λA e n=>by
  rw[e];cases A<;>first|exact n|skip
  exact avZ h e
 refine b _ rfl ?_;rcases h with⟨f,k,c,z,rfl,q,o,v,s,y⟩|⟨c,rfl⟩
 .have l:cj P Y (r f<|k++[wall P]) w=unwind P Y f (k++[wall P]) Z w:=by unfold cj r;grind
  rw[l];unfold unwind;cases i:f.defers with|cons d t=>rw[i]at o;obtain⟨A,rfl,n⟩:=o d (by simp);dsimp only;generalize(Uj A).runT P w #[]=R;obtain⟨x,p⟩:=R;cases x<;>exact trivial|nil=>
   simp only[q];split;.exact trivial
   .cases k<;>exact trivial
 .obtain⟨u,j⟩:=raise_mode (wall P) c;have l:cj P Y (r ((wall P).raise c) []) w=unwind P Y ((wall P).raise c) [] Z w:=by unfold cj r;grind
  rw[l];unfold unwind;have m:((wall P).raise c).defers=[]:=by rw[LZ];rfl
  rw[m];simp only[j,ab4,iW];exact trivial
theorem Fx{fr fr'}{cs cs'}{w w'}{es}(h:cj P Y (r fr cs) w=bU (r fr' cs') w' es):step P (iS fr cs w)=fW (iS fr' cs' w'):=by refine step_lone_go ?_;show(cj P Y (r fr cs) w).bare=_;rw[h];rfl
theorem Qm{fr}{cs}{w w'}{o}{es}(h:cj P Y (r fr cs) w=fx o w' es):step P (iS fr cs w)=.ended o w':=by refine step_lone_ended ?_;show(cj P Y (r fr cs) w).bare=_;rw[h];rfl
theorem ud.form{g}(h:ud I P g w):∃b a,g=r b a:=by rcases h with⟨f,a,c,d,rfl,_⟩|⟨c,rfl⟩;all_goals grind
theorem Yb{f:aZ}{C:List aZ}{w0:ay}(p:f.mode=fH):∀(n:Nat)(fr:aZ)(cs:List aZ)(w:ay),ud I P (r fr cs) w->runN P n (iS fr cs w)≠fW (iS f C w0)
 |0,fr,cs,w,h,e=>by
  have:iS fr cs w=iS f C w0:=by simpa[runN]using e
  have q:fr=f:=by have:=congrArg (λm:Machine=>m.gs[0]?.map (·.frame)) this;simpa[iS]using this
  obtain⟨c,k⟩:=h.off;have:fr.mode=.panicking c:=k;grind|n+1,fr,cs,w,h,e=>by
  have b:=av0 h;cases i:cj P Y (r fr cs) w<;>rw[i]at b<;>try exact b.elim
  ·rename_i A j l;obtain⟨d,g,rfl⟩:=ud.form b;rw[runN,Fx i]at e;exact Yb p n d g j b e
  ·rename_i o j l;rw[runN,Qm i]at e;cases e
theorem au2:Extern.next "fmt's door, nowhere"=Z:=by kernel_rfl
theorem Lq(v)(w):∃o b a,cj P Y (r ((wall P).finish v) []) w=fx o b a:=by unfold cj r;show∃o b a,wM P Y Y ((wall P).finish v) [] Z w=fx o b a;unfold wM;show∃o b a,(Extern.next "fmt's door, nowhere").elim _ _=fx o b a;rw[au2];exact⟨_,_,_,rfl⟩
theorem aju(y:nM I P P.funcs nm)(s:Same I P P.funcs nm λ_=>False)(k:∀f n,I.cut f n=ai)(b:I.arg=Z∧∀f,I.DF f=ai)(j:Whole I w)(p:P.globals.size<w){g}(h:xh I P nm (wall P) [] w g):Plain (λl c=>ud I P l c∨xh I P nm (wall P) [] c l∧Whole I c∧w.heap.size<=c)<|cj P Y g w:=by cases h with|back G=>obtain⟨o,c,H,e⟩:=Lq (P:=P) _ w;rw[e];exact trivial|within h t=>
  have S:vq id I Z P P.funcs nm (λ_=>False) w<|World.re w w.tape w.drawn:=⟨y,s,aaM P,p,j.kx,j.kT b.1 w.tape w.drawn λ_ _=>rfl,λi=>rfl⟩;have:=V3 (m:=Y) (m':=Y) (b:=wall P) (bs:=[]) (B':=[wall P]) (ax ⟨wall P,[],rfl⟩) S h t;rw[akw]at this;generalize cj P Y (r _<|_++[wall P]) w=T at this⊢;cases T<;>first|exact trivial|exact this.elim|skip
  rcases this with v|⟨_,u⟩;·exact ax<|ax v
  ·obtain⟨F,J,q,_,C,d,E,_⟩:=u (λD A=>by cases A);refine aA ⟨?_,d.whole,E.oM⟩;cases C with|within B x=>exact .within B.yp x.yp|back _ z=>exact .back z.1|fin m _=>cases m|cut K=>grind
theorem xh.form{b}{bs}{g}(h:xh I P nm b bs N g):∃c a,g=r c a:=by cases h with|within h t=>grind|back h=>grind
theorem jN.avE{ρ}{q}{a c}(h:jN ρ I q nm N a c):a.mode=.run∨a.mode=fH:=h.elim (·.xB) (·.xB)
theorem xh.auQ{g}(h:xh I P nm (wall P) [] N g):¬vz g:=by rintro⟨c,a⟩;cases h with|within h t=>have b:=h.avE;grind[r]|back h=>cases a
def AX(P:bW)(R:az->ay->Prop)(g:aX)(w:ay):Prop:=∃v,g=r ((wall P).finish v) []/\R v w
theorem aeT(A:nM I P P.funcs nm)(u:Same I P P.funcs nm λ_=>False)(i:∀L n,I.cut L n=ai)(b:I.arg=Z∧∀L,I.DF L=ai){R:az->ay->Prop}{f:aZ}{w0:ay}{v:az}(E:f.leaving P w0<|bj v)(C:R v w0):∀(n:Nat)(fr:aZ)(cs:List aZ)(w:ay),xh I P nm (wall P) [] w.heap.size (r fr cs)->Whole I w->P.globals.size<w.heap.size->runN P n (iS fr cs w)=fW (iS f [wall P] w0)->Reach P (AX P R) (n+1) (r fr cs) w
 |0,fr,cs,w,B,t,s,e=>by
  have K:iS fr cs w=iS f [wall P] w0:=by simpa[runN]using e
  have q:step P (iS fr cs w)=fW (iS ((wall P).finish v) [] w0):=by grind[step_leave_returned]
  have j:=aju A u i b t s B;refine aA ?_;cases k:cj P Y (r fr cs) w<;>rw[k]at j<;>try exact j.elim
  ·rename_i J l T;obtain⟨d,g,rfl⟩:=j.elim ud.form λh=>h.1.form;rw[Fx k]at q;have x:iS d g l=iS ((wall P).finish v) [] w0:=by grind
   have G:d=(wall P).finish v:=by have:=congrArg (λm:Machine=>m.gs[0]?.map (·.frame)) x;simpa[iS]using this
   have z:g=[]:=by have:=congrArg (λm:Machine=>m.gs[0]?.map (·.callers)) x;simpa[iS]using this
   have y:l=w0:=congrArg Machine.world x;subst G z y;refine⟨_,_,T,rfl,?_,v,rfl,C⟩;rintro⟨c,z⟩;cases z
  ·rename_i o l T;rw[Qm k]at q;cases q|n+1,fr,cs,w,B,t,s,e=>by
  have j:=aju A u i b t s B;refine aA ?_;cases k:cj P Y (r fr cs) w<;>rw[k]at j<;>try exact j.elim
  ·rename_i J l T;obtain⟨d,g,rfl⟩:=j.elim ud.form λh=>h.1.form;rw[runN,Fx k]at e;rcases j with p|⟨D,H,F⟩;·exact absurd e<|Yb E.1 n d g l p
   ·exact⟨_,_,T,rfl,D.auQ,aeT A u i b E C n d g l D H (cE s F) e⟩
  ·rename_i o l T;rw[runN,Qm k]at e;cases e
def aEy(I:H)(P:bW)(nm:String->Bool)(g:aX)(w:ay):Prop:=xh I P nm (wall P) [] w.heap.size g/\Whole I w/\P.globals.size<w.heap.size
theorem lawful(s:nM I P P.funcs nm)(q:Same I P P.funcs nm λ_=>False)(b:∀f n,I.cut f n=ai)(a:I.arg=Z/\∀f,I.DF f=ai){R}(u:∀v w c d,R v w->R v (World.re w c d)):Lawful P (AX P R)<|aEy I P nm:=by
 refine⟨?_,?_,?_⟩;.rintro g w c d⟨v,C,l⟩;exact⟨v,C,u v w c d l⟩
 .rintro g w c d⟨k,j,i⟩;exact⟨k,⟨j.blk,j.kx⟩,i⟩
 .rintro g w F E D⟨k,j,i⟩_ e p;cases k with|back l=>obtain⟨o,G,m,r⟩:=Lq (P:=P) _ w;rw[r]at e;cases e|within h t=>obtain⟨z,B,A,x,y⟩:=aB4 s q b a j i h t e p;exact⟨z,⟨x,A,cE i B⟩,y⟩
theorem apy(o:nM I P P.funcs nm)(k:Same I P P.funcs nm λ_=>False)(b:∀f n,I.cut f n=ai)(a:I.arg=Z/\∀f,I.DF f=ai){R}(t:∀v w h d,R v w->R v (World.re w h d)){f}{i}(j:Whole I w)(l:P.globals.size<w)(A:I.T f=Y)(u:∃m c,P.funcs[f]?=U m/\m.body=U c)(s:∀v∈i,S I w v=Y)(C:∀h:qD,bz P f i (World.re w h 0) λe p=>∃v,e=bj v/\R v p):Term P (AX P R) (r (eW P f i eC) [wall P]) w:=by have g:xh I P nm (wall P) [] w<|r (eW P f i eC)<|[]++wall P::[]:=.within (ax<|fe.Ay (fs:=P.funcs) k A (λx=>x) u ⟨s,(Mm i).symm⟩) .nil;refine apx (lawful o k b a t) ⟨g,j,l⟩ λh=>?_;obtain⟨e,p,B,⟨v,rfl,q⟩,⟨n,y⟩,_,z⟩:=C h [wall P];exact⟨n+1,aeT o k b a z q n _ _ _ g ⟨j.blk,j.kx⟩ l y⟩
variable{σ:Nat->Nat}{v':ay}
theorem RV.re(h:∀b,b<N->ρ b=σ b){x x'}(a:RV ρ I N x x'):RV σ I N x x':=⟨a.1,a.2.trans<|Df h a.1⟩
theorem bD.re(h:∀b,b<N->ρ b=σ b){x x'}(a:bD ρ I N x x'):bD σ I N x x':=⟨a.1,a.2.trans<|My λy c=>Df h<|a.1 y c⟩
theorem atl(h:∀b,b<N->ρ b=σ b){i}(a:tC I q nm N i=Y):iV ρ i=iV σ i:=by
 cases i<;>try rfl
 all_goals simp only[tC,H.blk,cV,fO]at a;grind[iV]
theorem fe.re(h:∀b,b<N->ρ b=σ b){a b}(x:fe ρ I q nm N a b):fe σ I q nm N a b:=by
 obtain⟨s,y,t,n,j,⟨l,m,z,o⟩,k,f,d,e,c,g⟩:=x;refine⟨s,y,t.re h,n.trans<|Mz λi p=>atl h<|j i p,j,⟨l,m,z,o.trans<|Mz λr u=>?_⟩,k,f,d,e,?_,g⟩;.grind[H.ja]
 .rw[c];cases u:a.roundOf with|none=>rfl|some l=>grind[H.ja]
theorem fT.re(h:∀b,b<N->ρ b=σ b){a b}(r:fT ρ I q nm N a b):fT σ I q nm N a b:=by obtain⟨o,s,p,c,x,m,u,n,l,j,g,i,e,k⟩:=r;exact⟨o,s,p,⟨c.size,λt v f d=>⟨(c.here t v f d).1,by rw[(c.here t v f d).2,Df h (c.here t v f d).1]⟩,c.arg⟩,x,m,u,n,l,j,g,i,e,k⟩
theorem jN.re(h:∀b,b<N->ρ b=σ b){a b}(c:jN ρ I q nm N a b):jN σ I q nm N a b:=c.imp (·.re h) (·.re h)
theorem pG.re(h:∀b,b<N->ρ b=σ b){a b}(c:pG ρ I q nm N a b):pG σ I q nm N a b:=c.imp (·.re h) λc=>⟨c.1.re h,c.2⟩
theorem gZ.re(h:∀b,b<N->ρ b=σ b){l m}(hs:gZ ρ I q nm N l m):gZ σ I q nm N l m:=by induction hs with|nil=>exact .nil|cons a _ c=>exact .cons (a.re h) c
def rq(ρ:Nat->Nat)(N K:Nat):Nat->Nat:=λb=>if b<N then ρ b else K+(b-N)
theorem Oo(ρ)(N K b)(h:b<N):ρ b=rq ρ N K b:=by unfold rq;grind
theorem akb(ρ)(N K i):rq ρ N K (N+i)=K+i:=by unfold rq;grind
theorem Fair.rq(h:Fair ρ q){N K}(d:∀b,b<N->ρ b<K)(g:q.globals.size<N):Fair (rq ρ N K) q:=by
 have i:q.globals.size<K:=by have:=d _ g;rw[h.fix _<|aS _]at this;grind
 refine⟨λa b e=>?_,λb f=>?_,λb f=>?_⟩
 .unfold YtpdbmpbmepkikaaGreatDoor.rq at e;split at e<;>split at e;.exact h.inj a b e
  all_goals grind
 .rw[<-Oo ρ N K b<|by omega];exact h.fix b f
 .unfold YtpdbmpbmepkikaaGreatDoor.rq;split;.exact h.over b f
  .omega
theorem dV.rq{L}(h:dV ρ I L w v)(d:∀b,b<w.heap.size->ρ b<v')(c:v'.os=v.os)(j:∀b,b<w.heap.size->I.F b=Y->v'.heap[ρ b]?=v.heap[ρ b]?)(f:∀A,I.arg=U A->v'.heap[A.g]?=v.heap[A.g]?):dV (rq ρ w v') I Z {w with tape:=λi=>v'.tape<|v'.drawn+i,drawn:=0} v':=by
 refine⟨c.trans h.os,λi _=>by simp,λa b e=>?_,λb o n l=>?_,h.kx,λA m=>?_⟩
 .unfold YtpdbmpbmepkikaaGreatDoor.rq at e;split at e<;>split at e;.exact h.inj a b e
  all_goals grind
 .have k:b<w:=by grind
  obtain⟨p,s⟩:=h.blk b o n l;grind[Oo,aeL]
 .obtain⟨u,r,t,x⟩:=h.arg A m;grind[Oo,Array.getElem?_eq_some_iff]
theorem afh(c:Array az):(∃a b,c=#[a,b])\/∀a b,c≠#[a,b]:=by grind
theorem Xa(t):(J q fs).packed t=q.packed t:=by unfold Program.packed Program.packedAs;simp only[alF];rfl
theorem ayU(d):∀t,(J q fs).holdsPacked d t=q.holdsPacked d t:=by induction d with|zero=>intro t;rfl|succ d b=>intro t;rw[Program.holdsPacked,Program.holdsPacked];simp only[b,Xa];rfl
theorem avH(d):∀t,(J q fs).methodsOfAPack d t=q.methodsOfAPack d t:=by induction d with|zero=>intro t;rfl|succ d b=>intro t;rw[aCE,aCE];simp only[b,Xa];rfl
open Go.Extern.Rtype
theorem QA(b)(t):W ρ I (J q fs) q RU N (noPack b t)<|noPack b t:=by
 refine W.bind' mu ?_;rintro M p c d⟨rfl,rfl⟩;rw[Xa];split;.exact iw _ _
 .exact .pure' trivial
theorem are(b)(t):W ρ I (J q fs) q RU N (noPackHeld b t)<|noPackHeld b t:=by
 refine W.bind' mu ?_;rintro M _ _ f⟨rfl,rfl⟩;refine W.bind' mu ?_;rintro K p c e⟨rfl,rfl⟩;have d:(J c fs).depth=c.depth:=rfl;rw[ayU,d];split;.exact iw _ _
 .exact .pure' trivial
theorem LK(b)(t):W ρ I (J q fs) q RU N (noPackMethods b t)<|noPackMethods b t:=by
 refine W.bind' mu ?_;rintro M _ _ f⟨rfl,rfl⟩;refine W.bind' mu ?_;rintro K p c e⟨rfl,rfl⟩;have d:(J c fs).depth=c.depth:=rfl;rw[avH,d];split;.exact iw _ _
 .exact .pure' trivial
theorem LL(t):W ρ I (J q fs) q RD N (typeInfo t)<|typeInfo t:=(rH t).mono λ_ _ _ _ h=>h.1
theorem Is(t):W ρ I (J q fs) q RD N (under t)<|under t:=by
 refine W.bind' (LL t) ?_;rintro M i _ c rfl;split;.refine W.bind' (LL _) ?_;rintro K j _ b rfl;exact .pure' rfl
 .exact .pure' rfl
theorem QC(t):W ρ I (J q fs) q RD N (Kt t)<|Kt t:=by refine W.bind' (Is t) ?_;rintro M i _ b rfl;dsimp only;split<;>first|exact .pure' rfl|grind[T]
theorem adK(t):W ρ I (J q fs) q RD N (hasName t)<|hasName t:=by refine W.bind' (LL t) ?_;rintro M i _ b rfl;split<;>exact .pure' rfl
theorem adW(t):W ρ I (J q fs) q RD N (elem? t)<|elem? t:=by refine W.bind' (Is t) ?_;rintro M i _ b rfl;split<;>exact .pure' rfl
theorem Wj(t u):W ρ I (J q fs) q RD N (implements t u)<|implements t u:=by
 refine W.bind' (LK _ _) ?_;rintro _ _ _ _ _;refine W.bind' (LK _ _) ?_;rintro _ _ _ _ _;refine W.bind' (Is t) ?_;rintro M i _ c rfl;refine W.bind' (Is u) ?_;rintro K j _ b rfl;split;.exact .pure' rfl
 .refine W.bind' (LL u) ?_;rintro K j _ b rfl;exact .pure' rfl
 .exact .pure' rfl
theorem adX(t u):W ρ I (J q fs) q RD N (Kx t u)<|Kx t u:=by
 unfold Kx;split;.exact .pure' rfl
 .refine W.bind' (adK t) ?_;rintro M a _ e rfl;refine W.bind' (adK u) ?_;rintro K b _ d rfl;split;.exact .pure' rfl
  .refine W.bind' (Is t) ?_;rintro M i _ e rfl;refine W.bind' (Is u) ?_;rintro K j _ d rfl;dsimp only;split<;>exact .pure' rfl
section
variable (rX:Fair ρ q) (Ed:q.globals.size<N) (Gn:I.F q.globals.size=true)
include rX Ed Gn
theorem RV.handle(t):RV ρ I N (typeHandle (J q fs) t)<|typeHandle q t:=by refine RV.ptr (a:=⟨q.globals.size,t,Z⟩) ⟨H.ja.2 ⟨Ed,Gn⟩,?_⟩;show(⟨q.globals.size,t,Z⟩:eT)={block:=ρ q.globals.size,off:=t,spot:=Z};rw[rX.fix _<|aS _]
theorem adL(t):W ρ I (J q fs) q (RV ρ I) N (handle t)<|handle t:=by refine W.bind' mu ?_;rintro M p b c⟨rfl,rfl⟩;exact .pure'<|RV.handle rX (by omega) Gn t
end
theorem V7(d:Fair ρ q){h f}(i:RV ρ I N h f):W ρ I (J q fs) q RD N (ofHandle h)<|ofHandle f:=by
 refine W.bind' mu ?_;rintro M p c k⟨rfl,rfl⟩;obtain⟨l,rfl⟩:=i;have e:handleType c (F ρ h)=handleType (J c fs) h:=by
  cases h<;>try rfl
  rename_i a;cases a with|none=>rfl|some a=>
   show(if ρ a.block==c.globals.size then U a.off else Z)=if a.block==c.globals.size then U a.off else Z;have:(ρ a.block==c.globals.size)=(a.block==c.globals.size):=by
    by_cases g:a.block=c.globals.size;.rw[g,d.fix _<|aS _]
    .have j:ρ a.block≠c.globals.size:=λe=>g<|d.inj _ _<|e.trans (d.fix _<|aS _).symm;grind
   grind
 rw[e];split<;>first|exact .pure' rfl|grind[T]
theorem arM(b):W ρ I (J q fs) q RD N (cutType b)<|cutType b:=by refine W.bind' mu ?_;rintro M p c d⟨rfl,rfl⟩;show W ρ I (J c fs) c RD M (match c.cutTypes.find? (·.1==b)with|some (_,t)=>_|none=>_) _;cases c.cutTypes.find? (·.1==b)<;>first|exact .pure' rfl|grind[T]
instance aIm(b):Calm<|cutType b:=by
 refine .bind G8 λp=>?_;split;.exact .pure _
 .exact .halt rfl
theorem aDc(b)(t):Calm<|noPackNamed b t:=by
 refine .bind G8 λp=>.bind G8 λc=>?_;split;.exact .halt rfl
 .exact .pure _
instance aIl(t):Calm<|spelt t:=.bind (aDc _ _) λ_=>ak6 t
theorem akm{b}(p)(v):y p (goPanic v:cz b):=.halt _
theorem TY{b}(p)(m):y p (panicString m:cz b):=y.then _ λ_=>akm _ _
theorem GP{c}(p)(m)(k):y p (Ca m k:cz c):=y.then _ λt=>y.then _ λe=>y.then _ λa=>akm _ _
open Go.Extern Go.Extern.ReflectliteType Go.Extern.ReflectliteValue
section
variable (rX:Fair ρ q) (Ed:q.globals.size<N) (Gn:I.F q.globals.size=true)
include rX Ed Gn
theorem V0(t):W ρ I (J q fs) q (RV ρ I) N (Um t)<|Um t:=by
 refine W.bind' (arM _) ?_;rintro M d _ c rfl;refine W.bind' (adL rX (by omega) Gn t) ?_;rintro K h e f b;refine .pure' ⟨?_,?_⟩;.have:=(RV.agg<|bD.nil.push b).1;simpa[S]using this
 .rw[b.2];simp[F,yo]
theorem adC(t){a a'}(f:RA ρ I N a a')(c):W ρ I (J q fs) q (RV ρ I) N (akM t a c)<|akM t a' c:=by refine W.bind' (adL rX Ed Gn t) ?_;rintro K h g i d;refine W.bind' (QC t) ?_;rintro M k _ e rfl;refine .pure'<|RV.agg<|((bD.nil.push<|d.mono e).push<|RV.ptr<|f.mono<|by omega).push<|RV.plain rfl
theorem adu(e:∀b,N<=b->I.F b=Y){x x'}(c:RV ρ I N x x'):W ρ I (J q fs) q (RV ρ I) N (Ox x)<|Ox x':=by
 obtain⟨d,rfl⟩:=c;cases x<;>first|exact T _ _|exact .pure'<|RV.plain rfl|skip
 rename_i t v;refine W.bind' (V9 e t ⟨by simpa[S]using d,rfl⟩) ?_;grind[adC]
end
def RPt(ρ:Nat->Nat)(I:H)(N:Nat)(o o':Option<|ey×eT×Nat):Prop:=o=Z/\o'=Z\/∃t a a' E,o=U (t,a,E)/\o'=U (t,a',E)/\RA ρ I N a a'
theorem aff(h)(a)(f)(c:f≠0):abc (bJ #[h,aG<|U a,V cO f])=(do bI<|U (<-ofHandle h,a,f.toNat)):=by
 rcases f with(_|n)|n;.grind
 .rfl
 .rfl
theorem auc(x):(∃h p,x=bJ #[h,p,V cO 0])\/(∃h a f,x=bJ #[h,aG<|U a,V cO f]/\f≠0)\/abc x=stuck "reflectlite: a Value expected":=by
 cases x<;>try exact aA<|aA rfl
 rename_i c;rcases c with⟨_|⟨h,_|⟨p,_|⟨k,_|⟨z,l⟩⟩⟩⟩⟩<;>try exact aA<|aA rfl
 cases k with
 |int k f=>
  cases k<;>try(cases p<;>first|exact aA<|aA rfl)
  rcases f with(_|n)|n;.grind
  all_goals
   cases p<;>try exact aA<|aA rfl
   rename_i o;cases o with|none=>exact aA<|aA rfl|some a=>grind
 |_=>cases p<;>first|exact aA<|aA rfl
theorem adz(c:Fair ρ q){x x'}(k:RV ρ I N x x'):W ρ I (J q fs) q (RPt ρ I) N (abc x)<|abc x':=by
 obtain⟨j,rfl⟩:=k;rcases auc x with⟨h,p,rfl⟩|⟨h,a,f,rfl,g⟩|e;.exact .pure'<|ax ⟨rfl,rfl⟩
 .have d:=bD.Dn (ρ:=ρ) j;have l:F ρ (bJ #[h,aG<|U a,V cO f])=bJ #[F ρ h,aG<|U<|dH ρ a,V cO f]:=by simp[F,yo]
  rw[l,aff _ _ _ g,aff _ _ _ g];refine W.bind' (V7 c (h:=h) ⟨d.1 _<|by simp,rfl⟩) ?_;rintro M t _ i rfl;exact .pure'<|aA ⟨t,a,_,_,rfl,rfl,⟨H.eD (by have:=d.1 (aG<|U a) (by simp);simpa[S]using this) i,rfl⟩⟩
 grind[T]
theorem V5(c:Fair ρ q){x x'}(f:RV ρ I N x x'):W ρ I (J q fs) q (RPt ρ I) N (GS x)<|GS x':=by
 refine W.bind' (adz c f) ?_;rintro M o j i(⟨rfl,rfl⟩|⟨t,a,d,e,rfl,rfl,h⟩);.exact .pure'<|ax ⟨rfl,rfl⟩
 .refine W.bind' (QA _ t) ?_;rintro K _ _ g _;exact .pure'<|aA ⟨t,a,d,e,rfl,rfl,h.mono g⟩
theorem Mf(c:Array az):(∃a,c=#[a])\/∀a,c≠#[a]:=by grind
theorem We(n:Fair ρ q){g d}{f f'}(s:∀M,N<=M->W ρ I (J q fs) q (RV ρ I) M g d)(v:∀M t a m p k,N<=M->RA ρ I M a m->W ρ I (J q fs) q (RV ρ I) M (f t a p k) (f' t m p k)){j i}(h:bD ρ I N j i):W ρ I (J q fs) q (RV ρ I) N (Cb g f j)<|Cb d f' i:=by
 rcases Mf j with⟨a,rfl⟩|r
 .have e:i=#[F ρ a]:=by rw[h.2];simp
  subst e;refine W.bind' (V5 n (x:=a) ⟨h.1 a<|by simp,rfl⟩) ?_;rintro M o x u(⟨rfl,rfl⟩|⟨t,a,m,p,rfl,rfl,w⟩);.grind
  grind
 .rcases j with⟨_|⟨a,_|⟨b,l⟩⟩⟩;.exact T _ _
  .exact absurd rfl<|r a
  .exact T _ _
theorem ark(n:Fair ρ q){g d}{f f'}(s:∀M,N<=M->W ρ I (J q fs) q (RV ρ I) M g d)(v:∀M t a m p k,N<=M->RA ρ I M a m->W ρ I (J q fs) q (RV ρ I) M (f t a p k) (f' t m p k)){j i}(h:bD ρ I N j i):W ρ I (J q fs) q (RV ρ I) N (Uo g f j)<|Uo d f' i:=by
 rcases Mf j with⟨a,rfl⟩|r
 .have e:i=#[F ρ a]:=by rw[h.2];simp
  subst e;refine W.bind' (adz n (x:=a) ⟨h.1 a<|by simp,rfl⟩) ?_;rintro M o x u(⟨rfl,rfl⟩|⟨t,a,m,p,rfl,rfl,w⟩);.grind
  grind
 .rcases j with⟨_|⟨a,_|⟨b,l⟩⟩⟩;.exact T _ _
  .exact absurd rfl<|r a
  .exact T _ _
theorem aBw:sU q fs λb=>Ox<|b.getD 0<|bO #[]:=by intro ρ I N k e m c d g i h;refine adu e c d k ?_;rw[iE,iE];cases f:g[0]? with|none=>rw[h.get_none f];exact RV.plain rfl|some v=>obtain⟨j,l⟩:=h.get f;rw[l];exact⟨j,rfl⟩
theorem aBy:sU q fs<|Uo (Ca "reflectlite.Value.Type" 0) λt _ _ _=>Um t:=by intro ρ I N l c i e d j g h;exact ark c (λM f=>.dead<|GP _ _ _) (λM t a m n k f o=>V0 c (by omega) d t) h
theorem aBC:sU q fs<|Cb (Ca "reflectlite.Value.IsNil" 0) Ui:=by
 intro ρ I N n c j d g m f h;refine We c (λM e=>.dead<|GP _ _ _) (λM t a o s k e i=>?_) h;unfold Ui;split;.exact .dead<|y.bind (GP _ _ _) _
 .refine W.bind' (C9 t i) ?_;rintro K v p u⟨l,rfl⟩;cases v with|pointer a=>cases a<;>exact .pure'<|RV.plain rfl|slice a _ _=>cases a<;>exact .pure'<|RV.plain rfl|map r=>cases r<;>exact .pure'<|RV.plain rfl|chan r=>cases r<;>exact .pure'<|RV.plain rfl|_=>exact .pure'<|RV.plain rfl
theorem aBB:sU q fs<|Cb (bI<|V aq 0) λ_ _ _ k=>bI<|V aq<|Int.ofNat k:=by intro ρ I N l c i d g j f h;exact We c (λM e=>.pure'<|RV.plain (v:=V aq 0) rfl) (λM t a m n k e o=>.pure'<|RV.plain (v:=V aq<|Int.ofNat k) rfl) h
theorem aBE:sU q fs<|Cb (Ca "reflectlite.Value.Elem" 0) Ul:=by
 intro ρ I N s d B o f w l h;refine We d (λM r=>.dead<|GP _ _ _) (λM t a x C k r m=>?_) h;unfold Ul;split;.exact .dead<|y.bind (GP _ _ _) _
 .refine W.bind' (C9 t m) ?_;rintro K v c z j;refine W.bind' (adW t) ?_;rintro J e _ n rfl;obtain⟨i,rfl⟩:=j.mono n;by_cases u:k=20;.subst u;exact adu d (by omega) f λb A=>s b<|by omega ⟨i,rfl⟩
  .by_cases g:k=22
   .subst g;cases v<;>try exact .dead<|GP _ _ _
    rename_i p;cases p with|none=>exact .pure'<|RV.plain rfl|some p=>cases e with|none=>exact .dead<|GP _ _ _|some e=>exact adC d (by omega) f e (RA.rN i) _
   grind
theorem aBx:sU q fs Un:=by
 intro ρ I N n i m d g j f h;rcases Mf j with⟨a,rfl⟩|k
 .have e:f=#[F ρ a]:=by rw[h.2];simp
  subst e;cases a<;>first|exact T _ _|exact .pure'<|RV.plain rfl|skip
  exact V0 i d g _
 .rcases j with⟨_|⟨a,_|⟨b,l⟩⟩⟩;.exact T _ _
  .exact absurd rfl<|k a
  .exact T _ _
theorem aBz:sU q fs OQ:=by
 intro ρ I N hF w hz Q Q3 G C h;rcases afh G with⟨a,c,rfl⟩|Q2
 .have e:C=#[F ρ a,F ρ c]:=by rw[h.2];simp
  subst e;unfold OQ;refine W.bind' (V5 w (x:=a) ⟨h.1 a<|by simp,rfl⟩) ?_;rintro M o o' R QZ;refine W.bind' (V5 w (x:=c) ⟨ff R<|h.1 c<|by simp,rfl⟩) ?_;rintro K p p' Q1 QY;rcases QZ with⟨rfl,rfl⟩|⟨g,x,x',fl,rfl,rfl,f⟩;.exact iw _ _
  .rcases QY with⟨rfl,rfl⟩|⟨i,Qw,y',X,rfl,rfl,O⟩;.exact iw _ _
   .dsimp only;split;.exact .dead<|y.bind (.halt _) _
    .refine W.bind' (C9 i O) ?_;rintro QW D QX Q0 j;refine W.bind' (adX g i) ?_;rintro L b _ E rfl;have t:=f.mono (M:=L) (by omega);have n:∀{K:Nat}{s H:cz Unit},W ρ I (J q fs) q RU K s H->W ρ I (J q fs) q (RV ρ I) K (do s;bI<|bO #[]:cz az) (do H;bI<|bO #[]:cz az):=λP=>W.bind' P λ_ _ _ _ _=>.pure'<|RV.plain rfl;cases b with|true=>exact n<|Qr g t<|j.mono E|false=>simp only[oT,if_false];refine W.bind' (Wj g i) ?_;rintro J2 b _ r rfl;have A:=t.mono r;have z:=(j.mono E).mono r;cases b with
      |true=>
       simp only[iW];refine W.bind' (QC i) ?_;rintro J3 k _ v rfl;have u:=A.mono v;have m:=z.mono v;split;.obtain⟨B,rfl⟩:=m;cases D<;>first|exact iw _ _|exact n<|Qr g u ⟨B,rfl⟩
       .exact n<|Qr g u ⟨by simpa[S]using m.1,by rw[m.2];rfl⟩|false=>simp only[oT,if_false];exact .dead<|y.then (spelt i) λ_=>y.then (spelt g) λ_=>y.bind (TY _ _) _
 .unfold OQ;rcases G with⟨_|⟨a,_|⟨c,_|⟨d,l⟩⟩⟩⟩;.exact T _ _
  .exact T _ _
  .exact absurd rfl<|Q2 a c
  .exact T _ _
theorem V6(d:Fair ρ q){r f}(e:RV ρ I N r f):W ρ I (J q fs) q RD N (ofRtype r)<|ofRtype f:=by
 obtain⟨i,rfl⟩:=e;by_cases e:∃h,r=bJ #[h];.obtain⟨h,rfl⟩:=e;refine W.bind' (V7 d (h:=h) ⟨(bD.Dn (ρ:=ρ) i).1 _<|by simp,rfl⟩) ?_;rintro M t _ j rfl;refine W.bind' (QA _ t) ?_;rintro K _ _ k _;exact .pure' rfl
 .cases r<;>try exact T _ _
  rename_i g;rcases g with⟨_|⟨a,_|⟨b,l⟩⟩⟩;.exact T _ _
  .grind
  .exact T _ _
theorem ajY{f}(r:∀(ρ)(I)(N),(∀b,N<=b->I.F b=Y)->Fair ρ q->q.globals.size<N->I.F q.globals.size=Y->∀t,W ρ I (J q fs) q (RV ρ I) N (f t)<|f t):sU q fs<|Up f:=by
 intro ρ I N p g n j m i d h;rcases Mf i with⟨a,rfl⟩|k
 .have e:d=#[F ρ a]:=by rw[h.2];simp
  subst e;refine W.bind' (V6 g (r:=a) ⟨h.1 a<|by simp,rfl⟩) ?_;rintro M t _ o rfl;grind
 .rcases i with⟨_|⟨a,_|⟨b,l⟩⟩⟩;.exact T _ _
  .exact absurd rfl<|k a
  .exact T _ _
theorem aBA:sU q fs<|Up akL:=ajY λρ I N g d b c t=>by refine W.bind' (adW t) ?_;rintro M e _ f rfl;cases e with|some e=>grind[V0]|none=>exact .dead<|y.then _ λ_=>TY _ _
theorem aBF:sU q fs (Up λt=>do noPackHeld "Comparable" t;bI<|bQ (<-typeInfo t).comparable):=ajY λρ I N f d b c t=>by refine W.bind' (are _ t) ?_;rintro M _ _ e _;refine W.bind' (LL t) ?_;rintro K i _ g rfl;exact .pure'<|RV.plain rfl
theorem ajZ{i}{f}(s:∀(ρ)(I)(N)t u,W ρ I (J q fs) q RD N (f t u)<|f t u):sU q fs<|Ky i f:=by
 intro ρ I N A j z n r m k h;rcases afh m with⟨a,c,rfl⟩|o
 .have e:k=#[F ρ a,F ρ c]:=by rw[h.2];simp
  subst e;cases c<;>first|exact T _ _|exact .dead<|TY _ _|skip
  rename_i t u;refine W.bind' (V6 j (r:=u) ⟨by have:=h.1 (iB t u) (by simp);simpa[S]using this,rfl⟩) ?_;rintro M x _ p rfl;refine W.bind' (V6 j (r:=a) ⟨ff p<|h.1 a<|by simp,rfl⟩) ?_;rintro K y _ v rfl;refine W.bind' (s ρ I K x y) ?_;rintro B b _ w rfl;exact .pure'<|RV.plain rfl
 .rcases m with⟨_|⟨a,_|⟨c,_|⟨d,l⟩⟩⟩⟩;.exact T _ _
  .exact T _ _
  .exact absurd rfl<|o a c
  .exact T _ _
theorem aBD:sU q fs<|Ky "Implements" akE:=ajZ λρ I N u t=>by
 refine W.bind' (QC u) ?_;rintro M k _ b rfl;split;.exact .dead<|y.bind (TY _ _) _
 .refine W.bind' (LK _ _) ?_;rintro _ _ _ _ _;refine W.bind' (QA _ _) ?_;grind[Wj]
theorem aBG:sU q fs<|Ky "AssignableTo" aa9:=ajZ λρ I N u t=>by
 unfold aa9;have d:∀M,W ρ I (J q fs) q RD M (do bI<|(<-Kx u t)||(<-implements u t)) (do bI<|(<-Kx u t)||(<-implements u t)):=λM=>by refine W.bind' (adX u t) ?_;rintro K a _ e rfl;refine W.bind' (Wj u t) ?_;rintro A b _ f rfl;exact .pure' rfl
 split;.refine W.bind' (LK _ _) ?_;rintro _ _ _ _ _;refine W.bind' (LK _ _) ?_;grind
 grind
theorem aBH:sU q fs (abd λt=>do bI<|V aq<|<-Kt t):=by
 intro ρ I N p f n i m g d h;rcases Mf g with⟨a,rfl⟩|j
 .have e:d=#[F ρ a]:=by rw[h.2];simp
  subst e;refine W.bind' (V7 f (h:=a) ⟨h.1 a<|by simp,rfl⟩) ?_;rintro M t _ o rfl;refine W.bind' (QA _ t) ?_;rintro _ _ _ _ _;refine W.bind' (QC t) ?_;rintro K k _ r rfl;exact .pure'<|RV.plain rfl
 .rcases g with⟨_|⟨a,_|⟨b,l⟩⟩⟩;.exact T _ _
  .exact absurd rfl<|j a
  .exact T _ _
end
section
open Go Go.Proofs
def eN:Nat->Code->Code|0,c=>c|n+1,eI _ c=>eN n c|_+1,c=>c
noncomputable def cS(n:Nat):Code:=eN n<|oB.body.getD .skip
def eU:Code->Array dJ|ec _ ops _=>ops|eI a _=>eU a|_=>#[]
noncomputable def kW:Code:=match cS 9 with|eI (.block _<|.loop c) _=>c|c=>c
noncomputable def kJ:Code:=match eN 2 kW with|.block _ c=>c|c=>c
def eO(dst:Option Tmp)(op:Op)(type:ey):dJ:={dst:=dst,op:=op,type:=type,pos:= "",after:=#[],guard:=Z}
def Rg:Array dJ:=#[eO (U 23) (.load 3<|.global 4) 3,eO (U 24) (.binOp .eql 3 (cx 23) (gJ<|V aC 0) 3) 4]
def zS:Array dJ:=#[eO Z (.store 3 (.global 4)<|gJ<|V aC 1) 0,eO (U 25) (.fieldAddr 110 (cx 0) 0) 0,eO (U 26) (.fieldAddr 110 (cx 1) 0) 0]
def IT:Array dJ:=#[eO Z (.store 3 (.global 4)<|gJ<|V aC 0) 0]
def Rh:Array dJ:=#[eO (U 14) (pn<|cx 0) 0,eO (U 15) (pn<|cx 1) 0]
def nZ:Array dJ:=#[eO (U 69) (.call {callee:=.value<|.func 59,args:=#[cx 15,cx 12],argTypes:=#[77,79]}) 79,eO (U 70) (.binOp .eql 79 (cx 69) (gJ<|aE Z 0 0) 79) 4]
def Dk:Array dJ:=#[eO (U 12) (pn<|gJ<|aE Z 0 0) 79,eO (U 13) (pn<|gJ<|bQ ai) 4]
def Dj:Array dJ:=#[eO (U 12) (pn<|cx 69) 79,eO (U 13) (pn<|gJ<|bQ Y) 4]
def yx:Array dJ:=#[eO (U 72) (.move<|cx 15) 0,eO (U 73) (.move<|cx 14) 0,eO (U 14) (pn<|cx 72) 0,eO (U 15) (pn<|cx 73) 0]
noncomputable def od:Code:=eI (ec 10 (eU kW) ai)<|eI (.cond (cx 62) .skip<|.exit 0)<|.block 1<|eI (ec 11 (eU kJ) ai)<|eI (ec 12 (eU<|eN 1 kJ) ai)<|eI (ec 905 nZ ai)<|eI (.cond (cx 70) (ec 906 Dk ai)<|ec 907 Dj ai)<|ec 908 yx ai
noncomputable def vf:Code:=eI (ec 904 IT ai) .ret
noncomputable def yl:Code:=eI (ec 8 (eU<|cS 7) ai)<|eI (ec 903 Rh ai)<|eI (.block 0<|.loop od) vf
noncomputable def x9:Code:=.cond (cx 22) (eI (ec 902 IT ai) .ret) .skip
noncomputable def Fu:Code:=eI (ec 0 (eU<|cS 0) ai)<|eI (ec 1 (eU<|cS 1) ai)<|eI x9 yl
noncomputable def Cv:Code:=eI (ec 900 Rg ai)<|eI (.cond (cx 24) .skip<|.refuse "a session is under way")<|eI (ec 901 zS ai) Fu
noncomputable def vG:ep:={oB with body:=U Cv}
noncomputable def iQ:Array ep:=((aF.funcs.setIfInBounds 41 vG).setIfInBounds 180 {f180 with body:=U<|.refuse "not here"}).setIfInBounds 181 {f181 with body:=U<|.refuse "not here"}
theorem oy{f}(c:f≠41)(b:f≠180)(a:f≠181):iQ[f]?=aF.funcs[f]?:=by unfold iQ;grind
end
end Go.Proofs.YtpdbmpbmepkikaaGreatDoor
