/- Laws. -/
import Derived.LaidEqlPtr
import Derived.Conc.CrowdMono
import Derived.Lib.SliceRun
import Derived.Test.YtpdbmpbmepkikaaGreatDoorP05
set_option maxRecDepth 100000
set_option maxHeartbeats 400000
set_option linter.all false
open Go.Proofs.Tryz
open And renaming intro->bP
open Array renaming replicate->sH
open Bool renaming true->Z,false->ai
open Exists renaming intro->lG
open Go renaming Goroutine->aU,Frame->aX,undef->ak,World->av,Value->ay,Program->bU,stepG->bZ,execOp->cT,Sem->cy,Oper->dD,Func->dV,yielded->dY,TypeId->dZ,Addr->eK,Item->eS,Trace->eo,FuncId->fb,binOp->gw,Operand->iI,Event->iW,callFunc->iu,results->jN,doReturn->nC,underlying->oq
open Go.Act renaming eval->dW,put->dj
open Go.Builtin renaming close_->Xi
open Go.CallKind renaming normal->er
open Go.Code renaming region->dQ,seq->eE
open Go.Conc renaming base->aY,Goes->cH,served->j0,closeEvents->jY
open Go.ConcN renaming upd->bz,WgLive->jq
open Go.ConcR renaming mk->jo
open Go.Fn renaming func->ep
open Go.Frame renaming enter->eO,finish->sJ
open Go.FrameMode renaming returning->fC
open Go.GStep renaming go->bS,ended->ff,after->ud
open Go.GoStatus renaming running->dM
open Go.Instr renaming sureAddr->CV,fieldAt->x8
open Go.IntKind renaming i64->aH
open Go.Item renaming inRegion->aP,code->bD,inBlock->lI
open Go.Next renaming value->fV,enter->jr
open Go.Obj renaming cells->aF
open Go.Op renaming maxDepth->LK,assign->oh,equalIn->rf
open Go.Operand renaming tmp->cu,const->gB
open Go.Proofs.Tryz renaming f58->CQ,f56->LJ,prog->aC,f41->nG,f53->zf
open Go.Region renaming wanted->eP
open Go.Result renaming ok->aV,halt->dL
open Go.Value renaming int->Y,slice->aD,pointer->aE,agg->bN,tuple->bO,chan->cY,bool->cz,func->dH
open Go.World renaming setChan->CO,cell?->og
open Go.stepG renaming exec->va,apply->vb
open Option renaming some->U,none->V
open Or renaming inr->aA,inl->ax
open Pure renaming pure->bH
open Relation renaming TransGen->sI
namespace Go.Proofs.YtpdbmpbmepkikaaGreatDoor
def nW:=@List.getElem?_toArray
def pU:=@List.getElem?_cons_succ
def nV:=@List.getElem?_cons_zero
def kD:=@Go.Conc.stepG_skip
def D:=@Go.Conc.stepG_seq
def kN:=@Go.Conc.mem_listed
def tM:=@Ne.symm
def GN:=@Go.Conc.goes_oper_e
def Am:=@Go.Conc.enter_at
def adx:=@Nat.add_le_add_right
def OT:=@Go.Conc.stepG_end
def GM:=@Go.Frame.finish_at
def OS:=@Go.Conc.stepG_oper
def lu:=@Go.ConcN.Gen.kn_rely
def UY:=@Go.Lib.run_eql_slice_nil
section
open Go.Proofs Go.Conc Go.RowKit Go.Conc.Lib Go.ConcR.Gen
open Go.ConcN (upd upd_ne upd_same WgLive)
open Go.ConcR (KK WgAt stA smA wgBlock rd wr mk Bk)
theorem jH{x y}{o o'}{w w1}(h:w.heap[x]? =U o∧w.heap[y]? =U o')(r:L ([]++[x,y]) w w1):w1.heap[x]? =U o∧w1.heap[y]? =U o':=⟨(r.1 x (by simp)).trans h.1,(r.1 y (by simp)).trans h.2⟩
theorem F9{x y}{o o'}{w w1}(h:w.heap[x]? =U o∧w.heap[y]? =U o')(r:L ([x,y]++[]) w w1):w1.heap[x]? =U o∧w1.heap[y]? =U o':=⟨(r.1 x (by simp)).trans h.1,(r.1 y (by simp)).trans h.2⟩
noncomputable def B9:List eS:=match cP 1 with|eE (eE _ c) r=> [bD c,bD r]|_=> []
theorem ab7:(zf.name== "runtime.NumGoroutine")=ai:=by kernel_rfl
section
variable {K:fy} {C:List aX}
theorem amg(n:K.P=aC)(qU:K.L=dK)(hl:K.live=ai){Q:Prop}{s}{a b}{m}{y}{ops}(PK:y.size=87)(O6:y[0]? =U (.pointer (U a))∧y[1]? =U (.pointer (U b))∧y[2]? =U m∧y[6]? =U (.int .i64 0)∧y[7]? =U (.int .i64 0)∧y[22]? =U (.bool ai))
  (H:Ok K 0 s (G ((aY 41).at ⟨y,[]⟩ (.inRegion ops []::B9)) C)) (mC:s.md=.opn 0)
  (hQ:∀t bw e8 e9 p r u q T,s.runs K.P t->Ok {K with Wg:=bw,live:=Z} 0 t (G ((aY 41).at ⟨T,[]⟩ [.code (cP 4)]) C)->T.size=87->(T[0]? =U (.pointer (a))∧T[1]? =U (.pointer (b))∧T[2]? =U m∧T[6]? =U (.int .i64 0)∧T[7]? =U (.int .i64 0)∧T[8]? =U (.pointer (e8))∧T[9]? =U (.pointer (e9))∧T[10]? =U (.pointer (bw)))->
   Kept 0 [] s t->(t.v.heap[e8]? =U (.cells #[.chan (p),.chan (r)] 114)∧t.v.heap[e9]? =U (.cells #[.chan (u),.chan (q)] 114))->(e8∈(t.D 0).own∧e9∈(t.D 0).own∧e9≠e8)->(t.ch p=U ⟨V,ai,0⟩∧t.ch r=U ⟨V,ai,0⟩∧t.ch u=U ⟨V,ai,0⟩∧t.ch q=U ⟨V,ai,0⟩)->
   (p≠r∧u≠q∧p<u∧p<q∧r<u∧r<q)->Q):Q:=by
 obtain⟨u0,u1,u2,u3,u4,u5,u6,u7,u8,u9,u10,u11,RQ,u13,u14,u15,u16,u17,u18,u19,u20,u21,u22,u23,u24,u25,u26,u27,u28,u29,u30,u31,u32,u33,u34,u35,u36,u37,u38,u39,u40,u41,u42,u43,u44,u45,u46,u47,u48,u49,u50,u51,u52,u53,u54,u55,u56,u57,u58,u59,u60,u61,u62,u63,u64,u65,u66,u67,u68,u69,u70,u71,u72,u73,u74,u75,u76,u77,u78,u79,u80,u81,u82,u83,u84,u85,u86,rfl⟩:=oy y PK;simp only[nW,pU,nV,ec] at O6;obtain⟨rfl,rfl,rfl,rfl,rfl,rfl⟩:=O6;simp only[B9,cP,eG,nG,fO] at H;refine H.walk_to [] [] rfl (by simp) (by simp) ⟨640,?_⟩
 rw[n];have d:=trivial;refine dG ?_;u_c N A d;u_cond ai A d;u_c kD A d;u_c D A d;u_reg A d;u_call func53 ab7 zf A d;refine I (λk i=>⟨rfl,λt1 v1 r1 H1 k1 d1 c1=>?_⟩);refine acd n hl H1 λt2 p r r2 H2 k2 e1 f1 ne1 l1 m1=>?_;refine H2.walk_to [] [] rfl (by simp) (by simp) ⟨640,?_⟩
 rw[n];clear d;have d:=trivial;walk_nrm;refine dG ?_;u_call func53 ab7 zf A d;refine I (λk i=>⟨rfl,λt3 v3 r3 H3 W d3 c3=>?_⟩);refine acd n hl H3 λt4 u q r4 H4 k4 e2 f2 ne2 l2 m2=>?_;simp only[dj] at H4;refine H4.xu rfl rfl (.own 0) (.inl rfl) λB=>?_;co_apply lG;co_apply lG;co_apply bP
 ·intro w1 M hR;rw[n];co_apply uV;refine fT rfl rfl (by k_ne) (λK j=>?_)
  go_simp;exact j _ _ ⟨rfl,rfl,nX (by simp[go_sem])⟩
 intro t5 r5 H5 k5 Ub TZ n35 TU n55 n65 n75 n85 n95;refine H5.xu rfl rfl (.own 0) (.inl rfl) λR=>?_;co_apply lG;co_apply lG;co_apply bP
 ·intro w1 M hR;rw[n];co_apply uV;refine fT rfl rfl (by k_ne) (λK j=>?_)
  go_simp;exact j _ _ ⟨rfl,rfl,nX (by simp[go_sem])⟩
 intro t6 r6 H6 J Ua n26 n36 n46 n56 v n76 n86 n96;have i5:B<t5.v:=by rw[TZ];exact Nat.lt_succ_self _
 have f:t6.v.heap[B]? =U (.cells #[.chan V,.chan V] 114)∧t6.v.heap[R]? =U (.cells #[.chan V,.chan V] 114):=⟨(J.rest B i5 TU (by simp)).trans n35,n36⟩
 have l:R≠B:=by omega
 refine H6.walk_to [B,R] [] rfl (λb M=>?_) (by simp) ⟨660,?_⟩
 ·simp only[dh,dJ,dO] at M;rcases M with rfl|rfl
  ·exact J.own _ (n65 rfl)
  ·exact v rfl
 rw[n];clear d;have d:=f;clear f;u_in F9 d;refine fT rfl rfl (by k_ne) (λK j=>?_)
 have Q3:=gp (o:=0) d.1 rfl;have Q2:=ve 0 d.1;have f:=ow 0 (.chan (U p)) d.1;have S:=gp (o:=1) f rfl;have O:=ve 1 f;go_simp;refine j _ _ ⟨HG d.1 (by simp) λe he=>?_,?_⟩
 ·have P:=kN he;simp[go_sem,storedEv, *] at P;rcases P with rfl|rfl<;>exact⟨_,_,rfl,.inl (by simp)⟩
 have w:=(show _∧_ from⟨ow 1 (.chan (U r)) f,((aside_setCell _ ⟨B,1,V⟩ (.chan (U r))).block _ l).trans (((aside_setCell _ ⟨B,0,V⟩ (.chan (U p))).block _ l).trans d.2)⟩);clear Q3 Q2 S O f d j K;have d:=w;clear w
 try walk_nrm
 u_in F9 d;refine fT rfl rfl (by k_ne) (λK j=>?_)
 have Q3:=gp (o:=0) d.2 rfl;have Q2:=ve 0 d.2;have f:=ow 0 (.chan (U u)) d.2;have S:=gp (o:=1) f rfl;have O:=ve 1 f;go_simp;refine j _ _ ⟨HG d.2 (by simp) λe he=>?_,?_⟩
 ·have P:=kN he;simp[go_sem,storedEv, *] at P;rcases P with rfl|rfl<;>exact⟨_,_,rfl,.inl (by simp)⟩
 have w:=(show _∧_ from⟨((aside_setCell _ ⟨R,1,V⟩ (.chan (U q))).block _ (tM l)).trans (((aside_setCell _ ⟨R,0,V⟩ (.chan (U u))).block _ (tM l)).trans d.1),ow 1 (.chan (U q)) f⟩);clear Q3 Q2 S O f d j K;have d:=w
 try walk_nrm
 refine dG ?_;u_c N F9 d;u_c D F9 d;u_reg F9 d;refine I (λk i=>⟨rfl,λt7 v7 r7 H7 X d7 c7=>?_⟩);have F:=F9 d i;rw[<-v7] at F;refine H7.xu rfl rfl .sh (.inr rfl) λb8=>?_;co_apply lG;co_apply lG;co_apply bP
 ·intro w1 M hR;rw[n];co_apply uV;refine fT rfl rfl (by k_ne) (λK j=>?_)
  go_simp;exact j _ _ ⟨rfl,rfl,nX (by simp[go_sem])⟩
 intro t8 r8 H8 L n18 n28 n38 n48 n58 n68 n78 n88 n98;have avA:t8.md=.opn 0:=by rw[L.md,X.md,J.md,k5.md,k4.md,W.md,k2.md,k1.md,mC]
 have H9:=H8.axq hl (b:=b8) (by rw[qU];exact n38) n48 n98 n88 avA
 refine Ok.walk_to H9 [] [] rfl (by simp) (by simp) ⟨608,?_⟩
 rw[show({K with Wg:=b8,live:=Z}:fy).P=aC from n];have hT:=trivial;refine dG ?_;u_c N A hT;refine I (λk i=>⟨rfl,λt9 v9 r9 H9' k9 d9 c9=>?_⟩);rw[<-n] at r1 r3 r7 r9 H9';have kk1:=((((k1.trans k2).trans W).trans k4).trans k5).trans J;have b5s:=bq ((((k1.trans k2).trans W).trans k4)).left.size Ub;have b6s:s.v<=R:=by omega
 have kk:Kept 0 [] s t9:=by
  have z:=(((kk1.more (by simp)).trans X).trans (L.more (by simp))).trans (k9.more (by simp))
  refine⟨z.size,z.role,z.md,z.left,z.cls,λb M hc _=>z.rest b M hc λP=>?_,z.nI,z.own,z.v2⟩;simp only[dh,dJ,dO] at P;omega
 have Q0:=L.trans k9;have Q1:=X.own _ (J.own _ (n65 rfl));have E:=X.own _ (v rfl);have g:∀x o,x∈(t7.D 0).own->t7.v.heap[x]? =U o->t9.v.heap[x]? =o:=λx o hx ho=>(Q0.rest x (H7.hold.inv.own 0 x hx).2 (H7.hold.inv.own 0 x hx).1 (by simp)).trans ho
 have k29:=λc g h=>k9.nI c g (L.nI c g (X.nI c g (J.nI c g (k5.nI c g (k4.nI c g (W.nI c g h))))));have k49:=λc g h=>k9.nI c g (L.nI c g (X.nI c g (J.nI c g (k5.nI c g h))));have lx:=cF (ot (H2.hold.inv.chan _ _ e1).1) W.left.size;have ly:=cF (ot (H2.hold.inv.chan _ _ f1).1) W.left.size;refine hQ t9 b8 B R p r u q _ ((((((((r1.trans r2).trans r3).trans r4).trans r5).trans r6).trans r7).trans r8).trans r9) H9' rfl ⟨rfl,rfl,rfl,rfl,rfl,rfl,rfl,rfl⟩ kk ⟨g _ _ Q1 F.1,g _ _ E F.2⟩ ⟨Q0.own _ Q1,Q0.own _ E,l⟩ ⟨k29 _ _ e1,k29 _ _ f1,k49 _ _ e2,k49 _ _ f2⟩ ⟨ne1,ne2,by omega,by omega,by omega,by omega⟩
end
end
section
open Go.Conc
open Go.ConcN (sumTo upd sumTo_upd upd_ne upd_same sumTo_congr le_sumTo WSit WgLive RW PayAt Has DWs EvW ShN AsideCell AtR0 RelBy bk_cell)
open Go.ConcR (KK WgAt stA smA wgBlock rd wr mk Bk)
open Go.Conc.Lib (WgLink)
variable{K:fy}{role:Nat->Option fo}{h j:Nat}{sp:Nat->Prop}{md md':Md}{ch R:Nat->Option fE}{cl cl':Nat->eU}{who yp:vi}{D D':Nat->dm}{T T':eo}{gs M:Array aU}{v v':av}{n i:Nat}{g:aU}{sl dF:Option (Nat×Nat)}
theorem Ok.add{p:Nat}{s:St}{a J:aU}(H:Ok K 0 s a)(hl:K.live=Z)(V:s.md=.opn p)(hp:p<=1)(A:V2 s.gs.size s.D+p<=1)(hS:Ri K.P K.L K.Wg J a s.v):
  ∃t,s.runs K.P t∧Ok K 0 t J∧t.md=.opn (p+1)∧t.role=s.role∧t.ch=s.ch∧t.gs.size=s.gs.size∧Left s.cl (· =0) s.v t.v∧(∀b,b<s.v.heap.size->t.cl b=s.cl b)∧(t.D 0).own=(s.D 0).own∧(∀n,V2 n t.D<=V2 n s.D):=by
 have U:=H.hold;rw[V] at U;obtain⟨N,R,cl',D',T',M,v',dF,r1,E,H',G,hd⟩:=cM.add U hl hp A H.lN H.deaf hS s.sl;obtain⟨rfl,q⟩:=G.calm H.uD;exact⟨⟨s.role,.opn (p+1),s.ch,cl',D',T',M,v',dF⟩,⟨N,r1⟩,⟨H',E,q,G.stage.trans H.nine,hd,⟨_,rfl⟩,H.ro⟩,rfl,rfl,rfl,G.size,G.left,G.cls,G.own,λn=>Bc G.ig⟩
end
section
open Go.Proofs Go.Conc Go.RowKit Go.Conc.Lib Go.ConcR.Gen
open Go.ConcN (upd upd_ne upd_same WgLive)
open Go.ConcR (KK WgAt stA smA wgBlock rd wr mk Bk)
theorem Lu{P}{f}{fn}{args}{w}(es)(b:P.funcs[f]? =U fn)(a:(fn.name== "runtime.NumGoroutine")=ai)(e:fn.body.isNone=ai):(iu f args).events P w es=es:=by
 have d:¬fn.name= "runtime.NumGoroutine":=by grind
 have c:¬fn.body=V:=by grind
 simp[iu,b,d,c]
def Dj(Wg:Nat):Prop:=∀(pF:aX) (pH:Act) (lg:Array dD) (pn:Nat) (oT:List Nat) (oY:List eS) (cs:List aX) (w:av),jq dK.tWg Wg w->
  Ri aC dK Wg (G (pF.at (pH.put ((lg[pn]?).bind (·.dst)) (bO #[])) (aP lg oT::oY)) cs)
   (G ((aY dK.add).at ⟨#[aE (U ⟨Wg,0,V⟩),Y aH 1,ak,ak,ak,ak,ak,ak,ak,ak,ak,ak,ak,ak,ak,ak,ak,ak,ak,ak,ak,ak,ak,ak,ak,ak,ak,ak,ak,ak,ak,ak,ak,ak,ak,ak,ak,ak,ak,ak,ak,ak,ak,ak,ak,ak,ak,ak,ak,ak,ak,ak,ak,ak,ak,ak,ak,ak,ak,ak,ak,ak,ak,ak,ak,ak,ak,ak,ak,ak,ak,ak,ak,ak,ak,ak,ak,ak,ak,ak,ak,ak,ak,ak,ak,ak,ak,ak,ak,ak,ak,ak,ak,ak,ak,ak,ak,ak,ak,ak,ak,ak,ak,ak,ak,ak,ak,ak,ak,ak,ak,ak,ak,ak,ak,ak,ak],[]⟩ [bD (body_add dK)]) (pF.at pH (aP lg (pn::oT)::oY)::cs)) w
theorem Zq{P}{main}{b:aX}{a}{k}{cs}{ops}{i}{rest}{o}{d}{f}{c}(w)(h:ops[i]? =U o)(e:eP o (dY ops a.tmps)=Z)
  (g:b.kind≠ .early) (j:(cT a.eval o).run P w=aV (.spawn d) w) (m:d.target=.fn f c) (l:(cT a.eval o).events P w #[]= #[]):
  bZ P main (G (b.at a (aP ops (i::rest)::k)) cs) w=.spawn (G (b.at (a.put o.dst ak) (aP ops rest::k)) cs) (born P d) w #[]:=by
 rw[stepG_spawn h e g j m,nX l]
theorem ab6:(f54.name== "runtime.NumGoroutine")=ai:=by kernel_rfl
section
variable {K:fy} {C:List aX}
theorem ami(B:K.P=aC)(S:K.L=dK){Q:Prop}{s}{a b e8 e9 x1 y1 x2 y2 O}{m}{T}(hT:T.size=87)(hs:T[0]? =U (.pointer (a))∧T[1]? =U (.pointer (U b))∧T[2]? =U m∧T[6]? =U (.int .i64 0)∧T[7]? =U (.int .i64 0)∧T[8]? =U (.pointer (e8))∧T[9]? =U (.pointer (e9))∧T[10]? =U (.pointer (O)))
  (hc:s.v.heap[e8]? =U (.cells #[.chan (x1),.chan (y1)] 114)∧s.v.heap[e9]? =U (.cells #[.chan (U x2),.chan (U y2)] 114)) (c:e8∈(s.D 0).own∧e9∈(s.D 0).own∧e9≠e8) (H:Ok K 0 s (G ((aY 41).at ⟨T,[]⟩ [.code (cP 4)]) C)) (hl:K.live=Z) (qT:K.Wg=O) {p} (mC:s.md=.opn p) (hp:p<=1) (hV:∀n,V2 n s.D+p<=1) (hA:Dj K.Wg)
  (hQ:∀t q r gG gA,s.runs K.P t->Ok K 0 t gG->gG.status=.running->(∀M,bZ aC Z gG M=.spawn gA (born aC ⟨.fn (.func 56) #[.pointer (O),.pointer (U ⟨q,0,V⟩),.pointer (U ⟨r,0,V⟩)], #[]⟩) M #[])->t.md=.opn (p+1)->
   (t.role=s.role∧t.ch=s.ch∧t.gs.size=s.gs.size∧Left s.cl (λ_=>False) s.v t.v∧(∀x,x<s.v.heap.size->t.cl x=s.cl x)∧∀n,V2 n t.D<=V2 n s.D)->((∀x∈(s.D 0).own,x∈(t.D 0).own)∧(∀x∈(s.D 0).own,t.v.heap[x]? =s.v.heap[x]?))->(q∈(t.D 0).own∧r∈(t.D 0).own∧s.v<=q∧q<r)->
   (t.v.heap[q]? =U (.cells #[.chan (U x1),.chan (U y1)] 114)∧t.v.heap[r]? =U (.cells #[.func (.func 59) #[.pointer (U a)] #[]] 126))->
   (∃n l,(∀w,cH aC Z (L ([]++[])) (DH [] []) (λg w=>g=G ((aY 41).at ⟨l,[]⟩ [.code (cP 6)]) C) n gA w)∧l.size=87∧(l[0]? =U (.pointer (a))∧l[1]? =U (.pointer (b))∧l[2]? =U m∧l[6]? =U (.int .i64 0)∧l[7]? =U (.int .i64 0)∧l[8]? =U (.pointer (e8))∧l[9]? =U (.pointer (e9))∧l[10]? =U (.pointer (O))∧l[11]? =U (.func (.func 54) #[] #[.pointer (O)])))->True->Q):Q:=by
 obtain⟨v0,v1,v2,v3,v4,v5,v6,v7,v8,v9,v10,v11,v12,lK,oQ,FJ,oP,oO,Dr,lJ,v20,v21,Dq,oN,v24,MR,MQ,MP,v28,FI,v30,v31,tn,Dp,RJ,oM,RI,v37,oL,oK,v40,oJ,oI,oH,FH,mQ,v46,oG,oF,v49,MO,v51,RH,v53,vv,oE,mP,RG,MN,v59,mO,oD,oC,RE,mM,MM,mL,RB,Rz,Ry,v70,ML,v72,Dn,Rx,v75,v76,vu,FG,Dm,v80,Rw,MK,mK,Rv,v85,Ru,rfl⟩:=oy T hT;simp only[nW,pU,nV,ec] at hs;obtain⟨rfl,rfl,rfl,rfl,rfl,rfl,rfl,rfl⟩:=hs;simp only[cP,eG,nG,fO] at H;refine H.walk_to [] [e8,e9] rfl (by simp) (λb W=>?_) ⟨660,?_⟩
 ·simp only[dh,dJ,dO] at W;rcases W with rfl|rfl
  ·exact⟨(H.hold.inv.own 0 _ c.1).2,.inl (H.hold.inv.own 0 _ c.1).1⟩
  ·exact⟨(H.hold.inv.own 0 _ c.2.1).2,.inl (H.hold.inv.own 0 _ c.2.1).1⟩
 rw[B];have i:=hc;refine lift ?_;u_c D jH i;u_reg jH i;u_op jH i;u_op jH i;u_c N jH i;u_c D jH i;u_reg jH i;u_op jH i;refine I (λ_ f=>?_);replace i:=jH i f;clear f;u_in jH i;refine fT rfl rfl (by k_ne) (λK u=>?_)
 have qS:=gp (o:=0) i.1 rfl;have sx:=gp (o:=1) i.1 rfl;go_simp;refine u _ _ ⟨⟨rfl,rfl,rfl,rfl,λ_ _=>rfl,λe he=>?_⟩,?_⟩
 ·have v:=kN he;simp[go_sem, *] at v;rcases v with rfl|rfl<;>exact⟨_,_,rfl,.inr (by simp)⟩
 clear qS sx u K;refine lift ?_;u_op jH i;u_op jH i;refine I (λ_ f=>?_);replace i:=jH i f;u_in jH i;refine GN rfl rfl (by k_ne) (λK E u hE=>?_)
 go_simp;refine hE _ _ _ ⟨⟨rfl,rfl,rfl,rfl,λ_ _=>rfl,λe he=>?_⟩,?_⟩
 ·have v:=kN he;have hz:=λargs w es=>Lu (P:=aC) (args:=args) (w:=w) es func54 ab6 rfl;simp[go_sem,hz] at v
 clear u hE K E;rw[Am _ func54 rfl];walk_nrmf f54;refine dG ?_;u_c D jH i;u_reg jH i;refine I (λy f=>⟨rfl,λt1 v1 r1 H1 k1 d1 c1=>?_⟩);refine H1.xu rfl rfl (.own 0) (.inl rfl) λq=>?_;co_apply lG;co_apply lG;co_apply bP
 ·intro M W hR;rw[B];co_apply uV;refine fT rfl rfl (by k_ne) (λK u=>?_)
  go_simp;exact u _ _ ⟨rfl,rfl,nX (by simp[go_sem])⟩
 intro t2 r2 H2 k2 n12 n22 TY TW Oe Q3 n72 n82 n92;refine H2.xu rfl rfl (.own 0) (.inl rfl) λr=>?_;co_apply lG;co_apply lG;co_apply bP
 ·intro M W hR;rw[B];co_apply uV;refine fT rfl rfl (by k_ne) (λK u=>?_)
  go_simp;exact u _ _ ⟨rfl,rfl,nX (by simp[go_sem])⟩
 intro t3 r3 H3 k3 n13 n23 TX TV TT TS n73 n83 n93;refine H3.walk_to [] [] rfl (by simp) (by simp) ⟨660,?_⟩
 rw[B];have d:=trivial;refine dG ?_;u_c N A d;u_c D A d;u_reg A d;u_call Dl.f_add (nm_add dK) addFn A d;refine I (λy f=>⟨rfl,λX v4 r4 H4 R d4 c4=>?_⟩);have j:=((k1.trans k2).trans k3).trans R;have Q0:X.md=.opn p:=by rw[j.md,mC]
 have EO:V2 X.gs.size X.D+p<=1:=bq (adx (j.v2 _) p) (hV _);have J:jq dK.tWg K.Wg X.v:=by have:=H4.hold.inv.live hl;rwa [S] at this
 subst qT;obtain⟨t5,r5,H5,m5,wW,A2,z5,Q2,QW,o5,v5⟩:=H4.add hl Q0 hp EO (by rw[B,S];exact hA _ _ _ _ _ _ _ _ J)
 refine H5.walk_to [] [] rfl (by simp) (by simp) ⟨660,?_⟩
 rw[B];walk_nrm;refine dG ?_;u_c N A d;u_reg A d;u_op A d;refine I (λy f=>⟨rfl,λt6 v6 r6 H6 o d6 c6=>?_⟩);have z:=R.own _ (k3.own _ (Q3 rfl));have Q1:=R.own _ (TS rfl);have F:=λx k=>by obtain⟨h1,h2⟩:=H4.hold.inv.own 0 x k;exact(o.rest x (cF h2 Q2.size) ((QW x h2).trans h1) (by simp)).trans (Q2.block x h2 (.inr (.inr ⟨0,rfl,h1⟩)))
 refine hQ t6 q r _ _ ?_ H6 rfl (λM=>Zq (d:=⟨.fn (.func 56) #[.pointer (U ⟨K.Wg,0,V⟩),.pointer (U ⟨q,0,V⟩),.pointer (U ⟨r,0,V⟩)], #[]⟩) M rfl rfl (by k_ne) ?_ rfl ?_) ?_ ?_ ?_ ?_ ?_ ?_ trivial
 ·rw[<-B] at r1 r4 r6;exact((((r1.trans r2).trans r3).trans r4).trans r5).trans r6
 ·simp[go_sem]
 ·simp[go_sem]
 ·exact o.md.trans m5
 ·refine⟨o.role.trans (wW.trans j.role),c6.trans (A2.trans (c4.trans (TT.trans (Oe.trans c1)))),o.size.trans (z5.trans j.size),(j.left.trans j.cls (Q2.sub λ_ h=>h.elim)).trans (λx k=>(QW x (cF k j.left.size)).trans (j.cls x k)) o.left,λx k=>?_,λn=>bq (o.v2 n) (bq (v5 n) (j.v2 n))⟩;have h4:=cF k j.left.size;exact(o.cls x (cF h4 Q2.size)).trans ((QW x h4).trans (j.cls x k))
 ·exact⟨λx k=>o.own x (by rw[o5];exact j.own x k),λx k=>(F x (j.own x k)).trans (j.rest x (H.hold.inv.own 0 x k).2 (H.hold.inv.own 0 x k).1 (by simp))⟩
 ·refine⟨o.own _ (by rw[o5];exact z),o.own _ (by rw[o5];exact Q1),?_,?_⟩
  ·have:=k1.left.size;omega
  ·omega
 ·exact⟨(F q z).trans (((k3.trans R).rest q (by omega) TW (by simp)).trans TY),(F r Q1).trans ((R.rest r (by omega) TV (by simp)).trans TX)⟩
 ·refine⟨630,?_⟩;co_apply lG;co_apply bP
  ·intro w;refine dG ?_;u_c N A d;u_c OT A d;u_leave0 func54 A d;u_c N A d;exact I λ_ _=>rfl
  ·exact⟨rfl,rfl,rfl,rfl,rfl,rfl,rfl,rfl,rfl,rfl⟩
end
variable{K:fy}{C:List aX}
theorem amh(B:K.P=aC)(S:K.L=dK){Q:Prop}{s}{a b e8 e9 x1 y1 x2 y2 Q0}{m}{T}(hT:T.size=87)(hs:T[0]? =U (.pointer (U a))∧T[1]? =U (.pointer (b))∧T[2]? =U m∧T[6]? =U (.int .i64 0)∧T[7]? =U (.int .i64 0)∧T[8]? =U (.pointer (e8))∧T[9]? =U (.pointer (e9))∧T[10]? =U (.pointer (Q0))∧T[11]? =U (.func (.func 54) #[] #[.pointer (Q0)]))
  (hc:s.v.heap[e8]? =U (.cells #[.chan (U x1),.chan (U y1)] 114)∧s.v.heap[e9]? =U (.cells #[.chan (x2),.chan (y2)] 114)) (c:e8∈(s.D 0).own∧e9∈(s.D 0).own∧e9≠e8) (H:Ok K 0 s (G ((aY 41).at ⟨T,[]⟩ [.code (cP 6)]) C)) (hl:K.live=Z) (qT:K.Wg=Q0) {p} (mC:s.md=.opn p) (hp:p<=1) (hV:∀n,V2 n s.D+p<=1) (hA:Dj K.Wg)
  (hQ:∀t q r gG gA,s.runs K.P t->Ok K 0 t gG->gG.status=.running->(∀M,bZ aC Z gG M=.spawn gA (born aC ⟨.fn (.func 56) #[.pointer (Q0),.pointer (U ⟨q,0,V⟩),.pointer (U ⟨r,0,V⟩)], #[]⟩) M #[])->t.md=.opn (p+1)->
   (t.role=s.role∧t.ch=s.ch∧t.gs.size=s.gs.size∧Left s.cl (λ_=>False) s.v t.v∧(∀x,x<s.v.heap.size->t.cl x=s.cl x)∧∀n,V2 n t.D<=V2 n s.D)->((∀x∈(s.D 0).own,x∈(t.D 0).own)∧(∀x∈(s.D 0).own,t.v.heap[x]? =s.v.heap[x]?))->(q∈(t.D 0).own∧r∈(t.D 0).own∧s.v<=q∧q<r)->
   (t.v.heap[q]? =U (.cells #[.chan (U x2),.chan (U y2)] 114)∧t.v.heap[r]? =U (.cells #[.func (.func 59) #[.pointer (U b)] #[]] 126))->
   (∃n l,(∀w,cH aC Z (L ([]++[])) (DH [] []) (λg w=>g=G ((aY 41).at ⟨l,[]⟩ [.code (cP 7)]) C) n gA w)∧l.size=87∧(l[0]? =U (.pointer (a))∧l[1]? =U (.pointer (b))∧l[2]? =U m∧l[6]? =U (.int .i64 0)∧l[7]? =U (.int .i64 0)∧l[8]? =U (.pointer (e8))∧l[9]? =U (.pointer (e9))∧l[10]? =U (.pointer (Q0))∧l[11]? =U (.func (.func 54) #[] #[.pointer (Q0)])))->True->Q):Q:=by
 obtain⟨v0,v1,v2,v3,v4,v5,v6,v7,v8,v9,v10,v11,v12,lK,oQ,FJ,oP,oO,Dr,lJ,v20,v21,Dq,oN,v24,MR,MQ,MP,v28,FI,v30,v31,tn,Dp,RJ,oM,RI,v37,oL,oK,v40,oJ,oI,oH,FH,mQ,v46,oG,oF,v49,MO,v51,RH,v53,vv,oE,mP,RG,MN,v59,mO,oD,oC,RE,mM,MM,mL,RB,Rz,Ry,v70,ML,v72,Dn,Rx,v75,v76,vu,FG,Dm,v80,Rw,MK,mK,Rv,v85,Ru,rfl⟩:=oy T hT;simp only[nW,pU,nV,ec] at hs;obtain⟨rfl,rfl,rfl,rfl,rfl,rfl,rfl,rfl,rfl⟩:=hs;simp only[cP,eG,nG,fO] at H;refine H.walk_to [] [e8,e9] rfl (by simp) (λb W=>?_) ⟨660,?_⟩
 ·simp only[dh,dJ,dO] at W;rcases W with rfl|rfl
  ·exact⟨(H.hold.inv.own 0 _ c.1).2,.inl (H.hold.inv.own 0 _ c.1).1⟩
  ·exact⟨(H.hold.inv.own 0 _ c.2.1).2,.inl (H.hold.inv.own 0 _ c.2.1).1⟩
 rw[B];have i:=hc;refine lift ?_;u_c D jH i;u_reg jH i;u_op jH i;refine I (λ_ f=>?_);replace i:=jH i f;clear f;u_in jH i;refine fT rfl rfl (by k_ne) (λK u=>?_)
 have qS:=gp (o:=0) i.2 rfl;have sx:=gp (o:=1) i.2 rfl;go_simp;refine u _ _ ⟨⟨rfl,rfl,rfl,rfl,λ_ _=>rfl,λe he=>?_⟩,?_⟩
 ·have v:=kN he;simp[go_sem, *] at v;rcases v with rfl|rfl<;>exact⟨_,_,rfl,.inr (by simp)⟩
 clear qS sx u K;refine lift ?_;u_op jH i;u_op jH i;refine I (λ_ f=>?_);replace i:=jH i f;u_in jH i;refine GN rfl rfl (by k_ne) (λK E u hE=>?_)
 go_simp;refine hE _ _ _ ⟨⟨rfl,rfl,rfl,rfl,λ_ _=>rfl,λe he=>?_⟩,?_⟩
 ·have v:=kN he;have hz:=λargs w es=>Lu (P:=aC) (args:=args) (w:=w) es func54 ab6 rfl;simp[go_sem,hz] at v
 clear u hE K E;rw[Am _ func54 rfl];walk_nrmf f54;refine dG ?_;u_c D jH i;u_reg jH i;refine I (λy f=>⟨rfl,λt1 v1 r1 H1 k1 d1 c1=>?_⟩);refine H1.xu rfl rfl (.own 0) (.inl rfl) λq=>?_;co_apply lG;co_apply lG;co_apply bP
 ·intro M W hR;rw[B];co_apply uV;refine fT rfl rfl (by k_ne) (λK u=>?_)
  go_simp;exact u _ _ ⟨rfl,rfl,nX (by simp[go_sem])⟩
 intro t2 r2 H2 k2 n12 n22 TY TW Oe Q3 n72 n82 n92;refine H2.xu rfl rfl (.own 0) (.inl rfl) λr=>?_;co_apply lG;co_apply lG;co_apply bP
 ·intro M W hR;rw[B];co_apply uV;refine fT rfl rfl (by k_ne) (λK u=>?_)
  go_simp;exact u _ _ ⟨rfl,rfl,nX (by simp[go_sem])⟩
 intro t3 r3 H3 k3 n13 n23 TX TV TT TS n73 n83 n93;refine H3.walk_to [] [] rfl (by simp) (by simp) ⟨660,?_⟩
 rw[B];have d:=trivial;refine dG ?_;u_c N A d;u_c D A d;u_reg A d;u_call Dl.f_add (nm_add dK) addFn A d;refine I (λy f=>⟨rfl,λX v4 r4 H4 R d4 c4=>?_⟩);have j:=((k1.trans k2).trans k3).trans R;have O:X.md=.opn p:=by rw[j.md,mC]
 have EO:V2 X.gs.size X.D+p<=1:=bq (adx (j.v2 _) p) (hV _);have J:jq dK.tWg K.Wg X.v:=by have:=H4.hold.inv.live hl;rwa [S] at this
 subst qT;obtain⟨t5,r5,H5,m5,wW,A2,z5,Q2,QW,o5,v5⟩:=H4.add hl O hp EO (by rw[B,S];exact hA _ _ _ _ _ _ _ _ J)
 refine H5.walk_to [] [] rfl (by simp) (by simp) ⟨660,?_⟩
 rw[B];walk_nrm;refine dG ?_;u_c N A d;u_reg A d;u_op A d;refine I (λy f=>⟨rfl,λt6 v6 r6 H6 o d6 c6=>?_⟩);have z:=R.own _ (k3.own _ (Q3 rfl));have Q1:=R.own _ (TS rfl);have F:=λx k=>by obtain⟨h1,h2⟩:=H4.hold.inv.own 0 x k;exact(o.rest x (cF h2 Q2.size) ((QW x h2).trans h1) (by simp)).trans (Q2.block x h2 (.inr (.inr ⟨0,rfl,h1⟩)))
 refine hQ t6 q r _ _ ?_ H6 rfl (λM=>Zq (d:=⟨.fn (.func 56) #[.pointer (U ⟨K.Wg,0,V⟩),.pointer (U ⟨q,0,V⟩),.pointer (U ⟨r,0,V⟩)], #[]⟩) M rfl rfl (by k_ne) ?_ rfl ?_) ?_ ?_ ?_ ?_ ?_ ?_ trivial
 ·rw[<-B] at r1 r4 r6;exact((((r1.trans r2).trans r3).trans r4).trans r5).trans r6
 ·simp[go_sem]
 ·simp[go_sem]
 ·exact o.md.trans m5
 ·refine⟨o.role.trans (wW.trans j.role),c6.trans (A2.trans (c4.trans (TT.trans (Oe.trans c1)))),o.size.trans (z5.trans j.size),(j.left.trans j.cls (Q2.sub λ_ h=>h.elim)).trans (λx k=>(QW x (cF k j.left.size)).trans (j.cls x k)) o.left,λx k=>?_,λn=>bq (o.v2 n) (bq (v5 n) (j.v2 n))⟩;have h4:=cF k j.left.size;exact(o.cls x (cF h4 Q2.size)).trans ((QW x h4).trans (j.cls x k))
 ·exact⟨λx k=>o.own x (by rw[o5];exact j.own x k),λx k=>(F x (j.own x k)).trans (j.rest x (H.hold.inv.own 0 x k).2 (H.hold.inv.own 0 x k).1 (by simp))⟩
 ·refine⟨o.own _ (by rw[o5];exact z),o.own _ (by rw[o5];exact Q1),?_,?_⟩
  ·have:=k1.left.size;omega
  ·omega
 ·exact⟨(F q z).trans (((k3.trans R).rest q (by omega) TW (by simp)).trans TY),(F r Q1).trans ((R.rest r (by omega) TV (by simp)).trans TX)⟩
 ·refine⟨630,?_⟩;co_apply lG;co_apply bP
  ·intro w;refine dG ?_;u_c N A d;u_c OT A d;u_leave0 func54 A d;u_c N A d;exact I λ_ _=>rfl
  ·exact⟨rfl,rfl,rfl,rfl,rfl,rfl,rfl,rfl,rfl,rfl⟩
end
section
open Go.Proofs Go.Conc
theorem amw{P:bU}{main:Bool}{b:aX}{a:Act}{todo:List eS}{cs:List aX}{w:av}{c k:Nat}{ds:List Deferred}{E:Array dZ}{t:dZ}{A:Array Bool}
  (hd:a.defers=⟨.builtin .close E t A, #[cY (U c)]⟩::ds) (J:(P.funcs[b.fn]?).any (·.norace)=ai) (hc:w.heap[c]? =U (.chan 1 #[] ai k k ai)):
  bZ P main (G {b.at a todo with mode:=fC} cs) w=bS (G {b.at ⟨a.tmps,ds⟩ todo with mode:=fC} cs) (w.setChan c 1 #[] Z k k ai) (jY c):=by
 have hr:(Xi E t #[cY (U c)]).run P w=aV (bO #[]) (w.setChan c 1 #[] Z k k ai):=run_close_open E t hc;have he:(Xi E t #[cY (U c)]).events P w #[]=jY c:=by rw[events_close_open E t hc];simp[jY]
 have hs:seen P b.fn (jY c)=jY c:=seen_eq J λe he f=>by simp only[jY,fJ,dh,dJ,dO] at he;rcases he with rfl|rfl<;>simp
 simp[G,bZ,unwind,callDeferred,Frame.at,hd,invoke,ud,go_sem,hr,he,hs]
end
section
open Go.Conc
open Go.ConcN (sumTo upd sumTo_upd upd_ne upd_same sumTo_congr le_sumTo WSit WgLive RW PayAt Has DWs EvW ShN AsideCell AtR0 RelBy bk_cell)
open Go.ConcR (KK WgAt stA smA wgBlock rd wr mk Bk)
open Go.Conc.Lib (WgLink)
def i(w w1:av):Prop:=∃τ d,w1=World.re w τ d
def sZ(w w':av)(es:Array iW):Prop:=i w w'
theorem i.refl(w):i w w:=⟨w.tape,w.drawn,rfl⟩
theorem i.trans(a b c)(h:i a b)(k:i b c):i a c:=by obtain⟨g,d,rfl⟩:=h;obtain⟨f,e,rfl⟩:=k;exact⟨f,e,rfl⟩
theorem i.heap{w w1}(h:i w w1):w1.heap=w.heap:=by obtain⟨a,d,rfl⟩:=h;rfl
def mm(P:bU)(Done:aU->av->Prop):Prop:=∀g w τ d,Done g w->∃o w1 es,bZ P Z g (World.re w τ d)=ff o w1 es
theorem ayB(P)(R):mm P (zA P R):=by rintro g w a d ⟨v,rfl,_⟩;exact I0 v _
def kW(P:bU)(Done:aU->av->Prop)(x y:aU×av):Prop:=x=y∨sI (pK P Done) x y
theorem kW.refl{P}{Done}(x):kW P Done x x:=ax rfl
theorem kW.trans{P}{Done}{x y z}(h:kW P Done x y)(k:kW P Done y z):kW P Done x z:=by
 rcases h with rfl|h
 ·exact k
 ·rcases k with rfl|k
  ·exact aA h
  ·exact aA (h.trans k)
theorem kW.ux{P}{Done}{x y z}(h:kW P Done x y)(k:sI (pK P Done) y z):sI (pK P Done) x z:=by
 rcases h with rfl|h
 ·exact k
 ·exact h.trans k
theorem kW.of{P}{Done}{x y z}(h:sI (pK P Done) x y)(k:kW P Done y z):sI (pK P Done) x z:=by
 rcases k with rfl|k
 ·exact h
 ·exact h.trans k
variable {P:bU} {Done Stop:aU->av->Prop} {D:av->av->Array iW->Prop} {S:av->av->Prop}
theorem Term.goes(v:mm P Done)(j:∀w,S w w)(d:∀a b c,S a b->S b c->S a c)(x:∀a b,i a b->S a b)(y:∀a b m,D a b m->S a b):∀{n:Nat} {g:aU} {w:av},cH P Z i D Stop n g w->Term P Done g w->
  ∃l Q0,Stop l Q0∧Term P Done l Q0∧kW P Done (l,Q0) (g,w)∧S w Q0
 |0,g,w,r,p=>⟨g,w,r w (.refl w),p,.refl _,j w⟩
 |n+1,g,w,r,p=>by
  rcases r with B|⟨_,h⟩
  ·exact⟨g,w,B w (.refl w),p,.refl _,j w⟩
  have k:i w (World.re w w.tape 0):=⟨_,_,rfl⟩;have q:=h _ k;cases p with
  |done s=>
   obtain⟨o,Q0,m,e⟩:=v g w w.tape 0 s;rw[e] at q;exact q.elim
  |step f I t=>
   obtain⟨⟨m,e⟩,_⟩:=I w.tape;rw[e,eI] at q;obtain⟨C,H⟩:=q;obtain⟨l,Q0,J,A,E,F⟩:=Term.goes v j d x y H (t w.tape);have u:¬Done g w:=λs=>by
    obtain⟨o,L,z,K⟩:=v g w w.tape 0 s
    grind
   exact⟨l,Q0,J,A,E.trans (aA (.single ⟨u,w.tape,m,e⟩)),d _ _ _ (x _ _ k) (d _ _ _ (y _ _ _ C) F)⟩
theorem Term.DL(l:mm P Done){g}{w}(h:∀b,∀j d a,bZ P Z g (World.re w b 0)≠bS j d a)(c:¬Done g w)(t:Term P Done g w):False:=by
 cases t with
 |done k=>grind
 |step f i t=>
  obtain⟨⟨a,e⟩,_⟩:=i w.tape
  grind
variable {K:fy} {ρ:Nat->Nat} {I:H} {cl:Nat->eU} {w w1 v:av}
theorem fF.re(M:fF ρ I K.P cl w v)(h:i w w1):fF ρ I K.P cl w1 v:=by obtain⟨a,d,rfl⟩:=h;exact⟨M.os,M.fair,M.low,M.blk,M.jM,M.AL,M.cls,M.arg⟩
variable{K:fy}{role:Nat->Option fo}{h j:Nat}
structure um(K:fy)(s:St)(a:aU):Prop where
 hold:cM K s.role 0 s.md s.ch s.cl (.hold 0) s.D s.T s.gs s.v
 lN:s.gs[0]? =U a
 deaf:(s.D 0).deaf=0
 nine:(s.D 0).stage=9
 opn:∃p,s.md=.opn p
theorem Ok.DD{s}{a}(H:Ok K 0 s a):um K s a:=⟨H.hold,H.lN,H.deaf,H.nine,H.opn⟩
structure IL(O:List Nat)(s t:St):Prop where
 size:t.gs.size=s.gs.size
 role:t.role=s.role
 md:t.md=s.md
 left:Left s.cl (λ_=>False) s.v t.v
 cls:∀b,b<s.v.heap.size->t.cl b=s.cl b
 rest:Rest 0 O s.cl s.v t.v
 D0:t.D 0=s.D 0
 eT:∀j r,s.role j=U r->j≠0->t.ch r.aM.c=s.ch r.aM.c
 outs:∀j r,s.role j=U r->j≠0->(t.D j).stage=9->t.ch r.out=s.ch r.out∧(s.D j).stage=9
theorem IL.trans{O}{s t u}(a:IL O s t)(b:IL O t u):IL O s u:=
 ⟨b.size.trans a.size,b.role.trans a.role,b.md.trans a.md,a.left.trans a.cls b.left,λx e=>(b.cls x (cF e a.left.size)).trans (a.cls x e),a.rest.trans a.left.size a.cls b.rest,b.D0.trans a.D0,
  λj r c d=>(b.eT j r (by rw[a.role];exact c) d).trans (a.eT j r c d),λj r c d f=>by
   obtain⟨x,y⟩:=b.outs j r (by rw[a.role];exact c) d f
   obtain⟨z,t⟩:=a.outs j r c d y
   grind⟩
theorem um.walk_to{Q}{s}{a}(H:um K s a)(O Rd)(J:∀b∈O,b∈(s.D 0).own)(d:∀b∈Rd,b<s.v.heap.size∧(s.cl b=.own 0∨s.cl b=.eN))
  (f:∃n,cH K.P Z (L (O++Rd)) (DH O Rd) (λg w=>g.status=dM∧∀t,t.v=w->s.runs K.P t->um K t g->IL O s t->Q) n a s.v):Q:=by
 obtain⟨n,f⟩:=f;obtain⟨N,m,l,k,B,F,e,C,y,Q0,I,u,q,E,G,p,R⟩:=cM.walk (h:=0) (λg w x=>x.1) (λ_=>rfl) n (sl:=s.sl) H.hold H.lN f J (λb A=>⟨(d b A).1,(d b A).2.imp id λx=>⟨x,rfl⟩⟩) (λx=>absurd rfl x) H.deaf;have c:=G.oX H.opn;exact q.2 ⟨s.role,m,l,k,B,F,e,C,y⟩ rfl ⟨N,I⟩ ⟨E,u,(congrArg dm.deaf p).trans H.deaf,(congrArg dm.stage p).trans H.nine,⟨_,c.trans H.opn.choose_spec⟩⟩
  ⟨G.size,rfl,c,G.left,G.cls,R,p,λj r i o=>G.eT j r i o,λj r i o z=>⟨G.outs j r i z,G.ij j o z⟩⟩
structure j4(role:Nat->Option fo)(i1 i2:Nat)(r1 r2:fo):Prop where
 one:role i1=U r1
 two:role i2=U r2
 all:∀i r,role i=U r->i=0∨i=i1∨i=i2
 ne:i1≠i2
 xe:i1≠0
 mV:i2≠0
 cc:r1.aM.c≠r2.aM.c
 Mj:r1.aM.c≠r1.out
 It:r1.aM.c≠r2.out
 Is:r2.aM.c≠r1.out
 A5:r2.aM.c≠r2.out
 oo:r1.out≠r2.out
theorem j4.swap{c d}{b a}(p:j4 role c d b a):j4 role d c a b:=⟨p.two,p.one,λi r e=>(p.all i r e).imp id Or.symm,p.ne.symm,p.mV,p.xe,p.cc.symm,p.A5,p.Is,p.It,p.Mj,p.oo.symm⟩
theorem j4.Dk{d e}{c b}(p:j4 role d e c b){i}{r}(a:role i=U r)(f:i≠0):(i=d∧r=c)∨(i=e∧r=b):=by
 rcases p.all i r a with h|rfl|rfl
 ·grind
 ·rw[p.one] at a;grind
 ·rw[p.two] at a;grind
theorem um.ahc{Q:Prop}{s}{a g'}(H:um K s a)(hl:K.live=Z){i1 m}{r1 f}(p:j4 s.role i1 m r1 f)(z:i1<s.gs.size)(o:a.status=dM)(y:mayWake K.P a=Z)(A:g'.status=dM)
  (g:∀u k,u.heap[r1.aM.c]? =U (.chan 1 #[] ai k k ai)->bZ K.P Z a u=bS g' (u.setChan r1.aM.c 1 #[] Z k k ai) (jY r1.aM.c)) {k} (hc:s.ch r1.aM.c=U ⟨V,ai,k⟩) (W:(s.D i1).stage=9->∃k,s.ch r1.out=U ⟨V,ai,k⟩)
  (hQ:∀t,s.runs K.P t->um K t g'->t.role=s.role->t.md=s.md->t.gs.size=s.gs.size->Left s.cl (λ_=>False) s.v t.v->(∀b,b<s.v.heap.size->t.cl b=s.cl b)->L (s.D 0).own s.v t.v->(t.D 0).own=(s.D 0).own->t.ch r1.aM.c=U ⟨V,Z,k⟩->t.ch f.aM.c=s.ch f.aM.c->
   ((t.D m).stage=9->t.ch f.out=s.ch f.out∧(s.D m).stage=9)->Q):Q:=by
 obtain⟨N,C,E,B,Q0,T',x,X,M,q1,q2,q3,I,c,J,l,T,w,F⟩:=H.hold.azm (j:=i1) (r:=r1) (k:=k) hl H.lN o y A (λu S=>g u k S) hc p.xe p.one z
  (λi R d q e=>by
   rcases p.Dk d q with⟨rfl,rfl⟩|⟨rfl,rfl⟩
   ·rfl
   ·exact absurd e.symm p.cc)
  (λi R d q e=>by
   rcases p.Dk d q with⟨rfl,rfl⟩|⟨rfl,rfl⟩
   ·exact p.Mj e.symm
   ·exact p.It e.symm)
  (λi i' r R Q1 d q Q2 e=>by
   rcases p.Dk Q1 q with⟨rfl,rfl⟩|⟨rfl,rfl⟩<;>rcases p.Dk d Q2 with⟨rfl,rfl⟩|⟨rfl,rfl⟩
   ·exact p.Mj e
   ·exact p.Is e
   ·exact p.It e
   ·exact p.A5 e)
  W H.deaf s.sl
 have n:=w.md H.opn;refine hQ ⟨s.role,C,E,B,Q0,T',x,X,M⟩ ⟨N,q1⟩ ⟨q2,q3,(congrArg dm.deaf I).trans H.deaf,(congrArg dm.stage I).trans H.nine,⟨_,n.trans H.opn.choose_spec⟩⟩ rfl n w.size w.left w.cls F (congrArg dm.own I) c (J m f p.two p.mV p.ne.symm) λO=>⟨l m f p.two p.mV O,T m p.mV O⟩
theorem um.ajm{Q:Prop}{s}{a S}(H:um K s a)(y:K.live=Z)(B:s.md=.opn 0)(hs:zE s.role s.ch)(ho:Over K.n0 s.T)(oc:∀i r,s.role i=U r->i<s.gs.size){Hd}(q:∀g w,Hd g w->∃m,GQ K.P K.L K.Wg (Rg K.P K.L K.Wg Hd S) m g w)
  (C:ah7 K.P K.L K.Wg Hd a s.v)
  (hQ:∀e t,s.runs K.P t->Ok e 0 t S->e.P=K.P->e.L=K.L->e.live=ai->Over e.n0 t.T->t.T.HandedOver->(∀i,t.role i=V)->t.md=.opn 0->Left s.cl (λ_=>False) s.v t.v->(∀b,b<s.v.heap.size->∀c,(c=.eN∨c=.old)->s.cl b=c->t.cl b=c)->t.gs.size=s.gs.size->Q):Q:=by
 have L:=H.hold;rw[B] at L;obtain⟨m,C⟩:=C;obtain⟨N1,T,ou,gP,D1,T1,J,v1,oS,a1,fn1,pl1,O,q2,⟨m2,q3⟩,q4,f,q6,q7,q8⟩:=L.Ju y H.lN (ax rfl) C s.sl;have k:=q7 ⟨0,rfl⟩;subst k;obtain⟨N2,pC,kT,D2,T2,uU,v2,u,a2,Q0,w2,w3,X,n,W,w7⟩:=cM.waitLoop y q (V2 J.size D1) (sl:=oS) (aW _) q4 (hs.later f.eT) q2 (by rw[q6,H.deaf];rfl) q3
 obtain⟨u1,e1⟩:=Jv N1 _ _ _ _ O;obtain⟨u2,e2⟩:=Jv N2 _ _ _ _ Q0;have F:=n.size.trans f.size;obtain⟨N3,e,E,R,T3,x,v3,A,z1,z2,z3,z4,Y,z6,z7,z8,z9,z,M,D,N⟩:=X.joined y (by rw[e2,e1];exact(ho.app _).app _) (λi r hr=>by grind) w2 w3 W (λi I p=>w7 i I (by rw[<-n.size];exact p)) u
 have d:=λb l=>(n.cls b (cF l f.left.size)).trans (f.cls b l);have o:Left s.cl (λ_=>False) s.v v2:=(f.left.sub λ_ h=>h.elim).trans f.cls (n.left.sub λ_ h=>h.elim);refine hQ e ⟨λ_=>V,.opn 0,λ_=>V,E,R,T3,x,v3,A⟩ ⟨_,runNT_then O (runNT_then Q0 z1)⟩ ⟨z3,z2,λ_ _ h=>(by cases h),?_,D,⟨0,rfl⟩,λ_=>rfl⟩ z4 Y z6 z7 z8 (λ_=>rfl) rfl (o.trans d z9) (λb l c hx I=>z b (cF l o.size) c hx ((d b l).trans I)) (N.trans F)
 show(R 0).stage=9;rw[M,n.stage,f.stage];exact H.nine
theorem Ok.aot{Q:Prop}{s}{a}{j n}{g h rm}(H:Ok K j s a)(W:K.live=Z)(p:j4 s.role j n g h)(y:s.role 0=U rm)(E:rm.aM.c=g.out)(I:yo K.P K.L K.Wg g (s.D j).own a s.v)(R:g.C∈(s.D j).own)
  {k k1} (T:s.ch g.out=U ⟨V,ai,k⟩) (r:s.ch g.aM.c=U ⟨V,ai,k1⟩)
  (O:rm.out≠g.out)
  (X:∀t m,s.runs K.P t->um K t (j0 m (recvd rm.aM.ok rm.aM.z ai))->rm.aM.home (t.D 0).own m t.v->t.role=s.role->t.md=s.md->t.gs.size=s.gs.size->Left s.cl (λ_=>False) s.v t.v->(∀b,b<s.v.heap.size->t.cl b=s.cl b)->
   t.ch g.aM.c=s.ch g.aM.c->t.ch h.aM.c=s.ch h.aM.c->(t.D j).stage≠9->((t.D n).stage=9->t.ch h.out=s.ch h.out)->Q):Q:=by
 obtain⟨N,w,x,u,M,C,o,S,B,m,q,F⟩:=H.hold.aow (rm:=rm) (k:=k) (kr:=k1) H.uD W p.one y p.xe I H.lN E T H.nine H.deaf R (λi A f L e=>by
   rcases p.all i A f with rfl|rfl|rfl
   ·rfl
   ·grind
   ·rw[p.two] at f;cases f;exact absurd e p.Is)
  (λi A f L e=>by
   rcases p.all i A f with rfl|rfl|rfl
   ·grind
   ·grind
   ·rw[p.two] at f;cases f;exact p.oo e.symm)
  H.hold.inv.zero r s.sl
 have l:=F.passed.md H.opn;refine X ⟨s.role,w,x,u,M,C,o,S,B⟩ m ⟨N,q⟩ ⟨F.hold,F.lN,F.deaf,F.nine,⟨_,l.trans H.opn.choose_spec⟩⟩ F.home rfl l F.passed.size F.passed.left F.passed.cls ?_ ?_ (λe=>?_) λJ=>?_
 ·have e:=F.eT j g p.one;rw[cQ s.ch _ p.Mj] at e;exact e
 ·have e:=F.eT n h p.two;rw[cQ s.ch _ p.Is] at e;exact e
 ·have:=F.ij j e
  grind[upd_same]
 ·have e:=F.outs n h p.two J;rw[cQ s.ch _ p.oo.symm] at e;exact e
end
section
open Go.Proofs Go.Conc Go.RowKit Go.Conc.Lib Go.ConcR.Gen
open Go.ConcN (upd upd_ne upd_same WgLive)
open Go.ConcR (KK WgAt stA smA wgBlock rd wr mk Bk)
noncomputable def bot:aX:={(default:aX) with fn:=aC.funcs.size,defers:=[],mode:=.panicking [goexitEntry]}
def IA:aX:=baseD 56
noncomputable def XI:Code:=LJ.body.getD .skip
def call56(bw b2 b3:Nat):Deferred:=⟨.fn (ep 56) #[aE (U ⟨bw,0,V⟩),aE (U ⟨b2,0,V⟩),aE (U ⟨b3,0,V⟩)], #[]⟩
theorem az9(b a b3)(w):bZ aC ai (born aC (call56 b a b3)) w=
  bS (G (IA.at ⟨#[aE (b),aE (a),aE (b3),ak,ak,ak],[]⟩ [bD XI]) [bot]) w #[]:=by
 simp[born,call56,bZ,unwind,callDeferred,invoke,iu,func56,LJ,seen,ud,G,eO,Frame.at,IA,baseD,bot,XI]
theorem ap3(T):QuitsD aC 2 0 (G {IA.at ⟨T,[]⟩ [] with mode:=fC} [bot]):=by
 refine QuitsD.ctl (g':=G bot []) rfl (λw=>?_) ?_
 ·simp[G,bZ,unwind,nC,jN,Frame.at,IA,baseD,bot,func56,LJ,seen,ud,goexitEntry]
 refine QuitsD.ctl (g':={G bot [] with status:=.finished}) rfl (λw=>?_) ⟨rfl,rfl⟩;simp[G,bZ,unwind,bot,goexitEntry,Frame.catches];rfl
theorem tE{x y}{o o'}{w w1}(h:w.heap[x]? =U o∧w.heap[y]? =U o')(r:L [x,y] w w1):w1.heap[x]? =U o∧w1.heap[y]? =U o':=⟨(r.1 x (by simp)).trans h.1,(r.1 y (by simp)).trans h.2⟩
theorem arC:(CQ.name== "runtime.NumGoroutine")=ai:=by kernel_rfl
noncomputable def je(a:eK):ay:=dH (ep 59) #[aE (U a)] #[]
noncomputable def abG:Array dD:=match LJ.body.getD .skip with|eE _ (dQ _ ops _)=>ops|_=> #[]
noncomputable def tj(bw b2 b3 x1 y1:Nat)(a:eK):List aX:=
 [IA.at ⟨#[aE (U ⟨bw,0,V⟩),aE (U ⟨b2,0,V⟩),aE (U ⟨b3,0,V⟩),bN #[cY (U x1),cY (U y1)],je a,ak],[dcall 57 #[aE (U ⟨bw,0,V⟩)]]⟩ [aP abG [2]],bot]
def Qe(y:Nat):Deferred:=⟨.builtin .close #[112] 0 #[ai], #[cY (U y)]⟩
theorem amx{P}{main}{b:aX}{a}{k}{cs}{w}{ops}{i}{rest}{o}{t}{c}(h:ops[i]? =U o)(g:eP o (dY ops a.tmps)=Z)(m:b.kind≠ .early)
  (e:o.op=.defer {callee:=.builtin .close,args:= #[cu t],argTypes:=c}):
  bZ P main (G (b.at a (aP ops (i::rest)::k)) cs) w=bS (G (b.at (dj ⟨a.tmps,⟨.builtin .close c o.type #[ai], #[a.eval (cu t)]⟩::a.defers⟩ o.dst ak) (aP ops rest::k)) cs) w #[]:=by
 have j:(cT a.eval o).run P w=aV (.defer ⟨.builtin .close c o.type #[ai], #[a.eval (cu t)]⟩) w:=by unfold cT;simp[e,resolve]
 have l:(cT a.eval o).events P w #[]= #[]:=by unfold cT;simp[e,resolve]
 have d:(b.at ⟨a.tmps,⟨.builtin .close c o.type #[ai], #[a.eval (cu t)]⟩::a.defers⟩ (aP ops (i::rest)::k)).finish ak=b.at (dj ⟨a.tmps,⟨.builtin .close c o.type #[ai], #[a.eval (cu t)]⟩::a.defers⟩ o.dst ak) (aP ops rest::k):=by grind[Frame.finish_at]
 have f:(b.kind==CallKind.early)=ai:=by grind
 rw[OS h g,<-d];simp[vb,j,l,G,Frame.at,f,ud,seen_none]
theorem aa7{main}{b:aX}{T}{ds}{k}{cs}{ops}{i}{rest}{o}{t}{x}(f:ops[i]? =U o)(d:eP o (dY ops T)=Z)(e:b.kind≠ .early)
  (a:o.op=.recv 112 (cu t) Z) (c:T[t]? =U (cY (U x))) (w):
  bZ aC main (G (b.at ⟨T,ds⟩ (aP ops (i::rest)::k)) cs) w=.comm (G (b.at ⟨T,ds⟩ (aP ops (i::rest)::k)) cs) #[rcase x (aD V 0 0)] Z (.recv Z) w #[]:=by
 have g:(cT (dW ⟨T,ds⟩) o).run aC w=aV (.comm #[rcase x (aD V 0 0)] Z (.recv Z)) w:=by unfold cT;simp[a,go_sem,c,rcase]
 have h:(cT (dW ⟨T,ds⟩) o).events aC w #[]= #[]:=by unfold cT;simp[a,go_sem,c]
 rw[stepG_comm f d e g,nX h]
theorem aar{main}{b:aX}{T}{ds}{k}{cs}{ops}{i}{rest}{o}{t u}{x}{v}(g:ops[i]? =U o)(e:eP o (dY ops T)=Z)(f:b.kind≠ .early)
  (a:o.op=.send (cu t) (cu u)) (d:T[t]? =U (cY (U x))) (c:T[u]? =U v) (w):
  bZ aC main (G (b.at ⟨T,ds⟩ (aP ops (i::rest)::k)) cs) w=.comm (G (b.at ⟨T,ds⟩ (aP ops (i::rest)::k)) cs) #[scase x v (bO #[])] Z .send w #[]:=by
 have h:(cT (dW ⟨T,ds⟩) o).run aC w=aV (.comm #[scase x v (bO #[])] Z .send) w:=by unfold cT;simp[a,go_sem,d,c,scase]
 have j:(cT (dW ⟨T,ds⟩) o).events aC w #[]= #[]:=by unfold cT;simp[a,go_sem,d,c]
 rw[stepG_comm g e f h,nX j]
noncomputable def Ac:Code:=match eG 3 (CQ.body.getD .skip) with|.block _ (.loop c)=>c|c=>c
noncomputable def NX:Array dD:=match Ac with|eE (dQ _ ops _) _=>ops|_=> #[]
noncomputable def OW:List eS:=[bD (eG 1 Ac),.inLoop Ac,lI 0]
def VB(C:List aX)(a:eK)(b3 x1 y1:Nat)(O:List Nat)(g2:aU)(w:av):Prop:=
 ∃bx T,g2=G ((aY 58).at ⟨T,[Qe y1]⟩ (aP NX [0,1]::OW)) C∧T.size=21∧(T[1]? =U (je a)∧T[2]? =U (aE (U ⟨bx,0,V⟩))∧T[9]? =U (cY (U x1)))∧
  (w.heap[bx]? =U (aF #[cY (U x1),cY (U y1)] 114)∧w.heap[b3]? =U (aF #[je a] 126))∧bx∈O∧b3∈O
def Iq(C:List aX)(a:eK)(b3 x1 y1:Nat):FB where
 c:=x1
 z:=aD V 0 0
 ok:=Z
 home:=VB C a b3 x1 y1
 Jh O g w w1 r h:=by obtain⟨bx,T,h1,h2,h3,⟨h4,U⟩,J,E⟩:=h;exact⟨bx,T,h1,h2,h3,⟨(r.1 bx J).trans h4,(r.1 b3 E).trans U⟩,J,E⟩
theorem ahO{C}{a}{b b3 x1 c}{O}{w}{T}(g:T.size=21)(hs:T[1]? =(je a)∧T[2]? =U (.pointer (b))∧T[9]? =U (.chan (x1)))
  (d:(w.heap[b]? =U (.cells #[.chan (x1),.chan (c)] 114)∧w.heap[b3]? =U (.cells #[je a] 126))∧b∈O∧b3∈O):
  ∃e,AtR aC ai (Iq C a b3 x1 c) O (G ((aY 58).at ⟨T,[Qe c]⟩ (.inRegion NX [0,1]::OW)) C) e w:=
 ⟨_,rfl,rfl,rfl,rfl,⟨b,T,rfl,g,hs,d.1,d.2⟩,λf=>aa7 rfl rfl (by k_ne) rfl hs.2.2 f⟩
theorem iJ{x y}{O}{o o'}{w w1}(h:(w.heap[x]? =U o∧w.heap[y]? =U o')∧x∈O∧y∈O)(r:L O w w1):(w1.heap[x]? =U o∧w1.heap[y]? =U o')∧x∈O∧y∈O:=⟨⟨(r.1 x h.2.1).trans h.1.1,(r.1 y h.2.2).trans h.1.2⟩,h.2⟩
theorem axy{C}{a}{d b3 x1 j}{O}{ops}{w}(b:(w.heap[d]? =U (.cells #[.chan (x1),.chan (j)] 114)∧w.heap[b3]? =U (.cells #[je a] 126))∧d∈O∧b3∈O):
  cH aC ai (L O) (DO O) (λg w=>∃m,AtR aC ai (Iq C a b3 x1 j) O g m w) 40 (G ((aY 58).at ⟨#[.agg #[.chan (x1),.chan (j)],je a,.pointer (U ⟨d,0,V⟩),ak,ak,ak,ak,ak,ak,ak,ak,ak,ak,ak,ak,ak,ak,ak,ak,ak,ak],[]⟩ [.inRegion ops [],.code (eG 1 (CQ.body.getD .skip))]) C) w:=by
 simp only[eG,CQ,fO];refine jT (n:=4) ?_;u_c N iJ b;u_c D iJ b;u_reg iJ b;u_op iJ b;refine I (λ_ c=>?_);replace b:=iJ b c;u_in iJ b;refine fT rfl rfl (by k_ne) (λK f=>?_)
 have l:=gp (o:=1) b.1.1 rfl;go_simp;refine f _ _ ⟨⟨rfl,rfl,rfl,rfl,rfl,λ_ _=>rfl,λe i=>?_⟩,?_⟩
 ·have h:=kN i;simp[go_sem, *] at h
  grind
 u_in iJ b;rw[amx rfl rfl (by k_ne) rfl]
 simp only[eI];refine⟨Xc (by simp),?_⟩
 walk_nrm;refine jT (n:=4) ?_;u_c N iJ b;u_c D iJ b;u_reg iJ b;u_op iJ b;refine I (λ_ c=>?_);replace b:=iJ b c;u_in iJ b;refine fT rfl rfl (by k_ne) (λK f=>?_)
 have k:=gp (o:=0) b.1.1 rfl;go_simp;refine f _ _ ⟨⟨rfl,rfl,rfl,rfl,rfl,λ_ _=>rfl,λe i=>?_⟩,?_⟩
 ·have h:=kN i;simp[go_sem, *] at h
  grind
 refine dG ?_;u_c N iJ b;u_c stepG_block iJ b;u_c stepG_loop iJ b;u_c D iJ b;u_reg iJ b;refine I λo n=>?_;exact ahO rfl ⟨rfl,rfl,rfl⟩ (iJ b n)
theorem alv{a}{m f b3 x1 k}{w}(b:w.heap[f]? =U (.cells #[.chan (x1),.chan (k)] 114)∧w.heap[b3]? =U (.cells #[je a] 126)):
  cH aC ai (L [f,b3]) (DO [f,b3]) (AtB aC (Iq (tj m f b3 x1 k a) a b3 x1 k) 40 [f,b3]) 30 (born aC (call56 m f b3)) w:=by
 refine Goes.step rfl λn c=>?_;replace b:=tE b c;rw[az9];refine⟨Xc (by simp),?_⟩
 simp only[XI,LJ,fO];refine jT (n:=5) ?_;u_c D tE b;u_reg tE b
 u_defer tE b
 u_c N tE b;u_reg tE b;refine I (λ_ c=>?_);replace b:=tE b c;u_in tE b;refine fT rfl rfl (by k_ne) (λK d=>?_)
 have j:=gp (o:=0) b.1 rfl;have o:=gp (o:=1) b.1 rfl;go_simp;refine d _ _ ⟨⟨rfl,rfl,rfl,rfl,rfl,λ_ _=>rfl,λe i=>?_⟩,?_⟩
 ·have g:=kN i;simp[go_sem, *] at g
  grind
 u_in tE b;refine fT rfl rfl (by k_ne) (λK d=>?_)
 have j:=gp (o:=0) b.2 rfl;go_simp;refine d _ _ ⟨⟨rfl,rfl,rfl,rfl,rfl,λ_ _=>rfl,λe i=>?_⟩,?_⟩
 ·have g:=kN i;simp[go_sem, *] at g
  grind
 u_in tE b;refine GN rfl rfl (by k_ne) (λK E d u=>?_)
 go_simp;refine u _ _ _ ⟨⟨rfl,rfl,rfl,rfl,rfl,λ_ _=>rfl,λe i=>?_⟩,?_⟩
 ·have g:=kN i;have q:=λargs w p=>Lu (P:=aC) (args:=args) (w:=w) p func58 arC rfl;simp[go_sem,q] at g
 rw[Am _ func58 rfl];walk_nrmf CQ;refine dG ?_;u_c D tE b;u_reg tE b;refine I λv r=>?_;replace b:=tE b r;refine⟨rfl,?_⟩;co_apply lG;intro x t;co_apply lG;co_apply bP
 case h.h.right=>
  co_apply bP
  case left=>
   co_apply uV;refine fT rfl rfl (by k_ne) (λK d=>?_)
   go_simp;exact d _ _ ⟨rfl,rfl,nX (by simp[go_sem])⟩
  case right=>
   have s:=tE b t;refine axy ⟨⟨by simp,?_⟩,by simp,by simp⟩
   grind
 case h.h.left=>rfl
theorem am4{a}{d b b3 x1 c}{w}(e:w.heap[b]? =U (.cells #[.chan (x1),.chan (c)] 114)∧w.heap[b3]? =U (.cells #[je a] 126)):
  qi aC ai (Iq (tj d b b3 x1 c a) a b3 x1 c) 73 [b,b3] (born aC (call56 d b b3)) w:=.inr (.inl ⟨30,40,rfl,rfl,alv e⟩)
theorem Js{b:aX}{a}{ops}{i}{rest}{k}{cs}(v):j0 (G (b.at a (aP ops (i::rest)::k)) cs) v=G (b.at (a.put ((ops[i]?).bind (·.dst)) v) (aP ops rest::k)) cs:=by simp[j0,G,GM]
noncomputable def OY:Code:=match eG 2 Ac with|.block _ c=>c|c=>c
noncomputable def TA:Array dD:=match eG 1 OY with|eE (dQ _ ops _) _=>ops|_=> #[]
noncomputable def U1:List eS:=[bD (eG 2 OY),lI 1,.inLoop Ac,lI 0]
noncomputable def Ir(T:Array ay)(y1:Nat):aX:=(aY 58).at ⟨T,[Qe y1]⟩ (aP TA [2,3]::U1)
theorem arB:(f59.name== "runtime.NumGoroutine")=ai:=by kernel_rfl
section
variable {K:fy} {C:List aX}
theorem alX(o:K.P=aC){Q:Prop}{s}{h}(Y:h≠0){a}{b3 x1 g}{p}{x}(M:VB C a b3 x1 g (s.D h).own p s.v)(H:Ok K h s (j0 p (recvd Z x Z)))
  (O:∀t T f,s.runs K.P t->Ok K h t (r (eO aC 59 #[.pointer (a),x] .normal) (Ir T g::C))->Kept h [] s t->t.D h=s.D h->t.ch=s.ch->T.size=21->(T[1]? =(je a)∧T[2]? =U (.pointer (f))∧T[9]? =U (.chan (x1)))->
   ((t.v.heap[f]? =U (.cells #[.chan (x1),.chan (g)] 114)∧t.v.heap[b3]? =U (.cells #[je a] 126))∧f∈(t.D h).own∧b3∈(t.D h).own)->Q):Q:=by
 obtain⟨f,T,rfl,L,l,q,k,i⟩:=M;obtain⟨v0,X,v2,v3,v4,v5,v6,v7,v8,v9,v10,F,v12,lK,Q2,J,S,V,Q0,lJ,W,rfl⟩:=QK T L;simp only[nW,pU,nV,ec] at l;obtain⟨rfl,rfl,rfl⟩:=l;have j:(h==0)=ai:=by simp[Y]
 rw[Js] at H;simp only[NX,OW,Ac,eG,CQ,fO,recvd,iM] at H;refine H.walk_to [] [] j (by simp) (by simp) ⟨30,?_⟩
 rw[o];have c:=trivial;walk_nrm;refine jT (n:=15) ?_;u_op A c;u_c N A c;u_c D A c;u_cond Z A c;u_c kD A c;u_c stepG_block A c;u_c D A c;u_reg A c;u_op A c;u_op A c;u_c N A c;u_c D A c;u_reg A c;u_op A c;u_op A c;refine I (λ_ d=>?_);replace c:=A c d;u_in A c;simp only[je];refine GN rfl rfl (by k_ne) (λK E hK R=>?_)
 go_simp;refine R _ _ _ ⟨⟨rfl,rfl,rfl,rfl,λ_ _=>rfl,λe he=>?_⟩,?_⟩
 ·have j:=kN he;have m:=λargs w B=>Lu (P:=aC) (args:=args) (w:=w) B func59 arB rfl;simp[go_sem,m] at j
 refine I (λz d=>⟨rfl,λt X n Q1 u Q3 c1=>?_⟩);have v:=λb y=>u.rest b (H.hold.inv.own h b y).2 (H.hold.inv.own h b y).1 (by simp)
 rw[<-o] at n;refine O t _ f n Q1 u Q3 c1 rfl ⟨rfl,rfl,rfl⟩ ⟨⟨(v _ k).trans q.1,(v _ i).trans q.2⟩,by grind,by grind⟩
end
end
section
open Go.Conc Go.RowKit Go.Conc.Lib Go.ConcR.Gen
open Go.ConcN (WgLive RW Has DWs EvW AtR0)
open Go.ConcN.Gen (WgLive.cell0 WgLive.cell1 kn_rely doneN)
open Go.ConcR (KK WgAt stA smA wgBlock rd wr mk Bk DC0)
theorem WH{P:bU}{main:Bool}{R:av->av->Prop}(p:∀a,R a a)(l:∀a b c,R a b->R b c->R a c){v:av->av->Array iW->Prop}{y s:aU->av->Prop}(j:∀g w A,bZ P main g w=bS A w #[]->¬s g w):
  ∀{m n:Nat} {g:aU} {w:av},cH P main R DC0 y m g w->cH P main R v s n g w->cH P main R DC0 (λg w=>y g w∧∃n,cH P main R v s n g w) m g w
 |0,n,g,w,q,o=>λi r=>⟨q i r,n,o.rely l r⟩
 |m+1,n,g,w,q,o=>by
  rcases q with u|⟨C,e⟩
  ·exact ax λi r=>⟨u i r,n,o.rely l r⟩
  ·refine aA ⟨C,λi r=>?_⟩;have h:=e i r;have k:=o.rely l r;cases f:bZ P main g i with
   |go A x D=>
    rw[f,eI] at h;rw[eI];obtain⟨⟨rfl,rfl⟩,B⟩:=h;have d:=f;cases n with
    |zero=>exact absurd (k x (p _)) (j _ _ _ d)
    |succ n=>
     rcases k with u|⟨_,t⟩
     ·grind
     ·have z:=t x (p _);rw[d,eI] at z;exact⟨⟨rfl,rfl⟩,WH p l j B z.2⟩
   |_=>rw[f] at h;exact h.elim
theorem afL{P:bU}{main:Bool}{R:av->av->Prop}(d:∀a,R a a){S:aU->av->Prop}:∀{m:Nat} {g:aU} {w:av},cH P main R DC0 S m g w->∃e,S e w
 |0,g,w,h=>⟨g,h w (d w)⟩
 |m+1,g,w,h=>by
  rcases h with i|⟨k,b⟩
  ·exact⟨g,i w (d w)⟩
  ·have h:=b w (d w);cases c:bZ P main g w with
   |go e j l=>
    rw[c,eI] at h;obtain⟨⟨rfl,rfl⟩,f⟩:=h;exact afL d f
   |_=>rw[c] at h;exact h.elim
section
variable {P:bU} {L:WgLink} {Wg C n Low k:Nat} {val:ay} {c:aX} {cs:List aX}
def aBD(P:bU)(L:WgLink)(Wg C n Low k:Nat)(g:aU)(w:av):Prop:=
 g.status=dM∧∃g',(∀w1,bZ P ai g w1=bS g' w1 #[jo (.releaseMerge (stA Wg))])∧∃m,cH P ai (RW L.tWg Wg C n Low (k-1)) DC0 (λg w=>∃E,bZ P ai g w=bS E w #[jo .disable]) m g' w
set_option maxHeartbeats 8000000 in
theorem ayA (H:WgLib P L) (w) (a:jq L.tWg Wg w∧Has C (k-1) val w):
  cH P ai (RW L.tWg Wg C n Low (k-1)) DC0 (aBD P L Wg C n Low k) 40 (G ((baseD L.done).at ⟨#[aE (Wg),ak,ak,ak],[]⟩ [bD (body_done L)]) (c::cs)) w:=by
 lib_facts;simp only[body_done,doneFn,fO];u_reg lu a;u_op lu a;u_in lu a;refine goes_call rfl rfl (by k_ne) rfl H.f_add (nm_add L) rfl ⟨by u_nil,?_⟩
 walk_nrmf addFn;u_c D lu a;u_cond Z lu a;u_c D lu a;u_c D lu a;u_reg lu a;u_op lu a;u_op lu a;u_c N lu a;u_cond Z lu a;u_reg lu a;u_op lu a;u_conv H.underlying_tWgP H.room_tWg (WgLive.cell0 a.1).choose_spec lu a;refine I (λd b=>?_);replace a:=lu a b;refine⟨rfl,_,λe=>stepG_markAt .releaseMerge (by simp) rfl rfl (by k_ne) rfl H.f_relMerge (x_relMerge_n L) (x_relMerge_b L) (x_relMerge_x L) (x_relMerge_f L) (by simp[dW,stA]),10,?_⟩
 walk_nrm;u_c N lu a;u_c D lu a;u_reg lu a;refine I (λd b=>?_);exact⟨_,stepG_mark0 .disable (by simp) rfl rfl (by k_ne) rfl H.f_disable (x_disable_n L) (x_disable_b L) (x_disable_x L) (x_disable_f L)⟩
theorem ayC(H:WgLib P L){M}(v:c.mode=fC)(J:QuitsD P M 0 (G c cs))(w)(D:jq L.tWg Wg w∧Has C (k-1) val w):
  cH P ai (RW L.tWg Wg C n Low (k-1)) DC0 (AtR0 P L.tWg Wg C n Low k val) 40 (G ((baseD L.done).at ⟨#[aE (Wg),ak,ak,ak],[]⟩ [bD (body_done L)]) (c::cs)) w:=by
 have o:∀a,RW L.tWg Wg C n Low (k-1) a a:=λa=>nS a;have p:∀a b d,RW L.tWg Wg C n Low (k-1) a b->RW L.tWg Wg C n Low (k-1) b d->RW L.tWg Wg C n Low (k-1) a d:=by grind[RW.trans]
 have q:∀g w u,bZ P ai g w=bS u w #[]->¬AtR0 P L.tWg Wg C n Low k val g w:=λg w u e h=>by
  obtain⟨_,_,g2,B,_⟩:=h
  grind
 refine Go.ConcN.goes_mono (λg w h=>?_) (WH o p q (ayA (n:=n) (Low:=Low) (c:=c) (cs:=cs) H w D) (doneN (Own:=λ_ _=>False) (Rd:=λ_ _=>False) (n:=n) (Low:=Low) H v J w D));obtain⟨⟨z,u,y,m2,N⟩,T,s⟩:=h;rcases xy s with j|⟨Q0,rfl,i⟩
 ·grind
 ·exfalso;obtain⟨Q1,w3,K,r,X,E⟩:=i w (o w);rw[y w] at r;injection r with F B f;subst F B;obtain⟨W,⟨S,m⟩,R,t⟩:=afL o (WH o p q N E);rcases xy t with j|⟨Q2,rfl,i⟩
  ·obtain⟨_,_,O,A,_⟩:=j w (o w);rw[m] at A;injection A with _ _ e;simp[jo] at e
  ·obtain⟨O,Q,I,l,x,_⟩:=i w (o w);rw[m] at l;injection l with _ _ e;subst e;have:=(x.2 (jo .disable) (by simp)).2.1
   exact this rfl
end
end
section
open Go.Proofs Go.Conc Go.RowKit Go.Conc.Lib Go.ConcR.Gen
open Go.ConcN (upd upd_ne upd_same WgLive RW Has DWs EvW AtR0)
open Go.ConcN.Gen (WgLive.cell0 WgLive.cell1 kn_rely doneN)
open Go.ConcR (KK WgAt stA smA wgBlock rd wr mk Bk DC0)
noncomputable def NI(C:List aX)(a:eK)(b3 x1 y1:Nat):fo:=⟨Iq C a b3 x1 y1,y1,b3,je a⟩
theorem alw{T}{c}{b e b3 x1 f}{a}{w}(d:jq dK.tWg b w∧Has b3 (1-1) (je a) w):
  ∃m,cH aC ai (RW dK.tWg b b3 77 0 (1-1)) DC0 (AtR0 aC dK.tWg b b3 77 0 1 (je a)) m (G {(aY 58).at ⟨T,[]⟩ c with mode:=fC} (tj b e b3 x1 f a)) w:=by
 refine⟨60,?_⟩;simp only[tj,abG,LJ,fO];u_leave0 func58 lu d;u_c N lu d;u_c OT lu d;u_in lu d;rw[stepG_unwind_enter rfl func57 (nm_done dK) rfl];simp only[eI];refine⟨by u_nil,?_⟩
 walk_nrmf f57;have g:= @ayC aC dK b b3 77 0 1 (je a) {IA.at ⟨#[aE (U b),aE (U e),aE (U b3),bN #[cY (U x1),cY (U f)],je a,bO #[]],[]⟩ [] with mode:=fC} [bot] Dl 2 rfl (ap3 _) _ d;simp only[body_done,doneFn,fO] at g
 grind[Goes.mono]
theorem agf{P}{w}{t e}(p)(n c)(es)(h:P.underlying t=U (.slice e)):
  (gw .eql t (aD p n c) (aD V 0 0)).events P w es=es:=by
 have a:∀d:Nat,(rf (d+1) t (aD p n c) (aD V 0 0)).events P w es=es:=λd=>by cases p<;>simp[go_sem,rf,run_underlying h]
 simp only[gw];simp[Op.equal,LK,a 9999]
theorem ahR{T}{d}{f l b3 x1 b}{a}{O}{w}(p:b3∈O)(s:w.heap[b3]? =U (aF #[je a] 126)):
  yo aC dK f (NI (tj f l b3 x1 b a) a b3 x1 b) O (G {(aY 58).at ⟨T,[Qe b]⟩ d with mode:=fC} (tj f l b3 x1 b a)) w:=by
 refine⟨rfl,rfl,_,rfl,λo k r i n=>⟨amw (ds:=[]) rfl (by kernel_rfl) i,?_⟩⟩
 have g:b3≠b:=λe=>by
  have h:=(r.1 b3 p).trans s;rw[e] at h;have c:o.heap[b]? =U (.chan 1 #[] ai k k ai):=i
  grind
 have j:f≠b:=λe=>by obtain⟨q,m,h⟩:=n;unfold WgAt at h;rw[e] at h;have c:o.heap[b]? =U (.chan 1 #[] ai k k ai):=i;rw[h] at c;cases c
 refine alw ⟨?_,?_⟩
 ·obtain⟨q,m,h⟩:=n;refine⟨q,m,?_⟩;unfold WgAt at h⊢;rw[<-h];simp only[CO];exact mz (λe=>j e.symm)
 ·show og _ b3=U (je a);refine gp (cs:= #[je a]) (ty:=126) ?_ rfl;rw[<-s,<-r.1 b3 p];simp only[CO];exact mz (λe=>g e.symm)
theorem ave{f i b3 x1 d}{a}{O}{j}{w}(u:VB (tj f i b3 x1 d a) a b3 x1 d O j w):
  b3∈O∧∃m,cH aC ai (L O) (DO O) (yo aC dK f (NI (tj f i b3 x1 d a) a b3 x1 d) O) m (j0 j (recvd Z (aD V 0 0) ai)) w:=by
 obtain⟨g,T,rfl,t,h,b,e,c⟩:=u;refine⟨c,30,?_⟩;obtain⟨P,F,E,z,I,A,C,J,H,B,x,p,r,q,l,s,k,n,v,y,o,rfl⟩:=QK T t;simp only[nW,pU,nV,ec] at h;obtain⟨rfl,rfl,rfl⟩:=h;replace b:(w.heap[g]? =U (aF #[cY (U x1),cY (U d)] 114)∧w.heap[b3]? =U (aF #[je a] 126))∧g∈O∧b3∈O:=⟨b,e,c⟩;rw[Js];simp only[NX,OW,Ac,eG,CQ,fO,recvd,iM];walk_nrm;refine dG ?_;u_op iJ b;u_c N iJ b;u_c D iJ b;u_cond ai iJ b;u_exit iJ b;u_c OT iJ b
 grind[Goes.stop,ahR,iJ]
theorem qq{x}{o}{w w1}(h:w.heap[x]? =U o)(r:L ([]++[x]) w w1):w1.heap[x]? =U o:=(r.1 x (by simp)).trans h
section
variable {K:fy} {C:List aX}
theorem alW(Q3:K.P=aC){Q:Prop}{s}{h}(S:h≠0){a}{o Q1 b3 x1 j k n c}{T}(E:T.size=21)(hs:T[1]? =(je a)∧T[2]? =U (.pointer (k))∧T[9]? =U (.chan (x1)))
  (hF:(s.v.heap[k]? =U (.cells #[.chan (x1),.chan (j)] 114)∧s.v.heap[b3]? =U (.cells #[je a] 126))∧k∈(s.D h).own∧b3∈(s.D h).own)
  (H:Ok K h s (r ((Ir T j).finish (.slice V n c)) (tj o Q1 b3 x1 j a)))
  (hQ:∀t g,s.runs K.P t->Ok K h t g->Kept h [] s t->t.D h=s.D h->t.ch=s.ch->yo aC dK o (NI (tj o Q1 b3 x1 j a) a b3 x1 j) (t.D h).own g t.v->b3∈(t.D h).own->Q):Q:=by
 obtain⟨v,R,v2,v3,v4,v5,v6,v7,v8,Y,W,z,Q0,QW,L,B,J,Q2,QX,X,O,rfl⟩:=QK T E;simp only[nW,pU,nV,ec] at hs;obtain⟨rfl,rfl,rfl⟩:=hs;have m:(h==0)=ai:=by simp[S]
 have F:∀f p,r f p=G f p:=λ_ _=>rfl;rw[F,Ir,GM] at H;simp only[TA,U1,OY,Ac,eG,CQ,fO] at H;refine H.walk_to [] [] m (by simp) (by simp) ⟨30,?_⟩
 rw[Q3];have d:=trivial;walk_nrm;refine jT (n:=6) ?_;u_op A d;u_c N A d;u_c D A d;u_c D A d;u_reg A d;u_op A d;refine I (λ_ i=>?_);replace d:=A d i;u_in A d;refine fT rfl rfl (by k_ne) (λK x=>?_)
 have hx:=λw=>UY (P:=aC) w 79 _ V n c 0 0 underlying79;go_simp;refine x _ _ ⟨?_,?_⟩
 ·refine dh_none ?_;intro e l;have m:=kN l;simp[go_sem,(λw y=>agf (P:=aC) (w:=w) V n c y underlying79)] at m
 refine dG ?_;u_c N A d;u_cond Z A d;u_c stepG_ret' A d;refine I (λu i=>⟨rfl,λt R r1 H1 M d1 c1=>?_⟩);have st:=λb q=>M.rest b (H.hold.inv.own h b q).2 (H.hold.inv.own h b q).1 (by simp)
 grind[ahR]
theorem alV(z:K.P=aC){Q:Prop}{s}{h}(hh:h≠0){a}{b3 x1 m k n c}{ad}{T}(O:T.size=21)(hs:T[1]? =(je a)∧T[2]? =U (.pointer (k))∧T[9]? =U (.chan (x1)))
  (j:(s.v.heap[k]? =U (.cells #[.chan (x1),.chan (m)] 114)∧s.v.heap[b3]? =U (.cells #[je a] 126))∧k∈(s.D h).own∧b3∈(s.D h).own)
  (H:Ok K h s (r ((Ir T m).finish (.slice (U ad) n c)) C))
  (Q2:∀t l,s.runs K.P t->Ok K h t l->Kept h [] s t->t.D h=s.D h->t.ch=s.ch->l.status=.running->(∀q,bZ aC ai l q=.comm l #[scase m (.slice (ad) n c) (.tuple #[])] Z .send q #[])->qi aC ai (Iq C a b3 x1 m) 21 (t.D h).own (j0 l ak) t.v->Q):Q:=by
 obtain⟨v0,v1,v2,v3,v4,v5,v6,v7,v8,v9,v10,L,v12,lK,X,Q1,W,Y,S,lJ,v,rfl⟩:=QK T O;simp only[nW,pU,nV,ec] at hs;obtain⟨rfl,rfl,rfl⟩:=hs;have p:(h==0)=ai:=by simp[hh]
 have R:∀f A,r f A=G f A:=λ_ _=>rfl;rw[R,Ir,GM] at H;simp only[TA,U1,OY,fO] at H;simp only[Ac,eG,CQ,fO] at H;refine H.walk_to [] [k] p (by simp) (λb o=>?_) ⟨40,?_⟩
 ·simp only[dh,dJ,dO] at o;subst o;exact⟨(H.hold.inv.own h _ j.2.1).2,.inl (H.hold.inv.own h _ j.2.1).1⟩
 rw[z];have d:=j.1.1;walk_nrm;refine jT (n:=6) ?_;u_op qq d;u_c N qq d;u_c D qq d;u_c D qq d;u_reg qq d;u_op qq d;refine I (λ_ g=>?_);replace d:=qq d g;u_in qq d;refine fT rfl rfl (by k_ne) (λK Q0=>?_)
 have hx:=λw=>UY (P:=aC) w 79 _ (U ad) n c 0 0 underlying79;have x:=λw J=>agf (P:=aC) (w:=w) (U ad) n c J underlying79;go_simp;refine Q0 _ _ ⟨?_,?_⟩
 ·refine dh_none ?_;intro e u;have p:=kN u;simp[go_sem,x] at p
 refine jT (n:=5) ?_;u_c N qq d;u_cond ai qq d;u_c kD qq d;u_reg qq d;u_op qq d;refine I (λ_ g=>?_);replace d:=qq d g;u_in qq d;refine fT rfl rfl (by k_ne) (λK Q0=>?_)
 have V:=gp (o:=1) d rfl;go_simp;refine Q0 _ _ ⟨⟨rfl,rfl,rfl,rfl,λ_ _=>rfl,λe x=>?_⟩,?_⟩
 ·have p:=kN x;simp[go_sem, *] at p
  grind
 refine dG ?_;u_op qq d;refine I (λF g=>⟨rfl,λt v1 y Q3 E M c1=>?_⟩);have B:=λb o=>E.rest b (H.hold.inv.own h b o).2 (H.hold.inv.own h b o).1 (by simp)
 rw[<-z] at y;have i:(t.v.heap[k]? =U (.cells #[.chan (x1),.chan (m)] 114)∧t.v.heap[b3]? =U (.cells #[je a] 126))∧k∈(t.D h).own∧b3∈(t.D h).own:=⟨⟨(B _ j.2.1).trans j.1.1,(B _ j.2.2).trans j.1.2⟩,by grind,by grind⟩
 refine Q2 t _ y Q3 E M c1 rfl (λq=>aar rfl rfl (by k_ne) rfl rfl rfl q) ?_
 refine .inl ⟨20,rfl,?_⟩;rw[Js];walk_nrm;refine dG ?_;u_c N iJ i;u_c stepG_inBlock iJ i;u_c stepG_inLoop iJ i;u_c D iJ i;u_reg iJ i;exact I λq h1=>ahO rfl ⟨rfl,rfl,rfl⟩ (iJ i h1)
end
end
section
open Go.Conc
open Go.ConcN (sumTo upd sumTo_upd upd_ne upd_same sumTo_congr le_sumTo WSit WgLive RW PayAt Has DWs EvW ShN AsideCell AtR0 RelBy bk_cell)
open Go.ConcR (KK WgAt stA smA wgBlock rd wr mk Bk)
open Go.Conc.Lib (WgLink)
variable{K:fy}
def tw(n:Nat)(D:Nat->dm):Nat->dm:=λi=>if i<n then D i else⟨1,0,[],0⟩
theorem Ok.trim{s}{a}(H:Ok K 0 s a)(y:K.live=ai)(q:∀i,s.role i=V):Ok K 0 {s with D:=tw s.gs.size s.D} a∧∀n,V2 n (tw s.gs.size s.D)=0:=by
 have I:=H.hold.inv;have d:∀i,i<s.gs.size->tw s.gs.size s.D i=s.D i:=λi k=>dn k;have m:=d 0 I.zero;have w:∀n,V2 n (tw s.gs.size s.D)=0:=λn=>by
  unfold V2;rw[yH (g:=λ_=>0) λi k=>?_]
  ·exact Dy _
  ·unfold fW;by_cases e:0<i
   ·rw[if_neg];rintro⟨_,p⟩;by_cases E:i<s.gs.size
    ·rw[d i E] at p;have l:=I.gJ i _ (by omega) (iq E)
     rw[q i] at l;have:=l.2.1;omega
    ·unfold tw at p
     grind
   grind
 refine⟨⟨⟨⟨λi g v o=>?_,λi k=>?_,I.above,I.tr,λi b x=>?_,I.chan,λi r h=>?_,λi r h=>?_,λi j r t h=>?_,λh=>?_,I.jR,λi r h=>?_,I.norel,I.qf,I.zero,I.idle⟩,⟨λi r h=>?_,λi r u h=>?_,λi j r t h=>?_,λi r h=>?_,λn=>?_⟩,λj r u h=>?_,H.hold.bound⟩,H.lN,λj r h=>?_,?_,?_,H.opn,H.ro⟩,w⟩
 ·show nK _ _ _ _ _ (tw s.gs.size s.D i) _ _;rw[d i ((oZ.1 o).1)];exact I.gJ i g v o
 ·show Deaf s.T i=(tw s.gs.size s.D i).deaf;rw[d i k];exact I.deaf i k
 ·have f:b∈(tw s.gs.size s.D i).own:=x;by_cases k:i<s.gs.size
  ·rw[d i k] at f;exact I.own i b f
  ·unfold tw at f;grind
 ·grind
 ·grind
 ·grind
 ·grind
 ·grind
 ·grind
 ·grind
 ·grind
 ·grind
 ·grind
 ·grind
 ·grind
 ·show(tw _ _ 0).stage=9;rw[m];exact H.nine
 ·show(tw _ _ 0).deaf=0;rw[m];exact H.deaf
end
section
open Go.Proofs Go.Conc Go.RowKit Go.Conc.Lib Go.ConcR.Gen
open Go.ConcN (upd upd_ne upd_same WgLive)
open Go.ConcR (KK WgAt stA smA wgBlock rd wr mk Bk)
noncomputable def wk(bw b2 b3 x y:Nat)(a:eK):fo:=NI (tj bw b2 b3 x y a) a b3 x y
def aib(T:Array ay)(a b:eK)(m:ay)(e8 e9 bw:Nat):Prop:=
 T[0]? =U (aE (U a))∧T[1]? =U (aE (U b))∧T[2]? =U m∧T[6]? =U (Y aH 0)∧T[7]? =U (Y aH 0)∧T[8]? =U (aE (U ⟨e8,0,V⟩))∧T[9]? =U (aE (U ⟨e9,0,V⟩))∧T[10]? =U (aE (U ⟨bw,0,V⟩))
def Rb(v:av)(own:List Nat)(e8 e9 x1 y1 x2 y2:Nat):Prop:=
 (v.heap[e8]? =U (aF #[cY (U x1),cY (U y1)] 114)∧v.heap[e9]? =U (aF #[cY (U x2),cY (U y2)] 114))∧e8∈own∧e9∈own∧e9≠e8
section
variable {K:fy} {C:List aX}
theorem Zp(m:K.P=aC)(i:K.L=dK)(S:K.live=Z){s}{l E}{b b3 x y e8 e9 p k}{a}(H:Ok K 0 s l)(g:l.status=dM)(q:∀o,bZ aC Z l o=.spawn E (born aC (call56 K.Wg b b3)) o #[])(h:s.md=.opn (p+1))
  (F:s.v.heap[b]? =U (aF #[cY (U x),cY (U y)] 114)∧s.v.heap[b3]? =U (aF #[je a] 126)) (A:b∈(s.D 0).own∧b3∈(s.D 0).own) (he:e8∈(s.D 0).own∧e9∈(s.D 0).own) (Q:e8≠b∧e8≠b3∧e9≠b∧e9≠b3) (d:s.role s.gs.size=V) (J:s.ch x=U ⟨V,ai,k⟩)
  (I:∀j f,s.role j=U f->f.aM.c≠x∧f.out≠y) (M:∀n,V2 n s.D<=1):
  ∃t,s.runs K.P t∧Ok K 0 t E∧t.role=bz s.role s.gs.size ((wk K.Wg b b3 x y a))∧t.md=.opn p∧t.ch=s.ch∧t.gs.size=s.gs.size+1∧(t.D 0).own=[e8,e9]∧Left s.cl (λ_=>False) s.v t.v∧(∀z,z<s.v.heap.size->z∉ [b,b3]->t.cl z=s.cl z)∧L (s.D 0).own s.v t.v∧∀B,V2 B t.D<=V2 B s.D+1:=by
 obtain⟨t,r,h1,h2,h3,c,Y,W,_,X,P,D,R⟩:=H.spawn (child:=born aC (call56 K.Wg b b3)) (n:=73) (O:=[b,b3]) (kx:=[e8,e9]) S g h (by rw[m];exact q) (wk K.Wg b b3 x y a) (λo u=>by
   rw[m];exact am4 ⟨(u.1 b A.1).trans F.1,(u.1 b3 A.2).trans F.2⟩) (by omega) (λz N=>by
    grind) (λz N=>by
    grind) d J (λj f e=>(I j f e).1) (λj f e=>(I j f e).2) (λO g2 w T=>by
    rw[m,i];exact ave T) M
 grind
theorem amf(hP:K.P=aC)(F:K.L=dK)(hl:K.live=ai)(hA:∀Wg,Dj Wg){Q:Prop}{s}{a b}{m}{P}{ops}(PK:P.size=87)(O6:P[0]? =U (.pointer (a))∧P[1]? =U (.pointer (b))∧P[2]? =U m∧P[6]? =U (.int .i64 0)∧P[7]? =U (.int .i64 0)∧P[22]? =U (.bool ai))
  (H:Ok K 0 s (G ((aY 41).at ⟨P,[]⟩ (.inRegion ops []::B9)) C)) (mC:s.md=.opn 0) (hr:∀i,s.role i=V) (hV:∀n,V2 n s.D<=0)
  (hQ:∀t q e8 e9 k o y x b2 D c2 c3 T,s.runs K.P t->Ok {K with Wg:=q,live:=Z} 0 t (G ((aY 41).at ⟨T,[]⟩ [.code (cP 7)]) C)->T.size=87->aib T a b m e8 e9 q->Rb t.v (t.D 0).own e8 e9 k o y x->(k≠o∧y≠x∧k<y∧k<x∧o<y∧o<x)->
   j4 t.role s.gs.size (s.gs.size+1) (wk q b2 D k o a) (wk q c2 c3 y x b)->t.role 0=V->t.gs.size=s.gs.size+2->t.md=.opn 0->(t.ch k=U ⟨V,ai,0⟩∧t.ch o=U ⟨V,ai,0⟩∧t.ch y=U ⟨V,ai,0⟩∧t.ch x=U ⟨V,ai,0⟩)->Left s.cl (λ_=>False) s.v t.v->(∀z,z<s.v.heap.size->t.cl z=s.cl z)->Q):Q:=by
 refine amg hP F hl PK O6 H mC λt1 q e8 e9 k o y x T1 r1 H1 ER Cg u sx f W hd=>?_;have J:∀i,t1.role i=V:=λi=>by rw[u.role];exact hr i
 have Hp:=λn=>bq (u.v2 n) (hV n);have jK:=u.size;refine ami (K:={K with Wg:=q,live:=Z}) hP F ER Cg sx f H1 rfl rfl (u.md.trans mC) (by omega) (λn=>by have:=Hp n;omega) (hA _) λt2 b2 D gG gA r2 H2 auW avS avD ⟨BE,pC,z2,L2,kT,v2⟩ ⟨Ty,st2⟩ AG PR ⟨n2,T2,hG2,EP,Ar⟩ _=>?_
 have PG:∀n,V2 n t2.D<=0:=by grind
 have aF8:=(H1.hold.inv.own 0 _ f.1).2;have aF6:=(H1.hold.inv.own 0 _ f.2.1).2;obtain⟨t3,r3,H3,ro3,JJ,zh,z3,ow3,L3,yb,R3,v3⟩:=Zp (K:={K with Wg:=q,live:=Z}) (e8:=e8) (e9:=e9) (k:=0) hP F rfl H2 auW avS avD PR ⟨AG.1,AG.2.1⟩ ⟨Ty _ f.1,Ty _ f.2.1⟩ ⟨by omega,by omega,by omega,by omega⟩ (by rw[BE];exact J _) (by rw[pC];exact W.1) (λj r' N=>by rw[BE,J j] at N;cases N) (λn=>by have:=PG n;omega)
 obtain⟨t4,a4,r4,H4,O5,S,d4,c4⟩:=H3.walk (O:=[]) (Rd:=[]) (Stop:=λg w=>g=G ((aY 41).at ⟨T2,[]⟩ [.code (cP 6)]) C) (λg w h=>by rw[h];rfl) (by rw[hP];exact hG2 _) (by simp) (by simp)
 subst O5;have Wo:∀n,V2 n t3.D<=1:=λn=>by have:=v3 n;have:=PG n;omega
 have ne8:e8∉ [b2,D]:=λh=>by simp only[dh,dJ,dO] at h;omega
 have ne9:e9∉ [b2,D]:=λh=>by simp only[dh,dJ,dO] at h;omega
 have keep:=λz d OZ=>by have p:=Ty z d;have E:=(H2.hold.inv.own 0 z p).2;exact((S.rest z (cF E L3.size) ((yb z E OZ).trans (H2.hold.inv.own 0 z p).1) (by simp)).trans (R3.1 z p)).trans (st2 z d)
 have l:(t4.D 0).own=[e8,e9]:=by rw[d4,ow3]
 have Wc:t4.v.heap[e8]? =U (.cells #[.chan (k),.chan (o)] 114)∧t4.v.heap[e9]? =U (.cells #[.chan (y),.chan (x)] 114):=by grind
 have EO:=λn=>bq (S.v2 n) (Wo n);refine amh (K:={K with Wg:=q,live:=Z}) hP F EP Ar Wc ⟨by rw[l];simp,by rw[l];simp,f.2.2⟩ H4 rfl rfl (S.md.trans JJ) (by omega) (λn=>EO n) (hA _) λt5 c2 c3 gG5 gA5 r5 H5 auU avR avB ⟨wW,A2,z5,L5,A1,v5⟩ ⟨Tx,Sm⟩ hb5 hF5 ⟨n5,T5,hG5,hT5,hs5⟩ _=>?_
 have M:t4.role=bz t2.role t2.gs.size ((wk q b2 D k o a)):=S.role.trans ro3;have uN:t4.gs.size=s.gs.size+1:=by rw[S.size,z3,z2,jK]
 have X:t2.gs.size=s.gs.size:=by rw[z2,jK]
 have I:∀j r',t5.role j=U r'->j=s.gs.size∧r'=wk q b2 D k o a:=λj r' N=>by
  rw[wW,M] at N;by_cases e:j=t2.gs.size
  ·rw[e,cX] at N;cases N;exact⟨e.trans X,rfl⟩
  ·rw[cQ t2.role _ e,BE,J j] at N;cases N
 have aF7:=(H4.hold.inv.own 0 e8 (by rw[l];simp)).2
 have aF5:=(H4.hold.inv.own 0 e9 (by rw[l];simp)).2
 have yc:t4.ch=t1.ch:=by grind
 obtain⟨t6,r6,H6,BD,Oj,Mh,z6,ow6,L6,QB,R6,v6⟩:=Zp (K:={K with Wg:=q,live:=Z}) (e8:=e8) (e9:=e9) (k:=0) hP F rfl H5 auU avR avB hF5 ⟨hb5.1,hb5.2.1⟩ ⟨Tx _ (by rw[l];simp),Tx _ (by rw[l];simp)⟩ ⟨by omega,by omega,by omega,by omega⟩
  (by
   cases e:t5.role t5.gs.size with
   |none=>rfl
   |some r'=>have:=(I _ _ e).1;rw[z5,uN] at this;omega)
  (by rw[A2,yc];exact W.2.2.1) (λj r' N=>by obtain⟨_,rfl⟩:=I j r' N;exact⟨λe=>by have e':k=y:=e;omega,λe=>by have e':o=x:=e;omega⟩) (λn=>bq (v5 n) (EO n))
 obtain⟨t7,a7,r7,H7,hs7,k7,d7,c7⟩:=H6.walk (O:=[]) (Rd:=[]) (Stop:=λg w=>g=G ((aY 41).at ⟨T5,[]⟩ [.code (cP 7)]) C) (λg w h=>by rw[h];rfl) (by rw[hP];exact hG5 _) (by simp) (by simp)
 subst hs7;have mb8:e8∉ [c2,c3]:=λh=>by simp only[dh,dJ,dO] at h;omega
 have mb9:e9∉ [c2,c3]:=λh=>by simp only[dh,dJ,dO] at h;omega
 have B:=λz d OZ=>by have p:=Tx z d;have E:=(H5.hold.inv.own 0 z p).2;exact((k7.rest z (cF E L6.size) ((QB z E OZ).trans (H5.hold.inv.own 0 z p).1) (by simp)).trans (R6.1 z p)).trans (Sm z d)
 have nY:t5.gs.size=s.gs.size+1:=by rw[z5,uN]
 have A:t7.role=bz t5.role (s.gs.size+1) ((wk q c2 c3 y x b)):=by rw[k7.role,BD,nY]
 have L:s.gs.size≠s.gs.size+1:=by omega
 have h0s:=H.hold.inv.zero;have Pd:t7.role s.gs.size=(wk q b2 D k o a):=by rw[A,cQ _ _ L,wW,M,<-X,cX]
 have PE:∀i r,t7.role i=U r->i=s.gs.size∨i=s.gs.size+1:=λi r hi=>by
  by_cases e:i=s.gs.size+1
  ·exact .inr e
  ·rw[A,cQ _ _ e] at hi;exact .inl (I i r hi).1
 have ow7:(t7.D 0).own=[e8,e9]:=by rw[d7,ow6]
 refine hQ t7 q e8 e9 k o y x b2 D c2 c3 T5 (((((r1.trans r2).trans r3).trans r4).trans (r5.trans r6)).trans r7) H7 hT5 ?_ ?_ hd ?_ ?_ (by rw[k7.size,z6,z5,uN]) (k7.md.trans Oj) ?_ ?_ ?_
 ·obtain⟨q0,q1,q2,q6,q7,q8,q9,q10,_⟩:=hs5;exact⟨q0,q1,q2,q6,q7,q8,q9,q10⟩
 ·exact⟨⟨(B _ (by rw[l];simp) mb8).trans Wc.1,(B _ (by grind) mb9).trans Wc.2⟩,by grind,by grind,f.2.2⟩
 ·refine⟨Pd,(by rw[A,cX]),λi r hi=>.inr (PE i r hi),L,by omega,by omega,?_,hd.1,?_,?_,hd.2.1,?_⟩
  ·intro e;have e':k=y:=e;omega
  ·intro e;have e':k=x:=e;omega
  ·intro e;have e':y=o:=e;omega
  ·intro e;have e':o=x:=e;omega
 ·cases e:t7.role 0 with
  |none=>rfl
  |some r=>grind
 ·grind
 ·have l1:=u.left.trans u.cls L2;have QG:=λz d=>(kT z (cF d u.left.size)).trans (u.cls z d);have l3:=l1.trans QG L3;have R:=λz d=>(yb z (cF d l1.size) (λh=>by simp only[dh,dJ,dO] at h;have:=u.left.size;omega)).trans (QG z d)
  have l4:=l3.trans R S.left;have pE:=λz d=>(S.cls z (cF d l3.size)).trans (R z d);have l5:=l4.trans pE L5;have pD:=λz d=>(A1 z (cF d l4.size)).trans (pE z d);have Mk:=λz d=>(QB z (cF d l5.size) (λh=>by simp only[dh,dJ,dO] at h;have:=l4.size;omega)).trans (pD z d)
  exact(l5.trans pD L6).trans Mk k7.left
 ·intro z d;have g3:=cF d (u.left.trans u.cls L2).size;have R:=(yb z g3 (λh=>by simp only[dh,dJ,dO] at h;have:=u.left.size;omega)).trans ((kT z (cF d u.left.size)).trans (u.cls z d))
  have g4:=cF g3 L3.size;have g5:=cF g4 S.left.size;have g6:=cF g5 L5.size;have Mk:=(QB z g6 (λh=>by simp only[dh,dJ,dO] at h;omega)).trans ((A1 z g5).trans ((S.cls z g4).trans R))
  exact(k7.cls z (cF g6 L6.size)).trans Mk
end
end
section
open Go.Conc
open Go.ConcN (upd upd_ne upd_same WgLive)
open Go.ConcR (KK WgAt)
def Mq(ρ:Nat->Nat)(I:H)(N:Nat)(n n':Next):Prop:=∃x x',n=fV x∧n'=fV x'∧RV ρ I N x x'
section
variable {ρ:Nat->Nat} {I:H} {q:bU} {fs:Array dV} {w v w1:av} {main':Bool}
 {bL bR:aX} {aL aR:Act} {kL kR:List eS} {B cU:List aX} {ops yE:Array dD} {i i':Nat} {rest Gb:List Nat} {o o':dD}
theorem aqU(T:ops[i]? =o)(H:eP o (dY ops aL.tmps)=Z)(y:yE[i']? =o')(m:eP o' (dY yE aR.tmps)=Z)
  (hs:W ρ I (J q fs) q (Mq ρ I) w (cT aL.eval o) (cT aR.eval o')) (O:dN ρ I V w v) (s:∀j,ρ (w+j)=v+j) {t} {es}
  (c:bZ (J q fs) Z (G (bL.at aL (aP ops (i::rest)::kL)) B) w=bS t w1 es) (f:¬ur t):
  ∃x l k g,t=G (bL.at (aL.put o.dst x) (aP ops rest::kL)) B∧bZ q main' (G (bR.at aR (aP yE (i'::Gb)::kR)) cU) v=bS (G (bR.at (aR.put o'.dst l) (aP yE Gb::kR)) cU) k g∧
   RV ρ I w1 x l∧dN ρ I V w1 k∧fg ρ I w v w1 k∧∀e∈g,wP ρ I w1 e:=by
 rw[OS T H] at c;rw[OS y m];have d:=W.alike hs w v #[] #[] rfl O s;have Q2:∀x,sJ (bL.at aL (aP ops (i::rest)::kL)) x=bL.at (aL.put o.dst x) (aP ops rest::kL):=λx=>by grind[Frame.finish_at]
 have S:∀x,sJ (bR.at aR (aP yE (i'::Gb)::kR)) x=bR.at (aR.put o'.dst x) (aP yE Gb::kR):=λx=>by grind[Frame.finish_at]
 unfold vb at c⊢;simp only[iM] at c⊢;generalize(cT aL.eval o).runT (J q fs) w #[]=R at d c;generalize(cT aR.eval o').runT q v #[]=K at d⊢;obtain⟨r,N⟩:=R;obtain⟨X,E⟩:=K;cases r with
 |halt x F=>
  exfalso;obtain⟨C,_⟩:=d;cases x<;>first|exact absurd C o8|(dsimp only[ud] at c;cases c;done)|skip
  case panic p=>
   dsimp only[ud] at c;injection c with z Q3 M;subst z;exact f (raise_mode _ _)
  case unsupported u=>cases u<;>first|(dsimp only[ud] at c;cases c;done)|(cases C;done)
 |ok a F=>
  obtain⟨Q0,d⟩:=d;obtain⟨b,k,P,e,⟨x,l,rfl,rfl,Q⟩,A,L,Q1⟩:=d (λ_ h=>by cases h)
  obtain⟨rfl,rfl⟩:=Prod.mk.inj e;have n:∀e∈(#[]++P:Array iW),wP ρ I F e:=by grind
  simp only[ud] at c⊢;injection c with z Q3 M;subst Q3;refine⟨x,l,k,_,by rw[<-z,Q2];rfl,by rw[S];rfl,Q,A,L,λe D=>?_⟩
  rw[Ov] at D;exact kept n e D
theorem Ok.atF{K}{h}{s}{Done}(hE:mm (J K.P fs) Done)(H:Ok K h s (G (bR.at aR (aP yE (i'::Gb)::kR)) cU))(tr:Term (J K.P fs) Done (G (bL.at aL (aP ops (i::rest)::kL)) B) w)
  (M:fF ρ I K.P s.cl w s.v) (ho:ops[i]? =o) (hw:eP o (dY ops aL.tmps)=Z) (Pf:yE[i']? =o') (hw':eP o' (dY yE aR.tmps)=Z) (jX:¬Done (G (bL.at aL (aP ops (i::rest)::kL)) B) w)
  (hs:∀b,(∀x,x<w.heap.size->ρ x=b x)->Fair b K.P->W b I (J K.P fs) K.P (Mq b I) w (cT aL.eval o) (cT aR.eval o')):
  ∃t b w' x x',(∀z,z<w.heap.size->ρ z=b z)∧w.heap.size<=w'.heap.size∧(∀z,z<w.heap.size->I.F z=ai->w'.heap[z]? =w.heap[z]?)∧RV b I w'.heap.size x x'∧Term (J K.P fs) Done (G (bL.at (aL.put o.dst x) (aP ops rest::kL)) B) w'∧
   sI (pK (J K.P fs) Done) (G (bL.at (aL.put o.dst x) (aP ops rest::kL)) B,w') (G (bL.at aL (aP ops (i::rest)::kL)) B,w)∧s.runs K.P t∧sW h s t∧Ok K h t (G (bR.at (aR.put o'.dst x') (aP yE Gb::kR)) cU)∧fF b I K.P t.cl w' t.v:=by
 cases tr with
 |done hd=>grind
 |step f hf ht=>
 obtain⟨N,gS,ou,E,D1,T1,F,j,d,oS,gx,r1,KC,pX,P,G1,S,L1⟩:=H.hold.picked H.lN rfl s.sl;have D:=(M.left L1 G1.cls).left (Left.at E (λ_=>False) j d) (λ_ _=>rfl)
 let b:=qb ρ w j
 let R:pJ:=λi=>j.tape (d+i)
 have n:∀x,x<w.heap.size->ρ x=b x:=by grind[LA]
 have c:∀i,b (w+i)=j+i:=λi=>ags _ _ _ i;have p:Fair b K.P:=Fair.qb M.fair D.low M.AL;obtain⟨⟨es0,e0⟩,avi⟩:=hf R;obtain⟨x,x',v2,es,e1,e2,hv,Q,a,tW⟩:=aqU (w:=World.re w R 0) (main':=h==0) ho hw Pf hw' (hs b n p) (dN.qb (v':=j.at d) D.aaZ D.low rfl (λ_ _ _=>rfl) λ_ _=>rfl) c e0 avi;have fP:v2.heap.size=j+((f R).2-w):=a.size;have T:w.heap.size<=(f R).2:=a.nM;have g:∀x,x<(f R).2.heap.size->b x<v2:=λx m=>by
  rcases Ad x w with l|Az
  ·rw[<-n x l];have:=D.low x l;have e:(j.at d).heap.size=j:=rfl;omega
  ·have:=c (x-w)
   grind
 let cl':Nat->eU:=λx=>if x<j then E x else .eN
 have C:∀x,x<j.heap.size->cl' x=E x:=by grind
 have r:∀x,x<(f R).2.heap.size->I.F x=Z->cl' (b x)=.eN:=λx m hF=>by
  rcases Ad x w with l|Az
  ·rw[<-n x l,C _ (D.low x l)];exact D.cls x l hF
  ·have:=c (x-w)
   grind
 have k:∀x,x<j.heap.size->E x≠ .eN->v2.heap[x]? =j.heap[x]? :=λx m hn=>a.qX x m λy hy hF e=>hn (by rw[<-e,<-n y hy];exact D.cls y hy hF)
 have L:∀A,I.arg=U A->cl' A.g=.eN∧A.g<v2:=λA hA=>by
  obtain⟨⟨a1,a2,a3,a4⟩,a5⟩:=D.arg A hA
  grind
 have Q0:=λe he=>agh (h:=h) (q:=K.P) (tW e he) r g L;have hWg:K.live=Z->v2.heap[K.Wg]? =j.heap[K.Wg]? :=λhl=>by obtain⟨st,sm,hw,mB⟩:=P.inv.wg hl;exact k _ (ot hw) (by rw[P.inv.jR hl];simp)
 have h0:(D1 h).deaf=0:=by rw[S];exact H.deaf
 obtain⟨q1,q2,q3⟩:=(P.at d).step (sl:=gx) (x':=D1 h) (md':=gS) (cl':=cl') (v':=v2) pX e2 (by show j.heap.size<=_;omega) (λx m hn=>k x m λhi=>hn (aA (aA ⟨hi,rfl⟩))) C
  (λx m=>by obtain⟨y,z⟩:=P.inv.own h x m;grind) (λe he=>⟨(Q0 e he).1,(Q0 e he).2.1⟩) (λe he=>(Q0 e he).2.2.1 _) (by grind[deafBehind_still])
  (λhr hn=>absurd (H.ro hr) hn) rfl (λhl=>let⟨st,sm,hw,mB⟩:=P.inv.wg hl;⟨st,sm,by unfold WgAt at hw⊢;grind,by grind[uv]⟩) (λ_=>by rw[S,H.nine];omega) P.bound
 rw[uv] at q2;have G2:∀(T2:eo) (X:Array aU),X.size=F.size->(∃u,T2=T1++u)->Bb s.role h gS ou E D1 T1 F j gS ou cl' D1 T2 X v2:=λT2 X k1 k2=>⟨k1,by omega,λx m hc=>k x m (by grind),a.os,a.tape,a.out,C,λ_ _ _ _=>rfl,λ_=>rfl,λ_ _ x=>x,λ_ _=>aW _,k2,λq=>⟨rfl,q⟩,λx m hc=>k x m (by grind)⟩
 have O:=(G1.Yq (λx m hc=>L1.block x m (aA (aA ⟨h,rfl,hc⟩)))).trans (G2 T1 F rfl ⟨#[],by simp⟩)
 obtain⟨rfl,q⟩:=O.calm H.uD;have mC:=O.md H.opn;have ht1:=ht R;rw[e1] at ht1;exact⟨⟨s.role,gS,s.ch,cl',D1,_,_,v2,gx⟩,b,(f R).2,x,x',n,T,λz hz hF=>a.Lr z hz hF,hv,ht1,.single (⟨jX,R,es0,by grind⟩),⟨_,runNT_then r1 (pO (KC.trans q1))⟩,
  ⟨(by show(Array.setIfInBounds _ _ _).size=_;rw[tJ,B2];exact O.size),rfl,mC,rfl,S,O.tR,O.own,O.cls,O.os,O.tape,O.out,O.old⟩,⟨q2,q3,q,(congrArg dm.stage S).trans H.nine,h0,⟨_,mC.trans H.opn.choose_spec⟩,H.ro⟩,⟨Q.os,p,g,Q.blk,Q.jM,cF M.AL T,r,λA hA=>⟨Q.arg A hA,(L A hA).1⟩⟩⟩
end
def MS:Op->Option (List iI)
 |.move x|oh x=>U [x]
 |.pick c a b=>U [c,a,b]
 |.load _ a=>U [a]
 |.nilCheck x=>U [x]
 |.binOp _ _ x y _=>U [x,y]
 |.fieldAddr _ x _=>U [x]
 |.indexAddr _ x i=>U [x,i]
 |.extract x _=>U [x]
 |.call {callee:=.builtin .len,args,.. }=>U args.toList
 |_=>V
section
variable {ρ:Nat->Nat} {I:H} {q:bU} {fs:Array dV} {N M:Nat}
theorem FW{s b}(h:W ρ I (J q fs) q (RV ρ I) N s b):W ρ I (J q fs) q (Mq ρ I) N (do bH (fV (<-s))) (do bH (fV (<-b))):=
 W.bind' h λ_ _ _ _ c=>.pure' ⟨_,_,rfl,rfl,c⟩
theorem anO(P:∀b,N<=b->I.F b=Z)(A:Fair ρ q){e B:iI->ay}{o:dD}{l:List iI}(g:MS o.op=U l)(h:∀x∈l,RV ρ I N (e x) (B x)):
  W ρ I (J q fs) q (Mq ρ I) N (cT e o) (cT B o):=by
 obtain⟨O,op,s,Q0,w⟩:=o;cases op<;>simp only[MS,ec,reduceCtorEq] at g
 case move x=>subst g;exact .pure' ⟨_,_,rfl,rfl,h x (by simp)⟩
 case assign x=>subst g;exact .pure' ⟨_,_,rfl,rfl,h x (by simp)⟩
 case pick c a b=>
  subst g;refine W.bind' (aak (h c (by simp))) ?_
  rintro M d _ u rfl;refine .pure' ⟨_,_,rfl,rfl,?_⟩;split
  ·exact(h a (by simp)).mono u
  ·exact(h b (by simp)).mono u
 case load t a=>subst g;exact FW (ZP t (h a (by simp)))
 case nilCheck x=>
  subst g;have m:=h x (by simp)
  obtain⟨D,E⟩:=m;have m:=h x (by simp)
  unfold cT;dsimp only;rw[E];rw[E] at m;generalize e x=v at D m⊢;rcases v with X|⟨F,Q1⟩|⟨_,_⟩|⟨_,_,_⟩|R|(_|p)|⟨_,_,_⟩|_|_|⟨L,_,_⟩|_|⟨_,_⟩|_|_|_<;>first
   |exact .pure ⟨_,_,rfl,rfl,m⟩
   |exact .dead (kQ _ .nilDeref)
   |(cases L<;>first
     |exact .pure ⟨_,_,rfl,rfl,m⟩
     |(simp[S,tG] at D;done))
 case binOp op t x y yt=>
  subst g;refine FW (W.bind' (aac op t x y (h x (by simp)) (h y (by simp))) ?_)
  rintro M _ _ u _;exact aah (λb T=>P b (by omega)) A op t ((h x (by simp)).mono u) ((h y (by simp)).mono u)
 case fieldAddr t x i=>subst g;exact FW (Z6 t i (h x (by simp)))
 case indexAddr t x i=>subst g;exact FW (ZS t (h x (by simp)) (h i (by simp)))
 case extract x i=>subst g;exact FW (Z7 i (h x (by simp)))
 case call c=>
  obtain⟨j,k,z⟩:=c;cases j with
  |value f=>grind
  |invoke r n=>grind
  |builtin K=>
  cases K<;>first|grind|skip
  simp only[ec] at g;subst g;have Q:bu ρ I N (k.map e) (k.map B):=by
   refine⟨λv H=>?_,?_⟩
   ·obtain⟨x,C,rfl⟩:=JY.1 H;exact(h x (by grind)).1
   ·rw[Array.map_map];exact JW λx C=>(h x (by simpa using C)).2
  exact FW (ZR z s Q)
end
def kJ(ρ:Nat->Nat)(I:H)(N:Nat)(S:List Nat)(TL TR:Array ay):Prop:=∀t,t∈S->RV ρ I N (TL.getD t ak) (TR.getD t ak)
def Un(ops:Array dD)(S:List Nat)(i:Nat):Bool:=
 match ops[i]? with
 |some o=>(match MS o.op with|some l=>l.all (λ |cu t=>S.contains t|gB v=>n v|_=>ai)|none=>ai)&&
   (match o.guard with|some (j,_)=>(match(ops[j]?).bind (·.dst) with|some t=>S.contains t|none=>Z)|none=>Z)
 |none=>ai
def Ll(ops:Array dD)(S:List Nat)(i:Nat):List Nat:=match(ops[i]?).bind (·.dst) with|some t=>t::S|none=>S
def grow(ops:Array dD):List Nat->List Nat->List Nat
 |S,[]=>S
 |S,i::is=>grow ops (Ll ops S i) is
def yG(ops:Array dD):List Nat->List Nat->Bool
 |_,[]=>Z
 |S,i::is=>Un ops S i&&yG ops (Ll ops S i) is
theorem afH(ops):∀(c) {S} {t},t∈S->t∈grow ops S c
 | [],S,t,h=>h
 |i::c,S,t,h=>afH ops c (by unfold Ll;grind)
section
variable {ρ:Nat->Nat} {I:H} {N:Nat} {S:List Nat} {TL TR:Array ay}
theorem kJ.mono{M}(h:kJ ρ I N S TL TR){b}(c:∀x,x<N->ρ x=b x)(e:N<=M):kJ b I M S TL TR:=λt d=>((h t d).re c).mono e
theorem kJ.sub{S'}(h:kJ ρ I N S TL TR)(c:∀t∈S',t∈S):kJ ρ I N S' TL TR:=λt b=>h t (c t b)
theorem kJ.put(h:kJ ρ I N S TL TR)(g:TL.size=TR.size){x x'}(j:RV ρ I N x x')(d)(c b):kJ ρ I N (match d with|some t=>t::S|none=>S) (dj ⟨TL,c⟩ d x).tmps (dj ⟨TR,b⟩ d x').tmps:=by
 intro t f;cases d with
 |none=>exact h t f
 |some d=>
  show RV ρ I N ((TL.setIfInBounds d x).getD t ak) ((TR.setIfInBounds d x').getD t ak);rw[iz,iz];by_cases e:d=t
  ·grind[Array.getElem?_setIfInBounds_self_of_lt,Array.getElem?_eq_none,RV.plain,tu]
  ·rw[mz e,mz e,<-iz,<-iz];exact h t ((dh.1 f).resolve_left λi=>e i.symm)
theorem RV.bool{x x'}(h:RV ρ I N x x')(b):x=cz b↔x'=cz b:=by obtain⟨_,rfl⟩:=h;cases x<;>simp[F]
theorem kJ.yielded(h:kJ ρ I N S TL TR){ops:Array dD}{j:Nat}(d:match(ops[j]?).bind (·.dst) with|some t=>t∈S|none=>True):dY ops TL j=dY ops TR j:=by
 unfold dY;cases e:(ops[j]?).bind (·.dst) with
 |none=>rfl
 |some t=>
  rw[e] at d;have b:=h t d;rw[iz,iz] at b;simp only[xC];obtain⟨_,b⟩:=b;cases f:TL[t]? with
  |none=>
   rw[f] at b;cases c:TR[t]? with
   |none=>rfl
   |some y=>
    simp only[Option.getD_none,ak,F] at b
    grind
  |some x=>
   rw[f] at b;cases c:TR[t]? with
   |none=>
    rw[c] at b;cases x<;>simp[ak,F] at b⊢
   |some y=>
    rw[c] at b;subst b;cases x<;>simp[F]
theorem Term.one{P}{Done}(k:mm P Done){g g'}{w}(u:g.status=dM)(d:∀b,bZ P Z g b=bS g' b #[])(t:Term P Done g w):∃b,i w b∧Term P Done g' b∧sI (pK P Done) (g',b) (g,w):=by
 cases t with
 |done c=>
  obtain⟨o,b,j,e⟩:=k g w w.tape 0 c
  grind
 |step f p l=>
  obtain⟨⟨j,e⟩,_⟩:=p w.tape;have a:=e;rw[d] at a;injection a with n q s;have h:=l w.tape;rw[<-n,<-q] at h;refine⟨_,⟨w.tape,0,rfl⟩,h,.single ⟨λc=>?_,w.tape,j,?_⟩⟩
  ·obtain⟨o,b,m,r⟩:=k g w w.tape 0 c
   grind
  grind
theorem sW.refl(h)(s):sW h s s:=⟨rfl,rfl,rfl,rfl,rfl,aW _,λ_ _ _=>rfl,λ_ _=>rfl,rfl,rfl,rfl,λ_ _ _=>rfl⟩
theorem sW.trans{h}{s t u}(a:sW h s t)(b:sW h t u):sW h s u:=
 ⟨b.size.trans a.size,b.role.trans a.role,b.md.trans a.md,b.ch.trans a.ch,b.D.trans a.D,bq a.tR b.tR,λx d e=>(b.own x (cF d a.tR) ((a.cls x d).trans e)).trans (a.own x d e),λx d=>(b.cls x (cF d a.tR)).trans (a.cls x d),b.os.trans a.os,b.tape.trans a.tape,b.out.trans a.out,λx d e=>(b.old x (cF d a.tR) ((a.cls x d).trans e)).trans (a.old x d e)⟩
theorem Kept.y9{h}{s t}(k:Kept h [] s t)(f:t.D h=s.D h)(e:t.ch=s.ch):sW h s t:=
 ⟨k.size,k.role,k.md,e,f,k.left.size,λb d c=>k.rest b d c (by simp),k.cls,k.left.os,k.left.tape,k.left.out,λb d e=>k.left.block b d (aA (ax e))⟩
theorem RM{P}{main}{b:aX}{T}{ds}{ops}{i}{rest}{o}{k}{cs}(d:ops[i]? =U o)(c:eP o (dY ops T)=ai)(w):
  bZ P main (G (b.at ⟨T,ds⟩ (aP ops (i::rest)::k)) cs) w=bS (G (b.at (dj ⟨T,ds⟩ o.dst ak) (aP ops rest::k)) cs) w #[]:=by
 grind[stepG_unwanted]
theorem DM(T)(ds)(d)(x):(dj ⟨T,ds⟩ d x).tmps.size=T.size:=by cases d<;>simp[dj]
theorem put_defers(T)(ds)(d)(x):dj ⟨T,ds⟩ d x=⟨(dj ⟨T,ds⟩ d x).tmps,ds⟩:=by cases d<;>rfl
theorem BI{T}{ds}{d:Option Tmp}{x}{t:Nat}(h:d≠U t):(dj ⟨T,ds⟩ d x).tmps[t]? =T[t]? :=by
 cases d with
 |none=>rfl
 |some d=>exact mz λe=>h (by grind)
def sF(ops:Array dD)(is:List Nat):List Nat:=is.filterMap λi=>(ops[i]?).bind (·.dst)
theorem Ok.Gp{K:fy}{h:Nat}{fs:Array dV}{Done:aU->av->Prop}(hE:mm (J K.P fs) Done){bL f:aX}{n q:List Deferred}{kL kR:List eS}{B cU:List aX}{ops:Array dD}{rest:List Nat}(C:∀fr w,¬Done (G fr B) w):
  ∀(r:List Nat) {S:List Nat} {TL TR:Array ay} {w:av} {ρ:Nat->Nat} {s:St},yG ops S r=Z->Ok K h s (G (f.at ⟨TR,q⟩ (aP ops (r++rest)::kR)) cU)->Term (J K.P fs) Done (G (bL.at ⟨TL,n⟩ (aP ops (r++rest)::kL)) B) w->fF ρ I K.P s.cl w s.v->kJ ρ I w.heap.size S TL TR->TL.size=TR.size->
  ∃t c y d k,(∀z,z<w.heap.size->ρ z=c z)∧w.heap.size<=y.heap.size∧(∀z,z<w.heap.size->I.F z=ai->y.heap[z]? =w.heap[z]?)∧kJ c I y.heap.size (grow ops S r) d k∧d.size=TL.size∧k.size=TR.size∧(∀t,t∉sF ops r->d[t]? =TL[t]? ∧k[t]? =TR[t]?)∧
   Term (J K.P fs) Done (G (bL.at ⟨d,n⟩ (aP ops rest::kL)) B) y∧kW (J K.P fs) Done (G (bL.at ⟨d,n⟩ (aP ops rest::kL)) B,y) (G (bL.at ⟨TL,n⟩ (aP ops (r++rest)::kL)) B,w)∧s.runs K.P t∧sW h s t∧Ok K h t (G (f.at ⟨k,q⟩ (aP ops rest::kR)) cU)∧fF c I K.P t.cl y t.v
 | [],S,TL,TR,w,ρ,s,_,H,R,M,O,A=>⟨s,ρ,w,TL,TR,λ_ _=>rfl,aW _,λ_ _ _=>rfl,O,rfl,rfl,λ_ _=>⟨rfl,rfl⟩,R,.refl _,.refl s,.refl h s,H,M⟩
 |i::r,S,TL,TR,w,ρ,s,hl,H,R,M,O,A=>by
  simp only[List.cons_append] at H R⊢;simp only[yG,cS] at hl;obtain⟨h1,h2⟩:=hl;cases Q:ops[i]? with
  |none=>simp[Un,Q] at h1
  |some o=>
  simp only[Un,Q,cS] at h1;obtain⟨hu,hg⟩:=h1;have VT:Ll ops S i=match o.dst with|some t=>t::S|none=>S:=by unfold Ll;grind
  simp only[grow];rw[VT] at h2⊢;cases a:MS o.op with
  |none=>grind
  |some l=>
  rw[a] at hu;simp only[List.all_eq_true] at hu;have m:∀t,t∉sF ops (i::r)->o.dst≠U t∧t∉sF ops r:=λt u=>by
   unfold sF at u⊢
   grind
  have Q1:eP o (dY ops TL)=eP o (dY ops TR):=by
   unfold eP;cases eg:o.guard with
   |none=>rfl
   |some p=>
    obtain⟨j,b⟩:=p;rw[eg] at hg;dsimp only at hg⊢;rw[O.yielded (ops:=ops) (j:=j) (by
     grind)]
  cases P:eP o (dY ops TL) with
  |false=>
   obtain⟨w1,rt,X,b1⟩:=Term.one hE rfl (RM Q P) R;obtain⟨s1,a1,r1,T,e1,k1,d1,c1⟩:=H.walk (n:=1) (O:=[]) (Rd:=[]) (Stop:=λg _=>g=G (f.at (dj ⟨TR,q⟩ o.dst ak) (aP ops (r++rest)::kR)) cU) (λg w e=>by rw[e];rfl) (aA ⟨rfl,λw2 _=>by rw[RM Q (Q1▸P)];exact⟨dh_none (by simp),λ_ _=>rfl⟩⟩) (by simp) (by simp)
   subst e1;rw[put_defers] at T X;have M1:fF ρ I K.P s1.cl w1 s1.v:=(M.left k1.left k1.cls).re rt;have Q3:kJ ρ I w1.heap.size (match o.dst with|some t=>t::S|none=>S) (dj ⟨TL,n⟩ o.dst ak).tmps (dj ⟨TR,q⟩ o.dst ak).tmps:=by rw[rt.heap];exact O.put A (RV.plain tu) _ _ _
   obtain⟨t,c,y,d,k,q1,q2,q3,q4,q5,q6,F,q8,q9,Q2,E,L,D⟩:=Ok.Gp hE C r h2 T X M1 Q3 (by grind[DM])
   rw[rt.heap] at q1 q2 q3;refine⟨t,c,y,d,k,q1,q2,q3,q4,q5.trans (DM _ _ _ _),q6.trans (DM _ _ _ _),λt u=>⟨(F t (m t u).2).1.trans (BI (m t u).1),(F t (m t u).2).2.trans (BI (m t u).1)⟩,q8,q9.trans (aA (by grind[put_defers])),r1.trans Q2,(k1.y9 d1 c1).trans E,L,D⟩
  |true=>
   have hs:∀c:Nat->Nat,(∀x,x<w.heap.size->ρ x=c x)->Fair c K.P->W c I (J K.P fs) K.P (Mq c I) w.heap.size (cT (dW ⟨TL,n⟩) o) (cT (dW ⟨TR,q⟩) o):=λc qM hf=>anO M.jM hf a λx hx=>by
    have:=hu x hx;cases x with
    |tmp t=>exact((O t (by grind)).re qM)
    |const v=>exact RV.plain this
    |global g=>cases this
    |func f=>cases this
   obtain⟨s1,Mz,w1,x,x',a1,a2,a3,hv,X,b1,r1,d1,T,M1⟩:=H.atF hE R M Q P Q (Q1▸P) (C _ _) hs;rw[put_defers] at T X;have Q3:=(O.mono a1 a2).put A hv o.dst n q;obtain⟨t,c,y,d,k,q1,q2,q3,q4,q5,q6,F,q8,q9,Q2,E,L,D⟩:=Ok.Gp hE C r h2 T X M1 Q3 (by rw[DM,DM];exact A)
   refine⟨t,c,y,d,k,λz Q0=>(a1 z Q0).trans (q1 z (cF Q0 a2)),bq a2 q2,λz Q0 hF=>(q3 z (cF Q0 a2) hF).trans (a3 z Q0 hF),q4,q5.trans (DM _ _ _ _),q6.trans (DM _ _ _ _),λt u=>⟨(F t (m t u).2).1.trans (BI (m t u).1),(F t (m t u).2).2.trans (BI (m t u).1)⟩,q8,q9.trans (aA (by rw[put_defers] at b1;exact b1)),r1.trans Q2,d1.trans E,L,D⟩
end
end
section
open Go.Proofs Go.Conc Go.RowKit Go.Conc.Lib Go.ConcR.Gen
open Go.ConcN (upd upd_ne upd_same WgLive)
open Go.ConcR (KK WgAt stA smA wgBlock rd wr mk Bk)
def qj:List Nat:=[0,1,2,6,7,12,13]
def S8:List Nat:=[0,1,2,6,7]
theorem asy:yG (eM (cP 1)) S8 [0,1,2,3,4,5,6]=Z:=by kernel_rfl
theorem axo:grow (eM (cP 1)) S8 [0,1,2,3,4,5,6]=[22,21,20,19,18,17,16,0,1,2,6,7]:=by kernel_rfl
theorem ast:yG (eM (cP 7)) S8 [0,1,2,3,4]=Z:=by kernel_rfl
theorem axm:grow (eM (cP 7)) S8 [0,1,2,3,4]=[40,39,38,37,36,0,1,2,6,7]:=by kernel_rfl
theorem ass:yG (eM (cP 7)) (41::S8) [6,7]=Z:=by kernel_rfl
theorem axl:grow (eM (cP 7)) (41::S8) [6,7]=[13,12,41,0,1,2,6,7]:=by kernel_rfl
theorem asx:yG (eM kB) qj [0,1,2,3,4,5,6,7,8,9,10,11,12,13,14,15,16,17,18]=Z:=by kernel_rfl
theorem axn:(grow (eM kB) qj [0,1,2,3,4,5,6,7,8,9,10,11,12,13,14,15,16,17,18]).contains 62=Z:=by kernel_rfl
theorem asw:yG (eM jW) qj [0,1,2]=Z:=by kernel_rfl
theorem asu:yG (eM (eG 1 jW)) qj [0,1,2,3,4]=Z:=by kernel_rfl
structure LF(w w':av):Prop where
 os:w'.os=w.os
 size:w'.heap.size=w.heap.size
 blk:∀b,b≠4->w'.heap[b]? =w.heap[b]?
def zB(w w':av)(es:Array iW):Prop:=LF w w'
theorem LF.refl(w):LF w w:=⟨rfl,rfl,λ_ _=>rfl⟩
theorem LF.trans(a b c)(h:LF a b)(k:LF b c):LF a c:=⟨k.os.trans h.os,k.size.trans h.size,λx d=>(k.blk x d).trans (h.blk x d)⟩
theorem LF.zX(a b)(h:i a b):LF a b:=by obtain⟨c,d,rfl⟩:=h;exact⟨rfl,rfl,λ_ _=>rfl⟩
instance:Qt i zB:=⟨LF.refl,i.refl⟩
theorem fF.lf{K:fy}{ρ}{I}{d}{w w1 v}(M:fF ρ I K.P d w v)(j:I.F 4=ai)(c:∀A,I.arg=U A->A.g≠4)(h:LF w w1):fF ρ I K.P d w1 v:=by exact⟨M.os.trans h.os.symm,M.fair,λb a=>M.low b (by rw[<-h.size];exact a),λb o a f=>by rw[h.size];exact M.blk b o (by rw[<-h.blk b ((λb a e=>by grind) b f)];exact a) f,λb a=>M.jM b (by rw[<-h.size];exact a),by rw[h.size];exact M.AL,λb a=>M.cls b (by rw[<-h.size];exact a),λA i=>by rw[h.blk _ (c A i)];exact M.arg A i⟩
theorem m{w w1}{x}(h:w.heap[4]? =U (aF #[x] 3))(r:i w w1):w1.heap[4]? =U (aF #[x] 3):=by rw[r.heap];exact h
theorem I8(q)(fs)(t):(J q fs).underlying t=q.underlying t:=rfl
theorem atW(q)(fs)(t):(J q fs).info? t=q.info? t:=rfl
section
variable {fs:Array dV} {C:List aX}
theorem u3(fs):(J aC fs).underlying 3=U (.int aH):=(I8 _ _ _).trans underlying3
theorem Te(fs)(w):(oq 3).run (J aC fs) w=aV (.int aH) w:=run_underlying (u3 fs) w
theorem ia3(fs)(w):(isAgg 3).run (J aC fs) w=aV ai w:=by unfold isAgg;simp[Te]
theorem Nn(fs)(w):(Go.sizeOf 3).run (J aC fs) w=aV 1 w:=by
 have h:=sizeOf3 w;unfold Go.sizeOf typeInfo at h⊢;simp[go_sem,atW] at h⊢;generalize aC.info? 3=o at h⊢;cases o with
 |none=>simp[go_sem] at h
 |some i=>simp[go_sem] at h⊢;exact h
theorem Ur{w}{x}(y)(h:w.heap[4]? =U (aF #[x] 3)):LF w (w.setCell ⟨4,0,V⟩ y)∧(w.setCell ⟨4,0,V⟩ y).heap[4]? =U (aF #[y] 3):=by
 refine⟨?_,by rw[ow 0 y h];rfl⟩
 rw[Mi 0 y h];exact⟨rfl,by simp,λb a=>mz λe=>a e.symm⟩
def gd(n:Int)(w:av):Prop:=w.heap[4]? =U (aF #[Y aH n] 3)
set_option maxHeartbeats 1000000 in
theorem asM {T} (O:T.size=87) {w} (a:w.heap[4]? =U (aF #[Y aH 0] 3)):
  ∃n,cH (J aC fs) Z i zB (λg w=>gd 1 w∧g=G ((aY 41).at ⟨(T.setIfInBounds 23 (Y aH 0)).setIfInBounds 24 (Z),[]⟩ [aP yC [1,2],bD Dv]) C) n (G ((aY 41).at ⟨T,[]⟩ [bD A8]) C) w:=by
 refine⟨620,?_⟩;obtain⟨v0,v1,v2,v3,v4,v5,v6,v7,v8,v9,v10,QX,v12,lK,oQ,M,oP,oO,X,lJ,v20,Q1,P,oN,q,r,x,QY,v28,QW,B,v31,tn,V,t,oM,p,v37,oL,oK,v40,oJ,oI,oH,R,mQ,Q0,oG,oF,v49,v,v51,Qw,l,vv,oE,mP,A,F,v59,mO,oD,oC,o,mM,y,mL,h,u,z,Q2,QZ,v72,W,s,Q3,v76,vu,S,Q,k,E,L,mK,H,v85,j,rfl⟩:=oy T O;simp only[A8,NV,yC,eH];refine lift ?_;u_c D m a;u_reg m a;refine I (λ_ b=>?_);replace a:=m a b;u_in m a;refine fT rfl rfl (by k_ne) (λK c=>?_)
 have d:=gp (o:=0) a rfl;have f:=ia3 fs;go_simp;refine c _ _ ⟨.refl _,?_⟩;u_in m a;refine fT rfl rfl (by k_ne) (λK c=>?_)
 have f:=Te fs;go_simp;refine c _ _ ⟨.refl _,?_⟩;refine lift ?_;u_c N m a;u_c D m a;u_cond Z m a;u_c kD m a;u_c D m a;u_reg m a;refine I (λ_ b=>?_);replace a:=m a b;u_in m a;refine fT rfl rfl (by k_ne) (λK c=>?_)
 have f:=Nn fs;have d:=gp (o:=0) a rfl;have hz:=ve 0 a;go_simp;have e:=Ur (Y aH 1) a;refine c _ _ ⟨e.1,?_⟩;exact I λw1 h1=>⟨m e.2 h1,rfl⟩
set_option maxHeartbeats 1000000 in
theorem asO {T} (P:T.size=87) {w} (a:gd 1 w):
  ∃n,cH (J aC fs) Z i zB (λg w=>g.callers=C∧∀f h e d,bZ (J aC fs) Z g f≠bS h e d) n (G ((aY 41).at ⟨T,[]⟩ [bD A8]) C) w:=by
 refine⟨620,?_⟩;obtain⟨v0,v1,v2,v3,v4,v5,v6,v7,v8,v9,v10,E,v12,lK,oQ,Q2,oP,oO,Q0,lJ,v20,v21,R,oN,r,s,y,Q1,v28,O,Q3,v31,tn,X,u,oM,q,v37,oL,oK,v40,oJ,oI,oH,U,mQ,W,oG,oF,v49,x,v51,o,QY,vv,oE,mP,B,H,v59,mO,oD,oC,p,mM,z,mL,QX,v,A,v70,j,v72,Y,t,L,v76,vu,V,S,l,F,M,mK,QW,v85,k,rfl⟩:=oy T P;unfold gd at a;simp only[A8,NV,yC,eH];refine lift ?_;u_c D m a;u_reg m a;refine I (λ_ b=>?_);replace a:=m a b;u_in m a;refine fT rfl rfl (by k_ne) (λK c=>?_)
 have qS:=gp (o:=0) a rfl;have Q:=ia3 fs;go_simp;refine c _ _ ⟨.refl _,?_⟩;u_in m a;refine fT rfl rfl (by k_ne) (λK c=>?_)
 have Q:=Te fs;go_simp;refine c _ _ ⟨.refl _,?_⟩;refine dG ?_;u_c N m a;u_c D m a;u_cond ai m a;refine I λf h1=>⟨rfl,λw2 h e d=>?_⟩;simp[G,bZ,va,Frame.at]
end
theorem Zj{P}{main}{b:aX}{a}{k}{cs}{ops}{i}{rest}{o}{w w1}{m}(f:ops[i]? =U o)(d:eP o (dY ops a.tmps)=Z)(j:(cT a.eval o).run P w=dL (.stuck m) w1)(g')(w')(es):
  bZ P main (G (b.at a (aP ops (i::rest)::k)) cs) w≠bS g' w' es:=by
 rw[OS f d];have e:((cT a.eval o).runT P w #[]).1=dL (.stuck m) w1:=by grind[Sem.runT_fst]
 unfold vb;simp only[iM];generalize(cT a.eval o).runT P w #[]=R at e⊢;obtain⟨r,g⟩:=R;subst e;intro h;dsimp only[ud] at h;cases h
theorem axW(fs){v}(b:∀a,v≠aE (U a))(w):∃m,(x8 110 v 0).run (J aC fs) w=dL (.stuck m) w:=by
 have h:=run_underlying (P:=J aC fs) ((I8 _ _ _).trans underlying110);unfold x8;cases v with
 |pointer p=>
  cases p with
  |some a=>grind
  |none=>exact⟨ "an address expected (no nilCheck in front?)",by simp[go_sem,h,CV]⟩
 |_=>exact⟨ "an address expected (no nilCheck in front?)",by simp[go_sem,h,CV]⟩
section
variable {fs:Array dV} {Done:aU->av->Prop} {b:aX} {T:Array ay} {ds:List Deferred} {k:List eS} {cs:List aX} {ops:Array dD} {i:Nat} {rest:List Nat} {o:dD} {w:av}
theorem Y8{t}(h:Term (J aC fs) Done (G (b.at ⟨T,ds⟩ (aP ops (i::rest)::k)) cs) w)(s:mm (J aC fs) Done)(d:¬Done (G (b.at ⟨T,ds⟩ (aP ops (i::rest)::k)) cs) w)(j:ops[i]? =o)(g:eP o (dY ops T)=Z)(c:o.op=.fieldAddr 110 (cu t) 0):
  ∃a,T.getD t ak=aE (U a):=by
 refine nq λp=>h.DL s (λf r q l=>?_) d;obtain⟨m,n⟩:=axW fs (v:=T.getD t ak) (λa e=>p ⟨a,e⟩) (World.re w f 0);refine Zj (m:=m) (w1:=World.re w f 0) j g ?_ r q l;have e:cT (dW ⟨T,ds⟩) o=(do bH (fV (<-x8 110 (T.getD t ak) 0)):cy Next):=by unfold cT;rw[c];rfl
 rw[e];rw[Sem.run_bind,n];rfl
end
theorem apw(fs)(a)(w):(x8 110 (aE (U a)) 0).run (J aC fs) w=aV (aE (a)) w:=by unfold x8;simp[go_sem,(run_underlying (P:=J aC fs) ((I8 _ _ _).trans underlying110)),CV,fieldPlace,(Nn fs)]
section
variable {fs:Array dV} {C:List aX}
set_option maxHeartbeats 1000000 in
theorem asI {T} {a} (M:T.size=87) (c:T[0]? =U (.pointer (a))) {w} (b:gd 1 w):
  ∃n,cH (J aC fs) Z i zB (λg w=>gd 1 w∧g=G ((aY 41).at ⟨T.setIfInBounds 25 (.pointer (U a)),[]⟩ [.inRegion yC [2],.code Dv]) C) n (G ((aY 41).at ⟨T,[]⟩ [.inRegion yC [1,2],.code Dv]) C) w:=by
 refine⟨620,?_⟩;obtain⟨v0,v1,v2,v3,v4,v5,v6,v7,v8,v9,v10,A,v12,lK,oQ,Q2,oP,oO,V,lJ,v20,X,N,oN,QX,o,t,F,v28,L,z,v31,tn,S,q,oM,l,v37,oL,oK,v40,oJ,oI,oH,P,mQ,R,oG,oF,v49,s,v51,j,QW,Y,oE,mP,y,D,v59,mO,oD,oC,k,mM,u,mL,d,r,v,W,e,v72,Q0,p,H,v76,Q1,Q,O,h,B,Q3,mK,E,v85,f,rfl⟩:=oy T M;simp only[nW,nV,ec] at c;subst c;unfold gd at b;simp only[yC,eH];u_in m b;refine fT rfl rfl (by k_ne) (λK x=>?_)
 go_simp;refine x _ _ ⟨.refl _,?_⟩;exact I λw1 h1=>⟨m b h1,rfl⟩
set_option maxHeartbeats 1000000 in
theorem asJ {T} {b} (M:T.size=87) (c:T[1]? =U (.pointer (b))) {w} (a:gd 1 w):
  ∃n,cH (J aC fs) Z i zB (λg w=>gd 1 w∧g=G ((aY 41).at ⟨((T.setIfInBounds 26 (.pointer (U b))).setIfInBounds 6 (.int .i64 0)).setIfInBounds 7 (.int .i64 0),[]⟩ [.inRegion (eM (cP 1)) [0,1,2,3,4,5,6],.code (.seq wJ wU)]) C) n (G ((aY 41).at ⟨T,[]⟩ [.inRegion yC [2],.code Dv]) C) w:=by
 refine⟨620,?_⟩;obtain⟨v0,v1,v2,v3,v4,v5,v6,v7,v8,v9,v10,A,v12,lK,oQ,Q2,oP,oO,V,lJ,v20,X,Q3,oN,QZ,o,t,F,v28,L,z,v31,tn,S,q,oM,l,v37,oL,oK,v40,oJ,oI,oH,P,mQ,R,oG,oF,v49,s,v51,j,QY,Y,oE,mP,y,QW,v59,mO,oD,oC,k,mM,u,mL,d,r,v,W,e,v72,Q0,p,H,v76,Q1,Q,O,h,B,QX,mK,E,v85,f,rfl⟩:=oy T M;simp only[nW,pU,nV,ec] at c;subst c;unfold gd at a;simp only[Dv,yC,eH,eM,cP,eG,nG,fO];u_in m a;refine fT rfl rfl (by k_ne) (λK x=>?_)
 have h3:=apw fs;go_simp;refine x _ _ ⟨.refl _,?_⟩;refine dG ?_;u_c N m a;u_c D m a;u_reg m a;u_op m a;u_op m a;u_c N m a;u_c D m a;u_reg m a;exact I λw1 h1=>⟨m a h1,rfl⟩
theorem ag9{P}{main}{b:aX}{a}{k}{cs}{c}{x y}{w}(h:∀t,a.eval c≠cz t)(g')(w')(es):
  bZ P main (G (b.at a (bD (.cond c x y)::k)) cs) w≠bS g' w' es:=by
 intro e;have d:=Frame.eval_at' b a (bD (.cond c x y)::k);simp only[Frame.at] at d;simp only[G,bZ,va,Frame.at,d] at e
 grind
theorem asT{P}{main}{b:aX}{a}{d}{fn}{v}{c}{cs}{w}(e:b.kind=er)(i:a.defers=[])(g:P.funcs[b.fn]? =U fn)(f:(jN fn a.tmps).run P w=aV v w)(h:(jN fn a.tmps).events P w #[]= #[]):
  bZ P main (G {b.at a d with mode:=fC} (c::cs)) w=bS (G (c.finish v) cs) w #[]:=by
 simp[G,bZ,unwind,nC,Frame.at,e,i,g,f,h,ud,seen]
end
noncomputable def mu:Array dD:=eM (cP 7)
noncomputable def vU:List eS:=[bD (cP 8)]
theorem ab5:(f60.name== "runtime.NumGoroutine")=ai:=by kernel_rfl
theorem ahs{P:bU}{f:fb}{fn:dV}{c:Code}(hf:P.funcs[f]? =U fn)(E:(fn.name== "runtime.NumGoroutine")=ai)(hb:fn.body=U c)(args:Array ay)(w:av):
  (iu f args).run P w=aV (jr f args) w:=by
 have h1:fn.name≠ "runtime.NumGoroutine":=by simpa using E
 simp[iu,hf,h1,hb]
section
variable {fs:Array dV} {C:List aX}
set_option maxHeartbeats 1000000 in
theorem aaO {T:Array ay} (w:av):
  ∃n,cH aC Z (L ([]++[])) (DH [] []) (λg w=>g=G ((aY 41).at ⟨T,[]⟩ (aP mu [0,1,2,3,4,5,6,7]::vU)) C) n (G ((aY 41).at ⟨T,[]⟩ [bD (cP 7)]) C) w:=by
 refine⟨620,?_⟩;simp only[vU,mu,eM,cP,eG,nG,fO];have hF:True:=trivial;refine dG ?_;u_c D A hF;u_reg A hF;exact I λw1 h1=>rfl
set_option maxHeartbeats 1000000 in
theorem aaP {T:Array ay} {v x:ay} (hT:T.size=87) (h0:T[36]? =U v∧T[40]? =U x) (w:av):
  ∃n,cH aC Z (L ([]++[])) (DH [] []) (λg w=>g=G (eO aC 60 #[v,x] er) ((aY 41).at ⟨T,[]⟩ (aP mu [5,6,7]::vU)::C)) n (G ((aY 41).at ⟨T,[]⟩ (aP mu [5,6,7]::vU)) C) w:=by
 refine⟨620,?_⟩;obtain⟨v0,v1,v2,v3,v4,v5,v6,v7,v8,v9,v10,v11,v12,lK,oQ,FJ,oP,oO,Dr,lJ,v20,v21,Dq,oN,v24,MR,MQ,MP,v28,FI,v30,v31,tn,Dp,RJ,oM,RI,v37,oL,oK,v40,oJ,oI,oH,FH,mQ,v46,oG,oF,v49,MO,v51,RH,v53,vv,oE,mP,RG,MN,v59,mO,oD,oC,RE,mM,MM,mL,RB,Rz,Ry,v70,ML,v72,Dn,Rx,B,V,vu,FG,Dm,D,Rw,MK,mK,Rv,J,Ru,rfl⟩:=oy T hT;clear hT;simp only[nW,pU,nV,ec] at h0;obtain⟨rfl,rfl⟩:=h0;simp only[vU,mu,eM,cP,eG,nG,fO];have hF:True:=trivial;u_in A hF;refine GN rfl rfl (by k_ne) (λK E hK hE=>?_)
 go_simp;refine hE _ _ _ ⟨⟨rfl,rfl,rfl,rfl,λ_ _=>rfl,λe he=>?_⟩,?_⟩
 ·have hm:=kN he;have hz:=λargs w es=>Lu (P:=aC) (args:=args) (w:=w) es func60 ab5 rfl;simp[go_sem,hz] at hm
 exact I λw1 h1=>rfl
theorem x60(E:fs[60]? =U f60):(J aC fs).funcs[60]? =U f60:=E
set_option maxHeartbeats 1000000 in
theorem asQ (WC:fs[60]? =U f60) {T:Array ay} {v x:ay} {k:List eS} (hT:T.size=87) (h0:T[36]? =U v∧T[40]? =U x) {w:av} (hF:gd 1 w):
  ∃n,cH (J aC fs) Z i zB (λg w=>gd 1 w∧g=G (eO (J aC fs) 60 #[v,x] er) ((aY 41).at ⟨T,[]⟩ (aP mu [5,6,7]::k)::C)) n (G ((aY 41).at ⟨T,[]⟩ (aP mu [5,6,7]::k)) C) w:=by
 refine⟨620,?_⟩;obtain⟨v0,v1,v2,v3,v4,v5,v6,v7,v8,v9,v10,v11,v12,lK,oQ,FJ,oP,oO,Dr,lJ,v20,v21,Dq,oN,v24,MR,MQ,MP,v28,FI,v30,v31,tn,Dp,RJ,oM,RI,v37,oL,oK,v40,oJ,oI,oH,FH,mQ,v46,oG,oF,v49,MO,v51,RH,v53,vv,oE,mP,RG,MN,v59,mO,oD,oC,RE,mM,MM,mL,RB,Rz,Ry,v70,ML,v72,Dn,Rx,B,V,vu,FG,Dm,A,Rw,MK,mK,Rv,D,Ru,rfl⟩:=oy T hT;clear hT;simp only[nW,pU,nV,ec] at h0;obtain⟨rfl,rfl⟩:=h0;simp only[mu,eM,cP,eG,nG,fO];u_in m hF;refine GN rfl rfl (by k_ne) (λK E hK hE=>?_)
 go_simp;rw[ahs (x60 WC) ab5 rfl];refine hE _ _ _ ⟨.refl _,?_⟩;exact I λw1 h1=>⟨m hF h1,rfl⟩
end
theorem Hy{n}{w w'}{I:H}(h:gd n w)(a:I.F 4=ai)(b:∀z,z<w.heap.size->I.F z=ai->w'.heap[z]? =w.heap[z]?):gd n w':=by
 grind[gd,ot]
theorem ahX(x0 x1 x2)(n):(#[x0,x1,x2]++sH n ak)[0]? =U x0∧(#[x0,x1,x2]++sH n ak)[1]? =U x1∧(#[x0,x1,x2]++sH n ak)[2]? =U x2∧∀t,3<=t->(#[x0,x1,x2]++sH n ak).getD t ak=ak:=by
 refine⟨by grind,by grind,by grind,λt a=>?_⟩
 rw[iz,Array.getElem?_append_right (by grind),Array.getElem?_replicate]
 grind
theorem l{T:Array ay}{i j}{x}(h:i≠j):(T.setIfInBounds i x)[j]? =T[j]? :=mz h
theorem getD_some{T:Array ay}{t}{x}(h:T[t]? =U x):T.getD t ak=x:=by rw[iz,h];rfl
set_option maxHeartbeats 1000000 in
theorem apu {C} {T} (QY:T.size=87) (w):
  ∃n,cH aC Z (L ([]++[])) (DH [] []) (λg w=>g=G ((aY 41).at ⟨(T.setIfInBounds 6 (Y aH 0)).setIfInBounds 7 (Y aH 0),[]⟩ (aP (eM (cP 1)) [0,1,2,3,4,5,6]::B9)) C) n (G ((aY 41).at ⟨T,[]⟩ [bD (cP 0)]) C) w:=by
 refine⟨620,?_⟩;obtain⟨v0,v1,v2,v3,v4,v5,v6,v7,v8,v9,v10,x,v12,lK,oQ,H,oP,oO,Q,lJ,v20,S,J,oN,k,l,r,B,v28,F,v,v31,W,O,o,oM,j,Q1,oL,oK,v40,oJ,oI,oH,QX,mQ,Q2,oG,oF,X,q,v51,h,f,U,oE,mP,u,z,Q0,mO,oD,oC,i,mM,s,mL,b,p,t,R,c,v72,P,m,QW,v76,V,M,K,e,y,E,mK,Q3,v85,d,rfl⟩:=oy T QY;simp only[B9,eM,cP,eG,nG,fO];have a:=trivial;refine dG ?_;u_c D A a;u_reg A a;u_op A a;u_op A a;u_c N A a;u_c D A a;u_c D A a;u_reg A a;exact I λw1 h1=>rfl
section
variable {K:fy} {B cU:List aX} {fs:Array dV} {I:H}
theorem aoI(hP:K.P=aC){Done}(u:mm (J K.P fs) Done)(p:∀fr w,¬Done (G fr B) w)(y:fs[41]? =uy)(h4:I.F 4=ai)(v:∀A,I.arg=U A->A.g≠4){s}{w}{ρ}{x0 x1 x2}(Q2:S I w.heap.size x0=Z∧S I w.heap.size x1=Z∧S I w.heap.size x2=Z)
  (H:Ok K 0 s (r (eO K.P 41 #[F ρ x0,F ρ x1,F ρ x2] er) cU)) (C:Term (J K.P fs) Done (r (eO (J K.P fs) 41 #[x0,x1,x2] er) B) w) (M:fF ρ I K.P s.cl w s.v) (q:gd 0 w):
  ∃t i m k QY a b,(∀z,z<w.heap.size->ρ z=i z)∧w.heap.size<=m.heap.size∧(∀z,z<w.heap.size->I.F z=ai->z≠4->m.heap[z]? =w.heap[z]?)∧gd 1 m∧kJ i I m (22::S8) k QY∧k.size=87∧QY.size=87∧(k[0]? =U (aE (U a))∧k[1]? =U (aE (U b))∧k[6]? =U (Y aH 0)∧k[7]? =U (Y aH 0))∧
   Term (J K.P fs) Done (G ((aY 41).at ⟨k,[]⟩ [aP (eM (cP 1)) [],bD (eE wJ wU)]) B) m∧kW (J K.P fs) Done (G ((aY 41).at ⟨k,[]⟩ [aP (eM (cP 1)) [],bD (eE wJ wU)]) B,m) (r (eO (J K.P fs) 41 #[x0,x1,x2] er) B,w)∧
   s.runs K.P t∧sW 0 s t∧Ok K 0 t (G ((aY 41).at ⟨QY,[]⟩ (aP (eM (cP 1)) []::B9)) cU)∧fF i I K.P t.cl m t.v:=by
 obtain⟨P,L,Wg,n0,fL,live⟩:=K;simp only at hP;subst hP;have Q:∀f cs,r f cs=G f cs:=λ_ _=>rfl;rw[Q,Am (P:=J aC fs) (fn:=uy) (c:=A8) _ y rfl] at C;rw[Q,Am (P:=aC) (c:=cP 0) _ func41 rfl] at H;have N:nG.ntmps=87:=by kernel_rfl
 simp only[N] at H;rw[Q,Am (P:=J aC fs) (fn:=uy) (c:=A8) _ y rfl];have hn:uy.ntmps=87:=by kernel_rfl
 simp only[hn] at C⊢;generalize QW:(#[x0,x1,x2]++sH (87-(#[x0,x1,x2]:Array ay).size) ak:Array ay)=j at C⊢;have d:j.size=87:=by grind
 obtain⟨W,T,a2,a3⟩:j[0]? =U x0∧j[1]? =U x1∧j[2]? =U x2∧∀t,3<=t->j.getD t ak=ak:=by rw[<-QW];grind[ahX]
 obtain⟨n1,g1⟩:=asM (fs:=fs) (C:=B) d q;obtain⟨_,w1,⟨f1,rfl⟩,t1,b1,l1⟩:=Term.goes u LF.refl LF.trans LF.zX (λ_ _ _ h=>h) g1 C;have c0:((j.setIfInBounds 23 (Y aH 0)).setIfInBounds 24 (Z))[0]? =x0:=by rw[l (by decide),l (by decide)];exact W
 have c1:((j.setIfInBounds 23 (Y aH 0)).setIfInBounds 24 (Z))[1]? =x1:=by rw[l (by decide),l (by decide)];exact T
 obtain⟨a,ha⟩:=Y8 t1 u (p _ _) (o:=eH (U 25) (.fieldAddr 110 (cu 0) 0) 0) rfl rfl rfl;rw[getD_some c0] at ha;subst ha;obtain⟨n2,g2⟩:=asI (fs:=fs) (C:=B) (a:=a) (by simpa using d) c0 f1
 obtain⟨_,w2,⟨f2,rfl⟩,t2,b2,l2⟩:=Term.goes u LF.refl LF.trans LF.zX (λ_ _ _ h=>h) g2 t1;have d1:(((j.setIfInBounds 23 (Y aH 0)).setIfInBounds 24 (Z)).setIfInBounds 25 (aE (a)))[1]? =x1:=by grind
 obtain⟨b,hb⟩:=Y8 t2 u (p _ _) (o:=eH (U 26) (.fieldAddr 110 (cu 1) 0) 0) rfl rfl rfl;rw[getD_some d1] at hb;subst hb;obtain⟨n3,g3⟩:=asJ (fs:=fs) (C:=B) (b:=b) (by simpa using d) d1 f2
 obtain⟨_,w3,⟨f3,rfl⟩,t3,b3,l3⟩:=Term.goes u LF.refl LF.trans LF.zX (λ_ _ _ h=>h) g3 t2;generalize x:(#[F ρ (aE (U a)),F ρ (aE (U b)),F ρ x2]++sH (87-(#[F ρ (aE (U a)),F ρ (aE (U b)),F ρ x2]:Array ay).size) ak:Array ay)=o at H;have QX:o.size=87:=by rw[<-x];simp
 obtain⟨e0,e1,e2,e3⟩:o[0]? =U (F ρ (aE (U a)))∧o[1]? =U (F ρ (aE (U b)))∧o[2]? =U (F ρ x2)∧∀t,3<=t->o.getD t ak=ak:=by rw[<-x];exact ahX _ _ _ _
 obtain⟨n4,g4⟩:=apu (C:=cU) QX s.v;obtain⟨s1,_,r1,H1,rfl,X,Q3,cc1⟩:=H.walk (n:=n4) (O:=[]) (Rd:=[]) (λg w e=>by rw[e];rfl) g4 (by simp) (by simp)
 have n:=(l1.trans _ _ _ l2).trans _ _ _ l3;have hA:kJ ρ I w3 S8 ((((((j.setIfInBounds 23 (Y aH 0)).setIfInBounds 24 (Z)).setIfInBounds 25 (aE (a))).setIfInBounds 26 (aE (b))).setIfInBounds 6 (Y aH 0)).setIfInBounds 7 (Y aH 0)) ((o.setIfInBounds 6 (Y aH 0)).setIfInBounds 7 (Y aH 0)):=by
  intro t ht;by_cases h7:t=7
  ·subst h7;rw[getD_some (x:=Y aH 0) (jJ (by simp[d])),getD_some (x:=Y aH 0) (jJ (by grind))]
   exact RV.plain rfl
  by_cases h6:t=6
  ·subst h6;rw[getD_some (x:=Y aH 0) (by rw[l (by decide)];exact jJ (by simp[d])),getD_some (x:=Y aH 0) (by grind[l,Array.getElem?_setIfInBounds_self_of_lt])]
   exact RV.plain rfl
  have QZ:t≠23∧t≠24∧t≠25∧t≠26:=by refine⟨?_,?_,?_,?_⟩<;>(rintro rfl;revert ht;decide)
  have eL:(((((((j.setIfInBounds 23 (Y aH 0)).setIfInBounds 24 (Z)).setIfInBounds 25 (aE (a))).setIfInBounds 26 (aE (b))).setIfInBounds 6 (Y aH 0)).setIfInBounds 7 (Y aH 0)):Array ay).getD t ak=j.getD t ak:=by simp only[iz];rw[l (tM h7),l (tM h6),l (tM QZ.2.2.2),l (tM QZ.2.2.1),l (tM QZ.2.1),l (tM QZ.1)]
  have eR:((o.setIfInBounds 6 (Y aH 0)).setIfInBounds 7 (Y aH 0):Array ay).getD t ak=o.getD t ak:=by simp only[iz];rw[l (tM h7),l (tM h6)]
  rw[eL,eR,n.size];by_cases h3:3<=t
  ·rw[a3 t h3,e3 t h3];exact RV.plain tu
  ·have:t=0∨t=1∨t=2:=by omega
   rcases this with rfl|rfl|rfl
   ·rw[getD_some W,getD_some e0];exact⟨Q2.1,rfl⟩
   ·rw[getD_some T,getD_some e1];exact⟨Q2.2.1,rfl⟩
   ·rw[getD_some a2,getD_some e2];exact⟨Q2.2.2,rfl⟩
 obtain⟨t,i,m,k,QY,q1,q2,q3,q4,q5,q6,E,q8,q9,Q1,Q0,q12,R⟩:=Ok.Gp (rest:=[]) u p [0,1,2,3,4,5,6] asy H1 t3 ((M.left X.left X.cls).lf h4 v n) hA (by simp[d,QX])
 have D:∀t,t=0∨t=1∨t=6∨t=7->t∉sF (eM (cP 1)) [0,1,2,3,4,5,6]:=λt ht=>by
  have e:sF (eM (cP 1)) [0,1,2,3,4,5,6]=[16,17,18,19,20,21,22]:=by kernel_rfl
  rw[e];rcases ht with rfl|rfl|rfl|rfl<;>decide
 have aEB:=n.size;refine⟨t,i,m,k,QY,a,b,λz hz=>q1 z (by grind),by grind,λz hz hF O=>(q3 z (by grind) hF).trans (n.blk z O),Hy f3 h4 q3,(by rw[axo] at q4;exact q4.sub (by decide)),by rw[q5];simpa using d,by rw[q6];simpa using QX,⟨?_,?_,?_,?_⟩,q8,q9.trans (b3.trans (b2.trans b1)),r1.trans Q1,(X.y9 Q3 cc1).trans Q0,q12,R⟩
 ·rw[(E 0 (D 0 (by simp))).1,l (by decide),l (by decide),l (by decide),l (by decide),l (by decide),l (by decide)];exact W
 ·rw[(E 1 (D 1 (by simp))).1,l (by decide),l (by decide),l (by decide),l (by decide),l (by decide),l (by decide)];exact T
 ·rw[(E 6 (D 6 (by simp))).1,l (by decide)];exact jJ (by simp[d])
 ·rw[(E 7 (D 7 (by simp))).1];exact jJ (by simp[d])
end
structure Dd(fs:Array dV)(I:H)(nm:String->Bool):Prop where
 lay:mJ I aC fs nm
 same:Same I aC fs nm (λ_=>False)
 f41:fs[41]? =U uy
 f59:fs[59]? =U Tryz.f59
 f60:fs[60]? =U Tryz.f60
 t59:I.T 59=Z
 t60:I.T 60=Z
 flag:I.F 4=ai
 Fs:∀A,I.arg=U A->A.g≠4
 LG:∀f n,I.cut f n=Z->(f=41∧n=3)∨∃fn Rr,fs[f]? =U fn∧fn.body=U (.refuse Rr)
theorem aa6{P}{main}{b:aX}{a}{k}{cs}{c}{w}(g')(w')(es):
  bZ P main (G (b.at a (bD (.refuse c)::k)) cs) w≠bS g' w' es:=by
 intro d;simp[G,bZ,va,Frame.at] at d
section
variable {K:fy} {h:Nat} {fs:Array dV} {I:H} {nm:String->Bool}
theorem phase(Q1:K.P=aC)(W:Dd fs I nm){Done}(F:mm (J K.P fs) Done)(R:∀g w,Done g w->g.callers=[]){f}(hf:I.T f=Z)(hb:∃fn c,aC.funcs[f]? =U fn∧fn.body=U c)
  {bL D} {B cU} (ir:B≠ []) {xs i} {ρ} {w} (S:bu ρ I w.heap.size xs i) {s} (H:Ok K h s (G (eO K.P f i er) (D::cU))) (tr:Term (J K.P fs) Done (G (eO (J K.P fs) f xs er) (bL::B)) w) (M:fF ρ I K.P s.cl w s.v) (j:gd 1 w):
  ∃t d b x x',(∀z,z<w.heap.size->ρ z=d z)∧w.heap.size<=b.heap.size∧(∀z,z<w.heap.size->I.F z=ai->b.heap[z]? =w.heap[z]?)∧gd 1 b∧RV d I b x x'∧Term (J K.P fs) Done (G (bL.finish x) B) b∧sI (pK (J K.P fs) Done) (G (bL.finish x) B,b) (G (eO (J K.P fs) f xs er) (bL::B),w)∧
   s.runs K.P t∧sW h s t∧Ok K h t (G (D.finish x') cU)∧fF d I K.P t.cl b t.v:=by
 obtain⟨P,L,Wg,n0,C,o⟩:=K;simp only at Q1;subst Q1;have hg:∀f p,G f p=r f p:=λ_ _=>rfl;have m:∀A p w,¬Done (r A (p++bL::B)) w:=λA p w N=>by have:=R _ _ N;simp[r] at this
 obtain⟨t,d,b,g1,a1,a2,a3,E,b1,r1,d1,q⟩:=Ok.tree (K:=⟨aC,L,Wg,n0,C,o⟩) (fr:=eO (J aC fs) f xs er) (fr':=eO aC f i er) (cs:=[]) (cs':=[]) W.lay W.same (b:=bL) (bs:=B) (B':=D::cU) (ax ⟨D,cU,rfl⟩) m tr H (ax (eW.yX W.same hf (λh=>h) hb S)) .nil M;have e:=Hy j W.flag a3;rcases q with⟨CF,H1,M1,v⟩|⟨hB,_⟩
 ·cases v with
  |back hB k=>
   grind
  | @cut f' l aAP u P4 Q3 a k ha AB gz=>
   exfalso;have y:∀A w,¬Done (G A (u::Q3++bL::B)) w:=λA w N=>by grind
   rcases k with k|k
   ·exact k
   rcases W.LG _ _ k with⟨rfl,hn⟩|⟨fn,X,e1,e2⟩
   ·have O:uy.ntmps=87:=by kernel_rfl
    rw[<-hg,Am (P:=J aC fs) (fn:=uy) (c:=A8) _ W.f41 rfl,O] at E;obtain⟨n,g⟩:=asO (fs:=fs) (C:=u::Q3++bL::B) (T:=l++sH (87-l.size) ak) (by simp[hn]) e
    obtain⟨g2,w2,Q2,t2,_,_⟩:=Term.goes F LF.refl LF.trans LF.zX (λ_ _ _ h=>h) g E;exact t2.DL F (λτ Q0 b Q=>Q2.2 _ Q0 b Q) (λN=>by grind)
   ·rw[<-hg,Am (P:=J aC fs) (fn:=fn) (c:=.refuse X) _ e1 e2] at E;exact E.DL F (λτ Q0 b Q=>aa6 Q0 b Q) (y _ _)
 grind
end
end
end Go.Proofs.YtpdbmpbmepkikaaGreatDoor
