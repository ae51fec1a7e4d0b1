/- Laws. -/
import Derived.LaidEqlPtr
import Derived.Conc.CrowdMono
import Derived.Lib.SliceRun
import Derived.Test.YtpdbmpbmepkikaaGreatDoorQ05
set_option maxRecDepth 100000
set_option maxHeartbeats 400000
set_option linter.all false
open Go.Proofs.Tryz
open And renaming intro->aM
open Array renaming replicate->tT
open Bool renaming true->Y,false->ai
open Exists renaming intro->me
open Go renaming Goroutine->aX,Frame->aZ,undef->ak,World->ay,Value->az,Program->bW,execOp->cX,stepG->cj,Sem->cz,Oper->dJ,Trace->eB,Addr->eT,Item->eY,Func->ep,yielded->eu,TypeId->ey,binOp->fZ,FuncId->fq,callFunc->iA,Operand->iT,Event->jl,results->kA,doReturn->oz,underlying->pq
open Go.Act renaming put->cA,eval->er
open Go.Builtin renaming close_->aa3
open Go.CallKind renaming normal->eC
open Go.Code renaming seq->eI,region->ec
open Go.Conc renaming base->bh,Goes->cK,closeEvents->kM,served->kN
open Go.ConcN renaming upd->bE,WgLive->jK
open Go.ConcR renaming mk->jJ
open Go.Fn renaming func->ez
open Go.Frame renaming enter->eW,finish->tV
open Go.FrameMode renaming returning->fH
open Go.GStep renaming go->bU,ended->fx,after->vj
open Go.GoStatus renaming running->dU
open Go.Instr renaming sureAddr->EK,fieldAt->zl
open Go.IntKind renaming i64->aC
open Go.Item renaming inRegion->aT,code->bF,inBlock->mh
open Go.Next renaming value->gp,enter->jL
open Go.Obj renaming cells->aH
open Go.Op renaming maxDepth->Oz,assign->pn,equalIn->sF
open Go.Operand renaming tmp->cx,const->gJ
open Go.Proofs.Tryz renaming f53->AG,f58->EG,f56->Oy,prog->aF,f41->oB
open Go.Region renaming wanted->eX
open Go.Result renaming ok->aY,halt->dR
open Go.Value renaming int->V,slice->aE,pointer->aG,agg->bJ,tuple->bO,bool->bQ,func->dM,chan->de
open Go.World renaming setChan->ED,cell?->pg
open Go.stepG renaming exec->wM,apply->wN
open Option renaming some->U,none->Z
open Or renaming inr->aA,inl->ax
open Pure renaming pure->bI
open Relation renaming TransGen->tU
namespace Go.Proofs.YtpdbmpbmepkikaaGreatDoor
def oW:=@List.getElem?_toArray
def qR:=@List.getElem?_cons_succ
def oV:=@List.getElem?_cons_zero
def ld:=@Go.Conc.stepG_skip
def D:=@Go.Conc.stepG_seq
def lH:=@Go.Conc.mem_listed
def uO:=@Ne.symm
def Jw:=@Go.Conc.goes_oper_e
def BE:=@Go.Conc.enter_at
def ahc:=@Nat.add_le_add_right
def Sw:=@Go.Conc.stepG_end
def Jv:=@Go.Frame.finish_at
def Sv:=@Go.Conc.stepG_oper
def lW:=@Go.ConcN.Gen.kn_rely
def YO:=@Go.Lib.run_eql_slice_nil
section
open Go.Proofs Go.Conc Go.RowKit Go.Conc.Lib Go.ConcR.Gen
open Go.ConcN (upd upd_ne upd_same WgLive)
open Go.ConcR (KK WgAt stA smA wgBlock rd wr mk Bk)
theorem j0{x y}{o o'}{w w1}(h:w.heap[x]?=U o/\w.heap[y]?=U o')(r:L ([]++[x,y]) w w1):w1.heap[x]?=U o/\w1.heap[y]?=U o':=⟨(r.1 x<|by simp).trans h.1,(r.1 y<|by simp).trans h.2⟩
theorem IE{x y}{o o'}{w w1}(h:w.heap[x]?=U o/\w.heap[y]?=U o')(r:L ([x,y]++[]) w w1):w1.heap[x]?=U o/\w1.heap[y]?=U o':=⟨(r.1 x<|by simp).trans h.1,(r.1 y<|by simp).trans h.2⟩
noncomputable def DI:List eY:=match cS 1 with|eI (eI _ c) r=>[bF c,bF r]|_=>[]
theorem afS:(AG.name== "runtime.NumGoroutine")=ai:=by kernel_rfl
section
variable {K:fG} {C:List aZ}
theorem ap3(n:K.P=aF)(sw:K.L=dQ)(hl:K.live=ai){Q:Prop}{s}{a b}{m}{y}{ops}(Tu:y.size=87)(F9:y[0]?=U (.pointer<|U a)/\y[1]?=U (.pointer<|U b)/\y[2]?=U m/\y[6]?=U (.int .i64 0)/\y[7]?=U (.int .i64 0)/\y[22]?=U (.bool ai))(H:Ok K 0 s<|G ((bh 41).at ⟨y,[]⟩<|.inRegion ops []::DI) C)(nA:s.md=.opn 0)(hQ:∀t bw e8 e9 p r u q T,s.runs K.P t->Ok {K with Wg:=bw,live:=Y} 0 t (G ((bh 41).at ⟨T,[]⟩ [.code<|cS 4]) C)->T.size=87->T[0]?=U (.pointer a)/\T[1]?=U (.pointer b)/\T[2]?=U m/\T[6]?=U (.int .i64 0)/\T[7]?=U (.int .i64 0)/\T[8]?=U (.pointer e8)/\T[9]?=U (.pointer e9)/\T[10]?=U (.pointer bw)->Kept 0 [] s t->t.v.heap[e8]?=U (.cells #[.chan p,.chan r] 114)/\t.v.heap[e9]?=U (.cells #[.chan u,.chan q] 114)->e8∈(t.D 0).own/\e9∈(t.D 0).own/\e9≠e8->t.ch p=U ⟨Z,ai,0⟩/\t.ch r=U ⟨Z,ai,0⟩/\t.ch u=U ⟨Z,ai,0⟩/\t.ch q=U ⟨Z,ai,0⟩->p≠r/\u≠q/\p<u/\p<q/\r<u/\r<q->Q):Q:=by
 obtain⟨u0,u1,u2,u3,u4,u5,u6,u7,u8,u9,u10,u11,u12,u13,u14,u15,u16,u17,u18,u19,u20,u21,u22,u23,u24,u25,u26,u27,u28,u29,u30,u31,u32,u33,u34,u35,u36,u37,u38,u39,u40,u41,u42,u43,u44,u45,u46,u47,u48,u49,u50,u51,u52,u53,u54,u55,u56,u57,u58,u59,u60,u61,u62,u63,u64,u65,u66,u67,u68,u69,u70,u71,u72,u73,u74,u75,u76,u77,u78,u79,u80,u81,u82,u83,u84,u85,u86,rfl⟩:=pD y Tu;simp only[oW,qR,oV,ew]at F9;obtain⟨rfl,rfl,rfl,rfl,rfl,rfl⟩:=F9;simp only[DI,cS,eN,oB,fV]at H;refine H.walk_to [] [] rfl (by simp) (by simp) ⟨640,?_⟩;rw[n];have d:=trivial;refine dL ?_;u_c N A d;u_cond ai A d;u_c ld A d;u_c D A d;u_reg A d;u_call func53 afS AG A d;refine I λk i=>⟨rfl,λt1 v1 r1 H1 k1 d1 c1=>?_⟩;refine afV n hl H1 λt2 p r r2 H2 k2 e1 f1 ne1 l1 m1=>?_;refine H2.walk_to [] [] rfl (by simp) (by simp) ⟨640,?_⟩;rw[n];clear d;have d:=trivial;walk_nrm;refine dL ?_;u_call func53 afS AG A d;refine I λk i=>⟨rfl,λt3 v3 r3 H3 W d3 c3=>?_⟩;refine afV n hl H3 λt4 u q r4 H4 k4 e2 f2 ne2 l2 m2=>?_;simp only[cA]at H4;refine H4.yC rfl rfl (.own 0) (.inl rfl) λB=>?_;co_apply me;co_apply me;co_apply aM;.intro w1 M hR;rw[n];co_apply wI;refine gh rfl rfl (by k_ne) λK j=>?_;go_simp;exact j _ _ ⟨rfl,rfl,oX<|by simp[go_sem]⟩
 intro t5 r5 H5 k5 XS XQ n35 XL n55 n65 n75 n85 n95;refine H5.yC rfl rfl (.own 0) (.inl rfl) λR=>?_;co_apply me;co_apply me;co_apply aM;.intro w1 M hR;rw[n];co_apply wI;refine gh rfl rfl (by k_ne) λK j=>?_;go_simp;exact j _ _ ⟨rfl,rfl,oX<|by simp[go_sem]⟩
 intro t6 r6 H6 J XR n26 n36 n46 n56 P n76 n86 n96;have i5:B<t5.v:=by rw[XQ];exact Nat.lt_succ_self _
 have f:t6.v.heap[B]?=U (.cells #[.chan Z,.chan Z] 114)/\t6.v.heap[R]?=U (.cells #[.chan Z,.chan Z] 114):=⟨(J.rest B i5 XL<|by simp).trans n35,n36⟩;have l:R≠B:=by omega
 refine H6.walk_to [B,R] [] rfl (λb M=>?_) (by simp) ⟨660,?_⟩
 .simp only[dj,dP,dY]at M;rcases M with rfl|rfl;.exact J.own _<|n65 rfl
  .exact P rfl
 rw[n];clear d;have d:=f;clear f;u_in IE d;refine gh rfl rfl (by k_ne) λK j=>?_;have Q3:=gB (o:=0) d.1 rfl;have Q2:=wT 0 d.1;have f:=pB 0 (.chan<|U p) d.1;have S:=gB (o:=1) f rfl;have O:=wT 1 f;go_simp;refine j _ _ ⟨Ko d.1 (by simp) λe he=>?_,?_⟩;.have v:=lH he;simp[go_sem,storedEv, *]at v;rcases v with rfl|rfl<;>exact⟨_,_,rfl,.inl<|by simp⟩
 have w:=show _/\_ from⟨pB 1 (.chan<|U r) f,((aside_setCell _ ⟨B,1,Z⟩<|.chan<|U r).block _ l).trans<|((aside_setCell _ ⟨B,0,Z⟩<|.chan<|U p).block _ l).trans d.2⟩;clear Q3 Q2 S O f d j K;have d:=w;clear w;try walk_nrm
 u_in IE d;refine gh rfl rfl (by k_ne) λK j=>?_;have Q3:=gB (o:=0) d.2 rfl;have Q2:=wT 0 d.2;have f:=pB 0 (.chan<|U u) d.2;have S:=gB (o:=1) f rfl;have O:=wT 1 f;go_simp;refine j _ _ ⟨Ko d.2 (by simp) λe he=>?_,?_⟩;.have v:=lH he;simp[go_sem,storedEv, *]at v;rcases v with rfl|rfl<;>exact⟨_,_,rfl,.inl<|by simp⟩
 have w:=show _/\_ from⟨((aside_setCell _ ⟨R,1,Z⟩<|.chan<|U q).block _<|uO l).trans<|((aside_setCell _ ⟨R,0,Z⟩<|.chan<|U u).block _<|uO l).trans d.1,pB 1 (.chan<|U q) f⟩;clear Q3 Q2 S O f d j K;have d:=w;try walk_nrm
 refine dL ?_;u_c N IE d;u_c D IE d;u_reg IE d;refine I λk i=>⟨rfl,λt7 v7 r7 H7 X d7 c7=>?_⟩;have F:=IE d i;rw[<-v7]at F;refine H7.yC rfl rfl .sh (.inr rfl) λb8=>?_;co_apply me;co_apply me;co_apply aM;.intro w1 M hR;rw[n];co_apply wI;refine gh rfl rfl (by k_ne) λK j=>?_;go_simp;exact j _ _ ⟨rfl,rfl,oX<|by simp[go_sem]⟩
 intro t8 r8 H8 L n18 n28 n38 n48 n58 n68 n78 n88 n98;have azb:t8.md=.opn 0:=by rw[L.md,X.md,J.md,k5.md,k4.md,W.md,k2.md,k1.md,nA]
 have H9:=H8.aAY hl (b:=b8) (by rw[sw];exact n38) n48 n98 n88 azb;refine Ok.walk_to H9 [] [] rfl (by simp) (by simp) ⟨608,?_⟩;rw[show({K with Wg:=b8,live:=Y}:fG).P=aF from n];have hT:=trivial;refine dL ?_;u_c N A hT;refine I λk i=>⟨rfl,λt9 v9 r9 H9' k9 d9 c9=>?_⟩;rw[<-n]at r1 r3 r7 r9 H9';have kk1:=((((k1.trans k2).trans W).trans k4).trans k5).trans J;have b5s:=bC (((k1.trans k2).trans W).trans k4).left.size XS;have b6s:s.v<=R:=by omega
 have kk:Kept 0 [] s t9:=by have z:=(((kk1.more<|by simp).trans X).trans<|L.more<|by simp).trans (k9.more<|by simp);refine⟨z.size,z.role,z.md,z.left,z.cls,λb M hc _=>z.rest b M hc λv=>?_,z.oD,z.own,z.v2⟩;simp only[dj,dP,dY]at v;omega
 have Q0:=L.trans k9;have Q1:=X.own _<|J.own _<|n65 rfl;have E:=X.own _<|P rfl;have g:∀x o,x∈(t7.D 0).own->t7.v.heap[x]?=U o->t9.v.heap[x]?=o:=λx o hx ho=>(Q0.rest x (H7.hold.inv.own 0 x hx).2 (H7.hold.inv.own 0 x hx).1<|by simp).trans ho;have k29:=λc g h=>k9.oD c g<|L.oD c g<|X.oD c g<|J.oD c g<|k5.oD c g<|k4.oD c g<|W.oD c g h;have k49:=λc g h=>k9.oD c g<|L.oD c g<|X.oD c g<|J.oD c g<|k5.oD c g h;have lx:=cE (pz (H2.hold.inv.chan _ _ e1).1) W.left.size;have ly:=cE (pz (H2.hold.inv.chan _ _ f1).1) W.left.size;refine hQ t9 b8 B R p r u q _ ((((((((r1.trans r2).trans r3).trans r4).trans r5).trans r6).trans r7).trans r8).trans r9) H9' rfl ⟨rfl,rfl,rfl,rfl,rfl,rfl,rfl,rfl⟩ kk ⟨g _ _ Q1 F.1,g _ _ E F.2⟩ ⟨Q0.own _ Q1,Q0.own _ E,l⟩ ⟨k29 _ _ e1,k29 _ _ f1,k49 _ _ e2,k49 _ _ f2⟩ ⟨ne1,ne2,by omega,by omega,by omega,by omega⟩
end
end
section
open Go.Conc
open Go.ConcN (sumTo upd sumTo_upd upd_ne upd_same sumTo_congr le_sumTo WSit WgLive RW PayAt Has DWs EvW ShN AsideCell AtR0 RelBy bk_cell)
open Go.ConcR (KK WgAt stA smA wgBlock rd wr mk Bk)
open Go.Conc.Lib (WgLink)
variable{K:fG}{role:Nat->Option fC}{h j:Nat}{sp:Nat->Prop}{md md':Md}{ch z:Nat->Option fK}{cl cl':Nat->fa}{who zH:wZ}{D D':Nat->dw}{T T':eB}{gs R:Array aX}{v v':ay}{n i:Nat}{g:aX}{sl dK:Option<|Nat×Nat}
theorem Ok.add{p:Nat}{s:St}{a J:aX}(H:Ok K 0 s a)(hl:K.live=Y)(V:s.md=.opn p)(hp:p<=1)(hV:V2 s.gs.size s.D+p<=1)(hS:U2 K.P K.L K.Wg J a s.v):∃t,s.runs K.P t/\Ok K 0 t J/\t.md=.opn (p+1)/\t.role=s.role/\t.ch=s.ch/\t.gs.size=s.gs.size/\Left s.cl (.=0) s.v t.v/\(∀b,b<s.v.heap.size->t.cl b=s.cl b)/\(t.D 0).own=(s.D 0).own/\∀n,V2 n t.D<=V2 n s.D:=by have U:=H.hold;rw[V]at U;obtain⟨N,z,cl',D',T',R,v',dK,r1,E,H',G,hd⟩:=cP.add U hl hp hV H.mw H.deaf hS s.sl;obtain⟨rfl,q⟩:=G.calm H.vN;exact⟨⟨s.role,.opn<|p+1,s.ch,cl',D',T',R,v',dK⟩,⟨N,r1⟩,⟨H',E,q,G.stage.trans H.nine,hd,⟨_,rfl⟩,H.ro⟩,rfl,rfl,rfl,G.size,G.left,G.cls,G.own,λn=>CE G.iu⟩
end
section
open Go.Proofs Go.Conc Go.RowKit Go.Conc.Lib Go.ConcR.Gen
open Go.ConcN (upd upd_ne upd_same WgLive)
open Go.ConcR (KK WgAt stA smA wgBlock rd wr mk Bk)
theorem Oi{P}{f}{fn}{args}{w}(es)(b:P.funcs[f]?=U fn)(a:(fn.name== "runtime.NumGoroutine")=ai)(e:fn.body.isNone=ai):(iA f args).events P w es=es:=by
 have d:¬fn.name= "runtime.NumGoroutine":=by grind
 have c:¬fn.body=Z:=by grind
 simp[iA,b,d,c]
def Fe(Wg:Nat):Prop:=∀(qz:aZ)(qB:Act)(lT:Array dJ)(qn:Nat)(pZ:List Nat)(qf:List eY)(cs:List aZ)(w:ay),jK dQ.tWg Wg w->U2 aF dQ Wg (G (qz.at (qB.put (lT[qn]?.bind (·.dst))<|bO #[])<|aT lT pZ::qf) cs) (G ((bh dQ.add).at ⟨#[aG<|U ⟨Wg,0,Z⟩,V aC 1,ak,ak,ak,ak,ak,ak,ak,ak,ak,ak,ak,ak,ak,ak,ak,ak,ak,ak,ak,ak,ak,ak,ak,ak,ak,ak,ak,ak,ak,ak,ak,ak,ak,ak,ak,ak,ak,ak,ak,ak,ak,ak,ak,ak,ak,ak,ak,ak,ak,ak,ak,ak,ak,ak,ak,ak,ak,ak,ak,ak,ak,ak,ak,ak,ak,ak,ak,ak,ak,ak,ak,ak,ak,ak,ak,ak,ak,ak,ak,ak,ak,ak,ak,ak,ak,ak,ak,ak,ak,ak,ak,ak,ak,ak,ak,ak,ak,ak,ak,ak,ak,ak,ak,ak,ak,ak,ak,ak,ak,ak,ak,ak,ak,ak,ak],[]⟩ [bF<|body_add dQ])<|qz.at qB (aT lT (qn::pZ)::qf)::cs) w
theorem adl{P}{main}{b:aZ}{a}{k}{cs}{ops}{i}{rest}{o}{d}{f}{c}(w)(h:ops[i]?=U o)(e:eX o (eu ops a.tmps)=Y)(g:b.kind≠.early)(j:(cX a.eval o).run P w=aY (.spawn d) w)(m:d.target=.fn f c)(l:(cX a.eval o).events P w #[]=#[]):cj P main (G (b.at a<|aT ops (i::rest)::k) cs) w=.spawn (G (b.at (a.put o.dst ak)<|aT ops rest::k) cs) (born P d) w #[]:=by rw[stepG_spawn h e g j m,oX l]
theorem afR:(f54.name== "runtime.NumGoroutine")=ai:=by kernel_rfl
section
variable {K:fG} {C:List aZ}
theorem ap5(B:K.P=aF)(S:K.L=dQ){Q:Prop}{s}{a b e8 e9 x1 y1 x2 y2 O}{m}{T}(hT:T.size=87)(hs:T[0]?=U (.pointer a)/\T[1]?=U (.pointer<|U b)/\T[2]?=U m/\T[6]?=U (.int .i64 0)/\T[7]?=U (.int .i64 0)/\T[8]?=U (.pointer e8)/\T[9]?=U (.pointer e9)/\T[10]?=U (.pointer O))(hc:s.v.heap[e8]?=U (.cells #[.chan x1,.chan y1] 114)/\s.v.heap[e9]?=U (.cells #[.chan<|U x2,.chan<|U y2] 114))(v:e8∈(s.D 0).own/\e9∈(s.D 0).own/\e9≠e8)(H:Ok K 0 s<|G ((bh 41).at ⟨T,[]⟩ [.code<|cS 4]) C)(hl:K.live=Y)(sr:K.Wg=O){p}(nA:s.md=.opn p)(hp:p<=1)(hV:∀n,V2 n s.D+p<=1)(hA:Fe K.Wg)(hQ:∀t q r gG gA,s.runs K.P t->Ok K 0 t gG->gG.status=.running->(∀M,cj aF Y gG M=.spawn gA (born aF ⟨.fn (.func 56) #[.pointer O,.pointer<|U ⟨q,0,Z⟩,.pointer<|U ⟨r,0,Z⟩],#[]⟩) M #[])->t.md=.opn (p+1)->(t.role=s.role/\t.ch=s.ch/\t.gs.size=s.gs.size/\Left s.cl (λ_=>False) s.v t.v/\(∀x,x<s.v.heap.size->t.cl x=s.cl x)/\∀n,V2 n t.D<=V2 n s.D)->((∀x∈(s.D 0).own,x∈(t.D 0).own)/\∀x∈(s.D 0).own,t.v.heap[x]?=s.v.heap[x]?)->q∈(t.D 0).own/\r∈(t.D 0).own/\s.v<=q/\q<r->t.v.heap[q]?=U (.cells #[.chan<|U x1,.chan<|U y1] 114)/\t.v.heap[r]?=U (.cells #[.func (.func 59) #[.pointer<|U a] #[]] 126)->(∃n l,(∀w,cK aF Y (L<|[]++[]) (DH [] []) (λg w=>g=G ((bh 41).at ⟨l,[]⟩ [.code<|cS 6]) C) n gA w)/\l.size=87/\l[0]?=U (.pointer a)/\l[1]?=U (.pointer b)/\l[2]?=U m/\l[6]?=U (.int .i64 0)/\l[7]?=U (.int .i64 0)/\l[8]?=U (.pointer e8)/\l[9]?=U (.pointer e9)/\l[10]?=U (.pointer O)/\l[11]?=U (.func (.func 54) #[] #[.pointer O]))->True->Q):Q:=by
 obtain⟨v0,v1,v2,v3,v4,v5,v6,v7,v8,v9,v10,v11,v12,lR,oL,Fp,oK,oJ,CW,mq,v20,v21,Fo,pW,v24,P3,PZ,PY,v28,HU,v30,v31,uq,Fj,Vs,pV,Vr,v37,pU,pS,v40,pR,pQ,pP,HG,nU,v46,pO,pM,v49,PX,v51,Vq,v53,xq,pL,nT,Vp,PW,v59,nS,pK,pJ,Vo,nQ,PV,nP,Vn,Vm,Vl,v70,PU,v72,Fi,Vk,v75,v76,xp,Hz,Fh,v80,Vj,PT,nO,Vi,v85,Vh,rfl⟩:=pD T hT;simp only[oW,qR,oV,ew]at hs;obtain⟨rfl,rfl,rfl,rfl,rfl,rfl,rfl,rfl⟩:=hs;simp only[cS,eN,oB,fV]at H;refine H.walk_to [] [e8,e9] rfl (by simp) (λb W=>?_) ⟨660,?_⟩
 .simp only[dj,dP,dY]at W;rcases W with rfl|rfl;.exact⟨(H.hold.inv.own 0 _ v.1).2,.inl (H.hold.inv.own 0 _ v.1).1⟩
  .exact⟨(H.hold.inv.own 0 _ v.2.1).2,.inl (H.hold.inv.own 0 _ v.2.1).1⟩
 rw[B];have i:=hc;refine lift ?_;u_c D j0 i;u_reg j0 i;u_op j0 i;u_op j0 i;u_c N j0 i;u_c D j0 i;u_reg j0 i;u_op j0 i;refine I λ_ f=>?_;replace i:=j0 i f;clear f;u_in j0 i;refine gh rfl rfl (by k_ne) λK u=>?_;have sk:=gB (o:=0) i.1 rfl;have sj:=gB (o:=1) i.1 rfl;go_simp;refine u _ _ ⟨⟨rfl,rfl,rfl,rfl,λ_ _=>rfl,λe he=>?_⟩,?_⟩;.have c:=lH he;simp[go_sem, *]at c;rcases c with rfl|rfl<;>exact⟨_,_,rfl,.inr<|by simp⟩
 clear sk sj u K;refine lift ?_;u_op j0 i;u_op j0 i;refine I λ_ f=>?_;replace i:=j0 i f;u_in j0 i;refine Jw rfl rfl (by k_ne) λK E u hE=>?_;go_simp;refine hE _ _ _ ⟨⟨rfl,rfl,rfl,rfl,λ_ _=>rfl,λe he=>?_⟩,?_⟩;.have c:=lH he;have hz:=λargs w es=>Oi (P:=aF) (args:=args) (w:=w) es func54 afR rfl;simp[go_sem,hz]at c
 clear u hE K E;rw[BE _ func54 rfl];walk_nrmf f54;refine dL ?_;u_c D j0 i;u_reg j0 i;refine I λy f=>⟨rfl,λt1 v1 r1 H1 k1 d1 c1=>?_⟩;refine H1.yC rfl rfl (.own 0) (.inl rfl) λq=>?_;co_apply me;co_apply me;co_apply aM;.intro M W hR;rw[B];co_apply wI;refine gh rfl rfl (by k_ne) λK u=>?_;go_simp;exact u _ _ ⟨rfl,rfl,oX<|by simp[go_sem]⟩
 intro t2 r2 H2 k2 n12 n22 XP XN Rs Q3 n72 n82 n92;refine H2.yC rfl rfl (.own 0) (.inl rfl) λr=>?_;co_apply me;co_apply me;co_apply aM;.intro M W hR;rw[B];co_apply wI;refine gh rfl rfl (by k_ne) λK u=>?_;go_simp;exact u _ _ ⟨rfl,rfl,oX<|by simp[go_sem]⟩
 intro t3 r3 H3 k3 n13 n23 XO XM XK XJ n73 n83 n93;refine H3.walk_to [] [] rfl (by simp) (by simp) ⟨660,?_⟩;rw[B];have d:=trivial;refine dL ?_;u_c N A d;u_c D A d;u_reg A d;u_call Fg.f_add(nm_add dQ)addFn A d;refine I λy f=>⟨rfl,λX v4 r4 H4 R d4 c4=>?_⟩;have j:=((k1.trans k2).trans k3).trans R;have Q0:X.md=.opn p:=by rw[j.md,nA]
 have Gw:V2 X.gs.size X.D+p<=1:=bC (ahc (j.v2 _) p)<|hV _;have J:jK dQ.tWg K.Wg X.v:=by have:=H4.hold.inv.live hl;rwa[S]at this
 subst sr;obtain⟨t5,r5,H5,m5,yn,Co,z5,Q2,QW,o5,v5⟩:=H4.add hl Q0 hp Gw (by rw[B,S];exact hA _ _ _ _ _ _ _ _ J);refine H5.walk_to [] [] rfl (by simp) (by simp) ⟨660,?_⟩;rw[B];walk_nrm;refine dL ?_;u_c N A d;u_reg A d;u_op A d;refine I λy f=>⟨rfl,λt6 v6 r6 H6 o d6 c6=>?_⟩;have z:=R.own _<|k3.own _<|Q3 rfl;have Q1:=R.own _<|XJ rfl;have F:=λx k=>by obtain⟨h1,h2⟩:=H4.hold.inv.own 0 x k;exact(o.rest x (cE h2 Q2.size) ((QW x h2).trans h1)<|by simp).trans<|Q2.block x h2<|.inr<|.inr ⟨0,rfl,h1⟩
 refine hQ t6 q r _ _ ?_ H6 rfl (λM=>adl (d:=⟨.fn (.func 56) #[.pointer<|U ⟨K.Wg,0,Z⟩,.pointer<|U ⟨q,0,Z⟩,.pointer<|U ⟨r,0,Z⟩],#[]⟩) M rfl rfl (by k_ne) ?_ rfl ?_) ?_ ?_ ?_ ?_ ?_ ?_ trivial;.rw[<-B]at r1 r4 r6;exact((((r1.trans r2).trans r3).trans r4).trans r5).trans r6
 .simp[go_sem]
 .simp[go_sem]
 .exact o.md.trans m5
 .refine⟨o.role.trans<|yn.trans j.role,c6.trans<|Co.trans<|c4.trans<|XK.trans<|Rs.trans c1,o.size.trans<|z5.trans j.size,(j.left.trans j.cls<|Q2.sub λ_ h=>h.elim).trans (λx k=>(QW x<|cE k j.left.size).trans<|j.cls x k) o.left,λx k=>?_,λn=>bC (o.v2 n)<|bC (v5 n)<|j.v2 n⟩;have h4:=cE k j.left.size;exact(o.cls x<|cE h4 Q2.size).trans<|(QW x h4).trans<|j.cls x k
 .exact⟨λx k=>o.own x<|by rw[o5];exact j.own x k,λx k=>(F x<|j.own x k).trans<|j.rest x (H.hold.inv.own 0 x k).2 (H.hold.inv.own 0 x k).1<|by simp⟩
 .refine⟨o.own _<|by rw[o5];exact z,o.own _<|by rw[o5];exact Q1,?_,?_⟩;.have:=k1.left.size;omega
  .omega
 .exact⟨(F q z).trans<|((k3.trans R).rest q (by omega) XN<|by simp).trans XP,(F r Q1).trans<|(R.rest r (by omega) XM<|by simp).trans XO⟩
 .refine⟨630,?_⟩;co_apply me;co_apply aM;.intro w;refine dL ?_;u_c N A d;u_c Sw A d;u_leave0 func54 A d;u_c N A d;exact I λ_ _=>rfl
  .exact⟨rfl,rfl,rfl,rfl,rfl,rfl,rfl,rfl,rfl,rfl⟩
end
variable{K:fG}{C:List aZ}
theorem ap4(B:K.P=aF)(S:K.L=dQ){Q:Prop}{s}{a b e8 e9 x1 y1 x2 y2 Q0}{m}{T}(hT:T.size=87)(hs:T[0]?=U (.pointer<|U a)/\T[1]?=U (.pointer b)/\T[2]?=U m/\T[6]?=U (.int .i64 0)/\T[7]?=U (.int .i64 0)/\T[8]?=U (.pointer e8)/\T[9]?=U (.pointer e9)/\T[10]?=U (.pointer Q0)/\T[11]?=U (.func (.func 54) #[] #[.pointer Q0]))(hc:s.v.heap[e8]?=U (.cells #[.chan<|U x1,.chan<|U y1] 114)/\s.v.heap[e9]?=U (.cells #[.chan x2,.chan y2] 114))(v:e8∈(s.D 0).own/\e9∈(s.D 0).own/\e9≠e8)(H:Ok K 0 s<|G ((bh 41).at ⟨T,[]⟩ [.code<|cS 6]) C)(hl:K.live=Y)(sr:K.Wg=Q0){p}(nA:s.md=.opn p)(hp:p<=1)(hV:∀n,V2 n s.D+p<=1)(hA:Fe K.Wg)(hQ:∀t q r gG gA,s.runs K.P t->Ok K 0 t gG->gG.status=.running->(∀M,cj aF Y gG M=.spawn gA (born aF ⟨.fn (.func 56) #[.pointer Q0,.pointer<|U ⟨q,0,Z⟩,.pointer<|U ⟨r,0,Z⟩],#[]⟩) M #[])->t.md=.opn (p+1)->(t.role=s.role/\t.ch=s.ch/\t.gs.size=s.gs.size/\Left s.cl (λ_=>False) s.v t.v/\(∀x,x<s.v.heap.size->t.cl x=s.cl x)/\∀n,V2 n t.D<=V2 n s.D)->((∀x∈(s.D 0).own,x∈(t.D 0).own)/\∀x∈(s.D 0).own,t.v.heap[x]?=s.v.heap[x]?)->q∈(t.D 0).own/\r∈(t.D 0).own/\s.v<=q/\q<r->t.v.heap[q]?=U (.cells #[.chan<|U x2,.chan<|U y2] 114)/\t.v.heap[r]?=U (.cells #[.func (.func 59) #[.pointer<|U b] #[]] 126)->(∃n l,(∀w,cK aF Y (L<|[]++[]) (DH [] []) (λg w=>g=G ((bh 41).at ⟨l,[]⟩ [.code<|cS 7]) C) n gA w)/\l.size=87/\l[0]?=U (.pointer a)/\l[1]?=U (.pointer b)/\l[2]?=U m/\l[6]?=U (.int .i64 0)/\l[7]?=U (.int .i64 0)/\l[8]?=U (.pointer e8)/\l[9]?=U (.pointer e9)/\l[10]?=U (.pointer Q0)/\l[11]?=U (.func (.func 54) #[] #[.pointer Q0]))->True->Q):Q:=by
 obtain⟨v0,v1,v2,v3,v4,v5,v6,v7,v8,v9,v10,v11,v12,lR,oL,Fp,oK,oJ,CW,mq,v20,v21,Fo,pW,v24,P3,PZ,PY,v28,HU,v30,v31,uq,Fj,Vs,pV,Vr,v37,pU,pS,v40,pR,pQ,pP,HG,nU,v46,pO,pM,v49,PX,v51,Vq,v53,xq,pL,nT,Vp,PW,v59,nS,pK,pJ,Vo,nQ,PV,nP,Vn,Vm,Vl,v70,PU,v72,Fi,Vk,v75,v76,xp,Hz,Fh,v80,Vj,PT,nO,Vi,v85,Vh,rfl⟩:=pD T hT;simp only[oW,qR,oV,ew]at hs;obtain⟨rfl,rfl,rfl,rfl,rfl,rfl,rfl,rfl,rfl⟩:=hs;simp only[cS,eN,oB,fV]at H;refine H.walk_to [] [e8,e9] rfl (by simp) (λb W=>?_) ⟨660,?_⟩
 .simp only[dj,dP,dY]at W;rcases W with rfl|rfl;.exact⟨(H.hold.inv.own 0 _ v.1).2,.inl (H.hold.inv.own 0 _ v.1).1⟩
  .exact⟨(H.hold.inv.own 0 _ v.2.1).2,.inl (H.hold.inv.own 0 _ v.2.1).1⟩
 rw[B];have i:=hc;refine lift ?_;u_c D j0 i;u_reg j0 i;u_op j0 i;refine I λ_ f=>?_;replace i:=j0 i f;clear f;u_in j0 i;refine gh rfl rfl (by k_ne) λK u=>?_;have sk:=gB (o:=0) i.2 rfl;have sj:=gB (o:=1) i.2 rfl;go_simp;refine u _ _ ⟨⟨rfl,rfl,rfl,rfl,λ_ _=>rfl,λe he=>?_⟩,?_⟩;.have c:=lH he;simp[go_sem, *]at c;rcases c with rfl|rfl<;>exact⟨_,_,rfl,.inr<|by simp⟩
 clear sk sj u K;refine lift ?_;u_op j0 i;u_op j0 i;refine I λ_ f=>?_;replace i:=j0 i f;u_in j0 i;refine Jw rfl rfl (by k_ne) λK E u hE=>?_;go_simp;refine hE _ _ _ ⟨⟨rfl,rfl,rfl,rfl,λ_ _=>rfl,λe he=>?_⟩,?_⟩;.have c:=lH he;have hz:=λargs w es=>Oi (P:=aF) (args:=args) (w:=w) es func54 afR rfl;simp[go_sem,hz]at c
 clear u hE K E;rw[BE _ func54 rfl];walk_nrmf f54;refine dL ?_;u_c D j0 i;u_reg j0 i;refine I λy f=>⟨rfl,λt1 v1 r1 H1 k1 d1 c1=>?_⟩;refine H1.yC rfl rfl (.own 0) (.inl rfl) λq=>?_;co_apply me;co_apply me;co_apply aM;.intro M W hR;rw[B];co_apply wI;refine gh rfl rfl (by k_ne) λK u=>?_;go_simp;exact u _ _ ⟨rfl,rfl,oX<|by simp[go_sem]⟩
 intro t2 r2 H2 k2 n12 n22 XP XN Rs Q3 n72 n82 n92;refine H2.yC rfl rfl (.own 0) (.inl rfl) λr=>?_;co_apply me;co_apply me;co_apply aM;.intro M W hR;rw[B];co_apply wI;refine gh rfl rfl (by k_ne) λK u=>?_;go_simp;exact u _ _ ⟨rfl,rfl,oX<|by simp[go_sem]⟩
 intro t3 r3 H3 k3 n13 n23 XO XM XK XJ n73 n83 n93;refine H3.walk_to [] [] rfl (by simp) (by simp) ⟨660,?_⟩;rw[B];have d:=trivial;refine dL ?_;u_c N A d;u_c D A d;u_reg A d;u_call Fg.f_add(nm_add dQ)addFn A d;refine I λy f=>⟨rfl,λX v4 r4 H4 R d4 c4=>?_⟩;have j:=((k1.trans k2).trans k3).trans R;have O:X.md=.opn p:=by rw[j.md,nA]
 have Gw:V2 X.gs.size X.D+p<=1:=bC (ahc (j.v2 _) p)<|hV _;have J:jK dQ.tWg K.Wg X.v:=by have:=H4.hold.inv.live hl;rwa[S]at this
 subst sr;obtain⟨t5,r5,H5,m5,yn,Co,z5,Q2,QW,o5,v5⟩:=H4.add hl O hp Gw (by rw[B,S];exact hA _ _ _ _ _ _ _ _ J);refine H5.walk_to [] [] rfl (by simp) (by simp) ⟨660,?_⟩;rw[B];walk_nrm;refine dL ?_;u_c N A d;u_reg A d;u_op A d;refine I λy f=>⟨rfl,λt6 v6 r6 H6 o d6 c6=>?_⟩;have z:=R.own _<|k3.own _<|Q3 rfl;have Q1:=R.own _<|XJ rfl;have F:=λx k=>by obtain⟨h1,h2⟩:=H4.hold.inv.own 0 x k;exact(o.rest x (cE h2 Q2.size) ((QW x h2).trans h1)<|by simp).trans<|Q2.block x h2<|.inr<|.inr ⟨0,rfl,h1⟩
 refine hQ t6 q r _ _ ?_ H6 rfl (λM=>adl (d:=⟨.fn (.func 56) #[.pointer<|U ⟨K.Wg,0,Z⟩,.pointer<|U ⟨q,0,Z⟩,.pointer<|U ⟨r,0,Z⟩],#[]⟩) M rfl rfl (by k_ne) ?_ rfl ?_) ?_ ?_ ?_ ?_ ?_ ?_ trivial;.rw[<-B]at r1 r4 r6;exact((((r1.trans r2).trans r3).trans r4).trans r5).trans r6
 .simp[go_sem]
 .simp[go_sem]
 .exact o.md.trans m5
 .refine⟨o.role.trans<|yn.trans j.role,c6.trans<|Co.trans<|c4.trans<|XK.trans<|Rs.trans c1,o.size.trans<|z5.trans j.size,(j.left.trans j.cls<|Q2.sub λ_ h=>h.elim).trans (λx k=>(QW x<|cE k j.left.size).trans<|j.cls x k) o.left,λx k=>?_,λn=>bC (o.v2 n)<|bC (v5 n)<|j.v2 n⟩;have h4:=cE k j.left.size;exact(o.cls x<|cE h4 Q2.size).trans<|(QW x h4).trans<|j.cls x k
 .exact⟨λx k=>o.own x<|by rw[o5];exact j.own x k,λx k=>(F x<|j.own x k).trans<|j.rest x (H.hold.inv.own 0 x k).2 (H.hold.inv.own 0 x k).1<|by simp⟩
 .refine⟨o.own _<|by rw[o5];exact z,o.own _<|by rw[o5];exact Q1,?_,?_⟩;.have:=k1.left.size;omega
  .omega
 .exact⟨(F q z).trans<|((k3.trans R).rest q (by omega) XN<|by simp).trans XP,(F r Q1).trans<|(R.rest r (by omega) XM<|by simp).trans XO⟩
 .refine⟨630,?_⟩;co_apply me;co_apply aM;.intro w;refine dL ?_;u_c N A d;u_c Sw A d;u_leave0 func54 A d;u_c N A d;exact I λ_ _=>rfl
  .exact⟨rfl,rfl,rfl,rfl,rfl,rfl,rfl,rfl,rfl,rfl⟩
end
section
open Go.Proofs Go.Conc
theorem aqh{P:bW}{main:Bool}{b:aZ}{a:Act}{todo:List eY}{cs:List aZ}{w:ay}{c k:Nat}{ds:List Deferred}{E:Array ey}{t:ey}{A:Array Bool}(hd:a.defers=⟨.builtin .close E t A,#[de<|U c]⟩::ds)(J:P.funcs[b.fn]?.any (·.norace)=ai)(hc:w.heap[c]?=U (.chan 1 #[] ai k k ai)):cj P main (G {b.at a todo with mode:=fH} cs) w=bU (G {b.at ⟨a.tmps,ds⟩ todo with mode:=fH} cs) (w.setChan c 1 #[] Y k k ai) (kM c):=by
 have hr:(aa3 E t #[de<|U c]).run P w=aY (bO #[]) (w.setChan c 1 #[] Y k k ai):=run_close_open E t hc;have he:(aa3 E t #[de<|U c]).events P w #[]=kM c:=by rw[events_close_open E t hc];simp[kM]
 have hs:seen P b.fn (kM c)=kM c:=seen_eq J λe he f=>by simp only[kM,fP,dj,dP,dY]at he;rcases he with rfl|rfl<;>simp
 simp[G,cj,unwind,callDeferred,Frame.at,hd,invoke,vj,go_sem,hr,he,hs]
end
section
open Go.Conc
open Go.ConcN (sumTo upd sumTo_upd upd_ne upd_same sumTo_congr le_sumTo WSit WgLive RW PayAt Has DWs EvW ShN AsideCell AtR0 RelBy bk_cell)
open Go.ConcR (KK WgAt stA smA wgBlock rd wr mk Bk)
open Go.Conc.Lib (WgLink)
def i(w w1:ay):Prop:=∃τ d,w1=World.re w τ d
def ug(w w':ay)(es:Array jl):Prop:=i w w'
theorem i.refl(w):i w w:=⟨w.tape,w.drawn,rfl⟩
theorem i.trans(a b c)(h:i a b)(k:i b c):i a c:=by obtain⟨g,d,rfl⟩:=h;obtain⟨f,e,rfl⟩:=k;exact⟨f,e,rfl⟩
theorem i.heap{w w1}(h:i w w1):w1.heap=w.heap:=by obtain⟨a,d,rfl⟩:=h;rfl
def mX(P:bW)(Done:aX->ay->Prop):Prop:=∀g w τ d,Done g w->∃o w1 es,cj P Y g (World.re w τ d)=fx o w1 es
theorem aB7(P)(R):mX P<|AX P R:=by rintro g w a d⟨v,rfl,_⟩;exact Lq v _
def lQ(P:bW)(Done:aX->ay->Prop)(x y:aX×ay):Prop:=x=y\/tU (qF P Done) x y
theorem lQ.refl{P}{Done}(x):lQ P Done x x:=ax rfl
theorem lQ.trans{P}{Done}{x y z}(h:lQ P Done x y)(k:lQ P Done y z):lQ P Done x z:=by
 rcases h with rfl|h;.exact k
 .rcases k with rfl|k;.exact aA h
  .exact aA<|h.trans k
theorem lQ.vF{P}{Done}{x y z}(h:lQ P Done x y)(k:tU (qF P Done) y z):tU (qF P Done) x z:=by
 rcases h with rfl|h;.exact k
 .exact h.trans k
theorem lQ.of{P}{Done}{x y z}(h:tU (qF P Done) x y)(k:lQ P Done y z):tU (qF P Done) x z:=by
 rcases k with rfl|k;.exact h
 .exact h.trans k
variable {P:bW} {Done Stop:aX->ay->Prop} {D:ay->ay->Array jl->Prop} {S:ay->ay->Prop}
theorem Term.goes(v:mX P Done)(j:∀w,S w w)(d:∀a b c,S a b->S b c->S a c)(x:∀a b,i a b->S a b)(y:∀a b m,D a b m->S a b):∀{n:Nat}{g:aX}{w:ay},cK P Y i D Stop n g w->Term P Done g w->∃l Q0,Stop l Q0/\Term P Done l Q0/\lQ P Done (l,Q0) (g,w)/\S w Q0
 |0,g,w,r,p=>⟨g,w,r w<|.refl w,p,.refl _,j w⟩|n+1,g,w,r,p=>by
  rcases r with B|⟨_,h⟩;.exact⟨g,w,B w<|.refl w,p,.refl _,j w⟩
  have k:i w<|World.re w w.tape 0:=⟨_,_,rfl⟩;have q:=h _ k;cases p with|done s=>obtain⟨o,Q0,m,e⟩:=v g w w.tape 0 s;rw[e]at q;exact q.elim|step f I t=>
   obtain⟨⟨m,e⟩,_⟩:=I w.tape;rw[e,eP]at q;obtain⟨C,H⟩:=q;obtain⟨l,Q0,J,A,E,F⟩:=Term.goes v j d x y H<|t w.tape;have u:¬Done g w:=λs=>by obtain⟨o,L,z,K⟩:=v g w w.tape 0 s;grind
   exact⟨l,Q0,J,A,E.trans<|aA<|.single ⟨u,w.tape,m,e⟩,d _ _ _ (x _ _ k)<|d _ _ _ (y _ _ _ C) F⟩
theorem Term.FC(l:mX P Done){g}{w}(h:∀b,∀j d a,cj P Y g (World.re w b 0)≠bU j d a)(c:¬Done g w)(t:Term P Done g w):False:=by cases t with|done k=>grind|step f i t=>obtain⟨⟨a,e⟩,_⟩:=i w.tape;grind
variable {K:fG} {ρ:Nat->Nat} {I:H} {cl:Nat->fa} {w w1 v:ay}
theorem fL.re(M:fL ρ I K.P cl w v)(h:i w w1):fL ρ I K.P cl w1 v:=by obtain⟨a,d,rfl⟩:=h;exact⟨M.os,M.fair,M.low,M.blk,M.kx,M.B7,M.cls,M.arg⟩
variable{K:fG}{role:Nat->Option fC}{h j:Nat}
structure vt(K:fG)(s:St)(a:aX):Prop where
 hold:cP K s.role 0 s.md s.ch s.cl (.hold 0) s.D s.T s.gs s.v
 mw:s.gs[0]?=U a
 deaf:(s.D 0).deaf=0
 nine:(s.D 0).stage=9
 opn:∃p,s.md=.opn p
theorem Ok.Fy{s}{a}(H:Ok K 0 s a):vt K s a:=⟨H.hold,H.mw,H.deaf,H.nine,H.opn⟩
structure KY(O:List Nat)(s t:St):Prop where
 size:t.gs.size=s.gs.size
 role:t.role=s.role
 md:t.md=s.md
 left:Left s.cl (λ_=>False) s.v t.v
 cls:∀b,b<s.v.heap.size->t.cl b=s.cl b
 rest:Rest 0 O s.cl s.v t.v
 D0:t.D 0=s.D 0
 eZ:∀j r,s.role j=U r->j≠0->t.ch r.aO.c=s.ch r.aO.c
 outs:∀j r,s.role j=U r->j≠0->(t.D j).stage=9->t.ch r.out=s.ch r.out/\(s.D j).stage=9
theorem KY.trans{O}{s t u}(a:KY O s t)(b:KY O t u):KY O s u:=⟨b.size.trans a.size,b.role.trans a.role,b.md.trans a.md,a.left.trans a.cls b.left,λx e=>(b.cls x<|cE e a.left.size).trans<|a.cls x e,a.rest.trans a.left.size a.cls b.rest,b.D0.trans a.D0,λj r c d=>(b.eZ j r (by rw[a.role];exact c) d).trans<|a.eZ j r c d,λj r c d f=>by obtain⟨x,y⟩:=b.outs j r (by rw[a.role];exact c) d f;obtain⟨z,t⟩:=a.outs j r c d y;grind⟩
theorem vt.walk_to{Q}{s}{a}(H:vt K s a)(O Rd)(J:∀b∈O,b∈(s.D 0).own)(d:∀b∈Rd,b<s.v.heap.size/\(s.cl b=.own 0\/s.cl b=.eV))(f:∃n,cK K.P Y (L<|O++Rd) (DH O Rd) (λg w=>g.status=dU/\∀t,t.v=w->s.runs K.P t->vt K t g->KY O s t->Q) n a s.v):Q:=by obtain⟨n,f⟩:=f;obtain⟨N,m,l,k,B,F,e,C,y,Q0,I,u,q,E,G,p,R⟩:=cP.walk (h:=0) (λg w x=>x.1) (λ_=>rfl) n (sl:=s.sl) H.hold H.mw f J (λb A=>⟨(d b A).1,(d b A).2.imp id λx=>⟨x,rfl⟩⟩) (λx=>absurd rfl x) H.deaf;have c:=G.qd H.opn;exact q.2 ⟨s.role,m,l,k,B,F,e,C,y⟩ rfl ⟨N,I⟩ ⟨E,u,(congrArg dw.deaf p).trans H.deaf,(congrArg dw.stage p).trans H.nine,⟨_,c.trans H.opn.choose_spec⟩⟩ ⟨G.size,rfl,c,G.left,G.cls,R,p,λj r i o=>G.eZ j r i o,λj r i o z=>⟨G.outs j r i z,G.iv j o z⟩⟩
structure kO(role:Nat->Option fC)(i1 i2:Nat)(r1 r2:fC):Prop where
 one:role i1=U r1
 two:role i2=U r2
 all:∀i r,role i=U r->i=0\/i=i1\/i=i2
 ne:i1≠i2
 yu:i1≠0
 nY:i2≠0
 cc:r1.aO.c≠r2.aO.c
 O5:r1.aO.c≠r1.out
 KH:r1.aO.c≠r2.out
 KG:r2.aO.c≠r1.out
 Cr:r2.aO.c≠r2.out
 oo:r1.out≠r2.out
theorem kO.swap{c d}{b a}(p:kO role c d b a):kO role d c a b:=⟨p.two,p.one,λi r e=>(p.all i r e).imp id Or.symm,p.ne.symm,p.nY,p.yu,p.cc.symm,p.Cr,p.KG,p.KH,p.O5,p.oo.symm⟩
theorem kO.Ff{d e}{c b}(p:kO role d e c b){i}{r}(a:role i=U r)(f:i≠0):i=d/\r=c\/i=e/\r=b:=by
 rcases p.all i r a with h|rfl|rfl;.grind
 .rw[p.one]at a;grind
 .rw[p.two]at a;grind
theorem vt.akT{Q:Prop}{s}{a g'}(H:vt K s a)(hl:K.live=Y){i1 m}{r1 f}(p:kO s.role i1 m r1 f)(z:i1<s.gs.size)(o:a.status=dU)(y:mayWake K.P a=Y)(A:g'.status=dU)(g:∀u k,u.heap[r1.aO.c]?=U (.chan 1 #[] ai k k ai)->cj K.P Y a u=bU g' (u.setChan r1.aO.c 1 #[] Y k k ai) (kM r1.aO.c)){k}(hc:s.ch r1.aO.c=U ⟨Z,ai,k⟩)(W:(s.D i1).stage=9->∃k,s.ch r1.out=U ⟨Z,ai,k⟩)(hQ:∀t,s.runs K.P t->vt K t g'->t.role=s.role->t.md=s.md->t.gs.size=s.gs.size->Left s.cl (λ_=>False) s.v t.v->(∀b,b<s.v.heap.size->t.cl b=s.cl b)->L (s.D 0).own s.v t.v->(t.D 0).own=(s.D 0).own->t.ch r1.aO.c=U ⟨Z,Y,k⟩->t.ch f.aO.c=s.ch f.aO.c->((t.D m).stage=9->t.ch f.out=s.ch f.out/\(s.D m).stage=9)->Q):Q:=by
 obtain⟨N,C,E,B,Q1,T',x,X,M,q1,q2,q3,I,c,J,l,T,w,F⟩:=H.hold.aCO (j:=i1) (r:=r1) (k:=k) hl H.mw o y A (λu S=>g u k S) hc p.yu p.one z (λi R d q e=>by
   rcases p.Ff d q with⟨rfl,rfl⟩|⟨rfl,rfl⟩;.rfl
   .exact absurd e.symm p.cc) (λi R d q e=>by
   rcases p.Ff d q with⟨rfl,rfl⟩|⟨rfl,rfl⟩;.exact p.O5 e.symm
   .exact p.KH e.symm) (λi i' r R Q0 d q Q2 e=>by
   rcases p.Ff Q0 q with⟨rfl,rfl⟩|⟨rfl,rfl⟩<;>rcases p.Ff d Q2 with⟨rfl,rfl⟩|⟨rfl,rfl⟩;.exact p.O5 e
   .exact p.KG e
   .exact p.KH e
   .exact p.Cr e) W H.deaf s.sl;have n:=w.md H.opn;refine hQ ⟨s.role,C,E,B,Q1,T',x,X,M⟩ ⟨N,q1⟩ ⟨q2,q3,(congrArg dw.deaf I).trans H.deaf,(congrArg dw.stage I).trans H.nine,⟨_,n.trans H.opn.choose_spec⟩⟩ rfl n w.size w.left w.cls F (congrArg dw.own I) c (J m f p.two p.nY p.ne.symm) λO=>⟨l m f p.two p.nY O,T m p.nY O⟩
theorem vt.am6{Q:Prop}{s}{a S}(H:vt K s a)(y:K.live=Y)(B:s.md=.opn 0)(hs:A1 s.role s.ch)(ho:Over K.n0 s.T)(o7:∀i r,s.role i=U r->i<s.gs.size){Hd}(q:∀g w,Hd g w->∃m,GQ K.P K.L K.Wg (U0 K.P K.L K.Wg Hd S) m g w)(C:alN K.P K.L K.Wg Hd a s.v)(hQ:∀e t,s.runs K.P t->Ok e 0 t S->e.P=K.P->e.L=K.L->e.live=ai->Over e.n0 t.T->t.T.HandedOver->(∀i,t.role i=Z)->t.md=.opn 0->Left s.cl (λ_=>False) s.v t.v->(∀b,b<s.v.heap.size->∀c,c=.eV\/c=.old->s.cl b=c->t.cl b=c)->t.gs.size=s.gs.size->Q):Q:=by have L:=H.hold;rw[B]at L;obtain⟨m,C⟩:=C;obtain⟨N1,T,pA,gW,D1,T1,J,v1,pY,a1,fn1,pl1,O,q2,⟨m2,q3⟩,q4,f,q6,q7,q8⟩:=L.LS y H.mw (ax rfl) C s.sl;have k:=q7 ⟨0,rfl⟩;subst k;obtain⟨N2,qy,lN,D2,T2,wH,v2,u,a2,V,w2,w3,X,n,W,w7⟩:=cP.waitLoop y q (V2 J.size D1) (sl:=pY) (aS _) q4 (hs.later f.eZ) q2 (by rw[q6,H.deaf];rfl) q3;obtain⟨u1,e1⟩:=LU N1 _ _ _ _ O;obtain⟨u2,e2⟩:=LU N2 _ _ _ _ V;have F:=n.size.trans f.size;obtain⟨N3,e,E,R,T3,x,v3,A,z1,z2,z3,z4,Q0,z6,z7,z8,z9,z,M,D,N⟩:=X.joined y (by rw[e2,e1];exact(ho.app _).app _) λi r hr=>by grind w2 w3 W (λi I p=>w7 i I<|by rw[<-n.size];exact p) u;have d:=λb l=>(n.cls b<|cE l f.left.size).trans<|f.cls b l;have o:Left s.cl (λ_=>False) s.v v2:=(f.left.sub λ_ h=>h.elim).trans f.cls<|n.left.sub λ_ h=>h.elim;refine hQ e ⟨λ_=>Z,.opn 0,λ_=>Z,E,R,T3,x,v3,A⟩ ⟨_,runNT_then O<|runNT_then V z1⟩ ⟨z3,z2,λ_ _ h=>(by cases h),?_,D,⟨0,rfl⟩,λ_=>rfl⟩ z4 Q0 z6 z7 z8 (λ_=>rfl) rfl (o.trans d z9) (λb l c hx I=>z b (cE l o.size) c hx<|(d b l).trans I)<|N.trans F;show(R 0).stage=9;rw[M,n.stage,f.stage];exact H.nine
theorem Ok.asd{Q:Prop}{s}{a}{j n}{g h rm}(H:Ok K j s a)(W:K.live=Y)(p:kO s.role j n g h)(y:s.role 0=U rm)(E:rm.aO.c=g.out)(I:zG K.P K.L K.Wg g (s.D j).own a s.v)(R:g.C∈(s.D j).own){k k1}(T:s.ch g.out=U ⟨Z,ai,k⟩)(r:s.ch g.aO.c=U ⟨Z,ai,k1⟩)(O:rm.out≠g.out)(X:∀t m,s.runs K.P t->vt K t (kN m<|recvd rm.aO.ok rm.aO.z ai)->rm.aO.home (t.D 0).own m t.v->t.role=s.role->t.md=s.md->t.gs.size=s.gs.size->Left s.cl (λ_=>False) s.v t.v->(∀b,b<s.v.heap.size->t.cl b=s.cl b)->t.ch g.aO.c=s.ch g.aO.c->t.ch h.aO.c=s.ch h.aO.c->(t.D j).stage≠9->((t.D n).stage=9->t.ch h.out=s.ch h.out)->Q):Q:=by
 obtain⟨N,w,x,u,M,C,o,S,B,m,q,F⟩:=H.hold.asg (rm:=rm) (k:=k) (kr:=k1) H.vN W p.one y p.yu I H.mw E T H.nine H.deaf R (λi A f L e=>by
   rcases p.all i A f with rfl|rfl|rfl;.rfl
   .grind
   .rw[p.two]at f;cases f;exact absurd e p.KG) (λi A f L e=>by
   rcases p.all i A f with rfl|rfl|rfl;.grind
   .grind
   .rw[p.two]at f;cases f;exact p.oo e.symm) H.hold.inv.zero r s.sl;have l:=F.passed.md H.opn;refine X ⟨s.role,w,x,u,M,C,o,S,B⟩ m ⟨N,q⟩ ⟨F.hold,F.mw,F.deaf,F.nine,⟨_,l.trans H.opn.choose_spec⟩⟩ F.home rfl l F.passed.size F.passed.left F.passed.cls ?_ ?_ (λe=>?_) λJ=>?_;.have e:=F.eZ j g p.one;rw[cT s.ch _ p.O5]at e;exact e
 .have e:=F.eZ n h p.two;rw[cT s.ch _ p.KG]at e;exact e
 .have:=F.iv j e;grind[upd_same]
 .have e:=F.outs n h p.two J;rw[cT s.ch _ p.oo.symm]at e;exact e
end
section
open Go.Proofs Go.Conc Go.RowKit Go.Conc.Lib Go.ConcR.Gen
open Go.ConcN (upd upd_ne upd_same WgLive)
open Go.ConcR (KK WgAt stA smA wgBlock rd wr mk Bk)
noncomputable def bot:aZ:={(default:aZ)with fn:=aF.funcs.size,defers:=[],mode:=.panicking [goexitEntry]}
def KN:aZ:=baseD 56
noncomputable def abp:Code:=Oy.body.getD .skip
def call56(bw b2 b3:Nat):Deferred:=⟨.fn (ez 56) #[aG<|U ⟨bw,0,Z⟩,aG<|U ⟨b2,0,Z⟩,aG<|U ⟨b3,0,Z⟩],#[]⟩
theorem aDn(b a b3)(w):cj aF ai (born aF<|call56 b a b3) w=bU (G (KN.at ⟨#[aG b,aG a,aG b3,ak,ak,ak],[]⟩ [bF abp]) [bot]) w #[]:=by simp[born,call56,cj,unwind,callDeferred,invoke,iA,func56,Oy,seen,vj,G,eW,Frame.at,KN,baseD,bot,abp]
theorem atP(T):QuitsD aF 2 0<|G {KN.at ⟨T,[]⟩ []with mode:=fH} [bot]:=by
 refine QuitsD.ctl (g':=G bot []) rfl (λw=>?_) ?_;.simp[G,cj,unwind,oz,kA,Frame.at,KN,baseD,bot,func56,Oy,seen,vj,goexitEntry]
 refine QuitsD.ctl (g':={G bot []with status:=.finished}) rfl (λw=>?_) ⟨rfl,rfl⟩;simp[G,cj,unwind,bot,goexitEntry,Frame.catches];rfl
theorem uA{x y}{o o'}{w w1}(h:w.heap[x]?=U o/\w.heap[y]?=U o')(r:L [x,y] w w1):w1.heap[x]?=U o/\w1.heap[y]?=U o':=⟨(r.1 x<|by simp).trans h.1,(r.1 y<|by simp).trans h.2⟩
theorem avd:(EG.name== "runtime.NumGoroutine")=ai:=by kernel_rfl
noncomputable def jy(a:eT):az:=dM (ez 59) #[aG<|U a] #[]
noncomputable def afr:Array dJ:=match Oy.body.getD .skip with|eI _<|ec _ ops _=>ops|_=>#[]
noncomputable def uo(bw b2 b3 x1 y1:Nat)(a:eT):List aZ:=[KN.at ⟨#[aG<|U ⟨bw,0,Z⟩,aG<|U ⟨b2,0,Z⟩,aG<|U ⟨b3,0,Z⟩,bJ #[de<|U x1,de<|U y1],jy a,ak],[dcall 57 #[aG<|U ⟨bw,0,Z⟩]]⟩ [aT afr [2]],bot]
def Ua(y:Nat):Deferred:=⟨.builtin .close #[112] 0 #[ai],#[de<|U y]⟩
theorem aqi{P}{main}{b:aZ}{a}{k}{cs}{w}{ops}{i}{rest}{o}{t}{c}(h:ops[i]?=U o)(g:eX o (eu ops a.tmps)=Y)(m:b.kind≠.early)(e:o.op=.defer {callee:=.builtin .close,args:=#[cx t],argTypes:=c}):cj P main (G (b.at a<|aT ops (i::rest)::k) cs) w=bU (G (b.at (cA ⟨a.tmps,⟨.builtin .close c o.type #[ai],#[a.eval<|cx t]⟩::a.defers⟩ o.dst ak)<|aT ops rest::k) cs) w #[]:=by
 have j:(cX a.eval o).run P w=aY (.defer ⟨.builtin .close c o.type #[ai],#[a.eval<|cx t]⟩) w:=by unfold cX;simp[e,resolve]
 have l:(cX a.eval o).events P w #[]=#[]:=by unfold cX;simp[e,resolve]
 have d:(b.at ⟨a.tmps,⟨.builtin .close c o.type #[ai],#[a.eval<|cx t]⟩::a.defers⟩<|aT ops (i::rest)::k).finish ak=b.at (cA ⟨a.tmps,⟨.builtin .close c o.type #[ai],#[a.eval<|cx t]⟩::a.defers⟩ o.dst ak) (aT ops rest::k):=by grind[Frame.finish_at]
 have f:(b.kind==CallKind.early)=ai:=by grind
 rw[Sv h g,<-d];simp[wN,j,l,G,Frame.at,f,vj,seen_none]
theorem aeQ{main}{b:aZ}{T}{ds}{k}{cs}{ops}{i}{rest}{o}{t}{x}(f:ops[i]?=U o)(d:eX o (eu ops T)=Y)(e:b.kind≠.early)(a:o.op=.recv 112 (cx t) Y)(c:T[t]?=U (de<|U x))(w):cj aF main (G (b.at ⟨T,ds⟩<|aT ops (i::rest)::k) cs) w=.comm (G (b.at ⟨T,ds⟩<|aT ops (i::rest)::k) cs) #[rcase x<|aE Z 0 0] Y (.recv Y) w #[]:=by
 have g:(cX (er ⟨T,ds⟩) o).run aF w=aY (.comm #[rcase x<|aE Z 0 0] Y<|.recv Y) w:=by unfold cX;simp[a,go_sem,c,rcase]
 have h:(cX (er ⟨T,ds⟩) o).events aF w #[]=#[]:=by unfold cX;simp[a,go_sem,c]
 rw[stepG_comm f d e g,oX h]
theorem aea{main}{b:aZ}{T}{ds}{k}{cs}{ops}{i}{rest}{o}{t u}{x}{v}(g:ops[i]?=U o)(e:eX o (eu ops T)=Y)(f:b.kind≠.early)(a:o.op=.send (cx t) (cx u))(d:T[t]?=U (de<|U x))(c:T[u]?=U v)(w):cj aF main (G (b.at ⟨T,ds⟩<|aT ops (i::rest)::k) cs) w=.comm (G (b.at ⟨T,ds⟩<|aT ops (i::rest)::k) cs) #[scase x v<|bO #[]] Y .send w #[]:=by
 have h:(cX (er ⟨T,ds⟩) o).run aF w=aY (.comm #[scase x v<|bO #[]] Y .send) w:=by unfold cX;simp[a,go_sem,d,c,scase]
 have j:(cX (er ⟨T,ds⟩) o).events aF w #[]=#[]:=by unfold cX;simp[a,go_sem,d,c]
 rw[stepG_comm g e f h,oX j]
noncomputable def Br:Code:=match eN 3 (EG.body.getD .skip)with|.block _<|.loop c=>c|c=>c
noncomputable def Ri:Array dJ:=match Br with|eI (ec _ ops _) _=>ops|_=>#[]
noncomputable def SA:List eY:=[bF<|eN 1 Br,.inLoop Br,mh 0]
def Zt(C:List aZ)(a:eT)(b3 x1 y1:Nat)(O:List Nat)(g2:aX)(w:ay):Prop:=∃bx T,g2=G ((bh 58).at ⟨T,[Ua y1]⟩<|aT Ri [0,1]::SA) C/\T.size=21/\(T[1]?=U (jy a)/\T[2]?=U (aG<|U ⟨bx,0,Z⟩)/\T[9]?=U (de<|U x1))/\(w.heap[bx]?=U (aH #[de<|U x1,de<|U y1] 114)/\w.heap[b3]?=U (aH #[jy a] 126))/\bx∈O/\b3∈O
def KC(C:List aZ)(a:eT)(b3 x1 y1:Nat):Ht where c:=x1;z:=aE Z 0 0;ok:=Y;home:=Zt C a b3 x1 y1;LD O g w w1 r h:=by obtain⟨bx,T,h1,h2,h3,⟨h4,U⟩,J,E⟩:=h;exact⟨bx,T,h1,h2,h3,⟨(r.1 bx J).trans h4,(r.1 b3 E).trans U⟩,J,E⟩
theorem alu{C}{a}{b b3 x1 c}{O}{w}{T}(g:T.size=21)(hs:T[1]?=jy a/\T[2]?=U (.pointer b)/\T[9]?=U (.chan x1))(d:(w.heap[b]?=U (.cells #[.chan x1,.chan c] 114)/\w.heap[b3]?=U (.cells #[jy a] 126))/\b∈O/\b3∈O):∃e,AtR aF ai (KC C a b3 x1 c) O (G ((bh 58).at ⟨T,[Ua c]⟩<|.inRegion Ri [0,1]::SA) C) e w:=⟨_,rfl,rfl,rfl,rfl,⟨b,T,rfl,g,hs,d.1,d.2⟩,λf=>aeQ rfl rfl (by k_ne) rfl hs.2.2 f⟩
theorem iU{x y}{O}{o o'}{w w1}(h:(w.heap[x]?=U o/\w.heap[y]?=U o')/\x∈O/\y∈O)(r:L O w w1):(w1.heap[x]?=U o/\w1.heap[y]?=U o')/\x∈O/\y∈O:=⟨⟨(r.1 x h.2.1).trans h.1.1,(r.1 y h.2.2).trans h.1.2⟩,h.2⟩
theorem aA5{C}{a}{d b3 x1 j}{O}{ops}{w}(b:(w.heap[d]?=U (.cells #[.chan x1,.chan j] 114)/\w.heap[b3]?=U (.cells #[jy a] 126))/\d∈O/\b3∈O):cK aF ai (L O) (DO O) (λg w=>∃m,AtR aF ai (KC C a b3 x1 j) O g m w) 40 (G ((bh 58).at ⟨#[.agg #[.chan x1,.chan j],jy a,.pointer<|U ⟨d,0,Z⟩,ak,ak,ak,ak,ak,ak,ak,ak,ak,ak,ak,ak,ak,ak,ak,ak,ak,ak],[]⟩ [.inRegion ops [],.code<|eN 1<|EG.body.getD .skip]) C) w:=by
 simp only[eN,EG,fV];refine kG (n:=4) ?_;u_c N iU b;u_c D iU b;u_reg iU b;u_op iU b;refine I λ_ c=>?_;replace b:=iU b c;u_in iU b;refine gh rfl rfl (by k_ne) λK f=>?_;have l:=gB (o:=1) b.1.1 rfl;go_simp;refine f _ _ ⟨⟨rfl,rfl,rfl,rfl,rfl,λ_ _=>rfl,λe i=>?_⟩,?_⟩;.have h:=lH i;simp[go_sem, *]at h;grind
 u_in iU b;rw[aqi rfl rfl (by k_ne) rfl];simp only[eP];refine⟨aaW<|by simp,?_⟩;walk_nrm;refine kG (n:=4) ?_;u_c N iU b;u_c D iU b;u_reg iU b;u_op iU b;refine I λ_ c=>?_;replace b:=iU b c;u_in iU b;refine gh rfl rfl (by k_ne) λK f=>?_;have k:=gB (o:=0) b.1.1 rfl;go_simp;refine f _ _ ⟨⟨rfl,rfl,rfl,rfl,rfl,λ_ _=>rfl,λe i=>?_⟩,?_⟩;.have h:=lH i;simp[go_sem, *]at h;grind
 refine dL ?_;u_c N iU b;u_c stepG_block iU b;u_c stepG_loop iU b;u_c D iU b;u_reg iU b;refine I λo n=>?_;exact alu rfl ⟨rfl,rfl,rfl⟩<|iU b n
theorem api{a}{m f b3 x1 k}{w}(b:w.heap[f]?=U (.cells #[.chan x1,.chan k] 114)/\w.heap[b3]?=U (.cells #[jy a] 126)):cK aF ai (L [f,b3]) (DO [f,b3]) (AtB aF (KC (uo m f b3 x1 k a) a b3 x1 k) 40 [f,b3]) 30 (born aF<|call56 m f b3) w:=by
 refine Goes.step rfl λn c=>?_;replace b:=uA b c;rw[aDn];refine⟨aaW<|by simp,?_⟩;simp only[abp,Oy,fV];refine kG (n:=5) ?_;u_c D uA b;u_reg uA b;u_defer uA b;u_c N uA b;u_reg uA b;refine I λ_ c=>?_;replace b:=uA b c;u_in uA b;refine gh rfl rfl (by k_ne) λK d=>?_;have j:=gB (o:=0) b.1 rfl;have o:=gB (o:=1) b.1 rfl;go_simp;refine d _ _ ⟨⟨rfl,rfl,rfl,rfl,rfl,λ_ _=>rfl,λe i=>?_⟩,?_⟩;.have g:=lH i;simp[go_sem, *]at g;grind
 u_in uA b;refine gh rfl rfl (by k_ne) λK d=>?_;have j:=gB (o:=0) b.2 rfl;go_simp;refine d _ _ ⟨⟨rfl,rfl,rfl,rfl,rfl,λ_ _=>rfl,λe i=>?_⟩,?_⟩;.have g:=lH i;simp[go_sem, *]at g;grind
 u_in uA b;refine Jw rfl rfl (by k_ne) λK E d u=>?_;go_simp;refine u _ _ _ ⟨⟨rfl,rfl,rfl,rfl,rfl,λ_ _=>rfl,λe i=>?_⟩,?_⟩;.have g:=lH i;have q:=λargs w p=>Oi (P:=aF) (args:=args) (w:=w) p func58 avd rfl;simp[go_sem,q]at g
 rw[BE _ func58 rfl];walk_nrmf EG;refine dL ?_;u_c D uA b;u_reg uA b;refine I λv r=>?_;replace b:=uA b r;refine⟨rfl,?_⟩;co_apply me;intro x t;co_apply me;co_apply aM;case h.h.right=>
  co_apply aM;case left=>co_apply wI;refine gh rfl rfl (by k_ne) λK d=>?_;go_simp;exact d _ _ ⟨rfl,rfl,oX<|by simp[go_sem]⟩
  case right=>have s:=uA b t;refine aA5 ⟨⟨by simp,?_⟩,by simp,by simp⟩;grind
 case h.h.left=>rfl
theorem aqN{a}{d b b3 x1 c}{w}(e:w.heap[b]?=U (.cells #[.chan x1,.chan c] 114)/\w.heap[b3]?=U (.cells #[jy a] 126)):rC aF ai (KC (uo d b b3 x1 c a) a b3 x1 c) 73 [b,b3] (born aF<|call56 d b b3) w:=.inr<|.inl ⟨30,40,rfl,rfl,api e⟩
theorem LQ{b:aZ}{a}{ops}{i}{rest}{k}{cs}(v):kN (G (b.at a<|aT ops (i::rest)::k) cs) v=G (b.at (a.put (ops[i]?.bind (·.dst)) v)<|aT ops rest::k) cs:=by simp[kN,G,Jv]
noncomputable def SC:Code:=match eN 2 Br with|.block _ c=>c|c=>c
noncomputable def Xn:Array dJ:=match eN 1 SC with|eI (ec _ ops _) _=>ops|_=>#[]
noncomputable def YS:List eY:=[bF<|eN 2 SC,mh 1,.inLoop Br,mh 0]
noncomputable def KF(T:Array az)(y1:Nat):aZ:=(bh 58).at ⟨T,[Ua y1]⟩<|aT Xn [2,3]::YS
theorem avc:(f59.name== "runtime.NumGoroutine")=ai:=by kernel_rfl
section
variable {K:fG} {C:List aZ}
theorem apL(o:K.P=aF){Q:Prop}{s}{h}(m:h≠0){a}{b3 x1 g}{p}{x}(M:Zt C a b3 x1 g (s.D h).own p s.v)(H:Ok K h s<|kN p<|recvd Y x Y)(O:∀t T f,s.runs K.P t->Ok K h t (r (eW aF 59 #[.pointer a,x] .normal)<|KF T g::C)->Kept h [] s t->t.D h=s.D h->t.ch=s.ch->T.size=21->T[1]?=jy a/\T[2]?=U (.pointer f)/\T[9]?=U (.chan x1)->(t.v.heap[f]?=U (.cells #[.chan x1,.chan g] 114)/\t.v.heap[b3]?=U (.cells #[jy a] 126))/\f∈(t.D h).own/\b3∈(t.D h).own->Q):Q:=by
 obtain⟨f,T,rfl,L,l,q,k,i⟩:=M;obtain⟨v0,X,v2,v3,v4,v5,v6,v7,v8,v9,v10,F,v12,lR,Q2,J,S,V,Q0,mq,W,rfl⟩:=UC T L;simp only[oW,qR,oV,ew]at l;obtain⟨rfl,rfl,rfl⟩:=l;have j:(h==0)=ai:=by simp[m]
 rw[LQ]at H;simp only[Ri,SA,Br,eN,EG,fV,recvd,iW]at H;refine H.walk_to [] [] j (by simp) (by simp) ⟨30,?_⟩;rw[o];have c:=trivial;walk_nrm;refine kG (n:=15) ?_;u_op A c;u_c N A c;u_c D A c;u_cond Y A c;u_c ld A c;u_c stepG_block A c;u_c D A c;u_reg A c;u_op A c;u_op A c;u_c N A c;u_c D A c;u_reg A c;u_op A c;u_op A c;refine I λ_ d=>?_;replace c:=A c d;u_in A c;simp only[jy];refine Jw rfl rfl (by k_ne) λK E hK R=>?_;go_simp;refine R _ _ _ ⟨⟨rfl,rfl,rfl,rfl,λ_ _=>rfl,λe he=>?_⟩,?_⟩;.have j:=lH he;have Z:=λargs w B=>Oi (P:=aF) (args:=args) (w:=w) B func59 avc rfl;simp[go_sem,Z]at j
 refine I λz d=>⟨rfl,λt X n Q1 u Q3 c1=>?_⟩;have v:=λb y=>u.rest b (H.hold.inv.own h b y).2 (H.hold.inv.own h b y).1 (by simp);rw[<-o]at n;refine O t _ f n Q1 u Q3 c1 rfl ⟨rfl,rfl,rfl⟩ ⟨⟨(v _ k).trans q.1,(v _ i).trans q.2⟩,by grind,by grind⟩
end
end
section
open Go.Conc Go.RowKit Go.Conc.Lib Go.ConcR.Gen
open Go.ConcN (WgLive RW Has DWs EvW AtR0)
open Go.ConcN.Gen (WgLive.cell0 WgLive.cell1 kn_rely doneN)
open Go.ConcR (KK WgAt stA smA wgBlock rd wr mk Bk DC0)
theorem aaB{P:bW}{main:Bool}{R:ay->ay->Prop}(p:∀a,R a a)(l:∀a b c,R a b->R b c->R a c){v:ay->ay->Array jl->Prop}{y s:aX->ay->Prop}(j:∀g w A,cj P main g w=bU A w #[]->¬s g w):∀{m n:Nat}{g:aX}{w:ay},cK P main R DC0 y m g w->cK P main R v s n g w->cK P main R DC0 (λg w=>y g w/\∃n,cK P main R v s n g w) m g w
 |0,n,g,w,q,o=>λi r=>⟨q i r,n,o.rely l r⟩|m+1,n,g,w,q,o=>by
  rcases q with u|⟨C,e⟩;.exact ax λi r=>⟨u i r,n,o.rely l r⟩
  .refine aA ⟨C,λi r=>?_⟩;have h:=e i r;have k:=o.rely l r;cases f:cj P main g i with
   |go A x D=>rw[f,eP]at h;rw[eP];obtain⟨⟨rfl,rfl⟩,B⟩:=h;have d:=f;cases n with|zero=>exact absurd (k x<|p _)<|j _ _ _ d|succ n=>
     rcases k with u|⟨_,t⟩;.grind
     .have z:=t x<|p _;rw[d,eP]at z;exact⟨⟨rfl,rfl⟩,aaB p l j B z.2⟩
   |_=>rw[f]at h;exact h.elim
theorem ajw{P:bW}{main:Bool}{R:ay->ay->Prop}(d:∀a,R a a){S:aX->ay->Prop}:∀{m:Nat}{g:aX}{w:ay},cK P main R DC0 S m g w->∃e,S e w
 |0,g,w,h=>⟨g,h w<|d w⟩|m+1,g,w,h=>by
  rcases h with i|⟨k,b⟩;.exact⟨g,i w<|d w⟩
  .have h:=b w<|d w;cases c:cj P main g w with|go e j l=>rw[c,eP]at h;obtain⟨⟨rfl,rfl⟩,f⟩:=h;exact ajw d f|_=>rw[c]at h;exact h.elim
section
variable {P:bW} {L:WgLink} {Wg C n Low k:Nat} {val:az} {c:aZ} {cs:List aZ}
def aEP(P:bW)(L:WgLink)(Wg C n Low k:Nat)(g:aX)(w:ay):Prop:=g.status=dU/\∃g',(∀w1,cj P ai g w1=bU g' w1 #[jJ<|.releaseMerge<|stA Wg])/\∃m,cK P ai (RW L.tWg Wg C n Low<|k-1) DC0 (λg w=>∃E,cj P ai g w=bU E w #[jJ .disable]) m g' w
set_option maxHeartbeats 8000000 in
theorem aB6(H:WgLib P L)(w)(a:jK L.tWg Wg w/\Has C (k-1) val w):cK P ai (RW L.tWg Wg C n Low<|k-1) DC0 (aEP P L Wg C n Low k) 40 (G ((baseD L.done).at ⟨#[aG Wg,ak,ak,ak],[]⟩ [bF<|body_done L])<|c::cs) w:=by lib_facts;simp only[body_done,doneFn,fV];u_reg lW a;u_op lW a;u_in lW a;refine goes_call rfl rfl (by k_ne) rfl H.f_add (nm_add L) rfl ⟨by u_nil,?_⟩;walk_nrmf addFn;u_c D lW a;u_cond Y lW a;u_c D lW a;u_c D lW a;u_reg lW a;u_op lW a;u_op lW a;u_c N lW a;u_cond Y lW a;u_reg lW a;u_op lW a;u_conv H.underlying_tWgP H.room_tWg(WgLive.cell0 a.1).choose_spec lW a;refine I λd b=>?_;replace a:=lW a b;refine⟨rfl,_,λe=>stepG_markAt .releaseMerge (by simp) rfl rfl (by k_ne) rfl H.f_relMerge (x_relMerge_n L) (x_relMerge_b L) (x_relMerge_x L) (x_relMerge_f L)<|by simp[er,stA],10,?_⟩;walk_nrm;u_c N lW a;u_c D lW a;u_reg lW a;refine I λd b=>?_;exact⟨_,stepG_mark0 .disable (by simp) rfl rfl (by k_ne) rfl H.f_disable (x_disable_n L) (x_disable_b L) (x_disable_x L)<|x_disable_f L⟩
theorem aB8(H:WgLib P L){M}(v:c.mode=fH)(J:QuitsD P M 0<|G c cs)(w)(D:jK L.tWg Wg w/\Has C (k-1) val w):cK P ai (RW L.tWg Wg C n Low<|k-1) DC0 (AtR0 P L.tWg Wg C n Low k val) 40 (G ((baseD L.done).at ⟨#[aG Wg,ak,ak,ak],[]⟩ [bF<|body_done L])<|c::cs) w:=by
 have o:∀a,RW L.tWg Wg C n Low (k-1) a a:=λa=>oR a;have p:∀a b d,RW L.tWg Wg C n Low (k-1) a b->RW L.tWg Wg C n Low (k-1) b d->RW L.tWg Wg C n Low (k-1) a d:=by grind[RW.trans]
 have q:∀g w u,cj P ai g w=bU u w #[]->¬AtR0 P L.tWg Wg C n Low k val g w:=λg w u e h=>by obtain⟨_,_,g2,B,_⟩:=h;grind
 refine Go.ConcN.goes_mono (λg w h=>?_)<|aaB o p q (aB6 (n:=n) (Low:=Low) (c:=c) (cs:=cs) H w D)<|doneN (Own:=λ_ _=>False) (Rd:=λ_ _=>False) (n:=n) (Low:=Low) H v J w D;obtain⟨⟨z,u,y,m2,N⟩,T,s⟩:=h;rcases yE s with j|⟨Q0,rfl,i⟩;.grind
 .exfalso;obtain⟨Q2,w3,K,r,X,E⟩:=i w<|o w;rw[y w]at r;injection r with F B f;subst F B;obtain⟨W,⟨S,m⟩,R,t⟩:=ajw o<|aaB o p q N E;rcases yE t with j|⟨Q1,rfl,i⟩;.obtain⟨_,_,O,A,_⟩:=j w<|o w;rw[m]at A;injection A with _ _ e;simp[jJ]at e
  .obtain⟨O,Q,I,l,x,_⟩:=i w<|o w;rw[m]at l;injection l with _ _ e;subst e;have:=(x.2 (jJ .disable)<|by simp).2.1;exact this rfl
end
end
section
open Go.Proofs Go.Conc Go.RowKit Go.Conc.Lib Go.ConcR.Gen
open Go.ConcN (upd upd_ne upd_same WgLive RW Has DWs EvW AtR0)
open Go.ConcN.Gen (WgLive.cell0 WgLive.cell1 kn_rely doneN)
open Go.ConcR (KK WgAt stA smA wgBlock rd wr mk Bk DC0)
noncomputable def QU(C:List aZ)(a:eT)(b3 x1 y1:Nat):fC:=⟨KC C a b3 x1 y1,y1,b3,jy a⟩
theorem apj{T}{c}{b e b3 x1 f}{a}{w}(d:jK dQ.tWg b w/\Has b3 (1-1) (jy a) w):∃m,cK aF ai (RW dQ.tWg b b3 77 0<|1-1) DC0 (AtR0 aF dQ.tWg b b3 77 0 1<|jy a) m (G {(bh 58).at ⟨T,[]⟩ c with mode:=fH}<|uo b e b3 x1 f a) w:=by refine⟨60,?_⟩;simp only[uo,afr,Oy,fV];u_leave0 func58 lW d;u_c N lW d;u_c Sw lW d;u_in lW d;rw[stepG_unwind_enter rfl func57 (nm_done dQ) rfl];simp only[eP];refine⟨by u_nil,?_⟩;walk_nrmf f57;have g:=@aB8 aF dQ b b3 77 0 1 (jy a) {KN.at ⟨#[aG<|U b,aG<|U e,aG<|U b3,bJ #[de<|U x1,de<|U f],jy a,bO #[]],[]⟩ []with mode:=fH} [bot] Fg 2 rfl (atP _) _ d;simp only[body_done,doneFn,fV]at g;grind[Goes.mono]
theorem aj0{P}{w}{t e}(p)(n c)(es)(h:P.underlying t=U (.slice e)):(fZ .eql t (aE p n c)<|aE Z 0 0).events P w es=es:=by
 have a:∀d:Nat,(sF (d+1) t (aE p n c)<|aE Z 0 0).events P w es=es:=λd=>by cases p<;>simp[go_sem,sF,run_underlying h]
 simp only[fZ];simp[Op.equal,Oz,a 9999]
theorem alx{T}{d}{f l b3 x1 b}{a}{O}{w}(p:b3∈O)(s:w.heap[b3]?=U (aH #[jy a] 126)):zG aF dQ f (QU (uo f l b3 x1 b a) a b3 x1 b) O (G {(bh 58).at ⟨T,[Ua b]⟩ d with mode:=fH}<|uo f l b3 x1 b a) w:=by
 refine⟨rfl,rfl,_,rfl,λo k r i n=>⟨aqh (ds:=[]) rfl (by kernel_rfl) i,?_⟩⟩;have g:b3≠b:=λe=>by have h:=(r.1 b3 p).trans s;rw[e]at h;have c:o.heap[b]?=U (.chan 1 #[] ai k k ai):=i;grind
 have j:f≠b:=λe=>by obtain⟨q,m,h⟩:=n;unfold WgAt at h;rw[e]at h;have c:o.heap[b]?=U (.chan 1 #[] ai k k ai):=i;rw[h]at c;cases c
 refine apj ⟨?_,?_⟩;·obtain⟨q,m,h⟩:=n;refine⟨q,m,?_⟩;unfold WgAt at h⊢;rw[<-h];simp only[ED];exact nu λe=>j e.symm
 ·show pg _ b3=U (jy a);refine gB (cs:=#[jy a]) (ty:=126) ?_ rfl;rw[<-s,<-r.1 b3 p];simp only[ED];exact nu λe=>g e.symm
theorem ayS{f i b3 x1 d}{a}{O}{j}{w}(u:Zt (uo f i b3 x1 d a) a b3 x1 d O j w):b3∈O/\∃m,cK aF ai (L O) (DO O) (zG aF dQ f (QU (uo f i b3 x1 d a) a b3 x1 d) O) m (kN j<|recvd Y (aE Z 0 0) ai) w:=by obtain⟨g,T,rfl,t,h,b,e,c⟩:=u;refine⟨c,30,?_⟩;obtain⟨K,F,E,z,I,A,C,J,H,B,x,p,r,q,l,s,k,n,v,y,o,rfl⟩:=UC T t;simp only[oW,qR,oV,ew]at h;obtain⟨rfl,rfl,rfl⟩:=h;replace b:(w.heap[g]?=U (aH #[de<|U x1,de<|U d] 114)/\w.heap[b3]?=U (aH #[jy a] 126))/\g∈O/\b3∈O:=⟨b,e,c⟩;rw[LQ];simp only[Ri,SA,Br,eN,EG,fV,recvd,iW];walk_nrm;refine dL ?_;u_op iU b;u_c N iU b;u_c D iU b;u_cond ai iU b;u_exit iU b;u_c Sw iU b;grind[Goes.stop,alx,iU]
theorem rK{x}{o}{w w1}(h:w.heap[x]?=U o)(r:L ([]++[x]) w w1):w1.heap[x]?=U o:=(r.1 x<|by simp).trans h
section
variable {K:fG} {C:List aZ}
theorem apK(Q3:K.P=aF){Q:Prop}{s}{h}(S:h≠0){a}{o Q1 b3 x1 j k n c}{T}(E:T.size=21)(hs:T[1]?=jy a/\T[2]?=U (.pointer k)/\T[9]?=U (.chan x1))(hF:(s.v.heap[k]?=U (.cells #[.chan x1,.chan j] 114)/\s.v.heap[b3]?=U (.cells #[jy a] 126))/\k∈(s.D h).own/\b3∈(s.D h).own)(H:Ok K h s<|r ((KF T j).finish<|.slice Z n c)<|uo o Q1 b3 x1 j a)(hQ:∀t g,s.runs K.P t->Ok K h t g->Kept h [] s t->t.D h=s.D h->t.ch=s.ch->zG aF dQ o (QU (uo o Q1 b3 x1 j a) a b3 x1 j) (t.D h).own g t.v->b3∈(t.D h).own->Q):Q:=by
 obtain⟨v,R,v2,v3,v4,v5,v6,v7,v8,Q0,W,z,V,QW,L,B,J,Q2,QX,X,O,rfl⟩:=UC T E;simp only[oW,qR,oV,ew]at hs;obtain⟨rfl,rfl,rfl⟩:=hs;have m:(h==0)=ai:=by simp[S]
 have F:∀f p,r f p=G f p:=λ_ _=>rfl;rw[F,KF,Jv]at H;simp only[Xn,YS,SC,Br,eN,EG,fV]at H;refine H.walk_to [] [] m (by simp) (by simp) ⟨30,?_⟩;rw[Q3];have d:=trivial;walk_nrm;refine kG (n:=6) ?_;u_op A d;u_c N A d;u_c D A d;u_c D A d;u_reg A d;u_op A d;refine I λ_ i=>?_;replace d:=A d i;u_in A d;refine gh rfl rfl (by k_ne) λK x=>?_;have hx:=λw=>YO (P:=aF) w 79 _ Z n c 0 0 underlying79;go_simp;refine x _ _ ⟨?_,?_⟩;.refine dh_none ?_;intro e l;have m:=lH l;simp[go_sem,λw y=>aj0 (P:=aF) (w:=w) Z n c y underlying79]at m
 refine dL ?_;u_c N A d;u_cond Y A d;u_c stepG_ret' A d;refine I λu i=>⟨rfl,λt R r1 H1 M d1 c1=>?_⟩;have st:=λb q=>M.rest b (H.hold.inv.own h b q).2 (H.hold.inv.own h b q).1 (by simp);grind[alx]
theorem apJ(z:K.P=aF){Q:Prop}{s}{h}(hh:h≠0){a}{b3 x1 m k n c}{ad}{T}(O:T.size=21)(hs:T[1]?=jy a/\T[2]?=U (.pointer k)/\T[9]?=U (.chan x1))(j:(s.v.heap[k]?=U (.cells #[.chan x1,.chan m] 114)/\s.v.heap[b3]?=U (.cells #[jy a] 126))/\k∈(s.D h).own/\b3∈(s.D h).own)(H:Ok K h s<|r ((KF T m).finish<|.slice (U ad) n c) C)(Q2:∀t l,s.runs K.P t->Ok K h t l->Kept h [] s t->t.D h=s.D h->t.ch=s.ch->l.status=.running->(∀q,cj aF ai l q=.comm l #[scase m (.slice ad n c)<|.tuple #[]] Y .send q #[])->rC aF ai (KC C a b3 x1 m) 21 (t.D h).own (kN l ak) t.v->Q):Q:=by
 obtain⟨v0,v1,v2,v3,v4,v5,v6,v7,v8,v9,v10,L,v12,lR,X,Q1,W,v,S,mq,Z,rfl⟩:=UC T O;simp only[oW,qR,oV,ew]at hs;obtain⟨rfl,rfl,rfl⟩:=hs;have p:(h==0)=ai:=by simp[hh]
 have R:∀f A,r f A=G f A:=λ_ _=>rfl;rw[R,KF,Jv]at H;simp only[Xn,YS,SC,fV]at H;simp only[Br,eN,EG,fV]at H;refine H.walk_to [] [k] p (by simp) (λb o=>?_) ⟨40,?_⟩;.simp only[dj,dP,dY]at o;subst o;exact⟨(H.hold.inv.own h _ j.2.1).2,.inl (H.hold.inv.own h _ j.2.1).1⟩
 rw[z];have d:=j.1.1;walk_nrm;refine kG (n:=6) ?_;u_op rK d;u_c N rK d;u_c D rK d;u_c D rK d;u_reg rK d;u_op rK d;refine I λ_ g=>?_;replace d:=rK d g;u_in rK d;refine gh rfl rfl (by k_ne) λK Q0=>?_;have hx:=λw=>YO (P:=aF) w 79 _ (U ad) n c 0 0 underlying79;have x:=λw J=>aj0 (P:=aF) (w:=w) (U ad) n c J underlying79;go_simp;refine Q0 _ _ ⟨?_,?_⟩;.refine dh_none ?_;intro e u;have p:=lH u;simp[go_sem,x]at p
 refine kG (n:=5) ?_;u_c N rK d;u_cond ai rK d;u_c ld rK d;u_reg rK d;u_op rK d;refine I λ_ g=>?_;replace d:=rK d g;u_in rK d;refine gh rfl rfl (by k_ne) λK Q0=>?_;have V:=gB (o:=1) d rfl;go_simp;refine Q0 _ _ ⟨⟨rfl,rfl,rfl,rfl,λ_ _=>rfl,λe x=>?_⟩,?_⟩;.have p:=lH x;simp[go_sem, *]at p;grind
 refine dL ?_;u_op rK d;refine I λF g=>⟨rfl,λt v1 y Q3 E M c1=>?_⟩;have B:=λb o=>E.rest b (H.hold.inv.own h b o).2 (H.hold.inv.own h b o).1 (by simp);rw[<-z]at y;have i:(t.v.heap[k]?=U (.cells #[.chan x1,.chan m] 114)/\t.v.heap[b3]?=U (.cells #[jy a] 126))/\k∈(t.D h).own/\b3∈(t.D h).own:=⟨⟨(B _ j.2.1).trans j.1.1,(B _ j.2.2).trans j.1.2⟩,by grind,by grind⟩;refine Q2 t _ y Q3 E M c1 rfl (λq=>aea rfl rfl (by k_ne) rfl rfl rfl q) ?_;refine .inl ⟨20,rfl,?_⟩;rw[LQ];walk_nrm;refine dL ?_;u_c N iU i;u_c stepG_inBlock iU i;u_c stepG_inLoop iU i;u_c D iU i;u_reg iU i;exact I λq h1=>alu rfl ⟨rfl,rfl,rfl⟩<|iU i h1
end
end
section
open Go.Conc
open Go.ConcN (sumTo upd sumTo_upd upd_ne upd_same sumTo_congr le_sumTo WSit WgLive RW PayAt Has DWs EvW ShN AsideCell AtR0 RelBy bk_cell)
open Go.ConcR (KK WgAt stA smA wgBlock rd wr mk Bk)
open Go.Conc.Lib (WgLink)
variable{K:fG}
def uw(n:Nat)(D:Nat->dw):Nat->dw:=λi=>if i<n then D i else⟨1,0,[],0⟩
theorem Ok.trim{s}{a}(H:Ok K 0 s a)(y:K.live=ai)(q:∀i,s.role i=Z):Ok K 0 {s with D:=uw s.gs.size s.D} a/\∀n,V2 n (uw s.gs.size s.D)=0:=by
 have I:=H.hold.inv;have d:∀i,i<s.gs.size->uw s.gs.size s.D i=s.D i:=λi k=>dy k;have m:=d 0 I.zero;have w:∀n,V2 n (uw s.gs.size s.D)=0:=λn=>by
  unfold V2;rw[zY (g:=λ_=>0) λi k=>?_];.exact Fw _
  .unfold gq;by_cases e:0<i
   .rw[if_neg];rintro⟨_,p⟩;by_cases E:i<s.gs.size;.rw[d i E]at p;have l:=I.gP i _ (by omega)<|iy E;rw[q i]at l;have:=l.2.1;omega
    .unfold uw at p;grind
   grind
 refine⟨⟨⟨⟨λi g v o=>?_,λi k=>?_,I.above,I.tr,λi b x=>?_,I.chan,λi r h=>?_,λi r h=>?_,λi j r t h=>?_,λh=>?_,I.kE,λi r h=>?_,I.norel,I.rA,I.zero,I.idle⟩,⟨λi r h=>?_,λi r u h=>?_,λi j r t h=>?_,λi r h=>?_,λn=>?_⟩,λj r u h=>?_,H.hold.bound⟩,H.mw,λj r h=>?_,?_,?_,H.opn,H.ro⟩,w⟩;.show oF _ _ _ _ _ (uw s.gs.size s.D i) _ _;rw[d i (je.1 o).1];exact I.gP i g v o
 .show Deaf s.T i=(uw s.gs.size s.D i).deaf;rw[d i k];exact I.deaf i k
 .have f:b∈(uw s.gs.size s.D i).own:=x;by_cases k:i<s.gs.size;.rw[d i k]at f;exact I.own i b f
  .unfold uw at f;grind
 .grind
 .grind
 .grind
 .grind
 .grind
 .grind
 .grind
 .grind
 .grind
 .grind
 .grind
 .grind
 .show(uw _ _ 0).stage=9;rw[m];exact H.nine
 .show(uw _ _ 0).deaf=0;rw[m];exact H.deaf
end
section
open Go.Proofs Go.Conc Go.RowKit Go.Conc.Lib Go.ConcR.Gen
open Go.ConcN (upd upd_ne upd_same WgLive)
open Go.ConcR (KK WgAt stA smA wgBlock rd wr mk Bk)
noncomputable def wk(bw b2 b3 x y:Nat)(a:eT):fC:=QU (uo bw b2 b3 x y a) a b3 x y
def alR(T:Array az)(a b:eT)(m:az)(e8 e9 bw:Nat):Prop:=T[0]?=U (aG<|U a)/\T[1]?=U (aG<|U b)/\T[2]?=U m/\T[6]?=U (V aC 0)/\T[7]?=U (V aC 0)/\T[8]?=U (aG<|U ⟨e8,0,Z⟩)/\T[9]?=U (aG<|U ⟨e9,0,Z⟩)/\T[10]?=U (aG<|U ⟨bw,0,Z⟩)
def UX(v:ay)(own:List Nat)(e8 e9 x1 y1 x2 y2:Nat):Prop:=(v.heap[e8]?=U (aH #[de<|U x1,de<|U y1] 114)/\v.heap[e9]?=U (aH #[de<|U x2,de<|U y2] 114))/\e8∈own/\e9∈own/\e9≠e8
section
variable {K:fG} {C:List aZ}
theorem adk(m:K.P=aF)(i:K.L=dQ)(S:K.live=Y){s}{l E}{b b3 x y e8 e9 p k}{a}(H:Ok K 0 s l)(g:l.status=dU)(q:∀o,cj aF Y l o=.spawn E (born aF<|call56 K.Wg b b3) o #[])(h:s.md=.opn (p+1))(F:s.v.heap[b]?=U (aH #[de<|U x,de<|U y] 114)/\s.v.heap[b3]?=U (aH #[jy a] 126))(A:b∈(s.D 0).own/\b3∈(s.D 0).own)(he:e8∈(s.D 0).own/\e9∈(s.D 0).own)(Q:e8≠b/\e8≠b3/\e9≠b/\e9≠b3)(d:s.role s.gs.size=Z)(J:s.ch x=U ⟨Z,ai,k⟩)(I:∀j f,s.role j=U f->f.aO.c≠x/\f.out≠y)(M:∀n,V2 n s.D<=1):∃t,s.runs K.P t/\Ok K 0 t E/\t.role=bE s.role s.gs.size (wk K.Wg b b3 x y a)/\t.md=.opn p/\t.ch=s.ch/\t.gs.size=s.gs.size+1/\(t.D 0).own=[e8,e9]/\Left s.cl (λ_=>False) s.v t.v/\(∀z,z<s.v.heap.size->z∉[b,b3]->t.cl z=s.cl z)/\L (s.D 0).own s.v t.v/\∀B,V2 B t.D<=V2 B s.D+1:=by obtain⟨t,r,h1,h2,h3,c,P,W,_,X,V,D,R⟩:=H.spawn (child:=born aF<|call56 K.Wg b b3) (n:=73) (O:=[b,b3]) (kU:=[e8,e9]) S g h (by rw[m];exact q) (wk K.Wg b b3 x y a) (λo u=>by rw[m];exact aqN ⟨(u.1 b A.1).trans F.1,(u.1 b3 A.2).trans F.2⟩) (by omega) λz N=>by grind λz N=>by grind d J (λj f e=>(I j f e).1) (λj f e=>(I j f e).2) (λO g2 w T=>by rw[m,i];exact ayS T) M;grind
theorem ap2(hP:K.P=aF)(F:K.L=dQ)(hl:K.live=ai)(hA:∀Wg,Fe Wg){Q:Prop}{s}{a b}{m}{M}{ops}(Tu:M.size=87)(F9:M[0]?=U (.pointer a)/\M[1]?=U (.pointer b)/\M[2]?=U m/\M[6]?=U (.int .i64 0)/\M[7]?=U (.int .i64 0)/\M[22]?=U (.bool ai))(H:Ok K 0 s<|G ((bh 41).at ⟨M,[]⟩<|.inRegion ops []::DI) C)(nA:s.md=.opn 0)(hr:∀i,s.role i=Z)(hV:∀n,V2 n s.D<=0)(hQ:∀t q e8 e9 k o y x b2 D c2 c3 T,s.runs K.P t->Ok {K with Wg:=q,live:=Y} 0 t (G ((bh 41).at ⟨T,[]⟩ [.code<|cS 7]) C)->T.size=87->alR T a b m e8 e9 q->UX t.v (t.D 0).own e8 e9 k o y x->k≠o/\y≠x/\k<y/\k<x/\o<y/\o<x->kO t.role s.gs.size (s.gs.size+1) (wk q b2 D k o a) (wk q c2 c3 y x b)->t.role 0=Z->t.gs.size=s.gs.size+2->t.md=.opn 0->t.ch k=U ⟨Z,ai,0⟩/\t.ch o=U ⟨Z,ai,0⟩/\t.ch y=U ⟨Z,ai,0⟩/\t.ch x=U ⟨Z,ai,0⟩->Left s.cl (λ_=>False) s.v t.v->(∀z,z<s.v.heap.size->t.cl z=s.cl z)->Q):Q:=by
 refine ap3 hP F hl Tu F9 H nA λt1 q e8 e9 k o y x T1 r1 H1 Gy DL u sj f W hd=>?_;have J:∀i,t1.role i=Z:=λi=>by rw[u.role];exact hr i
 have J6:=λn=>bC (u.v2 n)<|hV n;have jv:=u.size;refine ap5 (K:={K with Wg:=q,live:=Y}) hP F Gy DL sj f H1 rfl rfl (u.md.trans nA) (by omega) λn=>by have:=J6 n;omega (hA _) λt2 b2 D gG gA r2 H2 ayA azt aze⟨Dd,qy,z2,L2,lN,v2⟩⟨Xl,st2⟩l7 TB⟨n2,T2,hG2,Gx,BI⟩_=>?_;have Tq:∀n,V2 n t2.D<=0:=by grind
 have aH6:=(H1.hold.inv.own 0 _ f.1).2;have aH4:=(H1.hold.inv.own 0 _ f.2.1).2;obtain⟨t3,r3,H3,ro3,Ml,AI,z3,ow3,L3,zm,R3,v3⟩:=adk (K:={K with Wg:=q,live:=Y}) (e8:=e8) (e9:=e9) (k:=0) hP F rfl H2 ayA azt aze TB ⟨l7.1,l7.2.1⟩ ⟨Xl _ f.1,Xl _ f.2.1⟩ ⟨by omega,by omega,by omega,by omega⟩ (by rw[Dd];exact J _) (by rw[qy];exact W.1) (λj r' N=>by rw[Dd,J j]at N;cases N) (λn=>by have:=Tq n;omega);obtain⟨t4,a4,r4,H4,SJ,S,d4,c4⟩:=H3.walk (O:=[]) (Rd:=[]) (Stop:=λg w=>g=G ((bh 41).at ⟨T2,[]⟩ [.code<|cS 6]) C) λg w h=>by rw[h];rfl (by rw[hP];exact hG2 _) (by simp) (by simp);subst SJ;have hV3:∀n,V2 n t3.D<=1:=λn=>by have:=v3 n;have:=Tq n;omega
 have ne8:e8∉[b2,D]:=λh=>by simp only[dj,dP,dY]at h;omega
 have ne9:e9∉[b2,D]:=λh=>by simp only[dj,dP,dY]at h;omega
 have keep:=λz d SD=>by have p:=Xl z d;have E:=(H2.hold.inv.own 0 z p).2;exact((S.rest z (cE E L3.size) ((zm z E SD).trans (H2.hold.inv.own 0 z p).1)<|by simp).trans<|R3.1 z p).trans<|st2 z d
 have l:(t4.D 0).own=[e8,e9]:=by rw[d4,ow3]
 have hc4:t4.v.heap[e8]?=U (.cells #[.chan k,.chan o] 114)/\t4.v.heap[e9]?=U (.cells #[.chan y,.chan x] 114):=by grind
 have Gw:=λn=>bC (S.v2 n)<|hV3 n;refine ap4 (K:={K with Wg:=q,live:=Y}) hP F Gx BI hc4 ⟨by rw[l];simp,by rw[l];simp,f.2.2⟩ H4 rfl rfl (S.md.trans Ml) (by omega) (λn=>Gw n) (hA _) λt5 c2 c3 gG5 gA5 r5 H5 ayy azs azc⟨yn,Co,z5,L5,Cn,v5⟩⟨Xk,VQ⟩NH hF5⟨n5,T5,hG5,hT5,hs5⟩_=>?_;have P:t4.role=bE t2.role t2.gs.size (wk q b2 D k o a):=S.role.trans ro3;have wc:t4.gs.size=s.gs.size+1:=by rw[S.size,z3,z2,jv]
 have X:t2.gs.size=s.gs.size:=by rw[z2,jv]
 have I:∀j r',t5.role j=U r'->j=s.gs.size/\r'=wk q b2 D k o a:=λj r' N=>by
  rw[yn,P]at N;by_cases e:j=t2.gs.size;.rw[e,dc]at N;cases N;exact⟨e.trans X,rfl⟩
  .rw[cT t2.role _ e,Dd,J j]at N;cases N
 have aH5:=(H4.hold.inv.own 0 e8<|by rw[l];simp).2;have aH3:=(H4.hold.inv.own 0 e9<|by rw[l];simp).2;have zn:t4.ch=t1.ch:=by grind
 obtain⟨t6,r6,H6,Dc,Rx,OT,z6,ow6,L6,Us,R6,v6⟩:=adk (K:={K with Wg:=q,live:=Y}) (e8:=e8) (e9:=e9) (k:=0) hP F rfl H5 ayy azs azc hF5 ⟨NH.1,NH.2.1⟩ ⟨Xk _<|by rw[l];simp,Xk _<|by rw[l];simp⟩ ⟨by omega,by omega,by omega,by omega⟩ (by cases e:t5.role t5.gs.size with|none=>rfl|some r'=>have:=(I _ _ e).1;rw[z5,wc]at this;omega) (by rw[Co,zn];exact W.2.2.1) (λj r' N=>by obtain⟨_,rfl⟩:=I j r' N;exact⟨λe=>by have e':k=y:=e;omega,λe=>by have e':o=x:=e;omega⟩) λn=>bC (v5 n)<|Gw n;obtain⟨t7,a7,r7,H7,hs7,k7,d7,c7⟩:=H6.walk (O:=[]) (Rd:=[]) (Stop:=λg w=>g=G ((bh 41).at ⟨T5,[]⟩ [.code<|cS 7]) C) λg w h=>by rw[h];rfl (by rw[hP];exact hG5 _) (by simp) (by simp);subst hs7;have mb8:e8∉[c2,c3]:=λh=>by simp only[dj,dP,dY]at h;omega
 have mb9:e9∉[c2,c3]:=λh=>by simp only[dj,dP,dY]at h;omega
 have B:=λz d SD=>by have p:=Xk z d;have E:=(H5.hold.inv.own 0 z p).2;exact((k7.rest z (cE E L6.size) ((Us z E SD).trans (H5.hold.inv.own 0 z p).1)<|by simp).trans<|R6.1 z p).trans<|VQ z d
 have lZ:t5.gs.size=s.gs.size+1:=by rw[z5,wc]
 have A:t7.role=bE t5.role (s.gs.size+1) (wk q c2 c3 y x b):=by rw[k7.role,Dc,lZ]
 have L:s.gs.size≠s.gs.size+1:=by omega
 have h0s:=H.hold.inv.zero;have SP:t7.role s.gs.size=wk q b2 D k o a:=by rw[A,cT _ _ L,yn,P,<-X,dc]
 have Tp:∀i r,t7.role i=U r->i=s.gs.size\/i=s.gs.size+1:=λi r hi=>by
  by_cases e:i=s.gs.size+1;.exact .inr e
  .rw[A,cT _ _ e]at hi;exact .inl (I i r hi).1
 have ow7:(t7.D 0).own=[e8,e9]:=by rw[d7,ow6]
 refine hQ t7 q e8 e9 k o y x b2 D c2 c3 T5 (((((r1.trans r2).trans r3).trans r4).trans<|r5.trans r6).trans r7) H7 hT5 ?_ ?_ hd ?_ ?_ (by rw[k7.size,z6,z5,wc]) (k7.md.trans Rx) ?_ ?_ ?_;.obtain⟨q0,q1,q2,q6,q7,q8,q9,q10,_⟩:=hs5;exact⟨q0,q1,q2,q6,q7,q8,q9,q10⟩
 .exact⟨⟨(B _ (by rw[l];simp) mb8).trans hc4.1,(B _ (by grind) mb9).trans hc4.2⟩,by grind,by grind,f.2.2⟩
 .refine⟨SP,by rw[A,dc],λi r hi=>.inr<|Tp i r hi,L,by omega,by omega,?_,hd.1,?_,?_,hd.2.1,?_⟩;.intro e;have e':k=y:=e;omega
  .intro e;have e':k=x:=e;omega
  .intro e;have e':y=o:=e;omega
  .intro e;have e':o=x:=e;omega
 .cases e:t7.role 0 with|none=>rfl|some r=>grind
 .grind
 .have l1:=u.left.trans u.cls L2;have ER:=λz d=>(lN z<|cE d u.left.size).trans<|u.cls z d;have l3:=l1.trans ER L3;have R:=λz d=>(zm z (cE d l1.size) λh=>by simp only[dj,dP,dY]at h;have:=u.left.size;omega).trans<|ER z d;have l4:=l3.trans R S.left;have mO:=λz d=>(S.cls z<|cE d l3.size).trans<|R z d;have l5:=l4.trans mO L5;have mM:=λz d=>(Cn z<|cE d l4.size).trans<|mO z d;have Cs:=λz d=>(Us z (cE d l5.size) λh=>by simp only[dj,dP,dY]at h;have:=l4.size;omega).trans<|mM z d;exact(l5.trans mM L6).trans Cs k7.left
 .intro z d;have g3:=cE d (u.left.trans u.cls L2).size;have R:=(zm z g3 λh=>by simp only[dj,dP,dY]at h;have:=u.left.size;omega).trans<|(lN z<|cE d u.left.size).trans<|u.cls z d;have g4:=cE g3 L3.size;have g5:=cE g4 S.left.size;have g6:=cE g5 L5.size;have Cs:=(Us z g6 λh=>by simp only[dj,dP,dY]at h;omega).trans<|(Cn z g5).trans<|(S.cls z g4).trans R;exact(k7.cls z<|cE g6 L6.size).trans Cs
end
end
section
open Go.Conc
open Go.ConcN (upd upd_ne upd_same WgLive)
open Go.ConcR (KK WgAt)
def Pm(ρ:Nat->Nat)(I:H)(N:Nat)(n n':Next):Prop:=∃x x',n=gp x/\n'=gp x'/\RV ρ I N x x'
section
variable {ρ:Nat->Nat} {I:H} {q:bW} {fs:Array ep} {w v w1:ay} {main':Bool}
 {bL bR:aZ} {aL aR:Act} {kL kR:List eY} {B cZ:List aZ} {ops zV:Array dJ} {i i':Nat} {rest IG:List Nat} {o o':dJ}
theorem auy(T:ops[i]?=o)(H:eX o (eu ops aL.tmps)=Y)(y:zV[i']?=o')(m:eX o' (eu zV aR.tmps)=Y)(hs:W ρ I (J q fs) q (Pm ρ I) w (cX aL.eval o)<|cX aR.eval o')(O:dV ρ I Z w v)(s:∀j,ρ (w+j)=v+j){t}{es}(c:cj (J q fs) Y (G (bL.at aL<|aT ops (i::rest)::kL) B) w=bU t w1 es)(f:¬vz t):∃x l k g,t=G (bL.at (aL.put o.dst x)<|aT ops rest::kL) B∧cj q main' (G (bR.at aR<|aT zV (i'::IG)::kR) cZ) v=bU (G (bR.at (aR.put o'.dst l)<|aT zV IG::kR) cZ) k g∧RV ρ I w1 x l∧dV ρ I Z w1 k∧fy ρ I w v w1 k∧∀e∈g,yf ρ I w1 e:=by
 rw[Sv T H]at c;rw[Sv y m];have d:=W.alike hs w v #[] #[] rfl O s;have Q2:∀x,tV (bL.at aL<|aT ops (i::rest)::kL) x=bL.at (aL.put o.dst x) (aT ops rest::kL):=λx=>by grind[Frame.finish_at]
 have S:∀x,tV (bR.at aR<|aT zV (i'::IG)::kR) x=bR.at (aR.put o'.dst x) (aT zV IG::kR):=λx=>by grind[Frame.finish_at]
 unfold wN at c⊢;simp only[iW]at c⊢;generalize(cX aL.eval o).runT (J q fs) w #[]=R at d c;generalize(cX aR.eval o').runT q v #[]=K at d⊢;obtain⟨r,N⟩:=R;obtain⟨X,E⟩:=K;cases r with
 |halt x F=>
  exfalso;obtain⟨C,_⟩:=d;cases x<;>first|exact absurd C qh|(dsimp only[vj]at c;cases c;done)|skip
  case panic p=>dsimp only[vj]at c;injection c with z Q3 M;subst z;exact f<|raise_mode _ _
  case unsupported u=>cases u<;>first|(dsimp only[vj]at c;cases c;done)|(cases C;done)
 |ok a F=>
  obtain⟨b,d⟩:=d;obtain⟨Q0,k,P,e,⟨x,l,rfl,rfl,Q⟩,A,L,Q1⟩:=d (λ_ h=>by cases h);obtain⟨rfl,rfl⟩:=Prod.mk.inj e;have n:∀e∈(#[]++P:Array jl),yf ρ I F e:=by grind
  simp only[vj]at c⊢;injection c with z Q3 M;subst Q3;refine⟨x,l,k,_,by rw[<-z,Q2];rfl,by rw[S];rfl,Q,A,L,λe D=>?_⟩;rw[RM]at D;exact kept n e D
theorem Ok.axc{K}{h}{s}{Done}(hE:mX (J K.P fs) Done)(H:Ok K h s<|G (bR.at aR<|aT zV (i'::IG)::kR) cZ)(tr:Term (J K.P fs) Done (G (bL.at aL<|aT ops (i::rest)::kL) B) w)(M:fL ρ I K.P s.cl w s.v)(ho:ops[i]?=o)(hw:eX o (eu ops aL.tmps)=Y)(Gf:zV[i']?=o')(hw':eX o' (eu zV aR.tmps)=Y)(jX:¬Done (G (bL.at aL<|aT ops (i::rest)::kL) B) w)(hs:∀b,(∀x,x<w.heap.size->ρ x=b x)->Fair b K.P->W b I (J K.P fs) K.P (Pm b I) w (cX aL.eval o) (cX aR.eval o')):∃t b w' x x',(∀z,z<w.heap.size->ρ z=b z)∧w.heap.size<=w'.heap.size∧(∀z,z<w.heap.size->I.F z=ai->w'.heap[z]?=w.heap[z]?)∧RV b I w'.heap.size x x'∧Term (J K.P fs) Done (G (bL.at (aL.put o.dst x)<|aT ops rest::kL) B) w'∧tU (qF (J K.P fs) Done) (G (bL.at (aL.put o.dst x)<|aT ops rest::kL) B,w') (G (bL.at aL<|aT ops (i::rest)::kL) B,w)∧s.runs K.P t∧ue h s t∧Ok K h t (G (bR.at (aR.put o'.dst x')<|aT zV IG::kR) cZ)∧fL b I K.P t.cl w' t.v:=by cases tr with|done hd=>grind|step f hf ht=>
 obtain⟨N,ic,pA,E,D1,T1,F,j,d,pY,gH,r1,M8,qZ,X,G1,S,L1⟩:=H.hold.picked H.mw rfl s.sl;have D:=(M.left L1 G1.cls).left (Left.at E (λ_=>False) j d) λ_ _=>rfl;let b:=rq ρ w j;let R:qD:=λi=>j.tape<|d+i;have n:∀x,x<w.heap.size->ρ x=b x:=by grind[Oo]
 have c:∀i,b (w+i)=j+i:=λi=>akb _ _ _ i;have p:Fair b K.P:=Fair.rq M.fair D.low M.B7;obtain⟨⟨es0,e0⟩,ayW⟩:=hf R;obtain⟨x,x',v2,es,e1,e2,hv,Q,a,uX⟩:=auy (w:=World.re w R 0) (main':=h==0) ho hw Gf hw' (hs b n p) (dV.rq (v':=j.at d) D.aeI D.low rfl (λ_ _ _=>rfl) λ_ _=>rfl) c e0 ayW;have fo:v2.heap.size=j+((f R).2-w):=a.size;have T:w.heap.size<=(f R).2:=a.oM;have g:∀x,x<(f R).2.heap.size->b x<v2:=λx m=>by
  rcases Bs x w with l|BQ;·rw[<-n x l];have:=D.low x l;have e:(j.at d).heap.size=j:=rfl;omega
  ·have:=c<|x-w;grind
 let cl':Nat->fa:=λx=>if x<j then E x else .eV;have C:∀x,x<j.heap.size->cl' x=E x:=by grind
 have r:∀x,x<(f R).2.heap.size->I.F x=Y->cl' (b x)=.eV:=λx m hF=>by
  rcases Bs x w with l|BQ;·rw[<-n x l,C _<|D.low x l];exact D.cls x l hF
  ·have:=c<|x-w;grind
 have k:∀x,x<j.heap.size->E x≠.eV->v2.heap[x]?=j.heap[x]?:=λx m hn=>a.sC x m λy hy hF e=>hn (by rw[<-e,<-n y hy];exact D.cls y hy hF);have L:∀A,I.arg=U A->cl' A.g=.eV∧A.g<v2:=λA hA=>by obtain⟨⟨a1,a2,a3,a4⟩,a5⟩:=D.arg A hA;grind
 have Q0:=λe he=>aj1 (h:=h) (q:=K.P) (uX e he) r g L;have hWg:K.live=Y->v2.heap[K.Wg]?=j.heap[K.Wg]?:=λhl=>by obtain⟨st,sm,hw,ny⟩:=X.inv.wg hl;exact k _ (pz hw)<|by rw[X.inv.kE hl];simp
 have h0:(D1 h).deaf=0:=by rw[S];exact H.deaf
 obtain⟨q1,q2,q3⟩:=(X.at d).step (sl:=gH) (x':=D1 h) (md':=ic) (cl':=cl') (v':=v2) qZ e2 (by show j.heap.size<=_;omega) (λx m hn=>k x m λhi=>hn<|aA<|aA ⟨hi,rfl⟩) C λx m=>by obtain⟨y,z⟩:=X.inv.own h x m;grind (λe he=>⟨(Q0 e he).1,(Q0 e he).2.1⟩) (λe he=>(Q0 e he).2.2.1 _) (by grind[deafBehind_still]) (λhr hn=>absurd (H.ro hr) hn) rfl (λhl=>let⟨st,sm,hw,ny⟩:=X.inv.wg hl;⟨st,sm,by unfold WgAt at hw⊢;grind,by grind[vD]⟩) λ_=>by rw[S,H.nine];omega X.bound;rw[vD]at q2;have G2:∀(T2:eB)(P:Array aX),P.size=F.size->(∃u,T2=T1++u)->Cz s.role h ic pA E D1 T1 F j ic pA cl' D1 T2 P v2:=λT2 P k1 k2=>⟨k1,by omega,λx m hc=>k x m<|by grind,a.os,a.tape,a.out,C,λ_ _ _ _=>rfl,λ_=>rfl,λ_ _ x=>x,λ_ _=>aS _,k2,λq=>⟨rfl,q⟩,λx m hc=>k x m<|by grind⟩;have O:=(G1.ab1 λx m hc=>L1.block x m<|aA<|aA ⟨h,rfl,hc⟩).trans<|G2 T1 F rfl ⟨#[],by simp⟩;obtain⟨rfl,q⟩:=O.calm H.vN;have nA:=O.md H.opn;have ht1:=ht R;rw[e1]at ht1;exact⟨⟨s.role,ic,s.ch,cl',D1,_,_,v2,gH⟩,b,(f R).2,x,x',n,T,λz hz hF=>a.Of z hz hF,hv,ht1,.single ⟨jX,R,es0,by grind⟩,⟨_,runNT_then r1<|qI<|M8.trans q1⟩,⟨by show(Array.setIfInBounds _ _ _).size=_;rw[uH,Dy];exact O.size,rfl,nA,rfl,S,O.uT,O.own,O.cls,O.os,O.tape,O.out,O.old⟩,⟨q2,q3,q,(congrArg dw.stage S).trans H.nine,h0,⟨_,nA.trans H.opn.choose_spec⟩,H.ro⟩,⟨Q.os,p,g,Q.blk,Q.kx,cE M.B7 T,r,λA hA=>⟨Q.arg A hA,(L A hA).1⟩⟩⟩
end
def P4:Op->Option (List iT)|.move x|pn x=>U [x]|.pick c a b=>U [c,a,b]|.load _ a=>U [a]|.nilCheck x=>U [x]|.binOp _ _ x y _=>U [x,y]|.fieldAddr _ x _=>U [x]|.indexAddr _ x i=>U [x,i]|.extract x _=>U [x]|.call {callee:=.builtin .len,args,..}=>U args.toList|_=>Z
section
variable {ρ:Nat->Nat} {I:H} {q:bW} {fs:Array ep} {N M:Nat}
theorem Ir{s b}(h:W ρ I (J q fs) q (RV ρ I) N s b):W ρ I (J q fs) q (Pm ρ I) N (do bI<|gp<|<-s) (do bI<|gp<|<-b):=W.bind' h λ_ _ _ _ c=>.pure' ⟨_,_,rfl,rfl,c⟩
theorem ary(P:∀b,N<=b->I.F b=Y)(A:Fair ρ q){e B:iT->az}{o:dJ}{l:List iT}(g:P4 o.op=U l)(h:∀x∈l,RV ρ I N (e x)<|B x):W ρ I (J q fs) q (Pm ρ I) N (cX e o)<|cX B o:=by
 obtain⟨O,op,s,Q0,w⟩:=o;cases op<;>simp only[P4,ew,reduceCtorEq]at g;case move x=>subst g;exact .pure' ⟨_,_,rfl,rfl,h x<|by simp⟩
 case assign x=>subst g;exact .pure' ⟨_,_,rfl,rfl,h x<|by simp⟩
 case pick c a b=>
  subst g;refine W.bind' (ad3<|h c<|by simp) ?_;rintro M d _ u rfl;refine .pure' ⟨_,_,rfl,rfl,?_⟩;split;·exact(h a<|by simp).mono u
  ·exact(h b<|by simp).mono u
 case load t a=>subst g;exact Ir<|adG t<|h a<|by simp
 case nilCheck x=>subst g;have m:=h x (by simp);obtain⟨D,E⟩:=m;have m:=h x (by simp);unfold cX;dsimp only;rw[E];rw[E]at m;generalize e x=v at D m⊢;rcases v with X|⟨F,Q1⟩|⟨_,_⟩|⟨_,_,_⟩|R|(_|p)|⟨_,_,_⟩|_|_|⟨L,_,_⟩|_|⟨_,_⟩|_|_|_<;>first|exact .pure ⟨_,_,rfl,rfl,m⟩|exact .dead<|lK _ .nilDeref|(cases L<;>first|exact .pure ⟨_,_,rfl,rfl,m⟩|(simp[S,uD]at D;done))
 case binOp op t x y yt=>subst g;refine Ir<|W.bind' (adV op t x y (h x<|by simp)<|h y<|by simp) ?_;rintro M _ _ u _;exact ad0 λb T=>P b<|by omega A op t ((h x<|by simp).mono u)<|(h y<|by simp).mono u
 case fieldAddr t x i=>subst g;exact Ir<|adP t i<|h x<|by simp
 case indexAddr t x i=>subst g;exact Ir<|adJ t (h x<|by simp)<|h i<|by simp
 case extract x i=>subst g;exact Ir<|adQ i<|h x<|by simp
 case call c=>obtain⟨j,k,z⟩:=c;cases j with|value f=>grind|invoke r n=>grind|builtin K=>
  cases K<;>first|grind|skip
  simp only[ew]at g;subst g;have Q:bD ρ I N (k.map e)<|k.map B:=by
   refine⟨λv H=>?_,?_⟩;·obtain⟨x,C,rfl⟩:=MA.1 H;exact(h x<|by grind).1
   ·rw[Array.map_map];exact My λx C=>(h x<|by simpa using C).2
  exact Ir<|adI z s Q
end
def lE(ρ:Nat->Nat)(I:H)(N:Nat)(S:List Nat)(TL TR:Array az):Prop:=∀t,t∈S->RV ρ I N (TL.getD t ak) (TR.getD t ak)
def Yc(ops:Array dJ)(S:List Nat)(i:Nat):Bool:=match ops[i]? with|some o=>(match P4 o.op with|some l=>l.all (λ|cx t=>S.contains t|gJ v=>n v|_=>ai)|none=>ai)&&(match o.guard with|some (j,_)=>(match ops[j]?.bind (·.dst)with|some t=>S.contains t|none=>Y)|none=>Y)|none=>ai
def NZ(ops:Array dJ)(S:List Nat)(i:Nat):List Nat:=match ops[i]?.bind (·.dst)with|some t=>t::S|none=>S
def grow(ops:Array dJ):List Nat->List Nat->List Nat|S,[]=>S|S,i::is=>grow ops (NZ ops S i) is
def zX(ops:Array dJ):List Nat->List Nat->Bool|_,[]=>Y|S,i::is=>Yc ops S i&&zX ops (NZ ops S i) is
theorem ajt(ops):∀(c){S}{t},t∈S->t∈grow ops S c|[],S,t,h=>h|i::c,S,t,h=>ajt ops c<|by unfold NZ;grind
section
variable {ρ:Nat->Nat} {I:H} {N:Nat} {S:List Nat} {TL TR:Array az}
theorem lE.mono{M}(h:lE ρ I N S TL TR){b}(c:∀x,x<N->ρ x=b x)(e:N<=M):lE b I M S TL TR:=λt d=>((h t d).re c).mono e
theorem lE.sub{S'}(h:lE ρ I N S TL TR)(c:∀t∈S',t∈S):lE ρ I N S' TL TR:=λt b=>h t<|c t b
theorem lE.put(h:lE ρ I N S TL TR)(g:TL.size=TR.size){x x'}(j:RV ρ I N x x')(d)(c b):lE ρ I N (match d with|some t=>t::S|none=>S) (cA ⟨TL,c⟩ d x).tmps (cA ⟨TR,b⟩ d x').tmps:=by intro t f;cases d with|none=>exact h t f|some d=>
  show RV ρ I N ((TL.setIfInBounds d x).getD t ak)<|(TR.setIfInBounds d x').getD t ak;rw[iE,iE];by_cases e:d=t;.grind[Array.getElem?_setIfInBounds_self_of_lt,Array.getElem?_eq_none,RV.plain,uu]
  .rw[nu e,nu e,<-iE,<-iE];exact h t<|(dj.1 f).resolve_left λi=>e i.symm
theorem RV.bool{x x'}(h:RV ρ I N x x')(b):x=bQ b↔x'=bQ b:=by obtain⟨_,rfl⟩:=h;cases x<;>simp[F]
theorem lE.yielded(h:lE ρ I N S TL TR){ops:Array dJ}{j:Nat}(d:match ops[j]?.bind (·.dst)with|some t=>t∈S|none=>True):eu ops TL j=eu ops TR j:=by unfold eu;cases e:ops[j]?.bind (·.dst)with|none=>rfl|some t=>rw[e]at d;have b:=h t d;rw[iE,iE]at b;simp only[yI];obtain⟨_,b⟩:=b;cases f:TL[t]? with
  |none=>rw[f]at b;cases c:TR[t]? with|none=>rfl|some y=>simp only[Option.getD_none,ak,F]at b;grind
  |some x=>rw[f]at b;cases c:TR[t]? with|none=>rw[c]at b;cases x<;>simp[ak,F]at b⊢|some y=>rw[c]at b;subst b;cases x<;>simp[F]
theorem Term.one{P}{Done}(k:mX P Done){g g'}{w}(u:g.status=dU)(d:∀b,cj P Y g b=bU g' b #[])(t:Term P Done g w):∃b,i w b/\Term P Done g' b/\tU (qF P Done) (g',b) (g,w):=by cases t with|done c=>obtain⟨o,b,j,e⟩:=k g w w.tape 0 c;grind|step f p l=>
  obtain⟨⟨j,e⟩,_⟩:=p w.tape;have a:=e;rw[d]at a;injection a with n q s;have h:=l w.tape;rw[<-n,<-q]at h;refine⟨_,⟨w.tape,0,rfl⟩,h,.single ⟨λc=>?_,w.tape,j,?_⟩⟩;.obtain⟨o,b,m,r⟩:=k g w w.tape 0 c;grind
  grind
theorem ue.refl(h)(s):ue h s s:=⟨rfl,rfl,rfl,rfl,rfl,aS _,λ_ _ _=>rfl,λ_ _=>rfl,rfl,rfl,rfl,λ_ _ _=>rfl⟩
theorem ue.trans{h}{s t u}(a:ue h s t)(b:ue h t u):ue h s u:=⟨b.size.trans a.size,b.role.trans a.role,b.md.trans a.md,b.ch.trans a.ch,b.D.trans a.D,bC a.uT b.uT,λx d e=>(b.own x (cE d a.uT)<|(a.cls x d).trans e).trans<|a.own x d e,λx d=>(b.cls x<|cE d a.uT).trans<|a.cls x d,b.os.trans a.os,b.tape.trans a.tape,b.out.trans a.out,λx d e=>(b.old x (cE d a.uT)<|(a.cls x d).trans e).trans<|a.old x d e⟩
theorem Kept.AB{h}{s t}(k:Kept h [] s t)(f:t.D h=s.D h)(e:t.ch=s.ch):ue h s t:=⟨k.size,k.role,k.md,e,f,k.left.size,λb d c=>k.rest b d c<|by simp,k.cls,k.left.os,k.left.tape,k.left.out,λb d e=>k.left.block b d<|aA<|ax e⟩
theorem Vt{P}{main}{b:aZ}{T}{ds}{ops}{i}{rest}{o}{k}{cs}(d:ops[i]?=U o)(c:eX o (eu ops T)=ai)(w):cj P main (G (b.at ⟨T,ds⟩<|aT ops (i::rest)::k) cs) w=bU (G (b.at (cA ⟨T,ds⟩ o.dst ak)<|aT ops rest::k) cs) w #[]:=by grind[stepG_unwanted]
theorem FD(T)(ds)(d)(x):(cA ⟨T,ds⟩ d x).tmps.size=T.size:=by cases d<;>simp[cA]
theorem put_defers(T)(ds)(d)(x):cA ⟨T,ds⟩ d x=⟨(cA ⟨T,ds⟩ d x).tmps,ds⟩:=by cases d<;>rfl
theorem Dh{T}{ds}{d:Option Tmp}{x}{t:Nat}(h:d≠U t):(cA ⟨T,ds⟩ d x).tmps[t]?=T[t]?:=by cases d with|none=>rfl|some d=>exact nu λe=>h<|by grind
def tR(ops:Array dJ)(is:List Nat):List Nat:=is.filterMap λi=>ops[i]?.bind (·.dst)
theorem Ok.IZ{K:fG}{h:Nat}{fs:Array ep}{Done:aX->ay->Prop}(hE:mX (J K.P fs) Done){bL f:aZ}{n q:List Deferred}{kL kR:List eY}{B cZ:List aZ}{ops:Array dJ}{rest:List Nat}(C:∀fr w,¬Done (G fr B) w):∀(r:List Nat){S:List Nat}{TL TR:Array az}{w:ay}{ρ:Nat->Nat}{s:St},zX ops S r=Y->Ok K h s (G (f.at ⟨TR,q⟩<|aT ops (r++rest)::kR) cZ)->Term (J K.P fs) Done (G (bL.at ⟨TL,n⟩<|aT ops (r++rest)::kL) B) w->fL ρ I K.P s.cl w s.v->lE ρ I w.heap.size S TL TR->TL.size=TR.size->∃t c y d k,(∀z,z<w.heap.size->ρ z=c z)∧w.heap.size<=y.heap.size∧(∀z,z<w.heap.size->I.F z=ai->y.heap[z]?=w.heap[z]?)∧lE c I y.heap.size (grow ops S r) d k∧d.size=TL.size∧k.size=TR.size∧(∀t,t∉tR ops r->d[t]?=TL[t]?∧k[t]?=TR[t]?)∧Term (J K.P fs) Done (G (bL.at ⟨d,n⟩<|aT ops rest::kL) B) y∧lQ (J K.P fs) Done (G (bL.at ⟨d,n⟩<|aT ops rest::kL) B,y) (G (bL.at ⟨TL,n⟩<|aT ops (r++rest)::kL) B,w)∧s.runs K.P t∧ue h s t∧Ok K h t (G (f.at ⟨k,q⟩<|aT ops rest::kR) cZ)∧fL c I K.P t.cl y t.v|[],S,TL,TR,w,ρ,s,_,H,R,M,O,A=>⟨s,ρ,w,TL,TR,λ_ _=>rfl,aS _,λ_ _ _=>rfl,O,rfl,rfl,λ_ _=>⟨rfl,rfl⟩,R,.refl _,.refl s,.refl h s,H,M⟩|i::r,S,TL,TR,w,ρ,s,hl,H,R,M,O,A=>by simp only[List.cons_append]at H R⊢;simp only[zX,cV]at hl;obtain⟨h1,h2⟩:=hl;cases Q:ops[i]? with|none=>simp[Yc,Q]at h1|some o=>
  simp only[Yc,Q,cV]at h1;obtain⟨hu,hg⟩:=h1;have ZM:NZ ops S i=match o.dst with|some t=>t::S|none=>S:=by unfold NZ;grind
  simp only[grow];rw[ZM]at h2⊢;cases Q0:P4 o.op with|none=>grind|some l=>
  rw[Q0]at hu;simp only[List.all_eq_true]at hu;have m:∀t,t∉tR ops (i::r)->o.dst≠U t∧t∉tR ops r:=λt u=>by unfold tR at u⊢;grind
  have Q1:eX o (eu ops TL)=eX o (eu ops TR):=by unfold eX;cases eg:o.guard with|none=>rfl|some p=>obtain⟨j,b⟩:=p;rw[eg]at hg;dsimp only at hg⊢;rw[O.yielded (ops:=ops) (j:=j)<|by grind]
  cases P:eX o (eu ops TL)with|false=>
   obtain⟨w1,rt,X,b1⟩:=Term.one hE rfl (Vt Q P) R;obtain⟨s1,a1,r1,T,e1,k1,d1,c1⟩:=H.walk (n:=1) (O:=[]) (Rd:=[]) (Stop:=λg _=>g=G (f.at (cA ⟨TR,q⟩ o.dst ak)<|aT ops (r++rest)::kR) cZ) λg w e=>by rw[e];rfl (aA ⟨rfl,λw2 _=>by rw[Vt Q<|Q1▸P];exact⟨dh_none<|by simp,λ_ _=>rfl⟩⟩) (by simp) (by simp);subst e1;rw[put_defers]at T X;have M1:fL ρ I K.P s1.cl w1 s1.v:=(M.left k1.left k1.cls).re rt;have Q3:lE ρ I w1.heap.size (match o.dst with|some t=>t::S|none=>S) (cA ⟨TL,n⟩ o.dst ak).tmps (cA ⟨TR,q⟩ o.dst ak).tmps:=by rw[rt.heap];exact O.put A (RV.plain uu) _ _ _
   obtain⟨t,c,y,d,k,q1,q2,q3,q4,q5,q6,F,q8,q9,Q2,E,L,D⟩:=Ok.IZ hE C r h2 T X M1 Q3 (by grind[FD]);rw[rt.heap]at q1 q2 q3;refine⟨t,c,y,d,k,q1,q2,q3,q4,q5.trans<|FD _ _ _ _,q6.trans<|FD _ _ _ _,λt u=>⟨(F t (m t u).2).1.trans<|Dh (m t u).1,(F t (m t u).2).2.trans<|Dh (m t u).1⟩,q8,q9.trans<|aA<|by grind[put_defers],r1.trans Q2,(k1.AB d1 c1).trans E,L,D⟩|true=>
   have hs:∀c:Nat->Nat,(∀x,x<w.heap.size->ρ x=c x)->Fair c K.P->W c I (J K.P fs) K.P (Pm c I) w.heap.size (cX (er ⟨TL,n⟩) o) (cX (er ⟨TR,q⟩) o):=λc rX hf=>ary M.kx hf Q0 λx hx=>by have:=hu x hx;cases x with|tmp t=>exact(O t<|by grind).re rX|const v=>exact RV.plain this|global g=>cases this|func f=>cases this
   obtain⟨s1,Pz,w1,x,x',a1,a2,a3,hv,X,b1,r1,d1,T,M1⟩:=H.axc hE R M Q P Q (Q1▸P) (C _ _) hs;rw[put_defers]at T X;have Q3:=(O.mono a1 a2).put A hv o.dst n q;obtain⟨t,c,y,d,k,q1,q2,q3,q4,q5,q6,F,q8,q9,Q2,E,L,D⟩:=Ok.IZ hE C r h2 T X M1 Q3 (by rw[FD,FD];exact A);refine⟨t,c,y,d,k,λz a=>(a1 z a).trans<|q1 z<|cE a a2,bC a2 q2,λz a hF=>(q3 z (cE a a2) hF).trans<|a3 z a hF,q4,q5.trans<|FD _ _ _ _,q6.trans<|FD _ _ _ _,λt u=>⟨(F t (m t u).2).1.trans<|Dh (m t u).1,(F t (m t u).2).2.trans<|Dh (m t u).1⟩,q8,q9.trans<|aA<|by rw[put_defers]at b1;exact b1,r1.trans Q2,d1.trans E,L,D⟩
end
end
section
open Go.Proofs Go.Conc Go.RowKit Go.Conc.Lib Go.ConcR.Gen
open Go.ConcN (upd upd_ne upd_same WgLive)
open Go.ConcR (KK WgAt stA smA wgBlock rd wr mk Bk)
def rD:List Nat:=[0,1,2,6,7,12,13]
def S8:List Nat:=[0,1,2,6,7]
theorem av7:zX (eU<|cS 1) S8 [0,1,2,3,4,5,6]=Y:=by kernel_rfl
theorem aAV:grow (eU<|cS 1) S8 [0,1,2,3,4,5,6]=[22,21,20,19,18,17,16,0,1,2,6,7]:=by kernel_rfl
theorem av3:zX (eU<|cS 7) S8 [0,1,2,3,4]=Y:=by kernel_rfl
theorem aAT:grow (eU<|cS 7) S8 [0,1,2,3,4]=[40,39,38,37,36,0,1,2,6,7]:=by kernel_rfl
theorem av2:zX (eU<|cS 7) (41::S8) [6,7]=Y:=by kernel_rfl
theorem aAS:grow (eU<|cS 7) (41::S8) [6,7]=[13,12,41,0,1,2,6,7]:=by kernel_rfl
theorem av6:zX (eU kW) rD [0,1,2,3,4,5,6,7,8,9,10,11,12,13,14,15,16,17,18]=Y:=by kernel_rfl
theorem aAU:(grow (eU kW) rD [0,1,2,3,4,5,6,7,8,9,10,11,12,13,14,15,16,17,18]).contains 62=Y:=by kernel_rfl
theorem av5:zX (eU kJ) rD [0,1,2]=Y:=by kernel_rfl
theorem av4:zX (eU<|eN 1 kJ) rD [0,1,2,3,4]=Y:=by kernel_rfl
structure LF(w w':ay):Prop where
 os:w'.os=w.os
 size:w'.heap.size=w.heap.size
 blk:∀b,b≠4->w'.heap[b]?=w.heap[b]?
def AY(w w':ay)(es:Array jl):Prop:=LF w w'
theorem LF.refl(w):LF w w:=⟨rfl,rfl,λ_ _=>rfl⟩
theorem LF.trans(a b c)(h:LF a b)(k:LF b c):LF a c:=⟨k.os.trans h.os,k.size.trans h.size,λx d=>(k.blk x d).trans<|h.blk x d⟩
theorem LF.Bm(a b)(h:i a b):LF a b:=by obtain⟨c,d,rfl⟩:=h;exact⟨rfl,rfl,λ_ _=>rfl⟩
instance:Qt i AY:=⟨LF.refl,i.refl⟩
theorem fL.lf{K:fG}{ρ}{I}{d}{w w1 v}(M:fL ρ I K.P d w v)(j:I.F 4=ai)(c:∀A,I.arg=U A->A.g≠4)(h:LF w w1):fL ρ I K.P d w1 v:=by exact⟨M.os.trans h.os.symm,M.fair,λb a=>M.low b<|by rw[<-h.size];exact a,λb o a f=>by rw[h.size];exact M.blk b o (by rw[<-h.blk b<|λb a e=>by grind b f];exact a) f,λb a=>M.kx b<|by rw[<-h.size];exact a,by rw[h.size];exact M.B7,λb a=>M.cls b<|by rw[<-h.size];exact a,λA i=>by rw[h.blk _<|c A i];exact M.arg A i⟩
theorem p{w w1}{x}(h:w.heap[4]?=U (aH #[x] 3))(r:i w w1):w1.heap[4]?=U (aH #[x] 3):=by rw[r.heap];exact h
theorem Ls(q)(fs)(t):(J q fs).underlying t=q.underlying t:=rfl
theorem axs(q)(fs)(t):(J q fs).info? t=q.info? t:=rfl
section
variable {fs:Array ep} {C:List aZ}
theorem u3(fs):(J aF fs).underlying 3=U (.int aC):=(Ls _ _ _).trans underlying3
theorem WE(fs)(w):(pq 3).run (J aF fs) w=aY (.int aC) w:=run_underlying (u3 fs) w
theorem ia3(fs)(w):(isAgg 3).run (J aF fs) w=aY ai w:=by unfold isAgg;simp[WE]
theorem Qp(fs)(w):(Go.sizeOf 3).run (J aF fs) w=aY 1 w:=by have h:=sizeOf3 w;unfold Go.sizeOf typeInfo at h⊢;simp[go_sem,axs]at h⊢;generalize aF.info? 3=o at h⊢;cases o with|none=>simp[go_sem]at h|some i=>simp[go_sem]at h⊢;exact h
theorem Yg{w}{x}(y)(h:w.heap[4]?=U (aH #[x] 3)):LF w (w.setCell ⟨4,0,Z⟩ y)/\(w.setCell ⟨4,0,Z⟩ y).heap[4]?=U (aH #[y] 3):=by refine⟨?_,by rw[pB 0 y h];rfl⟩;rw[OU 0 y h];exact⟨rfl,by simp,λb a=>nu λe=>a e.symm⟩
def gw(n:Int)(w:ay):Prop:=w.heap[4]?=U (aH #[V aC n] 3)
set_option maxHeartbeats 1000000 in
theorem awl{T}(O:T.size=87){w}(a:w.heap[4]?=U (aH #[V aC 0] 3)):∃n,cK (J aF fs) Y i AY (λg w=>gw 1 w/\g=G ((bh 41).at ⟨(T.setIfInBounds 23<|V aC 0).setIfInBounds 24 Y,[]⟩ [aT zS [1,2],bF Fu]) C) n (G ((bh 41).at ⟨T,[]⟩ [bF Cv]) C) w:=by refine⟨620,?_⟩;obtain⟨v0,v1,v2,v3,v4,v5,v6,v7,v8,v9,v10,QX,v12,lR,oL,M,oK,oJ,X,mq,v20,Z,P,pW,q,r,x,QY,v28,QW,B,v31,uq,Q2,t,pV,Qw,v37,pU,pS,v40,pR,pQ,pP,R,nU,Q0,pO,pM,v49,v,v51,m,l,xq,pL,nT,A,F,v59,nS,pK,pJ,o,nQ,y,nP,h,u,z,Q1,QZ,v72,W,s,Q3,v76,xp,S,Q,k,E,L,nO,H,v85,j,rfl⟩:=pD T O;simp only[Cv,Rg,zS,eO];refine lift ?_;u_c D p a;u_reg p a;refine I λ_ b=>?_;replace a:=p a b;u_in p a;refine gh rfl rfl (by k_ne) λK c=>?_;have d:=gB (o:=0) a rfl;have f:=ia3 fs;go_simp;refine c _ _ ⟨.refl _,?_⟩;u_in p a;refine gh rfl rfl (by k_ne) λK c=>?_;have f:=WE fs;go_simp;refine c _ _ ⟨.refl _,?_⟩;refine lift ?_;u_c N p a;u_c D p a;u_cond Y p a;u_c ld p a;u_c D p a;u_reg p a;refine I λ_ b=>?_;replace a:=p a b;u_in p a;refine gh rfl rfl (by k_ne) λK c=>?_;have f:=Qp fs;have d:=gB (o:=0) a rfl;have hz:=wT 0 a;go_simp;have e:=Yg (V aC 1) a;refine c _ _ ⟨e.1,?_⟩;exact I λw1 h1=>⟨p e.2 h1,rfl⟩
set_option maxHeartbeats 1000000 in
theorem awn{T}(P:T.size=87){w}(a:gw 1 w):∃n,cK (J aF fs) Y i AY (λg w=>g.callers=C/\∀f h e d,cj (J aF fs) Y g f≠bU h e d) n (G ((bh 41).at ⟨T,[]⟩ [bF Cv]) C) w:=by refine⟨620,?_⟩;obtain⟨v0,v1,v2,v3,v4,v5,v6,v7,v8,v9,v10,E,v12,lR,oL,Q2,oK,oJ,Z,mq,v20,v21,R,pW,r,s,y,Q1,v28,O,Q3,v31,uq,X,u,pV,q,v37,pU,pS,v40,pR,pQ,pP,U,nU,W,pO,pM,v49,x,v51,o,m,xq,pL,nT,B,H,v59,nS,pK,pJ,QY,nQ,z,nP,QX,v,A,v70,j,v72,Q0,t,L,v76,xp,V,S,l,F,M,nO,QW,v85,k,rfl⟩:=pD T P;unfold gw at a;simp only[Cv,Rg,zS,eO];refine lift ?_;u_c D p a;u_reg p a;refine I λ_ b=>?_;replace a:=p a b;u_in p a;refine gh rfl rfl (by k_ne) λK c=>?_;have sk:=gB (o:=0) a rfl;have Q:=ia3 fs;go_simp;refine c _ _ ⟨.refl _,?_⟩;u_in p a;refine gh rfl rfl (by k_ne) λK c=>?_;have Q:=WE fs;go_simp;refine c _ _ ⟨.refl _,?_⟩;refine dL ?_;u_c N p a;u_c D p a;u_cond ai p a;refine I λf h1=>⟨rfl,λw2 h e d=>?_⟩;simp[G,cj,wM,Frame.at]
end
theorem ade{P}{main}{b:aZ}{a}{k}{cs}{ops}{i}{rest}{o}{w w1}{m}(f:ops[i]?=U o)(d:eX o (eu ops a.tmps)=Y)(j:(cX a.eval o).run P w=dR (.stuck m) w1)(g')(w')(es):cj P main (G (b.at a<|aT ops (i::rest)::k) cs) w≠bU g' w' es:=by
 rw[Sv f d];have e:((cX a.eval o).runT P w #[]).1=dR (.stuck m) w1:=by grind[Sem.runT_fst]
 unfold wN;simp only[iW];generalize(cX a.eval o).runT P w #[]=R at e⊢;obtain⟨r,g⟩:=R;subst e;intro h;dsimp only[vj]at h;cases h
theorem aBt(fs){v}(b:∀a,v≠aG (U a))(w):∃m,(zl 110 v 0).run (J aF fs) w=dR (.stuck m) w:=by have h:=run_underlying (P:=J aF fs)<|(Ls _ _ _).trans underlying110;unfold zl;cases v with
 |pointer p=>cases p with|some a=>grind|none=>exact⟨ "an address expected (no nilCheck in front?)",by simp[go_sem,h,EK]⟩
 |_=>exact⟨ "an address expected (no nilCheck in front?)",by simp[go_sem,h,EK]⟩
section
variable {fs:Array ep} {Done:aX->ay->Prop} {b:aZ} {T:Array az} {ds:List Deferred} {k:List eY} {cs:List aZ} {ops:Array dJ} {i:Nat} {rest:List Nat} {o:dJ} {w:ay}
theorem ac0{t}(h:Term (J aF fs) Done (G (b.at ⟨T,ds⟩<|aT ops (i::rest)::k) cs) w)(s:mX (J aF fs) Done)(d:¬Done (G (b.at ⟨T,ds⟩<|aT ops (i::rest)::k) cs) w)(j:ops[i]?=o)(g:eX o (eu ops T)=Y)(c:o.op=.fieldAddr 110 (cx t) 0):∃a,T.getD t ak=aG (U a):=by
 refine oe λp=>h.FC s (λf r q l=>?_) d;obtain⟨m,n⟩:=aBt fs (v:=T.getD t ak) (λa e=>p ⟨a,e⟩)<|World.re w f 0;refine ade (m:=m) (w1:=World.re w f 0) j g ?_ r q l;have e:cX (er ⟨T,ds⟩) o=(do bI<|gp<|<-zl 110 (T.getD t ak) 0:cz Next):=by unfold cX;rw[c];rfl
 rw[e];rw[Sem.run_bind,n];rfl
end
theorem ath(fs)(a)(w):(zl 110 (aG<|U a) 0).run (J aF fs) w=aY (aG a) w:=by unfold zl;simp[go_sem,run_underlying (P:=J aF fs)<|(Ls _ _ _).trans underlying110,EK,fieldPlace,Qp fs]
section
variable {fs:Array ep} {C:List aZ}
set_option maxHeartbeats 1000000 in
theorem awh{T}{a}(M:T.size=87)(c:T[0]?=U (.pointer a)){w}(b:gw 1 w):∃n,cK (J aF fs) Y i AY (λg w=>gw 1 w/\g=G ((bh 41).at ⟨T.setIfInBounds 25<|.pointer<|U a,[]⟩ [.inRegion zS [2],.code Fu]) C) n (G ((bh 41).at ⟨T,[]⟩ [.inRegion zS [1,2],.code Fu]) C) w:=by refine⟨620,?_⟩;obtain⟨v0,v1,v2,v3,v4,v5,v6,v7,v8,v9,v10,A,v12,lR,oL,Q2,oK,oJ,V,mq,v20,X,N,pW,m,o,t,F,v28,L,z,v31,uq,S,q,pV,l,v37,pU,pS,v40,pR,pQ,pP,P,nU,R,pO,pM,v49,s,v51,j,QW,Q1,pL,nT,y,D,v59,nS,pK,pJ,k,nQ,u,nP,d,r,v,W,e,v72,Q0,QX,H,v76,Z,Q,O,h,B,Q3,nO,E,v85,f,rfl⟩:=pD T M;simp only[oW,oV,ew]at c;subst c;unfold gw at b;simp only[zS,eO];u_in p b;refine gh rfl rfl (by k_ne) λK x=>?_;go_simp;refine x _ _ ⟨.refl _,?_⟩;exact I λw1 h1=>⟨p b h1,rfl⟩
set_option maxHeartbeats 1000000 in
theorem awi{T}{b}(M:T.size=87)(c:T[1]?=U (.pointer b)){w}(a:gw 1 w):∃n,cK (J aF fs) Y i AY (λg w=>gw 1 w/\g=G ((bh 41).at ⟨((T.setIfInBounds 26<|.pointer<|U b).setIfInBounds 6<|.int .i64 0).setIfInBounds 7<|.int .i64 0,[]⟩ [.inRegion (eU<|cS 1) [0,1,2,3,4,5,6],.code<|.seq x9 yl]) C) n (G ((bh 41).at ⟨T,[]⟩ [.inRegion zS [2],.code Fu]) C) w:=by refine⟨620,?_⟩;obtain⟨v0,v1,v2,v3,v4,v5,v6,v7,v8,v9,v10,A,v12,lR,oL,Q2,oK,oJ,V,mq,v20,X,Q3,pW,m,o,t,F,v28,L,z,v31,uq,S,q,pV,l,v37,pU,pS,v40,pR,pQ,pP,P,nU,R,pO,pM,v49,s,v51,j,QY,Q1,pL,nT,y,QW,v59,nS,pK,pJ,k,nQ,u,nP,d,r,v,W,e,v72,Q0,QZ,H,v76,Z,Q,O,h,B,QX,nO,E,v85,f,rfl⟩:=pD T M;simp only[oW,qR,oV,ew]at c;subst c;unfold gw at a;simp only[Fu,zS,eO,eU,cS,eN,oB,fV];u_in p a;refine gh rfl rfl (by k_ne) λK x=>?_;have h3:=ath fs;go_simp;refine x _ _ ⟨.refl _,?_⟩;refine dL ?_;u_c N p a;u_c D p a;u_reg p a;u_op p a;u_op p a;u_c N p a;u_c D p a;u_reg p a;exact I λw1 h1=>⟨p a h1,rfl⟩
theorem akQ{P}{main}{b:aZ}{a}{k}{cs}{c}{x y}{w}(h:∀t,a.eval c≠bQ t)(g')(w')(es):cj P main (G (b.at a<|bF (.cond c x y)::k) cs) w≠bU g' w' es:=by intro e;have d:=Frame.eval_at' b a<|bF (.cond c x y)::k;simp only[Frame.at]at d;simp only[G,cj,wM,Frame.at,d]at e;grind
theorem aws{P}{main}{b:aZ}{a}{d}{fn}{v}{c}{cs}{w}(e:b.kind=eC)(i:a.defers=[])(g:P.funcs[b.fn]?=U fn)(f:(kA fn a.tmps).run P w=aY v w)(h:(kA fn a.tmps).events P w #[]=#[]):cj P main (G {b.at a d with mode:=fH}<|c::cs) w=bU (G (c.finish v) cs) w #[]:=by simp[G,cj,unwind,oz,Frame.at,e,i,g,f,h,vj,seen]
end
noncomputable def ni:Array dJ:=eU<|cS 7
noncomputable def xL:List eY:=[bF<|cS 8]
theorem afQ:(f60.name== "runtime.NumGoroutine")=ai:=by kernel_rfl
theorem ak9{P:bW}{f:fq}{fn:ep}{c:Code}(hf:P.funcs[f]?=U fn)(E:(fn.name== "runtime.NumGoroutine")=ai)(hb:fn.body=U c)(args:Array az)(w:ay):(iA f args).run P w=aY (jL f args) w:=by
 have h1:fn.name≠ "runtime.NumGoroutine":=by simpa using E
 simp[iA,hf,h1,hb]
section
variable {fs:Array ep} {C:List aZ}
set_option maxHeartbeats 1000000 in
theorem aex{T:Array az}(w:ay):∃n,cK aF Y (L<|[]++[]) (DH [] []) (λg w=>g=G ((bh 41).at ⟨T,[]⟩<|aT ni [0,1,2,3,4,5,6,7]::xL) C) n (G ((bh 41).at ⟨T,[]⟩ [bF<|cS 7]) C) w:=by refine⟨620,?_⟩;simp only[xL,ni,eU,cS,eN,oB,fV];have hF:True:=trivial;refine dL ?_;u_c D A hF;u_reg A hF;exact I λw1 h1=>rfl
set_option maxHeartbeats 1000000 in
theorem aey{T:Array az}{v x:az}(hT:T.size=87)(h0:T[36]?=U v/\T[40]?=U x)(w:ay):∃n,cK aF Y (L<|[]++[]) (DH [] []) (λg w=>g=G (eW aF 60 #[v,x] eC) ((bh 41).at ⟨T,[]⟩ (aT ni [5,6,7]::xL)::C)) n (G ((bh 41).at ⟨T,[]⟩<|aT ni [5,6,7]::xL) C) w:=by
 refine⟨620,?_⟩;obtain⟨v0,v1,v2,v3,v4,v5,v6,v7,v8,v9,v10,v11,v12,lR,oL,Fp,oK,oJ,CW,mq,v20,v21,Fo,pW,v24,P3,PZ,PY,v28,HU,v30,v31,uq,Fj,Vs,pV,Vr,v37,pU,pS,v40,pR,pQ,pP,HG,nU,v46,pO,pM,v49,PX,v51,Vq,v53,xq,pL,nT,Vp,PW,v59,nS,pK,pJ,Vo,nQ,PV,nP,Vn,Vm,Vl,v70,PU,v72,Fi,Vk,v75,V,xp,Hz,Fh,B,Vj,PT,nO,Vi,J,Vh,rfl⟩:=pD T hT;clear hT;simp only[oW,qR,oV,ew]at h0;obtain⟨rfl,rfl⟩:=h0;simp only[xL,ni,eU,cS,eN,oB,fV];have hF:True:=trivial;u_in A hF;refine Jw rfl rfl (by k_ne) λK E hK hE=>?_;go_simp;refine hE _ _ _ ⟨⟨rfl,rfl,rfl,rfl,λ_ _=>rfl,λe he=>?_⟩,?_⟩;.have hm:=lH he;have hz:=λargs w es=>Oi (P:=aF) (args:=args) (w:=w) es func60 afQ rfl;simp[go_sem,hz]at hm
 exact I λw1 h1=>rfl
theorem x60(E:fs[60]?=U f60):(J aF fs).funcs[60]?=U f60:=E
set_option maxHeartbeats 1000000 in
theorem awp(B:fs[60]?=U f60){T:Array az}{v x:az}{k:List eY}(hT:T.size=87)(h0:T[36]?=U v/\T[40]?=U x){w:ay}(hF:gw 1 w):∃n,cK (J aF fs) Y i AY (λg w=>gw 1 w/\g=G (eW (J aF fs) 60 #[v,x] eC) ((bh 41).at ⟨T,[]⟩ (aT ni [5,6,7]::k)::C)) n (G ((bh 41).at ⟨T,[]⟩<|aT ni [5,6,7]::k) C) w:=by refine⟨620,?_⟩;obtain⟨v0,v1,v2,v3,v4,v5,v6,v7,v8,v9,v10,v11,v12,lR,oL,Fp,oK,oJ,CW,mq,v20,v21,Fo,pW,v24,P3,PZ,PY,v28,HU,v30,v31,uq,Fj,Vs,pV,Vr,v37,pU,pS,v40,pR,pQ,pP,HG,nU,v46,pO,pM,v49,PX,v51,Vq,v53,xq,pL,nT,Vp,PW,v59,nS,pK,pJ,Vo,nQ,PV,nP,Vn,Vm,Vl,v70,PU,v72,Fi,Vk,v75,v76,xp,Hz,Fh,V,Vj,PT,nO,Vi,A,Vh,rfl⟩:=pD T hT;clear hT;simp only[oW,qR,oV,ew]at h0;obtain⟨rfl,rfl⟩:=h0;simp only[ni,eU,cS,eN,oB,fV];u_in p hF;refine Jw rfl rfl (by k_ne) λK E hK hE=>?_;go_simp;rw[ak9 (x60 B) afQ rfl];refine hE _ _ _ ⟨.refl _,?_⟩;exact I λw1 h1=>⟨p hF h1,rfl⟩
end
theorem Kn{n}{w w'}{I:H}(h:gw n w)(a:I.F 4=ai)(b:∀z,z<w.heap.size->I.F z=ai->w'.heap[z]?=w.heap[z]?):gw n w':=by grind[gw,pz]
theorem alD(x0 x1 x2)(n):(#[x0,x1,x2]++tT n ak)[0]?=U x0/\(#[x0,x1,x2]++tT n ak)[1]?=U x1/\(#[x0,x1,x2]++tT n ak)[2]?=U x2/\∀t,3<=t->(#[x0,x1,x2]++tT n ak).getD t ak=ak:=by refine⟨by grind,by grind,by grind,λt a=>?_⟩;rw[iE,Array.getElem?_append_right<|by grind,Array.getElem?_replicate];grind
theorem l{T:Array az}{i j}{x}(h:i≠j):(T.setIfInBounds i x)[j]?=T[j]?:=nu h
theorem getD_some{T:Array az}{t}{x}(h:T[t]?=U x):T.getD t ak=x:=by rw[iE,h];rfl
set_option maxHeartbeats 1000000 in
theorem atf{C}{T}(QY:T.size=87)(w):∃n,cK aF Y (L<|[]++[]) (DH [] []) (λg w=>g=G ((bh 41).at ⟨(T.setIfInBounds 6<|V aC 0).setIfInBounds 7<|V aC 0,[]⟩<|aT (eU<|cS 1) [0,1,2,3,4,5,6]::DI) C) n (G ((bh 41).at ⟨T,[]⟩ [bF<|cS 0]) C) w:=by refine⟨620,?_⟩;obtain⟨v0,v1,v2,v3,v4,v5,v6,v7,v8,v9,v10,x,v12,lR,oL,H,oK,oJ,Q,mq,v20,S,J,pW,k,l,r,B,v28,F,v,v31,W,O,o,pV,j,Q0,pU,pS,v40,pR,pQ,pP,QX,nU,Q2,pO,pM,X,q,v51,h,f,U,pL,nT,u,z,Z,nS,pK,pJ,i,nQ,s,nP,b,p,t,R,c,v72,P,m,QW,v76,Q1,M,K,e,y,E,nO,Q3,v85,d,rfl⟩:=pD T QY;simp only[DI,eU,cS,eN,oB,fV];have a:=trivial;refine dL ?_;u_c D A a;u_reg A a;u_op A a;u_op A a;u_c N A a;u_c D A a;u_c D A a;u_reg A a;exact I λw1 h1=>rfl
section
variable {K:fG} {B cZ:List aZ} {fs:Array ep} {I:H}
theorem ass(hP:K.P=aF){Done}(u:mX (J K.P fs) Done)(p:∀fr w,¬Done (G fr B) w)(y:fs[41]?=vG)(h4:I.F 4=ai)(v:∀A,I.arg=U A->A.g≠4){s}{w}{ρ}{x0 x1 x2}(Q2:S I w.heap.size x0=Y∧S I w.heap.size x1=Y∧S I w.heap.size x2=Y)(H:Ok K 0 s<|r (eW K.P 41 #[F ρ x0,F ρ x1,F ρ x2] eC) cZ)(C:Term (J K.P fs) Done (r (eW (J K.P fs) 41 #[x0,x1,x2] eC) B) w)(M:fL ρ I K.P s.cl w s.v)(q:gw 0 w):∃t i m k QY a b,(∀z,z<w.heap.size->ρ z=i z)∧w.heap.size<=m.heap.size∧(∀z,z<w.heap.size->I.F z=ai->z≠4->m.heap[z]?=w.heap[z]?)∧gw 1 m∧lE i I m (22::S8) k QY∧k.size=87∧QY.size=87∧(k[0]?=U (aG<|U a)∧k[1]?=U (aG<|U b)∧k[6]?=U (V aC 0)∧k[7]?=U (V aC 0))∧Term (J K.P fs) Done (G ((bh 41).at ⟨k,[]⟩ [aT (eU<|cS 1) [],bF<|eI x9 yl]) B) m∧lQ (J K.P fs) Done (G ((bh 41).at ⟨k,[]⟩ [aT (eU<|cS 1) [],bF<|eI x9 yl]) B,m) (r (eW (J K.P fs) 41 #[x0,x1,x2] eC) B,w)∧s.runs K.P t∧ue 0 s t∧Ok K 0 t (G ((bh 41).at ⟨QY,[]⟩<|aT (eU<|cS 1) []::DI) cZ)∧fL i I K.P t.cl m t.v:=by
 obtain⟨P,L,Wg,n0,fR,live⟩:=K;simp only at hP;subst hP;have Q:∀f cs,r f cs=G f cs:=λ_ _=>rfl;rw[Q,BE (P:=J aF fs) (fn:=vG) (c:=Cv) _ y rfl]at C;rw[Q,BE (P:=aF) (c:=cS 0) _ func41 rfl]at H;have N:oB.ntmps=87:=by kernel_rfl
 simp only[N]at H;rw[Q,BE (P:=J aF fs) (fn:=vG) (c:=Cv) _ y rfl];have hn:vG.ntmps=87:=by kernel_rfl
 simp only[hn]at C⊢;generalize QW:(#[x0,x1,x2]++tT (87-(#[x0,x1,x2]:Array az).size) ak:Array az)=j at C⊢;have d:j.size=87:=by grind
 obtain⟨W,T,a2,a3⟩:j[0]?=U x0∧j[1]?=U x1∧j[2]?=U x2∧∀t,3<=t->j.getD t ak=ak:=by rw[<-QW];grind[alD]
 obtain⟨n1,g1⟩:=awl (fs:=fs) (C:=B) d q;obtain⟨_,w1,⟨f1,rfl⟩,t1,b1,l1⟩:=Term.goes u LF.refl LF.trans LF.Bm (λ_ _ _ h=>h) g1 C;have c0:((j.setIfInBounds 23<|V aC 0).setIfInBounds 24 Y)[0]?=x0:=by rw[l<|by decide,l<|by decide];exact W
 have c1:((j.setIfInBounds 23<|V aC 0).setIfInBounds 24 Y)[1]?=x1:=by rw[l<|by decide,l<|by decide];exact T
 obtain⟨a,ha⟩:=ac0 t1 u (p _ _) (o:=eO (U 25) (.fieldAddr 110 (cx 0) 0) 0) rfl rfl rfl;rw[getD_some c0]at ha;subst ha;obtain⟨n2,g2⟩:=awh (fs:=fs) (C:=B) (a:=a) (by simpa using d) c0 f1;obtain⟨_,w2,⟨f2,rfl⟩,t2,b2,l2⟩:=Term.goes u LF.refl LF.trans LF.Bm (λ_ _ _ h=>h) g2 t1;have d1:(((j.setIfInBounds 23<|V aC 0).setIfInBounds 24 Y).setIfInBounds 25<|aG a)[1]?=x1:=by grind
 obtain⟨b,hb⟩:=ac0 t2 u (p _ _) (o:=eO (U 26) (.fieldAddr 110 (cx 1) 0) 0) rfl rfl rfl;rw[getD_some d1]at hb;subst hb;obtain⟨n3,g3⟩:=awi (fs:=fs) (C:=B) (b:=b) (by simpa using d) d1 f2;obtain⟨_,w3,⟨f3,rfl⟩,t3,b3,l3⟩:=Term.goes u LF.refl LF.trans LF.Bm (λ_ _ _ h=>h) g3 t2;generalize x:(#[F ρ<|aG<|U a,F ρ<|aG<|U b,F ρ x2]++tT (87-(#[F ρ<|aG<|U a,F ρ<|aG<|U b,F ρ x2]:Array az).size) ak:Array az)=o at H;have QX:o.size=87:=by rw[<-x];simp
 obtain⟨e0,e1,e2,e3⟩:o[0]?=U (F ρ<|aG<|U a)∧o[1]?=U (F ρ<|aG<|U b)∧o[2]?=U (F ρ x2)∧∀t,3<=t->o.getD t ak=ak:=by rw[<-x];exact alD _ _ _ _
 obtain⟨n4,g4⟩:=atf (C:=cZ) QX s.v;obtain⟨s1,_,r1,H1,rfl,X,Q3,cc1⟩:=H.walk (n:=n4) (O:=[]) (Rd:=[]) λg w e=>by rw[e];rfl g4 (by simp) (by simp);have n:=(l1.trans _ _ _ l2).trans _ _ _ l3;have hA:lE ρ I w3 S8 ((((((j.setIfInBounds 23<|V aC 0).setIfInBounds 24 Y).setIfInBounds 25<|aG a).setIfInBounds 26<|aG b).setIfInBounds 6<|V aC 0).setIfInBounds 7<|V aC 0)<|(o.setIfInBounds 6<|V aC 0).setIfInBounds 7<|V aC 0:=by
  intro t ht;by_cases h7:t=7;·subst h7;rw[getD_some (x:=V aC 0)<|j5<|by simp[d],getD_some (x:=V aC 0)<|j5<|by grind];exact RV.plain rfl
  by_cases h6:t=6;·subst h6;rw[getD_some (x:=V aC 0)<|by rw[l<|by decide];exact j5<|by simp[d],getD_some (x:=V aC 0)<|by grind[l,Array.getElem?_setIfInBounds_self_of_lt]];exact RV.plain rfl
  have QZ:t≠23∧t≠24∧t≠25∧t≠26:=by refine⟨?_,?_,?_,?_⟩<;>(rintro rfl;revert ht;decide)
  have eL:((((((j.setIfInBounds 23<|V aC 0).setIfInBounds 24 Y).setIfInBounds 25<|aG a).setIfInBounds 26<|aG b).setIfInBounds 6<|V aC 0).setIfInBounds 7<|V aC 0:Array az).getD t ak=j.getD t ak:=by simp only[iE];rw[l<|uO h7,l<|uO h6,l<|uO QZ.2.2.2,l<|uO QZ.2.2.1,l<|uO QZ.2.1,l<|uO QZ.1]
  have eR:((o.setIfInBounds 6<|V aC 0).setIfInBounds 7<|V aC 0:Array az).getD t ak=o.getD t ak:=by simp only[iE];rw[l<|uO h7,l<|uO h6]
  rw[eL,eR,n.size];by_cases h3:3<=t;·rw[a3 t h3,e3 t h3];exact RV.plain uu
  ·have:t=0∨t=1∨t=2:=by omega
   rcases this with rfl|rfl|rfl;·rw[getD_some W,getD_some e0];exact⟨Q2.1,rfl⟩
   ·rw[getD_some T,getD_some e1];exact⟨Q2.2.1,rfl⟩
   ·rw[getD_some a2,getD_some e2];exact⟨Q2.2.2,rfl⟩
 obtain⟨t,i,m,k,QY,q1,q2,q3,q4,q5,q6,E,q8,q9,Q0,Q1,q12,R⟩:=Ok.IZ (rest:=[]) u p [0,1,2,3,4,5,6] av7 H1 t3 ((M.left X.left X.cls).lf h4 v n) hA (by simp[d,QX]);have D:∀t,t=0∨t=1∨t=6∨t=7->t∉tR (eU<|cS 1) [0,1,2,3,4,5,6]:=λt ht=>by
  have e:tR (eU<|cS 1) [0,1,2,3,4,5,6]=[16,17,18,19,20,21,22]:=by kernel_rfl
  rw[e];rcases ht with rfl|rfl|rfl|rfl<;>decide
 have aGF:=n.size;refine⟨t,i,m,k,QY,a,b,λz hz=>q1 z<|by grind,by grind,λz hz hF O=>(q3 z (by grind) hF).trans<|n.blk z O,Kn f3 h4 q3,by rw[aAV]at q4;exact q4.sub<|by decide,by rw[q5];simpa using d,by rw[q6];simpa using QX,⟨?_,?_,?_,?_⟩,q8,q9.trans<|b3.trans<|b2.trans b1,r1.trans Q0,(X.AB Q3 cc1).trans Q1,q12,R⟩;·rw[(E 0<|D 0<|by simp).1,l<|by decide,l<|by decide,l<|by decide,l<|by decide,l<|by decide,l<|by decide];exact W
 ·rw[(E 1<|D 1<|by simp).1,l<|by decide,l<|by decide,l<|by decide,l<|by decide,l<|by decide,l<|by decide];exact T
 ·rw[(E 6<|D 6<|by simp).1,l<|by decide];exact j5<|by simp[d]
 ·rw[(E 7<|D 7<|by simp).1];exact j5<|by simp[d]
end
structure E2(fs:Array ep)(I:H)(nm:String->Bool):Prop where
 lay:nM I aF fs nm
 same:Same I aF fs nm (λ_=>False)f41:fs[41]?=U vG
 f59:fs[59]?=U Tryz.f59
 f60:fs[60]?=U Tryz.f60
 t59:I.T 59=Y
 t60:I.T 60=Y
 flag:I.F 4=ai
 Hg:∀A,I.arg=U A->A.g≠4
 Ov:∀f n,I.cut f n=Y->f=41/\n=3\/∃fn Vb,fs[f]?=U fn/\fn.body=U (.refuse Vb)
theorem aeP{P}{main}{b:aZ}{a}{k}{cs}{c}{w}(g')(w')(es):cj P main (G (b.at a<|bF (.refuse c)::k) cs) w≠bU g' w' es:=by intro d;simp[G,cj,wM,Frame.at]at d
section
variable {K:fG} {h:Nat} {fs:Array ep} {I:H} {nm:String->Bool}
theorem phase(Q1:K.P=aF)(W:E2 fs I nm){Done}(F:mX (J K.P fs) Done)(R:∀g w,Done g w->g.callers=[]){f}(hf:I.T f=Y)(hb:∃fn c,aF.funcs[f]?=U fn/\fn.body=U c){bL D}{B cZ}(iz:B≠[]){xs i}{ρ}{w}(S:bD ρ I w.heap.size xs i){s}(H:Ok K h s<|G (eW K.P f i eC)<|D::cZ)(tr:Term (J K.P fs) Done (G (eW (J K.P fs) f xs eC)<|bL::B) w)(M:fL ρ I K.P s.cl w s.v)(j:gw 1 w):∃t d b x x',(∀z,z<w.heap.size->ρ z=d z)/\w.heap.size<=b.heap.size/\(∀z,z<w.heap.size->I.F z=ai->b.heap[z]?=w.heap[z]?)/\gw 1 b/\RV d I b x x'/\Term (J K.P fs) Done (G (bL.finish x) B) b/\tU (qF (J K.P fs) Done) (G (bL.finish x) B,b) (G (eW (J K.P fs) f xs eC)<|bL::B,w)/\s.runs K.P t/\ue h s t/\Ok K h t (G (D.finish x') cZ)/\fL d I K.P t.cl b t.v:=by
 obtain⟨P,L,Wg,n0,C,o⟩:=K;simp only at Q1;subst Q1;have hg:∀f p,G f p=r f p:=λ_ _=>rfl;have m:∀A p w,¬Done (r A<|p++bL::B) w:=λA p w N=>by have:=R _ _ N;simp[r]at this
 obtain⟨t,d,b,g1,a1,a2,a3,E,b1,r1,d1,q⟩:=Ok.tree (K:=⟨aF,L,Wg,n0,C,o⟩) (fr:=eW (J aF fs) f xs eC) (fr':=eW aF f i eC) (cs:=[]) (cs':=[]) W.lay W.same (b:=bL) (bs:=B) (B':=D::cZ) (ax ⟨D,cZ,rfl⟩) m tr H (ax<|fe.Ay W.same hf (λh=>h) hb S) .nil M;have e:=Kn j W.flag a3;rcases q with⟨Eu,H1,M1,Q0⟩|⟨hB,_⟩;.cases Q0 with|back hB k=>grind|@cut f' l aD4 u TP Q3 a k ha yY gI=>
   exfalso;have y:∀A w,¬Done (G A<|u::Q3++bL::B) w:=λA w N=>by grind
   rcases k with k|k;.exact k
   rcases W.Ov _ _ k with⟨rfl,hn⟩|⟨fn,X,e1,e2⟩
   .have O:vG.ntmps=87:=by kernel_rfl
    rw[<-hg,BE (P:=J aF fs) (fn:=vG) (c:=Cv) _ W.f41 rfl,O]at E;obtain⟨n,g⟩:=awn (fs:=fs) (C:=u::Q3++bL::B) (T:=l++tT (87-l.size) ak) (by simp[hn]) e;obtain⟨g2,w2,Q2,t2,_,_⟩:=Term.goes F LF.refl LF.trans LF.Bm (λ_ _ _ h=>h) g E;exact t2.FC F (λτ v b Q=>Q2.2 _ v b Q) λN=>by grind
   .rw[<-hg,BE (P:=J aF fs) (fn:=fn) (c:=.refuse X) _ e1 e2]at E;exact E.FC F (λτ v b Q=>aeP v b Q)<|y _ _
 grind
end
end
end Go.Proofs.YtpdbmpbmepkikaaGreatDoor
