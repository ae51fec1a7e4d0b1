/- Laws. -/
import Derived.Test.YtpdbmpbmepkikaaGreatDoorP05
import Derived.Test.YtpdbmpbmepkikaaGreatDoorP12
set_option maxRecDepth 100000
set_option maxHeartbeats 400000
set_option linter.all false
open Go.Proofs.Tryz
open Bool renaming true->Z,false->ai
open Decidable renaming decide->cq
open Go renaming runtimePanic->AW,store->CP,Frame->aX,undef->ak,World->av,Value->ay,Calls->bE,Program->bU,stepG->bZ,execOp->cT,Sem->cy,Oper->dD,Func->dV,yielded->dY,TypeId->dZ,Addr->eK,Item->eS,FuncId->fb,binOp->gw,lone->iH,Operand->iI,callFunc->iu,results->jN,zeroValue->kG,doReturn->nC,underlying->oq,getObj->qc,boundsPanic->sK
open Go.Builtin renaming delete_->Ql,len_->x7
open Go.CallKind renaming normal->er
open Go.Code renaming region->dQ,seq->eE
open Go.Deferred renaming ofValue->L9
open Go.Departure renaming mixedOrders->mE
open Go.Ending renaming returned->bj
open Go.Fn renaming func->ep
open Go.Frame renaming oper?->LM,enter->eO,pos->oe,finish->sJ
open Go.FrameMode renaming returning->fC
open Go.GStep renaming go->bS,ended->ff
open Go.Instr renaming sureAddr->CV,loadAt->CW,extract->Fe,index->LS,storeAt->Qj,indexAt->wE
open Go.IntKind renaming i64->aH,u8->aq,u64->cK
open Go.Item renaming inRegion->aP,code->bD,inBlock->lI
open Go.Mode renaming plain->kS,atomic->pB
open Go.Next renaming value->fV,enter->jr
open Go.Obj renaming cells->aF,map->iP,deferred->wG
open Go.Op renaming bytesLess->Ih,stringOp->LR,assign->oh,equalIn->rf
open Go.Operand renaming tmp->cu,const->gB
open Go.Outcome renaming stuck->jO
open Go.Proofs.Tryz renaming prog->aC
open Go.Region renaming binds->LU,departs->agT,wanted->eP,schedule->lZ
open Go.Region.linearise renaming go->wF
open Go.Result renaming ok->aV,halt->dL,andThen->lH
open Go.RowKit renaming Below->bC
open Go.Sem renaming run->nE
open Go.Shelf renaming Ren->AQ
open Go.Stepped renaming next->fQ
open Go.Value renaming int->Y,slice->aD,pointer->aE,string->aG,agg->bN,tuple->bO,map->cj,bool->cz,func->dH,nilIface->mF
open Go.World renaming alloc->Ig,farLoad->Xh,setCell->jE,cell?->og,frozen?->wI
open Go.stepG renaming oper->CS,exec->va,apply->vb
open List renaming range->lW
open Option renaming some->U,none->V
open Or renaming inr->aA,inl->ax
open Pure renaming pure->bH
open UInt8 renaming ofNat->jZ
namespace Go.Proofs.YtpdbmpbmepkikaaGreatDoor
def nt:=@beq_iff_eq
def UG:=@map_eq_pure_bind
def as6:=@UInt8.toNat_inj
def xD:=@bne_iff_ne
def UF:=@Go.Sem.runT_eq
def Ai:=@Go.GStep.bare_after
def ada:=@Array.mem_toList_iff
def ac9:=@Bool.not_eq_true'
def OA:=@List.all_eq_true
def ac8:=@Function.comp_apply
section
open Go
def qa:ay->Bool
 |Y _ _=>Z
 |cz _=>Z
 |bO vs=>vs.isEmpty
 |_=>ai
def CH:ay->Bool
 |aE _=>Z
 |aD _ _ _=>Z
 |bO vs=>vs.all qa
 |_=>ai
inductive BR:ay->ay->Prop
 |none (x):BR (bO #[]) x
 |byte (c:UInt8):BR (aG ⟨#[c]⟩) (Y aq (c.toNat:Int))
 |int (k n):BR (Y k n) (Y k n)
 |bool (b):BR (cz b) (cz b)
def BK:Nat->ay->ay->Prop
 |0,a,b=>a=b∧qa b=Z
 |1,a,b=>BR a b
 |2,a,b=>a=b∧CH b=Z
 |_,_,_=>False
theorem BR.ofE{a}(h:qa a=Z):BR a a:=by
 cases a<;>first|cases h|skip
 ·exact .bool _
 ·exact .int _ _
 ·have:=by simpa[qa] using h
  rw[this];exact .none _
def BZ(a b:Nat):Bool:=(a==b&&cq (a<3))||(a==0&&b==1)
theorem BK.le{a b}{x y}(h:BK a x y)(c:BZ a b=Z):BK b x y:=by
 simp only[BZ,kK,cS,nt] at c;rcases c with⟨rfl,_⟩|⟨rfl,rfl⟩
 ·grind
 ·obtain⟨rfl,d⟩:=h;exact BR.ofE d
theorem BK.undef{k}(b:k<3):BK k ak ak:=by
 match k,b with
 |0,_=>exact⟨rfl,rfl⟩
 |1,_=>exact .none _
 |2,_=>exact⟨rfl,by show(#[]).all qa=Z;simp⟩
theorem BK.data{k}{x y}(h:BK k x y)(a:k<=1):BR x y:=by
 match k,a,h with
 |0,_,h=>exact BK.le (b:=1) h rfl
 |1,_,h=>exact h
def BC(x0:Option ay)(x x':ay):Prop:=(x=bO #[]∧x0=U x')∨(x≠bO #[]∧BR x x')
theorem BC.r{x0}{x x'}(h:BC x0 x x'):BR x x':=by
 rcases h with⟨rfl,_⟩|⟨_,h⟩
 ·exact .none _
 grind
def cell0:Option Obj->Nat->Option ay
 |some (aF c _ _),i=>c[i]?
 |_,_=>V
def BO(E:Option Obj):Obj->Obj->Prop
 |aF c e f,o'=>∃c',o'=aF c' e f∧c.size=c'.size∧(∀i x x',c[i]? =U x->c'[i]? =U x'->BC (cell0 E i) x x')∧
   (E=V∨∃c0,E=U (aF c0 e f)∧c0.size=c.size)
 |wG V,o'=>E=U o'∧∀c e f,o'≠aF c e f
 |_,_=>False
structure iw(w0 u w:av):Prop where
 os:u.os=w.os
 tape:u.tape=w.tape
 drawn:u.drawn=w.drawn
 output:u.output=w.output
 size:u.heap.size=w.heap.size
 EZ:w0.heap.size<=w.heap.size
 obj:∀(b:Nat) (o o':Obj),u.heap[b]? =U o->w.heap[b]? =U o'->BO (w0.heap[b]?) o o'
section
variable {w0 u w:av}
theorem iw.right(h:iw w0 u w){b:Nat}{o}(e:u.heap[b]? =U o):∃d,w.heap[b]? =U d∧BO (w0.heap[b]?) o d:=by have c:=(dc.1 e).1;rw[h.size] at c;exact⟨_,iq c,h.obj b _ _ e (iq c)⟩
theorem iw.cell(h:iw w0 u w){a}{x}(e:u.cell? a=U x):∃f,w.cell? a=U f∧BC (cell0 (w0.heap[a.block]?) a.off) x f∧w.frozen? a=u.frozen? a:=by
 unfold og at e;cases d:u.heap[a.block]? with
 |none=>grind
 |some o=>
  rw[d] at e;cases o<;>try grind
  obtain⟨m,k,g,rfl,i,j,l⟩:=h.right d;simp only at e;split at e
  ·grind
  ·have c:=i▸(dc.1 e).1;refine⟨g[a.off],?_,j _ _ _ e (iq c),?_⟩
   ·unfold og
    grind
   ·unfold wI
    grind
theorem iw.qX(h:iw w0 u w)(P)(a)(b):∃m,u.farLoad P a b=.error m∧soft m=Z:=by
 unfold Xh World.noCell;cases d:u.heap[a.block]? with
 |none=>exact⟨_,rfl,rfl⟩
 |some o=>
  obtain⟨f,e,c⟩:=h.right d;cases o<;>first|exact⟨_,rfl,rfl⟩|exact c.elim
theorem iw.axX(h:iw w0 u w)(P)(a)(x)(b):∃m,u.farStore P a x b=.error m∧soft m=Z:=by
 unfold World.farStore World.noCell;cases d:u.heap[a.block]? with
 |none=>exact⟨_,rfl,rfl⟩
 |some o=>
  obtain⟨f,e,c⟩:=h.right d;cases o<;>first|exact⟨_,rfl,rfl⟩|exact c.elim
theorem iw.set(h:iw w0 u w){a:eK}{x x':ay}(s:x≠bO #[])(t:BR x x')(hs:a.spot=V):iw w0 (u.setCell a x) (w.setCell a x'):=by
 refine⟨h.os,h.tape,h.drawn,h.output,by simpa[jE] using h.size,by simpa[jE] using h.EZ,λb o m e f=>?_⟩
 by_cases n:a.block=b
 ·subst n;simp only[jE,yM,iM] at e f;cases q:u.heap[a.block]? with
  |none=>grind
  |some p=>
   obtain⟨A,r,j⟩:=h.right q;rw[q,ey] at e;rw[r,ey] at f;cases p<;>try exact j.elim
   ·obtain⟨C,rfl,k,l,B⟩:=j;simp only[hs,Option.isSome_none,nT,uJ,ec] at e f;subst e f;refine⟨_,rfl,by grind,λi y D g d=>?_,by grind⟩
    rw[UA] at g d;by_cases z:a.off=i
    ·rw[dn z] at g d;split at g
     ·split at d
      ·cases g;cases d;exact aA ⟨s,t⟩
      grind
     grind
    grind
   ·rename_i v;cases v with
    |some _=>exact j.elim
    |none=>
     cases e;obtain⟨k,l⟩:=j;have:m=A:=by
      grind
     subst this;exact⟨k,l⟩
 ·simp only[jE,yM,if_neg n] at e f;exact h.obj b o m e f
theorem iw.push(h:iw w0 u w){t}{x x'}(j:x≠bO #[])(k:BR x x'):iw w0 {u with heap:=u.heap.push (aF #[x] t)} {w with heap:=w.heap.push (aF #[x'] t)}:=by
 refine⟨h.os,h.tape,h.drawn,h.output,by simp[h.size],by simp;exact Nat.le_succ_of_le h.EZ,λb o l c d=>?_⟩
 simp only[Uy] at c d;by_cases f:b=w.heap.size
 ·rw[dn (by rw[h.size];grind)] at c
  rw[dn f] at d;cases c;cases d;refine⟨_,rfl,rfl,λi y m g e=>?_,ax (xB (by rw[f];exact h.EZ))⟩
  match i with
  |0=>cases g;cases e;exact aA ⟨j,k⟩
  |n+1=>grind
 ·rw[if_neg (by rw[h.size];grind)] at c
  rw[if_neg f] at d;exact h.obj b o l c d
theorem iw.draw(h:iw w0 u w):iw w0 {u with drawn:=u.drawn+1} {w with drawn:=w.drawn+1}:=⟨h.os,h.tape,congrArg (· +1) h.drawn,h.output,h.size,h.EZ,h.obj⟩
end
section
variable {p:bU} {fs:Array dV} {w0:av}
def BS(p:bU)(fs:Array dV)(w0:av){α β:Type}(A:α->β->Prop)(s:cy α)(s':cy β):Prop:=
 ∀u w,iw w0 u w->(∃a b E w1,s.run (J p fs) u=aV a E∧s'.run p w=aV b w1∧A a b∧iw w0 E w1)∨∃m E,s.run (J p fs) u=dL m E∧soft m=Z
theorem BS.ret{f e}{A:f->e->Prop}{a}{b}(h:A a b):BS p fs w0 A (bH a) (bH b):=λu w d=>ax ⟨a,b,u,w,rfl,rfl,h,d⟩
theorem BS.bind{x r i d}{A:x->r->Prop}{B:i->d->Prop}{s}{l}{k}{k'}(h:BS p fs w0 A s l)(o:∀a b,A a b->BS p fs w0 B (k a) (k' b)):BS p fs w0 B (s>>=k) (l>>=k'):=λu w n=>by
 rcases h u w n with⟨a,b,f,q,e,t,j,g⟩|⟨m,f,e,v⟩
 ·rw[gK,gK,e,t];exact o a b j f q g
 ·rw[gK,e];exact aA ⟨m,f,rfl,v⟩
theorem BS.dead{e d}{A:e->d->Prop}{s}{c}(h:∀u,∃m b,s.run (J p fs) u=dL m b∧soft m=Z):BS p fs w0 A s c:=λu _ _=>aA (h u)
theorem BS.stuck{d c}{A:d->c->Prop}{x}{b}:BS p fs w0 A (stuck x) b:=.dead λu=>⟨_,u,rfl,rfl⟩
theorem BS.DT{j i}{A:j->i->Prop}{s}{d}(a)(b)(g:∀u,s.run (J p fs) u=aV a u)(f:∀w,d.run p w=aV b w)(h:A a b):BS p fs w0 A s d:=λu w e=>ax ⟨a,b,u,w,g u,f w,h,e⟩
theorem BS.load(a):BS p fs w0 BR (Go.load a) (Go.load a):=λu w c=>by
 have d:∀(P) (z),(Go.load a).run P z=(match z.cell? a with
   |some v=>aV v z
   |none=>match z.farLoad P a (kS==pB) with
    |.ok (v,_)=>aV v z
    |.error h=>dL h z):=λP z=>by
  simp only[Go.load,nE];rfl
 rw[d,d];cases i:u.cell? a with
 |some x=>
  obtain⟨j,f,g,_⟩:=c.cell i;rw[f];exact ax ⟨x,j,u,w,rfl,rfl,g.r,c⟩
 |none=>
  obtain⟨m,e,k⟩:=c.qX (J p fs) a (kS==pB);rw[e]
  grind
theorem azw{u:av}{a}{x}(h:u.cell? a=U x):a.spot=V:=by
 unfold og at h;split at h
 ·split at h
  ·grind
  ·rename_i b;simpa using b
 grind
theorem BS.store(a:eK){x x':ay}(j:BR x x'):BS p fs w0 (λ_ _=>True) (CP a x) (CP a x'):=λu w i=>by
 have f:x≠bO #[]->(∀y,x≠bN y)->(∀y,x≠bO y)->(∀y,x'≠bN y)->(∀y,x'≠bO y)->((∃E b g o,(CP a x).run (J p fs) u=aV E g∧(CP a x').run p w=aV b o∧True∧iw w0 g o)∨∃m g,(CP a x).run (J p fs) u=dL m g∧soft m=Z):=λv B D C A=>by
  have l:∀(P:bU) (z:av) (y:ay),(∀q,y≠bN q)->(∀q,y≠bO q)->(CP a y).run P z=(match z.cell? a with
    |some _=>if z.frozen? a then dL (.unsupported (.unsafePointer "a write to bytes that a string shares")) z else aV () (z.setCell a y)
    |none=>match z.farStore P a y (kS==pB) with
     |.ok (w,_)=>aV () w
     |.error h=>dL h z):=λP z y K H=>by
   unfold CP;cases y<;>first|grind|grind|rfl
  rw[l _ _ _ B D,l _ _ _ C A];cases r:u.cell? a with
  |some y=>
   obtain⟨I,s,F,t⟩:=i.cell r;rw[s,t];simp only;split
   ·exact aA ⟨_,_,rfl,rfl⟩
   ·exact ax ⟨(),(),_,_,rfl,rfl,trivial,i.set v j (azw r)⟩
  |none=>
   obtain⟨m,e,G⟩:=i.axX (J p fs) a x (kS==pB);rw[e]
   grind
 cases j with
 |none _=>exact aA ⟨_,u,rfl,rfl⟩
 |byte c=>exact f (by simp) (by simp) (by simp) (by simp) (by simp)
 |int k n=>exact f (by simp) (by simp) (by simp) (by simp) (by simp)
 |bool b=>exact f (by simp) (by simp) (by simp) (by simp) (by simp)
end
def vV(t:dZ):Bool:=t==3||t==5||t==120||t==123||t==169||t==308||t==334
def yd(t:dZ):Bool:=t==3||t==5||t==9||t==334
structure qh(p:bU):Prop where
 agg:∀t,yd t=Z->∀w,(isAgg t).run p w=aV ai w
 Jj:∀t,yd t=Z->∀w,(sizeOf t).run p w=aV 1 w
 z3:∀w,(kG 3).run p w=aV (Y aH 0) w
 aiN:∀w,(kG 334).run p w=aV (Y cK 0) w
 SZ:p.underlying 79=U (.slice 5)
 S4:p.underlying 51=U (.slice 9)
 str:p.underlying 9=U .string
 int:∀t,vV t=Z->∃k,p.underlying t=U (.int k)
structure sQ where
 T:fb->Bool
 K:fb->Tmp->Nat
 gen:fb->Bool
 ps:fb->List Nat
 rk:fb->Nat
def iF:Bool->dZ->dZ
 |true,t=>if t=5 then 9 else if t=79 then 51 else t
 |false,t=>t
def acA(g:Bool):Op->Op
 |.load t a=>.load (iF g t) a
 |.store t a x=>.store (iF g t) a x
 |.indexAddr t x i=>.indexAddr (iF g t) x i
 |.binOp op t x y yt=>.binOp op (iF g t) x y (iF g yt)
 |.call c=>.call {c with argTypes:=c.argTypes.map (iF g)}
 |o=>o
def jI(g:Bool)(o:dD):dD:={o with op:=acA g o.op,type:=iF g o.type}
def vD(g:Bool):Code->Code
 |dQ id ops d=>dQ id (ops.map (jI g)) d
 |eE a b=>eE (vD g a) (vD g b)
 |.cond c a b=>.cond c (vD g a) (vD g b)
 |.block id b=>.block id (vD g b)
 |.loop b=>.loop (vD g b)
 |c=>c
section
variable (D:sQ) (f:FuncId)
def fU:iI->Nat
 |cu t=>D.K f t
 |gB v=>if qa v then 0 else 3
 |_=>3
def lV(d:Option Tmp)(k:Nat):Bool:=match d with|none=>Z|some t=>BZ k (D.K f t)
def aGi:iI->Bool
 |gB (Y _ _)=>Z
 |_=>ai
def ahb:BinOp->Bool
 |.eql=>Z|.neq=>Z|.lss=>Z|.leq=>Z|.gtr=>Z|.geq=>Z|_=>ai
def ahy(op:BinOp)(x y:iI):Bool:=match op with
 |.add=>cq (fU D f x<=1)&&cq (fU D f y<=1)&&(fU D f x==0||fU D f y==0)
 |_=>cq (fU D f x<=1)&&cq (fU D f y<=1)
def QL:List iI->List Nat->Bool
 | [],[]=>Z
 |x::xs,k::ks=>BZ (fU D f x) k&&QL xs ks
 |_,_=>ai
def rU(d:Option Tmp):Op->Bool
 |.move x=>lV D f d (fU D f x)
 |oh x=>lV D f d (fU D f x)
 |.pick c a b=>cq (fU D f c<=1)&&(lV D f d (fU D f a)&&cq (fU D f a<3))&&(lV D f d (fU D f b)&&cq (fU D f b<3))
 |.alloc t=>(t==3||t==334)&&lV D f d 2
 |.load t a=>yd t&&t !=9&&fU D f a==2&&lV D f d 1
 |.store t a x=>yd t&&t !=9&&fU D f a==2&&cq (fU D f x<=1)
 |.nilCheck x=>fU D f x==2&&lV D f d 2
 |.binOp op t x y _=>vV t&&ahy D f op x y&&lV D f d 0
 |.unOp .not _ x=>cq (fU D f x<=1)&&lV D f d 0
 |.convert s t x=>vV s&&vV t&&cq (fU D f x<=1)&&lV D f d 0
 |.index t (gB (aG _)) i=>t==9&&cq (fU D f i<=1)&&lV D f d 0
 |.indexAddr t x i=>t==79&&D.gen f&&fU D f x==2&&cq (fU D f i<=1)&&lV D f d 2
 |.extract x _=>fU D f x==2&&lV D f d 0
 |.call {callee:=.value (.func g),args,.. }=>D.T g&&QL D f args.toList (D.ps g)&&lV D f d (D.rk g)
 |.call {callee:=.builtin .len,args,argTypes}=>D.gen f&&argTypes== #[79]&&(match args.toList with| [x]=>fU D f x==2|_=>ai)&&lV D f d 0
 |_=>ai
end
def Fq:List ay->List ay->List Nat->Prop
 | [],[],[]=>True
 |x::xs,y::ys,k::ks=>BK k x y∧Fq xs ys ks
 |_,_,_=>False
def BN(D:sQ)(f:fb)(d:Option Tmp):Next->Next->Prop
 |fV a,fV b=>∀t,d=U t->BK (D.K f t) a b
 |.skip,.skip=>True
 |jr g al,jr g' bl=>g=g'∧D.T g=Z∧Fq al.toList bl.toList (D.ps g)∧lV D f d (D.rk g)=Z
 |_,_=>False
section
variable {p:bU} {fs:Array dV} {w0:av} {D:sQ} {f:fb} {d:Option Tmp}
theorem af5{k}{a b}(e:lV D f d k=Z)(h:BK k a b):BN D f d (fV a) (fV b):=by rintro t rfl;exact h.le e
theorem BS.val{s g}{k}(i:lV D f d k=Z)(h:BS p fs w0 (BK k) s g):BS p fs w0 (BN D f d) (do bH (fV (<-s))) (do bH (fV (<-g))):=
 BS.bind h λa b e=>BS.ret (af5 i e)
theorem BS.aAN{x x'}(h:BR x x'):BS p fs w0 Eq (asBool x) (asBool x'):=by
 cases h with
 |bool b=>exact BS.ret rfl
 |none _=>exact BS.stuck
 |byte c=>exact BS.stuck
 |int k n=>exact BS.stuck
theorem panics{c}(P)(u):∃m b,(AW .nilDeref:cy c).run P u=dL m b∧soft m=Z:=⟨_,u,rfl,rfl⟩
theorem abw{c}(P)(u)(s):∃m b,(AW (.error s):cy c).run P u=dL m b∧soft m=Z:=⟨_,u,rfl,rfl⟩
theorem azr(P)(u)(q):∃n c,(choose q).run P u=aV n c:=by
 by_cases b:q.forced=Z
 ·exact⟨0,u,by simp[b]⟩
 ·exact⟨_,{u with drawn:=u.drawn+1},by simp[b];rfl⟩
theorem Ts{g}(P)(u)(k)(x y)(c):∃m b,(sK k x y c:cy g).run P u=dL m b∧soft m=Z:=by
 unfold sK;split
 ·obtain⟨n,b,e⟩:=azr P u (.extern "runtime.boundsError.signed" 2);rw[UG,gK,gK,e];exact⟨_,b,rfl,rfl⟩
 ·exact⟨_,u,rfl,rfl⟩
def Iw(op:BinOp)(t:dZ)(x y:iI)(a b:ay):cy ay:=do eqGuard op t x y a b;gw op t a b
theorem axg{g}{t}{x y}{a b}(h:∀c,a≠bN c)(i:a≠mF)(P)(u):(eqGuard g t x y a b).run P u=aV () u:=by cases a<;>first|grind|(cases g<;>rfl)
theorem Iv{g}{t}{x y}{a b}(h:∀c,a≠bN c)(i:a≠mF)(P)(u):(Iw g t x y a b).run P u=(gw g t a b).run P u:=by unfold Iw;rw[gK,axg h i];rfl
theorem adN(g:BinOp)(t:dZ)(k k')(a b):(∃v,qa v=Z∧∀P u,(gw g t (Y k a) (Y k' b)).run P u=aV v u)∨∀P u,∃m i,(gw g t (Y k a) (Y k' b)).run P u=dL m i∧soft m=Z:=by
 have l:∀g,(∃v,qa v=Z∧∀P u,(Op.shift g k a k' b).run P u=aV v u)∨∀P u,∃m i,(Op.shift g k a k' b).run P u=dL m i∧soft m=Z:=λg=>by
  unfold Op.shift;split
  ·exact aA λP u=>abw P u _
  ·cases g<;>first|exact ax ⟨_,rfl,λ_ _=>rfl⟩|exact aA λP u=>⟨_,u,rfl,rfl⟩
 have h:∀g,(g=.quo∨g=.rem)->(∃v,qa v=Z∧∀P u,(Op.intDiv g k a b).run P u=aV v u)∨∀P u,∃m i,(Op.intDiv g k a b).run P u=dL m i∧soft m=Z:=λg o=>by
  unfold Op.intDiv;split
  ·exact aA λP u=>abw P u _
  ·rcases o with rfl|rfl<;>exact ax ⟨_,rfl,λ_ _=>rfl⟩
 have j:∀g,(gw g t (Y k a) (Y k' b)=if k≠k' then stuck "BinOp: operands of different kinds" else match g with
   |.add|.sub|.mul=>Op.intArith g k a b
   |.quo|.rem=>Op.intDiv g k a b
   |.and|.or|.xor|.andNot=>Op.intBits g k a b
   |_=>Op.intCmp g a b)∨gw g t (Y k a) (Y k' b)=Op.shift g k a k' b:=λg=>by
  cases g<;>first|exact ax rfl|exact aA rfl
 rcases j g with e|e
 ·rw[e];by_cases n:k=k'
  ·subst n;rw[if_neg (by simp)]
   cases g<;>first|exact h _ (ax rfl)|exact h _ (aA rfl)|exact ax ⟨_,rfl,λ_ _=>rfl⟩|exact aA λP u=>⟨_,u,rfl,rfl⟩
  ·rw[dn n];exact aA λP u=>⟨_,u,rfl,rfl⟩
 ·rw[e];exact l g
theorem CK (P : bU) {l : BinOp} {t : dZ} (i : P.underlying t = U .string ∨ ∃ k, P.underlying t = U (.int k)) {a b : ay}
    (h : (a = bO #[] ∧ ((∃ k n, b = Y k n) ∨ (∃ c, b = cz c) ∨ (∃ c, b = aG c) ∨ b = bO #[])) ∨ (b = bO #[] ∧ ((∃ k n, a = Y k n) ∨ (∃ c, a = cz c) ∨ (∃ c, a = aG c))) ∨
      ((∃ c, a = cz c) ∧ ((∃ k n, b = Y k n) ∨ (∃ c, b = cz c) ∨ (∃ c, b = aG c))) ∨ ((∃ c, b = cz c) ∧ ((∃ k n, a = Y k n) ∨ (∃ c, a = aG c))) ∨
      ((∃ k n, a = Y k n) ∧ (∃ c, b = aG c)) ∨ ((∃ k n, b = Y k n) ∧ (∃ c, a = aG c))) (u : av) : ∃ m, (gw l t a b).run P u = dL m u ∧ soft m = Z := by
  have j : (∃ m, (Op.equal t a b).run P u = dL m u ∧ soft m = Z) := by
    have s : Op.equal t a b = rf (9999 + 1) t a b := rfl
    rw [s]
    unfold rf
    rcases i with i | ⟨k, i⟩ <;>
      (rw [gK, run_underlying i]
       rcases h with ⟨rfl, ⟨k, n, rfl⟩ | ⟨c, rfl⟩ | ⟨c, rfl⟩ | rfl⟩ | ⟨rfl, ⟨k, n, rfl⟩ | ⟨c, rfl⟩ | ⟨c, rfl⟩⟩ | ⟨⟨c, rfl⟩, ⟨k, n, rfl⟩ | ⟨g, rfl⟩ | ⟨g, rfl⟩⟩ | ⟨⟨c, rfl⟩, ⟨k, n, rfl⟩ | ⟨g, rfl⟩⟩ | ⟨⟨k, n, rfl⟩, ⟨c, rfl⟩⟩ | ⟨⟨k, n, rfl⟩, ⟨c, rfl⟩⟩ <;> exact ⟨_, rfl, rfl⟩)
  obtain ⟨m, q, o⟩ := j
  have r : (do bH (cz (← Op.equal t a b)) : cy ay).run P u = dL m u := by rw [gK, q]; rfl
  have v : (do bH (cz (!(← Op.equal t a b))) : cy ay).run P u = dL m u := by rw [gK, q]; rfl
  rcases h with ⟨rfl, ⟨k, n, rfl⟩ | ⟨c, rfl⟩ | ⟨c, rfl⟩ | rfl⟩ | ⟨rfl, ⟨k, n, rfl⟩ | ⟨c, rfl⟩ | ⟨c, rfl⟩⟩ | ⟨⟨c, rfl⟩, ⟨k, n, rfl⟩ | ⟨g, rfl⟩ | ⟨g, rfl⟩⟩ | ⟨⟨c, rfl⟩, ⟨k, n, rfl⟩ | ⟨g, rfl⟩⟩ | ⟨⟨k, n, rfl⟩, ⟨c, rfl⟩⟩ | ⟨⟨k, n, rfl⟩, ⟨c, rfl⟩⟩ <;>
    cases l <;> first | exact ⟨m, r, o⟩ | exact ⟨m, v, o⟩ | exact ⟨_, rfl, rfl⟩
theorem aqW(c):(⟨#[c]⟩:ByteArray).toList=[c]:=ata _
theorem az8(b:BinOp)(t l:dZ)(c d:UInt8)(q:b≠ .add):(∃v,qa v=Z∧(∀P u,(gw b t (aG ⟨#[c]⟩) (aG ⟨#[d]⟩)).run P u=aV v u)∧∀P u,(gw b l (Y aq (c.toNat:Int)) (Y aq (d.toNat:Int))).run P u=aV v u)∨
  ∀P u,∃m,(gw b t (aG ⟨#[c]⟩) (aG ⟨#[d]⟩)).run P u=dL m u∧soft m=Z:=by
 have k:∀b,gw b t (aG ⟨#[c]⟩) (aG ⟨#[d]⟩)=LR b ⟨#[c]⟩ ⟨#[d]⟩:=λb=>by cases b<;>rfl
 have i:∀b,ahb b=Z->gw b l (Y aq (c.toNat:Int)) (Y aq (d.toNat:Int))=Op.intCmp b (c.toNat:Int) (d.toNat:Int):=λb h=>by cases b<;>first|exact absurd h (by decide)|rfl
 rw[k];have n:(c<d)↔((c.toNat:Int)<(d.toNat:Int)):=by grind[UInt8.lt_iff_toNat_lt]
 have o:(c=d)↔((c.toNat:Int)=(d.toNat:Int)):=by
  grind[UInt8.toNat_inj]
 have e:Ih [c] [d]=cq ((c.toNat:Int)<(d.toNat:Int)):=by
  simp only[Ih,Bool.and_false,Bool.or_false]
  grind
 have g:([c]==[d])=cq ((c.toNat:Int)=(d.toNat:Int)):=by
  grind
 by_cases j:ahb b=Z
 ·rw[i b j];unfold LR;simp only[aqW,e,g];cases b<;>first|cases j|skip
  ·exact ax ⟨_,rfl,λ_ _=>rfl,λ_ _=>by simp[Op.intCmp,BEq.beq]⟩
  ·exact ax ⟨_,rfl,λ_ _=>rfl,λ_ _=>by simp[Op.intCmp,bne,BEq.beq]⟩
  ·exact ax ⟨_,rfl,λ_ _=>rfl,λ_ _=>rfl⟩
  ·refine ax ⟨_,rfl,λ_ _=>rfl,λ_ _=>?_⟩;have:(cq ((c.toNat:Int)<d.toNat)||decide ((c.toNat:Int)=d.toNat))=cq ((c.toNat:Int)<=d.toNat):=by
    grind
   rw[this];rfl
  ·refine ax ⟨_,rfl,λ_ _=>rfl,λ_ _=>?_⟩;have:(!(cq ((c.toNat:Int)<d.toNat)||decide ((c.toNat:Int)=d.toNat)))=cq ((c.toNat:Int)>d.toNat):=by
    grind
   rw[this];rfl
  ·refine ax ⟨_,rfl,λ_ _=>rfl,λ_ _=>?_⟩;have:(! cq ((c.toNat:Int)<d.toNat))=cq ((c.toNat:Int)≥d.toNat):=by
    grind
   rw[this];rfl
 ·cases b<;>first|exact absurd rfl j|grind|exact aA λP u=>⟨_,rfl,rfl⟩
end
variable{p:bU}{fs:Array dV}{w0:av}{D:sQ}{f:fb}{d:Option Tmp}{x x' y y':ay}
theorem Se(t):iF Z t=if t=5 then 9 else if t=79 then 51 else t:=rfl
theorem alN{t}(g)(b:vV t=Z):vV (iF g t)=Z∨iF g t=9:=by
 cases g
 ·exact ax b
 ·rw[Se];by_cases e:t=5
  ·grind
  ·by_cases c:t=79
   ·subst c;cases b
   grind
theorem Sf{t}(g)(b:yd t=Z):yd (iF g t)=Z:=by
 cases g
 ·exact b
 ·rw[Se];by_cases e:t=5
  ·rw[dn e];rfl
  ·by_cases c:t=79
   ·subst c;cases b
   grind
theorem ajv(H:qh p)(g){t}(b:vV t=Z):(J p fs).underlying (iF g t)=U .string∨∃k,(J p fs).underlying (iF g t)=U (.int k):=by
 rcases alN g b with h|h
 ·exact aA (H.int _ h)
 ·rw[h];exact ax H.str
theorem BR.cells(h:BR x x'):(∃c,x=cz c∧x'=x)∨(∃k n,x=Y k n∧x'=x)∨(∃c,x=aG ⟨#[c]⟩∧x'=Y aq (c.toNat))∨x=bO #[]:=by
 cases h with
 |none _=>grind
 |byte c=>grind
 |int k n=>grind
 |bool b=>grind
theorem BS.bin(H:qh p)(g:Bool){l:BinOp}{t:dZ}{a b:iI}(Q:vV t=Z)(K:BR x x')(C:BR y y')(F:l=.add->qa x=Z∨qa y=Z):
  BS p fs w0 (BK 0) (Iw l (iF g t) a b x y) (Iw l t a b x' y'):=by
 have A:=ajv (fs:=fs) H g Q;have O:∀{z R:ay},BR z R->(∀c,z≠bN c)∧z≠mF:=λh=>by rcases h.cells with⟨c,rfl,_⟩|⟨k,n,rfl,_⟩|⟨c,rfl,_⟩|rfl<;>exact⟨by simp,by simp⟩
 obtain⟨I,G⟩:=O K;have j:(∀u,∃m,(gw l (iF g t) x y).run (J p fs) u=dL m u∧soft m=Z)->BS p fs w0 (BK 0) (Iw l (iF g t) a b x y) (Iw l t a b x' y'):=λh=>.dead λu=>by
  obtain⟨m,e,N⟩:=h u
  grind[Iv]
 rcases K.cells with⟨c,rfl,rfl⟩|⟨k,n,rfl,rfl⟩|⟨c,rfl,rfl⟩|rfl
 ·rcases C.cells with⟨s,rfl,rfl⟩|⟨q,o,rfl,rfl⟩|⟨s,rfl,rfl⟩|rfl<;>refine j λu=>CK _ A (by simp) u
 ·rcases C.cells with⟨s,rfl,rfl⟩|⟨q,o,rfl,rfl⟩|⟨s,rfl,rfl⟩|rfl
  ·refine j λu=>CK _ A (by simp) u
  ·have T:gw l (iF g t) (Y k n) (Y q o)=gw l t (Y k n) (Y q o)∨True:=aA trivial;rcases adN l (iF g t) k q n o with⟨v,E,B⟩|B
   ·rcases adN l t k q n o with⟨L,P,r⟩|r
    ·have:v=L:=by
      have e:(gw l (iF g t) (Y k n) (Y q o)).run p default=(gw l t (Y k n) (Y q o)).run p default:=by cases l<;>rfl
      grind
     subst this;exact BS.DT v v (λu=>(Iv I G _ _).trans (B _ _)) (λw=>(Iv I G _ _).trans (r _ _)) ⟨rfl,E⟩
    ·exfalso;obtain⟨m,M,e,_⟩:=r p default;have S:(gw l (iF g t) (Y k n) (Y q o)).run p default=(gw l t (Y k n) (Y q o)).run p default:=by cases l<;>rfl
     grind
   ·exact .dead λu=>by
     obtain⟨m,M,e,N⟩:=B (J p fs) u
     grind[Iv]
  ·refine j λu=>CK _ A (by simp) u
  ·refine j λu=>CK _ A (by simp) u
 ·rcases C.cells with⟨s,rfl,rfl⟩|⟨q,o,rfl,rfl⟩|⟨s,rfl,rfl⟩|rfl
  ·refine j λu=>CK _ A (by simp) u
  ·refine j λu=>CK _ A (by simp) u
  ·by_cases X:l=.add
   ·exfalso;rcases F X with h|h<;>cases h
   ·rcases az8 l (iF g t) t c s X with⟨v,E,B,r⟩|B
    ·exact BS.DT v v (λu=>(Iv I G _ _).trans (B _ _)) (λw=>(Iv (by simp) (by simp) _ _).trans (r _ _)) ⟨rfl,E⟩
    ·exact j λu=>B _ u
  ·refine j λu=>CK _ A (by simp) u
 ·rcases C.cells with⟨s,rfl,rfl⟩|⟨q,o,rfl,rfl⟩|⟨s,rfl,rfl⟩|rfl<;>refine j λu=>CK _ A (by simp) u
theorem BS.asz(H:qh p)(g){t}(c:yd t=Z)(a):BS p fs w0 BR (loadVar (iF g t) a) (loadVar t a):=by
 refine BS.bind (BS.DT ai ai (λu=>(agM _ u).trans (H.agg _ (Sf g c) u)) (λw=>H.agg _ c w) (A:=λx y=>x=ai∧y=ai) ⟨rfl,rfl⟩) ?_
 grind[BS.load]
theorem BS.sz(H:qh p)(g){t}(b:yd t=Z):BS p fs w0 (λx y=>x=1∧y=1) (sizeOf (iF g t)) (sizeOf t):=
 BS.DT 1 1 (λu=>(Qf _ u).trans (H.Jj _ (Sf g b) u)) (λw=>H.Jj _ b w) ⟨rfl,rfl⟩
theorem BS.amv(H:qh p)(g){t}(e:yd t=Z)(a)(i:BR x x'):BS p fs w0 (λ_ _=>True) (storeVar (iF g t) a x) (storeVar t a x'):=by
 have m:∀{z:ay},(∀c,z≠bN c)->z.cells= #[z]:=λ{z} h=>by cases z<;>first|exact absurd rfl (h _)|rfl
 by_cases l:x=bO #[]
 ·subst l;refine .dead λu=>⟨.stuck "store: not the value of one cell",u,?_,rfl⟩;unfold storeVar;rw[gK,(Qf _ u).trans (H.Jj _ (Sf g e) u)];rfl
 ·have j:x.cells= #[x]∧x'.cells= #[x']:=by
   rcases i.cells with⟨c,rfl,rfl⟩|⟨k,n,rfl,rfl⟩|⟨c,rfl,rfl⟩|rfl
   ·grind
   ·grind
   ·grind
   grind
  refine BS.bind (BS.sz H g e) ?_;rintro _ _ ⟨rfl,rfl⟩;rw[j.1,j.2];exact BS.bind (BS.store _ i) λ_ _ _=>BS.ret trivial
theorem Lv(h:CH x=Z):(∃a,x=aE a)∨(∃a l c,x=aD a l c)∨∃e,x=bO e∧e.all qa=Z:=by
 cases x<;>first|cases h|skip
 ·grind
 ·grind
 ·exact aA (aA ⟨_,rfl,h⟩)
theorem BS.sure(h:CH x=Z):BS p fs w0 (λa b=>a=b) (CV x) (CV x):=by
 rcases Lv h with⟨a,rfl⟩|⟨a,l,c,rfl⟩|⟨g,rfl,_⟩
 ·cases a
  ·exact BS.stuck
  ·exact BS.ret rfl
 ·exact BS.stuck
 ·exact BS.stuck
theorem BS.intOf(h:BR x x'):BS p fs w0 (λa b=>a=b) (asIntOf x) (asIntOf x'):=by
 rcases h.cells with⟨c,rfl,rfl⟩|⟨k,n,rfl,rfl⟩|⟨c,rfl,rfl⟩|rfl
 ·exact BS.stuck
 ·exact BS.ret rfl
 ·exact BS.stuck
 ·exact BS.stuck
theorem BS.under{t g}{u e}(h:p.underlying t=U u)(i:p.underlying g=U e):BS p fs w0 (λa b=>a=u∧b=e) (oq t) (oq g):=
 BS.DT u e (λz=>run_underlying (P:=J p fs) h z) (λz=>run_underlying i z) ⟨rfl,rfl⟩
theorem BS.at0(H:qh p)(m:CH x=Z)(l:BR y y'):BS p fs w0 (BK 2) (wE 51 x y) (wE 79 x y'):=by
 refine BS.bind (BS.intOf l) ?_;rintro⟨k,i⟩ _ rfl;refine BS.bind (BS.under H.S4 H.SZ) ?_;rintro _ _ ⟨rfl,rfl⟩;rcases Lv m with⟨a,rfl⟩|⟨g,h,c,rfl⟩|⟨n,rfl,_⟩
 ·exact BS.stuck
 ·refine BS.bind (A:=λa b=>a=(g,h,9)∧b=(g,h,5)) (BS.ret ⟨rfl,rfl⟩) ?_;rintro _ _ ⟨rfl,rfl⟩;refine BS.bind (BS.under H.S4 H.SZ) ?_;rintro _ _ ⟨rfl,rfl⟩;cases g with
  |none=>exact .dead λu=>Ts _ u _ _ _ _
  |some a=>
   dsimp only;by_cases j:0<=i∧i<h
   ·rw[dn j,dn j];refine BS.bind (BS.DT 1 1 (λu=>(Qf _ u).trans (H.Jj 9 rfl u)) (λw=>H.Jj 5 rfl w) (A:=λx y=>x=1∧y=1) ⟨rfl,rfl⟩) ?_;rintro _ _ ⟨rfl,rfl⟩;exact BS.ret ⟨rfl,rfl⟩
   ·rw[if_neg j,if_neg j,Bool.and_false,if_neg (by simp)]
    exact .dead λu=>Ts _ u _ _ _ _
 ·exact BS.stuck
theorem BS.aAW(H:qh p){t}(e:t=3∨t=334):BS p fs w0 (BK 2) (Instr.alloc t Z (bO #[])) (Instr.alloc t Z (bO #[])):=by
 have b:∃k,(∀P:bU,P.types=p.types->True)∧∀w,(kG t).run p w=aV (Y k 0) w:=by
  rcases e with rfl|rfl
  ·exact⟨aH,λ_ _=>trivial,H.z3⟩
  ·exact⟨cK,λ_ _=>trivial,H.aiN⟩
 obtain⟨k,_,b⟩:=b;refine BS.bind (BS.DT (Y k 0) (Y k 0) (λu=>(agJ _ u).trans (b u)) b (A:=λx y=>x=Y k 0∧y=Y k 0) ⟨rfl,rfl⟩) ?_;rintro _ _ ⟨rfl,rfl⟩;intro u w c;refine ax ⟨aE (U ⟨u.heap.size,0,V⟩),aE (U ⟨w.heap.size,0,V⟩),_,_,rfl,rfl,⟨by rw[c.size],rfl⟩,c.push (by simp) (.int _ _)⟩
theorem BS.conv(H:qh p){s t}(hs:vV s=Z)(g:vV t=Z)(h:BR x x'):BS p fs w0 (BK 0) (convert s t x) (convert s t x'):=by
 obtain⟨k,e⟩:=H.int s hs;obtain⟨i,b⟩:=H.int t g;refine BS.bind (BS.under e e) ?_;rintro _ _ ⟨rfl,rfl⟩;refine BS.bind (BS.under b b) ?_;rintro _ _ ⟨rfl,rfl⟩;rcases h.cells with⟨c,rfl,rfl⟩|⟨k,n,rfl,rfl⟩|⟨c,rfl,rfl⟩|rfl
 ·exact .dead λu=>⟨_,u,rfl,rfl⟩
 ·exact BS.ret ⟨rfl,rfl⟩
 ·exact .dead λu=>⟨_,u,rfl,rfl⟩
 ·exact .dead λu=>⟨_,u,rfl,rfl⟩
theorem BS.atZ(H:qh p)(s)(b:BR y y'):BS p fs w0 (BK 0) (LS 9 (aG s) y) (LS 9 (aG s) y'):=by
 refine BS.bind (BS.intOf b) ?_;rintro⟨k,i⟩ _ rfl;refine BS.bind (BS.under H.str H.str) ?_;rintro _ _ ⟨rfl,rfl⟩;dsimp only;split
 ·exact BS.ret ⟨rfl,rfl⟩
 ·exact .dead λu=>Ts _ u _ _ _ _
theorem BS.not'(t:dZ)(b:BR x x'):BS p fs w0 (BK 0) (Op.unary .not x) (Op.unary .not x'):=by
 rcases b.cells with⟨c,rfl,rfl⟩|⟨k,n,rfl,rfl⟩|⟨c,rfl,rfl⟩|rfl
 ·exact BS.ret ⟨rfl,rfl⟩
 ·exact BS.stuck
 ·exact BS.stuck
 ·exact BS.stuck
theorem BS.ext(i)(e:CH x=Z):BS p fs w0 (BK 0) (Fe x i) (Fe x i):=by
 rcases Lv e with⟨a,rfl⟩|⟨a,l,c,rfl⟩|⟨j,rfl,g⟩
 ·exact BS.stuck
 ·exact BS.stuck
 ·unfold Fe;dsimp only;cases h:j[i]? with
  |none=>exact BS.stuck
  |some v=>exact BS.ret ⟨rfl,(kC.1 g) v (tI h)⟩
theorem BS.asD(H:qh p)(t g)(e:CH x=Z):BS p fs w0 (BK 0) (x7 #[51] t #[x]) (x7 #[79] g #[x]):=by
 refine BS.bind (BS.under H.S4 H.SZ) ?_;rintro _ _ ⟨rfl,rfl⟩;rcases Lv e with⟨a,rfl⟩|⟨a,l,c,rfl⟩|⟨i,rfl,h⟩
 ·exact BS.stuck
 ·exact BS.ret ⟨rfl,rfl⟩
 grind[BS.stuck]
structure Yb(D:sQ)(f:fb)(ev WX:iI->ay):Prop where
 rd:∀x,fU D f x<3->BK (fU D f x) (ev x) (WX x)
 const:∀v,ev (gB v)=v∧WX (gB v)=v
 func:∀g,ev (.func g)=dH (ep g) #[] #[]∧WX (.func g)=dH (ep g) #[] #[]
theorem ahU{g b}(E:Yb D f g b):∀{xs} {e},QL D f xs e=Z->Fq (xs.map g) (xs.map b) e
 | [],[],_=>trivial
 |x::xs,k::e,h=>by
  simp only[QL,cS] at h;have i:fU D f x<3:=by
   have:=h.1;simp only[BZ,nt] at this
   grind
  exact⟨(E.rd x i).le h.1,ahU E h.2⟩
 | [],_::_,h=>by cases h
 |_::_,[],h=>by cases h
theorem BS.op(H:qh p)(hC:∀g,D.T g=Z->(∀M u,(iu g M).run (J p fs) u=aV (jr g M) u)∧∀M w,(iu g M).run p w=aV (jr g M) w){C n:iI->ay}(E:Yb D f C n){o:dD}(m:rU D f o.dst o.op=Z):
  BS p fs w0 (BN D f o.dst) (cT C (jI (D.gen f) o)) (cT n o):=by
 obtain⟨A,op,G,F,r,guard⟩:=o;simp only at m;have O:∀{x},fU D f x=2->C x=n x∧CH (n x)=Z:=λ{x} h=>by have:=E.rd x (by omega);rw[h] at this;exact this
 have N:∀{x},fU D f x<=1->BR (C x) (n x):=λ{x} h=>(E.rd x (by omega)).data h
 have Q0:∀{k},lV D f A k=Z->(A=V∨k<3):=λ{k} h=>by
  unfold lV at h;cases A with
  |none=>grind
  |some t=>
   right;simp only[BZ,kK,cS,nt,fI] at h
   grind
 have mv:∀{x},lV D f A (fU D f x)=Z->BS p fs w0 (BN D f A) (bH (fV (C x))) (bH (fV (n x))):=λ{x} h=>BS.ret (by
  rcases Q0 h with h0|h0
  ·intro t Q;grind
  ·exact af5 h (E.rd x h0))
 cases op<;>first|exact absurd m o8|skip
 case move x=>exact mv m
 case assign x=>exact mv m
 case pick c a b=>
  simp only[rU,cS,fI,nt,kK,xD,ne_eq] at m;refine BS.bind (BS.aAN (N m.1.1)) ?_
  grind
 case alloc t=>
  simp only[rU,cS,fI,nt,kK,xD,ne_eq] at m;exact BS.val m.2 (BS.aAW H m.1)
 case load t a=>
  simp only[rU,cS,fI,nt,kK,xD,ne_eq] at m;obtain⟨e,I⟩:=O m.1.2;refine BS.val m.2 ?_;show BS p fs w0 (BK 1) (CW (iF (D.gen f) t) (C a)) (CW t (n a));rw[e];unfold CW;refine BS.bind (BS.sure I) ?_;rintro z _ rfl;exact BS.asz H _ m.1.1.1 z
 case store t a x=>
  simp only[rU,cS,fI,nt,kK,xD,ne_eq] at m;obtain⟨e,I⟩:=O m.1.2;show BS p fs w0 (BN D f A) (do Qj (iF (D.gen f) t) (C a) (C x);bH .skip) (do Qj t (n a) (n x);bH .skip)
  rw[e];refine BS.bind (A:=λ_ _=>True) ?_ λ_ _ _=>BS.ret trivial;unfold Qj;refine BS.bind (BS.sure I) ?_
  grind[BS.amv]
 case nilCheck x=>
  simp only[rU,cS,fI,nt,kK,xD,ne_eq] at m;obtain⟨e,I⟩:=O m.1;unfold cT jI acA;dsimp only;rw[e];rcases Lv I with⟨a,h⟩|⟨a,l,c,h⟩|⟨vs,h,hv⟩
  ·rw[h];cases a with
   |none=>exact .dead λu=>panics _ u
   |some a=>grind
  ·grind
  grind
 case binOp op t x y yt=>
  simp only[rU,cS,fI,nt,kK,xD,ne_eq] at m;have L:=m.1.2;have hk:fU D f x<=1∧fU D f y<=1∧(op=.add->fU D f x=0∨fU D f y=0):=by
   unfold ahy at L;split at L
   ·simp only[cS,fI,kK,nt] at L;exact⟨L.1.1,L.1.2,λ_=>L.2⟩
   ·rename_i S;simp only[cS,fI] at L;exact⟨L.1,L.2,λe=>absurd e S⟩
  refine BS.val m.2 (BS.bin (x:=C x) (y:=C y) (a:=x) (b:=y) H (D.gen f) m.1.1 (N hk.1) (N hk.2.1) λe=>?_);rcases hk.2.2 e with h|h
  ·have:=E.rd x (by omega);rw[h] at this;left;rw[this.1];exact this.2
  ·have:=E.rd y (by omega);rw[h] at this;right;rw[this.1];exact this.2
 case unOp op t x=>
  cases op<;>first|exact absurd m o8|skip
  simp only[rU,cS,fI,nt,kK,xD,ne_eq] at m;exact BS.val m.2 (BS.not' t (N m.1))
 case convert s t x=>
  simp only[rU,cS,fI,nt,kK,xD,ne_eq] at m;exact BS.val m.2 (BS.conv H m.1.1.1 m.1.1.2 (N m.1.2))
 case indexAddr t x i=>
  simp only[rU,cS,fI,nt,kK,xD,ne_eq] at m;obtain⟨e,I⟩:=O m.1.1.2;have Q:=m.1.1.1.1;subst Q;have T:=m.1.1.1.2;rw[T];refine BS.val m.2 ?_;show BS p fs w0 (BK 2) (wE 51 (C x) (C i)) (wE 79 (n x) (n i));rw[e];exact BS.at0 H I (N m.1.2)
 case index t x i=>
  cases x with
  |const v=>
   cases v<;>first|exact absurd m o8|skip
   simp only[rU,cS,fI,nt,kK,xD,ne_eq] at m;rename_i s;have Q:=m.1.1;subst Q;refine BS.val m.2 ?_;show BS p fs w0 (BK 0) (LS 9 (C (gB (aG s))) (C i)) (LS 9 (n (gB (aG s))) (n i));rw[(E.const _).1,(E.const _).2];exact BS.atZ H s (N m.1.2)
  |_=>exact absurd m o8
 case extract x i=>
  simp only[rU,cS,fI,nt,kK,xD,ne_eq] at m;obtain⟨e,I⟩:=O m.1;refine BS.val m.2 ?_;show BS p fs w0 (BK 0) (Fe (C x) i) (Fe (n x) i);rw[e];exact BS.ext i I
 case call c=>
  obtain⟨K,q,B⟩:=c;cases K with
  |invoke _ _=>exact absurd m o8
  |value g=>
   cases g with
   |func g=>
    simp only[rU,cS] at m;have Q2:∀(P:bU) (e:iI->ay) (B:Array dZ) (u:av),(∀g,e (.func g)=dH (ep g) #[] #[])->(∀M u,(iu g M).run P u=aV (jr g M) u)->(cT e {dst:=A,op:=.call {callee:=.value (.func g),args:=q,argTypes:=B},type:=G,pos:=F,after:=r,guard:=guard}).run P u=aV (jr g (q.map e)) u:=λP e B u R h2=>by simp only[cT,resolve,R,L9];rw[gK];show((invoke (.fn (ep g) #[]) (#[]++q.map e)).run P u)=_;simp only[invoke,JU,Ov];exact h2 _ _
    have R:=hC g m.1.1;intro u w hw;have W:=Q2 (J p fs) C (B.map (iF (D.gen f))) u (λg=>(E.func g).1) R.1;have j:=Q2 p n B w (λg=>(E.func g).2) R.2;refine ax ⟨jr g (q.map C),jr g (q.map n),u,w,?_,j,⟨rfl,m.1.1,?_,m.2⟩,hw⟩
    ·have:cT C (jI (D.gen f) {dst:=A,op:=.call {callee:=.value (.func g),args:=q,argTypes:=B},type:=G,pos:=F,after:=r,guard:=guard})=cT C {dst:=A,op:=.call {callee:=.value (.func g),args:=q,argTypes:=B.map (iF (D.gen f))},type:=G,pos:=F,after:=r,guard:=guard}:=rfl;rw[this];exact W
    ·simp only[xE];exact ahU E m.1.2
   |_=>exact absurd m o8
  |builtin b=>
   cases b<;>first|exact absurd m o8|skip
   simp only[rU,cS,nt] at m;obtain⟨⟨⟨T,ha⟩,Q1⟩,hf⟩:=m;subst ha;rw[T];obtain⟨q⟩:=q
   match q,Q1 with
   | [x],Q1=>
    have X:fU D f x=2:=by simpa using Q1
    obtain⟨e,I⟩:=O X;have h:=BS.val (f:=f) hf (BS.asD (fs:=fs) (w0:=w0) H (iF Z G) G I);have hm:∀e:iI->ay,(⟨[x]⟩:Array iI).map e= #[e x]:=λe=>by simp
    have hl:∀(e:iI->ay) (B:Array dZ) (G:dZ),cT e {dst:=A,op:=.call {callee:=.builtin .len,args:=⟨[x]⟩,argTypes:=B},type:=G,pos:=F,after:=r,guard:=guard}=(do bH (fV (<-x7 B G #[e x]))):=λe B G=>by rw[<-hm e];rfl
    have W:cT C (jI Z {dst:=A,op:=.call {callee:=.builtin .len,args:=⟨[x]⟩,argTypes:= #[79]},type:=G,pos:=F,after:=r,guard:=guard})=(do bH (fV (<-x7 #[51] (iF Z G) #[C x]))):=by
     have h51:(#[79]:Array dZ).map (iF Z)= #[51]:=by simp[Se]
     show cT C {dst:=A,op:=.call {callee:=.builtin .len,args:=⟨[x]⟩,argTypes:=(#[79]:Array dZ).map (iF Z)},type:=iF Z G,pos:=F,after:=r,guard:=guard}=_;rw[h51,hl]
    have j:=hl n #[79] G;rw[W,j,e];exact h
def P3(D:sQ)(f:fb)(ops:Array dD):Option (Nat×Bool)->Bool
 |none=>Z
 |some (j,_)=>match(ops[j]?).bind (·.dst) with|some d=>D.K f d==0|none=>Z
def NZ(D:sQ)(f:fb)(ops:Array dD):Bool:=ops.all λo=>rU D f o.dst o.op&&P3 D f ops o.guard
def vB(D:sQ)(f:fb):Code->Bool
 |.skip=>Z
 |.ret=>Z
 |.exit _=>Z
 |dQ _ ops _=>NZ D f ops
 |eE a b=>vB D f a&&vB D f b
 |.cond c a b=>cq (fU D f c<=1)&&(vB D f a&&vB D f b)
 |.block _ b=>vB D f b
 |.loop b=>vB D f b
 |_=>ai
def qy(g:Bool):eS->eS
 |bD c=>bD (vD g c)
 |.inLoop c=>.inLoop (vD g c)
 |aP ops l=>aP (ops.map (jI g)) l
 |i=>i
def vA(D:sQ)(f:fb):eS->Bool
 |bD c=>vB D f c
 |lI _=>Z
 |.inLoop c=>vB D f c
 |aP ops _=>NZ D f ops
 |_=>ai
structure wS(D:sQ)(p:bU)(fs:Array dV):Prop where
 fn:∀g,D.T g=Z->∃fn o b,fs[g]? =U fn∧p.funcs[g]? =U o∧o.body=U b∧fn.body=U (vD (D.gen g) b)∧fn.ntmps=o.ntmps∧vB D g b=Z∧fn.results=o.results∧
  ((∃t,o.results= #[.tmp t]∧D.rk g=D.K g t)∨(D.rk g=2∧o.results.size≠1∧∀r∈o.results,∃t,r=.tmp t∧D.K g t=0))∧(∀i k,(D.ps g)[i]? =U k->BZ k (D.K g i)=Z)
 call:∀g,D.T g=Z->(∀al u,(iu g al).run (J p fs) u=aV (jr g al) u)∧∀al w,(iu g al).run p w=aV (jr g al) w
 k3:∀f i,D.K f i<3
structure jg(D:sQ)(fr fr':aX):Prop where
 fn:fr.fn=fr'.fn
 here:D.T fr'.fn=Z
 size:fr.tmps.size=fr'.tmps.size
 tmps:∀i x x',fr.tmps[i]? =U x->fr'.tmps[i]? =U x'->BK (D.K fr'.fn i) x x'
 todo:fr.todo=fr'.todo.map (qy (D.gen fr'.fn))
 items:∀i∈fr'.todo,vA D fr'.fn i=Z
 defers:fr.defers=[]∧fr'.defers=[]
 mode:fr.mode=fr'.mode∧(fr'.mode=.run∨fr'.mode=fC)
 kind:fr.kind=er∧fr'.kind=er
 round:fr.roundOf=V∧fr'.roundOf=V
inductive wR(D:sQ):fb->List aX->List aX->Prop
 |nil {g}:wR D g [] []
 |cons {g c c' cs cs' ops i rest k} (h:jg D c c') (hm:c'.mode=.run) (ht:c'.todo=aP ops (i::rest)::k) (hd:lV D c'.fn ((ops[i]?).bind (·.dst)) (D.rk g)=Z) (t:wR D c'.fn cs cs'):wR D g (c::cs) (c'::cs')
def axC(N:Nat):H:={T:=λ_=>ai,F:=λb=>cq (N<=b),gh:=λ_=>ai,cut:=λ_ _=>ai}
def tc(D:sQ)(p:bU)(fs:Array dV)(w0:av)(B':List aX)(A r':GStep):Prop:=
 (∃fr cs u fr' cs' w,A.bare=bS (r fr (cs++[wall (J p fs)])) u∧r'.bare=bS (r fr' (cs'++B')) w∧jg D fr fr'∧wR D fr'.fn cs cs'∧iw w0 u w)∨
 (∃o u,A.bare=ff o u)∨(∃g u N,A.bare=bS g u∧sU (axC N) (J p fs) g u)∨∃v u,A.bare=bS (r ((wall (J p fs)).finish v) []) u
section
variable {D:sQ} {p:bU} {fs:Array dV} {w0 u w:av} {B':List aX} {fr fr':aX} {cs cs':List aX}
theorem jg.getD(F:wS D p fs)(h:jg D fr fr')(t):BK (D.K fr'.fn t) (fr.tmps.getD t ak) (fr'.tmps.getD t ak):=by
 rw[iz,iz];cases c:fr.tmps[t]? with
 |none=>
  have:fr'.tmps[t]? =V:=xB (by rw[<-h.size];grind)
  rw[this];exact BK.undef (F.k3 _ _)
 |some x=>
  have b:=(dc.1 c).1;rw[h.size] at b;rw[iq b];exact h.tmps t _ _ c (iq b)
theorem jg.evs(F:wS D p fs)(h:jg D fr fr'):Yb D fr'.fn fr.eval fr'.eval:=by
 refine⟨λx b=>?_,λv=>⟨rfl,rfl⟩,λg=>⟨rfl,rfl⟩⟩;cases x with
 |tmp t=>exact h.getD F t
 |const v=>
  have e:fU D fr'.fn (gB v)=if qa v=Z then 0 else 3:=rfl
  rw[e] at b⊢;by_cases c:qa v=Z
  ·rw[dn c];exact⟨rfl,c⟩
  grind
 |global g=>exact absurd b (by simp[fU])
 |func g=>exact absurd b (by simp[fU])
theorem jg.to(h:jg D fr fr'){l}(b:∀i∈l,vA D fr'.fn i=Z):jg D {fr with todo:=l.map (qy (D.gen fr'.fn))} {fr' with todo:=l}:=
 ⟨h.fn,h.here,h.size,h.tmps,rfl,b,h.defers,h.mode,h.kind,h.round⟩
theorem jg.finish(h:jg D fr fr'){ops}{i}{rest}{k}(I:fr'.todo=aP ops (i::rest)::k){x x'}(Q:∀t,(ops[i]?).bind (·.dst)=U t->BK (D.K fr'.fn t) x x'):jg D (fr.finish x) (fr'.finish x'):=by
 obtain⟨n,f,F,e,m,o,O⟩:=fr;obtain⟨T,c,z,b,l,g,s⟩:=fr';obtain⟨L,C,N,J,G,E,B,A,v,q⟩:=h;simp only at I L C N J G E B A v q Q;subst I L G;have M:∀j∈(aP ops rest::k),vA D n j=Z:=λj H=>by
  rcases dh.1 H with rfl|H
  ·exact E (aP ops (i::rest)) (uF ..)
  grind
 have r:((ops.map (jI (D.gen n)))[i]?).bind (·.dst)=(ops[i]?).bind (·.dst):=by rw[pS];cases ops[i]? <;>rfl
 have P:(sJ ⟨n,f,(aP ops (i::rest)::k).map (qy (D.gen n)),e,m,o,O⟩ x)=⟨n,(match(ops[i]?).bind (·.dst) with|some d=>f.setIfInBounds d x|none=>f),(aP ops rest::k).map (qy (D.gen n)),e,m,o,O⟩:=by rw[<-r];rfl
 have R:(sJ ⟨n,c,aP ops (i::rest)::k,b,l,g,s⟩ x')=⟨n,(match(ops[i]?).bind (·.dst) with|some d=>c.setIfInBounds d x'|none=>c),aP ops rest::k,b,l,g,s⟩:=rfl
 rw[P,R];cases X:(ops[i]?).bind (·.dst) with
 |none=>exact⟨rfl,C,N,J,rfl,M,B,A,v,q⟩
 |some d=>
  refine⟨rfl,C,by grind,λj y W K S=>?_,rfl,M,B,A,v,q⟩
  grind
theorem ahV:∀{xs d} {e},Fq xs d e->xs.length=d.length∧∀(i:Nat) (x y),xs[i]? =U x->d[i]? =U y->∃k,e[i]? =U k∧BK k x y
 | [],[],[],_=>⟨rfl,λi x y h _=>by grind⟩
 |x::xs,y::d,k::e,h=>by
  obtain⟨l,j⟩:=ahV h.2;refine⟨by grind,λi a b f g=>?_⟩
  cases i with
  |zero=>simp at f g;subst f g;exact⟨k,rfl,h.1⟩
  |succ i=>grind
 | [],_::_,_,h=>by cases h
 | [],[],_::_,h=>by grind
 |_::_,[],_,h=>by cases h
 |_::_,_::_,[],h=>by cases h
theorem jg.yX(F:wS D p fs){g}(l:D.T g=Z){f h}(y:Fq f.toList h.toList (D.ps g)):jg D (eO (J p fs) g f er) (eO p g h er):=by
 obtain⟨r,E,b,n,t,v,A,I,q,K,H,d⟩:=F.fn g l;obtain⟨L,o⟩:=ahV y;have e:(J p fs).funcs[g]? =U r:=n;unfold eO;rw[e,t];simp only[ey,xC,v,A];refine⟨rfl,l,by grind,λi x m s c=>?_,rfl,λi j=>by rw[mA.1 j];exact q,⟨rfl,rfl⟩,⟨rfl,ax rfl⟩,⟨rfl,rfl⟩,⟨rfl,rfl⟩⟩
 simp only[Array.getElem?_append] at s c;by_cases j:i<f.size
 ·obtain⟨k,C,z⟩:=o i x m (by grind) (by grind)
  exact z.le (d i k C)
 ·have B:x=ak:=by
   grind
  have G:m=ak:=by
   grind
  rw[B,G];exact BK.undef (F.k3 _ _)
theorem tc.lost{A i}{fr:aX}{cs}{vs}(j:fr.defers=[])(n:∀c∈cs,c.defers=[])(e:A.bare=bS (r (fr.raise vs) (cs++[wall (J p fs)])) u):tc D p fs w0 B' A i:=by
 obtain⟨c,k⟩:=raise_mode fr vs;refine aA (aA (ax ⟨_,u,u.heap.size,e,ax ⟨_,cs,c,u,rfl,k,by rw[Jy,j];exact λd h=>(by grind),λx m=>λd h=>(by grind),⟨λb o f g=>?_,λb f=>?_⟩,iZ.refl u⟩⟩))
 ·have l:=(dc.1 f).1;have q:=of_decide_eq_true g;omega
 ·exact OD f
theorem wR.defers:∀{g} {cs cs'},wR D g cs cs'->∀c∈cs,c.defers=[]
 |_,_,_,.nil=>by simp
 |_,_,_,.cons h _ _ _ t=>λc a=>by
  rcases dh.1 a with rfl|a
  ·exact h.defers.1
  ·exact t.defers c a
theorem jg.DY(h:jg D fr fr'):∀d x y z k,fr.todo≠ .call d x y z::k:=λd x y z k e=>by
 rw[h.todo] at e;cases b:fr'.todo with
 |nil=>grind
 |cons i l=>
  have:=h.items i (by grind)
  rw[b,fS] at e;cases i<;>first|(cases ((List.cons.inj e).1);done)|(cases this)
theorem jg.JF(h:jg D fr fr'):∀d x y z k,fr'.todo≠ .call d x y z::k:=λd x y z k e=>by
 have:=h.items (.call d x y z) (by grind)
 cases this
theorem aAo(F:wS D p fs)(h:jg D fr fr')(t:wR D fr'.fn cs cs')(r:iw w0 u w){ops:Array dD}{i:Nat}{rest:List Nat}{k:List eS}(n:fr'.todo=aP ops (i::rest)::k)(A:fr'.mode=.run){s q:cy Next}
  (hs:BS p fs w0 (BN D fr'.fn ((ops[i]?).bind (·.dst))) s q):tc D p fs w0 B' (vb (J p fs) Z fr (cs++[wall (J p fs)]) V s u) (vb p Z fr' (cs'++B') V q w):=by
 have H:=h.DY;have G:=h.JF;unfold vb;simp only[iM,UF];rcases hs u w r with⟨a,b,j,o,l,x,e,f⟩|⟨m,j,l,d⟩
 ·rw[l,x];cases a<;>cases b<;>first|exact e.elim|skip
  ·exact ax ⟨_,cs,j,_,cs',o,by rw[Ai];rfl,by rw[Ai];rfl,h.finish n e,by rw[show(fr'.finish _).fn=fr'.fn from by unfold sJ;grind];grind,f⟩
  ·exact ax ⟨_,cs,j,_,cs',o,by rw[Ai];rfl,by rw[Ai];rfl,h.finish n λt _=>BK.undef (F.k3 _ _),by rw[show(fr'.finish ak).fn=fr'.fn from by unfold sJ;grind];grind,f⟩
  ·rename_i g E I v;obtain⟨rfl,C,y,B⟩:=e;refine ax ⟨eO (J p fs) g E er,fr::cs,j,eO p g v er,fr'::cs',o,?_,?_,jg.yX F C y,.cons h A n B t,f⟩
   ·rw[Ai];dsimp only;split
    ·grind
    ·rfl
   ·rw[Ai];dsimp only;split
    ·grind
    ·rfl
 ·rw[l];cases m<;>first|exact absurd d o8|skip
  ·exact tc.lost h.defers.1 t.defers (by rw[Ai];rfl)
  ·rename_i z;cases z<;>first|exact absurd d o8|exact aA (ax ⟨_,_,by rw[Ai];rfl⟩)
  ·exact aA (ax ⟨_,_,by rw[Ai];rfl⟩)
end
variable{u w:av}{B':List aX}{fr fr':aX}{cs cs':List aX}
theorem XN(g)(id):∀k,exitTo id (k.map (qy g))=(exitTo id k).map λl=>l.map (qy g)
 | []=>rfl
 |i::k=>by
  cases i<;>simp only[fS,qy,exitTo]<;>first|exact XN g id k|skip
  split
  ·rfl
  ·exact XN g id k
theorem acK(g)(m)(ops):∀(n t) (b) (c),wF m (ops.map (jI g)) n t b c=wF m ops n t b c
 |0,_,_,_=>rfl
 |n+1,t,b,c=>by
  have e:∀i:Nat,(((ops.map (jI g))[i]?).map λo=>o.after.all λe=> ! LU m e||b.getD e.on ai)=((ops[i]?).map λo=>o.after.all λe=> ! LU m e||b.getD e.on ai):=λi=>by rw[pS];cases ops[i]? <;>rfl
  unfold wF;simp only[B2,e,acK g m ops n]
theorem aoS(g)(ops)(t)(b):lZ b (ops.map (jI g)) t=lZ b ops t:=by
 have c:agT (ops.map (jI g))=agT ops:=by unfold agT;rw[Array.any_map];rfl
 unfold lZ Region.linearise
 grind[Array.size_map,acK]
theorem aAn(x)(h:iw w0 u w):∃n c d,(choose x).run (J p fs) u=aV n c∧(choose x).run p w=aV n d∧iw w0 c d:=by
 by_cases b:x.forced=Z
 ·exact⟨0,u,w,by simp[b],by simp[b],h⟩
 ·exact⟨x.cut (w.tape w.drawn x),_,_,by simp[b,h.tape,h.drawn];rfl,by simp[b];rfl,by first|exact h.draw|simpa[h.drawn,h.tape] using h.draw⟩
theorem aAl(F:wS D p fs)(H:qh p)(h:jg D fr fr')(t:wR D fr'.fn cs cs')(j:iw w0 u w)(m:fr'.mode=.run){ops}{i}{rest}{k}(b:fr'.todo=aP ops (i::rest)::k):
  tc D p fs w0 B' (CS (J p fs) Z fr (cs++[wall (J p fs)]) V u) (CS p Z fr' (cs'++B') V w):=by
 have f:fr.todo=aP (ops.map (jI (D.gen fr'.fn))) (i::rest)::k.map (qy (D.gen fr'.fn)):=by rw[h.todo,b];rfl
 have g:fr.oper? =(ops[i]?).map (jI (D.gen fr'.fn)):=by unfold LM;grind
 have e:fr'.oper? =ops[i]? :=by unfold LM;grind
 unfold CS;rw[g,e,h.round.1,h.round.2];cases d:ops[i]? with
 |none=>exact aA (ax ⟨_,_,rfl⟩)
 |some o=>
  have c:=h.items _ (by rw[b];exact uF ..)
  simp only[vA,NZ,kC,cS] at c;have l:=BS.op (fs:=fs) (w0:=w0) H F.call (h.evs F) (c o (tI d)).1
  grind[aAo]
theorem aAi(h:jg D fr fr'){ops}{o}(m:P3 D fr'.fn ops o.guard=Z):eP (jI (D.gen fr'.fn) o) (dY (ops.map (jI (D.gen fr'.fn))) fr.tmps)=eP o (dY ops fr'.tmps):=by
 show eP o (dY (ops.map (jI (D.gen fr'.fn))) fr.tmps)=_;unfold eP;cases k:o.guard with
 |none=>rfl
 |some l=>
  obtain⟨j,g⟩:=l;have r:dY (ops.map (jI (D.gen fr'.fn))) fr.tmps j=dY ops fr'.tmps j:=by
   simp only[P3] at m;unfold dY;rw[pS];cases q:ops[j]? with
   |none=>rfl
   |some e=>
    show(match e.dst.bind (fr.tmps[·]?) with|some (cz b)=>U b|_=>V)=(match e.dst.bind (fr'.tmps[·]?) with|some (cz b)=>U b|_=>V)
    cases s:e.dst with
    |none=>rfl
    |some d=>
     have n:D.K fr'.fn d=0:=by grind
     have:fr.tmps[d]? =fr'.tmps[d]? :=by
      cases f:fr.tmps[d]? with
      |none=>exact(xB (by rw[<-h.size];grind)).symm
      |some x=>
       have c:=(dc.1 f).1;rw[h.size] at c;have i:=h.tmps d _ _ f (iq c);rw[n] at i;rw[iq c,i.1]
     grind
  grind
theorem aAm(F:wS D p fs)(H:qh p)(h:jg D fr fr')(t:wR D fr'.fn cs cs')(Q1:iw w0 u w)(hm:fr'.mode=.run):
  tc D p fs w0 B' (va (J p fs) Z Z fr (cs++[wall (J p fs)]) V u) (va p Z Z fr' (cs'++B') V w):=by
 have KG:=λ(ops:Array dD) (i:Nat) (O:List Nat) (k:List eS) (ht:fr'.todo=aP ops (i::O)::k)=>aAl (B':=B') F H h t Q1 hm ht;have AD:=λ(ops:Array dD) (i:Nat) (O:List Nat) (k:List eS) (ht:fr'.todo=aP ops (i::O)::k)=>h.finish (x:=ak) (x':=ak) ht λt _=>BK.undef (F.k3 _ _);have aEw:=λ(ops:Array dD) (QX:dD) (hg:P3 D fr'.fn ops QX.guard=Z)=>aAi h hg;have tW:=(h.evs F).rd;have hto:=λ(l:List eS) (Q2:∀i∈l,vA D fr'.fn i=Z)=>h.to Q2;have G:=h.items;have P:=h.todo;have oa:=h.round;have W:=h.fn;have X:jg D {fr with mode:=fC} {fr' with mode:=fC}:=⟨h.fn,h.here,h.size,h.tmps,h.todo,h.items,h.defers,⟨rfl,aA rfl⟩,h.kind,h.round⟩;obtain⟨m,v,todo,q,E,B,ro⟩:=fr;obtain⟨o,f,Q3,g,C,A,ro'⟩:=fr';simp only at P oa W hm G t;obtain⟨rfl,rfl⟩:=oa;subst W P;have s:∀l:List eS,(∀i∈l,vA D m i=Z)->∀QW Q,QW=bS (r (⟨m,v,l.map (qy (D.gen m)),q,E,B,V⟩:aX) (cs++[wall (J p fs)])) u->Q=bS (r (⟨m,f,l,g,C,A,V⟩:aX) (cs'++B')) w->tc D p fs w0 B' QW Q:=λl Q2 QW Q e e'=>ax ⟨_,cs,u,_,cs',w,by rw[e];rfl,by rw[e'];rfl,hto l Q2,t,Q1⟩
 have N:∀QW Q,QW=bS (r (⟨m,v,Q3.map (qy (D.gen m)),q,fC,B,V⟩:aX) (cs++[wall (J p fs)])) u->Q=bS (r (⟨m,f,Q3,g,fC,A,V⟩:aX) (cs'++B')) w->tc D p fs w0 B' QW Q:=λQW Q e e'=>ax ⟨_,cs,u,_,cs',w,by rw[e];rfl,by rw[e'];rfl,X,t,Q1⟩
 unfold va;cases Q3 with
 |nil=>exact N _ _ rfl rfl
 |cons i k=>
  have I:=G i (uF ..);have K:∀j∈k,vA D m j=Z:=λj hj=>G j (uE _ hj);cases i<;>first|exact absurd I o8|skip
  case inBlock id=>exact s k K _ _ rfl rfl
  case inLoop c=>exact s (bD c:: .inLoop c::k) (gU.2 ⟨I,gU.2 ⟨I,K⟩⟩) _ _ rfl rfl
  case inRegion ops l=>
   cases l with
   |nil=>exact s k K _ _ rfl rfl
   |cons i l=>
    have h1:=KG ops i l k rfl;have h2:=AD ops i l k rfl;have hyd:((((ops.map (jI (D.gen m)))[i]?).map (eP · (dY (ops.map (jI (D.gen m))) v))).getD ai)=(((ops[i]?).map (eP · (dY ops f))).getD ai):=by
     rw[pS];cases ho:ops[i]? with
     |none=>rfl
     |some QX=>
      simp only[vA,NZ,kC,cS] at I
      grind
    by_cases b:(((ops[i]?).map (eP · (dY ops f))).getD ai)=Z
    ·have S:=hyd.trans b;show tc _ _ _ _ _ (if(((ops.map (jI (D.gen m)))[i]?).map (eP · (dY (ops.map (jI (D.gen m))) v))).getD ai=Z then _ else _) (if((ops[i]?).map (eP · (dY ops f))).getD ai=Z then _ else _)
     grind
    ·have S:¬_=Z:=λe=>b (hyd.symm.trans e);show tc _ _ _ _ _ (if(((ops.map (jI (D.gen m)))[i]?).map (eP · (dY (ops.map (jI (D.gen m))) v))).getD ai=Z then _ else _) (if((ops[i]?).map (eP · (dY ops f))).getD ai=Z then _ else _)
     rw[if_neg S,if_neg b];exact ax ⟨_,cs,u,_,cs',w,rfl,rfl,h2,t,Q1⟩
  case code c=>
   cases c<;>first|exact absurd I o8|skip
   case ret=>exact N _ _ rfl rfl
   case skip=>exact s k K _ _ rfl rfl
   case seq a c=>
    simp only[vA,vB,cS] at I;exact s (bD a::bD c::k) (gU.2 ⟨I.1,gU.2 ⟨I.2,K⟩⟩) _ _ rfl rfl
   case block id c=>exact s (bD c::lI id::k) (gU.2 ⟨I,gU.2 ⟨rfl,K⟩⟩) _ _ rfl rfl
   case loop c=>exact s (bD c:: .inLoop c::k) (gU.2 ⟨I,gU.2 ⟨I,K⟩⟩) _ _ rfl rfl
   case cond x a c=>
    simp only[vA,vB,cS,fI] at I;have hb:=(tW x (show fU D m x<3 by omega)).data I.1
    have L:∀(y y':ay) (QX T:Outcome),BR y y'->tc D p fs w0 B'
      (match y with
       |cz z=>bS (r ⟨m,v,bD (if z then vD (D.gen m) a else vD (D.gen m) c)::k.map (qy (D.gen m)),q,E,B,V⟩ (cs++[wall (J p fs)])) u
       |_=>ff QX u)
      (match y' with
       |cz z=>bS (r ⟨m,f,bD (if z then a else c)::k,g,C,A,V⟩ (cs'++B')) w
       |_=>ff T w):=by
     intro y y' QX T hy;cases hy with
     |none _=>exact aA (ax ⟨_,_,rfl⟩)
     |byte c=>exact aA (ax ⟨_,_,rfl⟩)
     |int _ _=>exact aA (ax ⟨_,_,rfl⟩)
     |bool z=>
      cases z with
      |true=>exact s (bD a::k) (gU.2 ⟨I.2.1,K⟩) _ _ rfl rfl
      |false=>exact s (bD c::k) (gU.2 ⟨I.2.2,K⟩) _ _ rfl rfl
    exact L _ _ _ _ hb
   case exit id=>
    have L:∀(QX T:Option (List eS)) (Q0 M:Outcome),QX=T.map (λl=>l.map (qy (D.gen m)))->(∀l,T=U l->∀i∈l,vA D m i=Z)->
      tc D p fs w0 B' (QX.elim (ff Q0 u) λl=>bS (r ⟨m,v,l,q,E,B,V⟩ (cs++[wall (J p fs)])) u) (T.elim (ff M w) λl=>bS (r ⟨m,f,l,g,C,A,V⟩ (cs'++B')) w):=by
     rintro _ T Q0 M rfl ho;cases T with
     |none=>exact aA (ax ⟨_,_,rfl⟩)
     |some l=>exact s l (ho l rfl) _ _ rfl rfl
    exact L (exitTo id (k.map (qy (D.gen m)))) (exitTo id k) _ _ (XN _ id k) λl Q2 i I=>K i (Lt id k l Q2 i I)
   case region id ops d=>
    have R:vA D m (aP ops [])=Z:=I;cases d with
    |false=>
     refine s (aP ops (lW ops.size)::k) (gU.2 ⟨R,K⟩) _ _ ?_ rfl;show bS (r ⟨m,v,aP (ops.map (jI (D.gen m))) (lW (ops.map (jI (D.gen m))).size)::k.map (qy (D.gen m)),q,E,B,V⟩ _) u=_;rw[B2];rfl
    |true=>
     obtain⟨n,u1,w1,e1,e2,fK⟩:=aAn (p:=p) (fs:=fs) (.order m id) Q1;have L:∀(QW Q:Result Nat) (Q0 M:Outcome),QW=aV n u1->Q=aV n w1->tc D p fs w0 B'
       (match QW with
        |aV t u=>bS (r ⟨m,v,aP (ops.map (jI (D.gen m))) (lZ ((J p fs).follows mE) (ops.map (jI (D.gen m))) t)::k.map (qy (D.gen m)),q,E,B,V⟩ (cs++[wall (J p fs)])) u
        |dL _ u=>ff Q0 u)
       (match Q with
        |aV t w=>bS (r ⟨m,f,aP ops (lZ (p.follows mE) ops t)::k,g,C,A,V⟩ (cs'++B')) w
        |dL _ w=>ff M w):=by
      rintro _ _ Q0 M rfl rfl;refine ax ⟨_,cs,u1,_,cs',w1,?_,rfl,hto (aP ops (lZ (p.follows mE) ops n)::k) (gU.2 ⟨R,K⟩),t,fK⟩;dsimp only;rw[aoS];rfl
     exact L _ _ (jO "order" (oe (J p fs) ⟨m,v,(bD (dQ id ops Z)::k).map (qy (D.gen m)),q,E,B,V⟩)) (jO "order" (oe p ⟨m,f,bD (dQ id ops Z)::k,g,C,A,V⟩)) e1 e2
def NJ(ts:Array ay):ResultVar->cy ay
 |.tmp t=>bH (ts.getD t ak)
 |.cell a t=>do loadVar t (<-asAddr (ts.getD a ak))
theorem aaQ(fn)(c):jN fn c=(do let b<-fn.results.mapM (NJ c);bH (if h:b.size=1 then b[0] else bO b)):=by congr 1
theorem ahM(F:wS D p fs)(h:jg D fr fr'){fn:dV}(c:(∃t,fn.results= #[.tmp t]∧D.rk fr'.fn=D.K fr'.fn t)∨(D.rk fr'.fn=2∧fn.results.size≠1∧∀r∈fn.results,∃t,r=.tmp t∧D.K fr'.fn t=0)):∃v o,BK (D.rk fr'.fn) v o∧(∀P z,(jN fn fr.tmps).run P z=aV v z)∧∀P z,(jN fn fr'.tmps).run P z=aV o z:=by
 rcases c with⟨t,c,k⟩|⟨k,q,c⟩
 ·have e:∀(P:bU) (d:Array ay) (z:av),(jN fn d).run P z=aV (d.getD t ak) z:=λP d z=>by rw[aaQ,c,Gv,UG];rfl
  exact⟨_,_,k▸h.getD F t,λP z=>e P _ z,λP z=>e P _ z⟩
 have f:∀l:List ResultVar,(∀r∈l,∃t,r=.tmp t∧D.K fr'.fn t=0)->∃b:List ay,b.length=l.length∧(∀v∈b,qa v=Z)∧(∀(P:bU) z,(l.mapM (NJ fr.tmps)).run P z=aV b z)∧
   ∀(P:bU) z,(l.mapM (NJ fr'.tmps)).run P z=aV b z:=by
  intro l;induction l with
  |nil=>intro _;exact⟨[],rfl,by simp,λ_ _=>rfl,λ_ _=>rfl⟩
  |cons r l x=>
   intro f;obtain⟨t,rfl,s⟩:=f r (uF ..);obtain⟨b,y,A,m,i⟩:=x λr c=>f r (uE _ c);have g:=h.getD F t;rw[s] at g;refine⟨fr'.tmps.getD t ak::b,by grind,λv n=>?_,λP z=>?_,λP z=>?_⟩
   ·rcases dh.1 n with rfl|n
    ·exact g.2
    grind
   ·rw[Gu,gK,<-g.1];show((_>>=_:cy (List ay)).run P z)=_;rw[gK,m P z];rfl
   ·rw[Gu,gK];show((_>>=_:cy (List ay)).run P z)=_;rw[gK,i P z];rfl
 obtain⟨b,y,A,m,i⟩:=f fn.results.toList λr j=>c r (ada.1 j);have e:∀(P:bU) (d:Array ay) (z:av),(fn.results.toList.mapM (NJ d)).run P z=aV b z->(jN fn d).run P z=aV (if h:b.toArray.size=1 then b.toArray[0] else bO b.toArray) z:=λP d z h=>by rw[aaQ,Gv,UG,gK,gK,h];rfl
 refine⟨_,_,?_,λP z=>e P _ z (m P z),λP z=>e P _ z (i P z)⟩;rw[k,Ej (by grind)]
 refine⟨rfl,?_⟩;show b.toArray.all qa=Z
 grind
theorem aAj(F:wS D p fs)(h:jg D fr fr')(t:wR D fr'.fn cs cs')(s:iw w0 u w)(I:fr'.mode=fC):
  tc D p fs w0 B' (unwind (J p fs) Z fr (cs++[wall (J p fs)]) V u) (unwind p Z fr' (cs'++B') V w):=by
 obtain⟨o,m,b,y,E,M,O,N,L,Q,C,B⟩:=F.fn _ h.here;obtain⟨v,q,z,R,x⟩:=ahM F h C;have j:(J p fs).funcs[fr.fn]? =U o:=by rw[h.fn];exact y
 have e:=R (J p fs) u;have n:jN o fr.tmps=jN m fr.tmps:=by unfold jN;grind
 rw[<-n] at e;unfold unwind;rw[h.defers.1,h.defers.2,h.mode.1,I];rw[j,E];dsimp only;rw[UF,UF,e,(x p w)];cases t with
 |nil=>exact aA (aA (aA ⟨v,u,by unfold nC;simp only[h.kind.1];rfl⟩))
 |cons G K f g P=>
  rename_i c l cs cs' A i r k;refine ax ⟨c.finish v,cs,u,l.finish q,cs',w,?_,?_,G.finish f λd H=>?_,?_,s⟩
  ·unfold nC;simp only[h.kind.1];rfl
  ·unfold nC;simp only[h.kind.2];rfl
  ·rw[H] at g;exact BK.le z g
  ·rw[show(l.finish q).fn=l.fn from by unfold sJ;rw[f]]
   grind
theorem aAk(F:wS D p fs)(H:qh p)(h:jg D fr fr')(t:wR D fr'.fn cs cs')(c:iw w0 u w):
  tc D p fs w0 B' (bZ (J p fs) Z (r fr (cs++[wall (J p fs)])) u) (bZ p Z (r fr' (cs'++B')) w):=by
 unfold bZ r;dsimp only;rw[h.mode.1];rcases h.mode.2 with b|b
 ·grind[aAm]
 grind[aAj]
theorem bare_go{r:GStep}{g}{u}(h:r.bare=bS g u):∃a,r=bS g u a:=by
 cases r<;>first|cases h
 grind
theorem acG{fr fr'}{cs cs'}{w w'}(h:iH fr cs w=iH fr' cs' w'):fr=fr'∧cs=cs'∧w=w':=by
 refine⟨?_,?_,congrArg Machine.world h⟩
 ·have:=congrArg (λm=>(m.gs[0]?).map (·.frame)) h;simpa[iH] using this
 ·have:=congrArg (λm=>(m.gs[0]?).map (·.callers)) h;simpa[iH] using this
theorem ahL(F:wS D p fs)(H:qh p){f:aX}{W:av}{v:ay}(B:f.leaving (J p fs) W (bj v)):∀(n:Nat) (fr fr':aX) (cs cs':List aX) (u w:av),jg D fr fr'->wR D fr'.fn cs cs'->iw w0 u w->runN (J p fs) n (iH fr (cs++[wall (J p fs)]) u)=fQ (iH f [wall (J p fs)] W)->
  ∃m c,Steps p (iH fr' (cs'++B') w) (iH c B' m)∧jg D f c∧iw w0 W m
 |0,fr,fr',cs,cs',u,w,h,t,y,e=>by
  have b:iH fr (cs++[wall (J p fs)]) u=iH f [wall (J p fs)] W:=by simpa[runN] using e
  obtain⟨rfl,C,rfl⟩:=acG b;cases t with
  |nil=>grind[Steps.refl]
  |cons _ _ _ _ _=>simp at C
 |n+1,fr,fr',cs,cs',u,w,h,t,y,e=>by
  rcases aAk (B':=B') F H h t y with⟨j,k,i,c,z,m,b,l,G,E,x⟩|⟨o,i,b⟩|⟨g,i,N,b,d⟩|⟨q,i,b⟩
  ·obtain⟨r,b⟩:=bare_go b;obtain⟨I,l⟩:=bare_go l;rw[runN,Dz b] at e;obtain⟨O,K,L,M,Q⟩:=ahL F H B n _ _ _ _ _ _ G E x e
   grind[Steps.head,Dz]
  ·have:step (J p fs) (iH fr (cs++[wall (J p fs)]) u)=.ended o i:=step_lone_ended b;rw[runN,this] at e
   grind
  ·exfalso;obtain⟨r,b⟩:=bare_go b;obtain⟨j,k,rfl⟩:=d.form;rw[runN,Dz b] at e;exact Um B.1 n j k i d e
  ·obtain⟨r,b⟩:=bare_go b;rw[runN,Dz b] at e;cases n with
   |zero=>
    have b:iH ((wall (J p fs)).finish q) [] i=iH f [wall (J p fs)] W:=by simpa[runN] using e
    grind[acG]
   |succ n=>
    obtain⟨o,m,r,l⟩:=I0 (P:=J p fs) q i;have A:runN (J p fs) (n+1) (iH ((wall (J p fs)).finish q) [] i)=fQ (iH f [wall (J p fs)] W):=e;unfold runN at A;rw[Ni l] at A
    grind
theorem ahN(F:wS D p fs)(H:qh p){g}(T:D.T g=Z){x o}(L:Fq x.toList o.toList (D.ps g))(y:iw w0 u w){R:ay->av->Prop}(K:bE (J p fs) g x u λe f=>∃v,e=bj v∧R v f):
  bE p g o w λe S=>∃v h f,e=bj h∧R v f∧BK (D.rk g) v h∧iw w0 f S:=by
 intro B';obtain⟨e,f,fr,⟨v,rfl,M⟩,⟨n,Q⟩,k,s⟩:=K [wall (J p fs)];obtain⟨t,i,Q0,d,m⟩:=ahL (B':=B') F H s n _ _ [] [] u w (jg.yX F T L) .nil y Q;obtain⟨q,j,b,A,I,a,e4,Y,X,e7,G,C⟩:=F.fn _ d.here;obtain⟨r,h,B,r1,z⟩:=ahM F d G;obtain⟨P,hd,hk,O,E,W⟩:=s;have c:=d.fn.symm.trans k;have V:jN q fr.tmps=jN j fr.tmps:=by unfold jN;grind
 have N:(J p fs).funcs[fr.fn]? =U q:=by rw[d.fn];exact A
 have l:r=v:=by
  grind
 subst l;exact⟨bj h,t,i,⟨r,h,f,rfl,M,c▸B,m⟩,Q0,c,d.mode.1.symm.trans P,d.defers.2,d.kind.2,j,I,z p t⟩
end
section
open Go Go.Proofs Go.Shelf
def Sn:List Nat:=[197,208,212,225,226,231,232,233,234,235,236,237,238,239,245,246,254,255,256,257,262]
def amB:Nat->Nat
 |212=>20551738933448695970004992|231=>74767067512832|232=>299067162755072|233=>4899916463298576384|234=>562949953421312|235=>35651584|236=>1446221477643791248969357883997226532864|237=>24867|238=>80280383332339534790656|239=>24845622612882832247533482416378094206659464790016|246=>4370612516|254=>4796154602673890394112|257=>25|262=>2236416|_=>0
def amD:Nat->Nat
 |197=>1065|212=>5617483664380096270254521751908365893633|231=>468709937250305|232=>40154757423169537|233=>30706245946853818497|234=>20100446945793|235=>223690753|236=>9066177787099598164671015674677074853889|238=>503706889378935270451201|239=>155890296660192168261890238920840095753930246803457|246=>3815880921|254=>30882309152275437715457|255=>8325|256=>6871947281|262=>10048521|_=>0
def Nk:Nat->List Nat
 |197=> [2]|208=> [0]|212=> [2,0,0,0]|225=> [0]|226=> [0]|231=> [2,0,0]|232=> [2,0,0]|233=> [2,0,0]|234=> [2,0,0]|235=> [2,0,0]|236=> [2,0,0]|237=> [1,1]|238=> [2,0,0,0]|239=> [2,0,0,0]|245=> [0]|246=> [2]|254=> [2,0,0,0]|255=> [2,0,2]|256=> [2,0,0,0,2]|257=> [1]|262=> [2,0,0,2]|_=> []
def FT(f t:Nat):Nat:=if(amD f).testBit t then 2 else if(amB f).testBit t then 1 else 0
def zK:sQ:={T:=λf=>Sn.contains f,K:=FT,gen:=λf=> !([208,225,226,245,246]:List Nat).contains f,ps:=Nk,rk:=λf=>if f=246 then 1 else if([208,225,226,236,237,238,245,246,255,256,257]:List Nat).contains f then 0 else 2}
def Zm:AQ:=⟨λ |190=>197|125=>208|258=>212|128=>225|129=>226|302=>231|303=>232|304=>233|305=>234|306=>235|307=>236|308=>237|309=>238|310=>239|333=>254|329=>245|330=>246|334=>255|335=>256|336=>257|344=>262|n=>n,λ |31=>51|9=>9|3=>3|46=>169|0=>0|51=>123|53=>120|4=>4|183=>309|182=>308|131=>313|5=>5|218=>334|222=>337|228=>344|229=>39|n=>n,λ |n=>n⟩
noncomputable def Ln:Array dV:=[(197,Body.n190),(212,Body.n258),(231,Body.n302),(232,Body.n303),(233,Body.n304),(234,Body.n305),(235,Body.n306),(236,Body.n307),(237,Body.n308),(238,Body.n309),(239,Body.n310),(254,Body.n333),(255,Body.n334),(256,Body.n335),(257,Body.n336),(262,Body.n344)].foldl (λa p=>a.setIfInBounds p.1 (p.2 Zm)) iV
noncomputable abbrev amC:bU:=J Q Ln
theorem Zn:Go.Proofs.Lays.n190 amC Zm:=by constructor<;>intros<;>kernel_rfl
def ahi(f:Nat)(fn:dV):Bool:=
 (match fn.results.toList with| [.tmp t]=>zK.rk f==FT f t|l=>zK.rk f==2&& !(l.length==1)&&l.all λr=>match r with|.tmp t=>FT f t==0|_=>ai)&&((lW (Nk f).length).all λi=>match(Nk f)[i]? with|some k=>BZ k (FT f i)|none=>Z)&&
 (match fn.body with|some b=>vB zK f b|none=>ai)
theorem amE(f i:Nat):FT f i<3:=by
 unfold FT;split
 ·omega
 ·split<;>omega
def TH(fn:dV):Bool:= !(fn.name== "runtime.NumGoroutine" ||fn.body.isNone)
theorem amF{f:Nat}(h:zK.T f=Z):(Ln[f]?).map (λfn=>(fn.body,fn.ntmps,fn.results))=(Q.funcs[f]?).map (λfn=>(fn.body.map (vD (zK.gen f)),fn.ntmps,fn.results))∧(Q.funcs[f]?).any (λfn=>ahi f fn&&TH fn)=Z∧(Ln[f]?).any TH=Z:=by
 have:f∈Sn:=by simpa[zK] using h
 simp only[Sn,dh,dJ,dO] at this;rcases this with rfl|rfl|rfl|rfl|rfl|rfl|rfl|rfl|rfl|rfl|rfl|rfl|rfl|rfl|rfl|rfl|rfl|rfl|rfl|rfl|rfl<;>refine⟨?_,?_,?_⟩<;>kernel_rfl
theorem Zo:wS zK Q Ln:=by
 refine⟨λf hf=>?_,λf hf=>?_,amE⟩
 all_goals
  obtain⟨h1,h2,h3⟩:=amF hf;rcases ha:Ln[f]? with _|fn
  ·rw[ha] at h3;cases h3
  rcases hb:Q.funcs[f]? with _|o
  ·rw[hb] at h2;cases h2
  rw[ha,hb] at h1;rw[ha] at h3;simp only[hb,Option.any_some,cS,TH,ac9] at h2 h3;simp only[ey,ec,Ak] at h1
 ·obtain⟨h4,A,J⟩:=h1;obtain⟨c,-⟩:=h2;unfold ahi at c;simp only[cS] at c;obtain⟨⟨c1,c3⟩,c4⟩:=c;cases hb:o.body with
  |none=>rw[hb] at c4;cases c4
  |some b=>
  rw[hb] at c4 h4;refine⟨fn,o,b,rfl,rfl,hb,h4,A,c4,J,?_,λi k E=>?_⟩
  ·split at c1
   ·rename_i t ht;exact ax ⟨t,by rw[<-Array.toArray_toList (xs:=o.results),ht],of_decide_eq_true c1⟩
   ·simp only[cS,nt,ac9,J0] at c1;refine aA ⟨c1.1.1,by simpa using c1.1.2,λr hr=>?_⟩
    have:=OA.1 c1.2 r (ada.2 hr);cases r with
    |tmp t=>exact⟨t,rfl,of_decide_eq_true this⟩
    |cell _ _=>cases this
  ·have:=OA.1 c3 i (List.mem_range.2 (List.getElem?_eq_some_iff.1 E).1);have B:(Nk f)[i]? =U k:=E;rw[B] at this;exact this
 ·exact⟨λal u=>LH (afN (q:=Q) ha) h3 al u,λal w=>LH (q:=aC) (fs:=iV) hb h2.2 al w⟩
end
section
open Go Go.Proofs Go.Shelf Go.RowKit Go.Sort
theorem Zl:qh Q:=by
 have a:∀{t},yd t=Z->t=3∨t=5∨t=9∨t=334:=λ{t} h=>by
  simp only[yd,kK,nt] at h
  grind
 have b:∀{t},vV t=Z->t=3∨t=5∨t=120∨t=123∨t=169∨t=308∨t=334:=λ{t} h=>by
  simp only[vV,kK,nt] at h
  grind
 refine⟨λt h=>?_,λt h=>?_,MW,ajA,rH,FK,rG,λt h=>?_⟩
 ·rcases a h with rfl|rfl|rfl|rfl
  ·exact aj6
  ·exact aj4
  ·exact aj3
  ·exact aj5
 ·rcases a h with rfl|rfl|rfl|rfl
  ·exact ajU
  ·exact YG
  ·exact ajS
  ·exact ajT
 ·rcases b h with rfl|rfl|rfl|rfl|rfl|rfl|rfl
  ·exact⟨_,I9⟩
  ·exact⟨_,wT⟩
  ·exact⟨_,ajL⟩
  ·exact⟨_,ajK⟩
  ·exact⟨_,ajJ⟩
  ·exact⟨_,ajF⟩
  ·exact⟨_,ajE⟩
def vz:ay->ay
 |Y aq n=>if 0<=n∧n<256 then aG ⟨#[jZ n.toNat]⟩ else bO #[]
 |_=>bO #[]
def NT:Obj->Obj
 |aF c e f=>aF (c.map vz) e f
 |_=>wG V
def tF(w:av):av:={w with heap:=w.heap.map NT}
theorem aqh(n):vz (Y aq n)=if 0<=n∧n<256 then aG ⟨#[jZ n.toNat]⟩ else bO #[]:=rfl
theorem aqi(b):vz (Y aq (b.toNat))=aG ⟨#[b]⟩:=by
 have h:=UInt8.toNat_lt b;rw[aqh,dn ⟨by omega,by omega⟩]
 simp
theorem abp(v):vz v=bO #[]∨∃b,v=Y aq (b.toNat)∧vz v=aG ⟨#[b]⟩:=by
 unfold vz
 grind[UInt8.toNat_ofNat',Nat.mod_eq_of_lt]
theorem aqj(v):BC (U v) (vz v) v:=by
 rcases abp v with h|⟨b,rfl,h⟩
 ·exact ax ⟨h,rfl⟩
 ·rw[h];exact aA ⟨by simp,.byte b⟩
theorem aBC{v x'}(h:BC (U v) (vz v) x'):x'=v:=by
 rcases h with⟨_,h⟩|⟨c,a⟩
 ·grind
 ·rcases abp v with h|⟨b,rfl,h⟩
  ·grind
  ·rw[h] at a;cases a;rfl
theorem abq(w):iw w (tF w) w:=by
 refine⟨rfl,rfl,rfl,rfl,by simp[tF],aW _,λb o j h g=>?_⟩
 simp only[tF,pS,g,ey,ec] at h;subst h;rw[g];cases j<;>first|exact⟨rfl,by simp⟩|skip
 rename_i c e f;refine⟨c,rfl,by simp,λi x k d a=>?_,aA ⟨c,rfl,by simp⟩⟩
 simp only[pS,a,ey,ec] at d;subst d;show BC c[i]? _ _
 grind[aqj]
theorem aBB{o o'}(h:BO (U o) (NT o) o'):o'=o:=by
 cases o<;>first|exact(rY h.1).symm|skip
 rename_i c e f;obtain⟨d,rfl,j,b,-⟩:=h;congr 1;refine Array.ext (by grind) λi g k=>?_
 have:=b i (vz c[i]) d[i] (by grind) (iq g)
 grind[cell0,Array.getElem?_eq_getElem,aBC]
theorem aBA{w a w'}(h:iw w a w'){b}(j:b<w.heap.size)(f:a.heap[b]? =(tF w).heap[b]?):w'.heap[b]? =w.heap[b]? :=by
 have g:w.heap[b]? =w.heap[b]:=by grind
 have c:a.heap[b]? =(NT w.heap[b]):=by grind[tF]
 obtain⟨i,e,d⟩:=h.right c
 grind[aBB]
theorem amL(xs):(xs.map λb=> [b]).mergeSort (λx y=>cq (x<=y))=(ki xs).map λb=> [b]:=by
 unfold ki;rw[List.map_mergeSort];intro a _ b _;rw[Al];simp only[fI];constructor
 ·intro h c
  grind[List.cons_lt_cons_iff,UInt8.not_lt]
 ·intro h;exact UInt8.not_lt.1 λd=>h (GF.2 (ax d))
theorem Zu:XR:=by
 intro B v d w ho a hx;have D:∀{K A:ay},BK (zK.rk 197) K A->K=bO #[]->A=bO #[]:=λh e=>h.1.symm.trans e;have t:∀v:ay,CH v=Z->Fq #[v].toList #[v].toList (zK.ps 197):=λv h=>⟨⟨rfl,h⟩,trivial⟩;have o:∀{f u:av},iw w f u->f.os=w.os->f.tape=w.tape->f.output=w.output->(∀b,b<B->f.heap[b]? =(tF w).heap[b]?)->bC B w u:=λ{f u} h G e2 T e4=>
  ⟨h.os.symm.trans G,h.tape.symm.trans e2,h.output.symm.trans T,h.EZ,λb q=>aBA h (cF q a) (e4 b q)⟩
 rcases ho.2 with⟨rfl,M⟩|⟨g,x,p,rfl,j,hg,R,P,h3,O⟩
 ·refine(ahN Zo Zl (g:=197) rfl (t _ rfl) (abq w) (R:=λv f=>v=bO #[]∧f=tF w) ((Any.slices_Sort_string_none Zn V 0 (tF w)).mono ?_)).mono ?_
  ·grind
  ·rintro e u ⟨v,A,f,rfl,⟨R,rfl⟩,hk,z⟩;refine⟨by grind,⟨by simp[ki],ax ⟨rfl,M⟩⟩,o z rfl rfl rfl λb q=>rfl⟩
 ·have Q0:g<w:=by grind
  have s:(tF w).heap[g]? =U (aF (p.map vz) 5 (0,0)):=by grind[tF,NT]
  have r:(d.map λb=> [b]).length=d.length:=by simp
  have S:Holds encStr (tF w) g 0 (d.map λb=> [b]).toArray:=by
   refine holds_of_block s ?_;rw[r];have:(p.map vz).toList.take d.length=(p.toList.take d.length).map vz:=by simp
   rw[Nat.mul_one] at O;rw[this,O,En,En];refine JX λb _=>?_;rw[ac8,ac8,aqi]
  have L:=Any.slices_Sort_string Zn g 0 x (d.map λb=> [b]) (tF w) S (by grind) (by grind)
  rw[r,amL] at L;refine(ahN Zo Zl (g:=197) rfl (t _ rfl) (abq w) (R:=λv f=>v=bO #[]∧∃n os,f=grow (putRow encStr (Sort.ahead (tF w) n) g 0 ((ki d).map λb=> [b]).toArray) os) (L.mono ?_)).mono ?_
  ·grind
  ·rintro e u ⟨v,A,f,rfl,⟨X,n,os,Q1⟩,hk,z⟩;have J:((ki d).map λb=> [b]).length=(d.map λb=> [b]).length:=by simp[ki]
   have k:=ownsRow_sorted (os:=os) (n:=n) J j s (by grind) P (by grind)
   have c:=grownBy_sorted (w:=tF w) (g:=g) (n:=n) (os:=os) (d:=((ki d).map λb=> [b]).toArray);rw[<-Q1] at k c;refine⟨by grind,⟨by grind,aA ?_⟩,?_⟩
   ·rcases k.2 with⟨e,_⟩|⟨g',Q,m,e,_,I,-,-,q3,F⟩
    ·cases e
    ·cases e;obtain⟨o',C,N,rfl,hs,H,-⟩:=z.right I;refine⟨g,x,N,rfl,j,C,R,P,by grind,?_⟩
     rw[Nat.mul_one] at F⊢;rw[r] at F;refine List.ext_getElem? λi=>?_;by_cases hi:i<d.length
     ·have E:i<(ki d).length:=by grind
      have W:i<m.size:=by grind
      have G:m[i]? =U (aG ⟨#[(ki d)[i]]⟩):=by
       have:=congrArg (λl:List ay=>l[i]?) F
       grind
      rw[List.getElem?_take_of_lt hi,Array.getElem?_toList,iq (by omega),List.getElem?_map,pR E]
      have q:=(H i _ _ G (iq (by omega))).r
      generalize N[i]=y at q;cases q;rfl
     grind
   ·refine o z (by rw[c.os];rfl) (by rw[c.tape];rfl) (by rw[c.output];rfl) λb q=>c.block b (by grind) (by grind)
end
section
open Go.RowKit
def kA(L:List s)(p:ByteArray):List UInt8:=lO [] ((jG (qK L p)).map (rX p.size))
def pg(L:List s)(p:ByteArray):List (UInt8×Int):=(ki (kA L p)).map λc=>(c,y (dX L (push p c)))
def BX(L:List s)(p:ByteArray):Nd:=⟨p,pg L p⟩
theorem JE:∀(l a:List UInt8),a.Nodup->(lO a l).Nodup
 | [],a,h=>h
 |c::l,a,h=>by
  unfold lO;split
  ·exact JE l a h
  ·rename_i b;refine JE l _ ?_
   grind
theorem UZ(L)(p)(l:List UInt8):(l.map (vT L p)).map (·.1)=l:=by rw[En];exact List.map_id'' (λ_=>rfl) l
theorem abY{l:List UInt8}(h:l.Nodup):l.length<=256:=by
 have b:l.map (·.toNat) ⊆ lW 256:=λn c=>by
  grind[UInt8.toNat_lt]
 have:=List.Nodup.length_le_of_subset (by grind[UInt8.toNat_inj]) b
 grind
theorem Zt{l}{c}:c∈ki l↔c∈l:=List.mem_mergeSort
theorem adD(b)(h):(gL (b,h)).cells= #[Y aq (b.toNat),Y aq (h/72057594037927936 % 256),Y aq (h/281474976710656 % 256),Y aq (h/1099511627776 % 256),Y aq (h/4294967296 % 256),Y aq (h/16777216 % 256),Y aq (h/65536 % 256),Y aq (h/256 % 256),Y aq (h % 256)]:=rfl
theorem Ti:∀(l:List UInt8),fG (λb:UInt8=>Y aq (b.toNat:Int)) l=l.map λb=>Y aq (b.toNat:Int)
 | []=>rfl
 |b::l=>by show Y aq (b.toNat:Int)::fG (λb:UInt8=>Y aq (b.toNat:Int)) l=_;rw[Ti l];rfl
structure aij(w3:av)(N:Nat)(p:ByteArray)(K:List (UInt8×Int))(j:Nat)(kv:ay)(W:av):Prop where
 box:W.heap[N+1]? =U (aF #[aG p,kv] 184 (0,0))
 row:W.ownsRow w3.heap.size 233 9 kv j (fG gL (K.take j))
 keep:O (λb=>b=N+1) w3 W
set_option maxHeartbeats 4000000 in
theorem ab2 (m) (L) (pfx) (w) (hp:pfx.size<=4096) (hB:cJ w m L) (hL:L.length<=1073741824) (ht:ga w) (hF:∀x∈L,Fit x) (D:∀k∈jG (qK L pfx),pfx.size<k.size∧(rX pfx.size k).toNat<128):
  bE Q 104 #[cj (m),pfx] w λe w'=>∃kv,e=bj (bN #[pfx,kv])∧w'.ownsRow w 233 9 kv (pg L pfx).length (fG gL (pg L pfx))∧bC w w w':=by
 have yS:=hB.lt;obtain⟨C,P⟩:=ex ((w.alloc (aF #[aG ⟨#[]⟩,aD V 0 0] 184)).alloc (aF #[aG pfx,aD V 0 0] 184));have M:bC w w C:=by rw[P];exact((ei _ _).alloc (aW _) _).alloc (by simp) _
 have jK:C.heap.size=w+2:=by rw[P];simp
 have Cd:C.heap[w.heap.size]? =U (aF #[aG ⟨#[]⟩,aD V 0 0] 184 (0,0)):=by grind[Below.heap_alloc,World.alloc_heap_new]
 have nZ:C.heap[w.heap.size+1]? =U (aF #[pfx,aD V 0 0] 184 (0,0)):=by
  grind[World.alloc_heap_new,World.size_alloc]
 have HC:=X (adC m L pfx C hp (hB.of_block (M.block m yS)) hL (ht.below M (aW _)) hF D);have J:=Bi.mk P M jK Cd nZ;clear hB ht hF D P M jK Cd nZ;go_enter alf,ntmps104;go_wp2_with (go_at_call 159;rw[<-J.a];go_must (refine HC.out.mono ?_);rintro e N ⟨m2,rfl,KM,KL,AG⟩;have F:=gD.mk KM KL AG;clear KM KL AG;refine Halt.of ?_)
 unfold Halt;obtain⟨es,xS⟩:=ex ((kA L pfx).map (vT L pfx));have PN:di kO N m2 es:=by rw[xS];exact F.a
 have jX:(es.map (·.1)).Nodup:=by rw[xS,UZ];exact JE _ _ List.nodup_nil
 have hle:es.length<=256:=by grind[List.length_map,abY]
 have nB:es.map (·.1)=kA L pfx:=by grind[UZ]
 have G:=Bi.mk PN jX hle nB xS;clear PN jX hle nB xS HC;go_wp2_with (go_at_call 161;go_must (refine(adG m2 N).mono ?_);rintro e w3 ⟨rfl,Ev⟩;have H3:=X Ev;clear Ev;refine Halt.of ?_)
 unfold Halt;have HS:=X (Zs Zu m2 es w3 (G.a.of_block (by rw[H3.out];exact dr _ _ _ G.a.lt)) G.b G.c N.heap.size (by rw[H3.out];go_simp))
 go_wp2_with (go_at_call 160;go_must (refine HS.out.mono ?_);rintro e w4 ⟨sv,rfl,l,Pz⟩;have W:=cI.mk l Pz;clear l Pz;refine Halt.of ?_)
 unfold Halt;obtain⟨r,H⟩:=ex (ki (kA L pfx));have KO:es.length=r.length:=by rw[H,<-G.d];simp[ki]
 have l:w4.ownsRow w3 5 1 sv r.length (r.map λb=>Y aq (b.toNat:Int)):=by
  have:=W.a;rw[G.d,<-H,KO] at this
  grind
 have aE9:r.length<=256:=by rw[<-KO];exact G.c
 obtain⟨F6,SY,rfl⟩:=gu l;have A:bC N N w4:=by
  have h3:bC N N w3:=by rw[H3.out];exact(ei _ _).alloc (aW _) _
  exact h3.trans ⟨W.b.os,W.b.tape,W.b.output,W.b.size,λb hb=>W.b.block b (by have:=h3.size;omega)⟩
 have aub:=A.size;have adW:=F.c.size;have AJ:w4.heap[w.heap.size+1]? =U (aF #[aG pfx,aD V 0 0] 184 (0,0)):=(A.block _ (by have:=J.c;omega)).trans ((F.c.block _ (by have:=J.c;omega)).trans J.e)
 have PL:w4.heap[w.heap.size]? =U (aF #[aG ⟨#[]⟩,aD V 0 0] 184 (0,0)):=(A.block _ (by have:=J.c;omega)).trans ((F.c.block _ (by have:=J.c;omega)).trans J.d)
 have Hr:=G.a.of_block (A.block _ G.a.lt);have hK:pg L pfx=r.map λc=>(c,y (dX L (push pfx c))):=by rw[H];rfl
 have KN:∀c∈r,look es c=(gV (y (dX L (push pfx c)))):=λc hc=>by rw[G.e,JN,dn (Zt.1 (H▸hc))];rfl
 have a:(pg L pfx).length=r.length:=by grind
 have HB4:=X (J.b.trans ((⟨F.c.os,F.c.tape,F.c.output,F.c.size,λb hb=>F.c.block b (by have:=J.c;omega)⟩:bC w.heap.size C N).trans ⟨A.os,A.tape,A.output,A.size,λb hb=>A.block b (by have:=J.c;omega)⟩))
 have Cb:w3.heap.size=N+1:=by rw[H3.out];simp
 have uN:w+1<m2∧m2<w4∧w.heap.size+1<w3∧w3.heap.size<=w4:=⟨by have:=J.c;have:=F.b;omega,Hr.lt,by have:=J.c;omega,W.b.size⟩
 have Cy:aij w4 w pfx (pg L pfx) 0 (aD V 0 0) w4:=⟨AJ,sd _ _ _ _,O.refl _ _⟩;have HX:=Bh.mk l Hr hK KN a Cy PL uN;clear HS G W H3 F J H KO l A aub adW AJ PL Hr hK KN a Cy uN Cb;go_wp2;go_loopg [18] r.length (λk S5 wr=>∃(j:Nat) (kv:ay),S5=Y aH j∧k+j=r.length∧aij w4 w.heap.size pfx (pg L pfx) j kv wr)
 case atStart=>exact⟨0,_,rfl,by omega,HX.f⟩
 case round=>
  obtain⟨j,kv,rfl,D,n⟩:=hrel;by_cases hj:j<r.length
  ·obtain⟨q,f,rfl⟩:=gu n.row;obtain⟨l,Hr,hK,KN,a,-,PL,uN⟩:=kp HX;have aej:oz 5 1 (λb:UInt8=>Y aq (b.toNat:Int)) wr (aD F6 r.length SY) r:=by unfold oz;rw[Ti];exact dI (ji l (kM _)) λb hb=>n.keep.block b (l.lt b hb).2 (by have:=(l.lt b hb).1;omega)
   obtain⟨g,A4,hv,hg,hY⟩:=aej.cell (λ_=>rfl) hj;simp only[vG] at hv;obtain⟨rfl,-,rfl⟩:=hv;obtain⟨c,hc⟩:=ex (r[j]);have y0:wr.cell? ⟨g,j,V⟩=U (Y aq (c.toNat:Int)):=by have:=hY 0 (Y aq (r[j].toNat:Int)) (by decide) rfl;grind
   have b0:wr.cell? ⟨w.heap.size+1,0,V⟩=U (aG pfx):=K n.box 0;have b1:wr.cell? ⟨w+1,1,V⟩=U (aD q j f):=K n.box 1;have I:=KN c (hc▸rZ hj);have gM:fG gL ((pg L pfx).take (j+1))=fG gL ((pg L pfx).take j)++(gL (c,y (dX L (push pfx c)))).cells.toList:=by
    rw[NF gL (pg L pfx) (by grind)]
    grind
   rw[adD] at gM;unfold gV at I;obtain⟨h,hh⟩:=ex (y (dX L (push pfx c)));rw[<-hh] at I gM;obtain⟨d0,e0⟩:∃d,d=h/72057594037927936 % 256:=⟨_,rfl⟩;obtain⟨d1,e1⟩:∃d,d=h/281474976710656 % 256:=⟨_,rfl⟩;obtain⟨d2,e2⟩:∃d,d=h/1099511627776 % 256:=⟨_,rfl⟩;obtain⟨d3,e3⟩:∃d,d=h/4294967296 % 256:=⟨_,rfl⟩;obtain⟨d4,e4⟩:∃d,d=h/16777216 % 256:=⟨_,rfl⟩;obtain⟨d5,e5⟩:∃d,d=h/65536 % 256:=⟨_,rfl⟩;obtain⟨d6,e6⟩:∃d,d=h/256 % 256:=⟨_,rfl⟩;obtain⟨d7,e7⟩:∃d,d=h % 256:=⟨_,rfl⟩;rw[<-e0,<-e1,<-e2,<-e3,<-e4,<-e5,<-e6,<-e7] at I gM;have Lb:=Hr.of_block (n.keep.block _ uN.2.1 (by omega))
   have uR:(j:Int)<(r.length:Int):=by omega
   have u:=Bi.mk n gM Lb I uN;have awE:=(dc.1 n.box).1;have aEy:=n.keep.size;clear l Hr hK KN a PL aej hY I gM hh e0 e1 e2 e3 e4 e5 e6 e7 Lb n hc uN;go_wp2_with (first
    |(at_lookup;refine MH _ kO rfl _ _ 245 rfl 5 76 Dt wT _ (MC _) m2 es c rfl u.c rfl ?_;rw[u.d];simp only[fO])
    |(at_builtin;go_must (refine app1 rfl rfl YD adR rfl rfl (dI u.a.row λb hb=>dr _ _ _ (u.a.row.lt b hb).2) rfl (by grind) rfl rfl (by omega) (by simp;omega) ?_);intro v7 w7 B wc _ kF;refine Halt.of ?_))
   have E:=(wc.block _ (by simp;omega) (λe=>by have:=(u.a.row.lt _ e.symm).1;have:=u.e;omega)).trans ((dr _ _ _ awE).trans u.a.box)
   have hc7:w7.cell? ⟨w+1,1,V⟩=U (aD q j f):=K E 1;have hf7:w7.frozen? ⟨w+1,1,V⟩=ai:=by simp[wI,E]
   obtain⟨g7,XD,Vp⟩:=ownsRow_succ B;have avp:v7.ownBlock≠U (w.heap.size+1):=λe=>by have:=(B.lt _ e).1;have:=u.e;omega
   have H7:=sV.mk B wc E avp;subst Vp;unfold Halt;go_wp2;go_roundg (gk-1)
   case rel=>
    refine⟨j+1,aD (U ⟨g7,0,V⟩) (j+1) XD,by go_simp,by omega,⟨?_,?_,?_⟩⟩
    ·have:=BA (i:=1) (u:=aD (U ⟨g7,0,V⟩) (j+1) XD) H7.c
     grind
    ·rw[u.b];exact Gg H7.a H7.d _
    ·have D:=u.a.keep;have wc:=H7.b;refine⟨wc.os.trans D.os,wc.tape.trans D.tape,wc.output.trans D.output,by rw[yz];have:=wc.size;simp at this;omega,λb hb hn=>?_⟩
     rw[gy _ _ _ _ hn];exact(wc.block b (by simp;omega) (λe=>by have:=(u.a.row.lt _ e.symm).1;omega)).trans ((dr _ _ _ (by omega)).trans (D.block b hb hn))
   grind
  ·have R:j=r.length:=by omega
   have uQ:gk=0:=by omega
   subst uQ;obtain⟨q,f,rfl⟩:=gu n.row;have b0:wr.cell? ⟨w+1,0,V⟩=U (aG pfx):=K n.box 0;have b1:wr.cell? ⟨w+1,1,V⟩=U (aD q j f):=K n.box 1;have Hl:=(n.keep.block _ (by have:=HX.h;omega) (by omega)).trans HX.g
   have n0:wr.cell? w=U (aG ⟨#[]⟩):=K Hl 0;have n1:wr.cell? ⟨w,1,V⟩=U (aD V 0 0):=K Hl 1;have nf0:wr.frozen? w=ai:=by simp[wI,Hl]
   have nf1:wr.frozen? ⟨w,1,V⟩=ai:=by simp[wI,Hl]
   have u:=gD.mk n R Hl;clear n R Hl hj;go_wp2;have PU:((wr.setCell w (pfx)).setCell ⟨w,1,V⟩ (aD q j f)).heap[w.heap.size]? =U (aF #[pfx,aD q j f] 184 (0,0)):=by have h1:=BA (i:=0) (u:=aG pfx) u.c;have h2:=BA (i:=1) (u:=aD q j f) h1;simpa using h2
   refine xG (results_cell_row rfl _ _ w.heap.size 184 _ (0,0) _ rfl PU YC rfl (by kernel_rfl)) rfl ?_
   obtain⟨n,R,-⟩:=u;obtain⟨-,-,hK,-,a,-,-,uN⟩:=HX;have sk:=n.row;rw[List.take_of_length_le (by grind)] at sk
   refine⟨_,rfl,?_,?_⟩
   ·rw[a,<-R];have kE:∀b,(aD q j f).ownBlock=U b->b≠w:=λb hb e=>by have:=(sk.lt b hb).1;omega
    exact Gg (Gg (ji sk (by omega)) (λe=>kE _ e rfl) _) (λe=>kE _ e rfl) _
   ·refine HB4.out.trans ⟨n.keep.os,n.keep.tape,n.keep.output,by rw[yz,yz];exact n.keep.size,λb hb=>?_⟩
    rw[gy _ _ _ _ (show b≠w.heap.size by omega),gy _ _ _ _ (show b≠w.heap.size by omega)]
    exact n.keep.block b (by omega) (by omega)
theorem acy{t s:Type}(f:t->s):∀(l:List t) (j:Nat),(l.eraseIdx j).map f=(l.map f).eraseIdx j
 | [],_=>rfl
 |_::_,0=>rfl
 |x::l,j+1=>by simp[acy f l j]
section
variable {κ:Type} [DecidableEq κ]
def del(es:List (κ×ay))(k:κ):List (κ×ay):=es.filter λp=> ! cq (p.1=k)
theorem agk(k:κ):∀{es:List (κ×ay)},(es.map (·.1)).Nodup->match es.findIdx? (λp=>p.1=k) with
  |some j=>es.eraseIdx j=del es k∧j<es.length
  |none=>del es k=es
 | [],_=>rfl
 |(a,v)::es,h=>by
  simp only[fS,Ep] at h;rw[UW];by_cases e:a=k
  ·subst e;simp only[decide_true,iM];refine⟨?_,by simp⟩
   unfold del;rw[List.filter_cons];simp only[decide_true,Bool.not_true,nT,uJ]
   grind[List.filter_eq_self,Bool.not_eq_true',decide_eq_false_iff_not,List.mem_map_of_mem]
  ·simp only[e,OM,nT,uJ];have c:=agk k h.2;have d:del ((a,v)::es) k=(a,v)::del es k:=by
    grind[del]
   grind
theorem acF(k c:κ):∀(es:List (κ×ay)),look (del es k) c=if c=k then V else look es c
 | []=>by simp[del,look]
 |(a,v)::es=>by
  have f:=acF k c es;by_cases e:a=k
  ·have d:del ((a,v)::es) k=del es k:=by grind[del]
   rw[d,f];by_cases hc:c=k
   ·grind
   ·rw[if_neg hc,if_neg hc];unfold look;rw[if_neg (λh=>hc (h.symm.trans e))];cases es<;>rfl
  ·have d:del ((a,v)::es) k=(a,v)::del es k:=by grind[del]
   rw[d];show(if a=c then U v else look (del es k) c)=if c=k then V else(if a=c then U v else look es c)
   grind
theorem apc{P}{w}{T s z ty}(K:KE κ)(B:P.underlying T=U (.map s z))(x:P.underlying s=U K.desc){m}{es}(h:di K w m es)(k)(A):
  ∃o,(Ql #[T,A] ty #[cj (m),K.enc k]).run P w=aV (bO #[]) (w.putObj m o)∧di K (w.putObj m o) m (del es k):=by
 obtain⟨d,b,n,c⟩:=h;have g:=(dc.1 n).1;have E:(qc m).run P w=aV (iP d b) w:=by simp[qc,nE,n]
 have r:∀o,(setObj m o).run P w=aV () (w.putObj m o):=λo=>by simp[setObj,nE,n,World.putObj]
 have D:=run_findKey (w:=w) K x c k;obtain⟨_,v⟩:=P7 K k d.toList es 0 c.read;have q:=agk k c.nodup;have y:d.size=es.length:=by
  have:=congrArg List.length c.read
  grind
 simp only[Ql,List.getElem?_toArray,List.getElem?_cons_zero,List.getElem?_cons_succ,gK,run_underlying B,lH,E,K.flat _ _ _ _ _ _ x,D];cases t:es.findIdx? (λp=>p.1=k) with
 |none=>
  rw[t] at v q;refine⟨iP d b,by simp[r,lH],d,b,Er g,?_⟩
  grind
 |some j=>
  rw[t] at v q;cases F:look es k with
  |none=>grind
  |some u=>
   obtain⟨i,C⟩:=q;have f:(d.eraseIdxIfInBounds j).toList=d.toList.eraseIdx j:=by unfold Array.eraseIdxIfInBounds;rw[xA (by omega),Array.toList_eraseIdx]
   refine⟨iP (d.eraseIdxIfInBounds j) b,by simp[r,lH],_,b,Er g,?_⟩
   refine⟨?_,?_,?_,?_⟩
   ·rw[f,<-i];have:=congrArg (λl:List (ay×ay)=>l.eraseIdx j) c.read
    grind[acy]
   ·unfold del;exact c.nodup.sublist ((List.filter_sublist).map _)
   ·rw[f];exact c.Jw.sublist ((List.eraseIdx_sublist _ _).map _)
   ·rw[f];exact λe h=>c.below e (List.mem_of_mem_eraseIdx h)
theorem aiX{P}(w){ops}{rest}{o}{a}{Q}(K:KE κ)(t:o.guard=V)(m x)(T h)(f:o.op=Op.call {callee:=.builtin .delete,args:= #[m,x],argTypes:= #[T,h]})(i j)(s:P.underlying T=U (.map i j))(r:P.underlying i=U K.desc)(b)(es)(k)
  (p:a.eval m=.map (b)) (q:di K w b es) (l:a.eval x=K.enc k) (n:∀d,di K d b (del es k)->O (λx=>x=b) w d->d.heap.size=w->wpList P ops Q rest (a.put o.dst (.tuple #[])) d):wpList P ops Q (o::rest) a w:=by
 refine Kh t λv e=>?_;obtain⟨u,c,g⟩:=apc (P:=P) (ty:=o.type) K s r q k h;unfold Oper.wp;simp only[cT,f,resolve,invoke,builtin,gK,List.map_toArray,fS,sg,p,l,c,lH,uK];exact e _ _ (n _ g (O.putObj _ _ _ rfl) (by simp))
end
theorem agl(h m i l p k g j o c a b3 b f n e)(W):(rf 10000 76 (bN #[Y aq h,Y aq m,Y aq i,Y aq l,Y aq p,Y aq k,Y aq g,Y aq j]) (bN #[Y aq o,Y aq c,Y aq a,Y aq b3,Y aq b,Y aq f,Y aq n,Y aq e])).run Q W=
  aV (h==o&&(m==c&&(i==a&&(l==b3&&(p==b&&(k==f&&(g==n&&j==e))))))) W:=by
 unfold rf;simp[run_underlying MX,List.range',part,(λd x y=>run_equalIn_int (P:=Q) W d 5 aq aq x y wT),YG]
 grind
def sO(h:Int):Prop:=0<=h∧h<18446744073709551616
theorem agx{h k}(a:sO h)(b:sO k):(h/72057594037927936 % 256==k/72057594037927936 % 256&&(h/281474976710656 % 256==k/281474976710656 % 256&&(h/1099511627776 % 256==k/1099511627776 % 256&&(h/4294967296 % 256==k/4294967296 % 256&&(h/16777216 % 256==k/16777216 % 256&&(h/65536 % 256==k/65536 % 256&&(h/256 % 256==k/256 % 256&&h % 256==k % 256)))))))=cq (h=k):=by
 obtain⟨f,e⟩:=a;obtain⟨d,c⟩:=b
 grind
theorem PC(l):sO (y l):=by
 have e:∀(h c:Int),sO (Jg h c):=λh c=>by
  grind[Jg,sO,IntKind.wrap_u64]
 have f:∀(l:List UInt8) (h:Int),sO h->sO (Cu h l):=by
  intro l;induction l with
  |nil=>intro h b;exact b
  |cons c l d=>intro h b;exact d _ (e _ _)
 unfold y;have:∀(l:List s) (h:Int),sO h->sO (l.foldl (λh x=>PD h (BY x)) h):=by
  intro l;induction l with
  |nil=>grind
  |cons x l d=>intro h b;exact d _ (f _ _ b)
 exact this l _ ⟨by decide,by decide⟩
def xJ(L:List s)(p:ByteArray):Prop:=p.size<=4096∧∀k∈jG (qK L p),p.size<k.size∧(rX p.size k).toNat<128
def cR(L:List s)(p:ByteArray)(k:UInt8×Int):List s:=if k.1∈kA L p∧y (dX L (push p k.1))≠k.2∧k.1=0 then dX L (push p k.1) else []
def cW(L:List s)(p:ByteArray)(k:UInt8×Int):List ByteArray:=if k.1∉kA L p∨(y (dX L (push p k.1))≠k.2∧k.1=0) then [push p k.1] else []
def cN(L:List s)(p:ByteArray)(k:UInt8×Int):List Nd:=if k.1∈kA L p∧y (dX L (push p k.1))≠k.2∧k.1≠0 then [BX L (push p k.1)] else []
def Ga(L:List s)(n:Nd):List UInt8:=ki ((kA L n.pfx).filter λc=> !(n.kids.map (·.1)).contains c)
def jx(L:List s)(m:dP)(p:ByteArray)(ks:List (UInt8×Int)):dP:={m with bh:=m.bh++ks.flatMap (cR L p),cp:=m.cp++ks.flatMap (cW L p),nodes:=m.nodes++ks.flatMap (cN L p)}
def uX(L:List s)(m:dP)(p:ByteArray)(cs:List UInt8):dP:={m with bh:=m.bh++cs.flatMap λc=>dX L (push p c)}
def nH(L:List s)(m:dP)(n:Nd):dP:=uX L (jx L m n.pfx n.kids) n.pfx (Ga L n)
theorem acr(L)(m)(p):jx L m p []=m:=by simp[jx]
theorem ar4(L)(m)(p)(a)(k):jx L m p (a++[k])={jx L m p a with bh:=(jx L m p a).bh++cR L p k,cp:=(jx L m p a).cp++cW L p k,nodes:=(jx L m p a).nodes++cN L p k}:=by simp[jx]
theorem axP(L)(m)(p):uX L m p []=m:=by simp[uX]
theorem af9(L)(m)(p)(cs)(c):uX L m p (cs++[c])={uX L m p cs with bh:=(uX L m p cs).bh++dX L (push p c)}:=by simp[uX]
def uY(es:List (UInt8×ay))(ks:List UInt8):List (UInt8×ay):=ks.foldl del es
theorem ayS(es)(a)(k):uY es (a++[k])=del (uY es a) k:=by simp[uY]
theorem acE(c:UInt8):∀(b:List UInt8) (es:List (UInt8×ay)),look (uY es b) c=if c∈b then V else look es c
 | [],es=>rfl
 |k::b,es=>by
  show look (uY (del es k) b) c=_;rw[acE c b,acF]
  grind
theorem agC:∀(b:List UInt8) (es:List (UInt8×ay)),(uY es b).map (·.1)=(es.map (·.1)).filter λc=> !b.contains c
 | [],es=>(GB.2 λ_ _=>rfl).symm
 |k::b,es=>by
  show(uY (del es k) b).map (·.1)=_;rw[agC b];have:(del es k).map (·.1)=(es.map (·.1)).filter λc=> ! cq (c=k):=by unfold del;rw[List.filter_map];rfl
  rw[this,UL]
  grind
section
variable {B p:Nat} {m:dP} {vr vw vn vd:ay} {xs:List ay} {W W1 W2:av} {D D' Yc:Nat->Prop}
theorem iY.same(h:iY W B p m vr vw vn vd xs)(c:∀b e,eJ W b e->W1.heap[b]? =W.heap[b]?)(f:W.heap.size<=W1):iY W1 B p m vr vw vn vd xs:=
 ⟨(c p _ h.qw).trans h.box,h.lt,dI h.bh λb a=>c b _ (fH h.bh a),dI h.cp λb a=>c b _ (fH h.cp a),
  h.nodes.keep (λb a=>c b _ (fH h.nodes.row a)) (λx d b a=>c b _ (Es h.nodes.ins x d b a)) f,dI h.roots λb a=>c b _ (fH h.roots a)⟩
theorem acz{b e}{es}(h:di kO W b es)(k:eJ W b e):False:=by
 obtain⟨d,c,h,_⟩:=h;obtain⟨a,k⟩:=k
 grind
theorem iD.amr(h:iD W B p m D){a}{es}(d:di kO W a es)(k:O (λb=>b=a) W W1):iD W1 B p m D:=by obtain⟨vr,vw,vn,vd,xs,h,e⟩:=h;refine⟨vr,vw,vn,vd,xs,h.same (λb t c=>k.block b (dc.1 c.choose_spec).1 λe=>acz d (e▸c)) k.size,e⟩
theorem iD.elem(h:iD W B p m D):∀b,D b->∃e,eJ W b e∧e≠107:=by
 obtain⟨vr,vw,vn,vd,xs,h,rfl⟩:=h;intro b a;rcases h.del b a with h|h|h|h
 all_goals grind
structure My(B p m2:Nat)(m:dP)(D:Nat->Prop)(L:List s)(n:Nd)(es:List (UInt8×ay))(w1:av)(j:Nat)(D':Nat->Prop)(W:av):Prop where
 Lm:iD W B p (jx L m n.pfx (n.kids.take j)) D'
 map:di kO W m2 (uY es ((n.kids.take j).map (·.1)))
 keep:O (λb=>D b∨b=m2) w1 W
 own:∀b,D' b->D b∨w1.heap.size<=b
theorem My.next{l}{L}{n}{es}{w1 s u k o}{j}(c:My B p l m D L n es w1 j D' s)(z)(g:bC s s u)(i:O (λb=>b=l) u k)
  (v:di kO k l (del (uY es ((n.kids.take j).map (·.1))) n.kids[j].1)) (d:bT D' k Yc o) (r:iD k B p (jx L m n.pfx (n.kids.take j)) D') (A:iD o B p (jx L m n.pfx (n.kids.take (j+1))) Yc):My B p l m D L n es w1 (j+1) Yc o:=by
 have y:=c.keep.size;have w:=g.size;have x:=i.size;refine⟨A,?_,⟨?_,?_,?_,?_,λb q t=>?_⟩,λb f=>?_⟩
 ·rw[yL,pR z,El,uI,fS,sg,ayS];refine v.of_block (d.1.block _ v.lt λf=>?_);obtain⟨e,C,_⟩:=r.elem _ f
  grind[acz]
 ·exact d.1.os.trans (i.os.trans (g.os.trans c.keep.os))
 ·exact d.1.tape.trans (i.tape.trans (g.tape.trans c.keep.tape))
 ·exact d.1.output.trans (i.output.trans (g.output.trans c.keep.output))
 ·have:=d.1.size;omega
 ·rw[d.1.block b (by omega) (λf=>(c.own b f).elim (λh=>t (ax h)) (by omega)),i.block b (by omega) (λe=>t (aA e)),g.block b (by omega)]
  exact c.keep.block b q t
 ·rcases d.2 b f with h|h
  ·exact c.own b h
  grind
structure CrI(B p:Nat)(m:dP)(D:Nat->Prop)(L:List s)(pfx:ByteArray)(cs:List UInt8)(w1:av)(j:Nat)(D':Nat->Prop)(W:av):Prop where
 Lm:iD W B p (uX L m pfx (cs.take j)) D'
 keep:bT D w1 D' W
end
theorem ag8(c)(W:av):(convert 79 9 (aD (W) 1 1)).run Q (W.alloc (aF #[Y aq (c.toNat)] 5))=aV (aG ⟨#[c]⟩) (W.alloc (aF #[Y aq (c.toNat)] 5)):=by
 have:=ag7 (W.alloc (aF #[Y aq (c.toNat:Int)] 5)) W 0 ⟨#[c]⟩ (λj b=>by
  have:j=0:=by grind
  subst this;simp[bl])
 exact this
theorem Ud(L)(m)(n:Nd){j}(a):jx L m n.pfx (n.kids.take (j+1))={jx L m n.pfx (n.kids.take j) with bh:=(jx L m n.pfx (n.kids.take j)).bh++cR L n.pfx n.kids[j],cp:=(jx L m n.pfx (n.kids.take j)).cp++cW L n.pfx n.kids[j],nodes:=(jx L m n.pfx (n.kids.take j)).nodes++cN L n.pfx n.kids[j]}:=by
 grind[List.take_add_one,List.getElem?_eq_getElem,Option.toList_some,ar4]
theorem Lp{t s:Type}(f:t->List s)(l:List t)(j):((l.take j).flatMap f).length<=(l.flatMap f).length:=by
 grind[List.take_append_drop,List.length_append]
theorem Ue(L)(m)(n)(j):(jx L m n.pfx (n.kids.take j)).bh.length<=(nH L m n).bh.length∧(jx L m n.pfx (n.kids.take j)).cp.length<=(nH L m n).cp.length∧(jx L m n.pfx (n.kids.take j)).nodes.length<=(nH L m n).nodes.length:=by
 have c:=Lp (cR L n.pfx) n.kids j;have b:=Lp (cW L n.pfx) n.kids j;have a:=Lp (cN L n.pfx) n.kids j
 grind[nH,uX,jx,List.length_append]
theorem axO(L)(m)(n)(j):(uX L (jx L m n.pfx n.kids) n.pfx ((Ga L n).take j)).bh.length<=(nH L m n).bh.length:=by
 have a:=Lp (λc=>dX L (push n.pfx c)) (Ga L n) j
 grind[nH,uX,List.length_append]
theorem aA5{b d}{f}{g h c}(a:O (λx=>x=f) (((b.alloc (aF g 233)).alloc (aF h 5)).alloc (aF c 76)) d)(i:f<b.heap.size):
  ∃e,bC b.heap.size b e∧O (λx=>x=f) e d∧d.heap[b.heap.size]? =U (aF g 233 (0,0))∧d.heap[b.heap.size+1+1]? =U (aF c 76 (0,0))∧e.heap.size=b+3:=by
 refine⟨_,(((ei _ _).alloc (aW _) _).alloc (by simp) _).alloc (by simp;omega) _,a,?_,?_,by simp⟩
 ·refine(a.block _ (by simp;omega) (by omega)).trans ?_
  simp only[Ig];grind
 ·refine(a.block _ (by simp) (by omega)).trans ?_
  simp only[Ig];grind
theorem Ot{W W'}{v v'}(c:W.grownBy W' v.ownBlock)(f:v'.ownBlock=v.ownBlock∨v'.ownBlock=W.heap.size):bT (cZ v) W (cZ v') W':=by
 refine⟨⟨c.os,c.tape,c.output,c.size,λb d g=>c.block b d λe=>g e.symm⟩,λb d=>?_⟩;rcases f with h|h
 ·left;show v.ownBlock=U b;rw[<-h];exact d
 ·right;have:v'.ownBlock=b:=d
  grind
theorem aaH{a}(f:a->ay)(l)(x):fG f (l++[x])=fG f l++(f x).cells.toList:=by
 grind[fG]
theorem Nj(L)(p)(c)(h):(c∉kA L p->cR L p (c,h)=[]∧cW L p (c,h)=[push p c]∧cN L p (c,h)=[])∧
  (c∈kA L p->y (dX L (push p c))=h->cR L p (c,h)=[]∧cW L p (c,h)=[]∧cN L p (c,h)=[])∧
  (c∈kA L p->y (dX L (push p c))≠h->c=0->cR L p (c,h)=dX L (push p c)∧cW L p (c,h)=[push p c]∧cN L p (c,h)=[])∧
  (c∈kA L p->y (dX L (push p c))≠h->c≠0->cR L p (c,h)=[]∧cW L p (c,h)=[]∧cN L p (c,h)=[BX L (push p c)]):=by
 refine⟨λd=>?_,λd b=>?_,λd b a=>?_,λd b a=>?_⟩
 ·grind[cR,cW,cN]
 ·grind[cR,cW,cN]
 ·refine⟨dn ⟨d,b,a⟩,dn (aA ⟨b,a⟩),if_neg λh=>h.2.2 a⟩
 ·refine⟨if_neg λh=>a h.2.2,if_neg ?_,dn ⟨d,b,a⟩⟩
  grind
theorem iD.msg{W}{B p}{m m'}{D}(h:iD W B p m D)(e:m=m'):iD W B p m' D:=e▸h
end
end Go.Proofs.YtpdbmpbmepkikaaGreatDoor
