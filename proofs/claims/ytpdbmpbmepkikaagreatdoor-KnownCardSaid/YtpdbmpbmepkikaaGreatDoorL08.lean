/- Laws. -/
import Derived.Test.YtpdbmpbmepkikaaGreatDoorL03
import Derived.Test.YtpdbmpbmepkikaaGreatDoorL07
set_option maxRecDepth 100000
set_option maxHeartbeats 400000
set_option linter.all false
open Go.Proofs.Tryz
open And renaming intro->aM
open Bool renaming true->Z,false->ai
open Decidable renaming decide->bP
open Go renaming runtimePanic->C0,store->Fv,Frame->aZ,undef->ak,World->ax,Value->az,Program->bZ,Calls->bz,execOp->cS,stepG->cj,Sem->cz,Oper->dG,TypeId->dV,Func->dY,yielded->dZ,Addr->eF,Item->eY,FuncId->fC,binOp->gF,callFunc->iJ,lone->iZ,Operand->ja,results->kD,zeroValue->kQ,doReturn->oE,underlying->pB,getObj->rB,boundsPanic->uC,maxLen->vQ
open Go.Act renaming put->dj
open Go.Builtin renaming delete_->UQ,len_->zK
open Go.CallKind renaming normal->eo
open Go.Code renaming region->dS,seq->eG
open Go.Deferred renaming ofValue->PG
open Go.Departure renaming mixedOrders->nM
open Go.Ending renaming returned->bj
open Go.Fn renaming func->ei
open Go.Frame renaming oper?->Pw,enter->eP,pos->pq,finish->uB
open Go.FrameMode renaming returning->fI
open Go.GStep renaming go->bV,ended->fy
open Go.Instr renaming sureAddr->FB,loadAt->FC,extract->ID,index->PC,storeAt->UO,indexAt->yo
open Go.IntKind renaming i64->aG,u8->aq,u64->cP
open Go.Item renaming inRegion->aT,code->bF,inBlock->mD
open Go.Lib renaming hasPrefix->Iz,TabIs->zI
open Go.Mode renaming plain->lZ,atomic->qE
open Go.Next renaming value->gq,enter->jO
open Go.Obj renaming cells->aH,map->iY,deferred->uA
open Go.Op renaming bytesLess->Ls,maxDepth->Pu,stringOp->Pz,assign->pA,equalIn->s8
open Go.Operand renaming tmp->cy,const->gO
open Go.Outcome renaming stuck->kE
open Go.Proofs.Tryz renaming prog->aD,f41->oG
open Go.Region renaming binds->PD,departs->amq,wanted->eW,schedule->mS
open Go.Region.linearise renaming go->yp
open Go.Result renaming ok->aW,halt->dM,andThen->l6
open Go.RowKit renaming Below->aY,Hid->dx,wrap64->jM
open Go.Sem renaming run->oF
open Go.Shelf renaming Ren->CW
open Go.Stepped renaming next->fR
open Go.Value renaming oneCell'->A5,cells->A8,int->Y,slice->aC,string->aE,pointer->aF,agg->bO,tuple->bQ,map->bW,bool->cx,func->dF,nilIface->nO
open Go.World renaming farLoad->abT,setCell->jL,cell?->pz,alloc->qF,frozen?->yu
open Go.stepG renaming oper->Fy,apply->xA,exec->xz
open List renaming range->mR
open Option renaming isNone->PK,some->U,none->V
open Or renaming inr->aB,inl->ay
open Pure renaming pure->bI
open UInt8 renaming ofNat->kT
namespace Go.Proofs.YtpdbmpbmepkikaaGreatDoor
def Y7:=@map_eq_pure_bind
def aIw:=@UInt8.lt_iff_toNat_lt
def ayT:=@UInt8.toNat_inj
def zb:=@bne_iff_ne
def Y6:=@Go.Sem.runT_eq
def B8:=@Go.GStep.bare_after
def aib:=@Array.mem_toList_iff
def SN:=@Nat.mul_one
def aia:=@Function.comp_apply
def Y4:=@List.nodup_nil
def GP:=@List.take_of_length_le
def Y3:=@List.filter_sublist
def ayS:=@List.take_append_drop
def Nv:=@List.take_zero
section
open Go
def ry:az->Bool|Y _ _=>Z|cx _=>Z|bQ vs=>vs.isEmpty|_=>ai
def Fi:az->Bool|aF _=>Z|aC _ _ _=>Z|bQ vs=>vs.all ry|_=>ai
inductive BR:az->az->Prop|none(x):BR (bQ #[]) x|byte(c:UInt8):BR (aE ⟨#[c]⟩)<|Y aq (c.toNat:Int)|int(k n):BR (Y k n)<|Y k n|bool(b):BR (cx b)<|cx b
def BK:Nat->az->az->Prop|0,a,b=>a=b/\ry b=Z|1,a,b=>BR a b|2,a,b=>a=b/\Fi b=Z|_,_,_=>False
theorem BR.ofE{a}(h:ry a=Z):BR a a:=by
 cases a<;>first|cases h|skip
 .exact .bool _
 .exact .int _ _
 .have:=by simpa[ry]using h
  rw[this];exact .none _
def En(a b:Nat):Bool:=a==b&&bP (a<3)||a==0&&b==1
theorem BK.le{a b}{x y}(h:BK a x y)(c:En a b=Z):BK b x y:=by
 simp only[En,jT,cG,lQ]at c;rcases c with⟨rfl,_⟩|⟨rfl,rfl⟩;.grind
 .obtain⟨rfl,d⟩:=h;exact BR.ofE d
theorem BK.undef{k}(b:k<3):BK k ak ak:=by match k,b with|0,_=>exact⟨rfl,rfl⟩|1,_=>exact .none _|2,_=>exact⟨rfl,by show#[].all ry=Z;simp⟩
theorem BK.data{k}{x y}(h:BK k x y)(a:k<=1):BR x y:=by match k,a,h with|0,_,h=>exact BK.le (b:=1) h rfl|1,_,h=>exact h
def BC(x0:Option az)(x x':az):Prop:=x=bQ #[]/\x0=U x'\/x≠bQ #[]/\BR x x'
theorem BC.r{x0}{x x'}(h:BC x0 x x'):BR x x':=by
 rcases h with⟨rfl,_⟩|⟨_,h⟩;.exact .none _
 grind
def cell0:Option Obj->Nat->Option az|some<|aH c _ _,i=>c[i]?|_,_=>V
def BO(E:Option Obj):Obj->Obj->Prop|aH c e f,o'=>∃c',o'=aH c' e f/\c.size=c'.size/\(∀i x x',c[i]?=U x->c'[i]?=U x'->BC (cell0 E i) x x')/\(E=V\/∃c0,E=U (aH c0 e f)/\c0.size=c.size)|uA V,o'=>E=U o'/\∀c e f,o'≠aH c e f|_,_=>False
structure iL(w0 u w:ax):Prop where
 os:u.os=w.os
 tape:u.tape=w.tape
 drawn:u.drawn=w.drawn
 output:u.output=w.output
 size:u.heap.size=w.heap.size
 Il:w0.heap.size<=w.heap.size
 obj:∀(b:Nat)(o o':Obj),u.heap[b]?=U o->w.heap[b]?=U o'->BO w0.heap[b]? o o'
section
variable {w0 u w:ax}
theorem iL.right(h:iL w0 u w){b:Nat}{o}(e:u.heap[b]?=U o):∃d,w.heap[b]?=U d/\BO w0.heap[b]? o d:=by have c:=(dm.1 e).1;rw[h.size]at c;exact⟨_,gW c,h.obj b _ _ e<|gW c⟩
theorem iL.cell(h:iL w0 u w){a}{x}(e:u.cell? a=U x):∃f,w.cell? a=U f/\BC (cell0 w0.heap[a.block]? a.off) x f/\w.frozen? a=u.frozen? a:=by unfold pz at e;cases d:u.heap[a.block]? with|none=>grind|some o=>
  rw[d]at e;cases o<;>try grind
  obtain⟨m,k,g,rfl,i,j,l⟩:=h.right d;simp only at e;split at e;.grind
  .have c:=i▸(dm.1 e).1;refine⟨g[a.off],?_,j _ _ _ e<|gW c,?_⟩;.unfold pz;grind
   .unfold yu;grind
theorem iL.sV(h:iL w0 u w)(P)(a)(b):∃m,u.farLoad P a b=.error m/\soft m=Z:=by unfold abT World.noCell;cases d:u.heap[a.block]? with|none=>exact⟨_,rfl,rfl⟩|some o=>obtain⟨f,e,c⟩:=h.right d;cases o<;>first|exact⟨_,rfl,rfl⟩|exact c.elim
theorem iL.aDI(h:iL w0 u w)(P)(a)(x)(b):∃m,u.farStore P a x b=.error m/\soft m=Z:=by unfold World.farStore World.noCell;cases d:u.heap[a.block]? with|none=>exact⟨_,rfl,rfl⟩|some o=>obtain⟨f,e,c⟩:=h.right d;cases o<;>first|exact⟨_,rfl,rfl⟩|exact c.elim
theorem iL.set(h:iL w0 u w){a:eF}{x x':az}(s:x≠bQ #[])(t:BR x x')(hs:a.spot=V):iL w0 (u.setCell a x)<|w.setCell a x':=by
 refine⟨h.os,h.tape,h.drawn,h.output,by simpa[jL]using h.size,by simpa[jL]using h.Il,λb o m e f=>?_⟩;by_cases n:a.block=b;.subst n;simp only[jL,zf,gL]at e f;cases q:u.heap[a.block]? with|none=>grind|some p=>
   obtain⟨A,r,j⟩:=h.right q;rw[q,ee]at e;rw[r,ee]at f;cases p<;>try exact j.elim
   .obtain⟨C,rfl,k,l,B⟩:=j;simp only[hs,Option.isSome_none,ow,ox,dX]at e f;subst e f;refine⟨_,rfl,by grind,λi y D g d=>?_,by grind⟩;rw[YU]at g d;by_cases z:a.off=i
    .rw[cJ z]at g d;split at g
     .split at d;.cases g;cases d;exact aB ⟨s,t⟩
      grind
     grind
    grind
   .rename_i v;cases v with|some _=>exact j.elim|none=>
     cases e;obtain⟨k,l⟩:=j;have:m=A:=by grind
     subst this;exact⟨k,l⟩
 .simp only[jL,zf,if_neg n]at e f;exact h.obj b o m e f
theorem iL.push(h:iL w0 u w){t}{x x'}(j:x≠bQ #[])(k:BR x x'):iL w0 {u with heap:=u.heap.push<|aH #[x] t} {w with heap:=w.heap.push<|aH #[x'] t}:=by
 refine⟨h.os,h.tape,h.drawn,h.output,by simp[h.size],by simp;exact Nat.le_succ_of_le h.Il,λb o l c d=>?_⟩;simp only[YR]at c d;by_cases f:b=w.heap.size;.rw[cJ<|by rw[h.size];grind]at c;rw[cJ f]at d;cases c;cases d;refine⟨_,rfl,rfl,λi y m g e=>?_,ay<|x3<|by rw[f];exact h.Il⟩;match i with|0=>cases g;cases e;exact aB ⟨j,k⟩|n+1=>grind
 .rw[if_neg<|by rw[h.size];grind]at c;rw[if_neg f]at d;exact h.obj b o l c d
theorem iL.draw(h:iL w0 u w):iL w0 {u with drawn:=u.drawn+1} {w with drawn:=w.drawn+1}:=⟨h.os,h.tape,congrArg (.+1) h.drawn,h.output,h.size,h.Il,h.obj⟩
end
section
variable {p:bZ} {fs:Array dY} {w0:ax}
def BS(p:bZ)(fs:Array dY)(w0:ax){α β:Type}(A:α->β->Prop)(s:cz α)(s':cz β):Prop:=∀u w,iL w0 u w->(∃a b E w1,s.run (J p fs) u=aW a E/\s'.run p w=aW b w1/\A a b/\iL w0 E w1)\/∃m E,s.run (J p fs) u=dM m E/\soft m=Z
theorem BS.ret{f e}{A:f->e->Prop}{a}{b}(h:A a b):BS p fs w0 A (bI a)<|bI b:=λu w d=>ay ⟨a,b,u,w,rfl,rfl,h,d⟩
theorem BS.bind{x r i d}{A:x->r->Prop}{B:i->d->Prop}{s}{l}{k}{k'}(h:BS p fs w0 A s l)(o:∀a b,A a b->BS p fs w0 B (k a) (k' b)):BS p fs w0 B (s>>=k)<|l>>=k':=λu w n=>by
 rcases h u w n with⟨a,b,f,q,e,t,j,g⟩|⟨m,f,e,v⟩;.rw[gK,gK,e,t];exact o a b j f q g
 .rw[gK,e];exact aB ⟨m,f,rfl,v⟩
theorem BS.dead{e d}{A:e->d->Prop}{s}{c}(h:∀u,∃m b,s.run (J p fs) u=dM m b/\soft m=Z):BS p fs w0 A s c:=λu _ _=>aB<|h u
theorem BS.stuck{d c}{A:d->c->Prop}{x}{b}:BS p fs w0 A (stuck x) b:=.dead λu=>⟨_,u,rfl,rfl⟩
theorem BS.Gx{j i}{A:j->i->Prop}{s}{d}(a)(b)(g:∀u,s.run (J p fs) u=aW a u)(f:∀w,d.run p w=aW b w)(h:A a b):BS p fs w0 A s d:=λu w e=>ay ⟨a,b,u,w,g u,f w,h,e⟩
theorem BS.load(a):BS p fs w0 BR (Go.load a)<|Go.load a:=λu w c=>by
 have d:∀(P)(z),(Go.load a).run P z=match z.cell? a with|some v=>aW v z|none=>match z.farLoad P a (lZ==qE)with|.ok (v,_)=>aW v z|.error h=>dM h z:=λP z=>by simp only[Go.load,oF];rfl
 rw[d,d];cases i:u.cell? a with|some x=>obtain⟨j,f,g,_⟩:=c.cell i;rw[f];exact ay ⟨x,j,u,w,rfl,rfl,g.r,c⟩|none=>obtain⟨m,e,k⟩:=c.sV (J p fs) a<|lZ==qE;rw[e];grind
theorem aFl{u:ax}{a}{x}(h:u.cell? a=U x):a.spot=V:=by
 unfold pz at h;split at h
 .split at h;.grind
  .rename_i b;simpa using b
 grind
theorem BS.store(a:eF){x x':az}(j:BR x x'):BS p fs w0 (λ_ _=>True) (Fv a x)<|Fv a x':=λu w i=>by
 have f:x≠bQ #[]->(∀y,x≠bO y)->(∀y,x≠bQ y)->(∀y,x'≠bO y)->(∀y,x'≠bQ y)->(∃E b g o,(Fv a x).run (J p fs) u=aW E g/\(Fv a x').run p w=aW b o/\True/\iL w0 g o)\/∃m g,(Fv a x).run (J p fs) u=dM m g/\soft m=Z:=λv B D C A=>by
  have l:∀(P:bZ)(z:ax)(y:az),(∀q,y≠bO q)->(∀q,y≠bQ q)->(Fv a y).run P z=match z.cell? a with|some _=>if z.frozen? a then dM (.unsupported<|.unsafePointer "a write to bytes that a string shares") z else aW ()<|z.setCell a y|none=>match z.farStore P a y (lZ==qE)with|.ok (w,_)=>aW () w|.error h=>dM h z:=λP z y K H=>by unfold Fv;cases y<;>first|grind|grind|rfl
  rw[l _ _ _ B D,l _ _ _ C A];cases r:u.cell? a with|some y=>
   obtain⟨I,s,F,t⟩:=i.cell r;rw[s,t];simp only;split;.exact aB ⟨_,_,rfl,rfl⟩
   .exact ay ⟨(),(),_,_,rfl,rfl,trivial,i.set v j<|aFl r⟩|none=>obtain⟨m,e,G⟩:=i.aDI (J p fs) a x<|lZ==qE;rw[e];grind
 cases j with|none _=>exact aB ⟨_,u,rfl,rfl⟩|byte c=>exact f (by simp) (by simp) (by simp) (by simp)<|by simp|int k n=>exact f (by simp) (by simp) (by simp) (by simp)<|by simp|bool b=>exact f (by simp) (by simp) (by simp) (by simp)<|by simp
end
def ya(t:dV):Bool:=t==3||t==5||t==120||t==123||t==169||t==308||t==334
def zO(t:dV):Bool:=t==3||t==5||t==9||t==334
structure rG(p:bZ):Prop where
 agg:∀t,zO t=Z->∀w,(isAgg t).run p w=aW ai w
 ME:∀t,zO t=Z->∀w,(sizeOf t).run p w=aW 1 w
 z3:∀w,(kQ 3).run p w=aW (Y aG 0) w
 aot:∀w,(kQ 334).run p w=aW (Y cP 0) w
 Xr:p.underlying 79=U (.slice 5)Xt:p.underlying 51=U (.slice 9)str:p.underlying 9=U .string
 int:∀t,ya t=Z->∃k,p.underlying t=U (.int k)
structure uH where
 T:fC->Bool
 K:fC->Tmp->Nat
 gen:fC->Bool
 ps:fC->List Nat
 rk:fC->Nat
def iU:Bool->dV->dV|true,t=>if t=5 then 9 else if t=79 then 51 else t|false,t=>t
def ahD(g:Bool):Op->Op|.load t a=>.load (iU g t) a|.store t a x=>.store (iU g t) a x|.indexAddr t x i=>.indexAddr (iU g t) x i|.binOp op t x y yt=>.binOp op (iU g t) x y<|iU g yt|.call c=>.call {c with argTypes:=c.argTypes.map<|iU g}|o=>o
def j7(g:Bool)(o:dG):dG:={o with op:=ahD g o.op,type:=iU g o.type}
def xW(g:Bool):Code->Code|dS id ops d=>dS id (ops.map<|j7 g) d|eG a b=>eG (xW g a)<|xW g b|.cond c a b=>.cond c (xW g a)<|xW g b|.block id b=>.block id<|xW g b|.loop b=>.loop<|xW g b|c=>c
section
variable (D:uH) (f:FuncId)
def gp:ja->Nat|cy t=>D.K f t|gO v=>if ry v then 0 else 3|_=>3
def mQ(d:Option Tmp)(k:Nat):Bool:=match d with|none=>Z|some t=>En k<|D.K f t
def aKC:ja->Bool|gO<|Y _ _=>Z|_=>ai
def amG:BinOp->Bool|.eql=>Z|.neq=>Z|.lss=>Z|.leq=>Z|.gtr=>Z|.geq=>Z|_=>ai
def am3(op:BinOp)(x y:ja):Bool:=match op with|.add=>bP (gp D f x<=1)&&bP (gp D f y<=1)&&(gp D f x==0||gp D f y==0)|_=>bP (gp D f x<=1)&&bP (gp D f y<=1)
def Vd:List ja->List Nat->Bool|[],[]=>Z|x::xs,k::ks=>En (gp D f x) k&&Vd xs ks|_,_=>ai
def tM(d:Option Tmp):Op->Bool|.move x=>mQ D f d<|gp D f x|pA x=>mQ D f d<|gp D f x|.pick c a b=>bP (gp D f c<=1)&&(mQ D f d (gp D f a)&&bP (gp D f a<3))&&(mQ D f d (gp D f b)&&bP (gp D f b<3))|.alloc t=>(t==3||t==334)&&mQ D f d 2|.load t a=>zO t&&t !=9&&gp D f a==2&&mQ D f d 1|.store t a x=>zO t&&t !=9&&gp D f a==2&&bP (gp D f x<=1)|.nilCheck x=>gp D f x==2&&mQ D f d 2|.binOp op t x y _=>ya t&&am3 D f op x y&&mQ D f d 0|.unOp .not _ x=>bP (gp D f x<=1)&&mQ D f d 0|.convert s t x=>ya s&&ya t&&bP (gp D f x<=1)&&mQ D f d 0|.index t (gO<|aE _) i=>t==9&&bP (gp D f i<=1)&&mQ D f d 0|.indexAddr t x i=>t==79&&D.gen f&&gp D f x==2&&bP (gp D f i<=1)&&mQ D f d 2|.extract x _=>gp D f x==2&&mQ D f d 0|.call {callee:=.value<|.func g,args,..}=>D.T g&&Vd D f args.toList (D.ps g)&&mQ D f d (D.rk g)|.call {callee:=.builtin .len,args,argTypes}=>D.gen f&&argTypes==#[79]&&(match args.toList with|[x]=>gp D f x==2|_=>ai)&&mQ D f d 0|_=>ai
end
def IN:List az->List az->List Nat->Prop|[],[],[]=>True|x::xs,y::ys,k::ks=>BK k x y/\IN xs ys ks|_,_,_=>False
def BN(D:uH)(f:fC)(d:Option Tmp):Next->Next->Prop|gq a,gq b=>∀t,d=U t->BK (D.K f t) a b|.skip,.skip=>True|jO g al,jO g' bl=>g=g'/\D.T g=Z/\IN al.toList bl.toList (D.ps g)/\mQ D f d (D.rk g)=Z|_,_=>False
section
variable {p:bZ} {fs:Array dY} {w0:ax} {D:uH} {f:fC} {d:Option Tmp}
theorem alv{k}{a b}(e:mQ D f d k=Z)(h:BK k a b):BN D f d (gq a)<|gq b:=by rintro t rfl;exact h.le e
theorem BS.val{s g}{k}(i:mQ D f d k=Z)(h:BS p fs w0 (BK k) s g):BS p fs w0 (BN D f d) (do bI<|gq<|<-s) (do bI<|gq<|<-g):=BS.bind h λa b e=>BS.ret<|alv i e
theorem BS.aGk{x x'}(h:BR x x'):BS p fs w0 Eq (asBool x)<|asBool x':=by cases h with|bool b=>exact BS.ret rfl|none _=>exact BS.stuck|byte c=>exact BS.stuck|int k n=>exact BS.stuck
theorem panics{c}(P)(u):∃m b,(C0 .nilDeref:cz c).run P u=dM m b/\soft m=Z:=⟨_,u,rfl,rfl⟩
theorem agp{c}(P)(u)(s):∃m b,(C0<|.error s:cz c).run P u=dM m b/\soft m=Z:=⟨_,u,rfl,rfl⟩
theorem aFg(P)(u)(q):∃n c,(choose q).run P u=aW n c:=by
 by_cases b:q.forced=Z;.exact⟨0,u,by simp[b]⟩
 .exact⟨_,{u with drawn:=u.drawn+1},by simp[b];rfl⟩
theorem XQ{g}(P)(u)(k)(x y)(c):∃m b,(uC k x y c:cz g).run P u=dM m b/\soft m=Z:=by
 unfold uC;split;.obtain⟨n,b,e⟩:=aFg P u<|.extern "runtime.boundsError.signed" 2;rw[Y7,gK,gK,e];exact⟨_,b,rfl,rfl⟩
 .exact⟨_,u,rfl,rfl⟩
def LN(op:BinOp)(t:dV)(x y:ja)(a b:az):cz az:=do eqGuard op t x y a b;gF op t a b
theorem aC4{g}{t}{x y}{a b}(h:∀c,a≠bO c)(i:a≠nO)(P)(u):(eqGuard g t x y a b).run P u=aW () u:=by cases a<;>first|grind|(cases g<;>rfl)
theorem LM{g}{t}{x y}{a b}(h:∀c,a≠bO c)(i:a≠nO)(P)(u):(LN g t x y a b).run P u=(gF g t a b).run P u:=by unfold LN;rw[gK,aC4 h i];rfl
theorem aiQ(g:BinOp)(t:dV)(k k')(a b):(∃v,ry v=Z/\∀P u,(gF g t (Y k a)<|Y k' b).run P u=aW v u)\/∀P u,∃m i,(gF g t (Y k a)<|Y k' b).run P u=dM m i/\soft m=Z:=by
 have l:∀g,(∃v,ry v=Z/\∀P u,(Op.shift g k a k' b).run P u=aW v u)\/∀P u,∃m i,(Op.shift g k a k' b).run P u=dM m i/\soft m=Z:=λg=>by
  unfold Op.shift;split;.exact aB λP u=>agp P u _
  .cases g<;>first|exact ay ⟨_,rfl,λ_ _=>rfl⟩|exact aB λP u=>⟨_,u,rfl,rfl⟩
 have h:∀g,g=.quo\/g=.rem->(∃v,ry v=Z/\∀P u,(Op.intDiv g k a b).run P u=aW v u)\/∀P u,∃m i,(Op.intDiv g k a b).run P u=dM m i/\soft m=Z:=λg o=>by
  unfold Op.intDiv;split;.exact aB λP u=>agp P u _
  .rcases o with rfl|rfl<;>exact ay ⟨_,rfl,λ_ _=>rfl⟩
 have j:∀g,(gF g t (Y k a) (Y k' b)=if k≠k' then stuck "BinOp: operands of different kinds"else match g with|.add|.sub|.mul=>Op.intArith g k a b|.quo|.rem=>Op.intDiv g k a b|.and|.or|.xor|.andNot=>Op.intBits g k a b|_=>Op.intCmp g a b)\/gF g t (Y k a) (Y k' b)=Op.shift g k a k' b:=λg=>by cases g<;>first|exact ay rfl|exact aB rfl
 rcases j g with e|e
 .rw[e];by_cases n:k=k';.subst n;rw[if_neg<|by simp];cases g<;>first|exact h _<|ay rfl|exact h _<|aB rfl|exact ay ⟨_,rfl,λ_ _=>rfl⟩|exact aB λP u=>⟨_,u,rfl,rfl⟩
  .rw[cJ n];exact aB λP u=>⟨_,u,rfl,rfl⟩
 .rw[e];exact l g
theorem Fp(P:bZ){l:BinOp}{t:dV}(i:P.underlying t=U .string\/∃k,P.underlying t=U (.int k)){a b:az}(h:a=bQ #[]/\((∃k n,b=Y k n)\/(∃c,b=cx c)\/(∃c,b=aE c)\/b=bQ #[])\/b=bQ #[]/\((∃k n,a=Y k n)\/(∃c,a=cx c)\/∃c,a=aE c)\/(∃c,a=cx c)/\((∃k n,b=Y k n)\/(∃c,b=cx c)\/∃c,b=aE c)\/(∃c,b=cx c)/\((∃k n,a=Y k n)\/∃c,a=aE c)\/((∃k n,a=Y k n)/\∃c,b=aE c)\/(∃k n,b=Y k n)/\∃c,a=aE c)(u:ax):∃m,(gF l t a b).run P u=dM m u/\soft m=Z:=by
  have j:∃m,(Op.equal t a b).run P u=dM m u/\soft m=Z:=by have s:Op.equal t a b=s8 (9999+1) t a b:=rfl;rw[s];unfold s8;rcases i with i|⟨k,i⟩<;>(rw[gK,run_underlying i];rcases h with⟨rfl,⟨k,n,rfl⟩|⟨c,rfl⟩|⟨c,rfl⟩|rfl⟩|⟨rfl,⟨k,n,rfl⟩|⟨c,rfl⟩|⟨c,rfl⟩⟩|⟨⟨c,rfl⟩,⟨k,n,rfl⟩|⟨g,rfl⟩|⟨g,rfl⟩⟩|⟨⟨c,rfl⟩,⟨k,n,rfl⟩|⟨g,rfl⟩⟩|⟨⟨k,n,rfl⟩,⟨c,rfl⟩⟩|⟨⟨k,n,rfl⟩,⟨c,rfl⟩⟩<;>exact⟨_,rfl,rfl⟩)
  obtain⟨m,q,o⟩:=j;have r:(do bI<|cx<|←Op.equal t a b:cz az).run P u=dM m u:=by rw[gK,q];rfl
  have v:(do bI<|cx !(←Op.equal t a b):cz az).run P u=dM m u:=by rw[gK,q];rfl
  rcases h with⟨rfl,⟨k,n,rfl⟩|⟨c,rfl⟩|⟨c,rfl⟩|rfl⟩|⟨rfl,⟨k,n,rfl⟩|⟨c,rfl⟩|⟨c,rfl⟩⟩|⟨⟨c,rfl⟩,⟨k,n,rfl⟩|⟨g,rfl⟩|⟨g,rfl⟩⟩|⟨⟨c,rfl⟩,⟨k,n,rfl⟩|⟨g,rfl⟩⟩|⟨⟨k,n,rfl⟩,⟨c,rfl⟩⟩|⟨⟨k,n,rfl⟩,⟨c,rfl⟩⟩<;>cases l<;>first|exact⟨m,r,o⟩|exact⟨m,v,o⟩|exact⟨_,rfl,rfl⟩
theorem awE(c):(⟨#[c]⟩:ByteArray).toList=[c]:=air _
theorem aFG(b:BinOp)(t l:dV)(c d:UInt8)(q:b≠.add):(∃v,ry v=Z/\(∀P u,(gF b t (aE ⟨#[c]⟩)<|aE ⟨#[d]⟩).run P u=aW v u)/\∀P u,(gF b l (Y aq (c.toNat:Int))<|Y aq (d.toNat:Int)).run P u=aW v u)\/∀P u,∃m,(gF b t (aE ⟨#[c]⟩)<|aE ⟨#[d]⟩).run P u=dM m u/\soft m=Z:=by
 have k:∀b,gF b t (aE ⟨#[c]⟩) (aE ⟨#[d]⟩)=Pz b ⟨#[c]⟩ ⟨#[d]⟩:=λb=>by cases b<;>rfl
 have i:∀b,amG b=Z->gF b l (Y aq (c.toNat:Int)) (Y aq (d.toNat:Int))=Op.intCmp b (c.toNat:Int) (d.toNat:Int):=λb h=>by cases b<;>first|exact absurd h<|by decide|rfl
 rw[k];have n:c<d↔(c.toNat:Int)<(d.toNat:Int):=by grind[UInt8.lt_iff_toNat_lt]
 have o:c=d↔(c.toNat:Int)=(d.toNat:Int):=by grind[UInt8.toNat_inj]
 have e:Ls [c] [d]=bP ((c.toNat:Int)<(d.toNat:Int)):=by simp only[Ls,Bool.and_false,Bool.or_false];grind
 have g:([c]==[d])=bP ((c.toNat:Int)=(d.toNat:Int)):=by grind
 by_cases j:amG b=Z
 .rw[i b j];unfold Pz;simp only[awE,e,g];cases b<;>first|cases j|skip
  .exact ay ⟨_,rfl,λ_ _=>rfl,λ_ _=>by simp[Op.intCmp,BEq.beq]⟩
  .exact ay ⟨_,rfl,λ_ _=>rfl,λ_ _=>by simp[Op.intCmp,bne,BEq.beq]⟩
  .exact ay ⟨_,rfl,λ_ _=>rfl,λ_ _=>rfl⟩
  .refine ay ⟨_,rfl,λ_ _=>rfl,λ_ _=>?_⟩;have:(bP ((c.toNat:Int)<d.toNat)||decide ((c.toNat:Int)=d.toNat))=bP ((c.toNat:Int)<=d.toNat):=by grind
   rw[this];rfl
  .refine ay ⟨_,rfl,λ_ _=>rfl,λ_ _=>?_⟩;have:(!(bP ((c.toNat:Int)<d.toNat)||decide ((c.toNat:Int)=d.toNat)))=bP ((c.toNat:Int)>d.toNat):=by grind
   rw[this];rfl
  .refine ay ⟨_,rfl,λ_ _=>rfl,λ_ _=>?_⟩;have:(! bP ((c.toNat:Int)<d.toNat))=bP ((c.toNat:Int)≥d.toNat):=by grind
   rw[this];rfl
 .cases b<;>first|exact absurd rfl j|grind|exact aB λP u=>⟨_,rfl,rfl⟩
end
variable{p:bZ}{fs:Array dY}{w0:ax}{D:uH}{f:fC}{d:Option Tmp}{x x' y y':az}
theorem Wx(t):iU Z t=if t=5 then 9 else if t=79 then 51 else t:=rfl
theorem arz{t}(g)(b:ya t=Z):ya (iU g t)=Z\/iU g t=9:=by
 cases g;.exact ay b
 .rw[Wx];by_cases e:t=5;.grind
  .by_cases c:t=79;.subst c;cases b
   grind
theorem Wy{t}(g)(b:zO t=Z):zO (iU g t)=Z:=by
 cases g;.exact b
 .rw[Wx];by_cases e:t=5;.rw[cJ e];rfl
  .by_cases c:t=79;.subst c;cases b
   grind
theorem ao5(H:rG p)(g){t}(b:ya t=Z):(J p fs).underlying (iU g t)=U .string\/∃k,(J p fs).underlying (iU g t)=U (.int k):=by
 rcases arz g b with h|h;.exact aB<|H.int _ h
 .rw[h];exact ay H.str
theorem BR.cells(h:BR x x'):(∃c,x=cx c/\x'=x)\/(∃k n,x=Y k n/\x'=x)\/(∃c,x=aE ⟨#[c]⟩/\x'=Y aq c.toNat)\/x=bQ #[]:=by cases h with|none _=>grind|byte c=>grind|int k n=>grind|bool b=>grind
theorem BS.bin(H:rG p)(g:Bool){l:BinOp}{t:dV}{a b:ja}(Q:ya t=Z)(K:BR x x')(C:BR y y')(F:l=.add->ry x=Z\/ry y=Z):BS p fs w0 (BK 0) (LN l (iU g t) a b x y)<|LN l t a b x' y':=by
 have A:=ao5 (fs:=fs) H g Q;have O:∀{z R:az},BR z R->(∀c,z≠bO c)/\z≠nO:=λh=>by rcases h.cells with⟨c,rfl,_⟩|⟨k,n,rfl,_⟩|⟨c,rfl,_⟩|rfl<;>exact⟨by simp,by simp⟩
 obtain⟨I,G⟩:=O K;have j:(∀u,∃m,(gF l (iU g t) x y).run (J p fs) u=dM m u/\soft m=Z)->BS p fs w0 (BK 0) (LN l (iU g t) a b x y) (LN l t a b x' y'):=λh=>.dead λu=>by obtain⟨m,e,N⟩:=h u;grind[LM]
 rcases K.cells with⟨c,rfl,rfl⟩|⟨k,n,rfl,rfl⟩|⟨c,rfl,rfl⟩|rfl;.rcases C.cells with⟨s,rfl,rfl⟩|⟨q,o,rfl,rfl⟩|⟨s,rfl,rfl⟩|rfl<;>refine j λu=>Fp _ A (by simp) u
 .rcases C.cells with⟨s,rfl,rfl⟩|⟨q,o,rfl,rfl⟩|⟨s,rfl,rfl⟩|rfl;.refine j λu=>Fp _ A (by simp) u
  .have T:gF l (iU g t) (Y k n) (Y q o)=gF l t (Y k n) (Y q o)\/True:=aB trivial;rcases aiQ l (iU g t) k q n o with⟨v,E,B⟩|B
   .rcases aiQ l t k q n o with⟨L,P,r⟩|r
    .have:v=L:=by
      have e:(gF l (iU g t) (Y k n)<|Y q o).run p default=(gF l t (Y k n)<|Y q o).run p default:=by cases l<;>rfl
      grind
     subst this;exact BS.Gx v v (λu=>(LM I G _ _).trans<|B _ _) (λw=>(LM I G _ _).trans<|r _ _) ⟨rfl,E⟩
    .exfalso;obtain⟨m,M,e,_⟩:=r p default;have S:(gF l (iU g t) (Y k n)<|Y q o).run p default=(gF l t (Y k n)<|Y q o).run p default:=by cases l<;>rfl
     grind
   .exact .dead λu=>by obtain⟨m,M,e,N⟩:=B (J p fs) u;grind[LM]
  .refine j λu=>Fp _ A (by simp) u
  .refine j λu=>Fp _ A (by simp) u
 .rcases C.cells with⟨s,rfl,rfl⟩|⟨q,o,rfl,rfl⟩|⟨s,rfl,rfl⟩|rfl;.refine j λu=>Fp _ A (by simp) u
  .refine j λu=>Fp _ A (by simp) u
  .by_cases X:l=.add;.exfalso;rcases F X with h|h<;>cases h
   .rcases aFG l (iU g t) t c s X with⟨v,E,B,r⟩|B;.exact BS.Gx v v (λu=>(LM I G _ _).trans<|B _ _) (λw=>(LM (by simp) (by simp) _ _).trans<|r _ _) ⟨rfl,E⟩
    .exact j λu=>B _ u
  .refine j λu=>Fp _ A (by simp) u
 .rcases C.cells with⟨s,rfl,rfl⟩|⟨q,o,rfl,rfl⟩|⟨s,rfl,rfl⟩|rfl<;>refine j λu=>Fp _ A (by simp) u
theorem BS.aym(H:rG p)(g){t}(c:zO t=Z)(a):BS p fs w0 BR (loadVar (iU g t) a)<|loadVar t a:=by refine BS.bind (BS.Gx ai ai (λu=>(amj _ u).trans<|H.agg _ (Wy g c) u) (λw=>H.agg _ c w) (A:=λx y=>x=ai/\y=ai) ⟨rfl,rfl⟩) ?_;grind[BS.load]
theorem BS.sz(H:rG p)(g){t}(b:zO t=Z):BS p fs w0 (λx y=>x=1/\y=1) (sizeOf<|iU g t)<|sizeOf t:=BS.Gx 1 1 (λu=>(UL _ u).trans<|H.ME _ (Wy g b) u) (λw=>H.ME _ b w) ⟨rfl,rfl⟩
theorem BS.asi(H:rG p)(g){t}(e:zO t=Z)(a)(i:BR x x'):BS p fs w0 (λ_ _=>True) (storeVar (iU g t) a x)<|storeVar t a x':=by
 have m:∀{z:az},(∀c,z≠bO c)->z.cells=#[z]:=λ{z}h=>by cases z<;>first|exact absurd rfl<|h _|rfl
 by_cases l:x=bQ #[];.subst l;refine .dead λu=>⟨.stuck "store: not the value of one cell",u,?_,rfl⟩;unfold storeVar;rw[gK,(UL _ u).trans<|H.ME _ (Wy g e) u];rfl
 .have j:x.cells=#[x]/\x'.cells=#[x']:=by
   rcases i.cells with⟨c,rfl,rfl⟩|⟨k,n,rfl,rfl⟩|⟨c,rfl,rfl⟩|rfl;.grind
   .grind
   .grind
   grind
  refine BS.bind (BS.sz H g e) ?_;rintro _ _⟨rfl,rfl⟩;rw[j.1,j.2];exact BS.bind (BS.store _ i) λ_ _ _=>BS.ret trivial
theorem Pk(h:Fi x=Z):(∃a,x=aF a)\/(∃a l c,x=aC a l c)\/∃e,x=bQ e/\e.all ry=Z:=by
 cases x<;>first|cases h|skip
 .grind
 .grind
 .exact aB<|aB ⟨_,rfl,h⟩
theorem BS.sure(h:Fi x=Z):BS p fs w0 (λa b=>a=b) (FB x)<|FB x:=by
 rcases Pk h with⟨a,rfl⟩|⟨a,l,c,rfl⟩|⟨g,rfl,_⟩
 .cases a;.exact BS.stuck
  .exact BS.ret rfl
 .exact BS.stuck
 .exact BS.stuck
theorem BS.intOf(h:BR x x'):BS p fs w0 (λa b=>a=b) (asIntOf x)<|asIntOf x':=by
 rcases h.cells with⟨c,rfl,rfl⟩|⟨k,n,rfl,rfl⟩|⟨c,rfl,rfl⟩|rfl;.exact BS.stuck
 .exact BS.ret rfl
 .exact BS.stuck
 .exact BS.stuck
theorem BS.under{t g}{u e}(h:p.underlying t=U u)(i:p.underlying g=U e):BS p fs w0 (λa b=>a=u/\b=e) (pB t)<|pB g:=BS.Gx u e (λz=>run_underlying (P:=J p fs) h z) (λz=>run_underlying i z) ⟨rfl,rfl⟩
theorem BS.azJ(H:rG p)(m:Fi x=Z)(l:BR y y'):BS p fs w0 (BK 2) (yo 51 x y)<|yo 79 x y':=by
 refine BS.bind (BS.intOf l) ?_;rintro⟨k,i⟩_ rfl;refine BS.bind (BS.under H.Xt H.Xr) ?_;rintro _ _⟨rfl,rfl⟩;rcases Pk m with⟨a,rfl⟩|⟨g,h,c,rfl⟩|⟨n,rfl,_⟩;.exact BS.stuck
 .refine BS.bind (A:=λa b=>a=(g,h,9)/\b=(g,h,5)) (BS.ret ⟨rfl,rfl⟩) ?_;rintro _ _⟨rfl,rfl⟩;refine BS.bind (BS.under H.Xt H.Xr) ?_;rintro _ _⟨rfl,rfl⟩;cases g with|none=>exact .dead λu=>XQ _ u _ _ _ _|some a=>
   dsimp only;by_cases j:0<=i/\i<h;.rw[cJ j,cJ j];refine BS.bind (BS.Gx 1 1 (λu=>(UL _ u).trans<|H.ME 9 rfl u) (λw=>H.ME 5 rfl w) (A:=λx y=>x=1/\y=1) ⟨rfl,rfl⟩) ?_;rintro _ _⟨rfl,rfl⟩;exact BS.ret ⟨rfl,rfl⟩
   .rw[if_neg j,if_neg j,Bool.and_false,if_neg<|by simp];exact .dead λu=>XQ _ u _ _ _ _
 .exact BS.stuck
theorem BS.aGt(H:rG p){t}(e:t=3\/t=334):BS p fs w0 (BK 2) (Instr.alloc t Z<|bQ #[])<|Instr.alloc t Z<|bQ #[]:=by
 have b:∃k,(∀P:bZ,P.types=p.types->True)/\∀w,(kQ t).run p w=aW (Y k 0) w:=by
  rcases e with rfl|rfl;.exact⟨aG,λ_ _=>trivial,H.z3⟩
  .exact⟨cP,λ_ _=>trivial,H.aot⟩
 obtain⟨k,_,b⟩:=b;refine BS.bind (BS.Gx (Y k 0) (Y k 0) (λu=>(amg _ u).trans<|b u) b (A:=λx y=>x=Y k 0/\y=Y k 0) ⟨rfl,rfl⟩) ?_;rintro _ _⟨rfl,rfl⟩;intro u w c;refine ay ⟨aF<|U ⟨u.heap.size,0,V⟩,aF<|U ⟨w.heap.size,0,V⟩,_,_,rfl,rfl,⟨by rw[c.size],rfl⟩,c.push (by simp)<|.int _ _⟩
theorem BS.conv(H:rG p){s t}(hs:ya s=Z)(g:ya t=Z)(h:BR x x'):BS p fs w0 (BK 0) (convert s t x)<|convert s t x':=by
 obtain⟨k,e⟩:=H.int s hs;obtain⟨i,b⟩:=H.int t g;refine BS.bind (BS.under e e) ?_;rintro _ _⟨rfl,rfl⟩;refine BS.bind (BS.under b b) ?_;rintro _ _⟨rfl,rfl⟩;rcases h.cells with⟨c,rfl,rfl⟩|⟨k,n,rfl,rfl⟩|⟨c,rfl,rfl⟩|rfl;.exact .dead λu=>⟨_,u,rfl,rfl⟩
 .exact BS.ret ⟨rfl,rfl⟩
 .exact .dead λu=>⟨_,u,rfl,rfl⟩
 .exact .dead λu=>⟨_,u,rfl,rfl⟩
theorem BS.azI(H:rG p)(s)(b:BR y y'):BS p fs w0 (BK 0) (PC 9 (aE s) y)<|PC 9 (aE s) y':=by
 refine BS.bind (BS.intOf b) ?_;rintro⟨k,i⟩_ rfl;refine BS.bind (BS.under H.str H.str) ?_;rintro _ _⟨rfl,rfl⟩;dsimp only;split;.exact BS.ret ⟨rfl,rfl⟩
 .exact .dead λu=>XQ _ u _ _ _ _
theorem BS.not'(t:dV)(b:BR x x'):BS p fs w0 (BK 0) (Op.unary .not x)<|Op.unary .not x':=by
 rcases b.cells with⟨c,rfl,rfl⟩|⟨k,n,rfl,rfl⟩|⟨c,rfl,rfl⟩|rfl;.exact BS.ret ⟨rfl,rfl⟩
 .exact BS.stuck
 .exact BS.stuck
 .exact BS.stuck
theorem BS.ext(i)(e:Fi x=Z):BS p fs w0 (BK 0) (ID x i)<|ID x i:=by
 rcases Pk e with⟨a,rfl⟩|⟨a,l,c,rfl⟩|⟨j,rfl,g⟩;.exact BS.stuck
 .exact BS.stuck
 .unfold ID;dsimp only;cases h:j[i]? with|none=>exact BS.stuck|some v=>exact BS.ret ⟨rfl,(lE.1 g) v<|tR h⟩
theorem BS.ayq(H:rG p)(t g)(e:Fi x=Z):BS p fs w0 (BK 0) (zK #[51] t #[x])<|zK #[79] g #[x]:=by
 refine BS.bind (BS.under H.Xt H.Xr) ?_;rintro _ _⟨rfl,rfl⟩;rcases Pk e with⟨a,rfl⟩|⟨a,l,c,rfl⟩|⟨i,rfl,h⟩;.exact BS.stuck
 .exact BS.ret ⟨rfl,rfl⟩
 grind[BS.stuck]
structure Evs(D:uH)(f:fC)(ev ev':ja->az):Prop where
 rd:∀x,gp D f x<3->BK (gp D f x) (ev x) (ev' x)const:∀v,ev (gO v)=v/\ev' (gO v)=v
 func:∀g,ev (.func g)=dF (ei g) #[] #[]/\ev' (.func g)=dF (ei g) #[] #[]
theorem anp{g b}(E:Evs D f g b):∀{xs}{e},Vd D f xs e=Z->IN (xs.map g) (xs.map b) e
 |[],[],_=>trivial|x::xs,k::e,h=>by
  simp only[Vd,cG]at h;have i:gp D f x<3:=by have:=h.1;simp only[En,lQ]at this;grind
  exact⟨(E.rd x i).le h.1,anp E h.2⟩|[],_::_,h=>by cases h|_::_,[],h=>by cases h
theorem BS.op(H:rG p)(hC:∀g,D.T g=Z->(∀M u,(iJ g M).run (J p fs) u=aW (jO g M) u)/\∀M w,(iJ g M).run p w=aW (jO g M) w){C n:ja->az}(E:Evs D f C n){o:dG}(m:tM D f o.dst o.op=Z):BS p fs w0 (BN D f o.dst) (cS C<|j7 (D.gen f) o)<|cS n o:=by
 obtain⟨A,op,G,F,r,guard⟩:=o;simp only at m;have O:∀{x},gp D f x=2->C x=n x/\Fi (n x)=Z:=λ{x}h=>by have:=E.rd x (by omega);rw[h]at this;exact this
 have N:∀{x},gp D f x<=1->BR (C x) (n x):=λ{x}h=>(E.rd x<|by omega).data h;have Q0:∀{k},mQ D f A k=Z->A=V\/k<3:=λ{k}h=>by unfold mQ at h;cases A with|none=>grind|some t=>right;simp only[En,jT,cG,lQ,eU]at h;grind
 have mv:∀{x},mQ D f A (gp D f x)=Z->BS p fs w0 (BN D f A) (bI<|gq<|C x) (bI<|gq<|n x):=λ{x}h=>BS.ret (by
  rcases Q0 h with h0|h0;.intro t Q;grind
  .exact alv h<|E.rd x h0);cases op<;>first|exact absurd m qq|skip
 case move x=>exact mv m
 case assign x=>exact mv m
 case pick c a b=>simp only[tM,cG,eU,lQ,jT,zb,ne_eq]at m;refine BS.bind (BS.aGk<|N m.1.1) ?_;grind
 case alloc t=>simp only[tM,cG,eU,lQ,jT,zb,ne_eq]at m;exact BS.val m.2<|BS.aGt H m.1
 case load t a=>simp only[tM,cG,eU,lQ,jT,zb,ne_eq]at m;obtain⟨e,I⟩:=O m.1.2;refine BS.val m.2 ?_;show BS p fs w0 (BK 1) (FC (iU (D.gen f) t)<|C a)<|FC t<|n a;rw[e];unfold FC;refine BS.bind (BS.sure I) ?_;rintro z _ rfl;exact BS.aym H _ m.1.1.1 z
 case store t a x=>simp only[tM,cG,eU,lQ,jT,zb,ne_eq]at m;obtain⟨e,I⟩:=O m.1.2;show BS p fs w0 (BN D f A) (do UO (iU (D.gen f) t) (C a)<|C x;bI .skip) (do UO t (n a)<|n x;bI .skip);rw[e];refine BS.bind (A:=λ_ _=>True) ?_ λ_ _ _=>BS.ret trivial;unfold UO;refine BS.bind (BS.sure I) ?_;grind[BS.asi]
 case nilCheck x=>
  simp only[tM,cG,eU,lQ,jT,zb,ne_eq]at m;obtain⟨e,I⟩:=O m.1;unfold cS j7 ahD;dsimp only;rw[e];rcases Pk I with⟨a,h⟩|⟨a,l,c,h⟩|⟨vs,h,hv⟩;.rw[h];cases a with|none=>exact .dead λu=>panics _ u|some a=>grind
  .grind
  grind
 case binOp op t x y yt=>
  simp only[tM,cG,eU,lQ,jT,zb,ne_eq]at m;have L:=m.1.2;have hk:gp D f x<=1/\gp D f y<=1/\(op=.add->gp D f x=0\/gp D f y=0):=by
   unfold am3 at L;split at L;.simp only[cG,eU,jT,lQ]at L;exact⟨L.1.1,L.1.2,λ_=>L.2⟩
   .rename_i S;simp only[cG,eU]at L;exact⟨L.1,L.2,λe=>absurd e S⟩
  refine BS.val m.2<|BS.bin (x:=C x) (y:=C y) (a:=x) (b:=y) H (D.gen f) m.1.1 (N hk.1) (N hk.2.1) λe=>?_;rcases hk.2.2 e with h|h;.have:=E.rd x (by omega);rw[h]at this;left;rw[this.1];exact this.2
  .have:=E.rd y (by omega);rw[h]at this;right;rw[this.1];exact this.2
 case unOp op t x=>
  cases op<;>first|exact absurd m qq|skip
  simp only[tM,cG,eU,lQ,jT,zb,ne_eq]at m;exact BS.val m.2<|BS.not' t<|N m.1
 case convert s t x=>simp only[tM,cG,eU,lQ,jT,zb,ne_eq]at m;exact BS.val m.2<|BS.conv H m.1.1.1 m.1.1.2<|N m.1.2
 case indexAddr t x i=>simp only[tM,cG,eU,lQ,jT,zb,ne_eq]at m;obtain⟨e,I⟩:=O m.1.1.2;have Q:=m.1.1.1.1;subst Q;have T:=m.1.1.1.2;rw[T];refine BS.val m.2 ?_;show BS p fs w0 (BK 2) (yo 51 (C x)<|C i)<|yo 79 (n x)<|n i;rw[e];exact BS.azJ H I<|N m.1.2
 case index t x i=>cases x with|const v=>
   cases v<;>first|exact absurd m qq|skip
   simp only[tM,cG,eU,lQ,jT,zb,ne_eq]at m;rename_i s;have Q:=m.1.1;subst Q;refine BS.val m.2 ?_;show BS p fs w0 (BK 0) (PC 9 (C<|gO<|aE s)<|C i)<|PC 9 (n<|gO<|aE s)<|n i;rw[(E.const _).1,(E.const _).2];exact BS.azI H s<|N m.1.2|_=>exact absurd m qq
 case extract x i=>simp only[tM,cG,eU,lQ,jT,zb,ne_eq]at m;obtain⟨e,I⟩:=O m.1;refine BS.val m.2 ?_;show BS p fs w0 (BK 0) (ID (C x) i)<|ID (n x) i;rw[e];exact BS.ext i I
 case call c=>obtain⟨K,q,B⟩:=c;cases K with
  |invoke _ _=>exact absurd m qq
  |value g=>cases g with|func g=>
    simp only[tM,cG]at m;have Q2:∀(P:bZ)(e:ja->az)(B:Array dV)(u:ax),(∀g,e (.func g)=dF (ei g) #[] #[])->(∀M u,(iJ g M).run P u=aW (jO g M) u)->(cS e {dst:=A,op:=.call {callee:=.value<|.func g,args:=q,argTypes:=B},type:=G,pos:=F,after:=r,guard:=guard}).run P u=aW (jO g<|q.map e) u:=λP e B u R h2=>by simp only[cS,resolve,R,PG];rw[gK];show(invoke (.fn (ei g) #[])<|#[]++q.map e).run P u=_;simp only[invoke,Kx,Ti];exact h2 _ _
    have R:=hC g m.1.1;intro u w hw;have W:=Q2 (J p fs) C (B.map<|iU<|D.gen f) u (λg=>(E.func g).1) R.1;have j:=Q2 p n B w (λg=>(E.func g).2) R.2;refine ay ⟨jO g<|q.map C,jO g<|q.map n,u,w,?_,j,⟨rfl,m.1.1,?_,m.2⟩,hw⟩;.have:cS C (j7 (D.gen f) {dst:=A,op:=.call {callee:=.value<|.func g,args:=q,argTypes:=B},type:=G,pos:=F,after:=r,guard:=guard})=cS C {dst:=A,op:=.call {callee:=.value<|.func g,args:=q,argTypes:=B.map<|iU<|D.gen f},type:=G,pos:=F,after:=r,guard:=guard}:=rfl;rw[this];exact W
    .simp only[za];exact anp E m.1.2|_=>exact absurd m qq
  |builtin b=>
   cases b<;>first|exact absurd m qq|skip
   simp only[tM,cG,lQ]at m;obtain⟨⟨⟨T,ha⟩,Q1⟩,hf⟩:=m;subst ha;rw[T];obtain⟨q⟩:=q;match q,Q1 with
   |[x],Q1=>
    have X:gp D f x=2:=by simpa using Q1
    obtain⟨e,I⟩:=O X;have h:=BS.val (f:=f) hf<|BS.ayq (fs:=fs) (w0:=w0) H (iU Z G) G I;have hm:∀e:ja->az,(⟨[x]⟩:Array ja).map e=#[e x]:=λe=>by simp
    have hl:∀(e:ja->az)(B:Array dV)(G:dV),cS e {dst:=A,op:=.call {callee:=.builtin .len,args:=⟨[x]⟩,argTypes:=B},type:=G,pos:=F,after:=r,guard:=guard}=(do bI<|gq<|<-zK B G #[e x]):=λe B G=>by rw[<-hm e];rfl
    have W:cS C (j7 Z {dst:=A,op:=.call {callee:=.builtin .len,args:=⟨[x]⟩,argTypes:=#[79]},type:=G,pos:=F,after:=r,guard:=guard})=(do bI<|gq<|<-zK #[51] (iU Z G) #[C x]):=by
     have h51:(#[79]:Array dV).map (iU Z)=#[51]:=by simp[Wx]
     show cS C {dst:=A,op:=.call {callee:=.builtin .len,args:=⟨[x]⟩,argTypes:=(#[79]:Array dV).map<|iU Z},type:=iU Z G,pos:=F,after:=r,guard:=guard}=_;rw[h51,hl]
    have j:=hl n #[79] G;rw[W,j,e];exact h
def Ux(D:uH)(f:fC)(ops:Array dG):Option (Nat×Bool)->Bool|none=>Z|some (j,_)=>match ops[j]?.bind (·.dst)with|some d=>D.K f d==0|none=>Z
def Sk(D:uH)(f:fC)(ops:Array dG):Bool:=ops.all λo=>tM D f o.dst o.op&&Ux D f ops o.guard
def xU(D:uH)(f:fC):Code->Bool|.skip=>Z|.ret=>Z|.exit _=>Z|dS _ ops _=>Sk D f ops|eG a b=>xU D f a&&xU D f b|.cond c a b=>bP (gp D f c<=1)&&(xU D f a&&xU D f b)|.block _ b=>xU D f b|.loop b=>xU D f b|_=>ai
def rT(g:Bool):eY->eY|bF c=>bF<|xW g c|.inLoop c=>.inLoop<|xW g c|aT ops l=>aT (ops.map<|j7 g) l|i=>i
def xS(D:uH)(f:fC):eY->Bool|bF c=>xU D f c|mD _=>Z|.inLoop c=>xU D f c|aT ops _=>Sk D f ops|_=>ai
structure yE(D:uH)(p:bZ)(fs:Array dY):Prop where
 fn:∀g,D.T g=Z->∃fn P b,fs[g]?=U fn/\p.funcs[g]?=U P/\P.body=U b/\fn.body=U (xW (D.gen g) b)/\fn.ntmps=P.ntmps/\xU D g b=Z/\fn.results=P.results/\((∃t,P.results=#[.tmp t]/\D.rk g=D.K g t)\/D.rk g=2/\P.results.size≠1/\∀r∈P.results,∃t,r=.tmp t/\D.K g t=0)/\(∀i k,(D.ps g)[i]?=U k->En k (D.K g i)=Z)call:∀g,D.T g=Z->(∀al u,(iJ g al).run (J p fs) u=aW (jO g al) u)/\∀al w,(iJ g al).run p w=aW (jO g al) w
 k3:∀f i,D.K f i<3
structure jA(D:uH)(fr fr':aZ):Prop where
 fn:fr.fn=fr'.fn
 here:D.T fr'.fn=Z
 size:fr.tmps.size=fr'.tmps.size
 tmps:∀i x x',fr.tmps[i]?=U x->fr'.tmps[i]?=U x'->BK (D.K fr'.fn i) x x'
 todo:fr.todo=fr'.todo.map (rT<|D.gen fr'.fn)items:∀i∈fr'.todo,xS D fr'.fn i=Z
 defers:fr.defers=[]/\fr'.defers=[]mode:fr.mode=fr'.mode/\(fr'.mode=.run\/fr'.mode=fI)kind:fr.kind=eo/\fr'.kind=eo
 round:fr.roundOf=V/\fr'.roundOf=V
inductive yD(D:uH):fC->List aZ->List aZ->Prop|nil{g}:yD D g [] []|cons{g c c' cs cs' ops i rest k}(h:jA D c c')(hm:c'.mode=.run)(ht:c'.todo=aT ops (i::rest)::k)(hd:mQ D c'.fn (ops[i]?.bind (·.dst)) (D.rk g)=Z)(t:yD D c'.fn cs cs'):yD D g (c::cs)<|c'::cs'
def aDn(N:Nat):H:={T:=λ_=>ai,F:=λb=>bP<|N<=b,gx:=λ_=>ai,cut:=λ_ _=>ai}
def uN(D:uH)(p:bZ)(fs:Array dY)(w0:ax)(B':List aZ)(A r':GStep):Prop:=(∃fr cs u fr' cs' w,A.bare=bV (r fr<|cs++[wall<|J p fs]) u/\r'.bare=bV (r fr'<|cs'++B') w/\jA D fr fr'/\yD D fr'.fn cs cs'/\iL w0 u w)\/(∃o u,A.bare=fy o u)\/(∃g u N,A.bare=bV g u/\uI (aDn N) (J p fs) g u)\/∃v u,A.bare=bV (r ((wall<|J p fs).finish v) []) u
section
variable {D:uH} {p:bZ} {fs:Array dY} {w0 u w:ax} {B':List aZ} {fr fr':aZ} {cs cs':List aZ}
theorem jA.getD(F:yE D p fs)(h:jA D fr fr')(t):BK (D.K fr'.fn t) (fr.tmps.getD t ak)<|fr'.tmps.getD t ak:=by rw[iM,iM];cases c:fr.tmps[t]? with|none=>have:fr'.tmps[t]?=V:=x3 (by rw[<-h.size];grind);rw[this];exact BK.undef<|F.k3 _ _|some x=>have b:=(dm.1 c).1;rw[h.size]at b;rw[gW b];exact h.tmps t _ _ c<|gW b
theorem jA.evs(F:yE D p fs)(h:jA D fr fr'):Evs D fr'.fn fr.eval fr'.eval:=by refine⟨λx b=>?_,λv=>⟨rfl,rfl⟩,λg=>⟨rfl,rfl⟩⟩;cases x with
 |tmp t=>exact h.getD F t|const v=>
  have e:gp D fr'.fn (gO v)=if ry v=Z then 0 else 3:=rfl;rw[e]at b⊢;by_cases c:ry v=Z;·rw[cJ c];exact⟨rfl,c⟩
  grind|global g=>exact absurd b<|by simp[gp]|func g=>exact absurd b<|by simp[gp]
theorem jA.to(h:jA D fr fr'){l}(b:∀i∈l,xS D fr'.fn i=Z):jA D {fr with todo:=l.map<|rT<|D.gen fr'.fn} {fr' with todo:=l}:=⟨h.fn,h.here,h.size,h.tmps,rfl,b,h.defers,h.mode,h.kind,h.round⟩
theorem jA.finish(h:jA D fr fr'){ops}{i}{rest}{k}(I:fr'.todo=aT ops (i::rest)::k){x x'}(Q:∀t,ops[i]?.bind (·.dst)=U t->BK (D.K fr'.fn t) x x'):jA D (fr.finish x)<|fr'.finish x':=by
 obtain⟨n,f,F,e,m,o,O⟩:=fr;obtain⟨T,c,z,b,l,g,s⟩:=fr';obtain⟨L,C,N,J,G,E,B,A,v,q⟩:=h;simp only at I L C N J G E B A v q Q;subst I L G;have M:∀j∈aT ops rest::k,xS D n j=Z:=λj H=>by
  rcases di.1 H with rfl|H;·exact E (aT ops<|i::rest)<|vi ..
  grind
 have r:(ops.map<|j7<|D.gen n)[i]?.bind (·.dst)=ops[i]?.bind (·.dst):=by rw[qV];cases ops[i]?<;>rfl
 have P:uB ⟨n,f,(aT ops (i::rest)::k).map<|rT<|D.gen n,e,m,o,O⟩ x=⟨n,(match ops[i]?.bind (·.dst)with|some d=>f.setIfInBounds d x|none=>f),(aT ops rest::k).map<|rT<|D.gen n,e,m,o,O⟩:=by rw[<-r];rfl
 have R:uB ⟨n,c,aT ops (i::rest)::k,b,l,g,s⟩ x'=⟨n,(match ops[i]?.bind (·.dst)with|some d=>c.setIfInBounds d x'|none=>c),aT ops rest::k,b,l,g,s⟩:=rfl;rw[P,R];cases X:ops[i]?.bind (·.dst)with|none=>exact⟨rfl,C,N,J,rfl,M,B,A,v,q⟩|some d=>refine⟨rfl,C,by grind,λj y W K S=>?_,rfl,M,B,A,v,q⟩;grind
theorem anq:∀{xs d}{e},IN xs d e->xs.length=d.length/\∀(i:Nat)(x y),xs[i]?=U x->d[i]?=U y->∃k,e[i]?=U k/\BK k x y
 |[],[],[],_=>⟨rfl,λi x y h _=>by grind⟩|x::xs,y::d,k::e,h=>by obtain⟨l,j⟩:=anq h.2;refine⟨by grind,λi a b f g=>?_⟩;cases i with|zero=>simp at f g;subst f g;exact⟨k,rfl,h.1⟩|succ i=>grind
 |[],_::_,_,h=>by cases h|[],[],_::_,h=>by grind|_::_,[],_,h=>by cases h|_::_,_::_,[],h=>by cases h
theorem jA.A1(F:yE D p fs){g}(l:D.T g=Z){f h}(y:IN f.toList h.toList<|D.ps g):jA D (eP (J p fs) g f eo)<|eP p g h eo:=by
 obtain⟨r,E,b,n,t,v,A,I,q,K,H,d⟩:=F.fn g l;obtain⟨L,o⟩:=anq y;have e:(J p fs).funcs[g]?=U r:=n;unfold eP;rw[e,t];simp only[ee,y9,v,A];refine⟨rfl,l,by grind,λi x m s c=>?_,rfl,λi j=>by rw[mu.1 j];exact q,⟨rfl,rfl⟩,⟨rfl,ay rfl⟩,⟨rfl,rfl⟩,⟨rfl,rfl⟩⟩;simp only[Array.getElem?_append]at s c;by_cases j:i<f.size;.obtain⟨k,C,z⟩:=o i x m (by grind) (by grind);exact z.le<|d i k C
 .have B:x=ak:=by grind
  have G:m=ak:=by grind
  rw[B,G];exact BK.undef<|F.k3 _ _
theorem uN.lost{A i}{fr:aZ}{cs}{vs}(j:fr.defers=[])(n:∀c∈cs,c.defers=[])(e:A.bare=bV (r (fr.raise vs)<|cs++[wall<|J p fs]) u):uN D p fs w0 B' A i:=by
 obtain⟨c,k⟩:=raise_mode fr vs;refine aB<|aB<|ay ⟨_,u,u.heap.size,e,ay ⟨_,cs,c,u,rfl,k,by rw[MW,j];exactλd h=>by grind,λx m=>λd h=>by grind,⟨λb o f g=>?_,λb f=>?_⟩,js.refl u⟩⟩;.have l:=(dm.1 f).1;have q:=of_decide_eq_true g;omega
 .exact Kk f
theorem yD.defers:∀{g}{cs cs'},yD D g cs cs'->∀c∈cs,c.defers=[]
 |_,_,_,.nil=>by simp|_,_,_,.cons h _ _ _ t=>λc a=>by
  rcases di.1 a with rfl|a;.exact h.defers.1
  .exact t.defers c a
theorem jA.GC(h:jA D fr fr'):∀d x y z k,fr.todo≠.call d x y z::k:=λd x y z k e=>by rw[h.todo]at e;cases b:fr'.todo with|nil=>grind|cons i l=>have:=h.items i (by grind);rw[b,gh]at e;cases i<;>first|(cases(List.cons.inj e).1;done)|(cases this)
theorem jA.M8(h:jA D fr fr'):∀d x y z k,fr'.todo≠.call d x y z::k:=λd x y z k e=>by have:=h.items (.call d x y z) (by grind);cases this
theorem aFV(F:yE D p fs)(h:jA D fr fr')(t:yD D fr'.fn cs cs')(r:iL w0 u w){ops:Array dG}{i:Nat}{rest:List Nat}{k:List eY}(n:fr'.todo=aT ops (i::rest)::k)(A:fr'.mode=.run){s q:cz Next}(hs:BS p fs w0 (BN D fr'.fn (ops[i]?.bind (·.dst))) s q):uN D p fs w0 B' (xA (J p fs) Z fr (cs++[wall<|J p fs]) V s u)<|xA p Z fr' (cs'++B') V q w:=by
 have H:=h.GC;have G:=h.M8;unfold xA;simp only[gL,Y6];rcases hs u w r with⟨a,b,j,o,l,x,e,f⟩|⟨m,j,l,d⟩
 ·rw[l,x];cases a<;>cases b<;>first|exact e.elim|skip
  ·exact ay ⟨_,cs,j,_,cs',o,by rw[B8];rfl,by rw[B8];rfl,h.finish n e,by rw[show(fr'.finish _).fn=fr'.fn from by unfold uB;grind];grind,f⟩
  ·exact ay ⟨_,cs,j,_,cs',o,by rw[B8];rfl,by rw[B8];rfl,h.finish n λt _=>BK.undef<|F.k3 _ _,by rw[show(fr'.finish ak).fn=fr'.fn from by unfold uB;grind];grind,f⟩
  ·rename_i g E I v;obtain⟨rfl,C,y,B⟩:=e;refine ay ⟨eP (J p fs) g E eo,fr::cs,j,eP p g v eo,fr'::cs',o,?_,?_,jA.A1 F C y,.cons h A n B t,f⟩
   ·rw[B8];dsimp only;split;·grind
    ·rfl
   ·rw[B8];dsimp only;split;·grind
    ·rfl
 ·rw[l];cases m<;>first|exact absurd d qq|skip
  ·exact uN.lost h.defers.1 t.defers<|by rw[B8];rfl
  ·rename_i z;cases z<;>first|exact absurd d qq|exact aB<|ay ⟨_,_,by rw[B8];rfl⟩
  ·exact aB<|ay ⟨_,_,by rw[B8];rfl⟩
end
variable{u w:ax}{B':List aZ}{fr fr':aZ}{cs cs':List aZ}
theorem acI(g)(id):∀k,exitTo id (k.map<|rT g)=(exitTo id k).map λl=>l.map<|rT g
 |[]=>rfl|i::k=>by
  cases i<;>simp only[gh,rT,exitTo]<;>first|exact acI g id k|skip
  split;.rfl
  .exact acI g id k
theorem ahN(g)(m)(ops):∀(n t)(b)(c),yp m (ops.map<|j7 g) n t b c=yp m ops n t b c
 |0,_,_,_=>rfl|n+1,t,b,c=>by
  have e:∀i:Nat,((ops.map<|j7 g)[i]?.map λo=>o.after.all λe=>! PD m e||b.getD e.on ai)=ops[i]?.map λo=>o.after.all λe=>! PD m e||b.getD e.on ai:=λi=>by rw[qV];cases ops[i]?<;>rfl
  unfold yp;simp only[AB,e,ahN g m ops n]
theorem auK(g)(ops)(t)(b):mS b (ops.map<|j7 g) t=mS b ops t:=by
 have c:amq (ops.map<|j7 g)=amq ops:=by unfold amq;rw[Array.any_map];rfl
 unfold mS Region.linearise;grind[Array.size_map,ahN]
theorem aFU(x)(h:iL w0 u w):∃n c d,(choose x).run (J p fs) u=aW n c/\(choose x).run p w=aW n d/\iL w0 c d:=by
 by_cases b:x.forced=Z;.exact⟨0,u,w,by simp[b],by simp[b],h⟩
 .exact⟨x.cut<|w.tape w.drawn x,_,_,by simp[b,h.tape,h.drawn];rfl,by simp[b];rfl,by first|exact h.draw|simpa[h.drawn,h.tape]using h.draw⟩
theorem aFS(F:yE D p fs)(H:rG p)(h:jA D fr fr')(t:yD D fr'.fn cs cs')(j:iL w0 u w)(m:fr'.mode=.run){ops}{i}{rest}{k}(b:fr'.todo=aT ops (i::rest)::k):uN D p fs w0 B' (Fy (J p fs) Z fr (cs++[wall<|J p fs]) V u)<|Fy p Z fr' (cs'++B') V w:=by
 have f:fr.todo=aT (ops.map<|j7<|D.gen fr'.fn) (i::rest)::k.map (rT<|D.gen fr'.fn):=by rw[h.todo,b];rfl
 have g:fr.oper?=ops[i]?.map (j7<|D.gen fr'.fn):=by unfold Pw;grind
 have e:fr'.oper?=ops[i]?:=by unfold Pw;grind
 unfold Fy;rw[g,e,h.round.1,h.round.2];cases d:ops[i]? with|none=>exact aB<|ay ⟨_,_,rfl⟩|some o=>have c:=h.items _ (by rw[b];exact vi ..);simp only[xS,Sk,lE,cG]at c;have l:=BS.op (fs:=fs) (w0:=w0) H F.call (h.evs F) (c o<|tR d).1;grind[aFV]
theorem aFP(h:jA D fr fr'){ops}{o}(m:Ux D fr'.fn ops o.guard=Z):eW (j7 (D.gen fr'.fn) o) (dZ (ops.map<|j7<|D.gen fr'.fn) fr.tmps)=eW o (dZ ops fr'.tmps):=by show eW o (dZ (ops.map<|j7<|D.gen fr'.fn) fr.tmps)=_;unfold eW;cases k:o.guard with|none=>rfl|some l=>
  obtain⟨j,g⟩:=l;have r:dZ (ops.map<|j7<|D.gen fr'.fn) fr.tmps j=dZ ops fr'.tmps j:=by simp only[Ux]at m;unfold dZ;rw[qV];cases q:ops[j]? with|none=>rfl|some e=>show(match e.dst.bind (fr.tmps[.]?)with|some<|cx b=>U b|_=>V)=(match e.dst.bind (fr'.tmps[.]?)with|some<|cx b=>U b|_=>V);cases s:e.dst with|none=>rfl|some d=>
     have n:D.K fr'.fn d=0:=by grind
     have:fr.tmps[d]?=fr'.tmps[d]?:=by cases f:fr.tmps[d]? with|none=>exact(x3<|by rw[<-h.size];grind).symm|some x=>have c:=(dm.1 f).1;rw[h.size]at c;have i:=h.tmps d _ _ f<|gW c;rw[n]at i;rw[gW c,i.1]
     grind
  grind
theorem aFT(F:yE D p fs)(H:rG p)(h:jA D fr fr')(t:yD D fr'.fn cs cs')(Q1:iL w0 u w)(hm:fr'.mode=.run):uN D p fs w0 B' (xz (J p fs) Z Z fr (cs++[wall<|J p fs]) V u)<|xz p Z Z fr' (cs'++B') V w:=by have vF:=λ(ops:Array dG)(i:Nat)(O:List Nat)(k:List eY)(ht:fr'.todo=aT ops (i::O)::k)=>aFS (B':=B') F H h t Q1 hm ht;have CE:=λ(ops:Array dG)(i:Nat)(O:List Nat)(k:List eY)(ht:fr'.todo=aT ops (i::O)::k)=>h.finish (x:=ak) (x':=ak) ht λt _=>BK.undef<|F.k3 _ _;have aIN:=λ(ops:Array dG)(o:dG)(hg:Ux D fr'.fn ops o.guard=Z)=>aFP h hg;have vJ:=(h.evs F).rd;have hto:=λ(l:List eY)(Q2:∀i∈l,xS D fr'.fn i=Z)=>h.to Q2;have G:=h.items;have QX:=h.todo;have oY:=h.round;have W:=h.fn;have X:jA D {fr with mode:=fI} {fr' with mode:=fI}:=⟨h.fn,h.here,h.size,h.tmps,h.todo,h.items,h.defers,⟨rfl,aB rfl⟩,h.kind,h.round⟩;obtain⟨m,v,todo,q,E,B,ro⟩:=fr;obtain⟨P,f,Q3,g,C,A,ro'⟩:=fr';simp only at QX oY W hm G t;obtain⟨rfl,rfl⟩:=oY;subst W QX;have s:∀l:List eY,(∀i∈l,xS D m i=Z)->∀QW Q,QW=bV (r (⟨m,v,l.map<|rT<|D.gen m,q,E,B,V⟩:aZ)<|cs++[wall<|J p fs]) u->Q=bV (r (⟨m,f,l,g,C,A,V⟩:aZ)<|cs'++B') w->uN D p fs w0 B' QW Q:=λl Q2 QW Q e e'=>ay ⟨_,cs,u,_,cs',w,by rw[e];rfl,by rw[e'];rfl,hto l Q2,t,Q1⟩;have N:∀QW Q,QW=bV (r (⟨m,v,Q3.map<|rT<|D.gen m,q,fI,B,V⟩:aZ)<|cs++[wall<|J p fs]) u->Q=bV (r (⟨m,f,Q3,g,fI,A,V⟩:aZ)<|cs'++B') w->uN D p fs w0 B' QW Q:=λQW Q e e'=>ay ⟨_,cs,u,_,cs',w,by rw[e];rfl,by rw[e'];rfl,X,t,Q1⟩;unfold xz;cases Q3 with|nil=>exact N _ _ rfl rfl|cons i k=>
  have I:=G i<|vi ..;have K:∀j∈k,xS D m j=Z:=λj hj=>G j<|vh _ hj;cases i<;>first|exact absurd I qq|skip
  case inBlock id=>exact s k K _ _ rfl rfl
  case inLoop c=>exact s (bF c::.inLoop c::k) (iu.2 ⟨I,iu.2 ⟨I,K⟩⟩) _ _ rfl rfl
  case inRegion ops l=>cases l with|nil=>exact s k K _ _ rfl rfl|cons i l=>
    have h1:=vF ops i l k rfl;have h2:=CE ops i l k rfl;have hyd:(((ops.map<|j7<|D.gen m)[i]?.map (eW .<|dZ (ops.map<|j7<|D.gen m) v)).getD ai)=((ops[i]?.map (eW .<|dZ ops f)).getD ai):=by rw[qV];cases ho:ops[i]? with|none=>rfl|some o=>simp only[xS,Sk,lE,cG]at I;grind
    by_cases b:((ops[i]?.map (eW .<|dZ ops f)).getD ai)=Z;.have S:=hyd.trans b;show uN _ _ _ _ _ (if((ops.map<|j7<|D.gen m)[i]?.map (eW .<|dZ (ops.map<|j7<|D.gen m) v)).getD ai=Z then _ else _) (if(ops[i]?.map (eW .<|dZ ops f)).getD ai=Z then _ else _);grind
    .have S:¬_=Z:=λe=>b<|hyd.symm.trans e;show uN _ _ _ _ _ (if((ops.map<|j7<|D.gen m)[i]?.map (eW .<|dZ (ops.map<|j7<|D.gen m) v)).getD ai=Z then _ else _) (if(ops[i]?.map (eW .<|dZ ops f)).getD ai=Z then _ else _);rw[if_neg S,if_neg b];exact ay ⟨_,cs,u,_,cs',w,rfl,rfl,h2,t,Q1⟩
  case code c=>
   cases c<;>first|exact absurd I qq|skip
   case ret=>exact N _ _ rfl rfl
   case skip=>exact s k K _ _ rfl rfl
   case seq a c=>simp only[xS,xU,cG]at I;exact s (bF a::bF c::k) (iu.2 ⟨I.1,iu.2 ⟨I.2,K⟩⟩) _ _ rfl rfl
   case block id c=>exact s (bF c::mD id::k) (iu.2 ⟨I,iu.2 ⟨rfl,K⟩⟩) _ _ rfl rfl
   case loop c=>exact s (bF c::.inLoop c::k) (iu.2 ⟨I,iu.2 ⟨I,K⟩⟩) _ _ rfl rfl
   case cond x a c=>
    simp only[xS,xU,cG,eU]at I;have hb:=(vJ x<|show gp D m x<3 by omega).data I.1;have L:∀(y y':az)(o T:Outcome),BR y y'->uN D p fs w0 B' (match y with|cx z=>bV (r ⟨m,v,bF (if z then xW (D.gen m) a else xW (D.gen m) c)::k.map (rT<|D.gen m),q,E,B,V⟩<|cs++[wall<|J p fs]) u|_=>fy o u) (match y' with|cx z=>bV (r ⟨m,f,bF (if z then a else c)::k,g,C,A,V⟩<|cs'++B') w|_=>fy T w):=by intro y y' o T hy;cases hy with|none _=>exact aB<|ay ⟨_,_,rfl⟩|byte c=>exact aB<|ay ⟨_,_,rfl⟩|int _ _=>exact aB<|ay ⟨_,_,rfl⟩|bool z=>cases z with|true=>exact s (bF a::k) (iu.2 ⟨I.2.1,K⟩) _ _ rfl rfl|false=>exact s (bF c::k) (iu.2 ⟨I.2.2,K⟩) _ _ rfl rfl
    exact L _ _ _ _ hb
   case exit id=>
    have L:∀(o T:Option<|List eY)(Q0 M:Outcome),o=T.map (λl=>l.map<|rT<|D.gen m)->(∀l,T=U l->∀i∈l,xS D m i=Z)->uN D p fs w0 B' (o.elim (fy Q0 u) λl=>bV (r ⟨m,v,l,q,E,B,V⟩<|cs++[wall<|J p fs]) u) (T.elim (fy M w) λl=>bV (r ⟨m,f,l,g,C,A,V⟩<|cs'++B') w):=by rintro _ T Q0 M rfl ho;cases T with|none=>exact aB<|ay ⟨_,_,rfl⟩|some l=>exact s l (ho l rfl) _ _ rfl rfl
    exact L (exitTo id<|k.map<|rT<|D.gen m) (exitTo id k) _ _ (acI _ id k) λl Q2 i I=>K i<|Ph id k l Q2 i I
   case region id ops d=>have R:xS D m (aT ops [])=Z:=I;cases d with|false=>refine s (aT ops (mR ops.size)::k) (iu.2 ⟨R,K⟩) _ _ ?_ rfl;show bV (r ⟨m,v,aT (ops.map<|j7<|D.gen m) (mR (ops.map<|j7<|D.gen m).size)::k.map (rT<|D.gen m),q,E,B,V⟩ _) u=_;rw[AB];rfl|true=>
     obtain⟨n,u1,w1,e1,e2,ez⟩:=aFU (p:=p) (fs:=fs) (.order m id) Q1;have L:∀(QW Q:Result Nat)(Q0 M:Outcome),QW=aW n u1->Q=aW n w1->uN D p fs w0 B' (match QW with|aW t u=>bV (r ⟨m,v,aT (ops.map<|j7<|D.gen m) (mS ((J p fs).follows nM) (ops.map<|j7<|D.gen m) t)::k.map (rT<|D.gen m),q,E,B,V⟩<|cs++[wall<|J p fs]) u|dM _ u=>fy Q0 u) (match Q with|aW t w=>bV (r ⟨m,f,aT ops (mS (p.follows nM) ops t)::k,g,C,A,V⟩<|cs'++B') w|dM _ w=>fy M w):=by rintro _ _ Q0 M rfl rfl;refine ay ⟨_,cs,u1,_,cs',w1,?_,rfl,hto (aT ops (mS (p.follows nM) ops n)::k)<|iu.2 ⟨R,K⟩,t,ez⟩;dsimp only;rw[auK];rfl
     exact L _ _ (kE "order"<|pq (J p fs) ⟨m,v,(bF (dS id ops Z)::k).map<|rT<|D.gen m,q,E,B,V⟩) (kE "order"<|pq p ⟨m,f,bF (dS id ops Z)::k,g,C,A,V⟩) e1 e2
def RI(ts:Array az):ResultVar->cz az|.tmp t=>bI<|ts.getD t ak|.cell a t=>do loadVar t<|<-asAddr<|ts.getD a ak
theorem afM(fn)(c):kD fn c=(do let b<-fn.results.mapM<|RI c;bI<|if h:b.size=1 then b[0]else bQ b):=by congr 1
theorem ani(F:yE D p fs)(h:jA D fr fr'){fn:dY}(c:(∃t,fn.results=#[.tmp t]/\D.rk fr'.fn=D.K fr'.fn t)\/D.rk fr'.fn=2/\fn.results.size≠1/\∀r∈fn.results,∃t,r=.tmp t/\D.K fr'.fn t=0):∃v o,BK (D.rk fr'.fn) v o/\(∀P z,(kD fn fr.tmps).run P z=aW v z)/\∀P z,(kD fn fr'.tmps).run P z=aW o z:=by
 rcases c with⟨t,c,k⟩|⟨k,q,c⟩
 .have e:∀(P:bZ)(d:Array az)(z:ax),(kD fn d).run P z=aW (d.getD t ak) z:=λP d z=>by rw[afM,c,GN,Y7];rfl
  exact⟨_,_,k▸h.getD F t,λP z=>e P _ z,λP z=>e P _ z⟩
 have f:∀l:List ResultVar,(∀r∈l,∃t,r=.tmp t/\D.K fr'.fn t=0)->∃b:List az,b.length=l.length/\(∀v∈b,ry v=Z)/\(∀(P:bZ)z,(l.mapM<|RI fr.tmps).run P z=aW b z)/\∀(P:bZ)z,(l.mapM<|RI fr'.tmps).run P z=aW b z:=by intro l;induction l with|nil=>intro _;exact⟨[],rfl,by simp,λ_ _=>rfl,λ_ _=>rfl⟩|cons r l x=>
   intro f;obtain⟨t,rfl,s⟩:=f r<|vi ..;obtain⟨b,y,A,m,i⟩:=x λr c=>f r<|vh _ c;have g:=h.getD F t;rw[s]at g;refine⟨fr'.tmps.getD t ak::b,by grind,λv n=>?_,λP z=>?_,λP z=>?_⟩
   .rcases di.1 n with rfl|n;.exact g.2
    grind
   .rw[GO,gK,<-g.1];show(_>>=_:cz<|List az).run P z=_;rw[gK,m P z];rfl
   .rw[GO,gK];show(_>>=_:cz<|List az).run P z=_;rw[gK,i P z];rfl
 obtain⟨b,y,A,m,i⟩:=f fn.results.toList λr j=>c r<|aib.1 j;have e:∀(P:bZ)(d:Array az)(z:ax),(fn.results.toList.mapM<|RI d).run P z=aW b z->(kD fn d).run P z=aW (if h:b.toArray.size=1 then b.toArray[0]else bQ b.toArray) z:=λP d z h=>by rw[afM,GN,Y7,gK,gK,h];rfl
 refine⟨_,_,?_,λP z=>e P _ z<|m P z,λP z=>e P _ z<|i P z⟩;rw[k,GM<|by grind];refine⟨rfl,?_⟩;show b.toArray.all ry=Z;grind
theorem aFQ(F:yE D p fs)(h:jA D fr fr')(t:yD D fr'.fn cs cs')(s:iL w0 u w)(I:fr'.mode=fI):uN D p fs w0 B' (unwind (J p fs) Z fr (cs++[wall<|J p fs]) V u)<|unwind p Z fr' (cs'++B') V w:=by
 obtain⟨o,m,b,y,E,M,O,N,L,Q,C,B⟩:=F.fn _ h.here;obtain⟨v,q,z,R,x⟩:=ani F h C;have j:(J p fs).funcs[fr.fn]?=U o:=by rw[h.fn];exact y
 have e:=R (J p fs) u;have n:kD o fr.tmps=kD m fr.tmps:=by unfold kD;grind
 rw[<-n]at e;unfold unwind;rw[h.defers.1,h.defers.2,h.mode.1,I];rw[j,E];dsimp only;rw[Y6,Y6,e,x p w];cases t with|nil=>exact aB<|aB<|aB ⟨v,u,by unfold oE;simp only[h.kind.1];rfl⟩|cons G K f g P=>
  rename_i c l cs cs' A i r k;refine ay ⟨c.finish v,cs,u,l.finish q,cs',w,?_,?_,G.finish f λd H=>?_,?_,s⟩;.unfold oE;simp only[h.kind.1];rfl
  .unfold oE;simp only[h.kind.2];rfl
  .rw[H]at g;exact BK.le z g
  .rw[show(l.finish q).fn=l.fn from by unfold uB;rw[f]];grind
theorem aFR(F:yE D p fs)(H:rG p)(h:jA D fr fr')(t:yD D fr'.fn cs cs')(c:iL w0 u w):uN D p fs w0 B' (cj (J p fs) Z (r fr<|cs++[wall<|J p fs]) u)<|cj p Z (r fr'<|cs'++B') w:=by
 unfold cj r;dsimp only;rw[h.mode.1];rcases h.mode.2 with b|b;.grind[aFT]
 grind[aFQ]
theorem bare_go{r:GStep}{g}{u}(h:r.bare=bV g u):∃a,r=bV g u a:=by
 cases r<;>first|cases h
 grind
theorem ahJ{fr fr'}{cs cs'}{w w'}(h:iZ fr cs w=iZ fr' cs' w'):fr=fr'∧cs=cs'∧w=w':=by
 refine⟨?_,?_,congrArg Machine.world h⟩;·have:=congrArg (λm=>m.gs[0]?.map (·.frame)) h;simpa[iZ]using this
 ·have:=congrArg (λm=>m.gs[0]?.map (·.callers)) h;simpa[iZ]using this
theorem anh(F:yE D p fs)(H:rG p){f:aZ}{W:ax}{v:az}(B:f.leaving (J p fs) W<|bj v):∀(n:Nat)(fr fr':aZ)(cs cs':List aZ)(u w:ax),jA D fr fr'->yD D fr'.fn cs cs'->iL w0 u w->runN (J p fs) n (iZ fr (cs++[wall<|J p fs]) u)=fR (iZ f [wall<|J p fs] W)->∃m c,Steps p (iZ fr' (cs'++B') w) (iZ c B' m)/\jA D f c/\iL w0 W m
 |0,fr,fr',cs,cs',u,w,h,t,y,e=>by
  have b:iZ fr (cs++[wall<|J p fs]) u=iZ f [wall<|J p fs] W:=by simpa[runN]using e
  obtain⟨rfl,C,rfl⟩:=ahJ b;cases t with|nil=>grind[Steps.refl]|cons _ _ _ _ _=>simp at C
 |n+1,fr,fr',cs,cs',u,w,h,t,y,e=>by
  rcases aFR (B':=B') F H h t y with⟨j,k,i,c,z,m,b,l,G,E,x⟩|⟨o,i,b⟩|⟨g,i,N,b,d⟩|⟨q,i,b⟩;.obtain⟨r,b⟩:=bare_go b;obtain⟨I,l⟩:=bare_go l;rw[runN,Ge b]at e;obtain⟨O,K,L,M,Q⟩:=anh F H B n _ _ _ _ _ _ G E x e;grind[Steps.head,Ge]
  .have:step (J p fs) (iZ fr (cs++[wall<|J p fs]) u)=.ended o i:=step_lone_ended b;rw[runN,this]at e;grind
  .exfalso;obtain⟨r,b⟩:=bare_go b;obtain⟨j,k,rfl⟩:=d.form;rw[runN,Ge b]at e;exact YF B.1 n j k i d e
  .obtain⟨r,b⟩:=bare_go b;rw[runN,Ge b]at e;cases n with
   |zero=>
    have b:iZ ((wall<|J p fs).finish q) [] i=iZ f [wall<|J p fs] W:=by simpa[runN]using e
    grind[ahJ]|succ n=>obtain⟨o,m,r,l⟩:=Mr (P:=J p fs) q i;have A:runN (J p fs) (n+1) (iZ ((wall<|J p fs).finish q) [] i)=fR (iZ f [wall<|J p fs] W):=e;unfold runN at A;rw[Re l]at A;grind
theorem anj(F:yE D p fs)(H:rG p){g}(T:D.T g=Z){x o}(L:IN x.toList o.toList<|D.ps g)(y:iL w0 u w){R:az->ax->Prop}(K:bz (J p fs) g x u λe f=>∃v,e=bj v/\R v f):bz p g o w λe S=>∃v h f,e=bj h/\R v f/\BK (D.rk g) v h/\iL w0 f S:=by
 intro B';obtain⟨e,f,fr,⟨v,rfl,M⟩,⟨n,Q⟩,k,s⟩:=K [wall<|J p fs];obtain⟨t,i,Q0,d,m⟩:=anh (B':=B') F H s n _ _ [] [] u w (jA.A1 F T L) .nil y Q;obtain⟨q,j,b,A,I,a,e4,Y,X,e7,G,C⟩:=F.fn _ d.here;obtain⟨r,h,B,r1,z⟩:=ani F d G;obtain⟨P,hd,hk,O,E,W⟩:=s;have c:=d.fn.symm.trans k;have V:kD q fr.tmps=kD j fr.tmps:=by unfold kD;grind
 have N:(J p fs).funcs[fr.fn]?=U q:=by rw[d.fn];exact A
 have l:r=v:=by grind
 subst l;exact⟨bj h,t,i,⟨r,h,f,rfl,M,c▸B,m⟩,Q0,c,d.mode.1.symm.trans P,d.defers.2,d.kind.2,j,I,z p t⟩
end
section
open Go Go.Proofs Go.Shelf
def WJ:List Nat:=[197,208,212,225,226,231,232,233,234,235,236,237,238,239,245,246,254,255,256,257,262]
def asq:Nat->Nat|212=>20551738933448695970004992|231=>74767067512832|232=>299067162755072|233=>4899916463298576384|234=>562949953421312|235=>35651584|236=>1446221477643791248969357883997226532864|237=>24867|238=>80280383332339534790656|239=>24845622612882832247533482416378094206659464790016|246=>4370612516|254=>4796154602673890394112|257=>25|262=>2236416|_=>0
def ass:Nat->Nat|197=>1065|212=>5617483664380096270254521751908365893633|231=>468709937250305|232=>40154757423169537|233=>30706245946853818497|234=>20100446945793|235=>223690753|236=>9066177787099598164671015674677074853889|238=>503706889378935270451201|239=>155890296660192168261890238920840095753930246803457|246=>3815880921|254=>30882309152275437715457|255=>8325|256=>6871947281|262=>10048521|_=>0
def Rh:Nat->List Nat|197=>[2]|208=>[0]|212=>[2,0,0,0]|225=>[0]|226=>[0]|231=>[2,0,0]|232=>[2,0,0]|233=>[2,0,0]|234=>[2,0,0]|235=>[2,0,0]|236=>[2,0,0]|237=>[1,1]|238=>[2,0,0,0]|239=>[2,0,0,0]|245=>[0]|246=>[2]|254=>[2,0,0,0]|255=>[2,0,2]|256=>[2,0,0,0,2]|257=>[1]|262=>[2,0,0,2]|_=>[]
def Jq(f t:Nat):Nat:=if(ass f).testBit t then 2 else if(asq f).testBit t then 1 else 0
def BE:uH:={T:=λf=>WJ.contains f,K:=Jq,gen:=λf=>!([208,225,226,245,246]:List Nat).contains f,ps:=Rh,rk:=λf=>if f=246 then 1 else if([208,225,226,236,237,238,245,246,255,256,257]:List Nat).contains f then 0 else 2}
def aep:CW:=⟨λ|190=>197|125=>208|258=>212|128=>225|129=>226|302=>231|303=>232|304=>233|305=>234|306=>235|307=>236|308=>237|309=>238|310=>239|333=>254|329=>245|330=>246|334=>255|335=>256|336=>257|344=>262|n=>n,λ|31=>51|9=>9|3=>3|46=>169|0=>0|51=>123|53=>120|4=>4|183=>309|182=>308|131=>313|5=>5|218=>334|222=>337|228=>344|229=>39|n=>n,λ|n=>n⟩
noncomputable def Pb:Array dY:=[(197,Body.n190),(212,Body.n258),(231,Body.n302),(232,Body.n303),(233,Body.n304),(234,Body.n305),(235,Body.n306),(236,Body.n307),(237,Body.n308),(238,Body.n309),(239,Body.n310),(254,Body.n333),(255,Body.n334),(256,Body.n335),(257,Body.n336),(262,Body.n344)].foldl (λa p=>a.setIfInBounds p.1<|p.2 aep) iP
noncomputable abbrev asr:bZ:=J Q Pb
theorem aeq:Go.Proofs.Lays.n190 asr aep:=by constructor<;>intros<;>kernel_rfl
def amM(f:Nat)(fn:dY):Bool:=(match fn.results.toList with|[.tmp t]=>BE.rk f==Jq f t|l=>BE.rk f==2&&! l.length==1&&l.all λr=>match r with|.tmp t=>Jq f t==0|_=>ai)&&((mR (Rh f).length).all λi=>match(Rh f)[i]? with|some k=>En k<|Jq f i|none=>Z)&&match fn.body with|some b=>xU BE f b|none=>ai
theorem ast(f i:Nat):Jq f i<3:=by
 unfold Jq;split;.omega
 .split<;>omega
def Yc(fn:dY):Bool:=!(fn.name== "runtime.NumGoroutine"||fn.body.isNone)
theorem asu{f:Nat}(h:BE.T f=Z):Pb[f]?.map (λfn=>(fn.body,fn.ntmps,fn.results))=Q.funcs[f]?.map (λfn=>(fn.body.map<|xW<|BE.gen f,fn.ntmps,fn.results))/\Q.funcs[f]?.any (λfn=>amM f fn&&Yc fn)=Z/\Pb[f]?.any Yc=Z:=by
 have:f∈WJ:=by simpa[BE]using h
 simp only[WJ,di,dJ,dQ]at this;rcases this with rfl|rfl|rfl|rfl|rfl|rfl|rfl|rfl|rfl|rfl|rfl|rfl|rfl|rfl|rfl|rfl|rfl|rfl|rfl|rfl|rfl<;>refine⟨?_,?_,?_⟩<;>kernel_rfl
theorem aer:yE BE Q Pb:=by
 refine⟨λf hf=>?_,λf hf=>?_,ast⟩;all_goals
  obtain⟨h1,h2,h3⟩:=asu hf;rcases ha:Pb[f]? with _|fn;.rw[ha]at h3;cases h3
  rcases hb:Q.funcs[f]? with _|P;.rw[hb]at h2;cases h2
  rw[ha,hb]at h1;rw[ha]at h3;simp only[hb,Option.any_some,cG,Yc,Ks]at h2 h3;simp only[ee,dX,GS]at h1
 .obtain⟨h4,B,C⟩:=h1;obtain⟨c,-⟩:=h2;unfold amM at c;simp only[cG]at c;obtain⟨⟨c1,c3⟩,c4⟩:=c;cases hb:P.body with|none=>rw[hb]at c4;cases c4|some b=>
  rw[hb]at c4 h4;refine⟨fn,P,b,rfl,rfl,hb,h4,B,c4,C,?_,λi k A=>?_⟩
  .split at c1;.rename_i t ht;exact ay ⟨t,by rw[<-Array.toArray_toList (xs:=P.results),ht],of_decide_eq_true c1⟩
   .simp only[cG,lQ,Ks,Ns]at c1;refine aB ⟨c1.1.1,by simpa using c1.1.2,λr hr=>?_⟩;have:=ND.1 c1.2 r<|aib.2 hr;cases r with|tmp t=>exact⟨t,rfl,of_decide_eq_true this⟩|cell _ _=>cases this
  .have:=ND.1 c3 i<|SQ.2 (SU.1 A).1;have E:(Rh f)[i]?=U k:=A;rw[E]at this;exact this
 .exact⟨λal u=>Pr (alb (q:=Q) ha) h3 al u,λal w=>Pr (q:=aD) (fs:=iP) hb h2.2 al w⟩
end
section
open Go Go.Proofs Go.Shelf Go.RowKit Go.Sort
theorem aeo:rG Q:=by
 have a:∀{t},zO t=Z->t=3\/t=5\/t=9\/t=334:=λ{t}h=>by simp only[zO,jT,lQ]at h;grind
 have b:∀{t},ya t=Z->t=3\/t=5\/t=120\/t=123\/t=169\/t=308\/t=334:=λ{t}h=>by simp only[ya,jT,lQ]at h;grind
 refine⟨λt h=>?_,λt h=>?_,QJ,ao9,tB,By,qP,λt h=>?_⟩
 .rcases a h with rfl|rfl|rfl|rfl;.exact apG
  .exact apE
  .exact apD
  .exact apF
 .rcases a h with rfl|rfl|rfl|rfl;.exact apu
  .exact adD
  .exact aps
  .exact apt
 .rcases b h with rfl|rfl|rfl|rfl|rfl|rfl|rfl;.exact⟨_,Mv⟩
  .exact⟨_,yF⟩
  .exact⟨_,apk⟩
  .exact⟨_,apj⟩
  .exact⟨_,api⟩
  .exact⟨_,ape⟩
  .exact⟨_,apd⟩
def xR:az->az|Y aq n=>if 0<=n/\n<256 then aE ⟨#[kT n.toNat]⟩else bQ #[]|_=>bQ #[]
def Sc:Obj->Obj|aH c e f=>aH (c.map xR) e f|_=>uA V
def vc(w:ax):ax:={w with heap:=w.heap.map Sc}
theorem av7(n):xR (Y aq n)=if 0<=n/\n<256 then aE ⟨#[kT n.toNat]⟩else bQ #[]:=rfl
theorem av8(b):xR (Y aq b.toNat)=aE ⟨#[b]⟩:=by have h:=UInt8.toNat_lt b;rw[av7,cJ ⟨by omega,by omega⟩];simp
theorem agk(v):xR v=bQ #[]\/∃b,v=Y aq b.toNat/\xR v=aE ⟨#[b]⟩:=by unfold xR;grind[UInt8.toNat_ofNat',Nat.mod_eq_of_lt]
theorem av9(v):BC (U v) (xR v) v:=by
 rcases agk v with h|⟨b,rfl,h⟩;.exact ay ⟨h,rfl⟩
 .rw[h];exact aB ⟨by simp,.byte b⟩
theorem aG5{v x'}(h:BC (U v) (xR v) x'):x'=v:=by
 rcases h with⟨_,h⟩|⟨c,a⟩;.grind
 .rcases agk v with h|⟨b,rfl,h⟩;.grind
  .rw[h]at a;cases a;rfl
theorem agl(w):iL w (vc w) w:=by
 refine⟨rfl,rfl,rfl,rfl,by simp[vc],aQ _,λb o j h g=>?_⟩;simp only[vc,qV,g,ee,dX]at h;subst h;rw[g];cases j<;>first|exact⟨rfl,by simp⟩|skip
 rename_i c e f;refine⟨c,rfl,by simp,λi x k d a=>?_,aB ⟨c,rfl,by simp⟩⟩;simp only[qV,a,ee,dX]at d;subst d;show BC c[i]? _ _;grind[av9]
theorem aG4{o o'}(h:BO (U o) (Sc o) o'):o'=o:=by
 cases o<;>first|exact(tQ h.1).symm|skip
 rename_i c e f;obtain⟨d,rfl,j,b,-⟩:=h;congr 1;refine Array.ext (by grind) λi g k=>?_;have:=b i (xR c[i]) d[i] (by grind)<|gW g;grind[cell0,Array.getElem?_eq_getElem,aG5]
theorem aG3{w a w'}(h:iL w a w'){b}(j:b<w.heap.size)(f:a.heap[b]?=(vc w).heap[b]?):w'.heap[b]?=w.heap[b]?:=by
 have g:w.heap[b]?=w.heap[b]:=by grind
 have c:a.heap[b]?=Sc w.heap[b]:=by grind[vc]
 obtain⟨i,e,d⟩:=h.right c;grind[aG4]
theorem asA(xs):(xs.map λb=>[b]).mergeSort λx y=>bP<|x<=y=(kZ xs).map λb=>[b]:=by
 unfold kZ;rw[List.map_mergeSort];intro a _ b _;rw[AF];simp only[eU];constructor;.intro h c;grind[List.cons_lt_cons_iff,UInt8.not_lt]
 .intro h;exact UInt8.not_lt.1 λd=>h<|Kq.2<|ay d
theorem aey:acM:=by
 intro B v d w ho a hx;have D:∀{K A:az},BK (BE.rk 197) K A->K=bQ #[]->A=bQ #[]:=λh e=>h.1.symm.trans e;have t:∀v:az,Fi v=Z->IN #[v].toList #[v].toList (BE.ps 197):=λv h=>⟨⟨rfl,h⟩,trivial⟩;have o:∀{f u:ax},iL w f u->f.os=w.os->f.tape=w.tape->f.output=w.output->(∀b,b<B->f.heap[b]?=(vc w).heap[b]?)->aY B w u:=λ{f u}h G e2 T e4=>⟨h.os.symm.trans G,h.tape.symm.trans e2,h.output.symm.trans T,h.Il,λb q=>aG3 h (cB q a)<|e4 b q⟩;rcases ho.2 with⟨rfl,M⟩|⟨g,x,p,rfl,j,hg,R,P,h3,O⟩
 ·refine(anj aer aeo (g:=197) rfl (t _ rfl) (agl w) (R:=λv f=>v=bQ #[]∧f=vc w)<|(Any.slices_Sort_string_none aeq V 0<|vc w).mono ?_).mono ?_;·grind
  ·rintro e u⟨v,A,f,rfl,⟨R,rfl⟩,hk,z⟩;refine⟨by grind,⟨by simp[kZ],ay ⟨rfl,M⟩⟩,o z rfl rfl rfl λb q=>rfl⟩
 ·have Q0:g<w:=by grind
  have s:(vc w).heap[g]?=U (aH (p.map xR) 5 (0,0)):=by grind[vc,Sc]
  have r:(d.map λb=>[b]).length=d.length:=by simp
  have S:Holds encStr (vc w) g 0 (d.map λb=>[b]).toArray:=by
   refine holds_of_block s ?_;rw[r];have:(p.map xR).toList.take d.length=(p.toList.take d.length).map xR:=by simp
   rw[SN]at O;rw[this,O,Ex,Ex];refine Ke λb _=>?_;rw[aia,aia,av8]
  have L:=Any.slices_Sort_string aeq g 0 x (d.map λb=>[b]) (vc w) S (by grind) (by grind);rw[r,asA]at L;refine(anj aer aeo (g:=197) rfl (t _ rfl) (agl w) (R:=λv f=>v=bQ #[]∧∃n os,f=grow (putRow encStr (Sort.ahead (vc w) n) g 0 ((kZ d).map λb=>[b]).toArray) os)<|L.mono ?_).mono ?_;·grind
  ·rintro e u⟨v,A,f,rfl,⟨X,n,os,Q1⟩,hk,z⟩;have J:((kZ d).map λb=>[b]).length=(d.map λb=>[b]).length:=by simp[kZ]
   have k:=ownsRow_sorted (os:=os) (n:=n) J j s (by grind) P (by grind);have c:=grownBy_sorted (w:=vc w) (g:=g) (n:=n) (os:=os) (d:=((kZ d).map λb=>[b]).toArray);rw[<-Q1]at k c;refine⟨by grind,⟨by grind,aB ?_⟩,?_⟩
   ·rcases k.2 with⟨e,_⟩|⟨g',Q,m,e,_,I,-,-,q3,F⟩;·cases e
    ·cases e;obtain⟨o',C,N,rfl,hs,H,-⟩:=z.right I;refine⟨g,x,N,rfl,j,C,R,P,by grind,?_⟩;rw[SN]at F⊢;rw[r]at F;refine List.ext_getElem? λi=>?_;by_cases hi:i<d.length
     ·have E:i<(kZ d).length:=by grind
      have W:i<m.size:=by grind
      have G:m[i]?=U (aE ⟨#[(kZ d)[i]]⟩):=by have:=congrArg (λl:List az=>l[i]?) F;grind
      rw[aij hi,Array.getElem?_toList,gW<|by omega,List.getElem?_map,mq E];have q:=(H i _ _ G<|gW<|by omega).r;generalize N[i]=y at q;cases q;rfl
     grind
   ·refine o z (by rw[c.os];rfl) (by rw[c.tape];rfl) (by rw[c.output];rfl) λb q=>c.block b (by grind)<|by grind
end
section
open Go.RowKit
def lC(L:List s)(p:ByteArray):List UInt8:=mJ []<|(gy<|su L p).map<|tP p.size
def qw(L:List s)(p:ByteArray):List<|UInt8×Int:=(kZ<|lC L p).map λc=>(c,C<|ep L<|push p c)
def Ek(L:List s)(p:ByteArray):Nd:=⟨p,qw L p⟩
theorem M7:∀(l a:List UInt8),a.Nodup->(mJ a l).Nodup
 |[],a,h=>h|c::l,a,h=>by
  unfold mJ;split;.exact M7 l a h
  .rename_i b;refine M7 l _ ?_;grind
theorem Zu(L)(p)(l:List UInt8):(l.map<|x8 L p).map (·.1)=l:=by rw[Ex];exact List.map_id'' (λ_=>rfl) l
theorem ag4{l:List UInt8}(h:l.Nodup):l.length<=256:=by
 have b:l.map (·.toNat)⊆mR 256:=λn c=>by grind[UInt8.toNat_lt]
 have:=List.Nodup.length_le_of_subset (by grind[UInt8.toNat_inj]) b;grind
theorem aex{l}{c}:c∈kZ l↔c∈l:=List.mem_mergeSort
theorem aiE(b)(h):(gZ (b,h)).cells=#[Y aq b.toNat,Y aq<|h/72057594037927936%256,Y aq<|h/281474976710656%256,Y aq<|h/1099511627776%256,Y aq<|h/4294967296%256,Y aq<|h/16777216%256,Y aq<|h/65536%256,Y aq<|h/256%256,Y aq<|h%256]:=rfl
theorem XG:∀(l:List UInt8),fO (λb:UInt8=>Y aq (b.toNat:Int)) l=l.map λb=>Y aq (b.toNat:Int)|[]=>rfl|b::l=>by show Y aq (b.toNat:Int)::fO (λb:UInt8=>Y aq (b.toNat:Int)) l=_;rw[XG l];rfl
structure anS(w3:ax)(N:Nat)(p:ByteArray)(K:List<|UInt8×Int)(j:Nat)(kv:az)(W:ax):Prop where box:W.heap[N+1]?=U (aH #[aE p,kv] 184 (0,0))row:W.ownsRow w3.heap.size 233 9 kv j (fO gZ<|K.take j)keep:O (λb=>b=N+1) w3 W
set_option maxHeartbeats 4000000 in
theorem ag9(m)(L)(pfx)(w)(hp:pfx.size<=4096)(hB:cI w m L)(hL:L.length<=1073741824)(ht:fx w)(hF:∀x∈L,Fit x)(D:∀k∈gy<|su L pfx,pfx.size<k.size∧(tP pfx.size k).toNat<128):bz Q 104 #[bW m,pfx] w λe w'=>∃kv,e=bj (bO #[pfx,kv])∧w'.ownsRow w 233 9 kv (qw L pfx).length (fO gZ<|qw L pfx)∧aY w w w':=by
 have zu:=hB.lt;obtain⟨a,K⟩:=ex<|(w.alloc<|aH #[aE ⟨#[]⟩,aC V 0 0] 184).alloc<|aH #[aE pfx,aC V 0 0] 184;have P:aY w w a:=by rw[K];exact((dK _ _).alloc (aQ _) _).alloc (by simp) _
 have ko:a.heap.size=w+2:=by rw[K];simp
 have EE:a.heap[w.heap.size]?=U (aH #[aE ⟨#[]⟩,aC V 0 0] 184 (0,0)):=by grind[Below.heap_alloc,World.alloc_heap_new]
 have oX:a.heap[w.heap.size+1]?=U (aH #[pfx,aC V 0 0] 184 (0,0)):=by grind[World.alloc_heap_new,World.size_alloc]
 have HC:=X<|aiD m L pfx a hp (hB.of_block<|P.block m zu) hL (ht.below P<|aQ _) hF D;have A:=Dr.mk K P ko EE oX;clear hB ht hF D K P ko EE oX;go_enter aq0,ntmps104;go_wp2_with(go_at_call 159;rw[<-A.a];go_must(refine HC.out.mono ?_);rintro e N⟨m2,rfl,Ow,Ov,uq⟩;have F:=gR.mk Ow Ov uq;clear Ow Ov uq;refine Halt.of ?_);unfold Halt;obtain⟨es,zx⟩:=ex<|(lC L pfx).map<|x8 L pfx;have Uj:cU lS N m2 es:=by rw[zx];exact F.a
 have jo:(es.map (·.1)).Nodup:=by rw[zx,Zu];exact M7 _ _ Y4
 have hle:es.length<=256:=by grind[List.length_map,ag4]
 have oB:es.map (·.1)=lC L pfx:=by grind[Zu]
 have G:=Dr.mk Uj jo hle oB zx;clear Uj jo hle oB zx HC;go_wp2_with(go_at_call 161;go_must(refine(aiH m2 N).mono ?_);rintro e w3⟨rfl,ug⟩;have H3:=X ug;clear ug;refine Halt.of ?_);unfold Halt;have HS:=X (aew aey m2 es w3 (G.a.of_block<|by rw[H3.out];exact dr _ _ _ G.a.lt) G.b G.c N.heap.size<|by rw[H3.out];go_simp);go_wp2_with(go_at_call 160;go_must(refine HS.out.mono ?_);rintro e w4⟨sv,rfl,l,yj⟩;have W:=cH.mk l yj;clear l yj;refine Halt.of ?_);unfold Halt;obtain⟨r,H⟩:=ex<|kZ<|lC L pfx;have Oy:es.length=r.length:=by rw[H,<-G.d];simp[kZ]
 have l:w4.ownsRow w3 5 1 sv r.length<|r.map λb=>Y aq (b.toNat:Int):=by have:=W.a;rw[G.d,<-H,Oy]at this;grind
 have aJp:r.length<=256:=by rw[<-Oy];exact G.c
 obtain⟨JH,JG,rfl⟩:=fV l;have A0:aY N N w4:=by
  have h3:aY N N w3:=by rw[H3.out];exact(dK _ _).alloc (aQ _) _
  exact h3.trans ⟨W.b.os,W.b.tape,W.b.output,W.b.size,λb hb=>W.b.block b<|by have:=h3.size;omega⟩
 have azS:=A0.size;have ai2:=F.c.size;have zC:w4.heap[w.heap.size+1]?=U (aH #[aE pfx,aC V 0 0] 184 (0,0)):=(A0.block _<|by have:=A.c;omega).trans<|(F.c.block _<|by have:=A.c;omega).trans A.e;have K4:w4.heap[w.heap.size]?=U (aH #[aE ⟨#[]⟩,aC V 0 0] 184 (0,0)):=(A0.block _<|by have:=A.c;omega).trans<|(F.c.block _<|by have:=A.c;omega).trans A.d;have K5:=G.a.of_block<|A0.block _ G.a.lt;have hK:qw L pfx=r.map λc=>(c,C<|ep L<|push pfx c):=by rw[H];rfl
 have Ox:∀c∈r,look es c=(iy<|C<|ep L<|push pfx c):=λc hc=>by rw[G.e,Nh,cJ<|aex.1<|H▸hc];rfl
 have y:(qw L pfx).length=r.length:=by grind
 have Vu:=X<|A.b.trans<|(⟨F.c.os,F.c.tape,F.c.output,F.c.size,λb hb=>F.c.block b<|by have:=A.c;omega⟩:aY w.heap.size a N).trans ⟨A0.os,A0.tape,A0.output,A0.size,λb hb=>A0.block b<|by have:=A.c;omega⟩;have qZ:w3.heap.size=N+1:=by rw[H3.out];simp
 have wX:w+1<m2∧m2<w4∧w.heap.size+1<w3∧w3.heap.size<=w4:=⟨by have:=A.c;have:=F.b;omega,K5.lt,by have:=A.c;omega,W.b.size⟩;have Fb:anS w4 w pfx (qw L pfx) 0 (aC V 0 0) w4:=⟨zC,mL _ _ _ _,O.refl _ _⟩;have HX:=FT.mk l K5 hK Ox y Fb K4 wX;clear HS G W H3 F A H Oy l A0 azS ai2 zC K4 K5 hK Ox y Fb wX qZ;go_wp2;go_loopg[18]r.lengthλk Xv wr=>∃(j:Nat)(kv:az),Xv=Y aG j∧k+j=r.length∧anS w4 w.heap.size pfx (qw L pfx) j kv wr;case atStart=>exact⟨0,_,rfl,by omega,HX.f⟩
 case round=>
  obtain⟨j,kv,rfl,D,n⟩:=hrel;by_cases hj:j<r.length
  ·obtain⟨q,f,rfl⟩:=fV n.row;obtain⟨l,K5,hK,Ox,y,-,K4,wX⟩:=kp HX;have ajr:pH 5 1 (λb:UInt8=>Y aq (b.toNat:Int)) wr (aC JH r.length JG) r:=by unfold pH;rw[XG];exact dB (jD l<|lP _) λb hb=>n.keep.block b (l.lt b hb).2<|by have:=(l.lt b hb).1;omega
   obtain⟨g,Dc,hv,hg,hY⟩:=ajr.cell (λ_=>rfl) hj;simp only[wQ]at hv;obtain⟨rfl,-,rfl⟩:=hv;obtain⟨c,hc⟩:=ex r[j];have y0:wr.cell? ⟨g,j,V⟩=U (Y aq (c.toNat:Int)):=by have:=hY 0 (Y aq (r[j].toNat:Int)) (by decide) rfl;grind
   have b0:wr.cell? ⟨w.heap.size+1,0,V⟩=U (aE pfx):=M n.box 0;have b1:wr.cell? ⟨w+1,1,V⟩=U (aC q j f):=M n.box 1;have I:=Ox c<|hc▸nC hj;have gB:fO gZ ((qw L pfx).take<|j+1)=fO gZ ((qw L pfx).take j)++(gZ (c,C<|ep L<|push pfx c)).cells.toList:=by rw[RB gZ (qw L pfx)<|by grind];grind
   rw[aiE]at gB;unfold iy at I;obtain⟨h,hh⟩:=ex<|C<|ep L<|push pfx c;rw[<-hh]at I gB;obtain⟨d0,e0⟩:∃d,d=h/72057594037927936%256:=⟨_,rfl⟩;obtain⟨d1,e1⟩:∃d,d=h/281474976710656%256:=⟨_,rfl⟩;obtain⟨d2,e2⟩:∃d,d=h/1099511627776%256:=⟨_,rfl⟩;obtain⟨d3,e3⟩:∃d,d=h/4294967296%256:=⟨_,rfl⟩;obtain⟨d4,e4⟩:∃d,d=h/16777216%256:=⟨_,rfl⟩;obtain⟨d5,e5⟩:∃d,d=h/65536%256:=⟨_,rfl⟩;obtain⟨d6,e6⟩:∃d,d=h/256%256:=⟨_,rfl⟩;obtain⟨d7,e7⟩:∃d,d=h%256:=⟨_,rfl⟩;rw[<-e0,<-e1,<-e2,<-e3,<-e4,<-e5,<-e6,<-e7]at I gB;have O0:=K5.of_block (n.keep.block _ wX.2.1<|by omega);have oC:(j:Int)<(r.length:Int):=by omega
   have u:=Dr.mk n gB O0 I wX;have aCv:=(dm.1 n.box).1;have aIO:=n.keep.size;clear l K5 hK Ox y K4 ajr hY I gB hh e0 e1 e2 e3 e4 e5 e6 e7 O0 n hc wX;go_wp2_with(first|(at_lookup;refine Qp _ lS rfl _ _ 245 rfl 5 76 F8 yF _ (Qk _) m2 es c rfl u.c rfl ?_;rw[u.d];simp only[fW])|(at_builtin;go_must(refine app1 rfl rfl adB aiW rfl rfl (dB u.a.row λb hb=>dr _ _ _ (u.a.row.lt b hb).2) rfl (by grind) rfl rfl (by omega) (by simp;omega) ?_);intro v7 w7 B yg _ lI;refine Halt.of ?_));have E:=(yg.block _ (by simp;omega) λe=>by have:=(u.a.row.lt _ e.symm).1;have:=u.e;omega).trans<|(dr _ _ _ aCv).trans u.a.box;have hc7:w7.cell? ⟨w+1,1,V⟩=U (aC q j f):=M E 1;have hf7:w7.frozen? ⟨w+1,1,V⟩=ai:=by simp[yu,E]
   obtain⟨g7,acf,Z6⟩:=Ca B;have aBb:v7.ownBlock≠U (w.heap.size+1):=λe=>by have:=(B.lt _ e).1;have:=u.e;omega
   have H7:=uJ.mk B yg E aBb;subst Z6;unfold Halt;go_wp2;go_roundg(gk-1);case rel=>
    refine⟨j+1,aC (U ⟨g7,0,V⟩) (j+1) acf,by go_simp,by omega,⟨?_,?_,?_⟩⟩;·have:=DV (i:=1) (u:=aC (U ⟨g7,0,V⟩) (j+1) acf) H7.c;grind
    ·rw[u.b];exact JR H7.a H7.d _
    ·have D:=u.a.keep;have yg:=H7.b;refine⟨yg.os.trans D.os,yg.tape.trans D.tape,yg.output.trans D.output,by rw[Am];have:=yg.size;simp at this;omega,λb hb hn=>?_⟩;rw[gJ _ _ _ _ hn];exact(yg.block b (by simp;omega) λe=>by have:=(u.a.row.lt _ e.symm).1;omega).trans<|(dr _ _ _<|by omega).trans<|D.block b hb hn
   grind
  ·have R:j=r.length:=by omega
   have uk:gk=0:=by omega
   subst uk;obtain⟨q,f,rfl⟩:=fV n.row;have b0:wr.cell? ⟨w+1,0,V⟩=U (aE pfx):=M n.box 0;have b1:wr.cell? ⟨w+1,1,V⟩=U (aC q j f):=M n.box 1;have KW:=(n.keep.block _ (by have:=HX.h;omega)<|by omega).trans HX.g;have n0:wr.cell? w=U (aE ⟨#[]⟩):=M KW 0;have n1:wr.cell? ⟨w,1,V⟩=U (aC V 0 0):=M KW 1;have nf0:wr.frozen? w=ai:=by simp[yu,KW]
   have nf1:wr.frozen? ⟨w,1,V⟩=ai:=by simp[yu,KW]
   have u:=gR.mk n R KW;clear n R KW hj;go_wp2;have Lb:((wr.setCell w pfx).setCell ⟨w,1,V⟩<|aC q j f).heap[w.heap.size]?=U (aH #[pfx,aC q j f] 184 (0,0)):=by have h1:=DV (i:=0) (u:=aE pfx) u.c;have h2:=DV (i:=1) (u:=aC q j f) h1;simpa using h2
   refine tV (results_cell_row rfl _ _ w.heap.size 184 _ (0,0) _ rfl Lb adA rfl<|by kernel_rfl) rfl ?_;obtain⟨n,R,-⟩:=u;obtain⟨-,-,hK,-,y,-,-,wX⟩:=HX;have jG:=n.row;rw[GP<|by grind]at jG;refine⟨_,rfl,?_,?_⟩
   ·rw[y,<-R];have jH:∀b,(aC q j f).ownBlock=U b->b≠w:=λb hb e=>by have:=(jG.lt b hb).1;omega
    exact JR (JR (jD jG<|by omega) (λe=>jH _ e rfl) _) (λe=>jH _ e rfl) _
   ·refine Vu.out.trans ⟨n.keep.os,n.keep.tape,n.keep.output,by rw[Am,Am];exact n.keep.size,λb hb=>?_⟩;rw[gJ _ _ _ _<|show b≠w.heap.size by omega,gJ _ _ _ _<|show b≠w.heap.size by omega];exact n.keep.block b (by omega)<|by omega
theorem ahB{t s:Type}(f:t->s):∀(l:List t)(j:Nat),(l.eraseIdx j).map f=(l.map f).eraseIdx j|[],_=>rfl|_::_,0=>rfl|x::l,j+1=>by simp[ahB f l j]
section
variable {κ:Type} [DecidableEq κ]
def del(es:List<|κ×az)(k:κ):List<|κ×az:=es.filter λp=>! bP (p.1=k)
theorem alK(k:κ):∀{es:List<|κ×az},(es.map (·.1)).Nodup->match es.findIdx? λp=>p.1=k with|some j=>es.eraseIdx j=del es k∧j<es.length|none=>del es k=es
 |[],_=>rfl|(a,v)::es,h=>by
  simp only[gh,Cg]at h;rw[Zo];by_cases e:a=k;·subst e;simp only[decide_true,gL];refine⟨?_,by simp⟩;unfold del;rw[List.filter_cons];simp only[decide_true,Bool.not_true,ow,ox];grind[List.filter_eq_self,Bool.not_eq_true',decide_eq_false_iff_not,List.mem_map_of_mem]
  ·simp only[e,S5,ow,ox];have c:=alK k h.2;have d:del ((a,v)::es) k=(a,v)::del es k:=by grind[del]
   grind
theorem ahI(k c:κ):∀(es:List<|κ×az),look (del es k) c=if c=k then V else look es c
 |[]=>by simp[del,look]|(a,v)::es=>by
  have f:=ahI k c es;by_cases e:a=k
  .have d:del ((a,v)::es) k=del es k:=by grind[del]
   rw[d,f];by_cases hc:c=k;.grind
   .rw[if_neg hc,if_neg hc];unfold look;rw[if_neg λh=>hc<|h.symm.trans e];cases es<;>rfl
  .have d:del ((a,v)::es) k=(a,v)::del es k:=by grind[del]
   rw[d];show(if a=c then U v else look (del es k) c)=if c=k then V else if a=c then U v else look es c;grind
theorem au3{P}{w}{T s z ty}(K:KE κ)(B:P.underlying T=U (.map s z))(x:P.underlying s=U K.desc){m}{es}(h:cU K w m es)(k)(A):∃o,(UQ #[T,A] ty #[bW m,K.enc k]).run P w=aW (bQ #[]) (w.putObj m o)/\cU K (w.putObj m o) m (del es k):=by
 obtain⟨d,b,n,c⟩:=h;have g:=(dm.1 n).1;have E:(rB m).run P w=aW (iY d b) w:=by simp[rB,oF,n]
 have r:∀o,(setObj m o).run P w=aW () (w.putObj m o):=λo=>by simp[setObj,oF,n,World.putObj]
 have D:=run_findKey (w:=w) K x c k;obtain⟨_,v⟩:=UC K k d.toList es 0 c.read;have q:=alK k c.nodup;have y:d.size=es.length:=by have:=congrArg List.length c.read;grind
 simp only[UQ,my,nG,qu,gK,run_underlying B,l6,E,K.flat _ _ _ _ _ _ x,D];cases t:es.findIdx? λp=>p.1=k with|none=>rw[t]at v q;refine⟨iY d b,by simp[r,l6],d,b,GV g,?_⟩;grind|some j=>rw[t]at v q;cases F:look es k with|none=>grind|some u=>
   obtain⟨i,C⟩:=q;have f:(d.eraseIdxIfInBounds j).toList=d.toList.eraseIdx j:=by unfold Array.eraseIdxIfInBounds;rw[wP<|by omega,Array.toList_eraseIdx]
   refine⟨iY (d.eraseIdxIfInBounds j) b,by simp[r,l6],_,b,GV g,?_⟩;refine⟨?_,?_,?_,?_⟩;.rw[f,<-i];have:=congrArg (λl:List<|az×az=>l.eraseIdx j) c.read;grind[ahB]
   .unfold del;exact c.nodup.sublist<|(Y3).map _
   .rw[f];exact c.MU.sublist<|(List.eraseIdx_sublist _ _).map _
   .rw[f];exactλe h=>c.below e<|List.mem_of_mem_eraseIdx h
theorem aoE{P}(w){ops}{rest}{o}{a}{Q}(K:KE κ)(t:o.guard=V)(m x)(T h)(f:o.op=Op.call {callee:=.builtin .delete,args:=#[m,x],argTypes:=#[T,h]})(i j)(s:P.underlying T=U (.map i j))(r:P.underlying i=U K.desc)(b)(es)(k)(p:a.eval m=.map b)(q:cU K w b es)(l:a.eval x=K.enc k)(n:∀d,cU K d b (del es k)->O (λx=>x=b) w d->d.heap.size=w->wpList P ops Q rest (a.put o.dst<|.tuple #[]) d):wpList P ops Q (o::rest) a w:=by refine NG t λv e=>?_;obtain⟨u,c,g⟩:=au3 (P:=P) (ty:=o.type) K s r q k h;unfold Oper.wp;simp only[cS,f,resolve,invoke,builtin,gK,Zk,gh,qs,p,l,c,l6,vq];exact e _ _<|n _ g (O.putObj _ _ _ rfl)<|by simp
end
theorem alL(h m i l p k g j o c a b3 b f n e)(W):(s8 10000 76 (bO #[Y aq h,Y aq m,Y aq i,Y aq l,Y aq p,Y aq k,Y aq g,Y aq j])<|bO #[Y aq o,Y aq c,Y aq a,Y aq b3,Y aq b,Y aq f,Y aq n,Y aq e]).run Q W=aW (h==o&&(m==c&&(i==a&&(l==b3&&(p==b&&(k==f&&(g==n&&j==e))))))) W:=by unfold s8;simp[run_underlying QK,List.range',part,λd x y=>run_equalIn_int (P:=Q) W d 5 aq aq x y yF,adD];grind
def uF(h:Int):Prop:=0<=h/\h<18446744073709551616
theorem al3{h k}(a:uF h)(b:uF k):(h/72057594037927936%256==k/72057594037927936%256&&(h/281474976710656%256==k/281474976710656%256&&(h/1099511627776%256==k/1099511627776%256&&(h/4294967296%256==k/4294967296%256&&(h/16777216%256==k/16777216%256&&(h/65536%256==k/65536%256&&(h/256%256==k/256%256&&h%256==k%256)))))))=bP (h=k):=by obtain⟨f,e⟩:=a;obtain⟨d,c⟩:=b;grind
theorem Ub(l):uF<|C l:=by
 have e:∀(h c:Int),uF<|MC h c:=λh c=>by grind[MC,uF,IntKind.wrap_u64]
 have f:∀(l:List UInt8)(h:Int),uF h->uF (E5 h l):=by intro l;induction l with|nil=>intro h b;exact b|cons c l d=>intro h b;exact d _<|e _ _
 unfold C;have:∀(l:List s)(h:Int),uF h->uF (l.foldl (λh x=>Uc h<|Em x) h):=by intro l;induction l with|nil=>grind|cons x l d=>intro h b;exact d _<|f _ _ b
 exact this l _ ⟨by decide,by decide⟩
def zg(L:List s)(p:ByteArray):Prop:=p.size<=4096/\∀k∈gy<|su L p,p.size<k.size/\(tP p.size k).toNat<128
def cR(L:List s)(p:ByteArray)(k:UInt8×Int):List s:=if k.1∈lC L p/\C (ep L<|push p k.1)≠k.2/\k.1=0 then ep L (push p k.1)else[]
def cW(L:List s)(p:ByteArray)(k:UInt8×Int):List ByteArray:=if k.1∉lC L p\/C (ep L<|push p k.1)≠k.2/\k.1=0 then[push p k.1]else[]
def cN(L:List s)(p:ByteArray)(k:UInt8×Int):List Nd:=if k.1∈lC L p/\C (ep L<|push p k.1)≠k.2/\k.1≠0 then[Ek L<|push p k.1]else[]
def JL(L:List s)(n:Nd):List UInt8:=kZ ((lC L n.pfx).filter λc=>!(n.kids.map (·.1)).contains c)
def jS(L:List s)(m:dR)(p:ByteArray)(ks:List<|UInt8×Int):dR:={m with bu:=m.bu++ks.flatMap (cR L p),cq:=m.cq++ks.flatMap (cW L p),nodes:=m.nodes++ks.flatMap (cN L p)}
def xw(L:List s)(m:dR)(p:ByteArray)(cs:List UInt8):dR:={m with bu:=m.bu++cs.flatMap λc=>ep L<|push p c}
def oH(L:List s)(m:dR)(n:Nd):dR:=xw L (jS L m n.pfx n.kids) n.pfx<|JL L n
theorem ahw(L)(m)(p):jS L m p []=m:=by simp[jS]
theorem axP(L)(m)(p)(a)(k):jS L m p (a++[k])={jS L m p a with bu:=(jS L m p a).bu++cR L p k,cq:=(jS L m p a).cq++cW L p k,nodes:=(jS L m p a).nodes++cN L p k}:=by simp[jS]
theorem aDA(L)(m)(p):xw L m p []=m:=by simp[xw]
theorem alz(L)(m)(p)(cs)(c):xw L m p (cs++[c])={xw L m p cs with bu:=(xw L m p cs).bu++ep L (push p c)}:=by simp[xw]
def xy(es:List<|UInt8×az)(ks:List UInt8):List<|UInt8×az:=ks.foldl del es
theorem aEI(es)(a)(k):xy es (a++[k])=del (xy es a) k:=by simp[xy]
theorem ahH(c:UInt8):∀(b:List UInt8)(es:List<|UInt8×az),look (xy es b) c=if c∈b then V else look es c|[],es=>rfl|k::b,es=>by show look (xy (del es k) b) c=_;rw[ahH c b,ahI];grind
theorem al9:∀(b:List UInt8)(es:List<|UInt8×az),(xy es b).map (·.1)=(es.map (·.1)).filter λc=>!b.contains c
 |[],es=>(AD.2 λ_ _=>rfl).symm|k::b,es=>by
  show(xy (del es k) b).map (·.1)=_;rw[al9 b];have:(del es k).map (·.1)=(es.map (·.1)).filter λc=>! bP (c=k):=by unfold del;rw[List.filter_map];rfl
  rw[this,Zb];grind
section
variable {B p:Nat} {m:dR} {vr vw vn vd:az} {xs:List az} {W W1 W2:ax} {D D' D'':Nat->Prop}
theorem jr.same(h:jr W B p m vr vw vn vd xs)(c:∀b e,eO W b e->W1.heap[b]?=W.heap[b]?)(f:W.heap.size<=W1):jr W1 B p m vr vw vn vd xs:=⟨(c p _ h.rR).trans h.box,h.lt,dB h.bu λb a=>c b _<|fP h.bu a,dB h.cq λb a=>c b _<|fP h.cq a,h.nodes.keep (λb a=>c b _<|fP h.nodes.row a) (λx d b a=>c b _<|GX h.nodes.ins x d b a) f,dB h.roots λb a=>c b _<|fP h.roots a⟩
theorem ahC{b e}{es}(h:cU lS W b es)(k:eO W b e):False:=by obtain⟨d,c,h,_⟩:=h;obtain⟨a,k⟩:=k;grind
theorem iR.asb(h:iR W B p m D){a}{es}(d:cU lS W a es)(k:O (λb=>b=a) W W1):iR W1 B p m D:=by obtain⟨vr,vw,vn,vd,xs,h,e⟩:=h;refine⟨vr,vw,vn,vd,xs,h.same (λb t c=>k.block b (dm.1 c.choose_spec).1 λe=>ahC d<|e▸c) k.size,e⟩
theorem iR.elem(h:iR W B p m D):∀b,D b->∃e,eO W b e/\e≠107:=by obtain⟨vr,vw,vn,vd,xs,h,rfl⟩:=h;intro b a;rcases h.del b a with h|h|h|h;all_goals grind
structure Qa(B p m2:Nat)(m:dR)(D:Nat->Prop)(L:List s)(n:Nd)(es:List<|UInt8×az)(w1:ax)(j:Nat)(D':Nat->Prop)(W:ax):Prop where
 Pa:iR W B p (jS L m n.pfx<|n.kids.take j) D'
 map:cU lS W m2 (xy es ((n.kids.take j).map (·.1)))keep:O (λb=>D b∨b=m2) w1 W
 own:∀b,D' b->D b∨w1.heap.size<=b
theorem Qa.next{l}{L}{n}{es}{w1 s u k o}{j}(c:Qa B p l m D L n es w1 j D' s)(z)(g:aY s s u)(i:O (λb=>b=l) u k)(v:cU lS k l (del (xy es ((n.kids.take j).map (·.1))) n.kids[j].1))(d:bS D' k D'' o)(r:iR k B p (jS L m n.pfx<|n.kids.take j) D')(A:iR o B p (jS L m n.pfx<|n.kids.take<|j+1) D''):Qa B p l m D L n es w1 (j+1) D'' o:=by
 have y:=c.keep.size;have w:=g.size;have x:=i.size;refine⟨A,?_,⟨?_,?_,?_,?_,λb q t=>?_⟩,λb f=>?_⟩;·rw[wS,mq z,B9,wU,gh,qs,aEI];refine v.of_block<|d.1.block _ v.lt λf=>?_;obtain⟨e,C,_⟩:=r.elem _ f;grind[ahC]
 ·exact d.1.os.trans<|i.os.trans<|g.os.trans c.keep.os
 ·exact d.1.tape.trans<|i.tape.trans<|g.tape.trans c.keep.tape
 ·exact d.1.output.trans<|i.output.trans<|g.output.trans c.keep.output
 ·have:=d.1.size;omega
 ·rw[d.1.block b (by omega) λf=>(c.own b f).elim (λh=>t<|ay h)<|by omega,i.block b (by omega) λe=>t<|aB e,g.block b<|by omega];exact c.keep.block b q t
 ·rcases d.2 b f with h|h;·exact c.own b h
  grind
structure CrI(B p:Nat)(m:dR)(D:Nat->Prop)(L:List s)(pfx:ByteArray)(cs:List UInt8)(w1:ax)(j:Nat)(D':Nat->Prop)(W:ax):Prop where
 Pa:iR W B p (xw L m pfx<|cs.take j) D'
 keep:bS D w1 D' W
end
theorem amD(c)(W:ax):(convert 79 9<|aC W 1 1).run Q (W.alloc<|aH #[Y aq c.toNat] 5)=aW (aE ⟨#[c]⟩) (W.alloc<|aH #[Y aq c.toNat] 5):=by
 have:=amC (W.alloc<|aH #[Y aq (c.toNat:Int)] 5) W 0 ⟨#[c]⟩ (λj b=>by
  have:j=0:=by grind
  subst this;simp[bl]);exact this
theorem Yx(L)(m)(n:Nd){j}(a):jS L m n.pfx (n.kids.take<|j+1)={jS L m n.pfx (n.kids.take j)with bu:=(jS L m n.pfx<|n.kids.take j).bu++cR L n.pfx n.kids[j],cq:=(jS L m n.pfx<|n.kids.take j).cq++cW L n.pfx n.kids[j],nodes:=(jS L m n.pfx<|n.kids.take j).nodes++cN L n.pfx n.kids[j]}:=by grind[List.take_add_one,List.getElem?_eq_getElem,Option.toList_some,axP]
theorem Pd{t s:Type}(f:t->List s)(l:List t)(j):((l.take j).flatMap f).length<=(l.flatMap f).length:=by grind[List.take_append_drop,List.length_append]
theorem Yy(L)(m)(n)(j):(jS L m n.pfx<|n.kids.take j).bu.length<=(oH L m n).bu.length/\(jS L m n.pfx<|n.kids.take j).cq.length<=(oH L m n).cq.length/\(jS L m n.pfx<|n.kids.take j).nodes.length<=(oH L m n).nodes.length:=by have c:=Pd (cR L n.pfx) n.kids j;have b:=Pd (cW L n.pfx) n.kids j;have a:=Pd (cN L n.pfx) n.kids j;grind[oH,xw,jS,List.length_append]
theorem aDz(L)(m)(n)(j):(xw L (jS L m n.pfx n.kids) n.pfx<|(JL L n).take j).bu.length<=(oH L m n).bu.length:=by have a:=Pd (λc=>ep L<|push n.pfx c) (JL L n) j;grind[oH,xw,List.length_append]
theorem aGB{b d}{f}{g h c}(a:O (λx=>x=f) (((b.alloc<|aH g 233).alloc<|aH h 5).alloc<|aH c 76) d)(i:f<b.heap.size):∃e,aY b.heap.size b e/\O (λx=>x=f) e d/\d.heap[b.heap.size]?=U (aH g 233 (0,0))/\d.heap[b.heap.size+1+1]?=U (aH c 76 (0,0))/\e.heap.size=b+3:=by
 refine⟨_,(((dK _ _).alloc (aQ _) _).alloc (by simp) _).alloc (by simp;omega) _,a,?_,?_,by simp⟩;.refine(a.block _ (by simp;omega)<|by omega).trans ?_;simp only[qF];grind
 .refine(a.block _ (by simp)<|by omega).trans ?_;simp only[qF];grind
theorem SF{W W'}{v v'}(c:W.grownBy W' v.ownBlock)(f:v'.ownBlock=v.ownBlock\/v'.ownBlock=W.heap.size):bS (de v) W (de v') W':=by
 refine⟨⟨c.os,c.tape,c.output,c.size,λb d g=>c.block b d λe=>g e.symm⟩,λb d=>?_⟩;rcases f with h|h;.left;show v.ownBlock=U b;rw[<-h];exact d
 .right;have:v'.ownBlock=b:=d;grind
theorem afC{a}(f:a->az)(l)(x):fO f (l++[x])=fO f l++(f x).cells.toList:=by grind[fO]
theorem Rf(L)(p)(c)(h):(c∉lC L p->cR L p (c,h)=[]/\cW L p (c,h)=[push p c]/\cN L p (c,h)=[])/\(c∈lC L p->C (ep L<|push p c)=h->cR L p (c,h)=[]/\cW L p (c,h)=[]/\cN L p (c,h)=[])/\(c∈lC L p->C (ep L<|push p c)≠h->c=0->cR L p (c,h)=ep L (push p c)/\cW L p (c,h)=[push p c]/\cN L p (c,h)=[])/\(c∈lC L p->C (ep L<|push p c)≠h->c≠0->cR L p (c,h)=[]/\cW L p (c,h)=[]/\cN L p (c,h)=[Ek L<|push p c]):=by
 refine⟨λd=>?_,λd b=>?_,λd b a=>?_,λd b a=>?_⟩;.grind[cR,cW,cN]
 .grind[cR,cW,cN]
 .refine⟨cJ ⟨d,b,a⟩,cJ<|aB ⟨b,a⟩,if_neg λh=>h.2.2 a⟩
 .refine⟨if_neg λh=>a h.2.2,if_neg ?_,cJ ⟨d,b,a⟩⟩;grind
theorem iR.msg{W}{B p}{m m'}{D}(h:iR W B p m D)(e:m=m'):iR W B p m' D:=e▸h
structure aoe(L:List s)(m:dR)(n:Nd):Prop where
 len:L.length<=1073741824
 fit:∀x∈L,Fit x
 nodup:(n.kids.map (·.1)).Nodup
 u64:∀k∈n.kids,uF k.2
 key:zg L n.pfx
 deep:∀c:UInt8,c≠0->zg L (push n.pfx c)nk:n.kids.length<=100000
 nr:(oH L m n).bu.length<=1000000000
 nw:(oH L m n).cq.length<=1000000000
 nn:(oH L m n).nodes.length<=1000000000
theorem ayd(L)(p)(a)(c):∃(e h k j i g d f:Int)(b:Bool),(look (xy ((lC L p).map<|x8 L p) a) c).getD (bO #[Y aq 0,Y aq 0,Y aq 0,Y aq 0,Y aq 0,Y aq 0,Y aq 0,Y aq 0])=bO #[Y aq e,Y aq h,Y aq k,Y aq j,Y aq i,Y aq g,Y aq d,Y aq f]/\(look (xy ((lC L p).map<|x8 L p) a) c).isSome=b/\b=bP (c∉a/\c∈lC L p)/\(b=Z->bO #[Y aq e,Y aq h,Y aq k,Y aq j,Y aq i,Y aq g,Y aq d,Y aq f]=iy (C<|ep L<|push p c)):=by
 rw[ahH,Nh];by_cases h1:c∈a;.rw[cJ h1];exact⟨0,0,0,0,0,0,0,0,ai,rfl,rfl,by simp[h1],by simp⟩
 .rw[if_neg h1];by_cases h2:c∈lC L p;.rw[cJ h2];exact⟨_,_,_,_,_,_,_,_,Z,rfl,rfl,by grind,λ_=>rfl⟩
  .rw[if_neg h2];exact⟨0,0,0,0,0,0,0,0,ai,rfl,rfl,by simp[h2],by simp⟩
set_option maxHeartbeats 4000000 in
theorem aE6 (B p S) (m) (D) (L) (n) (kv) (w) (h:iR w B p m D) (hB:cI w S L) (K9:B<=w) (h4:4<=B) (ht:fx w) (jG:w.ownsRow 0 233 9 kv n.kids.length<|fO gZ n.kids) (hO:aoe L m n):bz Q 103 #[aF p,bW S,bO #[n.pfx,kv]] w λe w'=>e=bj (bQ #[])∧∃D',iR w' B p (oH L m n) D'∧bS D w D' w':=by
 obtain⟨vu,ud,rfl⟩:=fV jG;obtain⟨pfx,ye⟩:=ex n.pfx;obtain⟨kl,zw⟩:=ex n.kids.length;have zu:=hB.lt;have o8:=h.lt;obtain⟨w0,Ts⟩:=ex<|w.alloc<|aH #[aE pfx,aC vu kl ud] 184;have Hy:aY w w w0:=by rw[Ts];exact(dK _ _).alloc (aQ _) _
 have qy:w0.heap.size=w+1:=by rw[Ts];simp
 have EE:w0.heap[w.heap.size]? =U (aH #[pfx,aC vu kl ud] 184 (0,0)):=by grind[World.alloc_heap_new]
 have HC:=X (aiD S L pfx w0 (by rw[ye];exact hO.key.1) (hB.of_block<|Hy.block S zu) hO.len (ht.below Hy<|aQ _) hO.fit<|by rw[ye];exact hO.key.2);have HH:=Bm.mk h hB ht jG hO o8;have HW:=uJ.mk Ts Hy qy EE;have HP:=cH.mk ye zw;have aJr:kl<=100000:=by rw[zw];exact hO.nk
 rw[<-ye,<-zw];clear h hB ht jG hO Ts Hy qy EE ye zw o8;have k0:w0.cell? ⟨w.heap.size,0,V⟩=U (aE pfx):=M HW.d 0;go_enter aq1,ntmps103;go_wp2_with (go_at_call 159;rw[<-HW.a];go_must (refine HC.out.mono ?_);rintro e w1 ⟨m2,rfl,Ow,Ov,je⟩;have H1:=gR.mk Ow Ov je;clear Ow Ov je;refine Halt.of ?_);unfold Halt;clear HC k0;obtain⟨es,zx⟩:=ex<|(lC L pfx).map<|x8 L pfx;have zD:cU lS w1 m2 es:=by rw[zx];exact H1.a
 have u:aY w.heap.size w w1:=HW.b.trans ⟨H1.c.os,H1.c.tape,H1.c.output,H1.c.size,λb hb=>H1.c.block b<|by have:=HW.c;omega⟩;have oX:w1.heap[w.heap.size]? =U (aH #[aE pfx,aC vu kl ud] 184 (0,0)):=(H1.c.block _<|by have:=HW.c;omega).trans HW.d;have ajJ:w<m2:=by have:=H1.b;have:=HW.c;omega
 have Fb:Qa B p m2 m D L n es w1 0 D w1:=⟨by rw[Nv,ahw];exact HH.a.below u,zD,O.refl _ _,λb hb=>ay hb⟩;have q0:w1.cell? ⟨w.heap.size,0,V⟩=U (aE pfx):=M oX 0;have q1:w1.cell? ⟨w,1,V⟩=U (aC vu kl ud):=M oX 1;have HX:=Bm.mk Fb u oX ajJ zx zD;clear Fb u oX zx zD H1 HW;go_wp2;go_loopg [21] kl λk Xu wr=>∃(j:Nat) (D':Nat->Prop),Xu=Y aG j∧k+j=kl∧Qa B p m2 m D L n es w1 j D' wr;case atStart=>exact⟨0,D,rfl,by omega,HX.a⟩
 case round=>
  obtain⟨j,D',rfl,hk,hI⟩:=hrel;by_cases hj:j<kl
  ·have zw:=HP.b;have ye:=HP.a;obtain⟨hG,hB,ht,jG,hO,o8⟩:=kp HH;obtain⟨-,u,oX,-,zx,zD⟩:=kp HX;have jd:j<n.kids.length:=by omega
   have hm1:=zD.lt;have zC:=(dm.1 oX).1;have v:=(hI.keep.block _ zC<|by rintro(h|h);exact absurd (o8 _ h).2 (by omega);omega).trans oX;have b0:wr.cell? w=U (aE pfx):=M v 0;have wY:pH 233 9 gZ w (aC vu kl ud) n.kids:=by rw[zw];exact jG
   obtain⟨g,Dc,hv,hg,hY0⟩:=wY.cell aiF jd;simp only[wQ] at hv;obtain⟨rfl,-,rfl⟩:=hv;have hgD:¬D g:=λhd=>by obtain⟨vr,vw,vn,vd,xs,hM,rfl⟩:=hG;have h1:=fP jG<|show(aC (U ⟨g,0,V⟩) n.kids.length ud).ownBlock=U g from rfl;rcases hM.del g hd with h|h|h|h<;>exact absurd (eO.one h1 h)<|by decide
   have hgb:=(hI.keep.block g (by have:=u.size;omega)<|by rintro(h|h);exact hgD h;omega).trans<|u.block g hg;have HY:=λi x h1 h2=>(ew (w:=w) (a:=⟨g,j*9+i,V⟩) hgb).trans<|hY0 i x h1 h2;obtain⟨c,hc⟩:=ex n.kids[j].1;obtain⟨h,hh⟩:=ex n.kids[j].2;have nJ:n.kids[j]=(c,h):=by rw[hc,hh]
   rw[nJ,aiE] at HY;obtain⟨d0,e0⟩:∃d,d=h/72057594037927936 % 256:=⟨_,rfl⟩;obtain⟨d1,e1⟩:∃d,d=h/281474976710656 % 256:=⟨_,rfl⟩;obtain⟨d2,e2⟩:∃d,d=h/1099511627776 % 256:=⟨_,rfl⟩;obtain⟨d3,e3⟩:∃d,d=h/4294967296 % 256:=⟨_,rfl⟩;obtain⟨d4,e4⟩:∃d,d=h/16777216 % 256:=⟨_,rfl⟩;obtain⟨d5,e5⟩:∃d,d=h/65536 % 256:=⟨_,rfl⟩;obtain⟨d6,e6⟩:∃d,d=h/256 % 256:=⟨_,rfl⟩;obtain⟨d7,e7⟩:∃d,d=h % 256:=⟨_,rfl⟩;rw[<-e0,<-e1,<-e2,<-e3,<-e4,<-e5,<-e6,<-e7] at HY;have aj1:bO #[Y aq d0,Y aq d1,Y aq d2,Y aq d3,Y aq d4,Y aq d5,Y aq d6,Y aq d7]=iy h:=by rw[e0,e1,e2,e3,e4,e5,e6,e7];rfl
   clear e0 e1 e2 e3 e4 e5 e6 e7 hY0;have y0:wr.cell? ⟨g,j*9,V⟩=U (Y aq (c.toNat:Int)):=HY 0 _ (by decide) rfl;have y1:wr.cell? ⟨g,j*9+1,V⟩=U (Y aq d0):=HY 1 _ (by decide) rfl;have y2:wr.cell? ⟨g,j*9+2,V⟩=U (Y aq d1):=HY 2 _ (by decide) rfl;have y3:wr.cell? ⟨g,j*9+3,V⟩=U (Y aq d2):=HY 3 _ (by decide) rfl;have y4:wr.cell? ⟨g,j*9+4,V⟩=U (Y aq d3):=HY 4 _ (by decide) rfl;have y5:wr.cell? ⟨g,j*9+5,V⟩=U (Y aq d4):=HY 5 _ (by decide) rfl;have y6:wr.cell? ⟨g,j*9+6,V⟩=U (Y aq d5):=HY 6 _ (by decide) rfl;have y7:wr.cell? ⟨g,j*9+7,V⟩=U (Y aq d6):=HY 7 _ (by decide) rfl;have y8:wr.cell? ⟨g,j*9+8,V⟩=U (Y aq d7):=HY 8 _ (by decide) rfl;obtain⟨z0,z1,z2,z3,z4,z5,z6,z7,tb,aav,aau,Z9,hz⟩:=ayd L pfx ((n.kids.take j).map (·.1)) c;obtain⟨em,z⟩:=ex (xy es ((n.kids.take j).map (·.1)));rw[<-zx,<-z] at aav aau;have HM:dx<|cU lS wr m2 em:=X (by rw[z];exact hI.map);have EV:c∉(n.kids.take j).map (·.1):=λhm=>by have jo:=hO.nodup;rw[<-ayS j n.kids,ayV jd,wU,gh,Ew] at jo;exact jo.2.2 _ hm _ (vi ..) hc
   have EM:pfx.size<=4096:=by rw[ye];exact hO.key.1
   have oC:(j:Int)<(kl:Int):=by omega
   have hNw:=cB zC hI.keep.size;have hNn:¬w.heap.size=wr.heap.size:=by omega
   have hcv:=amD c<|wr.alloc<|aH #[Y aq (c.toNat:Int),Y aq d0,Y aq d1,Y aq d2,Y aq d3,Y aq d4,Y aq d5,Y aq d6,Y aq d7] 233;simp only[vt] at hcv;have HI:=Hq9.mk hI nJ z Z9 hz aj1 EV aav aau;clear zw ye hG hB ht jG hO o8 u oX zx zD v wY hgD hgb HY hc hh nJ z Z9 hz aj1 EV hI aav aau;go_wp2_with (first|(at_lookup;refine Jc _ lS rfl _ _ 245 rfl 5 76 F8 yF _ (Qk _) m2 em c rfl ((HM.out.alloc _).alloc _) rfl ?_;rw[HI.h,HI.i])|(refine aoE _ lS rfl _ _ 245 5 rfl 5 76 F8 yF m2 em c rfl (((HM.out.alloc _).alloc _).alloc _) rfl ?_;intro r xj F G8;have H6:=gR.mk xj F G8;clear xj F G8;refine Halt.of ?_));obtain⟨wx,v,F,I,yb,NR⟩:=aGB H6.b HM.out.lt;have xj:=H6.a;have P:=(HI.a.Pa.below v).asb (HM.out.of_block<|v.block _ HM.out.lt) F;clear H6 hcv y0 y1 y2 y3 y4 y5 y6 y7 y8 b0;have ga:=Yy L m n j;obtain⟨mj,H⟩:=ex<|jS L m n.pfx<|n.kids.take j;rw[<-H] at P ga;have hO:=HH.e;have oA:=hO.nr;have KM:=hO.nw;have KN:=hO.nn;obtain⟨vr,vw,vn,vd,xs,xh,N⟩:=P;obtain⟨wl,NZ⟩:=ex mj.cq.length;have aIL:wl<=1000000000:=by omega
   have wY:=xh.cq;rw[<-NZ] at wY;obtain⟨DI,DG,Cr⟩:=fV wY;have Oj:=xh.box;have Cu:=xh.rQ;have hz6:wr.heap.size+3<=r:=by have:=F.size;omega
   have E:=an0.mk xh N v F xj I yb H NZ wY hz6;clear xh N v F xj I yb H NZ wY hz6 ga hO oA KM KN NR;subst Cr;unfold Halt;cases tb with
   |false=>
    have p1:r.cell? ⟨p,1,V⟩=U (aC DI wl DG):=M Oj 1;obtain⟨i0,hi,qy,ko,lT⟩:=tT Cj;go_wp2_with (at_builtin;go_must (refine app1 (v:=aC DI wl DG) rfl rfl By Cj rfl rfl (dB E.j λb hb=>dr _ _ _ (E.j.lt b hb).2) rfl (by first|rfl|simp) rfl rfl (by omega) (by have:=E.k;simp;omega) ?_);intro v7 w7 Of yg _ lI;refine Halt.of ?_);have uo:=(yg.block p (by simp;omega) λe=>absurd (eO.one E.a.rR<|fP E.a.cq e.symm)<|by decide).trans<|(dr _ _ _ Cu).trans Oj;have u1:w7.cell? ⟨p,1,V⟩=U (aC DI wl DG):=M uo 1;have uf:w7.frozen? ⟨p,1,V⟩=ai:=by simp[yu,uo]
    have uh:=SF yg lI;have l:=E.a.anA (W1:=r.alloc<|aH #[aE<|pfx++⟨#[c]⟩] 9) (s:=[push pfx c]) ((dK _ _).alloc (aQ _) _) uh (by rw[kM,<-E.i,afC];exact Of);obtain⟨g7,acf,Z6⟩:=Ca Of;have HF:=X l;clear Of yg lI uh l uo hi qy ko lT p1;subst Z6;unfold Halt;go_wp2;go_roundg (gk-1);case rel=>
     obtain⟨xh,N,v,F,xj,-,-,H,-,-,-⟩:=kp E;obtain⟨hI,nJ,z,Z9,-,-,-,-,-⟩:=kp HI;have jd:j<n.kids.length:=by grind
     have yd:=HP.a;have hni:c∉lC L n.pfx:=λAO=>by
      have:¬(c∉(n.kids.take j).map (·.1)∧c∈lC L pfx):=by grind
      exact this ⟨HI.g,yd▸AO⟩
     have fL:=(Rf L n.pfx c h).1 hni;have s:=Yx L m n jd;rw[nJ,fL.1,fL.2.1,fL.2.2,tU,tU,<-H,<-yd] at s;rw[z] at xj;have CB:iR _ B p (jS L m n.pfx<|n.kids.take<|j+1) _:=⟨_,_,_,_,_,by rw[<-yd,s];exact HF.out.1,rfl⟩;refine⟨j+1,_,by go_simp,by omega,hI.next jd v F (by grind) (by rw[N];exact HF.out.2) ⟨_,_,_,_,_,H▸xh,N⟩ CB⟩
    case measure=>omega|true=>
    obtain⟨I,yb⟩:=aM E.f E.g;have e0:r.cell? wr=U (Y aq (c.toNat:Int)):=M I 0;have e1:r.cell? ⟨wr,1,V⟩=U (Y aq d0):=M I 1;have e2:r.cell? ⟨wr,1+1,V⟩=U (Y aq d1):=M I 2;have e3:r.cell? ⟨wr,1+2,V⟩=U (Y aq d2):=M I 3;have e4:r.cell? ⟨wr,1+3,V⟩=U (Y aq d3):=M I 4;have e5:r.cell? ⟨wr,1+4,V⟩=U (Y aq d4):=M I 5;have e6:r.cell? ⟨wr,1+5,V⟩=U (Y aq d5):=M I 6;have e7:r.cell? ⟨wr,1+6,V⟩=U (Y aq d6):=M I 7;have e8:r.cell? ⟨wr,1+7,V⟩=U (Y aq d7):=M I 8;have f0:r.cell? ⟨wr+1+1,0,V⟩=U (Y aq z0):=M yb 0;have f1:r.cell? ⟨wr+1+1,1,V⟩=U (Y aq z1):=M yb 1;have f2:r.cell? ⟨wr+1+1,2,V⟩=U (Y aq z2):=M yb 2;have f3:r.cell? ⟨wr+1+1,3,V⟩=U (Y aq z3):=M yb 3;have f4:r.cell? ⟨wr+1+1,4,V⟩=U (Y aq z4):=M yb 4;have f5:r.cell? ⟨wr+1+1,5,V⟩=U (Y aq z5):=M yb 5;have f6:r.cell? ⟨wr+1+1,6,V⟩=U (Y aq z6):=M yb 6;have f7:r.cell? ⟨wr+1+1,7,V⟩=U (Y aq z7):=M yb 7;clear I yb;obtain⟨eb,Ht⟩:=ex<|z0==d0&&(z1==d1&&(z2==d2&&(z3==d3&&(z4==d4&&(z5==d5&&(z6==d6&&z7==d7))))));have hq:=alL z0 z1 z2 z3 z4 z5 z6 z7 d0 d1 d2 d3 d4 d5 d6 d7 r;rw[<-Ht] at hq;have AO:c∈lC L n.pfx:=by have:=of_decide_eq_true HI.d.symm;rw[<-HP.a];exact this.2
    have hju:uF h:=by have:=HH.e.u64 n.kids[j] (nC<|by have:=HP.b;omega);rw[HI.b] at this;exact this
    have AQ:eb=bP (C (ep L<|push n.pfx c)=h):=by have h1:=HI.e rfl;have h2:=HI.f;rw[HP.a] at h1;unfold iy at h1 h2;injection h1 with h1;injection h2 with h2;simp only[Array.mk.injEq,GU,Value.int.injEq,true_and,and_true] at h1 h2;obtain⟨a0,a1,a2,a3,a4,a5,a6,a7⟩:=h1;obtain⟨c0,c1,c2,c3,c4,c5,c6,c7⟩:=h2;rw[Ht,a0,a1,a2,a3,a4,a5,a6,a7,c0,c1,c2,c3,c4,c5,c6,c7];exact al3 (Ub _) hju
    have HE:=cH.mk AO AQ;clear Ht AO hju AQ;cases eb with
    |true=>
     go_wp2;go_roundg (gk-1);case rel=>
      obtain⟨xh,N,v,F,xj,-,-,H,-,-,-⟩:=kp E;obtain⟨hI,nJ,z,-,-,-,-,-,-⟩:=kp HI;have jd:j<n.kids.length:=by grind
      have yd:=HP.a;have fL:=(Rf L n.pfx c h).2.1 HE.a<|of_decide_eq_true HE.b.symm;have s:=Yx L m n jd;rw[nJ,fL.1,fL.2.1,fL.2.2,tU,tU,tU,<-H,<-yd] at s;rw[z] at xj;have KR:iR r B p mj D':=⟨_,_,_,_,_,xh,N⟩;refine⟨j+1,D',by go_simp,by omega,hI.next jd v F (by grind) (.refl _ _) (KR.msg H)<|KR.msg ?_⟩;rw[<-yd,s]
     case measure=>omega|false=>
     have Ff:cI r S L:=by
      have hB:=HH.b;have TJ:¬D S:=λhd=>by obtain⟨e,⟨cur,he⟩,_⟩:=HH.a.elem S hd;obtain⟨en,ck,h2,_⟩:=hB;rw[he] at h2;cases h2
      have KB:=HX.b.size;have Ty:=HI.a.keep.size;have Tq:=E.c.size;refine hB.of_block<|(E.d.block S (by omega)<|by omega).trans<|(E.c.block S<|by omega).trans<|(HI.a.keep.block S (by omega)<|by rintro(h|h);exact TJ h;omega).trans<|HX.b.block S zu
     have Ug:fx r:=by have ht:=HH.c;have h3:=ht.lt;have KB:=HX.b.size;have Ty:=HI.a.keep.size;have Tq:=E.c.size;refine ht.of_block<|(E.d.block 3 (by omega)<|by omega).trans<|(E.c.block 3<|by omega).trans<|(HI.a.keep.block 3 (by omega)<|by rintro(h|h);exact absurd (HH.f 3 h).1 (by omega);omega).trans<|HX.b.block 3 h3
     have P:iR r B p mj D':=⟨_,_,_,_,_,E.a,E.b⟩;have akP:B<=r:=by have:=E.k;omega
     have jd:j<n.kids.length:=by have:=HP.b;omega
     have jH:C (ep L<|push n.pfx c)≠h:=of_decide_eq_false HE.b.symm;have s:=Yx L m n jd;rw[HI.b,<-E.h] at s;have R:=Yy L m n<|j+1;rw[s] at R;simp only[kM] at R;have G:=HH.e;have ET:=aM G.nr<|aM G.nw G.nn;by_cases sK:c=0
     ·have fL:=(Rf L n.pfx c h).2.2.1 HE.a jH sK;rw[fL.1,fL.2.1,fL.2.2] at s R;have hTl:=Q4 B p S mj D' L (push pfx c) r P Ff akP G.len (by rw[HP.a];omega);have HT:=X hTl;have HQ:=uJ.mk s jd Ff Ug;have hcz:(c.toNat:Int)=0:=by rw[sK];rfl
      have aIM:mj.cq.length+1<=1000000000:=by simp only[zc] at R;omega
      clear s R hTl G ET fL jH Ug Ff P sK;go_wp2_with (go_at_call 102;go_must (refine HT.out.mono ?_);rintro e w7 ⟨rfl,D7,vL,uh⟩;have H7:=cH.mk vL uh;clear vL uh;refine Halt.of ?_);have hz7:=H7.b.1.size;obtain⟨Aj,Ai,Ms,xM,Dy,ur,Fc⟩:=H7.a;have KF:=ur.cq;simp only at KF;rw[<-E.i] at KF;obtain⟨VS,VR,aAe⟩:=fV KF;have aai:=ur.box;have ajw:=ur.rQ;have EN:=ur.rR;have ai7:=λb hb=>fP (b:=b) KF hb;have Vs:=gR.mk ur Fc KF;clear ur Fc KF;subst aAe;have p1:w7.cell? ⟨p,1,V⟩=U (aC VS wl VR):=M aai 1;obtain⟨i0,hi,qy,ko,lT⟩:=tT Cj;clear e0 hq e1 e2 e3 e4 e5 e6 e7 e8 f0 f1 f2 f3 f4 f5 f6 f7 hcz;unfold Halt;go_wp2_with (at_builtin;go_must (refine app1 (v:=aC VS wl VR) rfl rfl By Cj rfl rfl (dB Vs.c λb hb=>dr _ _ _ (Vs.c.lt b hb).2) rfl (by first|rfl|simp) rfl rfl (by omega) (by simp;omega) ?_);intro v8 w8 He CB _ lI;refine Halt.of ?_);have zA:=(CB.block p (by simp;omega) λe=>absurd (eO.one EN<|ai7 p e.symm)<|by decide).trans<|(dr _ _ _ ajw).trans aai;have u1:w8.cell? ⟨p,1,V⟩=U (aC VS wl VR):=M zA 1;have uf:w8.frozen? ⟨p,1,V⟩=ai:=by simp[yu,zA]
      have Oz:=SF CB lI;have l:=Vs.a.anA (W1:=w7.alloc<|aH #[aE<|pfx++⟨#[c]⟩] 9) (s:=[push pfx c]) ((dK _ _).alloc (aQ _) _) Oz (by simp only[kM];rw[<-E.i,afC];exact He);obtain⟨g8,amS,N0⟩:=Ca He;have HF:=X l;clear He CB lI Oz l zA hi qy ko lT p1 EN ai7 aai ajw;subst N0;unfold Halt;go_wp2;go_roundg (gk-1);case rel=>obtain⟨xh,N,v,F,xj,-,-,H,-,-,-⟩:=kp E;obtain⟨hI,nJ,z,-,-,-,-,-,-⟩:=kp HI;obtain⟨s,jd,-,-⟩:=HQ;have yd:=HP.a;rw[tU,<-yd] at s;rw[z] at xj;have KR:iR r B p mj D':=⟨_,_,_,_,_,xh,N⟩;have AP:iR _ B p (jS L m n.pfx<|n.kids.take<|j+1) _:=⟨_,_,_,_,_,by rw[<-yd,s];exact HF.out.1,rfl⟩;refine⟨j+1,_,by go_simp,by omega,hI.next jd v F (by grind) (H7.b.trans<|by rw[Vs.b];exact HF.out.2) (KR.msg H) AP⟩
      case measure=>omega
     ·have fL:=(Rf L n.pfx c h).2.2.2 HE.a jH sK;rw[fL.1,fL.2.1,fL.2.2] at s R;have hdp:=G.deep c sK;have zB:dx<|∀W,r.heap.size=W.heap.size->W.heap=r.heap->bz Q 104 #[bW S,aE<|pfx++⟨#[c]⟩] W λe w'=>∃kv,e=bj (bO #[aE<|pfx++⟨#[c]⟩,kv])∧w'.ownsRow W 233 9 kv (qw L<|push pfx c).length (fO gZ<|qw L<|push pfx c)∧aY W W w':=X λW _ e=>by have CM:=Ff.of_block (by rw[e]);have hT':=Ug.of_block (by rw[e]);exact ag9 S L (push pfx c) W (by rw[HP.a];exact hdp.1) CM G.len hT' G.fit<|by rw[HP.a];exact hdp.2
      have aA8:mj.nodes.length+1<=1000000000:=by simp only[zc] at R;omega
      have mO:=E.a.nodes.row;obtain⟨nl,EP⟩:=ex mj.nodes.length;rw[<-EP] at mO aA8;obtain⟨GG,GD,EG⟩:=fV mO;have HQ:=Dr.mk s jd EP mO EG;have hcz:¬(c.toNat:Int)=0:=λe=>sK (ayT.1<|by have h0:(0:UInt8).toNat=0:=rfl;omega);have EN:=E.a.rR;have Oo:=λb hb=>fP (b:=b) mO hb;have k0:∀W:ax,W.heap[p]? =U (aH #[vr,aC DI wl DG,aC GG nl GD,vd] 180 (0,0))->W.cell? ⟨p,2,V⟩=U (aC GG nl GD)∧W.frozen? ⟨p,2,V⟩=ai:=λW hW=>⟨M hW 2,by simp[yu,hW]⟩;have HE2:=X akP;clear s R G ET fL jH Ug Ff P sK hdp mO EP;rw[EG] at Oj;go_wp2;refine x4 ?_;refine wp_region_Z (S:=λW=>W.heap[p]? =U (aH #[vr,aC DI wl DG,aC GG nl GD,vd] 180 (0,0))) (z:=12) (by kernel_rfl) Oj λhHeld=>?_;refine mg (i:=0) (v:=?v0) rfl (by kernel_rfl) (by kernel_rfl) (by kernel_rfl) (by kernel_rfl) (λ_ _ _ h=>h) (ay ⟨by rfl,?AJ⟩) hHeld ?afS;(case AJ=>(intro W hSw;go_simp;(try with_reducible rfl)));try simp only[dj,fo,fg,eE,eD,eu]
      refine mg (i:=1) (v:=?v1) rfl (by kernel_rfl) (by kernel_rfl) (by kernel_rfl) (by kernel_rfl) (λ_ _ _ h=>h) (ay ⟨by rfl,?Co⟩) hHeld ?afR;(case Co=>(intro W hSw;go_simp;(try with_reducible rfl)));try simp only[dj,fo,fg,fF,eE,eD,eu]
      refine mg (i:=2) (v:=?v2) rfl (by kernel_rfl) (by kernel_rfl) (by kernel_rfl) (by kernel_rfl) (λ_ _ _ h=>h) (ay ⟨by rfl,?Cn⟩) hHeld ?afQ;(case Cn=>(intro W hSw;go_simp;(try with_reducible rfl)));try simp only[dj,fo,fg,fF,eE,eD,eu]
      refine mg (i:=3) (v:=?v3) rfl (by kernel_rfl) (by kernel_rfl) (by kernel_rfl) (by kernel_rfl) (λ_ _ _ h=>h) (ay ⟨by rfl,?ZO⟩) hHeld ?avo;(case ZO=>(intro W hSw;go_simp;(try with_reducible rfl)));try simp only[dj,fo,fg,fF,eE,eD,eu]
      refine mg (i:=4) (v:=?v4) rfl (by kernel_rfl) (by kernel_rfl) (by kernel_rfl) (by kernel_rfl) (λ_ _ _ h=>h) (ay ⟨by rfl,?ZN⟩) hHeld ?avn;(case ZN=>(intro W hSw;have q0:=(k0 W hSw).1;go_simp;(try with_reducible rfl)));try simp only[dj,fo,fg,fF,eE,eD,eu]
      refine mg (i:=5) (v:=?v5) rfl (by kernel_rfl) (by kernel_rfl) (by kernel_rfl) (by kernel_rfl) (λ_ _ _ h=>h) (ay ⟨by rfl,?NX⟩) hHeld ?afP;(case NX=>(intro W hSw;go_simp;(try with_reducible rfl)));try simp only[dj,fo,fg,fF,eE,eD,eu]
      refine mg (i:=6) (v:=?v6) rfl (by kernel_rfl) (by kernel_rfl) (by kernel_rfl) (by kernel_rfl) (λ_ _ _ h=>h) (ay ⟨by rfl,?NW⟩) hHeld ?afO;(case NW=>(intro W hSw;go_simp;(try with_reducible rfl)));try simp only[dj,fo,fg,fF,eE,eD,eu]
      obtain⟨W0,CH⟩:=ex r.drew;rw[<-CH] at hHeld⊢;have rL:=cH.mk CH (show W0.heap=r.heap by rw[CH];rfl);clear CH e0 e1 e2 e3 e4 e5 e6 e7 e8 f0 f1 f2 f3 f4 f5 f6 f7 hq hcz;refine DD (i:=7) (by kernel_rfl) rfl (by rfl) ?_;go_simp;go_at_call 104;refine jm (zB.out W0 (by rw[rL.b]) rL.b) ?_;rintro e w7 ⟨kv,rfl,vH,uo⟩;have sF:=(uo.block p<|by rw[rL.b];exact Cu).trans hHeld;obtain⟨zi,zh,Ho⟩:=fV vH;obtain⟨yX,Hp⟩:=ex (qw L<|push pfx c).length;rw[<-Hp] at Ho;have H7:=gR.mk vH uo Hp;clear vH uo Hp;subst Ho;refine⟨by first|exact sF|exact λ_=>sF,?_⟩;try simp only[dj,fo,fg,fF,eE,eD,eu]
      refine DC (i:=8) (v:=aC (U ⟨w7.heap.size,0,V⟩) 1 1) (w':=w7.alloc<|aH #[aE<|pfx++⟨#[c]⟩,aC zi yX zh] 184) (by kernel_rfl) rfl (by rfl) ?N0 (λ_=>(dr _ _ _ (dm.1 sF).1).trans sF) ?avm;(case N0=>(go_simp));try simp only[dj,fo,fg,fF,eE,eD,eu]
      obtain⟨i0,hi,qy,ko,lT⟩:=tT ZK;have OT:aY r r w7:=by have h1:=H7.b;rw[rL.b] at h1;have h0:=rL.a;refine⟨h1.os.trans<|by rw[h0];rfl,h1.tape.trans<|by rw[h0];rfl,h1.output.trans<|by rw[h0];rfl,by have:=h1.size;rw[rL.b] at this;exact this,λb hb=>(h1.block b hb).trans<|by rw[rL.b]⟩
      have ajl:(w7.alloc<|aH #[aE<|pfx++⟨#[c]⟩,aC zi yX zh] 184).ownsRow B 184 2 (aC GG nl GD) nl xs:=by obtain⟨-,-,-,mO,EG⟩:=kp HQ;rw[EG] at mO;exact dB mO λb hb=>(dr _ _ _<|by have:=(mO.lt b hb).2;have:=OT.size;omega).trans<|OT.block b (mO.lt b hb).2
      have azR:=OT.size;refine DD (i:=9) (by kernel_rfl) rfl (by rfl) ?_;refine agM _ _ 177 rfl B 184 i0 (bO #[aE ⟨#[]⟩,aC V 0 0]) 2 40 Wi hi qy ko lT rfl (by decide) (aC GG nl GD) nl xs rfl ajl ⟨w7.heap.size,0,V⟩ 1 1 [aE<|pfx++⟨#[c]⟩,aC zi yX zh] rfl rfl (BY (by first|rfl|simp) _ _ rfl) (by simp[A5]) (by unfold vQ;omega) (by omega) (by have:=HE2.out;simp;omega) ?_;intro v8 w8 He CB lI;have Oz:=SF CB lI;have sE:=(CB.block p (by simp;omega) λe=>absurd (eO.one EN<|Oo p<|by rw[HQ.e];exact e.symm)<|by decide).trans<|(dr _ _ _<|by omega).trans sF;obtain⟨u1,uf⟩:=k0 w8 sE;have l:=E.a.anC (W1:=w7.alloc<|aH #[aE<|pfx++⟨#[c]⟩,aC zi yX zh] 184) (n:=Ek L<|push pfx c) (kv:=aC zi yX zh) (OT.trans ⟨rfl,rfl,rfl,by simp,λb hb=>dr _ _ _<|by omega⟩) (by rw[HQ.e];exact Oz) (by have:=H7.a;rw[rL.b] at this;exact dB this λb hb=>dr _ _ _ (this.lt b hb).2) (by rw[<-HQ.c];exact He) HE2.out;obtain⟨g8,amS,N0⟩:=Ca He;have HF:=X l;clear He CB lI Oz l ajl OT hi qy ko lT zB azR;subst N0;refine⟨by first|exact sE|exact λ_=>sE,?_⟩;try simp only[dj,fo,fg,fF,eE,eD,eu]
      refine DC (i:=10) (v:=aF<|U ⟨p,0,V⟩) (w':=w8) (by kernel_rfl) rfl (by rfl) ?Z8 (λ_=>sE) ?avq;(case Z8=>(go_simp));try simp only[dj,fo,fg,fF,eE,eD,eu]
      refine DC (i:=11) (v:=aF<|U ⟨p,2,V⟩) (w':=w8) (by kernel_rfl) rfl (by rfl) ?Z7 (λ_=>sE) ?avp;(case Z7=>(go_simp));try simp only[dj,fo,fg,fF,eE,eD,eu]
      refine VH (i:=12) (w':=w8.setCell ⟨p,2,V⟩<|aC (U ⟨g8,0,V⟩) (nl+1) amS) (by kernel_rfl) rfl (by rfl) ?aAl (λh=>Bool.noConfusion h) ?aHO;(case aAl=>(go_simp));try simp only[dj,fo,fg,fF,eu]
      refine VI (by kernel_rfl) ?_ _;refine tS ?_;clear hHeld sF sE k0 u1 uf EN Oo Oj;go_wp2;go_roundg (gk-1);case rel=>obtain⟨xh,N,v,F,xj,-,-,H,-,-,-⟩:=E;obtain⟨hI,nJ,z,-,-,-,-,-,-⟩:=HI;obtain⟨s,jd,-,-,-⟩:=HQ;have yd:=HP.a;rw[tU,tU,<-yd] at s;rw[z] at xj;have KR:iR r B p mj D':=⟨_,_,_,_,_,xh,N⟩;have AP:iR _ B p (jS L m n.pfx<|n.kids.take<|j+1) _:=⟨_,_,_,_,_,by rw[<-yd,s];exact HF.out.1,rfl⟩;refine⟨j+1,_,by go_simp,by omega,hI.next jd v F (by grind) (by rw[N];exact HF.out.2) (KR.msg H) AP⟩
      case measure=>omega
  ·have kP:j=kl:=by omega
   have uk:gk=0:=by omega
   subst uk;obtain⟨wq,rfl⟩:=ex wr;obtain⟨pm,Oh⟩:=ex<|jS L m n.pfx n.kids;obtain⟨em,z⟩:=ex (xy es (n.kids.map (·.1)));have gB:n.kids.take j=n.kids:=GP (by have:=HP.b;omega);have hGr:iR wq B p pm D':=by rw[Oh,<-gB];exact hI.Pa
   have O0:cU lS wq m2 em:=by rw[z,<-gB];exact hI.map
   have oB:em.map (·.1)=(lC L pfx).filter λc=> !(n.kids.map (·.1)).contains c:=by rw[z,al9,HX.e,Zu]
   have jo:(em.map (·.1)).Nodup:=by rw[oB];exact(M7 _ _ Y4).sublist Y3
   have R:em.length<=256:=by rw[<-Cb (f:=(·.1))];exact ag4 jo
   have ajn:kZ (em.map (·.1))=JL L n:=by rw[oB,HP.a];rfl
   have K:=FU.mk hI Oh hGr O0 jo R ajn;clear hI Oh z gB hGr O0 oB jo R ajn;go_wp2_with (go_at_call 161;go_must (refine(aiH m2 wq).mono ?_);rintro e w5 ⟨rfl,KC⟩;have H5:=X KC;clear KC;refine Halt.of ?_);unfold Halt;have E:=X (aew aey m2 em w5 (K.d.of_block<|by rw[H5.out];exact dr _ _ _ K.d.lt) K.e K.f wq.heap.size<|by rw[H5.out];go_simp);go_wp2_with (go_at_call 160;go_must (refine E.out.mono ?_);rintro e r ⟨sv,rfl,A,OU⟩;have H6:=cH.mk A OU;clear A OU;refine Halt.of ?_);unfold Halt;obtain⟨cs,iv⟩:=ex<|JL L n;obtain⟨rl,oZ⟩:=ex cs.length;have AN:em.length=rl:=by rw[oZ,iv,<-K.g];simp[kZ]
   have A:r.ownsRow w5 5 1 sv rl<|cs.map λb=>Y aq (b.toNat:Int):=by have:=H6.a;rw[K.g,<-iv,AN] at this;exact this
   have aAS:rl<=256:=by rw[<-AN];exact K.f
   obtain⟨JH,JG,rfl⟩:=fV A;have lG:w5.heap.size=wq+1:=by rw[H5.out];simp
   have J:aY wq wq r:=by
    have h3:aY wq wq w5:=by rw[H5.out];exact(dK _ _).alloc (aQ _) _
    exact h3.trans ⟨H6.b.os,H6.b.tape,H6.b.output,H6.b.size,λb hb=>H6.b.block b<|by omega⟩
   have P:=K.c.below J;have O4:CrI B p pm D' L pfx cs r 0 D' r:=⟨by rw[Nv,aDA];exact P,.refl _ _⟩;have HY:=FU.mk A J P O4 iv oZ lG;clear A J P O4 iv oZ lG AN E H5 H6 hj;go_wp2;go_loopg [95] rl λk s95 wr=>∃(i:Nat) (D2:Nat->Prop),s95=Y aG i∧k+i=rl∧CrI B p pm D' L pfx cs r i D2 wr;case atStart=>exact⟨0,D',rfl,by omega,HY.d⟩
   case round=>
    obtain⟨i,D2,rfl,hki,kA⟩:=hrel;obtain⟨A,J,P,-,iv,oZ,lG⟩:=HY;have hwr:=K.a.keep.size;have ez:=HX.b.size;have zC:=(dm.1 HX.c).1;have O6:¬D' w:=λhd=>by
     rcases K.a.own _ hd with h|h;·exact absurd (HH.f _ h).2<|by omega
     ·omega
    have vz:=kA.keep.1.size;by_cases hi:i<rl
    ·have v:=(kA.keep.1.block _ (by have:=J.size;omega) O6).trans<|(J.block _<|by omega).trans<|(K.a.keep.block _ zC<|by rintro(h|h);exact absurd (HH.f _ h).2 (by omega);omega).trans HX.c;have b0:wr.cell? w=U (aE pfx):=M v 0;have Ty:pH 5 1 (λb:UInt8=>Y aq (b.toNat:Int)) wr (aC JH rl JG) cs:=by unfold pH;rw[XG,<-oZ];refine dB (jD A<|lP _) λb hb=>kA.keep.1.block b (A.lt b hb).2 λhd=>?_;have h1:=(A.lt b hb).1;have h2:=(K.c.lt b hd).2;omega
     obtain⟨g,Dc,hv,hg,hY⟩:=Ty.cell (λ_=>rfl) (show i<cs.length by omega);simp only[wQ] at hv;obtain⟨rfl,-,rfl⟩:=hv;obtain⟨c,hc⟩:=ex<|cs[i]'(by omega);have y0:wr.cell? ⟨g,i,V⟩=U (Y aq (c.toNat:Int)):=by have:=hY 0 (Y aq ((cs[i]'(by omega)).toNat:Int)) (by decide) rfl;rw[SN] at this;rw[hc];exact this
     have G:=HH.e;have gB:cs.take (i+1)=cs.take i++[c]:=by rw[wS,mq<|show i<cs.length by omega,hc];rfl
     have hfl:=aDz L m n<|i+1;rw[<-K.b,<-HP.a,<-iv,gB,alz] at hfl;simp only[kM] at hfl;have oA:=G.nr;have K9:cI wr S L:=by
      have hB:=HH.b;have TJ:¬D S:=λhd=>by obtain⟨e,⟨cur,he⟩,_⟩:=HH.a.elem S hd;obtain⟨en,ck,h2,_⟩:=hB;rw[he] at h2;cases h2
      have aBp:¬D' S:=λhd=>by
       rcases K.a.own _ hd with h|h;·exact TJ h
       ·omega
      exact hB.of_block<|(kA.keep.1.block S (by have:=J.size;omega) aBp).trans<|(J.block S<|by omega).trans<|(K.a.keep.block S (by omega)<|by rintro(h|h);exact TJ h;omega).trans<|HX.b.block S zu
     have HT:=X (λ(W:ax) (hW:aY wr.heap.size wr W)=>Q4 B p S (xw L pm pfx<|cs.take i) D2 L (push pfx c) W (kA.Pa.below hW) (K9.of_block<|hW.block S K9.lt) (by have:=hW.size;have:=J.size;omega) G.len<|by omega);have EM:pfx.size<=4096:=by rw[HP.a];exact G.key.1
     have OE:(i:Int)<(rl:Int):=by omega
     have hNw:w.heap.size<wr:=by have:=J.size;omega
     have hNn:¬w.heap.size=wr.heap.size:=by omega
     have hcv:=amD c wr;have HI2:=cH.mk kA gB;clear A J P iv oZ lG v Ty hY hc G gB hfl oA K9 kA O6 vz;go_wp2_with (go_at_call 102;go_must (refine(HT.out _<|(dK _ _).alloc (aQ _) _).mono ?_);rintro e w7 ⟨rfl,D7,vL,uh⟩;have H7:=cH.mk vL uh;refine Halt.of ?_);unfold Halt;go_wp2;go_roundg (gk-1);case rel=>refine⟨i+1,D7,by go_simp,by omega,⟨by rw[HI2.b,alz];exact H7.a,HI2.a.keep.trans<|bS.trans ⟨O.alloc _ _ _,λb hb=>ay hb⟩ H7.b⟩⟩
     case measure=>omega
    ·have hie:i=rl:=by omega
     have uk:gk=0:=by omega
     subst uk;have l:iR wr B p (oH L m n) D2:=by have h1:=kA.Pa;rw[GP<|by omega,K.b,HP.a,iv] at h1;exact h1
     have Oy:bS D w D2 wr:=by
      have EU:=K.a.keep;have u:=HX.b;have ajJ:=HX.d;refine⟨⟨kA.keep.1.os.trans<|J.os.trans<|EU.os.trans u.os,kA.keep.1.tape.trans<|J.tape.trans<|EU.tape.trans u.tape,kA.keep.1.output.trans<|J.output.trans<|EU.output.trans u.output,by have:=J.size;omega,λb hb hn=>?_⟩,λb hd=>?_⟩
      ·have aBf:¬D' b:=λhd=>by
        rcases K.a.own _ hd with h|h;·exact hn h
        ·omega
       rw[kA.keep.1.block b (by have:=J.size;omega) aBf,J.block b<|by omega,EU.block b (by omega)<|by rintro(h|h);exact hn h;omega];exact u.block b hb
      ·rcases kA.keep.2 b hd with h|h
       ·rcases K.a.own _ h with h|h;·exact ay h
        ·exact aB<|by omega
       ·exact aB<|by have:=J.size;omega
     have HF:=X<|aM l Oy;go_wp2;go_end0;exact⟨rfl,D2,HF.out⟩
def yU:dR:=⟨[],[],[],[]⟩
def jE:ByteArray:=⟨#[]⟩
def qO(L:List s)(m:dR)(ws:List ByteArray):dR:={m with bu:=m.bu++ws.flatMap (ep L)}
def mK(L:List s)(m:dR)(E:List Nd):dR:=E.foldl (oH L) m
def Ao(L:List s)(m:dR)(d:Int):dR:=if d=C (ep L jE)then m else{m with nodes:=m.nodes++[Ek L jE]}
def kJ(L:List s)(m:dR)(ds:List Int):dR:=ds.foldl (Ao L) m
def tI(L:List s)(mi:dR):dR:=kJ L (mK L (qO L yU mi.cq) mi.nodes) mi.roots
theorem aoS(L)(m):qO L m []=m:=by simp[qO]
theorem adn(L)(m)(a)(p):qO L m (a++[p])={qO L m a with bu:=(qO L m a).bu++ep L p}:=by simp[qO]
theorem ag7(L)(m)(a)(n):mK L m (a++[n])=oH L (mK L m a) n:=by simp[mK]
theorem avb(L)(m)(ds)(d):kJ L m (ds++[d])=Ao L (kJ L m ds) d:=by simp[kJ]
structure xK(a b:dR):Prop where
 r:a.bu.length<=b.bu.length
 w:a.cq.length<=b.cq.length
 n:a.nodes.length<=b.nodes.length
theorem xK.refl(a):xK a a:=⟨aQ _,aQ _,aQ _⟩
theorem xK.trans{a b c}(h:xK a b)(k:xK b c):xK a c:=⟨bC h.r k.r,bC h.w k.w,bC h.n k.n⟩
theorem aFa(L)(m)(n):xK m<|oH L m n:=by have h:=Yy L m n 0;rw[Nv,ahw]at h;exact⟨h.1,h.2.1,h.2.2⟩
theorem Yi(L:List s):∀(a:List Nd)(m:dR),xK m<|mK L m a|[],m=>.refl m|n::a,m=>(aFa L m n).trans<|Yi L a _
theorem ava(L)(m)(d):xK m<|Ao L m d:=by
 unfold Ao;split;.exact .refl m
 .exact⟨aQ _,aQ _,by simp⟩
theorem RG(L:List s):∀(ds:List Int)(m:dR),xK m<|kJ L m ds|[],m=>.refl m|d::ds,m=>(ava L m d).trans<|RG L ds _
theorem awX(L)(m)(b)(j):xK (mK L m<|b.take j)<|mK L m b:=by
 have:mK L m b=mK L (mK L m<|b.take j) (b.drop j):=by grind[mK,List.take_append_drop]
 grind[Yi]
theorem au9(L)(m)(ds)(j):xK (kJ L m<|ds.take j)<|kJ L m ds:=by
 have:kJ L m ds=kJ L (kJ L m<|ds.take j) (ds.drop j):=by grind[kJ,List.take_append_drop]
 grind[RG]
theorem aoQ(L)(m)(b)(j):xK (qO L m<|b.take j)<|qO L m b:=by have:=Pd (ep L) b j;exact⟨by grind[qO,List.length_append],aQ _,aQ _⟩
structure VC(L:List s)(mi:dR):Prop where
 len:L.length<=1073741824
 fit:∀x∈L,Fit x
 nodup:∀n∈mi.nodes,(n.kids.map (·.1)).Nodup
 u64:∀n∈mi.nodes,∀k∈n.kids,uF k.2
 key:∀n∈mi.nodes,zg L n.pfx
 deep:∀n∈mi.nodes,∀c:UInt8,c≠0->zg L (push n.pfx c)nk:∀n∈mi.nodes,n.kids.length<=100000
 root:zg L jE
 rd:∀d∈mi.roots,uF d
 out:IX<|tI L mi
theorem VC.cm{L}{a}(h:VC L a){j}(d):aoe L (mK L (qO L yU a.cq)<|a.nodes.take j) a.nodes[j]:=by
 have b:=nC d;have e:mK L (qO L yU a.cq) (a.nodes.take<|j+1)=oH L (mK L (qO L yU a.cq)<|a.nodes.take j) a.nodes[j]:=by grind[List.take_add_one,List.getElem?_eq_getElem,Option.toList_some,ag7]
 have c:=(awX L (qO L yU a.cq) a.nodes<|j+1).trans<|RG L a.roots _;rw[e]at c;refine⟨h.len,h.fit,h.nodup _ b,h.u64 _ b,h.key _ b,h.deep _ b,h.nk _ b,?_,?_,?_⟩;.exact bC c.r<|bC h.out.nr<|by decide
 .exact bC c.w<|bC h.out.nw<|by decide
 .exact bC c.n<|bC h.out.nn<|by decide
def zZ(B E:Nat)(D0:Nat->Prop)(w2:ax)(m:dR)(W:ax):Prop:=∃D',iR W B E m D'/\bS D0 w2 D' W
theorem zZ.start{w:ax}:zZ w w (λb=>b=w) (w.alloc<|aH #[aC V 0 0,aC V 0 0,aC V 0 0,aC V 0 0] 180) yU<|w.alloc<|aH #[aC V 0 0,aC V 0 0,aC V 0 0,aC V 0 0] 180:=by
 refine⟨_,⟨aC V 0 0,aC V 0 0,aC V 0 0,aC V 0 0,[],⟨gI _ _,aQ _,mL _ _ _ _,mL _ _ _ _,lK.nil _ _,mL _ _ _ _⟩,rfl⟩,⟨O.refl _ _,λb a=>ay ?_⟩⟩;rcases a with h|h|h|h;.exact h
 .cases h
 .cases h
 .cases h
theorem zZ.low{B d}{c}{a W}{m}(h:zZ B d c a m W)(f:∀b,c b->B<=b){b}(j:b<B)(g:B<=a):W.heap[b]?=a.heap[b]?:=by obtain⟨i,_,h⟩:=h;exact h.1.block b (by omega) λe=>absurd (f b e)<|by omega
set_option maxHeartbeats 8000000 in
theorem acK (r mb gb:Nat) (id:Int) (L:List s) (mi:dR) (g off cap:Nat) (w:ax) (hR:fq w r id mb gb) (hB:cI w mb L) (ht:fx w) (TZ:(gz mi).length<=cap) (hg:g<w.heap.size)(jJ:∀j (h:j<(gz mi).length),w.cell? ⟨g,off+j,V⟩=U (jj (gz mi)[j])) (hm:acS mi) (hk:∀x∈mi.bu,x.Ok) (hO:VC (mi.bu.foldl fE L) mi):bz Q 59 #[aF<|U ⟨r,0,V⟩,aC (U ⟨g,off,V⟩) (gz mi).length cap] w λe w'=>cI w' mb (mi.bu.foldl fE L)∧O (λb=>b=mb) w w'∧((tI (mi.bu.foldl fE L) mi).none=Z∧e=bj (aC V 0 0)∨(tI (mi.bu.foldl fE L) mi).none=ai∧∃v,e=bj v∧dy w.heap.size w' v (gz<|tI (mi.bu.foldl fE L) mi)):=by
 have HC:=X<|axS mi g off cap w TZ hg jJ hm;obtain⟨A,O3⟩:=ex<|mi.bu.foldl fE L;rw[<-O3] at hO⊢;have oZ:=hR.lt;have zu:=hB.lt;have hrm:r≠mb:=hR.ne hB;have HH:=FU.mk hR hB ht hm hO O3 hk;clear hR hB ht TZ hg jJ hm hO O3 hk;go_enter apS,ntmps59;go_wp2_with (go_at_call 100;go_must (refine HC.out.mono ?_);rintro e w1 ⟨p,vr,vw,vn,vd,xs,rfl,hM,je⟩;have H1:=cH.mk hM je;clear hM je;refine Halt.of ?_);unfold Halt;clear HC;obtain⟨rad,avM,Tt⟩:=fV H1.a.bu;obtain⟨DI,DG,Cr⟩:=fV H1.a.cq;obtain⟨GG,GD,EG⟩:=fV H1.a.nodes.row;obtain⟨dad,amb,Z5⟩:=fV H1.a.roots;obtain⟨nr,oA⟩:=ex mi.bu.length;obtain⟨nw,KM⟩:=ex mi.cq.length;obtain⟨nn,KN⟩:=ex mi.nodes.length;obtain⟨nd,jo⟩:=ex mi.roots.length;rw[<-oA] at Tt;rw[<-KM] at Cr;rw[<-KN] at EG;rw[<-jo] at Z5;have CF:=H1.a.box;have hR1:fq w1 r id mb gb:=(H1.b.block r oZ).trans HH.a;have o9:cI w1 mb L:=HH.b.of_block<|H1.b.block mb zu;have Ia:fx w1:=HH.c.below H1.b<|aQ _;have KJ:w.heap.size<=p:=H1.a.lt;have hn5:nr<=600000∧nw<=600000∧nn<=124000∧nd<=100000:=by have h:=HH.d;exact⟨oA▸h.nr,KM▸h.nw,KN▸h.nn,jo▸h.nd⟩
 obtain⟨aJh,aJg,aJf,aJe⟩:=hn5;have HV:=FT.mk Tt Cr EG Z5 oA KM KN jo;have HX:=gR.mk hR1 o9 Ia;have c0:w1.cell? ⟨p,0,V⟩=U (aC rad nr avM):=(M CF 0).trans (by rw[Tt];rfl);clear Tt Cr EG Z5 oA KM KN jo hR1 o9 Ia CF;go_wp2;go_loopg [22] nr λk s22 wr=>∃(j:Nat),s22=Y aG j∧k+j=nr∧cI wr mb ((mi.bu.take j).foldl fE L)∧O (λb=>b=mb) w1 wr;case atStart=>exact⟨0,rfl,by omega,HX.b,O.refl _ _⟩
 case round=>
  obtain⟨j,rfl,nJ,La,hK⟩:=hrel;by_cases hj:j<nr
  ·have jd:j<mi.bu.length:=by have:=HV.e;omega
   have ZV:=H1.b.size;have nK:fq wr r id mb gb:=(hK.block r (by omega)<|by omega).trans HX.a;obtain⟨gg,hgg⟩:∃gg,rad=U ⟨gg,0,V⟩:=by
    have h:=H1.a.bu.2;rw[HV.a] at h;rcases h with⟨h,h0⟩|⟨gg,c,cur,h,_⟩;·omega
    ·injection h with h;exact⟨gg,h⟩
   subst hgg;have jG:=H1.a.bu;have Cz:eO w1 gg 46:=fP jG (by rw[HV.a];rfl);have sG:gg<w1.heap.size:=(dm.1 Cz.choose_spec).1;have OI:gg≠mb:=λe=>by obtain⟨cur,h1⟩:=Cz;obtain⟨en,ck,h2,_⟩:=HX.b;rw[e,h2] at h1;cases h1
   obtain⟨x,hx⟩:=ex mi.bu[j];have KU:∀i v,i<5->x.cells[i]? =U v->wr.cell? ⟨gg,j*5+i,V⟩=U v:=λi v hi hv=>by have h1:=Az jG (g:=gg) (by rw[HV.a];rfl) (j*5+i) v ((afA jd i hi).trans<|by rw[<-hx];exact hv);rw[Eu,vg] at h1;exact(ew (w:=w1) (a:=⟨gg,j*5+i,V⟩)<|hK.block gg sG OI).trans h1
   have gB:(mi.bu.take<|j+1).foldl fE L=fE ((mi.bu.take j).foldl fE L) x:=by rw[wS,mq jd,B9,List.foldl_append,<-hx];rfl
   have hxo:x.Ok:=by rw[hx];exact HH.g _<|nC jd
   have HTk:=X λ(W:ax) (h:cI W mb<|(mi.bu.take j).foldl fE L)=>aec x hxo mb _ W h;obtain⟨n,f,c,q,H⟩:=x;have y0:wr.cell? ⟨gg,j*5,V⟩=U (aE n):=KU 0 _ (by decide) rfl;have y1:wr.cell? ⟨gg,j*5+1,V⟩=U (aE f):=KU 1 _ (by decide) rfl;have y2:wr.cell? ⟨gg,j*5+2,V⟩=U (Y aG c):=KU 2 _ (by decide) rfl;have y3:wr.cell? ⟨gg,j*5+3,V⟩=U (Y aG q):=KU 3 _ (by decide) rfl;have y4:wr.cell? ⟨gg,j*5+4,V⟩=U (aE H):=KU 4 _ (by decide) rfl;obtain⟨wx,jV⟩:=ex<|wr.alloc<|aH #[aE n,aE f,Y aG c,Y aG q,aE H] 46;have jX:aY wr.heap.size wr wx:=by rw[jV];exact(dK _ _).alloc (aQ _) _
   have hrr:=nK.lt;have E9:wx.heap[r]? =U (aH #[Y aG id,bW<|U mb,bW<|U gb] 110 (0,0))∧wx.heap[wr.heap.size]? =U (aH #[aE n,aE f,Y aG c,Y aG q,aE H] 46 (0,0)):=⟨(jX.block r hrr).trans nK,by rw[jV];exact gI _ _⟩;have aA7:(wr.heap.size:Nat)≠mb:=by have:=La.lt;omega
   have k1:∀W:ax,W.heap[r]? =U (aH #[Y aG id,bW<|U mb,bW<|U gb] 110 (0,0))∧W.heap[wr.heap.size]? =U (aH #[aE n,aE f,Y aG c,Y aG q,aE H] 46 (0,0))->W.cell? ⟨r,1,V⟩=U (bW<|U mb)∧W.cell? ⟨wr.heap.size,0,V⟩=U (aE n)∧W.cell? ⟨wr.heap.size,1,V⟩=U (aE f)∧W.cell? ⟨wr.heap.size,2,V⟩=U (Y aG c)∧W.cell? ⟨wr.heap.size,3,V⟩=U (Y aG q)∧W.cell? ⟨wr.heap.size,4,V⟩=U (aE H):=λW h=>⟨M h.1 1,M h.2 0,M h.2 1,M h.2 2,M h.2 3,M h.2 4⟩;have oC:(j:Int)<(nr:Int):=by omega
   have HI:=FU.mk La hK jX gB jV nK ZV;clear La hK jX gB jG Cz sG OI hx KU hxo nK;go_wp2;rw[<-HI.e];clear jV y0 y1 y2 y3 y4;refine x4 ?_;refine DJ (λW=>W.heap[r]? =U (aH #[Y aG id,bW<|U mb,bW<|U gb] 110 (0,0))∧W.heap[wr.heap.size]? =U (aH #[aE n,aE f,Y aG c,Y aG q,aE H] 46 (0,0))) [0,1,2,3,4,5] (by kernel_rfl) E9 (λ_ _ _ _ _ h=>h) ?_;repeat((apply qQ _ rfl (by kernel_rfl) rfl;·intro W hSw;obtain⟨q0,q1,q2,q3,q4,q5⟩:=k1 W hSw;go_simp;try with_reducible rfl);simp only[yN])
   refine wE rfl (by kernel_rfl) λhHeld K hK=>?_;go_simp;go_at_call 101;refine jm (HTk.out wx.drew (HI.a.of_block<|HI.c.block mb HI.a.lt).drew) ?_;rintro e w7 ⟨rfl,vM,TQ⟩;have sF:w7.heap[r]? =U (aH #[Y aG id,bW<|U mb,bW<|U gb] 110 (0,0))∧w7.heap[wr.heap.size]? =U (aH #[aE n,aE f,Y aG c,Y aG q,aE H] 46 (0,0)):=⟨(TQ.block r (dm.1 hHeld.1).1 hrm).trans hHeld.1,(TQ.block _ (dm.1 hHeld.2).1 aA7).trans hHeld.2⟩;refine hK.out _ _ sF ?_;refine DK (by kernel_rfl) λhHeld=>?_;refine tS ?_;have H7:=cH.mk vM TQ;clear vM TQ sF hHeld k1 E9;go_wp2;go_roundg (gk-1);case rel=>obtain⟨-,hK,jX,gB,-,-,-⟩:=HI;refine⟨j+1,by go_simp,by omega,by rw[gB];exact H7.a,hK.trans<|O.trans' (F:=λ_=>False) (G:=λb=>b=mb) (O.iH jX) ((O.drew _ _).trans H7.b) (λ_ _ h=>h.elim) λ_ _ h=>h⟩
   case measure=>omega
  ·have kP:nr=j:=by omega
   have uk:gk=0:=by omega
   subst uk;subst kP;obtain⟨E,rfl⟩:=ex wr;have AZ:cI E mb A:=by rw[GP<|by have:=HV.e;omega] at La;rw[HH.f];exact La
   have Ui:jr E w.heap.size p mi vr vw vn vd xs:=H1.a.same (λb e hb=>hK.block b (dm.1 hb.choose_spec).1 λhe=>by obtain⟨cur,h1⟩:=hb;obtain⟨en,ck,h2,_⟩:=HX.b;rw[he,h2] at h1;cases h1) hK.size;have ZV:=H1.b.size;have hRA:fq E r id mb gb:=(hK.block r (by omega)<|by omega).trans HX.a;have h3m:(3:Nat)≠mb:=λe=>by have ht:=HH.c;obtain⟨en,clock,hb,_⟩:=HH.b;rw[<-e] at hb;unfold fx zI World.var? at ht;rw[Gb] at ht;simp[hb] at ht
   have hTA:fx E:=HX.c.keep hK h3m;have h4A:4<=E.heap.size:=by have:=hTA.lt;omega
   obtain⟨w2,jW⟩:=ex<|E.alloc<|aH #[aC V 0 0,aC V 0 0,aC V 0 0,aC V 0 0] 180;have hO0:zZ E.heap.size E.heap.size (λb=>b=E.heap.size) w2 yU w2:=by rw[jW];exact zZ.start
   have lT:w2.heap.size=E.heap.size+1:=by rw[jW];simp
   have KO:∀(m:dR) (W:ax),zZ E.heap.size E.heap.size (λb=>b=E.heap.size) w2 m W->∀b,b<E.heap.size->W.heap[b]? =E.heap[b]? :=λm W h b hb=>(h.low (λb hb=>by rw[hb];exact aQ _) hb<|by omega).trans (by rw[jW];exact dr _ _ _ hb);have ajD:∀(m:dR) (W:ax),zZ E.heap.size E.heap.size (λb=>b=E.heap.size) w2 m W->E.heap.size<=W.heap.size:=λm W h=>by obtain⟨D',_,h⟩:=h;have:=h.1.size;omega
   have hpA:=Ui.rQ;have TA:=hRA.lt;have TK:=AZ.lt;have D:=an0.mk AZ Ui hRA hTA h4A jW hO0 lT KO ajD hK;have c1:E.cell? ⟨p,1,V⟩=U (aC DI nw DG):=(M Ui.box 1).trans (by rw[HV.b];rfl);clear La AZ Ui hRA hTA h4A jW hO0 lT KO ajD hK hj c0 nJ;go_wp2;rw[<-D.f];go_loopg [40] nw λk s40 wr=>∃(j:Nat),s40=Y aG j∧k+j=nw∧zZ E.heap.size E.heap.size (λb=>b=E.heap.size) w2 (qO A yU<|mi.cq.take j) wr;case atStart=>exact⟨0,rfl,by omega,by rw[Nv,aoS];exact D.g⟩
   case round=>
    obtain⟨j,rfl,nJ,hI⟩:=hrel;by_cases hj:j<nw
    ·have jd:j<mi.cq.length:=by have:=HV.f;omega
     have P:=D.i _ wr hI;have wY:pH 9 1 aE E (aC DI nw DG) mi.cq:=by have h:=D.b.cq;rw[HV.b] at h;exact jD h<|lP _
     obtain⟨wg,Dc,hv,hg,hY⟩:=wY.cell (λ_=>rfl) jd;simp only[wQ] at hv;obtain⟨rfl,-,rfl⟩:=hv;obtain⟨q,hq⟩:=ex mi.cq[j];have y0:wr.cell? ⟨wg,j,V⟩=U (aE q):=by have:=hY 0 (aE mi.cq[j]) (by decide) rfl;rw[SN] at this;rw[hq];exact(ew (w:=E) (a:=⟨wg,j,V⟩)<|P wg hg).trans this
     have r1:wr.cell? ⟨r,1,V⟩=U (bW<|U mb):=M ((P r TA).trans D.c) 1;have gB:mi.cq.take (j+1)=mi.cq.take j++[q]:=by rw[wS,mq jd,hq];rfl
     have hO:=HH.e;have hle:=((aoQ A yU mi.cq<|j+1).trans<|Yi A mi.nodes _).trans<|RG A mi.roots _;rw[gB,adn] at hle;have hlr:=bC hle.r hO.out.nr;simp only[kM] at hlr;obtain⟨D',hG,hL⟩:=hI;have HT:=gR.mk (Q4 E.heap.size E.heap.size mb _ D' A q wr hG (D.a.of_block<|P mb TK) (by have:=hL.1.size;have:=D.h;omega) hO.len<|by omega) gB hL;have oC:(j:Int)<(nw:Int):=by omega
     clear P wY hY hq gB hO hle hlr hG hL;go_wp2_with (go_at_call 102;go_must (refine HT.a.mono ?_);rintro e w7 ⟨rfl,D7,vL,uh⟩;have H7:=cH.mk vL uh;clear vL uh;refine Halt.of ?_);unfold Halt;go_wp2;go_roundg (gk-1);case rel=>exact⟨j+1,by go_simp,by omega,D7,by rw[HT.b,adn];exact H7.a,HT.c.trans H7.b⟩
     case measure=>omega
    ·have kP:nw=j:=by omega
     have uk:gk=0:=by omega
     subst uk;subst kP;obtain⟨wB,rfl⟩:=ex wr;rw[GP<|by have:=HV.f;omega] at hI;obtain⟨mW,hmW⟩:=ex<|qO A yU mi.cq;rw[<-hmW] at hI;have akb:=(D.i _ wB hI p hpA).trans D.b.box;have c2:wB.cell? ⟨p,2,V⟩=U (aC GG nn GD):=(M akb 2).trans (by rw[HV.c];rfl);have HB:=cH.mk hI hmW;clear hI hmW akb hj c1 nJ;go_wp2;go_loopg [57] nn λk s57 wr=>∃(j:Nat),s57=Y aG j∧k+j=nn∧zZ E.heap.size E.heap.size (λb=>b=E.heap.size) w2 (mK A mW<|mi.nodes.take j) wr;case atStart=>exact⟨0,rfl,by omega,HB.a⟩
     case round=>
      obtain⟨j,rfl,nJ,hI⟩:=hrel;by_cases hj:j<nn
      ·have jd:j<mi.nodes.length:=by have:=HV.g;omega
       have P:=D.i _ wr hI;obtain⟨ng,Dc,kv,hv,hg,Ho,AJ,Co,vH⟩:=D.b.nodes.cell jd;rw[HV.c] at hv;simp only[wQ] at hv;obtain⟨rfl,-,rfl⟩:=hv;obtain⟨nj,TF⟩:=ex mi.nodes[j];rw[<-TF] at AJ vH;obtain⟨vu,ud,TP⟩:=fV vH;obtain⟨kl,zw⟩:=ex nj.kids.length;rw[<-zw] at TP;obtain⟨q,hq⟩:=ex nj.pfx;rw[<-hq] at AJ;rw[TP] at Co;have y0:wr.cell? ⟨ng,j*2,V⟩=U (aE q):=(ew (w:=E) (a:=⟨ng,j*2,V⟩)<|P ng hg).trans AJ;have y1:wr.cell? ⟨ng,j*2+1,V⟩=U (aC vu kl ud):=(ew (w:=E) (a:=⟨ng,j*2+1,V⟩)<|P ng hg).trans Co;have gB:mK A mW (mi.nodes.take<|j+1)=oH A (mK A mW<|mi.nodes.take j) nj:=by rw[wS,mq jd,B9,ag7,TF]
       have hO:=HH.e;have Hw:=hO.cm jd;rw[<-HB.b,<-TF] at Hw;have ga:=D.j _ wr hI;obtain⟨D',hG,hL⟩:=hI;obtain⟨wx,jV⟩:=ex<|wr.alloc<|aH #[aE q,aC vu kl ud] 184;have jX:aY wr.heap.size wr wx:=by rw[jV];exact(dK _ _).alloc (aQ _) _
       have nK:wr.heap[r]? =U (aH #[Y aG id,bW<|U mb,bW<|U gb] 110 (0,0)):=(P r TA).trans D.c;have E9:wx.heap[r]? =U (aH #[Y aG id,bW<|U mb,bW<|U gb] 110 (0,0))∧wx.heap[wr.heap.size]? =U (aH #[aE q,aC vu kl ud] 184 (0,0)):=⟨(jX.block r<|by omega).trans nK,by rw[jV];exact gI _ _⟩;have k1:∀W:ax,W.heap[r]? =U (aH #[Y aG id,bW<|U mb,bW<|U gb] 110 (0,0))∧W.heap[wr.heap.size]? =U (aH #[aE q,aC vu kl ud] 184 (0,0))->W.cell? ⟨r,1,V⟩=U (bW<|U mb)∧W.cell? ⟨wr.heap.size,0,V⟩=U (aE q)∧W.cell? ⟨wr.heap.size,1,V⟩=U (aC vu kl ud):=λW h=>⟨M h.1 1,M h.2 0,M h.2 1⟩;have HT:dx<|bz Q 103 #[aF<|U ⟨E.heap.size,0,V⟩,bW<|U mb,bO #[aE q,aC vu kl ud]] wx.drew λe w'=>e=bj (bQ #[])∧∃D2,iR w' E.heap.size E.heap.size (mK A mW<|mi.nodes.take<|j+1) D2∧bS D' wx.drew D2 w':=by have mz:aY wr.heap.size wr wx.drew:=⟨jX.os,jX.tape,jX.output,jX.size,jX.block⟩;have vz:=mz.size;refine X ?_;rw[gB,hq,<-TP];refine aE6 E.heap.size E.heap.size mb _ D' A nj kv wx.drew (hG.below mz) (D.a.of_block<|(mz.block mb<|by omega).trans<|P mb TK) (by omega) D.e (D.d.of_block<|(mz.block 3<|by have:=D.e;omega).trans<|P 3<|by have:=D.e;omega) (jD (B:=w.heap.size) ?_<|lP _) Hw;exact dB vH λb hb=>(mz.block b<|by have:=(vH.lt b hb).2;omega).trans<|P b (vH.lt b hb).2
       have oC:(j:Int)<(nn:Int):=by omega
       have hrs:r<wr.heap.size:=by omega
       have HI:=uJ.mk hL jX jV hG;clear P Ho AJ Co vH TF TP zw hq gB hO Hw hL jX nK hG;go_wp2;rw[<-HI.c];clear jV y0 y1;refine x4 ?_;refine DJ (λW=>W.heap[r]? =U (aH #[Y aG id,bW<|U mb,bW<|U gb] 110 (0,0))∧W.heap[wr.heap.size]? =U (aH #[aE q,aC vu kl ud] 184 (0,0))) [0,1,2,3,4,5,6] (by kernel_rfl) E9 (λ_ _ _ _ _ h=>h) ?_;repeat((apply qQ _ rfl (by kernel_rfl) rfl;·intro W hSw;obtain⟨q0,q1,q2⟩:=k1 W hSw;go_simp;try with_reducible rfl);simp only[yN])
       refine wE rfl (by kernel_rfl) λhHeld K hK=>?_;go_simp;go_at_call 103;refine jm HT.out ?_;rintro e w7 ⟨rfl,D7,vL,uh⟩;have Oq:∀b,b<E.heap.size∨b=wr.heap.size->¬D' b:=λb hb hd=>by have h1:=HI.d.lt b hd;rcases hb with hb|hb<;>omega
       have sF:w7.heap[r]? =U (aH #[Y aG id,bW<|U mb,bW<|U gb] 110 (0,0))∧w7.heap[wr.heap.size]? =U (aH #[aE q,aC vu kl ud] 184 (0,0)):=⟨(uh.1.block r (dm.1 hHeld.1).1<|Oq r<|ay TA).trans hHeld.1,(uh.1.block _ (dm.1 hHeld.2).1<|Oq _<|aB rfl).trans hHeld.2⟩;refine hK.out _ _ sF ?_;refine DK (by kernel_rfl) λhHeld=>?_;refine tS ?_;have H7:=cH.mk vL uh;clear vL uh sF hHeld k1 E9 Oq;go_wp2;go_roundg (gk-1);case rel=>obtain⟨hL,jX,-,-⟩:=HI;have mz:aY wr.heap.size wr wx.drew:=⟨jX.os,jX.tape,jX.output,jX.size,jX.block⟩;exact⟨j+1,by go_simp,by omega,D7,H7.a,hL.trans<|bS.trans (bS.other<|O.iH mz) H7.b⟩
       case measure=>omega
      ·have kP:nn=j:=by omega
       have uk:gk=0:=by omega
       subst uk;subst kP;obtain⟨wC,rfl⟩:=ex wr;rw[GP<|by have:=HV.g;omega] at hI;obtain⟨mN,hmN⟩:=ex<|mK A mW mi.nodes;rw[<-hmN] at hI;have aka:=(D.i _ wC hI p hpA).trans D.b.box;have c3:wC.cell? ⟨p,3,V⟩=U (aC dad nd amb):=(M aka 3).trans (by rw[HV.d];rfl);have HCc:=cH.mk hI hmN;clear hI hmN aka hj c2 nJ;go_wp2;go_loopg [74] nd λk s74 wr=>∃(j:Nat),s74=Y aG j∧k+j=nd∧zZ E.heap.size E.heap.size (λb=>b=E.heap.size) w2 (kJ A mN<|mi.roots.take j) wr;case atStart=>exact⟨0,rfl,by omega,HCc.a⟩
       case round=>
        obtain⟨j,rfl,nJ,hI⟩:=hrel;by_cases hj:j<nd
        ·have jd:j<mi.roots.length:=by have:=HV.h;omega
         have P:=D.i _ wr hI;have wY:pH 76 8 iy E (aC dad nd amb) mi.roots:=by have h:=D.b.roots;rw[HV.d] at h;exact jD h<|lP _
         obtain⟨dg,Dc,hv,hg,hY⟩:=wY.cell al4 jd;simp only[wQ] at hv;obtain⟨rfl,-,rfl⟩:=hv;obtain⟨d,hd⟩:=ex mi.roots[j];rw[<-hd] at hY;unfold iy at hY;obtain⟨d0,sH⟩:∃z,z=d/72057594037927936 % 256:=⟨_,rfl⟩;obtain⟨d1,TY⟩:∃z,z=d/281474976710656 % 256:=⟨_,rfl⟩;obtain⟨d2,OQ⟩:∃z,z=d/1099511627776 % 256:=⟨_,rfl⟩;obtain⟨d3,OP⟩:∃z,z=d/4294967296 % 256:=⟨_,rfl⟩;obtain⟨d4,OO⟩:∃z,z=d/16777216 % 256:=⟨_,rfl⟩;obtain⟨d5,KT⟩:∃z,z=d/65536 % 256:=⟨_,rfl⟩;obtain⟨d6,ON⟩:∃z,z=d/256 % 256:=⟨_,rfl⟩;obtain⟨d7,OM⟩:∃z,z=d % 256:=⟨_,rfl⟩;rw[<-sH,<-TY,<-OQ,<-OP,<-OO,<-KT,<-ON,<-OM] at hY;have y0:wr.cell? ⟨dg,j*8,V⟩=U (Y aq d0):=(ew (w:=E) (a:=⟨dg,j*8,V⟩)<|P dg hg).trans<|hY 0 _ (by decide) rfl;have y1:wr.cell? ⟨dg,j*8+1,V⟩=U (Y aq d1):=(ew (w:=E) (a:=⟨dg,j*8+1,V⟩)<|P dg hg).trans<|hY 1 _ (by decide) rfl;have y2:wr.cell? ⟨dg,j*8+2,V⟩=U (Y aq d2):=(ew (w:=E) (a:=⟨dg,j*8+2,V⟩)<|P dg hg).trans<|hY 2 _ (by decide) rfl;have y3:wr.cell? ⟨dg,j*8+3,V⟩=U (Y aq d3):=(ew (w:=E) (a:=⟨dg,j*8+3,V⟩)<|P dg hg).trans<|hY 3 _ (by decide) rfl;have y4:wr.cell? ⟨dg,j*8+4,V⟩=U (Y aq d4):=(ew (w:=E) (a:=⟨dg,j*8+4,V⟩)<|P dg hg).trans<|hY 4 _ (by decide) rfl;have y5:wr.cell? ⟨dg,j*8+5,V⟩=U (Y aq d5):=(ew (w:=E) (a:=⟨dg,j*8+5,V⟩)<|P dg hg).trans<|hY 5 _ (by decide) rfl;have y6:wr.cell? ⟨dg,j*8+6,V⟩=U (Y aq d6):=(ew (w:=E) (a:=⟨dg,j*8+6,V⟩)<|P dg hg).trans<|hY 6 _ (by decide) rfl;have y7:wr.cell? ⟨dg,j*8+7,V⟩=U (Y aq d7):=(ew (w:=E) (a:=⟨dg,j*8+7,V⟩)<|P dg hg).trans<|hY 7 _ (by decide) rfl;obtain⟨hs,Cy⟩:=ex<|C<|ep A jE;obtain⟨e0,he0⟩:∃z,z=hs/72057594037927936 % 256:=⟨_,rfl⟩;obtain⟨e1,he1⟩:∃z,z=hs/281474976710656 % 256:=⟨_,rfl⟩;obtain⟨e2,he2⟩:∃z,z=hs/1099511627776 % 256:=⟨_,rfl⟩;obtain⟨e3,he3⟩:∃z,z=hs/4294967296 % 256:=⟨_,rfl⟩;obtain⟨e4,he4⟩:∃z,z=hs/16777216 % 256:=⟨_,rfl⟩;obtain⟨e5,he5⟩:∃z,z=hs/65536 % 256:=⟨_,rfl⟩;obtain⟨e6,he6⟩:∃z,z=hs/256 % 256:=⟨_,rfl⟩;obtain⟨e7,he7⟩:∃z,z=hs % 256:=⟨_,rfl⟩;have hdv:iy hs=bO #[Y aq e0,Y aq e1,Y aq e2,Y aq e3,Y aq e4,Y aq e5,Y aq e6,Y aq e7]:=by rw[he0,he1,he2,he3,he4,he5,he6,he7];rfl
         obtain⟨eb,Ht⟩:=ex<|d0==e0&&(d1==e1&&(d2==e2&&(d3==e3&&(d4==e4&&(d5==e5&&(d6==e6&&d7==e7))))));have hO:=HH.e;have AQ:eb=bP (d=hs):=by rw[Ht,sH,TY,OQ,OP,OO,KT,ON,OM,he0,he1,he2,he3,he4,he5,he6,he7];exact al3 (by rw[hd];exact hO.rd _<|nC jd)<|by rw[Cy];exact Ub _
         have hq:∀W,(s8 10000 76 (bO #[Y aq d0,Y aq d1,Y aq d2,Y aq d3,Y aq d4,Y aq d5,Y aq d6,Y aq d7])<|bO #[Y aq e0,Y aq e1,Y aq e2,Y aq e3,Y aq e4,Y aq e5,Y aq e6,Y aq e7]).run Q W=aW eb W:=λW=>by rw[alL,<-Ht]
         have gB:kJ A mN (mi.roots.take<|j+1)=Ao A (kJ A mN<|mi.roots.take j) d:=by rw[wS,mq jd,B9,avb,hd]
         have hle:=au9 A mN mi.roots<|j+1;rw[gB] at hle;have Hi:(Ao A (kJ A mN<|mi.roots.take j) d).nodes.length<=124000:=bC hle.n (by have:=hO.out.nn;unfold tI at this;rw[<-HB.b,<-HCc.b] at this;exact this);have ga:=D.j _ wr hI;obtain⟨D',hG,hL⟩:=hI;obtain⟨wx,jV⟩:=ex<|wr.alloc<|aH #[Y aq d0,Y aq d1,Y aq d2,Y aq d3,Y aq d4,Y aq d5,Y aq d6,Y aq d7] 76;have jX:aY wr.heap.size wr wx:=by rw[jV];exact(dK _ _).alloc (aQ _) _
         have nK:wr.heap[r]? =U (aH #[Y aG id,bW<|U mb,bW<|U gb] 110 (0,0)):=(P r TA).trans D.c;have E9:wx.heap[r]? =U (aH #[Y aG id,bW<|U mb,bW<|U gb] 110 (0,0))∧wx.heap[wr.heap.size]? =U (aH #[Y aq d0,Y aq d1,Y aq d2,Y aq d3,Y aq d4,Y aq d5,Y aq d6,Y aq d7] 76 (0,0)):=⟨(jX.block r<|by omega).trans nK,by rw[jV];exact gI _ _⟩;have k1:∀W:ax,W.heap[r]? =U (aH #[Y aG id,bW<|U mb,bW<|U gb] 110 (0,0))∧W.heap[wr.heap.size]? =U (aH #[Y aq d0,Y aq d1,Y aq d2,Y aq d3,Y aq d4,Y aq d5,Y aq d6,Y aq d7] 76 (0,0))->W.cell? ⟨r,1,V⟩=U (bW<|U mb)∧W.cell? ⟨wr.heap.size,0,V⟩=U (Y aq d0)∧W.cell? ⟨wr.heap.size,1,V⟩=U (Y aq d1)∧W.cell? ⟨wr.heap.size,2,V⟩=U (Y aq d2)∧W.cell? ⟨wr.heap.size,3,V⟩=U (Y aq d3)∧W.cell? ⟨wr.heap.size,4,V⟩=U (Y aq d4)∧W.cell? ⟨wr.heap.size,5,V⟩=U (Y aq d5)∧W.cell? ⟨wr.heap.size,6,V⟩=U (Y aq d6)∧W.cell? ⟨wr.heap.size,7,V⟩=U (Y aq d7):=λW h=>⟨M h.1 1,M h.2 0,M h.2 1,M h.2 2,M h.2 3,M h.2 4,M h.2 5,M h.2 6,M h.2 7⟩;have mz:aY wr.heap.size wr wx.drew:=⟨jX.os,jX.tape,jX.output,jX.size,jX.block⟩;have vz:=mz.size;have Ii:cI wx.drew mb A:=D.a.of_block<|(mz.block mb<|by omega).trans<|P mb TK;have CI:fx wx.drew:=D.d.of_block ((mz.block 3<|by have:=D.e;omega).trans<|P 3<|by have:=D.e;omega);have HT:dx<|bz Q 51 #[bW<|U mb,aE ⟨#[]⟩] wx.drew λe w'=>e=bj (bO #[Y aq e0,Y aq e1,Y aq e2,Y aq e3,Y aq e4,Y aq e5,Y aq e6,Y aq e7])∧aY wx.drew.heap.size wx.drew w':=by refine X ?_;rw[<-hdv,Cy];exact UF mb A jE wx.drew Ii hO.len CI hO.fit
         have oC:(j:Int)<(nd:Int):=by omega
         have hrs:r<wr.heap.size:=by omega
         have HI:=an1.mk hL mz jV hG gB AQ Cy Ii CI Hi;clear P wY hY hd sH TY OQ OP OO KT ON OM he0 he1 he2 he3 he4 he5 he6 he7 hdv Ht hO AQ Cy gB hle hL hG nK Ii CI mz vz jX Hi;go_wp2;rw[<-HI.c];clear jV y0 y1 y2 y3 y4 y5 y6 y7;refine x4 ?_;refine DJ (λW=>W.heap[r]? =U (aH #[Y aG id,bW<|U mb,bW<|U gb] 110 (0,0))∧W.heap[wr.heap.size]? =U (aH #[Y aq d0,Y aq d1,Y aq d2,Y aq d3,Y aq d4,Y aq d5,Y aq d6,Y aq d7] 76 (0,0))) [0,1,2,3,4,5,6] (by kernel_rfl) E9 (λ_ _ _ _ _ h=>h) ?_;repeat((apply qQ _ rfl (by kernel_rfl) rfl;·intro W hSw;obtain⟨q0,q1,q2,q3,q4,q5,q6,q7,q8⟩:=k1 W hSw;go_simp;try with_reducible rfl);simp only[yN])
         refine wE rfl (by kernel_rfl) λhHeld K hK=>?_;go_simp;go_at_call 51;refine jm HT.out ?_;rintro e w7 ⟨rfl,uo⟩;have sF:w7.heap[r]? =U (aH #[Y aG id,bW<|U mb,bW<|U gb] 110 (0,0))∧w7.heap[wr.heap.size]? =U (aH #[Y aq d0,Y aq d1,Y aq d2,Y aq d3,Y aq d4,Y aq d5,Y aq d6,Y aq d7] 76 (0,0)):=⟨(uo.block r (dm.1 hHeld.1).1).trans hHeld.1,(uo.block _ (dm.1 hHeld.2).1).trans hHeld.2⟩;refine hK.out _ _ sF ?_;repeat((apply qQ _ rfl (by kernel_rfl) rfl;·intro W hSw;have q0:=hq W;go_simp;try with_reducible rfl);simp only[yN])
         refine DK (by kernel_rfl) λhHeld=>?_;refine tS ?_;have H7:=cH.mk uo sF.1;clear uo sF hHeld k1 E9 hq HT;cases eb with
         |true=>
          go_wp2;go_roundg (gk-1);case rel=>obtain⟨hL,mz,-,hG,gB,AQ,Cy,-,-,-⟩:=kp HI;have CG:aY wr.heap.size wr w7:=mz.trans ⟨H7.a.os,H7.a.tape,H7.a.output,H7.a.size,λb hb=>H7.a.block b<|by have:=mz.size;omega⟩;have EK:Ao A (kJ A mN<|mi.roots.take j) d=kJ A mN (mi.roots.take j):=cJ (by rw[of_decide_eq_true AQ.symm,Cy]);exact⟨j+1,by go_simp,by omega,D',by rw[gB,EK];exact hG.below CG,hL.trans<|bS.other<|O.iH CG⟩
          case measure=>omega|false=>
          obtain⟨hL,mz,-,hG,gB,AQ,Cy,Ii,CI,Hi⟩:=HI;have NU:=mz.size;have CG:aY wr.heap.size wr w7:=mz.trans ⟨H7.a.os,H7.a.tape,H7.a.output,H7.a.size,λb hb=>H7.a.block b<|by omega⟩;have aIF:=CG.size;have vL:=hG.below CG;obtain⟨Aj,Ai,Ms,xM,Dy,ur,Fc⟩:=vL;have EK:Ao A (kJ A mN<|mi.roots.take j) d={kJ A mN<|mi.roots.take j with nodes:=(kJ A mN<|mi.roots.take j).nodes++[Ek A jE]}:=if_neg (by rw[<-Cy];exact of_decide_eq_false AQ.symm);rw[EK] at Hi;obtain⟨mj,Ou⟩:=ex<|kJ A mN<|mi.roots.take j;rw[<-Ou] at ur EK Hi;obtain⟨nl,EP⟩:=ex mj.nodes.length;have aJb:nl+1<=124000:=by simp only[kM,zc] at Hi;omega
          have mO:=ur.nodes.row;rw[<-EP] at mO;obtain⟨B0,BZ,Z4⟩:=fV mO;have Oo:=λb hb=>fP (b:=b) mO hb;have EN:=ur.rR;have aa2:=ur.box;have hO:=HH.e;have vM:cI w7 mb A:=Ii.of_block<|H7.a.block mb Ii.lt;have hT7:fx w7:=CI.below H7.a<|aQ _;have zB:dx<|∀W,W.heap=w7.heap->bz Q 104 #[bW<|U mb,aE ⟨#[]⟩] W λe w'=>∃kv,e=bj (bO #[aE ⟨#[]⟩,kv])∧w'.ownsRow W.heap.size 233 9 kv (qw A jE).length (fO gZ<|qw A jE)∧aY W.heap.size W w':=X λW e=>ag9 mb A jE W hO.root.1 (vM.of_block<|by rw[e]) hO.len (hT7.of_block<|by rw[e]) hO.fit hO.root.2;rw[Z4] at aa2;have hS7:w7.heap[r]? =U (aH #[Y aG id,bW<|U mb,bW<|U gb] 110 (0,0))∧w7.heap[E.heap.size]? =U (aH #[Aj,Ai,aC B0 nl BZ,xM] 180 (0,0)):=⟨H7.b,aa2⟩;have k1:∀W:ax,W.heap[r]? =U (aH #[Y aG id,bW<|U mb,bW<|U gb] 110 (0,0))∧W.heap[E.heap.size]? =U (aH #[Aj,Ai,aC B0 nl BZ,xM] 180 (0,0))->W.cell? ⟨r,1,V⟩=U (bW<|U mb)∧W.cell? ⟨E.heap.size,2,V⟩=U (aC B0 nl BZ)∧W.frozen? ⟨E.heap.size,2,V⟩=ai:=λW h=>⟨M h.1 1,M h.2 2,by simp[yu,h.2]⟩;have NZ:E.heap.size<w7.heap.size:=ur.rQ;have aAR:r<w7.heap.size:=by omega
          have HQ:=an1.mk ur Fc EK EP mO Z4 CG hL gB Ou;clear hL mz hG gB AQ Cy Ii CI Hi ur Fc EK EP mO hO vM hT7 aa2 CG Ou H7;go_wp2;refine x4 ?_;refine wp_region_Z (S:=λW=>W.heap[r]? =U (aH #[Y aG id,bW<|U mb,bW<|U gb] 110 (0,0))∧W.heap[E.heap.size]? =U (aH #[Aj,Ai,aC B0 nl BZ,xM] 180 (0,0))) (z:=14) (by kernel_rfl) hS7 λhHeld=>?_;refine mg (i:=0) (v:=?vz0) rfl (by kernel_rfl) (by kernel_rfl) (by kernel_rfl) (by kernel_rfl) (λ_ _ _ h=>h) (ay ⟨by rfl,?az1⟩) hHeld ?aHM;(case az1=>(intro W hSw;go_simp;(try with_reducible rfl)));try simp only[dj,fo,fg,fF,eE,eD,eu]
          refine mg (i:=1) (v:=?vz1) rfl (by kernel_rfl) (by kernel_rfl) (by kernel_rfl) (by kernel_rfl) (λ_ _ _ h=>h) (ay ⟨by rfl,?az0⟩) hHeld ?aHL;(case az0=>(intro W hSw;go_simp;(try with_reducible rfl)));try simp only[dj,fo,fg,fF,eE,eD,eu]
          refine mg (i:=2) (v:=?vz2) rfl (by kernel_rfl) (by kernel_rfl) (by kernel_rfl) (by kernel_rfl) (λ_ _ _ h=>h) (ay ⟨by rfl,?azZ⟩) hHeld ?aHG;(case azZ=>(intro W hSw;go_simp;(try with_reducible rfl)));try simp only[dj,fo,fg,fF,eE,eD,eu]
          refine mg (i:=3) (v:=?vz3) rfl (by kernel_rfl) (by kernel_rfl) (by kernel_rfl) (by kernel_rfl) (λ_ _ _ h=>h) (ay ⟨by rfl,?azY⟩) hHeld ?aHF;(case azY=>(intro W hSw;go_simp;(try with_reducible rfl)));try simp only[dj,fo,fg,fF,eE,eD,eu]
          refine mg (i:=4) (v:=?vz4) rfl (by kernel_rfl) (by kernel_rfl) (by kernel_rfl) (by kernel_rfl) (λ_ _ _ h=>h) (ay ⟨by rfl,?azX⟩) hHeld ?aHE;(case azX=>(intro W hSw;obtain⟨q0,q1,q2⟩:=k1 W hSw;go_simp;(try with_reducible rfl)));try simp only[dj,fo,fg,fF,eE,eD,eu]
          refine mg (i:=5) (v:=?vz5) rfl (by kernel_rfl) (by kernel_rfl) (by kernel_rfl) (by kernel_rfl) (λ_ _ _ h=>h) (ay ⟨by rfl,?azW⟩) hHeld ?aHD;(case azW=>(intro W hSw;go_simp;(try with_reducible rfl)));try simp only[dj,fo,fg,fF,eE,eD,eu]
          refine mg (i:=6) (v:=?vz6) rfl (by kernel_rfl) (by kernel_rfl) (by kernel_rfl) (by kernel_rfl) (λ_ _ _ h=>h) (ay ⟨by rfl,?azV⟩) hHeld ?aHC;(case azV=>(intro W hSw;go_simp;(try with_reducible rfl)));try simp only[dj,fo,fg,fF,eE,eD,eu]
          refine mg (i:=7) (v:=?vz7) rfl (by kernel_rfl) (by kernel_rfl) (by kernel_rfl) (by kernel_rfl) (λ_ _ _ h=>h) (ay ⟨by rfl,?azU⟩) hHeld ?aHB;(case azU=>(intro W hSw;go_simp;(try with_reducible rfl)));try simp only[dj,fo,fg,fF,eE,eD,eu]
          refine mg (i:=8) (v:=?vz8) rfl (by kernel_rfl) (by kernel_rfl) (by kernel_rfl) (by kernel_rfl) (λ_ _ _ h=>h) (ay ⟨by rfl,?azT⟩) hHeld ?aHA;(case azT=>(intro W hSw;obtain⟨q0,q1,q2⟩:=k1 W hSw;go_simp;(try with_reducible rfl)));try simp only[dj,fo,fg,fF,eE,eD,eu]
          obtain⟨W0,CH⟩:=ex w7.drew;rw[<-CH] at hHeld⊢;have rL:=cH.mk CH (show W0.heap=w7.heap by rw[CH];rfl);clear CH;refine DD (i:=9) (by kernel_rfl) rfl (by rfl) ?_;go_simp;go_at_call 104;refine jm (zB.out W0 rL.b) ?_;rintro e w8 ⟨kv,rfl,vH,zA⟩;have sE:w8.heap[r]? =U (aH #[Y aG id,bW<|U mb,bW<|U gb] 110 (0,0))∧w8.heap[E.heap.size]? =U (aH #[Aj,Ai,aC B0 nl BZ,xM] 180 (0,0)):=⟨(zA.block r<|by rw[rL.b];exact aAR).trans hHeld.1,(zA.block _<|by rw[rL.b];exact NZ).trans hHeld.2⟩;obtain⟨zi,zh,Ho⟩:=fV vH;obtain⟨yX,Hp⟩:=ex (qw A jE).length;rw[<-Hp] at Ho;have H8:=gR.mk vH zA Hp;clear vH zA Hp;subst Ho;have aaw:r<w8.heap.size:=(dm.1 sE.1).1;have aax:E.heap.size<w8.heap.size:=(dm.1 sE.2).1;refine⟨by first|exact sE|exact λ_=>sE,?_⟩;try simp only[dj,fo,fg,fF,eE,eD,eu]
          refine DC (i:=10) (v:=aC (U ⟨w8.heap.size,0,V⟩) 1 1) (w':=w8.alloc<|aH #[aE ⟨#[]⟩,aC zi yX zh] 184) (by kernel_rfl) rfl (by rfl) ?aAd (λ_=>⟨(dr _ _ _ aaw).trans sE.1,(dr _ _ _ aax).trans sE.2⟩) ?aHK;(case aAd=>(go_simp));try simp only[dj,fo,fg,fF,eE,eD,eu]
          obtain⟨i0,hi,qy,ko,lT⟩:=tT ZK;have Ua:aY w7.heap.size w7 w8:=by have h1:=H8.b;rw[rL.b] at h1;have h0:=rL.a;refine⟨h1.os.trans<|by rw[h0];rfl,h1.tape.trans<|by rw[h0];rfl,h1.output.trans<|by rw[h0];rfl,by have:=h1.size;rw[rL.b] at this;exact this,λb hb=>(h1.block b hb).trans<|by rw[rL.b]⟩
          have azQ:=Ua.size;have ajk:(w8.alloc<|aH #[aE ⟨#[]⟩,aC zi yX zh] 184).ownsRow E.heap.size 184 2 (aC B0 nl BZ) nl Dy:=by have mO:=HQ.e;rw[HQ.f] at mO;exact dB mO λb hb=>(dr _ _ _<|by have:=(mO.lt b hb).2;omega).trans<|Ua.block b (mO.lt b hb).2
          refine DD (i:=11) (by kernel_rfl) rfl (by rfl) ?_;refine agM _ _ 177 rfl E.heap.size 184 i0 (bO #[aE ⟨#[]⟩,aC V 0 0]) 2 40 Wi hi qy ko lT rfl (by decide) (aC B0 nl BZ) nl Dy rfl ajk ⟨w8.heap.size,0,V⟩ 1 1 [aE ⟨#[]⟩,aC zi yX zh] rfl rfl (BY (by first|rfl|simp) _ _ rfl) (by simp[A5]) (by unfold vQ;omega) (by omega) (by simp;omega) ?_;intro v9 w9 hr9 AP lI;have hl9:=SF AP lI;have aal:∀b,b=r∨b=E.heap.size->U b≠(aC B0 nl BZ).ownBlock:=λb hb e=>by
           have h1:eO w7 b 184:=Oo b (by rw[HQ.f];exact e.symm);rcases hb with rfl|rfl;·obtain⟨cur,h1⟩:=h1;rw[hS7.1] at h1;cases h1
           ·exact absurd (eO.one EN h1)<|by decide
          have KP:w9.heap[r]? =U (aH #[Y aG id,bW<|U mb,bW<|U gb] 110 (0,0))∧w9.heap[E.heap.size]? =U (aH #[Aj,Ai,aC B0 nl BZ,xM] 180 (0,0)):=⟨(AP.block r (by simp;omega)<|aal r<|ay rfl).trans<|(dr _ _ _ aaw).trans sE.1,(AP.block _ (by simp;omega)<|aal _<|aB rfl).trans<|(dr _ _ _ aax).trans sE.2⟩;obtain⟨-,u1,uf⟩:=k1 w9 KP;have CE:=HQ.a.anC (W1:=w8.alloc<|aH #[aE ⟨#[]⟩,aC zi yX zh] 184) (n:=Ek A jE) (kv:=aC zi yX zh) (Ua.trans ⟨rfl,rfl,rfl,by simp,λb hb=>dr _ _ _<|by omega⟩) (by rw[HQ.f];exact hl9) (by have:=H8.a;rw[rL.b] at this;exact dB this λb hb=>dr _ _ _ (this.lt b hb).2) (by rw[<-HQ.d];exact hr9) (by omega);obtain⟨g9,aFv,EH⟩:=Ca hr9;have HF:=X CE;clear hr9 AP lI hl9 CE ajk Ua hi qy ko lT zB azQ aal;subst EH;refine⟨by first|exact KP|exact λ_=>KP,?_⟩;try simp only[dj,fo,fg,fF,eE,eD,eu]
          refine DC (i:=12) (v:=aF<|U ⟨E.heap.size,0,V⟩) (w':=w9) (by kernel_rfl) rfl (by rfl) ?aAc (λ_=>KP) ?aHJ;(case aAc=>(go_simp));try simp only[dj,fo,fg,fF,eE,eD,eu]
          refine DC (i:=13) (v:=aF<|U ⟨E.heap.size,2,V⟩) (w':=w9) (by kernel_rfl) rfl (by rfl) ?aAb (λ_=>KP) ?aHI;(case aAb=>(go_simp));try simp only[dj,fo,fg,fF,eE,eD,eu]
          refine VH (i:=14) (w':=w9.setCell ⟨E.heap.size,2,V⟩<|aC (U ⟨g9,0,V⟩) (nl+1) aFv) (by kernel_rfl) rfl (by rfl) ?aAa (λh=>Bool.noConfusion h) ?aHH;(case aAa=>(go_simp));try simp only[dj,fo,fg,fF,eE,eD,eu]
          refine VI (by kernel_rfl) ?_ _;refine tS ?_;clear hHeld sE KP k1 u1 uf EN Oo hS7 aaw aax;go_wp2;go_roundg (gk-1);case rel=>obtain⟨ur,Fc,EK,EP,mO,Z4,CG,hL,gB,Ou⟩:=HQ;have AP:iR _ E.heap.size E.heap.size (kJ A mN<|mi.roots.take<|j+1) _:=⟨_,_,_,_,_,by rw[gB,<-Ou,EK];exact HF.out.1,rfl⟩;exact⟨j+1,by go_simp,by omega,_,AP,hL.trans<|(bS.other<|O.iH CG).trans<|by rw[Fc];exact HF.out.2⟩
          case measure=>omega
        ·have kP:nd=j:=by omega
         have uk:gk=0:=by omega
         subst uk;subst kP;obtain⟨wD,rfl⟩:=ex wr;rw[GP<|by have:=HV.h;omega] at hI;obtain⟨mo,nH⟩:=ex<|tI A mi;have e0:kJ A mN mi.roots=mo:=by rw[nH,HCc.b,HB.b];rfl
         rw[e0] at hI;have P:=D.i _ wD hI;obtain⟨D',⟨Aj,Ai,Ms,xM,Dy,hM,-⟩,hL⟩:=hI;obtain⟨n0,zq⟩:=ex mo.bu.length;obtain⟨n1,yf⟩:=ex mo.cq.length;obtain⟨n2,zo⟩:=ex mo.nodes.length;have Hg:=hM.bu;have KG:=hM.cq;have Cs:=hM.nodes.row;rw[<-zq] at Hg;rw[<-yf] at KG;rw[<-zo] at Cs;obtain⟨a0,c0',hv0⟩:=fV Hg;obtain⟨a1,c1',Ob⟩:=fV KG;obtain⟨a2,c2',Oa⟩:=fV Cs;have hO:=HH.e;have hl0:n0<=600000:=by rw[zq,nH];exact hO.out.nr
         have AN:n1<=600000:=by rw[yf,nH];exact hO.out.nw
         have vG:n2<=124000:=by rw[zo,nH];exact hO.out.nn
         have aa1:=hM.box;rw[hv0,Ob,Oa] at aa1;have Ij:cI wD mb A:=D.a.of_block<|P mb TK;have ZV:=H1.b.size;have Ic:=D.k;have Ib:O (λb=>b=mb) w wD:=by have h2:w2=E.alloc (aH #[aC V 0 0,aC V 0 0,aC V 0 0,aC V 0 0] 180):=D.f;refine⟨hL.1.os.trans<|(by rw[h2];rfl:w2.os=E.os).trans<|Ic.os.trans H1.b.os,hL.1.tape.trans<|(by rw[h2];rfl:w2.tape=E.tape).trans<|Ic.tape.trans H1.b.tape,hL.1.output.trans<|(by rw[h2];rfl:w2.output=E.output).trans<|Ic.output.trans H1.b.output,by have:=hL.1.size;have:=D.h;have:=Ic.size;omega,λb hb hn=>?_⟩;exact(P b<|by have:=Ic.size;omega).trans<|(Ic.block b (by omega) hn).trans<|H1.b.block b hb
         have NV:w.heap.size<=wD.heap.size:=Ib.size;have Uk:jr wD 0 E.heap.size mo Aj Ai Ms xM Dy:=⟨hM.box,lP _,jD hM.bu<|lP _,jD hM.cq<|lP _,hM.nodes.base<|lP _,jD hM.roots<|lP _⟩;have hMd:jr wD.drew 0 E.heap.size mo Aj Ai Ms xM Dy:=Uk.same (λ_ _ _=>rfl)<|aQ _;have HBy:=X (acD E.heap.size mo Aj Ai Ms xM Dy wD.drew hMd<|by rw[nH];exact hO.out);have k1:∀W:ax,W.heap[E.heap.size]? =U (aH #[aC a0 n0 c0',aC a1 n1 c1',aC a2 n2 c2',xM] 180 (0,0))->W.cell? ⟨E.heap.size,0,V⟩=U (aC a0 n0 c0')∧W.cell? ⟨E.heap.size,1,V⟩=U (aC a1 n1 c1')∧W.cell? ⟨E.heap.size,2,V⟩=U (aC a2 n2 c2'):=λW h=>⟨M h 0,M h 1,M h 2⟩;have HZ:=FU.mk Ij Ib nH zq yf zo NV;clear P hM hL Hg KG Cs hv0 Ob Oa hO Ij Ic Ib Uk hMd nH e0 zq yf zo NV hj nJ;go_wp2;refine x4 ?_;refine DJ (λW=>W.heap[E.heap.size]? =U (aH #[aC a0 n0 c0',aC a1 n1 c1',aC a2 n2 c2',xM] 180 (0,0))) [0,1,2,3,4,5,6,7,8,9,10,11,12,13,14,15,16,17] (by kernel_rfl) aa1 (λ_ _ _ _ _ h=>h) ?_;repeat((apply qQ _ rfl (by kernel_rfl) rfl;·intro W hSw;obtain⟨q0,q1,q2⟩:=k1 W hSw;go_simp;try with_reducible rfl);simp only[yN])
         refine DK (by kernel_rfl) λhHeld=>?_;refine tS ?_;clear hHeld k1 aa1;have hwa:aG.wrap ((n0:Int)+n1)=(n0:Int)+n1:=by rw[qW];omega
         have hwb:aG.wrap ((n0:Int)+n1+n2)=(n0:Int)+n1+n2:=by rw[qW];omega
         rw[hwa,hwb];clear hwa hwb;by_cases hz:n0+n1+n2=0
         ·have NT:((n0:Int)+n1+n2==0)=Z:=by simp;omega
          rw[NT];clear NT;go_wp2;go_ret;obtain⟨Ij,Ib,nH,zq,yf,zo,NV⟩:=kp HZ;refine⟨Ij.drew,Ib.trans<|O.drew _ _,ay ⟨?_,rfl⟩⟩;rw[<-nH];have h0:mo.bu=[]:=Cc (by omega);have h1:mo.cq=[]:=Cc (by omega);have h2:mo.nodes=[]:=Cc (by omega);simp[dR.none,h0,h1,h2]
         ·have NT:((n0:Int)+n1+n2==0)=ai:=by simp;omega
          rw[NT];clear NT;go_wp2_with (go_at_call 105;go_must (refine HBy.out.mono ?_);rintro e w9 ⟨v9,rfl,AT,AU⟩;have H9:=cH.mk AT AU;clear AT AU;refine Halt.of ?_);unfold Halt;go_wp2;go_ret;obtain⟨Ij,Ib,nH,zq,yf,zo,NV⟩:=HZ;have oB:O (λb=>b=mb) w w9:=(Ib.trans<|O.drew _ _).trans<|O.iH H9.b;refine⟨Ij.drew.of_block<|H9.b.block mb Ij.lt,oB,aB ⟨?_,v9,rfl,?_⟩⟩
          ·rw[<-nH];have jH:¬(mo.bu=[]∧mo.cq=[]∧mo.nodes=[]):=λh=>by obtain⟨h0,h1,h2⟩:=h;rw[h0] at zq;rw[h1] at yf;rw[h2] at zo;simp only[lF] at zq yf zo;omega
           simp only[dR.none,Bool.and_eq_false_iff,Zl];by_cases h0:mo.bu=[]
           ·by_cases h1:mo.cq=[];·exact aB λh2=>jH ⟨h0,h1,h2⟩
            ·exact ay<|aB h1
           ·exact ay<|ay h0
          ·rw[<-nH];exact jD H9.a NV
def firstM(L:List s)(n:Int):dR:=if n%8=0 then⟨ep L jE,[jE],[],[]⟩else⟨[],[],[],[C<|ep L jE]⟩
theorem QI:Q.underlying 108=U (.map 3 3):=by kernel_rfl
theorem Ng{t:Type}[DecidableEq t](k:t)(v:az):∀(l:List<|t×az),look (put l k v) k=U v
 |[]=>by simp[put,look]|(a,u)::l=>by
  unfold put;by_cases h:a=k;.rw[cJ h];simp[look]
  .rw[if_neg h];show(if a=k then U u else look (put l k v) k)=U v;rw[if_neg h];exact Ng k v l
theorem aDw(W:ax)(h){b g d a i c e f}(j:iy h=bO #[Y aq b,Y aq g,Y aq d,Y aq a,Y aq i,Y aq c,Y aq e,Y aq f]):jr ((W.alloc<|aH #[Y aq b,Y aq g,Y aq d,Y aq a,Y aq i,Y aq c,Y aq e,Y aq f] 76).alloc<|aH #[aC V 0 0,aC V 0 0,aC V 0 0,aC W 1 1] 180) 0 (W+1) ⟨[],[],[],[h]⟩ (aC V 0 0) (aC V 0 0) (aC V 0 0) (aC W 1 1) []:=by
 have k:((W.alloc<|aH #[Y aq b,Y aq g,Y aq d,Y aq a,Y aq i,Y aq c,Y aq e,Y aq f] 76).alloc<|aH #[aC V 0 0,aC V 0 0,aC V 0 0,aC W 1 1] 180).heap[W.heap.size+1]?=U (aH #[aC V 0 0,aC V 0 0,aC V 0 0,aC W 1 1] 180 (0,0)):=by grind[World.alloc_heap_new,World.size_alloc]
 refine⟨k,lP _,mL _ _ _ _,mL _ _ _ _,lK.nil _ _,⟨by simp[fO,j,A8],aB ⟨W,1,_,rfl,lP _,(dr _ _ _<|by simp).trans<|gI _ _,aQ _,by decide,rfl,?_⟩⟩⟩;simp[fO,j,A8]
theorem aDv(W:ax)(B)(a:B<=W.heap.size):iR ((W.alloc<|aH #[aE ⟨#[]⟩] 9).alloc<|aH #[aC V 0 0,aC W 1 1,aC V 0 0,aC V 0 0] 180) B (W+1) ⟨[],[jE],[],[]⟩<|yQ (W+1) (aC V 0 0) (aC W 1 1)<|aC V 0 0:=by
 have b:((W.alloc<|aH #[aE ⟨#[]⟩] 9).alloc<|aH #[aC V 0 0,aC W 1 1,aC V 0 0,aC V 0 0] 180).heap[W.heap.size+1]?=U (aH #[aC V 0 0,aC W 1 1,aC V 0 0,aC V 0 0] 180 (0,0)):=by grind[World.alloc_heap_new,World.size_alloc]
 exact⟨_,_,_,aC V 0 0,[],⟨b,by omega,mL _ _ _ _,⟨rfl,aB ⟨W,1,_,rfl,a,(dr _ _ _<|by simp).trans<|gI _ _,aQ _,by decide,rfl,rfl⟩⟩,lK.nil _ _,mL _ _ _ _⟩,rfl⟩
theorem aDx(r n g)(id f d)(L)(bs)(w)(hR:fq w r id n g)(hB:cI w n L)(ht:fx w)(hM:cU (qY aG) w g bs)(sC:(look bs f).getD (Y aG 0)=Y aG d)(zq:0<=d)(yf:d<4611686018427387904)(hL:L.length<=1073741824)(hF:∀x∈L,Fit x)(OI:g≠n)(QX:IX<|firstM L<|d+1):bz Q 60 #[aF r,f] w λe w'=>∃v,e=bj v/\dy w w' v (gz<|firstM L<|d+1)/\cU (qY aG) w' g (put bs f<|Y aG<|d+1)/\O (λb=>b=g) w w':=by
 have oZ:=hR.lt;have zu:=hB.lt;have sG:=hM.lt;have hrg:r≠g:=λe=>by obtain⟨en,ck,h,_⟩:=hM;grind[fq]
 have h3g:(3:Nat)≠g:=λe=>by obtain⟨en,clock,I,_⟩:=hM;rw[<-e]at I;unfold fx zI World.var? at ht;grind[Gb]
 have r2:w.cell? ⟨r,2,V⟩=U (bW g):=M hR 2;have ez:aG.wrap (d+1)=d+1:=by grind[IntKind.wrap_i64]
 have hww:jM (d+1)=d+1:=by unfold jM;omega
 have q:=FU.mk hR hB ht hM sC hF QX;go_enter apR,ntmps60;go_wp2_with(first|(at_lookup;refine Qp _ (qY aG) rfl _ _ 108 rfl 3 3 QI Mv _ (QJ _) g bs f rfl q.d rfl ?_;rw[q.e])|(at_mapUpdate;refine Qo _ (qY aG) rfl _ _ _ 108 rfl 3 3 QI Mv g bs f (Y aG<|d+1) rfl q.d rfl rfl ?_;intro w1 zD EX EJ;have y:=gR.mk zD EX EJ;refine Halt.of ?_));have P:fq w1 r id n g:=(y.b.block r oZ hrg).trans q.a;have Q3:=q.b.of_block<|y.b.block n zu λe=>OI e.symm;have J:=q.c.keep y.b h3g;have r1:w1.cell? ⟨r,1,V⟩=U (bW n):=M P 1;have HC:=X<|UF n L jE w1 Q3 hL J q.f;obtain⟨m,T⟩:=ex<|C<|ep L jE;rw[<-T]at HC;have A:=Dr.mk P Q3 J y.c T;obtain⟨d0,N⟩:∃z,z=m/72057594037927936%256:=⟨_,rfl⟩;obtain⟨d1,QY⟩:∃z,z=m/281474976710656%256:=⟨_,rfl⟩;obtain⟨d2,W⟩:∃z,z=m/1099511627776%256:=⟨_,rfl⟩;obtain⟨d3,S⟩:∃z,z=m/4294967296%256:=⟨_,rfl⟩;obtain⟨d4,R⟩:∃z,z=m/16777216%256:=⟨_,rfl⟩;obtain⟨d5,QW⟩:∃z,z=m/65536%256:=⟨_,rfl⟩;obtain⟨d6,Q0⟩:∃z,z=m/256%256:=⟨_,rfl⟩;obtain⟨d7,K⟩:∃z,z=m%256:=⟨_,rfl⟩;have E:iy m=bO #[Y aq d0,Y aq d1,Y aq d2,Y aq d3,Y aq d4,Y aq d5,Y aq d6,Y aq d7]:=by rw[N,QY,W,S,R,QW,Q0,K];rfl
 rw[E]at HC;have HD:=X E;clear N QY W S R QW Q0 K E;unfold Halt;go_wp2_with(go_at_call 51;go_must(refine HC.out.mono ?_);rintro e c⟨rfl,uq⟩;have a:=X uq;refine Halt.of ?_);have lT:=a.out.size;have Q1:=y.b.trans<|O.iH a.out;have Uj:=y.a.of_block<|a.out.block g y.a.lt;have F:fq c r id n g:=(a.out.block r<|by have:=A.d;omega).trans A.a;have O7:=A.b.of_block<|a.out.block n A.b.lt;have ai2:=A.d;have r2:c.cell? ⟨r,2,V⟩=U (bW g):=M F 2;have r3:c.cell? ⟨r,1,V⟩=U (bW n):=M F 1;have aI1:r<c:=by omega
 have s:=uJ.mk Q1 Uj F O7;have htm:(d+1).tmod 8=(d+1)%8:=by grind
 obtain⟨n8,TH⟩:=ex<|(d+1)%8;rw[<-TH]at htm;unfold Halt;by_cases hq:n8=0
 .have l:firstM L (d+1)=⟨ep L jE,[jE],[],[]⟩:=cJ (by omega);obtain⟨o,Q2⟩:=ex<|(c.alloc<|aH #[Y aq d0,Y aq d1,Y aq d2,Y aq d3,Y aq d4,Y aq d5,Y aq d6,Y aq d7] 76).alloc<|aH #[aC V 0 0,aC V 0 0,aC V 0 0,aC (U ⟨c.heap.size,0,V⟩) 1 1] 180;have B:o.heap.size=c+1+1:=by rw[Q2];simp
  have yj:aY c c o:=by rw[Q2];exact((dK _ _).alloc (aQ _) _).alloc (by simp) _
  have hG:=aDv o o.heap.size<|aQ _;obtain⟨H,u⟩:=ex<|(o.alloc<|aH #[aE ⟨#[]⟩] 9).alloc<|aH #[aC V 0 0,aC (U ⟨o.heap.size,0,V⟩) 1 1,aC V 0 0,aC V 0 0] 180;rw[<-u]at hG;have t:aY c c H:=yj.trans (by rw[u];exact((dK _ _).alloc (by omega) _).alloc (by simp;omega) _);have lG:H.heap.size=o+1+1:=by rw[u];simp
  have oA:=q.g.nr;rw[l]at oA;have hT:=Q4 o.heap.size (o.heap.size+1) n ⟨[],[jE],[],[]⟩ _ L jE H hG (s.d.of_block<|t.block n s.d.lt) (by omega) hL (by grind);have az5:H=(((c.alloc<|aH #[Y aq d0,Y aq d1,Y aq d2,Y aq d3,Y aq d4,Y aq d5,Y aq d6,Y aq d7] 76).alloc<|aH #[aC V 0 0,aC V 0 0,aC V 0 0,aC c 1 1] 180).alloc<|aH #[aE ⟨#[]⟩] 9).alloc (aH #[aC V 0 0,aC (U ⟨c+1+1,0,V⟩) 1 1,aC V 0 0,aC V 0 0] 180):=by grind
  rw[B]at hT;have HT:=Bm.mk hT az5 t lG B l;have aI0:r<c+1:=by omega
  have aIZ:r<c+1+1:=by omega
  have aAS:r<c+1+1+1:=by omega
  go_wp2_with(first|(at_lookup;refine Qp _ (qY aG) rfl _ _ 108 rfl 3 3 QI Mv _ (QJ _) g (put bs f<|Y aG<|d+1) f rfl ((s.b.alloc _).alloc _) rfl ?_;rw[Ng];simp only[fW])|(go_at_call 102;rw[<-HT.b];go_must(refine HT.a.mono ?_);rintro e w7⟨rfl,D7,vL,j⟩;have H7:=cH.mk vL j;refine Halt.of ?_));unfold Halt;obtain⟨vr,vw,vn,vd,xs,p,Fc⟩:=H7.a;have Uk:jr w7 0 (c+1+1+1) (firstM L<|d+1) vr vw vn vd xs:=by rw[HT.f];exact⟨p.box,lP _,jD p.bu<|lP _,jD p.cq<|lP _,p.nodes.base<|lP _,jD p.roots<|lP _⟩
  have QZ:=X<|acD (c.heap.size+1+1+1) _ _ _ _ _ _ _ Uk q.g;go_wp2_with(go_at_call 105;go_must(refine QZ.out.mono ?_);rintro e w9⟨v9,rfl,G,D⟩;have H9:=X<|aM G D;refine Halt.of ?_);unfold Halt;go_wp2;go_ret;obtain⟨-,-,t,lG,B,l⟩:=HT;have j:=H7.b;have k:=H9.out;have hz7:=j.1.size;have Oq:∀b,b<c.heap.size->¬yQ (c+1+1+1) (aC V 0 0) (aC (U ⟨c+1+1,0,V⟩) 1 1) (aC V 0 0) b:=λb I hd=>by
   rcases hd with h|h|h|h;.omega
   .cases h
   .cases h;grind
   .cases h
  have i:=t.trans<|(⟨j.1.os,j.1.tape,j.1.output,hz7,λb I=>j.1.block b (by omega)<|Oq b I⟩:aY c.heap.size H w7).trans ⟨k.2.os,k.2.tape,k.2.output,k.2.size,λb I=>k.2.block b<|by omega⟩;refine⟨v9,rfl,?_,s.b.of_block<|i.block g s.b.lt,s.a.trans<|O.iH i⟩;exact jD k.1<|by grind
 .have l:firstM L (d+1)=⟨[],[],[],[C<|ep L jE]⟩:=if_neg (by omega);have QZ:=X (acD (c.heap.size+1) _ _ _ _ _ _ _ (aDw c m HD.out)<|by rw[A.e,<-l];exact q.g);go_wp2_with(first|(at_lookup;refine Qp _ (qY aG) rfl _ _ 108 rfl 3 3 QI Mv _ (QJ _) g (put bs f<|Y aG<|d+1) f rfl ((s.b.alloc _).alloc _) rfl ?_;rw[Ng];simp only[fW])|(go_at_call 105;go_must(refine QZ.out.mono ?_);rintro e w9⟨v9,rfl,G,D⟩;have H9:=X<|aM G D;refine Halt.of ?_));unfold Halt;go_wp2;go_ret;have k:=H9.out;have i:aY c c w9:=by exact(((dK _ _).alloc (aQ _) _).alloc (by simp) _).trans ⟨k.2.os,k.2.tape,k.2.output,k.2.size,λb I=>k.2.block b<|by simp;omega⟩
  refine⟨v9,rfl,?_,s.b.of_block<|i.block g s.b.lt,s.a.trans<|O.iH i⟩;rw[(X l).out,<-A.e];exact jD k.1<|by simp;omega
end
section
variable{L l:List s}{p:ByteArray}
theorem XM(x:s):preB p x.key=below p x.name x.field:=by rw[AF,xF];unfold preB Iz;exact List.isPrefixOf_iff_prefix
theorem BD(h:Bk L l)(p):ep L p=t l p:=by rw[h.below p];exact List.filter_congr λx _=>XM x
theorem Yz(h:Bk L l){k}:k∈gy (su L p)↔∃x∈l,x.key=k/\below p x.name x.field=Z:=by
 rw[(Gi _).mem_iff];unfold su;rw[rX,ki];constructor;.rintro⟨⟨x,a,rfl⟩,c⟩;exact⟨x,h.perm.subset a,rfl,by grind[XM]⟩
 .rintro⟨x,a,rfl,b⟩;exact⟨⟨x,h.perm.symm.subset a,rfl⟩,by grind[XM]⟩
theorem Yj{x:s}(e:below p x.name x.field=Z)(hs:p.size<x.key.size):below (push p<|tP p.size x.key) x.name x.field=Z:=by
 obtain⟨c,b⟩:=am8 e hs;have:tP p.size x.key=c:=by
  rw[Sr hs];rw[xF,zQ]at b;obtain⟨t,d⟩:=b;have f:(bl x.key)[p.size]?=c:=by show(bl<|iN x.name x.field)[p.size]?=U c;rw[<-d,jw,List.getElem?_append_right<|by rw[uX];grind,uX];simp
  have g:(bl x.key)[p.size]?=x.key[p.size]'hs:=by unfold bl;rw[mq<|by grind];rfl
  grind
 grind
theorem aw5{x}(e:Good x)(c:0∉bl p)(b:below p x.name x.field=Z):p.size<x.key.size:=by refine ou λg=>c ?_;rw[xF]at b;have d:=b.length_le;rw[uX,uX]at d;have f:=b.eq_of_length (by rw[uX,uX];have:x.key.size=(iN x.name x.field).size:=rfl;omega);grind[Be]
theorem Ky(h:Bk L l)(g:p.size<=4096)(f:0∉bl p):zg L p:=by
 refine⟨g,λk d=>?_⟩;obtain⟨x,a,rfl,c⟩:=(Yz h).1 d;have b:=aw5 (h.nL x a) f c;refine⟨b,?_⟩;rcases anb (h.nL x a) (Yj c b)with e|e|e;.rw[e];decide
 .rw[e];decide
 .unfold letter at e;simp only[cG,eU,UInt8.le_iff_toNat_le]at e;grind
theorem X9(c:UInt8):∀(l a:List UInt8),c∈mJ a l↔c∈a\/c∈l
 |[],a=>by simp[mJ]|d::l,a=>by
  unfold mJ;split;.rename_i b;rw[X9 c l a];grind
  .rw[X9 c l _];grind
theorem agR(h:Bk L l)(j:zg L p)(c):c∈lC L p↔c∈qm l p:=by
 unfold lC;rw[X9,M9];constructor
 .rintro(d|d);.cases d
  .obtain⟨k,b,rfl⟩:=ki.1 d;obtain⟨x,i,rfl,f⟩:=(Yz h).1 b;intro e;have:=nA.2 ⟨i,Yj f (j.2 _ b).1⟩;grind
 .intro g;obtain⟨x,i⟩:=Cf _ g;obtain⟨d,m⟩:=nA.1 i;right;have f:=zU m;have b:=(Yz (p:=p) h).2 ⟨x,d,rfl,f⟩;refine ki.2 ⟨x.key,b,?_⟩;exact ana (Yj f (j.2 _ b).1) m
theorem adr:∀{a b:List UInt8},a.Pairwise (.<.)->b.Pairwise (.<.)->(∀c,c∈a↔c∈b)->a=b
 |[],[],_,_,_=>rfl|[],y::b,_,_,h=>absurd ((h y).2<|vi ..)<|by simp|x::a,[],_,_,h=>absurd ((h x).1<|vi ..)<|by simp|x::a,y::b,g,i,h=>by
  have d:=wT.1 g;have e:=wT.1 i;have f:x=y:=by grind[List.mem_cons_self,UInt8.lt_trans,UInt8.lt_irrefl]
  subst f;rw[adr d.2 e.2 λc=>?_];grind
theorem aGv:FJ.Pairwise (.<.):=by unfold FJ;rw[NC];grind[List.Pairwise.imp_of_mem,List.pairwise_lt_range,UInt8.lt_iff_toNat_lt,UInt8.toNat_ofNat']
theorem asB{l}(h:l.Nodup):(kZ l).Pairwise (.<.):=by have e:(kZ l).Pairwise λx y=>bP (x<=y)=Z:=Nz λa b c e d=>by grind λa b=>by grind l;have d:(kZ l).Nodup:=(Kl l _).nodup_iff.2 h;refine List.Pairwise.imp₂ (λa b e d=>?_) e d;grind
theorem aeu(h:Bk L l)(a:zg L p)(P):kZ ((lC L p).filter P)=(qm l p).filter P:=by refine adr (asB<|(M7 _ _ Y4).sublist Y3) ((aGv.filter _).filter _) λc=>?_;grind[aex,agR]
theorem azc(h:Bk L l)(a:zg L p):qw L p=EC C l p:=by have b:=aeu h a λ_=>Z;grind[List.filter_eq_self,qw,EC,List.map_congr_left,BD]
theorem ag8(h:Bk L l)(a:zg L p):Ek L p=jl C l p:=by grind[Ek,jl,azc]
section
variable {L l:List s} {m mi:dR} {n:Nd}
theorem agb{p}{c}(a:0∉bl p)(b:c≠0):0∉bl (push p c):=by grind[zQ]
theorem cmp_eq(h:Bk L l)(o:n.pfx.size<=4000)(d:0∉bl n.pfx):oH L m n={m with bu:=m.bu++yx C l n,cq:=m.cq++vW C l n,nodes:=m.nodes++vX C l n}:=by
 have b:=Ky h (p:=n.pfx) (by omega) d;have a:∀c,c∈lC L n.pfx↔t l (push n.pfx c)≠[]:=λc=>by rw[agR h b,M9]
 have e:cR L n.pfx=sk C l n.pfx:=funext λk=>by grind[cR,sk,BD]
 have f:cW L n.pfx=sj C l n.pfx:=funext λk=>by unfold cW sj;simp only[a,BD h,Decidable.not_not]
 have g:cN L n.pfx=sr C l n.pfx:=funext λk=>by unfold cN sr;grind[BD,ag8,Ky,size_push,agb]
 have j:JL L n=DZ l n:=aeu h b _;have i:(λc=>ep L<|push n.pfx c)=λc=>t l<|push n.pfx c:=funext λc=>BD h _;unfold oH xw jS;grind[yx,vW,vX,List.append_assoc]
theorem ag5(h:Bk L l):∀(a:List Nd)(m:dR),(∀n∈a,n.pfx.size<=4000/\(0:UInt8)∉bl n.pfx)->mK L m a={m with bu:=m.bu++a.flatMap (yx C l),cq:=m.cq++a.flatMap (vW C l),nodes:=m.nodes++a.flatMap (vX C l)}|[],m,_=>by simp[mK]|n::a,m,b=>by have d:=b n<|vi ..;have e:=ag5 h a (oH L m n) λx c=>b x<|vh _ c;grind[mK,oH,cmp_eq,List.append_assoc]
theorem alN:jE.size=0:=rfl
theorem afF(h:Bk L l):∀(ds:List Int)(m:dR),kJ L m ds={m with nodes:=m.nodes++ds.flatMap λd=>if d=C l then[]else[jl C l ⟨#[]⟩]}
 |[],m=>by simp[kJ]|d::ds,m=>by
  have b:ep L jE=l:=by rw[BD h];exact MB l
  have a:zg L jE:=Ky h (by grind[alN]) (by simp[jE,bl]);show kJ L (Ao L m d) ds=_;rw[afF h ds];unfold Ao;rw[b];by_cases hd:d=C l;.grind
  .rw[if_neg hd,ag8 h a];grind[jE]
theorem awu(h:Bk L l)(b:mi.cq=mi.cq)(a:∀n∈mi.nodes,n.pfx.size<=4000/\0∉bl n.pfx):tI L mi=q C l mi:=by unfold tI;rw[afF h,ag5 h _ _ a];have e:=funext λp=>BD h p;grind[qO,yU,q]
theorem ad2:∀(R:List s){L l:List s},Bk L l->(∀x∈R,Good x)->Bk (R.foldl fE L) (R.foldl ins l)|[],_,_,h,_=>h|x::R,L,l,h,a=>ad2 R (h.take<|a x<|vi ..) λy b=>a y<|vh _ b
theorem alw(h:Bk L l)(k):firstM L k=if k%8=0 then⟨l,[jF],[],[]⟩else⟨[],[],[],[C l]⟩:=by
 have a:ep L jE=l:=by rw[BD h];exact MB l
 unfold firstM;rw[a];rfl
end
section
variable {hs:List s->Int} {cl:Prop} {A B X C:List s} {m m':dR} {P k ℓ:Nat}
theorem ni.aBV(M:ni hs A B X C m ℓ):wt A B (aV X<|q hs (aV C m) m) (jY<|ℓ+1) (q hs (aV C m) m).bu (q hs (aV C m) m).cq (q hs (aV C m) m).nodes<=phi A B (aV C m) ℓ m:=by
 have b:(q hs (aV C m) m).cq=[]++m.nodes.flatMap (vW hs<|aV C m):=rfl;have d:(q hs (aV C m) m).nodes=[]++m.nodes.flatMap (vX hs<|aV C m):=by show _++m.roots.flatMap _=_;rw[M.roots];simp
 have e:(q hs (aV C m) m).bu=m.cq.flatMap (t<|aV C m)++m.nodes.flatMap (yx hs<|aV C m):=rfl;rw[b,d,e,Qn,VG,Qm,Ka,SR,<-DM];unfold phi;have f:=Jn (l:=m.nodes) (f:=λa=>wt A B (aV X<|q hs (aV C m) m) (jY<|ℓ+1) (yx hs (aV C m) a) (vW hs (aV C m) a)<|vX hs (aV C m) a) (g:=λa=>dC A B a.pfx*jY ℓ) λa c=>M.nd c;grind
theorem ni.aoR(M:ni hs A B X C m ℓ):∀w∈(q hs (aV C m) m).cq,1<=(t (aV X<|q hs (aV C m) m) w).length:=λw i=>by
 obtain⟨g,l,b⟩:=rU.1 i;rw[M.node g l]at b;obtain⟨c,rfl,d,-⟩:=Sy.1 b;obtain⟨x,n⟩:=Cf _ d;obtain⟨e,j⟩:=nA.1 n;have f:=M.step;have a:D (aV X<|q hs (aV C m) m) x.name x.field≠V:=by
  rw[Jj f.bk.sX f.bk.sY f.bu];have s:=PW e;split;.cases h:D X x.name x.field with|none=>grind|some y=>cases D (aV C m) x.name x.field<;>simp[ir]
  grind
 cases h:D (aV X<|q hs (aV C m) m) x.name x.field with|none=>grind|some y=>obtain⟨o,p,r⟩:=uD h;have:y∈t (aV X<|q hs (aV C m) m) (push g.pfx c):=nA.2 ⟨o,by grind⟩;grind
end
theorem Lg{x}(h:Good x)(c:Fits x):Fit x:=by
 have i:=h.GF;have g:=h.Pe;have e:=h.value;obtain⟨d,b⟩:=c;have a:∀z:Int,gS z<18446744073709551616->ij z:=λz f=>by grind[gS,ij]
 exact⟨by omega,by omega,by omega,a _ d,a _ b⟩
theorem Ya{x}(h:Good x):x.Ok:=⟨by have:=h.GF;omega,by have:=h.Pe;omega⟩
theorem Yh{t:Type}[DecidableEq t]:∀{a b:List t},a.Nodup->(∀x∈a,x∈b)->a.length<=b.length|[],_,_,_=>lP _|x::a,b,f,h=>by have c:=Cg.1 f;have g:=h x<|vi ..;have i:=Yh (b:=b.erase x) c.2 λy d=>(List.mem_erase_of_ne λe=>c.1<|by grind).2<|h y<|vh _ d;grind
theorem aiR(x:s):∀l:List s,(ins l x).length<=l.length+1|[]=>aQ _|y::l=>by have a:=aiR x l;grind[ins,List.length_cons]
theorem UB:∀(R l:List s),(R.foldl ins l).length<=l.length+R.length|[],l=>aQ _|x::R,l=>by have:=UB R<|ins l x;grind[aiR,List.length_cons]
structure Dt(m:dR):Prop where
 nr:m.bu.length<=600000
 nw:m.cq.length<=600000
 nn:m.nodes.length<=124000
 nd:m.roots.length<=100000
theorem Sn{X}{p}(a:∀x∈X,Good x):(jl C X p).kids.length<=28:=by show((qm X p).map _).length<=28;grind[List.length_map,ahf]
theorem aw3(X)(p):((jl C X p).kids.map (·.1)).Nodup:=by show(((qm X p).map _).map _).Nodup;rw[Ex];grind[C,t,push,List.map_id,Yg]
theorem aw2(X)(p):∀k∈(jl C X p).kids,uF k.2:=λk a=>by obtain⟨c,-,rfl⟩:=ki.1<|show k∈(qm X p).map _ from a;exact Ub _
section
variable {cl:Prop} {A B X F LY:List s} {m:dR} {P k:Nat}
theorem gQ.ok(T:gQ C cl A B X F m P k)(a:Dt m):acS m:=by
 refine⟨λx d=>Lg (T.bk.gX x<|T.bu x d)<|T.fX x<|T.bu x d,?_,?_,a.nr,a.nw,a.nn,a.nd⟩
 .rcases T.zl with⟨-,-,rfl,-⟩|⟨c,M,e,-⟩;.grind
  .intro s f;rw[M.Mo s f];grind
 .rcases T.zl with⟨-,-,rfl,-⟩|⟨c,M,e,-⟩;.grind
  .intro n b;rw[M.size n b];have g:=M.deep<|GR b;have h:n.kids.length<=28:=by rw[M.node n b];exact Sn M.bk.gX
   grind
theorem gQ.J0(T:gQ C cl A B X F m P k):∀n∈m.nodes,n=jl C X n.pfx/\n.pfx.size<=13/\0∉bl n.pfx:=by
 rcases T.zl with⟨-,-,rfl,-⟩|⟨b,M,c,-⟩;.grind
 .intro n a;exact⟨M.node n a,by rw[M.size n a];exact M.deep<|GR a,M.nz n a⟩
theorem gQ.tD(T:gQ C cl A B X F m P k)(h:Bk LY F):Bk (m.bu.foldl fE LY)<|aV F m:=ad2 _ h λx a=>T.bk.gX x<|T.bu x a
theorem gQ.out(T:gQ C cl A B X F m P k)(h:Bk LY F):tI (m.bu.foldl fE LY) m=q C (aV F m) m:=awu (T.tD h) rfl λn b=>by have:=T.J0 n b;grind
theorem gQ.agG(T:gQ C cl A B X F m P k)(u:P<=33000000):IX<|q C (aV F m) m:=by
 rcases T.zl with⟨rfl,rfl,rfl,-⟩|⟨i,M,r,a,-⟩
 .have Q1:aV F ⟨[],[],[],[C X]⟩=F:=rfl;have o:(q C F ⟨[],[],[],[C X]⟩).nodes=[]\/(q C F ⟨[],[],[],[C X]⟩).nodes=[jl C F jF]:=by grind[q]
  rw[Q1];refine⟨λx g=>(by cases g),λs h=>(by cases h),λn c=>?_,by show 0<=_;omega,by show 0<=_;omega,?_,by show 0<=_;omega⟩
  .rcases o with e|e;.grind
   .rw[e,mu]at c;subst c;have:=Sn (X:=F) (p:=jF) T.bk.gY;have Q0:(jl C F jF).pfx.size=0:=rfl;grind
  grind
 .have b:=M.step;have j:=M.aBV;have f:=M.aoR;have l:phi A B (aV F m) i m<=33000000:=by omega
  have p:(q C (aV F m) m).cq.length<=((q C (aV F m) m).cq.map λw=>(t (aV X<|q C (aV F m) m) w).length).sum:=by generalize(q C (aV F m) m).cq=W at f;induction W with|nil=>simp|cons w W z=>grind
  have d:((q C (aV F m) m).cq.map λw=>56*(t (aV X<|q C (aV F m) m) w).length).sum=((q C (aV F m) m).cq.map λw=>(t (aV X<|q C (aV F m) m) w).length).sum*56:=by rw[<-DM];grind
  unfold wt at j;rw[d]at j;refine⟨λx g=>Lg (b.bk.gX x<|b.bu x g)<|T.tk.2 x<|b.bu x g,λs h=>?_,λn c=>?_,by omega,by omega,by omega,by rw[b.roots];simp⟩;.rw[b.Mo s h];obtain⟨y,c,-⟩:=rU.1 h;have:=M.deep<|GR c;omega
  .have E:=b.deep<|GR c;have D:n.kids.length<=28:=by rw[b.node n c];exact Sn b.bk.gX
   have v:=b.size n c;grind
theorem IX.cnt{m}(h:IX m):Dt m:=⟨h.nr,h.nw,h.nn,h.nd⟩
theorem gQ.an(T:gQ C cl A B X F m P k)(h:Bk LY F)(i:Dt m)(o:P<=33000000)(q:F.length<=1000000000):VC (m.bu.foldl fE LY) m:=by
 have f:=T.tD h;have l:∀d∈m.roots,uF d:=by
  rcases T.zl with⟨-,-,rfl,-⟩|⟨g,M,-⟩;.grind[List.mem_singleton,Ub]
  .rw[M.roots];grind
 refine⟨?_,λx j=>?_,λn b=>?_,λn b=>?_,λn b=>?_,λn b c p=>?_,λn b=>?_,?_,l,?_⟩;.rw[f.perm.length_eq];have:=UB m.bu F;have:=i.nr;show(List.foldl ins F m.bu).length<=_;omega
 .have e:=f.perm.subset j;exact Lg (f.nL x e)<|T.tk.2 x e
 .rw[(T.J0 n b).1];grind[aw3]
 .rw[(T.J0 n b).1];exact aw2 _ _
 .have:=T.J0 n b;grind[Ky]
 .have:=T.J0 n b;grind[Ky,size_push,agb]
 .have:n.kids.length<=28:=by rw[(T.J0 n b).1];exact Sn T.bk.gX
  omega
 .exact Ky f (by grind[alN])<|by simp[jE,bl]
 .rw[T.out h];exact T.agG o
end
structure Bj where
 p:Nat
 id:Int
 mb:Nat
 gb:Nat
def Bj.At(R:Bj)(w:ax):Prop:=fq w R.p R.id R.mb R.gb
structure Vl(cl:Prop)(A B:List s)(P0:Nat)(c:Option Int)(A' B':List s)(j z:Nat):Prop where
 bk:tA A B A' B'
 fA:∀x∈A',Fits x
 fB:∀x∈B',Fits x
 cap:∀x,c=U x->0<=x->(j:Int)<=x
 zero:j=0↔c=U 0
 size:z<=P0
 whole:(c=V\/∃x,c=U x/\(x<0\/(j:Int)<x))->cl->A'=fZ A B/\B'=fZ A B
 j16:j<=17
 jz:j<=z
structure Bh(N:Nat)(R0 R1:Bj)(A B:List s)(cl:Prop)(P0:Nat)(c:Option Int)(w1:ax)(k j z:Nat)(v:az)(ok:Bool)(S R:Bj)(W:ax)(AS AR LX LY X Y:List s):Prop where
 who:S=R0/\R=R1/\AS=A/\AR=B\/(S=R1/\R=R0/\AS=B/\AR=A)bX:cI W S.mb LX
 kX:Bk LX X
 bY:cI W R.mb LY
 kY:Bk LY Y
 keep:O (λb=>b=R0.mb\/b=R1.mb) w1 W
 cap:∀x,c=U x->0<=x->(j:Int)<=x
 lX:X.length<=10000000+600000*j
 lY:Y.length<=10000000+600000*j
 NQ:j<=17
 zP:z<=P0
 st:(ok=Z/\∃m P k',k=k'+1/\j+k'<=16/\z+P<=P0/\gQ C cl AS AR X Y m P k'/\Dt m/\dy N W v (gz m))\/ok=ai/\k=0/\1<=j/\tA AS AR X Y/\(∀x∈X,Fits x)/\(∀x∈Y,Fits x)/\(cl->X=fZ AS AR/\Y=fZ AS AR)jz:j<=z
theorem GH(m):1<=(gz m).length:=by grind[gz,cZ,List.length_append,awS]
section
variable {N:Nat} {R0 R1 S R:Bj} {A B AS AR LX LY X Q2:List s} {cl:Prop} {P0 k j z:Nat} {c:Option Int} {w1 W W':ax} {v v':az} {ok:Bool} {m:dR} {P k':Nat}
theorem gQ.mono{hs}{cl cl'}{A B X Q2}{m}{P k}(T:gQ hs cl A B X Q2 m P k)(h:cl'->cl):gQ hs cl' A B X Q2 m P k:=⟨T.bk,T.fX,T.fY,T.zl.imp (λ⟨a,b,c,d,e,f⟩=>⟨a,b,c,d,e,λx=>f<|h x⟩) λ⟨g,M,a,b,c,f⟩=>⟨g,M,a,b,c,λx=>f<|h x⟩⟩
theorem tA.swap{A B X Q2}(h:tA A B X Q2):tA B A Q2 X:=⟨h.sB,h.sA,h.sY,h.sX,h.gY,h.gX,h.bY,h.bX⟩
theorem Bh.next(I:Bh N R0 R1 A B cl P0 c w1 k j z v Z S R W AS AR LX LY X Q2)(H:R0.mb≠R1.mb)(hP:P0<=33000000)(f:∀x,c=U x->0<=x->j<x)(Q3:N<=W)(T:gQ C cl AS AR X Q2 m P k')(E:Dt m)(hk:k=k'+1)(Q0:j+k'<=16)(Q1:z+P<=P0)(u:cI W' R.mb<|m.bu.foldl fE LY)(y:O (λb=>b=R.mb) W W')(w:(tI (m.bu.foldl fE LY) m).none=Z/\ok=ai\/(tI (m.bu.foldl fE LY) m).none=ai/\ok=Z/\dy W W' v' (gz<|tI (m.bu.foldl fE LY) m)):∃n,n<k/\Bh N R0 R1 A B cl P0 c w1 n (j+1) (z+(gz m).length) v' ok R S W' AR AS (m.bu.foldl fE LY) LX (aV Q2 m) X:=by
 have i:R=R0/\S=R1/\AR=A/\AS=B\/R=R1/\S=R0/\AR=B/\AS=A:=by rcases I.who with⟨a,b,c,d⟩|⟨a,b,c,d⟩;all_goals grind
 have s:S.mb≠R.mb:=by grind
 rw[T.out I.kY]at w;have K:=T.size;have M:=GH m;have p:(aV Q2 m).length<=10000000+600000*(j+1):=by have:=UB m.bu Q2;have:=E.nr;have:=I.lY;show(List.foldl ins Q2 m.bu).length<=_;omega
 have l:X.length<=10000000+600000*(j+1):=by have:=I.lX;omega
 have h:∀x,c=U x->0<=x->((j+1:Nat):Int)<=x:=λx QW r=>by grind
 have g:=I.keep.trans (y.mono λb _ e=>by grind);have o:=I.bX.of_block<|y.block S.mb I.bX.lt s;have QX:=T.tk;rcases w with⟨QW,r⟩|⟨QW,r,L⟩;.refine⟨0,by omega,i,u,T.tD I.kY,o,I.kX,g,h,p,l,by omega,by omega,aB ⟨r,rfl,by omega,QX.1,QX.2,T.fX,λt=>?_⟩,by have:=I.jz;omega⟩;obtain⟨D,Q⟩:=T.last (by unfold IQ;grind) t;rw[D,NP T.bk.sB T.bk.sA];grind
 .have F:IQ C Q2 m=q C (aV Q2 m) m:=by unfold IQ;grind
  obtain⟨G,n,g1,g2,J⟩:=T.next F;refine⟨n+1,by omega,i,u,T.tD I.kY,o,I.kX,g,h,p,l,by omega,by omega,ay ⟨r,_,G,n,rfl,by omega,by omega,J,(T.agG<|by omega).cnt,jD L Q3⟩,by have:=I.jz;omega⟩
theorem Bh.over(I:Bh N R0 R1 A B cl P0 c w1 k j z v ok S R W AS AR LX LY X Q2)(s:ok=ai\/∃x,c=U x/\0<=x/\x<=j):∃n f i q,cI W R0.mb n/\Bk n i/\cI W R1.mb f/\Bk f q/\Vl cl A B P0 c i q j z:=by
 have e:tA AS AR X Q2/\(∀x∈X,Fits x)/\(∀x∈Q2,Fits x)/\(j=0↔c=U 0)/\((c=V\/∃x,c=U x/\(x<0\/(j:Int)<x))->cl->X=fZ AS AR/\Q2=fZ AS AR):=by
  have t:c=U 0->j=0:=λh=>by have:=I.cap 0 h (by omega);omega
  rcases I.st with⟨d,m,P,k',-,-,-,T,-⟩|⟨d,-,H,G,F,D,E⟩;.subst d;obtain⟨x,w,r,u⟩:=s.resolve_left (by simp);refine⟨T.bk,T.fX,T.fY,⟨λh=>?_,t⟩,λC=>?_⟩;all_goals grind
  grind
 obtain⟨b,o,l,g,p⟩:=e;rcases I.who with⟨rfl,rfl,rfl,rfl⟩|⟨rfl,rfl,rfl,rfl⟩;.exact⟨LX,LY,X,Q2,I.bX,I.kX,I.bY,I.kY,b,o,l,I.cap,g,I.zP,p,I.NQ,I.jz⟩
 .refine⟨LY,LX,Q2,X,I.bY,I.kY,I.bX,I.kX,b.swap,l,o,I.cap,g,I.zP,λd y=>?_,I.NQ,I.jz⟩;have:=p d y;rw[NP b.sA b.sB]at this;grind
def xD(A B:List s)(n:Int):Nat:=if n%8=0 then 80+56*A.length+56*(A.length+B.length)else 76+3880*dC A B jF
theorem aER(A B)(p):dC A B p<=A.length+B.length:=by unfold dC;refine bC (AE _ _) ?_;unfold t;refine bC (AE _ _) ?_;exact UB B A
theorem aFu{A B}(d:A.length<=4096)(b:B.length<=4096)(n):xD A B n<=33000000:=by unfold xD;have:=aER A B jF;grind
theorem Bh.start{n}(g:Bk LX A)(i:Bk LY B)(s:∀x∈A,Fits x)(Q0:∀x∈B,Fits x)(D:A.length<=4096)(F:B.length<=4096)(u:cI W R0.mb LX)(w:cI W R1.mb LY)(p:dy N W v<|gz<|firstM LX n):Bh N R0 R1 A B (n%8=0\/Clear C A B) (xD A B n) c W 17 0 0 v Z R0 R1 W A B LX LY A B:=by
 have l:∀x∈A,Good x/\Fits x:=λx h=>⟨g.nL x h,s x h⟩;have o:∀x∈B,Good x/\Fits x:=λx h=>⟨i.nL x h,Q0 x h⟩;have y:∃P,P<=xD A B n/\gQ C (n%8=0\/Clear C A B) A B A B (firstM LX n) P 16/\Dt (firstM LX n):=by
  rw[alw g];unfold xD;by_cases h:n%8=0;.rw[cJ h,cJ h];obtain⟨P,k,T,rfl,rfl⟩:=gQ.auJ (hs:=C) g.sorted i.sorted l o;refine⟨_,aQ _,⟨T.bk,T.fX,T.fY,?_⟩,⟨by grind,by simp,by simp,by simp⟩⟩;rcases T.zl with⟨-,-,e,-⟩|⟨q,M,a,b,d,f⟩;all_goals grind
  .rw[if_neg h,if_neg h];exact⟨_,aQ _,(gQ.root g.sorted i.sorted l o).mono λt=>t.resolve_left h,⟨by simp,by simp,by simp,by simp⟩⟩
 obtain⟨P,E,T,r⟩:=y;exact⟨ay ⟨rfl,rfl,rfl,rfl⟩,u,g,w,i,O.refl _ _,λx _ h=>h,by omega,by omega,by omega,lP _,ay ⟨rfl,_,P,16,rfl,by omega,by omega,T,r,p⟩,aQ _⟩
end
end
section
open Go.RowKit
theorem ntmps41:wG.ntmps=87:=by kernel_rfl
def pK(w:ax):Prop:=w.heap[4]?=U (aH #[Y aG 0] 3 (0,0))
def acT(w:ax)(v:az):Option Int->Prop|none=>v=aC V 0 0|some x=>∃g n cap,v=aC (U ⟨g,0,V⟩) n cap/\1<=n/\w.cell? ⟨g,0,V⟩=U (Y aG x)/\g≠4
theorem aDY{w}{a b}{e d}{g h}(c:a≠b)(j:w.heap[a.block]?=U (.cells e g))(l:w.heap[b.block]?=U (.cells d h)):(gF .eql 77 (.pointer<|U a)<|.pointer b).run Q w=.ok ai w:=by obtain⟨i,k,f⟩:=ze.1 (by kernel_rfl);exact run_eql_ptr_other w apa k (of_decide_eq_false f) c j l
theorem afU{w}{p m m' g}{id}{L}(h:fq w p id m g)(b:cI w m' L):p≠m':=by rintro rfl;obtain⟨d,a,c,_⟩:=b;grind[fq]
theorem LL{N}{W}{v}{l}(h:dy N W v l)(m:1<=l.length):∃g a,v=aC (U ⟨g,0,V⟩) l.length a/\l.length<=a/\g<W/\∀j(b),W.cell? ⟨g,0+j,V⟩=jj l[j]:=by
 obtain⟨k,e⟩:=id h;rcases e with⟨rfl,o⟩|⟨g,a,f,rfl,_,d,c,_,_,i⟩;.omega
 .refine⟨g,a,rfl,c,(dm.1 d).1,λj b=>?_⟩;have n:=Az h (g:=g) rfl j (jj l[j]) (by grind);grind[Addr.add_lit]
theorem XI{e:Ending}{p q}{x}{F:az->Prop}(h:p/\e=bj x\/q/\∃v,e=bj v/\F v):∃v,e=bj v/\(p/\v=x\/q/\F v):=by grind
def Ma(R0 R1:Bj)(n0:Int)(A B:List s)(bs:List<|Int×az)(c:Option Int)(w:ax)(e:Ending)(w':ax):Prop:=∃(j z:Nat)(U E A' B':List s),e=bj (bQ #[Y aG j,Y aG z])/\cI w' R0.mb U/\Bk U A'/\cI w' R1.mb E/\Bk E B'/\Vl ((n0+1)%8=0\/Clear C A B) A B (xD A B<|n0+1) c A' B' j z/\cU (qY aG) w' R0.gb (put bs R1.id<|Y aG<|n0+1)/\O (λb=>b=R0.mb\/b=R1.mb\/b=R0.gb) w w'
theorem yn(p)(n c)(w):(gF .eql 79 (.slice p n c)<|.slice V 0 0).run Q w=.ok p.isNone w:=by
 have h:∀d:Nat,(s8 (d+1) 79 (.slice p n c)<|.slice V 0 0).run Q w=.ok p.isNone w:=λd=>by cases p<;>simp[s8,run_underlying tB]
 simp only[gF];simp[Op.equal,Pu,h 9999]
set_option maxHeartbeats 8000000 in
theorem ar4(R0 R1)(n0)(LX LY A B)(bs)(vm)(c)(w)(h0:R0.At w)(h1:R1.At w)(hp:R0.p≠R1.p)(hm:R0.mb≠R1.mb)(EY:R0.gb≠R0.mb)(hg1:R0.gb≠R1.mb)(bA:cI w R0.mb LX)(bB:cI w R1.mb LY)(hA:Bk LX A)(hB:Bk LY B)(fA:∀x∈A,Fits x)(fB:∀x∈B,Fits x)(lA:A.length<=4096)(lB:B.length<=4096)(ht:fx w)(hf:pK w)(hM:cU (qY .i64) w R0.gb bs)(sC:(look bs R1.id).getD (.int .i64 0)=.int .i64 n0)(zq:0<=n0)(yf:n0<4611686018427387904)(hc:acT w vm c):bz Q 41 #[.pointer R0.p,.pointer R1.p,vm] w λe w'=>Ma R0 R1 n0 A B bs c w e w':=by
 obtain⟨p0,i0,QZ,g0⟩:=R0;obtain⟨p1,i1,m1,g1⟩:=R1;unfold Bj.At at h0 h1;simp only at h0 h1 hp hm EY hg1 bA bB hM sC⊢;have k4:w.cell? ⟨4,0,V⟩=U (.int .i64 0):=M hf 0;have f4:w.frozen? ⟨4,0,V⟩=ai:=vo hf 0;have y1:w.cell? p1=U (.int .i64 i1):=M h1 0;have z4:4<w.heap.size:=(dm.1 hf).1;have n40:¬p0=4:=λe=>by grind[fq,pK]
 have n41:¬p1=4:=λe=>by grind[fq,pK]
 have m40:QZ≠4:=λe=>by obtain⟨en,ck,h,_⟩:=bA;grind[pK]
 have m41:m1≠4:=λe=>by obtain⟨en,ck,h,_⟩:=bB;grind[pK]
 have g40:g0≠4:=λe=>by obtain⟨en,ck,h,_⟩:=hM;grind[pK]
 have p0g:p0≠g0:=λe=>by obtain⟨en,ck,h,_⟩:=hM;grind[fq]
 have p1g:p1≠g0:=λe=>by obtain⟨en,ck,h,_⟩:=hM;grind[fq]
 have awn:p0≠QZ:=h0.ne bA;have awm:p0≠m1:=afU h0 bB;have awi:=afU h1 bA;have awh:=h1.ne bB;have t3:∀b,b=g0∨b=QZ∨b=m1∨b=4->(3:Nat)≠b:=λb hb e=>by
  unfold fx zI World.var? at ht;rw[Gb]at ht;rw[<-e]at hb;rcases hb with h|h|h|h;·obtain⟨en,ck,h',_⟩:=hM;grind
  ·obtain⟨en,ck,h',_⟩:=bA;grind
  ·obtain⟨en,ck,h',_⟩:=bB;grind
  grind
 obtain⟨wf,ZT⟩:=ex<|w.setCell ⟨4,0,V⟩<|.int .i64 1;have AT:∀b,b≠4->wf.heap[b]?=w.heap[b]?:=λb hb=>by grind[Below.heap_setCell]
 have hKf:O (λb=>b=4) w wf:=by grind[O.setCell]
 have e77:(gF .eql 77 (.pointer p0)<|.pointer p1).run Q (w.setCell ⟨4,0,V⟩<|.int .i64 1)=.ok ai (w.setCell ⟨4,0,V⟩<|.int .i64 1):=by rw[<-ZT];exact aDY λe=>hp<|by grind ((AT p0 n40).trans h0)<|(AT p1 n41).trans h1
 have hBf:=bA.of_block<|AT QZ m40;have hmf:=hM.of_block<|AT g0 g40;have TU:IX<|firstM LX<|n0+1:=by
  rw[alw hA];split;·exact⟨λx hx=>Lg (hA.nL x hx)<|fA x hx,λQX hs=>by rw[mu.1 hs];show 0<=_;omega,λn E=>(by cases E),by grind,by simp,by simp,by simp⟩
  ·exact⟨λx hx=>(by cases hx),λQX hs=>(by cases hs),λn E=>(by cases E),by simp,by simp,by simp,by simp⟩
 have C60:=X<|aDx p0 QZ g0 i0 i1 n0 LX bs wf ((AT p0 n40).trans h0) hBf (ht.keep hKf<|t3 4<|.inr<|.inr<|.inr rfl) hmf sC zq yf (by rw[hA.perm.length_eq];omega) (λx hx=>Lg (hA.nL x<|hA.perm.subset hx)<|fA x<|hA.perm.subset hx) EY TU;have HH:=aGQ.mk h0 h1 bA bB hM ht hf hc hA hB fA fB;have HW:=uJ.mk ZT AT hKf t3;clear h0 h1 bA bB hM ht hf hc hA hB fA fB ZT AT hKf t3 hBf hmf TU sC;go_enter adI,ntmps41;simp only[Dg,Sf,Ap,JU,Sg,om,Ef,Ee,yR,ot,vP,yG,yw,Ga,eN,eS,lD,kO,cV,eM,oG,fW];go_wp2_with(go_at_call 60;rw[<-HW.a];go_must(refine C60.out.mono ?_);rintro e w1⟨v,rfl,Q1,zD,EX⟩;have H1:=gR.mk Q1 zD EX;clear Q1 zD EX;refine Halt.of ?_);unfold Halt;clear e77;have hcS:xD A B (n0+1)<=33000000:=aFu lA lB _;have f:O (λb=>b=4∨b=g0) w w1:=(HW.c.mono λ_ _ h=>.inl h).trans<|H1.c.mono λ_ _ h=>.inr h;have ajo:∀R:Bj,R=⟨p0,i0,QZ,g0⟩∨R=⟨p1,i1,m1,g1⟩->fq w1 R.p R.id R.mb R.gb∧R.p≠QZ∧R.p≠m1∧R.p<w1:=λR hR=>by
  rcases hR with rfl|rfl;·exact⟨(f.block p0 HH.a.lt<|by grind).trans HH.a,awn,awm,cB HH.a.lt f.size⟩
  ·exact⟨(f.block p1 HH.b.lt<|by grind).trans HH.b,awi,awh,cB HH.b.lt f.size⟩
 have Fb:Bh wf ⟨p0,i0,QZ,g0⟩ ⟨p1,i1,m1,g1⟩ A B ((n0+1)%8=0∨Clear C A B) (xD A B<|n0+1) c w1 17 0 0 v Z ⟨p0,i0,QZ,g0⟩ ⟨p1,i1,m1,g1⟩ w1 A B LX LY A B:=Bh.start HH.i HH.j HH.k HH.l lA lB (HH.c.of_block<|f.block QZ HH.c.lt<|by grind) (HH.d.of_block<|f.block m1 HH.d.lt<|by grind) H1.a;have Ia:=HH.f.keep f (by rintro(h|h);exact absurd h (by decide);exact HW.d g0 (.inl rfl) h);have ajf:=H1.c.size;have aj5:∀{gv:Nat}{x:Int}(W:ax),O (λb=>b=QZ∨b=m1) w1 W->w.cell? gv=U (.int .i64 x)->gv≠4->W.cell? gv=U (.int .i64 x):=λ{gv x}W hK hcv h4=>by
  have hbl:gv<w:=oU w _ hcv;have AL:∀(b:Nat)(en:_)(ck:_),w.heap[b]?=U (.map en ck)->gv≠b:=λb en ck hb e=>by subst e;unfold pz at hcv;grind
  have hg:gv≠g0:=by obtain⟨en,ck,h,_⟩:=HH.e;grind
  have h0':gv≠QZ:=by obtain⟨en,ck,h,_⟩:=HH.c;grind
  have Ur:gv≠m1:=by obtain⟨en,ck,h,_⟩:=HH.d;grind
  refine Eq.trans ?_ hcv;exact(hK.cell (p:=⟨gv,0,V⟩) (by have:=f.size;grind)<|by grind).trans<|f.cell (p:=⟨gv,0,V⟩) hbl<|by grind
 have Hh:w1.heap[4]?=U (.cells #[.int .i64 1] 3 (0,0)):=(H1.c.block 4 (cB z4 HW.c.size) λe=>g40 e.symm).trans (by rw[HW.a];exact DV HH.g);have CE:∀W,O (λb=>b=QZ∨b=m1) w1 W->cU (qY .i64) (W.setCell ⟨4,0,V⟩<|.int .i64 0) g0 (put bs i1<|.int .i64<|n0+1)∧O (λb=>b=QZ∨b=m1∨b=g0) w (W.setCell ⟨4,0,V⟩<|.int .i64 0)∧∀m L,m=QZ∨m=m1->cI W m L->cI (W.setCell ⟨4,0,V⟩<|.int .i64 0) m L:=λW hK=>by
  refine⟨H1.b.of_block<|(gJ _ _ _ _ g40).trans<|hK.block g0 H1.b.lt<|by grind,?_,λm L hm hB=>hB.of_block<|gJ _ _ _ _<|by grind⟩;have hz:(W.setCell ⟨4,0,V⟩<|.int .i64 0).heap.size=W:=Am _ _ _;refine⟨(hK.os.trans f.os:W.os=w.os),(hK.tape.trans f.tape:W.tape=w.tape),(hK.output.trans f.output:W.output=w.output),by rw[hz];exact bC f.size hK.size,λb hb E=>?_⟩;by_cases e:b=4;·subst e;rw[DV<|(hK.block 4 (dm.1 Hh).1<|by grind).trans Hh];exact HH.g.symm
  ·rw[gJ _ _ _ _ e,hK.block b (cB hb f.size) λh=>E<|by grind,f.block b hb λh=>by grind]
 have H:=Hq9.mk hcS f ajo Fb Ia ajf @aj5 Hh CE;clear hcS f ajo Fb Ia ajf aj5 Hh CE;go_wp2;go_loopg[6,7,12,13,14,15]17λk s6 s7 s12 XA s14 s15 wr=>∃(j z:Nat)(ok:Bool)(S R:Bj)(AS AR LX' FR Q3 Q2:List s),s6=.int .i64 j∧s7=.int .i64 z∧XA=.bool ok∧s14=.pointer (U ⟨S.p,0,V⟩)∧s15=.pointer (U ⟨R.p,0,V⟩)∧Bh wf.heap.size ⟨p0,i0,QZ,g0⟩ ⟨p1,i1,m1,g1⟩ A B ((n0+1)%8=0∨Clear C A B) (xD A B<|n0+1) c w1 k j z s12 ok S R wr AS AR LX' FR Q3 Q2;case atStart=>exact⟨0,0,Z,⟨p0,i0,QZ,g0⟩,⟨p1,i1,m1,g1⟩,A,B,LX,LY,A,B,rfl,rfl,rfl,rfl,rfl,H.d⟩
 case round=>obtain⟨j,z,ok,S,R,AS,AR,LX',FR,Q3,Q2,rfl,rfl,rfl,rfl,rfl,I⟩:=hrel;have hr4:=(I.keep.block 4 (dm.1 H.h).1<|by rintro(h|h);exact m40 h.symm;exact m41 h.symm).trans H.h;have kr4:wr.cell? ⟨4,0,V⟩=U (.int .i64 1):=M hr4 0;have fr4:=vo hr4 0;clear hr4;cases ok with
  |false=>have HO:=cH.mk (I.over<|.inl rfl) I.keep;clear I;go_wp2;go_ret2;obtain⟨⟨L0,L1,A',B',q1,q2,q3,q4,q5⟩,EU⟩:=HO;obtain⟨e1,e2,e3⟩:=H.i wr EU;exact⟨j,z,L0,L1,A',B',rfl,e3 _ _ (.inl rfl) q1,q2,e3 _ _ (.inr rfl) q3,q4,q5,e1,e2⟩
  |true=>cases c with|none=>
    have hvm:vm=.slice V 0 0:=HH.h;subst hvm;have E2:∀x,(V:Option Int)=U x->0<=x->(j:Int)<x:=λx h=>by cases h
    obtain⟨m,P,k',hk,i,l,T,F,Q1⟩:∃m P k',gk=k'+1∧j+k'<=16∧z+P<=xD A B (n0+1)∧gQ C ((n0+1)%8=0∨Clear C A B) AS AR Q3 Q2 m P k'∧Dt m∧dy wf.heap.size wr u12 (gz m):=by
     rcases I.st with⟨-,h⟩|⟨h,-⟩;·exact h
     ·cases h
    have OY:=H.a;have ga:=T.size;obtain⟨g,cap,rfl,G,sG,jJ⟩:=LL Q1<|GH m;have hR:R=⟨p0,i0,QZ,g0⟩∨R=⟨p1,i1,m1,g1⟩:=by
     rcases I.who with⟨-,h,-⟩|⟨-,h,-⟩;·exact .inr h
     ·exact .inl h
    obtain⟨r1,r2,r3,r4⟩:=H.c R hR;have d:=bC H.f I.keep.size;have Q0:=X (acK R.p R.mb R.gb R.id FR m g 0 cap wr ((I.keep.block R.p r4<|by rintro(h|h);exact r2 h;exact r3 h).trans r1) I.bY (H.e.keep I.keep<|by rintro(h|h);exact HW.d QZ (.inr<|.inl rfl) h;exact HW.d m1 (.inr<|.inr<|.inl rfl) h) G sG jJ (T.ok F) (λx hx=>Ya<|T.bk.gX x<|T.bu x hx)<|T.an I.kY F (by omega)<|by have:=I.lY;have:=I.NQ;omega);obtain⟨n,E⟩:=ex (gz m).length;rw[<-E]at Q0;have ez:aG.wrap ((j:Int)+1)=(j:Int)+1:=by rw[qW];omega
    have jW:aG.wrap ((z:Int)+(n:Int))=(z:Int)+(n:Int):=by rw[qW];omega
    have ug:jM ((j:Int)+1)=(j:Int)+1:=by unfold jM;omega
    have Cq:jM ((z:Int)+(n:Int))=(z:Int)+(n:Int):=by unfold jM;omega
    have HI:=FT.mk I hk i l T F d E;clear I hk i l T F Q1 OY ga G sG jJ hR r1 r2 r3 r4 d;rw[<-E];clear E;go_wp2_with(go_at_call 59;go_must(refine Q0.out.mono ?_);rintro e w9⟨q,o,u⟩;have N:=XI u;clear u;obtain⟨v9,rfl,r⟩:=N;have H9:=gR.mk q o r;clear q o r;refine Halt.of ?_);unfold Halt;clear Q0;obtain⟨I,hk,i,l,T,F,d,E⟩:=HI;obtain⟨q,o,r⟩:=H9;rcases r with⟨Qw,rfl⟩|⟨t,QW⟩
    ·obtain⟨k2,D,QY⟩:=I.next hm H.a E2 d T F hk i l q o (v':=.slice V 0 0)<|.inl ⟨Qw,rfl⟩;rw[<-E]at QY;have HN:=cH.mk D QY;have K:=λ(w:ax)(a:eF)(n c:Nat)=>yn (U a) n c w;have J:=λ(w:ax)=>yn V 0 0 w;simp only[PK]at K J;clear I hk i l T F d E q o Qw D QY;go_wp2;go_roundg k2;case rel=>exact⟨j+1,z+n,ai,R,S,AR,AS,_,_,_,_,congrArg (Y aG)<|by omega,congrArg (Y aG)<|by omega,rfl,rfl,rfl,HN.b⟩
     case measure=>exact HN.a
    ·obtain⟨g9,c9,rfl,-,-,-⟩:=LL QW<|GH _;obtain⟨k2,D,QY⟩:=I.next hm H.a E2 d T F hk i l q o<|.inr ⟨t,rfl,QW⟩;rw[<-E]at QY;have HN:=cH.mk D QY;have K:=λ(w:ax)(a:eF)(n c:Nat)=>yn (U a) n c w;have J:=λ(w:ax)=>yn V 0 0 w;simp only[PK]at K J;obtain⟨n9,ER⟩:=ex (gz<|tI (m.bu.foldl fE FR) m).length;rw[<-ER]at HN⊢;clear I hk i l T F d E q o t D QY QW ER;go_wp2;go_roundg k2;case rel=>exact⟨j+1,z+n,Z,R,S,AR,AS,_,_,_,_,congrArg (Y aG)<|by omega,congrArg (Y aG)<|by omega,rfl,rfl,rfl,HN.b⟩
     case measure=>exact HN.a|some x=>
    obtain⟨gv,nv,cv,rfl,hnv,hcv,hg4⟩:=show acT w vm (U x)from HH.h;have hcv:=H.g wr I.keep hcv hg4;have aI9:(0:Int)<(nv:Int):=by omega
    have aI8:¬(nv:Int)=0:=by omega
    have aI7:¬nv=0:=by omega
    by_cases EE:x<0
    ·have E2:∀y,U x=U y->0<=y->(j:Int)<y:=λy h=>by injection h with h;omega
     obtain⟨m,P,k',hk,i,l,T,F,Q1⟩:∃m P k',gk=k'+1∧j+k'<=16∧z+P<=xD A B (n0+1)∧gQ C ((n0+1)%8=0∨Clear C A B) AS AR Q3 Q2 m P k'∧Dt m∧dy wf.heap.size wr u12 (gz m):=by
      rcases I.st with⟨-,h⟩|⟨h,-⟩;·exact h
      ·cases h
     have OY:=H.a;have ga:=T.size;obtain⟨g,cap,rfl,G,sG,jJ⟩:=LL Q1<|GH m;have hR:R=⟨p0,i0,QZ,g0⟩∨R=⟨p1,i1,m1,g1⟩:=by
      rcases I.who with⟨-,h,-⟩|⟨-,h,-⟩;·exact .inr h
      ·exact .inl h
     obtain⟨r1,r2,r3,r4⟩:=H.c R hR;have d:=bC H.f I.keep.size;have Q0:=X (acK R.p R.mb R.gb R.id FR m g 0 cap wr ((I.keep.block R.p r4<|by rintro(h|h);exact r2 h;exact r3 h).trans r1) I.bY (H.e.keep I.keep<|by rintro(h|h);exact HW.d QZ (.inr<|.inl rfl) h;exact HW.d m1 (.inr<|.inr<|.inl rfl) h) G sG jJ (T.ok F) (λx hx=>Ya<|T.bk.gX x<|T.bu x hx)<|T.an I.kY F (by omega)<|by have:=I.lY;have:=I.NQ;omega);obtain⟨n,E⟩:=ex (gz m).length;rw[<-E]at Q0;have ez:aG.wrap ((j:Int)+1)=(j:Int)+1:=by rw[qW];omega
     have jW:aG.wrap ((z:Int)+(n:Int))=(z:Int)+(n:Int):=by rw[qW];omega
     have ug:jM ((j:Int)+1)=(j:Int)+1:=by unfold jM;omega
     have Cq:jM ((z:Int)+(n:Int))=(z:Int)+(n:Int):=by unfold jM;omega
     have HI:=FT.mk I hk i l T F d E;clear I hk i l T F Q1 OY ga G sG jJ hR r1 r2 r3 r4 d;rw[<-E];clear E;go_wp2_with(go_at_call 59;go_must(refine Q0.out.mono ?_);rintro e w9⟨q,o,u⟩;have N:=XI u;clear u;obtain⟨v9,rfl,r⟩:=N;have H9:=gR.mk q o r;clear q o r;refine Halt.of ?_);unfold Halt;clear Q0;obtain⟨I,hk,i,l,T,F,d,E⟩:=HI;obtain⟨q,o,r⟩:=H9;rcases r with⟨Qw,rfl⟩|⟨t,QW⟩
     ·obtain⟨k2,D,QY⟩:=I.next hm H.a E2 d T F hk i l q o (v':=.slice V 0 0)<|.inl ⟨Qw,rfl⟩;rw[<-E]at QY;have HN:=cH.mk D QY;have K:=λ(w:ax)(a:eF)(n c:Nat)=>yn (U a) n c w;have J:=λ(w:ax)=>yn V 0 0 w;simp only[PK]at K J;clear I hk i l T F d E q o Qw D QY;go_wp2;go_roundg k2;case rel=>exact⟨j+1,z+n,ai,R,S,AR,AS,_,_,_,_,congrArg (Y aG)<|by omega,congrArg (Y aG)<|by omega,rfl,rfl,rfl,HN.b⟩
      case measure=>exact HN.a
     ·obtain⟨g9,c9,rfl,-,-,-⟩:=LL QW<|GH _;obtain⟨k2,D,QY⟩:=I.next hm H.a E2 d T F hk i l q o<|.inr ⟨t,rfl,QW⟩;rw[<-E]at QY;have HN:=cH.mk D QY;have K:=λ(w:ax)(a:eF)(n c:Nat)=>yn (U a) n c w;have J:=λ(w:ax)=>yn V 0 0 w;simp only[PK]at K J;obtain⟨n9,ER⟩:=ex (gz<|tI (m.bu.foldl fE FR) m).length;rw[<-ER]at HN⊢;clear I hk i l T F d E q o t D QY QW ER;go_wp2;go_roundg k2;case rel=>exact⟨j+1,z+n,Z,R,S,AR,AS,_,_,_,_,congrArg (Y aG)<|by omega,congrArg (Y aG)<|by omega,rfl,rfl,rfl,HN.b⟩
      case measure=>exact HN.a
    ·by_cases hxj:(j:Int)<x
     ·have E2:∀y,U x=U y->0<=y->(j:Int)<y:=λy h=>by injection h with h;omega
      obtain⟨m,P,k',hk,i,l,T,F,Q1⟩:∃m P k',gk=k'+1∧j+k'<=16∧z+P<=xD A B (n0+1)∧gQ C ((n0+1)%8=0∨Clear C A B) AS AR Q3 Q2 m P k'∧Dt m∧dy wf.heap.size wr u12 (gz m):=by
       rcases I.st with⟨-,h⟩|⟨h,-⟩;·exact h
       ·cases h
      have OY:=H.a;have ga:=T.size;obtain⟨g,cap,rfl,G,sG,jJ⟩:=LL Q1<|GH m;have hR:R=⟨p0,i0,QZ,g0⟩∨R=⟨p1,i1,m1,g1⟩:=by
       rcases I.who with⟨-,h,-⟩|⟨-,h,-⟩;·exact .inr h
       ·exact .inl h
      obtain⟨r1,r2,r3,r4⟩:=H.c R hR;have d:=bC H.f I.keep.size;have Q0:=X (acK R.p R.mb R.gb R.id FR m g 0 cap wr ((I.keep.block R.p r4<|by rintro(h|h);exact r2 h;exact r3 h).trans r1) I.bY (H.e.keep I.keep<|by rintro(h|h);exact HW.d QZ (.inr<|.inl rfl) h;exact HW.d m1 (.inr<|.inr<|.inl rfl) h) G sG jJ (T.ok F) (λx hx=>Ya<|T.bk.gX x<|T.bu x hx)<|T.an I.kY F (by omega)<|by have:=I.lY;have:=I.NQ;omega);obtain⟨n,E⟩:=ex (gz m).length;rw[<-E]at Q0;have ez:aG.wrap ((j:Int)+1)=(j:Int)+1:=by rw[qW];omega
      have jW:aG.wrap ((z:Int)+(n:Int))=(z:Int)+(n:Int):=by rw[qW];omega
      have ug:jM ((j:Int)+1)=(j:Int)+1:=by unfold jM;omega
      have Cq:jM ((z:Int)+(n:Int))=(z:Int)+(n:Int):=by unfold jM;omega
      have HI:=FT.mk I hk i l T F d E;clear I hk i l T F Q1 OY ga G sG jJ hR r1 r2 r3 r4 d;rw[<-E];clear E;go_wp2_with(go_at_call 59;go_must(refine Q0.out.mono ?_);rintro e w9⟨q,o,u⟩;have N:=XI u;clear u;obtain⟨v9,rfl,r⟩:=N;have H9:=gR.mk q o r;clear q o r;refine Halt.of ?_);unfold Halt;clear Q0;obtain⟨I,hk,i,l,T,F,d,E⟩:=HI;obtain⟨q,o,r⟩:=H9;rcases r with⟨Qw,rfl⟩|⟨t,QW⟩
      ·obtain⟨k2,D,QY⟩:=I.next hm H.a E2 d T F hk i l q o (v':=.slice V 0 0)<|.inl ⟨Qw,rfl⟩;rw[<-E]at QY;have HN:=cH.mk D QY;have K:=λ(w:ax)(a:eF)(n c:Nat)=>yn (U a) n c w;have J:=λ(w:ax)=>yn V 0 0 w;simp only[PK]at K J;clear I hk i l T F d E q o Qw D QY;go_wp2;go_roundg k2;case rel=>exact⟨j+1,z+n,ai,R,S,AR,AS,_,_,_,_,congrArg (Y aG)<|by omega,congrArg (Y aG)<|by omega,rfl,rfl,rfl,HN.b⟩
       case measure=>exact HN.a
      ·obtain⟨g9,c9,rfl,-,-,-⟩:=LL QW<|GH _;obtain⟨k2,D,QY⟩:=I.next hm H.a E2 d T F hk i l q o<|.inr ⟨t,rfl,QW⟩;rw[<-E]at QY;have HN:=cH.mk D QY;have K:=λ(w:ax)(a:eF)(n c:Nat)=>yn (U a) n c w;have J:=λ(w:ax)=>yn V 0 0 w;simp only[PK]at K J;obtain⟨n9,ER⟩:=ex (gz<|tI (m.bu.foldl fE FR) m).length;rw[<-ER]at HN⊢;clear I hk i l T F d E q o t D QY QW ER;go_wp2;go_roundg k2;case rel=>exact⟨j+1,z+n,Z,R,S,AR,AS,_,_,_,_,congrArg (Y aG)<|by omega,congrArg (Y aG)<|by omega,rfl,rfl,rfl,HN.b⟩
       case measure=>exact HN.a
     ·have HO:=cH.mk (I.over<|.inr ⟨x,rfl,by omega,by omega⟩) I.keep;clear I;go_wp2;go_ret2;obtain⟨⟨L0,L1,A',B',q1,q2,q3,q4,q5⟩,EU⟩:=HO;obtain⟨e1,e2,e3⟩:=H.i wr EU;exact⟨j,z,L0,L1,A',B',rfl,e3 _ _ (.inl rfl) q1,q2,e3 _ _ (.inr rfl) q3,q4,q5,e1,e2⟩
@[simp]theorem aHs(args)(w):(iJ 41 args).run Q w=aW (jO 41 args) w:=Pr adI (by kernel_rfl) args w
theorem Ma.drew{l i}{m}{A B}{bs}{c}{w w'}{e}(h:Ma l i m A B bs c w.drew e w'):Ma l i m A B bs c w e w':=by obtain⟨j,z,s,n,p,r,a,b,o,d,f,g,q,k⟩:=h;exact⟨j,z,s,n,p,r,a,b,o,d,f,g,q,(O.drew _ _).trans k⟩
theorem ar5(G)(lv)(r)(i j:Nat)(hi)(hj:j<r.length)(g n)(C)(J P A B)(bs)(H)(c)(w)(QX:rF w G lv r)(EM:r.length<=1000000)(e0:r[i]=g.p)(e1:r[j]=n.p)(h0:g.At w)(h1:n.At w)(hp:g.p≠n.p)(hm:g.mb≠n.mb)(QY:g.gb≠g.mb)(QW:g.gb≠n.mb)(Q1:cI w g.mb J)(Z:cI w n.mb P)(hA:Bk J A)(hB:Bk P B)(fA:∀x∈A,Fits x)(fB:∀x∈B,Fits x)(lA:A.length<=4096)(lB:B.length<=4096)(ht:fx w)(hf:pK w)(Q3:cU (qY aG) w g.gb bs)(S:(look bs n.id).getD (Y aG 0)=Y aG C)(N:0<=C)(I:C<4611686018427387904)(hc:acT w H c):bz Q 23 #[aF G,i,j,H] w λe w'=>Ma g n C A B bs c w e w':=by
 obtain⟨D,z,hv,hg,s⟩:=QX.cell hi;have t:w.cell? ⟨D,j,V⟩=U (aF r[j]):=by obtain⟨R,Q2,zk,-,h⟩:=QX.cell hj;grind
 subst hv;rw[e0]at s;rw[e1]at t;have E:w.cell? G=U (aC D r.length z):=M QX.box 0;have OE:(i:Int)<(r.length:Int):=by omega
 have oC:(j:Int)<(r.length:Int):=by omega
 have hT:∀{b:Nat}{v:az}{i:Nat},w.cell? ⟨b,i,V⟩=v->b<w/\b≠g.mb/\b≠n.mb/\b≠g.gb:=λ{b v i}o=>by
  have AL:∀(q:Nat)(y:_)(F:_),w.heap[q]?=U (iY y F)->b≠q:=λq y F hb e=>by subst e;unfold pz at o;grind
  refine⟨oU w _ o,?_,?_,?_⟩;.obtain⟨y,F,h,_⟩:=Q1;grind
  .obtain⟨y,F,h,_⟩:=Z;grind
  .obtain⟨y,F,h,_⟩:=Q3;grind
 have QZ:∀(W:ax)(b k:Nat)(v:az),O (λb=>b=g.mb\/b=n.mb\/b=g.gb) w W->w.cell? ⟨b,k,V⟩=v->W.cell? ⟨b,k,V⟩=v:=λW b k v L o=>by obtain⟨f,l,q3,q4⟩:=hT o;exact(L.cell (p:=⟨b,k,V⟩) f<|by grind).trans o
 have T:=X QZ;go_enter aqd,ntmps23;go_wp2;refine x4 ?_;refine DJ (λW=>W.cell? ⟨G,0,V⟩=U (aC (U ⟨D,0,V⟩) r.length z)/\W.cell? ⟨D,i,V⟩=U (aF<|U ⟨g.p,0,V⟩)/\W.cell? ⟨D,j,V⟩=U (aF<|U ⟨n.p,0,V⟩)) [0,1,2,3,4,5,6,7,8,9,10,11,12,13,14,15,16,17,18,19] (by kernel_rfl) ⟨E,s,t⟩ (λ_ _ _ _ _ h=>h) ?_;repeat((apply qQ _ rfl (by kernel_rfl) rfl;.intro W d;obtain⟨m,f,l⟩:=d;go_simp;try with_reducible rfl);simp only[yN])
 refine wE rfl (by kernel_rfl) λa K L=>?_;go_simp;go_at_call 41;refine jm (X<|ar4 g n C J P A B bs H c w.drew h0 h1 hp hm QY QW (Q1.of_block rfl) (Z.of_block rfl) hA hB fA fB lA lB ht hf Q3.drew S N I<|by cases c<;>exact hc).out ?_;rintro e w7 Q0;obtain⟨fj,fz,L0,L1,A',B',rfl,hQ⟩:=Q0.drew;have u:=hQ.2.2.2.2.2.2;refine L.out _ _ ⟨T.out _ _ _ _ u E,T.out _ _ _ _ u s,T.out _ _ _ _ u t⟩ ?_;repeat((apply qQ _ rfl (by kernel_rfl) rfl;.intro W d;go_simp;try with_reducible rfl);simp only[yN])
 refine DK (by kernel_rfl) λa=>?_;refine tS ?_;go_wp2;go_ret2;exact(X Q0).out.drew
structure Rk where
 p:Nat
 id:Int
 m:Nat
 g:Nat
 L:List s
 l:List s
 bs:List<|Int×az
def Rk.r4(o:Rk):Bj:=⟨o.p,o.id,o.m,o.g⟩
def Rk.uY(o:Rk)(L' l':List s):Rk:=⟨o.p,o.id,o.m,o.g,L',l',o.bs⟩
def Rk.auv(o:Rk)(L' l':List s)(De:List<|Int×az):Rk:=⟨o.p,o.id,o.m,o.g,L',l',De⟩
abbrev Keys:=List<|ByteArray×ByteArray
structure wj(N K S:Nat)(ks:Keys)(w:ax)(o:Rk):Prop where
 rep:fq w o.p o.id o.m o.g
 book:cI w o.m o.L
 bk:Bk o.L o.l
 map:cU (qY aG) w o.g o.bs
 cnt:∀y∈o.l,0<=y.c/\y.c<=K/\ij y.r
 ks:∀y∈o.l,(y.name,y.field)∈ks
 Gp:∀k,∃n:Nat,(look o.bs k).getD (Y aG 0)=Y aG n/\n<=S
 pN:N<=o.p
 mN:N<=o.m
 gN:N<=o.g
 Ck:ij o.id
def jR(R:Nat->Rk):List Nat:=[(R 0).p,(R 1).p,(R 2).p]
structure iB(N K S:Nat)(ks:Keys)(w:ax)(pw:Nat)(pv:az)(R:Nat->Rk):Prop where
 lN:rF w pw pv (jR R)eT:∀i,i<3->wj N K S ks w (R i)ms:∀i j,i<3->j<3->i≠j->(R i).m≠(R j).m
 gm:∀i j,i<3->j<3->(R i).g≠(R j).m
 gs:∀i j,i<3->j<3->i≠j->(R i).g≠(R j).g
 kl:ks.length<=K
 RR:∀b,pv.ownBlock=U b->N<=b
 RQ:N<=pw
def oO(R:Nat->Rk)(b:Nat):Prop:=∃k,k<3/\(b=(R k).m\/b=(R k).g)
structure oM(R R':Nat->Rk):Prop where
 p:∀k,(R' k).p=(R k).p
 id:∀k,(R' k).id=(R k).id
 m:∀k,(R' k).m=(R k).m
 g:∀k,(R' k).g=(R k).g
theorem oM.refl(R):oM R R:=⟨λ_=>rfl,λ_=>rfl,λ_=>rfl,λ_=>rfl⟩
theorem oM.trans{R b a}(h:oM R b)(k:oM b a):oM R a:=⟨λi=>(k.p i).trans<|h.p i,λi=>(k.id i).trans<|h.id i,λi=>(k.m i).trans<|h.m i,λi=>(k.g i).trans<|h.g i⟩
theorem oM.maps{R a}(h:oM R a):oO a=oO R:=funext λb=>by unfold oO;simp only[h.m,h.g]
theorem iB.lo{N K S}{f}{w}{d}{c}{R}(h:iB N K S f w d c R){b}(g:oO R b):N<=b:=by
 obtain⟨k,a,e|e⟩:=g<;>rw[e];.exact(h.eT k a).mN
 .exact(h.eT k a).gN
theorem qS(R):(jR R).length=3:=rfl
theorem xQ(R){i}(h:i<3):(jR R)[i]'h=(R i).p:=by
 have:i=0\/i=1\/i=2:=by omega
 rcases this with rfl|rfl|rfl<;>rfl
theorem ahG{t:Type}[DecidableEq t]{k k':t}(v:az)(h:k≠k'):∀(l:List<|t×az),look (put l k v) k'=look l k'
 |[]=>by grind[put,look]|(a,u)::l=>by
  unfold put;by_cases e:a=k;.rw[cJ e];subst e;show(if a=k' then _ else look l k')=if a=k' then _ else look l k';grind
  .rw[if_neg e];show(if a=k' then U u else look (put l k v) k')=if a=k' then U u else look l k';rw[ahG v h l]
theorem am6{A B X}(d:j X)(h:yC A B X){x}(c:x∈X):x∈A\/x∈B:=by
 have f:=U9 d c;have g:∀{a b:Option s}{y:s},ir a b=y->a=y\/b=y:=λ{a b y}h=>by cases a with|none=>exact aB h|some a=>cases b with|none=>exact ay h|some b=>simp only[ir,dX,GI]at h;grind
 rcases h x.name x.field with e|e;all_goals grind[uD]
section
variable {N K S K' S':Nat} {ks ks':Keys} {w w':ax} {pw:Nat} {pv:az} {R:Nat->Rk} {o:Rk}
theorem wj.blocks(h:wj N K S ks w o)(c:w'.heap[o.p]?=w.heap[o.p]?)(b:w'.heap[o.m]?=w.heap[o.m]?)(a:w'.heap[o.g]?=w.heap[o.g]?):wj N K S ks w' o:=⟨c.trans h.rep,h.book.of_block b,h.bk,h.map.of_block a,h.cnt,h.ks,h.Gp,h.pN,h.mN,h.gN,h.Ck⟩
theorem wj.more(h:wj N K S ks w o)(f:K<=K')(g:S<=S')(e:∀x∈ks,x∈ks'):wj N K' S' ks' w o:=⟨h.rep,h.book,h.bk,h.map,λy d=>⟨(h.cnt y d).1,by have:=(h.cnt y d).2.1;omega,(h.cnt y d).2.2⟩,λy d=>e _<|h.ks y d,λk=>by obtain⟨n,a,b⟩:=h.Gp k;grind,h.pN,h.mN,h.gN,h.Ck⟩
theorem wj.fits(h:wj N K S ks w o)(c:K<=1000000):∀x∈o.l,Fits x:=λx a=>by obtain⟨e,d,b⟩:=h.cnt x a;exact⟨F7 ⟨by omega,by omega⟩,F7 b⟩
theorem wj.len(h:wj N K S ks w o):o.l.length<=ks.length:=by
 have g:(o.l.map λx=>(x.name,x.field)).Nodup:=NC.2 (h.bk.sorted.imp λ{a b}i e=>by grind[Dj]);have:=Yh g (b:=ks) λx f=>by obtain⟨y,d,rfl⟩:=ki.1 f;exact h.ks y d
 grind
theorem iB.below(h:iB N K S ks w pw pv R)(a:aY w w w'):iB N K S ks w' pw pv R:=⟨⟨(a.block _ (dm.1 h.lN.box).1).trans h.lN.box,dB h.lN.row λb d=>a.block b (h.lN.row.lt b d).2⟩,λi c=>(h.eT i c).blocks (a.block _ (h.eT i c).rep.lt) (a.block _ (h.eT i c).book.lt)<|a.block _ (h.eT i c).map.lt,h.ms,h.gm,h.gs,h.kl,h.RR,h.RQ⟩
theorem iB.more(h:iB N K S ks w pw pv R)(a:K<=K')(e:S<=S')(c:∀x∈ks,x∈ks')(d:ks'.length<=K'):iB N K' S' ks' w pw pv R:=⟨h.lN,λi b=>(h.eT i b).more a e c,h.ms,h.gm,h.gs,d,h.RR,h.RQ⟩
def qd(R:Nat->Rk)(i:Nat)(o:Rk):Nat->Rk:=λk=>if k=i then o else R k
theorem QG(R)(i)(o):qd R i o i=o:=cJ rfl
theorem QH(R){i k}(o)(h:k≠i):qd R i o k=R k:=if_neg h
theorem uT{t:Type}(f:Rk->t)(R){i}{o}(h:f o=f (R i))(k):f (qd R i o k)=f (R k):=by grind[qd]
theorem av1(R){i}{o}(h:o.p=(R i).p):jR (qd R i o)=jR R:=by unfold jR;rw[uT Rk.p R h,uT Rk.p R h,uT Rk.p R h]
theorem iB.touch(h:iB N K S ks w pw pv R){F}(k:O F w w')(n:∀b,F b->∃l j,w.heap[b]?=U (iY l j)):rF w' pw pv (jR R)/\∀i,i<3->fq w' (R i).p (R i).id (R i).m (R i).g:=by
 have g:∀(b:Nat)(c:Array az)(t:Nat),w.heap[b]?=aH c t (0,0)->w'.heap[b]?=w.heap[b]?:=λb c t a=>k.block b (dm.1 a).1 λe=>by grind
 refine⟨⟨(g _ _ _ h.lN.box).trans h.lN.box,dB h.lN.row λb a=>?_⟩,λi d=>(g _ _ _ (h.eT i d).rep).trans (h.eT i d).rep⟩;obtain⟨m,f⟩:=XH h.lN.row a;grind
theorem iB.edit(h:iB N K S ks w pw pv R){i}(q:i<3){L' l'}(p:O (λb=>b=(R i).m) w w')(x:cI w' (R i).m L')(t:Bk L' l')(z:∀y∈l',0<=y.c/\y.c<=K/\ij y.r)(s:∀y∈l',(y.name,y.field)∈ks):iB N K S ks w' pw pv<|qd R i<|(R i).uY L' l':=by
 obtain⟨v,u⟩:=h.touch p λb e=>by subst e;obtain⟨B,A,f,_⟩:=(h.eT i q).book;grind
 refine⟨by rw[av1 R (o:=(R i).uY L' l') rfl];exact v,λk d=>?_,λa b l n j=>?_,λa b l n=>?_,λa b l n j=>?_,h.kl,h.RR,h.RQ⟩
 .have f:=h.eT k d;by_cases e:k=i;.subst e;rw[QG];exact⟨u k d,x,t,f.map.of_block<|p.block _ f.map.lt<|h.gm k k d d,z,s,f.Gp,f.pN,f.mN,f.gN,f.Ck⟩
  .rw[QH R _ e];refine f.blocks ((u k d).trans f.rep.symm) (p.block _ f.book.lt<|h.ms k i d q e)<|p.block _ f.map.lt<|h.gm k i d q
 .rw[uT Rk.m R (o:=(R i).uY L' l') rfl,uT Rk.m R (o:=(R i).uY L' l') rfl];exact h.ms a b l n j
 .rw[uT Rk.g R (o:=(R i).uY L' l') rfl,uT Rk.m R (o:=(R i).uY L' l') rfl];exact h.gm a b l n
 .rw[uT Rk.g R (o:=(R i).uY L' l') rfl,uT Rk.g R (o:=(R i).uY L' l') rfl];exact h.gs a b l n j
theorem iB.sync(h:iB N K S ks w pw pv R){i j}(z:i<3)(m:j<3)(Cw:i≠j){n:Nat}{c}{e}(hn:(look (R i).bs (R j).id).getD (Y aG 0)=n)(H:Ma (R i).r4 (R j).r4 n (R i).l (R j).l (R i).bs c w e w'):∃(W X:Nat)(B E:List s)(M:Nat->Rk),e=bj (bQ #[W,X])/\Vl ((n+1:Int)%8=0\/Clear C (R i).l (R j).l) (R i).l (R j).l (xD (R i).l (R j).l<|n+1) c B E W X/\iB N K (S+1) ks w' pw pv M/\(M i).l=B/\(M j).l=E/\(∀k,k≠i->k≠j->(M k).l=(R k).l)/\oM R M/\(look (M i).bs (R j).id).getD (Y aG 0)=(n+1:Nat)/\O (oO R) w w':=by
 obtain⟨W,X,L0,L1,B,E,h1,h2,h3,h4,h5,Q0,h7,L⟩:=H;have r:=h.eT i z;have l:=h.eT j m;simp only[Rk.r4]at h2 h4 h7 L;obtain⟨hW,p⟩:=h.touch L λb e=>by
  rcases e with e|e|e<;>subst e;.obtain⟨en,ck,q,_⟩:=r.book;grind
  .obtain⟨en,ck,q,_⟩:=l.book;grind
  .obtain⟨en,ck,q,_⟩:=r.map;grind
 have F:∀x,x∈B\/x∈E->x∈(R i).l\/x∈(R j).l:=λx v=>by
  rcases v with v|v;.exact am6 Q0.bk.sX Q0.bk.bX v
  .exact(am6 Q0.bk.sY Q0.bk.bY v).symm
 have G:∀x,x∈B\/x∈E->0<=x.c/\x.c<=K/\ij x.r:=λx v=>by
  rcases F x v with q|q;.exact r.cnt x q
  .exact l.cnt x q
 have P:∀x,x∈B\/x∈E->(x.name,x.field)∈ks:=λx v=>by
  rcases F x v with q|q;.exact r.ks x q
  .exact l.ks x q
 let D:=(R i).auv L0 B<|put (R i).bs (R j).id<|Y aG<|(n:Nat)+1;let Q1:=(R j).uY L1 E;have g:qd (qd R i D) j Q1 i=D:=by grind[QH,QG]
 have ej:qd (qd R i D) j Q1 j=Q1:=QG _ _ _;have ek:∀k,k≠i->k≠j->qd (qd R i D) j Q1 k=R k:=λk h1 h2=>by grind[QH]
 have u:∀{α:Type}(f:Rk->α),f D=f (R i)->f Q1=f (R j)->∀k,f (qd (qd R i D) j Q1 k)=f (R k):=λf a b k=>by grind
 refine⟨W,X,B,E,qd (qd R i D) j Q1,h1,Q0,⟨?_,λk t=>?_,λa b Q T J=>?_,λa b Q T=>?_,λa b Q T J=>?_,h.kl,h.RR,h.RQ⟩,by rw[g];rfl,by rw[ej];rfl,λk a b=>by grind,⟨λk=>u Rk.p rfl rfl k,λk=>u Rk.id rfl rfl k,λk=>u Rk.m rfl rfl k,λk=>u Rk.g rfl rfl k⟩,?_,L.mono λb _ e=>?_⟩
 .have:jR (qd (qd R i D) j Q1)=jR R:=by unfold jR;rw[u Rk.p rfl rfl,u Rk.p rfl rfl,u Rk.p rfl rfl]
  grind
 .by_cases e1:k=j;.subst e1;rw[ej];exact⟨p k t,h4,h5,l.map.of_block<|L.block _ l.map.lt<|by rintro(q|q|q);exact h.gm k i t z q;exact h.gm k k t t q;exact h.gs k i t z (by grind) q,λy I=>G y<|aB I,λy I=>P y<|aB I,λd=>by obtain⟨n,a,b⟩:=l.Gp d;exact⟨n,a,by omega⟩,l.pN,l.mN,l.gN,l.Ck⟩
  .by_cases e2:k=i
   .subst e2;rw[g];refine⟨p k t,h2,h3,h7,λy I=>G y<|ay I,λy I=>P y<|ay I,λd=>?_,r.pN,r.mN,r.gN,r.Ck⟩;by_cases e:(R j).id=d;.subst e;obtain⟨n,a,b⟩:=r.Gp (R j).id;rw[hn]at a;injection a with _ a;exact⟨n+1,by show(look (put (R k).bs (R j).id _) (R j).id).getD _=_;grind[Ng],by omega⟩
    .obtain⟨n,a,b⟩:=r.Gp d;exact⟨n,by show(look (put (R k).bs (R j).id _) d).getD _=_;grind[ahG],by omega⟩
   .rw[ek k e2 e1];have A:=h.eT k t;exact(A.more (aQ _) (Ko _) λ_ q=>q).blocks ((p k t).trans A.rep.symm) (L.block _ A.book.lt<|by rintro(q|q|q);exact h.ms k i t z e2 q;exact h.ms k j t m e1 q;exact h.gm i k z t q.symm)<|L.block _ A.map.lt<|by rintro(q|q|q);exact h.gm k i t z q;exact h.gm k j t m q;exact h.gs k i t z e2 q
 .rw[u Rk.m rfl rfl,u Rk.m rfl rfl];exact h.ms a b Q T J
 .rw[u Rk.g rfl rfl,u Rk.m rfl rfl];exact h.gm a b Q T
 .rw[u Rk.g rfl rfl,u Rk.g rfl rfl];exact h.gs a b Q T J
 .rw[g];show(look (put (R i).bs (R j).id _) (R j).id).getD _=_;grind[Ng]
 .rcases e with e|e|e;.exact⟨i,z,ay e⟩
  .exact⟨j,m,ay e⟩
  .exact⟨i,z,aB e⟩
end
end
end Go.Proofs.YtpdbmpbmepkikaaGreatDoor
