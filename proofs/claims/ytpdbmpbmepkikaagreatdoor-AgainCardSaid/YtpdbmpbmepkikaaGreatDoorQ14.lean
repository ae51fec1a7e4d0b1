/- Laws. -/
import Derived.Test.YtpdbmpbmepkikaaGreatDoorQ05
import Derived.Test.YtpdbmpbmepkikaaGreatDoorQ13
set_option maxRecDepth 100000
set_option maxHeartbeats 400000
set_option linter.all false
open Go.Proofs.Tryz
open Bool renaming true->Y,false->ai
open Decidable renaming decide->cg
open Go renaming runtimePanic->Cg,store->EE,Frame->aZ,undef->ak,World->ay,Value->az,Program->bW,Calls->bz,execOp->cX,stepG->cj,Sem->cz,Oper->dJ,Addr->eT,Item->eY,Func->ep,yielded->eu,TypeId->ey,binOp->fZ,FuncId->fq,callFunc->iA,lone->iS,Operand->iT,results->kA,zeroValue->lu,doReturn->oz,underlying->pq,getObj->ry,boundsPanic->tW
open Go.Builtin renaming delete_->Uh,len_->zk
open Go.CallKind renaming normal->eC
open Go.Code renaming seq->eI,region->ec
open Go.Deferred renaming ofValue->OM
open Go.Departure renaming mixedOrders->nG
open Go.Ending renaming returned->bj
open Go.Fn renaming func->ez
open Go.Frame renaming oper?->OB,enter->eW,pos->o9,finish->tV
open Go.FrameMode renaming returning->fH
open Go.GStep renaming go->bU,ended->fx
open Go.Instr renaming sureAddr->EK,loadAt->EL,extract->GX,index->OH,storeAt->Uf,indexAt->xZ
open Go.IntKind renaming i64->aC,u8->aq,u64->cO
open Go.Item renaming inRegion->aT,code->bF,inBlock->mh
open Go.Mode renaming plain->lM,atomic->qx
open Go.Next renaming value->gp,enter->jL
open Go.Obj renaming cells->aH,map->iZ,deferred->x6
open Go.Op renaming bytesLess->Ch,stringOp->OG,assign->pn,equalIn->sF
open Go.Operand renaming tmp->cx,const->gJ
open Go.Outcome renaming stuck->kB
open Go.Proofs.Tryz renaming prog->aF
open Go.Region renaming binds->OI,departs->akC,wanted->eX,schedule->mK
open Go.Region.linearise renaming go->x5
open Go.Result renaming ok->aY,halt->dR,andThen->mg
open Go.RowKit renaming Below->aW
open Go.Sem renaming run->oA
open Go.Shelf renaming Ren->Cc
open Go.Stepped renaming next->fW
open Go.Value renaming int->V,string->aD,slice->aE,pointer->aG,agg->bJ,tuple->bO,bool->bQ,map->cq,func->dM,nilIface->nH
open Go.World renaming alloc->EF,farLoad->aa2,setCell->jk,cell?->pg,frozen?->x8
open Go.stepG renaming oper->EI,exec->wM,apply->wN
open List renaming range->mJ
open Option renaming some->U,none->Z
open Or renaming inr->aA,inl->ax
open Pure renaming pure->bI
open UInt8 renaming ofNat->ru
namespace Go.Proofs.YtpdbmpbmepkikaaGreatDoor
def og:=@beq_iff_eq
def Yz:=@map_eq_pure_bind
def awD:=@UInt8.toNat_inj
def yJ:=@bne_iff_ne
def Yy:=@Go.Sem.runT_eq
def Bx:=@Go.GStep.bare_after
def agT:=@Array.mem_toList_iff
def agS:=@Bool.not_eq_true'
def RY:=@List.all_eq_true
def agR:=@Function.comp_apply
section
open Go
def ri:az->Bool|V _ _=>Y|bQ _=>Y|bO vs=>vs.isEmpty|_=>ai
def Ew:az->Bool|aG _=>Y|aE _ _ _=>Y|bO vs=>vs.all ri|_=>ai
inductive BR:az->az->Prop|none(x):BR (bO #[]) x|byte(c:UInt8):BR (aD ⟨#[c]⟩)<|V aq (c.toNat:Int)|int(k n):BR (V k n)<|V k n|bool(b):BR (bQ b)<|bQ b
def BK:Nat->az->az->Prop|0,a,b=>a=b/\ri b=Y|1,a,b=>BR a b|2,a,b=>a=b/\Ew b=Y|_,_,_=>False
theorem BR.ofE{a}(h:ri a=Y):BR a a:=by
 cases a<;>first|cases h|skip
 .exact .bool _
 .exact .int _ _
 .have:=by simpa[ri]using h
  rw[this];exact .none _
def Du(a b:Nat):Bool:=a==b&&cg (a<3)||a==0&&b==1
theorem BK.le{a b}{x y}(h:BK a x y)(c:Du a b=Y):BK b x y:=by
 simp only[Du,lF,cV,og]at c;rcases c with⟨rfl,_⟩|⟨rfl,rfl⟩;.grind
 .obtain⟨rfl,d⟩:=h;exact BR.ofE d
theorem BK.undef{k}(b:k<3):BK k ak ak:=by match k,b with|0,_=>exact⟨rfl,rfl⟩|1,_=>exact .none _|2,_=>exact⟨rfl,by show#[].all ri=Y;simp⟩
theorem BK.data{k}{x y}(h:BK k x y)(a:k<=1):BR x y:=by match k,a,h with|0,_,h=>exact BK.le (b:=1) h rfl|1,_,h=>exact h
def BC(x0:Option az)(x x':az):Prop:=x=bO #[]/\x0=U x'\/x≠bO #[]/\BR x x'
theorem BC.r{x0}{x x'}(h:BC x0 x x'):BR x x':=by
 rcases h with⟨rfl,_⟩|⟨_,h⟩;.exact .none _
 grind
def cell0:Option Obj->Nat->Option az|some<|aH c _ _,i=>c[i]?|_,_=>Z
def BO(E:Option Obj):Obj->Obj->Prop|aH c e f,o'=>∃c',o'=aH c' e f/\c.size=c'.size/\(∀i x x',c[i]?=U x->c'[i]?=U x'->BC (cell0 E i) x x')/\(E=Z\/∃c0,E=U (aH c0 e f)/\c0.size=c.size)|x6 Z,o'=>E=U o'/\∀c e f,o'≠aH c e f|_,_=>False
structure iC(w0 u w:ay):Prop where
 os:u.os=w.os
 tape:u.tape=w.tape
 drawn:u.drawn=w.drawn
 output:u.output=w.output
 size:u.heap.size=w.heap.size
 GI:w0.heap.size<=w.heap.size
 obj:∀(b:Nat)(o o':Obj),u.heap[b]?=U o->w.heap[b]?=U o'->BO w0.heap[b]? o o'
section
variable {w0 u w:ay}
theorem iC.right(h:iC w0 u w){b:Nat}{o}(e:u.heap[b]?=U o):∃d,w.heap[b]?=U d/\BO w0.heap[b]? o d:=by have c:=(cU.1 e).1;rw[h.size]at c;exact⟨_,iy c,h.obj b _ _ e<|iy c⟩
theorem iC.cell(h:iC w0 u w){a}{x}(e:u.cell? a=U x):∃f,w.cell? a=U f/\BC (cell0 w0.heap[a.block]? a.off) x f/\w.frozen? a=u.frozen? a:=by unfold pg at e;cases d:u.heap[a.block]? with|none=>grind|some o=>
  rw[d]at e;cases o<;>try grind
  obtain⟨m,k,g,rfl,i,j,l⟩:=h.right d;simp only at e;split at e;.grind
  .have c:=i▸(cU.1 e).1;refine⟨g[a.off],?_,j _ _ _ e<|iy c,?_⟩;.unfold pg;grind
   .unfold x8;grind
theorem iC.sC(h:iC w0 u w)(P)(a)(b):∃m,u.farLoad P a b=.error m/\soft m=Y:=by unfold aa2 World.noCell;cases d:u.heap[a.block]? with|none=>exact⟨_,rfl,rfl⟩|some o=>obtain⟨f,e,c⟩:=h.right d;cases o<;>first|exact⟨_,rfl,rfl⟩|exact c.elim
theorem iC.aBu(h:iC w0 u w)(P)(a)(x)(b):∃m,u.farStore P a x b=.error m/\soft m=Y:=by unfold World.farStore World.noCell;cases d:u.heap[a.block]? with|none=>exact⟨_,rfl,rfl⟩|some o=>obtain⟨f,e,c⟩:=h.right d;cases o<;>first|exact⟨_,rfl,rfl⟩|exact c.elim
theorem iC.set(h:iC w0 u w){a:eT}{x x':az}(s:x≠bO #[])(t:BR x x')(hs:a.spot=Z):iC w0 (u.setCell a x)<|w.setCell a x':=by
 refine⟨h.os,h.tape,h.drawn,h.output,by simpa[jk]using h.size,by simpa[jk]using h.GI,λb o m e f=>?_⟩;by_cases n:a.block=b;.subst n;simp only[jk,Ae,iW]at e f;cases q:u.heap[a.block]? with|none=>grind|some p=>
   obtain⟨A,r,j⟩:=h.right q;rw[q,eG]at e;rw[r,eG]at f;cases p<;>try exact j.elim
   .obtain⟨C,rfl,k,l,B⟩:=j;simp only[hs,Option.isSome_none,oT,vU,ew]at e f;subst e f;refine⟨_,rfl,by grind,λi y D g d=>?_,by grind⟩;rw[Yt]at g d;by_cases z:a.off=i
    .rw[dy z]at g d;split at g
     .split at d;.cases g;cases d;exact aA ⟨s,t⟩
      grind
     grind
    grind
   .rename_i v;cases v with|some _=>exact j.elim|none=>
     cases e;obtain⟨k,l⟩:=j;have:m=A:=by grind
     subst this;exact⟨k,l⟩
 .simp only[jk,Ae,if_neg n]at e f;exact h.obj b o m e f
theorem iC.push(h:iC w0 u w){t}{x x'}(j:x≠bO #[])(k:BR x x'):iC w0 {u with heap:=u.heap.push<|aH #[x] t} {w with heap:=w.heap.push<|aH #[x'] t}:=by
 refine⟨h.os,h.tape,h.drawn,h.output,by simp[h.size],by simp;exact Nat.le_succ_of_le h.GI,λb o l c d=>?_⟩;simp only[Yq]at c d;by_cases f:b=w.heap.size;.rw[dy<|by rw[h.size];grind]at c;rw[dy f]at d;cases c;cases d;refine⟨_,rfl,rfl,λi y m g e=>?_,ax<|yH<|by rw[f];exact h.GI⟩;match i with|0=>cases g;cases e;exact aA ⟨j,k⟩|n+1=>grind
 .rw[if_neg<|by rw[h.size];grind]at c;rw[if_neg f]at d;exact h.obj b o l c d
theorem iC.draw(h:iC w0 u w):iC w0 {u with drawn:=u.drawn+1} {w with drawn:=w.drawn+1}:=⟨h.os,h.tape,congrArg (.+1) h.drawn,h.output,h.size,h.GI,h.obj⟩
end
section
variable {p:bW} {fs:Array ep} {w0:ay}
def BS(p:bW)(fs:Array ep)(w0:ay){α β:Type}(A:α->β->Prop)(s:cz α)(s':cz β):Prop:=∀u w,iC w0 u w->(∃a b E w1,s.run (J p fs) u=aY a E/\s'.run p w=aY b w1/\A a b/\iC w0 E w1)\/∃m E,s.run (J p fs) u=dR m E/\soft m=Y
theorem BS.ret{f e}{A:f->e->Prop}{a}{b}(h:A a b):BS p fs w0 A (bI a)<|bI b:=λu w d=>ax ⟨a,b,u,w,rfl,rfl,h,d⟩
theorem BS.bind{x r i d}{A:x->r->Prop}{B:i->d->Prop}{s}{l}{k}{k'}(h:BS p fs w0 A s l)(o:∀a b,A a b->BS p fs w0 B (k a) (k' b)):BS p fs w0 B (s>>=k)<|l>>=k':=λu w n=>by
 rcases h u w n with⟨a,b,f,q,e,t,j,g⟩|⟨m,f,e,v⟩;.rw[gR,gR,e,t];exact o a b j f q g
 .rw[gR,e];exact aA ⟨m,f,rfl,v⟩
theorem BS.dead{e d}{A:e->d->Prop}{s}{c}(h:∀u,∃m b,s.run (J p fs) u=dR m b/\soft m=Y):BS p fs w0 A s c:=λu _ _=>aA<|h u
theorem BS.stuck{d c}{A:d->c->Prop}{x}{b}:BS p fs w0 A (stuck x) b:=.dead λu=>⟨_,u,rfl,rfl⟩
theorem BS.FH{j i}{A:j->i->Prop}{s}{d}(a)(b)(g:∀u,s.run (J p fs) u=aY a u)(f:∀w,d.run p w=aY b w)(h:A a b):BS p fs w0 A s d:=λu w e=>ax ⟨a,b,u,w,g u,f w,h,e⟩
theorem BS.load(a):BS p fs w0 BR (Go.load a)<|Go.load a:=λu w c=>by
 have d:∀(P)(z),(Go.load a).run P z=match z.cell? a with|some v=>aY v z|none=>match z.farLoad P a (lM==qx)with|.ok (v,_)=>aY v z|.error h=>dR h z:=λP z=>by simp only[Go.load,oA];rfl
 rw[d,d];cases i:u.cell? a with|some x=>obtain⟨j,f,g,_⟩:=c.cell i;rw[f];exact ax ⟨x,j,u,w,rfl,rfl,g.r,c⟩|none=>obtain⟨m,e,k⟩:=c.sC (J p fs) a<|lM==qx;rw[e];grind
theorem aCY{u:ay}{a}{x}(h:u.cell? a=U x):a.spot=Z:=by
 unfold pg at h;split at h
 .split at h;.grind
  .rename_i b;simpa using b
 grind
theorem BS.store(a:eT){x x':az}(j:BR x x'):BS p fs w0 (λ_ _=>True) (EE a x)<|EE a x':=λu w i=>by
 have f:x≠bO #[]->(∀y,x≠bJ y)->(∀y,x≠bO y)->(∀y,x'≠bJ y)->(∀y,x'≠bO y)->(∃E b g o,(EE a x).run (J p fs) u=aY E g/\(EE a x').run p w=aY b o/\True/\iC w0 g o)\/∃m g,(EE a x).run (J p fs) u=dR m g/\soft m=Y:=λv B D C A=>by
  have l:∀(P:bW)(z:ay)(y:az),(∀q,y≠bJ q)->(∀q,y≠bO q)->(EE a y).run P z=match z.cell? a with|some _=>if z.frozen? a then dR (.unsupported<|.unsafePointer "a write to bytes that a string shares") z else aY ()<|z.setCell a y|none=>match z.farStore P a y (lM==qx)with|.ok (w,_)=>aY () w|.error h=>dR h z:=λP z y K H=>by unfold EE;cases y<;>first|grind|grind|rfl
  rw[l _ _ _ B D,l _ _ _ C A];cases r:u.cell? a with|some y=>
   obtain⟨I,s,F,t⟩:=i.cell r;rw[s,t];simp only;split;.exact aA ⟨_,_,rfl,rfl⟩
   .exact ax ⟨(),(),_,_,rfl,rfl,trivial,i.set v j<|aCY r⟩|none=>obtain⟨m,e,G⟩:=i.aBu (J p fs) a x<|lM==qx;rw[e];grind
 cases j with|none _=>exact aA ⟨_,u,rfl,rfl⟩|byte c=>exact f (by simp) (by simp) (by simp) (by simp)<|by simp|int k n=>exact f (by simp) (by simp) (by simp) (by simp)<|by simp|bool b=>exact f (by simp) (by simp) (by simp) (by simp)<|by simp
end
def xM(t:ey):Bool:=t==3||t==5||t==120||t==123||t==169||t==308||t==334
def zo(t:ey):Bool:=t==3||t==5||t==9||t==334
structure rB(p:bW):Prop where
 agg:∀t,zo t=Y->∀w,(isAgg t).run p w=aY ai w
 LH:∀t,zo t=Y->∀w,(sizeOf t).run p w=aY 1 w
 z3:∀w,(lu 3).run p w=aY (V aC 0) w
 amA:∀w,(lu 334).run p w=aY (V cO 0) w
 Ww:p.underlying 79=U (.slice 5)Wx:p.underlying 51=U (.slice 9)str:p.underlying 9=U .string
 int:∀t,xM t=Y->∃k,p.underlying t=U (.int k)
structure uc where
 T:fq->Bool
 K:fq->Tmp->Nat
 gen:fq->Bool
 ps:fq->List Nat
 rk:fq->Nat
def iM:Bool->ey->ey|true,t=>if t=5 then 9 else if t=79 then 51 else t|false,t=>t
def age(g:Bool):Op->Op|.load t a=>.load (iM g t) a|.store t a x=>.store (iM g t) a x|.indexAddr t x i=>.indexAddr (iM g t) x i|.binOp op t x y yt=>.binOp op (iM g t) x y<|iM g yt|.call c=>.call {c with argTypes:=c.argTypes.map<|iM g}|o=>o
def j4(g:Bool)(o:dJ):dJ:={o with op:=age g o.op,type:=iM g o.type}
def xC(g:Bool):Code->Code|ec id ops d=>ec id (ops.map<|j4 g) d|eI a b=>eI (xC g a)<|xC g b|.cond c a b=>.cond c (xC g a)<|xC g b|.block id b=>.block id<|xC g b|.loop b=>.loop<|xC g b|c=>c
section
variable (D:uc) (f:FuncId)
def gi:iT->Nat|cx t=>D.K f t|gJ v=>if ri v then 0 else 3|_=>3
def mI(d:Option Tmp)(k:Nat):Bool:=match d with|none=>Y|some t=>Du k<|D.K f t
def aIg:iT->Bool|gJ<|V _ _=>Y|_=>ai
def akS:BinOp->Bool|.eql=>Y|.neq=>Y|.lss=>Y|.leq=>Y|.gtr=>Y|.geq=>Y|_=>ai
def alf(op:BinOp)(x y:iT):Bool:=match op with|.add=>cg (gi D f x<=1)&&cg (gi D f y<=1)&&(gi D f x==0||gi D f y==0)|_=>cg (gi D f x<=1)&&cg (gi D f y<=1)
def UD:List iT->List Nat->Bool|[],[]=>Y|x::xs,k::ks=>Du (gi D f x) k&&UD xs ks|_,_=>ai
def tA(d:Option Tmp):Op->Bool|.move x=>mI D f d<|gi D f x|pn x=>mI D f d<|gi D f x|.pick c a b=>cg (gi D f c<=1)&&(mI D f d (gi D f a)&&cg (gi D f a<3))&&(mI D f d (gi D f b)&&cg (gi D f b<3))|.alloc t=>(t==3||t==334)&&mI D f d 2|.load t a=>zo t&&t !=9&&gi D f a==2&&mI D f d 1|.store t a x=>zo t&&t !=9&&gi D f a==2&&cg (gi D f x<=1)|.nilCheck x=>gi D f x==2&&mI D f d 2|.binOp op t x y _=>xM t&&alf D f op x y&&mI D f d 0|.unOp .not _ x=>cg (gi D f x<=1)&&mI D f d 0|.convert s t x=>xM s&&xM t&&cg (gi D f x<=1)&&mI D f d 0|.index t (gJ<|aD _) i=>t==9&&cg (gi D f i<=1)&&mI D f d 0|.indexAddr t x i=>t==79&&D.gen f&&gi D f x==2&&cg (gi D f i<=1)&&mI D f d 2|.extract x _=>gi D f x==2&&mI D f d 0|.call {callee:=.value<|.func g,args,..}=>D.T g&&UD D f args.toList (D.ps g)&&mI D f d (D.rk g)|.call {callee:=.builtin .len,args,argTypes}=>D.gen f&&argTypes==#[79]&&(match args.toList with|[x]=>gi D f x==2|_=>ai)&&mI D f d 0|_=>ai
end
def Hf:List az->List az->List Nat->Prop|[],[],[]=>True|x::xs,y::ys,k::ks=>BK k x y/\Hf xs ys ks|_,_,_=>False
def BN(D:uc)(f:fq)(d:Option Tmp):Next->Next->Prop|gp a,gp b=>∀t,d=U t->BK (D.K f t) a b|.skip,.skip=>True|jL g al,jL g' bl=>g=g'/\D.T g=Y/\Hf al.toList bl.toList (D.ps g)/\mI D f d (D.rk g)=Y|_,_=>False
section
variable {p:bW} {fs:Array ep} {w0:ay} {D:uc} {f:fq} {d:Option Tmp}
theorem ajQ{k}{a b}(e:mI D f d k=Y)(h:BK k a b):BN D f d (gp a)<|gp b:=by rintro t rfl;exact h.le e
theorem BS.val{s g}{k}(i:mI D f d k=Y)(h:BS p fs w0 (BK k) s g):BS p fs w0 (BN D f d) (do bI<|gp<|<-s) (do bI<|gp<|<-g):=BS.bind h λa b e=>BS.ret<|ajQ i e
theorem BS.aD2{x x'}(h:BR x x'):BS p fs w0 Eq (asBool x)<|asBool x':=by cases h with|bool b=>exact BS.ret rfl|none _=>exact BS.stuck|byte c=>exact BS.stuck|int k n=>exact BS.stuck
theorem panics{c}(P)(u):∃m b,(Cg .nilDeref:cz c).run P u=dR m b/\soft m=Y:=⟨_,u,rfl,rfl⟩
theorem afg{c}(P)(u)(s):∃m b,(Cg<|.error s:cz c).run P u=dR m b/\soft m=Y:=⟨_,u,rfl,rfl⟩
theorem aCT(P)(u)(q):∃n c,(choose q).run P u=aY n c:=by
 by_cases b:q.forced=Y;.exact⟨0,u,by simp[b]⟩
 .exact⟨_,{u with drawn:=u.drawn+1},by simp[b];rfl⟩
theorem WZ{g}(P)(u)(k)(x y)(c):∃m b,(tW k x y c:cz g).run P u=dR m b/\soft m=Y:=by
 unfold tW;split;.obtain⟨n,b,e⟩:=aCT P u<|.extern "runtime.boundsError.signed" 2;rw[Yz,gR,gR,e];exact⟨_,b,rfl,rfl⟩
 .exact⟨_,u,rfl,rfl⟩
def KL(op:BinOp)(t:ey)(x y:iT)(a b:az):cz az:=do eqGuard op t x y a b;fZ op t a b
theorem aAN{g}{t}{x y}{a b}(h:∀c,a≠bJ c)(i:a≠nH)(P)(u):(eqGuard g t x y a b).run P u=aY () u:=by cases a<;>first|grind|(cases g<;>rfl)
theorem KJ{g}{t}{x y}{a b}(h:∀c,a≠bJ c)(i:a≠nH)(P)(u):(KL g t x y a b).run P u=(fZ g t a b).run P u:=by unfold KL;rw[gR,aAN h i];rfl
theorem ahr(g:BinOp)(t:ey)(k k')(a b):(∃v,ri v=Y/\∀P u,(fZ g t (V k a)<|V k' b).run P u=aY v u)\/∀P u,∃m i,(fZ g t (V k a)<|V k' b).run P u=dR m i/\soft m=Y:=by
 have l:∀g,(∃v,ri v=Y/\∀P u,(Op.shift g k a k' b).run P u=aY v u)\/∀P u,∃m i,(Op.shift g k a k' b).run P u=dR m i/\soft m=Y:=λg=>by
  unfold Op.shift;split;.exact aA λP u=>afg P u _
  .cases g<;>first|exact ax ⟨_,rfl,λ_ _=>rfl⟩|exact aA λP u=>⟨_,u,rfl,rfl⟩
 have h:∀g,g=.quo\/g=.rem->(∃v,ri v=Y/\∀P u,(Op.intDiv g k a b).run P u=aY v u)\/∀P u,∃m i,(Op.intDiv g k a b).run P u=dR m i/\soft m=Y:=λg o=>by
  unfold Op.intDiv;split;.exact aA λP u=>afg P u _
  .rcases o with rfl|rfl<;>exact ax ⟨_,rfl,λ_ _=>rfl⟩
 have j:∀g,(fZ g t (V k a) (V k' b)=if k≠k' then stuck "BinOp: operands of different kinds"else match g with|.add|.sub|.mul=>Op.intArith g k a b|.quo|.rem=>Op.intDiv g k a b|.and|.or|.xor|.andNot=>Op.intBits g k a b|_=>Op.intCmp g a b)\/fZ g t (V k a) (V k' b)=Op.shift g k a k' b:=λg=>by cases g<;>first|exact ax rfl|exact aA rfl
 rcases j g with e|e
 .rw[e];by_cases n:k=k';.subst n;rw[if_neg<|by simp];cases g<;>first|exact h _<|ax rfl|exact h _<|aA rfl|exact ax ⟨_,rfl,λ_ _=>rfl⟩|exact aA λP u=>⟨_,u,rfl,rfl⟩
  .rw[dy n];exact aA λP u=>⟨_,u,rfl,rfl⟩
 .rw[e];exact l g
theorem Ez(P:bW){l:BinOp}{t:ey}(i:P.underlying t=U .string\/∃k,P.underlying t=U (.int k)){a b:az}(h:a=bO #[]/\((∃k n,b=V k n)\/(∃c,b=bQ c)\/(∃c,b=aD c)\/b=bO #[])\/b=bO #[]/\((∃k n,a=V k n)\/(∃c,a=bQ c)\/∃c,a=aD c)\/(∃c,a=bQ c)/\((∃k n,b=V k n)\/(∃c,b=bQ c)\/∃c,b=aD c)\/(∃c,b=bQ c)/\((∃k n,a=V k n)\/∃c,a=aD c)\/((∃k n,a=V k n)/\∃c,b=aD c)\/(∃k n,b=V k n)/\∃c,a=aD c)(u:ay):∃m,(fZ l t a b).run P u=dR m u/\soft m=Y:=by
  have j:∃m,(Op.equal t a b).run P u=dR m u/\soft m=Y:=by have s:Op.equal t a b=sF (9999+1) t a b:=rfl;rw[s];unfold sF;rcases i with i|⟨k,i⟩<;>(rw[gR,run_underlying i];rcases h with⟨rfl,⟨k,n,rfl⟩|⟨c,rfl⟩|⟨c,rfl⟩|rfl⟩|⟨rfl,⟨k,n,rfl⟩|⟨c,rfl⟩|⟨c,rfl⟩⟩|⟨⟨c,rfl⟩,⟨k,n,rfl⟩|⟨g,rfl⟩|⟨g,rfl⟩⟩|⟨⟨c,rfl⟩,⟨k,n,rfl⟩|⟨g,rfl⟩⟩|⟨⟨k,n,rfl⟩,⟨c,rfl⟩⟩|⟨⟨k,n,rfl⟩,⟨c,rfl⟩⟩<;>exact⟨_,rfl,rfl⟩)
  obtain⟨m,q,o⟩:=j;have r:(do bI<|bQ<|←Op.equal t a b:cz az).run P u=dR m u:=by rw[gR,q];rfl
  have v:(do bI<|bQ !(←Op.equal t a b):cz az).run P u=dR m u:=by rw[gR,q];rfl
  rcases h with⟨rfl,⟨k,n,rfl⟩|⟨c,rfl⟩|⟨c,rfl⟩|rfl⟩|⟨rfl,⟨k,n,rfl⟩|⟨c,rfl⟩|⟨c,rfl⟩⟩|⟨⟨c,rfl⟩,⟨k,n,rfl⟩|⟨g,rfl⟩|⟨g,rfl⟩⟩|⟨⟨c,rfl⟩,⟨k,n,rfl⟩|⟨g,rfl⟩⟩|⟨⟨k,n,rfl⟩,⟨c,rfl⟩⟩|⟨⟨k,n,rfl⟩,⟨c,rfl⟩⟩<;>cases l<;>first|exact⟨m,r,o⟩|exact⟨m,v,o⟩|exact⟨_,rfl,rfl⟩
theorem auA(c):(⟨#[c]⟩:ByteArray).toList=[c]:=awH _
theorem aDl(b:BinOp)(t l:ey)(c d:UInt8)(q:b≠.add):(∃v,ri v=Y/\(∀P u,(fZ b t (aD ⟨#[c]⟩)<|aD ⟨#[d]⟩).run P u=aY v u)/\∀P u,(fZ b l (V aq (c.toNat:Int))<|V aq (d.toNat:Int)).run P u=aY v u)\/∀P u,∃m,(fZ b t (aD ⟨#[c]⟩)<|aD ⟨#[d]⟩).run P u=dR m u/\soft m=Y:=by
 have k:∀b,fZ b t (aD ⟨#[c]⟩) (aD ⟨#[d]⟩)=OG b ⟨#[c]⟩ ⟨#[d]⟩:=λb=>by cases b<;>rfl
 have i:∀b,akS b=Y->fZ b l (V aq (c.toNat:Int)) (V aq (d.toNat:Int))=Op.intCmp b (c.toNat:Int) (d.toNat:Int):=λb h=>by cases b<;>first|exact absurd h<|by decide|rfl
 rw[k];have n:c<d↔(c.toNat:Int)<(d.toNat:Int):=by grind[UInt8.lt_iff_toNat_lt]
 have o:c=d↔(c.toNat:Int)=(d.toNat:Int):=by grind[UInt8.toNat_inj]
 have e:Ch [c] [d]=cg ((c.toNat:Int)<(d.toNat:Int)):=by simp only[Ch,Bool.and_false,Bool.or_false];grind
 have g:([c]==[d])=cg ((c.toNat:Int)=(d.toNat:Int)):=by grind
 by_cases j:akS b=Y
 .rw[i b j];unfold OG;simp only[auA,e,g];cases b<;>first|cases j|skip
  .exact ax ⟨_,rfl,λ_ _=>rfl,λ_ _=>by simp[Op.intCmp,BEq.beq]⟩
  .exact ax ⟨_,rfl,λ_ _=>rfl,λ_ _=>by simp[Op.intCmp,bne,BEq.beq]⟩
  .exact ax ⟨_,rfl,λ_ _=>rfl,λ_ _=>rfl⟩
  .refine ax ⟨_,rfl,λ_ _=>rfl,λ_ _=>?_⟩;have:(cg ((c.toNat:Int)<d.toNat)||decide ((c.toNat:Int)=d.toNat))=cg ((c.toNat:Int)<=d.toNat):=by grind
   rw[this];rfl
  .refine ax ⟨_,rfl,λ_ _=>rfl,λ_ _=>?_⟩;have:(!(cg ((c.toNat:Int)<d.toNat)||decide ((c.toNat:Int)=d.toNat)))=cg ((c.toNat:Int)>d.toNat):=by grind
   rw[this];rfl
  .refine ax ⟨_,rfl,λ_ _=>rfl,λ_ _=>?_⟩;have:(! cg ((c.toNat:Int)<d.toNat))=cg ((c.toNat:Int)≥d.toNat):=by grind
   rw[this];rfl
 .cases b<;>first|exact absurd rfl j|grind|exact aA λP u=>⟨_,rfl,rfl⟩
end
variable{p:bW}{fs:Array ep}{w0:ay}{D:uc}{f:fq}{d:Option Tmp}{x x' y y':az}
theorem VI(t):iM Y t=if t=5 then 9 else if t=79 then 51 else t:=rfl
theorem apB{t}(g)(b:xM t=Y):xM (iM g t)=Y\/iM g t=9:=by
 cases g;.exact ax b
 .rw[VI];by_cases e:t=5;.grind
  .by_cases c:t=79;.subst c;cases b
   grind
theorem VJ{t}(g)(b:zo t=Y):zo (iM g t)=Y:=by
 cases g;.exact b
 .rw[VI];by_cases e:t=5;.rw[dy e];rfl
  .by_cases c:t=79;.subst c;cases b
   grind
theorem anf(H:rB p)(g){t}(b:xM t=Y):(J p fs).underlying (iM g t)=U .string\/∃k,(J p fs).underlying (iM g t)=U (.int k):=by
 rcases apB g b with h|h;.exact aA<|H.int _ h
 .rw[h];exact ax H.str
theorem BR.cells(h:BR x x'):(∃c,x=bQ c/\x'=x)\/(∃k n,x=V k n/\x'=x)\/(∃c,x=aD ⟨#[c]⟩/\x'=V aq c.toNat)\/x=bO #[]:=by cases h with|none _=>grind|byte c=>grind|int k n=>grind|bool b=>grind
theorem BS.bin(H:rB p)(g:Bool){l:BinOp}{t:ey}{a b:iT}(Q:xM t=Y)(K:BR x x')(C:BR y y')(F:l=.add->ri x=Y\/ri y=Y):BS p fs w0 (BK 0) (KL l (iM g t) a b x y)<|KL l t a b x' y':=by
 have A:=anf (fs:=fs) H g Q;have O:∀{z R:az},BR z R->(∀c,z≠bJ c)/\z≠nH:=λh=>by rcases h.cells with⟨c,rfl,_⟩|⟨k,n,rfl,_⟩|⟨c,rfl,_⟩|rfl<;>exact⟨by simp,by simp⟩
 obtain⟨I,G⟩:=O K;have j:(∀u,∃m,(fZ l (iM g t) x y).run (J p fs) u=dR m u/\soft m=Y)->BS p fs w0 (BK 0) (KL l (iM g t) a b x y) (KL l t a b x' y'):=λh=>.dead λu=>by obtain⟨m,e,N⟩:=h u;grind[KJ]
 rcases K.cells with⟨c,rfl,rfl⟩|⟨k,n,rfl,rfl⟩|⟨c,rfl,rfl⟩|rfl;.rcases C.cells with⟨s,rfl,rfl⟩|⟨q,o,rfl,rfl⟩|⟨s,rfl,rfl⟩|rfl<;>refine j λu=>Ez _ A (by simp) u
 .rcases C.cells with⟨s,rfl,rfl⟩|⟨q,o,rfl,rfl⟩|⟨s,rfl,rfl⟩|rfl;.refine j λu=>Ez _ A (by simp) u
  .have T:fZ l (iM g t) (V k n) (V q o)=fZ l t (V k n) (V q o)\/True:=aA trivial;rcases ahr l (iM g t) k q n o with⟨v,E,B⟩|B
   .rcases ahr l t k q n o with⟨L,P,r⟩|r
    .have:v=L:=by
      have e:(fZ l (iM g t) (V k n)<|V q o).run p default=(fZ l t (V k n)<|V q o).run p default:=by cases l<;>rfl
      grind
     subst this;exact BS.FH v v (λu=>(KJ I G _ _).trans<|B _ _) (λw=>(KJ I G _ _).trans<|r _ _) ⟨rfl,E⟩
    .exfalso;obtain⟨m,M,e,_⟩:=r p default;have S:(fZ l (iM g t) (V k n)<|V q o).run p default=(fZ l t (V k n)<|V q o).run p default:=by cases l<;>rfl
     grind
   .exact .dead λu=>by obtain⟨m,M,e,N⟩:=B (J p fs) u;grind[KJ]
  .refine j λu=>Ez _ A (by simp) u
  .refine j λu=>Ez _ A (by simp) u
 .rcases C.cells with⟨s,rfl,rfl⟩|⟨q,o,rfl,rfl⟩|⟨s,rfl,rfl⟩|rfl;.refine j λu=>Ez _ A (by simp) u
  .refine j λu=>Ez _ A (by simp) u
  .by_cases X:l=.add;.exfalso;rcases F X with h|h<;>cases h
   .rcases aDl l (iM g t) t c s X with⟨v,E,B,r⟩|B;.exact BS.FH v v (λu=>(KJ I G _ _).trans<|B _ _) (λw=>(KJ (by simp) (by simp) _ _).trans<|r _ _) ⟨rfl,E⟩
    .exact j λu=>B _ u
  .refine j λu=>Ez _ A (by simp) u
 .rcases C.cells with⟨s,rfl,rfl⟩|⟨q,o,rfl,rfl⟩|⟨s,rfl,rfl⟩|rfl<;>refine j λu=>Ez _ A (by simp) u
theorem BS.av8(H:rB p)(g){t}(c:zo t=Y)(a):BS p fs w0 BR (loadVar (iM g t) a)<|loadVar t a:=by refine BS.bind (BS.FH ai ai (λu=>(akv _ u).trans<|H.agg _ (VJ g c) u) (λw=>H.agg _ c w) (A:=λx y=>x=ai/\y=ai) ⟨rfl,rfl⟩) ?_;grind[BS.load]
theorem BS.sz(H:rB p)(g){t}(b:zo t=Y):BS p fs w0 (λx y=>x=1/\y=1) (sizeOf<|iM g t)<|sizeOf t:=BS.FH 1 1 (λu=>(Ub _ u).trans<|H.LH _ (VJ g b) u) (λw=>H.LH _ b w) ⟨rfl,rfl⟩
theorem BS.aqg(H:rB p)(g){t}(e:zo t=Y)(a)(i:BR x x'):BS p fs w0 (λ_ _=>True) (storeVar (iM g t) a x)<|storeVar t a x':=by
 have m:∀{z:az},(∀c,z≠bJ c)->z.cells=#[z]:=λ{z}h=>by cases z<;>first|exact absurd rfl<|h _|rfl
 by_cases l:x=bO #[];.subst l;refine .dead λu=>⟨.stuck "store: not the value of one cell",u,?_,rfl⟩;unfold storeVar;rw[gR,(Ub _ u).trans<|H.LH _ (VJ g e) u];rfl
 .have j:x.cells=#[x]/\x'.cells=#[x']:=by
   rcases i.cells with⟨c,rfl,rfl⟩|⟨k,n,rfl,rfl⟩|⟨c,rfl,rfl⟩|rfl;.grind
   .grind
   .grind
   grind
  refine BS.bind (BS.sz H g e) ?_;rintro _ _⟨rfl,rfl⟩;rw[j.1,j.2];exact BS.bind (BS.store _ i) λ_ _ _=>BS.ret trivial
theorem Oj(h:Ew x=Y):(∃a,x=aG a)\/(∃a l c,x=aE a l c)\/∃e,x=bO e/\e.all ri=Y:=by
 cases x<;>first|cases h|skip
 .grind
 .grind
 .exact aA<|aA ⟨_,rfl,h⟩
theorem BS.sure(h:Ew x=Y):BS p fs w0 (λa b=>a=b) (EK x)<|EK x:=by
 rcases Oj h with⟨a,rfl⟩|⟨a,l,c,rfl⟩|⟨g,rfl,_⟩
 .cases a;.exact BS.stuck
  .exact BS.ret rfl
 .exact BS.stuck
 .exact BS.stuck
theorem BS.intOf(h:BR x x'):BS p fs w0 (λa b=>a=b) (asIntOf x)<|asIntOf x':=by
 rcases h.cells with⟨c,rfl,rfl⟩|⟨k,n,rfl,rfl⟩|⟨c,rfl,rfl⟩|rfl;.exact BS.stuck
 .exact BS.ret rfl
 .exact BS.stuck
 .exact BS.stuck
theorem BS.under{t g}{u e}(h:p.underlying t=U u)(i:p.underlying g=U e):BS p fs w0 (λa b=>a=u/\b=e) (pq t)<|pq g:=BS.FH u e (λz=>run_underlying (P:=J p fs) h z) (λz=>run_underlying i z) ⟨rfl,rfl⟩
theorem BS.axw(H:rB p)(m:Ew x=Y)(l:BR y y'):BS p fs w0 (BK 2) (xZ 51 x y)<|xZ 79 x y':=by
 refine BS.bind (BS.intOf l) ?_;rintro⟨k,i⟩_ rfl;refine BS.bind (BS.under H.Wx H.Ww) ?_;rintro _ _⟨rfl,rfl⟩;rcases Oj m with⟨a,rfl⟩|⟨g,h,c,rfl⟩|⟨n,rfl,_⟩;.exact BS.stuck
 .refine BS.bind (A:=λa b=>a=(g,h,9)/\b=(g,h,5)) (BS.ret ⟨rfl,rfl⟩) ?_;rintro _ _⟨rfl,rfl⟩;refine BS.bind (BS.under H.Wx H.Ww) ?_;rintro _ _⟨rfl,rfl⟩;cases g with|none=>exact .dead λu=>WZ _ u _ _ _ _|some a=>
   dsimp only;by_cases j:0<=i/\i<h;.rw[dy j,dy j];refine BS.bind (BS.FH 1 1 (λu=>(Ub _ u).trans<|H.LH 9 rfl u) (λw=>H.LH 5 rfl w) (A:=λx y=>x=1/\y=1) ⟨rfl,rfl⟩) ?_;rintro _ _⟨rfl,rfl⟩;exact BS.ret ⟨rfl,rfl⟩
   .rw[if_neg j,if_neg j,Bool.and_false,if_neg<|by simp];exact .dead λu=>WZ _ u _ _ _ _
 .exact BS.stuck
theorem BS.aEb(H:rB p){t}(e:t=3\/t=334):BS p fs w0 (BK 2) (Instr.alloc t Y<|bO #[])<|Instr.alloc t Y<|bO #[]:=by
 have b:∃k,(∀P:bW,P.types=p.types->True)/\∀w,(lu t).run p w=aY (V k 0) w:=by
  rcases e with rfl|rfl;.exact⟨aC,λ_ _=>trivial,H.z3⟩
  .exact⟨cO,λ_ _=>trivial,H.amA⟩
 obtain⟨k,_,b⟩:=b;refine BS.bind (BS.FH (V k 0) (V k 0) (λu=>(aks _ u).trans<|b u) b (A:=λx y=>x=V k 0/\y=V k 0) ⟨rfl,rfl⟩) ?_;rintro _ _⟨rfl,rfl⟩;intro u w c;refine ax ⟨aG<|U ⟨u.heap.size,0,Z⟩,aG<|U ⟨w.heap.size,0,Z⟩,_,_,rfl,rfl,⟨by rw[c.size],rfl⟩,c.push (by simp)<|.int _ _⟩
theorem BS.conv(H:rB p){s t}(hs:xM s=Y)(g:xM t=Y)(h:BR x x'):BS p fs w0 (BK 0) (convert s t x)<|convert s t x':=by
 obtain⟨k,e⟩:=H.int s hs;obtain⟨i,b⟩:=H.int t g;refine BS.bind (BS.under e e) ?_;rintro _ _⟨rfl,rfl⟩;refine BS.bind (BS.under b b) ?_;rintro _ _⟨rfl,rfl⟩;rcases h.cells with⟨c,rfl,rfl⟩|⟨k,n,rfl,rfl⟩|⟨c,rfl,rfl⟩|rfl;.exact .dead λu=>⟨_,u,rfl,rfl⟩
 .exact BS.ret ⟨rfl,rfl⟩
 .exact .dead λu=>⟨_,u,rfl,rfl⟩
 .exact .dead λu=>⟨_,u,rfl,rfl⟩
theorem BS.axv(H:rB p)(s)(b:BR y y'):BS p fs w0 (BK 0) (OH 9 (aD s) y)<|OH 9 (aD s) y':=by
 refine BS.bind (BS.intOf b) ?_;rintro⟨k,i⟩_ rfl;refine BS.bind (BS.under H.str H.str) ?_;rintro _ _⟨rfl,rfl⟩;dsimp only;split;.exact BS.ret ⟨rfl,rfl⟩
 .exact .dead λu=>WZ _ u _ _ _ _
theorem BS.not'(t:ey)(b:BR x x'):BS p fs w0 (BK 0) (Op.unary .not x)<|Op.unary .not x':=by
 rcases b.cells with⟨c,rfl,rfl⟩|⟨k,n,rfl,rfl⟩|⟨c,rfl,rfl⟩|rfl;.exact BS.ret ⟨rfl,rfl⟩
 .exact BS.stuck
 .exact BS.stuck
 .exact BS.stuck
theorem BS.ext(i)(e:Ew x=Y):BS p fs w0 (BK 0) (GX x i)<|GX x i:=by
 rcases Oj e with⟨a,rfl⟩|⟨a,l,c,rfl⟩|⟨j,rfl,g⟩;.exact BS.stuck
 .exact BS.stuck
 .unfold GX;dsimp only;cases h:j[i]? with|none=>exact BS.stuck|some v=>exact BS.ret ⟨rfl,(kZ.1 g) v<|uG h⟩
theorem BS.awc(H:rB p)(t g)(e:Ew x=Y):BS p fs w0 (BK 0) (zk #[51] t #[x])<|zk #[79] g #[x]:=by
 refine BS.bind (BS.under H.Wx H.Ww) ?_;rintro _ _⟨rfl,rfl⟩;rcases Oj e with⟨a,rfl⟩|⟨a,l,c,rfl⟩|⟨i,rfl,h⟩;.exact BS.stuck
 .exact BS.ret ⟨rfl,rfl⟩
 grind[BS.stuck]
structure Evs(D:uc)(f:fq)(ev ev':iT->az):Prop where
 rd:∀x,gi D f x<3->BK (gi D f x) (ev x) (ev' x)const:∀v,ev (gJ v)=v/\ev' (gJ v)=v
 func:∀g,ev (.func g)=dM (ez g) #[] #[]/\ev' (.func g)=dM (ez g) #[] #[]
theorem alA{g b}(E:Evs D f g b):∀{xs}{e},UD D f xs e=Y->Hf (xs.map g) (xs.map b) e
 |[],[],_=>trivial|x::xs,k::e,h=>by
  simp only[UD,cV]at h;have i:gi D f x<3:=by have:=h.1;simp only[Du,og]at this;grind
  exact⟨(E.rd x i).le h.1,alA E h.2⟩|[],_::_,h=>by cases h|_::_,[],h=>by cases h
theorem BS.op(H:rB p)(hC:∀g,D.T g=Y->(∀M u,(iA g M).run (J p fs) u=aY (jL g M) u)/\∀M w,(iA g M).run p w=aY (jL g M) w){C n:iT->az}(E:Evs D f C n){o:dJ}(m:tA D f o.dst o.op=Y):BS p fs w0 (BN D f o.dst) (cX C<|j4 (D.gen f) o)<|cX n o:=by
 obtain⟨A,op,G,F,r,guard⟩:=o;simp only at m;have O:∀{x},gi D f x=2->C x=n x/\Ew (n x)=Y:=λ{x}h=>by have:=E.rd x (by omega);rw[h]at this;exact this
 have N:∀{x},gi D f x<=1->BR (C x) (n x):=λ{x}h=>(E.rd x<|by omega).data h;have Q1:∀{k},mI D f A k=Y->A=Z\/k<3:=λ{k}h=>by unfold mI at h;cases A with|none=>grind|some t=>right;simp only[Du,lF,cV,og,fO]at h;grind
 have mv:∀{x},mI D f A (gi D f x)=Y->BS p fs w0 (BN D f A) (bI<|gp<|C x) (bI<|gp<|n x):=λ{x}h=>BS.ret (by
  rcases Q1 h with h0|h0;.intro t Q;grind
  .exact ajQ h<|E.rd x h0);cases op<;>first|exact absurd m qh|skip
 case move x=>exact mv m
 case assign x=>exact mv m
 case pick c a b=>simp only[tA,cV,fO,og,lF,yJ,ne_eq]at m;refine BS.bind (BS.aD2<|N m.1.1) ?_;grind
 case alloc t=>simp only[tA,cV,fO,og,lF,yJ,ne_eq]at m;exact BS.val m.2<|BS.aEb H m.1
 case load t a=>simp only[tA,cV,fO,og,lF,yJ,ne_eq]at m;obtain⟨e,I⟩:=O m.1.2;refine BS.val m.2 ?_;show BS p fs w0 (BK 1) (EL (iM (D.gen f) t)<|C a)<|EL t<|n a;rw[e];unfold EL;refine BS.bind (BS.sure I) ?_;rintro z _ rfl;exact BS.av8 H _ m.1.1.1 z
 case store t a x=>simp only[tA,cV,fO,og,lF,yJ,ne_eq]at m;obtain⟨e,I⟩:=O m.1.2;show BS p fs w0 (BN D f A) (do Uf (iM (D.gen f) t) (C a)<|C x;bI .skip) (do Uf t (n a)<|n x;bI .skip);rw[e];refine BS.bind (A:=λ_ _=>True) ?_ λ_ _ _=>BS.ret trivial;unfold Uf;refine BS.bind (BS.sure I) ?_;grind[BS.aqg]
 case nilCheck x=>
  simp only[tA,cV,fO,og,lF,yJ,ne_eq]at m;obtain⟨e,I⟩:=O m.1;unfold cX j4 age;dsimp only;rw[e];rcases Oj I with⟨a,h⟩|⟨a,l,c,h⟩|⟨vs,h,hv⟩;.rw[h];cases a with|none=>exact .dead λu=>panics _ u|some a=>grind
  .grind
  grind
 case binOp op t x y yt=>
  simp only[tA,cV,fO,og,lF,yJ,ne_eq]at m;have L:=m.1.2;have hk:gi D f x<=1/\gi D f y<=1/\(op=.add->gi D f x=0\/gi D f y=0):=by
   unfold alf at L;split at L;.simp only[cV,fO,lF,og]at L;exact⟨L.1.1,L.1.2,λ_=>L.2⟩
   .rename_i S;simp only[cV,fO]at L;exact⟨L.1,L.2,λe=>absurd e S⟩
  refine BS.val m.2<|BS.bin (x:=C x) (y:=C y) (a:=x) (b:=y) H (D.gen f) m.1.1 (N hk.1) (N hk.2.1) λe=>?_;rcases hk.2.2 e with h|h;.have:=E.rd x (by omega);rw[h]at this;left;rw[this.1];exact this.2
  .have:=E.rd y (by omega);rw[h]at this;right;rw[this.1];exact this.2
 case unOp op t x=>
  cases op<;>first|exact absurd m qh|skip
  simp only[tA,cV,fO,og,lF,yJ,ne_eq]at m;exact BS.val m.2<|BS.not' t<|N m.1
 case convert s t x=>simp only[tA,cV,fO,og,lF,yJ,ne_eq]at m;exact BS.val m.2<|BS.conv H m.1.1.1 m.1.1.2<|N m.1.2
 case indexAddr t x i=>simp only[tA,cV,fO,og,lF,yJ,ne_eq]at m;obtain⟨e,I⟩:=O m.1.1.2;have Q:=m.1.1.1.1;subst Q;have T:=m.1.1.1.2;rw[T];refine BS.val m.2 ?_;show BS p fs w0 (BK 2) (xZ 51 (C x)<|C i)<|xZ 79 (n x)<|n i;rw[e];exact BS.axw H I<|N m.1.2
 case index t x i=>cases x with|const v=>
   cases v<;>first|exact absurd m qh|skip
   simp only[tA,cV,fO,og,lF,yJ,ne_eq]at m;rename_i s;have Q:=m.1.1;subst Q;refine BS.val m.2 ?_;show BS p fs w0 (BK 0) (OH 9 (C<|gJ<|aD s)<|C i)<|OH 9 (n<|gJ<|aD s)<|n i;rw[(E.const _).1,(E.const _).2];exact BS.axv H s<|N m.1.2|_=>exact absurd m qh
 case extract x i=>simp only[tA,cV,fO,og,lF,yJ,ne_eq]at m;obtain⟨e,I⟩:=O m.1;refine BS.val m.2 ?_;show BS p fs w0 (BK 0) (GX (C x) i)<|GX (n x) i;rw[e];exact BS.ext i I
 case call c=>obtain⟨K,q,B⟩:=c;cases K with
  |invoke _ _=>exact absurd m qh
  |value g=>cases g with|func g=>
    simp only[tA,cV]at m;have Q2:∀(P:bW)(e:iT->az)(B:Array ey)(u:ay),(∀g,e (.func g)=dM (ez g) #[] #[])->(∀M u,(iA g M).run P u=aY (jL g M) u)->(cX e {dst:=A,op:=.call {callee:=.value<|.func g,args:=q,argTypes:=B},type:=G,pos:=F,after:=r,guard:=guard}).run P u=aY (jL g<|q.map e) u:=λP e B u R h2=>by simp only[cX,resolve,R,OM];rw[gR];show(invoke (.fn (ez g) #[])<|#[]++q.map e).run P u=_;simp only[invoke,Mw,RM];exact h2 _ _
    have R:=hC g m.1.1;intro u w hw;have W:=Q2 (J p fs) C (B.map<|iM<|D.gen f) u (λg=>(E.func g).1) R.1;have j:=Q2 p n B w (λg=>(E.func g).2) R.2;refine ax ⟨jL g<|q.map C,jL g<|q.map n,u,w,?_,j,⟨rfl,m.1.1,?_,m.2⟩,hw⟩;.have:cX C (j4 (D.gen f) {dst:=A,op:=.call {callee:=.value<|.func g,args:=q,argTypes:=B},type:=G,pos:=F,after:=r,guard:=guard})=cX C {dst:=A,op:=.call {callee:=.value<|.func g,args:=q,argTypes:=B.map<|iM<|D.gen f},type:=G,pos:=F,after:=r,guard:=guard}:=rfl;rw[this];exact W
    .simp only[yK];exact alA E m.1.2|_=>exact absurd m qh
  |builtin b=>
   cases b<;>first|exact absurd m qh|skip
   simp only[tA,cV,og]at m;obtain⟨⟨⟨T,ha⟩,Q0⟩,hf⟩:=m;subst ha;rw[T];obtain⟨q⟩:=q;match q,Q0 with
   |[x],Q0=>
    have X:gi D f x=2:=by simpa using Q0
    obtain⟨e,I⟩:=O X;have h:=BS.val (f:=f) hf<|BS.awc (fs:=fs) (w0:=w0) H (iM Y G) G I;have hm:∀e:iT->az,(⟨[x]⟩:Array iT).map e=#[e x]:=λe=>by simp
    have hl:∀(e:iT->az)(B:Array ey)(G:ey),cX e {dst:=A,op:=.call {callee:=.builtin .len,args:=⟨[x]⟩,argTypes:=B},type:=G,pos:=F,after:=r,guard:=guard}=(do bI<|gp<|<-zk B G #[e x]):=λe B G=>by rw[<-hm e];rfl
    have W:cX C (j4 Y {dst:=A,op:=.call {callee:=.builtin .len,args:=⟨[x]⟩,argTypes:=#[79]},type:=G,pos:=F,after:=r,guard:=guard})=(do bI<|gp<|<-zk #[51] (iM Y G) #[C x]):=by
     have h51:(#[79]:Array ey).map (iM Y)=#[51]:=by simp[VI]
     show cX C {dst:=A,op:=.call {callee:=.builtin .len,args:=⟨[x]⟩,argTypes:=(#[79]:Array ey).map<|iM Y},type:=iM Y G,pos:=F,after:=r,guard:=guard}=_;rw[h51,hl]
    have j:=hl n #[79] G;rw[W,j,e];exact h
def TO(D:uc)(f:fq)(ops:Array dJ):Option (Nat×Bool)->Bool|none=>Y|some (j,_)=>match ops[j]?.bind (·.dst)with|some d=>D.K f d==0|none=>Y
def Rm(D:uc)(f:fq)(ops:Array dJ):Bool:=ops.all λo=>tA D f o.dst o.op&&TO D f ops o.guard
def xA(D:uc)(f:fq):Code->Bool|.skip=>Y|.ret=>Y|.exit _=>Y|ec _ ops _=>Rm D f ops|eI a b=>xA D f a&&xA D f b|.cond c a b=>cg (gi D f c<=1)&&(xA D f a&&xA D f b)|.block _ b=>xA D f b|.loop b=>xA D f b|_=>ai
def rO(g:Bool):eY->eY|bF c=>bF<|xC g c|.inLoop c=>.inLoop<|xC g c|aT ops l=>aT (ops.map<|j4 g) l|i=>i
def xz(D:uc)(f:fq):eY->Bool|bF c=>xA D f c|mh _=>Y|.inLoop c=>xA D f c|aT ops _=>Rm D f ops|_=>ai
structure yh(D:uc)(p:bW)(fs:Array ep):Prop where
 fn:∀g,D.T g=Y->∃fn o b,fs[g]?=U fn/\p.funcs[g]?=U o/\o.body=U b/\fn.body=U (xC (D.gen g) b)/\fn.ntmps=o.ntmps/\xA D g b=Y/\fn.results=o.results/\((∃t,o.results=#[.tmp t]/\D.rk g=D.K g t)\/D.rk g=2/\o.results.size≠1/\∀r∈o.results,∃t,r=.tmp t/\D.K g t=0)/\(∀i k,(D.ps g)[i]?=U k->Du k (D.K g i)=Y)call:∀g,D.T g=Y->(∀al u,(iA g al).run (J p fs) u=aY (jL g al) u)/\∀al w,(iA g al).run p w=aY (jL g al) w
 k3:∀f i,D.K f i<3
structure jB(D:uc)(fr fr':aZ):Prop where
 fn:fr.fn=fr'.fn
 here:D.T fr'.fn=Y
 size:fr.tmps.size=fr'.tmps.size
 tmps:∀i x x',fr.tmps[i]?=U x->fr'.tmps[i]?=U x'->BK (D.K fr'.fn i) x x'
 todo:fr.todo=fr'.todo.map (rO<|D.gen fr'.fn)items:∀i∈fr'.todo,xz D fr'.fn i=Y
 defers:fr.defers=[]/\fr'.defers=[]mode:fr.mode=fr'.mode/\(fr'.mode=.run\/fr'.mode=fH)kind:fr.kind=eC/\fr'.kind=eC
 round:fr.roundOf=Z/\fr'.roundOf=Z
inductive yg(D:uc):fq->List aZ->List aZ->Prop|nil{g}:yg D g [] []|cons{g c c' cs cs' ops i rest k}(h:jB D c c')(hm:c'.mode=.run)(ht:c'.todo=aT ops (i::rest)::k)(hd:mI D c'.fn (ops[i]?.bind (·.dst)) (D.rk g)=Y)(t:yg D c'.fn cs cs'):yg D g (c::cs)<|c'::cs'
def aA9(N:Nat):H:={T:=λ_=>ai,F:=λb=>cg<|N<=b,gx:=λ_=>ai,cut:=λ_ _=>ai}
def uj(D:uc)(p:bW)(fs:Array ep)(w0:ay)(B':List aZ)(A r':GStep):Prop:=(∃fr cs u fr' cs' w,A.bare=bU (r fr<|cs++[wall<|J p fs]) u/\r'.bare=bU (r fr'<|cs'++B') w/\jB D fr fr'/\yg D fr'.fn cs cs'/\iC w0 u w)\/(∃o u,A.bare=fx o u)\/(∃g u N,A.bare=bU g u/\ud (aA9 N) (J p fs) g u)\/∃v u,A.bare=bU (r ((wall<|J p fs).finish v) []) u
section
variable {D:uc} {p:bW} {fs:Array ep} {w0 u w:ay} {B':List aZ} {fr fr':aZ} {cs cs':List aZ}
theorem jB.getD(F:yh D p fs)(h:jB D fr fr')(t):BK (D.K fr'.fn t) (fr.tmps.getD t ak)<|fr'.tmps.getD t ak:=by rw[iE,iE];cases c:fr.tmps[t]? with|none=>have:fr'.tmps[t]?=Z:=yH (by rw[<-h.size];grind);rw[this];exact BK.undef<|F.k3 _ _|some x=>have b:=(cU.1 c).1;rw[h.size]at b;rw[iy b];exact h.tmps t _ _ c<|iy b
theorem jB.evs(F:yh D p fs)(h:jB D fr fr'):Evs D fr'.fn fr.eval fr'.eval:=by refine⟨λx b=>?_,λv=>⟨rfl,rfl⟩,λg=>⟨rfl,rfl⟩⟩;cases x with
 |tmp t=>exact h.getD F t|const v=>
  have e:gi D fr'.fn (gJ v)=if ri v=Y then 0 else 3:=rfl;rw[e]at b⊢;by_cases c:ri v=Y;·rw[dy c];exact⟨rfl,c⟩
  grind|global g=>exact absurd b<|by simp[gi]|func g=>exact absurd b<|by simp[gi]
theorem jB.to(h:jB D fr fr'){l}(b:∀i∈l,xz D fr'.fn i=Y):jB D {fr with todo:=l.map<|rO<|D.gen fr'.fn} {fr' with todo:=l}:=⟨h.fn,h.here,h.size,h.tmps,rfl,b,h.defers,h.mode,h.kind,h.round⟩
theorem jB.finish(h:jB D fr fr'){ops}{i}{rest}{k}(I:fr'.todo=aT ops (i::rest)::k){x x'}(Q:∀t,ops[i]?.bind (·.dst)=U t->BK (D.K fr'.fn t) x x'):jB D (fr.finish x)<|fr'.finish x':=by
 obtain⟨n,f,F,e,m,o,O⟩:=fr;obtain⟨T,c,z,b,l,g,s⟩:=fr';obtain⟨L,C,N,J,G,E,B,A,v,q⟩:=h;simp only at I L C N J G E B A v q Q;subst I L G;have M:∀j∈aT ops rest::k,xz D n j=Y:=λj H=>by
  rcases dj.1 H with rfl|H;·exact E (aT ops<|i::rest)<|vP ..
  grind
 have r:(ops.map<|j4<|D.gen n)[i]?.bind (·.dst)=ops[i]?.bind (·.dst):=by rw[qM];cases ops[i]?<;>rfl
 have P:tV ⟨n,f,(aT ops (i::rest)::k).map<|rO<|D.gen n,e,m,o,O⟩ x=⟨n,(match ops[i]?.bind (·.dst)with|some d=>f.setIfInBounds d x|none=>f),(aT ops rest::k).map<|rO<|D.gen n,e,m,o,O⟩:=by rw[<-r];rfl
 have R:tV ⟨n,c,aT ops (i::rest)::k,b,l,g,s⟩ x'=⟨n,(match ops[i]?.bind (·.dst)with|some d=>c.setIfInBounds d x'|none=>c),aT ops rest::k,b,l,g,s⟩:=rfl;rw[P,R];cases X:ops[i]?.bind (·.dst)with|none=>exact⟨rfl,C,N,J,rfl,M,B,A,v,q⟩|some d=>refine⟨rfl,C,by grind,λj y W K S=>?_,rfl,M,B,A,v,q⟩;grind
theorem alB:∀{xs d}{e},Hf xs d e->xs.length=d.length/\∀(i:Nat)(x y),xs[i]?=U x->d[i]?=U y->∃k,e[i]?=U k/\BK k x y
 |[],[],[],_=>⟨rfl,λi x y h _=>by grind⟩|x::xs,y::d,k::e,h=>by obtain⟨l,j⟩:=alB h.2;refine⟨by grind,λi a b f g=>?_⟩;cases i with|zero=>simp at f g;subst f g;exact⟨k,rfl,h.1⟩|succ i=>grind
 |[],_::_,_,h=>by cases h|[],[],_::_,h=>by grind|_::_,[],_,h=>by cases h|_::_,_::_,[],h=>by cases h
theorem jB.Ay(F:yh D p fs){g}(l:D.T g=Y){f h}(y:Hf f.toList h.toList<|D.ps g):jB D (eW (J p fs) g f eC)<|eW p g h eC:=by
 obtain⟨r,E,b,n,t,v,A,I,q,K,H,d⟩:=F.fn g l;obtain⟨L,o⟩:=alB y;have e:(J p fs).funcs[g]?=U r:=n;unfold eW;rw[e,t];simp only[eG,yI,v,A];refine⟨rfl,l,by grind,λi x m s c=>?_,rfl,λi j=>by rw[mA.1 j];exact q,⟨rfl,rfl⟩,⟨rfl,ax rfl⟩,⟨rfl,rfl⟩,⟨rfl,rfl⟩⟩;simp only[Array.getElem?_append]at s c;by_cases j:i<f.size;.obtain⟨k,C,z⟩:=o i x m (by grind) (by grind);exact z.le<|d i k C
 .have B:x=ak:=by grind
  have G:m=ak:=by grind
  rw[B,G];exact BK.undef<|F.k3 _ _
theorem uj.lost{A i}{fr:aZ}{cs}{vs}(j:fr.defers=[])(n:∀c∈cs,c.defers=[])(e:A.bare=bU (r (fr.raise vs)<|cs++[wall<|J p fs]) u):uj D p fs w0 B' A i:=by
 obtain⟨c,k⟩:=raise_mode fr vs;refine aA<|aA<|ax ⟨_,u,u.heap.size,e,ax ⟨_,cs,c,u,rfl,k,by rw[LZ,j];exactλd h=>by grind,λx m=>λd h=>by grind,⟨λb o f g=>?_,λb f=>?_⟩,jo.refl u⟩⟩;.have l:=(cU.1 f).1;have q:=of_decide_eq_true g;omega
 .exact MH f
theorem yg.defers:∀{g}{cs cs'},yg D g cs cs'->∀c∈cs,c.defers=[]
 |_,_,_,.nil=>by simp|_,_,_,.cons h _ _ _ t=>λc a=>by
  rcases dj.1 a with rfl|a;.exact h.defers.1
  .exact t.defers c a
theorem jB.FM(h:jB D fr fr'):∀d x y z k,fr.todo≠.call d x y z::k:=λd x y z k e=>by rw[h.todo]at e;cases b:fr'.todo with|nil=>grind|cons i l=>have:=h.items i (by grind);rw[b,gd]at e;cases i<;>first|(cases(List.cons.inj e).1;done)|(cases this)
theorem jB.Mh(h:jB D fr fr'):∀d x y z k,fr'.todo≠.call d x y z::k:=λd x y z k e=>by have:=h.items (.call d x y z) (by grind);cases this
theorem aDD(F:yh D p fs)(h:jB D fr fr')(t:yg D fr'.fn cs cs')(r:iC w0 u w){ops:Array dJ}{i:Nat}{rest:List Nat}{k:List eY}(n:fr'.todo=aT ops (i::rest)::k)(A:fr'.mode=.run){s q:cz Next}(hs:BS p fs w0 (BN D fr'.fn (ops[i]?.bind (·.dst))) s q):uj D p fs w0 B' (wN (J p fs) Y fr (cs++[wall<|J p fs]) Z s u)<|wN p Y fr' (cs'++B') Z q w:=by
 have H:=h.FM;have G:=h.Mh;unfold wN;simp only[iW,Yy];rcases hs u w r with⟨a,b,j,o,l,x,e,f⟩|⟨m,j,l,d⟩
 ·rw[l,x];cases a<;>cases b<;>first|exact e.elim|skip
  ·exact ax ⟨_,cs,j,_,cs',o,by rw[Bx];rfl,by rw[Bx];rfl,h.finish n e,by rw[show(fr'.finish _).fn=fr'.fn from by unfold tV;grind];grind,f⟩
  ·exact ax ⟨_,cs,j,_,cs',o,by rw[Bx];rfl,by rw[Bx];rfl,h.finish n λt _=>BK.undef<|F.k3 _ _,by rw[show(fr'.finish ak).fn=fr'.fn from by unfold tV;grind];grind,f⟩
  ·rename_i g E I v;obtain⟨rfl,C,y,B⟩:=e;refine ax ⟨eW (J p fs) g E eC,fr::cs,j,eW p g v eC,fr'::cs',o,?_,?_,jB.Ay F C y,.cons h A n B t,f⟩
   ·rw[Bx];dsimp only;split;·grind
    ·rfl
   ·rw[Bx];dsimp only;split;·grind
    ·rfl
 ·rw[l];cases m<;>first|exact absurd d qh|skip
  ·exact uj.lost h.defers.1 t.defers<|by rw[Bx];rfl
  ·rename_i z;cases z<;>first|exact absurd d qh|exact aA<|ax ⟨_,_,by rw[Bx];rfl⟩
  ·exact aA<|ax ⟨_,_,by rw[Bx];rfl⟩
end
variable{u w:ay}{B':List aZ}{fr fr':aZ}{cs cs':List aZ}
theorem abt(g)(id):∀k,exitTo id (k.map<|rO g)=(exitTo id k).map λl=>l.map<|rO g
 |[]=>rfl|i::k=>by
  cases i<;>simp only[gd,rO,exitTo]<;>first|exact abt g id k|skip
  split;.rfl
  .exact abt g id k
theorem agq(g)(m)(ops):∀(n t)(b)(c),x5 m (ops.map<|j4 g) n t b c=x5 m ops n t b c
 |0,_,_,_=>rfl|n+1,t,b,c=>by
  have e:∀i:Nat,((ops.map<|j4 g)[i]?.map λo=>o.after.all λe=>! OI m e||b.getD e.on ai)=ops[i]?.map λo=>o.after.all λe=>! OI m e||b.getD e.on ai:=λi=>by rw[qM];cases ops[i]?<;>rfl
  unfold x5;simp only[Dy,e,agq g m ops n]
theorem asE(g)(ops)(t)(b):mK b (ops.map<|j4 g) t=mK b ops t:=by
 have c:akC (ops.map<|j4 g)=akC ops:=by unfold akC;rw[Array.any_map];rfl
 unfold mK Region.linearise;grind[Array.size_map,agq]
theorem aDC(x)(h:iC w0 u w):∃n c d,(choose x).run (J p fs) u=aY n c/\(choose x).run p w=aY n d/\iC w0 c d:=by
 by_cases b:x.forced=Y;.exact⟨0,u,w,by simp[b],by simp[b],h⟩
 .exact⟨x.cut<|w.tape w.drawn x,_,_,by simp[b,h.tape,h.drawn];rfl,by simp[b];rfl,by first|exact h.draw|simpa[h.drawn,h.tape]using h.draw⟩
theorem aDA(F:yh D p fs)(H:rB p)(h:jB D fr fr')(t:yg D fr'.fn cs cs')(j:iC w0 u w)(m:fr'.mode=.run){ops}{i}{rest}{k}(b:fr'.todo=aT ops (i::rest)::k):uj D p fs w0 B' (EI (J p fs) Y fr (cs++[wall<|J p fs]) Z u)<|EI p Y fr' (cs'++B') Z w:=by
 have f:fr.todo=aT (ops.map<|j4<|D.gen fr'.fn) (i::rest)::k.map (rO<|D.gen fr'.fn):=by rw[h.todo,b];rfl
 have g:fr.oper?=ops[i]?.map (j4<|D.gen fr'.fn):=by unfold OB;grind
 have e:fr'.oper?=ops[i]?:=by unfold OB;grind
 unfold EI;rw[g,e,h.round.1,h.round.2];cases d:ops[i]? with|none=>exact aA<|ax ⟨_,_,rfl⟩|some o=>have c:=h.items _ (by rw[b];exact vP ..);simp only[xz,Rm,kZ,cV]at c;have l:=BS.op (fs:=fs) (w0:=w0) H F.call (h.evs F) (c o<|uG d).1;grind[aDD]
theorem aDx(h:jB D fr fr'){ops}{o}(m:TO D fr'.fn ops o.guard=Y):eX (j4 (D.gen fr'.fn) o) (eu (ops.map<|j4<|D.gen fr'.fn) fr.tmps)=eX o (eu ops fr'.tmps):=by show eX o (eu (ops.map<|j4<|D.gen fr'.fn) fr.tmps)=_;unfold eX;cases k:o.guard with|none=>rfl|some l=>
  obtain⟨j,g⟩:=l;have r:eu (ops.map<|j4<|D.gen fr'.fn) fr.tmps j=eu ops fr'.tmps j:=by simp only[TO]at m;unfold eu;rw[qM];cases q:ops[j]? with|none=>rfl|some e=>show(match e.dst.bind (fr.tmps[.]?)with|some<|bQ b=>U b|_=>Z)=(match e.dst.bind (fr'.tmps[.]?)with|some<|bQ b=>U b|_=>Z);cases s:e.dst with|none=>rfl|some d=>
     have n:D.K fr'.fn d=0:=by grind
     have:fr.tmps[d]?=fr'.tmps[d]?:=by cases f:fr.tmps[d]? with|none=>exact(yH<|by rw[<-h.size];grind).symm|some x=>have c:=(cU.1 f).1;rw[h.size]at c;have i:=h.tmps d _ _ f<|iy c;rw[n]at i;rw[iy c,i.1]
     grind
  grind
theorem aDB(F:yh D p fs)(H:rB p)(h:jB D fr fr')(t:yg D fr'.fn cs cs')(Q2:iC w0 u w)(hm:fr'.mode=.run):uj D p fs w0 B' (wM (J p fs) Y Y fr (cs++[wall<|J p fs]) Z u)<|wM p Y Y fr' (cs'++B') Z w:=by have iX:=λ(ops:Array dJ)(i:Nat)(O:List Nat)(k:List eY)(ht:fr'.todo=aT ops (i::O)::k)=>aDA (B':=B') F H h t Q2 hm ht;have BV:=λ(ops:Array dJ)(i:Nat)(O:List Nat)(k:List eY)(ht:fr'.todo=aT ops (i::O)::k)=>h.finish (x:=ak) (x':=ak) ht λt _=>BK.undef<|F.k3 _ _;have aGA:=λ(ops:Array dJ)(QX:dJ)(hg:TO D fr'.fn ops QX.guard=Y)=>aDx h hg;have uX:=(h.evs F).rd;have hto:=λ(l:List eY)(Q1:∀i∈l,xz D fr'.fn i=Y)=>h.to Q1;have G:=h.items;have P:=h.todo;have oZ:=h.round;have W:=h.fn;have X:jB D {fr with mode:=fH} {fr' with mode:=fH}:=⟨h.fn,h.here,h.size,h.tmps,h.todo,h.items,h.defers,⟨rfl,aA rfl⟩,h.kind,h.round⟩;obtain⟨m,v,todo,q,E,B,ro⟩:=fr;obtain⟨o,f,Q3,g,C,A,ro'⟩:=fr';simp only at P oZ W hm G t;obtain⟨rfl,rfl⟩:=oZ;subst W P;have s:∀l:List eY,(∀i∈l,xz D m i=Y)->∀QW Q,QW=bU (r (⟨m,v,l.map<|rO<|D.gen m,q,E,B,Z⟩:aZ)<|cs++[wall<|J p fs]) u->Q=bU (r (⟨m,f,l,g,C,A,Z⟩:aZ)<|cs'++B') w->uj D p fs w0 B' QW Q:=λl Q1 QW Q e e'=>ax ⟨_,cs,u,_,cs',w,by rw[e];rfl,by rw[e'];rfl,hto l Q1,t,Q2⟩;have N:∀QW Q,QW=bU (r (⟨m,v,Q3.map<|rO<|D.gen m,q,fH,B,Z⟩:aZ)<|cs++[wall<|J p fs]) u->Q=bU (r (⟨m,f,Q3,g,fH,A,Z⟩:aZ)<|cs'++B') w->uj D p fs w0 B' QW Q:=λQW Q e e'=>ax ⟨_,cs,u,_,cs',w,by rw[e];rfl,by rw[e'];rfl,X,t,Q2⟩;unfold wM;cases Q3 with|nil=>exact N _ _ rfl rfl|cons i k=>
  have I:=G i<|vP ..;have K:∀j∈k,xz D m j=Y:=λj hj=>G j<|vO _ hj;cases i<;>first|exact absurd I qh|skip
  case inBlock id=>exact s k K _ _ rfl rfl
  case inLoop c=>exact s (bF c::.inLoop c::k) (ig.2 ⟨I,ig.2 ⟨I,K⟩⟩) _ _ rfl rfl
  case inRegion ops l=>cases l with|nil=>exact s k K _ _ rfl rfl|cons i l=>
    have h1:=iX ops i l k rfl;have h2:=BV ops i l k rfl;have hyd:(((ops.map<|j4<|D.gen m)[i]?.map (eX .<|eu (ops.map<|j4<|D.gen m) v)).getD ai)=((ops[i]?.map (eX .<|eu ops f)).getD ai):=by rw[qM];cases ho:ops[i]? with|none=>rfl|some QX=>simp only[xz,Rm,kZ,cV]at I;grind
    by_cases b:((ops[i]?.map (eX .<|eu ops f)).getD ai)=Y;.have S:=hyd.trans b;show uj _ _ _ _ _ (if((ops.map<|j4<|D.gen m)[i]?.map (eX .<|eu (ops.map<|j4<|D.gen m) v)).getD ai=Y then _ else _) (if(ops[i]?.map (eX .<|eu ops f)).getD ai=Y then _ else _);grind
    .have S:¬_=Y:=λe=>b<|hyd.symm.trans e;show uj _ _ _ _ _ (if((ops.map<|j4<|D.gen m)[i]?.map (eX .<|eu (ops.map<|j4<|D.gen m) v)).getD ai=Y then _ else _) (if(ops[i]?.map (eX .<|eu ops f)).getD ai=Y then _ else _);rw[if_neg S,if_neg b];exact ax ⟨_,cs,u,_,cs',w,rfl,rfl,h2,t,Q2⟩
  case code c=>
   cases c<;>first|exact absurd I qh|skip
   case ret=>exact N _ _ rfl rfl
   case skip=>exact s k K _ _ rfl rfl
   case seq a c=>simp only[xz,xA,cV]at I;exact s (bF a::bF c::k) (ig.2 ⟨I.1,ig.2 ⟨I.2,K⟩⟩) _ _ rfl rfl
   case block id c=>exact s (bF c::mh id::k) (ig.2 ⟨I,ig.2 ⟨rfl,K⟩⟩) _ _ rfl rfl
   case loop c=>exact s (bF c::.inLoop c::k) (ig.2 ⟨I,ig.2 ⟨I,K⟩⟩) _ _ rfl rfl
   case cond x a c=>
    simp only[xz,xA,cV,fO]at I;have hb:=(uX x<|show gi D m x<3 by omega).data I.1;have L:∀(y y':az)(QX T:Outcome),BR y y'->uj D p fs w0 B' (match y with|bQ z=>bU (r ⟨m,v,bF (if z then xC (D.gen m) a else xC (D.gen m) c)::k.map (rO<|D.gen m),q,E,B,Z⟩<|cs++[wall<|J p fs]) u|_=>fx QX u) (match y' with|bQ z=>bU (r ⟨m,f,bF (if z then a else c)::k,g,C,A,Z⟩<|cs'++B') w|_=>fx T w):=by intro y y' QX T hy;cases hy with|none _=>exact aA<|ax ⟨_,_,rfl⟩|byte c=>exact aA<|ax ⟨_,_,rfl⟩|int _ _=>exact aA<|ax ⟨_,_,rfl⟩|bool z=>cases z with|true=>exact s (bF a::k) (ig.2 ⟨I.2.1,K⟩) _ _ rfl rfl|false=>exact s (bF c::k) (ig.2 ⟨I.2.2,K⟩) _ _ rfl rfl
    exact L _ _ _ _ hb
   case exit id=>
    have L:∀(QX T:Option<|List eY)(Q0 M:Outcome),QX=T.map (λl=>l.map<|rO<|D.gen m)->(∀l,T=U l->∀i∈l,xz D m i=Y)->uj D p fs w0 B' (QX.elim (fx Q0 u) λl=>bU (r ⟨m,v,l,q,E,B,Z⟩<|cs++[wall<|J p fs]) u) (T.elim (fx M w) λl=>bU (r ⟨m,f,l,g,C,A,Z⟩<|cs'++B') w):=by rintro _ T Q0 M rfl ho;cases T with|none=>exact aA<|ax ⟨_,_,rfl⟩|some l=>exact s l (ho l rfl) _ _ rfl rfl
    exact L (exitTo id<|k.map<|rO<|D.gen m) (exitTo id k) _ _ (abt _ id k) λl Q1 i I=>K i<|Oh id k l Q1 i I
   case region id ops d=>have R:xz D m (aT ops [])=Y:=I;cases d with|false=>refine s (aT ops (mJ ops.size)::k) (ig.2 ⟨R,K⟩) _ _ ?_ rfl;show bU (r ⟨m,v,aT (ops.map<|j4<|D.gen m) (mJ (ops.map<|j4<|D.gen m).size)::k.map (rO<|D.gen m),q,E,B,Z⟩ _) u=_;rw[Dy];rfl|true=>
     obtain⟨n,u1,w1,e1,e2,fg⟩:=aDC (p:=p) (fs:=fs) (.order m id) Q2;have L:∀(QW Q:Result Nat)(Q0 M:Outcome),QW=aY n u1->Q=aY n w1->uj D p fs w0 B' (match QW with|aY t u=>bU (r ⟨m,v,aT (ops.map<|j4<|D.gen m) (mK ((J p fs).follows nG) (ops.map<|j4<|D.gen m) t)::k.map (rO<|D.gen m),q,E,B,Z⟩<|cs++[wall<|J p fs]) u|dR _ u=>fx Q0 u) (match Q with|aY t w=>bU (r ⟨m,f,aT ops (mK (p.follows nG) ops t)::k,g,C,A,Z⟩<|cs'++B') w|dR _ w=>fx M w):=by rintro _ _ Q0 M rfl rfl;refine ax ⟨_,cs,u1,_,cs',w1,?_,rfl,hto (aT ops (mK (p.follows nG) ops n)::k)<|ig.2 ⟨R,K⟩,t,fg⟩;dsimp only;rw[asE];rfl
     exact L _ _ (kB "order"<|o9 (J p fs) ⟨m,v,(bF (ec id ops Y)::k).map<|rO<|D.gen m,q,E,B,Z⟩) (kB "order"<|o9 p ⟨m,f,bF (ec id ops Y)::k,g,C,A,Z⟩) e1 e2
def QV(ts:Array az):ResultVar->cz az|.tmp t=>bI<|ts.getD t ak|.cell a t=>do loadVar t<|<-asAddr<|ts.getD a ak
theorem aez(fn)(c):kA fn c=(do let b<-fn.results.mapM<|QV c;bI<|if h:b.size=1 then b[0]else bO b):=by congr 1
theorem alr(F:yh D p fs)(h:jB D fr fr'){fn:ep}(c:(∃t,fn.results=#[.tmp t]/\D.rk fr'.fn=D.K fr'.fn t)\/D.rk fr'.fn=2/\fn.results.size≠1/\∀r∈fn.results,∃t,r=.tmp t/\D.K fr'.fn t=0):∃v o,BK (D.rk fr'.fn) v o/\(∀P z,(kA fn fr.tmps).run P z=aY v z)/\∀P z,(kA fn fr'.tmps).run P z=aY o z:=by
 rcases c with⟨t,c,k⟩|⟨k,q,c⟩
 .have e:∀(P:bW)(d:Array az)(z:ay),(kA fn d).run P z=aY (d.getD t ak) z:=λP d z=>by rw[aez,c,Jb,Yz];rfl
  exact⟨_,_,k▸h.getD F t,λP z=>e P _ z,λP z=>e P _ z⟩
 have f:∀l:List ResultVar,(∀r∈l,∃t,r=.tmp t/\D.K fr'.fn t=0)->∃b:List az,b.length=l.length/\(∀v∈b,ri v=Y)/\(∀(P:bW)z,(l.mapM<|QV fr.tmps).run P z=aY b z)/\∀(P:bW)z,(l.mapM<|QV fr'.tmps).run P z=aY b z:=by intro l;induction l with|nil=>intro _;exact⟨[],rfl,by simp,λ_ _=>rfl,λ_ _=>rfl⟩|cons r l x=>
   intro f;obtain⟨t,rfl,s⟩:=f r<|vP ..;obtain⟨b,y,A,m,i⟩:=x λr c=>f r<|vO _ c;have g:=h.getD F t;rw[s]at g;refine⟨fr'.tmps.getD t ak::b,by grind,λv n=>?_,λP z=>?_,λP z=>?_⟩
   .rcases dj.1 n with rfl|n;.exact g.2
    grind
   .rw[Ja,gR,<-g.1];show(_>>=_:cz<|List az).run P z=_;rw[gR,m P z];rfl
   .rw[Ja,gR];show(_>>=_:cz<|List az).run P z=_;rw[gR,i P z];rfl
 obtain⟨b,y,A,m,i⟩:=f fn.results.toList λr j=>c r<|agT.1 j;have e:∀(P:bW)(d:Array az)(z:ay),(fn.results.toList.mapM<|QV d).run P z=aY b z->(kA fn d).run P z=aY (if h:b.toArray.size=1 then b.toArray[0]else bO b.toArray) z:=λP d z h=>by rw[aez,Jb,Yz,gR,gR,h];rfl
 refine⟨_,_,?_,λP z=>e P _ z<|m P z,λP z=>e P _ z<|i P z⟩;rw[k,FV<|by grind];refine⟨rfl,?_⟩;show b.toArray.all ri=Y;grind
theorem aDy(F:yh D p fs)(h:jB D fr fr')(t:yg D fr'.fn cs cs')(s:iC w0 u w)(I:fr'.mode=fH):uj D p fs w0 B' (unwind (J p fs) Y fr (cs++[wall<|J p fs]) Z u)<|unwind p Y fr' (cs'++B') Z w:=by
 obtain⟨o,m,b,y,E,M,O,N,L,Q,C,B⟩:=F.fn _ h.here;obtain⟨v,q,z,R,x⟩:=alr F h C;have j:(J p fs).funcs[fr.fn]?=U o:=by rw[h.fn];exact y
 have e:=R (J p fs) u;have n:kA o fr.tmps=kA m fr.tmps:=by unfold kA;grind
 rw[<-n]at e;unfold unwind;rw[h.defers.1,h.defers.2,h.mode.1,I];rw[j,E];dsimp only;rw[Yy,Yy,e,x p w];cases t with|nil=>exact aA<|aA<|aA ⟨v,u,by unfold oz;simp only[h.kind.1];rfl⟩|cons G K f g P=>
  rename_i c l cs cs' A i r k;refine ax ⟨c.finish v,cs,u,l.finish q,cs',w,?_,?_,G.finish f λd H=>?_,?_,s⟩;.unfold oz;simp only[h.kind.1];rfl
  .unfold oz;simp only[h.kind.2];rfl
  .rw[H]at g;exact BK.le z g
  .rw[show(l.finish q).fn=l.fn from by unfold tV;rw[f]];grind
theorem aDz(F:yh D p fs)(H:rB p)(h:jB D fr fr')(t:yg D fr'.fn cs cs')(c:iC w0 u w):uj D p fs w0 B' (cj (J p fs) Y (r fr<|cs++[wall<|J p fs]) u)<|cj p Y (r fr'<|cs'++B') w:=by
 unfold cj r;dsimp only;rw[h.mode.1];rcases h.mode.2 with b|b;.grind[aDB]
 grind[aDy]
theorem bare_go{r:GStep}{g}{u}(h:r.bare=bU g u):∃a,r=bU g u a:=by
 cases r<;>first|cases h
 grind
theorem agm{fr fr'}{cs cs'}{w w'}(h:iS fr cs w=iS fr' cs' w'):fr=fr'∧cs=cs'∧w=w':=by
 refine⟨?_,?_,congrArg Machine.world h⟩;·have:=congrArg (λm=>m.gs[0]?.map (·.frame)) h;simpa[iS]using this
 ·have:=congrArg (λm=>m.gs[0]?.map (·.callers)) h;simpa[iS]using this
theorem alq(F:yh D p fs)(H:rB p){f:aZ}{W:ay}{v:az}(B:f.leaving (J p fs) W<|bj v):∀(n:Nat)(fr fr':aZ)(cs cs':List aZ)(u w:ay),jB D fr fr'->yg D fr'.fn cs cs'->iC w0 u w->runN (J p fs) n (iS fr (cs++[wall<|J p fs]) u)=fW (iS f [wall<|J p fs] W)->∃m c,Steps p (iS fr' (cs'++B') w) (iS c B' m)/\jB D f c/\iC w0 W m
 |0,fr,fr',cs,cs',u,w,h,t,y,e=>by
  have b:iS fr (cs++[wall<|J p fs]) u=iS f [wall<|J p fs] W:=by simpa[runN]using e
  obtain⟨rfl,C,rfl⟩:=agm b;cases t with|nil=>grind[Steps.refl]|cons _ _ _ _ _=>simp at C
 |n+1,fr,fr',cs,cs',u,w,h,t,y,e=>by
  rcases aDz (B':=B') F H h t y with⟨j,k,i,c,z,m,b,l,G,E,x⟩|⟨o,i,b⟩|⟨g,i,N,b,d⟩|⟨q,i,b⟩;.obtain⟨r,b⟩:=bare_go b;obtain⟨I,l⟩:=bare_go l;rw[runN,Fx b]at e;obtain⟨O,K,L,M,Q⟩:=alq F H B n _ _ _ _ _ _ G E x e;grind[Steps.head,Fx]
  .have:step (J p fs) (iS fr (cs++[wall<|J p fs]) u)=.ended o i:=step_lone_ended b;rw[runN,this]at e;grind
  .exfalso;obtain⟨r,b⟩:=bare_go b;obtain⟨j,k,rfl⟩:=d.form;rw[runN,Fx b]at e;exact Yb B.1 n j k i d e
  .obtain⟨r,b⟩:=bare_go b;rw[runN,Fx b]at e;cases n with
   |zero=>
    have b:iS ((wall<|J p fs).finish q) [] i=iS f [wall<|J p fs] W:=by simpa[runN]using e
    grind[agm]|succ n=>obtain⟨o,m,r,l⟩:=Lq (P:=J p fs) q i;have A:runN (J p fs) (n+1) (iS ((wall<|J p fs).finish q) [] i)=fW (iS f [wall<|J p fs] W):=e;unfold runN at A;rw[Qm l]at A;grind
theorem als(F:yh D p fs)(H:rB p){g}(T:D.T g=Y){x o}(L:Hf x.toList o.toList<|D.ps g)(y:iC w0 u w){R:az->ay->Prop}(K:bz (J p fs) g x u λe f=>∃v,e=bj v/\R v f):bz p g o w λe S=>∃v h f,e=bj h/\R v f/\BK (D.rk g) v h/\iC w0 f S:=by
 intro B';obtain⟨e,f,fr,⟨v,rfl,M⟩,⟨n,Q⟩,k,s⟩:=K [wall<|J p fs];obtain⟨t,i,Q0,d,m⟩:=alq (B':=B') F H s n _ _ [] [] u w (jB.Ay F T L) .nil y Q;obtain⟨q,j,b,A,I,Z,e4,a,X,e7,G,C⟩:=F.fn _ d.here;obtain⟨r,h,B,r1,z⟩:=alr F d G;obtain⟨P,hd,hk,O,E,W⟩:=s;have c:=d.fn.symm.trans k;have V:kA q fr.tmps=kA j fr.tmps:=by unfold kA;grind
 have N:(J p fs).funcs[fr.fn]?=U q:=by rw[d.fn];exact A
 have l:r=v:=by grind
 subst l;exact⟨bj h,t,i,⟨r,h,f,rfl,M,c▸B,m⟩,Q0,c,d.mode.1.symm.trans P,d.defers.2,d.kind.2,j,I,z p t⟩
end
section
open Go Go.Proofs Go.Shelf
def VR:List Nat:=[197,208,212,225,226,231,232,233,234,235,236,237,238,239,245,246,254,255,256,257,262]
def aqm:Nat->Nat|212=>20551738933448695970004992|231=>74767067512832|232=>299067162755072|233=>4899916463298576384|234=>562949953421312|235=>35651584|236=>1446221477643791248969357883997226532864|237=>24867|238=>80280383332339534790656|239=>24845622612882832247533482416378094206659464790016|246=>4370612516|254=>4796154602673890394112|257=>25|262=>2236416|_=>0
def aqo:Nat->Nat|197=>1065|212=>5617483664380096270254521751908365893633|231=>468709937250305|232=>40154757423169537|233=>30706245946853818497|234=>20100446945793|235=>223690753|236=>9066177787099598164671015674677074853889|238=>503706889378935270451201|239=>155890296660192168261890238920840095753930246803457|246=>3815880921|254=>30882309152275437715457|255=>8325|256=>6871947281|262=>10048521|_=>0
def Qo:Nat->List Nat|197=>[2]|208=>[0]|212=>[2,0,0,0]|225=>[0]|226=>[0]|231=>[2,0,0]|232=>[2,0,0]|233=>[2,0,0]|234=>[2,0,0]|235=>[2,0,0]|236=>[2,0,0]|237=>[1,1]|238=>[2,0,0,0]|239=>[2,0,0,0]|245=>[0]|246=>[2]|254=>[2,0,0,0]|255=>[2,0,2]|256=>[2,0,0,0,2]|257=>[1]|262=>[2,0,0,2]|_=>[]
def Im(f t:Nat):Nat:=if(aqo f).testBit t then 2 else if(aqm f).testBit t then 1 else 0
def A7:uc:={T:=λf=>VR.contains f,K:=Im,gen:=λf=>!([208,225,226,245,246]:List Nat).contains f,ps:=Qo,rk:=λf=>if f=246 then 1 else if([208,225,226,236,237,238,245,246,255,256,257]:List Nat).contains f then 0 else 2}
def adh:Cc:=⟨λ|190=>197|125=>208|258=>212|128=>225|129=>226|302=>231|303=>232|304=>233|305=>234|306=>235|307=>236|308=>237|309=>238|310=>239|333=>254|329=>245|330=>246|334=>255|335=>256|336=>257|344=>262|n=>n,λ|31=>51|9=>9|3=>3|46=>169|0=>0|51=>123|53=>120|4=>4|183=>309|182=>308|131=>313|5=>5|218=>334|222=>337|228=>344|229=>39|n=>n,λ|n=>n⟩
noncomputable def Ob:Array ep:=[(197,Body.n190),(212,Body.n258),(231,Body.n302),(232,Body.n303),(233,Body.n304),(234,Body.n305),(235,Body.n306),(236,Body.n307),(237,Body.n308),(238,Body.n309),(239,Body.n310),(254,Body.n333),(255,Body.n334),(256,Body.n335),(257,Body.n336),(262,Body.n344)].foldl (λa p=>a.setIfInBounds p.1<|p.2 adh) iQ
noncomputable abbrev aqn:bW:=J Q Ob
theorem adi:Go.Proofs.Lays.n190 aqn adh:=by constructor<;>intros<;>kernel_rfl
def akZ(f:Nat)(fn:ep):Bool:=(match fn.results.toList with|[.tmp t]=>A7.rk f==Im f t|l=>A7.rk f==2&&! l.length==1&&l.all λr=>match r with|.tmp t=>Im f t==0|_=>ai)&&((mJ (Qo f).length).all λi=>match(Qo f)[i]? with|some k=>Du k<|Im f i|none=>Y)&&match fn.body with|some b=>xA A7 f b|none=>ai
theorem aqp(f i:Nat):Im f i<3:=by
 unfold Im;split;.omega
 .split<;>omega
def XA(fn:ep):Bool:=!(fn.name== "runtime.NumGoroutine"||fn.body.isNone)
theorem aqq{f:Nat}(h:A7.T f=Y):Ob[f]?.map (λfn=>(fn.body,fn.ntmps,fn.results))=Q.funcs[f]?.map (λfn=>(fn.body.map<|xC<|A7.gen f,fn.ntmps,fn.results))/\Q.funcs[f]?.any (λfn=>akZ f fn&&XA fn)=Y/\Ob[f]?.any XA=Y:=by
 have:f∈VR:=by simpa[A7]using h
 simp only[VR,dj,dP,dY]at this;rcases this with rfl|rfl|rfl|rfl|rfl|rfl|rfl|rfl|rfl|rfl|rfl|rfl|rfl|rfl|rfl|rfl|rfl|rfl|rfl|rfl|rfl<;>refine⟨?_,?_,?_⟩<;>kernel_rfl
theorem adj:yh A7 Q Ob:=by
 refine⟨λf hf=>?_,λf hf=>?_,aqp⟩;all_goals
  obtain⟨h1,h2,h3⟩:=aqq hf;rcases ha:Ob[f]? with _|fn;.rw[ha]at h3;cases h3
  rcases hb:Q.funcs[f]? with _|o;.rw[hb]at h2;cases h2
  rw[ha,hb]at h1;rw[ha]at h3;simp only[hb,Option.any_some,cV,XA,agS]at h2 h3;simp only[eG,ew,Jq]at h1
 .obtain⟨h4,A,J⟩:=h1;obtain⟨c,-⟩:=h2;unfold akZ at c;simp only[cV]at c;obtain⟨⟨c1,c3⟩,c4⟩:=c;cases hb:o.body with|none=>rw[hb]at c4;cases c4|some b=>
  rw[hb]at c4 h4;refine⟨fn,o,b,rfl,rfl,hb,h4,A,c4,J,?_,λi k E=>?_⟩
  .split at c1;.rename_i t ht;exact ax ⟨t,by rw[<-Array.toArray_toList (xs:=o.results),ht],of_decide_eq_true c1⟩
   .simp only[cV,og,agS,Jd]at c1;refine aA ⟨c1.1.1,by simpa using c1.1.2,λr hr=>?_⟩;have:=RY.1 c1.2 r<|agT.2 hr;cases r with|tmp t=>exact⟨t,rfl,of_decide_eq_true this⟩|cell _ _=>cases this
  .have:=RY.1 c3 i<|List.mem_range.2 (List.getElem?_eq_some_iff.1 E).1;have B:(Qo f)[i]?=U k:=E;rw[B]at this;exact this
 .exact⟨λal u=>Ow (ajy (q:=Q) ha) h3 al u,λal w=>Ow (q:=aF) (fs:=iQ) hb h2.2 al w⟩
end
section
open Go Go.Proofs Go.Shelf Go.RowKit Go.Sort
theorem adg:rB Q:=by
 have a:∀{t},zo t=Y->t=3\/t=5\/t=9\/t=334:=λ{t}h=>by simp only[zo,lF,og]at h;grind
 have b:∀{t},xM t=Y->t=3\/t=5\/t=120\/t=123\/t=169\/t=308\/t=334:=λ{t}h=>by simp only[xM,lF,og]at h;grind
 refine⟨λt h=>?_,λt h=>?_,P8,ank,uv,Ia,sZ,λt h=>?_⟩
 .rcases a h with rfl|rfl|rfl|rfl;.exact anR
  .exact anP
  .exact anO
  .exact anQ
 .rcases a h with rfl|rfl|rfl|rfl;.exact anF
  .exact acs
  .exact anD
  .exact anE
 .rcases b h with rfl|rfl|rfl|rfl|rfl|rfl|rfl;.exact⟨_,Lt⟩
  .exact⟨_,zL⟩
  .exact⟨_,anv⟩
  .exact⟨_,anu⟩
  .exact⟨_,ant⟩
  .exact⟨_,anp⟩
  .exact⟨_,ano⟩
def xy:az->az|V aq n=>if 0<=n/\n<256 then aD ⟨#[ru n.toNat]⟩else bO #[]|_=>bO #[]
def Rb:Obj->Obj|aH c e f=>aH (c.map xy) e f|_=>x6 Z
def uC(w:ay):ay:={w with heap:=w.heap.map Rb}
theorem at4(n):xy (V aq n)=if 0<=n/\n<256 then aD ⟨#[ru n.toNat]⟩else bO #[]:=rfl
theorem at5(b):xy (V aq b.toNat)=aD ⟨#[b]⟩:=by have h:=UInt8.toNat_lt b;rw[at4,dy ⟨by omega,by omega⟩];simp
theorem afa(v):xy v=bO #[]\/∃b,v=V aq b.toNat/\xy v=aD ⟨#[b]⟩:=by unfold xy;grind[UInt8.toNat_ofNat',Nat.mod_eq_of_lt]
theorem at6(v):BC (U v) (xy v) v:=by
 rcases afa v with h|⟨b,rfl,h⟩;.exact ax ⟨h,rfl⟩
 .rw[h];exact aA ⟨by simp,.byte b⟩
theorem aEO{v x'}(h:BC (U v) (xy v) x'):x'=v:=by
 rcases h with⟨_,h⟩|⟨c,a⟩;.grind
 .rcases afa v with h|⟨b,rfl,h⟩;.grind
  .rw[h]at a;cases a;rfl
theorem afb(w):iC w (uC w) w:=by
 refine⟨rfl,rfl,rfl,rfl,by simp[uC],aS _,λb o j h g=>?_⟩;simp only[uC,qM,g,eG,ew]at h;subst h;rw[g];cases j<;>first|exact⟨rfl,by simp⟩|skip
 rename_i c e f;refine⟨c,rfl,by simp,λi x k d a=>?_,aA ⟨c,rfl,by simp⟩⟩;simp only[qM,a,eG,ew]at d;subst d;show BC c[i]? _ _;grind[at6]
theorem aEN{o o'}(h:BO (U o) (Rb o) o'):o'=o:=by
 cases o<;>first|exact(tE h.1).symm|skip
 rename_i c e f;obtain⟨d,rfl,j,b,-⟩:=h;congr 1;refine Array.ext (by grind) λi g k=>?_;have:=b i (xy c[i]) d[i] (by grind)<|iy g;grind[cell0,Array.getElem?_eq_getElem,aEO]
theorem aEM{w a w'}(h:iC w a w'){b}(j:b<w.heap.size)(f:a.heap[b]?=(uC w).heap[b]?):w'.heap[b]?=w.heap[b]?:=by
 have g:w.heap[b]?=w.heap[b]:=by grind
 have c:a.heap[b]?=Rb w.heap[b]:=by grind[uC]
 obtain⟨i,e,d⟩:=h.right c;grind[aEN]
theorem aqw(xs):(xs.map λb=>[b]).mergeSort λx y=>cg<|x<=y=(kQ xs).map λb=>[b]:=by
 unfold kQ;rw[List.map_mergeSort];intro a _ b _;rw[BD];simp only[fO];constructor;.intro h c;grind[List.cons_lt_cons_iff,UInt8.not_lt]
 .intro h;exact UInt8.not_lt.1 λd=>h<|Jn.2<|ax d
theorem adp:abz:=by
 intro B v d w ho a hx;have D:∀{K A:az},BK (A7.rk 197) K A->K=bO #[]->A=bO #[]:=λh e=>h.1.symm.trans e;have t:∀v:az,Ew v=Y->Hf #[v].toList #[v].toList (A7.ps 197):=λv h=>⟨⟨rfl,h⟩,trivial⟩;have o:∀{f u:ay},iC w f u->f.os=w.os->f.tape=w.tape->f.output=w.output->(∀b,b<B->f.heap[b]?=(uC w).heap[b]?)->aW B w u:=λ{f u}h G e2 T e4=>⟨h.os.symm.trans G,h.tape.symm.trans e2,h.output.symm.trans T,h.GI,λb q=>aEM h (cE q a)<|e4 b q⟩;rcases ho.2 with⟨rfl,M⟩|⟨g,x,p,rfl,j,hg,R,P,h3,O⟩
 ·refine(als adj adg (g:=197) rfl (t _ rfl) (afb w) (R:=λv f=>v=bO #[]∧f=uC w)<|(Any.slices_Sort_string_none adi Z 0<|uC w).mono ?_).mono ?_;·grind
  ·rintro e u⟨v,A,f,rfl,⟨R,rfl⟩,hk,z⟩;refine⟨by grind,⟨by simp[kQ],ax ⟨rfl,M⟩⟩,o z rfl rfl rfl λb q=>rfl⟩
 ·have Q1:g<w:=by grind
  have s:(uC w).heap[g]?=U (aH (p.map xy) 5 (0,0)):=by grind[uC,Rb]
  have r:(d.map λb=>[b]).length=d.length:=by simp
  have S:Holds encStr (uC w) g 0 (d.map λb=>[b]).toArray:=by
   refine holds_of_block s ?_;rw[r];have:(p.map xy).toList.take d.length=(p.toList.take d.length).map xy:=by simp
   rw[Nat.mul_one]at O;rw[this,O,FX,FX];refine Mz λb _=>?_;rw[agR,agR,at5]
  have L:=Any.slices_Sort_string adi g 0 x (d.map λb=>[b]) (uC w) S (by grind) (by grind);rw[r,aqw]at L;refine(als adj adg (g:=197) rfl (t _ rfl) (afb w) (R:=λv f=>v=bO #[]∧∃n os,f=grow (putRow encStr (Sort.ahead (uC w) n) g 0 ((kQ d).map λb=>[b]).toArray) os)<|L.mono ?_).mono ?_;·grind
  ·rintro e u⟨v,A,f,rfl,⟨X,n,os,Q0⟩,hk,z⟩;have J:((kQ d).map λb=>[b]).length=(d.map λb=>[b]).length:=by simp[kQ]
   have k:=ownsRow_sorted (os:=os) (n:=n) J j s (by grind) P (by grind);have c:=grownBy_sorted (w:=uC w) (g:=g) (n:=n) (os:=os) (d:=((kQ d).map λb=>[b]).toArray);rw[<-Q0]at k c;refine⟨by grind,⟨by grind,aA ?_⟩,?_⟩
   ·rcases k.2 with⟨e,_⟩|⟨g',Q,m,e,_,I,-,-,q3,F⟩;·cases e
    ·cases e;obtain⟨o',C,N,rfl,hs,H,-⟩:=z.right I;refine⟨g,x,N,rfl,j,C,R,P,by grind,?_⟩;rw[Nat.mul_one]at F⊢;rw[r]at F;refine List.ext_getElem? λi=>?_;by_cases hi:i<d.length
     ·have E:i<(kQ d).length:=by grind
      have W:i<m.size:=by grind
      have G:m[i]?=U (aD ⟨#[(kQ d)[i]]⟩):=by have:=congrArg (λl:List az=>l[i]?) F;grind
      rw[List.getElem?_take_of_lt hi,Array.getElem?_toList,iy<|by omega,List.getElem?_map,oS E];have q:=(H i _ _ G<|iy<|by omega).r;generalize N[i]=y at q;cases q;rfl
     grind
   ·refine o z (by rw[c.os];rfl) (by rw[c.tape];rfl) (by rw[c.output];rfl) λb q=>c.block b (by grind)<|by grind
end
section
open Go.RowKit
def kV(L:List O)(p:ByteArray):List UInt8:=my []<|(jS<|qS L p).map<|tD p.size
def qm(L:List O)(p:ByteArray):List<|UInt8×Int:=(kQ<|kV L p).map λc=>(c,t<|dS L<|push p c)
def Dq(L:List O)(p:ByteArray):Nd:=⟨p,qm L p⟩
theorem Mg:∀(l a:List UInt8),a.Nodup->(my a l).Nodup
 |[],a,h=>h|c::l,a,h=>by
  unfold my;split;.exact Mg l a h
  .rename_i b;refine Mg l _ ?_;grind
theorem YP(L)(p)(l:List UInt8):(l.map<|xK L p).map (·.1)=l:=by rw[FX];exact List.map_id'' (λ_=>rfl) l
theorem afJ{l:List UInt8}(h:l.Nodup):l.length<=256:=by
 have b:l.map (·.toNat)⊆mJ 256:=λn c=>by grind[UInt8.toNat_lt]
 have:=List.Nodup.length_le_of_subset (by grind[UInt8.toNat_inj]) b;grind
theorem ado{l}{c}:c∈kQ l↔c∈l:=List.mem_mergeSort
theorem ahi(b)(h):(gS (b,h)).cells=#[V aq b.toNat,V aq<|h/72057594037927936%256,V aq<|h/281474976710656%256,V aq<|h/1099511627776%256,V aq<|h/4294967296%256,V aq<|h/16777216%256,V aq<|h/65536%256,V aq<|h/256%256,V aq<|h%256]:=rfl
theorem WH:∀(l:List UInt8),fM (λb:UInt8=>V aq (b.toNat:Int)) l=l.map λb=>V aq (b.toNat:Int)|[]=>rfl|b::l=>by show V aq (b.toNat:Int)::fM (λb:UInt8=>V aq (b.toNat:Int)) l=_;rw[WH l];rfl
structure alY(w3:ay)(N:Nat)(p:ByteArray)(K:List<|UInt8×Int)(j:Nat)(kv:az)(W:ay):Prop where box:W.heap[N+1]?=U (aH #[aD p,kv] 184 (0,0))row:W.ownsRow w3.heap.size 233 9 kv j (fM gS<|K.take j)keep:aK (λb=>b=N+1) w3 W
set_option maxHeartbeats 4000000 in
theorem afN(m)(L)(pfx)(w)(hp:pfx.size<=4096)(hB:cI w m L)(hL:L.length<=1073741824)(ht:fQ w)(hF:∀x∈L,Fit x)(D:∀k∈jS<|qS L pfx,pfx.size<k.size∧(tD pfx.size k).toNat<128):bz Q 104 #[cq m,pfx] w λe w'=>∃kv,e=bj (bJ #[pfx,kv])∧w'.ownsRow w 233 9 kv (qm L pfx).length (fM gS<|qm L pfx)∧aW w w w':=by
 have yW:=hB.lt;obtain⟨C,K⟩:=ex<|(w.alloc<|aH #[aD ⟨#[]⟩,aE Z 0 0] 184).alloc<|aH #[aD pfx,aE Z 0 0] 184;have P:aW w w C:=by rw[K];exact((eo _ _).alloc (aS _) _).alloc (by simp) _
 have jv:C.heap.size=w+2:=by rw[K];simp
 have iO:C.heap[w.heap.size]?=U (aH #[aD ⟨#[]⟩,aE Z 0 0] 184 (0,0)):=by grind[Below.heap_alloc,World.alloc_heap_new]
 have oY:C.heap[w.heap.size+1]?=U (aH #[pfx,aE Z 0 0] 184 (0,0)):=by grind[World.alloc_heap_new,World.size_alloc]
 have HC:=X<|ahh m L pfx C hp (hB.of_block<|P.block m yW) hL (ht.below P<|aS _) hF D;have J:=CJ.mk K P jv iO oY;clear hB ht hF D K P jv iO oY;go_enter ao4,ntmps104;go_wp2_with(go_at_call 159;rw[<-J.a];go_must(refine HC.out.mono ?_);rintro e N⟨m2,rfl,DV,Nh,l7⟩;have F:=gF.mk DV Nh l7;clear DV Nh l7;refine Halt.of ?_);unfold Halt;obtain⟨es,yZ⟩:=ex<|(kV L pfx).map<|xK L pfx;have Ty:dn lI N m2 es:=by rw[yZ];exact F.a
 have jX:(es.map (·.1)).Nodup:=by rw[yZ,YP];exact Mg _ _ List.nodup_nil
 have hle:es.length<=256:=by grind[List.length_map,afJ]
 have ou:es.map (·.1)=kV L pfx:=by grind[YP]
 have G:=CJ.mk Ty jX hle ou yZ;clear Ty jX hle ou yZ HC;go_wp2_with(go_at_call 161;go_must(refine(ahk m2 N).mono ?_);rintro e w3⟨rfl,yS⟩;have H3:=X yS;clear yS;refine Halt.of ?_);unfold Halt;have HS:=X (adn adp m2 es w3 (G.a.of_block<|by rw[H3.out];exact dm _ _ _ G.a.lt) G.b G.c N.heap.size<|by rw[H3.out];go_simp);go_wp2_with(go_at_call 160;go_must(refine HS.out.mono ?_);rintro e w4⟨sv,rfl,l,As⟩;have W:=cH.mk l As;clear l As;refine Halt.of ?_);unfold Halt;obtain⟨r,H⟩:=ex<|kQ<|kV L pfx;have Nk:es.length=r.length:=by rw[H,<-G.d];simp[kQ]
 have l:w4.ownsRow w3 5 1 sv r.length<|r.map λb=>V aq (b.toNat:Int):=by have:=W.a;rw[G.d,<-H,Nk]at this;grind
 have aHb:r.length<=256:=by rw[<-Nk];exact G.c
 obtain⟨xw,xu,rfl⟩:=gD l;have A:aW N N w4:=by
  have h3:aW N N w3:=by rw[H3.out];exact(eo _ _).alloc (aS _) _
  exact h3.trans ⟨W.b.os,W.b.tape,W.b.output,W.b.size,λb hb=>W.b.block b<|by have:=h3.size;omega⟩
 have axF:=A.size;have ahA:=F.c.size;have B4:w4.heap[w.heap.size+1]?=U (aH #[aD pfx,aE Z 0 0] 184 (0,0)):=(A.block _<|by have:=J.c;omega).trans<|(F.c.block _<|by have:=J.c;omega).trans J.e;have Tw:w4.heap[w.heap.size]?=U (aH #[aD ⟨#[]⟩,aE Z 0 0] 184 (0,0)):=(A.block _<|by have:=J.c;omega).trans<|(F.c.block _<|by have:=J.c;omega).trans J.d;have Ka:=G.a.of_block<|A.block _ G.a.lt;have hK:qm L pfx=r.map λc=>(c,t<|dS L<|push pfx c):=by rw[H];rfl
 have Nj:∀c∈r,look es c=(iR<|t<|dS L<|push pfx c):=λc hc=>by rw[G.e,Mp,dy<|ado.1<|H▸hc];rfl
 have y:(qm L pfx).length=r.length:=by grind
 have UR:=X<|J.b.trans<|(⟨F.c.os,F.c.tape,F.c.output,F.c.size,λb hb=>F.c.block b<|by have:=J.c;omega⟩:aW w.heap.size C N).trans ⟨A.os,A.tape,A.output,A.size,λb hb=>A.block b<|by have:=J.c;omega⟩;have jV:w3.heap.size=N+1:=by rw[H3.out];simp
 have wc:w+1<m2∧m2<w4∧w.heap.size+1<w3∧w3.heap.size<=w4:=⟨by have:=J.c;have:=F.b;omega,Ka.lt,by have:=J.c;omega,W.b.size⟩;have En:alY w4 w pfx (qm L pfx) 0 (aE Z 0 0) w4:=⟨B4,rQ _ _ _ _,aK.refl _ _⟩;have HX:=E4.mk l Ka hK Nj y En Tw wc;clear HS G W H3 F J H Nk l A axF ahA B4 Tw Ka hK Nj y En wc jV;go_wp2;go_loopg[18]r.lengthλk Wy wr=>∃(j:Nat)(kv:az),Wy=V aC j∧k+j=r.length∧alY w4 w.heap.size pfx (qm L pfx) j kv wr;case atStart=>exact⟨0,_,rfl,by omega,HX.f⟩
 case round=>
  obtain⟨j,kv,rfl,D,n⟩:=hrel;by_cases hj:j<r.length
  ·obtain⟨q,f,rfl⟩:=gD n.row;obtain⟨l,Ka,hK,Nj,y,-,Tw,wc⟩:=kp HX;have ahX:pF 5 1 (λb:UInt8=>V aq (b.toNat:Int)) wr (aE xw r.length xu) r:=by unfold pF;rw[WH];exact dx (jr l<|kI _) λb hb=>n.keep.block b (l.lt b hb).2<|by have:=(l.lt b hb).1;omega
   obtain⟨g,Cq,hv,hg,hY⟩:=ahX.cell (λ_=>rfl) hj;simp only[oU]at hv;obtain⟨rfl,-,rfl⟩:=hv;obtain⟨c,hc⟩:=ex r[j];have y0:wr.cell? ⟨g,j,Z⟩=U (V aq (c.toNat:Int)):=by have:=hY 0 (V aq (r[j].toNat:Int)) (by decide) rfl;grind
   have b0:wr.cell? ⟨w.heap.size+1,0,Z⟩=U (aD pfx):=M n.box 0;have b1:wr.cell? ⟨w+1,1,Z⟩=U (aE q j f):=M n.box 1;have I:=Nj c<|hc▸lV hj;have gT:fM gS ((qm L pfx).take<|j+1)=fM gS ((qm L pfx).take j)++(gS (c,t<|dS L<|push pfx c)).cells.toList:=by rw[QO gS (qm L pfx)<|by grind];grind
   rw[ahi]at gT;unfold iR at I;obtain⟨h,hh⟩:=ex<|t<|dS L<|push pfx c;rw[<-hh]at I gT;obtain⟨d0,e0⟩:∃d,d=h/72057594037927936%256:=⟨_,rfl⟩;obtain⟨d1,e1⟩:∃d,d=h/281474976710656%256:=⟨_,rfl⟩;obtain⟨d2,e2⟩:∃d,d=h/1099511627776%256:=⟨_,rfl⟩;obtain⟨d3,e3⟩:∃d,d=h/4294967296%256:=⟨_,rfl⟩;obtain⟨d4,e4⟩:∃d,d=h/16777216%256:=⟨_,rfl⟩;obtain⟨d5,e5⟩:∃d,d=h/65536%256:=⟨_,rfl⟩;obtain⟨d6,e6⟩:∃d,d=h/256%256:=⟨_,rfl⟩;obtain⟨d7,e7⟩:∃d,d=h%256:=⟨_,rfl⟩;rw[<-e0,<-e1,<-e2,<-e3,<-e4,<-e5,<-e6,<-e7]at I gT;have NQ:=Ka.of_block (n.keep.block _ wc.2.1<|by omega);have nB:(j:Int)<(r.length:Int):=by omega
   have u:=CJ.mk n gT NQ I wc;have aAg:=(cU.1 n.box).1;have aGC:=n.keep.size;clear l Ka hK Nj y Tw ahX hY I gT hh e0 e1 e2 e3 e4 e5 e6 e7 NQ n hc wc;go_wp2_with(first|(at_lookup;refine PL _ lI rfl _ _ 245 rfl 5 76 Fs zL _ (PE _) m2 es c rfl u.c rfl ?_;rw[u.d];simp only[fV])|(at_builtin;go_must(refine app1 rfl rfl aco ahu rfl rfl (dx u.a.row λb hb=>dm _ _ _ (u.a.row.lt b hb).2) rfl (by grind) rfl rfl (by omega) (by simp;omega) ?_);intro v7 w7 B xS _ kg;refine Halt.of ?_));have E:=(xS.block _ (by simp;omega) λe=>by have:=(u.a.row.lt _ e.symm).1;have:=u.e;omega).trans<|(dm _ _ _ aAg).trans u.a.box;have hc7:w7.cell? ⟨w+1,1,Z⟩=U (aE q j f):=M E 1;have hf7:w7.frozen? ⟨w+1,1,Z⟩=ai:=by simp[x8,E]
   obtain⟨g7,abk,Zf⟩:=ownsRow_succ B;have ay3:v7.ownBlock≠U (w.heap.size+1):=λe=>by have:=(B.lt _ e).1;have:=u.e;omega
   have H7:=vB.mk B xS E ay3;subst Zf;unfold Halt;go_wp2;go_roundg(gk-1);case rel=>
    refine⟨j+1,aE (U ⟨g7,0,Z⟩) (j+1) abk,by go_simp,by omega,⟨?_,?_,?_⟩⟩;·have:=Da (i:=1) (u:=aE (U ⟨g7,0,Z⟩) (j+1) abk) H7.c;grind
    ·rw[u.b];exact IQ H7.a H7.d _
    ·have D:=u.a.keep;have xS:=H7.b;refine⟨xS.os.trans D.os,xS.tape.trans D.tape,xS.output.trans D.output,by rw[zO];have:=xS.size;simp at this;omega,λb hb hn=>?_⟩;rw[gQ _ _ _ _ hn];exact(xS.block b (by simp;omega) λe=>by have:=(u.a.row.lt _ e.symm).1;omega).trans<|(dm _ _ _<|by omega).trans<|D.block b hb hn
   grind
  ·have R:j=r.length:=by omega
   have wu:gk=0:=by omega
   subst wu;obtain⟨q,f,rfl⟩:=gD n.row;have b0:wr.cell? ⟨w+1,0,Z⟩=U (aD pfx):=M n.box 0;have b1:wr.cell? ⟨w+1,1,Z⟩=U (aE q j f):=M n.box 1;have J4:=(n.keep.block _ (by have:=HX.h;omega)<|by omega).trans HX.g;have n0:wr.cell? w=U (aD ⟨#[]⟩):=M J4 0;have n1:wr.cell? ⟨w,1,Z⟩=U (aE Z 0 0):=M J4 1;have nf0:wr.frozen? w=ai:=by simp[x8,J4]
   have nf1:wr.frozen? ⟨w,1,Z⟩=ai:=by simp[x8,J4]
   have u:=gF.mk n R J4;clear n R J4 hj;go_wp2;have TF:((wr.setCell w pfx).setCell ⟨w,1,Z⟩<|aE q j f).heap[w.heap.size]?=U (aH #[pfx,aE q j f] 184 (0,0)):=by have h1:=Da (i:=0) (u:=aD pfx) u.c;have h2:=Da (i:=1) (u:=aE q j f) h1;simpa using h2
   refine vS (results_cell_row rfl _ _ w.heap.size 184 _ (0,0) _ rfl TF acn rfl<|by kernel_rfl) rfl ?_;obtain⟨n,R,-⟩:=u;obtain⟨-,-,hK,-,y,-,-,wc⟩:=HX;have tK:=n.row;rw[List.take_of_length_le<|by grind]at tK;refine⟨_,rfl,?_,?_⟩
   ·rw[y,<-R];have lg:∀b,(aE q j f).ownBlock=U b->b≠w:=λb hb e=>by have:=(tK.lt b hb).1;omega
    exact IQ (IQ (jr tK<|by omega) (λe=>lg _ e rfl) _) (λe=>lg _ e rfl) _
   ·refine UR.out.trans ⟨n.keep.os,n.keep.tape,n.keep.output,by rw[zO,zO];exact n.keep.size,λb hb=>?_⟩;rw[gQ _ _ _ _<|show b≠w.heap.size by omega,gQ _ _ _ _<|show b≠w.heap.size by omega];exact n.keep.block b (by omega)<|by omega
theorem agc{t s:Type}(f:t->s):∀(l:List t)(j:Nat),(l.eraseIdx j).map f=(l.map f).eraseIdx j|[],_=>rfl|_::_,0=>rfl|x::l,j+1=>by simp[agc f l j]
section
variable {κ:Type} [DecidableEq κ]
def del(es:List<|κ×az)(k:κ):List<|κ×az:=es.filter λp=>! cg (p.1=k)
theorem aj4(k:κ):∀{es:List<|κ×az},(es.map (·.1)).Nodup->match es.findIdx? λp=>p.1=k with|some j=>es.eraseIdx j=del es k∧j<es.length|none=>del es k=es
 |[],_=>rfl|(a,v)::es,h=>by
  simp only[gd,FZ]at h;rw[YM];by_cases e:a=k;·subst e;simp only[decide_true,iW];refine⟨?_,by simp⟩;unfold del;rw[List.filter_cons];simp only[decide_true,Bool.not_true,oT,vU];grind[List.filter_eq_self,Bool.not_eq_true',decide_eq_false_iff_not,List.mem_map_of_mem]
  ·simp only[e,MM,oT,vU];have c:=aj4 k h.2;have d:del ((a,v)::es) k=(a,v)::del es k:=by grind[del]
   grind
theorem agl(k c:κ):∀(es:List<|κ×az),look (del es k) c=if c=k then Z else look es c
 |[]=>by simp[del,look]|(a,v)::es=>by
  have f:=agl k c es;by_cases e:a=k
  .have d:del ((a,v)::es) k=del es k:=by grind[del]
   rw[d,f];by_cases hc:c=k;.grind
   .rw[if_neg hc,if_neg hc];unfold look;rw[if_neg λh=>hc<|h.symm.trans e];cases es<;>rfl
  .have d:del ((a,v)::es) k=(a,v)::del es k:=by grind[del]
   rw[d];show(if a=c then U v else look (del es k) c)=if c=k then Z else if a=c then U v else look es c;grind
theorem asZ{P}{w}{T s z ty}(K:KE κ)(B:P.underlying T=U (.map s z))(x:P.underlying s=U K.desc){m}{es}(h:dn K w m es)(k)(A):∃o,(Uh #[T,A] ty #[cq m,K.enc k]).run P w=aY (bO #[]) (w.putObj m o)/\dn K (w.putObj m o) m (del es k):=by
 obtain⟨d,b,n,c⟩:=h;have g:=(cU.1 n).1;have E:(ry m).run P w=aY (iZ d b) w:=by simp[ry,oA,n]
 have r:∀o,(setObj m o).run P w=aY () (w.putObj m o):=λo=>by simp[setObj,oA,n,World.putObj]
 have D:=run_findKey (w:=w) K x c k;obtain⟨_,v⟩:=TT K k d.toList es 0 c.read;have q:=aj4 k c.nodup;have y:d.size=es.length:=by have:=congrArg List.length c.read;grind
 simp only[Uh,List.getElem?_toArray,List.getElem?_cons_zero,List.getElem?_cons_succ,gR,run_underlying B,mg,E,K.flat _ _ _ _ _ _ x,D];cases t:es.findIdx? λp=>p.1=k with|none=>rw[t]at v q;refine⟨iZ d b,by simp[r,mg],d,b,F0 g,?_⟩;grind|some j=>rw[t]at v q;cases F:look es k with|none=>grind|some u=>
   obtain⟨i,C⟩:=q;have f:(d.eraseIdxIfInBounds j).toList=d.toList.eraseIdx j:=by unfold Array.eraseIdxIfInBounds;rw[yG<|by omega,Array.toList_eraseIdx]
   refine⟨iZ (d.eraseIdxIfInBounds j) b,by simp[r,mg],_,b,F0 g,?_⟩;refine⟨?_,?_,?_,?_⟩;.rw[f,<-i];have:=congrArg (λl:List<|az×az=>l.eraseIdx j) c.read;grind[agc]
   .unfold del;exact c.nodup.sublist<|(List.filter_sublist).map _
   .rw[f];exact c.LW.sublist<|(List.eraseIdx_sublist _ _).map _
   .rw[f];exactλe h=>c.below e<|List.mem_of_mem_eraseIdx h
theorem amJ{P}(w){ops}{rest}{o}{a}{Q}(K:KE κ)(t:o.guard=Z)(m x)(T h)(f:o.op=Op.call {callee:=.builtin .delete,args:=#[m,x],argTypes:=#[T,h]})(i j)(s:P.underlying T=U (.map i j))(r:P.underlying i=U K.desc)(b)(es)(k)(p:a.eval m=.map b)(q:dn K w b es)(l:a.eval x=K.enc k)(n:∀d,dn K d b (del es k)->aK (λx=>x=b) w d->d.heap.size=w->wpList P ops Q rest (a.put o.dst<|.tuple #[]) d):wpList P ops Q (o::rest) a w:=by refine ML t λv e=>?_;obtain⟨u,c,g⟩:=asZ (P:=P) (ty:=o.type) K s r q k h;unfold Oper.wp;simp only[cX,f,resolve,invoke,builtin,gR,List.map_toArray,gd,tG,p,l,c,mg,vV];exact e _ _<|n _ g (aK.putObj _ _ _ rfl)<|by simp
end
theorem aj5(h m i l p k g j o c a b3 b f n e)(W):(sF 10000 76 (bJ #[V aq h,V aq m,V aq i,V aq l,V aq p,V aq k,V aq g,V aq j])<|bJ #[V aq o,V aq c,V aq a,V aq b3,V aq b,V aq f,V aq n,V aq e]).run Q W=aY (h==o&&(m==c&&(i==a&&(l==b3&&(p==b&&(k==f&&(g==n&&j==e))))))) W:=by unfold sF;simp[run_underlying Vw,List.range',part,λd x y=>run_equalIn_int (P:=Q) W d 5 aq aq x y zL,acs];grind
def tZ(h:Int):Prop:=0<=h/\h<18446744073709551616
theorem akg{h k}(a:tZ h)(b:tZ k):(h/72057594037927936%256==k/72057594037927936%256&&(h/281474976710656%256==k/281474976710656%256&&(h/1099511627776%256==k/1099511627776%256&&(h/4294967296%256==k/4294967296%256&&(h/16777216%256==k/16777216%256&&(h/65536%256==k/65536%256&&(h/256%256==k/256%256&&h%256==k%256)))))))=cg (h=k):=by obtain⟨f,e⟩:=a;obtain⟨d,c⟩:=b;grind
theorem Tn(l):tZ<|t l:=by
 have e:∀(h c:Int),tZ<|LC h c:=λh c=>by grind[LC,tZ,IntKind.wrap_u64]
 have f:∀(l:List UInt8)(h:Int),tZ h->tZ (Ef h l):=by intro l;induction l with|nil=>intro h b;exact b|cons c l d=>intro h b;exact d _<|e _ _
 unfold t;have:∀(l:List O)(h:Int),tZ h->tZ (l.foldl (λh x=>To h<|Dt x) h):=by intro l;induction l with|nil=>grind|cons x l d=>intro h b;exact d _<|f _ _ b
 exact this l _ ⟨by decide,by decide⟩
def yN(L:List O)(p:ByteArray):Prop:=p.size<=4096/\∀k∈jS<|qS L p,p.size<k.size/\(tD p.size k).toNat<128
def cR(L:List O)(p:ByteArray)(k:UInt8×Int):List O:=if k.1∈kV L p/\t (dS L<|push p k.1)≠k.2/\k.1=0 then dS L (push p k.1)else[]
def cW(L:List O)(p:ByteArray)(k:UInt8×Int):List ByteArray:=if k.1∉kV L p\/t (dS L<|push p k.1)≠k.2/\k.1=0 then[push p k.1]else[]
def cN(L:List O)(p:ByteArray)(k:UInt8×Int):List Nd:=if k.1∈kV L p/\t (dS L<|push p k.1)≠k.2/\k.1≠0 then[Dq L<|push p k.1]else[]
def IF(L:List O)(n:Nd):List UInt8:=kQ ((kV L n.pfx).filter λc=>!(n.kids.map (·.1)).contains c)
def jT(L:List O)(m:dZ)(p:ByteArray)(ks:List<|UInt8×Int):dZ:={m with bq:=m.bq++ks.flatMap (cR L p),cu:=m.cu++ks.flatMap (cW L p),nodes:=m.nodes++ks.flatMap (cN L p)}
def wK(L:List O)(m:dZ)(p:ByteArray)(cs:List UInt8):dZ:={m with bq:=m.bq++cs.flatMap λc=>dS L<|push p c}
def oC(L:List O)(m:dZ)(n:Nd):dZ:=wK L (jT L m n.pfx n.kids) n.pfx<|IF L n
theorem af7(L)(m)(p):jT L m p []=m:=by simp[jT]
theorem avG(L)(m)(p)(a)(k):jT L m p (a++[k])={jT L m p a with bq:=(jT L m p a).bq++cR L p k,cu:=(jT L m p a).cu++cW L p k,nodes:=(jT L m p a).nodes++cN L p k}:=by simp[jT]
theorem aBm(L)(m)(p):wK L m p []=m:=by simp[wK]
theorem ajU(L)(m)(p)(cs)(c):wK L m p (cs++[c])={wK L m p cs with bq:=(wK L m p cs).bq++dS L (push p c)}:=by simp[wK]
def wL(es:List<|UInt8×az)(ks:List UInt8):List<|UInt8×az:=ks.foldl del es
theorem aCk(es)(a)(k):wL es (a++[k])=del (wL es a) k:=by simp[wL]
theorem agk(c:UInt8):∀(b:List UInt8)(es:List<|UInt8×az),look (wL es b) c=if c∈b then Z else look es c|[],es=>rfl|k::b,es=>by show look (wL (del es k) b) c=_;rw[agk c b,agl];grind
theorem akl:∀(b:List UInt8)(es:List<|UInt8×az),(wL es b).map (·.1)=(es.map (·.1)).filter λc=>!b.contains c
 |[],es=>(Ji.2 λ_ _=>rfl).symm|k::b,es=>by
  show(wL (del es k) b).map (·.1)=_;rw[akl b];have:(del es k).map (·.1)=(es.map (·.1)).filter λc=>! cg (c=k):=by unfold del;rw[List.filter_map];rfl
  rw[this,YF];grind
section
variable {B p:Nat} {m:dZ} {vr vw vn vd:az} {xs:List az} {W W1 W2:ay} {D D' D'':Nat->Prop}
theorem jm.same(h:jm W B p m vr vw vn vd xs)(c:∀b e,eS W b e->W1.heap[b]?=W.heap[b]?)(f:W.heap.size<=W1):jm W1 B p m vr vw vn vd xs:=⟨(c p _ h.rM).trans h.box,h.lt,dx h.bq λb a=>c b _<|fN h.bq a,dx h.cu λb a=>c b _<|fN h.cu a,h.nodes.keep (λb a=>c b _<|fN h.nodes.row a) (λx d b a=>c b _<|F1 h.nodes.ins x d b a) f,dx h.roots λb a=>c b _<|fN h.roots a⟩
theorem agd{b e}{es}(h:dn lI W b es)(k:eS W b e):False:=by obtain⟨d,c,h,_⟩:=h;obtain⟨a,k⟩:=k;grind
theorem iK.aqc(h:iK W B p m D){a}{es}(d:dn lI W a es)(k:aK (λb=>b=a) W W1):iK W1 B p m D:=by obtain⟨vr,vw,vn,vd,xs,h,e⟩:=h;refine⟨vr,vw,vn,vd,xs,h.same (λb t c=>k.block b (cU.1 c.choose_spec).1 λe=>agd d<|e▸c) k.size,e⟩
theorem iK.elem(h:iK W B p m D):∀b,D b->∃e,eS W b e/\e≠107:=by obtain⟨vr,vw,vn,vd,xs,h,rfl⟩:=h;intro b a;rcases h.del b a with h|h|h|h;all_goals grind
structure Pw(B p m2:Nat)(m:dZ)(D:Nat->Prop)(L:List O)(n:Nd)(es:List<|UInt8×az)(w1:ay)(j:Nat)(D':Nat->Prop)(W:ay):Prop where
 N0:iK W B p (jT L m n.pfx<|n.kids.take j) D'
 map:dn lI W m2 (wL es ((n.kids.take j).map (·.1)))keep:aK (λb=>D b∨b=m2) w1 W
 own:∀b,D' b->D b∨w1.heap.size<=b
theorem Pw.next{l}{L}{n}{es}{w1 s u k o}{j}(c:Pw B p l m D L n es w1 j D' s)(z)(g:aW s s u)(i:aK (λb=>b=l) u k)(v:dn lI k l (del (wL es ((n.kids.take j).map (·.1))) n.kids[j].1))(d:bS D' k D'' o)(r:iK k B p (jT L m n.pfx<|n.kids.take j) D')(A:iK o B p (jT L m n.pfx<|n.kids.take<|j+1) D''):Pw B p l m D L n es w1 (j+1) D'' o:=by
 have y:=c.keep.size;have w:=g.size;have x:=i.size;refine⟨A,?_,⟨?_,?_,?_,?_,λb q t=>?_⟩,λb f=>?_⟩;·rw[xH,oS z,By,vT,gd,tG,aCk];refine v.of_block<|d.1.block _ v.lt λf=>?_;obtain⟨e,C,_⟩:=r.elem _ f;grind[agd]
 ·exact d.1.os.trans<|i.os.trans<|g.os.trans c.keep.os
 ·exact d.1.tape.trans<|i.tape.trans<|g.tape.trans c.keep.tape
 ·exact d.1.output.trans<|i.output.trans<|g.output.trans c.keep.output
 ·have:=d.1.size;omega
 ·rw[d.1.block b (by omega) λf=>(c.own b f).elim (λh=>t<|ax h)<|by omega,i.block b (by omega) λe=>t<|aA e,g.block b<|by omega];exact c.keep.block b q t
 ·rcases d.2 b f with h|h;·exact c.own b h
  grind
structure CrI(B p:Nat)(m:dZ)(D:Nat->Prop)(L:List O)(pfx:ByteArray)(cs:List UInt8)(w1:ay)(j:Nat)(D':Nat->Prop)(W:ay):Prop where
 N0:iK W B p (wK L m pfx<|cs.take j) D'
 keep:bS D w1 D' W
end
theorem akP(c)(W:ay):(convert 79 9<|aE W 1 1).run Q (W.alloc<|aH #[V aq c.toNat] 5)=aY (aD ⟨#[c]⟩) (W.alloc<|aH #[V aq c.toNat] 5):=by
 have:=akO (W.alloc<|aH #[V aq (c.toNat:Int)] 5) W 0 ⟨#[c]⟩ (λj b=>by
  have:j=0:=by grind
  subst this;simp[bl]);exact this
theorem XU(L)(m)(n:Nd){j}(a):jT L m n.pfx (n.kids.take<|j+1)={jT L m n.pfx (n.kids.take j)with bq:=(jT L m n.pfx<|n.kids.take j).bq++cR L n.pfx n.kids[j],cu:=(jT L m n.pfx<|n.kids.take j).cu++cW L n.pfx n.kids[j],nodes:=(jT L m n.pfx<|n.kids.take j).nodes++cN L n.pfx n.kids[j]}:=by grind[List.take_add_one,List.getElem?_eq_getElem,Option.toList_some,avG]
theorem Oc{t s:Type}(f:t->List s)(l:List t)(j):((l.take j).flatMap f).length<=(l.flatMap f).length:=by grind[List.take_append_drop,List.length_append]
theorem XV(L)(m)(n)(j):(jT L m n.pfx<|n.kids.take j).bq.length<=(oC L m n).bq.length/\(jT L m n.pfx<|n.kids.take j).cu.length<=(oC L m n).cu.length/\(jT L m n.pfx<|n.kids.take j).nodes.length<=(oC L m n).nodes.length:=by have c:=Oc (cR L n.pfx) n.kids j;have b:=Oc (cW L n.pfx) n.kids j;have a:=Oc (cN L n.pfx) n.kids j;grind[oC,wK,jT,List.length_append]
theorem aBl(L)(m)(n)(j):(wK L (jT L m n.pfx n.kids) n.pfx<|(IF L n).take j).bq.length<=(oC L m n).bq.length:=by have a:=Oc (λc=>dS L<|push n.pfx c) (IF L n) j;grind[oC,wK,List.length_append]
theorem aEl{b d}{f}{g h c}(a:aK (λx=>x=f) (((b.alloc<|aH g 233).alloc<|aH h 5).alloc<|aH c 76) d)(i:f<b.heap.size):∃e,aW b.heap.size b e/\aK (λx=>x=f) e d/\d.heap[b.heap.size]?=U (aH g 233 (0,0))/\d.heap[b.heap.size+1+1]?=U (aH c 76 (0,0))/\e.heap.size=b+3:=by
 refine⟨_,(((eo _ _).alloc (aS _) _).alloc (by simp) _).alloc (by simp;omega) _,a,?_,?_,by simp⟩;.refine(a.block _ (by simp;omega)<|by omega).trans ?_;simp only[EF];grind
 .refine(a.block _ (by simp)<|by omega).trans ?_;simp only[EF];grind
theorem RI{W W'}{v v'}(c:W.grownBy W' v.ownBlock)(f:v'.ownBlock=v.ownBlock\/v'.ownBlock=W.heap.size):bS (dh v) W (dh v') W':=by
 refine⟨⟨c.os,c.tape,c.output,c.size,λb d g=>c.block b d λe=>g e.symm⟩,λb d=>?_⟩;rcases f with h|h;.left;show v.ownBlock=U b;rw[<-h];exact d
 .right;have:v'.ownBlock=b:=d;grind
theorem aeq{a}(f:a->az)(l)(x):fM f (l++[x])=fM f l++(f x).cells.toList:=by grind[fM]
theorem Qn(L)(p)(c)(h):(c∉kV L p->cR L p (c,h)=[]/\cW L p (c,h)=[push p c]/\cN L p (c,h)=[])/\(c∈kV L p->t (dS L<|push p c)=h->cR L p (c,h)=[]/\cW L p (c,h)=[]/\cN L p (c,h)=[])/\(c∈kV L p->t (dS L<|push p c)≠h->c=0->cR L p (c,h)=dS L (push p c)/\cW L p (c,h)=[push p c]/\cN L p (c,h)=[])/\(c∈kV L p->t (dS L<|push p c)≠h->c≠0->cR L p (c,h)=[]/\cW L p (c,h)=[]/\cN L p (c,h)=[Dq L<|push p c]):=by
 refine⟨λd=>?_,λd b=>?_,λd b a=>?_,λd b a=>?_⟩;.grind[cR,cW,cN]
 .grind[cR,cW,cN]
 .refine⟨dy ⟨d,b,a⟩,dy<|aA ⟨b,a⟩,if_neg λh=>h.2.2 a⟩
 .refine⟨if_neg λh=>a h.2.2,if_neg ?_,dy ⟨d,b,a⟩⟩;grind
theorem iK.msg{W}{B p}{m m'}{D}(h:iK W B p m D)(e:m=m'):iK W B p m' D:=e▸h
end
end Go.Proofs.YtpdbmpbmepkikaaGreatDoor
