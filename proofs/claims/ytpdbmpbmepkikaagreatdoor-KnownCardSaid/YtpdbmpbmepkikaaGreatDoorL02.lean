/- Laws. -/
import Derived.Test.YtpdbmpbmepkikaaGreatDoorProg
import Derived.Test.YtpdbmpbmepkikaaGreatDoorL01
set_option maxRecDepth 100000
set_option maxHeartbeats 400000
set_option linter.all false
open Go.Proofs.Tryz
open Bool renaming true->Z,false->ai
open Classical renaming choose->IG
open Go renaming Goroutine->aX,Frame->aZ,World->ax,Value->az,Program->bZ,Calls->bz,stepG->cj,Sem->cz,Oper->dG,TypeId->dV,Func->dY,Addr->eF,FuncId->fC,lone->iZ
open Go.CallKind renaming normal->eo
open Go.Code renaming region->dS,seq->eG
open Go.Ending renaming returned->bj
open Go.Extern.ReflectliteType renaming relation->Lz,toType->UU,typeOf->UW,method->UY,assignableTo->ab1,abiMethod->ab5,implements_->ams,elem->amz
open Go.Extern.ReflectliteValue renaming valueError->CU,method->CV,parts->Iy,set->PM,unpack->Ps,isNil->UR,elem->UT,methodAny->UX,partsAny->ab4,mk->amA
open Go.Extern.Rtype renaming kind->Lp,directlyAssignable->Lx
open Go.Frame renaming enter->eP
open Go.FrameMode renaming returning->fI
open Go.GStep renaming go->bV,ended->fy
open Go.Instr renaming takeDeferred->US
open Go.IntKind renaming i64->aG,u8->aq,u64->cP
open Go.Obj renaming deferred->uA
open Go.Op renaming assign->pA
open Go.Operand renaming tmp->cy,const->gO
open Go.Program renaming methodsOfAPack->aE1
open Go.Proofs.Tryz renaming prog->aD,f41->oG
open Go.Result renaming ok->aW,halt->dM
open Go.Sem renaming runT->fu
open Go.Stepped renaming next->fR
open Go.Value renaming int->Y,slice->aC,string->aE,pointer->aF,agg->bO,tuple->bQ,map->bW,bool->cx,func->dF,chan->dc,iface->iK,nilIface->nO
open Go.stepG renaming exec->xz
open List renaming range->mR
open Option renaming some->U,none->V
open Or renaming inr->aB,inl->ay
open Pure renaming pure->bI
namespace Go.Proofs.YtpdbmpbmepkikaaGreatDoor
def vg:=@Nat.zero_add
def ou:=@Classical.byContradiction
def Aw:=@Classical.choose_spec
def ahY:=@Nat.exists_eq_add_of_le
def Er:=@List.getElem?_append_left
def mq:=@List.getElem?_eq_getElem
def tQ:=@Option.some.inj
def YU:=@Array.getElem?_setIfInBounds
def Ke:=@List.map_congr_left
section
variable{I:H}{q:bZ}{fs:Array dY}{N M:Nat}{nm:String->Bool}{X:fC->Prop}{b:aZ}{bs:List aZ}{w v:ax}{m m':Bool}
theorem afZ(a):dA id a=a:=rfl
theorem avt(f):BM id f=f:=by cases f<;>rfl
mutual
theorem Gq:∀v:az,F id v=v|dF fn first cap=>by simp only[F,avt,RJ]|iK t v=>by simp only[F];rw[Gq v]|bO cs=>by simp only[F,RJ]|bQ cs=>by simp only[F,RJ]|aF V=>by simp[F]|aF<|U a=>by simp[F,afZ]|aC V _ _=>by simp[F]|aC (U a) _ _=>by simp[F,afZ]|bW V=>by simp[F]|bW<|U _=>by simp[F]|dc V=>by simp[F]|dc<|U _=>by simp[F]|cx _=>by simp[F]|Y _ _=>by simp[F]|.float _ _=>by simp[F]|.complex _ _ _=>by simp[F]|aE _=>by simp[F]|.nilFunc=>by simp[F]|nO=>by simp[F]theorem RJ:∀v:Array az,oe id v=v|⟨l⟩=>by simp only[oe,afW]theorem afW:∀l:List az,qi id l=l|[]=>by simp[qi]|v::l=>by simp only[qi];rw[Gq v,afW l]end
theorem Nc(l:Array az):l.map (F id)=l:=by rw[<-yL,RJ]
theorem avv(e):lg id e=e:=by cases e;simp[lg,Gq]
theorem MV(o):fa id o=o:=by
 cases o<;>simp only[fa];case cells=>rw[Nc]
 case map es c=>have:lg (id:Nat->Nat)=id:=funext avv;grind[Array.map_id]
 case mapIter m _ _ _=>grind
 case loop l=>simp only[Eb,Nc,id]
 case number=>rfl
theorem afY(i):jc id i=i:=by cases i<;>rfl
theorem bD.same{l l'}(h:bD id I N l l'):l'=l:=by rw[h.2,Nc]
theorem fb.same{a c}(h:fb id I q nm N a c):c=a:=by
 obtain⟨A,P,C,y,Q,⟨l,L,D,z⟩,u,J,e,g,n,K⟩:=h;obtain⟨O,x,i,j,B,t,H⟩:=a;obtain⟨G,p,d,f,o,k,r⟩:=c;simp only at A C y D z u e g n;have F:=C.same;have E:d=i:=by rw[y,show jc (id:Nat->Nat)=id from funext afY,List.map_id]
 have s:r=H:=by grind
 subst F E s A u D z e g;rfl
theorem jP.same(e:∀f,I.DF f=ai){a c}(h:jP id I q nm N a c):c=a:=h.elim (·.same) λh=>by have:=h.df;grind
theorem pI.same(d:∀f,I.DF f=ai){a c}(h:pI id I q nm N a c):c=a:=jP.same d h.top
theorem ig.same(a:∀f,I.DF f=ai){l l'}(h:ig id I q nm N l l'):l'=l:=by induction h with|nil=>rfl|cons h _ c=>rw[h.same a,c]
theorem fb.yM{ρ}{a c}(h:fb ρ I q nm N a c):fb id I q nm N a a:=by obtain⟨l,e,d,f⟩:=h.defers;exact⟨rfl,h.here,⟨h.tmps.1,(Nc _).symm⟩,by rw[show jc (id:Nat->Nat)=id from funext afY,List.map_id],h.items,⟨l,e,d,d⟩,rfl,h.xV,h.sg,h.sg,by grind,h.rounds⟩
theorem fU.yM{ρ}{a c}(h:fU ρ I q nm N a c):fU id I q nm N a a:=⟨rfl,h.here,h.df,⟨rfl,λt v d e=>⟨(h.tmps.here t v d e).1,by grind[Gq]⟩,λt v d e=>by obtain⟨g,_,f⟩:=h.tmps.arg t v d e;exact⟨_,d,f.left⟩⟩,rfl,h.Ir,h.Iu,h.Iu,rfl,h.xV,h.sg,h.sg,h.JI,h.JI⟩
theorem jP.yM{ρ}{a c}(h:jP ρ I q nm N a c):jP id I q nm N a a:=h.imp (·.yM) (·.yM)
theorem pI.yM{ρ}{a c}(h:pI ρ I q nm N a c):pI id I q nm N a a:=h.imp (·.yM) λh=>⟨h.1.yM,h.2⟩
theorem ig.yM{ρ}{l l'}(h:ig ρ I q nm N l l'):ig id I q nm N l l:=by induction h with|nil=>exact .nil|cons h _ a=>exact .cons h.yM a
def World.re(w:ax)(τ:Nat->Question->Nat)(d:Nat):ax:={w with tape:=τ,drawn:=d}
theorem Whole.lq{L}(f:I.arg=V)(h:Whole I w)(c)(d)(j:∀i,(∀D,L=U D->w.drawn+i<D)->c (d+i)=w.tape (w.drawn+i)):dO id I L w<|World.re w c d:=⟨rfl,j,λa b e=>e,λb o g k=>⟨h.blk b o g k,by rw[MV];exact g⟩,h.kB,λA l=>by grind⟩
theorem fD.same{L}{w1 c}{k}{d}(u:Whole I w)(f:fD id I w (World.re w k d) w1 c)(r:dO id I L w1 c):c=World.re w1 k (d+(w1.drawn-w.drawn)):=by
 have x:c.heap.size=w1:=by have l:=f.size;have o:=f.oQ;grind[World.re]
 have p:c.heap=w1.heap:=by
  refine YV λi=>?_;by_cases hi:i<w1
  .have n:w1.heap[i]?=w1.heap[i]:=by grind
   cases h:I.F i with|true=>have:=(r.blk i _ n h).2;grind[MV]|false=>
    have g:i<w:=by refine Nat.lt_of_not_le λj=>?_;rw[u.kB i j]at h;cases h
    rw[f.Pf i g h,f.sV i g λb _ y e=>by grind];rfl
  grind
 have l:c.tape=k:=f.tape;have o:c.drawn=d+(w1.drawn-w.drawn):=f.drawn;have t:=r.os;have s:c.output=w1.output:=by rw[f.out,f.JS];rfl
 cases c;cases w1;simp only at p l o t s;subst p l o t s;rfl
theorem amk(P):J P P.funcs=P:=rfl
theorem abD(P):Fair id P:=⟨λ_ _ e=>e,λ_ _=>rfl,λ_ h=>h⟩
inductive xJ(I:H)(P:bZ)(nm:String->Bool)(b:aZ)(bs:List aZ)(N:Nat):aX->Prop|within{fr:aZ}{cs:List aZ}(h:jP id I P nm N fr fr)(t:ig id I P nm N cs cs):xJ I P nm b bs N<|r fr<|cs++b::bs|back{v:az}(h:S I N v=Z):xJ I P nm b bs N<|r (b.finish v) bs
theorem aEk{P}(S:nU I P P.funcs nm)(O:Same I P P.funcs nm λ_=>False)(J:∀f n,I.cut f n=ai)(g:I.arg=V/\∀f,I.DF f=ai)(y:Whole I w)(K:P.globals.size<w){fr}{cs}(h:jP id I P nm w fr fr)(t:ig id I P nm w cs cs){Q3}{w1}{es}(e:cj P Z (r fr<|cs++b::bs) w=bV Q3 w1 es)(Q0:¬wu Q3):w.drawn<=w1.drawn/\w.heap.size<=w1/\Whole I w1/\xJ I P nm b bs w1 Q3/\∀(c)(d),(∀i,w.drawn+i<w1.drawn->c (d+i)=w.tape (w.drawn+i))->∃j,cj P Z (r fr<|cs++b::bs) (World.re w c d)=bV Q3 (World.re w1 c<|d+(w1.drawn-w.drawn)) j:=by
 have k:∀(c:Nat->Question->Nat)(d:Nat),(∀i,w.drawn+i<w1.drawn->c (d+i)=w.tape (w.drawn+i))->∃p j,cj P Z (r fr<|cs++b::bs) (World.re w c d)=bV Q3 p j/\w.drawn<=w1.drawn/\w.heap.size<=w1/\Whole I w1/\xJ I P nm b bs w1 Q3/\p=World.re w1 c (d+(w1.drawn-w.drawn)):=λc d l=>by
  have:=WU (m:=Z) (m':=Z) (b:=b) (bs:=bs) (B':=b::bs) (ay ⟨b,bs,rfl⟩) ⟨S,O,abD P,K,y.kB,y.lq g.1 c d λi Q1=>l i<|Q1 _ rfl,λi=>rfl⟩ h t;rw[amk,e]at this;rcases this with L|⟨G,Q⟩;.exact absurd L.off Q0
  .obtain⟨Fg,p,s,A,W,o,C,_⟩:=Q (λD hD=>by grind);have E:=C.same y o;cases W with|within x H=>have F:=x.same g.2;have R:=H.same g.2;subst F R;exact⟨p,s,A,G,C.oQ,o.whole,.within x H,E⟩|back z T=>cases z;obtain⟨B,u⟩:=T;rw[Gq]at u;subst u;exact⟨p,s,A,G,C.oQ,o.whole,.back B,E⟩|fin z _=>cases z|cut hf=>grind
 obtain⟨_,_,_,x,h2,Q2,a,_⟩:=k w.tape w.drawn λ_ _=>rfl;refine⟨x,h2,Q2,a,λc d l=>?_⟩;obtain⟨p,j,A,_,_,_,_,F⟩:=k c d l;grind
abbrev qL:=Nat->Question->Nat
section
variable (P:Program) (Done:Goroutine->World->Prop)
def Reach:Nat->aX->ax->Prop|0,g,w=>Done g w|n+1,g,w=>Done g w\/∃g1 w1 es,cj P Z g w=bV g1 w1 es/\¬wu g1/\Reach n g1 w1
inductive Term:aX->ax->Prop|done{g:aX}{w:ax}(h:Done g w):Term g w|step{g:aX}{w:ax}(f:qL->aX×ax)(h:∀τ:qL,(∃es,cj P Z g (World.re w τ 0)=bV (f τ).1 (f τ).2 es)/\¬wu (f τ).1)(t:∀τ,Term (f τ).1 (f τ).2):Term g w
end
section
variable {P:bZ} {Done:aX->ax->Prop} {Inv:aX->ax->Prop}
theorem avK(w)(a σ:qL)(d e):World.re (World.re w a d) σ e=World.re w σ e:=rfl
def ny(l:List<|Question->Nat)(τ:qL):qL:=λi=>if h:i<l.length then l[i]else τ<|i-l.length
structure Lawful(P:bZ)(Done:aX->ax->Prop)(Inv:aX->ax->Prop):Prop where blind:∀g w τ d,Done g w->Done g (World.re w τ d)acF:∀g w τ d,Inv g w->Inv g (World.re w τ d)law:∀g w g1 w1 es,Inv g w->¬Done g w->cj P Z g w=bV g1 w1 es->¬wu g1->w.drawn<=w1.drawn/\Inv g1 w1/\∀(τ:qL)(d:Nat),(∀i,w.drawn+i<w1.drawn->τ (d+i)=w.tape (w.drawn+i))->∃es',cj P Z g (World.re w τ d)=bV g1 (World.re w1 τ<|d+(w1.drawn-w.drawn)) es'
def Trail(P:bZ)(Done:aX->ax->Prop)(n:Nat)(l:List<|Question->Nat)(g:aX)(w:ax)(g':aX)(w':ax):Prop:=∀(τ:qL)(k:Nat),Reach P Done k g (World.re w (ny l τ) 0)->n<=k/\Reach P Done (k-n) g' (World.re w' (ny l τ) l.length)
theorem Trail.nil(g)(w):Trail P Done 0 [] g w g w:=λa k h=>⟨Nat.zero_le _,by grind⟩
theorem agT(l m)(a):ny (l++m) a=ny l (ny m a):=by unfold ny;grind
theorem agS(l)(a)(i):ny l a (l.length+i)=a i:=by unfold ny;grind
theorem Reach.ag2{k}{g}{w}(h:Reach P Done k g w)(b:¬Done g w):∃j,k=j+1/\∃a c d,cj P Z g w=bV a c d/\¬wu a/\Reach P Done j a c:=by cases k with|zero=>exact absurd h b|succ j=>exact⟨j,rfl,h.resolve_left b⟩
def CR(τ:qL)(k:Nat):List<|Question->Nat:=(mR k).map τ
theorem ahO(a)(k):(CR a k).length=k:=by simp[CR]
theorem awG(a σ)(k i)(b:i<k):ny (CR a k) σ i=a i:=by unfold ny;rw[wP<|by grind[ahO]];simp[CR]
theorem Trail.snoc(m:Lawful P Done Inv){n}{l}{g c r}{w w1 d}{b:qL}{es}(h:Trail P Done n l g w c w1)(E:Inv c w1)(u:¬Done c w1)(e:cj P Z c (World.re w1 b 0)=bV r d es)(A:¬wu r):Trail P Done (n+1) (l++CR b d.drawn) g w r d:=by
 intro p k v;rw[agT]at v;obtain⟨C,q⟩:=h (ny (CR b d.drawn) p) k v;obtain⟨j,H,G,I,F,s,B,o⟩:=q.ag2 λx=>u<|m.blind c (World.re w1 (ny l<|ny (CR b d.drawn) p) l.length) w1.tape w1.drawn x;obtain⟨_,_,f⟩:=m.law _ _ _ _ _ (m.acF _ _ _ _ E) (λx=>u<|m.blind c (World.re w1 b 0) w1.tape w1.drawn x) e A;obtain⟨D,y⟩:=f (ny l<|ny (CR b d.drawn) p) l.length (λi z=>by have t:(World.re w1 b 0).drawn=0:=rfl;rw[t,vg]at z;rw[agS,t,vg,awG _ _ _ _ z];rfl);rw[avK]at y;rw[y]at s;cases s;refine⟨by omega,?_⟩;rw[agT,List.length_append,ahO];have:k-(n+1)=j:=by omega
 rw[this];exact o
theorem Trail.goes(f:Lawful P Done Inv){n}{l}{g e}{w w1}(h:Trail P Done n l g w e w1)(u:∀a,∃k,Reach P Done k g<|World.re w a 0)(A:Inv e w1)(t:¬Done e w1)(a:qL):∃p C v,cj P Z e (World.re w1 a 0)=bV p C v/\¬wu p:=by obtain⟨k,z⟩:=u<|ny l a;obtain⟨_,m⟩:=h a k z;have d:=λx=>t<|f.blind e (World.re w1 (ny l a) l.length) w1.tape w1.drawn x;obtain⟨j,E,D,F,B,r,b,q⟩:=m.ag2 d;obtain⟨_,_,c⟩:=f.law _ _ _ _ _ (f.acF _ _ _ _ A) d r b;obtain⟨o,y⟩:=c a 0 (λi G=>by have s:(World.re w1 (ny l a) l.length).drawn=l.length:=rfl;rw[s,vg];show a i=ny l a (l.length+i);rw[agS]);exact⟨_,_,o,y,b⟩
structure PZ where
 g:aX
 w:ax
 l:List (Question->Nat)n:Nat
theorem arv(B:Lawful P Done Inv){g:aX}{w:ax}(X:Inv g w)(M:∀c:qL,∃k,Reach P Done k g<|World.re w c 0):Term P Done g w:=by classical
 refine ou λl=>?_;let j:PZ->Prop:=λs=>Trail P Done s.n s.l g w s.g s.w/\Inv s.g s.w/\¬Term P Done s.g s.w;have f:∀s:PZ,j s->∃J:PZ,j J/\J.n=s.n+1/\∃m,J.l=s.l++m:=λs⟨y,p,Q⟩=>by
  have E:¬Done s.g s.w:=λx=>Q<|.done x;have R:=λc=>y.goes B M p E c;have G:∃c o q u,cj P Z s.g (World.re s.w c 0)=bV o q u/\¬wu o/\¬Term P Done o q:=by
   refine ou λN=>Q ?_;have d:∀c,∃x:aX×ax,((∃u,cj P Z s.g (World.re s.w c 0)=bV x.1 x.2 u)/\¬wu x.1)/\Term P Done x.1 x.2:=λc=>by obtain⟨o,q,u,e,A⟩:=R c;refine⟨(o,q),⟨⟨u,e⟩,A⟩,ou λF=>N ⟨c,o,q,u,e,A,F⟩⟩
   exact .step (λc=>IG<|d c) (λc=>(Aw<|d c).1) λc=>(Aw<|d c).2
  obtain⟨c,o,q,u,e,A,F⟩:=G;have I:=(B.law _ _ _ _ _ (B.acF _ _ c 0 p) (λx=>E<|B.blind s.g (World.re s.w c 0) s.w.tape s.w.drawn x) e A).2.1;exact⟨⟨o,q,s.l++CR c q.drawn,s.n+1⟩,⟨y.snoc B p E e A,I,F⟩,rfl,_,rfl⟩
 let L:PZ:=⟨g,w,[],0⟩;have a:j L:=⟨Trail.nil g w,X,l⟩;let b:Nat->{s:PZ//j s}:=λn=>Nat.rec ⟨L,a⟩ (λ_ s=>⟨IG<|f s.1 s.2,(Aw<|f s.1 s.2).1⟩) n;have N:∀n,(b n).1.n=n:=λn=>by induction n with|zero=>rfl|succ n O=>grind
 have Q1:∀n,∃m,(b<|n+1).1.l=(b n).1.l++m:=λn=>(Aw<|f (b n).1 (b n).2).2.2;have C:∀n k,∃m,(b<|n+k).1.l=(b n).1.l++m:=λn k=>by induction k with|zero=>exact⟨[],by simp⟩|succ k O=>obtain⟨m,hm⟩:=O;obtain⟨S,Q0⟩:=Q1<|n+k;exact⟨m++S,by grind⟩
 let T:qL:=λi=>if h:∃n,i<(b n).1.l.length then(b<|IG h).1.l[i]'(Aw h)elseλ_=>0;have z:∀n m i(y:i<(b n).1.l.length)(p:i<(b m).1.l.length),(b m).1.l[i]=(b n).1.l[i]:=λn m i y p=>by
  rcases Nat.le_total n m with t|t
  .obtain⟨k,rfl⟩:=ahY t;obtain⟨r,D⟩:=C n k;have:(b<|n+k).1.l[i]?=(b n).1.l[i]?:=by rw[D,Er y]
   rw[mq y,mq p]at this;exact tQ this
  .obtain⟨k,rfl⟩:=ahY t;obtain⟨r,D⟩:=C m k;have:(b<|m+k).1.l[i]?=(b m).1.l[i]?:=by rw[D,Er p]
   rw[mq y,mq p]at this;exact(tQ this).symm
 have K:∀n i(v:i<(b n).1.l.length),T i=(b n).1.l[i]:=λn i v=>by have h:∃n,i<(b n).1.l.length:=⟨n,v⟩;show(if h:∃n,i<(b n).1.l.length then(b<|IG h).1.l[i]'(Aw h)elseλ_=>0)=_;rw[wP h];exact z n _ i v _
 obtain⟨k,W⟩:=M T;have H:ny (b<|k+1).1.l (λi=>T<|(b<|k+1).1.l.length+i)=T:=by
  funext i;unfold ny;by_cases v:i<(b<|k+1).1.l.length;.rw[wP v];exact(K (k+1) i v).symm
  .rw[GM v];exact congrArg T<|by omega
 have hb:=(b<|k+1).2.1 (λi=>T<|(b<|k+1).1.l.length+i) k (by rw[H];exact W);grind
end
variable{P:bZ}
theorem asn: "fmt's door, nowhere".startsWith "fmt's door"=Z:=by kernel_rfl
def wall(P:bZ):aZ:={fn:=P.funcs.size,tmps:=#[],todo:=[.call default ai "fmt's door, nowhere" #[]],defers:=[],mode:=.run,kind:=eo}
theorem ado(P)(c):((wall P).raise c).catches P=Z:=by
 unfold Frame.catches Frame.raise wall;have:P.funcs[P.funcs.size]?=V:=by grind
 grind[asn]
def uI(I:H)(P:bZ)(g:aX)(w:ax):Prop:=I0 I [wall P] g w\/∃c,g=r ((wall P).raise c) []
theorem uI.off{g}(h:uI I P g w):wu g:=by
 rcases h with h|⟨c,rfl⟩;.exact h.off
 .exact raise_mode _ _
theorem arR{w0}(i:Whole I w0)(g:js w0 w){r}(p:I.blk w0 r=Z):match((US r).runT P w #[]).1 with|aW c l=>c=[]∧∃e,e.heap.size=w0.heap.size∧Whole I e∧js e l|dM _ _=>True:=by
 obtain⟨d,m⟩:=H.ji.1 p;have k:=(g.2 r d).trans<|gW d;have n:=i.blk r _ (gW d) m;generalize w0.heap[r]=o at k n;show match(fu P (Sem.getObj r λo=>match o with|uA<|U c=>Sem.setObj r (uA V)<|Sem.pure c|_=>Sem.halt<|.stuck "range over a function: the deferred calls have been taken") w #[]).1 with|aW c l=>_|dM _ _=>True;rw[AH];simp only[k];cases o<;>try exact trivial
 rename_i c;cases c with|none=>exact trivial|some c=>
  have h:c=[]:=by grind[er]
  subst h;dsimp only;rw[AH];simp only[k];rw[fu];refine⟨rfl,{w0 with heap:=w0.heap.setIfInBounds r<|uA V},by simp,⟨λb o f j=>?_,λb f=>i.kB b<|by grind⟩,by simpa using g.1,λb f=>?_⟩
  ·simp only[YU,vj]at f⊢;split at f;·grind[er]
   ·exact i.blk b o f j
  ·simp only[YU,vj]at f⊢;have q:=g.1;by_cases E:r=b;·grind
   ·rw[if_neg E,if_neg E];exact g.2 b f
theorem ayb{g m}{w1}{es}(h:uI I P g w)(e:cj P Z g w=bV m w1 es):uI I P m w1:=by
 rcases h with⟨f,k,c,H,rfl,v,o,G,u,B⟩|⟨c,rfl⟩
 .have b:unwind P Z f (k++[wall P]) V w=bV m w1 es:=by rw[<-e];unfold cj r;grind
  unfold unwind at b;cases j:f.defers with
  |cons d J=>rw[j]at o b;obtain⟨T,rfl,E⟩:=o d (by simp);have A:=arR (P:=P) u B E;dsimp only at b;generalize(US T).runT P w #[]=R at A b;obtain⟨x,C⟩:=R;cases x with|halt y K=>cases b|ok l K=>
    obtain⟨rfl,q,F,s,n⟩:=A;cases b;refine ay ⟨{f with defers:=[]++J},k,c,q,rfl,v,λd p=>?_,λx L=>?_,s,n⟩;.rw[F];exact o d<|vh _ p
    grind
  |nil=>
   rw[j]at b;simp only[v]at b;split at b;.cases b
   .cases k with|nil=>cases b;exact aB ⟨c,rfl⟩|cons x k=>cases b;obtain⟨z,i⟩:=raise_mode x c;exact ay ⟨x.raise c,k,z,H,rfl,i,by grind[MW],λy D=>G y<|by simp[D],u,B⟩
 .exfalso;obtain⟨z,i⟩:=raise_mode (wall P) c;have b:unwind P Z ((wall P).raise c) [] V w=bV m w1 es:=by rw[<-e];unfold cj r;grind
  unfold unwind at b;have t:((wall P).raise c).defers=[]:=by rw[MW];rfl
  rw[t]at b;simp only[i,ado,gL]at b;cases b
def Plain(Q:aX->ax->Prop):GStep->Prop|bV g w _=>Q g w|fy _ _ _=>True|_=>False
theorem ayc{g}(h:uI I P g w):Plain (uI I P)<|cj P Z g w:=by
 have b:∀A,cj P Z g w=A->Plain (λ_ _=>True) A->Plain (uI I P) (cj P Z g w):=λA e n=>by
  rw[e];cases A<;>first|exact n|skip
  exact ayb h e
 refine b _ rfl ?_;rcases h with⟨f,k,c,z,rfl,q,o,v,s,y⟩|⟨c,rfl⟩
 .have l:cj P Z (r f<|k++[wall P]) w=unwind P Z f (k++[wall P]) V w:=by unfold cj r;grind
  rw[l];unfold unwind;cases i:f.defers with|cons d t=>rw[i]at o;obtain⟨A,rfl,n⟩:=o d (by simp);dsimp only;generalize(US A).runT P w #[]=R;obtain⟨x,p⟩:=R;cases x<;>exact trivial|nil=>
   simp only[q];split;.exact trivial
   .cases k<;>exact trivial
 .obtain⟨u,j⟩:=raise_mode (wall P) c;have l:cj P Z (r ((wall P).raise c) []) w=unwind P Z ((wall P).raise c) [] V w:=by unfold cj r;grind
  rw[l];unfold unwind;have m:((wall P).raise c).defers=[]:=by rw[MW];rfl
  rw[m];simp only[j,ado,gL];exact trivial
theorem Ge{fr fr'}{cs cs'}{w w'}{es}(h:cj P Z (r fr cs) w=bV (r fr' cs') w' es):step P (iZ fr cs w)=fR (iZ fr' cs' w'):=by refine step_lone_go ?_;show(cj P Z (r fr cs) w).bare=_;rw[h];rfl
theorem Re{fr}{cs}{w w'}{o}{es}(h:cj P Z (r fr cs) w=fy o w' es):step P (iZ fr cs w)=.ended o w':=by refine step_lone_ended ?_;show(cj P Z (r fr cs) w).bare=_;rw[h];rfl
theorem uI.form{g}(h:uI I P g w):∃b a,g=r b a:=by rcases h with⟨f,a,c,d,rfl,_⟩|⟨c,rfl⟩;all_goals grind
theorem YF{f:aZ}{C:List aZ}{w0:ax}(p:f.mode=fI):∀(n:Nat)(fr:aZ)(cs:List aZ)(w:ax),uI I P (r fr cs) w->runN P n (iZ fr cs w)≠fR (iZ f C w0)
 |0,fr,cs,w,h,e=>by
  have:iZ fr cs w=iZ f C w0:=by simpa[runN]using e
  have q:fr=f:=by have:=congrArg (λm:Machine=>m.gs[0]?.map (·.frame)) this;simpa[iZ]using this
  obtain⟨c,k⟩:=h.off;have:fr.mode=.panicking c:=k;grind|n+1,fr,cs,w,h,e=>by
  have b:=ayc h;cases i:cj P Z (r fr cs) w<;>rw[i]at b<;>try exact b.elim
  ·rename_i A j l;obtain⟨d,g,rfl⟩:=uI.form b;rw[runN,Ge i]at e;exact YF p n d g j b e
  ·rename_i o j l;rw[runN,Re i]at e;cases e
theorem aw6:Extern.next "fmt's door, nowhere"=V:=by kernel_rfl
theorem Mr(v)(w):∃o b a,cj P Z (r ((wall P).finish v) []) w=fy o b a:=by unfold cj r;show∃o b a,xz P Z Z ((wall P).finish v) [] V w=fy o b a;unfold xz;show∃o b a,(Extern.next "fmt's door, nowhere").elim _ _=fy o b a;rw[aw6];exact⟨_,_,_,rfl⟩
theorem ak2(y:nU I P P.funcs nm)(s:Same I P P.funcs nm λ_=>False)(k:∀f n,I.cut f n=ai)(b:I.arg=V∧∀f,I.DF f=ai)(j:Whole I w)(p:P.globals.size<w){g}(h:xJ I P nm (wall P) [] w g):Plain (λl c=>uI I P l c∨xJ I P nm (wall P) [] c l∧Whole I c∧w.heap.size<=c)<|cj P Z g w:=by cases h with|back G=>obtain⟨o,c,H,e⟩:=Mr (P:=P) _ w;rw[e];exact trivial|within h t=>
  have S:we id I V P P.funcs nm (λ_=>False) w<|World.re w w.tape w.drawn:=⟨y,s,abD P,p,j.kB,j.lq b.1 w.tape w.drawn λ_ _=>rfl,λi=>rfl⟩;have:=WU (m:=Z) (m':=Z) (b:=wall P) (bs:=[]) (B':=[wall P]) (ay ⟨wall P,[],rfl⟩) S h t;rw[amk]at this;generalize cj P Z (r _<|_++[wall P]) w=L at this⊢;cases L<;>first|exact trivial|exact this.elim|skip
  rcases this with v|⟨_,u⟩;·exact ay<|ay v
  ·obtain⟨F,J,q,_,C,d,E,_⟩:=u (λD A=>by cases A);refine aB ⟨?_,d.whole,E.oQ⟩;cases C with|within B x=>exact .within B.yM x.yM|back _ z=>exact .back z.1|fin m _=>cases m|cut K=>grind
theorem xJ.form{b}{bs}{g}(h:xJ I P nm b bs N g):∃c a,g=r c a:=by cases h with|within h t=>grind|back h=>grind
theorem jP.axN{ρ}{q}{a c}(h:jP ρ I q nm N a c):a.mode=.run∨a.mode=fI:=h.elim (·.xV) (·.xV)
theorem xJ.awU{g}(h:xJ I P nm (wall P) [] N g):¬wu g:=by rintro⟨c,a⟩;cases h with|within h t=>have b:=h.axN;grind[r]|back h=>cases a
def Br(P:bZ)(R:az->ax->Prop)(g:aX)(w:ax):Prop:=∃v,g=r ((wall P).finish v) []/\R v w
theorem af5(A:nU I P P.funcs nm)(u:Same I P P.funcs nm λ_=>False)(i:∀L n,I.cut L n=ai)(b:I.arg=V∧∀L,I.DF L=ai){R:az->ax->Prop}{f:aZ}{w0:ax}{v:az}(E:f.leaving P w0<|bj v)(C:R v w0):∀(n:Nat)(fr:aZ)(cs:List aZ)(w:ax),xJ I P nm (wall P) [] w.heap.size (r fr cs)->Whole I w->P.globals.size<w.heap.size->runN P n (iZ fr cs w)=fR (iZ f [wall P] w0)->Reach P (Br P R) (n+1) (r fr cs) w
 |0,fr,cs,w,B,t,s,e=>by
  have K:iZ fr cs w=iZ f [wall P] w0:=by simpa[runN]using e
  have q:step P (iZ fr cs w)=fR (iZ ((wall P).finish v) [] w0):=by grind[step_leave_returned]
  have j:=ak2 A u i b t s B;refine aB ?_;cases k:cj P Z (r fr cs) w<;>rw[k]at j<;>try exact j.elim
  ·rename_i J l T;obtain⟨d,g,rfl⟩:=j.elim uI.form λh=>h.1.form;rw[Ge k]at q;have x:iZ d g l=iZ ((wall P).finish v) [] w0:=by grind
   have G:d=(wall P).finish v:=by have:=congrArg (λm:Machine=>m.gs[0]?.map (·.frame)) x;simpa[iZ]using this
   have z:g=[]:=by have:=congrArg (λm:Machine=>m.gs[0]?.map (·.callers)) x;simpa[iZ]using this
   have y:l=w0:=congrArg Machine.world x;subst G z y;refine⟨_,_,T,rfl,?_,v,rfl,C⟩;rintro⟨c,z⟩;cases z
  ·rename_i o l T;rw[Re k]at q;cases q|n+1,fr,cs,w,B,t,s,e=>by
  have j:=ak2 A u i b t s B;refine aB ?_;cases k:cj P Z (r fr cs) w<;>rw[k]at j<;>try exact j.elim
  ·rename_i J l T;obtain⟨d,g,rfl⟩:=j.elim uI.form λh=>h.1.form;rw[runN,Ge k]at e;rcases j with p|⟨D,H,F⟩;·exact absurd e<|YF E.1 n d g l p
   ·exact⟨_,_,T,rfl,D.awU,af5 A u i b E C n d g l D H (cB s F) e⟩
  ·rename_i o l T;rw[runN,Re k]at e;cases e
def aGP(I:H)(P:bZ)(nm:String->Bool)(g:aX)(w:ax):Prop:=xJ I P nm (wall P) [] w.heap.size g/\Whole I w/\P.globals.size<w.heap.size
theorem lawful(s:nU I P P.funcs nm)(q:Same I P P.funcs nm λ_=>False)(b:∀f n,I.cut f n=ai)(a:I.arg=V/\∀f,I.DF f=ai){R}(u:∀v w c d,R v w->R v (World.re w c d)):Lawful P (Br P R)<|aGP I P nm:=by
 refine⟨?_,?_,?_⟩;.rintro g w c d⟨v,C,l⟩;exact⟨v,C,u v w c d l⟩
 .rintro g w c d⟨k,j,i⟩;exact⟨k,⟨j.blk,j.kB⟩,i⟩
 .rintro g w F E D⟨k,j,i⟩_ e p;cases k with|back l=>obtain⟨o,G,m,r⟩:=Mr (P:=P) _ w;rw[r]at e;cases e|within h t=>obtain⟨z,B,A,x,y⟩:=aEk s q b a j i h t e p;exact⟨z,⟨x,A,cB i B⟩,y⟩
theorem arw(o:nU I P P.funcs nm)(k:Same I P P.funcs nm λ_=>False)(b:∀f n,I.cut f n=ai)(a:I.arg=V/\∀f,I.DF f=ai){R}(t:∀v w h d,R v w->R v (World.re w h d)){f}{i}(j:Whole I w)(l:P.globals.size<w)(A:I.T f=Z)(u:∃m c,P.funcs[f]?=U m/\m.body=U c)(s:∀v∈i,S I w v=Z)(C:∀h:qL,bz P f i (World.re w h 0) λe p=>∃v,e=bj v/\R v p):Term P (Br P R) (r (eP P f i eo) [wall P]) w:=by have g:xJ I P nm (wall P) [] w<|r (eP P f i eo)<|[]++wall P::[]:=.within (ay<|fb.A1 (fs:=P.funcs) k A (λx=>x) u ⟨s,(Nc i).symm⟩) .nil;refine arv (lawful o k b a t) ⟨g,j,l⟩ λh=>?_;obtain⟨e,p,B,⟨v,rfl,q⟩,⟨n,y⟩,_,z⟩:=C h [wall P];exact⟨n+1,af5 o k b a z q n _ _ _ g ⟨j.blk,j.kB⟩ l y⟩
variable{ρ σ:Nat->Nat}{v':ax}
theorem RV.re(h:∀b,b<N->ρ b=σ b){x x'}(a:RV ρ I N x x'):RV σ I N x x':=⟨a.1,a.2.trans<|Ea h a.1⟩
theorem bD.re(h:∀b,b<N->ρ b=σ b){x x'}(a:bD ρ I N x x'):bD σ I N x x':=⟨a.1,a.2.trans<|Np λy c=>Ea h<|a.1 y c⟩
theorem avs(h:∀b,b<N->ρ b=σ b){i}(a:tO I q nm N i=Z):jc ρ i=jc σ i:=by
 cases i<;>try rfl
 all_goals simp only[tO,H.blk,cG,eU]at a;grind[jc]
theorem fb.re(h:∀b,b<N->ρ b=σ b){a b}(x:fb ρ I q nm N a b):fb σ I q nm N a b:=by
 obtain⟨s,y,t,n,j,⟨l,m,z,o⟩,k,f,d,e,c,g⟩:=x;refine⟨s,y,t.re h,n.trans<|Ke λi p=>avs h<|j i p,j,⟨l,m,z,o.trans<|Ke λr u=>?_⟩,k,f,d,e,?_,g⟩;.grind[H.ji]
 .rw[c];cases u:a.roundOf with|none=>rfl|some l=>grind[H.ji]
theorem fU.re(h:∀b,b<N->ρ b=σ b){a b}(r:fU ρ I q nm N a b):fU σ I q nm N a b:=by obtain⟨o,s,p,c,x,m,u,n,l,j,g,i,e,k⟩:=r;exact⟨o,s,p,⟨c.size,λt v f d=>⟨(c.here t v f d).1,by rw[(c.here t v f d).2,Ea h (c.here t v f d).1]⟩,c.arg⟩,x,m,u,n,l,j,g,i,e,k⟩
theorem jP.re(h:∀b,b<N->ρ b=σ b){a b}(c:jP ρ I q nm N a b):jP σ I q nm N a b:=c.imp (·.re h) (·.re h)
theorem pI.re(h:∀b,b<N->ρ b=σ b){a b}(c:pI ρ I q nm N a b):pI σ I q nm N a b:=c.imp (·.re h) λc=>⟨c.1.re h,c.2⟩
theorem ig.re(h:∀b,b<N->ρ b=σ b){l m}(hs:ig ρ I q nm N l m):ig σ I q nm N l m:=by induction hs with|nil=>exact .nil|cons a _ c=>exact .cons (a.re h) c
def rz(ρ:Nat->Nat)(N K:Nat):Nat->Nat:=λb=>if b<N then ρ b else K+(b-N)
theorem Pn(ρ)(N K b)(h:b<N):ρ b=rz ρ N K b:=by unfold rz;grind
theorem alY(ρ)(N K i):rz ρ N K (N+i)=K+i:=by unfold rz;grind
theorem Fair.rz(h:Fair ρ q){N K}(d:∀b,b<N->ρ b<K)(g:q.globals.size<N):Fair (rz ρ N K) q:=by
 have i:q.globals.size<K:=by have:=d _ g;rw[h.fix _<|aQ _]at this;grind
 refine⟨λa b e=>?_,λb f=>?_,λb f=>?_⟩
 .unfold YtpdbmpbmepkikaaGreatDoor.rz at e;split at e<;>split at e;.exact h.inj a b e
  all_goals grind
 .rw[<-Pn ρ N K b<|by omega];exact h.fix b f
 .unfold YtpdbmpbmepkikaaGreatDoor.rz;split;.exact h.over b f
  .omega
theorem dO.rz{L}(h:dO ρ I L w v)(d:∀b,b<w.heap.size->ρ b<v')(c:v'.os=v.os)(j:∀b,b<w.heap.size->I.F b=Z->v'.heap[ρ b]?=v.heap[ρ b]?)(f:∀A,I.arg=U A->v'.heap[A.g]?=v.heap[A.g]?):dO (rz ρ w v') I V {w with tape:=λi=>v'.tape<|v'.drawn+i,drawn:=0} v':=by
 refine⟨c.trans h.os,λi _=>by simp,λa b e=>?_,λb o n l=>?_,h.kB,λA m=>?_⟩
 .unfold YtpdbmpbmepkikaaGreatDoor.rz at e;split at e<;>split at e;.exact h.inj a b e
  all_goals grind
 .have k:b<w:=by grind
  obtain⟨p,s⟩:=h.blk b o n l;grind[Pn,XJ]
 .obtain⟨u,r,t,x⟩:=h.arg A m;grind[Pn,Array.getElem?_eq_some_iff]
theorem agq(c:Array az):(∃a b,c=#[a,b])\/∀a b,c≠#[a,b]:=by grind
theorem XR(t):(J q fs).packed t=q.packed t:=by unfold Program.packed Program.packedAs;simp only[anw];rfl
theorem aA2(d):∀t,(J q fs).holdsPacked d t=q.holdsPacked d t:=by induction d with|zero=>intro t;rfl|succ d b=>intro t;rw[Program.holdsPacked,Program.holdsPacked];simp only[b,XR];rfl
theorem axQ(d):∀t,(J q fs).methodsOfAPack d t=q.methodsOfAPack d t:=by induction d with|zero=>intro t;rfl|succ d b=>intro t;rw[aE1,aE1];simp only[b,XR];rfl
open Go.Extern.Rtype
theorem Rp(b)(t):W ρ I (J q fs) q RU N (noPack b t)<|noPack b t:=by
 refine W.bind' mG ?_;rintro M p c d⟨rfl,rfl⟩;rw[XR];split;.exact iG _ _
 .exact .pure' trivial
theorem atj(b)(t):W ρ I (J q fs) q RU N (noPackHeld b t)<|noPackHeld b t:=by
 refine W.bind' mG ?_;rintro M _ _ f⟨rfl,rfl⟩;refine W.bind' mG ?_;rintro K p c e⟨rfl,rfl⟩;have d:(J c fs).depth=c.depth:=rfl;rw[aA2,d];split;.exact iG _ _
 .exact .pure' trivial
theorem MH(b)(t):W ρ I (J q fs) q RU N (noPackMethods b t)<|noPackMethods b t:=by
 refine W.bind' mG ?_;rintro M _ _ f⟨rfl,rfl⟩;refine W.bind' mG ?_;rintro K p c e⟨rfl,rfl⟩;have d:(J c fs).depth=c.depth:=rfl;rw[axQ,d];split;.exact iG _ _
 .exact .pure' trivial
theorem MI(t):W ρ I (J q fs) q RD N (typeInfo t)<|typeInfo t:=(rO t).mono λ_ _ _ _ h=>h.1
theorem Jv(t):W ρ I (J q fs) q RD N (under t)<|under t:=by
 refine W.bind' (MI t) ?_;rintro M i _ c rfl;split;.refine W.bind' (MI _) ?_;rintro K j _ b rfl;exact .pure' rfl
 .exact .pure' rfl
theorem Rr(t):W ρ I (J q fs) q RD N (Lp t)<|Lp t:=by refine W.bind' (Jv t) ?_;rintro M i _ b rfl;dsimp only;split<;>first|exact .pure' rfl|grind[T]
theorem aeV(t):W ρ I (J q fs) q RD N (hasName t)<|hasName t:=by refine W.bind' (MI t) ?_;rintro M i _ b rfl;split<;>exact .pure' rfl
theorem ae7(t):W ρ I (J q fs) q RD N (elem? t)<|elem? t:=by refine W.bind' (Jv t) ?_;rintro M i _ b rfl;split<;>exact .pure' rfl
theorem Xg(t u):W ρ I (J q fs) q RD N (implements t u)<|implements t u:=by
 refine W.bind' (MH _ _) ?_;rintro _ _ _ _ _;refine W.bind' (MH _ _) ?_;rintro _ _ _ _ _;refine W.bind' (Jv t) ?_;rintro M i _ c rfl;refine W.bind' (Jv u) ?_;rintro K j _ b rfl;split;.exact .pure' rfl
 .refine W.bind' (MI u) ?_;rintro K j _ b rfl;exact .pure' rfl
 .exact .pure' rfl
theorem ae8(t u):W ρ I (J q fs) q RD N (Lx t u)<|Lx t u:=by
 unfold Lx;split;.exact .pure' rfl
 .refine W.bind' (aeV t) ?_;rintro M a _ e rfl;refine W.bind' (aeV u) ?_;rintro K b _ d rfl;split;.exact .pure' rfl
  .refine W.bind' (Jv t) ?_;rintro M i _ e rfl;refine W.bind' (Jv u) ?_;rintro K j _ d rfl;dsimp only;split<;>exact .pure' rfl
section
variable (sx:Fair ρ q) (EY:q.globals.size<N) (Hr:I.F q.globals.size=true)
include sx EY Hr
theorem RV.handle(t):RV ρ I N (typeHandle (J q fs) t)<|typeHandle q t:=by refine RV.ptr (a:=⟨q.globals.size,t,V⟩) ⟨H.ji.2 ⟨EY,Hr⟩,?_⟩;show(⟨q.globals.size,t,V⟩:eF)={block:=ρ q.globals.size,off:=t,spot:=V};rw[sx.fix _<|aQ _]
theorem aeW(t):W ρ I (J q fs) q (RV ρ I) N (handle t)<|handle t:=by refine W.bind' mG ?_;rintro M p b c⟨rfl,rfl⟩;exact .pure'<|RV.handle sx (by omega) Hr t
end
theorem WY(d:Fair ρ q){h f}(i:RV ρ I N h f):W ρ I (J q fs) q RD N (ofHandle h)<|ofHandle f:=by
 refine W.bind' mG ?_;rintro M p c k⟨rfl,rfl⟩;obtain⟨l,rfl⟩:=i;have e:handleType c (F ρ h)=handleType (J c fs) h:=by
  cases h<;>try rfl
  rename_i a;cases a with|none=>rfl|some a=>
   show(if ρ a.block==c.globals.size then U a.off else V)=if a.block==c.globals.size then U a.off else V;have:(ρ a.block==c.globals.size)=(a.block==c.globals.size):=by
    by_cases g:a.block=c.globals.size;.rw[g,d.fix _<|aQ _]
    .have j:ρ a.block≠c.globals.size:=λe=>g<|d.inj _ _<|e.trans (d.fix _<|aQ _).symm;grind
   grind
 rw[e];split<;>first|exact .pure' rfl|grind[T]
theorem atQ(b):W ρ I (J q fs) q RD N (cutType b)<|cutType b:=by refine W.bind' mG ?_;rintro M p c d⟨rfl,rfl⟩;show W ρ I (J c fs) c RD M (match c.cutTypes.find? (·.1==b)with|some (_,t)=>_|none=>_) _;cases c.cutTypes.find? (·.1==b)<;>first|exact .pure' rfl|grind[T]
instance aKI(b):Calm<|cutType b:=by
 refine .bind IJ λp=>?_;split;.exact .pure _
 .exact .halt rfl
theorem aFy(b)(t):Calm<|noPackNamed b t:=by
 refine .bind IJ λp=>.bind IJ λc=>?_;split;.exact .halt rfl
 .exact .pure _
instance aKH(t):Calm<|spelt t:=.bind (aFy _ _) λ_=>amU t
theorem ama{b}(p)(v):u p (goPanic v:cz b):=.halt _
theorem UI{b}(p)(m):u p (panicString m:cz b):=u.then _ λ_=>ama _ _
theorem Iv{c}(p)(m)(k):u p (CU m k:cz c):=u.then _ λt=>u.then _ λe=>u.then _ λa=>ama _ _
open Go.Extern Go.Extern.ReflectliteType Go.Extern.ReflectliteValue
section
variable (sx:Fair ρ q) (EY:q.globals.size<N) (Hr:I.F q.globals.size=true)
include sx EY Hr
theorem WR(t):W ρ I (J q fs) q (RV ρ I) N (UU t)<|UU t:=by
 refine W.bind' (atQ _) ?_;rintro M d _ c rfl;refine W.bind' (aeW sx (by omega) Hr t) ?_;rintro K h e f b;refine .pure' ⟨?_,?_⟩;.have:=(RV.agg<|bD.nil.push b).1;simpa[S]using this
 .rw[b.2];simp[F,yL]
theorem aeN(t){a a'}(f:RA ρ I N a a')(c):W ρ I (J q fs) q (RV ρ I) N (amA t a c)<|amA t a' c:=by refine W.bind' (aeW sx EY Hr t) ?_;rintro K h g i d;refine W.bind' (Rr t) ?_;rintro M k _ e rfl;refine .pure'<|RV.agg<|((bD.nil.push<|d.mono e).push<|RV.ptr<|f.mono<|by omega).push<|RV.plain rfl
theorem aeF(e:∀b,N<=b->I.F b=Z){x x'}(c:RV ρ I N x x'):W ρ I (J q fs) q (RV ρ I) N (Ps x)<|Ps x':=by
 obtain⟨d,rfl⟩:=c;cases x<;>first|exact T _ _|exact .pure'<|RV.plain rfl|skip
 rename_i t v;refine W.bind' (Xa e t ⟨by simpa[S]using d,rfl⟩) ?_;grind[aeN]
end
def RPt(ρ:Nat->Nat)(I:H)(N:Nat)(o o':Option<|dV×eF×Nat):Prop:=o=V/\o'=V\/∃t a a' E,o=U (t,a,E)/\o'=U (t,a',E)/\RA ρ I N a a'
theorem ago(h)(a)(f)(c:f≠0):ab4 (bO #[h,aF<|U a,Y cP f])=(do bI<|U (<-ofHandle h,a,f.toNat)):=by
 rcases f with(_|n)|n;.grind
 .rfl
 .rfl
theorem awd(x):(∃h p,x=bO #[h,p,Y cP 0])\/(∃h a f,x=bO #[h,aF<|U a,Y cP f]/\f≠0)\/ab4 x=stuck "reflectlite: a Value expected":=by
 cases x<;>try exact aB<|aB rfl
 rename_i c;rcases c with⟨_|⟨h,_|⟨p,_|⟨k,_|⟨z,l⟩⟩⟩⟩⟩<;>try exact aB<|aB rfl
 cases k with
 |int k f=>
  cases k<;>try(cases p<;>first|exact aB<|aB rfl)
  rcases f with(_|n)|n;.grind
  all_goals
   cases p<;>try exact aB<|aB rfl
   rename_i o;cases o with|none=>exact aB<|aB rfl|some a=>grind
 |_=>cases p<;>first|exact aB<|aB rfl
theorem aeK(c:Fair ρ q){x x'}(k:RV ρ I N x x'):W ρ I (J q fs) q (RPt ρ I) N (ab4 x)<|ab4 x':=by
 obtain⟨j,rfl⟩:=k;rcases awd x with⟨h,p,rfl⟩|⟨h,a,f,rfl,g⟩|e;.exact .pure'<|ay ⟨rfl,rfl⟩
 .have d:=bD.Ei (ρ:=ρ) j;have l:F ρ (bO #[h,aF<|U a,Y cP f])=bO #[F ρ h,aF<|U<|dA ρ a,Y cP f]:=by simp[F,yL]
  rw[l,ago _ _ _ g,ago _ _ _ g];refine W.bind' (WY c (h:=h) ⟨d.1 _<|by simp,rfl⟩) ?_;rintro M t _ i rfl;exact .pure'<|aB ⟨t,a,_,_,rfl,rfl,⟨H.ey (by have:=d.1 (aF<|U a) (by simp);simpa[S]using this) i,rfl⟩⟩
 grind[T]
theorem WW(c:Fair ρ q){x x'}(f:RV ρ I N x x'):W ρ I (J q fs) q (RPt ρ I) N (Iy x)<|Iy x':=by
 refine W.bind' (aeK c f) ?_;rintro M o j i(⟨rfl,rfl⟩|⟨t,a,d,e,rfl,rfl,h⟩);.exact .pure'<|ay ⟨rfl,rfl⟩
 .refine W.bind' (Rp _ t) ?_;rintro K _ _ g _;exact .pure'<|aB ⟨t,a,d,e,rfl,rfl,h.mono g⟩
theorem M0(c:Array az):(∃a,c=#[a])\/∀a,c≠#[a]:=by grind
theorem Xd(n:Fair ρ q){g d}{f f'}(s:∀M,N<=M->W ρ I (J q fs) q (RV ρ I) M g d)(v:∀M t a m p k,N<=M->RA ρ I M a m->W ρ I (J q fs) q (RV ρ I) M (f t a p k) (f' t m p k)){j i}(h:bD ρ I N j i):W ρ I (J q fs) q (RV ρ I) N (CV g f j)<|CV d f' i:=by
 rcases M0 j with⟨a,rfl⟩|r
 .have e:i=#[F ρ a]:=by rw[h.2];simp
  subst e;refine W.bind' (WW n (x:=a) ⟨h.1 a<|by simp,rfl⟩) ?_;rintro M o x u(⟨rfl,rfl⟩|⟨t,a,m,p,rfl,rfl,w⟩);.grind
  grind
 .rcases j with⟨_|⟨a,_|⟨b,l⟩⟩⟩;.exact T _ _
  .exact absurd rfl<|r a
  .exact T _ _
theorem ato(n:Fair ρ q){g d}{f f'}(s:∀M,N<=M->W ρ I (J q fs) q (RV ρ I) M g d)(v:∀M t a m p k,N<=M->RA ρ I M a m->W ρ I (J q fs) q (RV ρ I) M (f t a p k) (f' t m p k)){j i}(h:bD ρ I N j i):W ρ I (J q fs) q (RV ρ I) N (UX g f j)<|UX d f' i:=by
 rcases M0 j with⟨a,rfl⟩|r
 .have e:i=#[F ρ a]:=by rw[h.2];simp
  subst e;refine W.bind' (aeK n (x:=a) ⟨h.1 a<|by simp,rfl⟩) ?_;rintro M o x u(⟨rfl,rfl⟩|⟨t,a,m,p,rfl,rfl,w⟩);.grind
  grind
 .rcases j with⟨_|⟨a,_|⟨b,l⟩⟩⟩;.exact T _ _
  .exact absurd rfl<|r a
  .exact T _ _
theorem aDK:tw q fs λb=>Ps<|b.getD 0<|bQ #[]:=by intro ρ I N k e m c d g i h;refine aeF e c d k ?_;rw[iM,iM];cases f:g[0]? with|none=>rw[h.get_none f];exact RV.plain rfl|some v=>obtain⟨j,l⟩:=h.get f;rw[l];exact⟨j,rfl⟩
theorem aDM:tw q fs<|UX (CU "reflectlite.Value.Type" 0) λt _ _ _=>UU t:=by intro ρ I N l c i e d j g h;exact ato c (λM f=>.dead<|Iv _ _ _) (λM t a m n k f o=>WR c (by omega) d t) h
theorem aDQ:tw q fs<|CV (CU "reflectlite.Value.IsNil" 0) UR:=by
 intro ρ I N n c j d g m f h;refine Xd c (λM e=>.dead<|Iv _ _ _) (λM t a o s k e i=>?_) h;unfold UR;split;.exact .dead<|u.bind (Iv _ _ _) _
 .refine W.bind' (DU t i) ?_;rintro K v p x⟨l,rfl⟩;cases v with|pointer a=>cases a<;>exact .pure'<|RV.plain rfl|slice a _ _=>cases a<;>exact .pure'<|RV.plain rfl|map r=>cases r<;>exact .pure'<|RV.plain rfl|chan r=>cases r<;>exact .pure'<|RV.plain rfl|_=>exact .pure'<|RV.plain rfl
theorem aDP:tw q fs<|CV (bI<|Y aq 0) λ_ _ _ k=>bI<|Y aq<|Int.ofNat k:=by intro ρ I N l c i d g j f h;exact Xd c (λM e=>.pure'<|RV.plain (v:=Y aq 0) rfl) (λM t a m n k e o=>.pure'<|RV.plain (v:=Y aq<|Int.ofNat k) rfl) h
theorem aDS:tw q fs<|CV (CU "reflectlite.Value.Elem" 0) UT:=by
 intro ρ I N s d B o f w l h;refine Xd d (λM r=>.dead<|Iv _ _ _) (λM t a x C k r m=>?_) h;unfold UT;split;.exact .dead<|u.bind (Iv _ _ _) _
 .refine W.bind' (DU t m) ?_;rintro K v y z j;refine W.bind' (ae7 t) ?_;rintro J e _ n rfl;obtain⟨i,rfl⟩:=j.mono n;by_cases c:k=20;.subst c;exact aeF d (by omega) f λb A=>s b<|by omega ⟨i,rfl⟩
  .by_cases g:k=22
   .subst g;cases v<;>try exact .dead<|Iv _ _ _
    rename_i p;cases p with|none=>exact .pure'<|RV.plain rfl|some p=>cases e with|none=>exact .dead<|Iv _ _ _|some e=>exact aeN d (by omega) f e (RA.rS i) _
   grind
theorem aDL:tw q fs UW:=by
 intro ρ I N n i m d g j f h;rcases M0 j with⟨a,rfl⟩|k
 .have e:f=#[F ρ a]:=by rw[h.2];simp
  subst e;cases a<;>first|exact T _ _|exact .pure'<|RV.plain rfl|skip
  exact WR i d g _
 .rcases j with⟨_|⟨a,_|⟨b,l⟩⟩⟩;.exact T _ _
  .exact absurd rfl<|k a
  .exact T _ _
theorem aDN:tw q fs PM:=by
 intro ρ I N hF w hz Q Q3 G C h;rcases agq G with⟨a,c,rfl⟩|Q1
 .have e:C=#[F ρ a,F ρ c]:=by rw[h.2];simp
  subst e;unfold PM;refine W.bind' (WW w (x:=a) ⟨h.1 a<|by simp,rfl⟩) ?_;rintro M o o' R QZ;refine W.bind' (WW w (x:=c) ⟨ff R<|h.1 c<|by simp,rfl⟩) ?_;rintro K p p' Q2 QY;rcases QZ with⟨rfl,rfl⟩|⟨g,x,x',fl,rfl,rfl,f⟩;.exact iG _ _
  .rcases QY with⟨rfl,rfl⟩|⟨i,y,y',X,rfl,rfl,O⟩;.exact iG _ _
   .dsimp only;split;.exact .dead<|u.bind (.halt _) _
    .refine W.bind' (DU i O) ?_;rintro QW D QX Q0 j;refine W.bind' (ae8 g i) ?_;rintro L b _ E rfl;have t:=f.mono (M:=L) (by omega);have n:∀{K:Nat}{s H:cz Unit},W ρ I (J q fs) q RU K s H->W ρ I (J q fs) q (RV ρ I) K (do s;bI<|bQ #[]:cz az) (do H;bI<|bQ #[]:cz az):=λP=>W.bind' P λ_ _ _ _ _=>.pure'<|RV.plain rfl;cases b with|true=>exact n<|Rl g t<|j.mono E|false=>simp only[ow,ox];refine W.bind' (Xg g i) ?_;rintro J2 b _ r rfl;have A:=t.mono r;have z:=(j.mono E).mono r;cases b with
      |true=>
       simp only[gL];refine W.bind' (Rr i) ?_;rintro J3 k _ v rfl;have Qw:=A.mono v;have m:=z.mono v;split;.obtain⟨B,rfl⟩:=m;cases D<;>first|exact iG _ _|exact n<|Rl g Qw ⟨B,rfl⟩
       .exact n<|Rl g Qw ⟨by simpa[S]using m.1,by rw[m.2];rfl⟩|false=>simp only[ow,ox];exact .dead<|u.then (spelt i) λ_=>u.then (spelt g) λ_=>u.bind (UI _ _) _
 .unfold PM;rcases G with⟨_|⟨a,_|⟨c,_|⟨d,l⟩⟩⟩⟩;.exact T _ _
  .exact T _ _
  .exact absurd rfl<|Q1 a c
  .exact T _ _
theorem WX(d:Fair ρ q){r f}(e:RV ρ I N r f):W ρ I (J q fs) q RD N (ofRtype r)<|ofRtype f:=by
 obtain⟨i,rfl⟩:=e;by_cases e:∃h,r=bO #[h];.obtain⟨h,rfl⟩:=e;refine W.bind' (WY d (h:=h) ⟨(bD.Ei (ρ:=ρ) i).1 _<|by simp,rfl⟩) ?_;rintro M t _ j rfl;refine W.bind' (Rp _ t) ?_;rintro K _ _ k _;exact .pure' rfl
 .cases r<;>try exact T _ _
  rename_i g;rcases g with⟨_|⟨a,_|⟨b,l⟩⟩⟩;.exact T _ _
  .grind
  .exact T _ _
theorem alD{f}(r:∀(ρ)(I)(N),(∀b,N<=b->I.F b=Z)->Fair ρ q->q.globals.size<N->I.F q.globals.size=Z->∀t,W ρ I (J q fs) q (RV ρ I) N (f t)<|f t):tw q fs<|UY f:=by
 intro ρ I N p g n j m i d h;rcases M0 i with⟨a,rfl⟩|k
 .have e:d=#[F ρ a]:=by rw[h.2];simp
  subst e;refine W.bind' (WX g (r:=a) ⟨h.1 a<|by simp,rfl⟩) ?_;rintro M t _ o rfl;grind
 .rcases i with⟨_|⟨a,_|⟨b,l⟩⟩⟩;.exact T _ _
  .exact absurd rfl<|k a
  .exact T _ _
theorem aDO:tw q fs<|UY amz:=alD λρ I N g d b c t=>by refine W.bind' (ae7 t) ?_;rintro M e _ f rfl;cases e with|some e=>grind[WR]|none=>exact .dead<|u.then _ λ_=>UI _ _
theorem aDT:tw q fs (UY λt=>do noPackHeld "Comparable" t;bI<|cx (<-typeInfo t).comparable):=alD λρ I N f d b c t=>by refine W.bind' (atj _ t) ?_;rintro M _ _ e _;refine W.bind' (MI t) ?_;rintro K i _ g rfl;exact .pure'<|RV.plain rfl
theorem alE{i}{f}(s:∀(ρ)(I)(N)t u,W ρ I (J q fs) q RD N (f t u)<|f t u):tw q fs<|Lz i f:=by
 intro ρ I N A j z n r m k h;rcases agq m with⟨a,c,rfl⟩|o
 .have e:k=#[F ρ a,F ρ c]:=by rw[h.2];simp
  subst e;cases c<;>first|exact T _ _|exact .dead<|UI _ _|skip
  rename_i t u;refine W.bind' (WX j (r:=u) ⟨by have:=h.1 (iK t u) (by simp);simpa[S]using this,rfl⟩) ?_;rintro M x _ p rfl;refine W.bind' (WX j (r:=a) ⟨ff p<|h.1 a<|by simp,rfl⟩) ?_;rintro K y _ v rfl;refine W.bind' (s ρ I K x y) ?_;rintro B b _ w rfl;exact .pure'<|RV.plain rfl
 .rcases m with⟨_|⟨a,_|⟨c,_|⟨d,l⟩⟩⟩⟩;.exact T _ _
  .exact T _ _
  .exact absurd rfl<|o a c
  .exact T _ _
theorem aDR:tw q fs<|Lz "Implements" ams:=alE λρ I N a t=>by
 refine W.bind' (Rr a) ?_;rintro M k _ b rfl;split;.exact .dead<|u.bind (UI _ _) _
 .refine W.bind' (MH _ _) ?_;rintro _ _ _ _ _;refine W.bind' (Rp _ _) ?_;grind[Xg]
theorem aDU:tw q fs<|Lz "AssignableTo" ab1:=alE λρ I N u t=>by
 unfold ab1;have d:∀M,W ρ I (J q fs) q RD M (do bI<|(<-Lx u t)||(<-implements u t)) (do bI<|(<-Lx u t)||(<-implements u t)):=λM=>by refine W.bind' (ae8 u t) ?_;rintro K a _ e rfl;refine W.bind' (Xg u t) ?_;rintro A b _ f rfl;exact .pure' rfl
 split;.refine W.bind' (MH _ _) ?_;rintro _ _ _ _ _;refine W.bind' (MH _ _) ?_;grind
 grind
theorem aDV:tw q fs (ab5 λt=>do bI<|Y aq<|<-Lp t):=by
 intro ρ I N p f n i m g d h;rcases M0 g with⟨a,rfl⟩|j
 .have e:d=#[F ρ a]:=by rw[h.2];simp
  subst e;refine W.bind' (WY f (h:=a) ⟨h.1 a<|by simp,rfl⟩) ?_;rintro M t _ o rfl;refine W.bind' (Rp _ t) ?_;rintro _ _ _ _ _;refine W.bind' (Rr t) ?_;rintro K k _ r rfl;exact .pure'<|RV.plain rfl
 .rcases g with⟨_|⟨a,_|⟨b,l⟩⟩⟩;.exact T _ _
  .exact absurd rfl<|j a
  .exact T _ _
end
section
open Go Go.Proofs
def eM:Nat->Code->Code|0,c=>c|n+1,eG _ c=>eM n c|_+1,c=>c
noncomputable def cV(n:Nat):Code:=eM n<|oG.body.getD .skip
def eS:Code->Array dG|dS _ ops _=>ops|eG a _=>eS a|_=>#[]
noncomputable def lD:Code:=match cV 9 with|eG (.block _<|.loop c) _=>c|c=>c
noncomputable def kO:Code:=match eM 2 lD with|.block _ c=>c|c=>c
def eN(dst:Option Tmp)(op:Op)(type:dV):dG:={dst:=dst,op:=op,type:=type,pos:= "",after:=#[],guard:=V}
def Sf:Array dG:=#[eN (U 23) (.load 3<|.global 4) 3,eN (U 24) (.binOp .eql 3 (cy 23) (gO<|Y aG 0) 3) 4]
def Ap:Array dG:=#[eN V (.store 3 (.global 4)<|gO<|Y aG 1) 0,eN (U 25) (.fieldAddr 110 (cy 0) 0) 0,eN (U 26) (.fieldAddr 110 (cy 1) 0) 0]
def JU:Array dG:=#[eN V (.store 3 (.global 4)<|gO<|Y aG 0) 0]
def Sg:Array dG:=#[eN (U 14) (pA<|cy 0) 0,eN (U 15) (pA<|cy 1) 0]
def om:Array dG:=#[eN (U 69) (.call {callee:=.value<|.func 59,args:=#[cy 15,cy 12],argTypes:=#[77,79]}) 79,eN (U 70) (.binOp .eql 79 (cy 69) (gO<|aC V 0 0) 79) 4]
def Ef:Array dG:=#[eN (U 12) (pA<|gO<|aC V 0 0) 79,eN (U 13) (pA<|gO<|cx ai) 4]
def Ee:Array dG:=#[eN (U 12) (pA<|cy 69) 79,eN (U 13) (pA<|gO<|cx Z) 4]
def yR:Array dG:=#[eN (U 72) (.move<|cy 15) 0,eN (U 73) (.move<|cy 14) 0,eN (U 14) (pA<|cy 72) 0,eN (U 15) (pA<|cy 73) 0]
noncomputable def ot:Code:=eG (dS 10 (eS lD) ai)<|eG (.cond (cy 62) .skip<|.exit 0)<|.block 1<|eG (dS 11 (eS kO) ai)<|eG (dS 12 (eS<|eM 1 kO) ai)<|eG (dS 905 om ai)<|eG (.cond (cy 70) (dS 906 Ef ai)<|dS 907 Ee ai)<|dS 908 yR ai
noncomputable def vP:Code:=eG (dS 904 JU ai) .ret
noncomputable def yG:Code:=eG (dS 8 (eS<|cV 7) ai)<|eG (dS 903 Sg ai)<|eG (.block 0<|.loop ot) vP
noncomputable def yw:Code:=.cond (cy 22) (eG (dS 902 JU ai) .ret) .skip
noncomputable def Ga:Code:=eG (dS 0 (eS<|cV 0) ai)<|eG (dS 1 (eS<|cV 1) ai)<|eG yw yG
noncomputable def Dg:Code:=eG (dS 900 Sf ai)<|eG (.cond (cy 24) .skip<|.refuse "a session is under way")<|eG (dS 901 Ap ai) Ga
noncomputable def wG:dY:={oG with body:=U Dg}
noncomputable def iP:Array dY:=((aD.funcs.setIfInBounds 41 wG).setIfInBounds 180 {f180 with body:=U<|.refuse "not here"}).setIfInBounds 181 {f181 with body:=U<|.refuse "not here"}
theorem pg{f}(c:f≠41)(b:f≠180)(a:f≠181):iP[f]?=aD.funcs[f]?:=by unfold iP;grind
end
end Go.Proofs.YtpdbmpbmepkikaaGreatDoor
