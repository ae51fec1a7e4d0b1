/- Laws. -/
import Derived.Test.YtpdbmpbmepkikaaGreatDoorQ16
set_option maxRecDepth 100000
set_option maxHeartbeats 400000
set_option linter.all false
open Go.Proofs.Tryz
open And renaming intro->aM
open Bool renaming true->Y,false->ai
open Decidable renaming decide->cg
open Go renaming World->ay,Value->az,Calls->bz,binOp->fZ
open Go.Ending renaming returned->bj
open Go.IntKind renaming i64->aC
open Go.Obj renaming cells->aH
open Go.Op renaming bytesLess->Ch
open Go.Result renaming ok->aY
open Go.RowKit renaming Below->aW,Hid->dD,wrap64->iJ
open Go.Value renaming int->V,string->aD,slice->aE,pointer->aG,agg->bJ,tuple->bO,bool->bQ
open Option renaming some->U,none->Z
namespace Go.Proofs.YtpdbmpbmepkikaaGreatDoor
def agI:=@List.any_eq_true
def agH:=@Decidable.byContradiction
def RX:=@true_and
section
open Go.RowKit
def yj(x y:O):Bool:=cg (y.name=x.name)&&(cg (y.field=x.field)&&(cg (y=x)||vL y x))
theorem amT{A B X:List O}(sA:j A)(h:xk A B X){x:O}(hx:x∈A):X.any (yj x)=Y:=by
 have f:=Pd sA hx;rw[agI];rcases h x.name x.field with e|e;.rw[f]at e;exact⟨x,(tX e).1,by simp[yj]⟩
 .rw[f]at e;cases b:K B x.name x.field with|none=>rw[b]at e;exact⟨x,(tX e).1,by simp[yj]⟩|some y=>
   rw[b]at e;obtain⟨m,n1,n2⟩:=tX e;refine⟨_,m,?_⟩;unfold yj;rw[n1,n2];unfold Dr;split;.simp[afk, *]
   .simp
theorem aBN(n f v n' f' v':ByteArray)(c r c' r':Int)(W:ay):(fZ .eql 46 (bJ #[aD n',aD f',V aC c',V aC r',aD v'])<|bJ #[aD n,aD f,V aC c,V aC r,aD v]).run Q W=aY (bQ<|cg<|(⟨n',f',c',r',v'⟩:O)=⟨n,f,c,r,v⟩) W:=by have e:∀a b:ByteArray,a.toList=b.toList↔a=b:=λa b=>⟨λh=>agH λk=>acV k h,λh=>h▸rfl⟩;simp only[O.mk.injEq];go_simp;grind
theorem amS(n f v n' f' v':ByteArray)(c r c' r':Int):yj ⟨n,f,c,r,v⟩ ⟨n',f',c',r',v'⟩=ai/\((n'.toList==n.toList)=ai\/n'=n/\(f'.toList==f.toList)=ai\/n'=n/\f'=f/\(c'<c\/c'=c/\(r'<r\/r'=r/\(v'.toList==v.toList)=ai/\Ch v'.toList v.toList=Y)))\/yj ⟨n,f,c,r,v⟩ ⟨n',f',c',r',v'⟩=Y/\n'=n/\f'=f/\(c<c'\/c'=c/\(r<r'\/r'=r/\(v'=v\/(v'.toList==v.toList)=ai/\Ch v'.toList v.toList=ai))):=by have e:∀a b:ByteArray,a.toList=b.toList↔a=b:=λa b=>⟨λh=>agH λk=>acV k h,λh=>h▸rfl⟩;simp only[Jd,ne_eq,e];unfold yj vL NY xE;simp only[O.mk.injEq];cases h:Ch v'.toList v.toList<;>grind
set_option maxHeartbeats 4000000 in
theorem amV(va:az)(l:List O)(x:O)(w:ay)(ha:lC w va l)(hl:l.length<=2000000):bz Q 24 #[va,bJ #[aD x.name,aD x.field,V aC x.c,V aC x.r,aD x.value]] w λe w'=>e=bj (bQ<|l.any<|yj x)/\aW w.heap.size w w':=by
 obtain⟨ad,ca,rfl⟩:=ha.KD;have HA:=X ha;clear ha;obtain⟨n,f,c,r,v⟩:=x;go_enter aoh,ntmps24;go_wp2;go_loopg[5]l.lengthλk s wr=>∃j:Nat,s=V aC j/\k+j=l.length/\aW w.heap.size w wr/\wr.heap[w.heap.size]?=U (aH #[aD n,aD f,V aC c,V aC r,aD v] 46 (0,0))/\(l.take j).any (yj ⟨n,f,c,r,v⟩)=ai;case atStart=>exact⟨0,rfl,by omega,(eo _ _).alloc (aS _) _,iF _ _,by simp⟩
 case round=>
  obtain⟨j,rfl,hk,hB,E,J⟩:=hrel;by_cases hj:j<l.length
  .obtain⟨g,c1,hv,hg,y0,y1,y2,y3,B⟩:=HA.out.cell hj;simp only[oU,RX]at hv;obtain⟨rfl,-⟩:=hv;obtain⟨x,hx⟩:∃x,x=l[j]:=⟨_,rfl⟩;rw[<-hx]at y0 y1 y2 y3 B;have eK:∀i,wr.cell? ⟨g,i,Z⟩=w.cell? ⟨g,i,Z⟩:=λi=>hB.cell (p:=⟨_,_,Z⟩) hg;rw[<-eK]at y0 y1 y2 y3 B;have u0:wr.cell? ⟨w.heap.size,0,Z⟩=U (aD n):=M E 0;have u1:wr.cell? ⟨w.heap.size,1,Z⟩=U (aD f):=M E 1;have u2:wr.cell? ⟨w.heap.size,2,Z⟩=U (V aC c):=M E 2;have u3:wr.cell? ⟨w.heap.size,3,Z⟩=U (V aC r):=M E 3;have u4:wr.cell? ⟨w.heap.size,4,Z⟩=U (aD v):=M E 4;have nB:(j:Int)<(l.length:Int):=by omega
   have hws:w.heap.size<wr.heap.size:=(cU.1 E).1;have hgs:g<wr.heap.size:=by have:=hB.size;omega
   obtain⟨n',f',c',r',v'⟩:=x;simp only at y0 y1 y2 y3 B;have A:=X<|aM hB<|aM E J;have HX:=X hx;clear eK hx hB E J;rcases amS n f v n' f' v' c r c' r' with⟨hW,hc⟩|⟨hW,hc⟩;.have HW:=X hW;clear hW;rcases hc with h1|⟨rfl,h2⟩|⟨rfl,rfl,h3|⟨rfl,h4|⟨rfl,h5,h6⟩⟩⟩;all_goals
     go_wp2;go_roundg(gk-1);case rel=>obtain⟨hB,E,J⟩:=A.out;refine⟨j+1,by go_simp,by omega,hB.alloc (bC hB.size<|aS _) _,(dm _ _ _ hws).trans E,?_⟩;rw[xH,oS hj,By,List.any_append,J,<-HX.out];simp[HW.out]
     case measure=>omega
   .have HW:=X hW;clear hW;rcases hc with⟨rfl,rfl,h3|⟨rfl,h4|⟨rfl,rfl|⟨h5,h6⟩⟩⟩⟩;all_goals go_wp2;go_ret;obtain⟨hB,E,J⟩:=A.out;refine⟨?_,hB.alloc hB.size _⟩;rw[show l.any _=Y from agI.2 ⟨_,HX.out▸lV hj,HW.out⟩];rfl
  .have jw:j=l.length:=by omega
   subst jw;rw[uF]at J;have A:=X<|aM hB J;clear hB J E;go_wp2;go_ret;exact⟨by rw[A.out.2];rfl,A.out.1⟩
set_option maxHeartbeats 2000000 in
theorem ahv(va:az)(l:List O)(x:O)(w:ay)(ha:lC w va l)(hl:l.length<=2000000):bz Q 25 #[va,bJ #[aD x.name,aD x.field,V aC x.c,V aC x.r,aD x.value]] w λe w'=>e=bj (bQ<|cg<|x∈l)/\aW w.heap.size w w':=by
 obtain⟨ad,ca,rfl⟩:=ha.KD;have HA:=X ha;clear ha;obtain⟨n,f,c,r,v⟩:=x;go_enter aog,ntmps25;go_wp2;go_loopg[5]l.lengthλk s wr=>∃j:Nat,s=V aC j/\k+j=l.length/\aW w.heap.size w wr/\wr.heap[w.heap.size]?=U (aH #[aD n,aD f,V aC c,V aC r,aD v] 46 (0,0))/\⟨n,f,c,r,v⟩∉l.take j;case atStart=>exact⟨0,rfl,by omega,(eo _ _).alloc (aS _) _,iF _ _,by simp⟩
 case round=>
  obtain⟨j,rfl,hk,hB,E,J⟩:=hrel;by_cases hj:j<l.length
  .obtain⟨g,c1,hv,hg,y0,y1,y2,y3,y4⟩:=HA.out.cell hj;simp only[oU,RX]at hv;obtain⟨rfl,-⟩:=hv;obtain⟨x,hx⟩:∃x,x=l[j]:=⟨_,rfl⟩;rw[<-hx]at y0 y1 y2 y3 y4;have eK:∀i,wr.cell? ⟨g,i,Z⟩=w.cell? ⟨g,i,Z⟩:=λi=>hB.cell (p:=⟨_,_,Z⟩) hg;rw[<-eK]at y0 y1 y2 y3 y4;have u0:wr.cell? ⟨w.heap.size,0,Z⟩=U (aD n):=M E 0;have u1:wr.cell? ⟨w.heap.size,1,Z⟩=U (aD f):=M E 1;have u2:wr.cell? ⟨w.heap.size,2,Z⟩=U (V aC c):=M E 2;have u3:wr.cell? ⟨w.heap.size,3,Z⟩=U (V aC r):=M E 3;have u4:wr.cell? ⟨w.heap.size,4,Z⟩=U (aD v):=M E 4;have aio:=aBN n f v x.name x.field x.value c r x.c x.r;have nB:(j:Int)<(l.length:Int):=by omega
   have hxe:(⟨x.name,x.field,x.c,x.r,x.value⟩:O)=x:=rfl;obtain⟨q,A⟩:∃q,q=cg (x=⟨n,f,c,r,v⟩):=⟨_,rfl⟩;rw[hxe,<-A]at aio;obtain⟨n',f',c',r',v'⟩:=x;simp only at y0 y1 y2 y3 y4 aio;have B:=X<|aM hB.drew<|aM (show wr.drew.heap[w.heap.size]?=_ from E)<|aM J<|aM A hx;clear eK hx hB E J hxe A;cases q with|true=>go_wp2;go_region_held3λW=>W.cell? ⟨g,j*5,Z⟩=U (aD n')/\W.cell? ⟨g,j*5+1,Z⟩=U (aD f')/\W.cell? ⟨g,j*5+2,Z⟩=U (V aC c')/\W.cell? ⟨g,j*5+3,Z⟩=U (V aC r')/\W.cell? ⟨g,j*5+4,Z⟩=U (aD v')/\W.cell? ⟨w.heap.size,0,Z⟩=U (aD n)/\W.cell? ⟨w.heap.size,1,Z⟩=U (aD f)/\W.cell? ⟨w.heap.size,2,Z⟩=U (V aC c)/\W.cell? ⟨w.heap.size,3,Z⟩=U (V aC r)/\W.cell? ⟨w.heap.size,4,Z⟩=U (aD v)(go_keep)(fail);go_wp2;go_ret;obtain⟨hB,E,J,A,hx⟩:=B.out;refine⟨?_,hB⟩;rw[show cg (_∈l)=Y from MH<|of_decide_eq_true A.symm▸hx▸lV hj];rfl|false=>
    go_wp2;go_region_held3λW=>W.cell? ⟨g,j*5,Z⟩=U (aD n')/\W.cell? ⟨g,j*5+1,Z⟩=U (aD f')/\W.cell? ⟨g,j*5+2,Z⟩=U (V aC c')/\W.cell? ⟨g,j*5+3,Z⟩=U (V aC r')/\W.cell? ⟨g,j*5+4,Z⟩=U (aD v')/\W.cell? ⟨w.heap.size,0,Z⟩=U (aD n)/\W.cell? ⟨w.heap.size,1,Z⟩=U (aD f)/\W.cell? ⟨w.heap.size,2,Z⟩=U (V aC c)/\W.cell? ⟨w.heap.size,3,Z⟩=U (V aC r)/\W.cell? ⟨w.heap.size,4,Z⟩=U (aD v)(go_keep)(fail);go_wp2;go_roundg(gk-1);case rel=>
     obtain⟨hB,E,J,A,hx⟩:=B.out;refine⟨j+1,by go_simp,by omega,hB,E,λhm=>?_⟩;rw[xH,oS hj,By,qP,mA,<-hx]at hm;rcases hm with hm|hm;.exact J hm
     .exact of_decide_eq_false A.symm hm.symm
    case measure=>omega
  .have jw:j=l.length:=by omega
   subst jw;rw[uF]at J;have B:=X<|aM hB J;clear hB J E;go_wp2;go_ret;exact⟨by rw[show cg (_∈l)=ai from decide_eq_false B.out.2];rfl,B.out.1⟩
theorem WT{w w':ay}{v:az}{l:List O}(h:lC w v l)(k:aW w.heap.size w w'):lC w' v l:=dx h λb hb=>k.block b (h.lt b hb).2
set_option maxHeartbeats 8000000 in
theorem aDm(v:az)(l:List jQ)(i n:Int)(w:ay)(h:AW w v l)(hl:l.length<=140737488355328)(hz:∀x∈l,x.n.size<=140737488355328/\x.f.size<=140737488355328/\x.v.size<=140737488355328)(hw:∀x∈l,gu x.who)(hi:gu i)(hn:gu n)(hT:jA w)(ht:fQ w)(hf:sQ w):bz Q 6 #[v,V aC i,V aC n] w λe w'=>e=bj (bQ Y)/\aW w.heap.size w w':=by
 have HC:=X<|VT v l w h hl hz;obtain⟨xw,xu,F7⟩:∃xw xu,v=aE xw l.length xu:=by
  rcases h with⟨⟨ad,cap,rfl⟩,rfl⟩|⟨g,off,cap,rfl,_⟩;.exact⟨_,_,rfl⟩
  .exact⟨_,_,rfl⟩
 subst F7;have h4:4<w.heap.size:=(cU.1 hf).1;cases qV:A9 l with|false=>rw[qV]at HC;clear h hl hz hw hi hn hT ht hf qV;go_enter acw,ntmps6;go_wp2_with(go_at_call 14;go_must(refine HC.out.mono ?_);rintro e w1⟨rfl,gU⟩;have mm:=X gU;clear gU);go_ret;exact⟨rfl,mm.out⟩|true=>
  rw[qV]at HC;obtain⟨lJ,jV⟩:=VS qV;have HH:=X<|aM h<|aM hw<|aM hi<|aM hT<|aM ht<|aM hf<|aM lJ<|aM jV hn;clear h hl hz hw hi hn hT ht hf qV lJ jV;go_enter acw,ntmps6;go_wp2_with(go_at_call 14;go_must(refine HC.out.mono ?_);rintro e w1⟨rfl,gU⟩;have mm:=X gU;clear gU;refine Halt.of ?_);unfold Halt;have Fb:=X<|abv w1 (HH.out.2.2.2.1.below mm.out<|aS _) (HH.out.2.2.2.2.1.below mm.out<|aS _)<|(mm.out.block 4 h4).trans HH.out.2.2.2.2.2.1;clear HC;go_wp2_with(go_at_call 15;go_must(refine Fb.out.mono ?_);rintro e w2⟨rfl,l7⟩;have zC:=X<|mm.out.trans<|l7.mono mm.out.size;clear l7;refine Halt.of ?_);unfold Halt;have zF:=X<|Lv w2;clear Fb;go_wp2_with(go_at_call 16;go_must(refine zF.out.mono ?_);rintro e w3⟨pw,pv,R,rfl,wE,hR,iP⟩;have H3:=X<|aM wE<|aM hR<|zC.out.trans<|iP.mono zC.out.size;clear wE hR iP;refine Halt.of ?_);unfold Halt;clear zF;go_wp2;go_loopg[11]l.lengthλm s9 wr=>∃j:Nat,s9=V aC j/\m+j=l.length/\Lc w2.heap.size l pw pv R w3 j wr;case atStart=>exact⟨0,rfl,by omega,R,[],H3.out.1,.refl _,λk hk=>(H3.out.2.1 k hk).2.1,.refl _ _⟩
  case round=>
   obtain⟨j,rfl,JM,R',ks,qs,ko,kK,mG⟩:=hrel;have jW:w.heap.size<=w2.heap.size:=zC.out.size;have jx:aW w.heap.size w wr:=H3.out.2.2.trans (mG.below H3.out.2.2.size λb hb q=>by have:=H3.out.1.lo q;omega);by_cases hj:j<l.length
   .obtain⟨hS,hw,hi,hT,ht,hf,lJ,jV,-⟩:=HH.out;rcases hS with⟨zb,NL⟩|⟨g,off,cap,zb,hg,hc⟩;.rw[NL]at hj;simp at hj
    simp only[oU]at zb;obtain⟨rfl,-,rfl⟩:=zb;have wm:=lV hj;obtain⟨op,iX⟩:∃op,op=l[j]:=⟨_,rfl⟩;have kc:∀i,i<4->∀u,op.cells[i]?=U u->wr.cell? ⟨g,off+j*4+i,Z⟩=U u:=λi hi u hu=>(jx.cell (p:=⟨g,off+j*4+i,Z⟩) hg).trans (by rw[Nat.add_assoc];exact hc _ _<|by rw[Om hj i hi,<-iX];exact hu);have zE:=X<|TV w2.heap.size j 0 ks wr pw pv R' op qs (λk hk=>by rw[ko.id k];exact(H3.out.2.1 k hk).1) (by omega) (by omega) (by rw[iX];exact hw _ wm) (by rw[iX];have:=jV _ wm;omega) (by rw[iX];have:=jV _ wm;omega)<|hT.below jx<|aS _;have e0:wr.cell? ⟨g,off+j*4,Z⟩=U (V aC op.who):=kc 0 (by omega) _ rfl;have e1:wr.cell? ⟨g,off+j*4+1,Z⟩=U (aD op.n):=kc 1 (by omega) _ rfl;have e2:wr.cell? ⟨g,off+j*4+2,Z⟩=U (aD op.f):=kc 2 (by omega) _ rfl;have e3:wr.cell? ⟨g,off+j*4+3,Z⟩=U (aD op.v):=kc 3 (by omega) _ rfl;have nB:(j:Int)<(l.length:Int):=by omega
    have fg:aC.wrap ((j:Int)+1)=(j:Int)+1:=by rw[mB];omega
    have yS:iJ ((j:Int)+1)=(j:Int)+1:=by unfold iJ;omega
    have J:=X<|aM iX<|aM ko<|aM kK mG;clear hw hi hT ht hf lJ jV hc wm iX kc qs ko kK mG jx;go_wp2_with(go_at_call 17;go_must(refine zE.out.mono ?_);rintro e w7⟨rfl,R7,Yo,E7⟩;have H7:=X E7;clear E7;refine Halt.of ?_);unfold Halt;clear zE;go_wp2;go_roundg(gk-1);case rel=>obtain⟨iX,ko,kK,mG⟩:=J.out;have E:=H7.out;rw[iX]at E;exact⟨j+1,congrArg (V aC)<|by omega,by omega,Lc.next hj ko kK mG E⟩
    case measure=>omega
   .have jw:l.length=j:=by omega
    subst jw;have Em:=HH.out.2.2.1;have ai4:=HH.out.2.2.2.2.2.2.2.2;obtain⟨a,ha⟩:∃a,a=uB i 3:=⟨_,rfl⟩;have ki:a<3:=by rw[ha];exact Mb<|by omega
    obtain⟨b,hb⟩:∃b,b=(a+2)%3:=⟨_,rfl⟩;have iP:b<3:=by omega
    have BY:a≠b:=by omega
    obtain⟨c,hc⟩:∃c,c=uB n 9:=⟨_,rfl⟩;have Fa:dD<|∀W,bz Q 18 #[V aC i,V aC 3] W λe W'=>e=bj (V aC a)/\W'=W:=X λW=>by have:=Me i 3 W (by omega) (by omega) Em;rw[<-ha]at this;exact this
    have amr:dD<|∀W,bz Q 18 #[V aC n,V aC 9] W λe W'=>e=bj (V aC c)/\W'=W:=X λW=>by have:=Me n 9 W (by omega) (by omega) ai4;rw[<-hc]at this;exact this
    have Gj:=HH.out.2.2.2.2.2.2.1;have hm:((a:Int)+2).tmod 3=(b:Int):=by rw[Int.tmod_eq_emod_of_nonneg<|by omega];omega
    have w2':∀z,z=(b:Int)->aC.wrap z=z:=λz hz=>by rw[mB];omega
    have w1:∀z,z=(a:Int)+2->aC.wrap z=z:=λz hz=>by rw[mB];omega
    have w1':∀z,z=(a:Int)+2->iJ z=z:=λz hz=>by unfold iJ;omega
    have F9:(look (R' a).bs (R' b).id).getD (V aC 0)=V aC ((0:Nat):Int):=by
     obtain⟨n,h1,h2⟩:=(qs.eE a ki).Bb (R' b).id;have:n=0:=by omega
     rw[h1,this]
    have sV:=X (qs.bq ki<|by omega);have J:=X<|aM qs<|aM jx<|aM F9 Gj;obtain⟨wo,rfl⟩:∃wo,wo=wr:=⟨wr,rfl⟩;clear Em ai4 ha hb hc Gj qs ko kK mG jx F9;go_wp2_with(go_at_call 18;go_must(refine(Fa.out _).mono ?_);rintro e wV⟨rfl,Ak⟩;subst Ak;refine Halt.of ?_);unfold Halt;clear Fa;go_wp2_with(go_at_call 21;go_must(refine sV.out.mono ?_);rintro e w8⟨v1,rfl,tJ,qY⟩;have H8:=X<|aM tJ qY;clear tJ qY;refine Halt.of ?_);unfold Halt;clear sV;have T8:=J.out.1.below H8.out.2;have sV:=X (T8.bq iP<|by have:=J.out.2.2.2;omega);have HT8:=X T8;clear T8;go_wp2_with(go_at_call 21;go_must(refine sV.out.mono ?_);rintro e w9⟨v2,rfl,yU,NF⟩;have H9:=X<|aM yU NF;clear yU NF;refine Halt.of ?_);unfold Halt;clear sV;go_wp2_with(go_at_call 18;go_must(refine(amr.out _).mono ?_);rintro e w5⟨rfl,Ak⟩;subst Ak;refine Halt.of ?_);unfold Halt;clear amr;have T9:=HT8.out.below H9.out.2;obtain⟨wA,SF⟩:∃wA,wA=w5.alloc (aH #[V aC c] 3):=⟨_,rfl⟩;have Gt:aW w5.heap.size w5 wA:=by rw[SF];exact(eo _ _).alloc (aS _) _
    have TI:aW w.heap.size w w5:=(J.out.2.1.trans<|H8.out.2.mono J.out.2.1.size).trans<|H9.out.2.mono (J.out.2.1.trans<|H8.out.2.mono J.out.2.1.size).size;have hM:Pn wA (aE (U ⟨w5.heap.size,0,Z⟩) 1 1)<|U (c:Int):=by
     refine⟨_,_,_,rfl,aS _,?_,?_⟩;.rw[SF];exact Jk _ _ _ _<|by simp
     .have:=TI.size;omega
    have TK:=TI.trans<|Gt.mono TI.size;have TA:=T9.below Gt;have Px:=X<|TA.QK ki iP BY (by have:=J.out.2.2.2;omega) (n0:=0) (by omega) J.out.2.2.1 (vm:=aE (U ⟨w5.heap.size,0,Z⟩) 1 1) hM (HH.out.2.2.2.2.1.below TK<|aS _)<|(TK.block 4 h4).trans HH.out.2.2.2.2.2.1;have HA:=X<|aM TA<|aM Gt<|aM TK SF;clear T9 Gt TI hM TK TA;go_wp2_with(rw[<-HA.out.2.2.2];go_at_call 23;go_must(refine Px.out.mono ?_);rintro e w9⟨fr,sz,A',B',R9,rfl,hx⟩;have HS:=X hx;clear hx;refine Halt.of ?_);unfold Halt;clear Px;obtain⟨hS,B1,DY,JO,-,-,-,El⟩:=HS.out;have hfc:(fr:Int)<=(c:Int):=hS.cap _ rfl (by omega);have NI:aW w.heap.size w w9:=HA.out.2.2.1.trans (El.below HA.out.2.2.1.size λb hb q=>by have:=HA.out.1.lo q;omega);have hq:∀b,oG R' b->b<wV.heap.size:=λb q=>by
     obtain⟨k,hk,q|q⟩:=q<;>rw[q];.exact(J.out.1.eE k hk).book.lt
     .exact(J.out.1.eE k hk).map.lt
    have BH:qE wV.heap.size w9 v1 (R' a).l:=((H8.out.1.below H9.out.2).below HA.out.2.1).keep El hq;have hu9:qE w8.heap.size w9 v2 (R' b).l:=(H9.out.1.below HA.out.2.1).keep El λb q=>cE (hq b q) H8.out.2.size;have sV:=X (B1.bq ki<|by have:=J.out.2.2.2;omega);have Py:dD<|∀W,aW w9.heap.size w9 W->bz Q 21 #[aG<|U ⟨pw,0,Z⟩,V aC b] W λe W'=>∃v,e=bj (bO #[v,bQ Y])/\qE W.heap.size W' v B'/\aW W.heap.size W W':=X λW hW=>by have:=(B1.below hW).bq iP (by have:=J.out.2.2.2;omega);rwa[JO]at this
    rw[DY]at sV;have Am:(R' a).l.length<=4096:=J.out.1.len (by have:=J.out.2.2.2;omega) ki;have hlB:(R' b).l.length<=4096:=J.out.1.len (by have:=J.out.2.2.2;omega) iP;have aie:A'.length<=4096:=by rw[<-DY];exact B1.len (by have:=J.out.2.2.2;omega) ki
    have aic:B'.length<=4096:=by rw[<-JO];exact B1.len (by have:=J.out.2.2.2;omega) iP
    have Au:∀x∈(R' a).l,A'.any (yj x)=Y:=λx hx=>amT hS.bk.sA hS.bk.bX hx;have Gv:∀x∈B',x∈(R' a).l\/x∈(R' b).l:=λx hx=>(abr hS.bk.sY hS.bk.bY hx).symm;have HJ:=X<|aM NI<|aM BH<|aM hu9<|aM Am<|aM hlB<|aM aie<|aM aic<|aM Au Gv;clear hS B1 DY JO El NI hq BH hu9 Am hlB aie aic Au Gv;go_wp2_with(go_at_call 21;go_must(refine sV.out.mono ?_);rintro e wX⟨v3,rfl,DK,ji⟩;have HX:=X<|aM DK ji;clear DK ji;refine Halt.of ?_);unfold Halt;clear sV;go_wp2_with(go_at_call 21;go_must(refine(Py.out _ HX.out.2).mono ?_);rintro e A⟨v4,rfl,hv4,NC⟩;have HY:=X<|aM hv4 NC;clear hv4 NC;refine Halt.of ?_);unfold Halt;clear Py;obtain⟨P1,NO⟩:∃P1,P1=(R' a).l:=⟨_,rfl⟩;obtain⟨P2,Tv⟩:∃P2,P2=(R' b).l:=⟨_,rfl⟩;have TH:aW w9.heap.size w9 A:=HX.out.2.trans<|HY.out.2.mono HX.out.2.size;have q1:lC A v1 P1:=NO▸(HJ.out.2.1.below TH).at;have q2:lC A v2 P2:=Tv▸(HJ.out.2.2.1.below TH).at;have q3:lC A v3 A':=(HX.out.1.below HY.out.2).at;have q4:lC A v4 B':=HY.out.1.at;have n1:P1.length<=4096:=NO▸HJ.out.2.2.2.1;have n2:P2.length<=4096:=Tv▸HJ.out.2.2.2.2.1;have n3:=HJ.out.2.2.2.2.2.1;have n4:=HJ.out.2.2.2.2.2.2.1;have k1:∀x∈P1,A'.any (yj x)=Y:=NO▸HJ.out.2.2.2.2.2.2.2.1;have k2:∀x∈B',x∈P1\/x∈P2:=NO▸Tv▸HJ.out.2.2.2.2.2.2.2.2;have NC:=HJ.out.1.trans<|TH.mono HJ.out.1.size;obtain⟨a1,ca1,rfl⟩:=q1.KD;obtain⟨a4,ca4,rfl⟩:=q4.KD;have HZ:=X<|aM q1<|aM q2<|aM q3<|aM q4<|aM n1<|aM n2<|aM n3<|aM n4<|aM k1<|aM k2 NC;clear HJ HX HY HS HA J HT8 H8 H9 NO Tv TH q1 q2 q3 q4 n1 n2 n3 n4 k1 k2 NC SF w1 w1' hm w2';go_wp2;simp only[show¬c<fr by omega,MM];go_loopg[25]P1.lengthλk s wr=>∃j:Nat,s=V aC j/\k+j=P1.length/\aW A.heap.size A wr;case atStart=>exact⟨0,rfl,by omega,eo _ _⟩
    case round=>
     obtain⟨j,rfl,hk,hB⟩:=hrel;by_cases hj:j<P1.length
     .obtain⟨g,c1,hv,hg,y0,y1,y2,y3,y4⟩:=HZ.out.1.cell hj;simp only[oU,RX]at hv;obtain⟨rfl,-⟩:=hv;obtain⟨x,hx⟩:∃x,x=P1[j]:=⟨_,rfl⟩;have B:∀i,wr.cell? ⟨g,i,Z⟩=A.cell? ⟨g,i,Z⟩:=λi=>hB.cell (p:=⟨_,_,Z⟩) hg;rw[<-B,<-hx]at y0 y1 y2 y3 y4;have C24:dD<|∀W,aW A.heap.size A W->bz Q 24 #[v3,bJ #[aD x.name,aD x.field,V aC x.c,V aC x.r,aD x.value]] W λe W'=>e=bj (bQ Y)/\aW W.heap.size W W':=X λW hW=>by have:=amV v3 A' x W (WT HZ.out.2.2.1 hW) (by have:=HZ.out.2.2.2.2.2.2.1;omega);rwa[HZ.out.2.2.2.2.2.2.2.2.1 x<|hx▸lV hj]at this
      have nB:(j:Int)<(P1.length:Int):=by omega
      have SV:=HZ.out.2.2.2.2.1;have fg:∀z,z=(j:Int)+1->aC.wrap z=z:=λz hz=>by rw[mB];omega
      have yS:∀z,z=(j:Int)+1->iJ z=z:=λz hz=>by unfold iJ;omega
      have jP:=X hB;clear B hx hB;go_wp2_with(go_at_call 24;go_must(refine(C24.out _ jP.out).mono ?_);rintro e wQ⟨rfl,ND⟩;have HQ:=X<|jP.out.trans<|ND.mono jP.out.size;clear ND;refine Halt.of ?_);unfold Halt;go_wp2;go_roundg(gk-1);case rel=>exact⟨j+1,by go_simp,by omega,HQ.out⟩
      case measure=>omega
     .have jw:j=P1.length:=by omega
      subst jw;obtain⟨wo,rfl⟩:∃wo,wo=wr:=⟨wr,rfl⟩;have jP:=X hB;clear hB;go_wp2;go_loopg[27]B'.lengthλk s wr=>∃j:Nat,s=V aC j/\k+j=B'.length/\aW A.heap.size A wr;case atStart=>exact⟨0,rfl,by omega,jP.out⟩
      case round=>
       obtain⟨j,rfl,hk,hB⟩:=hrel;by_cases hj:j<B'.length
       .obtain⟨g,c1,hv,hg,y0,y1,y2,y3,y4⟩:=HZ.out.2.2.2.1.cell hj;simp only[oU,RX]at hv;obtain⟨rfl,-⟩:=hv;obtain⟨x,hx⟩:∃x,x=B'[j]:=⟨_,rfl⟩;have B:∀W,aW A.heap.size A W->∀i,W.cell? ⟨g,i,Z⟩=A.cell? ⟨g,i,Z⟩:=λW hW i=>hW.cell (p:=⟨_,_,Z⟩) hg;rw[<-hx]at y0 y1 y2 y3 y4;have u0:wr.cell? ⟨g,j*5,Z⟩=U (aD x.name):=(B _ hB _).trans y0;have u1:wr.cell? ⟨g,j*5+1,Z⟩=U (aD x.field):=(B _ hB _).trans y1;have u2:wr.cell? ⟨g,j*5+2,Z⟩=U (V aC x.c):=(B _ hB _).trans y2;have u3:wr.cell? ⟨g,j*5+3,Z⟩=U (V aC x.r):=(B _ hB _).trans y3;have u4:wr.cell? ⟨g,j*5+4,Z⟩=U (aD x.value):=(B _ hB _).trans y4;have SU:=HZ.out.2.2.2.2.2.2.2.1;obtain⟨b1,gU⟩:∃b1,b1=cg (x∈P1):=⟨_,rfl⟩;obtain⟨b2,l7⟩:∃b2,b2=cg (x∈P2):=⟨_,rfl⟩;have hor:b1=Y\/b2=Y:=by rw[gU,l7];simpa using HZ.out.2.2.2.2.2.2.2.2.2.1 x<|hx▸lV hj
        have C25:dD<|∀W,aW A.heap.size A W->bz Q 25 #[aE a1 P1.length ca1,bJ #[aD x.name,aD x.field,V aC x.c,V aC x.r,aD x.value]] W λe W'=>e=bj (bQ b1)/\aW W.heap.size W W':=X λW hW=>gU▸ahv _ P1 x W (WT HZ.out.1 hW) (by have:=HZ.out.2.2.2.2.1;omega);have amo:dD<|∀W,aW A.heap.size A W->bz Q 25 #[v2,bJ #[aD x.name,aD x.field,V aC x.c,V aC x.r,aD x.value]] W λe W'=>e=bj (bQ b2)/\aW W.heap.size W W':=X λW hW=>l7▸ahv _ P2 x W (WT HZ.out.2.1 hW) (by have:=HZ.out.2.2.2.2.2.1;omega);have nB:(j:Int)<(B'.length:Int):=by omega
        have fg:∀z,z=(j:Int)+1->aC.wrap z=z:=λz hz=>by rw[mB];omega
        have yS:∀z,z=(j:Int)+1->iJ z=z:=λz hz=>by unfold iJ;omega
        have jP:=X<|aM hB<|aM B<|aM y0<|aM y1<|aM y2<|aM y3 y4;clear B hx hB gU l7 y0 y1 y2 y3 y4;go_wp2_with(go_at_call 25;go_must(refine(C25.out _ jP.out.1).mono ?_);rintro e wQ⟨rfl,ND⟩;have HQ:=X<|jP.out.1.trans<|ND.mono jP.out.1.size;clear ND;refine Halt.of ?_);unfold Halt;clear C25 u0 u1 u2 u3 u4;obtain⟨h1,B,y0,y1,y2,y3,y4⟩:=jP.out;have u0:wQ.cell? ⟨g,j*5,Z⟩=U (aD x.name):=(B _ HQ.out _).trans y0;have u1:wQ.cell? ⟨g,j*5+1,Z⟩=U (aD x.field):=(B _ HQ.out _).trans y1;have u2:wQ.cell? ⟨g,j*5+2,Z⟩=U (V aC x.c):=(B _ HQ.out _).trans y2;have u3:wQ.cell? ⟨g,j*5+3,Z⟩=U (V aC x.r):=(B _ HQ.out _).trans y3;have u4:wQ.cell? ⟨g,j*5+4,Z⟩=U (aD x.value):=(B _ HQ.out _).trans y4;clear h1 B y0 y1 y2 y3 y4 jP;go_wp2_with(go_at_call 25;go_must(refine(amo.out _ HQ.out).mono ?_);rintro e wR⟨rfl,hbR⟩;have HR:=X<|HQ.out.trans<|hbR.mono HQ.out.size;clear hbR;refine Halt.of ?_);unfold Halt;clear amo u0 u1 u2 u3 u4;cases b1<;>cases b2;.simp at hor
        all_goals
         clear hor;go_wp2;go_roundg(gk-1);case rel=>exact⟨j+1,by go_simp,by omega,HR.out⟩
         case measure=>omega
       .have jw:j=B'.length:=by omega
        subst jw;have jP:=X hB;clear hB;go_wp2;go_ret;exact⟨rfl,HZ.out.2.2.2.2.2.2.2.2.2.2.trans<|jP.out.mono HZ.out.2.2.2.2.2.2.2.2.2.2.size⟩
end
end Go.Proofs.YtpdbmpbmepkikaaGreatDoor
