/- What the rows list, and facts of the program. -/
import Derived.LaidSub
import Derived.LaidOnce
import Derived.Test.YtpdbmpbmepkikaaGreatDoorRows
import Derived.Test.YtpdbmpbmepkikaaGreatDoorP15
set_option maxRecDepth 100000
set_option maxHeartbeats 400000
set_option linter.all false
open Go.Proofs.Tryz
open Bool renaming true->Z,false->ai
open Go renaming World->av,Value->ay,TypeId->dZ
open Go.IntKind renaming i64->aH,u64->cK
open Go.Lib renaming pow10Tab->Xn,TabIs->x6
open Go.Obj renaming cells->aF
open Go.Proofs.Tryz renaming prog->aC
open Go.RowKit renaming Below->bC
open Go.Value renaming cells->AV,okWide->Qo,int->Y,pointer->aE,agg->bN,iface->iv
open List renaming range->lW
open Option renaming some->U,none->V
namespace Go.Proofs.YtpdbmpbmepkikaaGreatDoor
section
open Go.ChangeShapes Go.WideShapes Go.RowKit
noncomputable def Laid:List (String×DataW Unit):=Rows.digestsRow.laid
theorem Zf:aC.globalNamed "internal/strconv.uint64pow10"=U 3:=by kernel_rfl
theorem acR{P}{x}{l}{W}(h:laidMet P (x::l) W):laidMet P l W:=by obtain⟨m,d,f,e⟩:=h;obtain⟨g,t,k,c,p,q,o,n,r,s,i,rfl⟩:=d;exact⟨q,i,(GD.1 f).2.1,λb a j=>e b a (List.mem_append_right _ j)⟩
theorem own:ownKnob aC.godebug=V:=by kernel_rfl
theorem gEt:aC.globalNamed "errors.errorType"=U 0:=by kernel_rfl
theorem ay5:(aC.cutTypes.find? (·.1== "internal/reflectlite.rtype")).map (·.2)=U 264:=by kernel_rfl
theorem arK:aC.types.size=376:=by kernel_rfl
theorem aqX:((lW 376).filter λt=>aC.rowNamed t [101,114,114,111,114])=[87]:=by kernel_rfl
theorem acQ(W)(h:laidMetH aC Laid W):laidMet aC (Laid.filter λx=>x.2.handleName?.isNone) W∧handlesMet aC (Laid.filter λx=>x.2.handleName?.isSome) W:=by
 have e:Laid.filter (λx=>x.2.handleName?.isSome)=[("errors.errorType",Rows.laid_errors_errorType)]:=by kernel_rfl
 unfold laidMetH at h
 grind
theorem ayb{W}(h:laidMetH aC Laid W):jF W:=by
 obtain⟨_,d⟩:=acQ W h;have e:Laid.filter (λx=>x.2.handleName?.isSome)=[("errors.errorType",Rows.laid_errors_errorType)]:=by kernel_rfl
 rw[e] at d;obtain⟨b,u,i,k,m,n,j,c⟩:=(d _ (mA.2 rfl));have l:=(rY k).symm;subst l;obtain rfl:=rY (ay5.symm.trans m);have f:i∈(lW 376).filter λt=>aC.rowNamed t [101,114,114,111,114]:=xH.2 ⟨GJ.2 (by grind[arK]),j⟩
 rw[aqX] at f;obtain rfl:=mA.1 f;have g:typeHandle aC 87=aE (U ⟨7,87,V⟩):=by kernel_rfl
 rw[g] at c;have:=World.var?_cell gEt c 0
 grind[jF]
theorem al8{W}(h:laidMetH aC Laid W):x6 aC W "internal/strconv.uint64pow10" cK Xn:=by
 obtain⟨a,_⟩:=acQ W h;have e:(Laid.filter λx=>x.2.handleName?.isNone)=("math/bits.deBruijn32tab",Rows.laid_math_bits_deBruijn32tab)::("math/bits.deBruijn64tab",Rows.laid_math_bits_deBruijn64tab)::("internal/strconv.uint64pow10",Lib.tabData cK Xn)::[("unicode/utf8.acceptRanges",Rows.laid_unicode_utf8_acceptRanges),("unicode/utf8.first",Rows.laid_unicode_utf8_first)]:=by kernel_rfl
 rw[e] at a;exact Lib.tabIs_of_head (t:=340) (e:=120) (n:=20) Zf (by kernel_rfl) (by kernel_rfl) (by kernel_rfl) (by kernel_rfl) (by kernel_rfl) (acR (acR a))
def acJ:DataW Unit->List ay
 |.lit (.int k n)=> [Y k n]
 |_=> []
def acI:DataW Unit->List ay
 |.agg ds=>ds.flatMap acJ
 |d=>acJ d
def JP:DataW Unit->List ay
 |.agg ds=>ds.flatMap acI
 |d=>acI d
def lay(g:Nat)(vs:List ay)(h:Array Obj):Array Obj:=h.modify g λ
 |aF _ t frozen=>aF vs.toArray t frozen
 |o=>o
noncomputable def Eg(os:Os):av:=
 {World.holding aC os ⟨#[], #[],[]⟩ with heap:=lay 6 (JP Rows.laid_math_bits_deBruijn64tab) (lay 5 (JP Rows.laid_math_bits_deBruijn32tab) (lay 3 (JP Rows.laid_internal_strconv_uint64pow10) (lay 2 (JP Rows.laid_unicode_utf8_acceptRanges) (lay 1 (JP Rows.laid_unicode_utf8_first)
   (lay 0 [iv 264 (bN #[aE (U ⟨7,87,V⟩)])] (World.holding aC os ⟨#[], #[],[]⟩).heap)))))}
theorem as0(os)(args):laidMetH aC Laid ((Eg os).forCall (λ_ _=>0) ⟨#[],args,[]⟩).memory:=
 laidMetH_of_parts (laidMet_of_run' 8 (by kernel_rfl) (by kernel_rfl)) (by kernel_rfl)
theorem al9{W}(h:laidMetH aC Laid W):ga W:=by
 have a:=al8 h;unfold x6 World.var? at a;rw[Zf] at a;show x6 Q W _ _ _;unfold x6 World.var?
 grind[Dw]
theorem aA8(a):Dj a:=λ_ _ _ _ _ _ _ w h=>aA6 Dl w h
theorem ajo(a):Fu a:=λ_ _ _ _ _ _ _ g w h=>ajp Dl g w h
theorem XQ.below{w w'}(h:XQ w w'):bC w w {w' with tape:=w.tape}:=⟨h.os,rfl,h.out,h.size,h.blk⟩
theorem okWide_int{P}{w}{r}{b}{t}{k}{v}(a:P.underlying t=U (.int k))(h:Qo P w r b t v):∃n,v=Y k n:=by
 unfold Qo at h;rw[a] at h;simp only at h;unfold Cell.okWide at h;rw[a] at h;have h:Cell.ok P w r b t v:=by grind
 unfold Cell.ok at h
 grind
theorem aqR{H}{enc:dZ×ay->H}{P}{w}{base}{a}{b}{r}{k}{t}{v}{d}{p}(f:P.underlying t=U (.int aH))(h:DataW.Trod enc P w base a b t v d p)(g:Qo P w r k t v):∃n,v=Y aH n∧ic n:=by
 obtain⟨m,rfl⟩:=okWide_int f g;obtain⟨c,j⟩:=h;obtain⟨n,e,_,i⟩:=DataW.trod_int f j;have e:m=n:=by simpa[AV] using e
 subst e;exact⟨_,rfl,by simpa[Lit.wf,IntKind.min,IntKind.max,IntKind.signed,IntKind.bits,ic] using i⟩
theorem aqt:aC.readableRec 22=Z:=by kernel_rfl
theorem aqx:22<aC.types.size:=of_decide_eq_true (by kernel_rfl)
theorem aqs:aC.readableRec 3=Z:=by kernel_rfl
theorem aqw:3<aC.types.size:=of_decide_eq_true (by kernel_rfl)
theorem ajf:aC.wantsStandIn 22=ai:=by kernel_rfl
theorem aje:aC.wantsStandIn 3=ai:=by kernel_rfl
theorem looks:Z=aC.looks []:=by kernel_rfl
theorem mainIs:aC.mainIs=(Z,"04e7a162b24e94a4dec71da376639edfd8b76e999e2ce65f3d5afc609319b963".toList):=by kernel_rfl
end
section
theorem iX{a b:Bool}(h:a=true)(k:b=true):(a&&b)=true:=by rw[h,k];rfl
theorem Tu:laidOutB prog=true:=by kernel_rfl
theorem aqv:mapsRowed prog=true:=by kernel_rfl
theorem aqq:(prog.stops==[])=true:=by kernel_rfl
theorem aqr:(prog.stopKnobs==[])=true:=by kernel_rfl
theorem aqp:prog.stopsHeard=true:=by kernel_rfl
theorem aqu:prog.mayEnter=true:=by kernel_rfl
end
end Go.Proofs.YtpdbmpbmepkikaaGreatDoor
