/- Laws. -/
import Derived.Test.YtpdbmpbmepkikaaGreatDoorRows
import Derived.Test.YtpdbmpbmepkikaaGreatDoorQ16
set_option maxRecDepth 100000
set_option maxHeartbeats 400000
set_option linter.all false
open Go.Proofs.Tryz
open Bool renaming true->Y,false->ai
open Go renaming World->ay,Value->az,TypeId->ey
open Go.IntKind renaming i64->aC,u64->cO
open Go.Lib renaming pow10Tab->aa8,TabIs->zi
open Go.Obj renaming cells->aH
open Go.Proofs.Tryz renaming prog->aF
open Go.RowKit renaming Below->aW
open Go.Value renaming cells->Cf,okWide->Uk,int->V,pointer->aG,agg->bJ,iface->iB
open List renaming range->mJ
open Option renaming some->U,none->Z
namespace Go.Proofs.YtpdbmpbmepkikaaGreatDoor
section
open Go.ChangeShapes Go.WideShapes Go.RowKit
noncomputable def Laid:List<|String×DataW Unit:=Rows.digestsRow.laid
theorem ac7:aF.globalNamed "internal/strconv.uint64pow10"=U 3:=by kernel_rfl
theorem agy{P}{x}{l}{W}(h:laidMet P (x::l) W):laidMet P l W:=by obtain⟨m,d,f,e⟩:=h;obtain⟨g,t,k,c,p,q,o,n,r,s,i,rfl⟩:=d;exact⟨q,i,(Jm.1 f).2.1,λb a j=>e b a<|List.mem_append_right _ j⟩
theorem own:ownKnob aF.godebug=Z:=by kernel_rfl
theorem gEt:aF.globalNamed "errors.errorType"=U 0:=by kernel_rfl
theorem aCy:(aF.cutTypes.find? (·.1== "internal/reflectlite.rtype")).map (·.2)=U 264:=by kernel_rfl
theorem avm:aF.types.size=376:=by kernel_rfl
theorem auB:((mJ 376).filter λt=>aF.rowNamed t [101,114,114,111,114])=[87]:=by kernel_rfl
theorem agx(W)(h:laidMetH aF Laid W):laidMet aF (Laid.filter λx=>x.2.handleName?.isNone) W/\handlesMet aF (Laid.filter λx=>x.2.handleName?.isSome) W:=by
 have e:Laid.filter (λx=>x.2.handleName?.isSome)=[("errors.errorType",Rows.laid_errors_errorType)]:=by kernel_rfl
 unfold laidMetH at h;grind
theorem aaQ{W}(h:laidMetH aF Laid W):jA W:=by
 obtain⟨_,d⟩:=agx W h;have e:Laid.filter (λx=>x.2.handleName?.isSome)=[("errors.errorType",Rows.laid_errors_errorType)]:=by kernel_rfl
 rw[e]at d;obtain⟨b,u,i,k,m,n,j,c⟩:=d _<|mA.2 rfl;have l:=(tE k).symm;subst l;obtain rfl:=tE<|aCy.symm.trans m;have f:i∈(mJ 376).filter λt=>aF.rowNamed t [101,114,114,111,114]:=Ac.2 ⟨Js.2<|by grind[avm],j⟩;rw[auB]at f;obtain rfl:=mA.1 f;have g:typeHandle aF 87=aG (U ⟨7,87,Z⟩):=by kernel_rfl
 rw[g]at c;have:=World.var?_cell gEt c 0;grind[jA]
theorem apW{W}(h:laidMetH aF Laid W):zi aF W "internal/strconv.uint64pow10" cO aa8:=by
 obtain⟨a,_⟩:=agx W h;have e:(Laid.filter λx=>x.2.handleName?.isNone)=("math/bits.deBruijn32tab",Rows.laid_math_bits_deBruijn32tab)::("math/bits.deBruijn64tab",Rows.laid_math_bits_deBruijn64tab)::("internal/strconv.uint64pow10",Lib.tabData cO aa8)::[("unicode/utf8.acceptRanges",Rows.laid_unicode_utf8_acceptRanges),("unicode/utf8.first",Rows.laid_unicode_utf8_first)]:=by kernel_rfl
 rw[e]at a;exact Lib.tabIs_of_head (t:=340) (e:=120) (n:=20) ac7 (by kernel_rfl) (by kernel_rfl) (by kernel_rfl) (by kernel_rfl) (by kernel_rfl)<|agy<|agy a
def agp:DataW Unit->List az|.lit<|.int k n=>[V k n]|_=>[]
def ago:DataW Unit->List az|.agg ds=>ds.flatMap agp|d=>agp d
def Mr:DataW Unit->List az|.agg ds=>ds.flatMap ago|d=>ago d
def lay(g:Nat)(vs:List az)(h:Array Obj):Array Obj:=h.modify g λ|aH _ t frozen=>aH vs.toArray t frozen|o=>o
noncomputable def oQ(os:Os):ay:={World.holding aF os ⟨#[],#[],[]⟩with heap:=lay 6 (Mr Rows.laid_math_bits_deBruijn64tab)<|lay 5 (Mr Rows.laid_math_bits_deBruijn32tab)<|lay 3 (Mr Rows.laid_internal_strconv_uint64pow10)<|lay 2 (Mr Rows.laid_unicode_utf8_acceptRanges)<|lay 1 (Mr Rows.laid_unicode_utf8_first)<|lay 0 [iB 264<|bJ #[aG<|U ⟨7,87,Z⟩]] (World.holding aF os ⟨#[],#[],[]⟩).heap}
theorem Yn(os)(args):laidMetH aF Laid ((oQ os).forCall (λ_ _=>0) ⟨#[],args,[]⟩).memory:=laidMetH_of_parts (laidMet_of_run' 8 (by kernel_rfl)<|by kernel_rfl)<|by kernel_rfl
theorem VK{W}(h:laidMetH aF Laid W):fQ W:=by have a:=apW h;unfold zi World.var? at a;rw[ac7]at a;show zi Q W _ _ _;unfold zi World.var?;grind[Fv]
theorem abx(a):Fe a:=λ_ _ _ _ _ _ _ w h=>aEm Fg w h
theorem Vf(a):Hi a:=λ_ _ _ _ _ _ _ g w h=>am8 Fg g w h
theorem aby.below{w w'}(h:aby w w'):aW w w {w' with tape:=w.tape}:=⟨h.os,rfl,h.out,h.size,h.blk⟩
theorem okWide_int{P}{w}{r}{b}{t}{k}{v}(a:P.underlying t=U (.int k))(h:Uk P w r b t v):∃n,v=V k n:=by
 unfold Uk at h;rw[a]at h;simp only at h;unfold Cell.okWide at h;rw[a]at h;have h:Cell.ok P w r b t v:=by grind
 unfold Cell.ok at h;grind
theorem Rj{H}{enc:ey×az->H}{P}{w}{base}{a}{b}{r}{k}{t}{v}{d}{p}(f:P.underlying t=U (.int aC))(h:DataW.Trod enc P w base a b t v d p)(g:Uk P w r k t v):∃n,v=V aC n/\gu n:=by
 obtain⟨m,rfl⟩:=okWide_int f g;obtain⟨c,j⟩:=h;obtain⟨n,e,_,i⟩:=DataW.trod_int f j;have e:m=n:=by simpa[Cf]using e
 subst e;exact⟨_,rfl,by simpa[Lit.wf,IntKind.min,IntKind.max,IntKind.signed,IntKind.bits,gu]using i⟩
theorem Xe:aF.readableRec 22=Y:=by kernel_rfl
theorem Xh:22<aF.types.size:=of_decide_eq_true<|by kernel_rfl
theorem Rc:aF.readableRec 3=Y:=by kernel_rfl
theorem Re:3<aF.types.size:=of_decide_eq_true<|by kernel_rfl
theorem Ve:aF.wantsStandIn 22=ai:=by kernel_rfl
theorem PR:aF.wantsStandIn 3=ai:=by kernel_rfl
theorem looks:Y=aF.looks []:=by kernel_rfl
theorem mainIs:aF.mainIs=(Y,"04e7a162b24e94a4dec71da376639edfd8b76e999e2ce65f3d5afc609319b963".toList):=by kernel_rfl
end
section
theorem s{a b:Bool}(h:a=true)(k:b=true):(a&&b)=true:=by rw[h,k];rfl
theorem zR:laidOutB prog=true:=by kernel_rfl
theorem Xg:mapsRowed prog=true:=by kernel_rfl
theorem Xc:(prog.stops==[])=true:=by kernel_rfl
theorem Xd:(prog.stopKnobs==[])=true:=by kernel_rfl
theorem Xb:prog.stopsHeard=true:=by kernel_rfl
theorem Xf:prog.mayEnter=true:=by kernel_rfl
end
end Go.Proofs.YtpdbmpbmepkikaaGreatDoor
