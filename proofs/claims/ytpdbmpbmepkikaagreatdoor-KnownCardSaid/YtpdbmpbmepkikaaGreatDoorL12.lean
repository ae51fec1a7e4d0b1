/- Laws. -/
import Derived.Test.YtpdbmpbmepkikaaGreatDoorRows
import Derived.Test.YtpdbmpbmepkikaaGreatDoorL09
set_option maxRecDepth 100000
set_option maxHeartbeats 400000
set_option linter.all false
open Go.Proofs.Tryz
open Bool renaming true->Z,false->ai
open Go renaming World->ax,Value->az,TypeId->dV
open Go.IntKind renaming i64->aG,u64->cP
open Go.Lib renaming pow10Tab->ab0,TabIs->zI
open Go.Obj renaming cells->aH
open Go.Proofs.Tryz renaming prog->aD
open Go.RowKit renaming Below->aY
open Go.Value renaming cells->A8,okWide->IC,int->Y,string->aE,pointer->aF,agg->bO,iface->iK
open List renaming range->mR
open Option renaming some->U,none->V
namespace Go.Proofs.YtpdbmpbmepkikaaGreatDoor
section
open Go.ChangeShapes Go.WideShapes Go.RowKit
noncomputable def Laid:List<|String×DataW Unit:=Rows.digestsRow.laid
theorem aef:aD.globalNamed "internal/strconv.uint64pow10"=U 3:=by kernel_rfl
theorem ahT{P}{x}{l}{W}(h:laidMet P (x::l) W):laidMet P l W:=by obtain⟨m,d,f,e⟩:=h;obtain⟨g,t,k,c,p,q,o,n,r,s,i,rfl⟩:=d;exact⟨q,i,(Ew.1 f).2.1,λb a j=>e b a<|List.mem_append_right _ j⟩
theorem own:ownKnob aD.godebug=V:=by kernel_rfl
theorem gEt:aD.globalNamed "errors.errorType"=U 0:=by kernel_rfl
theorem aEV:(aD.cutTypes.find? (·.1== "internal/reflectlite.rtype")).map (·.2)=U 264:=by kernel_rfl
theorem axv:aD.types.size=376:=by kernel_rfl
theorem awF:((mR 376).filter λt=>aD.rowNamed t [101,114,114,111,114])=[87]:=by kernel_rfl
theorem ahR(W)(h:laidMetH aD Laid W):laidMet aD (Laid.filter λx=>x.2.handleName?.isNone) W/\handlesMet aD (Laid.filter λx=>x.2.handleName?.isSome) W:=by
 have e:Laid.filter (λx=>x.2.handleName?.isSome)=[("errors.errorType",Rows.laid_errors_errorType)]:=by kernel_rfl
 unfold laidMetH at h;grind
theorem alH{W}(h:laidMetH aD Laid W):iS W:=by
 obtain⟨_,d⟩:=ahR W h;have e:Laid.filter (λx=>x.2.handleName?.isSome)=[("errors.errorType",Rows.laid_errors_errorType)]:=by kernel_rfl
 rw[e]at d;obtain⟨b,u,i,k,m,n,j,c⟩:=d _<|mu.2 rfl;have l:=(tQ k).symm;subst l;obtain rfl:=tQ<|aEV.symm.trans m;have f:i∈(mR 376).filter λt=>aD.rowNamed t [101,114,114,111,114]:=rX.2 ⟨Ku.2<|by grind[axv],j⟩;rw[awF]at f;obtain rfl:=mu.1 f;have g:typeHandle aD 87=aF (U ⟨7,87,V⟩):=by kernel_rfl
 rw[g]at c;have:=World.var?_cell gEt c 0;grind[iS]
theorem arU{W}(h:laidMetH aD Laid W):zI aD W "internal/strconv.uint64pow10" cP ab0:=by
 obtain⟨a,_⟩:=ahR W h;have e:(Laid.filter λx=>x.2.handleName?.isNone)=("math/bits.deBruijn32tab",Rows.laid_math_bits_deBruijn32tab)::("math/bits.deBruijn64tab",Rows.laid_math_bits_deBruijn64tab)::("internal/strconv.uint64pow10",Lib.tabData cP ab0)::[("unicode/utf8.acceptRanges",Rows.laid_unicode_utf8_acceptRanges),("unicode/utf8.first",Rows.laid_unicode_utf8_first)]:=by kernel_rfl
 rw[e]at a;exact Lib.tabIs_of_head (t:=340) (e:=120) (n:=20) aef (by kernel_rfl) (by kernel_rfl) (by kernel_rfl) (by kernel_rfl) (by kernel_rfl)<|ahT<|ahT a
def ahM:DataW Unit->List az|.lit<|.int k n=>[Y k n]|_=>[]
def ahL:DataW Unit->List az|.agg ds=>ds.flatMap ahM|d=>ahM d
def Nj:DataW Unit->List az|.agg ds=>ds.flatMap ahL|d=>ahL d
def lay(g:Nat)(vs:List az)(h:Array Obj):Array Obj:=h.modify g λ|aH _ t frozen=>aH vs.toArray t frozen|o=>o
noncomputable def wO(os:Os):ax:={World.holding aD os ⟨#[],#[],[]⟩with heap:=lay 6 (Nj Rows.laid_math_bits_deBruijn64tab)<|lay 5 (Nj Rows.laid_math_bits_deBruijn32tab)<|lay 3 (Nj Rows.laid_internal_strconv_uint64pow10)<|lay 2 (Nj Rows.laid_unicode_utf8_acceptRanges)<|lay 1 (Nj Rows.laid_unicode_utf8_first)<|lay 0 [iK 264<|bO #[aF<|U ⟨7,87,V⟩]] (World.holding aD os ⟨#[],#[],[]⟩).heap}
theorem ahS(os)(args):laidMetH aD Laid ((wO os).forCall (λ_ _=>0) ⟨#[],args,[]⟩).memory:=laidMetH_of_parts (laidMet_of_run' 8 (by kernel_rfl)<|by kernel_rfl)<|by kernel_rfl
theorem aee{W}(h:laidMetH aD Laid W):fx W:=by have a:=arU h;unfold zI World.var? at a;rw[aef]at a;show zI Q W _ _ _;unfold zI World.var?;grind[Gb]
theorem anB(a):Dw a:=λ_ _ _ _ _ _ _ w h=>aGC F1 w h
theorem adp(a):FL a:=λ_ _ _ _ _ _ _ g w h=>aoY F1 g w h
theorem Vk.below{w w'}(h:Vk w w'):aY w w {w' with tape:=w.tape}:=⟨h.os,rfl,h.out,h.size,h.blk⟩
theorem okWide_int{P}{w}{r}{b}{t}{k}{v}(a:P.underlying t=U (.int k))(h:IC P w r b t v):∃n,v=Y k n:=by
 unfold IC at h;rw[a]at h;simp only at h;unfold Cell.okWide at h;rw[a]at h;have h:Cell.ok P w r b t v:=by grind
 unfold Cell.ok at h;grind
theorem awH{P}{w}{r}{b}{t}{v}(a:P.underlying t=U .string)(h:IC P w r b t v):∃s,v=aE s:=by
 unfold IC at h;rw[a]at h;simp only at h;unfold Cell.okWide at h;rw[a]at h;have h:Cell.ok P w r b t v:=by grind
 unfold Cell.ok at h;grind
theorem agP{H}{enc:dV×az->H}{P}{w}{base}{a}{b}{r}{k}{t}{v}{d}{p}(f:P.underlying t=U (.int aG))(h:DataW.Trod enc P w base a b t v d p)(g:IC P w r k t v):∃n,v=Y aG n/\ij n:=by
 obtain⟨m,rfl⟩:=okWide_int f g;obtain⟨c,j⟩:=h;obtain⟨n,e,_,i⟩:=DataW.trod_int f j;have e:m=n:=by simpa[A8]using e
 subst e;exact⟨_,rfl,by simpa[Lit.wf,IntKind.min,IntKind.max,IntKind.signed,IntKind.bits,ij]using i⟩
theorem awf:aD.readableRec 22=Z:=by kernel_rfl
theorem awg:22<aD.types.size:=of_decide_eq_true<|by kernel_rfl
theorem agw:aD.readableRec 3=Z:=by kernel_rfl
theorem agA:3<aD.types.size:=of_decide_eq_true<|by kernel_rfl
theorem agv:aD.readableRec 9=Z:=by kernel_rfl
theorem agz:9<aD.types.size:=of_decide_eq_true<|by kernel_rfl
theorem aoP:aD.wantsStandIn 22=ai:=by kernel_rfl
theorem adm:aD.wantsStandIn 3=ai:=by kernel_rfl
theorem adl:aD.wantsStandIn 9=ai:=by kernel_rfl
theorem looks:Z=aD.looks []:=by kernel_rfl
theorem mainIs:aD.mainIs=(Z,"04e7a162b24e94a4dec71da376639edfd8b76e999e2ce65f3d5afc609319b963".toList):=by kernel_rfl
end
section
theorem m{a b:Bool}(h:a=true)(k:b=true):(a&&b)=true:=by rw[h,k];rfl
theorem Gu:laidOutB prog=true:=by kernel_rfl
theorem agy:mapsRowed prog=true:=by kernel_rfl
theorem agt:(prog.stops==[])=true:=by kernel_rfl
theorem agu:(prog.stopKnobs==[])=true:=by kernel_rfl
theorem ags:prog.stopsHeard=true:=by kernel_rfl
theorem agx:prog.mayEnter=true:=by kernel_rfl
end
end Go.Proofs.YtpdbmpbmepkikaaGreatDoor
