/- Closed facts of the row of Digests. -/
import Derived.Test.YtpdbmpbmepkikaaGreatDoorP16
set_option maxRecDepth 100000
set_option maxHeartbeats 400000
set_option linter.all false
open Go.Proofs.Tryz
open Bool renaming true->Z,false->ai
open Go renaming World->av,Value->ay,TypeId->dZ
open Go.IntKind renaming i64->aH,u64->cK
open Go.Lib renaming pow10Tab->Xn,TabIs->x6
open Go.Obj renaming cells->aF
open Go.Proofs.Tryz renaming prog->aC
open Go.RowKit renaming Below->bC
open Go.Value renaming cells->AV,okWide->Qo,int->Y,pointer->aE,agg->bN,iface->iv
open List renaming range->lW
open Option renaming some->U,none->V
namespace Go.Proofs.YtpdbmpbmepkikaaGreatDoor.digests
theorem named:prog.funcNamed Rows.digestsRow.func=some 3:=by kernel_rfl
theorem inst:f3.isInstance prog Rows.digestsRow.origin Rows.digestsRow.targs:=of_decide_eq_true (by kernel_rfl)
theorem wrap:f3.isWrapper prog Rows.digestsRow.wrapper Rows.digestsRow.mainSum:=by unfold Func.isWrapper;first|(rw[if_pos (by decide+kernel)];kernel_rfl)|(rw[if_neg (by decide+kernel)];exact⟨rfl,rfl⟩)
theorem c1:Rows.digestsRow.wf (OpenSpec.ofChange Rows.digestsSpec)=true:=by kernel_rfl
theorem c4:f3.params.all (prog.readableRec ·)=true:=by kernel_rfl
theorem c5:namedTie prog Rows.digestsRow.named Rows.digestsSpec.vars=true:=by kernel_rfl
theorem c6:(Rows.digestsRow.stops==[])=true:=by kernel_rfl
theorem c8:(Rows.digestsRow.knobs==[])=true:=by kernel_rfl
theorem c10:(Rows.digestsRow.inPlace==prog.inPlace 3)=true:=by kernel_rfl
theorem c11:(Rows.digestsRow.unfollowed==prog.unfollowed 3)=true:=by kernel_rfl
theorem QG:(Rows.digestsRow.recurses==prog.recurses 3)=true:=by kernel_rfl
theorem c13:(Rows.digestsRow.named==prog.varsNamed 3)=true:=by kernel_rfl
theorem pE:(Rows.digestsRow.maps==(f3.params.toList++Rows.digestsSpec.plain.varTypes prog).any (prog.mapsRec ·))=true:=by kernel_rfl
theorem pD:(Rows.digestsRow.ifaces==(f3.params.toList++Rows.digestsSpec.plain.varTypes prog).any (prog.ifacesRec ·))=true:=by kernel_rfl
theorem Mk:(Rows.digestsRow.mapsOut==prog.mapsAmong f3.resultTypes.toList)=true:=by kernel_rfl
theorem c17:(Rows.digestsRow.loops==(f3.params.toList++Rows.digestsSpec.plain.varTypes prog).any (prog.loopsFrom ·))=true:=by kernel_rfl
theorem c18:(Rows.digestsRow.wideKeys==(f3.params.toList++Rows.digestsSpec.plain.varTypes prog++f3.resultTypes.toList).any (prog.wideKeysFrom ·))=true:=by kernel_rfl
theorem c19:Rows.digestsSpec.vars.all (prog.varReadable ·)=true:=by kernel_rfl
theorem c20:f3.resultTypes.all (λt=>prog.readableRec t&&decide (t<prog.types.size))=true:=by kernel_rfl
theorem c21:(Rows.digestsRow.ifacesOut==f3.resultTypes.toList.any (prog.ifacesRec ·))=true:=by kernel_rfl
theorem c22:(Rows.digestsRow.loopsOut==f3.resultTypes.toList.any (prog.loopsFrom ·))=true:=by kernel_rfl
theorem c23:(Rows.digestsRow.plainKeys==prog.plainKeys)=true:=by kernel_rfl
theorem c24:Rows.digestsRow.shortTexts.isNone=true:=by kernel_rfl
theorem c27:(Rows.digestsRow.lifted==prog.liftsFinal)=true:=by kernel_rfl
theorem c28:(prog.make==some Rows.digestsRow.make)=true:=by kernel_rfl
theorem c29:(Rows.digestsRow.kinds==(if Rows.digestsRow.domain.isEmpty then [] else f3.params.toList.map λt=>match prog.underlying t with|some (.int k)=>some k|_=>none))=true:=by kernel_rfl
theorem QF:(Rows.digestsRow.pinned==Rows.digestsRow.pinnedBy)=true:=by kernel_rfl
theorem c31:(Rows.digestsRow.veiled==(f3.params.toList++Rows.digestsSpec.plain.varTypes prog++f3.resultTypes.toList).any (prog.veiledRec ·))=true:=by kernel_rfl
theorem c32:Rows.digestsRow.veiledFits prog f3.params.toList (f3.params.toList++Rows.digestsSpec.plain.varTypes prog++f3.resultTypes.toList)=true:=by kernel_rfl
theorem closed:joinedFacts prog 3 f3 Rows.digestsSpec Rows.digestsRow=true:=(iX (iX (iX (iX (iX (iX (iX (iX (iX (iX (iX (iX (iX (iX (iX (iX (iX (iX (iX (iX (iX (iX (iX (iX (iX (iX (iX (iX (iX (iX (iX c1 Tu) aqv) c4) c5) c6) aqq) c8) aqr) c10) c11) QG) c13) pE) pD) Mk) c17) c18) c19) c20) c21) c22) c23) c24) aqp) aqu) c27) c28) c29) QF) c31) c32)
end Go.Proofs.YtpdbmpbmepkikaaGreatDoor.digests
