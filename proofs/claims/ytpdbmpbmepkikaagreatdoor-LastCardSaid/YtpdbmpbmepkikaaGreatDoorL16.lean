/- Laws. -/
import Derived.Test.YtpdbmpbmepkikaaGreatDoorL12
set_option maxRecDepth 100000
set_option maxHeartbeats 400000
set_option linter.all false
open Go.Proofs.Tryz
namespace Go.Proofs.YtpdbmpbmepkikaaGreatDoor.last
theorem named:prog.funcNamed Rows.lastRow.func=some 7:=by kernel_rfl
theorem inst:f7.isInstance prog Rows.lastRow.origin Rows.lastRow.targs:=of_decide_eq_true<|by kernel_rfl
theorem wrap:f7.isWrapper prog Rows.lastRow.wrapper Rows.lastRow.mainSum:=by unfold Func.isWrapper;first|(rw[if_pos<|by decide+kernel];kernel_rfl)|(rw[if_neg<|by decide+kernel];exact⟨rfl,rfl⟩)
theorem c1:Rows.lastRow.wf (OpenSpec.ofChange Rows.lastSpec)=true:=by kernel_rfl
theorem c4:f7.params.all (prog.readableRec .)=true:=by kernel_rfl
theorem c5:namedTie prog Rows.lastRow.named Rows.lastSpec.vars=true:=by kernel_rfl
theorem c6:(Rows.lastRow.stops==[])=true:=by kernel_rfl
theorem c8:(Rows.lastRow.knobs==[])=true:=by kernel_rfl
theorem c10:(Rows.lastRow.inPlace==prog.inPlace 7)=true:=by kernel_rfl
theorem c11:(Rows.lastRow.unfollowed==prog.unfollowed 7)=true:=by kernel_rfl
theorem LK:(Rows.lastRow.recurses==prog.recurses 7)=true:=by kernel_rfl
theorem c13:(Rows.lastRow.named==prog.varsNamed 7)=true:=by kernel_rfl
theorem oK:(Rows.lastRow.maps==(f7.params.toList++Rows.lastSpec.plain.varTypes prog).any (prog.mapsRec .))=true:=by kernel_rfl
theorem oJ:(Rows.lastRow.ifaces==(f7.params.toList++Rows.lastSpec.plain.varTypes prog).any (prog.ifacesRec .))=true:=by kernel_rfl
theorem IK:(Rows.lastRow.mapsOut==prog.mapsAmong f7.resultTypes.toList)=true:=by kernel_rfl
theorem c17:(Rows.lastRow.loops==(f7.params.toList++Rows.lastSpec.plain.varTypes prog).any (prog.loopsFrom .))=true:=by kernel_rfl
theorem c18:(Rows.lastRow.wideKeys==(f7.params.toList++Rows.lastSpec.plain.varTypes prog++f7.resultTypes.toList).any (prog.wideKeysFrom .))=true:=by kernel_rfl
theorem c19:Rows.lastSpec.vars.all (prog.varReadable .)=true:=by kernel_rfl
theorem c20:f7.resultTypes.all (λt=>prog.readableRec t&&decide (t<prog.types.size))=true:=by kernel_rfl
theorem c21:(Rows.lastRow.ifacesOut==f7.resultTypes.toList.any (prog.ifacesRec .))=true:=by kernel_rfl
theorem c22:(Rows.lastRow.loopsOut==f7.resultTypes.toList.any (prog.loopsFrom .))=true:=by kernel_rfl
theorem c23:(Rows.lastRow.plainKeys==prog.plainKeys)=true:=by kernel_rfl
theorem c24:Rows.lastRow.shortTexts.isNone=true:=by kernel_rfl
theorem c27:(Rows.lastRow.lifted==prog.liftsFinal)=true:=by kernel_rfl
theorem c28:(prog.make==some Rows.lastRow.make)=true:=by kernel_rfl
theorem c29:(Rows.lastRow.kinds==if Rows.lastRow.domain.isEmpty then[]else f7.params.toList.map λt=>match prog.underlying t with|some<|.int k=>some k|_=>none)=true:=by kernel_rfl
theorem LH:(Rows.lastRow.pinned==Rows.lastRow.pinnedBy)=true:=by kernel_rfl
theorem c31:(Rows.lastRow.veiled==(f7.params.toList++Rows.lastSpec.plain.varTypes prog++f7.resultTypes.toList).any (prog.veiledRec .))=true:=by kernel_rfl
theorem c32:Rows.lastRow.veiledFits prog f7.params.toList (f7.params.toList++Rows.lastSpec.plain.varTypes prog++f7.resultTypes.toList)=true:=by kernel_rfl
theorem closed:joinedFacts prog 7 f7 Rows.lastSpec Rows.lastRow=true:=m (m (m (m (m (m (m (m (m (m (m (m (m (m (m (m (m (m (m (m (m (m (m (m (m (m (m (m (m (m (m c1 Gu) agy) c4) c5) c6) agt) c8) agu) c10) c11) LK) c13) oK) oJ) IK) c17) c18) c19) c20) c21) c22) c23) c24) ags) agx) c27) c28) c29) LH) c31) c32
end Go.Proofs.YtpdbmpbmepkikaaGreatDoor.last
