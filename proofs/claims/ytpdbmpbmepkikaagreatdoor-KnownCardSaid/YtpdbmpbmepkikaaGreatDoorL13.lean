/- Laws. -/
import Derived.Test.YtpdbmpbmepkikaaGreatDoorL12
set_option maxRecDepth 100000
set_option maxHeartbeats 400000
set_option linter.all false
open Go.Proofs.Tryz
namespace Go.Proofs.YtpdbmpbmepkikaaGreatDoor.known
theorem named:prog.funcNamed Rows.knownRow.func=some 8:=by kernel_rfl
theorem inst:f8.isInstance prog Rows.knownRow.origin Rows.knownRow.targs:=of_decide_eq_true<|by kernel_rfl
theorem wrap:f8.isWrapper prog Rows.knownRow.wrapper Rows.knownRow.mainSum:=by unfold Func.isWrapper;first|(rw[if_pos<|by decide+kernel];kernel_rfl)|(rw[if_neg<|by decide+kernel];exact⟨rfl,rfl⟩)
theorem c1:Rows.knownRow.wf (OpenSpec.ofChange Rows.knownSpec)=true:=by kernel_rfl
theorem c4:f8.params.all (prog.readableRec .)=true:=by kernel_rfl
theorem c5:namedTie prog Rows.knownRow.named Rows.knownSpec.vars=true:=by kernel_rfl
theorem c6:(Rows.knownRow.stops==[])=true:=by kernel_rfl
theorem c8:(Rows.knownRow.knobs==[])=true:=by kernel_rfl
theorem c10:(Rows.knownRow.inPlace==prog.inPlace 8)=true:=by kernel_rfl
theorem c11:(Rows.knownRow.unfollowed==prog.unfollowed 8)=true:=by kernel_rfl
theorem LK:(Rows.knownRow.recurses==prog.recurses 8)=true:=by kernel_rfl
theorem c13:(Rows.knownRow.named==prog.varsNamed 8)=true:=by kernel_rfl
theorem oK:(Rows.knownRow.maps==(f8.params.toList++Rows.knownSpec.plain.varTypes prog).any (prog.mapsRec .))=true:=by kernel_rfl
theorem oJ:(Rows.knownRow.ifaces==(f8.params.toList++Rows.knownSpec.plain.varTypes prog).any (prog.ifacesRec .))=true:=by kernel_rfl
theorem IK:(Rows.knownRow.mapsOut==prog.mapsAmong f8.resultTypes.toList)=true:=by kernel_rfl
theorem c17:(Rows.knownRow.loops==(f8.params.toList++Rows.knownSpec.plain.varTypes prog).any (prog.loopsFrom .))=true:=by kernel_rfl
theorem c18:(Rows.knownRow.wideKeys==(f8.params.toList++Rows.knownSpec.plain.varTypes prog++f8.resultTypes.toList).any (prog.wideKeysFrom .))=true:=by kernel_rfl
theorem c19:Rows.knownSpec.vars.all (prog.varReadable .)=true:=by kernel_rfl
theorem c20:f8.resultTypes.all (λt=>prog.readableRec t&&decide (t<prog.types.size))=true:=by kernel_rfl
theorem c21:(Rows.knownRow.ifacesOut==f8.resultTypes.toList.any (prog.ifacesRec .))=true:=by kernel_rfl
theorem c22:(Rows.knownRow.loopsOut==f8.resultTypes.toList.any (prog.loopsFrom .))=true:=by kernel_rfl
theorem c23:(Rows.knownRow.plainKeys==prog.plainKeys)=true:=by kernel_rfl
theorem c24:Rows.knownRow.shortTexts.isNone=true:=by kernel_rfl
theorem c27:(Rows.knownRow.lifted==prog.liftsFinal)=true:=by kernel_rfl
theorem c28:(prog.make==some Rows.knownRow.make)=true:=by kernel_rfl
theorem c29:(Rows.knownRow.kinds==if Rows.knownRow.domain.isEmpty then[]else f8.params.toList.map λt=>match prog.underlying t with|some<|.int k=>some k|_=>none)=true:=by kernel_rfl
theorem LH:(Rows.knownRow.pinned==Rows.knownRow.pinnedBy)=true:=by kernel_rfl
theorem c31:(Rows.knownRow.veiled==(f8.params.toList++Rows.knownSpec.plain.varTypes prog++f8.resultTypes.toList).any (prog.veiledRec .))=true:=by kernel_rfl
theorem c32:Rows.knownRow.veiledFits prog f8.params.toList (f8.params.toList++Rows.knownSpec.plain.varTypes prog++f8.resultTypes.toList)=true:=by kernel_rfl
theorem closed:joinedFacts prog 8 f8 Rows.knownSpec Rows.knownRow=true:=m (m (m (m (m (m (m (m (m (m (m (m (m (m (m (m (m (m (m (m (m (m (m (m (m (m (m (m (m (m (m c1 Gu) agy) c4) c5) c6) agt) c8) agu) c10) c11) LK) c13) oK) oJ) IK) c17) c18) c19) c20) c21) c22) c23) c24) ags) agx) c27) c28) c29) LH) c31) c32
end Go.Proofs.YtpdbmpbmepkikaaGreatDoor.known
