/- Laws. -/
import Derived.Test.YtpdbmpbmepkikaaGreatDoorQ20
set_option maxRecDepth 100000
set_option maxHeartbeats 400000
set_option linter.all false
open Go.Proofs.Tryz
namespace Go.Proofs.YtpdbmpbmepkikaaGreatDoor.again
theorem named:prog.funcNamed Rows.againRow.func=some 5:=by kernel_rfl
theorem inst:f5.isInstance prog Rows.againRow.origin Rows.againRow.targs:=of_decide_eq_true<|by kernel_rfl
theorem wrap:f5.isWrapper prog Rows.againRow.wrapper Rows.againRow.mainSum:=by unfold Func.isWrapper;first|(rw[if_pos<|by decide+kernel];kernel_rfl)|(rw[if_neg<|by decide+kernel];exact⟨rfl,rfl⟩)
theorem c1:Rows.againRow.wf (OpenSpec.ofChange Rows.againSpec)=true:=by kernel_rfl
theorem c4:f5.params.all (prog.readableRec .)=true:=by kernel_rfl
theorem c5:namedTie prog Rows.againRow.named Rows.againSpec.vars=true:=by kernel_rfl
theorem c6:(Rows.againRow.stops==[])=true:=by kernel_rfl
theorem c8:(Rows.againRow.knobs==[])=true:=by kernel_rfl
theorem Pb:(Rows.againRow.inPlace==prog.inPlace 5)=true:=by kernel_rfl
theorem Pa:(Rows.againRow.unfollowed==prog.unfollowed 5)=true:=by kernel_rfl
theorem ER:(Rows.againRow.recurses==prog.recurses 5)=true:=by kernel_rfl
theorem O9:(Rows.againRow.named==prog.varsNamed 5)=true:=by kernel_rfl
theorem mO:(Rows.againRow.maps==(f5.params.toList++Rows.againSpec.plain.varTypes prog).any (prog.mapsRec .))=true:=by kernel_rfl
theorem mM:(Rows.againRow.ifaces==(f5.params.toList++Rows.againSpec.plain.varTypes prog).any (prog.ifacesRec .))=true:=by kernel_rfl
theorem Cs:(Rows.againRow.mapsOut==prog.mapsAmong f5.resultTypes.toList)=true:=by kernel_rfl
theorem O8:(Rows.againRow.loops==(f5.params.toList++Rows.againSpec.plain.varTypes prog).any (prog.loopsFrom .))=true:=by kernel_rfl
theorem O7:(Rows.againRow.wideKeys==(f5.params.toList++Rows.againSpec.plain.varTypes prog++f5.resultTypes.toList).any (prog.wideKeysFrom .))=true:=by kernel_rfl
theorem O6:Rows.againSpec.vars.all (prog.varReadable .)=true:=by kernel_rfl
theorem O4:f5.resultTypes.all (λt=>prog.readableRec t&&decide (t<prog.types.size))=true:=by kernel_rfl
theorem O3:(Rows.againRow.ifacesOut==f5.resultTypes.toList.any (prog.ifacesRec .))=true:=by kernel_rfl
theorem O2:(Rows.againRow.loopsOut==f5.resultTypes.toList.any (prog.loopsFrom .))=true:=by kernel_rfl
theorem O1:(Rows.againRow.plainKeys==prog.plainKeys)=true:=by kernel_rfl
theorem O0:Rows.againRow.shortTexts.isNone=true:=by kernel_rfl
theorem OZ:(Rows.againRow.lifted==prog.liftsFinal)=true:=by kernel_rfl
theorem OY:(prog.make==some Rows.againRow.make)=true:=by kernel_rfl
theorem OX:(Rows.againRow.kinds==if Rows.againRow.domain.isEmpty then[]else f5.params.toList.map λt=>match prog.underlying t with|some<|.int k=>some k|_=>none)=true:=by kernel_rfl
theorem EP:(Rows.againRow.pinned==Rows.againRow.pinnedBy)=true:=by kernel_rfl
theorem OW:(Rows.againRow.veiled==(f5.params.toList++Rows.againSpec.plain.varTypes prog++f5.resultTypes.toList).any (prog.veiledRec .))=true:=by kernel_rfl
theorem OV:Rows.againRow.veiledFits prog f5.params.toList (f5.params.toList++Rows.againSpec.plain.varTypes prog++f5.resultTypes.toList)=true:=by kernel_rfl
theorem closed:joinedFacts prog 5 f5 Rows.againSpec Rows.againRow=true:=s (s (s (s (s (s (s (s (s (s (s (s (s (s (s (s (s (s (s (s (s (s (s (s (s (s (s (s (s (s (s c1 zR) Xg) c4) c5) c6) Xc) c8) Xd) Pb) Pa) ER) O9) mO) mM) Cs) O8) O7) O6) O4) O3) O2) O1) O0) Xb) Xf) OZ) OY) OX) EP) OW) OV
end Go.Proofs.YtpdbmpbmepkikaaGreatDoor.again
