/- Laws. -/
import Derived.Test.YtpdbmpbmepkikaaGreatDoorQ20
set_option maxRecDepth 100000
set_option maxHeartbeats 400000
set_option linter.all false
open Go.Proofs.Tryz
namespace Go.Proofs.YtpdbmpbmepkikaaGreatDoor.broken
theorem named:prog.funcNamed Rows.brokenRow.func=some 6:=by kernel_rfl
theorem inst:f6.isInstance prog Rows.brokenRow.origin Rows.brokenRow.targs:=of_decide_eq_true<|by kernel_rfl
theorem wrap:f6.isWrapper prog Rows.brokenRow.wrapper Rows.brokenRow.mainSum:=by unfold Func.isWrapper;first|(rw[if_pos<|by decide+kernel];kernel_rfl)|(rw[if_neg<|by decide+kernel];exact⟨rfl,rfl⟩)
theorem c1:Rows.brokenRow.wf (OpenSpec.ofChange Rows.brokenSpec)=true:=by kernel_rfl
theorem c4:f6.params.all (prog.readableRec .)=true:=by kernel_rfl
theorem c5:namedTie prog Rows.brokenRow.named Rows.brokenSpec.vars=true:=by kernel_rfl
theorem c6:(Rows.brokenRow.stops==[])=true:=by kernel_rfl
theorem c8:(Rows.brokenRow.knobs==[])=true:=by kernel_rfl
theorem Pb:(Rows.brokenRow.inPlace==prog.inPlace 6)=true:=by kernel_rfl
theorem Pa:(Rows.brokenRow.unfollowed==prog.unfollowed 6)=true:=by kernel_rfl
theorem ER:(Rows.brokenRow.recurses==prog.recurses 6)=true:=by kernel_rfl
theorem O9:(Rows.brokenRow.named==prog.varsNamed 6)=true:=by kernel_rfl
theorem mO:(Rows.brokenRow.maps==(f6.params.toList++Rows.brokenSpec.plain.varTypes prog).any (prog.mapsRec .))=true:=by kernel_rfl
theorem mM:(Rows.brokenRow.ifaces==(f6.params.toList++Rows.brokenSpec.plain.varTypes prog).any (prog.ifacesRec .))=true:=by kernel_rfl
theorem Cs:(Rows.brokenRow.mapsOut==prog.mapsAmong f6.resultTypes.toList)=true:=by kernel_rfl
theorem O8:(Rows.brokenRow.loops==(f6.params.toList++Rows.brokenSpec.plain.varTypes prog).any (prog.loopsFrom .))=true:=by kernel_rfl
theorem O7:(Rows.brokenRow.wideKeys==(f6.params.toList++Rows.brokenSpec.plain.varTypes prog++f6.resultTypes.toList).any (prog.wideKeysFrom .))=true:=by kernel_rfl
theorem O6:Rows.brokenSpec.vars.all (prog.varReadable .)=true:=by kernel_rfl
theorem O4:f6.resultTypes.all (λt=>prog.readableRec t&&decide (t<prog.types.size))=true:=by kernel_rfl
theorem O3:(Rows.brokenRow.ifacesOut==f6.resultTypes.toList.any (prog.ifacesRec .))=true:=by kernel_rfl
theorem O2:(Rows.brokenRow.loopsOut==f6.resultTypes.toList.any (prog.loopsFrom .))=true:=by kernel_rfl
theorem O1:(Rows.brokenRow.plainKeys==prog.plainKeys)=true:=by kernel_rfl
theorem O0:Rows.brokenRow.shortTexts.isNone=true:=by kernel_rfl
theorem OZ:(Rows.brokenRow.lifted==prog.liftsFinal)=true:=by kernel_rfl
theorem OY:(prog.make==some Rows.brokenRow.make)=true:=by kernel_rfl
theorem OX:(Rows.brokenRow.kinds==if Rows.brokenRow.domain.isEmpty then[]else f6.params.toList.map λt=>match prog.underlying t with|some<|.int k=>some k|_=>none)=true:=by kernel_rfl
theorem EP:(Rows.brokenRow.pinned==Rows.brokenRow.pinnedBy)=true:=by kernel_rfl
theorem OW:(Rows.brokenRow.veiled==(f6.params.toList++Rows.brokenSpec.plain.varTypes prog++f6.resultTypes.toList).any (prog.veiledRec .))=true:=by kernel_rfl
theorem OV:Rows.brokenRow.veiledFits prog f6.params.toList (f6.params.toList++Rows.brokenSpec.plain.varTypes prog++f6.resultTypes.toList)=true:=by kernel_rfl
theorem closed:joinedFacts prog 6 f6 Rows.brokenSpec Rows.brokenRow=true:=s (s (s (s (s (s (s (s (s (s (s (s (s (s (s (s (s (s (s (s (s (s (s (s (s (s (s (s (s (s (s c1 zR) Xg) c4) c5) c6) Xc) c8) Xd) Pb) Pa) ER) O9) mO) mM) Cs) O8) O7) O6) O4) O3) O2) O1) O0) Xb) Xf) OZ) OY) OX) EP) OW) OV
end Go.Proofs.YtpdbmpbmepkikaaGreatDoor.broken
