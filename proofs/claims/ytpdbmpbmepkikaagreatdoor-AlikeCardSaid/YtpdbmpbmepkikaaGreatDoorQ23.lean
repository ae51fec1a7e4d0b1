/- Laws. -/
import Derived.Test.YtpdbmpbmepkikaaGreatDoorQ20
set_option maxRecDepth 100000
set_option maxHeartbeats 400000
set_option linter.all false
open Go.Proofs.Tryz
namespace Go.Proofs.YtpdbmpbmepkikaaGreatDoor.alike
theorem named:prog.funcNamed Rows.alikeRow.func=some 4:=by kernel_rfl
theorem inst:f4.isInstance prog Rows.alikeRow.origin Rows.alikeRow.targs:=of_decide_eq_true<|by kernel_rfl
theorem wrap:f4.isWrapper prog Rows.alikeRow.wrapper Rows.alikeRow.mainSum:=by unfold Func.isWrapper;first|(rw[if_pos<|by decide+kernel];kernel_rfl)|(rw[if_neg<|by decide+kernel];exact⟨rfl,rfl⟩)
theorem c1:Rows.alikeRow.wf (OpenSpec.ofChange Rows.alikeSpec)=true:=by kernel_rfl
theorem c4:f4.params.all (prog.readableRec .)=true:=by kernel_rfl
theorem c5:namedTie prog Rows.alikeRow.named Rows.alikeSpec.vars=true:=by kernel_rfl
theorem c6:(Rows.alikeRow.stops==[])=true:=by kernel_rfl
theorem c8:(Rows.alikeRow.knobs==[])=true:=by kernel_rfl
theorem Pb:(Rows.alikeRow.inPlace==prog.inPlace 4)=true:=by kernel_rfl
theorem Pa:(Rows.alikeRow.unfollowed==prog.unfollowed 4)=true:=by kernel_rfl
theorem ER:(Rows.alikeRow.recurses==prog.recurses 4)=true:=by kernel_rfl
theorem O9:(Rows.alikeRow.named==prog.varsNamed 4)=true:=by kernel_rfl
theorem mO:(Rows.alikeRow.maps==(f4.params.toList++Rows.alikeSpec.plain.varTypes prog).any (prog.mapsRec .))=true:=by kernel_rfl
theorem mM:(Rows.alikeRow.ifaces==(f4.params.toList++Rows.alikeSpec.plain.varTypes prog).any (prog.ifacesRec .))=true:=by kernel_rfl
theorem Cs:(Rows.alikeRow.mapsOut==prog.mapsAmong f4.resultTypes.toList)=true:=by kernel_rfl
theorem O8:(Rows.alikeRow.loops==(f4.params.toList++Rows.alikeSpec.plain.varTypes prog).any (prog.loopsFrom .))=true:=by kernel_rfl
theorem O7:(Rows.alikeRow.wideKeys==(f4.params.toList++Rows.alikeSpec.plain.varTypes prog++f4.resultTypes.toList).any (prog.wideKeysFrom .))=true:=by kernel_rfl
theorem O6:Rows.alikeSpec.vars.all (prog.varReadable .)=true:=by kernel_rfl
theorem O4:f4.resultTypes.all (λt=>prog.readableRec t&&decide (t<prog.types.size))=true:=by kernel_rfl
theorem O3:(Rows.alikeRow.ifacesOut==f4.resultTypes.toList.any (prog.ifacesRec .))=true:=by kernel_rfl
theorem O2:(Rows.alikeRow.loopsOut==f4.resultTypes.toList.any (prog.loopsFrom .))=true:=by kernel_rfl
theorem O1:(Rows.alikeRow.plainKeys==prog.plainKeys)=true:=by kernel_rfl
theorem O0:Rows.alikeRow.shortTexts.isNone=true:=by kernel_rfl
theorem OZ:(Rows.alikeRow.lifted==prog.liftsFinal)=true:=by kernel_rfl
theorem OY:(prog.make==some Rows.alikeRow.make)=true:=by kernel_rfl
theorem OX:(Rows.alikeRow.kinds==if Rows.alikeRow.domain.isEmpty then[]else f4.params.toList.map λt=>match prog.underlying t with|some<|.int k=>some k|_=>none)=true:=by kernel_rfl
theorem EP:(Rows.alikeRow.pinned==Rows.alikeRow.pinnedBy)=true:=by kernel_rfl
theorem OW:(Rows.alikeRow.veiled==(f4.params.toList++Rows.alikeSpec.plain.varTypes prog++f4.resultTypes.toList).any (prog.veiledRec .))=true:=by kernel_rfl
theorem OV:Rows.alikeRow.veiledFits prog f4.params.toList (f4.params.toList++Rows.alikeSpec.plain.varTypes prog++f4.resultTypes.toList)=true:=by kernel_rfl
theorem closed:joinedFacts prog 4 f4 Rows.alikeSpec Rows.alikeRow=true:=s (s (s (s (s (s (s (s (s (s (s (s (s (s (s (s (s (s (s (s (s (s (s (s (s (s (s (s (s (s (s c1 zR) Xg) c4) c5) c6) Xc) c8) Xd) Pb) Pa) ER) O9) mO) mM) Cs) O8) O7) O6) O4) O3) O2) O1) O0) Xb) Xf) OZ) OY) OX) EP) OW) OV
end Go.Proofs.YtpdbmpbmepkikaaGreatDoor.alike
