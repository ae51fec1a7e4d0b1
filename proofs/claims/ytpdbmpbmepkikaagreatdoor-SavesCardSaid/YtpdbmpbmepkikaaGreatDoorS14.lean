/- RowB: What the rows' listed variables give; a world that holds them.
   RowC: Closed facts of the program that every row of this seat asks.
   SavesC: Closed facts of the row of saves.
   Saves: Saves, for every script: the call returns true on every schedule; nothing that was there is changed. Conditions: the listed variables of the library hold what its text lays. -/
import Derived.Test.YtpdbmpbmepkikaaGreatDoorS07
import Derived.Test.YtpdbmpbmepkikaaGreatDoorRows
import Derived.LaidHandle
import Derived.LaidLaws
import Derived.Lib.LaidTab
import Derived.JoinedOf
import Derived.KernelRfl
import Derived.Test.YtpdbmpbmepkikaaGreatDoorS13
import Derived.Test.YtpdbmpbmepkikaaGreatDoorCards
import Derived.Test.YtpdbmpbmepkikaaGreatDoorTie
import Derived.OpenShut
import Derived.ProofKit
import Derived.JoinedCond
import Derived.SevenTiedAt
set_option linter.all false
set_option linter.unusedSimpArgs false
set_option linter.unusedVariables false

namespace Go.Proofs.YtpdbmpbmepkikaaGreatDoor
open Go.ChangeShapes Go.WideShapes Go.RowKit

noncomputable def Laid : List (String × DataW Unit) := Rows.editsRow.laid

theorem laidMet_tail {P : Program} {x : String × DataW Unit} {l : List (String × DataW Unit)} {W : World} (h : laidMet P (x :: l) W) : laidMet P l W := by
  obtain ⟨ps, h1, h2, h3⟩ := h
  obtain ⟨g, t, cs, fuel, p, q, a1, a2, a3, a4, a5, rfl⟩ := h1
  exact ⟨q, a5, (List.nodup_append.1 h2).2.1, fun b off hb => h3 b off (List.mem_append_right _ hb)⟩

theorem own : ownKnob Tryz.prog.godebug = none := by kernel_rfl
theorem gEt : Tryz.prog.globalNamed "errors.errorType" = some 0 := by kernel_rfl
theorem cutRt : (Tryz.prog.cutTypes.find? (·.1 == "internal/reflectlite.rtype")).map (·.2) = some 264 := by kernel_rfl
theorem nTypes : Tryz.prog.types.size = 376 := by kernel_rfl
theorem oneErr : ((List.range 376).filter fun t => Tryz.prog.rowNamed t [101, 114, 114, 111, 114]) = [87] := by kernel_rfl
theorem laid_split (W : World) (h : laidMetH Tryz.prog Laid W) : laidMet Tryz.prog (Laid.filter fun x => x.2.handleName?.isNone) W ∧ handlesMet Tryz.prog (Laid.filter fun x => x.2.handleName?.isSome) W := by
  have e : Laid.filter (fun x => x.2.handleName?.isSome) = [("errors.errorType", Rows.laid_errors_errorType)] := by kernel_rfl
  unfold laidMetH at h
  rw [e] at h ⊢
  exact h
theorem etype_of_laid {W : World} (h : laidMetH Tryz.prog Laid W) : EType W := by
  obtain ⟨_, h2⟩ := laid_split W h
  have e : Laid.filter (fun x => x.2.handleName?.isSome) = [("errors.errorType", Rows.laid_errors_errorType)] := by kernel_rfl
  rw [e] at h2
  have h3 := h2 _ (List.mem_singleton.2 rfl)
  obtain ⟨name, u, ty, e1, e2, e3, e4, e5⟩ := h3
  have en : name = [101, 114, 114, 111, 114] := (Option.some.inj e1).symm
  subst en
  obtain rfl := Option.some.inj (cutRt.symm.trans e2)
  have hm : ty ∈ (List.range 376).filter fun t => Tryz.prog.rowNamed t [101, 114, 114, 111, 114] := List.mem_filter.2 ⟨List.mem_range.2 (by rw [← nTypes]; exact e3), e4⟩
  rw [oneErr] at hm
  obtain rfl := List.mem_singleton.1 hm
  have hh : typeHandle Tryz.prog 87 = .pointer (some ⟨7, 87, none⟩) := by kernel_rfl
  rw [hh] at e5
  have := World.var?_cell gEt e5 0
  unfold EType
  simpa using this
theorem tab_of_laid {W : World} (h : laidMetH Tryz.prog Laid W) : Tab W := by
  obtain ⟨h1, _⟩ := laid_split W h
  have e : (Laid.filter fun x => x.2.handleName?.isNone) = ("math/bits.deBruijn32tab", Rows.laid_math_bits_deBruijn32tab) :: ("math/bits.deBruijn64tab", Rows.laid_math_bits_deBruijn64tab) :: ("internal/strconv.uint64pow10", Lib.tabData .u64 Lib.pow10Tab) :: [("unicode/utf8.acceptRanges", Rows.laid_unicode_utf8_acceptRanges), ("unicode/utf8.first", Rows.laid_unicode_utf8_first)] := by kernel_rfl
  rw [e] at h1
  have h2 := laidMet_tail (laidMet_tail h1)
  exact Lib.tabIs_of_head (t := 340) (e := 120) (n := 20) tabGlobal (by kernel_rfl) (by kernel_rfl) (by kernel_rfl) (by kernel_rfl) (by kernel_rfl) h2

/-! ### the witness -/
def lits1 : DataW Unit → List Value
  | .lit (.int k n) => [.int k n]
  | _ => []
def lits2 : DataW Unit → List Value
  | .agg ds => ds.flatMap lits1
  | d => lits1 d
def lits3 : DataW Unit → List Value
  | .agg ds => ds.flatMap lits2
  | d => lits2 d
def lay (g : Nat) (vs : List Value) (h : Array Obj) : Array Obj := h.modify g fun
  | .cells _ t frozen => .cells vs.toArray t frozen
  | o => o
noncomputable def laidWorld (os : Os) : World :=
  { World.holding Tryz.prog os ⟨#[], #[], []⟩ with heap := lay 6 (lits3 Rows.laid_math_bits_deBruijn64tab) (lay 5 (lits3 Rows.laid_math_bits_deBruijn32tab) (lay 3 (lits3 Rows.laid_internal_strconv_uint64pow10) (lay 2 (lits3 Rows.laid_unicode_utf8_acceptRanges) (lay 1 (lits3 Rows.laid_unicode_utf8_first)
      (lay 0 [.iface 264 (.agg #[.pointer (some ⟨7, 87, none⟩)])] (World.holding Tryz.prog os ⟨#[], #[], []⟩).heap))))) }
theorem laid_met (os : Os) (args : Array Value) : laidMetH Tryz.prog Laid ((laidWorld os).forCall (fun _ _ => 0) ⟨#[], args, []⟩).memory :=
  laidMetH_of_parts (laidMet_of_run' 8 (by kernel_rfl) (by kernel_rfl)) (by kernel_rfl)
end Go.Proofs.YtpdbmpbmepkikaaGreatDoor

namespace Go.Proofs.YtpdbmpbmepkikaaGreatDoor
theorem and_t {a b : Bool} (h : a = true) (k : b = true) : (a && b) = true := by rw [h, k]; rfl
theorem p_laidOut : laidOutB Tryz.prog = true := by kernel_rfl
theorem p_mapsRowed : mapsRowed Tryz.prog = true := by kernel_rfl
theorem p_stops : (Tryz.prog.stops == []) = true := by kernel_rfl
theorem p_stopKnobs : (Tryz.prog.stopKnobs == []) = true := by kernel_rfl
theorem p_stopsHeard : Tryz.prog.stopsHeard = true := by kernel_rfl
theorem p_mayEnter : Tryz.prog.mayEnter = true := by kernel_rfl
theorem p_read69 : Tryz.prog.readableRec 69 = true := by kernel_rfl
theorem p_lt69 : 69 < Tryz.prog.types.size := of_decide_eq_true (by kernel_rfl)
end Go.Proofs.YtpdbmpbmepkikaaGreatDoor

namespace Go.Proofs.YtpdbmpbmepkikaaGreatDoor.saves
theorem named : Tryz.prog.funcNamed Rows.savesRow.func = some 11 := by kernel_rfl
theorem inst : Tryz.f11.isInstance Tryz.prog Rows.savesRow.origin Rows.savesRow.targs := of_decide_eq_true (by kernel_rfl)
theorem wrap : Tryz.f11.isWrapper Tryz.prog Rows.savesRow.wrapper Rows.savesRow.mainSum := by unfold Func.isWrapper; first | (rw [if_pos (by decide +kernel)]; kernel_rfl) | (rw [if_neg (by decide +kernel)]; exact ⟨rfl, rfl⟩)
theorem noInit : Tryz.prog.inits.idxOf? 11 = none := by kernel_rfl
theorem c1 : Rows.savesRow.wf (OpenSpec.ofChange Rows.savesSpec) = true := by kernel_rfl
theorem c4 : Tryz.f11.params.all (Tryz.prog.readableRec ·) = true := by kernel_rfl
theorem c5 : namedTie Tryz.prog Rows.savesRow.named Rows.savesSpec.vars = true := by kernel_rfl
theorem c6 : (Rows.savesRow.stops == []) = true := by kernel_rfl
theorem c8 : (Rows.savesRow.knobs == []) = true := by kernel_rfl
theorem c10 : (Rows.savesRow.inPlace == Tryz.prog.inPlace 11) = true := by kernel_rfl
theorem c11 : (Rows.savesRow.unfollowed == Tryz.prog.unfollowed 11) = true := by kernel_rfl
theorem c12 : (Rows.savesRow.recurses == Tryz.prog.recurses 11) = true := by kernel_rfl
theorem c13 : (Rows.savesRow.named == Tryz.prog.varsNamed 11) = true := by kernel_rfl
theorem c14 : (Rows.savesRow.maps == (Tryz.f11.params.toList ++ Rows.savesSpec.plain.varTypes Tryz.prog).any (Tryz.prog.mapsRec ·)) = true := by kernel_rfl
theorem c15 : (Rows.savesRow.ifaces == (Tryz.f11.params.toList ++ Rows.savesSpec.plain.varTypes Tryz.prog).any (Tryz.prog.ifacesRec ·)) = true := by kernel_rfl
theorem c16 : (Rows.savesRow.mapsOut == Tryz.prog.mapsAmong Tryz.f11.resultTypes.toList) = true := by kernel_rfl
theorem c17 : (Rows.savesRow.loops == (Tryz.f11.params.toList ++ Rows.savesSpec.plain.varTypes Tryz.prog).any (Tryz.prog.loopsFrom ·)) = true := by kernel_rfl
theorem c18 : (Rows.savesRow.wideKeys == (Tryz.f11.params.toList ++ Rows.savesSpec.plain.varTypes Tryz.prog ++ Tryz.f11.resultTypes.toList).any (Tryz.prog.wideKeysFrom ·)) = true := by kernel_rfl
theorem c19 : Rows.savesSpec.vars.all (Tryz.prog.varReadable ·) = true := by kernel_rfl
theorem c20 : Tryz.f11.resultTypes.all (fun t => Tryz.prog.readableRec t && decide (t < Tryz.prog.types.size)) = true := by kernel_rfl
theorem c21 : (Rows.savesRow.ifacesOut == Tryz.f11.resultTypes.toList.any (Tryz.prog.ifacesRec ·)) = true := by kernel_rfl
theorem c22 : (Rows.savesRow.loopsOut == Tryz.f11.resultTypes.toList.any (Tryz.prog.loopsFrom ·)) = true := by kernel_rfl
theorem c23 : (Rows.savesRow.plainKeys == Tryz.prog.plainKeys) = true := by kernel_rfl
theorem c24 : Rows.savesRow.shortTexts.isNone = true := by kernel_rfl
theorem c27 : (Rows.savesRow.lifted == Tryz.prog.liftsFinal) = true := by kernel_rfl
theorem c28 : (Tryz.prog.make == some Rows.savesRow.make) = true := by kernel_rfl
theorem c29 : (Rows.savesRow.kinds == (if Rows.savesRow.domain.isEmpty then [] else Tryz.f11.params.toList.map fun t => match Tryz.prog.underlying t with | some (.int k) => some k | _ => none)) = true := by kernel_rfl
theorem c30 : (Rows.savesRow.pinned == Rows.savesRow.pinnedBy) = true := by kernel_rfl
theorem c31 : (Rows.savesRow.veiled == (Tryz.f11.params.toList ++ Rows.savesSpec.plain.varTypes Tryz.prog ++ Tryz.f11.resultTypes.toList).any (Tryz.prog.veiledRec ·)) = true := by kernel_rfl
theorem c32 : Rows.savesRow.veiledFits Tryz.prog Tryz.f11.params.toList (Tryz.f11.params.toList ++ Rows.savesSpec.plain.varTypes Tryz.prog ++ Tryz.f11.resultTypes.toList) = true := by kernel_rfl
set_option maxRecDepth 100000 in
theorem closed : joinedFacts Tryz.prog 11 Tryz.f11 Rows.savesSpec Rows.savesRow = true := (and_t (and_t (and_t (and_t (and_t (and_t (and_t (and_t (and_t (and_t (and_t (and_t (and_t (and_t (and_t (and_t (and_t (and_t (and_t (and_t (and_t (and_t (and_t (and_t (and_t (and_t (and_t (and_t (and_t (and_t (and_t c1 p_laidOut) p_mapsRowed) c4) c5) c6) p_stops) c8) p_stopKnobs) c10) c11) c12) c13) c14) c15) c16) c17) c18) c19) c20) c21) c22) c23) c24) p_stopsHeard) p_mayEnter) c27) c28) c29) c30) c31) c32)
end Go.Proofs.YtpdbmpbmepkikaaGreatDoor.saves

namespace Go.Proofs.YtpdbmpbmepkikaaGreatDoor.saves
open Go.ChangeShapes Go.WideShapes Go.ChangeAt Go.RowKit

set_option maxRecDepth 100000 in
theorem contract (H : Type) (enc : TypeId × Value → H) (W : World) (base : Nat) (args : Array Value) (ds gs : List (DataW H)) (before : List MemPlace)
    (hval : ∀ (j : Nat) t v, Tryz.f11.params[j]? = some t → args[j]? = some v → Value.okWide Tryz.prog W .any base t v)
    (hW : DataW.Whole enc Tryz.prog Tryz.f11.params.toList Rows.savesSpec.vars false W args.toList ds gs before)
    (hz : (DataW.weightsEach Tryz.prog (Tryz.f11.params.toList ++ (OpenSpec.ofChange Rows.savesSpec).bare.plain.varTypes Tryz.prog) (ds ++ gs)).all (· ≤ reachBytes) = true) (hL : laidMetH Tryz.prog Laid W) :
    Calls Tryz.prog 11 args W fun e W' => ∃ v, e = .returned v ∧ Rows.savesSpec.post enc Tryz.prog Tryz.f11 false true false false W args v W' := by
  have hW' := hW
  obtain ⟨p, q, hA0, hV, rfl, hfz, hnd⟩ := hW
  have hA : DataW.TrodAll enc Tryz.prog W 0 (fun _ => true) true Tryz.f11.params.toList args.toList ds p := hA0
  rw [Tryz.params11] at hA hval
  obtain ⟨v0, d0, rfl, rfl, h0⟩ := trodAll_one hA
  obtain ⟨rfl, rfl⟩ := trodVars_none hV
  clear hA0
  simp only [List.append_nil] at hW'
  have hwe : ∀ n ∈ d0.weights Tryz.prog 69, n ≤ reachBytes := fun n hn => by
    rw [List.all_eq_true] at hz
    have := hz n (by rw [Tryz.params11]; exact List.mem_append_left _ hn)
    simpa using this
  obtain ⟨l, hS, hl, hls, hI⟩ := open_script (hval 0 69 v0 rfl rfl) h0 hwe
  have hlt : ∀ x ∈ p, x.block < W.heap.size := fun x hx => hW'.lt x hx
  refine (saves_any v0 l W hS hl hls hI (etype_of_laid hL) (tab_of_laid hL)).mono fun e W' ⟨he, hb⟩ => ?_
  subst he
  exact ⟨_, rfl, _, _, _, [], _, [], hW', trodAll_mk1 (shut_bool Tryz.underlying4 true), trodAll_mk1 (Below.trod p_laidOut p_read69 p_lt69 h0 hb hlt), rfl, hb.frame _, fun h => by cases h⟩

theorem wit1 (os : Os) : ((laidWorld os).forCall (fun _ _ => 0) ⟨#[], #[.slice none 0 0], []⟩).variablesB Tryz.checked.prog = true := by kernel_rfl
theorem wit2 (os : Os) : (((laidWorld os).forCall (fun _ _ => 0) ⟨#[], #[.slice none 0 0], []⟩).heap.toList.drop Tryz.checked.prog.globals.size).take ((begin Tryz.checked.prog (fun _ _ => 0) default).world.heap.size - Tryz.checked.prog.globals.size) =
    (begin Tryz.checked.prog (fun _ _ => 0) default).world.heap.toList.drop Tryz.checked.prog.globals.size := by kernel_rfl
theorem wit3 (os : Os) : Input.okWideB Tryz.checked.prog ((laidWorld os).forCall (fun _ _ => 0) ⟨#[], #[.slice none 0 0], []⟩) 11 ⟨#[], #[.slice none 0 0], []⟩ = true := by kernel_rfl
theorem wit4 (os : Os) (H : Type) (enc : TypeId × Value → H) : DataW.whole enc Tryz.prog ((laidWorld os).forCall (fun _ _ => 0) ⟨#[], #[.slice none 0 0], []⟩).memory Tryz.f11.params.toList Rows.savesSpec.vars false #[Value.slice none 0 0].toList 8 = some ([.nil], [], []) := by kernel_rfl
theorem wit5 (os : Os) (H : Type) (enc : TypeId × Value → H) : (OpenSpec.ofChange Rows.savesSpec).bare.sizedB enc Tryz.prog Tryz.f11 false ((laidWorld os).forCall (fun _ _ => 0) ⟨#[], #[.slice none 0 0], []⟩).memory #[Value.slice none 0 0] 8 = true := by kernel_rfl
set_option maxRecDepth 100000 in
theorem lifted (os : Os) (started : os.Started) (H : Type) (enc : TypeId × Value → H) (F : Stop.Interp) :
    ReturnsInLeavingWide {} Tryz.checked os 11 .any ((OpenSpec.ofChange Rows.savesSpec).preRow enc Tryz.prog Tryz.f11 Rows.savesRow.domain false Rows.savesRow.laid) (((OpenSpec.ofChange Rows.savesSpec).at F).post enc Tryz.prog Tryz.f11 false true false false) := by
  refine returnsInLeavingWide_of_row (C := Tryz.checked) (s := OpenSpec.ofChange Rows.savesSpec) own started noInit Tryz.func11
    (witness_row_at (enc := enc) (C := Tryz.checked) false (laidWorld os) #[.slice none 0 0] rfl (wit1 os) (wit2 os) (wit3 os)
      (OpenSpec.preRow_of_cond (x := ([.nil], [], [])) 8 (wit4 os H enc) rfl (fun k hk => by cases hk) (wit5 os H enc) (laid_met os _))) ?_
  intro W base args ds gs before hval hW _ hz hL _
  exact contract H enc W base args ds gs before hval hW hz hL

theorem said : Rows.SavesSaid :=
  OpenClaim.holds_of_wide_leaving 11 Tryz.f11 rfl rfl rfl rfl rfl rfl rfl ⟨rfl, rfl, rfl, rfl, rfl⟩ rfl rfl rfl rfl rfl named Tryz.func11 closed inst wrap
    (fun os started H enc _ => by rw [OpenClaim.pre_eq_preRow]; exact lifted os started H enc default)

theorem looks : true = Tryz.prog.looks [] := by kernel_rfl
theorem wants69 : Tryz.prog.wantsStandIn 69 = false := by kernel_rfl
theorem mainIs : Tryz.prog.mainIs = some (true, "04e7a162b24e94a4dec71da376639edfd8b76e999e2ce65f3d5afc609319b963".toList) := by kernel_rfl
theorem goes : true = Rows.savesRow.goesBy Tryz.prog := by kernel_rfl
theorem wft : Rows.savesRow.wfByText (OpenSpec.ofChange Rows.savesSpec) = true := by kernel_rfl
theorem plain (f : FuncId) (fn : Func) (hf : Tryz.pinned.checked.prog.funcNamed Rows.savesRow.func = some f) (hfn : Tryz.pinned.checked.prog.funcs[f]? = some fn) :
    true = Tryz.pinned.checked.prog.looks [] ∧ ∀ (j : Nat) t, fn.params[j]? = some t → Tryz.pinned.checked.prog.wantsStandIn t = false := by
  obtain rfl : f = 11 := Option.some.inj ((show Tryz.prog.funcNamed Rows.savesRow.func = some 11 from named).symm.trans hf) |>.symm
  obtain rfl : fn = Tryz.f11 := (Option.some.inj (Tryz.func11.symm.trans hfn)).symm
  refine ⟨looks, fun j t ht => ?_⟩
  rw [Tryz.params11] at ht
  obtain rfl : t = 69 := by simpa using Array.mem_of_getElem? ht
  exact wants69

/-- ████ THE STATEMENT ████ -/
theorem proved : Rows.SavesCardSaid :=
  card_goes said wft saves_row_tie rfl ⟨rfl, rfl⟩ mainIs rfl plain goes
#print axioms proved
end Go.Proofs.YtpdbmpbmepkikaaGreatDoor.saves
