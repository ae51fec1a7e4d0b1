/- PlnA: Contracts of plain's World: the second round of Fields.
   LawA: Contracts of the law's pick, and of same at like rows.
   LawB: The contract of the law's small. Condition: no text is longer than memory.
   RowA: From a lone call's contract to the row that bears 'leaving'; a script as an argument.
   ErrA: Contracts of errors.As, errors.Is at the errors of this program.
   ErrB: Contracts of errors.Is at the errors of this program.
   ErrC: The contract of plain's parts. Condition: the library's variable errorType is laid.
   PlnB: Contracts of plain's World: Put, Delete. Conditions: short texts; the counter is none of the greatest.
   PlnC: Contracts of plain's World: New. Condition: at most 1000000 replicas.
   RefG: Contracts of the document's Put, Delete. Conditions: at most 1000000 registers; short texts; the counter is none of the greatest. -/
import Derived.Test.YtpdbmpbmepkikaaGreatDoorB06
import Derived.Conc.LeavingOf
import Derived.Deep.DeepHandedRow
import Derived.Deep.Slices
import Derived.Deep.Fields
import Derived.ChangeSame
import Derived.Carry
import Derived.LoneHanded
import Derived.RaceLone
import Derived.SevenTiedAt
import Derived.Test.YtpdbmpbmepkikaaGreatDoorProg
import Derived.WalkKit
import Derived.LaidEql
import Derived.Stop.Asserts
import Derived.RowKitTokens
import Derived.Lib.IfaceEq
import Derived.Lib.Hide
import Derived.Lib.SmallJoins
import Derived.Test.YtpdbmpbmepkikaaGreatDoorB05
import Derived.Test.YtpdbmpbmepkikaaGreatDoorB04
set_option linter.all false
set_option linter.unusedSimpArgs false
set_option linter.unusedVariables false

namespace Go.Proofs.YtpdbmpbmepkikaaGreatDoor
open Go.RowKit

/-- Fields and values, by turns. -/
def fvs (l : List Reg) : List ByteArray := l.flatMap fun x => [x.field, x.value]
theorem fvs_length (l : List Reg) : (fvs l).length = 2 * l.length := by
  induction l with
  | nil => rfl
  | cons x l ih => show ([x.field, x.value] ++ fvs l).length = _; rw [List.length_append, ih]; simp; omega
theorem fvs_at {l : List Reg} {j : Nat} (hj : j < l.length) : (fvs l)[2 * j]? = some l[j].field ∧ (fvs l)[2 * j + 1]? = some l[j].value := by
  induction l generalizing j with
  | nil => simp at hj
  | cons x l ih =>
    show ([x.field, x.value] ++ fvs l)[2 * j]? = _ ∧ ([x.field, x.value] ++ fvs l)[2 * j + 1]? = _
    cases j with
    | zero => exact ⟨rfl, rfl⟩
    | succ j =>
      have := ih (j := j) (by simpa using hj)
      rw [List.getElem?_append_right (by simp; omega), List.getElem?_append_right (by simp; omega)]
      simpa [show 2 * (j + 1) - 2 = 2 * j by omega, show 2 * (j + 1) + 1 - 2 = 2 * j + 1 by omega] using this

structure F45 (bo bn bk bl : Nat) (ok no : Bool) (k : Int) (lv : Value) (W : World) : Prop where
  ok : W.heap[bo]? = some (.cells #[.bool ok] 4 (0, 0))
  no : W.heap[bn]? = some (.cells #[.bool no] 4 (0, 0))
  k : W.heap[bk]? = some (.cells #[.int .i64 k] 3 (0, 0))
  l : W.heap[bl]? = some (.cells #[lv] 51 (0, 0))

theorem fields45_any (bo bn bk bl : Nat) (F : List Reg) (j : Nat) (hj : j < F.length) (hF : F.length ≤ 1000000) (lv : Value) (W : World) (h : F45 bo bn bk bl true false (2 * j : Nat) lv W) (hl : StrAt W lv (fvs F))
    (hd : bo ≠ bn ∧ bo ≠ bk ∧ bo ≠ bl ∧ bn ≠ bk ∧ bn ≠ bl ∧ bk ≠ bl) :
    Calls Tryz.prog 45 #[.string F[j].field, .string F[j].value, .pointer (some ⟨bo, 0, none⟩), .pointer (some ⟨bn, 0, none⟩), .pointer (some ⟨bk, 0, none⟩), .pointer (some ⟨bl, 0, none⟩)] W fun e w' =>
      e = .returned (.bool (decide (2 * j + 2 ≤ F.length))) ∧ F45 bo bn bk bl true (decide (F.length < 2 * j + 2)) (2 * (j + 1) : Nat) lv w' ∧ Keep (fun b => b = bo ∨ b = bn ∨ b = bk) W w' := by
  obtain ⟨h1, h2⟩ := fvs_at hj
  have hlen := fvs_length F
  have hj1 : 2 * j + 1 < (fvs F).length := by omega
  obtain ⟨g, cap, hv, hg, y0⟩ := hl.cell (j := 2 * j) (by omega)
  obtain ⟨g', cap', hv', hg', y1⟩ := hl.cell (j := 2 * j + 1) (by omega)
  rw [hv] at hv'
  simp only [Value.slice.injEq, Option.some.injEq, Addr.mk.injEq, and_true, true_and] at hv'
  obtain ⟨rfl, rfl⟩ := hv'
  have e0 : (fvs F)[2 * j] = F[j].field := by have := List.getElem?_eq_getElem (l := fvs F) (i := 2 * j) (by omega); rw [h1] at this; exact (Option.some.inj this).symm
  have e1 : (fvs F)[2 * j + 1] = F[j].value := by have := List.getElem?_eq_getElem (l := fvs F) (i := 2 * j + 1) (by omega); rw [h2] at this; exact (Option.some.inj this).symm
  rw [e0] at y0
  rw [e1] at y1
  obtain ⟨f, hf⟩ : ∃ f, f = F[j].field := ⟨_, rfl⟩
  obtain ⟨v, hvv⟩ : ∃ v, v = F[j].value := ⟨_, rfl⟩
  rw [← hf] at y0 ⊢
  rw [← hvv] at y1 ⊢
  obtain ⟨nF, hnF⟩ : ∃ nF, nF = F.length := ⟨_, rfl⟩
  rw [← hnF] at hlen hj hF ⊢
  rw [hlen] at hv hj1
  subst hv
  have a0 : W.cell? ⟨bo, 0, none⟩ = some (.bool true) := Joins.cell_of_block h.ok 0
  have a1 : W.cell? ⟨bn, 0, none⟩ = some (.bool false) := Joins.cell_of_block h.no 0
  have a2 : W.cell? ⟨bk, 0, none⟩ = some (.int .i64 (2 * j : Nat)) := Joins.cell_of_block h.k 0
  have a3 : W.cell? ⟨bl, 0, none⟩ = some (.slice (some ⟨g, 0, none⟩) (2 * nF) cap) := Joins.cell_of_block h.l 0
  have b0 : W.frozen? ⟨bo, 0, none⟩ = false := Joins.unfrozen_of_block h.ok 0
  have b1 : W.frozen? ⟨bn, 0, none⟩ = false := Joins.unfrozen_of_block h.no 0
  have b2 : W.frozen? ⟨bk, 0, none⟩ = false := Joins.unfrozen_of_block h.k 0
  have w0 : IntKind.i64.wrap (((2 * j : Nat) : Int) + 1) = (2 * j + 1 : Nat) := by rw [IntKind.wrap_i64]; omega
  have w1 : IntKind.i64.wrap (((2 * j : Nat) : Int) + 2) = (2 * j + 2 : Nat) := by rw [IntKind.wrap_i64]; omega
  obtain ⟨d1, d2, d3, d4, d5, d6⟩ := hd
  have HH := Lib.hid h
  clear hl e0 e1 h1 h2 h hf hvv hnF hlen
  go_enter Tryz.func45, Tryz.ntmps45
  go_wp2
  go_ret
  have hb : decide ((nF : Int) < 2 * (j : Int) + 2) = decide (nF < 2 * j + 2) := by rw [Bool.eq_iff_iff, decide_eq_true_eq, decide_eq_true_eq]; omega
  refine ⟨ret_bool ?_, ⟨?_, ?_, ?_, ?_⟩, ?_⟩
  · rw [hb, Bool.eq_iff_iff]
    simp
  · rw [Below.heap_setCell _ _ _ _ (by simp only; omega), Below.heap_setCell _ _ _ _ (by simp only; omega)]
    exact setCell_box HH.out.ok
  · rw [hb]
    refine setCell_box (v := .bool false) ?_
    rw [Below.heap_setCell _ _ _ _ (by simp only; omega), Below.heap_setCell _ _ _ _ (by simp only; omega)]
    exact HH.out.no
  · rw [Below.heap_setCell _ _ _ _ (by simp only; omega)]
    rw [show ((2 * (j + 1) : Nat) : Int) = 2 * (j : Int) + 2 by omega]
    refine setCell_box (v := .int .i64 (2 * j : Nat)) ?_
    rw [Below.heap_setCell _ _ _ _ (by simp only; omega)]
    exact HH.out.k
  · rw [Below.heap_setCell _ _ _ _ (by simp only; omega), Below.heap_setCell _ _ _ _ (by simp only; omega), Below.heap_setCell _ _ _ _ (by simp only; omega)]
    exact HH.out.l
  · exact ((Keep.setCell (F := fun b => b = bo ∨ b = bn ∨ b = bk) _ _ _ (.inl rfl)).trans (Keep.setCell _ _ _ (.inr (.inr rfl)))).trans (Keep.setCell _ _ _ (.inr (.inl rfl)))
end Go.Proofs.YtpdbmpbmepkikaaGreatDoor

namespace Go.Proofs.YtpdbmpbmepkikaaGreatDoor
open Go.RowKit

/-- Which of n. -/
def pickZ (c : Int) (n : Nat) : Nat := ((if c < 0 then -(c + 1) else c) % n).toNat
theorem pickZ_lt {c : Int} {n : Nat} (h : 0 < n) : pickZ c n < n := by
  unfold pickZ
  have h1 := Int.emod_lt_of_pos (if c < 0 then -(c + 1) else c) (show (0 : Int) < n by omega)
  have h2 := Int.emod_nonneg (if c < 0 then -(c + 1) else c) (show (n : Int) ≠ 0 by omega)
  omega

theorem pickL_any (c : Int) (n : Nat) (w : World) (hn : 0 < n) (hn2 : n ≤ 1000000) (hc : I64 c) :
    Calls Tryz.prog 72 #[.int .i64 c, .int .i64 n] w fun e w' => e = .returned (.int .i64 (pickZ c n)) ∧ w' = w := by
  have hp : ((pickZ c n : Nat) : Int) = (if c < 0 then -(c + 1) else c) % n := by
    unfold pickZ
    exact Int.toNat_of_nonneg (Int.emod_nonneg _ (by omega))
  have hn0 : ((n : Int) == 0) = false := by simp; omega
  have hn1 : ¬ (n : Int) = 0 := by omega
  have hn3 : ¬ n = 0 := by omega
  obtain ⟨h1, h2⟩ := hc
  by_cases h0 : c < 0
  · have w0 : IntKind.i64.wrap (c + 1) = c + 1 := by rw [IntKind.wrap_i64]; omega
    have w1 : IntKind.i64.wrap (-(c + 1)) = -(c + 1) := by rw [IntKind.wrap_i64]; omega
    have hm : (-(c + 1)).tmod (n : Int) = (-(c + 1)) % n := Int.tmod_eq_emod_of_nonneg (by omega)
    have hr := Int.emod_lt_of_pos (-(c + 1)) (show (0 : Int) < n by omega)
    have hr2 := Int.emod_nonneg (-(c + 1)) (show (n : Int) ≠ 0 by omega)
    have w2 : IntKind.i64.wrap ((-(c + 1)).tmod (n : Int)) = (-(c + 1)) % n := by rw [hm, IntKind.wrap_i64]; omega
    rw [if_pos h0] at hp
    have HP := Lib.hid (And.intro hp (And.intro hr hr2))
    clear hp hr hr2
    go_enter Tryz.func72, Tryz.ntmps72
    go_wp2
    go_ret
    obtain ⟨hp, _, _⟩ := HP.out
    exact ⟨congrArg (fun z => Ending.returned (Value.int .i64 z)) hp.symm, rfl⟩
  · have hm : c.tmod (n : Int) = c % n := Int.tmod_eq_emod_of_nonneg (by omega)
    have hr := Int.emod_lt_of_pos c (show (0 : Int) < n by omega)
    have hr2 := Int.emod_nonneg c (show (n : Int) ≠ 0 by omega)
    have w2 : IntKind.i64.wrap (c.tmod (n : Int)) = c % n := by rw [hm, IntKind.wrap_i64]; omega
    rw [if_neg h0] at hp
    have HP := Lib.hid (And.intro hp (And.intro hr hr2))
    clear hp hr hr2
    go_enter Tryz.func72, Tryz.ntmps72
    go_wp2
    go_ret
    obtain ⟨hp, _, _⟩ := HP.out
    exact ⟨congrArg (fun z => Ending.returned (Value.int .i64 z)) hp.symm, rfl⟩

/-- Two slices that hold the same texts. -/
theorem sameL_any (va vb : Value) (l : List ByteArray) (w : World) (ha : StrAt w va l) (hb : StrAt w vb l) (hl : l.length ≤ 2000000) :
    Calls Tryz.prog 78 #[va, vb] w fun e w' => e = .returned (.bool true) ∧ Below w.heap.size w w' := by
  obtain ⟨ad, ca, hva⟩ := ha.slice
  obtain ⟨bd, cb, hvb⟩ := hb.slice
  subst hva
  subst hvb
  have HA := Lib.hid (And.intro ha hb)
  clear ha hb
  go_enter Tryz.func78, Tryz.ntmps78
  go_wp2
  go_loopg [5] l.length (fun k s wr => ∃ j : Nat, s = .int .i64 j ∧ k + j = l.length ∧ Below w.heap.size w wr)
  case atStart => exact ⟨0, rfl, by omega, Below.refl _ _⟩
  case round =>
    obtain ⟨j, rfl, hk, hB⟩ := hrel
    by_cases hj : j < l.length
    · obtain ⟨g, cap, hv, hg, y0⟩ := HA.out.1.cell hj
      obtain ⟨g', cap', hv', hg', y1⟩ := HA.out.2.cell hj
      simp only [Value.slice.injEq] at hv hv'
      obtain ⟨rfl, -, rfl⟩ := hv
      obtain ⟨rfl, -, rfl⟩ := hv'
      obtain ⟨n, hn⟩ : ∃ n, n = l[j] := ⟨_, rfl⟩
      rw [← hn] at y0 y1
      have z0 : wr.cell? ⟨g, j, none⟩ = some (.string n) := (hB.cell (p := ⟨_, _, none⟩) hg).trans y0
      have z1 : wr.cell? ⟨g', j, none⟩ = some (.string n) := (hB.cell (p := ⟨_, _, none⟩) hg').trans y1
      have hjj : (j : Int) < (l.length : Int) := by omega
      have HBl := Lib.hid (show Below w.heap.size w wr.drew from hB.drew)
      clear y0 y1 hn hB
      go_wp2
      go_region_held3 (fun W => W.cell? ⟨g, j, none⟩ = some (.string n) ∧ W.cell? ⟨g', j, none⟩ = some (.string n)) (go_keep) (fail)
      go_wp2
      go_roundg (gk - 1)
      case rel => exact ⟨j + 1, by go_simp, by omega, HBl.out⟩
      case measure => omega
    · have hje : j = l.length := by omega
      subst hje
      have HBl := Lib.hid hB
      clear hB
      go_wp2
      go_ret
      exact ⟨rfl, HBl.out⟩
end Go.Proofs.YtpdbmpbmepkikaaGreatDoor

namespace Go.Proofs.YtpdbmpbmepkikaaGreatDoor
open Go.RowKit

/-- A step of a script. -/
structure OpR where
  kind : Int
  a : Int
  b : Int
  c : Int
  s : ByteArray
  t : ByteArray
  u : ByteArray
def OpR.cells (x : OpR) : List Value := [.int .i64 x.kind, .int .i64 x.a, .int .i64 x.b, .int .i64 x.c, .string x.s, .string x.t, .string x.u]
def oprows (l : List OpR) : List Value := l.flatMap OpR.cells
theorem oprows_at {l : List OpR} {j : Nat} (hj : j < l.length) (i : Nat) (hi : i < 7) : (oprows l)[j * 7 + i]? = l[j].cells[i]? := by
  induction l generalizing j with
  | nil => simp at hj
  | cons x l ih =>
    show (x.cells ++ oprows l)[j * 7 + i]? = _
    have hc : x.cells.length = 7 := rfl
    cases j with
    | zero => rw [List.getElem?_append_left (by omega)]; simp
    | succ j =>
      rw [List.getElem?_append_right (by omega), hc, show (j + 1) * 7 + i - 7 = j * 7 + i by omega, ih (by simpa using hj)]
      simp
/-- A script, as it lies. -/
def ScriptAt (w : World) (v : Value) (l : List OpR) : Prop := ((∃ ad cap, v = .slice ad 0 cap) ∧ l = []) ∨ ∃ g off cap, v = .slice (some ⟨g, off, none⟩) l.length cap ∧ g < w.heap.size ∧ ∀ i u, (oprows l)[i]? = some u → w.cell? ⟨g, off + i, none⟩ = some u
theorem ScriptAt.below {w w' : World} {v : Value} {l : List OpR} (h : ScriptAt w v l) (hb : Below w.heap.size w w') : ScriptAt w' v l := by
  rcases h with h | ⟨g, off, cap, hv, hg, hc⟩
  · exact .inl h
  · exact .inr ⟨g, off, cap, hv, Nat.lt_of_lt_of_le hg hb.size, fun i u hu => (hb.cell (p := ⟨g, off + i, none⟩) hg).trans (hc i u hu)⟩

def opSize (x : OpR) : Nat := x.s.size + x.t.size + x.u.size
def sumS (l : List OpR) : Nat := l.foldl (fun n x => n + opSize x) 0
theorem sumS_snoc (l : List OpR) (x : OpR) : sumS (l ++ [x]) = sumS l + opSize x := by simp [sumS]
theorem sumS_take {l : List OpR} {j : Nat} (hj : j < l.length) : sumS (l.take (j + 1)) = sumS (l.take j) + opSize l[j] := by
  rw [List.take_add_one, List.getElem?_eq_getElem hj, Option.toList_some, sumS_snoc]
theorem sumS_append (l l' : List OpR) : sumS l ≤ sumS (l ++ l') := by
  unfold sumS
  rw [List.foldl_append]
  generalize List.foldl (fun n x => n + opSize x) 0 l = k
  induction l' generalizing k with
  | nil => exact Nat.le_refl _
  | cons x l' ih => exact Nat.le_trans (Nat.le_add_right _ _) (ih _)
theorem sumS_le (l : List OpR) (j : Nat) : sumS (l.take j) ≤ sumS l := by
  have := sumS_append (l.take j) (l.drop j)
  rwa [List.take_append_drop] at this
def smallS (l : List OpR) : Bool := decide (l.length + sumS l ≤ 4096)

set_option maxHeartbeats 1000000 in
theorem smallL_any (v : Value) (l : List OpR) (w : World) (h : ScriptAt w v l) (hl : l.length ≤ 140737488355328) (hz : ∀ x ∈ l, x.s.size ≤ 140737488355328 ∧ x.t.size ≤ 140737488355328 ∧ x.u.size ≤ 140737488355328) :
    Calls Tryz.prog 35 #[v] w fun e w' => e = .returned (.bool (smallS l)) ∧ Below w.heap.size w w' := by
  rcases h with ⟨⟨ad, cap, rfl⟩, rfl⟩ | ⟨g, off, cap, rfl, hg, hc⟩
  · go_enter Tryz.func35, Tryz.ntmps35
    go_wp2
    go_loopg [3, 4] 0 (fun k m i wr => m = .int .i64 0 ∧ i = .int .i64 0 ∧ wr = w)
    case atStart => exact ⟨rfl, rfl, rfl⟩
    case round =>
      obtain ⟨rfl, rfl, rfl⟩ := hrel
      go_wp2
      go_ret
      exact ⟨ret_bool (by simp [smallS, sumS]), Below.refl _ _⟩
  · have HC := Lib.hid hc
    have HZ := Lib.hid hz
    clear hc hz
    by_cases hb : 4096 < l.length
    · go_enter Tryz.func35, Tryz.ntmps35
      go_wp2
      go_ret
      exact ⟨ret_bool (by simp [smallS]; omega), Below.refl _ _⟩
    · go_enter Tryz.func35, Tryz.ntmps35
      go_wp2
      go_loopg [3, 4] l.length (fun k m i wr => ∃ (j z : Nat), m = .int .i64 z ∧ i = .int .i64 j ∧ k + j = l.length ∧ z = l.length + sumS (l.take j) ∧ z ≤ 4096 ∧ Below w.heap.size w wr)
      case atStart => exact ⟨0, l.length, rfl, rfl, by omega, by simp [sumS], by omega, Below.refl _ _⟩
      case round =>
        obtain ⟨j, z, rfl, rfl, hk, hzz, hz4, hB⟩ := hrel
        by_cases hj : j < l.length
        · obtain ⟨x, hx⟩ : ∃ x, x = l[j] := ⟨_, rfl⟩
          have hxz := HZ.out l[j] (List.getElem_mem hj)
          have hst := sumS_take hj
          have hle := sumS_le l (j + 1)
          rw [← hx] at hxz hst
          have kc : ∀ i, i < 7 → ∀ u, x.cells[i]? = some u → wr.cell? ⟨g, off + j * 7 + i, none⟩ = some u := fun i hi u hu => (hB.cell (p := ⟨g, off + j * 7 + i, none⟩) hg).trans (by rw [Nat.add_assoc]; exact HC.out _ _ (by rw [oprows_at hj i hi, ← hx]; exact hu))
          have y4 := kc 4 (by omega) _ rfl
          have y5 := kc 5 (by omega) _ rfl
          have y6 := kc 6 (by omega) _ rfl
          have hsz : x.s.size + x.t.size + x.u.size = opSize x := rfl
          obtain ⟨hx1, hx2, hx3⟩ := hxz
          have hjj : (j : Int) < (l.length : Int) := by omega
          have w1 : IntKind.i64.wrap ((z : Int) + x.s.size) = z + x.s.size := by rw [IntKind.wrap_i64]; omega
          have w2 : IntKind.i64.wrap ((z : Int) + x.s.size + x.t.size) = z + x.s.size + x.t.size := by rw [IntKind.wrap_i64]; omega
          have w3 : IntKind.i64.wrap ((z : Int) + x.s.size + x.t.size + x.u.size) = z + x.s.size + x.t.size + x.u.size := by rw [IntKind.wrap_i64]; omega
          have HS := Lib.hid (And.intro hst (And.intro hle (And.intro hzz (And.intro hx (show Below w.heap.size w wr.drew from hB.drew)))))
          clear hst hle hzz hx kc hB
          by_cases hbig : 4096 < z + x.s.size + x.t.size + x.u.size
          · have hbi : (4096 : Int) < (z : Int) + x.s.size + x.t.size + x.u.size := by omega
            go_wp2
            go_region_held3 (fun W => W.cell? ⟨g, off + j * 7 + 4, none⟩ = some (.string x.s) ∧ W.cell? ⟨g, off + j * 7 + 5, none⟩ = some (.string x.t) ∧ W.cell? ⟨g, off + j * 7 + 6, none⟩ = some (.string x.u)) (go_keep) (fail)
            go_wp2
            go_ret
            obtain ⟨hst, hle, hzz, hx, hB⟩ := HS.out
            exact ⟨ret_bool (by simp [smallS]; omega), hB⟩
          · have hbi : ¬ (4096 : Int) < (z : Int) + x.s.size + x.t.size + x.u.size := by omega
            go_wp2
            go_region_held3 (fun W => W.cell? ⟨g, off + j * 7 + 4, none⟩ = some (.string x.s) ∧ W.cell? ⟨g, off + j * 7 + 5, none⟩ = some (.string x.t) ∧ W.cell? ⟨g, off + j * 7 + 6, none⟩ = some (.string x.u)) (go_keep) (fail)
            go_wp2
            go_roundg (gk - 1)
            case rel =>
              obtain ⟨hst, hle, hzz, hx, hB⟩ := HS.out
              exact ⟨j + 1, z + x.s.size + x.t.size + x.u.size, by simp, by go_simp, by omega, by omega, by omega, hB⟩
            case measure => omega
        · have hje : j = l.length := by omega
          subst hje
          rw [List.take_length] at hzz
          have HS := Lib.hid (And.intro hzz hB)
          clear hzz hB
          go_wp2
          go_ret
          obtain ⟨hzz, hB⟩ := HS.out
          exact ⟨ret_bool (by simp [smallS]; omega), hB⟩
end Go.Proofs.YtpdbmpbmepkikaaGreatDoor

namespace Go.Proofs.YtpdbmpbmepkikaaGreatDoor
open Go.ChangeShapes Go.WideShapes Go.RowKit Go.Conc

theorem returnsInLeavingWide_of_calls {a : Assume} {C : Checked} {os : Os} {f : FuncId} {r : Reach} {Pre : World → Array Value → Prop} {Post : World → Array Value → Value → World → Prop}
    (own : ownKnob C.prog.godebug = none) (started : os.Started) (noInit : C.prog.inits.idxOf? f = none)
    (witness : ∃ (w : World) (tape : Tape) (i : Input), w.os = os ∧ (w.forCall tape i).Shaped C.prog ∧ i.vars = [] ∧ Input.okWide C.prog (w.forCall tape i) r w.heap.size f i ∧ Pre (w.forCall tape i).memory i.args ∧
      a.holds C.prog (lone (Frame.enter C.prog f i.args .normal) [] (w.forCall tape i)))
    (contract : ∀ (w : World) (tape : Tape) (i : Input), w.os = os → (w.forCall tape i).ShapedOpen C.prog → i.vars = [] → Input.okWide C.prog (w.forCall tape i) r w.heap.size f i → Pre (w.forCall tape i).memory i.args →
      a.holds C.prog (lone (Frame.enter C.prog f i.args .normal) [] (w.forCall tape i)) →
      Calls C.prog f i.args (w.forCall tape i) fun
        | .returned v, w' => Post (w.forCall tape i).blind i.args v w'.blind
        | _, _ => False) :
    ReturnsInLeavingWide a C os f r Pre Post := fun enter => by
  obtain ⟨w0, t0, i0, a1, a2, a3, a4, a5, a6⟩ := witness
  refine ⟨enter, own, started, ⟨w0, t0, i0, a1, a2, a3, a4, a5, a6, trivial⟩, fun w tape i h => ?_⟩
  obtain ⟨n, v, w', fr, hn, hend, hp⟩ := (contract w tape i h.1 h.2.1 h.2.2.1 h.2.2.2.1 h.2.2.2.2.1 h.2.2.2.2.2.1).done_lone noInit
  refine ⟨n + 1, v, w', hend, (clean_of_lone hn).2, roomy_placeholder .., hp, ⟨n, _, hn, step_of_runs hn hend, handedOver_of_lone hn, ⟨fun g hg => ?_, rfl⟩, fun i g hg hi => ?_⟩, fun _ _ _ => trivial⟩
  · simp [lone] at hg
  · cases i with
    | zero => exact absurd rfl hi
    | succ k => simp [lone] at hg

section
variable {H : Type} {enc : TypeId × Value → H}
theorem returnsInLeavingWide_of_row {a : Assume} {C : Checked} {os : Os} {f : FuncId} {fn : Func} {s : OpenSpec} {F : Stop.Interp} {conds : List PathCond} {apart fresh handsOn again : Bool} {laid : List (String × DataW Unit)}
    (own : ownKnob C.prog.godebug = none) (started : os.Started) (noInit : C.prog.inits.idxOf? f = none) (hfn : C.prog.funcs[f]? = some fn)
    (witness : ∃ (w : World) (tape : Tape) (i : Input), w.os = os ∧ (w.forCall tape i).Shaped C.prog ∧ i.vars = [] ∧ Input.okWide C.prog (w.forCall tape i) .any w.heap.size f i ∧
      s.preRow enc C.prog fn conds apart laid (w.forCall tape i).memory i.args ∧ a.holds C.prog (lone (Frame.enter C.prog f i.args .normal) [] (w.forCall tape i)))
    (contract : ∀ (W : World) (base : Nat) (args : Array Value) (ds gs : List (DataW H)) (before : List MemPlace),
      (∀ (j : Nat) t v, fn.params[j]? = some t → args[j]? = some v → Value.okWide C.prog W .any base t v) →
      DataW.Whole enc C.prog fn.params.toList s.vars apart W args.toList ds gs before →
      conds.all (PathCond.test C.prog ⟨fn.params.toList, ds, s.bare.plain.varTypes C.prog, gs⟩) = true →
      (DataW.weightsEach C.prog (fn.params.toList ++ s.bare.plain.varTypes C.prog) (ds ++ gs)).all (· ≤ reachBytes) = true →
      laidMetH C.prog laid W → W.ShapedOpen C.prog →
      Calls C.prog f args W fun e W' => ∃ v, e = .returned v ∧ (s.at F).post enc C.prog fn apart fresh handsOn again W args v W') :
    ReturnsInLeavingWide a C os f .any (s.preRow enc C.prog fn conds apart laid) ((s.at F).post enc C.prog fn apart fresh handsOn again) := by
  refine returnsInLeavingWide_of_calls own started noInit witness ?_
  intro w tape i _ hsh _ hok hpre _
  obtain ⟨_, _, _, fn', hfn', _, _, _, _, hval⟩ := hok
  have e : fn' = fn := Option.some.inj (hfn'.symm.trans hfn)
  subst e
  obtain ⟨⟨hp, hl⟩, hz⟩ := hpre
  obtain ⟨ds, gs, before, hw, hc, hk⟩ := OpenSpec.pre_parts hp
  have hw' := DataW.Whole.of_heap (w' := w.forCall tape i) (by rfl) hw
  refine (contract (w.forCall tape i) w.heap.size i.args ds gs before hval hw' hc (hz.weights hw) (hl.of_heap (by rfl)) hsh).mono fun e W' ⟨v, he, hp⟩ => ?_
  subst he
  exact ChangeSpec.post_blind hp
end

/-- The tied card of a function that may start goroutines. -/
theorem card_goes {Lk : Looks} {p : Pinned} {s : OpenSpec} {c : OpenClaim} {kinds : List LaidKind} {tests : Bool} {har : Bool × String} {lk : Bool}
    (hc : c.holds p s) (hw : c.wfByText s = true) (htie : c.laidByTextAt Lk p kinds tests)
    (hst : c.start = .entering) (hnb : c.noBlocks = false ∧ c.again = false) (hm : p.checked.prog.mainIs = some (har.1, har.2.toList)) (hn : (!har.1 && har.2.isEmpty && !lk) = false)
    (hl : ∀ f fn, p.checked.prog.funcNamed c.func = some f → p.checked.prog.funcs[f]? = some fn → lk = p.checked.prog.looks [] ∧ ∀ (j : Nat) t, fn.params[j]? = some t → p.checked.prog.wantsStandIn t = false)
    (hg : true = c.goesBy p.checked.prog) :
    Claim7.holds p (.plain s) { stood := { row := c, standIns := [], harness := har, looks := lk }, kinds := [], alts := [], goes := true, laidByText := true, laidKinds := kinds, laidTests := tests, laidLooks := Lk } := by
  have h6 : ∀ r : OpenClaim, Claim7.isSixth { stood := { row := r, standIns := [], harness := har, looks := lk }, kinds := [] } = false := fun r => by simpa [Claim7.isSixth] using hn
  exact ⟨Claim7.tied_new_at Lk kinds tests (Claim7.new_of_sixth hc har lk hst hnb hm (h6 c) hl) hw, fun D hD => (by cases hD), htie, (fun h => by cases h), hg⟩

/-! ### a script -/
section
variable {H : Type} {enc : TypeId × Value → H} {w : World} {base : Nat} {spare : Nat → Bool} {held : Bool}
open Go.Deep
def opD {H : Type} (x : OpR) : DataW H := .agg [.lit (.int .i64 x.kind), .lit (.int .i64 x.a), .lit (.int .i64 x.b), .lit (.int .i64 x.c), .lit (.string x.s.data.toList), .lit (.string x.t.data.toList), .lit (.string x.u.data.toList)]
theorem fs102 {fs : Array Field} (h : Tryz.prog.underlying 102 = some (.struct fs)) : oneCellFields Tryz.prog fs = true ∧ fs.toList.map (·.type) = [3, 3, 3, 3, 9, 9, 9] := by
  have e := (Tryz.underlying102).symm.trans h
  simp only [Option.some.injEq, TypeDesc.struct.injEq] at e
  subst e
  exact ⟨by kernel_rfl, rfl⟩
theorem un102 : ∃ fs, Tryz.prog.underlying 102 = some (.struct fs) := ⟨_, Tryz.underlying102⟩
theorem c102 : Tryz.prog.cellsOf 102 = 7 := by kernel_rfl

theorem list7 {α : Type} {l : List α} (h : l.length = 7) : ∃ a b c d e f g, l = [a, b, c, d, e, f, g] := by
  rcases l with _ | ⟨a, l⟩
  · simp at h
  rcases l with _ | ⟨b, l⟩
  · simp at h
  rcases l with _ | ⟨c, l⟩
  · simp at h
  rcases l with _ | ⟨d, l⟩
  · simp at h
  rcases l with _ | ⟨e, l⟩
  · simp at h
  rcases l with _ | ⟨f, l⟩
  · simp at h
  rcases l with _ | ⟨g, l⟩
  · simp at h
  rcases l with _ | ⟨i, l⟩
  · exact ⟨a, b, c, d, e, f, g, rfl⟩
  · simp at h
/-- One step, as seven cells. -/
theorem open_op {fuel : Nat} {cs : List Value} {x : DataW H × List MemPlace} (h : DataW.trod enc Tryz.prog w base spare held fuel 102 cs = some x) :
    ∃ o : OpR, cs = o.cells ∧ x = (opD o, []) ∧ I64 o.a := by
  obtain ⟨fs, hu⟩ := un102
  obtain ⟨hone, hty⟩ := fs102 hu
  obtain ⟨xs, n, _, hx, hc, hl, hf⟩ := DataW.trod_struct hu h
  rw [c102] at hc
  obtain ⟨fl⟩ := fs
  obtain ⟨f0, f1, f2, f3, f4, f5, f6, rfl⟩ := list7 (l := fl) (by have := congrArg List.length hty; simpa using this)
  simp only [List.map_cons, List.map_nil, List.cons.injEq, and_true] at hty
  obtain ⟨t0, t1, t2, t3, t4, t5, t6⟩ := hty
  obtain ⟨c0, c1, c2, c3, c4, c5, c6, rfl⟩ := list7 hc
  have key : ∀ (j : Nat) (f : Field), (#[f0, f1, f2, f3, f4, f5, f6] : Array Field)[j]? = some f → DataW.trod enc Tryz.prog w base spare held n f.type ((([c0, c1, c2, c3, c4, c5, c6] : List Value).drop j).take 1) = xs[j]? := fun j f hj => by
    obtain ⟨o1, o2⟩ := hone_of hone j f hj
    have := hf j f hj
    rwa [o1, o2] at this
  obtain ⟨x0, x1, x2, x3, x4, x5, x6, rfl⟩ := list7 (l := xs) (by simpa using hl)
  have g0 := key 0 f0 rfl
  have g1 := key 1 f1 rfl
  have g2 := key 2 f2 rfl
  have g3 := key 3 f3 rfl
  have g4 := key 4 f4 rfl
  have g5 := key 5 f5 rfl
  have g6 := key 6 f6 rfl
  rw [t0] at g0
  rw [t1] at g1
  rw [t2] at g2
  rw [t3] at g3
  rw [t4] at g4
  rw [t5] at g5
  rw [t6] at g6
  obtain ⟨n0, e0, y0, _⟩ := DataW.trod_int Tryz.underlying3 g0
  obtain ⟨n1, e1, y1, wf1⟩ := DataW.trod_int Tryz.underlying3 g1
  obtain ⟨n2, e2, y2, _⟩ := DataW.trod_int Tryz.underlying3 g2
  obtain ⟨n3, e3, y3, _⟩ := DataW.trod_int Tryz.underlying3 g3
  obtain ⟨s4, e4, y4, _⟩ := DataW.trod_string Tryz.underlying9 g4
  obtain ⟨s5, e5, y5, _⟩ := DataW.trod_string Tryz.underlying9 g5
  obtain ⟨s6, e6, y6, _⟩ := DataW.trod_string Tryz.underlying9 g6
  simp only [List.drop_zero, List.drop_succ_cons, List.take_succ_cons, List.take_zero, List.cons.injEq, and_true] at e0 e1 e2 e3 e4 e5 e6
  subst e0 e1 e2 e3 e4 e5 e6 y0 y1 y2 y3 y4 y5 y6
  refine ⟨⟨n0, n1, n2, n3, s4, s5, s6⟩, rfl, by rw [hx]; rfl, ?_⟩
  simpa [Lit.wf, IntKind.min, IntKind.max, IntKind.signed, IntKind.bits, I64] using wf1
theorem bytes102 : Tryz.prog.bytesOf 102 = 80 := by kernel_rfl
theorem weights_op (x : OpR) : (opD (H := H) x).weights Tryz.prog 102 = [x.s.size, x.t.size, x.u.size] := by
  obtain ⟨fs, hu⟩ := un102
  obtain ⟨_, hty⟩ := fs102 hu
  unfold opD DataW.weights
  rw [hu]
  simp only
  rw [hty]
  simp [DataW.weightsEach, DataW.weights]
theorem weightsAll_mem {P : Program} {e : TypeId} {ds : List (DataW H)} {d : DataW H} (h : d ∈ ds) {n : Nat} (hn : n ∈ d.weights P e) : n ∈ DataW.weightsAll P e ds := by
  induction ds with
  | nil => cases h
  | cons y ds ih =>
    rw [DataW.weightsAll, List.mem_append]
    rcases List.mem_cons.1 h with rfl | h
    · exact .inl hn
    · exact .inr (ih h)

set_option maxRecDepth 100000 in
/-- A script that came in. -/
theorem open_script {r : Reach} {b0 : Nat} {v : Value} {d : DataW H} {p : List MemPlace} (hv : Value.okWide Tryz.prog w r b0 69 v) (h : DataW.Trod enc Tryz.prog w base spare held 69 v d p)
    (hz : ∀ n ∈ d.weights Tryz.prog 69, n ≤ reachBytes) :
    ∃ l : List OpR, ScriptAt w v l ∧ l.length ≤ 140737488355328 ∧ (∀ x ∈ l, x.s.size ≤ 140737488355328 ∧ x.t.size ≤ 140737488355328 ∧ x.u.size ≤ 140737488355328) ∧ ∀ x ∈ l, I64 x.a := by
  obtain ⟨a0, n0, c0, rfl⟩ := okWide_slice Tryz.underlying69 hv
  obtain ⟨fuel, hf⟩ := h
  rcases open_slice Tryz.underlying69 hf with ⟨hcs, hx⟩ | ⟨a, len, cap, m, n, D, Pl, hcs, hb, hl, hm, hmm, hx, hi⟩
  · have e : (.slice a0 n0 c0 : Value) = .slice none 0 0 := by simpa [Value.cells] using hcs
    rw [e]
    exact ⟨[], .inl ⟨⟨_, _, rfl⟩, rfl⟩, Nat.zero_le _, fun x hx => (by cases hx), fun x hx => (by cases hx)⟩
  · have e : (.slice a0 n0 c0 : Value) = .slice (some a) len cap := by simpa [Value.cells] using hcs
    rw [e]
    have hlm : len ≤ m := by rw [hmm]; split <;> omega
    have step : ∀ i, i < len → ∃ o : OpR, D i = opD o ∧ I64 o.a ∧ ∀ j u, o.cells[j]? = some u → w.cell? ((a.add (i * 7)).add j) = some u := fun i hil => by
      obtain ⟨cs', hc, ht⟩ := hi i (by omega)
      rw [c102] at hc
      obtain ⟨o, ho, hxo, hI⟩ := open_op ht
      simp only [Prod.mk.injEq] at hxo
      obtain ⟨_, hcl, hat⟩ := World.cells?_some hc
      refine ⟨o, hxo.1, hI, fun j u hu => ?_⟩
      have hj : j < 7 := (List.getElem?_eq_some_iff.1 hu).1
      rw [hat j hj, ho]; exact hu
    let f : Nat → OpR := fun i => if h : i < len then Classical.choose (step i h) else ⟨0, 0, 0, 0, ⟨#[]⟩, ⟨#[]⟩, ⟨#[]⟩⟩
    have hfs : ∀ i, i < len → D i = opD (f i) ∧ I64 (f i).a ∧ ∀ j u, (f i).cells[j]? = some u → w.cell? ((a.add (i * 7)).add j) = some u := fun i hil => by
      have := Classical.choose_spec (step i hil)
      have e : f i = Classical.choose (step i hil) := dif_pos hil
      rw [e]; exact this
    obtain ⟨l, hl⟩ : ∃ l, l = (List.range len).map f := ⟨_, rfl⟩
    have hll : l.length = len := by rw [hl]; simp
    have hget : ∀ i (h : i < l.length), l[i] = f i := fun i h => by subst hl; simp
    simp only [Prod.mk.injEq] at hx
    have hw : ∀ k ∈ (len * 80 :: ((List.range len).map fun i => (opD (H := H) (f i)).weights Tryz.prog 102).flatten), k ≤ reachBytes := fun k hk => by
      have hd : d = .slice ((List.range len).map D) ((List.range (m - len)).map fun j => D (len + j)) := hx.1
      have hdw : d.weights Tryz.prog 69 = (len + (m - len)) * 80 :: (DataW.weightsAll Tryz.prog 102 ((List.range len).map D) ++ DataW.weightsAll Tryz.prog 102 ((List.range (m - len)).map fun j => D (len + j))) := by
        rw [hd, DataW.weights, Tryz.underlying69]
        simp [bytes102]
      rcases List.mem_cons.1 hk with rfl | hk
      · have := hz ((len + (m - len)) * 80) (by rw [hdw]; simp)
        exact Nat.le_trans (Nat.mul_le_mul_right _ (by omega)) this
      · obtain ⟨ws, hws, hkw⟩ := List.mem_flatten.1 hk
        obtain ⟨i, hil, rfl⟩ := List.mem_map.1 hws
        have hil' := List.mem_range.1 hil
        refine hz k ?_
        rw [hdw]
        refine List.mem_cons_of_mem _ (List.mem_append_left _ (weightsAll_mem (d := D i) (List.mem_map_of_mem hil) ?_))
        rw [(hfs i hil').1]; exact hkw
    refine ⟨l, ?_, ?_, fun x hx => ?_, fun x hx => ?_⟩
    · by_cases h0 : len = 0
      · subst h0
        exact .inl ⟨⟨_, _, rfl⟩, List.eq_nil_of_length_eq_zero hll⟩
      · have h00 := (hfs 0 (by omega)).2.2 0 _ rfl
        have ea : (a.add (0 * 7)).add 0 = a := by simp [Addr.add]
        rw [ea] at h00
        have hsp : a.spot = none := by
          unfold World.cell? at h00
          split at h00
          · split at h00
            · cases h00
            · rename_i h; simpa using h
          · cases h00
        obtain ⟨g, off, sp⟩ := a
        simp only at hsp
        subst hsp
        have hadd : ∀ i j, ((⟨g, off, none⟩ : Addr).add (i * 7)).add j = ⟨g, off + (i * 7 + j), none⟩ := fun i j => by
          unfold Addr.add
          split <;> split <;> simp_all <;> omega
        refine .inr ⟨g, off, cap, by rw [hll], World.block_lt_of_cell? w _ h00, fun k u hu => ?_⟩
        have hk : k < 7 * len := by
          have := (List.getElem?_eq_some_iff.1 hu).1
          have e : (oprows l).length = 7 * l.length := by
            clear hu this hget hll hl
            induction l with
            | nil => rfl
            | cons x l ih => show (x.cells ++ oprows l).length = _; rw [List.length_append, ih]; simp [OpR.cells]; omega
          rw [e, hll] at this; exact this
        have hi7 : k / 7 < len := by omega
        have e1 : k = k / 7 * 7 + k % 7 := by omega
        have hi8 : k / 7 < l.length := by rw [hll]; exact hi7
        have hcell := oprows_at hi8 (k % 7) (by omega)
        rw [← e1] at hcell
        rw [hcell, hget] at hu
        have := (hfs _ hi7).2.2 _ _ hu
        rw [hadd, ← e1] at this
        exact this
    · rw [hll]
      have := hw (len * 80) (by simp)
      unfold reachBytes at this; omega
    · obtain ⟨i, hi2, rfl⟩ := List.getElem_of_mem hx
      rw [hget]
      have hil : i < len := by rw [← hll]; exact hi2
      have hmem : ∀ k ∈ (opD (H := H) (f i)).weights Tryz.prog 102, k ≤ reachBytes := fun k hk => hw k (List.mem_cons_of_mem _ (List.mem_flatten.2 ⟨_, List.mem_map_of_mem (List.mem_range.2 hil), hk⟩))
      rw [weights_op] at hmem
      have k1 := hmem _ (List.mem_cons_self ..)
      have k2 := hmem (f i).t.size (by simp)
      have k3 := hmem (f i).u.size (by simp)
      unfold reachBytes at k1 k2 k3
      omega
    · obtain ⟨i, hi2, rfl⟩ := List.getElem_of_mem hx
      rw [hget]
      exact (hfs i (by rw [← hll]; exact hi2)).2.1
end
end Go.Proofs.YtpdbmpbmepkikaaGreatDoor

namespace Go.Proofs.YtpdbmpbmepkikaaGreatDoor
open Go.RowKit Go.Extern.Stop Go.Stop Go.Extern

/-- errors.As(nil, target). -/
theorem as_nil (t : Value) (w : World) :
    Calls Tryz.prog 62 #[.nilIface, t] w fun e w' => e = .returned (.bool false) ∧ w' = w := by
  go_enter Tryz.func62, Tryz.ntmps62
  go_wp2
  go_ret
  exact ⟨rfl, rfl⟩

/-! ### CLOSED FACTS ON THE MODEL's ENTRIES FOR internal/reflectlite, at this program's types: 25: *p.E · 27: **p.E · 23: error · 45: reflectlite's rtype · 1: how many package-level variables the dump has -/
theorem asValueOf27 (t : Addr) (w : World) : (ReflectliteValue.unpack (.iface 134 (.pointer (some t)))).run Tryz.prog w
    = .ok (.agg #[.pointer (some ⟨7, 134, none⟩), .pointer (some ⟨w.heap.size, 0, none⟩), .int .u64 150]) (w.alloc (.cells #[.pointer (some t)] 134)) := by kernel_rfl
theorem asType27 (a : Addr) (w : World) : (ReflectliteValue.methodAny (ReflectliteValue.valueError "reflectlite.Value.Type" 0) (fun t _ _ _ => ReflectliteType.toType t) #[.agg #[.pointer (some ⟨7, 134, none⟩), .pointer (some a), .int .u64 150]]).run Tryz.prog w
    = .ok (.iface 264 (.agg #[.pointer (some ⟨7, 134, none⟩)])) w := by kernel_rfl
theorem asMethodKind (h : Value) (w : World) : (Go.method 476 264 (.agg #[h]) "Kind").run Tryz.prog w = .ok (278, h) w := by kernel_rfl
theorem asKind27 (w : World) : ((ReflectliteType.abiMethod fun t => Functor.map (fun a : Nat => Value.int IntKind.u8 (a : Int)) (Rtype.kind t)) #[.pointer (some ⟨7, 134, none⟩)]).run Tryz.prog w = .ok (.int .u8 22) w := by kernel_rfl
theorem asKind25 (w : World) : ((ReflectliteType.abiMethod fun t => Functor.map (fun a : Nat => Value.int IntKind.u8 (a : Int)) (Rtype.kind t)) #[.pointer (some ⟨7, 132, none⟩)]).run Tryz.prog w = .ok (.int .u8 22) w := by kernel_rfl

/-! ### THE ENTRIES THAT READ OR WRITE MEMORY: laws with a premise on the cell (after Derived/Lib/ReflectliteSlice.lean's manner: each unfolding a lemma of its own, by rfl) -/
theorem rlm (z : Sem Value) (f : TypeId → Addr → Nat → Nat → Sem Value) (v : Value) :
    ReflectliteValue.method z f #[v] = (do match ← ReflectliteValue.parts v with | none => z | some (t, a, fl) => f t a fl (fl % 32)) := rfl
theorem asParts27 (a : Addr) (w : World) : (ReflectliteValue.parts (.agg #[.pointer (some ⟨7, 134, none⟩), .pointer (some a), .int .u64 150])).run Tryz.prog w = .ok (some (134, a, 150)) w := by kernel_rfl
/-- (Value).IsNil at the Value of a **p.E that is not nil. -/
theorem asIsNil27 (a p : Addr) (W : World) (ha : W.cell? a = some (.pointer (some p))) :
    (ReflectliteValue.method (ReflectliteValue.valueError "reflectlite.Value.IsNil" 0) ReflectliteValue.isNil #[.agg #[.pointer (some ⟨7, 134, none⟩), .pointer (some a), .int .u64 150]]).run Tryz.prog W = .ok (.bool false) W := by
  rw [rlm]
  simp only [Sem.run_bind, asParts27, Result.andThen]
  simp [ReflectliteValue.isNil, loadVar, isAgg, underlying, Tryz.underlying134, ha, Result.andThen]

theorem asMethodElem (h : Value) (w : World) : (Go.method 476 264 (.agg #[h]) "Elem").run Tryz.prog w = .ok (290, .agg #[h]) w := by kernel_rfl
theorem asMethodImplements (h : Value) (w : World) : (Go.method 476 264 (.agg #[h]) "Implements").run Tryz.prog w = .ok (291, .agg #[h]) w := by kernel_rfl
theorem asMethodAssignableTo (h : Value) (w : World) : (Go.method 476 264 (.agg #[h]) "AssignableTo").run Tryz.prog w = .ok (288, .agg #[h]) w := by kernel_rfl
theorem asElem27 (w : World) : (ReflectliteType.method ReflectliteType.elem #[.agg #[.pointer (some ⟨7, 134, none⟩)]]).run Tryz.prog w = .ok (.iface 264 (.agg #[.pointer (some ⟨7, 132, none⟩)])) w := by kernel_rfl
theorem asImplements25 (w : World) : (ReflectliteType.relation "Implements" ReflectliteType.implements_ #[.agg #[.pointer (some ⟨7, 132, none⟩)], .iface 264 (.agg #[.pointer (some ⟨7, 87, none⟩)])]).run Tryz.prog w = .ok (.bool true) w := by kernel_rfl
theorem asTypeOf25 (v : Value) (w : World) : (ReflectliteType.typeOf #[.iface 132 v]).run Tryz.prog w = .ok (.iface 264 (.agg #[.pointer (some ⟨7, 132, none⟩)])) w := by kernel_rfl
theorem asAssignable25 (w : World) : (ReflectliteType.relation "AssignableTo" ReflectliteType.assignableTo #[.agg #[.pointer (some ⟨7, 132, none⟩)], .iface 264 (.agg #[.pointer (some ⟨7, 132, none⟩)])]).run Tryz.prog w = .ok (.bool true) w := by kernel_rfl
theorem asValueOf25 (e : Addr) (w : World) : (ReflectliteValue.unpack (.iface 132 (.pointer (some e)))).run Tryz.prog w
    = .ok (.agg #[.pointer (some ⟨7, 132, none⟩), .pointer (some ⟨w.heap.size, 0, none⟩), .int .u64 150]) (w.alloc (.cells #[.pointer (some e)] 132)) := by kernel_rfl

theorem asElemOf27 (w : World) : (Rtype.elem? 134).run Tryz.prog w = .ok (some 132) w := by kernel_rfl
theorem asMk25 (p : Addr) (w : World) : (ReflectliteValue.mk 132 p ReflectliteValue.flagAddr).run Tryz.prog w = .ok (.agg #[.pointer (some ⟨7, 132, none⟩), .pointer (some p), .int .u64 406]) w := by kernel_rfl
/-- (Value).Elem at the Value of a **p.E that is not nil: the Value of the *p.E variable that it points to, addressable. -/
theorem asElemV27 (a p : Addr) (W : World) (ha : W.cell? a = some (.pointer (some p))) :
    (ReflectliteValue.method (ReflectliteValue.valueError "reflectlite.Value.Elem" 0) ReflectliteValue.elem #[.agg #[.pointer (some ⟨7, 134, none⟩), .pointer (some a), .int .u64 150]]).run Tryz.prog W
      = .ok (.agg #[.pointer (some ⟨7, 132, none⟩), .pointer (some p), .int .u64 406]) W := by
  rw [rlm]
  simp only [Sem.run_bind, asParts27, Result.andThen]
  simp [ReflectliteValue.elem, loadVar, isAgg, underlying, Tryz.underlying134, ha, Result.andThen, asElemOf27, asMk25]
theorem rls (v x : Value) : ReflectliteValue.set #[v, x] = (do
    let (some (dst, a, fl), some (src, b, _)) := (← ReflectliteValue.parts v, ← ReflectliteValue.parts x)
      | unsupported (.noEntry "extern/(internal/reflectlite.Value).Set.zeroValue")
    if fl / ReflectliteValue.flagAddr % 2 == 0 then unsupported (.noEntry "extern/(internal/reflectlite.Value).Set.unaddressable")
    let val ← loadVar src b
    if ← Rtype.directlyAssignable dst src then storeVar dst a val
    else if ← Rtype.implements dst src then
      if (← Rtype.kind src) == 20 then
        match val with
        | .nilIface => unsupported (.noEntry "extern/reflectlite: a nil value of one interface type handed on as a value of another")
        | _ => storeVar dst a val
      else storeVar dst a (.iface src val)
    else panicString ("reflectlite.Set: value of type " ++ (← Rtype.spelt src) ++ " is not assignable to type " ++ (← Rtype.spelt dst))
    pure (.tuple #[])) := rfl
theorem asParts25a (a : Addr) (w : World) : (ReflectliteValue.parts (.agg #[.pointer (some ⟨7, 132, none⟩), .pointer (some a), .int .u64 406])).run Tryz.prog w = .ok (some (132, a, 406)) w := by kernel_rfl
theorem asParts25 (a : Addr) (w : World) : (ReflectliteValue.parts (.agg #[.pointer (some ⟨7, 132, none⟩), .pointer (some a), .int .u64 150])).run Tryz.prog w = .ok (some (132, a, 150)) w := by kernel_rfl
theorem asDirect25 (w : World) : (Rtype.directlyAssignable 132 132).run Tryz.prog w = .ok true w := by kernel_rfl
theorem asSize25 (w : World) : (sizeOf 132).run Tryz.prog w = .ok 1 w := by kernel_rfl
/-- (Value).Set: the *p.E variable at 'ta' gets what the Value's own variable 'b' holds. -/
theorem asSet25 (ta b e : Addr) (old : Value) (W : World) (hb : W.cell? b = some (.pointer (some e))) (ht : W.cell? ta = some old) (hf : W.frozen? ta = false) :
    (ReflectliteValue.set #[.agg #[.pointer (some ⟨7, 132, none⟩), .pointer (some ta), .int .u64 406], .agg #[.pointer (some ⟨7, 132, none⟩), .pointer (some b), .int .u64 150]]).run Tryz.prog W
      = .ok (.tuple #[]) (W.setCell ta (.pointer (some e))) := by
  rw [rls]
  simp only [Sem.run_bind, asParts25a, asParts25, Result.andThen]
  simp [ReflectliteValue.flagAddr, loadVar, isAgg, underlying, Tryz.underlying132, hb, Result.andThen, asDirect25, storeVar, Value.cells, storeCells, Addr.add]
  rw [run_store Tryz.prog W ta _ _ (by rfl)]
  simp [ht, hf]

set_option maxHeartbeats 4000000 in
theorem as_hit (e t : Addr) (old : Value) (w : World) (hg : w.cell? ⟨0, 0, none⟩ = some (.iface 264 (.agg #[.pointer (some ⟨7, 87, none⟩)]))) (ht0 : w.cell? t = some old) (hf0 : w.frozen? t = false) :
    Calls Tryz.prog 62 #[.iface 132 (.pointer (some e)), .iface 134 (.pointer (some t))] w fun ev w' => ev = .returned (.bool true) ∧ w' = ((((w.alloc (.cells #[.pointer (some t)] 134)).alloc (.cells #[.pointer (some ⟨7, 134, none⟩), .pointer (some ⟨w.heap.size, 0, none⟩), .int .u64 150] 193)).alloc (.cells #[.pointer (some ⟨7, 134, none⟩), .pointer (some ⟨w.heap.size, 0, none⟩), .int .u64 150] 193)).alloc (.cells #[.pointer (some e)] 132)).setCell t (.pointer (some e)) := by
  have h6 := @run_callFunc_extern Tryz.prog 111 _ (fun args => ReflectliteValue.unpack (args.getD 0 (.tuple #[]))) Tryz.func111 (by kernel_rfl) (by kernel_rfl) (by kernel_rfl) (by kernel_rfl)
  have h7 := @run_callFunc_extern Tryz.prog 112 _ (ReflectliteValue.methodAny (ReflectliteValue.valueError "reflectlite.Value.Type" 0) (fun t _ _ _ => ReflectliteType.toType t)) Tryz.func112 (by kernel_rfl) (by kernel_rfl) (by kernel_rfl) (by kernel_rfl)
  have h8 := @run_callFunc_extern Tryz.prog 113 _ (ReflectliteValue.method (ReflectliteValue.valueError "reflectlite.Value.IsNil" 0) ReflectliteValue.isNil) Tryz.func113 (by kernel_rfl) (by kernel_rfl) (by kernel_rfl) (by kernel_rfl)
  have h27 := @run_callFunc_extern Tryz.prog 278 _ (ReflectliteType.abiMethod fun t => do pure (.int .u8 (← Rtype.kind t))) Tryz.func278 (by kernel_rfl) (by kernel_rfl) (by kernel_rfl) (by kernel_rfl)
  have h37 := @run_callFunc_extern Tryz.prog 290 _ (ReflectliteType.method ReflectliteType.elem) Tryz.func290 (by kernel_rfl) (by kernel_rfl) (by kernel_rfl) (by kernel_rfl)
  have h38 := @run_callFunc_extern Tryz.prog 291 _ (ReflectliteType.relation "Implements" ReflectliteType.implements_) Tryz.func291 (by kernel_rfl) (by kernel_rfl) (by kernel_rfl) (by kernel_rfl)
  have h10 := @run_callFunc_extern Tryz.prog 115 _ ReflectliteType.typeOf Tryz.func115 (by kernel_rfl) (by kernel_rfl) (by kernel_rfl) (by kernel_rfl)
  have h35 := @run_callFunc_extern Tryz.prog 288 _ (ReflectliteType.relation "AssignableTo" ReflectliteType.assignableTo) Tryz.func288 (by kernel_rfl) (by kernel_rfl) (by kernel_rfl) (by kernel_rfl)
  have h11 := @run_callFunc_extern Tryz.prog 173 _ (ReflectliteValue.method (ReflectliteValue.valueError "reflectlite.Value.Elem" 0) ReflectliteValue.elem) Tryz.func173 (by kernel_rfl) (by kernel_rfl) (by kernel_rfl) (by kernel_rfl)
  have h12 := @run_callFunc_extern Tryz.prog 174 _ ReflectliteValue.set Tryz.func174 (by kernel_rfl) (by kernel_rfl) (by kernel_rfl) (by kernel_rfl)
  have tO := asTypeOf25
  have mA := asMethodAssignableTo
  have a25 := asAssignable25
  have v25 := asValueOf25
  have f6 := asValueOf27
  have f7 := asType27
  have mK := asMethodKind
  have mE := asMethodElem
  have mI := asMethodImplements
  have k27 := asKind27
  have k25 := asKind25
  have e27 := asElem27
  have i25 := asImplements25
  have n8 := asIsNil27 ⟨w.heap.size, 0, none⟩ t ((w.alloc (.cells #[.pointer (some t)] 134)).alloc (.cells #[.pointer (some ⟨7, 134, none⟩), .pointer (some ⟨w.heap.size, 0, none⟩), .int .u64 150] 193)) (by simp)
  have hlt : 0 < w.heap.size := by
    rcases Nat.eq_zero_or_pos w.heap.size with h0 | h
    · simp [World.cell?, h0] at hg
    · exact h
  have hg2 : ((w.alloc (.cells #[.pointer (some t)] 134)).alloc (.cells #[.pointer (some ⟨7, 134, none⟩), .pointer (some ⟨w.heap.size, 0, none⟩), .int .u64 150] 193)).cell? ⟨0, 0, none⟩ = some (.iface 264 (.agg #[.pointer (some ⟨7, 87, none⟩)])) := by
    rw [World.cell?_alloc_lt _ _ ⟨0, 0, none⟩ (by simp), World.cell?_alloc_lt _ _ ⟨0, 0, none⟩ hlt]; exact hg
  have htl : t.block < w.heap.size := by
    rcases Nat.lt_or_ge t.block w.heap.size with h | h
    · exact h
    · simp [World.cell?, Array.getElem?_eq_none h] at ht0
  have el := asElemV27 ⟨w.heap.size, 0, none⟩ t (((w.alloc (.cells #[.pointer (some t)] 134)).alloc (.cells #[.pointer (some ⟨7, 134, none⟩), .pointer (some ⟨w.heap.size, 0, none⟩), .int .u64 150] 193)).alloc (.cells #[.pointer (some ⟨7, 134, none⟩), .pointer (some ⟨w.heap.size, 0, none⟩), .int .u64 150] 193)) (by rw [World.cell?_alloc_lt _ _ ⟨w.heap.size, 0, none⟩ (by simp; omega)]; simp)
  have st := asSet25 t ⟨w.heap.size + 1 + 1 + 1, 0, none⟩ e old ((((w.alloc (.cells #[.pointer (some t)] 134)).alloc (.cells #[.pointer (some ⟨7, 134, none⟩), .pointer (some ⟨w.heap.size, 0, none⟩), .int .u64 150] 193)).alloc (.cells #[.pointer (some ⟨7, 134, none⟩), .pointer (some ⟨w.heap.size, 0, none⟩), .int .u64 150] 193)).alloc (.cells #[.pointer (some e)] 132))
    (by rw [World.cell?_alloc_at _ _ _ _ (by simp)]; rfl)
    (by rw [World.cell?_alloc_lt _ _ t (by simp; omega), World.cell?_alloc_lt _ _ t (by simp; omega), World.cell?_alloc_lt _ _ t (by simp; omega), World.cell?_alloc_lt _ _ t htl]; exact ht0)
    (by rw [World.frozen?_alloc_old _ _ t (by simp; omega), World.frozen?_alloc_old _ _ t (by simp; omega), World.frozen?_alloc_old _ _ t (by simp; omega), World.frozen?_alloc_old _ _ t (Nat.ne_of_lt htl)]; exact hf0)
  go_enter Tryz.func62, Tryz.ntmps62
  go_wp2
  refine wp_loop_rounds 1 ?_
  rw [rounds_succ]
  go_wp2
  go_ret
  exact ⟨rfl, rfl⟩

end Go.Proofs.YtpdbmpbmepkikaaGreatDoor

namespace Go.Proofs.YtpdbmpbmepkikaaGreatDoor
open Go.RowKit Go.Extern.Stop Go.Stop Go.Extern

theorem isTypeOf (v : Value) (w : World) : (Extern.ReflectliteType.typeOf #[.iface 135 v]).run Tryz.prog w = .ok (.iface 264 (.agg #[.pointer (some ⟨7, 135, none⟩)])) w := by kernel_rfl
/-- The entry for Comparable. -/
noncomputable def compE : Array Value → Sem Value := (find Tryz.f289).get (by kernel_rfl)
theorem isComparable (w : World) : (compE #[.agg #[.pointer (some ⟨7, 135, none⟩)]]).run Tryz.prog w = .ok (.bool true) w := by kernel_rfl
theorem isMethodComparable (v : Value) (w : World) : (Go.method 476 264 v "Comparable").run Tryz.prog w = .ok (289, v) w := by kernel_rfl
theorem noIsF (v : Value) (xT : TypeId) (w : World) : (Instr.typeAssert (.iface 132 v) xT 276 true).run Tryz.prog w = .ok (.tuple #[.nilIface, .bool false]) w := run_typeAssert_lacksB Tryz.underlying276 (by kernel_rfl) (by kernel_rfl) v xT w
theorem noIsE (v : Value) (xT : TypeId) (w : World) : (Instr.typeAssert (.iface 135 v) xT 276 true).run Tryz.prog w = .ok (.tuple #[.nilIface, .bool false]) w := run_typeAssert_lacksB Tryz.underlying276 (by kernel_rfl) (by kernel_rfl) v xT w
theorem noUnwrapE (v : Value) (xT : TypeId) (w : World) : (Instr.typeAssert (.iface 135 v) xT 271 true).run Tryz.prog w = .ok (.tuple #[.nilIface, .bool false]) w := run_typeAssert_lacksB Tryz.underlying271 (by kernel_rfl) (by kernel_rfl) v xT w
theorem noUnwrapsE (v : Value) (xT : TypeId) (w : World) : (Instr.typeAssert (.iface 135 v) xT 273 true).run Tryz.prog w = .ok (.tuple #[.nilIface, .bool false]) w := run_typeAssert_lacksB Tryz.underlying273 (by kernel_rfl) (by kernel_rfl) v xT w
theorem hasUnwrapF (v : Value) (xT : TypeId) (w : World) : (Instr.typeAssert (.iface 132 v) xT 271 true).run Tryz.prog w = .ok (.tuple #[.iface 132 v, .bool true]) w := run_typeAssert_hasB Tryz.underlying271 (by kernel_rfl) v xT w
theorem methodUnwrapF (v : Value) (w : World) : (Go.method 476 132 v "Unwrap").run Tryz.prog w = .ok (282, v) w := by kernel_rfl

set_option maxHeartbeats 1000000 in
theorem isKind_any (q : Nat) (k0 k : Int) (s : ByteArray) (w : World) (hq : w.heap[q]? = some (.cells #[.int .i64 k0, .string s] 137 (0, 0))) :
    Calls Tryz.prog 63 #[.iface 132 (.pointer (some ⟨q, 0, none⟩)), .iface 135 (.int .i64 k)] w fun e w' => e = .returned (.bool (decide (k0 = k))) ∧ w' = w := by
  have h8 := @run_callFunc_extern Tryz.prog 115 _ Extern.ReflectliteType.typeOf Tryz.func115 (by kernel_rfl) (by kernel_rfl) (by kernel_rfl) (by kernel_rfl)
  have h32 := @run_callFunc_extern Tryz.prog 289 _ compE Tryz.func289 (by kernel_rfl) (by kernel_rfl) (by kernel_rfl) (by kernel_rfl)
  have tT := isTypeOf
  have cT := isComparable
  have mR := isMethodComparable
  have nF := noIsF
  have nE := noIsE
  have uE := noUnwrapE
  have vE := noUnwrapsE
  have uF := hasUnwrapF
  have mU := methodUnwrapF
  have hc : w.cell? ⟨q, 0, none⟩ = some (.int .i64 k0) := Joins.cell_of_block hq 0
  have hty := run_eql_iface_types (P := Tryz.prog) 132 135 (.pointer (some ⟨q, 0, none⟩)) (.int .i64 k) Tryz.underlying87 (by decide) w
  by_cases hk : k0 = k
  · subst hk
    have heq : (binOp .eql 87 (.iface 135 (.int .i64 k0)) (.iface 135 (.int .i64 k0))).run Tryz.prog w = .ok (.bool true) w := by
      have := Lib.run_eql_iface_int (P := Tryz.prog) w (t := 87) (tx := 135) (k := .i64) k0 k0 Tryz.underlying87 (by kernel_rfl) Tryz.underlying135
      simpa using this
    go_enter Tryz.func63, Tryz.ntmps63
    go_wp2
    refine wp_loop_rounds 2 ?_
    rw [rounds_succ]
    go_wp2
    rw [rounds_succ]
    go_wp2
    go_ret
    exact ⟨by simp, rfl⟩
  · have heq : (binOp .eql 87 (.iface 135 (.int .i64 k0)) (.iface 135 (.int .i64 k))).run Tryz.prog w = .ok (.bool false) w := by
      have := Lib.run_eql_iface_int (P := Tryz.prog) w (t := 87) (tx := 135) (k := .i64) k0 k Tryz.underlying87 (by kernel_rfl) Tryz.underlying135
      have hb : (k0 == k) = false := beq_eq_false_iff_ne.2 hk
      exact hb ▸ this
    go_enter Tryz.func63, Tryz.ntmps63
    go_wp2
    refine wp_loop_rounds 2 ?_
    rw [rounds_succ]
    go_wp2
    rw [rounds_succ]
    go_wp2
    go_ret
    exact ⟨by simp [hk], rfl⟩
end Go.Proofs.YtpdbmpbmepkikaaGreatDoor

namespace Go.Proofs.YtpdbmpbmepkikaaGreatDoor
open Go.RowKit

/-- The variable errors.errorType is laid. -/
def EType (w : World) : Prop := w.cell? ⟨0, 0, none⟩ = some (.iface 264 (.agg #[.pointer (some ⟨7, 87, none⟩)]))
theorem EType.lt {w : World} (h : EType w) : 0 < w.heap.size := World.block_lt_of_cell? w ⟨0, 0, none⟩ h
theorem EType.of_block {w w' : World} (h : EType w) (hb : w'.heap[0]? = w.heap[0]?) : EType w' := (World.cell?_of_block (w := w) (a := ⟨0, 0, none⟩) hb).trans h
theorem EType.below {N : Nat} {w w' : World} (h : EType w) (hb : Below N w w') (hN : w.heap.size ≤ N) : EType w' := h.of_block (hb.block 0 (Nat.lt_of_lt_of_le h.lt hN))
theorem EType.keep {F : Nat → Prop} {w w' : World} (h : EType w) (hk : Keep F w w') (hF : ¬ F 0) : EType w' := h.of_block (hk.block 0 h.lt hF)

structure PaAt (N q : Nat) (k : Int) (s : ByteArray) (w0 W : World) : Prop where
  box : W.heap[N + 1]? = some (.cells #[.pointer (some ⟨q, 0, none⟩)] 132 (0, 0))
  err : W.heap[q]? = some (.cells #[.int .i64 k, .string s] 137 (0, 0))
  res : W.heap[N]? = some (.cells #[.int .i64 0, .string ⟨#[]⟩] 49 (0, 0))
  below : Below w0.heap.size w0 W
theorem PaAt_drew {N q : Nat} {k : Int} {s : ByteArray} {w0 W : World} : PaAt N q k s w0 W.drew ↔ PaAt N q k s w0 W :=
  ⟨fun h => ⟨h.1, h.2, h.3, ⟨h.below.os, h.below.tape, h.below.output, h.below.size, h.below.block⟩⟩, fun h => ⟨h.1, h.2, h.3, ⟨h.below.os, h.below.tape, h.below.output, h.below.size, h.below.block⟩⟩⟩

theorem as_any (q b : Nat) (W : World) (hg : EType W) (hb : W.heap[b]? = some (.cells #[.pointer none] 132 (0, 0))) :
    Calls Tryz.prog 62 #[.iface 132 (.pointer (some ⟨q, 0, none⟩)), .iface 134 (.pointer (some ⟨b, 0, none⟩))] W fun e w' => e = .returned (.bool true) ∧ Keep (fun x => x = b) W w' ∧ w'.heap[b]? = some (.cells #[.pointer (some ⟨q, 0, none⟩)] 132 (0, 0)) := by
  have hlt := (Array.getElem?_eq_some_iff.1 hb).1
  refine (as_hit ⟨q, 0, none⟩ ⟨b, 0, none⟩ (.pointer none) W hg (Joins.cell_of_block hb 0) (Joins.unfrozen_of_block hb 0)).mono ?_
  rintro e w' ⟨rfl, rfl⟩
  refine ⟨rfl, ((((Keep.alloc _ _ _).trans (Keep.alloc _ _ _)).trans (Keep.alloc _ _ _)).trans (Keep.alloc _ _ _)).trans (Keep.setCell _ _ _ rfl), ?_⟩
  refine setCell_box (T := 132) (v := .pointer none) ?_
  rw [Below.heap_alloc _ _ _ (by simp; omega), Below.heap_alloc _ _ _ (by simp; omega), Below.heap_alloc _ _ _ (by simp; omega), Below.heap_alloc _ _ _ hlt]
  exact hb

theorem parts_nil (w : World) : Calls Tryz.prog 42 #[.nilIface] w fun e w' => e = .returned (.agg #[.int .i64 0, .string ⟨#[]⟩]) ∧ Below w.heap.size w w' := by
  go_enter Tryz.func42, Tryz.ntmps42
  go_wp2
  have hN : (w.alloc (.cells #[.int .i64 0, .string ⟨#[]⟩] 49)).heap[w.heap.size]? = some (.cells #[.int .i64 0, .string ⟨#[]⟩] 49 (0, 0)) := World.alloc_heap_new _ _
  refine bodyPost_ret (results_cell_row rfl _ _ w.heap.size 49 #[.int .i64 0, .string ⟨#[]⟩] (0, 0) _ rfl hN Tryz.underlying49 rfl (by kernel_rfl)) rfl ?_
  exact ⟨rfl, (Below.refl _ _).alloc (Nat.le_refl _) _⟩

attribute [local simp] PaAt_drew in
theorem parts_err (q : Nat) (k : Int) (s : ByteArray) (w : World) (hg : EType w) (hq : w.heap[q]? = some (.cells #[.int .i64 k, .string s] 137 (0, 0))) (h1 : 1 ≤ k) (h5 : k ≤ 5) :
    Calls Tryz.prog 42 #[.iface 132 (.pointer (some ⟨q, 0, none⟩))] w fun e w' => e = .returned (.agg #[.int .i64 k, .string s]) ∧ Below w.heap.size w w' := by
  have hql := (Array.getElem?_eq_some_iff.1 hq).1
  obtain ⟨w1, hw1⟩ : ∃ w1, w1 = (w.alloc (.cells #[.int .i64 0, .string ⟨#[]⟩] 49)).alloc (.cells #[.pointer none] 132) := ⟨_, rfl⟩
  have hb1 : Below w.heap.size w w1 := by rw [hw1]; exact ((Below.refl _ _).alloc (Nat.le_refl _) _).alloc (by simp) _
  have hbox : w1.heap[w.heap.size + 1]? = some (.cells #[.pointer none] 132 (0, 0)) := by
    have := World.alloc_heap_new (w.alloc (.cells #[.int .i64 0, .string ⟨#[]⟩] 49)) (.cells #[.pointer none] 132)
    rw [World.size_alloc] at this; rw [hw1]; exact this
  have hres : w1.heap[w.heap.size]? = some (.cells #[.int .i64 0, .string ⟨#[]⟩] 49 (0, 0)) := by
    rw [hw1, Below.heap_alloc _ _ _ (by simp)]; exact World.alloc_heap_new _ _
  have hz1 : w1.heap.size = w.heap.size + 2 := by rw [hw1]; simp
  have hcall : Calls Tryz.prog 62 #[.iface 132 (.pointer (some ⟨q, 0, none⟩)), .iface 134 (.pointer (some ⟨w.heap.size + 1, 0, none⟩))] w1 fun e w' => e = .returned (.bool true) ∧ PaAt w.heap.size q k s w w' :=
    (as_any q (w.heap.size + 1) w1 (hg.below hb1 (Nat.le_refl _)) hbox).mono fun e w' h => ⟨h.1, h.2.2, (h.2.1.block q (by omega) (by omega)).trans ((hb1.block q hql).trans hq), (h.2.1.block _ (by omega) (by omega)).trans hres,
      below_keep hb1 h.2.1 (fun x hx e => by omega)⟩
  rw [hw1] at hcall
  have HC := Lib.hid hcall
  have HW := Lib.hid hw1
  have hk : ∀ W, PaAt w.heap.size q k s w W → W.cell? ⟨q, 0, none⟩ = some (.int .i64 k) := fun W h => Joins.cell_of_block h.err 0
  have hs : ∀ W, PaAt w.heap.size q k s w W → W.cell? ⟨q, 1, none⟩ = some (.string s) := fun W h => Joins.cell_of_block h.err 1
  have hx : ∀ W, PaAt w.heap.size q k s w W → W.cell? ⟨w.heap.size + 1, 0, none⟩ = some (.pointer (some ⟨q, 0, none⟩)) := fun W h => Joins.cell_of_block h.box 0
  have HI : Hid (∀ W j b, PaAt w.heap.size q k s w W → decide (k = j) = b → Calls Tryz.prog 63 #[.iface 132 (.pointer (some ⟨q, 0, none⟩)), .iface 135 (.int .i64 j)] W fun e w' => e = .returned (.bool b) ∧ w' = W) :=
    Lib.hid fun W j b h e => e ▸ isKind_any q k j s W h.err
  have HK := Lib.hid (And.intro hk (And.intro hs hx))
  clear hcall hw1 hbox hres hb1 hq hg hk hs hx
  go_enter Tryz.func42, Tryz.ntmps42
  go_wp2_with (go_at_call 62; refine HC.out.mono ?_; rintro e w2 ⟨rfl, hP⟩; refine Halt.of ?_)
  have y0 := HK.out.1 w2 hP
  have y1 := HK.out.2.2 w2 hP
  have hk0 : ((k == 0) = false) := beq_eq_false_iff_ne.2 (by omega)
  have hk1 : ¬ k = 0 := by omega
  clear HC
  unfold Halt
  go_wp2
  go_loopg [4] 6 (fun n i wr => ∃ j : Nat, i = .int .i64 j ∧ n + j = 6 ∧ PaAt w.heap.size q k s w wr)
  case atStart => exact ⟨0, rfl, rfl, hP⟩
  case round =>
    obtain ⟨j, rfl, hn, hPr⟩ := hrel
    have x0 := HK.out.1
    have x1 := HK.out.2.1
    have x2 := HK.out.2.2
    by_cases hj : j < 6
    · have hj5 : (j : Int) ≤ 5 := by omega
      obtain ⟨b, hb⟩ : ∃ b : Bool, b = decide (k = (j : Int)) := ⟨_, rfl⟩
      have hb2 : (((j : Int)) == k) = b := by rw [hb, Bool.eq_iff_iff, beq_iff_eq, decide_eq_true_eq]; exact eq_comm
      have HB := Lib.hid hb
      clear hb x1 y0 y1
      go_wp2
      go_region_held3 (fun W => PaAt w.heap.size q k s w W) (with_reducible (first | assumption | (rw [PaAt_drew]; assumption)))
        ((first | (go_at_call 63; refine Calls.mono (HI.out _ (j : Int) b ?hw HB.out.symm) ?_; (case hw => with_reducible (first | assumption | (rw [PaAt_drew]; assumption))); rintro e w3 ⟨rfl, hw3⟩; subst hw3)))
      rename_i hHeld
      clear x0 x2
      go_wp2
      go_roundg (gk - 1)
      case rel => exact ⟨j + 1, by go_simp, by omega, hHeld⟩
      case measure => omega
    · have hje : j = 6 := by omega
      subst hje
      have hH := Lib.hid hPr
      have z0 := Joins.cell_of_block hPr.res 0
      have z1 := Joins.cell_of_block hPr.res 1
      have z2 : ∀ i, wr.frozen? ⟨w.heap.size, i, none⟩ = false := fun i => Joins.unfrozen_of_block hPr.res i
      simp at z0 z1
      have n1 : w.heap.size ≠ q := by omega
      have n2 : w.heap.size ≠ w.heap.size + 1 := by omega
      have p0 := x0 wr hPr
      have p1 := x1 wr hPr
      have p2 := x2 wr hPr
      clear y0 y1 x0 x1 x2 hPr hP
      go_wp2
      go_region_held3 (fun W => W.cell? ⟨q, 0, none⟩ = some (.int .i64 k) ∧ W.cell? ⟨q, 1, none⟩ = some (.string s) ∧ W.cell? ⟨w.heap.size + 1, 0, none⟩ = some (.pointer (some ⟨q, 0, none⟩))) (go_keep) (fail)
      go_wp2
      have hA : ArrAt w.heap.size 49 wr _ ((wr.drew.setCell ⟨w.heap.size, 0, none⟩ (.int .i64 k)).setCell ⟨w.heap.size, 1, none⟩ (.string s)) :=
        ((ArrAt.mk (W := wr.drew) hH.out.res (Keep.drew _ _)).set 0 _).set 1 _
      obtain ⟨hAb, hAk⟩ := hA
      simp only [List.setIfInBounds_toArray, List.set_cons_zero, List.set_cons_succ] at hAb
      refine bodyPost_ret (results_cell_row rfl _ _ w.heap.size 49 _ (0, 0) _ rfl hAb Tryz.underlying49 rfl (by kernel_rfl)) rfl ?_
      exact ⟨rfl, below_keep hH.out.below hAk (fun x hx e => by omega)⟩
end Go.Proofs.YtpdbmpbmepkikaaGreatDoor

namespace Go.Proofs.YtpdbmpbmepkikaaGreatDoor
open Go.RowKit

/-- A World's block, and the row of its replicas. -/
structure WldAt (w : World) (pw : Nat) (lv : Value) (ps : List Nat) : Prop where
  box : w.heap[pw]? = some (.cells #[lv] 74 (0, 0))
  row : w.ownsRow 0 77 1 lv ps.length (ps.map fun p => .pointer (some ⟨p, 0, none⟩))
theorem WldAt.cell {w : World} {pw : Nat} {lv : Value} {ps : List Nat} (h : WldAt w pw lv ps) {i : Nat} (hi : i < ps.length) : ∃ g cap, lv = .slice (some ⟨g, 0, none⟩) ps.length cap ∧ g < w.heap.size ∧ w.cell? ⟨g, i, none⟩ = some (.pointer (some ⟨ps[i], 0, none⟩)) := by
  obtain ⟨h1, h2⟩ := h.row
  rcases h2 with ⟨_, h2⟩ | ⟨g, cap, cur, hv, _, hg, hn, _, _, ht⟩
  · omega
  · refine ⟨g, cap, hv, (Array.getElem?_eq_some_iff.1 hg).1, ?_⟩
    rw [Joins.cell_of_block hg i]
    have h3 : (ps.map fun p => Value.pointer (some ⟨p, 0, none⟩))[i]? = some (.pointer (some ⟨ps[i], 0, none⟩)) := by simp [hi]
    rw [← h3, ← ht, List.getElem?_take_of_lt (by omega)]
    simp

theorem parts_any (v : Value) (k : Int) (s : ByteArray) (w : World) (hg : EType w) (h : ErrAt w v k s) :
    Calls Tryz.prog 42 #[v] w fun e w' => e = .returned (.agg #[.int .i64 k, .string s]) ∧ Below w.heap.size w w' := by
  rcases h with ⟨rfl, rfl, rfl⟩ | ⟨q, rfl, hq, h1, h5⟩
  · exact parts_nil w
  · exact parts_err q k s w hg hq h1 h5

theorem putW_any (pw : Nat) (lv : Value) (ps : List Nat) (i : Nat) (hi : i < ps.length) (id : Int) (m g : Nat) (L : List Reg) (n f v : ByteArray) (w : World) (hW : WldAt w pw lv ps) (hps : ps.length ≤ 1000000) (hR : RepAt w ps[i] id m g) (hB : BookAt w m L) (hm0 : m ≠ 0) (hT : EType w)
    (hn : n.size ≤ 65536) (hf : f.size ≤ 65536) (hc : clockL L < 9223372036854775807) :
    Calls Tryz.prog 26 #[.pointer (some ⟨pw, 0, none⟩), .int .i64 i, .string n, .string f, .string v] w fun e w' => e = .returned (.agg #[.int .i64 (putP L id n f v).2.1, .string (putP L id n f v).2.2]) ∧ BookAt w' m (putP L id n f v).1 ∧ Keep (fun b => b = m) w w' := by
  obtain ⟨gs, cap, hv, hg, hci⟩ := hW.cell hi
  subst hv
  obtain ⟨p, hp⟩ : ∃ p, p = ps[i] := ⟨_, rfl⟩
  rw [← hp] at hR hci
  have hpwl := (Array.getElem?_eq_some_iff.1 hW.box).1
  have hml := hB.lt
  have hcw : w.cell? ⟨pw, 0, none⟩ = some (.slice (some ⟨gs, 0, none⟩) ps.length cap) := Joins.cell_of_block hW.box 0
  obtain ⟨w1, hw1⟩ : ∃ w1, w1 = w.alloc (.cells #[.int .i64 0, .string ⟨#[]⟩] 49) := ⟨_, rfl⟩
  have hb1 : Below w.heap.size w w1 := by rw [hw1]; exact (Below.refl _ _).alloc (Nat.le_refl _) _
  have hz1 : w1.heap.size = w.heap.size + 1 := by rw [hw1]; simp
  have hres : w1.heap[w.heap.size]? = some (.cells #[.int .i64 0, .string ⟨#[]⟩] 49 (0, 0)) := by rw [hw1]; exact World.alloc_heap_new _ _
  have hcall := put_any p id m g L n f v w1 ((hb1.block p hR.lt).trans hR) (hB.below hb1) hn hf hc
  obtain ⟨r, hr⟩ : ∃ r, r = putP L id n f v := ⟨_, rfl⟩
  rw [← hr] at hcall ⊢
  rw [hw1] at hcall
  have HC := Lib.hid hcall
  have HH := Lib.hid (And.intro hw1 (And.intro hb1 (And.intro hz1 (And.intro hres (hT.below hb1 (Nat.le_refl _))))))
  have hii : (i : Int) < (ps.length : Int) := by omega
  clear hcall hw1 hb1 hz1 hres hT hW hR hB hr hn hf hc hp
  go_enter Tryz.func26, Tryz.ntmps26
  go_wp2_with (go_at_call 43; refine HC.out.mono ?_; rintro e w2 ⟨ev, rfl, hE, hBk, hK⟩; refine Halt.of ?_)
  obtain ⟨hw1, hb1, hz1, hres, hT⟩ := HH.out
  rw [← hw1] at hK
  have hT2 : EType w2 := hT.keep hK (fun e => hm0 e.symm)
  have hres2 : w2.heap[w.heap.size]? = some (.cells #[.int .i64 0, .string ⟨#[]⟩] 49 (0, 0)) := (hK.block _ (by omega) (by omega)).trans hres
  have HP := Lib.hid (parts_any ev r.2.1 r.2.2 w2 hT2 hE)
  have HK := Lib.hid (And.intro hBk (And.intro ((Keep.of_below' (F := fun b => b = m) hb1).trans hK) hres2))
  have hsz := hK.size
  clear hE hBk hK hT2 hres2 hw1 hb1 hres hT HC hcw hci
  unfold Halt
  go_wp2_with (go_at_call 42; refine HP.out.mono ?_; rintro e w3 ⟨rfl, hb3⟩; refine Halt.of ?_)
  obtain ⟨hBk, hKK, hres2⟩ := HK.out
  have hNl := (Array.getElem?_eq_some_iff.1 hres2).1
  have hres3 : w3.heap[w.heap.size]? = some (.cells #[.int .i64 0, .string ⟨#[]⟩] 49 (0, 0)) := (hb3.block _ hNl).trans hres2
  have a0 : w3.cell? ⟨w.heap.size, 0, none⟩ = some (.int .i64 0) := Joins.cell_of_block hres3 0
  have a1 : w3.cell? ⟨w.heap.size, 1, none⟩ = some (.string ⟨#[]⟩) := Joins.cell_of_block hres3 1
  have b0 : ∀ i, w3.frozen? ⟨w.heap.size, i, none⟩ = false := fun i => Joins.unfrozen_of_block hres3 i
  have HF := Lib.hid (And.intro (hBk.below hb3) (And.intro (hKK.trans (Keep.of_below' hb3)) hres3))
  clear hBk hKK hres2 hb3 hres3 HP HK
  unfold Halt
  go_wp2
  obtain ⟨hBk, hKK, hres3⟩ := HF.out
  have hA : ArrAt w.heap.size 49 w3 _ ((w3.setCell ⟨w.heap.size, 0, none⟩ (.int .i64 r.2.1)).setCell ⟨w.heap.size, 1, none⟩ (.string r.2.2)) :=
    ((ArrAt.mk hres3 (Keep.refl _ _)).set 0 _).set 1 _
  obtain ⟨hAb, hAk⟩ := hA
  simp only [List.setIfInBounds_toArray, List.set_cons_zero, List.set_cons_succ] at hAb
  refine bodyPost_ret (results_cell_row rfl _ _ w.heap.size 49 _ (0, 0) _ rfl hAb Tryz.underlying49 rfl (by kernel_rfl)) rfl ?_
  exact ⟨rfl, hBk.keep hAk (by omega), hKK.trans' hAk (fun _ _ h => h) (fun x hx e => by omega)⟩

theorem deleteW_any (pw : Nat) (lv : Value) (ps : List Nat) (i : Nat) (hi : i < ps.length) (id : Int) (m g : Nat) (L : List Reg) (n : ByteArray) (w : World) (hW : WldAt w pw lv ps) (hps : ps.length ≤ 1000000) (hR : RepAt w ps[i] id m g) (hB : BookAt w m L) (hm0 : m ≠ 0) (hT : EType w)
    (hn : n.size ≤ 65536) (hL : L.length ≤ 1073741824) (hc : clockL L < 9223372036854775807) :
    Calls Tryz.prog 28 #[.pointer (some ⟨pw, 0, none⟩), .int .i64 i, .string n] w fun e w' => e = .returned (.agg #[.int .i64 (deleteP L id n).2.1, .string (deleteP L id n).2.2]) ∧ BookAt w' m (deleteP L id n).1 ∧ Keep (fun b => b = m) w w' := by
  obtain ⟨gs, cap, hv, hg, hci⟩ := hW.cell hi
  subst hv
  obtain ⟨p, hp⟩ : ∃ p, p = ps[i] := ⟨_, rfl⟩
  rw [← hp] at hR hci
  have hpwl := (Array.getElem?_eq_some_iff.1 hW.box).1
  have hml := hB.lt
  have hcw : w.cell? ⟨pw, 0, none⟩ = some (.slice (some ⟨gs, 0, none⟩) ps.length cap) := Joins.cell_of_block hW.box 0
  obtain ⟨w1, hw1⟩ : ∃ w1, w1 = w.alloc (.cells #[.int .i64 0, .string ⟨#[]⟩] 49) := ⟨_, rfl⟩
  have hb1 : Below w.heap.size w w1 := by rw [hw1]; exact (Below.refl _ _).alloc (Nat.le_refl _) _
  have hz1 : w1.heap.size = w.heap.size + 1 := by rw [hw1]; simp
  have hres : w1.heap[w.heap.size]? = some (.cells #[.int .i64 0, .string ⟨#[]⟩] 49 (0, 0)) := by rw [hw1]; exact World.alloc_heap_new _ _
  have hcall := delete_any p id m g L n w1 ((hb1.block p hR.lt).trans hR) (hB.below hb1) hn hL hc
  obtain ⟨r, hr⟩ : ∃ r, r = deleteP L id n := ⟨_, rfl⟩
  rw [← hr] at hcall ⊢
  rw [hw1] at hcall
  have HC := Lib.hid hcall
  have HH := Lib.hid (And.intro hw1 (And.intro hb1 (And.intro hz1 (And.intro hres (hT.below hb1 (Nat.le_refl _))))))
  have hii : (i : Int) < (ps.length : Int) := by omega
  clear hcall hw1 hb1 hz1 hres hT hW hR hB hr hn hL hc hp
  go_enter Tryz.func28, Tryz.ntmps28
  go_wp2_with (go_at_call 46; refine HC.out.mono ?_; rintro e w2 ⟨ev, rfl, hE, hBk, hK⟩; refine Halt.of ?_)
  obtain ⟨hw1, hb1, hz1, hres, hT⟩ := HH.out
  rw [← hw1] at hK
  have hT2 : EType w2 := hT.keep hK (fun e => hm0 e.symm)
  have hres2 : w2.heap[w.heap.size]? = some (.cells #[.int .i64 0, .string ⟨#[]⟩] 49 (0, 0)) := (hK.block _ (by omega) (by omega)).trans hres
  have HP := Lib.hid (parts_any ev r.2.1 r.2.2 w2 hT2 hE)
  have HK := Lib.hid (And.intro hBk (And.intro ((Keep.of_below' (F := fun b => b = m) hb1).trans hK) hres2))
  have hsz := hK.size
  clear hE hBk hK hT2 hres2 hw1 hb1 hres hT HC hcw hci
  unfold Halt
  go_wp2_with (go_at_call 42; refine HP.out.mono ?_; rintro e w3 ⟨rfl, hb3⟩; refine Halt.of ?_)
  obtain ⟨hBk, hKK, hres2⟩ := HK.out
  have hNl := (Array.getElem?_eq_some_iff.1 hres2).1
  have hres3 : w3.heap[w.heap.size]? = some (.cells #[.int .i64 0, .string ⟨#[]⟩] 49 (0, 0)) := (hb3.block _ hNl).trans hres2
  have a0 : w3.cell? ⟨w.heap.size, 0, none⟩ = some (.int .i64 0) := Joins.cell_of_block hres3 0
  have a1 : w3.cell? ⟨w.heap.size, 1, none⟩ = some (.string ⟨#[]⟩) := Joins.cell_of_block hres3 1
  have b0 : ∀ i, w3.frozen? ⟨w.heap.size, i, none⟩ = false := fun i => Joins.unfrozen_of_block hres3 i
  have HF := Lib.hid (And.intro (hBk.below hb3) (And.intro (hKK.trans (Keep.of_below' hb3)) hres3))
  clear hBk hKK hres2 hb3 hres3 HP HK
  unfold Halt
  go_wp2
  obtain ⟨hBk, hKK, hres3⟩ := HF.out
  have hA : ArrAt w.heap.size 49 w3 _ ((w3.setCell ⟨w.heap.size, 0, none⟩ (.int .i64 r.2.1)).setCell ⟨w.heap.size, 1, none⟩ (.string r.2.2)) :=
    ((ArrAt.mk hres3 (Keep.refl _ _)).set 0 _).set 1 _
  obtain ⟨hAb, hAk⟩ := hA
  simp only [List.setIfInBounds_toArray, List.set_cons_zero, List.set_cons_succ] at hAb
  refine bodyPost_ret (results_cell_row rfl _ _ w.heap.size 49 _ (0, 0) _ rfl hAb Tryz.underlying49 rfl (by kernel_rfl)) rfl ?_
  exact ⟨rfl, hBk.keep hAk (by omega), hKK.trans' hAk (fun _ _ h => h) (fun x hx e => by omega)⟩
end Go.Proofs.YtpdbmpbmepkikaaGreatDoor

namespace Go.Proofs.YtpdbmpbmepkikaaGreatDoor
open Go.RowKit

theorem info77 : (Tryz.prog.info? 77).map (fun i => (i.zero, i.size, i.bytes)) = some (some (.pointer none), 1, 8) := by kernel_rfl

theorem WldAt.ne {w : World} {pw : Nat} {lv : Value} {ps : List Nat} (h : WldAt w pw lv ps) : lv.ownBlock ≠ some pw := fun e => by
  obtain ⟨h1, h2⟩ := h.row
  rcases h2 with ⟨rfl, _⟩ | ⟨g, cap, cur, rfl, _, hg, _⟩
  · cases e
  · have : g = pw := by simpa [Value.ownBlock] using e
    subst this
    rw [h.box] at hg; cases hg

theorem newW_any (pw : Nat) (lv : Value) (ps : List Nat) (id : Int) (w : World) (hW : WldAt w pw lv ps) (hps : ps.length ≤ 1000000) :
    Calls Tryz.prog 37 #[.pointer (some ⟨pw, 0, none⟩), .int .i64 id] w fun e w' => e = .returned (.bool true) ∧ ∃ lv' p m g, WldAt w' pw lv' (ps ++ [p]) ∧ RepAt w' p id m g ∧ BookAt w' m [] ∧ MapAt (keI .i64) w' g [] ∧ w.heap.size ≤ p ∧ w.heap.size ≤ m ∧ w.heap.size ≤ g ∧ (∀ b, lv'.ownBlock = some b → lv.ownBlock = some b ∨ w.heap.size ≤ b) ∧ Keep (fun b => b = pw ∨ lv.ownBlock = some b) w w' := by
  obtain ⟨i0, hi, hz0, hz1, hz2⟩ := info_parts info77
  have hpwl := (Array.getElem?_eq_some_iff.1 hW.box).1
  have hcw : w.cell? ⟨pw, 0, none⟩ = some lv := Joins.cell_of_block hW.box 0
  have hcf : w.frozen? ⟨pw, 0, none⟩ = false := Joins.unfrozen_of_block hW.box 0
  have HC := Lib.hid (new_any id w)
  have HW := Lib.hid hW
  clear hW
  go_enter Tryz.func37, Tryz.ntmps37
  go_wp2_with (first
    | (go_at_call 50; refine HC.out.mono ?_; rintro e w1 ⟨rfl, hR, hB, hM, hb⟩; refine Halt.of ?_))
  have HX := Lib.hid (And.intro hR (And.intro hB (And.intro hM hb)))
  have hc1 : w1.cell? ⟨pw, 0, none⟩ = some lv := (hb.cell (p := ⟨pw, 0, none⟩) hpwl).trans hcw
  have hc2 : w1.frozen? ⟨pw, 0, none⟩ = false := (hb.frozen (p := ⟨pw, 0, none⟩) hpwl).trans hcf
  have hpw1 := Nat.lt_of_lt_of_le hpwl hb.size
  have hrow : w1.ownsRow 0 77 1 lv ps.length (ps.map fun p => .pointer (some ⟨p, 0, none⟩)) := ownsRow_block HW.out.row fun g hg => hb.block g (HW.out.row.lt g hg).2
  have HRow := Lib.hid hrow
  clear hR hB hM hb hcw hcf HC hrow
  unfold Halt
  go_wp2_with (at_builtin; go_must (refine wpList_append_own_at _ rfl _ _ 72 rfl 0 77 i0 (.pointer none) 1 8 Tryz.underlying72 hi hz0 hz1 hz2 rfl (by decide) lv ps.length _ rfl (ownsRow_block HRow.out (fun g hg => Below.heap_alloc _ _ _ (HRow.out.lt g hg).2)) ⟨w1.heap.size, 0, none⟩ 1 1 [.pointer (some ⟨w.heap.size + 2, 0, none⟩)] rfl rfl (newsAt (by first | rfl | simp) _ _ rfl) (by simp [Value.oneCell']) (by unfold maxLen; omega) (by omega) (by simp) ?_); intro v5 w5 hr5 hg5 _ hat; refine Halt.of ?_)
  have hnb : some pw ≠ lv.ownBlock := fun e => HW.out.ne e.symm
  have h5 : w5.heap[pw]? = w1.heap[pw]? := (hg5.block _ (by simp; omega) hnb).trans (Below.heap_alloc _ _ _ hpw1)
  have hc5 : w5.cell? ⟨pw, 0, none⟩ = some lv := (World.cell?_of_block (w := w1) h5).trans hc1
  have hf5 : w5.frozen? ⟨pw, 0, none⟩ = false := (World.frozen?_of_block (w := w1) h5).trans hc2
  obtain ⟨g', cap', hv'⟩ := ownsRow_succ hr5
  subst hv'
  have HG := Lib.hid (And.intro hr5 (And.intro hg5 (And.intro hat h5)))
  clear hr5 hg5 hat h5 hc1 hc2 hi hz0 hz1 hz2
  unfold Halt
  go_wp2
  go_ret
  obtain ⟨hr5, hg5, hat, h5⟩ := HG.out
  obtain ⟨hR, hB, hM, hb⟩ := HX.out
  have hzb := hb.size
  -- what stands behind the append and the store
  have hold : ∀ k, k < w1.heap.size → k ≠ pw → some k ≠ lv.ownBlock → (w5.setCell ⟨pw, 0, none⟩ (.slice (some ⟨g', 0, none⟩) (ps.length + 1) cap')).heap[k]? = w1.heap[k]? := fun k hk h1 h2 =>
    (Below.heap_setCell _ _ _ _ h1).trans ((hg5.block k (by simp; omega) h2).trans (Below.heap_alloc _ _ _ hk))
  have hlo : ∀ k, lv.ownBlock = some k → k < w.heap.size := fun k hk => (HW.out.row.lt k hk).2
  have hfr : ∀ k, w.heap.size ≤ k → k < w1.heap.size → (w5.setCell ⟨pw, 0, none⟩ (.slice (some ⟨g', 0, none⟩) (ps.length + 1) cap')).heap[k]? = w1.heap[k]? := fun k h0 hk => hold k hk (by omega) (fun e => by have := hlo k e.symm; omega)
  refine ⟨rfl, _, w.heap.size + 2, w.heap.size, w.heap.size + 1, ⟨setCell_box (h5.trans ((hb.block pw hpwl).trans HW.out.box)), ?_⟩, (hfr _ (by omega) hR.lt).trans hR, hB.of_block (hfr _ (by omega) hB.lt), hM.of_block (hfr _ (by omega) hM.lt), by omega, by omega, by omega, ?_, ?_⟩
  · have e : (ps ++ [w.heap.size + 2]).map (fun p => Value.pointer (some ⟨p, 0, none⟩)) = ps.map (fun p => Value.pointer (some ⟨p, 0, none⟩)) ++ [.pointer (some ⟨w.heap.size + 2, 0, none⟩)] := by simp
    rw [e, List.length_append]
    refine ownsRow_block hr5 fun k hk => Below.heap_setCell _ _ _ _ fun ek => ?_
    simp only [Value.ownBlock, Option.some.injEq] at hk hat
    simp only at ek
    rcases hat with h | h
    · rw [hk, ek] at h; exact hnb h
    · rw [hk, ek, World.size_alloc] at h
      omega
  · intro b hb
    rcases hat with h | h
    · exact .inl (h ▸ hb)
    · refine .inr ?_
      rw [h, World.size_alloc] at hb
      simp only [Option.some.injEq] at hb
      omega
  · refine ⟨?_, ?_, ?_, ?_, fun k hk hn => ?_⟩
    · show w5.os = _
      rw [hg5.os]; exact hb.os
    · show w5.tape = _
      rw [hg5.tape]; exact hb.tape
    · show w5.output = _
      rw [hg5.output]; exact hb.output
    · have := hg5.size
      simp [World.setCell] at this ⊢
      omega
    · exact (hold k (by omega) (fun e => hn (.inl e)) (fun e => hn (.inr e.symm))).trans (hb.block k hk)
end Go.Proofs.YtpdbmpbmepkikaaGreatDoor

namespace Go.Proofs.YtpdbmpbmepkikaaGreatDoor
open Go.RowKit

/-- The document's Put, and Delete. -/
def putD (l : List Reg) (id : Int) (n f v : ByteArray) : List Reg × Int × ByteArray :=
  if smallB n 8 then (if smallB f 4 then (if 20 < v.size then (l, 3, v) else (withD l ⟨n, f, clockL l + 1, id, v⟩, 0, ⟨#[]⟩)) else (l, 2, f)) else (l, 1, n)
def deleteD (l : List Reg) (id : Int) (n : ByteArray) : List Reg × Int × ByteArray :=
  if smallB n 8 then (if (fieldsD l n).isEmpty then (l, 4, n) else (withD l ⟨n, ⟨#[]⟩, clockL l + 1, id, ⟨#[]⟩⟩, 0, ⟨#[]⟩)) else (l, 1, n)

theorem ListAt.of_row {w : World} {base : Nat} {v : Value} {l : List Reg} (h : w.ownsRow base 154 5 v l.length (rows l)) : ListAt w v l := ownsRow_base h fun _ _ => Nat.zero_le _

theorem putD_any (l : List Reg) (lv : Value) (id : Int) (n f v : ByteArray) (w : World) (hl : ListAt w lv l) (hz : l.length ≤ 1000000) (hn : n.size ≤ 65536) (hf : f.size ≤ 65536) (hc : clockL l < 9223372036854775807) :
    Calls Tryz.prog 73 #[lv, .int .i64 id, .string n, .string f, .string v] w fun e w' => ∃ lv', e = .returned (.tuple #[lv', .int .i64 (putD l id n f v).2.1, .string (putD l id n f v).2.2]) ∧ ListAt w' lv' (putD l id n f v).1 ∧ Below w.heap.size w w' := by
  have h0 := clockL_nonneg l
  have hwrap : IntKind.i64.wrap (clockL l + 1) = clockL l + 1 := by rw [IntKind.wrap_i64]; omega
  have C1 : Hid (Calls Tryz.prog 126 #[.string n, .int .i64 8] w fun e w' => e = .returned (.bool (smallB n 8)) ∧ w' = w) := Lib.hid (smallD_any n 8 w hn)
  have C2 : Hid (Calls Tryz.prog 126 #[.string f, .int .i64 4] w fun e w' => e = .returned (.bool (smallB f 4)) ∧ w' = w) := Lib.hid (smallD_any f 4 w hf)
  have C3 := Lib.hid (clockD_any l lv w hl hz)
  have C4 := Lib.hid (with_any l lv n f v (clockL l + 1) id w hl hz)
  have HL := Lib.hid hl
  obtain ⟨k, hk⟩ : ∃ k, k = clockL l := ⟨_, rfl⟩
  rw [← hk] at hwrap C3 C4
  have HK := Lib.hid hk
  clear hl hz hn hf hc h0 hk
  cases h1 : smallB n 8 with
  | false =>
    have hp : putD l id n f v = (l, 1, n) := by simp [putD, h1]
    rw [h1] at C1
    rw [hp]
    clear hp h1
    go_enter Tryz.func73, Tryz.ntmps73
    go_wp2_with (first
      | (go_at_call 126; with_reducible refine C1.out.mono ?_; rintro e w2 ⟨rfl, hw2⟩; subst hw2)
      | (go_at_call 126; with_reducible refine C2.out.mono ?_; rintro e w2 ⟨rfl, hw2⟩; subst hw2))
    refine bodyPost_ret (results_tmp3 rfl _ _ _) rfl ?_
    exact ⟨_, rfl, HL.out, Below.refl _ _⟩
  | true =>
    rw [h1] at C1
    cases h2 : smallB f 4 with
    | false =>
      have hp : putD l id n f v = (l, 2, f) := by simp [putD, h1, h2]
      rw [h2] at C2
      rw [hp]
      clear hp h1 h2
      go_enter Tryz.func73, Tryz.ntmps73
      go_wp2_with (first
        | (go_at_call 126; with_reducible refine C1.out.mono ?_; rintro e w2 ⟨rfl, hw2⟩; subst hw2)
        | (go_at_call 126; with_reducible refine C2.out.mono ?_; rintro e w2 ⟨rfl, hw2⟩; subst hw2))
      refine bodyPost_ret (results_tmp3 rfl _ _ _) rfl ?_
      exact ⟨_, rfl, HL.out, Below.refl _ _⟩
    | true =>
      rw [h2] at C2
      by_cases h3 : 20 < v.size
      · have hp : putD l id n f v = (l, 3, v) := by simp [putD, h1, h2, h3]
        rw [hp]
        clear hp h1 h2
        go_enter Tryz.func73, Tryz.ntmps73
        go_wp2_with (first
          | (go_at_call 126; with_reducible refine C1.out.mono ?_; rintro e w2 ⟨rfl, hw2⟩; subst hw2)
          | (go_at_call 126; with_reducible refine C2.out.mono ?_; rintro e w2 ⟨rfl, hw2⟩; subst hw2))
        refine bodyPost_ret (results_tmp3 rfl _ _ _) rfl ?_
        exact ⟨_, rfl, HL.out, Below.refl _ _⟩
      · have hp : putD l id n f v = (withD l ⟨n, f, k + 1, id, v⟩, 0, ⟨#[]⟩) := by simp [putD, h1, h2, h3, HK.out]
        rw [hp]
        clear hp h1 h2
        go_enter Tryz.func73, Tryz.ntmps73
        go_wp2_with (first
          | (go_at_call 126; with_reducible refine C1.out.mono ?_; rintro e w2 ⟨rfl, hw2⟩; subst hw2)
          | (go_at_call 126; with_reducible refine C2.out.mono ?_; rintro e w2 ⟨rfl, hw2⟩; subst hw2)
          | (go_at_call 127; refine C3.out.mono ?_; rintro e w2 ⟨rfl, hw2⟩; subst hw2)
          | (go_at_call 128; refine C4.out.mono ?_; rintro e w2 ⟨lv', rfl, ho, hb⟩))
        refine bodyPost_ret (results_tmp3 rfl _ _ _) rfl ?_
        exact ⟨_, rfl, ListAt.of_row ho, hb⟩

theorem deleteD_any (l : List Reg) (lv : Value) (id : Int) (n : ByteArray) (w : World) (hl : ListAt w lv l) (hz : l.length ≤ 1000000) (hn : n.size ≤ 65536) (hc : clockL l < 9223372036854775807) :
    Calls Tryz.prog 74 #[lv, .int .i64 id, .string n] w fun e w' => ∃ lv', e = .returned (.tuple #[lv', .int .i64 (deleteD l id n).2.1, .string (deleteD l id n).2.2]) ∧ ListAt w' lv' (deleteD l id n).1 ∧ Below w.heap.size w w' := by
  have h0 := clockL_nonneg l
  have hwrap : IntKind.i64.wrap (clockL l + 1) = clockL l + 1 := by rw [IntKind.wrap_i64]; omega
  have C1 : Hid (Calls Tryz.prog 126 #[.string n, .int .i64 8] w fun e w' => e = .returned (.bool (smallB n 8)) ∧ w' = w) := Lib.hid (smallD_any n 8 w hn)
  have C2 := Lib.hid (fieldsD_any l lv n w hl hz)
  obtain ⟨k, hk⟩ : ∃ k, k = clockL l := ⟨_, rfl⟩
  have C3 : Hid (∀ W, Below w.heap.size w W → Calls Tryz.prog 127 #[lv] W fun e w' => e = .returned (.int .i64 k) ∧ w' = W) := Lib.hid fun W hW => hk ▸ clockD_any l lv W (hl.below hW (Nat.le_refl _)) hz
  have C4 : Hid (∀ W, Below w.heap.size w W → Calls Tryz.prog 128 #[lv, .agg #[.string n, .string ⟨#[]⟩, .int .i64 (k + 1), .int .i64 id, .string ⟨#[]⟩]] W fun e w' => ∃ v', e = .returned v' ∧ w'.ownsRow W.heap.size 154 5 v' (withD l ⟨n, ⟨#[]⟩, k + 1, id, ⟨#[]⟩⟩).length (rows (withD l ⟨n, ⟨#[]⟩, k + 1, id, ⟨#[]⟩⟩)) ∧ Below W.heap.size W w') := Lib.hid fun W hW => with_any l lv n ⟨#[]⟩ ⟨#[]⟩ (k + 1) id W (hl.below hW (Nat.le_refl _)) hz
  have HL := Lib.hid hl
  rw [← hk] at hwrap
  have HK := Lib.hid hk
  clear hl hz hn hc h0 hk
  cases h1 : smallB n 8 with
  | false =>
    have hp : deleteD l id n = (l, 1, n) := by simp [deleteD, h1]
    rw [h1] at C1
    rw [hp]
    clear hp h1
    go_enter Tryz.func74, Tryz.ntmps74
    go_wp2_with (first
      | (go_at_call 126; with_reducible refine C1.out.mono ?_; rintro e w2 ⟨rfl, hw2⟩; subst hw2)
      | (go_at_call 77; refine C2.out.mono ?_; rintro e w2 ⟨fv, rfl, hfo, hb2⟩))
    refine bodyPost_ret (results_tmp3 rfl _ _ _) rfl ?_
    exact ⟨_, rfl, HL.out.below hb2 (Nat.le_refl _), hb2⟩
  | true =>
    rw [h1] at C1
    obtain ⟨fl, hfl⟩ : ∃ fl, fl = fieldsD l n := ⟨_, rfl⟩
    rw [← hfl] at C2
    cases fl with
    | nil =>
      have hp : deleteD l id n = (l, 4, n) := by simp [deleteD, h1, ← hfl]
      rw [hp]
      clear hp h1 hfl
      go_enter Tryz.func74, Tryz.ntmps74
      go_wp2_with (first
        | (go_at_call 126; with_reducible refine C1.out.mono ?_; rintro e w2 ⟨rfl, hw2⟩; subst hw2)
        | (go_at_call 77; refine C2.out.mono ?_; rintro e w2 ⟨fv, rfl, hfo, hb2⟩; refine Halt.of ?_))
      obtain ⟨fad, fcap, hfv⟩ : ∃ fad fcap, fv = .slice fad 0 fcap := by
        rcases hfo.2 with ⟨rfl, h0⟩ | ⟨q, cap, cur, rfl, _⟩
        · exact ⟨none, 0, rfl⟩
        · exact ⟨_, _, rfl⟩
      subst hfv
      have HB := Lib.hid hb2
      clear hfo hb2
      unfold Halt
      go_wp2
      refine bodyPost_ret (results_tmp3 rfl _ _ _) rfl ?_
      exact ⟨_, rfl, HL.out.below HB.out (Nat.le_refl _), HB.out⟩
    | cons x t =>
      have hp : deleteD l id n = (withD l ⟨n, ⟨#[]⟩, k + 1, id, ⟨#[]⟩⟩, 0, ⟨#[]⟩) := by simp [deleteD, h1, ← hfl, HK.out]
      rw [hp]
      have hx0 : (((t.length : Int) + 1) == 0) = false := by simp; omega
      have hx1 : ¬ ((t.length : Int) + 1) = 0 := by omega
      clear hp h1 hfl
      go_enter Tryz.func74, Tryz.ntmps74
      go_wp2_with (first
        | (go_at_call 126; with_reducible refine C1.out.mono ?_; rintro e w2 ⟨rfl, hw2⟩; subst hw2)
        | (go_at_call 77; refine C2.out.mono ?_; rintro e w2 ⟨fv, rfl, hfo, hb2⟩; refine Halt.of ?_))
      obtain ⟨fad, fcap, hfv⟩ : ∃ fad fcap, fv = .slice fad (t.length + 1) fcap := by
        rcases hfo.2 with ⟨rfl, h0⟩ | ⟨q, cap, cur, rfl, _⟩
        · simp at h0
        · exact ⟨_, _, rfl⟩
      subst hfv
      have HB := Lib.hid hb2
      clear hfo hb2
      unfold Halt
      go_wp2_with (first
        | (go_at_call 127; refine (C3.out _ HB.out).mono ?_; rintro e w3 ⟨rfl, hw3⟩; subst hw3)
        | (go_at_call 128; refine (C4.out _ HB.out).mono ?_; rintro e w3 ⟨lv', rfl, ho, hb⟩))
      refine bodyPost_ret (results_tmp3 rfl _ _ _) rfl ?_
      exact ⟨_, rfl, ListAt.of_row ho, HB.out.trans (hb.mono HB.out.size)⟩
end Go.Proofs.YtpdbmpbmepkikaaGreatDoor
