/- PlnA: Contracts of plain's World: the second round of Fields.
   LawA: Contracts of the law's pick, and of same at like rows.
   LawB: The contract of the law's small. Condition: no text is longer than memory.
   RowA: From a lone call's contract to the row that bears 'leaving'; a script as an argument.
   ErrA: Contracts of errors.As, errors.Is at the errors of this program.
   ErrB: Contracts of errors.Is at the errors of this program.
   ErrC: The contract of plain's parts. Condition: the library's variable errorType is laid.
   PlainS: Plain law: the check sum tells one byte that has turned. No program in sight.
   PlainT: Plain laws: numbers as bytes and back; what is told of a whole, and that a spoilt one is known. No program in sight.
   PlainU: Plain laws: registers as bytes; books joined. No program in sight.
   SavA: The program's check sum over bytes that it reads. Condition: at most 2^40 bytes. -/
import Derived.Test.YtpdbmpbmepkikaaGreatDoorS06
import Derived.Conc.LeavingOf
import Derived.Deep.DeepHandedRow
import Derived.Deep.Slices
import Derived.Deep.Fields
import Derived.ChangeSame
import Derived.Carry
import Derived.LoneHanded
import Derived.RaceLone
import Derived.SevenTiedAt
import Derived.Test.YtpdbmpbmepkikaaGreatDoorProg
import Derived.WalkKit
import Derived.LaidEql
import Derived.Stop.Asserts
import Derived.RowKitTokens
import Derived.Lib.IfaceEq
import Derived.Lib.Hide
import Derived.Lib.SmallJoins
import Derived.Test.YtpdbmpbmepkikaaGreatDoorS05
import Derived.Test.YtpdbmpbmepkikaaGreatDoorS04
import Derived.Test.YtpdbmpbmepkikaaGreatDoorS02
import Derived.Laws.BitsAllLaws
set_option linter.all false
set_option linter.unusedSimpArgs false
set_option linter.unusedVariables false

namespace Go.Proofs.YtpdbmpbmepkikaaGreatDoor
open Go.RowKit

/-- Fields and values, by turns. -/
def fvs (l : List Reg) : List ByteArray := l.flatMap fun x => [x.field, x.value]
theorem fvs_length (l : List Reg) : (fvs l).length = 2 * l.length := by
  induction l with
  | nil => rfl
  | cons x l ih => show ([x.field, x.value] ++ fvs l).length = _; rw [List.length_append, ih]; simp; omega
theorem fvs_at {l : List Reg} {j : Nat} (hj : j < l.length) : (fvs l)[2 * j]? = some l[j].field ∧ (fvs l)[2 * j + 1]? = some l[j].value := by
  induction l generalizing j with
  | nil => simp at hj
  | cons x l ih =>
    show ([x.field, x.value] ++ fvs l)[2 * j]? = _ ∧ ([x.field, x.value] ++ fvs l)[2 * j + 1]? = _
    cases j with
    | zero => exact ⟨rfl, rfl⟩
    | succ j =>
      have := ih (j := j) (by simpa using hj)
      rw [List.getElem?_append_right (by simp; omega), List.getElem?_append_right (by simp; omega)]
      simpa [show 2 * (j + 1) - 2 = 2 * j by omega, show 2 * (j + 1) + 1 - 2 = 2 * j + 1 by omega] using this

structure F45 (bo bn bk bl : Nat) (ok no : Bool) (k : Int) (lv : Value) (W : World) : Prop where
  ok : W.heap[bo]? = some (.cells #[.bool ok] 4 (0, 0))
  no : W.heap[bn]? = some (.cells #[.bool no] 4 (0, 0))
  k : W.heap[bk]? = some (.cells #[.int .i64 k] 3 (0, 0))
  l : W.heap[bl]? = some (.cells #[lv] 51 (0, 0))

theorem fields45_any (bo bn bk bl : Nat) (F : List Reg) (j : Nat) (hj : j < F.length) (hF : F.length ≤ 1000000) (lv : Value) (W : World) (h : F45 bo bn bk bl true false (2 * j : Nat) lv W) (hl : StrAt W lv (fvs F))
    (hd : bo ≠ bn ∧ bo ≠ bk ∧ bo ≠ bl ∧ bn ≠ bk ∧ bn ≠ bl ∧ bk ≠ bl) :
    Calls Tryz.prog 45 #[.string F[j].field, .string F[j].value, .pointer (some ⟨bo, 0, none⟩), .pointer (some ⟨bn, 0, none⟩), .pointer (some ⟨bk, 0, none⟩), .pointer (some ⟨bl, 0, none⟩)] W fun e w' =>
      e = .returned (.bool (decide (2 * j + 2 ≤ F.length))) ∧ F45 bo bn bk bl true (decide (F.length < 2 * j + 2)) (2 * (j + 1) : Nat) lv w' ∧ Keep (fun b => b = bo ∨ b = bn ∨ b = bk) W w' := by
  obtain ⟨h1, h2⟩ := fvs_at hj
  have hlen := fvs_length F
  have hj1 : 2 * j + 1 < (fvs F).length := by omega
  obtain ⟨g, cap, hv, hg, y0⟩ := hl.cell (j := 2 * j) (by omega)
  obtain ⟨g', cap', hv', hg', y1⟩ := hl.cell (j := 2 * j + 1) (by omega)
  rw [hv] at hv'
  simp only [Value.slice.injEq, Option.some.injEq, Addr.mk.injEq, and_true, true_and] at hv'
  obtain ⟨rfl, rfl⟩ := hv'
  have e0 : (fvs F)[2 * j] = F[j].field := by have := List.getElem?_eq_getElem (l := fvs F) (i := 2 * j) (by omega); rw [h1] at this; exact (Option.some.inj this).symm
  have e1 : (fvs F)[2 * j + 1] = F[j].value := by have := List.getElem?_eq_getElem (l := fvs F) (i := 2 * j + 1) (by omega); rw [h2] at this; exact (Option.some.inj this).symm
  rw [e0] at y0
  rw [e1] at y1
  obtain ⟨f, hf⟩ : ∃ f, f = F[j].field := ⟨_, rfl⟩
  obtain ⟨v, hvv⟩ : ∃ v, v = F[j].value := ⟨_, rfl⟩
  rw [← hf] at y0 ⊢
  rw [← hvv] at y1 ⊢
  obtain ⟨nF, hnF⟩ : ∃ nF, nF = F.length := ⟨_, rfl⟩
  rw [← hnF] at hlen hj hF ⊢
  rw [hlen] at hv hj1
  subst hv
  have a0 : W.cell? ⟨bo, 0, none⟩ = some (.bool true) := Joins.cell_of_block h.ok 0
  have a1 : W.cell? ⟨bn, 0, none⟩ = some (.bool false) := Joins.cell_of_block h.no 0
  have a2 : W.cell? ⟨bk, 0, none⟩ = some (.int .i64 (2 * j : Nat)) := Joins.cell_of_block h.k 0
  have a3 : W.cell? ⟨bl, 0, none⟩ = some (.slice (some ⟨g, 0, none⟩) (2 * nF) cap) := Joins.cell_of_block h.l 0
  have b0 : W.frozen? ⟨bo, 0, none⟩ = false := Joins.unfrozen_of_block h.ok 0
  have b1 : W.frozen? ⟨bn, 0, none⟩ = false := Joins.unfrozen_of_block h.no 0
  have b2 : W.frozen? ⟨bk, 0, none⟩ = false := Joins.unfrozen_of_block h.k 0
  have w0 : IntKind.i64.wrap (((2 * j : Nat) : Int) + 1) = (2 * j + 1 : Nat) := by rw [IntKind.wrap_i64]; omega
  have w1 : IntKind.i64.wrap (((2 * j : Nat) : Int) + 2) = (2 * j + 2 : Nat) := by rw [IntKind.wrap_i64]; omega
  obtain ⟨d1, d2, d3, d4, d5, d6⟩ := hd
  have HH := Lib.hid h
  clear hl e0 e1 h1 h2 h hf hvv hnF hlen
  go_enter Tryz.func45, Tryz.ntmps45
  go_wp2
  go_ret
  have hb : decide ((nF : Int) < 2 * (j : Int) + 2) = decide (nF < 2 * j + 2) := by rw [Bool.eq_iff_iff, decide_eq_true_eq, decide_eq_true_eq]; omega
  refine ⟨ret_bool ?_, ⟨?_, ?_, ?_, ?_⟩, ?_⟩
  · rw [hb, Bool.eq_iff_iff]
    simp
  · rw [Below.heap_setCell _ _ _ _ (by simp only; omega), Below.heap_setCell _ _ _ _ (by simp only; omega)]
    exact setCell_box HH.out.ok
  · rw [hb]
    refine setCell_box (v := .bool false) ?_
    rw [Below.heap_setCell _ _ _ _ (by simp only; omega), Below.heap_setCell _ _ _ _ (by simp only; omega)]
    exact HH.out.no
  · rw [Below.heap_setCell _ _ _ _ (by simp only; omega)]
    rw [show ((2 * (j + 1) : Nat) : Int) = 2 * (j : Int) + 2 by omega]
    refine setCell_box (v := .int .i64 (2 * j : Nat)) ?_
    rw [Below.heap_setCell _ _ _ _ (by simp only; omega)]
    exact HH.out.k
  · rw [Below.heap_setCell _ _ _ _ (by simp only; omega), Below.heap_setCell _ _ _ _ (by simp only; omega), Below.heap_setCell _ _ _ _ (by simp only; omega)]
    exact HH.out.l
  · exact ((Keep.setCell (F := fun b => b = bo ∨ b = bn ∨ b = bk) _ _ _ (.inl rfl)).trans (Keep.setCell _ _ _ (.inr (.inr rfl)))).trans (Keep.setCell _ _ _ (.inr (.inl rfl)))
end Go.Proofs.YtpdbmpbmepkikaaGreatDoor

namespace Go.Proofs.YtpdbmpbmepkikaaGreatDoor
open Go.RowKit

/-- Which of n. -/
def pickZ (c : Int) (n : Nat) : Nat := ((if c < 0 then -(c + 1) else c) % n).toNat
theorem pickZ_lt {c : Int} {n : Nat} (h : 0 < n) : pickZ c n < n := by
  unfold pickZ
  have h1 := Int.emod_lt_of_pos (if c < 0 then -(c + 1) else c) (show (0 : Int) < n by omega)
  have h2 := Int.emod_nonneg (if c < 0 then -(c + 1) else c) (show (n : Int) ≠ 0 by omega)
  omega

theorem pickL_any (c : Int) (n : Nat) (w : World) (hn : 0 < n) (hn2 : n ≤ 1000000) (hc : I64 c) :
    Calls Tryz.prog 72 #[.int .i64 c, .int .i64 n] w fun e w' => e = .returned (.int .i64 (pickZ c n)) ∧ w' = w := by
  have hp : ((pickZ c n : Nat) : Int) = (if c < 0 then -(c + 1) else c) % n := by
    unfold pickZ
    exact Int.toNat_of_nonneg (Int.emod_nonneg _ (by omega))
  have hn0 : ((n : Int) == 0) = false := by simp; omega
  have hn1 : ¬ (n : Int) = 0 := by omega
  have hn3 : ¬ n = 0 := by omega
  obtain ⟨h1, h2⟩ := hc
  by_cases h0 : c < 0
  · have w0 : IntKind.i64.wrap (c + 1) = c + 1 := by rw [IntKind.wrap_i64]; omega
    have w1 : IntKind.i64.wrap (-(c + 1)) = -(c + 1) := by rw [IntKind.wrap_i64]; omega
    have hm : (-(c + 1)).tmod (n : Int) = (-(c + 1)) % n := Int.tmod_eq_emod_of_nonneg (by omega)
    have hr := Int.emod_lt_of_pos (-(c + 1)) (show (0 : Int) < n by omega)
    have hr2 := Int.emod_nonneg (-(c + 1)) (show (n : Int) ≠ 0 by omega)
    have w2 : IntKind.i64.wrap ((-(c + 1)).tmod (n : Int)) = (-(c + 1)) % n := by rw [hm, IntKind.wrap_i64]; omega
    rw [if_pos h0] at hp
    have HP := Lib.hid (And.intro hp (And.intro hr hr2))
    clear hp hr hr2
    go_enter Tryz.func72, Tryz.ntmps72
    go_wp2
    go_ret
    obtain ⟨hp, _, _⟩ := HP.out
    exact ⟨congrArg (fun z => Ending.returned (Value.int .i64 z)) hp.symm, rfl⟩
  · have hm : c.tmod (n : Int) = c % n := Int.tmod_eq_emod_of_nonneg (by omega)
    have hr := Int.emod_lt_of_pos c (show (0 : Int) < n by omega)
    have hr2 := Int.emod_nonneg c (show (n : Int) ≠ 0 by omega)
    have w2 : IntKind.i64.wrap (c.tmod (n : Int)) = c % n := by rw [hm, IntKind.wrap_i64]; omega
    rw [if_neg h0] at hp
    have HP := Lib.hid (And.intro hp (And.intro hr hr2))
    clear hp hr hr2
    go_enter Tryz.func72, Tryz.ntmps72
    go_wp2
    go_ret
    obtain ⟨hp, _, _⟩ := HP.out
    exact ⟨congrArg (fun z => Ending.returned (Value.int .i64 z)) hp.symm, rfl⟩

/-- Two slices that hold the same texts. -/
theorem sameL_any (va vb : Value) (l : List ByteArray) (w : World) (ha : StrAt w va l) (hb : StrAt w vb l) (hl : l.length ≤ 2000000) :
    Calls Tryz.prog 78 #[va, vb] w fun e w' => e = .returned (.bool true) ∧ Below w.heap.size w w' := by
  obtain ⟨ad, ca, hva⟩ := ha.slice
  obtain ⟨bd, cb, hvb⟩ := hb.slice
  subst hva
  subst hvb
  have HA := Lib.hid (And.intro ha hb)
  clear ha hb
  go_enter Tryz.func78, Tryz.ntmps78
  go_wp2
  go_loopg [5] l.length (fun k s wr => ∃ j : Nat, s = .int .i64 j ∧ k + j = l.length ∧ Below w.heap.size w wr)
  case atStart => exact ⟨0, rfl, by omega, Below.refl _ _⟩
  case round =>
    obtain ⟨j, rfl, hk, hB⟩ := hrel
    by_cases hj : j < l.length
    · obtain ⟨g, cap, hv, hg, y0⟩ := HA.out.1.cell hj
      obtain ⟨g', cap', hv', hg', y1⟩ := HA.out.2.cell hj
      simp only [Value.slice.injEq] at hv hv'
      obtain ⟨rfl, -, rfl⟩ := hv
      obtain ⟨rfl, -, rfl⟩ := hv'
      obtain ⟨n, hn⟩ : ∃ n, n = l[j] := ⟨_, rfl⟩
      rw [← hn] at y0 y1
      have z0 : wr.cell? ⟨g, j, none⟩ = some (.string n) := (hB.cell (p := ⟨_, _, none⟩) hg).trans y0
      have z1 : wr.cell? ⟨g', j, none⟩ = some (.string n) := (hB.cell (p := ⟨_, _, none⟩) hg').trans y1
      have hjj : (j : Int) < (l.length : Int) := by omega
      have HBl := Lib.hid (show Below w.heap.size w wr.drew from hB.drew)
      clear y0 y1 hn hB
      go_wp2
      go_region_held3 (fun W => W.cell? ⟨g, j, none⟩ = some (.string n) ∧ W.cell? ⟨g', j, none⟩ = some (.string n)) (go_keep) (fail)
      go_wp2
      go_roundg (gk - 1)
      case rel => exact ⟨j + 1, by go_simp, by omega, HBl.out⟩
      case measure => omega
    · have hje : j = l.length := by omega
      subst hje
      have HBl := Lib.hid hB
      clear hB
      go_wp2
      go_ret
      exact ⟨rfl, HBl.out⟩
end Go.Proofs.YtpdbmpbmepkikaaGreatDoor

namespace Go.Proofs.YtpdbmpbmepkikaaGreatDoor
open Go.RowKit

/-- A step of a script. -/
structure OpR where
  kind : Int
  a : Int
  b : Int
  c : Int
  s : ByteArray
  t : ByteArray
  u : ByteArray
def OpR.cells (x : OpR) : List Value := [.int .i64 x.kind, .int .i64 x.a, .int .i64 x.b, .int .i64 x.c, .string x.s, .string x.t, .string x.u]
def oprows (l : List OpR) : List Value := l.flatMap OpR.cells
theorem oprows_at {l : List OpR} {j : Nat} (hj : j < l.length) (i : Nat) (hi : i < 7) : (oprows l)[j * 7 + i]? = l[j].cells[i]? := by
  induction l generalizing j with
  | nil => simp at hj
  | cons x l ih =>
    show (x.cells ++ oprows l)[j * 7 + i]? = _
    have hc : x.cells.length = 7 := rfl
    cases j with
    | zero => rw [List.getElem?_append_left (by omega)]; simp
    | succ j =>
      rw [List.getElem?_append_right (by omega), hc, show (j + 1) * 7 + i - 7 = j * 7 + i by omega, ih (by simpa using hj)]
      simp
/-- A script, as it lies. -/
def ScriptAt (w : World) (v : Value) (l : List OpR) : Prop := ((∃ ad cap, v = .slice ad 0 cap) ∧ l = []) ∨ ∃ g off cap, v = .slice (some ⟨g, off, none⟩) l.length cap ∧ g < w.heap.size ∧ ∀ i u, (oprows l)[i]? = some u → w.cell? ⟨g, off + i, none⟩ = some u
theorem ScriptAt.below {w w' : World} {v : Value} {l : List OpR} (h : ScriptAt w v l) (hb : Below w.heap.size w w') : ScriptAt w' v l := by
  rcases h with h | ⟨g, off, cap, hv, hg, hc⟩
  · exact .inl h
  · exact .inr ⟨g, off, cap, hv, Nat.lt_of_lt_of_le hg hb.size, fun i u hu => (hb.cell (p := ⟨g, off + i, none⟩) hg).trans (hc i u hu)⟩

def opSize (x : OpR) : Nat := x.s.size + x.t.size + x.u.size
def sumS (l : List OpR) : Nat := l.foldl (fun n x => n + opSize x) 0
theorem sumS_snoc (l : List OpR) (x : OpR) : sumS (l ++ [x]) = sumS l + opSize x := by simp [sumS]
theorem sumS_take {l : List OpR} {j : Nat} (hj : j < l.length) : sumS (l.take (j + 1)) = sumS (l.take j) + opSize l[j] := by
  rw [List.take_add_one, List.getElem?_eq_getElem hj, Option.toList_some, sumS_snoc]
theorem sumS_append (l l' : List OpR) : sumS l ≤ sumS (l ++ l') := by
  unfold sumS
  rw [List.foldl_append]
  generalize List.foldl (fun n x => n + opSize x) 0 l = k
  induction l' generalizing k with
  | nil => exact Nat.le_refl _
  | cons x l' ih => exact Nat.le_trans (Nat.le_add_right _ _) (ih _)
theorem sumS_le (l : List OpR) (j : Nat) : sumS (l.take j) ≤ sumS l := by
  have := sumS_append (l.take j) (l.drop j)
  rwa [List.take_append_drop] at this
def smallS (l : List OpR) : Bool := decide (l.length + sumS l ≤ 4096)

set_option maxHeartbeats 1000000 in
theorem smallL_any (v : Value) (l : List OpR) (w : World) (h : ScriptAt w v l) (hl : l.length ≤ 140737488355328) (hz : ∀ x ∈ l, x.s.size ≤ 140737488355328 ∧ x.t.size ≤ 140737488355328 ∧ x.u.size ≤ 140737488355328) :
    Calls Tryz.prog 35 #[v] w fun e w' => e = .returned (.bool (smallS l)) ∧ Below w.heap.size w w' := by
  rcases h with ⟨⟨ad, cap, rfl⟩, rfl⟩ | ⟨g, off, cap, rfl, hg, hc⟩
  · go_enter Tryz.func35, Tryz.ntmps35
    go_wp2
    go_loopg [3, 4] 0 (fun k m i wr => m = .int .i64 0 ∧ i = .int .i64 0 ∧ wr = w)
    case atStart => exact ⟨rfl, rfl, rfl⟩
    case round =>
      obtain ⟨rfl, rfl, rfl⟩ := hrel
      go_wp2
      go_ret
      exact ⟨ret_bool (by simp [smallS, sumS]), Below.refl _ _⟩
  · have HC := Lib.hid hc
    have HZ := Lib.hid hz
    clear hc hz
    by_cases hb : 4096 < l.length
    · go_enter Tryz.func35, Tryz.ntmps35
      go_wp2
      go_ret
      exact ⟨ret_bool (by simp [smallS]; omega), Below.refl _ _⟩
    · go_enter Tryz.func35, Tryz.ntmps35
      go_wp2
      go_loopg [3, 4] l.length (fun k m i wr => ∃ (j z : Nat), m = .int .i64 z ∧ i = .int .i64 j ∧ k + j = l.length ∧ z = l.length + sumS (l.take j) ∧ z ≤ 4096 ∧ Below w.heap.size w wr)
      case atStart => exact ⟨0, l.length, rfl, rfl, by omega, by simp [sumS], by omega, Below.refl _ _⟩
      case round =>
        obtain ⟨j, z, rfl, rfl, hk, hzz, hz4, hB⟩ := hrel
        by_cases hj : j < l.length
        · obtain ⟨x, hx⟩ : ∃ x, x = l[j] := ⟨_, rfl⟩
          have hxz := HZ.out l[j] (List.getElem_mem hj)
          have hst := sumS_take hj
          have hle := sumS_le l (j + 1)
          rw [← hx] at hxz hst
          have kc : ∀ i, i < 7 → ∀ u, x.cells[i]? = some u → wr.cell? ⟨g, off + j * 7 + i, none⟩ = some u := fun i hi u hu => (hB.cell (p := ⟨g, off + j * 7 + i, none⟩) hg).trans (by rw [Nat.add_assoc]; exact HC.out _ _ (by rw [oprows_at hj i hi, ← hx]; exact hu))
          have y4 := kc 4 (by omega) _ rfl
          have y5 := kc 5 (by omega) _ rfl
          have y6 := kc 6 (by omega) _ rfl
          have hsz : x.s.size + x.t.size + x.u.size = opSize x := rfl
          obtain ⟨hx1, hx2, hx3⟩ := hxz
          have hjj : (j : Int) < (l.length : Int) := by omega
          have w1 : IntKind.i64.wrap ((z : Int) + x.s.size) = z + x.s.size := by rw [IntKind.wrap_i64]; omega
          have w2 : IntKind.i64.wrap ((z : Int) + x.s.size + x.t.size) = z + x.s.size + x.t.size := by rw [IntKind.wrap_i64]; omega
          have w3 : IntKind.i64.wrap ((z : Int) + x.s.size + x.t.size + x.u.size) = z + x.s.size + x.t.size + x.u.size := by rw [IntKind.wrap_i64]; omega
          have HS := Lib.hid (And.intro hst (And.intro hle (And.intro hzz (And.intro hx (show Below w.heap.size w wr.drew from hB.drew)))))
          clear hst hle hzz hx kc hB
          by_cases hbig : 4096 < z + x.s.size + x.t.size + x.u.size
          · have hbi : (4096 : Int) < (z : Int) + x.s.size + x.t.size + x.u.size := by omega
            go_wp2
            go_region_held3 (fun W => W.cell? ⟨g, off + j * 7 + 4, none⟩ = some (.string x.s) ∧ W.cell? ⟨g, off + j * 7 + 5, none⟩ = some (.string x.t) ∧ W.cell? ⟨g, off + j * 7 + 6, none⟩ = some (.string x.u)) (go_keep) (fail)
            go_wp2
            go_ret
            obtain ⟨hst, hle, hzz, hx, hB⟩ := HS.out
            exact ⟨ret_bool (by simp [smallS]; omega), hB⟩
          · have hbi : ¬ (4096 : Int) < (z : Int) + x.s.size + x.t.size + x.u.size := by omega
            go_wp2
            go_region_held3 (fun W => W.cell? ⟨g, off + j * 7 + 4, none⟩ = some (.string x.s) ∧ W.cell? ⟨g, off + j * 7 + 5, none⟩ = some (.string x.t) ∧ W.cell? ⟨g, off + j * 7 + 6, none⟩ = some (.string x.u)) (go_keep) (fail)
            go_wp2
            go_roundg (gk - 1)
            case rel =>
              obtain ⟨hst, hle, hzz, hx, hB⟩ := HS.out
              exact ⟨j + 1, z + x.s.size + x.t.size + x.u.size, by simp, by go_simp, by omega, by omega, by omega, hB⟩
            case measure => omega
        · have hje : j = l.length := by omega
          subst hje
          rw [List.take_length] at hzz
          have HS := Lib.hid (And.intro hzz hB)
          clear hzz hB
          go_wp2
          go_ret
          obtain ⟨hzz, hB⟩ := HS.out
          exact ⟨ret_bool (by simp [smallS]; omega), hB⟩
end Go.Proofs.YtpdbmpbmepkikaaGreatDoor

namespace Go.Proofs.YtpdbmpbmepkikaaGreatDoor
open Go.ChangeShapes Go.WideShapes Go.RowKit Go.Conc

theorem returnsInLeavingWide_of_calls {a : Assume} {C : Checked} {os : Os} {f : FuncId} {r : Reach} {Pre : World → Array Value → Prop} {Post : World → Array Value → Value → World → Prop}
    (own : ownKnob C.prog.godebug = none) (started : os.Started) (noInit : C.prog.inits.idxOf? f = none)
    (witness : ∃ (w : World) (tape : Tape) (i : Input), w.os = os ∧ (w.forCall tape i).Shaped C.prog ∧ i.vars = [] ∧ Input.okWide C.prog (w.forCall tape i) r w.heap.size f i ∧ Pre (w.forCall tape i).memory i.args ∧
      a.holds C.prog (lone (Frame.enter C.prog f i.args .normal) [] (w.forCall tape i)))
    (contract : ∀ (w : World) (tape : Tape) (i : Input), w.os = os → (w.forCall tape i).ShapedOpen C.prog → i.vars = [] → Input.okWide C.prog (w.forCall tape i) r w.heap.size f i → Pre (w.forCall tape i).memory i.args →
      a.holds C.prog (lone (Frame.enter C.prog f i.args .normal) [] (w.forCall tape i)) →
      Calls C.prog f i.args (w.forCall tape i) fun
        | .returned v, w' => Post (w.forCall tape i).blind i.args v w'.blind
        | _, _ => False) :
    ReturnsInLeavingWide a C os f r Pre Post := fun enter => by
  obtain ⟨w0, t0, i0, a1, a2, a3, a4, a5, a6⟩ := witness
  refine ⟨enter, own, started, ⟨w0, t0, i0, a1, a2, a3, a4, a5, a6, trivial⟩, fun w tape i h => ?_⟩
  obtain ⟨n, v, w', fr, hn, hend, hp⟩ := (contract w tape i h.1 h.2.1 h.2.2.1 h.2.2.2.1 h.2.2.2.2.1 h.2.2.2.2.2.1).done_lone noInit
  refine ⟨n + 1, v, w', hend, (clean_of_lone hn).2, roomy_placeholder .., hp, ⟨n, _, hn, step_of_runs hn hend, handedOver_of_lone hn, ⟨fun g hg => ?_, rfl⟩, fun i g hg hi => ?_⟩, fun _ _ _ => trivial⟩
  · simp [lone] at hg
  · cases i with
    | zero => exact absurd rfl hi
    | succ k => simp [lone] at hg

section
variable {H : Type} {enc : TypeId × Value → H}
theorem returnsInLeavingWide_of_row {a : Assume} {C : Checked} {os : Os} {f : FuncId} {fn : Func} {s : OpenSpec} {F : Stop.Interp} {conds : List PathCond} {apart fresh handsOn again : Bool} {laid : List (String × DataW Unit)}
    (own : ownKnob C.prog.godebug = none) (started : os.Started) (noInit : C.prog.inits.idxOf? f = none) (hfn : C.prog.funcs[f]? = some fn)
    (witness : ∃ (w : World) (tape : Tape) (i : Input), w.os = os ∧ (w.forCall tape i).Shaped C.prog ∧ i.vars = [] ∧ Input.okWide C.prog (w.forCall tape i) .any w.heap.size f i ∧
      s.preRow enc C.prog fn conds apart laid (w.forCall tape i).memory i.args ∧ a.holds C.prog (lone (Frame.enter C.prog f i.args .normal) [] (w.forCall tape i)))
    (contract : ∀ (W : World) (base : Nat) (args : Array Value) (ds gs : List (DataW H)) (before : List MemPlace),
      (∀ (j : Nat) t v, fn.params[j]? = some t → args[j]? = some v → Value.okWide C.prog W .any base t v) →
      DataW.Whole enc C.prog fn.params.toList s.vars apart W args.toList ds gs before →
      conds.all (PathCond.test C.prog ⟨fn.params.toList, ds, s.bare.plain.varTypes C.prog, gs⟩) = true →
      (DataW.weightsEach C.prog (fn.params.toList ++ s.bare.plain.varTypes C.prog) (ds ++ gs)).all (· ≤ reachBytes) = true →
      laidMetH C.prog laid W → W.ShapedOpen C.prog →
      Calls C.prog f args W fun e W' => ∃ v, e = .returned v ∧ (s.at F).post enc C.prog fn apart fresh handsOn again W args v W') :
    ReturnsInLeavingWide a C os f .any (s.preRow enc C.prog fn conds apart laid) ((s.at F).post enc C.prog fn apart fresh handsOn again) := by
  refine returnsInLeavingWide_of_calls own started noInit witness ?_
  intro w tape i _ hsh _ hok hpre _
  obtain ⟨_, _, _, fn', hfn', _, _, _, _, hval⟩ := hok
  have e : fn' = fn := Option.some.inj (hfn'.symm.trans hfn)
  subst e
  obtain ⟨⟨hp, hl⟩, hz⟩ := hpre
  obtain ⟨ds, gs, before, hw, hc, hk⟩ := OpenSpec.pre_parts hp
  have hw' := DataW.Whole.of_heap (w' := w.forCall tape i) (by rfl) hw
  refine (contract (w.forCall tape i) w.heap.size i.args ds gs before hval hw' hc (hz.weights hw) (hl.of_heap (by rfl)) hsh).mono fun e W' ⟨v, he, hp⟩ => ?_
  subst he
  exact ChangeSpec.post_blind hp
end

/-- The tied card of a function that may start goroutines. -/
theorem card_goes {Lk : Looks} {p : Pinned} {s : OpenSpec} {c : OpenClaim} {kinds : List LaidKind} {tests : Bool} {har : Bool × String} {lk : Bool}
    (hc : c.holds p s) (hw : c.wfByText s = true) (htie : c.laidByTextAt Lk p kinds tests)
    (hst : c.start = .entering) (hnb : c.noBlocks = false ∧ c.again = false) (hm : p.checked.prog.mainIs = some (har.1, har.2.toList)) (hn : (!har.1 && har.2.isEmpty && !lk) = false)
    (hl : ∀ f fn, p.checked.prog.funcNamed c.func = some f → p.checked.prog.funcs[f]? = some fn → lk = p.checked.prog.looks [] ∧ ∀ (j : Nat) t, fn.params[j]? = some t → p.checked.prog.wantsStandIn t = false)
    (hg : true = c.goesBy p.checked.prog) :
    Claim7.holds p (.plain s) { stood := { row := c, standIns := [], harness := har, looks := lk }, kinds := [], alts := [], goes := true, laidByText := true, laidKinds := kinds, laidTests := tests, laidLooks := Lk } := by
  have h6 : ∀ r : OpenClaim, Claim7.isSixth { stood := { row := r, standIns := [], harness := har, looks := lk }, kinds := [] } = false := fun r => by simpa [Claim7.isSixth] using hn
  exact ⟨Claim7.tied_new_at Lk kinds tests (Claim7.new_of_sixth hc har lk hst hnb hm (h6 c) hl) hw, fun D hD => (by cases hD), htie, (fun h => by cases h), hg⟩

/-! ### a script -/
section
variable {H : Type} {enc : TypeId × Value → H} {w : World} {base : Nat} {spare : Nat → Bool} {held : Bool}
open Go.Deep
def opD {H : Type} (x : OpR) : DataW H := .agg [.lit (.int .i64 x.kind), .lit (.int .i64 x.a), .lit (.int .i64 x.b), .lit (.int .i64 x.c), .lit (.string x.s.data.toList), .lit (.string x.t.data.toList), .lit (.string x.u.data.toList)]
theorem fs102 {fs : Array Field} (h : Tryz.prog.underlying 102 = some (.struct fs)) : oneCellFields Tryz.prog fs = true ∧ fs.toList.map (·.type) = [3, 3, 3, 3, 9, 9, 9] := by
  have e := (Tryz.underlying102).symm.trans h
  simp only [Option.some.injEq, TypeDesc.struct.injEq] at e
  subst e
  exact ⟨by kernel_rfl, rfl⟩
theorem un102 : ∃ fs, Tryz.prog.underlying 102 = some (.struct fs) := ⟨_, Tryz.underlying102⟩
theorem c102 : Tryz.prog.cellsOf 102 = 7 := by kernel_rfl

theorem list7 {α : Type} {l : List α} (h : l.length = 7) : ∃ a b c d e f g, l = [a, b, c, d, e, f, g] := by
  rcases l with _ | ⟨a, l⟩
  · simp at h
  rcases l with _ | ⟨b, l⟩
  · simp at h
  rcases l with _ | ⟨c, l⟩
  · simp at h
  rcases l with _ | ⟨d, l⟩
  · simp at h
  rcases l with _ | ⟨e, l⟩
  · simp at h
  rcases l with _ | ⟨f, l⟩
  · simp at h
  rcases l with _ | ⟨g, l⟩
  · simp at h
  rcases l with _ | ⟨i, l⟩
  · exact ⟨a, b, c, d, e, f, g, rfl⟩
  · simp at h
/-- The numbers of a step fit. -/
def OpI (o : OpR) : Prop := I64 o.a ∧ I64 o.b ∧ I64 o.c
/-- One step, as seven cells. -/
theorem open_op {fuel : Nat} {cs : List Value} {x : DataW H × List MemPlace} (h : DataW.trod enc Tryz.prog w base spare held fuel 102 cs = some x) :
    ∃ o : OpR, cs = o.cells ∧ x = (opD o, []) ∧ OpI o := by
  obtain ⟨fs, hu⟩ := un102
  obtain ⟨hone, hty⟩ := fs102 hu
  obtain ⟨xs, n, _, hx, hc, hl, hf⟩ := DataW.trod_struct hu h
  rw [c102] at hc
  obtain ⟨fl⟩ := fs
  obtain ⟨f0, f1, f2, f3, f4, f5, f6, rfl⟩ := list7 (l := fl) (by have := congrArg List.length hty; simpa using this)
  simp only [List.map_cons, List.map_nil, List.cons.injEq, and_true] at hty
  obtain ⟨t0, t1, t2, t3, t4, t5, t6⟩ := hty
  obtain ⟨c0, c1, c2, c3, c4, c5, c6, rfl⟩ := list7 hc
  have key : ∀ (j : Nat) (f : Field), (#[f0, f1, f2, f3, f4, f5, f6] : Array Field)[j]? = some f → DataW.trod enc Tryz.prog w base spare held n f.type ((([c0, c1, c2, c3, c4, c5, c6] : List Value).drop j).take 1) = xs[j]? := fun j f hj => by
    obtain ⟨o1, o2⟩ := hone_of hone j f hj
    have := hf j f hj
    rwa [o1, o2] at this
  obtain ⟨x0, x1, x2, x3, x4, x5, x6, rfl⟩ := list7 (l := xs) (by simpa using hl)
  have g0 := key 0 f0 rfl
  have g1 := key 1 f1 rfl
  have g2 := key 2 f2 rfl
  have g3 := key 3 f3 rfl
  have g4 := key 4 f4 rfl
  have g5 := key 5 f5 rfl
  have g6 := key 6 f6 rfl
  rw [t0] at g0
  rw [t1] at g1
  rw [t2] at g2
  rw [t3] at g3
  rw [t4] at g4
  rw [t5] at g5
  rw [t6] at g6
  obtain ⟨n0, e0, y0, _⟩ := DataW.trod_int Tryz.underlying3 g0
  obtain ⟨n1, e1, y1, wf1⟩ := DataW.trod_int Tryz.underlying3 g1
  obtain ⟨n2, e2, y2, wf2⟩ := DataW.trod_int Tryz.underlying3 g2
  obtain ⟨n3, e3, y3, wf3⟩ := DataW.trod_int Tryz.underlying3 g3
  obtain ⟨s4, e4, y4, _⟩ := DataW.trod_string Tryz.underlying9 g4
  obtain ⟨s5, e5, y5, _⟩ := DataW.trod_string Tryz.underlying9 g5
  obtain ⟨s6, e6, y6, _⟩ := DataW.trod_string Tryz.underlying9 g6
  simp only [List.drop_zero, List.drop_succ_cons, List.take_succ_cons, List.take_zero, List.cons.injEq, and_true] at e0 e1 e2 e3 e4 e5 e6
  subst e0 e1 e2 e3 e4 e5 e6 y0 y1 y2 y3 y4 y5 y6
  refine ⟨⟨n0, n1, n2, n3, s4, s5, s6⟩, rfl, by rw [hx]; rfl, ?_, ?_, ?_⟩
  · simpa [Lit.wf, IntKind.min, IntKind.max, IntKind.signed, IntKind.bits, I64] using wf1
  · simpa [Lit.wf, IntKind.min, IntKind.max, IntKind.signed, IntKind.bits, I64] using wf2
  · simpa [Lit.wf, IntKind.min, IntKind.max, IntKind.signed, IntKind.bits, I64] using wf3
theorem bytes102 : Tryz.prog.bytesOf 102 = 80 := by kernel_rfl
theorem weights_op (x : OpR) : (opD (H := H) x).weights Tryz.prog 102 = [x.s.size, x.t.size, x.u.size] := by
  obtain ⟨fs, hu⟩ := un102
  obtain ⟨_, hty⟩ := fs102 hu
  unfold opD DataW.weights
  rw [hu]
  simp only
  rw [hty]
  simp [DataW.weightsEach, DataW.weights]
theorem weightsAll_mem {P : Program} {e : TypeId} {ds : List (DataW H)} {d : DataW H} (h : d ∈ ds) {n : Nat} (hn : n ∈ d.weights P e) : n ∈ DataW.weightsAll P e ds := by
  induction ds with
  | nil => cases h
  | cons y ds ih =>
    rw [DataW.weightsAll, List.mem_append]
    rcases List.mem_cons.1 h with rfl | h
    · exact .inl hn
    · exact .inr (ih h)

set_option maxRecDepth 100000 in
/-- A script that came in. -/
theorem open_script {r : Reach} {b0 : Nat} {v : Value} {d : DataW H} {p : List MemPlace} (hv : Value.okWide Tryz.prog w r b0 69 v) (h : DataW.Trod enc Tryz.prog w base spare held 69 v d p)
    (hz : ∀ n ∈ d.weights Tryz.prog 69, n ≤ reachBytes) :
    ∃ l : List OpR, ScriptAt w v l ∧ l.length ≤ 140737488355328 ∧ (∀ x ∈ l, x.s.size ≤ 140737488355328 ∧ x.t.size ≤ 140737488355328 ∧ x.u.size ≤ 140737488355328) ∧ ∀ x ∈ l, OpI x := by
  obtain ⟨a0, n0, c0, rfl⟩ := okWide_slice Tryz.underlying69 hv
  obtain ⟨fuel, hf⟩ := h
  rcases open_slice Tryz.underlying69 hf with ⟨hcs, hx⟩ | ⟨a, len, cap, m, n, D, Pl, hcs, hb, hl, hm, hmm, hx, hi⟩
  · have e : (.slice a0 n0 c0 : Value) = .slice none 0 0 := by simpa [Value.cells] using hcs
    rw [e]
    exact ⟨[], .inl ⟨⟨_, _, rfl⟩, rfl⟩, Nat.zero_le _, fun x hx => (by cases hx), fun x hx => (by cases hx)⟩
  · have e : (.slice a0 n0 c0 : Value) = .slice (some a) len cap := by simpa [Value.cells] using hcs
    rw [e]
    have hlm : len ≤ m := by rw [hmm]; split <;> omega
    have step : ∀ i, i < len → ∃ o : OpR, D i = opD o ∧ OpI o ∧ ∀ j u, o.cells[j]? = some u → w.cell? ((a.add (i * 7)).add j) = some u := fun i hil => by
      obtain ⟨cs', hc, ht⟩ := hi i (by omega)
      rw [c102] at hc
      obtain ⟨o, ho, hxo, hI⟩ := open_op ht
      simp only [Prod.mk.injEq] at hxo
      obtain ⟨_, hcl, hat⟩ := World.cells?_some hc
      refine ⟨o, hxo.1, hI, fun j u hu => ?_⟩
      have hj : j < 7 := (List.getElem?_eq_some_iff.1 hu).1
      rw [hat j hj, ho]; exact hu
    let f : Nat → OpR := fun i => if h : i < len then Classical.choose (step i h) else ⟨0, 0, 0, 0, ⟨#[]⟩, ⟨#[]⟩, ⟨#[]⟩⟩
    have hfs : ∀ i, i < len → D i = opD (f i) ∧ OpI (f i) ∧ ∀ j u, (f i).cells[j]? = some u → w.cell? ((a.add (i * 7)).add j) = some u := fun i hil => by
      have := Classical.choose_spec (step i hil)
      have e : f i = Classical.choose (step i hil) := dif_pos hil
      rw [e]; exact this
    obtain ⟨l, hl⟩ : ∃ l, l = (List.range len).map f := ⟨_, rfl⟩
    have hll : l.length = len := by rw [hl]; simp
    have hget : ∀ i (h : i < l.length), l[i] = f i := fun i h => by subst hl; simp
    simp only [Prod.mk.injEq] at hx
    have hw : ∀ k ∈ (len * 80 :: ((List.range len).map fun i => (opD (H := H) (f i)).weights Tryz.prog 102).flatten), k ≤ reachBytes := fun k hk => by
      have hd : d = .slice ((List.range len).map D) ((List.range (m - len)).map fun j => D (len + j)) := hx.1
      have hdw : d.weights Tryz.prog 69 = (len + (m - len)) * 80 :: (DataW.weightsAll Tryz.prog 102 ((List.range len).map D) ++ DataW.weightsAll Tryz.prog 102 ((List.range (m - len)).map fun j => D (len + j))) := by
        rw [hd, DataW.weights, Tryz.underlying69]
        simp [bytes102]
      rcases List.mem_cons.1 hk with rfl | hk
      · have := hz ((len + (m - len)) * 80) (by rw [hdw]; simp)
        exact Nat.le_trans (Nat.mul_le_mul_right _ (by omega)) this
      · obtain ⟨ws, hws, hkw⟩ := List.mem_flatten.1 hk
        obtain ⟨i, hil, rfl⟩ := List.mem_map.1 hws
        have hil' := List.mem_range.1 hil
        refine hz k ?_
        rw [hdw]
        refine List.mem_cons_of_mem _ (List.mem_append_left _ (weightsAll_mem (d := D i) (List.mem_map_of_mem hil) ?_))
        rw [(hfs i hil').1]; exact hkw
    refine ⟨l, ?_, ?_, fun x hx => ?_, fun x hx => ?_⟩
    · by_cases h0 : len = 0
      · subst h0
        exact .inl ⟨⟨_, _, rfl⟩, List.eq_nil_of_length_eq_zero hll⟩
      · have h00 := (hfs 0 (by omega)).2.2 0 _ rfl
        have ea : (a.add (0 * 7)).add 0 = a := by simp [Addr.add]
        rw [ea] at h00
        have hsp : a.spot = none := by
          unfold World.cell? at h00
          split at h00
          · split at h00
            · cases h00
            · rename_i h; simpa using h
          · cases h00
        obtain ⟨g, off, sp⟩ := a
        simp only at hsp
        subst hsp
        have hadd : ∀ i j, ((⟨g, off, none⟩ : Addr).add (i * 7)).add j = ⟨g, off + (i * 7 + j), none⟩ := fun i j => by
          unfold Addr.add
          split <;> split <;> simp_all <;> omega
        refine .inr ⟨g, off, cap, by rw [hll], World.block_lt_of_cell? w _ h00, fun k u hu => ?_⟩
        have hk : k < 7 * len := by
          have := (List.getElem?_eq_some_iff.1 hu).1
          have e : (oprows l).length = 7 * l.length := by
            clear hu this hget hll hl
            induction l with
            | nil => rfl
            | cons x l ih => show (x.cells ++ oprows l).length = _; rw [List.length_append, ih]; simp [OpR.cells]; omega
          rw [e, hll] at this; exact this
        have hi7 : k / 7 < len := by omega
        have e1 : k = k / 7 * 7 + k % 7 := by omega
        have hi8 : k / 7 < l.length := by rw [hll]; exact hi7
        have hcell := oprows_at hi8 (k % 7) (by omega)
        rw [← e1] at hcell
        rw [hcell, hget] at hu
        have := (hfs _ hi7).2.2 _ _ hu
        rw [hadd, ← e1] at this
        exact this
    · rw [hll]
      have := hw (len * 80) (by simp)
      unfold reachBytes at this; omega
    · obtain ⟨i, hi2, rfl⟩ := List.getElem_of_mem hx
      rw [hget]
      have hil : i < len := by rw [← hll]; exact hi2
      have hmem : ∀ k ∈ (opD (H := H) (f i)).weights Tryz.prog 102, k ≤ reachBytes := fun k hk => hw k (List.mem_cons_of_mem _ (List.mem_flatten.2 ⟨_, List.mem_map_of_mem (List.mem_range.2 hil), hk⟩))
      rw [weights_op] at hmem
      have k1 := hmem _ (List.mem_cons_self ..)
      have k2 := hmem (f i).t.size (by simp)
      have k3 := hmem (f i).u.size (by simp)
      unfold reachBytes at k1 k2 k3
      omega
    · obtain ⟨i, hi2, rfl⟩ := List.getElem_of_mem hx
      rw [hget]
      exact (hfs i (by rw [← hll]; exact hi2)).2.1
end
end Go.Proofs.YtpdbmpbmepkikaaGreatDoor

namespace Go.Proofs.YtpdbmpbmepkikaaGreatDoor
open Go.RowKit Go.Extern.Stop Go.Stop Go.Extern

/-- errors.As(nil, target). -/
theorem as_nil (t : Value) (w : World) :
    Calls Tryz.prog 62 #[.nilIface, t] w fun e w' => e = .returned (.bool false) ∧ w' = w := by
  go_enter Tryz.func62, Tryz.ntmps62
  go_wp2
  go_ret
  exact ⟨rfl, rfl⟩

/-! ### CLOSED FACTS ON THE MODEL's ENTRIES FOR internal/reflectlite, at this program's types: 25: *p.E · 27: **p.E · 23: error · 45: reflectlite's rtype · 1: how many package-level variables the dump has -/
theorem asValueOf27 (t : Addr) (w : World) : (ReflectliteValue.unpack (.iface 134 (.pointer (some t)))).run Tryz.prog w
    = .ok (.agg #[.pointer (some ⟨7, 134, none⟩), .pointer (some ⟨w.heap.size, 0, none⟩), .int .u64 150]) (w.alloc (.cells #[.pointer (some t)] 134)) := by kernel_rfl
theorem asType27 (a : Addr) (w : World) : (ReflectliteValue.methodAny (ReflectliteValue.valueError "reflectlite.Value.Type" 0) (fun t _ _ _ => ReflectliteType.toType t) #[.agg #[.pointer (some ⟨7, 134, none⟩), .pointer (some a), .int .u64 150]]).run Tryz.prog w
    = .ok (.iface 264 (.agg #[.pointer (some ⟨7, 134, none⟩)])) w := by kernel_rfl
theorem asMethodKind (h : Value) (w : World) : (Go.method 476 264 (.agg #[h]) "Kind").run Tryz.prog w = .ok (278, h) w := by kernel_rfl
theorem asKind27 (w : World) : ((ReflectliteType.abiMethod fun t => Functor.map (fun a : Nat => Value.int IntKind.u8 (a : Int)) (Rtype.kind t)) #[.pointer (some ⟨7, 134, none⟩)]).run Tryz.prog w = .ok (.int .u8 22) w := by kernel_rfl
theorem asKind25 (w : World) : ((ReflectliteType.abiMethod fun t => Functor.map (fun a : Nat => Value.int IntKind.u8 (a : Int)) (Rtype.kind t)) #[.pointer (some ⟨7, 132, none⟩)]).run Tryz.prog w = .ok (.int .u8 22) w := by kernel_rfl

/-! ### THE ENTRIES THAT READ OR WRITE MEMORY: laws with a premise on the cell (after Derived/Lib/ReflectliteSlice.lean's manner: each unfolding a lemma of its own, by rfl) -/
theorem rlm (z : Sem Value) (f : TypeId → Addr → Nat → Nat → Sem Value) (v : Value) :
    ReflectliteValue.method z f #[v] = (do match ← ReflectliteValue.parts v with | none => z | some (t, a, fl) => f t a fl (fl % 32)) := rfl
theorem asParts27 (a : Addr) (w : World) : (ReflectliteValue.parts (.agg #[.pointer (some ⟨7, 134, none⟩), .pointer (some a), .int .u64 150])).run Tryz.prog w = .ok (some (134, a, 150)) w := by kernel_rfl
/-- (Value).IsNil at the Value of a **p.E that is not nil. -/
theorem asIsNil27 (a p : Addr) (W : World) (ha : W.cell? a = some (.pointer (some p))) :
    (ReflectliteValue.method (ReflectliteValue.valueError "reflectlite.Value.IsNil" 0) ReflectliteValue.isNil #[.agg #[.pointer (some ⟨7, 134, none⟩), .pointer (some a), .int .u64 150]]).run Tryz.prog W = .ok (.bool false) W := by
  rw [rlm]
  simp only [Sem.run_bind, asParts27, Result.andThen]
  simp [ReflectliteValue.isNil, loadVar, isAgg, underlying, Tryz.underlying134, ha, Result.andThen]

theorem asMethodElem (h : Value) (w : World) : (Go.method 476 264 (.agg #[h]) "Elem").run Tryz.prog w = .ok (290, .agg #[h]) w := by kernel_rfl
theorem asMethodImplements (h : Value) (w : World) : (Go.method 476 264 (.agg #[h]) "Implements").run Tryz.prog w = .ok (291, .agg #[h]) w := by kernel_rfl
theorem asMethodAssignableTo (h : Value) (w : World) : (Go.method 476 264 (.agg #[h]) "AssignableTo").run Tryz.prog w = .ok (288, .agg #[h]) w := by kernel_rfl
theorem asElem27 (w : World) : (ReflectliteType.method ReflectliteType.elem #[.agg #[.pointer (some ⟨7, 134, none⟩)]]).run Tryz.prog w = .ok (.iface 264 (.agg #[.pointer (some ⟨7, 132, none⟩)])) w := by kernel_rfl
theorem asImplements25 (w : World) : (ReflectliteType.relation "Implements" ReflectliteType.implements_ #[.agg #[.pointer (some ⟨7, 132, none⟩)], .iface 264 (.agg #[.pointer (some ⟨7, 87, none⟩)])]).run Tryz.prog w = .ok (.bool true) w := by kernel_rfl
theorem asTypeOf25 (v : Value) (w : World) : (ReflectliteType.typeOf #[.iface 132 v]).run Tryz.prog w = .ok (.iface 264 (.agg #[.pointer (some ⟨7, 132, none⟩)])) w := by kernel_rfl
theorem asAssignable25 (w : World) : (ReflectliteType.relation "AssignableTo" ReflectliteType.assignableTo #[.agg #[.pointer (some ⟨7, 132, none⟩)], .iface 264 (.agg #[.pointer (some ⟨7, 132, none⟩)])]).run Tryz.prog w = .ok (.bool true) w := by kernel_rfl
theorem asValueOf25 (e : Addr) (w : World) : (ReflectliteValue.unpack (.iface 132 (.pointer (some e)))).run Tryz.prog w
    = .ok (.agg #[.pointer (some ⟨7, 132, none⟩), .pointer (some ⟨w.heap.size, 0, none⟩), .int .u64 150]) (w.alloc (.cells #[.pointer (some e)] 132)) := by kernel_rfl

theorem asElemOf27 (w : World) : (Rtype.elem? 134).run Tryz.prog w = .ok (some 132) w := by kernel_rfl
theorem asMk25 (p : Addr) (w : World) : (ReflectliteValue.mk 132 p ReflectliteValue.flagAddr).run Tryz.prog w = .ok (.agg #[.pointer (some ⟨7, 132, none⟩), .pointer (some p), .int .u64 406]) w := by kernel_rfl
/-- (Value).Elem at the Value of a **p.E that is not nil: the Value of the *p.E variable that it points to, addressable. -/
theorem asElemV27 (a p : Addr) (W : World) (ha : W.cell? a = some (.pointer (some p))) :
    (ReflectliteValue.method (ReflectliteValue.valueError "reflectlite.Value.Elem" 0) ReflectliteValue.elem #[.agg #[.pointer (some ⟨7, 134, none⟩), .pointer (some a), .int .u64 150]]).run Tryz.prog W
      = .ok (.agg #[.pointer (some ⟨7, 132, none⟩), .pointer (some p), .int .u64 406]) W := by
  rw [rlm]
  simp only [Sem.run_bind, asParts27, Result.andThen]
  simp [ReflectliteValue.elem, loadVar, isAgg, underlying, Tryz.underlying134, ha, Result.andThen, asElemOf27, asMk25]
theorem rls (v x : Value) : ReflectliteValue.set #[v, x] = (do
    let (some (dst, a, fl), some (src, b, _)) := (← ReflectliteValue.parts v, ← ReflectliteValue.parts x)
      | unsupported (.noEntry "extern/(internal/reflectlite.Value).Set.zeroValue")
    if fl / ReflectliteValue.flagAddr % 2 == 0 then unsupported (.noEntry "extern/(internal/reflectlite.Value).Set.unaddressable")
    let val ← loadVar src b
    if ← Rtype.directlyAssignable dst src then storeVar dst a val
    else if ← Rtype.implements dst src then
      if (← Rtype.kind src) == 20 then
        match val with
        | .nilIface => unsupported (.noEntry "extern/reflectlite: a nil value of one interface type handed on as a value of another")
        | _ => storeVar dst a val
      else storeVar dst a (.iface src val)
    else panicString ("reflectlite.Set: value of type " ++ (← Rtype.spelt src) ++ " is not assignable to type " ++ (← Rtype.spelt dst))
    pure (.tuple #[])) := rfl
theorem asParts25a (a : Addr) (w : World) : (ReflectliteValue.parts (.agg #[.pointer (some ⟨7, 132, none⟩), .pointer (some a), .int .u64 406])).run Tryz.prog w = .ok (some (132, a, 406)) w := by kernel_rfl
theorem asParts25 (a : Addr) (w : World) : (ReflectliteValue.parts (.agg #[.pointer (some ⟨7, 132, none⟩), .pointer (some a), .int .u64 150])).run Tryz.prog w = .ok (some (132, a, 150)) w := by kernel_rfl
theorem asDirect25 (w : World) : (Rtype.directlyAssignable 132 132).run Tryz.prog w = .ok true w := by kernel_rfl
theorem asSize25 (w : World) : (sizeOf 132).run Tryz.prog w = .ok 1 w := by kernel_rfl
/-- (Value).Set: the *p.E variable at 'ta' gets what the Value's own variable 'b' holds. -/
theorem asSet25 (ta b e : Addr) (old : Value) (W : World) (hb : W.cell? b = some (.pointer (some e))) (ht : W.cell? ta = some old) (hf : W.frozen? ta = false) :
    (ReflectliteValue.set #[.agg #[.pointer (some ⟨7, 132, none⟩), .pointer (some ta), .int .u64 406], .agg #[.pointer (some ⟨7, 132, none⟩), .pointer (some b), .int .u64 150]]).run Tryz.prog W
      = .ok (.tuple #[]) (W.setCell ta (.pointer (some e))) := by
  rw [rls]
  simp only [Sem.run_bind, asParts25a, asParts25, Result.andThen]
  simp [ReflectliteValue.flagAddr, loadVar, isAgg, underlying, Tryz.underlying132, hb, Result.andThen, asDirect25, storeVar, Value.cells, storeCells, Addr.add]
  rw [run_store Tryz.prog W ta _ _ (by rfl)]
  simp [ht, hf]

set_option maxHeartbeats 4000000 in
theorem as_hit (e t : Addr) (old : Value) (w : World) (hg : w.cell? ⟨0, 0, none⟩ = some (.iface 264 (.agg #[.pointer (some ⟨7, 87, none⟩)]))) (ht0 : w.cell? t = some old) (hf0 : w.frozen? t = false) :
    Calls Tryz.prog 62 #[.iface 132 (.pointer (some e)), .iface 134 (.pointer (some t))] w fun ev w' => ev = .returned (.bool true) ∧ w' = ((((w.alloc (.cells #[.pointer (some t)] 134)).alloc (.cells #[.pointer (some ⟨7, 134, none⟩), .pointer (some ⟨w.heap.size, 0, none⟩), .int .u64 150] 193)).alloc (.cells #[.pointer (some ⟨7, 134, none⟩), .pointer (some ⟨w.heap.size, 0, none⟩), .int .u64 150] 193)).alloc (.cells #[.pointer (some e)] 132)).setCell t (.pointer (some e)) := by
  have h6 := @run_callFunc_extern Tryz.prog 111 _ (fun args => ReflectliteValue.unpack (args.getD 0 (.tuple #[]))) Tryz.func111 (by kernel_rfl) (by kernel_rfl) (by kernel_rfl) (by kernel_rfl)
  have h7 := @run_callFunc_extern Tryz.prog 112 _ (ReflectliteValue.methodAny (ReflectliteValue.valueError "reflectlite.Value.Type" 0) (fun t _ _ _ => ReflectliteType.toType t)) Tryz.func112 (by kernel_rfl) (by kernel_rfl) (by kernel_rfl) (by kernel_rfl)
  have h8 := @run_callFunc_extern Tryz.prog 113 _ (ReflectliteValue.method (ReflectliteValue.valueError "reflectlite.Value.IsNil" 0) ReflectliteValue.isNil) Tryz.func113 (by kernel_rfl) (by kernel_rfl) (by kernel_rfl) (by kernel_rfl)
  have h27 := @run_callFunc_extern Tryz.prog 278 _ (ReflectliteType.abiMethod fun t => do pure (.int .u8 (← Rtype.kind t))) Tryz.func278 (by kernel_rfl) (by kernel_rfl) (by kernel_rfl) (by kernel_rfl)
  have h37 := @run_callFunc_extern Tryz.prog 290 _ (ReflectliteType.method ReflectliteType.elem) Tryz.func290 (by kernel_rfl) (by kernel_rfl) (by kernel_rfl) (by kernel_rfl)
  have h38 := @run_callFunc_extern Tryz.prog 291 _ (ReflectliteType.relation "Implements" ReflectliteType.implements_) Tryz.func291 (by kernel_rfl) (by kernel_rfl) (by kernel_rfl) (by kernel_rfl)
  have h10 := @run_callFunc_extern Tryz.prog 115 _ ReflectliteType.typeOf Tryz.func115 (by kernel_rfl) (by kernel_rfl) (by kernel_rfl) (by kernel_rfl)
  have h35 := @run_callFunc_extern Tryz.prog 288 _ (ReflectliteType.relation "AssignableTo" ReflectliteType.assignableTo) Tryz.func288 (by kernel_rfl) (by kernel_rfl) (by kernel_rfl) (by kernel_rfl)
  have h11 := @run_callFunc_extern Tryz.prog 173 _ (ReflectliteValue.method (ReflectliteValue.valueError "reflectlite.Value.Elem" 0) ReflectliteValue.elem) Tryz.func173 (by kernel_rfl) (by kernel_rfl) (by kernel_rfl) (by kernel_rfl)
  have h12 := @run_callFunc_extern Tryz.prog 174 _ ReflectliteValue.set Tryz.func174 (by kernel_rfl) (by kernel_rfl) (by kernel_rfl) (by kernel_rfl)
  have tO := asTypeOf25
  have mA := asMethodAssignableTo
  have a25 := asAssignable25
  have v25 := asValueOf25
  have f6 := asValueOf27
  have f7 := asType27
  have mK := asMethodKind
  have mE := asMethodElem
  have mI := asMethodImplements
  have k27 := asKind27
  have k25 := asKind25
  have e27 := asElem27
  have i25 := asImplements25
  have n8 := asIsNil27 ⟨w.heap.size, 0, none⟩ t ((w.alloc (.cells #[.pointer (some t)] 134)).alloc (.cells #[.pointer (some ⟨7, 134, none⟩), .pointer (some ⟨w.heap.size, 0, none⟩), .int .u64 150] 193)) (by simp)
  have hlt : 0 < w.heap.size := by
    rcases Nat.eq_zero_or_pos w.heap.size with h0 | h
    · simp [World.cell?, h0] at hg
    · exact h
  have hg2 : ((w.alloc (.cells #[.pointer (some t)] 134)).alloc (.cells #[.pointer (some ⟨7, 134, none⟩), .pointer (some ⟨w.heap.size, 0, none⟩), .int .u64 150] 193)).cell? ⟨0, 0, none⟩ = some (.iface 264 (.agg #[.pointer (some ⟨7, 87, none⟩)])) := by
    rw [World.cell?_alloc_lt _ _ ⟨0, 0, none⟩ (by simp), World.cell?_alloc_lt _ _ ⟨0, 0, none⟩ hlt]; exact hg
  have htl : t.block < w.heap.size := by
    rcases Nat.lt_or_ge t.block w.heap.size with h | h
    · exact h
    · simp [World.cell?, Array.getElem?_eq_none h] at ht0
  have el := asElemV27 ⟨w.heap.size, 0, none⟩ t (((w.alloc (.cells #[.pointer (some t)] 134)).alloc (.cells #[.pointer (some ⟨7, 134, none⟩), .pointer (some ⟨w.heap.size, 0, none⟩), .int .u64 150] 193)).alloc (.cells #[.pointer (some ⟨7, 134, none⟩), .pointer (some ⟨w.heap.size, 0, none⟩), .int .u64 150] 193)) (by rw [World.cell?_alloc_lt _ _ ⟨w.heap.size, 0, none⟩ (by simp; omega)]; simp)
  have st := asSet25 t ⟨w.heap.size + 1 + 1 + 1, 0, none⟩ e old ((((w.alloc (.cells #[.pointer (some t)] 134)).alloc (.cells #[.pointer (some ⟨7, 134, none⟩), .pointer (some ⟨w.heap.size, 0, none⟩), .int .u64 150] 193)).alloc (.cells #[.pointer (some ⟨7, 134, none⟩), .pointer (some ⟨w.heap.size, 0, none⟩), .int .u64 150] 193)).alloc (.cells #[.pointer (some e)] 132))
    (by rw [World.cell?_alloc_at _ _ _ _ (by simp)]; rfl)
    (by rw [World.cell?_alloc_lt _ _ t (by simp; omega), World.cell?_alloc_lt _ _ t (by simp; omega), World.cell?_alloc_lt _ _ t (by simp; omega), World.cell?_alloc_lt _ _ t htl]; exact ht0)
    (by rw [World.frozen?_alloc_old _ _ t (by simp; omega), World.frozen?_alloc_old _ _ t (by simp; omega), World.frozen?_alloc_old _ _ t (by simp; omega), World.frozen?_alloc_old _ _ t (Nat.ne_of_lt htl)]; exact hf0)
  go_enter Tryz.func62, Tryz.ntmps62
  go_wp2
  refine wp_loop_rounds 1 ?_
  rw [rounds_succ]
  go_wp2
  go_ret
  exact ⟨rfl, rfl⟩

end Go.Proofs.YtpdbmpbmepkikaaGreatDoor

namespace Go.Proofs.YtpdbmpbmepkikaaGreatDoor
open Go.RowKit Go.Extern.Stop Go.Stop Go.Extern

theorem isTypeOf (v : Value) (w : World) : (Extern.ReflectliteType.typeOf #[.iface 135 v]).run Tryz.prog w = .ok (.iface 264 (.agg #[.pointer (some ⟨7, 135, none⟩)])) w := by kernel_rfl
/-- The entry for Comparable. -/
noncomputable def compE : Array Value → Sem Value := (find Tryz.f289).get (by kernel_rfl)
theorem isComparable (w : World) : (compE #[.agg #[.pointer (some ⟨7, 135, none⟩)]]).run Tryz.prog w = .ok (.bool true) w := by kernel_rfl
theorem isMethodComparable (v : Value) (w : World) : (Go.method 476 264 v "Comparable").run Tryz.prog w = .ok (289, v) w := by kernel_rfl
theorem noIsF (v : Value) (xT : TypeId) (w : World) : (Instr.typeAssert (.iface 132 v) xT 276 true).run Tryz.prog w = .ok (.tuple #[.nilIface, .bool false]) w := run_typeAssert_lacksB Tryz.underlying276 (by kernel_rfl) (by kernel_rfl) v xT w
theorem noIsE (v : Value) (xT : TypeId) (w : World) : (Instr.typeAssert (.iface 135 v) xT 276 true).run Tryz.prog w = .ok (.tuple #[.nilIface, .bool false]) w := run_typeAssert_lacksB Tryz.underlying276 (by kernel_rfl) (by kernel_rfl) v xT w
theorem noUnwrapE (v : Value) (xT : TypeId) (w : World) : (Instr.typeAssert (.iface 135 v) xT 271 true).run Tryz.prog w = .ok (.tuple #[.nilIface, .bool false]) w := run_typeAssert_lacksB Tryz.underlying271 (by kernel_rfl) (by kernel_rfl) v xT w
theorem noUnwrapsE (v : Value) (xT : TypeId) (w : World) : (Instr.typeAssert (.iface 135 v) xT 273 true).run Tryz.prog w = .ok (.tuple #[.nilIface, .bool false]) w := run_typeAssert_lacksB Tryz.underlying273 (by kernel_rfl) (by kernel_rfl) v xT w
theorem hasUnwrapF (v : Value) (xT : TypeId) (w : World) : (Instr.typeAssert (.iface 132 v) xT 271 true).run Tryz.prog w = .ok (.tuple #[.iface 132 v, .bool true]) w := run_typeAssert_hasB Tryz.underlying271 (by kernel_rfl) v xT w
theorem methodUnwrapF (v : Value) (w : World) : (Go.method 476 132 v "Unwrap").run Tryz.prog w = .ok (282, v) w := by kernel_rfl

set_option maxHeartbeats 1000000 in
theorem isKind_any (q : Nat) (k0 k : Int) (s : ByteArray) (w : World) (hq : w.heap[q]? = some (.cells #[.int .i64 k0, .string s] 137 (0, 0))) :
    Calls Tryz.prog 63 #[.iface 132 (.pointer (some ⟨q, 0, none⟩)), .iface 135 (.int .i64 k)] w fun e w' => e = .returned (.bool (decide (k0 = k))) ∧ w' = w := by
  have h8 := @run_callFunc_extern Tryz.prog 115 _ Extern.ReflectliteType.typeOf Tryz.func115 (by kernel_rfl) (by kernel_rfl) (by kernel_rfl) (by kernel_rfl)
  have h32 := @run_callFunc_extern Tryz.prog 289 _ compE Tryz.func289 (by kernel_rfl) (by kernel_rfl) (by kernel_rfl) (by kernel_rfl)
  have tT := isTypeOf
  have cT := isComparable
  have mR := isMethodComparable
  have nF := noIsF
  have nE := noIsE
  have uE := noUnwrapE
  have vE := noUnwrapsE
  have uF := hasUnwrapF
  have mU := methodUnwrapF
  have hc : w.cell? ⟨q, 0, none⟩ = some (.int .i64 k0) := Joins.cell_of_block hq 0
  have hty := run_eql_iface_types (P := Tryz.prog) 132 135 (.pointer (some ⟨q, 0, none⟩)) (.int .i64 k) Tryz.underlying87 (by decide) w
  by_cases hk : k0 = k
  · subst hk
    have heq : (binOp .eql 87 (.iface 135 (.int .i64 k0)) (.iface 135 (.int .i64 k0))).run Tryz.prog w = .ok (.bool true) w := by
      have := Lib.run_eql_iface_int (P := Tryz.prog) w (t := 87) (tx := 135) (k := .i64) k0 k0 Tryz.underlying87 (by kernel_rfl) Tryz.underlying135
      simpa using this
    go_enter Tryz.func63, Tryz.ntmps63
    go_wp2
    refine wp_loop_rounds 2 ?_
    rw [rounds_succ]
    go_wp2
    rw [rounds_succ]
    go_wp2
    go_ret
    exact ⟨by simp, rfl⟩
  · have heq : (binOp .eql 87 (.iface 135 (.int .i64 k0)) (.iface 135 (.int .i64 k))).run Tryz.prog w = .ok (.bool false) w := by
      have := Lib.run_eql_iface_int (P := Tryz.prog) w (t := 87) (tx := 135) (k := .i64) k0 k Tryz.underlying87 (by kernel_rfl) Tryz.underlying135
      have hb : (k0 == k) = false := beq_eq_false_iff_ne.2 hk
      exact hb ▸ this
    go_enter Tryz.func63, Tryz.ntmps63
    go_wp2
    refine wp_loop_rounds 2 ?_
    rw [rounds_succ]
    go_wp2
    rw [rounds_succ]
    go_wp2
    go_ret
    exact ⟨by simp [hk], rfl⟩
end Go.Proofs.YtpdbmpbmepkikaaGreatDoor

namespace Go.Proofs.YtpdbmpbmepkikaaGreatDoor
open Go.RowKit

/-- The variable errors.errorType is laid. -/
def EType (w : World) : Prop := w.cell? ⟨0, 0, none⟩ = some (.iface 264 (.agg #[.pointer (some ⟨7, 87, none⟩)]))
theorem EType.lt {w : World} (h : EType w) : 0 < w.heap.size := World.block_lt_of_cell? w ⟨0, 0, none⟩ h
theorem EType.of_block {w w' : World} (h : EType w) (hb : w'.heap[0]? = w.heap[0]?) : EType w' := (World.cell?_of_block (w := w) (a := ⟨0, 0, none⟩) hb).trans h
theorem EType.below {N : Nat} {w w' : World} (h : EType w) (hb : Below N w w') (hN : w.heap.size ≤ N) : EType w' := h.of_block (hb.block 0 (Nat.lt_of_lt_of_le h.lt hN))
theorem EType.keep {F : Nat → Prop} {w w' : World} (h : EType w) (hk : Keep F w w') (hF : ¬ F 0) : EType w' := h.of_block (hk.block 0 h.lt hF)

structure PaAt (N q : Nat) (k : Int) (s : ByteArray) (w0 W : World) : Prop where
  box : W.heap[N + 1]? = some (.cells #[.pointer (some ⟨q, 0, none⟩)] 132 (0, 0))
  err : W.heap[q]? = some (.cells #[.int .i64 k, .string s] 137 (0, 0))
  res : W.heap[N]? = some (.cells #[.int .i64 0, .string ⟨#[]⟩] 49 (0, 0))
  below : Below w0.heap.size w0 W
theorem PaAt_drew {N q : Nat} {k : Int} {s : ByteArray} {w0 W : World} : PaAt N q k s w0 W.drew ↔ PaAt N q k s w0 W :=
  ⟨fun h => ⟨h.1, h.2, h.3, ⟨h.below.os, h.below.tape, h.below.output, h.below.size, h.below.block⟩⟩, fun h => ⟨h.1, h.2, h.3, ⟨h.below.os, h.below.tape, h.below.output, h.below.size, h.below.block⟩⟩⟩

theorem as_any (q b : Nat) (W : World) (hg : EType W) (hb : W.heap[b]? = some (.cells #[.pointer none] 132 (0, 0))) :
    Calls Tryz.prog 62 #[.iface 132 (.pointer (some ⟨q, 0, none⟩)), .iface 134 (.pointer (some ⟨b, 0, none⟩))] W fun e w' => e = .returned (.bool true) ∧ Keep (fun x => x = b) W w' ∧ w'.heap[b]? = some (.cells #[.pointer (some ⟨q, 0, none⟩)] 132 (0, 0)) := by
  have hlt := (Array.getElem?_eq_some_iff.1 hb).1
  refine (as_hit ⟨q, 0, none⟩ ⟨b, 0, none⟩ (.pointer none) W hg (Joins.cell_of_block hb 0) (Joins.unfrozen_of_block hb 0)).mono ?_
  rintro e w' ⟨rfl, rfl⟩
  refine ⟨rfl, ((((Keep.alloc _ _ _).trans (Keep.alloc _ _ _)).trans (Keep.alloc _ _ _)).trans (Keep.alloc _ _ _)).trans (Keep.setCell _ _ _ rfl), ?_⟩
  refine setCell_box (T := 132) (v := .pointer none) ?_
  rw [Below.heap_alloc _ _ _ (by simp; omega), Below.heap_alloc _ _ _ (by simp; omega), Below.heap_alloc _ _ _ (by simp; omega), Below.heap_alloc _ _ _ hlt]
  exact hb

theorem parts_nil (w : World) : Calls Tryz.prog 42 #[.nilIface] w fun e w' => e = .returned (.agg #[.int .i64 0, .string ⟨#[]⟩]) ∧ Below w.heap.size w w' := by
  go_enter Tryz.func42, Tryz.ntmps42
  go_wp2
  have hN : (w.alloc (.cells #[.int .i64 0, .string ⟨#[]⟩] 49)).heap[w.heap.size]? = some (.cells #[.int .i64 0, .string ⟨#[]⟩] 49 (0, 0)) := World.alloc_heap_new _ _
  refine bodyPost_ret (results_cell_row rfl _ _ w.heap.size 49 #[.int .i64 0, .string ⟨#[]⟩] (0, 0) _ rfl hN Tryz.underlying49 rfl (by kernel_rfl)) rfl ?_
  exact ⟨rfl, (Below.refl _ _).alloc (Nat.le_refl _) _⟩

attribute [local simp] PaAt_drew in
theorem parts_err (q : Nat) (k : Int) (s : ByteArray) (w : World) (hg : EType w) (hq : w.heap[q]? = some (.cells #[.int .i64 k, .string s] 137 (0, 0))) (h1 : 1 ≤ k) (h5 : k ≤ 5) :
    Calls Tryz.prog 42 #[.iface 132 (.pointer (some ⟨q, 0, none⟩))] w fun e w' => e = .returned (.agg #[.int .i64 k, .string s]) ∧ Below w.heap.size w w' := by
  have hql := (Array.getElem?_eq_some_iff.1 hq).1
  obtain ⟨w1, hw1⟩ : ∃ w1, w1 = (w.alloc (.cells #[.int .i64 0, .string ⟨#[]⟩] 49)).alloc (.cells #[.pointer none] 132) := ⟨_, rfl⟩
  have hb1 : Below w.heap.size w w1 := by rw [hw1]; exact ((Below.refl _ _).alloc (Nat.le_refl _) _).alloc (by simp) _
  have hbox : w1.heap[w.heap.size + 1]? = some (.cells #[.pointer none] 132 (0, 0)) := by
    have := World.alloc_heap_new (w.alloc (.cells #[.int .i64 0, .string ⟨#[]⟩] 49)) (.cells #[.pointer none] 132)
    rw [World.size_alloc] at this; rw [hw1]; exact this
  have hres : w1.heap[w.heap.size]? = some (.cells #[.int .i64 0, .string ⟨#[]⟩] 49 (0, 0)) := by
    rw [hw1, Below.heap_alloc _ _ _ (by simp)]; exact World.alloc_heap_new _ _
  have hz1 : w1.heap.size = w.heap.size + 2 := by rw [hw1]; simp
  have hcall : Calls Tryz.prog 62 #[.iface 132 (.pointer (some ⟨q, 0, none⟩)), .iface 134 (.pointer (some ⟨w.heap.size + 1, 0, none⟩))] w1 fun e w' => e = .returned (.bool true) ∧ PaAt w.heap.size q k s w w' :=
    (as_any q (w.heap.size + 1) w1 (hg.below hb1 (Nat.le_refl _)) hbox).mono fun e w' h => ⟨h.1, h.2.2, (h.2.1.block q (by omega) (by omega)).trans ((hb1.block q hql).trans hq), (h.2.1.block _ (by omega) (by omega)).trans hres,
      below_keep hb1 h.2.1 (fun x hx e => by omega)⟩
  rw [hw1] at hcall
  have HC := Lib.hid hcall
  have HW := Lib.hid hw1
  have hk : ∀ W, PaAt w.heap.size q k s w W → W.cell? ⟨q, 0, none⟩ = some (.int .i64 k) := fun W h => Joins.cell_of_block h.err 0
  have hs : ∀ W, PaAt w.heap.size q k s w W → W.cell? ⟨q, 1, none⟩ = some (.string s) := fun W h => Joins.cell_of_block h.err 1
  have hx : ∀ W, PaAt w.heap.size q k s w W → W.cell? ⟨w.heap.size + 1, 0, none⟩ = some (.pointer (some ⟨q, 0, none⟩)) := fun W h => Joins.cell_of_block h.box 0
  have HI : Hid (∀ W j b, PaAt w.heap.size q k s w W → decide (k = j) = b → Calls Tryz.prog 63 #[.iface 132 (.pointer (some ⟨q, 0, none⟩)), .iface 135 (.int .i64 j)] W fun e w' => e = .returned (.bool b) ∧ w' = W) :=
    Lib.hid fun W j b h e => e ▸ isKind_any q k j s W h.err
  have HK := Lib.hid (And.intro hk (And.intro hs hx))
  clear hcall hw1 hbox hres hb1 hq hg hk hs hx
  go_enter Tryz.func42, Tryz.ntmps42
  go_wp2_with (go_at_call 62; refine HC.out.mono ?_; rintro e w2 ⟨rfl, hP⟩; refine Halt.of ?_)
  have y0 := HK.out.1 w2 hP
  have y1 := HK.out.2.2 w2 hP
  have hk0 : ((k == 0) = false) := beq_eq_false_iff_ne.2 (by omega)
  have hk1 : ¬ k = 0 := by omega
  clear HC
  unfold Halt
  go_wp2
  go_loopg [4] 6 (fun n i wr => ∃ j : Nat, i = .int .i64 j ∧ n + j = 6 ∧ PaAt w.heap.size q k s w wr)
  case atStart => exact ⟨0, rfl, rfl, hP⟩
  case round =>
    obtain ⟨j, rfl, hn, hPr⟩ := hrel
    have x0 := HK.out.1
    have x1 := HK.out.2.1
    have x2 := HK.out.2.2
    by_cases hj : j < 6
    · have hj5 : (j : Int) ≤ 5 := by omega
      obtain ⟨b, hb⟩ : ∃ b : Bool, b = decide (k = (j : Int)) := ⟨_, rfl⟩
      have hb2 : (((j : Int)) == k) = b := by rw [hb, Bool.eq_iff_iff, beq_iff_eq, decide_eq_true_eq]; exact eq_comm
      have HB := Lib.hid hb
      clear hb x1 y0 y1
      go_wp2
      go_region_held3 (fun W => PaAt w.heap.size q k s w W) (with_reducible (first | assumption | (rw [PaAt_drew]; assumption)))
        ((first | (go_at_call 63; refine Calls.mono (HI.out _ (j : Int) b ?hw HB.out.symm) ?_; (case hw => with_reducible (first | assumption | (rw [PaAt_drew]; assumption))); rintro e w3 ⟨rfl, hw3⟩; subst hw3)))
      rename_i hHeld
      clear x0 x2
      go_wp2
      go_roundg (gk - 1)
      case rel => exact ⟨j + 1, by go_simp, by omega, hHeld⟩
      case measure => omega
    · have hje : j = 6 := by omega
      subst hje
      have hH := Lib.hid hPr
      have z0 := Joins.cell_of_block hPr.res 0
      have z1 := Joins.cell_of_block hPr.res 1
      have z2 : ∀ i, wr.frozen? ⟨w.heap.size, i, none⟩ = false := fun i => Joins.unfrozen_of_block hPr.res i
      simp at z0 z1
      have n1 : w.heap.size ≠ q := by omega
      have n2 : w.heap.size ≠ w.heap.size + 1 := by omega
      have p0 := x0 wr hPr
      have p1 := x1 wr hPr
      have p2 := x2 wr hPr
      clear y0 y1 x0 x1 x2 hPr hP
      go_wp2
      go_region_held3 (fun W => W.cell? ⟨q, 0, none⟩ = some (.int .i64 k) ∧ W.cell? ⟨q, 1, none⟩ = some (.string s) ∧ W.cell? ⟨w.heap.size + 1, 0, none⟩ = some (.pointer (some ⟨q, 0, none⟩))) (go_keep) (fail)
      go_wp2
      have hA : ArrAt w.heap.size 49 wr _ ((wr.drew.setCell ⟨w.heap.size, 0, none⟩ (.int .i64 k)).setCell ⟨w.heap.size, 1, none⟩ (.string s)) :=
        ((ArrAt.mk (W := wr.drew) hH.out.res (Keep.drew _ _)).set 0 _).set 1 _
      obtain ⟨hAb, hAk⟩ := hA
      simp only [List.setIfInBounds_toArray, List.set_cons_zero, List.set_cons_succ] at hAb
      refine bodyPost_ret (results_cell_row rfl _ _ w.heap.size 49 _ (0, 0) _ rfl hAb Tryz.underlying49 rfl (by kernel_rfl)) rfl ?_
      exact ⟨rfl, below_keep hH.out.below hAk (fun x hx e => by omega)⟩
end Go.Proofs.YtpdbmpbmepkikaaGreatDoor

namespace Go.Proofs.YtpdbmpbmepkikaaGreatDoor

def crcBit (x : Nat) : Nat := if x % 2 = 1 then (x / 2) ^^^ 3988292384 else x / 2
def crcBits : Nat → Nat → Nat
  | 0, x => x
  | k + 1, x => crcBits k (crcBit x)
def crcByte (x : Nat) (c : UInt8) : Nat := crcBits 8 (x ^^^ c.toNat)
def crcRun (x : Nat) (l : List UInt8) : Nat := l.foldl crcByte x
def crcL (l : List UInt8) : Nat := crcRun 4294967295 l ^^^ 4294967295

theorem xor_lt32 {a b : Nat} (ha : a < 4294967296) (hb : b < 4294967296) : a ^^^ b < 4294967296 := Nat.xor_lt_two_pow (n := 32) ha hb
theorem crcBit_lt {x : Nat} (h : x < 4294967296) : crcBit x < 4294967296 := by
  unfold crcBit
  split
  · exact xor_lt32 (by omega) (by decide)
  · omega
theorem xor_cancel_r {a b c : Nat} (h : a ^^^ c = b ^^^ c) : a = b := by
  have := congrArg (· ^^^ c) h
  simpa [Nat.xor_assoc] using this
theorem xor_cancel_l {a b c : Nat} (h : c ^^^ a = c ^^^ b) : a = b := by
  rw [Nat.xor_comm c a, Nat.xor_comm c b] at h; exact xor_cancel_r h
theorem crcBit_inj {x y : Nat} (hx : x < 4294967296) (hy : y < 4294967296) (h : crcBit x = crcBit y) : x = y := by
  have top : ∀ a : Nat, a < 2147483648 → 2147483648 ≤ a ^^^ 3988292384 := fun a ha => by
    have : (a ^^^ 3988292384).testBit 31 = true := by
      rw [Nat.testBit_xor, Nat.testBit_lt_two_pow (show a < 2 ^ 31 from ha)]
      decide
    exact Nat.ge_two_pow_of_testBit this
  unfold crcBit at h
  by_cases h1 : x % 2 = 1 <;> by_cases h2 : y % 2 = 1
  · rw [if_pos h1, if_pos h2] at h
    have := xor_cancel_r h
    omega
  · rw [if_pos h1, if_neg h2] at h
    have := top (x / 2) (by omega)
    omega
  · rw [if_neg h1, if_pos h2] at h
    have := top (y / 2) (by omega)
    omega
  · rw [if_neg h1, if_neg h2] at h
    omega
theorem crcBits_lt (k : Nat) {x : Nat} (h : x < 4294967296) : crcBits k x < 4294967296 := by
  induction k generalizing x with
  | zero => exact h
  | succ k ih => exact ih (crcBit_lt h)
theorem crcBits_inj (k : Nat) {x y : Nat} (hx : x < 4294967296) (hy : y < 4294967296) (h : crcBits k x = crcBits k y) : x = y := by
  induction k generalizing x y with
  | zero => exact h
  | succ k ih => exact crcBit_inj hx hy (ih (crcBit_lt hx) (crcBit_lt hy) h)
theorem u8_lt32 (c : UInt8) : c.toNat < 4294967296 := Nat.lt_of_lt_of_le c.toNat_lt (by decide)
theorem crcByte_lt {x : Nat} (c : UInt8) (h : x < 4294967296) : crcByte x c < 4294967296 := crcBits_lt 8 (xor_lt32 h (u8_lt32 c))
theorem crcRun_lt (l : List UInt8) {x : Nat} (h : x < 4294967296) : crcRun x l < 4294967296 := by
  induction l generalizing x with
  | nil => exact h
  | cons c l ih => exact ih (crcByte_lt c h)
theorem crcL_lt (l : List UInt8) : crcL l < 4294967296 := xor_lt32 (crcRun_lt l (by decide)) (by decide)
theorem crcRun_inj (l : List UInt8) {x y : Nat} (hx : x < 4294967296) (hy : y < 4294967296) (h : crcRun x l = crcRun y l) : x = y := by
  induction l generalizing x y with
  | nil => exact h
  | cons c l ih => exact xor_cancel_r (crcBits_inj 8 (xor_lt32 hx (u8_lt32 c)) (xor_lt32 hy (u8_lt32 c)) (ih (crcByte_lt c hx) (crcByte_lt c hy) h))
/-- One byte that is another: another sum. -/
theorem crcL_one (a b : List UInt8) {c d : UInt8} (hcd : c ≠ d) : crcL (a ++ c :: b) ≠ crcL (a ++ d :: b) := fun h => by
  unfold crcL at h
  have h := xor_cancel_r h
  unfold crcRun at h
  rw [List.foldl_append, List.foldl_append, List.foldl_cons, List.foldl_cons] at h
  have hs : a.foldl crcByte 4294967295 < 4294967296 := crcRun_lt a (by decide)
  have := crcRun_inj b (crcByte_lt c hs) (crcByte_lt d hs) h
  exact hcd (UInt8.toNat_inj.1 (xor_cancel_l (crcBits_inj 8 (xor_lt32 hs (u8_lt32 c)) (xor_lt32 hs (u8_lt32 d)) this)))
end Go.Proofs.YtpdbmpbmepkikaaGreatDoor

namespace Go.Proofs.YtpdbmpbmepkikaaGreatDoor

/-- A number in seven bits each, the low ones first. -/
def numB (n : Nat) : List UInt8 := if h : n < 128 then [UInt8.ofNat n] else UInt8.ofNat (n % 128 + 128) :: numB (n / 128)
termination_by n
decreasing_by omega
theorem numB_lt {n : Nat} (h : n < 128) : numB n = [UInt8.ofNat n] := by rw [numB, dif_pos h]
theorem numB_ge {n : Nat} (h : ¬ n < 128) : numB n = UInt8.ofNat (n % 128 + 128) :: numB (n / 128) := by rw [numB, dif_neg h]

/-- What a reader takes for a number: at most f bytes; the number, what is left, whether there was too little. -/
def readNum : Nat → Nat → Nat → List UInt8 → Nat × List UInt8 × Bool
  | 0, _, acc, l => (acc, l, false)
  | _ + 1, _, _, [] => (0, [], true)
  | f + 1, k, acc, b :: l =>
    let acc' := acc + b.toNat % 128 * 2 ^ k % 18446744073709551616
    if b.toNat < 128 then (acc', l, false) else readNum f (k + 7) acc' l

theorem readNum_numB (f k acc n : Nat) (t : List UInt8) (hf : n < 128 ^ (f + 1)) (hn : n * 2 ^ k < 18446744073709551616) : readNum (f + 1) k acc (numB n ++ t) = (acc + n * 2 ^ k, t, false) := by
  induction f generalizing k acc n with
  | zero =>
    have h : n < 128 := by simpa using hf
    rw [numB_lt h]
    have e : (UInt8.ofNat n).toNat = n := by simp; omega
    simp only [List.singleton_append, readNum, e, h, if_true]
    rw [Nat.mod_eq_of_lt h, Nat.mod_eq_of_lt hn]
  | succ f ih =>
    by_cases h : n < 128
    · rw [numB_lt h]
      have e : (UInt8.ofNat n).toNat = n := by simp; omega
      simp only [List.singleton_append, readNum, e, h, if_true]
      rw [Nat.mod_eq_of_lt h, Nat.mod_eq_of_lt hn]
    · rw [numB_ge h]
      have e : (UInt8.ofNat (n % 128 + 128)).toNat = n % 128 + 128 := by simp; omega
      rw [List.cons_append, readNum, e, if_neg (by omega)]
      have hmul : n * 2 ^ k = n % 128 * 2 ^ k + n / 128 * 2 ^ (k + 7) := by
        have hp : 2 ^ (k + 7) = 128 * 2 ^ k := by rw [Nat.pow_add]; omega
        rw [hp]
        have := Nat.mod_add_div n 128
        calc n * 2 ^ k = (n % 128 + 128 * (n / 128)) * 2 ^ k := by rw [this]
          _ = _ := by rw [Nat.add_mul, Nat.mul_comm 128 (n / 128), Nat.mul_assoc]
      have h1 : (n % 128 + 128) % 128 = n % 128 := by omega
      rw [h1, Nat.mod_eq_of_lt (Nat.lt_of_le_of_lt (by rw [hmul]; exact Nat.le_add_right _ _) hn)]
      rw [ih (k + 7) _ (n / 128) (by rw [Nat.pow_succ] at hf; omega) (Nat.lt_of_le_of_lt (by rw [hmul]; exact Nat.le_add_left _ _) hn)]
      rw [hmul, Nat.add_assoc]
theorem readNum_whole {n : Nat} (hn : n < 18446744073709551616) (t : List UInt8) : readNum 10 0 0 (numB n ++ t) = (n, t, false) := by
  have := readNum_numB 9 0 0 n t (Nat.lt_of_lt_of_le hn (by decide)) (by simpa using hn)
  simpa using this

/-- A number that is cut: too little. -/
theorem readNum_cut (f k acc n j : Nat) (hj : j < (numB n).length) (hf : j < f) : readNum f k acc ((numB n).take j) = (0, [], true) := by
  induction j generalizing f k acc n with
  | zero => cases f with
    | zero => omega
    | succ f => simp [readNum]
  | succ j ih =>
    cases f with
    | zero => omega
    | succ f =>
      by_cases h : n < 128
      · rw [numB_lt h] at hj; simp at hj
      · rw [numB_ge h] at hj ⊢
        have e : (UInt8.ofNat (n % 128 + 128)).toNat = n % 128 + 128 := by simp; omega
        rw [List.take_succ_cons, readNum, e, if_neg (by omega)]
        exact ih f _ _ _ (by simpa using hj) (by omega)
theorem numB_length {f n : Nat} (h : n < 128 ^ (f + 1)) : (numB n).length ≤ f + 1 := by
  induction f generalizing n with
  | zero => rw [numB_lt (by simpa using h)]; simp
  | succ f ih =>
    by_cases hn : n < 128
    · rw [numB_lt hn]; simp
    · rw [numB_ge hn]
      have := ih (n := n / 128) (by rw [Nat.pow_succ] at h; omega)
      simp; omega
theorem numB_pos (n : Nat) : 0 < (numB n).length := by
  by_cases h : n < 128
  · rw [numB_lt h]; simp
  · rw [numB_ge h]; simp

def be32 (n : Nat) : List UInt8 := [UInt8.ofNat (n / 16777216), UInt8.ofNat (n / 65536), UInt8.ofNat (n / 256), UInt8.ofNat n]
theorem be32_inj {a b : Nat} (ha : a < 4294967296) (hb : b < 4294967296) (h : be32 a = be32 b) : a = b := by
  simp only [be32, List.cons.injEq, and_true] at h
  obtain ⟨h1, h2, h3, h4⟩ := h
  have f : ∀ {x y : Nat}, UInt8.ofNat x = UInt8.ofNat y → x % 256 = y % 256 := fun h => by
    have := congrArg UInt8.toNat h
    simpa using this
  have := f h1
  have := f h2
  have := f h3
  have := f h4
  omega

/-- A body behind its length, and the check sum of all that. -/
def sealB (b : List UInt8) : List UInt8 := let s := numB (b.length + 4) ++ b; s ++ be32 (crcL s)
/-- It is known as none of what Save tells: its length or its sum is another. -/
def brokenB (s : List UInt8) : Bool :=
  let r := readNum 10 0 0 s
  decide (r.1 ≠ r.2.1.length) || decide (r.1 < 4) || decide (be32 (crcL (s.take (s.length - 4))) ≠ s.drop (s.length - 4))
theorem broken_of {s : List UInt8} (h : (readNum 10 0 0 s).1 = (readNum 10 0 0 s).2.1.length → be32 (crcL (s.take (s.length - 4))) ≠ s.drop (s.length - 4)) : brokenB s = true := by
  unfold brokenB
  simp only [Bool.or_eq_true, decide_eq_true_eq]
  by_cases h1 : (readNum 10 0 0 s).1 = (readNum 10 0 0 s).2.1.length
  · exact .inr (h h1)
  · exact .inl (.inl h1)

theorem sealB_ok (b : List UInt8) (hb : b.length < 1000000000) : readNum 10 0 0 (sealB b) = (b.length + 4, b ++ be32 (crcL (numB (b.length + 4) ++ b)), false) := by
  unfold sealB
  rw [List.append_assoc]
  exact readNum_whole (by omega) _
theorem sealB_length (b : List UInt8) : (sealB b).length = (numB (b.length + 4)).length + b.length + 4 := by simp [sealB, be32]; omega
theorem sealB_parts (b : List UInt8) : (sealB b).take ((sealB b).length - 4) = numB (b.length + 4) ++ b ∧ (sealB b).drop ((sealB b).length - 4) = be32 (crcL (numB (b.length + 4) ++ b)) := by
  have e : (sealB b).length - 4 = (numB (b.length + 4) ++ b).length := by rw [sealB_length]; simp
  rw [e]
  unfold sealB
  exact ⟨List.take_left, List.drop_left⟩
theorem sealB_whole (b : List UInt8) (hb : b.length < 1000000000) : brokenB (sealB b) = false := by
  unfold brokenB
  rw [sealB_ok b hb, (sealB_parts b).1, (sealB_parts b).2]
  simp [be32]

/-- One byte is another. -/
theorem seal_turned (b : List UInt8) (i : Nat) (hi : i < (sealB b).length) (d : UInt8) (hd : (sealB b)[i] ≠ d) : brokenB ((sealB b).set i d) = true := by
  refine broken_of fun _ => ?_
  obtain ⟨p1, p2⟩ := sealB_parts b
  rw [List.length_set]
  by_cases h : i < (sealB b).length - 4
  · rw [List.drop_set_of_lt h, p2, List.take_set]
    intro e
    have e := be32_inj (crcL_lt _) (crcL_lt _) e
    have hi' : i < ((sealB b).take ((sealB b).length - 4)).length := by rw [List.length_take]; omega
    rw [← p1] at e
    rw [List.set_eq_take_append_cons_drop, if_pos hi'] at e
    conv at e => rhs; rw [← List.take_append_drop i ((sealB b).take ((sealB b).length - 4)), List.drop_eq_getElem_cons hi']
    refine crcL_one _ _ (fun e2 => hd ?_) e
    rw [e2, List.getElem_take]
  · rw [List.take_set_of_le (by omega), p1, List.drop_set, if_neg (by omega), p2]
    intro e
    have hl : i - ((sealB b).length - 4) < (be32 (crcL (numB (b.length + 4) ++ b))).length := by rw [← p2, List.length_drop]; omega
    have h2 := congrArg (fun l => l[i - ((sealB b).length - 4)]?) e
    simp only [List.getElem?_set_self hl, List.getElem?_eq_getElem hl, Option.some.injEq] at h2
    refine hd ?_
    rw [← h2]
    have : (be32 (crcL (numB (b.length + 4) ++ b)))[i - ((sealB b).length - 4)]? = (sealB b)[i]? := by
      rw [← p2, List.getElem?_drop]
      congr 1; omega
    rw [List.getElem?_eq_getElem hl, List.getElem?_eq_getElem hi, Option.some.injEq] at this
    exact this.symm
/-- It is cut short. -/
theorem seal_cut (b : List UInt8) (hb : b.length < 1000000000) (j : Nat) (hj : j < (sealB b).length) : brokenB ((sealB b).take j) = true := by
  unfold brokenB
  by_cases h : j < (numB (b.length + 4)).length
  · have e : (sealB b).take j = (numB (b.length + 4)).take j := by
      unfold sealB
      rw [List.append_assoc, List.take_append_of_le_length (by omega)]
    have h10 : (numB (b.length + 4)).length ≤ 10 := numB_length (f := 9) (by omega)
    rw [e, readNum_cut 10 0 0 _ j h (by omega)]
    simp
  · have e : (sealB b).take j = numB (b.length + 4) ++ (b ++ be32 (crcL (numB (b.length + 4) ++ b))).take (j - (numB (b.length + 4)).length) := by
      unfold sealB
      rw [List.append_assoc, List.take_append, List.take_of_length_le (by omega)]
    rw [sealB_length] at hj
    rw [e, readNum_whole (by omega)]
    simp only [Bool.or_eq_true, decide_eq_true_eq]
    refine .inl (.inl ?_)
    simp [be32]
    omega
end Go.Proofs.YtpdbmpbmepkikaaGreatDoor

namespace Go.Proofs.YtpdbmpbmepkikaaGreatDoor

/-- A number below 0 as one that is not. -/
def twistN (z : Int) : Nat := if 0 ≤ z then (2 * z).toNat else (-2 * z - 1).toNat
theorem twistN_lt {z : Int} (h : -9223372036854775808 ≤ z ∧ z ≤ 9223372036854775807) : twistN z < 18446744073709551616 := by
  unfold twistN; split <;> omega
def untwist (n : Nat) : Int := if n % 2 = 0 then (n / 2 : Nat) else -((n / 2 : Nat) : Int) - 1
theorem untwist_twist (z : Int) : untwist (twistN z) = z := by
  unfold untwist twistN
  split <;> split <;> omega
def textB (s : ByteArray) : List UInt8 := numB s.size ++ bl s
def regB (x : Reg) : List UInt8 := textB x.name ++ textB x.field ++ numB (twistN x.c) ++ numB (twistN x.r) ++ textB x.value
def listB {α : Type} (f : α → List UInt8) (l : List α) : List UInt8 := numB l.length ++ l.flatMap f
/-- A replica as bytes. -/
def saveB (id : Int) (l : List Reg) : List UInt8 := sealB (numB (twistN id) ++ listB regB l)

theorem ins_last {l : List Reg} {x : Reg} (h : ∀ y ∈ l, ahead y x = true) : ins l x = l ++ [x] := by
  induction l with
  | nil => rfl
  | cons y l ih =>
    have hy := h y (by simp)
    rw [ins, if_neg (fun hk => by
      simp only [sameKey, Bool.and_eq_true, decide_eq_true_eq] at hk
      rw [ahead_irrefl hk.1 hk.2] at hy; cases hy), if_neg (by rw [ahead_asymm hy]; simp), ih (fun z hz => h z (by simp [hz]))]
    rfl
theorem foldl_ins_sorted (a l : List Reg) (h : Sorted (a ++ l)) : l.foldl ins a = a ++ l := by
  induction l generalizing a with
  | nil => simp
  | cons x l ih =>
    have hp := List.pairwise_append.1 h
    rw [List.foldl_cons, ins_last (fun y hy => hp.2.2 y hy x (by simp)), ih _ (by simpa using h)]
    simp
/-- A book of which the registers are taken in, one by one: itself. -/
theorem foldl_ins_self {l : List Reg} (h : Sorted l) : l.foldl ins [] = l := by
  simpa using foldl_ins_sorted [] l (by simpa using h)
def joinD (a b : List Reg) : List Reg := b.foldl withD a
theorem joinD_ins {a : List Reg} (h : Sorted a) (b : List Reg) : joinD a b = b.foldl ins a := by
  unfold joinD
  induction b generalizing a with
  | nil => rfl
  | cons x b ih => rw [List.foldl_cons, List.foldl_cons, withD_ins h, ih (ins_sorted h x)]
theorem foldl_ins_ok {a : List Reg} (h : Sorted a) (b : List Reg) : Sorted (b.foldl ins a) := by
  induction b generalizing a with
  | nil => exact h
  | cons x b ih => exact ih (ins_sorted h x)
theorem Bk.takes {L l : List Reg} (h : Bk L l) (b : List Reg) (hb : ∀ x ∈ b, Good x) : Bk (b.foldl takeL L) (b.foldl ins l) := by
  induction b generalizing L l with
  | nil => exact h
  | cons x b ih => exact ih (h.take (hb x (by simp))) (fun y hy => hb y (by simp [hy]))
end Go.Proofs.YtpdbmpbmepkikaaGreatDoor

namespace Go.Proofs.YtpdbmpbmepkikaaGreatDoor
open Go.RowKit

/-- A byte of the program. -/
def u8V (b : UInt8) : Value := .int .u8 b.toNat
/-- Bytes that a slice shows. -/
def RdAt (w : World) (v : Value) (l : List UInt8) : Prop := ∃ ad cap, v = .slice ad l.length cap ∧ (l = [] ∨ ∃ g off, ad = some ⟨g, off, none⟩ ∧ g < w.heap.size ∧ ∀ j (h : j < l.length), w.cell? ⟨g, off + j, none⟩ = some (u8V l[j]))

theorem crcL_le (l : List UInt8) : crcL l ≤ 4294967295 := by have := crcL_lt l; omega

theorem crc_and {y : Nat} (hy : y < 4294967296) : bits .and .u32 (y : Int) 1 = ((y % 2 : Nat) : Int) := by
  have := u32_and_nat y 1 hy (by decide)
  rw [Nat.and_one_is_mod] at this
  exact this
theorem crc_xor {y : Nat} (hy : y < 4294967296) : bits .xor .u32 ((y : Int) / 2) 3988292384 = ((y / 2 ^^^ 3988292384 : Nat) : Int) := by
  have := u32_xor_nat (y / 2) 3988292384 (by omega) (by decide)
  rw [← this]
  rfl

set_option maxHeartbeats 1000000 in
theorem checkS_any (l : List UInt8) (v : Value) (w : World) (hr : RdAt w v l) (hl : l.length ≤ 1099511627776) :
    Calls Tryz.prog 209 #[v] w fun e w' => e = .returned (.int .u32 (crcL l)) ∧ w' = w := by
  obtain ⟨ad, cap, rfl, hc⟩ := hr
  have HC := Lib.hid hc
  clear hc
  go_enter Tryz.func209, Tryz.ntmps209
  go_wp2
  go_loopg [3, 8] l.length (fun k s3 s8 wr => ∃ j x : Nat, s3 = .int .u32 x ∧ x = crcRun 4294967295 (l.take j) ∧ x < 4294967296 ∧ s8 = .int .i64 j ∧ k + j = l.length ∧ wr = w)
  case atStart => exact ⟨0, 4294967295, rfl, rfl, by decide, rfl, by omega, rfl⟩
  case round =>
    obtain ⟨j, x, rfl, hx, hx32, rfl, hk, rfl⟩ := hrel
    by_cases hj : j < l.length
    · have hjj : (j : Int) < (l.length : Int) := by omega
      have hst : crcRun 4294967295 (l.take (j + 1)) = crcByte x l[j] := by
        rw [crcRun, List.take_add_one, List.getElem?_eq_getElem hj, Option.toList_some, List.foldl_append, hx]; rfl
      rcases HC.out with rfl | ⟨g, off, rfl, hg, hcells⟩
      · simp at hj
      have y0 := hcells j hj
      obtain ⟨b, hb⟩ : ∃ b, b = l[j] := ⟨_, rfl⟩
      rw [← hb] at y0 hst
      unfold u8V at y0
      have hb8 : b.toNat < 4294967296 := u8_lt32 b
      have hxb : bits .xor .u32 (x : Int) (b.toNat : Int) = ((x ^^^ b.toNat : Nat) : Int) := u32_xor_nat x b.toNat hx32 hb8
      have hwb : IntKind.u32.wrap (b.toNat : Int) = (b.toNat : Int) := by rw [IntKind.wrap_u32]; omega
      have hy0 : x ^^^ b.toNat < 4294967296 := xor_lt32 hx32 hb8
      obtain ⟨y1, hy1⟩ : ∃ y1, y1 = x ^^^ b.toNat := ⟨_, rfl⟩
      rw [← hy1] at hxb hy0
      have hst2 : crcRun 4294967295 (l.take (j + 1)) = crcBits 8 y1 := by rw [hst, crcByte, hy1]
      have hw1 : IntKind.i64.wrap ((j : Int) + 1) = (j : Int) + 1 := by rw [IntKind.wrap_i64]; omega
      have HS := Lib.hid (And.intro hst2 hy0)
      clear hcells hst hst2 hb hx hy1 hx32
      obtain ⟨wo, rfl⟩ : ∃ wo : World, wo = wr := ⟨_, rfl⟩
      obtain ⟨gkO, rfl⟩ : ∃ z : Nat, z = gk := ⟨_, rfl⟩
      go_wp2
      go_loopg [3, 16] 8 (fun m s3 s16 wi => ∃ q y : Nat, s3 = .int .u32 y ∧ crcBits (8 - q) y = crcBits 8 y1 ∧ y < 4294967296 ∧ s16 = .int .i64 q ∧ m + q = 8 ∧ wi = wo)
      case atStart => exact ⟨0, y1, rfl, rfl, HS.out.2, rfl, by omega, rfl⟩
      case round =>
        obtain ⟨q, y, rfl, hy, hy32, rfl, hm, rfl⟩ := hrel
        by_cases hq : q < 8
        · have hqq : (q : Int) < 8 := by omega
          have hw2 : IntKind.i64.wrap ((q : Int) + 1) = (q : Int) + 1 := by rw [IntKind.wrap_i64]; omega
          have hand := crc_and hy32
          have hxor := crc_xor hy32
          have hyy : crcBits (8 - (q + 1)) (crcBit y) = crcBits 8 y1 := by
            rw [← hy, show 8 - q = (8 - (q + 1)) + 1 by omega]; rfl
          have hlt := crcBit_lt hy32
          by_cases h2 : y % 2 = 1
          · have hbit : crcBit y = y / 2 ^^^ 3988292384 := if_pos h2
            rw [h2] at hand
            rw [hbit] at hyy hlt
            have HH := Lib.hid (And.intro hyy hlt)
            clear hyy hlt hbit hy y0
            go_wp2
            go_roundg (gk - 1)
            case rel => exact ⟨q + 1, _, rfl, HH.out.1, HH.out.2, by go_simp, by omega, rfl⟩
            case measure => omega
          · have hbit : crcBit y = y / 2 := if_neg h2
            have h20 : y % 2 = 0 := by omega
            rw [h20] at hand
            rw [hbit] at hyy hlt
            have HH := Lib.hid (And.intro hyy hlt)
            clear hyy hlt hbit hy y0
            go_wp2
            go_roundg (gk - 1)
            case rel => exact ⟨q + 1, _, rfl, HH.out.1, HH.out.2, by go_simp, by omega, rfl⟩
            case measure => omega
        · have hq8 : q = 8 := by omega
          subst hq8
          have hyy : crcRun 4294967295 (l.take (j + 1)) = y := by rw [HS.out.1, ← hy]; rfl
          have HH := Lib.hid hyy
          clear hy hyy y0
          go_wp2
          go_roundg (gkO - 1)
          case rel => exact ⟨j + 1, y, rfl, HH.out.symm, hy32, by go_simp, by omega, rfl⟩
          case measure => omega
    · have hje : j = l.length := by omega
      subst hje
      rw [List.take_length] at hx
      have hn : bits .xor .u32 IntKind.u32.max (x : Int) = ((crcL l : Nat) : Int) := by
        have := u32_xor_nat 4294967295 x (by decide) hx32
        rw [Nat.xor_comm] at this
        rw [crcL, ← hx]
        exact this
      clear hx
      go_wp2
      go_ret
      exact ⟨by first | rfl | (rw [← hn]; rfl), rfl⟩
end Go.Proofs.YtpdbmpbmepkikaaGreatDoor
