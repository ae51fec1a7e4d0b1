/- BookK: Contracts of New, fault, write. Conditions: short names and fields; the counter is none of the greatest.
   BookN: Contracts of a replica's Put, Delete. Conditions: short texts; the counter is none of the greatest.
   BookO: Contracts of New, a replica's Digest, Registers.
   BookQ: The contract of names.
   RefA: Contracts of the document's sameKey, ahead, Wins. No condition.
   RefB: A slice that a function gathers in a temporary of its own; rows of registers. No condition.
   RefC: The contract of the document's With. Condition: at most 1000000 registers.
   RefD: Contracts of the document's Clock, small, begins, Find. Condition: at most 1000000 registers. -/
import Derived.Test.YtpdbmpbmepkikaaGreatDoorS02
import Derived.Test.YtpdbmpbmepkikaaGreatDoorS03
import Derived.Test.YtpdbmpbmepkikaaGreatDoorS04
import Derived.Maps.AppendAt
import Derived.Lib.SmallJoins
import Derived.Deep.LoopGhost
set_option linter.all false
set_option linter.unusedSimpArgs false
set_option linter.unusedVariables false

namespace Go.Proofs.YtpdbmpbmepkikaaGreatDoor
open Go.RowKit

/-- A replica's block. -/
def RepAt (w : World) (p : Nat) (id : Int) (m g : Nat) : Prop := w.heap[p]? = some (.cells #[.int .i64 id, .map (some m), .map (some g)] 110 (0, 0))
theorem RepAt.cell {w : World} {p : Nat} {id : Int} {m g : Nat} (h : RepAt w p id m g) : w.cell? ⟨p, 0, none⟩ = some (.int .i64 id) ∧ w.cell? ⟨p, 1, none⟩ = some (.map (some m)) ∧ w.cell? ⟨p, 2, none⟩ = some (.map (some g)) :=
  ⟨Joins.cell_of_block h 0, Joins.cell_of_block h 1, Joins.cell_of_block h 2⟩
theorem RepAt.lt {w : World} {p : Nat} {id : Int} {m g : Nat} (h : RepAt w p id m g) : p < w.heap.size := (Array.getElem?_eq_some_iff.1 h).1

theorem fault_any (k : Int) (what : ByteArray) (w : World) :
    Calls Tryz.prog 65 #[.int .i64 k, .string what] w fun e w' => e = .returned (.iface 132 (.pointer (some ⟨w.heap.size, 0, none⟩))) ∧ w' = w.alloc (.cells #[.int .i64 k, .string what] 137) := by
  go_enter Tryz.func65, Tryz.ntmps65
  go_wp2
  go_ret
  exact ⟨rfl, rfl⟩

/-- What a write keeps: the replica, its book; nothing else that was there has changed. -/
structure WrAt (p : Nat) (id : Int) (m g : Nat) (L : List Reg) (w0 W : World) : Prop where
  rep : RepAt W p id m g
  book : BookAt W m L
  below : Below w0.heap.size w0 W
  lt : p < w0.heap.size ∧ m < w0.heap.size
theorem WrAt_drew {p : Nat} {id : Int} {m g : Nat} {L : List Reg} {w0 W : World} : WrAt p id m g L w0 W.drew ↔ WrAt p id m g L w0 W :=
  ⟨fun h => ⟨h.1, h.2.of_block rfl, ⟨h.below.os, h.below.tape, h.below.output, h.below.size, h.below.block⟩, h.lt⟩, fun h => ⟨h.1, h.2.of_block rfl, ⟨h.below.os, h.below.tape, h.below.output, h.below.size, h.below.block⟩, h.lt⟩⟩
theorem WrAt.later {p : Nat} {id : Int} {m g : Nat} {L : List Reg} {w0 W W' : World} (h : WrAt p id m g L w0 W) (hb : Below W.heap.size W W') : WrAt p id m g L w0 W' :=
  ⟨(hb.block p h.rep.lt).trans h.rep, h.book.below hb, h.below.trans (hb.mono h.below.size), h.lt⟩
theorem WrAt.setCell {p : Nat} {id : Int} {m g : Nat} {L : List Reg} {w0 W : World} (h : WrAt p id m g L w0 W) (a : Addr) (v : Value) (ha : w0.heap.size ≤ a.block) : WrAt p id m g L w0 (W.setCell a v) :=
  ⟨(Below.heap_setCell _ _ _ _ (by have := h.lt; omega)).trans h.rep, h.book.of_block (Below.heap_setCell _ _ _ _ (by have := h.lt; omega)), ⟨h.below.os, h.below.tape, h.below.output, by simpa [World.setCell] using h.below.size, fun b hb => (Below.heap_setCell _ _ _ _ (by omega)).trans (h.below.block b hb)⟩, h.lt⟩

theorem RepAt.ne {w : World} {p : Nat} {id : Int} {m g : Nat} {L : List Reg} (h : RepAt w p id m g) (hB : BookAt w m L) : p ≠ m := by
  rintro rfl
  obtain ⟨en, clock, hb, _⟩ := hB
  unfold RepAt at h
  rw [h] at hb; cases hb

attribute [local simp] WrAt_drew in
theorem write_any (p : Nat) (id : Int) (m g : Nat) (L : List Reg) (n f v : ByteArray) (c r : Int) (w : World) (hR : RepAt w p id m g) (hB : BookAt w m L) (hn : n.size ≤ 4096) (hf : f.size ≤ 4096) (hc : clockL L < 9223372036854775807) :
    Calls Tryz.prog 66 #[.pointer (some ⟨p, 0, none⟩), .agg #[.string n, .string f, .int .i64 c, .int .i64 r, .string v]] w fun e w' => e = .returned (.tuple #[]) ∧ BookAt w' m (takeL L ⟨n, f, clockL L + 1, id, v⟩) ∧ Keep (fun b => b = m) w w' := by
  have hpl := hR.lt
  have hml := hB.lt
  have h0 := clockL_nonneg L
  obtain ⟨k, hk⟩ : ∃ k, k = clockL L := ⟨_, rfl⟩
  obtain ⟨w1, hw1⟩ : ∃ w1, w1 = w.alloc (.cells #[.string n, .string f, .int .i64 c, .int .i64 r, .string v] 46) := ⟨_, rfl⟩
  have hW : WrAt p id m g L w w1 := by rw [hw1]; exact ⟨(Below.heap_alloc _ _ _ hpl).trans hR, hB.alloc _, (Below.refl _ _).alloc (Nat.le_refl _) _, hpl, hml⟩
  have hp0 : ∀ W, WrAt p id m g L w W → W.cell? ⟨p, 0, none⟩ = some (.int .i64 id) := fun W h => h.rep.cell.1
  have hp1 : ∀ W, WrAt p id m g L w W → W.cell? ⟨p, 1, none⟩ = some (.map (some m)) := fun W h => h.rep.cell.2.1
  have hclock : ∀ W, WrAt p id m g L w W → w.heap.size < W.heap.size → Calls Tryz.prog 118 #[.map (some m)] W fun e W' => e = .returned (.int .i64 k) ∧ WrAt p id m g L w W' ∧ (∀ o, W'.cell? ⟨w.heap.size, o, none⟩ = W.cell? ⟨w.heap.size, o, none⟩) ∧ (∀ o, W'.frozen? ⟨w.heap.size, o, none⟩ = W.frozen? ⟨w.heap.size, o, none⟩) := fun W h hz =>
    (clock_any m L W h.book).mono fun e W' x => ⟨hk ▸ x.1, h.later x.2, fun o => (bcell x.2).1 _ _ hz, fun o => (bcell x.2).2 _ _ hz⟩
  have HC := Lib.hid hclock
  have hwrap : IntKind.i64.wrap (k + 1) = k + 1 := by rw [hk, IntKind.wrap_i64]; omega
  have hzw : w.heap.size < w1.heap.size := by rw [hw1]; simp
  have HB1 := Lib.hid hw1
  have HK := Lib.hid (show Reg.Ok ⟨n, f, k + 1, id, v⟩ from ⟨hn, hf⟩)
  have HK2 := Lib.hid hk
  clear hR hB hk hc h0 hclock hn hf
  have hN : w1.heap[w.heap.size]? = some (.cells #[.string n, .string f, .int .i64 c, .int .i64 r, .string v] 46 (0, 0)) := by rw [hw1]; exact World.alloc_heap_new _ _
  have c0 : w1.cell? ⟨w.heap.size, 0, none⟩ = some (.string n) := Joins.cell_of_block hN 0
  have c1 : w1.cell? ⟨w.heap.size, 1, none⟩ = some (.string f) := Joins.cell_of_block hN 1
  have c2 : w1.cell? ⟨w.heap.size, 2, none⟩ = some (.int .i64 c) := Joins.cell_of_block hN 2
  have c3 : w1.cell? ⟨w.heap.size, 3, none⟩ = some (.int .i64 r) := Joins.cell_of_block hN 3
  have c4 : w1.cell? ⟨w.heap.size, 4, none⟩ = some (.string v) := Joins.cell_of_block hN 4
  have hfz : ∀ i, w1.frozen? ⟨w.heap.size, i, none⟩ = false := fun i => Joins.unfrozen_of_block hN i
  clear hN hw1
  go_enter Tryz.func66, Tryz.ntmps66
  go_wp2
  rw [← HB1.out]
  go_region_held3 (fun W => WrAt p id m g L w W)
    (((try rw [WrAt_drew]); (repeat first | (refine WrAt.setCell ?_ _ _ (by simp))); first | assumption | (rw [WrAt_drew]; assumption)))
    ((first
      | (go_at_call 118; refine Calls.mono (HC.out _ ?hw ?hz) ?_; (case hw => (try rw [WrAt_drew]); first | assumption | (rw [WrAt_drew]; assumption)); (case hz => exact hzw); rintro e w' ⟨rfl, hl, hq, hqf⟩)))
  rename_i hHeld
  obtain ⟨w2, hw2⟩ : ∃ w2, w2 = (w'.setCell ⟨w.heap.size, 2, none⟩ (.int .i64 (k + 1))).setCell ⟨w.heap.size, 3, none⟩ (.int .i64 id) := ⟨_, rfl⟩
  rw [← hw2] at hHeld ⊢
  have d0 : w2.cell? ⟨w.heap.size, 0, none⟩ = some (.string n) := by rw [hw2]; go_simp
  have d1 : w2.cell? ⟨w.heap.size, 1, none⟩ = some (.string f) := by rw [hw2]; go_simp
  have d2 : w2.cell? ⟨w.heap.size, 2, none⟩ = some (.int .i64 (k + 1)) := by rw [hw2]; go_simp
  have d3 : w2.cell? ⟨w.heap.size, 3, none⟩ = some (.int .i64 id) := by rw [hw2]; go_simp
  have d4 : w2.cell? ⟨w.heap.size, 4, none⟩ = some (.string v) := by rw [hw2]; go_simp
  have e1 : w2.cell? ⟨p, 1, none⟩ = some (.map (some m)) := hHeld.rep.cell.2.1
  have hzN : w.heap.size < w2.heap.size := World.block_lt_of_cell? w2 _ d0
  have hp2 := hHeld.rep.lt
  have hpm := hHeld.rep.ne hHeld.book
  have hNm : w.heap.size ≠ m := by omega
  have HH := Lib.hid hHeld
  obtain ⟨L', hL'⟩ : ∃ L', L' = takeL L ⟨n, f, k + 1, id, v⟩ := ⟨_, rfl⟩
  have hcall : Calls Tryz.prog 101 #[.map (some m), .agg #[.string n, .string f, .int .i64 (k + 1), .int .i64 id, .string v]] w2.drew fun e W' => e = .returned (.tuple #[]) ∧ Hid (BookAt W' m L' ∧ Keep (fun b => b = m) w2.drew W') ∧ (∀ o, W'.cell? ⟨w.heap.size, o, none⟩ = w2.drew.cell? ⟨w.heap.size, o, none⟩) ∧ (∀ o, W'.cell? ⟨p, o, none⟩ = w2.drew.cell? ⟨p, o, none⟩) :=
    (take_any ⟨n, f, k + 1, id, v⟩ HK.out m L w2.drew (hHeld.book.of_block rfl)).mono fun e W' x => ⟨x.1, Lib.hid ⟨hL' ▸ x.2.1, x.2.2⟩, fun o => x.2.2.cell (p := ⟨_, _, none⟩) hzN hNm, fun o => x.2.2.cell (p := ⟨_, _, none⟩) hp2 hpm⟩
  have HC2 := Lib.hid hcall
  have HL' := Lib.hid hL'
  clear hcall hL' hq hqf hl hw2 HC c0 c1 c2 c3 c4 hfz hHeld hW hp0 hp1
  go_wp2
  go_region_held3 (fun W => W.cell? ⟨w.heap.size, 0, none⟩ = some (.string n) ∧ W.cell? ⟨w.heap.size, 1, none⟩ = some (.string f) ∧ W.cell? ⟨w.heap.size, 2, none⟩ = some (.int .i64 (k + 1)) ∧ W.cell? ⟨w.heap.size, 3, none⟩ = some (.int .i64 id) ∧ W.cell? ⟨w.heap.size, 4, none⟩ = some (.string v) ∧ W.cell? ⟨p, 1, none⟩ = some (.map (some m)))
    (go_keep)
    ((first
      | (go_at_call 101; refine Calls.mono HC2.out ?_; rintro e w3 ⟨rfl, hx, hq, hqf⟩)))
  go_wp2
  go_end0
  obtain ⟨hx1, hx2⟩ := hx.out
  refine ⟨rfl, ?_, ?_⟩
  · rw [← HK2.out]; exact HL'.out ▸ hx1
  · exact (Keep.of_below' (F := fun b => b = m) HH.out.below).trans ((Keep.drew _ _).trans hx2)
end Go.Proofs.YtpdbmpbmepkikaaGreatDoor

namespace Go.Proofs.YtpdbmpbmepkikaaGreatDoor
open Go.RowKit

/-- An error value: what it says. -/
def ErrAt (w : World) (v : Value) (k : Int) (s : ByteArray) : Prop :=
  (v = .nilIface ∧ k = 0 ∧ s = ⟨#[]⟩) ∨ ∃ q, v = .iface 132 (.pointer (some ⟨q, 0, none⟩)) ∧ w.heap[q]? = some (.cells #[.int .i64 k, .string s] 137 (0, 0)) ∧ 1 ≤ k ∧ k ≤ 5

/-- The program's Put, and Delete. -/
def putP (L : List Reg) (id : Int) (n f v : ByteArray) : List Reg × Int × ByteArray :=
  if smallB n 8 then (if smallB f 4 then (if 20 < v.size then (L, 3, v) else (takeL L ⟨n, f, clockL L + 1, id, v⟩, 0, ⟨#[]⟩)) else (L, 2, f)) else (L, 1, n)
def deleteP (L : List Reg) (id : Int) (n : ByteArray) : List Reg × Int × ByteArray :=
  if smallB n 8 then (if (shownL L n).isEmpty then (L, 4, n) else (takeL L ⟨n, ⟨#[]⟩, clockL L + 1, id, ⟨#[]⟩⟩, 0, ⟨#[]⟩)) else (L, 1, n)
theorem smallB_size {s : ByteArray} {k : Nat} (h : smallB s k = true) : s.size ≤ k := by
  simp only [smallB, Bool.and_eq_true, decide_eq_true_eq] at h; exact h.2

/-- Behind a call that says an error. -/
theorem err_end {m : Nat} {k : Int} {L : List Reg} {w W w' : World} {s : ByteArray} (hB : BookAt w m L) (hb : Below w.heap.size w W) (hw : w' = W.alloc (.cells #[.int .i64 k, .string s] 137)) (h1 : 1 ≤ k) (h5 : k ≤ 5) :
    ErrAt w' (.iface 132 (.pointer (some ⟨W.heap.size, 0, none⟩))) k s ∧ BookAt w' m L ∧ Keep (fun b => b = m) w w' := by
  subst hw
  exact ⟨.inr ⟨_, rfl, World.alloc_heap_new _ _, by omega, by omega⟩, (hB.below hb).alloc _, (Keep.of_below' hb).trans (Keep.alloc _ _ _)⟩

theorem put_any (p : Nat) (id : Int) (m g : Nat) (L : List Reg) (n f v : ByteArray) (w : World) (hR : RepAt w p id m g) (hB : BookAt w m L) (hn : n.size ≤ 65536) (hf : f.size ≤ 65536) (hc : clockL L < 9223372036854775807) :
    Calls Tryz.prog 43 #[.pointer (some ⟨p, 0, none⟩), .string n, .string f, .string v] w fun e w' => ∃ ev, e = .returned ev ∧ ErrAt w' ev (putP L id n f v).2.1 (putP L id n f v).2.2 ∧ BookAt w' m (putP L id n f v).1 ∧ Keep (fun b => b = m) w w' := by
  have C1 : Hid (Calls Tryz.prog 64 #[.string n, .int .i64 8] w fun e w' => e = .returned (.bool (smallB n 8)) ∧ Below w.heap.size w w') := Lib.hid (is_any n 8 w hn (by omega))
  have C2 : Hid (∀ W, Calls Tryz.prog 64 #[.string f, .int .i64 4] W fun e w' => e = .returned (.bool (smallB f 4)) ∧ Below W.heap.size W w') := Lib.hid fun W => is_any f 4 W hf (by omega)
  have C3 : Hid (∀ k s W, Calls Tryz.prog 65 #[.int .i64 k, .string s] W fun e w' => e = .returned (.iface 132 (.pointer (some ⟨W.heap.size, 0, none⟩))) ∧ w' = W.alloc (.cells #[.int .i64 k, .string s] 137)) := Lib.hid fault_any
  have HB := Lib.hid hB
  have HR := Lib.hid hR
  have HC := Lib.hid hc
  clear hB hR hc hn hf
  cases h1 : smallB n 8 with
  | false =>
    have hp : putP L id n f v = (L, 1, n) := by simp [putP, h1]
    rw [h1] at C1
    rw [hp]
    clear hp h1
    go_enter Tryz.func43, Tryz.ntmps43
    go_wp2_with (first
      | (go_at_call 64; with_reducible refine C1.out.mono ?_; rintro e w1 ⟨rfl, hb1⟩)
      | (go_at_call 65; refine (C3.out _ _ _).mono ?_; rintro e w2 ⟨rfl, hw2⟩))
    go_ret
    exact ⟨_, rfl, err_end (k := 1) HB.out hb1 (by first | exact hw2 | rfl) (by omega) (by omega)⟩
  | true =>
    rw [h1] at C1
    cases h2 : smallB f 4 with
    | false =>
      have hp : putP L id n f v = (L, 2, f) := by simp [putP, h1, h2]
      rw [h2] at C2
      rw [hp]
      clear hp h1 h2
      go_enter Tryz.func43, Tryz.ntmps43
      go_wp2_with (first
        | (go_at_call 64; with_reducible refine C1.out.mono ?_; rintro e w1 ⟨rfl, hb1⟩)
        | (go_at_call 64; with_reducible refine (C2.out _).mono ?_; rintro e w2 ⟨rfl, hb2⟩)
        | (go_at_call 65; refine (C3.out _ _ _).mono ?_; rintro e w3 ⟨rfl, hw3⟩))
      go_ret
      exact ⟨_, rfl, err_end (k := 2) HB.out (hb1.trans (hb2.mono hb1.size)) (by first | exact hw3 | rfl) (by omega) (by omega)⟩
    | true =>
      rw [h2] at C2
      by_cases h3 : 20 < v.size
      · have hp : putP L id n f v = (L, 3, v) := by simp [putP, h1, h2, h3]
        rw [hp]
        clear hp h1 h2
        go_enter Tryz.func43, Tryz.ntmps43
        go_wp2_with (first
          | (go_at_call 64; with_reducible refine C1.out.mono ?_; rintro e w1 ⟨rfl, hb1⟩)
          | (go_at_call 64; with_reducible refine (C2.out _).mono ?_; rintro e w2 ⟨rfl, hb2⟩)
          | (go_at_call 65; refine (C3.out _ _ _).mono ?_; rintro e w3 ⟨rfl, hw3⟩))
        go_ret
        exact ⟨_, rfl, err_end (k := 3) HB.out (hb1.trans (hb2.mono hb1.size)) (by first | exact hw3 | rfl) (by omega) (by omega)⟩
      · have hp : putP L id n f v = (takeL L ⟨n, f, clockL L + 1, id, v⟩, 0, ⟨#[]⟩) := by simp [putP, h1, h2, h3]
        have C4 : Hid (∀ W, Below w.heap.size w W → Calls Tryz.prog 66 #[.pointer (some ⟨p, 0, none⟩), .agg #[.string n, .string f, .int .i64 0, .int .i64 0, .string v]] W fun e w' => e = .returned (.tuple #[]) ∧ BookAt w' m (takeL L ⟨n, f, clockL L + 1, id, v⟩) ∧ Keep (fun b => b = m) W w') :=
          Lib.hid fun W hW => write_any p id m g L n f v 0 0 W ((hW.block p HR.out.lt).trans HR.out) (HB.out.below hW) (by have := smallB_size h1; omega) (by have := smallB_size h2; omega) HC.out
        rw [hp]
        clear hp h1 h2
        go_enter Tryz.func43, Tryz.ntmps43
        go_wp2_with (first
          | (go_at_call 64; with_reducible refine C1.out.mono ?_; rintro e w1 ⟨rfl, hb1⟩)
          | (go_at_call 64; with_reducible refine (C2.out _).mono ?_; rintro e w2 ⟨rfl, hb2⟩)
          | (go_at_call 66; refine (C4.out _ (hb1.trans (hb2.mono hb1.size))).mono ?_; rintro e w3 ⟨rfl, hbk, hk⟩))
        go_ret
        exact ⟨_, rfl, .inl ⟨rfl, rfl, rfl⟩, hbk, (Keep.of_below' (hb1.trans (hb2.mono hb1.size))).trans hk⟩

theorem delete_any (p : Nat) (id : Int) (m g : Nat) (L : List Reg) (n : ByteArray) (w : World) (hR : RepAt w p id m g) (hB : BookAt w m L) (hn : n.size ≤ 65536) (hL : L.length ≤ 1073741824) (hc : clockL L < 9223372036854775807) :
    Calls Tryz.prog 46 #[.pointer (some ⟨p, 0, none⟩), .string n] w fun e w' => ∃ ev, e = .returned ev ∧ ErrAt w' ev (deleteP L id n).2.1 (deleteP L id n).2.2 ∧ BookAt w' m (deleteP L id n).1 ∧ Keep (fun b => b = m) w w' := by
  have C1 : Hid (Calls Tryz.prog 64 #[.string n, .int .i64 8] w fun e w' => e = .returned (.bool (smallB n 8)) ∧ Below w.heap.size w w') := Lib.hid (is_any n 8 w hn (by omega))
  have C3 : Hid (∀ k s W, Calls Tryz.prog 65 #[.int .i64 k, .string s] W fun e w' => e = .returned (.iface 132 (.pointer (some ⟨W.heap.size, 0, none⟩))) ∧ w' = W.alloc (.cells #[.int .i64 k, .string s] 137)) := Lib.hid fault_any
  have HB := Lib.hid hB
  have HR := Lib.hid hR
  have HC := Lib.hid hc
  have hpl := hR.lt
  have hp1 := hR.cell.2.1
  clear hB hR hc hn
  cases h1 : smallB n 8 with
  | false =>
    have hp : deleteP L id n = (L, 1, n) := by simp [deleteP, h1]
    rw [h1] at C1
    rw [hp]
    clear hp h1
    go_enter Tryz.func46, Tryz.ntmps46
    go_wp2_with (first
      | (go_at_call 64; with_reducible refine C1.out.mono ?_; rintro e w1 ⟨rfl, hb1⟩)
      | (go_at_call 65; refine (C3.out _ _ _).mono ?_; rintro e w2 ⟨rfl, hw2⟩))
    go_ret
    exact ⟨_, rfl, err_end (k := 1) HB.out hb1 (by first | exact hw2 | rfl) (by omega) (by omega)⟩
  | true =>
    rw [h1] at C1
    have hn := smallB_size h1
    have C2 : Hid (∀ W, Below w.heap.size w W → Calls Tryz.prog 69 #[.map (some m), .string n] W fun e w' => e = .returned (.bool (!(shownL L n).isEmpty)) ∧ Below W.heap.size W w') := Lib.hid fun W hW => alive_any m L n W (HB.out.below hW) hL (by omega)
    cases h2 : (shownL L n).isEmpty with
    | true =>
      have hp : deleteP L id n = (L, 4, n) := by simp [deleteP, h1, h2]
      rw [h2] at C2
      rw [hp]
      clear hp h1 h2
      go_enter Tryz.func46, Tryz.ntmps46
      go_wp2_with (first
        | (go_at_call 64; with_reducible refine C1.out.mono ?_; rintro e w1 ⟨rfl, hb1⟩; have hp2 := (hb1.cell (p := ⟨p, 1, none⟩) hpl).trans hp1)
        | (go_at_call 69; refine (C2.out _ hb1).mono ?_; rintro e w2 ⟨rfl, hb2⟩)
        | (go_at_call 65; refine (C3.out _ _ _).mono ?_; rintro e w3 ⟨rfl, hw3⟩))
      go_ret
      exact ⟨_, rfl, err_end (k := 4) HB.out (hb1.trans (hb2.mono hb1.size)) (by first | exact hw3 | rfl) (by omega) (by omega)⟩
    | false =>
      have hp : deleteP L id n = (takeL L ⟨n, ⟨#[]⟩, clockL L + 1, id, ⟨#[]⟩⟩, 0, ⟨#[]⟩) := by simp [deleteP, h1, h2]
      rw [h2] at C2
      have C4 : Hid (∀ W, Below w.heap.size w W → Calls Tryz.prog 66 #[.pointer (some ⟨p, 0, none⟩), .agg #[.string n, .string ⟨#[]⟩, .int .i64 0, .int .i64 0, .string ⟨#[]⟩]] W fun e w' => e = .returned (.tuple #[]) ∧ BookAt w' m (takeL L ⟨n, ⟨#[]⟩, clockL L + 1, id, ⟨#[]⟩⟩) ∧ Keep (fun b => b = m) W w') :=
        Lib.hid fun W hW => write_any p id m g L n ⟨#[]⟩ ⟨#[]⟩ 0 0 W ((hW.block p HR.out.lt).trans HR.out) (HB.out.below hW) (by omega) (by decide) HC.out
      rw [hp]
      clear hp h1 h2
      go_enter Tryz.func46, Tryz.ntmps46
      go_wp2_with (first
        | (go_at_call 64; with_reducible refine C1.out.mono ?_; rintro e w1 ⟨rfl, hb1⟩; have hp2 := (hb1.cell (p := ⟨p, 1, none⟩) hpl).trans hp1)
        | (go_at_call 69; refine (C2.out _ hb1).mono ?_; rintro e w2 ⟨rfl, hb2⟩)
        | (go_at_call 66; refine (C4.out _ (hb1.trans (hb2.mono hb1.size))).mono ?_; rintro e w3 ⟨rfl, hbk, hk⟩))
      go_ret
      exact ⟨_, rfl, .inl ⟨rfl, rfl, rfl⟩, hbk, (Keep.of_below' (hb1.trans (hb2.mono hb1.size))).trans hk⟩
end Go.Proofs.YtpdbmpbmepkikaaGreatDoor

namespace Go.Proofs.YtpdbmpbmepkikaaGreatDoor
open Go.RowKit

theorem makeMap107 (w : World) : (Instr.makeMap 107 none).run Tryz.prog w = .ok (.map (some w.heap.size)) (w.alloc (.map #[] 0)) := by kernel_rfl
theorem makeMap108 (w : World) : (Instr.makeMap 108 none).run Tryz.prog w = .ok (.map (some w.heap.size)) (w.alloc (.map #[] 0)) := by kernel_rfl
theorem makeMap208 (w : World) : (Instr.makeMap 208 none).run Tryz.prog w = .ok (.map (some w.heap.size)) (w.alloc (.map #[] 0)) := by kernel_rfl

theorem new_any (id : Int) (w : World) :
    Calls Tryz.prog 50 #[.int .i64 id] w fun e w' => e = .returned (.pointer (some ⟨w.heap.size + 2, 0, none⟩)) ∧ RepAt w' (w.heap.size + 2) id w.heap.size (w.heap.size + 1) ∧ BookAt w' w.heap.size [] ∧ MapAt (keI .i64) w' (w.heap.size + 1) [] ∧ Below w.heap.size w w' := by
  have h7 := makeMap107
  have h8 := makeMap108
  go_enter Tryz.func50, Tryz.ntmps50
  go_wp2
  go_ret
  refine ⟨rfl, ?_, ?_, ?_, (((Below.refl _ _).alloc (Nat.le_refl _) _).alloc (by simp) _).alloc (by simp; omega) _⟩
  · have := World.alloc_heap_new ((w.alloc (.map #[] 0)).alloc (.map #[] 0)) (.cells #[.int .i64 id, .map (some w.heap.size), .map (some (w.heap.size + 1))] 110)
    rw [World.size_alloc, World.size_alloc] at this
    exact this
  · exact ((MapAt.new keS w).alloc _).alloc _
  · have := (MapAt.new (keI .i64) (w.alloc (.map #[] 0))).alloc (.cells #[.int .i64 id, .map (some w.heap.size), .map (some (w.heap.size + 1))] 110)
    rw [World.size_alloc] at this
    exact this

theorem digestR_any (p : Nat) (id : Int) (m g : Nat) (L : List Reg) (pfx : ByteArray) (w : World) (hR : RepAt w p id m g) (hB : BookAt w m L) (hL : L.length ≤ 1073741824) (ht : Tab w) (hF : ∀ x ∈ L, Fit x) :
    Calls Tryz.prog 38 #[.pointer (some ⟨p, 0, none⟩), .string pfx] w fun e w' => e = .returned (digV (hashL (belowL L pfx))) ∧ Below w.heap.size w w' := by
  have hpl := hR.lt
  have h1 := hR.cell.2.1
  have HC : Hid (Calls Tryz.prog 51 #[.map (some m), .string pfx] (w.alloc (.cells #[.int .u8 0, .int .u8 0, .int .u8 0, .int .u8 0, .int .u8 0, .int .u8 0, .int .u8 0, .int .u8 0] 76)) _) := Lib.hid (digest_any m L pfx _ (hB.alloc _) hL (ht.keep (Keep.alloc (fun _ => False) _ _) (fun h => h)) hF)
  obtain ⟨h, hh⟩ : ∃ h, h = hashL (belowL L pfx) := ⟨_, rfl⟩
  rw [← hh] at HC ⊢
  clear hR hB hL ht hF hh
  go_enter Tryz.func38, Tryz.ntmps38
  go_wp2_with (go_at_call 51; refine HC.out.mono ?_; rintro e w1 ⟨rfl, hb⟩; refine Halt.of ?_)
  have hb0 : w1.heap[w.heap.size]? = some (.cells #[.int .u8 0, .int .u8 0, .int .u8 0, .int .u8 0, .int .u8 0, .int .u8 0, .int .u8 0, .int .u8 0] 76 (0, 0)) := (hb.block _ (by simp)).trans (World.alloc_heap_new _ _)
  have a0 : w1.cell? ⟨w.heap.size, 0, none⟩ = some (.int .u8 0) := Joins.cell_of_block hb0 0
  have a1 : w1.cell? ⟨w.heap.size, 1, none⟩ = some (.int .u8 0) := Joins.cell_of_block hb0 1
  have a2 : w1.cell? ⟨w.heap.size, 2, none⟩ = some (.int .u8 0) := Joins.cell_of_block hb0 2
  have a3 : w1.cell? ⟨w.heap.size, 3, none⟩ = some (.int .u8 0) := Joins.cell_of_block hb0 3
  have a4 : w1.cell? ⟨w.heap.size, 4, none⟩ = some (.int .u8 0) := Joins.cell_of_block hb0 4
  have a5 : w1.cell? ⟨w.heap.size, 5, none⟩ = some (.int .u8 0) := Joins.cell_of_block hb0 5
  have a6 : w1.cell? ⟨w.heap.size, 6, none⟩ = some (.int .u8 0) := Joins.cell_of_block hb0 6
  have a7 : w1.cell? ⟨w.heap.size, 7, none⟩ = some (.int .u8 0) := Joins.cell_of_block hb0 7
  have hfr : ∀ i, w1.frozen? ⟨w.heap.size, i, none⟩ = false := fun i => Joins.unfrozen_of_block hb0 i
  have HB := Lib.hid (And.intro hb0 hb)
  clear HC hb0 hb
  unfold digV
  unfold Halt
  go_wp2
  generalize hWF : World.setCell _ _ _ = WF
  have hA : ArrAt w.heap.size 76 w1 _ WF := hWF ▸ (((((((((ArrAt.mk HB.out.1 (Keep.refl _ _)).set 0 _).set 1 _).set 2 _).set 3 _).set 4 _).set 5 _).set 6 _).set 7 _)
  clear hWF
  obtain ⟨hAb, hAk⟩ := hA
  simp only [List.setIfInBounds_toArray, List.set_cons_zero, List.set_cons_succ] at hAb
  refine bodyPost_ret (results_cell_row rfl _ _ w.heap.size 76 _ (0, 0) _ rfl hAb Tryz.underlying76 rfl (by kernel_rfl)) rfl ?_
  exact ⟨rfl, below_keep (((Below.refl _ _).alloc (Nat.le_refl _) _).trans (HB.out.2.mono (by simp))) hAk (fun x hx e => by omega)⟩

theorem registers_any (p : Nat) (id : Int) (m g : Nat) (w : World) (hR : RepAt w p id m g) :
    Calls Tryz.prog 39 #[.pointer (some ⟨p, 0, none⟩)] w fun e w' => e = .returned (.func (.func 85) #[] #[.pointer (some ⟨w.heap.size, 0, none⟩), .pointer (some ⟨w.heap.size + 1, 0, none⟩)]) ∧ w' = (w.alloc (.cells #[.map (some m)] 107)).alloc (.cells #[.string ⟨#[]⟩] 9) := by
  have hpl := hR.lt
  have h1 := hR.cell.2.1
  clear hR
  go_enter Tryz.func39, Tryz.ntmps39
  go_wp2_with (go_at_call 52; refine (below_any m _ _).mono ?_; rintro e w1 ⟨rfl, hw1⟩)
  go_ret
  exact ⟨rfl, by first | exact hw1 | rfl⟩
end Go.Proofs.YtpdbmpbmepkikaaGreatDoor

namespace Go.Proofs.YtpdbmpbmepkikaaGreatDoor
open Go.RowKit
attribute [local go_sem] Oper.semAt_some

theorem put_mem {es : List (ByteArray × Value)} {k : ByteArray} {v : Value} {p : ByteArray × Value} (h : p ∈ put es k v) : p = (k, v) ∨ p ∈ es := by
  induction es with
  | nil => simpa [put] using h
  | cons q l ih =>
    unfold put at h
    split at h
    · simp at h ⊢
      rcases h with h | h <;> simp_all
    · simp at h ⊢
      rcases h with h | h
      · simp [h]
      · rcases ih h with h | h <;> simp [h]
theorem MapAt.nodup {w : World} {m : Nat} {es : List (ByteArray × Value)} (h : MapAt keS w m es) : (es.map (·.1)).Nodup := by
  obtain ⟨en, clock, _, hr⟩ := h
  exact hr.nodup

theorem valuesM_any (m : Nat) (w : World) : Calls Tryz.prog 122 #[.map (some m)] w fun e w' => e = .returned (.func (.func 184) #[] #[.pointer (some ⟨w.heap.size, 0, none⟩)]) ∧ w' = w.alloc (.cells #[.map (some m)] 107) := by
  go_enter Tryz.func122, Tryz.ntmps122
  go_wp2
  go_ret
  exact ⟨rfl, rfl⟩
theorem keysM_any (m : Nat) (w : World) : Calls Tryz.prog 124 #[.map (some m)] w fun e w' => e = .returned (.func (.func 187) #[] #[.pointer (some ⟨w.heap.size, 0, none⟩)]) ∧ w' = w.alloc (.cells #[.map (some m)] 208) := by
  go_enter Tryz.func124, Tryz.ntmps124
  go_wp2
  go_ret
  exact ⟨rfl, rfl⟩
theorem zero3 (w : World) : (zeroValue 3).run Tryz.prog w = .ok (.int .i64 0) w := by kernel_rfl

/-- The names counted so far. -/
structure NmI (N : Nat) (pre : List Reg) (W : World) (D : Nat → Prop) (es : List (ByteArray × Value)) : Prop where
  map : MapAt keS W N es
  keys : ∀ x, x ∈ es.map (·.1) ↔ ∃ y ∈ pre, y.name = x
  vals : ∀ p ∈ es, ∃ z, p.2 = .int .i64 z
  box : W.heap[N + 1]? = some (.cells #[.map (some N)] 208 (0, 0))
  dom : D = fun b => b = N ∨ b = N + 1
theorem NmI.owned (N : Nat) : Owned (fun pre W D => ∃ es, NmI N pre W D es) := ⟨fun pre W D ⟨es, h⟩ b hb => by
    rw [h.dom] at hb
    rcases hb with rfl | rfl
    · exact h.map.lt
    · exact (Array.getElem?_eq_some_iff.1 h.box).1,
  fun pre W D W' ⟨es, h⟩ ha => ⟨es, h.map.of_block (ha.block _ (by rw [h.dom]; simp)), h.keys, h.vals, (ha.block _ (by rw [h.dom]; simp)).trans h.box, h.dom⟩⟩
theorem look_int {es : List (ByteArray × Value)} (h : ∀ p ∈ es, ∃ z, p.2 = .int .i64 z) (k : ByteArray) : ∃ z, (look es k).getD (.int .i64 0) = .int .i64 z := by
  induction es with
  | nil => exact ⟨0, rfl⟩
  | cons q l ih =>
    unfold look
    split
    · obtain ⟨z, hz⟩ := h q (by simp); exact ⟨z, by simpa using hz⟩
    · exact ih fun p hp => h p (by simp [hp])

theorem names_any (m : Nat) (L : List Reg) (w : World) (hB : BookAt w m L) (hL : L.length ≤ 1073741824) :
    Calls Tryz.prog 70 #[.map (some m)] w fun e w' => ∃ v xs, e = .returned v ∧ xs.Nodup ∧ (∀ n, n ∈ xs ↔ ∃ y ∈ L, y.name = n) ∧ w'.ownsRow w.heap.size 9 1 v xs.length ((sortB xs).map .string) ∧ Below w.heap.size w w' := by
  have hml := hB.lt
  have h8 := makeMap208
  refine (callsIn_wide (n := 0)).1 (callsIn_of_wp_marks Tryz.func70 rfl trivial ?_ rfl)
  simp only [Tryz.ntmps70, List.size_toArray, List.length_cons, List.length_nil, Nat.reduceAdd, Nat.reduceSub, Array.replicate_succ, Array.replicate_zero, List.push_toArray, List.append_toArray, List.nil_append, List.cons_append]
  have HB := Lib.hid hB
  clear hB
  gi_wp2_with (gi_at_call 122; refine (callsIn_wide.2 (valuesM_any m _)).mono ?_; rintro e w1 ⟨rfl, hw1⟩; have HW := Lib.hid hw1; clear hw1)
  have hbel : Below w.heap.size w w1 := by rw [HW.out]; exact (((Below.refl _ _).alloc (Nat.le_refl _) _).alloc (by simp) _).alloc (by simp; omega) _
  have hz1 : w1.heap.size = w.heap.size + 3 := by rw [HW.out]; simp
  have hB1 : BookAt w1 m L := HB.out.below hbel
  have hM1 : MapAt keS w1 w.heap.size [] := by rw [HW.out]; exact ((MapAt.new keS w).alloc _).alloc _
  have hb1 : w1.heap[w.heap.size + 1]? = some (.cells #[.map (some w.heap.size)] 208 (0, 0)) := by rw [HW.out]; simp only [World.alloc]; grind
  have hc2 : w1.cell? ⟨w.heap.size + 1 + 1, 0, none⟩ = some (.map (some m)) := by rw [HW.out]; go_simp
  have hit := mapVals1_iter (w.heap.size + 1 + 1) m L w1 hc2 hB1
  refine wp_rangeFunc (gf := 184) (lb := #[.pointer (some ⟨w.heap.size + 1 + 1, 0, none⟩)]) rfl (callFunc_run Tryz.func184 rfl (by decide)) hit (fun b hb => by rcases hb with rfl | rfl <;> omega) (fun _ => rfl)
    (fun pre W D => ∃ es, NmI w.heap.size pre W D es) (fun _ _ _ _ => False) (NmI.owned _) (fun _ => ⟨fun _ _ _ h => h.elim, fun _ _ _ _ h => h.elim⟩)
    (fun b => b = w.heap.size ∨ b = w.heap.size + 1) (fun b hb => ?idis) ⟨[], hM1, by simp, by simp, hb1, rfl⟩ ?round ?done ?stop
  case idis => rcases hb with rfl | rfl <;> rintro (h | h) <;> omega
  case stop => exact fun _ _ _ _ _ h => h.elim
  case done =>
    rintro xs W D hxs ⟨es, hI⟩ hLf hK hDK
    have hq := hI.box
    have hd := hI.dom
    subst hd
    have hN1 := (Array.getElem?_eq_some_iff.1 hq).1
    have q0 : W.cell? ⟨w.heap.size + 1, 0, none⟩ = some (.map (some w.heap.size)) := Joins.cell_of_block hq 0
    have hbW : Below w.heap.size w W := hLf.below hbel (fun b hb => by rcases hb with rfl | rfl <;> omega)
    have hlen : es.length ≤ 1073741824 := by
      have h1 := (hI.map.nodup).length_le_of_subset (l₂ := L.map (·.name)) (fun a ha => by
        obtain ⟨y, hy, rfl⟩ := (hI.keys a).1 ha
        exact List.mem_map_of_mem (hxs.subset hy))
      simp at h1; omega
    have hS : Hid (∀ v w2, w2.ownsRow W.heap.size 9 1 v es.length ((sortB (es.map (·.1))).map .string) → Below W.heap.size W w2 → ∀ xs : List ByteArray, xs = es.map (·.1) → (w2.putObj w1.heap.size (.deferred none)).ownsRow w.heap.size 9 1 v xs.length ((sortB xs).map .string) ∧ xs.Nodup ∧ (∀ n, n ∈ xs ↔ ∃ y ∈ L, y.name = n) ∧ Below w.heap.size w (w2.putObj w1.heap.size (.deferred none)) ∧ w2.heap[w1.heap.size]? = some (.deferred (some []))) := Lib.hid fun v w2 ho hb xs hx => by
      subst hx
      have hKl := (Array.getElem?_eq_some_iff.1 hK).1
      refine ⟨?_, hI.map.nodup, fun n => ?_, below_putObj (hbW.trans (hb.mono hbW.size)) (by omega) _, (hb.block _ hKl).trans hK⟩
      · rw [List.length_map]
        exact ownsRow_block (ownsRow_base ho fun g hg => by have := (ho.lt g hg).1; have := hbW.size; omega) fun g hg => World.putObj_heap_other (by have := (ho.lt g hg).1; omega)
      · rw [hI.keys]
        exact ⟨fun ⟨y, hy, e⟩ => ⟨y, hxs.subset hy, e⟩, fun ⟨y, hy, e⟩ => ⟨y, hxs.symm.subset hy, e⟩⟩
    have hM := Lib.hid hI.map
    have HLen := Lib.hid hlen
    clear hit hbel hB1 hM1 hb1 hc2 hI hxs hLf hK hDK hbW hlen hq
    gi_wp2_with (first
      | (gi_at_call 124; refine (callsIn_wide.2 (keysM_any w.heap.size _)).mono ?_; rintro e w2 ⟨rfl, hw2⟩; have HW2 := Lib.hid hw2; clear hw2; refine Halt.of ?_))
    have hw2 := HW2.out
    have hM2 : MapAt keS w2 w.heap.size es := by rw [hw2]; exact hM.out.alloc _
    have hz2 : w2.heap.size = W.heap.size + 1 := by rw [hw2]; simp
    have hb2 : Below W.heap.size W w2 := by rw [hw2]; exact (Below.refl _ _).alloc (Nat.le_refl _) _
    have hc2 : w2.cell? ⟨W.heap.size, 0, none⟩ = some (.map (some w.heap.size)) := by rw [hw2]; go_simp
    have HC := Lib.hid (sortedS_any 187 #[.pointer (some ⟨W.heap.size, 0, none⟩)] _ _ w2 (callFunc_run Tryz.func187 rfl (by decide)) (mapKeys1_iter W.heap.size w.heap.size es hM.out.nodup w2 hc2 hM2) (fun b hb => by rcases hb with rfl | rfl <;> omega) (fun xs hx => by rw [hx.length_eq, List.length_map]; exact HLen.out))
    have HB2 := Lib.hid hb2
    clear hM2 hb2 hc2 hw2 HW2
    unfold Halt
    gi_wp2_with (first
      | (gi_at_call 123; go_must (refine (callsIn_wide.2 HC.out).mono ?_); rintro e w3 ⟨xs, v, rfl, hp, ho, hb3⟩; refine Halt.of ?_))
    have hlx : xs.length = es.length := by rw [hp.length_eq, List.length_map]
    rw [sortB_perm hp, hlx] at ho
    have hF := Lib.hid (hS.out v w3 (ownsRow_base ho fun g hg => by have := (ho.lt g hg).1; omega) (HB2.out.trans (hb3.mono HB2.out.size)) _ rfl)
    rw [hz1] at hF
    clear hp ho hb3 hlx HC hS
    unfold Halt
    gi_wp2
    refine ⟨by simp, .inl ⟨_, _, rfl, run_takeDeferred hF.out.2.2.2.2, ?_⟩⟩
    exact ⟨_, results_tmp rfl _ _ _, v, _, rfl, hF.out.2.1, hF.out.2.2.1, hF.out.1, hF.out.2.2.2.1⟩
  case round =>
    rintro l pre ⟨xn, xf, xc, xr, xv⟩ W D hl1 hl2 hDl ⟨suf, hS⟩ ⟨es, hI⟩ hD0
    unfold Reg.val
    have HI := Lib.hid hI
    have hN1 := (Array.getElem?_eq_some_iff.1 hI.box).1
    have hd := hI.dom
    subst hd
    clear hit hbel hB1 hM1 hb1 hc2 hI hS
    gi_wp2
    refine ⟨⟨Keep.alloc _ _ _, fun b hb => hb.imp id (·.1)⟩, fun W2 hbut => ?_⟩
    have hcl : W2.heap[W.heap.size]? = some (.cells #[.string xn, .string xf, .int .i64 xc, .int .i64 xr, .string xv] 46 (0, 0)) := (hbut.block _ (by omega)).trans (World.alloc_heap_new _ _)
    have c0 : W2.cell? ⟨W.heap.size, 0, none⟩ = some (.string xn) := Joins.cell_of_block hcl 0
    have kb : ∀ b, (b = w.heap.size ∨ b = w.heap.size + 1) → W2.heap[b]? = W.heap[b]? := fun b hb => (hbut.block b (fun e => hDl (e ▸ hb))).trans (Below.heap_alloc _ _ _ (by rcases hb with rfl | rfl <;> omega))
    have hM2 : MapAt keS W2 w.heap.size es := HI.out.map.of_block (kb _ (.inl rfl))
    have hb2 : W2.heap[w.heap.size + 1]? = some (.cells #[.map (some w.heap.size)] 208 (0, 0)) := (kb _ (.inr rfl)).trans HI.out.box
    have q0 : W2.cell? ⟨w.heap.size + 1, 0, none⟩ = some (.map (some w.heap.size)) := Joins.cell_of_block hb2 0
    obtain ⟨z, hz⟩ := look_int HI.out.vals xn
    have HZ := Lib.hid hz
    have HM := Lib.hid (And.intro hM2 hb2)
    have hsz2 : W2.heap.size = W.heap.size + 1 := by rw [hbut.size]; simp
    clear hcl kb hM2 hb2 hz hbut
    gi_wp2_with (first
      | (gi_at_lookup; refine wpListIn_look _ keS rfl _ _ 208 rfl 9 3 Tryz.underlying208 Tryz.underlying9 _ (zero3 _) w.heap.size es xn rfl HM.out.1 rfl ?_; rw [HZ.out])
      | (gi_at_mapUpdate; refine wpListIn_upd _ keS rfl _ _ _ 208 rfl 9 3 Tryz.underlying208 Tryz.underlying9 w.heap.size es xn _ rfl HM.out.1 rfl rfl ?_; intro w3 hM3 hk3 hs3))
    refine ⟨_, ⟨put es xn _, hM3, fun x => ?_, fun p hp => ?_, (hk3.block _ (by omega) (by omega)).trans HM.out.2, rfl⟩, hk3.mono (fun b _ h => .inl (.inl h)), fun b hb => .inl (.inl hb)⟩
    · rw [put_keys_mem, HI.out.keys]
      constructor
      · rintro (h | ⟨y, hy, rfl⟩)
        · exact ⟨⟨xn, xf, xc, xr, xv⟩, by simp, h.symm⟩
        · exact ⟨y, by simp [hy], rfl⟩
      · rintro ⟨y, hy, rfl⟩
        rcases List.mem_append.1 hy with hy | hy
        · exact .inr ⟨y, hy, rfl⟩
        · rw [List.mem_singleton.1 hy]; exact .inl rfl
    · rcases put_mem hp with rfl | hp
      · exact ⟨_, rfl⟩
      · exact HI.out.vals p hp
end Go.Proofs.YtpdbmpbmepkikaaGreatDoor

namespace Go.Proofs.YtpdbmpbmepkikaaGreatDoor
open Go.RowKit

theorem toList_ne {a b : ByteArray} (h : ¬ a = b) : ¬ a.toList = b.toList := fun e => h (bl_inj (by rwa [toList_bl, toList_bl] at e))
theorem toList_beq (a b : ByteArray) : (a.toList == b.toList) = decide (a = b) := by
  rw [Bool.eq_iff_iff, beq_iff_eq, decide_eq_true_eq]
  exact ⟨fun e => bl_inj (by rwa [toList_bl, toList_bl] at e), fun e => e ▸ rfl⟩
theorem less_ltB (a b : ByteArray) : Op.bytesLess a.toList b.toList = ltB a b := by rw [toList_bl, toList_bl, bytesLess_lt]; rfl
theorem two_boxes {w : World} {a b : Obj} : Below w.heap.size w ((w.alloc a).alloc b) := ((Below.refl _ _).alloc (Nat.le_refl _) _).alloc (by simp) _

theorem sameKey_any (x y : Reg) (w : World) :
    Calls Tryz.prog 188 #[x.val, y.val] w fun e w' => e = .returned (.bool (sameKey x y)) ∧ Below w.heap.size w w' := by
  obtain ⟨n, f, c, r, v⟩ := x
  obtain ⟨n', f', c', r', v'⟩ := y
  unfold Reg.val
  by_cases h : n = n'
  · subst h
    go_enter Tryz.func188, Tryz.ntmps188
    go_wp2
    go_ret
    exact ⟨ret_bool (by simp [sameKey, toList_beq]), two_boxes⟩
  · have hn := toList_ne h
    go_enter Tryz.func188, Tryz.ntmps188
    go_wp2
    go_ret
    exact ⟨ret_bool (by simp [sameKey, h]), two_boxes⟩

theorem ahead_any (x y : Reg) (w : World) :
    Calls Tryz.prog 189 #[x.val, y.val] w fun e w' => e = .returned (.bool (ahead x y)) ∧ Below w.heap.size w w' := by
  obtain ⟨n, f, c, r, v⟩ := x
  obtain ⟨n', f', c', r', v'⟩ := y
  unfold Reg.val
  by_cases h : n = n'
  · subst h
    go_enter Tryz.func189, Tryz.ntmps189
    go_wp2
    go_ret
    exact ⟨ret_bool (by simp [ahead, less_ltB]), two_boxes⟩
  · have hn : (n.toList == n'.toList) = false := by simpa using toList_ne h
    go_enter Tryz.func189, Tryz.ntmps189
    go_wp2
    go_ret
    exact ⟨ret_bool (by simp [ahead, less_ltB, h]), two_boxes⟩

theorem wins_any (x y : Reg) (w : World) :
    Calls Tryz.prog 190 #[x.val, y.val] w fun e w' => e = .returned (.bool (winsR x y)) ∧ Below w.heap.size w w' := by
  obtain ⟨n, f, c, r, v⟩ := x
  obtain ⟨n', f', c', r', v'⟩ := y
  unfold Reg.val
  by_cases h : c = c'
  · subst h
    by_cases hr : r = r'
    · subst hr
      go_enter Tryz.func190, Tryz.ntmps190
      go_wp2
      go_ret
      exact ⟨ret_bool (by
        have e : (!Op.bytesLess v.toList v'.toList && !v.toList == v'.toList) = gtB v v' := by simp [gtB]
        rw [e, gtB_lt]; simp [winsR]), two_boxes⟩
    · go_enter Tryz.func190, Tryz.ntmps190
      go_wp2
      go_ret
      exact ⟨ret_bool (by simp [winsR, hr]), two_boxes⟩
  · go_enter Tryz.func190, Tryz.ntmps190
    go_wp2
    go_ret
    exact ⟨ret_bool (by simp [winsR, h]), two_boxes⟩
end Go.Proofs.YtpdbmpbmepkikaaGreatDoor

namespace Go.Proofs.YtpdbmpbmepkikaaGreatDoor
open Go.RowKit

def Reg.cells (x : Reg) : List Value := [.string x.name, .string x.field, .int .i64 x.c, .int .i64 x.r, .string x.value]
def rows (l : List Reg) : List Value := l.flatMap Reg.cells
theorem rows_append (l l' : List Reg) : rows (l ++ l') = rows l ++ rows l' := by simp [rows]
theorem rows_length (l : List Reg) : (rows l).length = l.length * 5 := by
  induction l with
  | nil => rfl
  | cons x l ih => show (x.cells ++ rows l).length = _; rw [List.length_append, ih]; simp [Reg.cells]; omega
theorem rows_at {l : List Reg} {j : Nat} (hj : j < l.length) (i : Nat) (hi : i < 5) : (rows l)[j * 5 + i]? = l[j].cells[i]? := by
  induction l generalizing j with
  | nil => simp at hj
  | cons x l ih =>
    show (x.cells ++ rows l)[j * 5 + i]? = _
    have hc : x.cells.length = 5 := rfl
    cases j with
    | zero => rw [List.getElem?_append_left (by omega)]; simp
    | succ j =>
      rw [List.getElem?_append_right (by omega), hc, show (j + 1) * 5 + i - 5 = j * 5 + i by omega, ih (by simpa using hj)]
      simp

/-- A slice value that holds a book. -/
def ListAt (w : World) (v : Value) (l : List Reg) : Prop := w.ownsRow 0 154 5 v l.length (rows l)
theorem ListAt.cell {w : World} {v : Value} {l : List Reg} (h : ListAt w v l) {j : Nat} (hj : j < l.length) : ∃ g cap, v = .slice (some ⟨g, 0, none⟩) l.length cap ∧ g < w.heap.size ∧
    w.cell? ⟨g, j * 5, none⟩ = some (.string l[j].name) ∧ w.cell? ⟨g, j * 5 + 1, none⟩ = some (.string l[j].field) ∧ w.cell? ⟨g, j * 5 + 2, none⟩ = some (.int .i64 l[j].c) ∧ w.cell? ⟨g, j * 5 + 3, none⟩ = some (.int .i64 l[j].r) ∧ w.cell? ⟨g, j * 5 + 4, none⟩ = some (.string l[j].value) := by
  obtain ⟨h1, h2⟩ := h
  rcases h2 with ⟨_, h2⟩ | ⟨g, cap, cur, hv, _, hg, hn, _, _, ht⟩
  · omega
  · have key : ∀ i, i < 5 → w.cell? ⟨g, j * 5 + i, none⟩ = l[j].cells[i]? := fun i hi => by
      have := Joins.cell_of_block hg (j * 5 + i)
      rw [this, ← rows_at hj i hi, ← ht, List.getElem?_take_of_lt (by omega)]
      simp
    exact ⟨g, cap, hv, (Array.getElem?_eq_some_iff.1 hg).1, key 0 (by omega), key 1 (by omega), key 2 (by omega), key 3 (by omega), key 4 (by omega)⟩
theorem ListAt.cases {w : World} {v : Value} {l : List Reg} (h : ListAt w v l) : (v = .slice none 0 0 ∧ l = []) ∨ ∃ g cap, v = .slice (some ⟨g, 0, none⟩) l.length cap ∧ g < w.heap.size := by
  obtain ⟨h1, h2⟩ := h
  rcases h2 with ⟨hv, h2⟩ | ⟨g, cap, cur, hv, _, hg, _⟩
  · exact .inl ⟨hv, List.eq_nil_of_length_eq_zero h2⟩
  · exact .inr ⟨g, cap, hv, (Array.getElem?_eq_some_iff.1 hg).1⟩
theorem ListAt.block {w w' : World} {v : Value} {l : List Reg} (h : ListAt w v l) (hb : ∀ g, v.ownBlock = some g → w'.heap[g]? = w.heap[g]?) : ListAt w' v l := ownsRow_block h hb
theorem ListAt.below {w w' : World} {v : Value} {l : List Reg} (h : ListAt w v l) {N : Nat} (hb : Below N w w') (hN : w.heap.size ≤ N) : ListAt w' v l := h.block fun g hg => hb.block g (Nat.lt_of_lt_of_le (World.ownsRow.lt h g hg).2 hN)
theorem ListAt.nil (w : World) : ListAt w (.slice none 0 0) [] := ⟨rfl, .inl ⟨rfl, rfl⟩⟩

/-- Nothing of w1 has changed; the slice v owns its row, which was made since. -/
structure OutAt (w1 : World) (e size : Nat) (v : Value) (n : Nat) (xs : List Value) (W : World) : Prop where
  below : Below w1.heap.size w1 W
  row : W.ownsRow w1.heap.size e size v n xs
variable {w1 W W' : World} {e size n : Nat} {v : Value} {xs : List Value}
theorem OutAt_drew : OutAt w1 e size v n xs W.drew ↔ OutAt w1 e size v n xs W :=
  ⟨fun h => ⟨⟨h.below.os, h.below.tape, h.below.output, h.below.size, h.below.block⟩, h.row⟩, fun h => ⟨⟨h.below.os, h.below.tape, h.below.output, h.below.size, h.below.block⟩, h.row⟩⟩
theorem OutAt.later (h : OutAt w1 e size v n xs W) (hb : Below W.heap.size W W') : OutAt w1 e size v n xs W' :=
  ⟨h.below.trans (hb.mono h.below.size), ownsRow_block h.row fun g hg => hb.block g (h.row.lt g hg).2⟩
theorem OutAt.alloc (h : OutAt w1 e size v n xs W) (o : Obj) : OutAt w1 e size v n xs (W.alloc o) := h.later ((Below.refl _ _).alloc (Nat.le_refl _) _)
theorem OutAt.setCell (h : OutAt w1 e size v n xs W) (a : Addr) (u : Value) (ha : w1.heap.size ≤ a.block) (hn : v.ownBlock ≠ some a.block) : OutAt w1 e size v n xs (W.setCell a u) :=
  ⟨⟨h.below.os, h.below.tape, h.below.output, by simpa [World.setCell] using h.below.size, fun b hb => (Below.heap_setCell _ _ _ _ (by omega)).trans (h.below.block b hb)⟩, ownsRow_block h.row fun g hg => Below.heap_setCell _ _ _ _ fun e => hn (e ▸ hg)⟩
theorem OutAt.new (w1 : World) (e size : Nat) : OutAt w1 e size (.slice none 0 0) 0 [] w1 := ⟨Below.refl _ _, World.ownsRow_nil _ _ _ _⟩
/-- Behind an append. -/
theorem OutAt.append {v' : Value} {n' : Nat} {xs' : List Value} (h : OutAt w1 e size v n xs W) (hg : W.grownBy W' v.ownBlock) (ho : W'.ownsRow w1.heap.size e size v' n' xs') : OutAt w1 e size v' n' xs' W' :=
  ⟨⟨hg.os.trans h.below.os, hg.tape.trans h.below.tape, hg.output.trans h.below.output, Nat.le_trans h.below.size hg.size, fun b hb =>
    (hg.block b (Nat.lt_of_lt_of_le hb h.below.size) fun e => by have := (h.row.lt b e.symm).1; omega).trans (h.below.block b hb)⟩, ho⟩
theorem info154 : (Tryz.prog.info? 154).map (fun i => (i.zero, i.size, i.bytes)) = some (some (.agg #[.string ⟨#[]⟩, .string ⟨#[]⟩, .int .i64 0, .int .i64 0, .string ⟨#[]⟩]), 5, 64) := by kernel_rfl

/-- An append, in a region that draws. -/
theorem oper_append_own_at {P : Program} {o : Oper} {a : Act} {w : World} {K : Act → World → Prop} {Q : Exit → Act → World → Prop} (s x : Operand) (t : TypeId)
    (ho : o.op = .call { callee := .builtin .append, args := #[s, x], argTypes := #[t, t] })
    (base : Nat) (e : TypeId) (i : TypeInfo) (z : Value) (size bytes : Nat) (ht : P.underlying t = some (.slice e)) (hi : P.info? e = some i) (hz : i.zero = some z)
    (hsize : i.size = size) (hby : i.bytes = bytes) (hzs : z.cells.size = size) (hsz : 0 < size)
    (v : Value) (n : Nat) (xs : List Value) (hs : a.eval s = v) (hown : w.ownsRow base e size v n xs)
    (ad : Addr) (m c : Nat) (news : List Value) (hx : a.eval x = .slice (some ad) m c) (hl : news.length = m * size) (hnews : ∀ j u, news[j]? = some u → w.cell? (ad.add j) = some u) (h1 : ∀ u ∈ news, u.oneCell' = true)
    (h63 : n + m ≤ maxLen) (hbytes : (n + m) * bytes ≤ 140737488355328) (hbase : base ≤ w.heap.size)
    (h : ∀ v' w', w'.ownsRow base e size v' (n + m) (xs ++ news) → w.grownBy w' v.ownBlock → (v'.ownBlock = v.ownBlock ∨ v'.ownBlock = some w.heap.size) → K (a.put o.dst v') w') :
    Oper.wp P o a w K Q := by
  obtain ⟨v', w', hr, h2, h3, h4, h5⟩ := run_append_own_at (P := P) w base t o.type e i z size bytes ht hi hz hsize hby hzs hsz v n xs hown ad m c news hl hnews h1 h63 hbytes hbase
  unfold Oper.wp execOp
  simp only [ho, resolve, invoke, builtin, Sem.run_bind, Sem.run_pure, Result.andThen_ok, List.map_toArray, List.map_cons, List.map_nil, hs, hx, hr]
  exact h v' w' h2 h3 h5
end Go.Proofs.YtpdbmpbmepkikaaGreatDoor

namespace Go.Proofs.YtpdbmpbmepkikaaGreatDoor
open Go.RowKit

def Bel (w1 W : World) : Prop := Below w1.heap.size w1 W
theorem Bel_drew {w1 W : World} : Bel w1 W.drew ↔ Bel w1 W := ⟨fun h => ⟨h.os, h.tape, h.output, h.size, h.block⟩, fun h => ⟨h.os, h.tape, h.output, h.size, h.block⟩⟩
theorem Bel.alloc {w1 W : World} (h : Bel w1 W) (o : Obj) : Bel w1 (W.alloc o) := Below.alloc h (Below.size h) o
theorem news5 (W : World) (vals : List Value) (T : Nat) {o : Obj} (ho : o = .cells vals.toArray T (0, 0)) : ∀ j u, vals[j]? = some u → (W.alloc o).cell? ((⟨W.heap.size, 0, none⟩ : Addr).add j) = some u := fun j u h => by
  subst ho
  have := Joins.cell_of_block (World.alloc_heap_new W (.cells vals.toArray T (0, 0))) j
  have e : (⟨W.heap.size, 0, none⟩ : Addr).add j = ⟨W.heap.size, j, none⟩ := by
    unfold Addr.add; split <;> simp_all
  rw [e, this]
  simpa using h
abbrev OutR (w1 : World) (v : Value) (l : List Reg) (W : World) : Prop := OutAt w1 154 5 v l.length (rows l) W

set_option maxHeartbeats 4000000 in
attribute [local simp] OutAt_drew in
theorem with_any (l : List Reg) (lv : Value) (n f v : ByteArray) (c r : Int) (w : World) (hl : ListAt w lv l) (hz : l.length ≤ 1000000) :
    Calls Tryz.prog 128 #[lv, .agg #[.string n, .string f, .int .i64 c, .int .i64 r, .string v]] w fun e w' => ∃ v', e = .returned v' ∧ w'.ownsRow w.heap.size 154 5 v' (withD l ⟨n, f, c, r, v⟩).length (rows (withD l ⟨n, f, c, r, v⟩)) ∧ Below w.heap.size w w' := by
  obtain ⟨i0, hi, hz0, hz1, hz2⟩ := info_parts info154
  obtain ⟨w1, hw1⟩ : ∃ w1, w1 = w.alloc (.cells #[.string n, .string f, .int .i64 c, .int .i64 r, .string v] 154) := ⟨_, rfl⟩
  have hb1 : Below w.heap.size w w1 := by rw [hw1]; exact (Below.refl _ _).alloc (Nat.le_refl _) _
  have hz1' : w1.heap.size = w.heap.size + 1 := by rw [hw1]; simp
  have hN : w1.heap[w.heap.size]? = some (.cells #[.string n, .string f, .int .i64 c, .int .i64 r, .string v] 154 (0, 0)) := by rw [hw1]; exact World.alloc_heap_new _ _
  have hl1 : ListAt w1 lv l := hl.below hb1 (Nat.le_refl _)
  obtain ⟨x, hx⟩ : ∃ x : Reg, x = ⟨n, f, c, r, v⟩ := ⟨_, rfl⟩
  rw [← hx]
  have hbl : ∀ u k (xs : List Value) W, OutAt w1 154 5 u k xs W → Below w1.heap.size w1 W := fun u k xs W h => h.below
  have hcell : ∀ i, w1.cell? ⟨w.heap.size, i, none⟩ = (#[Value.string n, .string f, .int .i64 c, .int .i64 r, .string v])[i]? := fun i => Joins.cell_of_block hN i
  have x0 : ∀ u k (xs : List Value) W, OutAt w1 154 5 u k xs W → W.cell? ⟨w.heap.size, 0, none⟩ = some (.string n) := fun u k xs W h => (h.below.cell (p := ⟨_, _, none⟩) (by simp only; omega)).trans (hcell 0)
  have x1 : ∀ u k (xs : List Value) W, OutAt w1 154 5 u k xs W → W.cell? ⟨w.heap.size, 1, none⟩ = some (.string f) := fun u k xs W h => (h.below.cell (p := ⟨_, _, none⟩) (by simp only; omega)).trans (hcell 1)
  have x2 : ∀ u k (xs : List Value) W, OutAt w1 154 5 u k xs W → W.cell? ⟨w.heap.size, 2, none⟩ = some (.int .i64 c) := fun u k xs W h => (h.below.cell (p := ⟨_, _, none⟩) (by simp only; omega)).trans (hcell 2)
  have x3 : ∀ u k (xs : List Value) W, OutAt w1 154 5 u k xs W → W.cell? ⟨w.heap.size, 3, none⟩ = some (.int .i64 r) := fun u k xs W h => (h.below.cell (p := ⟨_, _, none⟩) (by simp only; omega)).trans (hcell 3)
  have x4 : ∀ u k (xs : List Value) W, OutAt w1 154 5 u k xs W → W.cell? ⟨w.heap.size, 4, none⟩ = some (.string v) := fun u k xs W h => (h.below.cell (p := ⟨_, _, none⟩) (by simp only; omega)).trans (hcell 4)
  have hlen : ∃ len, lv = .slice (match lv with | .slice a _ _ => a | _ => none) l.length len := by
    rcases hl.cases with ⟨rfl, rfl⟩ | ⟨g, cap, rfl, _⟩ <;> exact ⟨_, rfl⟩
  obtain ⟨cap0, hlv⟩ := hlen
  obtain ⟨ad0, had⟩ : ∃ ad, ad = (match lv with | .slice a _ _ => a | _ => none) := ⟨_, rfl⟩
  rw [← had] at hlv
  have HL := Lib.hid hl1
  have HB1 := Lib.hid hb1
  have HX := Lib.hid hx
  have HW1 := Lib.hid hw1
  have XB : Hid (∀ W, Bel w1 W → W.cell? ⟨w.heap.size, 0, none⟩ = some (.string n) ∧ W.cell? ⟨w.heap.size, 1, none⟩ = some (.string f) ∧ W.cell? ⟨w.heap.size, 2, none⟩ = some (.int .i64 c) ∧ W.cell? ⟨w.heap.size, 3, none⟩ = some (.int .i64 r) ∧ W.cell? ⟨w.heap.size, 4, none⟩ = some (.string v)) :=
    Lib.hid fun W h => have k : ∀ i, W.cell? ⟨w.heap.size, i, none⟩ = _ := fun i => (Below.cell (p := ⟨_, _, none⟩) h (by simp only; omega)).trans (hcell i); ⟨k 0, k 1, k 2, k 3, k 4⟩
  have X0 := Lib.hid x0
  have X1 := Lib.hid x1
  have X2 := Lib.hid x2
  have X3 := Lib.hid x3
  have X4 := Lib.hid x4
  clear x0 x1 x2 x3 x4 hbl
  clear had hl hl1 hb1 hx hw1 hN hcell
  subst hlv
  go_enter Tryz.func128, Tryz.ntmps128
  go_wp2
  rw [← HW1.out]
  go_loopg [5, 6, 7] l.length (fun k out inn i wr => ∃ (ov : Value) (j : Nat) (st : List Reg × Bool), ov = out ∧ i = .int .i64 j ∧ k + j = l.length ∧ st = (l.take j).foldl (stepW x) ([], false) ∧ inn = .bool st.2 ∧ OutR w1 out st.1 wr ∧ st.1.length ≤ 2 * j)
  case atStart => exact ⟨_, 0, ([], false), rfl, rfl, by omega, by simp, rfl, OutAt.new _ _ _, by simp⟩
  case round =>
    obtain ⟨out, j, st, rfl, rfl, hk, hst, rfl, ho, hlen⟩ := hrel
    obtain ⟨o, inn⟩ := st
    by_cases hj : j < l.length
    · obtain ⟨g, cap, hv, hg, y0, y1, y2, y3, y4⟩ := HL.out.cell hj
      obtain ⟨y, hy⟩ : ∃ y : Reg, y = l[j] := ⟨_, rfl⟩
      rw [← hy] at y0 y1 y2 y3 y4
      obtain ⟨rfl, rfl⟩ : ad0 = some ⟨g, 0, none⟩ ∧ cap = cap0 := by injection hv with h1 h2 h3; exact ⟨h1, h3.symm⟩
      obtain ⟨n', f', c', r', v'⟩ := y
      simp only at y0 y1 y2 y3 y4
      have hst2 : (l.take (j + 1)).foldl (stepW x) ([], false) = stepW x (o, inn) ⟨n', f', c', r', v'⟩ := by
        rw [List.take_add_one, List.foldl_append, ← hst, hy]; simp [hj]
      have hbl : ∀ u k (xs : List Value) W, OutAt w1 154 5 u k xs W → W.cell? ⟨g, j * 5, none⟩ = some (.string n') ∧ W.cell? ⟨g, j * 5 + 1, none⟩ = some (.string f') ∧ W.cell? ⟨g, j * 5 + 2, none⟩ = some (.int .i64 c') ∧ W.cell? ⟨g, j * 5 + 3, none⟩ = some (.int .i64 r') ∧ W.cell? ⟨g, j * 5 + 4, none⟩ = some (.string v') := fun u k xs W h =>
        ⟨(h.below.cell (p := ⟨_, _, none⟩) hg).trans y0, (h.below.cell (p := ⟨_, _, none⟩) hg).trans y1, (h.below.cell (p := ⟨_, _, none⟩) hg).trans y2, (h.below.cell (p := ⟨_, _, none⟩) hg).trans y3, (h.below.cell (p := ⟨_, _, none⟩) hg).trans y4⟩
      have HZ := Lib.hid hbl
      have YB : Hid (∀ W, Bel w1 W → W.cell? ⟨g, j * 5, none⟩ = some (.string n') ∧ W.cell? ⟨g, j * 5 + 1, none⟩ = some (.string f') ∧ W.cell? ⟨g, j * 5 + 2, none⟩ = some (.int .i64 c') ∧ W.cell? ⟨g, j * 5 + 3, none⟩ = some (.int .i64 r') ∧ W.cell? ⟨g, j * 5 + 4, none⟩ = some (.string v')) :=
        Lib.hid fun W h => ⟨(Below.cell (p := ⟨_, _, none⟩) h hg).trans y0, (Below.cell (p := ⟨_, _, none⟩) h hg).trans y1, (Below.cell (p := ⟨_, _, none⟩) h hg).trans y2, (Below.cell (p := ⟨_, _, none⟩) h hg).trans y3, (Below.cell (p := ⟨_, _, none⟩) h hg).trans y4⟩
      clear hbl y0 y1 y2 y3 y4 hv
      obtain ⟨so, hso⟩ : ∃ so, so = rows o := ⟨_, rfl⟩
      obtain ⟨no, hno⟩ : ∃ no, no = o.length := ⟨_, rfl⟩
      obtain ⟨s, hs⟩ : ∃ s, s = sameKey ⟨n', f', c', r', v'⟩ x := ⟨_, rfl⟩
      obtain ⟨a, ha⟩ : ∃ a, a = ahead x ⟨n', f', c', r', v'⟩ := ⟨_, rfl⟩
      obtain ⟨wi, hwi⟩ : ∃ wi, wi = winsR x ⟨n', f', c', r', v'⟩ := ⟨_, rfl⟩
      have C1 : ∀ W, OutAt w1 154 5 out no so W → Calls Tryz.prog 188 #[.agg #[.string n', .string f', .int .i64 c', .int .i64 r', .string v'], .agg #[.string n, .string f, .int .i64 c, .int .i64 r, .string v]] W fun e W' => e = .returned (.bool s) ∧ OutAt w1 154 5 out no so W' := fun W h =>
        (sameKey_any ⟨n', f', c', r', v'⟩ ⟨n, f, c, r, v⟩ W).mono fun e W' q => ⟨by rw [hs, HX.out]; exact q.1, h.later q.2⟩
      have C2 : ∀ W, OutAt w1 154 5 out no so W → Calls Tryz.prog 189 #[.agg #[.string n, .string f, .int .i64 c, .int .i64 r, .string v], .agg #[.string n', .string f', .int .i64 c', .int .i64 r', .string v']] W fun e W' => e = .returned (.bool a) ∧ OutAt w1 154 5 out no so W' := fun W h =>
        (ahead_any ⟨n, f, c, r, v⟩ ⟨n', f', c', r', v'⟩ W).mono fun e W' q => ⟨by rw [ha, HX.out]; exact q.1, h.later q.2⟩
      have C3 : ∀ W, OutAt w1 154 5 out no so W → Calls Tryz.prog 190 #[.agg #[.string n, .string f, .int .i64 c, .int .i64 r, .string v], .agg #[.string n', .string f', .int .i64 c', .int .i64 r', .string v']] W fun e W' => e = .returned (.bool wi) ∧ OutAt w1 154 5 out no so W' := fun W h =>
        (wins_any ⟨n, f, c, r, v⟩ ⟨n', f', c', r', v'⟩ W).mono fun e W' q => ⟨by rw [hwi, HX.out]; exact q.1, h.later q.2⟩
      have x0 := X0.out out no so
      have x1 := X1.out out no so
      have x2 := X2.out out no so
      have x3 := X3.out out no so
      have x4 := X4.out out no so
      have z0 : ∀ W, OutAt w1 154 5 out no so W → _ := fun W h => (HZ.out out no so W h).1
      have z1 : ∀ W, OutAt w1 154 5 out no so W → _ := fun W h => (HZ.out out no so W h).2.1
      have z2 : ∀ W, OutAt w1 154 5 out no so W → _ := fun W h => (HZ.out out no so W h).2.2.1
      have z3 : ∀ W, OutAt w1 154 5 out no so W → _ := fun W h => (HZ.out out no so W h).2.2.2.1
      have z4 : ∀ W, OutAt w1 154 5 out no so W → _ := fun W h => (HZ.out out no so W h).2.2.2.2
      have H1 := Lib.hid C1
      have H2 := Lib.hid C2
      have H3 := Lib.hid C3
      have HS := Lib.hid (And.intro hst2 (And.intro hs (And.intro ha (And.intro hwi (And.intro hso (And.intro hno hy))))))
      unfold OutR at ho
      simp only [← hso, ← hno] at ho
      simp only [← hno] at hlen
      have hjc : (j : Int) < (l.length : Int) := by omega
      clear C1 C2 C3 hst2 hs ha hwi hso hno hst hy
      go_wp2
      go_region_held3 (fun W => OutAt w1 154 5 out no so W) (first | assumption | (rw [OutAt_drew]; assumption))
        ((first | (go_at_call 188; refine Calls.mono (H1.out _ ?hw) ?_; (case hw => first | assumption | (rw [OutAt_drew]; assumption)); rintro e w2 ⟨rfl, ho2⟩)))
      rename_i hHeld
      clear ho
      go_wp2
      go_region_held3 (fun W => OutAt w1 154 5 out no so W) (first | assumption | (rw [OutAt_drew]; assumption))
        ((first | (go_at_call 189; refine Calls.mono (H2.out _ ?hw) ?_; (case hw => first | assumption | (rw [OutAt_drew]; assumption)); rintro e w3 ⟨rfl, ho3⟩)))
      rename_i hHeld3
      clear ho2
      go_wp2
      go_region_held3 (fun W => OutAt w1 154 5 out no so W) (first | assumption | (rw [OutAt_drew]; assumption))
        ((first | (go_at_call 190; refine Calls.mono (H3.out _ ?hw) ?_; (case hw => first | assumption | (rw [OutAt_drew]; assumption)); rintro e w4 ⟨rfl, ho4⟩)))
      rename_i hHeld4
      clear ho3
      have b0 := x0 _ hHeld4
      have b1 := x1 _ hHeld4
      have b2 := x2 _ hHeld4
      have b3 := x3 _ hHeld4
      have b4 := x4 _ hHeld4
      have d0 := z0 _ hHeld4
      have d1 := z1 _ hHeld4
      have d2 := z2 _ hHeld4
      have d3 := z3 _ hHeld4
      have d4 := z4 _ hHeld4
      have ho5 := hHeld4
      clear z0 z1 z2 z3 z4 x0 x1 x2 x3 x4 H1 H2 H3 hHeld4 ho4
      refine Halt.of ?_
      cases s
      · cases a
        · unfold Halt
          go_wp2_with (at_builtin; go_must (refine wpList_append_own_at _ rfl _ _ 145 rfl w1.heap.size 154 i0 (.agg #[.string ⟨#[]⟩, .string ⟨#[]⟩, .int .i64 0, .int .i64 0, .string ⟨#[]⟩]) 5 64 Tryz.underlying145 hi hz0 hz1 hz2 rfl (by decide) out no so rfl (ho5.alloc _).row ⟨w4.heap.size, 0, none⟩ 1 1 [.string n', .string f', .int .i64 c', .int .i64 r', .string v'] rfl rfl (news5 _ _ _ rfl) (by simp [Value.oneCell']) (by unfold maxLen; omega) (by omega) (by have := ho5.below.size; simp; omega) ?_); intro v5 w5 hr5 hg5 _ _; refine Halt.of ?_)
          unfold Halt
          go_wp2
          go_roundg (gk - 1)
          case rel =>
            have hso := HS.out.2.2.2.2.1
            have hno := HS.out.2.2.2.2.2.1
            have e1 : (o ++ [(⟨n', f', c', r', v'⟩ : Reg)]).length = no + 1 := by rw [hno]; simp
            refine ⟨_, j + 1, (o ++ [(⟨n', f', c', r', v'⟩ : Reg)], inn), rfl, by go_simp, by omega, ?_, rfl, ?_, by simp only; rw [e1]; omega⟩
            · rw [HS.out.1]; have hs := HS.out.2.1; have ha := HS.out.2.2.1; simp [stepW, ← hs, ← ha]
            · unfold OutR
              simp only
              rw [e1]
              have e2 : rows (o ++ [(⟨n', f', c', r', v'⟩ : Reg)]) = so ++ [.string n', .string f', .int .i64 c', .int .i64 r', .string v'] := by rw [hso, rows_append]; rfl
              rw [e2]
              have hxx := HX.out
              exact (ho5.alloc _).append hg5 hr5
          case measure => omega

        · cases inn
          · have q0 := X0.out out no so
            have hS : ∀ W, Bel w1 W → W.cell? ⟨w.heap.size, 0, none⟩ = some (.string n) ∧ W.cell? ⟨w.heap.size, 1, none⟩ = some (.string f) ∧ W.cell? ⟨w.heap.size, 2, none⟩ = some (.int .i64 c) ∧ W.cell? ⟨w.heap.size, 3, none⟩ = some (.int .i64 r) ∧ W.cell? ⟨w.heap.size, 4, none⟩ = some (.string v) := XB.out
            have hT : ∀ W, Bel w1 W → W.cell? ⟨g, j * 5, none⟩ = some (.string n') ∧ W.cell? ⟨g, j * 5 + 1, none⟩ = some (.string f') ∧ W.cell? ⟨g, j * 5 + 2, none⟩ = some (.int .i64 c') ∧ W.cell? ⟨g, j * 5 + 3, none⟩ = some (.int .i64 r') ∧ W.cell? ⟨g, j * 5 + 4, none⟩ = some (.string v') := YB.out
            have b0 : ∀ W, Bel w1 W → _ := fun W h => (hS W h).1
            have b1 : ∀ W, Bel w1 W → _ := fun W h => (hS W h).2.1
            have b2 : ∀ W, Bel w1 W → _ := fun W h => (hS W h).2.2.1
            have b3 : ∀ W, Bel w1 W → _ := fun W h => (hS W h).2.2.2.1
            have b4 : ∀ W, Bel w1 W → _ := fun W h => (hS W h).2.2.2.2
            have d0 : ∀ W, Bel w1 W → _ := fun W h => (hT W h).1
            have d1 : ∀ W, Bel w1 W → _ := fun W h => (hT W h).2.1
            have d2 : ∀ W, Bel w1 W → _ := fun W h => (hT W h).2.2.1
            have d3 : ∀ W, Bel w1 W → _ := fun W h => (hT W h).2.2.2.1
            have d4 : ∀ W, Bel w1 W → _ := fun W h => (hT W h).2.2.2.2
            have hB4 : Bel w1 w4 := ho5.below
            have HO5 := Lib.hid ho5
            clear hS hT q0 ho5
            unfold Halt
            go_wp2
            go_region_held3 (fun W => Bel w1 W) (first | assumption | (rw [Bel_drew]; assumption) | exact Bel.alloc (by assumption) _ | exact (OutAt.append (OutAt.alloc (OutAt_drew.2 HO5.out) _) hg5 hr5).below)
              ((rw [if_pos (by rfl)]; refine oper_append_own_at _ _ 145 rfl w1.heap.size 154 i0 (.agg #[.string ⟨#[]⟩, .string ⟨#[]⟩, .int .i64 0, .int .i64 0, .string ⟨#[]⟩]) 5 64 Tryz.underlying145 hi hz0 hz1 hz2 rfl (by decide) out no so rfl (OutAt.alloc (OutAt_drew.2 HO5.out) _).row ⟨w4.drew.heap.size, 0, none⟩ 2 2 [.string n, .string f, .int .i64 c, .int .i64 r, .string v, .string n', .string f', .int .i64 c', .int .i64 r', .string v'] rfl rfl (news5 _ _ _ rfl) (by simp [Value.oneCell']) (by unfold maxLen; omega) (by omega) (by have := HO5.out.below.size; simp; omega) ?_; intro v5 w5 hr5 hg5 _))
            skip
            go_wp2
            go_roundg (gk - 1)
            case rel =>
              have hso := HS.out.2.2.2.2.1
              have hno := HS.out.2.2.2.2.2.1
              have e1 : (o ++ [(⟨n, f, c, r, v⟩ : Reg), (⟨n', f', c', r', v'⟩ : Reg)]).length = no + 2 := by rw [hno]; simp
              refine ⟨_, j + 1, (o ++ [(⟨n, f, c, r, v⟩ : Reg), (⟨n', f', c', r', v'⟩ : Reg)], true), rfl, by go_simp, by omega, ?_, rfl, ?_, by simp only; rw [e1]; omega⟩
              · rw [HS.out.1]; have hs := HS.out.2.1; have ha := HS.out.2.2.1; simp [stepW, ← hs, ← ha]; exact HX.out.symm
              · unfold OutR
                simp only
                rw [e1]
                have e2 : rows (o ++ [(⟨n, f, c, r, v⟩ : Reg), (⟨n', f', c', r', v'⟩ : Reg)]) = so ++ [.string n, .string f, .int .i64 c, .int .i64 r, .string v, .string n', .string f', .int .i64 c', .int .i64 r', .string v'] := by rw [hso, rows_append]; rfl
                rw [e2]
                have hxx := HX.out
                exact OutAt.append (OutAt.alloc (OutAt_drew.2 HO5.out) _) hg5 hr5
            case measure => omega
          · unfold Halt
            go_wp2_with (at_builtin; go_must (refine wpList_append_own_at _ rfl _ _ 145 rfl w1.heap.size 154 i0 (.agg #[.string ⟨#[]⟩, .string ⟨#[]⟩, .int .i64 0, .int .i64 0, .string ⟨#[]⟩]) 5 64 Tryz.underlying145 hi hz0 hz1 hz2 rfl (by decide) out no so rfl (ho5.alloc _).row ⟨w4.heap.size, 0, none⟩ 1 1 [.string n', .string f', .int .i64 c', .int .i64 r', .string v'] rfl rfl (news5 _ _ _ rfl) (by simp [Value.oneCell']) (by unfold maxLen; omega) (by omega) (by have := ho5.below.size; simp; omega) ?_); intro v5 w5 hr5 hg5 _ _; refine Halt.of ?_)
            unfold Halt
            go_wp2
            go_roundg (gk - 1)
            case rel =>
              have hso := HS.out.2.2.2.2.1
              have hno := HS.out.2.2.2.2.2.1
              have e1 : (o ++ [(⟨n', f', c', r', v'⟩ : Reg)]).length = no + 1 := by rw [hno]; simp
              refine ⟨_, j + 1, (o ++ [(⟨n', f', c', r', v'⟩ : Reg)], true), rfl, by go_simp, by omega, ?_, rfl, ?_, by simp only; rw [e1]; omega⟩
              · rw [HS.out.1]; have hs := HS.out.2.1; have ha := HS.out.2.2.1; simp [stepW, ← hs, ← ha]
              · unfold OutR
                simp only
                rw [e1]
                have e2 : rows (o ++ [(⟨n', f', c', r', v'⟩ : Reg)]) = so ++ [.string n', .string f', .int .i64 c', .int .i64 r', .string v'] := by rw [hso, rows_append]; rfl
                rw [e2]
                have hxx := HX.out
                exact (ho5.alloc _).append hg5 hr5
            case measure => omega

      · cases wi
        · unfold Halt
          go_wp2_with (at_builtin; go_must (refine wpList_append_own_at _ rfl _ _ 145 rfl w1.heap.size 154 i0 (.agg #[.string ⟨#[]⟩, .string ⟨#[]⟩, .int .i64 0, .int .i64 0, .string ⟨#[]⟩]) 5 64 Tryz.underlying145 hi hz0 hz1 hz2 rfl (by decide) out no so rfl (ho5.alloc _).row ⟨w4.heap.size, 0, none⟩ 1 1 [.string n', .string f', .int .i64 c', .int .i64 r', .string v'] rfl rfl (news5 _ _ _ rfl) (by simp [Value.oneCell']) (by unfold maxLen; omega) (by omega) (by have := ho5.below.size; simp; omega) ?_); intro v5 w5 hr5 hg5 _ _; refine Halt.of ?_)
          unfold Halt
          go_wp2
          go_roundg (gk - 1)
          case rel =>
            have hso := HS.out.2.2.2.2.1
            have hno := HS.out.2.2.2.2.2.1
            have e1 : (o ++ [(⟨n', f', c', r', v'⟩ : Reg)]).length = no + 1 := by rw [hno]; simp
            refine ⟨_, j + 1, (o ++ [(⟨n', f', c', r', v'⟩ : Reg)], true), rfl, by go_simp, by omega, ?_, rfl, ?_, by simp only; rw [e1]; omega⟩
            · rw [HS.out.1]; have hs := HS.out.2.1; have hwi := HS.out.2.2.2.1; simp [stepW, ← hs, ← hwi]
            · unfold OutR
              simp only
              rw [e1]
              have e2 : rows (o ++ [(⟨n', f', c', r', v'⟩ : Reg)]) = so ++ [.string n', .string f', .int .i64 c', .int .i64 r', .string v'] := by rw [hso, rows_append]; rfl
              rw [e2]
              have hxx := HX.out
              exact (ho5.alloc _).append hg5 hr5
          case measure => omega

        · unfold Halt
          go_wp2_with (at_builtin; go_must (refine wpList_append_own_at _ rfl _ _ 145 rfl w1.heap.size 154 i0 (.agg #[.string ⟨#[]⟩, .string ⟨#[]⟩, .int .i64 0, .int .i64 0, .string ⟨#[]⟩]) 5 64 Tryz.underlying145 hi hz0 hz1 hz2 rfl (by decide) out no so rfl (ho5.alloc _).row ⟨w4.heap.size, 0, none⟩ 1 1 [.string n, .string f, .int .i64 c, .int .i64 r, .string v] rfl rfl (news5 _ _ _ rfl) (by simp [Value.oneCell']) (by unfold maxLen; omega) (by omega) (by have := ho5.below.size; simp; omega) ?_); intro v5 w5 hr5 hg5 _ _; refine Halt.of ?_)
          unfold Halt
          go_wp2
          go_roundg (gk - 1)
          case rel =>
            have hso := HS.out.2.2.2.2.1
            have hno := HS.out.2.2.2.2.2.1
            have e1 : (o ++ [(⟨n, f, c, r, v⟩ : Reg)]).length = no + 1 := by rw [hno]; simp
            refine ⟨_, j + 1, (o ++ [(⟨n, f, c, r, v⟩ : Reg)], true), rfl, by go_simp, by omega, ?_, rfl, ?_, by simp only; rw [e1]; omega⟩
            · have hxx := HX.out; rw [HS.out.1]; have hs := HS.out.2.1; have hwi := HS.out.2.2.2.1; simp [stepW, ← hs, ← hwi]; exact hxx.symm
            · unfold OutR
              simp only
              rw [e1]
              have e2 : rows (o ++ [(⟨n, f, c, r, v⟩ : Reg)]) = so ++ [.string n, .string f, .int .i64 c, .int .i64 r, .string v] := by rw [hso, rows_append]; rfl
              rw [e2]
              have hxx := HX.out
              exact (ho5.alloc _).append hg5 hr5
          case measure => omega

    · have hje : j = l.length := by omega
      subst hje
      have hst' : (o, inn) = l.foldl (stepW x) ([], false) := by rw [hst, List.take_length]
      have hwd : withD l x = if inn then o else o ++ [x] := by unfold withD; rw [← hst']
      have q0 := X0.out _ _ _ _ ho
      have q1 := X1.out _ _ _ _ ho
      have q2 := X2.out _ _ _ _ ho
      have q3 := X3.out _ _ _ _ ho
      have q4 := X4.out _ _ _ _ ho
      obtain ⟨so, hso⟩ : ∃ so, so = rows o := ⟨_, rfl⟩
      obtain ⟨no, hno⟩ : ∃ no, no = o.length := ⟨_, rfl⟩
      unfold OutR at ho
      simp only [← hso, ← hno] at ho
      simp only [← hno] at hlen
      have HS := Lib.hid (And.intro hwd (And.intro hso hno))
      have ho5 := ho
      clear hwd hso hno hst hst' ho
      refine Halt.of ?_
      cases inn
      · unfold Halt
        go_wp2_with (at_builtin; go_must (refine wpList_append_own_at _ rfl _ _ 145 rfl w1.heap.size 154 i0 (.agg #[.string ⟨#[]⟩, .string ⟨#[]⟩, .int .i64 0, .int .i64 0, .string ⟨#[]⟩]) 5 64 Tryz.underlying145 hi hz0 hz1 hz2 rfl (by decide) out no so rfl (ho5.alloc _).row ⟨wr.heap.size, 0, none⟩ 1 1 [.string n, .string f, .int .i64 c, .int .i64 r, .string v] rfl rfl (news5 _ _ _ rfl) (by simp [Value.oneCell']) (by unfold maxLen; omega) (by omega) (by have := ho5.below.size; simp; omega) ?_); intro v5 w5 hr5 hg5 _ _; refine Halt.of ?_)
        unfold Halt
        go_wp2
        go_ret
        obtain ⟨hwd, hso, hno⟩ := HS.out
        have hoo := (ho5.alloc _).append hg5 hr5
        refine ⟨_, rfl, ?_, HB1.out.trans (hoo.below.mono (by rw [hz1']; omega))⟩
        rw [hwd, HX.out]
        simp only [Bool.false_eq_true, if_false]
        have e1 : (o ++ [(⟨n, f, c, r, v⟩ : Reg)]).length = no + 1 := by rw [hno]; simp
        have e2 : rows (o ++ [(⟨n, f, c, r, v⟩ : Reg)]) = so ++ [.string n, .string f, .int .i64 c, .int .i64 r, .string v] := by rw [hso, rows_append]; rfl
        rw [e1, e2]
        exact ownsRow_base hr5 fun g hg => by have := (hr5.lt g hg).1; omega
      · unfold Halt
        go_wp2
        go_ret
        obtain ⟨hwd, hso, hno⟩ := HS.out
        refine ⟨_, rfl, ?_, HB1.out.trans (ho5.below.mono (by rw [hz1']; omega))⟩
        rw [hwd]
        simp only [if_true]
        rw [← hso, ← hno]
        exact ownsRow_base ho5.row fun g hg => by have := (ho5.row.lt g hg).1; omega
end Go.Proofs.YtpdbmpbmepkikaaGreatDoor

namespace Go.Proofs.YtpdbmpbmepkikaaGreatDoor
open Go.RowKit

theorem clockL_snoc (l : List Reg) (x : Reg) : clockL (l ++ [x]) = max (clockL l) x.c := by
  have : clockL (l ++ [x]) = clockL (x :: l) := (List.perm_append_singleton x l).foldr_eq' (fun x _ y _ z => by omega) 0
  rw [this]; rfl
theorem clockL_take {l : List Reg} {j : Nat} (hj : j < l.length) : clockL (l.take (j + 1)) = max (clockL (l.take j)) l[j].c := by
  rw [List.take_add_one, ← clockL_snoc]; simp [hj]

theorem clockD_any (l : List Reg) (lv : Value) (w : World) (hl : ListAt w lv l) (hz : l.length ≤ 1000000) :
    Calls Tryz.prog 127 #[lv] w fun e w' => e = .returned (.int .i64 (clockL l)) ∧ w' = w := by
  rcases hl.cases with ⟨rfl, rfl⟩ | ⟨g, cap, rfl, hg⟩
  · go_enter Tryz.func127, Tryz.ntmps127
    go_wp2
    go_loopg [3, 4] 0 (fun k n i wr => n = .int .i64 0 ∧ i = .int .i64 0 ∧ wr = w)
    case atStart => exact ⟨rfl, rfl, rfl⟩
    case round =>
      obtain ⟨rfl, rfl, rfl⟩ := hrel
      go_wp2
      go_ret
      exact ⟨rfl, rfl⟩
  · have HL := Lib.hid hl
    clear hl
    go_enter Tryz.func127, Tryz.ntmps127
    go_wp2
    go_loopg [3, 4] l.length (fun k n i wr => ∃ (j : Nat) (m : Int), n = .int .i64 m ∧ m = clockL (l.take j) ∧ i = .int .i64 j ∧ k + j = l.length ∧ wr = w)
    case atStart => exact ⟨0, _, rfl, by simp [clockL], rfl, by omega, rfl⟩
    case round =>
      obtain ⟨j, m, rfl, hm, rfl, hk, rfl⟩ := hrel
      by_cases hj : j < l.length
      · obtain ⟨g', cap', hv, hg', y0, y1, y2, y3, y4⟩ := HL.out.cell hj
        obtain ⟨rfl, rfl⟩ : g = g' ∧ cap = cap' := by injection hv with h1 h2 h3; injection h1 with h1; injection h1 with h1; exact ⟨h1, h3⟩
        have hs := clockL_take hj
        rw [← hm] at hs
        obtain ⟨c, hc⟩ : ∃ c, c = l[j].c := ⟨_, rfl⟩
        rw [← hc] at hs y2
        have HS := Lib.hid (And.intro hs hm)
        clear y0 y1 y3 y4 hv hc hm hs
        by_cases hcm : m < c
        · go_wp2
          go_roundg (gk - 1)
          case rel => exact ⟨j + 1, c, rfl, by rw [HS.out.1]; omega, by go_simp, by omega, rfl⟩
          case measure => omega
        · go_wp2
          go_roundg (gk - 1)
          case rel => exact ⟨j + 1, m, rfl, by rw [HS.out.1]; omega, by go_simp, by omega, rfl⟩
          case measure => omega
      · have hje : j = l.length := by omega
        subst hje
        rw [List.take_length] at hm
        have HM := Lib.hid hm
        clear hm
        go_wp2
        go_ret
        obtain rfl := HM.out
        exact ⟨rfl, rfl⟩

theorem letter_iff (b : UInt8) : letter b = true ↔ 97 ≤ b.toNat ∧ b.toNat ≤ 122 := by
  simp [letter, UInt8.le_iff_toNat_le]

theorem smallD_any (s : ByteArray) (k : Nat) (w : World) (hs : s.size ≤ 65536) :
    Calls Tryz.prog 126 #[.string s, .int .i64 k] w fun e w' => e = .returned (.bool (smallB s k)) ∧ w' = w := by
  go_enter Tryz.func126, Tryz.ntmps126
  go_wp2
  go_loopg [5] s.size (fun q i wr => ∃ j : Nat, i = .int .i64 j ∧ q + j = s.size ∧ ((bl s).take j).all letter = true ∧ wr = w)
  case atStart => exact ⟨0, rfl, by omega, by simp, rfl⟩
  case round =>
    obtain ⟨j, rfl, hq, hal, rfl⟩ := hrel
    by_cases hj : j < s.size
    · obtain ⟨b, hb⟩ : ∃ b, b = s[j] := ⟨_, rfl⟩
      have hj' : j < s.data.size := hj
      have hb2 : (bl s)[j]? = some b := by rw [hb, bl, Array.getElem?_toList, Array.getElem?_eq_getElem hj']; rfl
      have hta : ((bl s).take (j + 1)).all letter = letter b := by
        rw [List.take_add_one, hb2]; simp [hal]
      have hno : letter b = false → smallB s k = false := fun h => by
        have : (bl s).all letter = false := by
          cases h2 : (bl s).all letter with
          | false => rfl
          | true => rw [List.all_eq_true.1 h2 b (List.mem_of_getElem? hb2)] at h; cases h
        simp [smallB, letters, this]
      have hlt := letter_iff b
      have HH := Lib.hid (And.intro hta (And.intro hno hlt))
      clear hta hno hb2 hal hlt
      by_cases h1 : b.toNat < 97
      · have hi : ((s[j]'hj).toNat : Int) < 97 := by rw [← hb]; omega
        have HB := Lib.hid hb
        clear hb
        go_wp2
        go_ret
        refine ⟨ret_bool ?_, rfl⟩
        have := HH.out.2.1 (by cases h : letter b; rfl; have := HH.out.2.2.1 h; omega)
        rw [this]
      · have hi : ¬ ((s[j]'hj).toNat : Int) < 97 := by rw [← hb]; omega
        by_cases h2 : 122 < b.toNat
        · have hi2 : 122 < ((s[j]'hj).toNat : Int) := by rw [← hb]; omega
          have HB := Lib.hid hb
          clear hb
          go_wp2
          go_ret
          refine ⟨ret_bool ?_, rfl⟩
          have := HH.out.2.1 (by cases h : letter b; rfl; have := HH.out.2.2.1 h; omega)
          rw [this]
        · have hi2 : ¬ 122 < ((s[j]'hj).toNat : Int) := by rw [← hb]; omega
          have HB := Lib.hid hb
          clear hb
          go_wp2
          go_roundg (gk - 1)
          case rel => exact ⟨j + 1, by go_simp, by omega, by rw [HH.out.1]; exact HH.out.2.2.2 (by omega), rfl⟩
          case measure => omega
    · have hje : j = s.size := by omega
      subst hje
      have hl : letters s = true := by
        rw [List.take_of_length_le (by simp [bl])] at hal
        exact hal
      have HL := Lib.hid hl
      clear hal hl
      by_cases h0 : 0 < s.size
      · by_cases h1 : s.size ≤ k
        · go_wp2
          go_ret
          exact ⟨ret_bool (by simp [smallB, HL.out, h0, h1]), rfl⟩
        · go_wp2
          go_ret
          exact ⟨ret_bool (by simp [smallB, h1]), rfl⟩
      · go_wp2
        go_ret
        exact ⟨ret_bool (by simp [smallB, h0]), rfl⟩

/-- Where the register of that key is. -/
def findI (l : List Reg) (x : Reg) : Int := match l.findIdx? (fun y => sameKey y x) with | some i => (i : Int) | none => -1
theorem findI_some {l : List Reg} {x : Reg} {j : Nat} (hj : j < l.length) (h : sameKey l[j] x = true) (hn : ∀ i (hi : i < j), sameKey (l[i]'(by omega)) x = false) : findI l x = j := by
  unfold findI
  have : l.findIdx? (fun y => sameKey y x) = some j := by
    rw [List.findIdx?_eq_some_iff_getElem]
    exact ⟨hj, h, fun i hi => by simp [hn i hi]⟩
  rw [this]
theorem findI_none {l : List Reg} {x : Reg} (h : ∀ y ∈ l, sameKey y x = false) : findI l x = -1 := by
  unfold findI
  have : l.findIdx? (fun y => sameKey y x) = none := by
    rw [List.findIdx?_eq_none_iff]
    exact fun y hy => h y hy
  rw [this]

theorem findD_any (l : List Reg) (lv : Value) (n f v : ByteArray) (c r : Int) (w : World) (hl : ListAt w lv l) (hz : l.length ≤ 1000000) :
    Calls Tryz.prog 137 #[lv, .agg #[.string n, .string f, .int .i64 c, .int .i64 r, .string v]] w fun e w' => e = .returned (.int .i64 (findI l ⟨n, f, c, r, v⟩)) ∧ Below w.heap.size w w' := by
  obtain ⟨w1, hw1⟩ : ∃ w1, w1 = w.alloc (.cells #[.string n, .string f, .int .i64 c, .int .i64 r, .string v] 154) := ⟨_, rfl⟩
  have hb1 : Below w.heap.size w w1 := by rw [hw1]; exact (Below.refl _ _).alloc (Nat.le_refl _) _
  have hz1' : w1.heap.size = w.heap.size + 1 := by rw [hw1]; simp
  have hN : w1.heap[w.heap.size]? = some (.cells #[.string n, .string f, .int .i64 c, .int .i64 r, .string v] 154 (0, 0)) := by rw [hw1]; exact World.alloc_heap_new _ _
  have hl1 : ListAt w1 lv l := hl.below hb1 (Nat.le_refl _)
  obtain ⟨x, hx⟩ : ∃ x : Reg, x = ⟨n, f, c, r, v⟩ := ⟨_, rfl⟩
  rw [← hx]
  have hcell : ∀ i, w1.cell? ⟨w.heap.size, i, none⟩ = (#[Value.string n, .string f, .int .i64 c, .int .i64 r, .string v])[i]? := fun i => Joins.cell_of_block hN i
  have x0 : ∀ W, Bel w1 W → W.cell? ⟨w.heap.size, 0, none⟩ = some (.string n) := fun W h => (Below.cell (p := ⟨_, _, none⟩) h (by simp only; omega)).trans (hcell 0)
  have x1 : ∀ W, Bel w1 W → W.cell? ⟨w.heap.size, 1, none⟩ = some (.string f) := fun W h => (Below.cell (p := ⟨_, _, none⟩) h (by simp only; omega)).trans (hcell 1)
  have x2 : ∀ W, Bel w1 W → W.cell? ⟨w.heap.size, 2, none⟩ = some (.int .i64 c) := fun W h => (Below.cell (p := ⟨_, _, none⟩) h (by simp only; omega)).trans (hcell 2)
  have x3 : ∀ W, Bel w1 W → W.cell? ⟨w.heap.size, 3, none⟩ = some (.int .i64 r) := fun W h => (Below.cell (p := ⟨_, _, none⟩) h (by simp only; omega)).trans (hcell 3)
  have x4 : ∀ W, Bel w1 W → W.cell? ⟨w.heap.size, 4, none⟩ = some (.string v) := fun W h => (Below.cell (p := ⟨_, _, none⟩) h (by simp only; omega)).trans (hcell 4)
  obtain ⟨ad0, cap0, hlv⟩ : ∃ ad0 cap0, lv = .slice ad0 l.length cap0 := by
    rcases hl.cases with ⟨rfl, rfl⟩ | ⟨g, cap, rfl, _⟩ <;> exact ⟨_, _, rfl⟩
  have HL := Lib.hid hl1
  have HB1 := Lib.hid hb1
  have HX := Lib.hid hx
  have HW1 := Lib.hid hw1
  clear hl hl1 hb1 hx hw1 hN hcell
  subst hlv
  go_enter Tryz.func137, Tryz.ntmps137
  go_wp2
  rw [← HW1.out]
  go_loopg [5] l.length (fun k i wr => ∃ (j : Nat), i = .int .i64 j ∧ k + j = l.length ∧ (∀ i (hi : i < l.length), i < j → sameKey l[i] x = false) ∧ Bel w1 wr)
  case atStart => exact ⟨0, rfl, by omega, fun _ _ h => absurd h (by omega), Below.refl _ _⟩
  case round =>
    obtain ⟨j, rfl, hk, hno, ho⟩ := hrel
    by_cases hj : j < l.length
    · obtain ⟨g, cap, hv, hg, y0, y1, y2, y3, y4⟩ := HL.out.cell hj
      obtain ⟨y, hy⟩ : ∃ y : Reg, y = l[j] := ⟨_, rfl⟩
      rw [← hy] at y0 y1 y2 y3 y4
      obtain ⟨rfl, rfl⟩ : ad0 = some ⟨g, 0, none⟩ ∧ cap = cap0 := by injection hv with h1 h2 h3; exact ⟨h1, h3.symm⟩
      obtain ⟨n', f', c', r', v'⟩ := y
      simp only at y0 y1 y2 y3 y4
      have z0 : ∀ W, Bel w1 W → W.cell? ⟨g, j * 5, none⟩ = some (.string n') := fun W h => (Below.cell (p := ⟨_, _, none⟩) h hg).trans y0
      have z1 : ∀ W, Bel w1 W → W.cell? ⟨g, j * 5 + 1, none⟩ = some (.string f') := fun W h => (Below.cell (p := ⟨_, _, none⟩) h hg).trans y1
      have z2 : ∀ W, Bel w1 W → W.cell? ⟨g, j * 5 + 2, none⟩ = some (.int .i64 c') := fun W h => (Below.cell (p := ⟨_, _, none⟩) h hg).trans y2
      have z3 : ∀ W, Bel w1 W → W.cell? ⟨g, j * 5 + 3, none⟩ = some (.int .i64 r') := fun W h => (Below.cell (p := ⟨_, _, none⟩) h hg).trans y3
      have z4 : ∀ W, Bel w1 W → W.cell? ⟨g, j * 5 + 4, none⟩ = some (.string v') := fun W h => (Below.cell (p := ⟨_, _, none⟩) h hg).trans y4
      obtain ⟨s, hs⟩ : ∃ s, s = sameKey ⟨n', f', c', r', v'⟩ x := ⟨_, rfl⟩
      have C1 : ∀ W, Bel w1 W → Calls Tryz.prog 188 #[.agg #[.string n', .string f', .int .i64 c', .int .i64 r', .string v'], .agg #[.string n, .string f, .int .i64 c, .int .i64 r, .string v]] W fun e W' => e = .returned (.bool s) ∧ Bel w1 W' := fun W h =>
        (sameKey_any ⟨n', f', c', r', v'⟩ ⟨n, f, c, r, v⟩ W).mono fun e W' q => ⟨by rw [hs, HX.out]; exact q.1, Below.trans h (q.2.mono (Below.size h))⟩
      have H1 := Lib.hid C1
      have HS := Lib.hid (And.intro hs (And.intro hno hy))
      have hjc : (j : Int) < (l.length : Int) := by omega
      clear C1 hs hno hy y0 y1 y2 y3 y4 hv
      go_wp2
      go_region_held3 (fun W => Bel w1 W) (with_reducible (first | assumption | (rw [Bel_drew]; assumption)))
        ((first | (go_at_call 188; refine Calls.mono (H1.out _ ?hw) ?_; (case hw => with_reducible (first | assumption | (rw [Bel_drew]; assumption))); rintro e w2 ⟨rfl, ho2⟩)))
      rename_i hHeld
      clear x0 x1 x2 x3 x4 z0 z1 z2 z3 z4 H1 ho
      cases s
      · go_wp2
        go_roundg (gk - 1)
        case rel =>
          refine ⟨j + 1, by go_simp, by omega, fun i hi hij => ?_, hHeld⟩
          obtain ⟨hs, hno, hy⟩ := HS.out
          by_cases hije : i = j
          · subst hije; rw [← hy]; exact hs.symm
          · exact hno i hi (by omega)
        case measure => omega
      · go_wp2
        go_ret
        obtain ⟨hs, hno, hy⟩ := HS.out
        rw [findI_some hj (by rw [← hy]; exact hs.symm) (fun i hi => hno i (by omega) hi)]
        exact ⟨rfl, HB1.out.trans (Below.mono hHeld (by rw [hz1']; omega))⟩
    · have hf : findI l x = -1 := findI_none fun y hy => by
        obtain ⟨i, hi, rfl⟩ := List.getElem_of_mem hy
        exact hno i hi (by omega)
      have HF := Lib.hid hf
      clear hno hf x0 x1 x2 x3 x4
      go_wp2
      go_ret
      rw [HF.out]
      exact ⟨rfl, HB1.out.trans (Below.mono ho (by rw [hz1']; omega))⟩

theorem beginsD_any (s t : ByteArray) (w : World) :
    Calls Tryz.prog 138 #[.string s, .string t] w fun e w' => e = .returned (.bool ((bl t).isPrefixOf (bl s))) ∧ w' = w := by
  have key : ((s.extract 0 t.size).toList == t.toList) = (bl t).isPrefixOf (bl s) ∨ s.size < t.size := by
    rcases Nat.lt_or_ge s.size t.size with h | h
    · exact .inr h
    · left
      rw [Lib.extract_toList, toList_bl, Bool.eq_iff_iff, List.isPrefixOf_iff_prefix, beq_iff_eq]
      simp only [List.drop_zero, Nat.sub_zero]
      rw [show t.size = (bl t).length from Lib.size_eq t]
      constructor
      · intro e; rw [← e]; exact List.take_prefix _ _
      · intro e; exact (List.prefix_iff_eq_take.1 e).symm
  by_cases h : t.size ≤ s.size
  · have hk := key.resolve_right (by omega)
    have HK := Lib.hid hk
    clear key hk
    go_enter Tryz.func138, Tryz.ntmps138
    go_wp2
    go_ret
    exact ⟨ret_bool (by rw [← HK.out]), rfl⟩
  · have hk : (bl t).isPrefixOf (bl s) = false := by
      cases hp : (bl t).isPrefixOf (bl s) with
      | false => rfl
      | true =>
        have := (List.isPrefixOf_iff_prefix.1 hp).length_le
        rw [show (bl t).length = t.size from (Lib.size_eq t).symm, show (bl s).length = s.size from (Lib.size_eq s).symm] at this
        omega
    have HK := Lib.hid hk
    clear key hk
    go_enter Tryz.func138, Tryz.ntmps138
    go_wp2
    go_ret
    exact ⟨ret_bool HK.out.symm, rfl⟩
end Go.Proofs.YtpdbmpbmepkikaaGreatDoor
