/- PlnG: Contracts of plain's World: the second round of Registers.
   PlnH: Contracts of plain's World: Registers. Conditions: at most 500000 registers.
   PlnC: Contracts of plain's World: New. Condition: at most 1000000 replicas.
   RefG: Contracts of the document's Put, Delete. Conditions: at most 1000000 registers; short texts; the counter is none of the greatest.
   LawC: The invariant of a script's world: the program's replicas beside the document's books; what a step does to it, in plain words.
   PlnD: Contracts of plain's World: Names. Conditions: at most 1000000 registers.
   LawD: What stays while the law asks: the world of the script, and the step's own block.
   LawM: The law's told, and sameBook at like books. Conditions: at most 100000 registers and replicas. -/
import Derived.Test.YtpdbmpbmepkikaaGreatDoorS08
import Derived.Test.YtpdbmpbmepkikaaGreatDoorS05
import Derived.Test.YtpdbmpbmepkikaaGreatDoorS06
import Derived.Test.YtpdbmpbmepkikaaGreatDoorS04
import Derived.Test.YtpdbmpbmepkikaaGreatDoorS07
import Derived.Laws.AppendOwnNone
set_option linter.all false
set_option linter.unusedSimpArgs false
set_option linter.unusedVariables false

namespace Go.Proofs.YtpdbmpbmepkikaaGreatDoor
open Go.RowKit

theorem eql46 (n f v : ByteArray) (c r : Int) (W : World) : (binOp .eql 46 (.agg #[.string n, .string f, .int .i64 c, .int .i64 r, .string v]) (.agg #[.string n, .string f, .int .i64 c, .int .i64 r, .string v])).run Tryz.prog W = .ok (.bool true) W := by
  go_simp

/-- A slice value that holds registers of the program. -/
def RegsAt (w : World) (v : Value) (l : List Reg) : Prop := w.ownsRow 0 46 5 v l.length (rows l)
theorem RegsAt.cell {w : World} {v : Value} {l : List Reg} (h : RegsAt w v l) {j : Nat} (hj : j < l.length) : ∃ g cap, v = .slice (some ⟨g, 0, none⟩) l.length cap ∧ g < w.heap.size ∧
    w.cell? ⟨g, j * 5, none⟩ = some (.string l[j].name) ∧ w.cell? ⟨g, j * 5 + 1, none⟩ = some (.string l[j].field) ∧ w.cell? ⟨g, j * 5 + 2, none⟩ = some (.int .i64 l[j].c) ∧ w.cell? ⟨g, j * 5 + 3, none⟩ = some (.int .i64 l[j].r) ∧ w.cell? ⟨g, j * 5 + 4, none⟩ = some (.string l[j].value) := by
  obtain ⟨h1, h2⟩ := h
  rcases h2 with ⟨_, h2⟩ | ⟨g, cap, cur, hv, _, hg, hn, _, _, ht⟩
  · omega
  · have key : ∀ i, i < 5 → w.cell? ⟨g, j * 5 + i, none⟩ = l[j].cells[i]? := fun i hi => by
      have := Joins.cell_of_block hg (j * 5 + i)
      rw [this, ← rows_at hj i hi, ← ht, List.getElem?_take_of_lt (by omega)]
      simp
    exact ⟨g, cap, hv, (Array.getElem?_eq_some_iff.1 hg).1, key 0 (by omega), key 1 (by omega), key 2 (by omega), key 3 (by omega), key 4 (by omega)⟩

structure F40 (bo bn bk bl : Nat) (ok no : Bool) (k : Int) (lv : Value) (W : World) : Prop where
  ok : W.heap[bo]? = some (.cells #[.bool ok] 4 (0, 0))
  no : W.heap[bn]? = some (.cells #[.bool no] 4 (0, 0))
  k : W.heap[bk]? = some (.cells #[.int .i64 k] 3 (0, 0))
  l : W.heap[bl]? = some (.cells #[lv] 35 (0, 0))

set_option maxHeartbeats 1000000 in
theorem regs40_any (bo bn bk bl : Nat) (F : List Reg) (j : Nat) (hj : j < F.length) (hF : F.length ≤ 1000000) (lv : Value) (W : World) (h : F40 bo bn bk bl true false j lv W) (hl : RegsAt W lv F)
    (hd : bo ≠ bn ∧ bo ≠ bk ∧ bo ≠ bl ∧ bn ≠ bk ∧ bn ≠ bl ∧ bk ≠ bl) (hlo : ∀ b, lv.ownBlock = some b → b ≠ bo ∧ b ≠ bn ∧ b ≠ bk ∧ b ≠ bl) :
    Calls Tryz.prog 40 #[F[j].val, .pointer (some ⟨bo, 0, none⟩), .pointer (some ⟨bn, 0, none⟩), .pointer (some ⟨bk, 0, none⟩), .pointer (some ⟨bl, 0, none⟩)] W fun e w' =>
      e = .returned (.bool (decide (j + 1 ≤ F.length / 2))) ∧ F40 bo bn bk bl true (decide (F.length / 2 < j + 1)) (j + 1 : Nat) lv w' ∧ Keep (fun b => b = bo ∨ b = bn ∨ b = bk) W w' := by
  obtain ⟨g, cap, hv, hg, y0, y1, y2, y3, y4⟩ := hl.cell hj
  obtain ⟨x, hx⟩ : ∃ x, x = F[j] := ⟨_, rfl⟩
  rw [← hx] at y0 y1 y2 y3 y4 ⊢
  obtain ⟨n, f, c, r, v⟩ := x
  obtain ⟨nF, hnF⟩ : ∃ nF, nF = F.length := ⟨_, rfl⟩
  rw [← hnF] at hj hF hv ⊢
  subst hv
  unfold Reg.val
  simp only at y0 y1 y2 y3 y4
  obtain ⟨W1, hW1⟩ : ∃ W1, W1 = W.alloc (.cells #[.string n, .string f, .int .i64 c, .int .i64 r, .string v] 46) := ⟨_, rfl⟩
  have kb : ∀ b, b < W.heap.size → W1.heap[b]? = W.heap[b]? := fun b hb => by rw [hW1]; exact Below.heap_alloc _ _ _ hb
  have lt0 := (Array.getElem?_eq_some_iff.1 h.ok).1
  have lt1 := (Array.getElem?_eq_some_iff.1 h.no).1
  have lt2 := (Array.getElem?_eq_some_iff.1 h.k).1
  have lt3 := (Array.getElem?_eq_some_iff.1 h.l).1
  have hN : W1.heap[W.heap.size]? = some (.cells #[.string n, .string f, .int .i64 c, .int .i64 r, .string v] 46 (0, 0)) := by rw [hW1]; exact World.alloc_heap_new _ _
  have a0 : W1.cell? ⟨bo, 0, none⟩ = some (.bool true) := Joins.cell_of_block ((kb _ lt0).trans h.ok) 0
  have a1 : W1.cell? ⟨bn, 0, none⟩ = some (.bool false) := Joins.cell_of_block ((kb _ lt1).trans h.no) 0
  have a2 : W1.cell? ⟨bk, 0, none⟩ = some (.int .i64 (j : Nat)) := Joins.cell_of_block ((kb _ lt2).trans h.k) 0
  have a3 : W1.cell? ⟨bl, 0, none⟩ = some (.slice (some ⟨g, 0, none⟩) nF cap) := Joins.cell_of_block ((kb _ lt3).trans h.l) 0
  have b0 : W1.frozen? ⟨bo, 0, none⟩ = false := Joins.unfrozen_of_block ((kb _ lt0).trans h.ok) 0
  have b1 : W1.frozen? ⟨bn, 0, none⟩ = false := Joins.unfrozen_of_block ((kb _ lt1).trans h.no) 0
  have b2 : W1.frozen? ⟨bk, 0, none⟩ = false := Joins.unfrozen_of_block ((kb _ lt2).trans h.k) 0
  have xc : ∀ i, W1.cell? ⟨W.heap.size, i, none⟩ = (#[Value.string n, .string f, .int .i64 c, .int .i64 r, .string v])[i]? := fun i => Joins.cell_of_block hN i
  have x0 := xc 0
  have x1 := xc 1
  have x2 := xc 2
  have x3 := xc 3
  have x4 := xc 4
  simp at x0 x1 x2 x3 x4
  have kc : ∀ i, W1.cell? ⟨g, i, none⟩ = W.cell? ⟨g, i, none⟩ := fun i => World.cell?_of_block (w := W) (kb _ hg)
  have z0 := (kc (j * 5)).trans y0
  have z1 := (kc (j * 5 + 1)).trans y1
  have z2 := (kc (j * 5 + 2)).trans y2
  have z3 := (kc (j * 5 + 3)).trans y3
  have z4 := (kc (j * 5 + 4)).trans y4
  obtain ⟨d1, d2, d3, d4, d5, d6⟩ := hd
  obtain ⟨o1, o2, o3, o4⟩ := hlo g rfl
  have n1 : W.heap.size ≠ bo := by omega
  have n2 : W.heap.size ≠ bn := by omega
  have n3 : W.heap.size ≠ bk := by omega
  have w1 : IntKind.i64.wrap ((j : Int) + 1) = (j : Int) + 1 := by rw [IntKind.wrap_i64]; omega
  have hjj : (j : Int) < (nF : Int) := by omega
  have heq := eql46 n f v c r
  have HH := Lib.hid (And.intro h (And.intro hW1 (And.intro lt0 (And.intro lt1 (And.intro lt2 lt3)))))
  have hd1 : ¬ bn = bo := fun e => d1 e.symm
  have hd2 : ¬ bk = bo := fun e => d2 e.symm
  have hd3 : ¬ bl = bo := fun e => d3 e.symm
  clear hl h hx hnF hW1 y0 y1 y2 y3 y4 xc kc kb hN lt0 lt1 lt2 lt3
  go_enter Tryz.func40, Tryz.ntmps40
  go_wp2
  rw [← HH.out.2.1]
  refine wp_region_noPanic ?_
  refine wp_region_Z (S := fun U => U.cell? ⟨bo, 0, none⟩ = some (.bool true) ∧ U.cell? ⟨bn, 0, none⟩ = some (.bool false) ∧ U.cell? ⟨bk, 0, none⟩ = some (.int .i64 (j : Nat)) ∧ U.cell? ⟨bl, 0, none⟩ = some (.slice (some ⟨g, 0, none⟩) nF cap) ∧ U.cell? ⟨W.heap.size, 0, none⟩ = some (.string n) ∧ U.cell? ⟨W.heap.size, 1, none⟩ = some (.string f) ∧ U.cell? ⟨W.heap.size, 2, none⟩ = some (.int .i64 c) ∧ U.cell? ⟨W.heap.size, 3, none⟩ = some (.int .i64 r) ∧ U.cell? ⟨W.heap.size, 4, none⟩ = some (.string v) ∧ U.cell? ⟨g, j * 5, none⟩ = some (.string n) ∧ U.cell? ⟨g, j * 5 + 1, none⟩ = some (.string f) ∧ U.cell? ⟨g, j * 5 + 2, none⟩ = some (.int .i64 c) ∧ U.cell? ⟨g, j * 5 + 3, none⟩ = some (.int .i64 r) ∧ U.cell? ⟨g, j * 5 + 4, none⟩ = some (.string v)) (z := 19) (by kernel_rfl) (⟨a0, a1, a2, a3, x0, x1, x2, x3, x4, z0, z1, z2, z3, z4⟩) (fun hHeld => ?_)
  refine wpAnyZ_take (i := 0) (v := ?v0) rfl (by kernel_rfl) (by kernel_rfl) (by kernel_rfl) (by kernel_rfl) (fun _ _ _ h => h) (Or.inl ⟨by rfl, ?hy0⟩) hHeld ?rest0; (case hy0 => (intro W hSw; obtain ⟨s0, s1, s2, s3, s4, s5, s6, s7, s8, s9, s10, s11, s12, s13⟩ := hSw; go_simp; (try with_reducible rfl)))
  simp only [Act.put, List.getElem_toArray, List.getElem_cons_zero, List.getElem_cons_succ, List.setIfInBounds_toArray, List.set_cons_zero, List.set_cons_succ]
  refine wpAnyZ_take (i := 1) (v := ?v1) rfl (by kernel_rfl) (by kernel_rfl) (by kernel_rfl) (by kernel_rfl) (fun _ _ _ h => h) (Or.inl ⟨by rfl, ?hy1⟩) hHeld ?rest1; (case hy1 => (intro W hSw; obtain ⟨s0, s1, s2, s3, s4, s5, s6, s7, s8, s9, s10, s11, s12, s13⟩ := hSw; go_simp; (try with_reducible rfl)))
  simp only [Act.put, List.getElem_toArray, List.getElem_cons_zero, List.getElem_cons_succ, List.setIfInBounds_toArray, List.set_cons_zero, List.set_cons_succ]
  refine wpAnyZ_take (i := 2) (v := ?v2) rfl (by kernel_rfl) (by kernel_rfl) (by kernel_rfl) (by kernel_rfl) (fun _ _ _ h => h) (Or.inl ⟨by rfl, ?hy2⟩) hHeld ?rest2; (case hy2 => (intro W hSw; obtain ⟨s0, s1, s2, s3, s4, s5, s6, s7, s8, s9, s10, s11, s12, s13⟩ := hSw; go_simp; (try with_reducible rfl)))
  simp only [Act.put, List.getElem_toArray, List.getElem_cons_zero, List.getElem_cons_succ, List.setIfInBounds_toArray, List.set_cons_zero, List.set_cons_succ]
  refine wpAnyZ_take (i := 3) (v := ?v3) rfl (by kernel_rfl) (by kernel_rfl) (by kernel_rfl) (by kernel_rfl) (fun _ _ _ h => h) (Or.inl ⟨by rfl, ?hy3⟩) hHeld ?rest3; (case hy3 => (intro W hSw; obtain ⟨s0, s1, s2, s3, s4, s5, s6, s7, s8, s9, s10, s11, s12, s13⟩ := hSw; go_simp; (try with_reducible rfl)))
  simp only [Act.put, List.getElem_toArray, List.getElem_cons_zero, List.getElem_cons_succ, List.setIfInBounds_toArray, List.set_cons_zero, List.set_cons_succ]
  refine wpAnyZ_take (i := 4) (v := ?v4) rfl (by kernel_rfl) (by kernel_rfl) (by kernel_rfl) (by kernel_rfl) (fun _ _ _ h => h) (Or.inl ⟨by rfl, ?hy4⟩) hHeld ?rest4; (case hy4 => (intro W hSw; obtain ⟨s0, s1, s2, s3, s4, s5, s6, s7, s8, s9, s10, s11, s12, s13⟩ := hSw; go_simp; (try with_reducible rfl)))
  simp only [Act.put, List.getElem_toArray, List.getElem_cons_zero, List.getElem_cons_succ, List.setIfInBounds_toArray, List.set_cons_zero, List.set_cons_succ]
  refine wpAnyZ_take (i := 5) (v := ?v5) rfl (by kernel_rfl) (by kernel_rfl) (by kernel_rfl) (by kernel_rfl) (fun _ _ _ h => h) (Or.inl ⟨by rfl, ?hy5⟩) hHeld ?rest5; (case hy5 => (intro W hSw; obtain ⟨s0, s1, s2, s3, s4, s5, s6, s7, s8, s9, s10, s11, s12, s13⟩ := hSw; go_simp; (try with_reducible rfl)))
  simp only [Act.put, List.getElem_toArray, List.getElem_cons_zero, List.getElem_cons_succ, List.setIfInBounds_toArray, List.set_cons_zero, List.set_cons_succ]
  refine wpAnyZ_take (i := 6) (v := ?v6) rfl (by kernel_rfl) (by kernel_rfl) (by kernel_rfl) (by kernel_rfl) (fun _ _ _ h => h) (Or.inl ⟨by rfl, ?hy6⟩) hHeld ?rest6; (case hy6 => (intro W hSw; obtain ⟨s0, s1, s2, s3, s4, s5, s6, s7, s8, s9, s10, s11, s12, s13⟩ := hSw; go_simp; (try with_reducible rfl)))
  simp only [Act.put, List.getElem_toArray, List.getElem_cons_zero, List.getElem_cons_succ, List.setIfInBounds_toArray, List.set_cons_zero, List.set_cons_succ]
  refine wpAnyZ_take (i := 7) (v := ?v7) rfl (by kernel_rfl) (by kernel_rfl) (by kernel_rfl) (by kernel_rfl) (fun _ _ _ h => h) (Or.inl ⟨by rfl, ?hy7⟩) hHeld ?rest7; (case hy7 => (intro W hSw; obtain ⟨s0, s1, s2, s3, s4, s5, s6, s7, s8, s9, s10, s11, s12, s13⟩ := hSw; go_simp; (try with_reducible rfl)))
  simp only [Act.put, List.getElem_toArray, List.getElem_cons_zero, List.getElem_cons_succ, List.setIfInBounds_toArray, List.set_cons_zero, List.set_cons_succ]
  refine wpAnyZ_take (i := 8) (v := ?v8) rfl (by kernel_rfl) (by kernel_rfl) (by kernel_rfl) (by kernel_rfl) (fun _ _ _ h => h) (Or.inl ⟨by rfl, ?hy8⟩) hHeld ?rest8; (case hy8 => (intro W hSw; obtain ⟨s0, s1, s2, s3, s4, s5, s6, s7, s8, s9, s10, s11, s12, s13⟩ := hSw; go_simp; (try with_reducible rfl)))
  simp only [Act.put, List.getElem_toArray, List.getElem_cons_zero, List.getElem_cons_succ, List.setIfInBounds_toArray, List.set_cons_zero, List.set_cons_succ]
  refine wpAnyZ_take (i := 9) (v := ?v9) rfl (by kernel_rfl) (by kernel_rfl) (by kernel_rfl) (by kernel_rfl) (fun _ _ _ h => h) (Or.inl ⟨by rfl, ?hy9⟩) hHeld ?rest9; (case hy9 => (intro W hSw; obtain ⟨s0, s1, s2, s3, s4, s5, s6, s7, s8, s9, s10, s11, s12, s13⟩ := hSw; go_simp; (try with_reducible rfl)))
  simp only [Act.put, List.getElem_toArray, List.getElem_cons_zero, List.getElem_cons_succ, List.setIfInBounds_toArray, List.set_cons_zero, List.set_cons_succ]
  refine wpAnyZ_take (i := 10) (v := ?v10) rfl (by kernel_rfl) (by kernel_rfl) (by kernel_rfl) (by kernel_rfl) (fun _ _ _ h => h) (Or.inl ⟨by rfl, ?hy10⟩) hHeld ?rest10; (case hy10 => (intro W hSw; obtain ⟨s0, s1, s2, s3, s4, s5, s6, s7, s8, s9, s10, s11, s12, s13⟩ := hSw; go_simp; (try with_reducible rfl)))
  simp only [Act.put, List.getElem_toArray, List.getElem_cons_zero, List.getElem_cons_succ, List.setIfInBounds_toArray, List.set_cons_zero, List.set_cons_succ]
  refine wpAnyZ_take (i := 11) (v := ?v11) rfl (by kernel_rfl) (by kernel_rfl) (by kernel_rfl) (by kernel_rfl) (fun _ _ _ h => h) (Or.inl ⟨by rfl, ?hy11⟩) hHeld ?rest11; (case hy11 => (intro W hSw; obtain ⟨s0, s1, s2, s3, s4, s5, s6, s7, s8, s9, s10, s11, s12, s13⟩ := hSw; go_simp; (try with_reducible rfl)))
  simp only [Act.put, List.getElem_toArray, List.getElem_cons_zero, List.getElem_cons_succ, List.setIfInBounds_toArray, List.set_cons_zero, List.set_cons_succ]
  refine wpAnyZ_take (i := 12) (v := ?v12) rfl (by kernel_rfl) (by kernel_rfl) (by kernel_rfl) (by kernel_rfl) (fun _ _ _ h => h) (Or.inl ⟨by rfl, ?hy12⟩) hHeld ?rest12; (case hy12 => (intro W hSw; obtain ⟨s0, s1, s2, s3, s4, s5, s6, s7, s8, s9, s10, s11, s12, s13⟩ := hSw; go_simp; (try with_reducible rfl)))
  simp only [Act.put, List.getElem_toArray, List.getElem_cons_zero, List.getElem_cons_succ, List.setIfInBounds_toArray, List.set_cons_zero, List.set_cons_succ]
  refine wpAnyZ_take (i := 13) (v := ?v13) rfl (by kernel_rfl) (by kernel_rfl) (by kernel_rfl) (by kernel_rfl) (fun _ _ _ h => h) (Or.inl ⟨by rfl, ?hy13⟩) hHeld ?rest13; (case hy13 => (intro W hSw; obtain ⟨s0, s1, s2, s3, s4, s5, s6, s7, s8, s9, s10, s11, s12, s13⟩ := hSw; go_simp; (try with_reducible rfl)))
  simp only [Act.put, List.getElem_toArray, List.getElem_cons_zero, List.getElem_cons_succ, List.setIfInBounds_toArray, List.set_cons_zero, List.set_cons_succ]
  refine wpAnyZ_take (i := 14) (v := ?v14) rfl (by kernel_rfl) (by kernel_rfl) (by kernel_rfl) (by kernel_rfl) (fun _ _ _ h => h) (Or.inl ⟨by rfl, ?hy14⟩) hHeld ?rest14; (case hy14 => (intro W hSw; obtain ⟨s0, s1, s2, s3, s4, s5, s6, s7, s8, s9, s10, s11, s12, s13⟩ := hSw; go_simp; (try with_reducible rfl)))
  simp only [Act.put, List.getElem_toArray, List.getElem_cons_zero, List.getElem_cons_succ, List.setIfInBounds_toArray, List.set_cons_zero, List.set_cons_succ]
  refine wpAnyZ_take (i := 15) (v := ?v15) rfl (by kernel_rfl) (by kernel_rfl) (by kernel_rfl) (by kernel_rfl) (fun _ _ _ h => h) (Or.inl ⟨by rfl, ?hy15⟩) hHeld ?rest15; (case hy15 => (intro W hSw; obtain ⟨s0, s1, s2, s3, s4, s5, s6, s7, s8, s9, s10, s11, s12, s13⟩ := hSw; go_simp; (try with_reducible rfl)))
  simp only [Act.put, List.getElem_toArray, List.getElem_cons_zero, List.getElem_cons_succ, List.setIfInBounds_toArray, List.set_cons_zero, List.set_cons_succ]
  refine wpAnyZ_take (i := 16) (v := ?v16) rfl (by kernel_rfl) (by kernel_rfl) (by kernel_rfl) (by kernel_rfl) (fun _ _ _ h => h) (Or.inl ⟨by rfl, ?hy16⟩) hHeld ?rest16; (case hy16 => (intro W hSw; obtain ⟨s0, s1, s2, s3, s4, s5, s6, s7, s8, s9, s10, s11, s12, s13⟩ := hSw; go_simp; (try with_reducible rfl)))
  simp only [Act.put, List.getElem_toArray, List.getElem_cons_zero, List.getElem_cons_succ, List.setIfInBounds_toArray, List.set_cons_zero, List.set_cons_succ]
  refine wpAnyZ_take (i := 17) (v := ?v17) rfl (by kernel_rfl) (by kernel_rfl) (by kernel_rfl) (by kernel_rfl) (fun _ _ _ h => h) (Or.inl ⟨by rfl, ?hy17⟩) hHeld ?rest17; (case hy17 => (intro W hSw; obtain ⟨s0, s1, s2, s3, s4, s5, s6, s7, s8, s9, s10, s11, s12, s13⟩ := hSw; go_simp; (try with_reducible rfl)))
  simp only [Act.put, List.getElem_toArray, List.getElem_cons_zero, List.getElem_cons_succ, List.setIfInBounds_toArray, List.set_cons_zero, List.set_cons_succ]
  refine wpAnyZ_take (i := 18) (v := ?v18) rfl (by kernel_rfl) (by kernel_rfl) (by kernel_rfl) (by kernel_rfl) (fun _ _ _ h => h) (Or.inl ⟨by rfl, ?hy18⟩) hHeld ?rest18; (case hy18 => (intro W hSw; obtain ⟨s0, s1, s2, s3, s4, s5, s6, s7, s8, s9, s10, s11, s12, s13⟩ := hSw; go_simp; (try with_reducible rfl)))
  simp only [Act.put, List.getElem_toArray, List.getElem_cons_zero, List.getElem_cons_succ, List.setIfInBounds_toArray, List.set_cons_zero, List.set_cons_succ]
  refine wpAnyZ_skip (i := 19) (w' := W1.drew.setCell ⟨bo, 0, none⟩ (.bool true)) (by kernel_rfl) rfl (by rfl) ?hv19 (fun h => Bool.noConfusion h) ?rest19; (case hv19 => (go_simp))
  simp only [Act.put, List.getElem_toArray, List.getElem_cons_zero, List.getElem_cons_succ, List.setIfInBounds_toArray, List.set_cons_zero, List.set_cons_succ]
  refine wpAnyZ_done (by kernel_rfl) ?_ _
  refine NoPanic.normal ?_
  clear hHeld
  go_wp2
  go_ret
  obtain ⟨h, hW1, lt0, lt1, lt2, lt3⟩ := HH.out
  have hb : decide ((nF : Int) / 2 < (j : Int) + 1) = decide (nF / 2 < j + 1) := by rw [Bool.eq_iff_iff, decide_eq_true_eq, decide_eq_true_eq]; omega
  have kb : ∀ b, b < W.heap.size → W1.heap[b]? = W.heap[b]? := fun b hb => by rw [hW1]; exact Below.heap_alloc _ _ _ hb
  have e0 := (kb _ lt0).trans h.ok
  have e1 := (kb _ lt1).trans h.no
  have e2 := (kb _ lt2).trans h.k
  have e3 := (kb _ lt3).trans h.l
  refine ⟨ret_bool ?_, ⟨?_, ?_, ?_, ?_⟩, ?_⟩
  · rw [hb, Bool.eq_iff_iff]
    simp
  · show (World.setCell _ _ _).heap[bo]? = _
    rw [Below.heap_setCell _ _ _ _ (by simp only; omega), Below.heap_setCell _ _ _ _ (by simp only; omega)]
    exact setCell_box e0
  · show (World.setCell _ _ _).heap[bn]? = _
    rw [hb]
    refine setCell_box (v := .bool false) ?_
    rw [Below.heap_setCell _ _ _ _ (by simp only; omega), Below.heap_setCell _ _ _ _ (by simp only; omega)]
    exact e1
  · show (World.setCell _ _ _).heap[bk]? = _
    rw [Below.heap_setCell _ _ _ _ (by simp only; omega)]
    rw [show ((j + 1 : Nat) : Int) = (j : Int) + 1 by omega]
    refine setCell_box (v := .int .i64 (j : Nat)) ?_
    rw [Below.heap_setCell _ _ _ _ (by simp only; omega)]
    exact e2
  · show (World.setCell _ _ _).heap[bl]? = _
    rw [Below.heap_setCell _ _ _ _ (by simp only; omega), Below.heap_setCell _ _ _ _ (by simp only; omega), Below.heap_setCell _ _ _ _ (by simp only; omega)]
    exact e3
  · refine Keep.trans (hW1 ▸ Keep.alloc _ _ _) ?_
    exact (((Keep.setCell (F := fun b => b = bo ∨ b = bn ∨ b = bk) _ _ _ (.inl rfl)).trans (Keep.setCell _ _ _ (.inr (.inr rfl)))).trans (Keep.setCell _ _ _ (.inr (.inl rfl)))).trans (Keep.drew _ _)
end Go.Proofs.YtpdbmpbmepkikaaGreatDoor

namespace Go.Proofs.YtpdbmpbmepkikaaGreatDoor
open Go.RowKit
attribute [local go_sem] Oper.semAt_some

theorem info46 : (Tryz.prog.info? 46).map (fun i => (i.zero, i.size, i.bytes)) = some (some (.agg #[.string ⟨#[]⟩, .string ⟨#[]⟩, .int .i64 0, .int .i64 0, .string ⟨#[]⟩]), 5, 64) := by kernel_rfl

/-- The first round: what is gathered, and the variable ok. -/
structure RgI (N : Nat) (pre : List Reg) (W : World) (D : Nat → Prop) (v : Value) : Prop where
  acc : AccAt W N 35 46 5 v pre.length (rows pre)
  ok : W.heap[N + 1]? = some (.cells #[.bool true] 4 (0, 0))
  dom : D = fun b => accD N v b ∨ b = N + 1
theorem RgI.owned (N : Nat) : Owned (fun pre W D => ∃ v, RgI N pre W D v) := ⟨fun pre W D ⟨v, h⟩ b hb => by
    rw [h.dom] at hb
    rcases hb with hb | rfl
    · exact h.acc.lt b hb
    · exact (Array.getElem?_eq_some_iff.1 h.ok).1,
  fun pre W D W' ⟨v, h⟩ ha => ⟨v, h.acc.abide fun b hb => ha.block b (by rw [h.dom]; exact .inl hb), (ha.block _ (by rw [h.dom]; exact .inr rfl)).trans h.ok, h.dom⟩⟩

/-- The second round: what the closure's variables hold. -/
def RgJ (bo bn bk bl : Nat) (F : List Reg) (lv : Value) (D2 : Nat → Prop) (last : Bool) (pre : List Reg) (W : World) (D : Nat → Prop) : Prop :=
  ∃ no k, F40 bo bn bk bl true no k lv W ∧ (last = false → no = false ∧ k = (pre.length : Nat)) ∧ RegsAt W lv F ∧ D = D2
theorem RgJ.owned {bo bn bk bl : Nat} {F : List Reg} {lv : Value} {D2 : Nat → Prop} (h1 : ∀ b, D2 b ↔ (b = bo ∨ b = bn ∨ b = bk ∨ b = bl ∨ lv.ownBlock = some b)) (last : Bool) : Owned (RgJ bo bn bk bl F lv D2 last) := ⟨fun pre W D ⟨no, k, h, _, hs, e⟩ b hb => by
    subst e
    rcases (h1 b).1 hb with rfl | rfl | rfl | rfl | hb
    · exact (Array.getElem?_eq_some_iff.1 h.ok).1
    · exact (Array.getElem?_eq_some_iff.1 h.no).1
    · exact (Array.getElem?_eq_some_iff.1 h.k).1
    · exact (Array.getElem?_eq_some_iff.1 h.l).1
    · exact (World.ownsRow.lt hs b hb).2,
  fun pre W D W' ⟨no, k, h, hl, hs, e⟩ ha => by
    subst e
    exact ⟨no, k, ⟨(ha.block _ ((h1 _).2 (.inl rfl))).trans h.ok, (ha.block _ ((h1 _).2 (.inr (.inl rfl)))).trans h.no, (ha.block _ ((h1 _).2 (.inr (.inr (.inl rfl))))).trans h.k, (ha.block _ ((h1 _).2 (.inr (.inr (.inr (.inl rfl)))))).trans h.l⟩, hl, ownsRow_block hs fun g hg => ha.block g ((h1 g).2 (.inr (.inr (.inr (.inr hg))))), rfl⟩⟩

theorem second40_any (bo bn bk bl bp bq m : Nat) (L : List Reg) (lv : Value) (W : World) (D2 : Nat → Prop) (h1 : ∀ b, D2 b ↔ (b = bo ∨ b = bn ∨ b = bk ∨ b = bl ∨ lv.ownBlock = some b))
    (hcp : W.cell? ⟨bp, 0, none⟩ = some (.map (some m))) (hcn : W.cell? ⟨bq, 0, none⟩ = some (.string ⟨#[]⟩)) (hB : BookAt W m L) (hL : L.length ≤ 1073741824) (hF : (belowL L ⟨#[]⟩).length ≤ 1000000)
    (hd : bo ≠ bn ∧ bo ≠ bk ∧ bo ≠ bl ∧ bn ≠ bk ∧ bn ≠ bl ∧ bk ≠ bl) (hlv : ∀ b, lv.ownBlock = some b → b ≠ bo ∧ b ≠ bn ∧ b ≠ bk ∧ b ≠ bl)
    (hdis : ∀ b, D2 b → ¬ (b = bp ∨ b = bq ∨ b = m)) (h40 : F40 bo bn bk bl true false 0 lv W) (hs : RegsAt W lv (belowL L ⟨#[]⟩)) :
    Calls Tryz.prog 85 #[.func (.func 40) #[] #[.pointer (some ⟨bo, 0, none⟩), .pointer (some ⟨bn, 0, none⟩), .pointer (some ⟨bk, 0, none⟩), .pointer (some ⟨bl, 0, none⟩)], .pointer (some ⟨bp, 0, none⟩), .pointer (some ⟨bq, 0, none⟩)] W fun e W' =>
      (∃ v, e = .returned v) ∧ (∃ no k, F40 bo bn bk bl true no k lv W') ∧ RegsAt W' lv (belowL L ⟨#[]⟩) ∧ Keep D2 W W' := by
  obtain ⟨F, hFe⟩ : ∃ F, F = belowL L ⟨#[]⟩ := ⟨_, rfl⟩
  have hit := below1_iterC bp bq m L ⟨#[]⟩ W hcp hcn hB hL
  rw [← hFe] at hit hs hF ⊢
  have hc := hit 40 #[.pointer (some ⟨bo, 0, none⟩), .pointer (some ⟨bn, 0, none⟩), .pointer (some ⟨bk, 0, none⟩), .pointer (some ⟨bl, 0, none⟩)] (RgJ bo bn bk bl F lv D2 false) (RgJ bo bn bk bl F lv D2 true) W D2
    (callFunc_run Tryz.func40 rfl (by decide)) ⟨rfl, rfl, rfl, Nat.le_refl _, fun _ _ => rfl⟩ (RgJ.owned h1 false) (RgJ.owned h1 true) hdis ?_ ⟨false, 0, h40, fun _ => ⟨rfl, rfl⟩, hs, rfl⟩
  · refine (callsIn_wide (n := 0)).1 (hc.mono ?_)
    rintro e W' ⟨hv, (⟨xs, D', _, ⟨no, k, h, _, hs', rfl⟩, hL'⟩ | ⟨pre, D', _, ⟨no, k, h, _, hs', rfl⟩, hL'⟩)⟩
    · exact ⟨hv, ⟨no, k, h⟩, hs', hL'.1⟩
    · exact ⟨hv, ⟨no, k, h⟩, hs', hL'.1⟩
  · rintro pre x W1 D1 ⟨suf, hS⟩ ⟨no, k, h, hk, hs1, rfl⟩
    obtain ⟨rfl, rfl⟩ := hk rfl
    have hj : pre.length < F.length := by rw [← hS]; simp
    have hx : F[pre.length] = x := by simp [← hS]
    have := regs40_any bo bn bk bl F pre.length hj hF lv W1 h hs1 hd hlv
    rw [hx] at this
    refine (callsIn_wide.2 this).mono ?_
    rintro e W' ⟨rfl, h', hk'⟩
    have hs' : RegsAt W' lv F := ownsRow_block hs1 fun g hg => hk'.block g (World.ownsRow.lt hs1 g hg).2 (by obtain ⟨a, b, c, d⟩ := hlv g hg; rintro (e | e | e) <;> contradiction)
    have hL' : Left D1 W1 D1 W' := ⟨hk'.mono fun b _ hb => (h1 b).2 (by rcases hb with h | h | h <;> simp [h]), fun b hb => .inl hb⟩
    by_cases hle : pre.length + 1 ≤ F.length / 2
    · exact .inl ⟨by simp [hle], D1, ⟨_, _, h', fun _ => ⟨by simp; omega, by simp⟩, hs', rfl⟩, hL'⟩
    · exact .inr ⟨by simp [hle], D1, ⟨_, _, h', (fun h => Bool.noConfusion h), hs', rfl⟩, hL'⟩

set_option maxHeartbeats 2000000 in
theorem registersW_any (pw : Nat) (lv : Value) (ps : List Nat) (i : Nat) (hi : i < ps.length) (id : Int) (m g0 : Nat) (L : List Reg) (w : World) (hW : WldAt w pw lv ps) (_hps : ps.length ≤ 1000000) (hR : RepAt w ps[i] id m g0) (hB : BookAt w m L) (hL : L.length ≤ 500000) :
    Calls Tryz.prog 21 #[.pointer (some ⟨pw, 0, none⟩), .int .i64 i] w fun e w' => ∃ v, e = .returned (.tuple #[v, .bool true]) ∧ w'.ownsRow w.heap.size 46 5 v (belowL L ⟨#[]⟩).length (rows (belowL L ⟨#[]⟩)) ∧ Below w.heap.size w w' := by
  obtain ⟨gs, caps, hv, hg, hci⟩ := hW.cell hi
  subst hv
  obtain ⟨p, hp⟩ : ∃ p, p = ps[i] := ⟨_, rfl⟩
  rw [← hp] at hR hci
  have hcw : w.cell? ⟨pw, 0, none⟩ = some (.slice (some ⟨gs, 0, none⟩) ps.length caps) := Joins.cell_of_block hW.box 0
  have hpwl := (Array.getElem?_eq_some_iff.1 hW.box).1
  obtain ⟨i0, hi46, hq0, hq1, hq2⟩ := info_parts info46
  have hii : (i : Int) < (ps.length : Int) := by omega
  have hpl := hR.lt
  have hml := hB.lt
  have hpm := hR.ne hB
  have HB := Lib.hid (And.intro hR hB)
  clear hR hB hW hp
  refine (callsIn_wide (n := 0)).1 (callsIn_of_wp_marks Tryz.func21 rfl trivial ?_ rfl)
  simp only [Tryz.ntmps21, List.size_toArray, List.length_cons, List.length_nil, Nat.reduceAdd, Nat.reduceSub, Array.replicate_succ, Array.replicate_zero, List.push_toArray, List.append_toArray, List.nil_append, List.cons_append]
  gi_wp2_with (gi_at_call 39; refine (callsIn_wide.2 (registers_any p id m g0 _ ((Below.heap_alloc _ _ _ (by simp; omega)).trans ((Below.heap_alloc _ _ _ hpl).trans HB.out.1)))).mono ?_; rintro e w1 ⟨rfl, hw1⟩; have HW := Lib.hid hw1; clear hw1)
  obtain ⟨hR, hB⟩ := HB.out
  have hbel : Below w.heap.size w w1 := by rw [HW.out]; exact ((((Below.refl _ _).alloc (Nat.le_refl _) _).alloc (by simp) _).alloc (by simp; omega) _).alloc (by simp; omega) _
  have hz1 : w1.heap.size = w.heap.size + 4 := by rw [HW.out]; simp
  have hbl : w1.heap[w.heap.size]? = some (.cells #[.slice none 0 0] 35 (0, 0)) := by rw [HW.out]; simp only [World.alloc]; grind
  have hbo : w1.heap[w.heap.size + 1]? = some (.cells #[.bool true] 4 (0, 0)) := by rw [HW.out]; simp only [World.alloc]; grind
  have hcp : w1.cell? ⟨w.heap.size + 1 + 1, 0, none⟩ = some (.map (some m)) := by rw [HW.out]; go_simp
  have hcn : w1.cell? ⟨w.heap.size + 1 + 1 + 1, 0, none⟩ = some (.string ⟨#[]⟩) := by rw [HW.out]; go_simp
  have hB1 : BookAt w1 m L := hB.below hbel
  have hit := below1_iter (w.heap.size + 1 + 1) (w.heap.size + 1 + 1 + 1) m L ⟨#[]⟩ w1 hcp hcn hB1 (by omega)
  have hSl : (belowL L ⟨#[]⟩).length ≤ 500000 := by
    unfold belowL
    rw [List.length_map, sortB_length]
    exact Nat.le_trans (List.length_filter_le _ _) (by simpa using hL)
  refine wp_rangeFunc (gf := 85) (lb := #[.pointer (some ⟨w.heap.size + 1 + 1, 0, none⟩), .pointer (some ⟨w.heap.size + 1 + 1 + 1, 0, none⟩)]) rfl (callFunc_run Tryz.func85 rfl (by decide)) hit (fun b hb => by rcases hb with rfl | rfl | rfl <;> omega) (fun _ => rfl)
    (fun pre W D => ∃ v, RgI w.heap.size pre W D v) (fun _ _ _ _ => False) (RgI.owned _) (fun _ => ⟨fun _ _ _ h => h.elim, fun _ _ _ _ h => h.elim⟩)
    (fun b => accD w.heap.size (.slice none 0 0) b ∨ b = w.heap.size + 1) (fun b hb => ?idis) ⟨_, ⟨hbl, World.ownsRow_nil _ _ _ _⟩, hbo, rfl⟩ ?round ?done ?stop
  case idis =>
    rcases hb with (rfl | hb) | rfl
    · rintro (h | h | h) <;> omega
    · cases hb
    · rintro (h | h | h) <;> omega
  case stop => exact fun _ _ _ _ _ h => h.elim
  case round =>
    rintro l pre ⟨xn, xf, xc, xr, xv⟩ W D hl1 hl2 hDl ⟨suf, hS⟩ ⟨v, hI⟩ hD0
    have hlen : pre.length + 1 ≤ 500000 := by rw [← hS] at hSl; simp at hSl; omega
    have HI := Lib.hid hI
    have hd := hI.dom
    subst hd
    clear hit hbel hbl hbo hcp hcn hB1 hI hS hR hB hci hcw
    unfold Reg.val
    gi_wp2
    refine ⟨⟨Keep.alloc _ _ _, fun b hb => hb.imp (fun h => h) (·.1)⟩, fun W2 hbut => ?_⟩
    have hz2 : W2.heap.size = W.heap.size + 1 := by rw [hbut.size]; simp
    have kb : ∀ b, (accD w.heap.size v b ∨ b = w.heap.size + 1) → W2.heap[b]? = W.heap[b]? := fun b hb => (hbut.block b (fun e => hDl (e ▸ hb))).trans (Below.heap_alloc _ _ _ (by
      rcases hb with hb | rfl
      · exact HI.out.acc.lt b hb
      · exact (Array.getElem?_eq_some_iff.1 HI.out.ok).1))
    have hacc2 : AccAt W2 w.heap.size 35 46 5 v pre.length (rows pre) := HI.out.acc.abide fun b hb => kb b (.inl hb)
    have hok2 : W2.heap[w.heap.size + 1]? = some (.cells #[.bool true] 4 (0, 0)) := (kb _ (.inr rfl)).trans HI.out.ok
    have hnew : W2.heap[W.heap.size]? = some (.cells #[.string xn, .string xf, .int .i64 xc, .int .i64 xr, .string xv] 46 (0, 0)) := (hbut.block _ (by omega)).trans (World.alloc_heap_new _ _)
    have x0 : W2.cell? ⟨W.heap.size, 0, none⟩ = some (.string xn) := Joins.cell_of_block hnew 0
    have x1 : W2.cell? ⟨W.heap.size, 1, none⟩ = some (.string xf) := Joins.cell_of_block hnew 1
    have x2 : W2.cell? ⟨W.heap.size, 2, none⟩ = some (.int .i64 xc) := Joins.cell_of_block hnew 2
    have x3 : W2.cell? ⟨W.heap.size, 3, none⟩ = some (.int .i64 xr) := Joins.cell_of_block hnew 3
    have x4 : W2.cell? ⟨W.heap.size, 4, none⟩ = some (.string xv) := Joins.cell_of_block hnew 4
    obtain ⟨hc, hf⟩ := hacc2.cell
    have hrow := hacc2.row
    have hlt2 := hacc2.lt
    have hN2 := hlt2 _ (.inl rfl)
    have hokl := (Array.getElem?_eq_some_iff.1 hok2).1
    have HA := Lib.hid hacc2
    have HOk := Lib.hid hok2
    have HBt := Lib.hid hz2
    clear hacc2 hbut hDl hD0 hlt2 hok2 kb hnew hz2
    gi_wp2_with (gi_at_builtin; go_must (refine wpListIn_append_own_at _ rfl _ _ 35 rfl (w.heap.size + 1) 46 i0 (.agg #[.string ⟨#[]⟩, .string ⟨#[]⟩, .int .i64 0, .int .i64 0, .string ⟨#[]⟩]) 5 64 Tryz.underlying35 hi46 hq0 hq1 hq2 rfl (by decide) v pre.length (rows pre) rfl (hrow.alloc _) ⟨W2.heap.size, 0, none⟩ 1 1 [.string xn, .string xf, .int .i64 xc, .int .i64 xr, .string xv] rfl rfl (newsAt (by first | rfl | simp) _ _ rfl) (by simp [Value.oneCell']) (by unfold maxLen; omega) (by omega) (by simp; omega) ?_); intro v' w3 ho' hg' _ hat; refine Halt.of ?_)
    obtain ⟨g', cap', hv'⟩ := ownsRow_succ ho'
    have hap := Lib.hid (AccAt.appended (AccAt.abide HA.out (fun b hb => Below.heap_alloc _ _ _ (AccAt.lt HA.out b hb))) hg' ho' hat)
    have hnb : some w.heap.size ≠ v.ownBlock := fun e => by have := (hrow.lt _ e.symm).1; omega
    have hnb1 : some (w.heap.size + 1) ≠ v.ownBlock := fun e => by
      obtain ⟨h1, h2⟩ := hrow
      rcases h2 with ⟨rfl, _⟩ | ⟨g, cap, cur, rfl, _, hg, _⟩
      · cases e
      · simp only [Value.ownBlock, Option.some.injEq] at e
        subst e
        rw [HOk.out] at hg; cases hg
    have hc1 : w3.cell? ⟨w.heap.size, 0, none⟩ = some v := (World.cell?_of_block (w := W2.alloc (.cells #[.string xn, .string xf, .int .i64 xc, .int .i64 xr, .string xv] 46)) (hg'.block _ (by simp; omega) hnb)).trans ((World.cell?_of_block (w := W2) (Below.heap_alloc _ _ _ hN2)).trans hc)
    have hf1 : w3.frozen? ⟨w.heap.size, 0, none⟩ = false := (World.frozen?_of_block (w := W2.alloc (.cells #[.string xn, .string xf, .int .i64 xc, .int .i64 xr, .string xv] 46)) (hg'.block _ (by simp; omega) hnb)).trans ((World.frozen?_of_block (w := W2) (Below.heap_alloc _ _ _ hN2)).trans hf)
    have hok3 : Hid (w3.heap[w.heap.size + 1]? = some (.cells #[.bool true] 4 (0, 0))) := Lib.hid ((hg'.block _ (by simp; omega) hnb1).trans ((Below.heap_alloc _ _ _ hokl).trans HOk.out))
    clear hrow hat hg' ho' hi46 hq0 hq1 hq2 hc hf hnb hnb1 x0 x1 x2 x3 x4
    subst hv'
    unfold Halt
    gi_wp2
    obtain ⟨h1, h2⟩ := hap.out
    have h4 : RgI w.heap.size (pre ++ [(⟨xn, xf, xc, xr, xv⟩ : Reg)]) _ (fun b => accD w.heap.size (.slice (some ⟨g', 0, none⟩) (pre.length + 1) cap') b ∨ b = w.heap.size + 1) (.slice (some ⟨g', 0, none⟩) (pre.length + 1) cap') :=
      ⟨by rw [rows_append, List.length_append]; exact h1, (Below.heap_setCell _ _ _ _ (by simp)).trans hok3.out, rfl⟩
    refine ⟨_, ⟨_, h4⟩, ?_⟩
    have h3 := h2.shift (Keep.alloc (fun _ => False) W2 (.cells #[.string xn, .string xf, .int .i64 xc, .int .i64 xr, .string xv] 46)) (E := fun b => (accD w.heap.size v b ∨ b = w.heap.size + 1) ∨ (W.heap.size ≤ b ∧ b < W.heap.size + 1)) fun _ h => .inl (.inl h)
    refine ⟨h3.1, fun b hb => ?_⟩
    rcases hb with hb | hb
    · exact h3.2 b hb
    · exact .inl (.inl (.inr hb))
  case done =>
    rintro xs W D hxs ⟨v, hI⟩ hLf hK hDK
    subst hxs
    have hd := hI.dom
    subst hd
    have hKl := (Array.getElem?_eq_some_iff.1 hK).1
    have hok := hI.ok
    obtain ⟨hbox, hrow⟩ := hI.acc
    have hWz := hLf.1.size
    obtain ⟨W2, hW2⟩ : ∃ W2, W2 = (W.alloc (.cells #[.int .i64 0] 3)).alloc (.cells #[.bool false] 4) := ⟨_, rfl⟩
    have hb2 : Below W.heap.size W W2 := by rw [hW2]; exact ((Below.refl _ _).alloc (Nat.le_refl _) _).alloc (by simp) _
    have hz2 : W2.heap.size = W.heap.size + 2 := by rw [hW2]; simp
    have hk2 : W2.heap[W.heap.size]? = some (.cells #[.int .i64 0] 3 (0, 0)) := by rw [hW2, Below.heap_alloc _ _ _ (by simp)]; exact World.alloc_heap_new _ _
    have hn2 : W2.heap[W.heap.size + 1]? = some (.cells #[.bool false] 4 (0, 0)) := by
      have := World.alloc_heap_new (W.alloc (.cells #[.int .i64 0] 3)) (.cells #[.bool false] 4)
      rw [World.size_alloc] at this; rw [hW2]; exact this
    have hgv : ∀ g, v.ownBlock = some g → w.heap.size < g ∧ g < W.heap.size ∧ (g = w.heap.size + 1 ∨ w.heap.size + 4 ≤ g) := fun g hg => by
      have h1 := hrow.lt g hg
      refine ⟨by omega, h1.2, ?_⟩
      rcases hLf.2 g (.inl (.inr hg)) with ((h | h) | h) | h
      · omega
      · cases h
      · omega
      · omega
    have hgv1 : ∀ g, v.ownBlock = some g → g ≠ w.heap.size + 1 := fun g hg e => by
      obtain ⟨h1, h2⟩ := hrow
      rcases h2 with ⟨rfl, _⟩ | ⟨g', cap, cur, rfl, _, hg', _⟩
      · cases hg
      · simp only [Value.ownBlock, Option.some.injEq] at hg
        subst hg
        rw [e, hok] at hg'; cases hg'
    have keepW : ∀ b, b < w1.heap.size → b ≠ w.heap.size → b ≠ w.heap.size + 1 → W2.heap[b]? = w1.heap[b]? := fun b hb h0 h1 => (hb2.block b (by omega)).trans (hLf.1.block b hb (by rintro ((h | h) | h); exact h0 h; cases h; exact h1 h))
    have hcall := second40_any (w.heap.size + 1) (W.heap.size + 1) W.heap.size w.heap.size (w.heap.size + 1 + 1) (w.heap.size + 1 + 1 + 1) m L v W2
      (fun b => b = w.heap.size + 1 ∨ b = W.heap.size + 1 ∨ b = W.heap.size ∨ b = w.heap.size ∨ v.ownBlock = some b) (fun b => Iff.rfl)
      ((World.cell?_of_block (w := w1) (a := ⟨_, _, none⟩) (keepW _ (by simp only; omega) (by simp only; omega) (by simp only; omega))).trans hcp) ((World.cell?_of_block (w := w1) (a := ⟨_, _, none⟩) (keepW _ (by simp only; omega) (by simp only; omega) (by simp only; omega))).trans hcn)
      (hB1.of_block (keepW m (by omega) (by omega) (by omega))) (by omega) (by omega) ⟨by omega, by omega, by omega, by omega, by omega, by omega⟩
      (fun b hb => by have h1 := hgv b hb; have h2 := hgv1 b hb; omega)
      (fun b hb => by
        rcases hb with rfl | rfl | rfl | rfl | hb
        · rintro (h | h | h) <;> omega
        · rintro (h | h | h) <;> omega
        · rintro (h | h | h) <;> omega
        · rintro (h | h | h) <;> omega
        · have h1 := hgv b hb; have h2 := hgv1 b hb; rintro (h | h | h) <;> omega)
      ⟨(hb2.block _ (by omega)).trans hok, hn2, hk2, (hb2.block _ (by omega)).trans hbox⟩
      (ownsRow_base (base' := 0) (ownsRow_block hrow fun g hg => hb2.block g (hrow.lt g hg).2) fun _ _ => Nat.zero_le _)
    have hBW2 : Below w.heap.size w W2 := (hLf.below hbel (fun b hb => by rcases hb with (h | h) | h; omega; cases h; omega)).trans (hb2.mono (by omega))
    have hdef : W2.heap[w1.heap.size]? = some (.deferred (some [])) := (hb2.block _ hKl).trans hK
    have hDn : v.ownBlock ≠ some w1.heap.size := fun e => hDK (.inl (.inr e))
    rw [hz1] at hdef hDn
    have HC := Lib.hid hcall
    have HF := Lib.hid (And.intro hBW2 (And.intro hdef (And.intro hDn (And.intro hgv hW2))))
    have hbigW : w.heap.size + 4 < W.heap.size := by omega
    rw [hW2] at HC
    clear hit hbel hbl hbo hcp hcn hB1 hR hB hci hcw hLf hK hDK hI hok hbox hrow hb2 hz2 hk2 hn2 hgv hgv1 keepW hcall hBW2 hdef hDn hW2 HB HW hKl
    gi_wp2_with (gi_at_call 85; refine (callsIn_wide.2 HC.out).mono ?_; rintro e W3 ⟨⟨rv, rfl⟩, ⟨no, k, h40⟩, hs3, hK3⟩; refine Halt.of ?_)
    have e0 : W3.cell? ⟨w.heap.size, 0, none⟩ = some v := Joins.cell_of_block h40.l 0
    have e1 : W3.cell? ⟨w.heap.size + 1, 0, none⟩ = some (.bool true) := Joins.cell_of_block h40.ok 0
    have HE := Lib.hid (And.intro hs3 hK3)
    clear h40 hs3 hK3 HC
    unfold Halt
    gi_wp2
    refine wpIn_mono ?hreg (fun e a w h => NoPanic.imp e a w h)
    gi_region_with (fail)
    all_goals
      refine NoPanic.normal ?_
      gi_wp2
      obtain ⟨hs3, hK3⟩ := HE.out
      obtain ⟨hBW2, hdef, hDn, hgv, hW2⟩ := HF.out
      rw [← hW2] at hK3
      have hdefl := (Array.getElem?_eq_some_iff.1 hdef).1
      have hz2 : W2.heap.size = W.heap.size + 2 := by rw [hW2]; simp
      have hdef3 : W3.drew.heap[w.heap.size + 4]? = some (.deferred (some [])) := (hK3.block _ hdefl (by rintro (h | h | h | h | h); omega; omega; omega; omega; exact hDn h)).trans hdef
      refine ⟨by simp, .inl ⟨_, _, rfl, run_takeDeferred hdef3, ?_⟩⟩
      refine ⟨_, results_tmp2 rfl _ _ _, v, rfl, ?_, ?_⟩
      · exact ownsRow_block (ownsRow_base (w := W3.drew) hs3 fun g hg => by have := (hgv g hg).1; omega) fun g hg => World.putObj_heap_other (fun e => hDn (e ▸ hg))
      · refine below_putObj (below_keep hBW2 (hK3.trans (Keep.drew _ _)) (fun x hx e => ?_)) (by omega) _
        rcases e with h | h | h | h | h
        · omega
        · omega
        · omega
        · omega
        · have := (hgv x h).1; omega
end Go.Proofs.YtpdbmpbmepkikaaGreatDoor

namespace Go.Proofs.YtpdbmpbmepkikaaGreatDoor
open Go.RowKit

theorem info77 : (Tryz.prog.info? 77).map (fun i => (i.zero, i.size, i.bytes)) = some (some (.pointer none), 1, 8) := by kernel_rfl

theorem WldAt.ne {w : World} {pw : Nat} {lv : Value} {ps : List Nat} (h : WldAt w pw lv ps) : lv.ownBlock ≠ some pw := fun e => by
  obtain ⟨h1, h2⟩ := h.row
  rcases h2 with ⟨rfl, _⟩ | ⟨g, cap, cur, rfl, _, hg, _⟩
  · cases e
  · have : g = pw := by simpa [Value.ownBlock] using e
    subst this
    rw [h.box] at hg; cases hg

theorem newW_any (pw : Nat) (lv : Value) (ps : List Nat) (id : Int) (w : World) (hW : WldAt w pw lv ps) (hps : ps.length ≤ 1000000) :
    Calls Tryz.prog 37 #[.pointer (some ⟨pw, 0, none⟩), .int .i64 id] w fun e w' => e = .returned (.bool true) ∧ ∃ lv' p m g, WldAt w' pw lv' (ps ++ [p]) ∧ RepAt w' p id m g ∧ BookAt w' m [] ∧ MapAt (keI .i64) w' g [] ∧ w.heap.size ≤ p ∧ w.heap.size ≤ m ∧ w.heap.size ≤ g ∧ (∀ b, lv'.ownBlock = some b → lv.ownBlock = some b ∨ w.heap.size ≤ b) ∧ Keep (fun b => b = pw ∨ lv.ownBlock = some b) w w' := by
  obtain ⟨i0, hi, hz0, hz1, hz2⟩ := info_parts info77
  have hpwl := (Array.getElem?_eq_some_iff.1 hW.box).1
  have hcw : w.cell? ⟨pw, 0, none⟩ = some lv := Joins.cell_of_block hW.box 0
  have hcf : w.frozen? ⟨pw, 0, none⟩ = false := Joins.unfrozen_of_block hW.box 0
  have HC := Lib.hid (new_any id w)
  have HW := Lib.hid hW
  clear hW
  go_enter Tryz.func37, Tryz.ntmps37
  go_wp2_with (first
    | (go_at_call 50; refine HC.out.mono ?_; rintro e w1 ⟨rfl, hR, hB, hM, hb⟩; refine Halt.of ?_))
  have HX := Lib.hid (And.intro hR (And.intro hB (And.intro hM hb)))
  have hc1 : w1.cell? ⟨pw, 0, none⟩ = some lv := (hb.cell (p := ⟨pw, 0, none⟩) hpwl).trans hcw
  have hc2 : w1.frozen? ⟨pw, 0, none⟩ = false := (hb.frozen (p := ⟨pw, 0, none⟩) hpwl).trans hcf
  have hpw1 := Nat.lt_of_lt_of_le hpwl hb.size
  have hrow : w1.ownsRow 0 77 1 lv ps.length (ps.map fun p => .pointer (some ⟨p, 0, none⟩)) := ownsRow_block HW.out.row fun g hg => hb.block g (HW.out.row.lt g hg).2
  have HRow := Lib.hid hrow
  clear hR hB hM hb hcw hcf HC hrow
  unfold Halt
  go_wp2_with (at_builtin; go_must (refine wpList_append_own_at _ rfl _ _ 72 rfl 0 77 i0 (.pointer none) 1 8 Tryz.underlying72 hi hz0 hz1 hz2 rfl (by decide) lv ps.length _ rfl (ownsRow_block HRow.out (fun g hg => Below.heap_alloc _ _ _ (HRow.out.lt g hg).2)) ⟨w1.heap.size, 0, none⟩ 1 1 [.pointer (some ⟨w.heap.size + 2, 0, none⟩)] rfl rfl (newsAt (by first | rfl | simp) _ _ rfl) (by simp [Value.oneCell']) (by unfold maxLen; omega) (by omega) (by simp) ?_); intro v5 w5 hr5 hg5 _ hat; refine Halt.of ?_)
  have hnb : some pw ≠ lv.ownBlock := fun e => HW.out.ne e.symm
  have h5 : w5.heap[pw]? = w1.heap[pw]? := (hg5.block _ (by simp; omega) hnb).trans (Below.heap_alloc _ _ _ hpw1)
  have hc5 : w5.cell? ⟨pw, 0, none⟩ = some lv := (World.cell?_of_block (w := w1) h5).trans hc1
  have hf5 : w5.frozen? ⟨pw, 0, none⟩ = false := (World.frozen?_of_block (w := w1) h5).trans hc2
  obtain ⟨g', cap', hv'⟩ := ownsRow_succ hr5
  subst hv'
  have HG := Lib.hid (And.intro hr5 (And.intro hg5 (And.intro hat h5)))
  clear hr5 hg5 hat h5 hc1 hc2 hi hz0 hz1 hz2
  unfold Halt
  go_wp2
  go_ret
  obtain ⟨hr5, hg5, hat, h5⟩ := HG.out
  obtain ⟨hR, hB, hM, hb⟩ := HX.out
  have hzb := hb.size
  -- what stands behind the append and the store
  have hold : ∀ k, k < w1.heap.size → k ≠ pw → some k ≠ lv.ownBlock → (w5.setCell ⟨pw, 0, none⟩ (.slice (some ⟨g', 0, none⟩) (ps.length + 1) cap')).heap[k]? = w1.heap[k]? := fun k hk h1 h2 =>
    (Below.heap_setCell _ _ _ _ h1).trans ((hg5.block k (by simp; omega) h2).trans (Below.heap_alloc _ _ _ hk))
  have hlo : ∀ k, lv.ownBlock = some k → k < w.heap.size := fun k hk => (HW.out.row.lt k hk).2
  have hfr : ∀ k, w.heap.size ≤ k → k < w1.heap.size → (w5.setCell ⟨pw, 0, none⟩ (.slice (some ⟨g', 0, none⟩) (ps.length + 1) cap')).heap[k]? = w1.heap[k]? := fun k h0 hk => hold k hk (by omega) (fun e => by have := hlo k e.symm; omega)
  refine ⟨rfl, _, w.heap.size + 2, w.heap.size, w.heap.size + 1, ⟨setCell_box (h5.trans ((hb.block pw hpwl).trans HW.out.box)), ?_⟩, (hfr _ (by omega) hR.lt).trans hR, hB.of_block (hfr _ (by omega) hB.lt), hM.of_block (hfr _ (by omega) hM.lt), by omega, by omega, by omega, ?_, ?_⟩
  · have e : (ps ++ [w.heap.size + 2]).map (fun p => Value.pointer (some ⟨p, 0, none⟩)) = ps.map (fun p => Value.pointer (some ⟨p, 0, none⟩)) ++ [.pointer (some ⟨w.heap.size + 2, 0, none⟩)] := by simp
    rw [e, List.length_append]
    refine ownsRow_block hr5 fun k hk => Below.heap_setCell _ _ _ _ fun ek => ?_
    simp only [Value.ownBlock, Option.some.injEq] at hk hat
    simp only at ek
    rcases hat with h | h
    · rw [hk, ek] at h; exact hnb h
    · rw [hk, ek, World.size_alloc] at h
      omega
  · intro b hb
    rcases hat with h | h
    · exact .inl (h ▸ hb)
    · refine .inr ?_
      rw [h, World.size_alloc] at hb
      simp only [Option.some.injEq] at hb
      omega
  · refine ⟨?_, ?_, ?_, ?_, fun k hk hn => ?_⟩
    · show w5.os = _
      rw [hg5.os]; exact hb.os
    · show w5.tape = _
      rw [hg5.tape]; exact hb.tape
    · show w5.output = _
      rw [hg5.output]; exact hb.output
    · have := hg5.size
      simp [World.setCell] at this ⊢
      omega
    · exact (hold k (by omega) (fun e => hn (.inl e)) (fun e => hn (.inr e.symm))).trans (hb.block k hk)
end Go.Proofs.YtpdbmpbmepkikaaGreatDoor

namespace Go.Proofs.YtpdbmpbmepkikaaGreatDoor
open Go.RowKit

/-- The document's Put, and Delete. -/
def putD (l : List Reg) (id : Int) (n f v : ByteArray) : List Reg × Int × ByteArray :=
  if smallB n 8 then (if smallB f 4 then (if 20 < v.size then (l, 3, v) else (withD l ⟨n, f, clockL l + 1, id, v⟩, 0, ⟨#[]⟩)) else (l, 2, f)) else (l, 1, n)
def deleteD (l : List Reg) (id : Int) (n : ByteArray) : List Reg × Int × ByteArray :=
  if smallB n 8 then (if (fieldsD l n).isEmpty then (l, 4, n) else (withD l ⟨n, ⟨#[]⟩, clockL l + 1, id, ⟨#[]⟩⟩, 0, ⟨#[]⟩)) else (l, 1, n)

theorem ListAt.of_row {w : World} {base : Nat} {v : Value} {l : List Reg} (h : w.ownsRow base 154 5 v l.length (rows l)) : ListAt w v l := ownsRow_base h fun _ _ => Nat.zero_le _

theorem putD_any (l : List Reg) (lv : Value) (id : Int) (n f v : ByteArray) (w : World) (hl : ListAt w lv l) (hz : l.length ≤ 1000000) (hn : n.size ≤ 65536) (hf : f.size ≤ 65536) (hc : clockL l < 9223372036854775807) :
    Calls Tryz.prog 73 #[lv, .int .i64 id, .string n, .string f, .string v] w fun e w' => ∃ lv', e = .returned (.tuple #[lv', .int .i64 (putD l id n f v).2.1, .string (putD l id n f v).2.2]) ∧ ListAt w' lv' (putD l id n f v).1 ∧ Below w.heap.size w w' := by
  have h0 := clockL_nonneg l
  have hwrap : IntKind.i64.wrap (clockL l + 1) = clockL l + 1 := by rw [IntKind.wrap_i64]; omega
  have C1 : Hid (Calls Tryz.prog 126 #[.string n, .int .i64 8] w fun e w' => e = .returned (.bool (smallB n 8)) ∧ w' = w) := Lib.hid (smallD_any n 8 w hn)
  have C2 : Hid (Calls Tryz.prog 126 #[.string f, .int .i64 4] w fun e w' => e = .returned (.bool (smallB f 4)) ∧ w' = w) := Lib.hid (smallD_any f 4 w hf)
  have C3 := Lib.hid (clockD_any l lv w hl hz)
  have C4 := Lib.hid (with_any l lv n f v (clockL l + 1) id w hl hz)
  have HL := Lib.hid hl
  obtain ⟨k, hk⟩ : ∃ k, k = clockL l := ⟨_, rfl⟩
  rw [← hk] at hwrap C3 C4
  have HK := Lib.hid hk
  clear hl hz hn hf hc h0 hk
  cases h1 : smallB n 8 with
  | false =>
    have hp : putD l id n f v = (l, 1, n) := by simp [putD, h1]
    rw [h1] at C1
    rw [hp]
    clear hp h1
    go_enter Tryz.func73, Tryz.ntmps73
    go_wp2_with (first
      | (go_at_call 126; with_reducible refine C1.out.mono ?_; rintro e w2 ⟨rfl, hw2⟩; subst hw2)
      | (go_at_call 126; with_reducible refine C2.out.mono ?_; rintro e w2 ⟨rfl, hw2⟩; subst hw2))
    refine bodyPost_ret (results_tmp3 rfl _ _ _) rfl ?_
    exact ⟨_, rfl, HL.out, Below.refl _ _⟩
  | true =>
    rw [h1] at C1
    cases h2 : smallB f 4 with
    | false =>
      have hp : putD l id n f v = (l, 2, f) := by simp [putD, h1, h2]
      rw [h2] at C2
      rw [hp]
      clear hp h1 h2
      go_enter Tryz.func73, Tryz.ntmps73
      go_wp2_with (first
        | (go_at_call 126; with_reducible refine C1.out.mono ?_; rintro e w2 ⟨rfl, hw2⟩; subst hw2)
        | (go_at_call 126; with_reducible refine C2.out.mono ?_; rintro e w2 ⟨rfl, hw2⟩; subst hw2))
      refine bodyPost_ret (results_tmp3 rfl _ _ _) rfl ?_
      exact ⟨_, rfl, HL.out, Below.refl _ _⟩
    | true =>
      rw [h2] at C2
      by_cases h3 : 20 < v.size
      · have hp : putD l id n f v = (l, 3, v) := by simp [putD, h1, h2, h3]
        rw [hp]
        clear hp h1 h2
        go_enter Tryz.func73, Tryz.ntmps73
        go_wp2_with (first
          | (go_at_call 126; with_reducible refine C1.out.mono ?_; rintro e w2 ⟨rfl, hw2⟩; subst hw2)
          | (go_at_call 126; with_reducible refine C2.out.mono ?_; rintro e w2 ⟨rfl, hw2⟩; subst hw2))
        refine bodyPost_ret (results_tmp3 rfl _ _ _) rfl ?_
        exact ⟨_, rfl, HL.out, Below.refl _ _⟩
      · have hp : putD l id n f v = (withD l ⟨n, f, k + 1, id, v⟩, 0, ⟨#[]⟩) := by simp [putD, h1, h2, h3, HK.out]
        rw [hp]
        clear hp h1 h2
        go_enter Tryz.func73, Tryz.ntmps73
        go_wp2_with (first
          | (go_at_call 126; with_reducible refine C1.out.mono ?_; rintro e w2 ⟨rfl, hw2⟩; subst hw2)
          | (go_at_call 126; with_reducible refine C2.out.mono ?_; rintro e w2 ⟨rfl, hw2⟩; subst hw2)
          | (go_at_call 127; refine C3.out.mono ?_; rintro e w2 ⟨rfl, hw2⟩; subst hw2)
          | (go_at_call 128; refine C4.out.mono ?_; rintro e w2 ⟨lv', rfl, ho, hb⟩))
        refine bodyPost_ret (results_tmp3 rfl _ _ _) rfl ?_
        exact ⟨_, rfl, ListAt.of_row ho, hb⟩

theorem deleteD_any (l : List Reg) (lv : Value) (id : Int) (n : ByteArray) (w : World) (hl : ListAt w lv l) (hz : l.length ≤ 1000000) (hn : n.size ≤ 65536) (hc : clockL l < 9223372036854775807) :
    Calls Tryz.prog 74 #[lv, .int .i64 id, .string n] w fun e w' => ∃ lv', e = .returned (.tuple #[lv', .int .i64 (deleteD l id n).2.1, .string (deleteD l id n).2.2]) ∧ ListAt w' lv' (deleteD l id n).1 ∧ Below w.heap.size w w' := by
  have h0 := clockL_nonneg l
  have hwrap : IntKind.i64.wrap (clockL l + 1) = clockL l + 1 := by rw [IntKind.wrap_i64]; omega
  have C1 : Hid (Calls Tryz.prog 126 #[.string n, .int .i64 8] w fun e w' => e = .returned (.bool (smallB n 8)) ∧ w' = w) := Lib.hid (smallD_any n 8 w hn)
  have C2 := Lib.hid (fieldsD_any l lv n w hl hz)
  obtain ⟨k, hk⟩ : ∃ k, k = clockL l := ⟨_, rfl⟩
  have C3 : Hid (∀ W, Below w.heap.size w W → Calls Tryz.prog 127 #[lv] W fun e w' => e = .returned (.int .i64 k) ∧ w' = W) := Lib.hid fun W hW => hk ▸ clockD_any l lv W (hl.below hW (Nat.le_refl _)) hz
  have C4 : Hid (∀ W, Below w.heap.size w W → Calls Tryz.prog 128 #[lv, .agg #[.string n, .string ⟨#[]⟩, .int .i64 (k + 1), .int .i64 id, .string ⟨#[]⟩]] W fun e w' => ∃ v', e = .returned v' ∧ w'.ownsRow W.heap.size 154 5 v' (withD l ⟨n, ⟨#[]⟩, k + 1, id, ⟨#[]⟩⟩).length (rows (withD l ⟨n, ⟨#[]⟩, k + 1, id, ⟨#[]⟩⟩)) ∧ Below W.heap.size W w') := Lib.hid fun W hW => with_any l lv n ⟨#[]⟩ ⟨#[]⟩ (k + 1) id W (hl.below hW (Nat.le_refl _)) hz
  have HL := Lib.hid hl
  rw [← hk] at hwrap
  have HK := Lib.hid hk
  clear hl hz hn hc h0 hk
  cases h1 : smallB n 8 with
  | false =>
    have hp : deleteD l id n = (l, 1, n) := by simp [deleteD, h1]
    rw [h1] at C1
    rw [hp]
    clear hp h1
    go_enter Tryz.func74, Tryz.ntmps74
    go_wp2_with (first
      | (go_at_call 126; with_reducible refine C1.out.mono ?_; rintro e w2 ⟨rfl, hw2⟩; subst hw2)
      | (go_at_call 77; refine C2.out.mono ?_; rintro e w2 ⟨fv, rfl, hfo, hb2⟩))
    refine bodyPost_ret (results_tmp3 rfl _ _ _) rfl ?_
    exact ⟨_, rfl, HL.out.below hb2 (Nat.le_refl _), hb2⟩
  | true =>
    rw [h1] at C1
    obtain ⟨fl, hfl⟩ : ∃ fl, fl = fieldsD l n := ⟨_, rfl⟩
    rw [← hfl] at C2
    cases fl with
    | nil =>
      have hp : deleteD l id n = (l, 4, n) := by simp [deleteD, h1, ← hfl]
      rw [hp]
      clear hp h1 hfl
      go_enter Tryz.func74, Tryz.ntmps74
      go_wp2_with (first
        | (go_at_call 126; with_reducible refine C1.out.mono ?_; rintro e w2 ⟨rfl, hw2⟩; subst hw2)
        | (go_at_call 77; refine C2.out.mono ?_; rintro e w2 ⟨fv, rfl, hfo, hb2⟩; refine Halt.of ?_))
      obtain ⟨fad, fcap, hfv⟩ : ∃ fad fcap, fv = .slice fad 0 fcap := by
        rcases hfo.2 with ⟨rfl, h0⟩ | ⟨q, cap, cur, rfl, _⟩
        · exact ⟨none, 0, rfl⟩
        · exact ⟨_, _, rfl⟩
      subst hfv
      have HB := Lib.hid hb2
      clear hfo hb2
      unfold Halt
      go_wp2
      refine bodyPost_ret (results_tmp3 rfl _ _ _) rfl ?_
      exact ⟨_, rfl, HL.out.below HB.out (Nat.le_refl _), HB.out⟩
    | cons x t =>
      have hp : deleteD l id n = (withD l ⟨n, ⟨#[]⟩, k + 1, id, ⟨#[]⟩⟩, 0, ⟨#[]⟩) := by simp [deleteD, h1, ← hfl, HK.out]
      rw [hp]
      have hx0 : (((t.length : Int) + 1) == 0) = false := by simp; omega
      have hx1 : ¬ ((t.length : Int) + 1) = 0 := by omega
      clear hp h1 hfl
      go_enter Tryz.func74, Tryz.ntmps74
      go_wp2_with (first
        | (go_at_call 126; with_reducible refine C1.out.mono ?_; rintro e w2 ⟨rfl, hw2⟩; subst hw2)
        | (go_at_call 77; refine C2.out.mono ?_; rintro e w2 ⟨fv, rfl, hfo, hb2⟩; refine Halt.of ?_))
      obtain ⟨fad, fcap, hfv⟩ : ∃ fad fcap, fv = .slice fad (t.length + 1) fcap := by
        rcases hfo.2 with ⟨rfl, h0⟩ | ⟨q, cap, cur, rfl, _⟩
        · simp at h0
        · exact ⟨_, _, rfl⟩
      subst hfv
      have HB := Lib.hid hb2
      clear hfo hb2
      unfold Halt
      go_wp2_with (first
        | (go_at_call 127; refine (C3.out _ HB.out).mono ?_; rintro e w3 ⟨rfl, hw3⟩; subst hw3)
        | (go_at_call 128; refine (C4.out _ HB.out).mono ?_; rintro e w3 ⟨lv', rfl, ho, hb⟩))
      refine bodyPost_ret (results_tmp3 rfl _ _ _) rfl ?_
      exact ⟨_, rfl, ListAt.of_row ho, HB.out.trans (hb.mono HB.out.size)⟩
end Go.Proofs.YtpdbmpbmepkikaaGreatDoor

namespace Go.Proofs.YtpdbmpbmepkikaaGreatDoor
open Go.RowKit

/-- A replica: the program's, and the document's. -/
structure One where
  p : Nat
  id : Int
  m : Nat
  g : Nat
  L : List Reg
  q : Nat
  lv : Value
  ov : Value
  bv : Value
  l : List Reg
def One.upd (o : One) (L' : List Reg) (lv' ov' bv' : Value) (l' : List Reg) : One := ⟨o.p, o.id, o.m, o.g, L', o.q, lv', ov', bv', l'⟩
structure OneAt (N K : Nat) (w : World) (o : One) : Prop where
  rep : RepAt w o.p o.id o.m o.g
  book : BookAt w o.m o.L
  box : w.heap[o.q]? = some (.cells #[.int .i64 o.id, o.lv, o.ov, o.bv] 147 (0, 0))
  list : ListAt w o.lv o.l
  bk : Bk o.L o.l
  mN : N ≤ o.m
  qN : N ≤ o.q
  idr : I64 o.id
  len : o.l.length ≤ K
  cnt : ∀ y ∈ o.l, 0 ≤ y.c ∧ y.c ≤ K ∧ I64 y.r
structure LawAt (N K : Nat) (w : World) (x pw : Nat) (pv qv : Value) (os : List One) : Prop where
  box : w.heap[x]? = some (.cells #[.pointer (some ⟨pw, 0, none⟩), qv] 100 (0, 0))
  row : w.ownsRow N 144 1 qv os.length (os.map fun o => .pointer (some ⟨o.q, 0, none⟩))
  wld : WldAt w pw pv (os.map (·.p))
  pvN : ∀ b, pv.ownBlock = some b → N ≤ b
  xN : N ≤ x
  pwN : N ≤ pw
  ones : ∀ o ∈ os, OneAt N K w o
  ms : (os.map (·.m)).Nodup
  qs : (os.map (·.q)).Nodup

theorem row_cells {w : World} {base e size n : Nat} {v : Value} {xs : List Value} (h : w.ownsRow base e size v n xs) {b : Nat} (hb : v.ownBlock = some b) : ∃ cur, w.heap[b]? = some (.cells cur e (0, 0)) := by
  rcases h.2 with ⟨rfl, _⟩ | ⟨g, cap, cur, rfl, _, hg, _⟩
  · cases hb
  · simp only [Value.ownBlock, Option.some.injEq] at hb
    exact ⟨cur, hb ▸ hg⟩
theorem cells_ne {w : World} {a b : Nat} {c d : Array Value} {t u : Nat} {r s : Nat × Nat} (ha : w.heap[a]? = some (.cells c t r)) (hb : w.heap[b]? = some (.cells d u s)) (h : t ≠ u) : a ≠ b := by
  rintro rfl
  rw [ha] at hb
  simp only [Option.some.injEq, Obj.cells.injEq] at hb
  exact h hb.2.1
theorem BookAt.ne_cells {w : World} {m b : Nat} {L : List Reg} (h : BookAt w m L) {d : Array Value} {u : Nat} {s : Nat × Nat} (hb : w.heap[b]? = some (.cells d u s)) : b ≠ m := by
  rintro rfl
  obtain ⟨en, clock, h1, _⟩ := h
  rw [h1] at hb; cases hb

variable {N K : Nat} {w w' : World} {x pw : Nat} {pv qv : Value} {os : List One}
theorem OneAt.blocks {o : One} (h : OneAt N K w o) (hp : w'.heap[o.p]? = w.heap[o.p]?) (hm : w'.heap[o.m]? = w.heap[o.m]?) (hq : w'.heap[o.q]? = w.heap[o.q]?) (hl : ∀ b, o.lv.ownBlock = some b → w'.heap[b]? = w.heap[b]?) : OneAt N K w' o :=
  ⟨hp.trans h.rep, h.book.of_block hm, hq.trans h.box, h.list.block hl, h.bk, h.mN, h.qN, h.idr, h.len, h.cnt⟩
theorem OneAt.more {o : One} {K' : Nat} (h : OneAt N K w o) (hK : K ≤ K') : OneAt N K' w o :=
  ⟨h.rep, h.book, h.box, h.list, h.bk, h.mN, h.qN, h.idr, Nat.le_trans h.len hK, fun y hy => ⟨(h.cnt y hy).1, by have := (h.cnt y hy).2.1; omega, (h.cnt y hy).2.2⟩⟩
theorem OneAt.qlt {o : One} (h : OneAt N K w o) : o.q < w.heap.size := (Array.getElem?_eq_some_iff.1 h.box).1
theorem LawAt.more {K' : Nat} (h : LawAt N K w x pw pv qv os) (hK : K ≤ K') : LawAt N K' w x pw pv qv os :=
  ⟨h.box, h.row, h.wld, h.pvN, h.xN, h.pwN, fun o ho => (h.ones o ho).more hK, h.ms, h.qs⟩
theorem LawAt.xlt (h : LawAt N K w x pw pv qv os) : x < w.heap.size := (Array.getElem?_eq_some_iff.1 h.box).1
theorem LawAt.pwlt (h : LawAt N K w x pw pv qv os) : pw < w.heap.size := (Array.getElem?_eq_some_iff.1 h.wld.box).1
theorem WldAt.blocks {ps : List Nat} (h : WldAt w pw pv ps) (hp : w'.heap[pw]? = w.heap[pw]?) (hl : ∀ b, pv.ownBlock = some b → w'.heap[b]? = w.heap[b]?) : WldAt w' pw pv ps :=
  ⟨hp.trans h.box, ownsRow_block h.row hl⟩

/-- Where nothing that was there has changed. -/
theorem LawAt.below (h : LawAt N K w x pw pv qv os) (hb : Below w.heap.size w w') : LawAt N K w' x pw pv qv os :=
  ⟨(hb.block _ h.xlt).trans h.box, ownsRow_block h.row fun b hq => hb.block b (h.row.lt b hq).2, h.wld.blocks (hb.block _ h.pwlt) fun b hq => hb.block b (h.wld.row.lt b hq).2, h.pvN, h.xN, h.pwN,
    fun o ho => (h.ones o ho).blocks (hb.block _ (h.ones o ho).rep.lt) (hb.block _ (h.ones o ho).book.lt) (hb.block _ (h.ones o ho).qlt) (fun b hq => hb.block b (World.ownsRow.lt (h.ones o ho).list b hq).2), h.ms, h.qs⟩

/-- Where one replica has changed. -/
theorem LawAt.edit (h : LawAt N K w x pw pv qv os) {i : Nat} (hi : i < os.length) {L' l' : List Reg} {lv' ov' bv' : Value} (hk : Keep (fun b => b = os[i].m ∨ b = os[i].q) w w') (hB : BookAt w' os[i].m L')
    (hbox : w'.heap[os[i].q]? = some (.cells #[.int .i64 os[i].id, lv', ov', bv'] 147 (0, 0))) (hl : ListAt w' lv' l') (hbk : Bk L' l') (hlen : l'.length ≤ K) (hcnt : ∀ y ∈ l', 0 ≤ y.c ∧ y.c ≤ K ∧ I64 y.r) :
    LawAt N K w' x pw pv qv (os.set i (os[i].upd L' lv' ov' bv' l')) := by
  have hio := h.ones os[i] (List.getElem_mem hi)
  have hc : ∀ (b : Nat) (c : Array Value) (t : Nat), w.heap[b]? = some (Obj.cells c t (0, 0)) → t ≠ 147 → w'.heap[b]? = w.heap[b]? := fun b c t hb ht => hk.block b (Array.getElem?_eq_some_iff.1 hb).1 fun e => by
    rcases e with e | e
    · exact hio.book.ne_cells hb e
    · exact cells_ne hb hio.box ht e
  have hps : (os.set i (os[i].upd L' lv' ov' bv' l')).map (·.p) = os.map (·.p) := by rw [List.map_set]; exact List.ext_getElem (by simp) fun n h1 h2 => by rw [List.getElem_set]; split <;> simp_all [One.upd]
  have hms : (os.set i (os[i].upd L' lv' ov' bv' l')).map (·.m) = os.map (·.m) := by rw [List.map_set]; exact List.ext_getElem (by simp) fun n h1 h2 => by rw [List.getElem_set]; split <;> simp_all [One.upd]
  have hqs : (os.set i (os[i].upd L' lv' ov' bv' l')).map (·.q) = os.map (·.q) := by rw [List.map_set]; exact List.ext_getElem (by simp) fun n h1 h2 => by rw [List.getElem_set]; split <;> simp_all [One.upd]
  have hqv : (os.set i (os[i].upd L' lv' ov' bv' l')).map (fun o => Value.pointer (some ⟨o.q, 0, none⟩)) = os.map fun o => Value.pointer (some ⟨o.q, 0, none⟩) := by
    have := congrArg (List.map fun q : Nat => Value.pointer (some ⟨q, 0, none⟩)) hqs
    rw [List.map_map, List.map_map] at this
    exact this
  refine ⟨(hc _ _ _ h.box (by decide)).trans h.box, ?_, ?_, h.pvN, h.xN, h.pwN, fun o ho => ?_, by rw [hms]; exact h.ms, by rw [hqs]; exact h.qs⟩
  · rw [hqv, List.length_set]
    refine ownsRow_block h.row fun b hb => ?_
    obtain ⟨cur, hcur⟩ := row_cells h.row hb
    exact hc _ _ _ hcur (by decide)
  · rw [hps]
    refine h.wld.blocks (hc _ _ _ h.wld.box (by decide)) fun b hb => ?_
    obtain ⟨cur, hcur⟩ := row_cells h.wld.row hb
    exact hc _ _ _ hcur (by decide)
  · obtain ⟨j, hj, hjo⟩ := List.getElem_of_mem ho
    rw [List.length_set] at hj
    rw [List.getElem_set] at hjo
    by_cases hij : i = j
    · rw [if_pos hij] at hjo
      subst hjo
      exact ⟨(hc _ _ _ hio.rep (by decide)).trans hio.rep, hB, hbox, hl, hbk, hio.mN, hio.qN, hio.idr, hlen, hcnt⟩
    · rw [if_neg hij] at hjo
      subst hjo
      have hjo := h.ones os[j] (List.getElem_mem hj)
      have hm : os[j].m ≠ os[i].m := fun e => hij ((List.getElem_inj (h₀ := by simpa using hi) (h₁ := by simpa using hj) h.ms).1 (by simpa using e.symm))
      have hq : os[j].q ≠ os[i].q := fun e => hij ((List.getElem_inj (h₀ := by simpa using hi) (h₁ := by simpa using hj) h.qs).1 (by simpa using e.symm))
      refine hjo.blocks (hc _ _ _ hjo.rep (by decide)) (hk.block _ hjo.book.lt fun e => ?_) (hk.block _ hjo.qlt fun e => ?_) fun b hb => ?_
      · rcases e with e | e
        · exact hm e
        · exact hjo.book.ne_cells hio.box e.symm
      · rcases e with e | e
        · exact hio.book.ne_cells hjo.box e
        · exact hq e
      · obtain ⟨cur, hcur⟩ := row_cells hjo.list hb
        exact hc _ _ _ hcur (by decide)

/-- Where there is one replica more. -/
theorem LawAt.grow (h : LawAt N K w x pw pv qv os) {o : One} {pv' qv' : Value} (hk : Keep (fun b => b = pw ∨ pv.ownBlock = some b ∨ b = x ∨ qv.ownBlock = some b) w w')
    (hbox : w'.heap[x]? = some (.cells #[.pointer (some ⟨pw, 0, none⟩), qv'] 100 (0, 0))) (hrow : w'.ownsRow N 144 1 qv' (os.length + 1) ((os.map fun o => .pointer (some ⟨o.q, 0, none⟩)) ++ [.pointer (some ⟨o.q, 0, none⟩)]))
    (hW : WldAt w' pw pv' (os.map (·.p) ++ [o.p])) (hpv' : ∀ b, pv'.ownBlock = some b → N ≤ b) (ho : OneAt N K w' o) (hm : w.heap.size ≤ o.m) (hq : w.heap.size ≤ o.q) : LawAt N K w' x pw pv' qv' (os ++ [o]) := by
  have hc : ∀ (b : Nat) (c : Array Value) (t : Nat), w.heap[b]? = some (Obj.cells c t (0, 0)) → t ≠ 74 → t ≠ 77 → t ≠ 100 → t ≠ 144 → w'.heap[b]? = w.heap[b]? := fun b c t hb h1 h2 h3 h4 => hk.block b (Array.getElem?_eq_some_iff.1 hb).1 fun e => by
    rcases e with e | e | e | e
    · exact cells_ne hb h.wld.box h1 e
    · obtain ⟨cur, hcur⟩ := row_cells h.wld.row e
      exact cells_ne hb hcur h2 rfl
    · exact cells_ne hb h.box h3 e
    · obtain ⟨cur, hcur⟩ := row_cells h.row e
      exact cells_ne hb hcur h4 rfl
  refine ⟨hbox, by simpa using hrow, by simpa using hW, hpv', h.xN, h.pwN, fun r hr => ?_, ?_, ?_⟩
  · rcases List.mem_append.1 hr with hr | hr
    · have hro := h.ones r hr
      refine hro.blocks (hc _ _ _ hro.rep (by decide) (by decide) (by decide) (by decide)) (hk.block _ hro.book.lt fun e => ?_) (hc _ _ _ hro.box (by decide) (by decide) (by decide) (by decide)) fun b hb => ?_
      · rcases e with e | e | e | e
        · exact hro.book.ne_cells h.wld.box e.symm
        · obtain ⟨cur, hcur⟩ := row_cells h.wld.row e
          exact hro.book.ne_cells hcur rfl
        · exact hro.book.ne_cells h.box e.symm
        · obtain ⟨cur, hcur⟩ := row_cells h.row e
          exact hro.book.ne_cells hcur rfl
      · obtain ⟨cur, hcur⟩ := row_cells hro.list hb
        exact hc _ _ _ hcur (by decide) (by decide) (by decide) (by decide)
    · rw [List.mem_singleton.1 hr]; exact ho
  · rw [List.map_append, List.map_singleton]
    refine List.nodup_append.2 ⟨h.ms, by simp, fun a ha b hb e => ?_⟩
    obtain ⟨r, hr, rfl⟩ := List.mem_map.1 ha
    rw [List.mem_singleton.1 hb] at e
    have := (h.ones r hr).book.lt
    omega
  · rw [List.map_append, List.map_singleton]
    refine List.nodup_append.2 ⟨h.qs, by simp, fun a ha b hb e => ?_⟩
    obtain ⟨r, hr, rfl⟩ := List.mem_map.1 ha
    rw [List.mem_singleton.1 hb] at e
    have := (h.ones r hr).qlt
    omega
theorem LawAt.cell (h : LawAt N K w x pw pv qv os) {i : Nat} (hi : i < os.length) : ∃ g cap, qv = .slice (some ⟨g, 0, none⟩) os.length cap ∧ g < w.heap.size ∧ w.cell? ⟨g, i, none⟩ = some (.pointer (some ⟨os[i].q, 0, none⟩)) := by
  obtain ⟨h1, h2⟩ := h.row
  rcases h2 with ⟨_, h2⟩ | ⟨g, cap, cur, hv, _, hg, hn, _, _, ht⟩
  · omega
  · refine ⟨g, cap, hv, (Array.getElem?_eq_some_iff.1 hg).1, ?_⟩
    rw [Joins.cell_of_block hg i]
    have h3 : (os.map fun o => Value.pointer (some ⟨o.q, 0, none⟩))[i]? = some (.pointer (some ⟨os[i].q, 0, none⟩)) := by simp [hi]
    rw [← h3, ← ht, List.getElem?_take_of_lt (by omega)]
    simp
theorem LawAt.slice (h : LawAt N K w x pw pv qv os) : ∃ ad cap, qv = .slice ad os.length cap := by
  rcases h.row.2 with ⟨rfl, h0⟩ | ⟨q, cap, cur, rfl, _⟩
  · exact ⟨none, 0, by rw [h0]⟩
  · exact ⟨_, _, rfl⟩

theorem ins_length (l : List Reg) (x : Reg) : (ins l x).length ≤ l.length + 1 := by
  induction l with
  | nil => simp [ins]
  | cons y l ih => unfold ins; split <;> (try split) <;> simp <;> omega
theorem clockL_le {l : List Reg} {k : Int} (h0 : 0 ≤ k) (h : ∀ y ∈ l, y.c ≤ k) : clockL l ≤ k := by
  rcases clockL_mem l with e | ⟨y, hy, e⟩
  · omega
  · rw [← e]; exact h y hy
theorem smallB_spec {s : ByteArray} {k : Nat} (h : smallB s k = true) : letters s = true ∧ s.size ≠ 0 ∧ s.size ≤ k := by
  simp only [smallB, Bool.and_eq_true, decide_eq_true_eq] at h
  exact ⟨h.1.1, by omega, h.2⟩

/-- What a write leaves, of both. -/
structure Wrote (K : Nat) (L l : List Reg) : Prop where
  bk : Bk L l
  len : l.length ≤ K
  cnt : ∀ y ∈ l, 0 ≤ y.c ∧ y.c ≤ K ∧ I64 y.r
theorem Wrote.more {K' : Nat} {L l : List Reg} (h : Wrote K L l) (hK : K ≤ K') : Wrote K' L l :=
  ⟨h.bk, Nat.le_trans h.len hK, fun y hy => ⟨(h.cnt y hy).1, by have := (h.cnt y hy).2.1; omega, (h.cnt y hy).2.2⟩⟩
theorem Wrote.take {L l : List Reg} (h : Wrote K L l) {n f v : ByteArray} {id : Int} (hid : I64 id) (hg : Good ⟨n, f, clockL l + 1, id, v⟩) : Wrote (K + 1) (takeL L ⟨n, f, clockL L + 1, id, v⟩) (withD l ⟨n, f, clockL l + 1, id, v⟩) := by
  rw [withD_ins h.bk.sorted, h.bk.clock]
  have hc : clockL l ≤ K := clockL_le (by omega) fun y hy => (h.cnt y hy).2.1
  have h0 := clockL_nonneg l
  refine ⟨h.bk.take hg, Nat.le_trans (ins_length _ _) (by have := h.len; omega), fun y hy => ?_⟩
  rcases ins_mem hy with rfl | hy
  · exact ⟨show (0 : Int) ≤ clockL l + 1 by omega, show clockL l + 1 ≤ ((K + 1 : Nat) : Int) by omega, hid⟩
  · exact ⟨(h.cnt y hy).1, by have := (h.cnt y hy).2.1; omega, (h.cnt y hy).2.2⟩
theorem Wrote.put {L l : List Reg} (h : Wrote K L l) {id : Int} (hid : I64 id) (n f v : ByteArray) : Wrote (K + 1) (putP L id n f v).1 (putD l id n f v).1 ∧ (putP L id n f v).2 = (putD l id n f v).2 := by
  unfold putP putD
  cases h1 : smallB n 8 with
  | false => exact ⟨h.more (by omega), rfl⟩
  | true =>
    cases h2 : smallB f 4 with
    | false => exact ⟨h.more (by omega), rfl⟩
    | true =>
      by_cases h3 : 20 < v.size
      · simp only [h3, if_true]; exact ⟨h.more (by omega), trivial⟩
      · simp only [h3, if_true, if_false]
        obtain ⟨a1, a2, a3⟩ := smallB_spec h1
        obtain ⟨b1, b2, b3⟩ := smallB_spec h2
        exact ⟨h.take hid ⟨a1, a2, a3, b1, b3, by show v.size ≤ 20; omega⟩, trivial⟩
theorem Wrote.delete {L l : List Reg} (h : Wrote K L l) {id : Int} (hid : I64 id) (n : ByteArray) : Wrote (K + 1) (deleteP L id n).1 (deleteD l id n).1 ∧ (deleteP L id n).2 = (deleteD l id n).2 := by
  unfold deleteP deleteD
  cases h1 : smallB n 8 with
  | false => exact ⟨h.more (by omega), rfl⟩
  | true =>
    rw [h.bk.shown]
    cases h2 : (fieldsD l n).isEmpty with
    | true => simp only [if_true]; exact ⟨h.more (by omega), trivial⟩
    | false =>
      simp only [if_true]
      obtain ⟨a1, a2, a3⟩ := smallB_spec h1
      exact ⟨h.take hid ⟨a1, a2, a3, rfl, Nat.zero_le _, Nat.zero_le _⟩, rfl⟩
theorem OneAt.wrote {o : One} (h : OneAt N K w o) : Wrote K o.L o.l := ⟨h.bk, h.len, h.cnt⟩
end Go.Proofs.YtpdbmpbmepkikaaGreatDoor

namespace Go.Proofs.YtpdbmpbmepkikaaGreatDoor
open Go.RowKit

/-- A row that the caller spoils. -/
def Spoilt (g e size : Nat) (W : World) : Prop := ∃ cur, W.heap[g]? = some (.cells cur e (0, 0)) ∧ size ≤ cur.size
theorem Spoilt.cell {g e size : Nat} {W : World} (h : Spoilt g e size W) {j : Nat} (hj : j < size) : ∃ u, W.cell? ⟨g, j, none⟩ = some u := by
  obtain ⟨cur, hg, hs⟩ := h
  exact ⟨cur[j]'(by omega), by rw [Joins.cell_of_block hg j]; simp⟩
theorem Spoilt.frozen {g e size : Nat} {W : World} (h : Spoilt g e size W) (j : Nat) : W.frozen? ⟨g, j, none⟩ = false := by
  obtain ⟨cur, hg, hs⟩ := h
  exact Joins.unfrozen_of_block hg j
theorem Spoilt.set {g e size : Nat} {W : World} (h : Spoilt g e size W) (j : Nat) (v : Value) : Spoilt g e size (W.setCell ⟨g, j, none⟩ v) := by
  obtain ⟨cur, hg, hs⟩ := h
  refine ⟨cur.setIfInBounds j v, ?_, by simpa using hs⟩
  simp only [World.setCell, Array.getElem?_modify, hg, Option.map_some, if_true]
  rfl

set_option maxHeartbeats 1000000 in
theorem namesW_any (pw : Nat) (lv : Value) (ps : List Nat) (i : Nat) (hi : i < ps.length) (id : Int) (m g0 : Nat) (L : List Reg) (pfx : ByteArray) (w : World) (hW : WldAt w pw lv ps) (hps : ps.length ≤ 1000000) (hR : RepAt w ps[i] id m g0) (hB : BookAt w m L) (hL : L.length ≤ 1000000) (hn : ∀ x ∈ L, x.name.size ≤ 4096) :
    Calls Tryz.prog 29 #[.pointer (some ⟨pw, 0, none⟩), .int .i64 i, .string pfx] w fun e w' => ∃ v xs, e = .returned v ∧ xs.Nodup ∧ (∀ n, n ∈ xs ↔ ∃ y ∈ L, y.name = n) ∧
      w'.ownsRow w.heap.size 9 1 v ((sortB xs).filter fun n => preB pfx n && !(shownL L n).isEmpty).length (((sortB xs).filter fun n => preB pfx n && !(shownL L n).isEmpty).map .string) ∧ Below w.heap.size w w' := by
  obtain ⟨gs, caps, hv, hg, hci⟩ := hW.cell hi
  subst hv
  obtain ⟨p, hp⟩ : ∃ p, p = ps[i] := ⟨_, rfl⟩
  rw [← hp] at hR hci
  have hcw : w.cell? ⟨pw, 0, none⟩ = some (.slice (some ⟨gs, 0, none⟩) ps.length caps) := Joins.cell_of_block hW.box 0
  obtain ⟨i0, hi9, hz0, hz1, hz2⟩ := info_parts info9
  have HC := Lib.hid (namesR_any p id m g0 L pfx w hR hB hL hn)
  have hii : (i : Int) < (ps.length : Int) := by omega
  clear hR hB hn hW hp
  go_enter Tryz.func29, Tryz.ntmps29
  go_wp2_with (go_at_call 47; refine HC.out.mono ?_; rintro e w1 ⟨v, xs, rfl, hnd, hmem, ho, hb⟩; refine Halt.of ?_)
  obtain ⟨N, hN⟩ : ∃ N, N = (sortB xs).filter fun n => preB pfx n && !(shownL L n).isEmpty := ⟨_, rfl⟩
  rw [← hN] at ho
  have hNl : N.length ≤ 1000000 := by
    have h1 := hnd.length_le_of_subset (l₂ := L.map (·.name)) (fun a ha => by
      obtain ⟨y, hy, rfl⟩ := (hmem a).1 ha
      exact List.mem_map_of_mem hy)
    have h2 : N.length ≤ (sortB xs).length := by rw [hN]; exact List.length_filter_le _ _
    rw [sortB_length] at h2
    simp at h1; omega
  have HX := Lib.hid (And.intro hnd (And.intro hmem (And.intro hN hb)))
  have hzb := hb.size
  clear hnd hmem hN hb HC hcw hci
  rcases ho.2 with ⟨rfl, h0⟩ | ⟨g, cap, cur, rfl, hgb, hgc, hnc, hcm, hcs, hct⟩
  · have hN0 := List.eq_nil_of_length_eq_zero h0
    subst hN0
    clear ho h0
    unfold Halt
    go_wp2_with (at_builtin; go_must (refine wpList_append_own_none rfl _ _ 51 rfl w.heap.size 9 i0 1 Tryz.underlying51 hi9 (.slice none 0 0) 0 [] rfl (World.ownsRow_nil _ _ _ _) rfl ?_))
    go_loopg [23] 0 (fun k s wr => s = .int .i64 0 ∧ wr = w1)
    case atStart => exact ⟨rfl, rfl⟩
    case round =>
      obtain ⟨rfl, rfl⟩ := hrel
      go_wp2
      go_ret
      obtain ⟨hnd, hmem, hN, hb⟩ := HX.out
      refine ⟨_, xs, rfl, hnd, hmem, ?_, hb⟩
      rw [← hN]
      exact World.ownsRow_nil _ _ _ _
  · have hgl := (Array.getElem?_eq_some_iff.1 hgc).1
    have hnews : ∀ j u, (N.map Value.string)[j]? = some u → w1.cell? ((⟨g, 0, none⟩ : Addr).add j) = some u := fun j u h => by
      have e : (⟨g, 0, none⟩ : Addr).add j = ⟨g, j, none⟩ := by unfold Addr.add; split <;> simp_all
      have hj : j < N.length := by have := (List.getElem?_eq_some_iff.1 h).1; simpa using this
      rw [e, Joins.cell_of_block hgc j, ← h, ← hct, List.getElem?_take_of_lt (by omega)]
      simp
    have hone : ∀ u ∈ N.map Value.string, u.oneCell' = true := fun u hu => by
      obtain ⟨x, _, rfl⟩ := List.mem_map.1 hu; rfl
    have hbig : N.length ≤ maxLen := Nat.le_trans hNl (by unfold maxLen; omega)
    have hS0 : Hid (Spoilt g 9 N.length w1) := Lib.hid ⟨cur, hgc, by omega⟩
    have HNew := Lib.hid (And.intro hnews hone)
    clear hnews hone ho hgc hct hcs
    unfold Halt
    go_wp2_with (at_builtin; go_must (refine wpList_append_own_at _ rfl _ _ 51 rfl w1.heap.size 9 i0 (.string ⟨#[]⟩) 1 16 Tryz.underlying51 hi9 hz0 hz1 hz2 rfl (by decide) (.slice none 0 0) 0 [] rfl (World.ownsRow_nil _ _ _ _) ⟨g, 0, none⟩ N.length cap (N.map .string) rfl (by simp) HNew.out.1 HNew.out.2 (by omega) (by omega) (Nat.le_refl _) ?_); intro v5 w5 hr5 hg5 _ hat; refine Halt.of ?_)
    have hS5 : Spoilt g 9 N.length w5 := by
      obtain ⟨cur, h1, h2⟩ := hS0.out
      exact ⟨cur, (hg5.block g hgl (by simp [Value.ownBlock])).trans h1, h2⟩
    have hne : v5.ownBlock ≠ some g := fun e => by
      rcases hat with h | h
      · rw [h] at e; simp [Value.ownBlock] at e
      · rw [h] at e; simp at e; omega
    rw [Nat.zero_add, List.nil_append] at hr5
    have hb5 : Below w.heap.size w w5 := (HX.out.2.2.2).trans ⟨hg5.os, hg5.tape, hg5.output, hg5.size, fun k hk => hg5.block k (by omega) (by simp [Value.ownBlock])⟩
    have HG := Lib.hid (And.intro hr5 (And.intro hne hb5))
    clear hr5 hg5 hat hne hb5 hS0 HNew
    unfold Halt
    go_wp2
    go_loopg [23] N.length (fun k s wr => ∃ j : Nat, s = .int .i64 j ∧ k + j = N.length ∧ Spoilt g 9 N.length wr ∧ Keep (fun b => b = g) w5 wr)
    case atStart => exact ⟨0, rfl, by omega, hS5, .refl _ _⟩
    case round =>
      obtain ⟨j, rfl, hk, hSp, hKp⟩ := hrel
      by_cases hj : j < N.length
      · obtain ⟨u, hu⟩ := hSp.cell hj
        have hf := hSp.frozen j
        have HSp := Lib.hid (And.intro hSp hKp)
        clear hSp hKp
        go_wp2
        go_roundg (gk - 1)
        case rel => exact ⟨j + 1, by go_simp, by omega, HSp.out.1.set j _, HSp.out.2.trans (Keep.setCell _ _ _ rfl)⟩
        case measure => omega
      · have hje : j = N.length := by omega
        subst hje
        have HSp := Lib.hid (And.intro hSp hKp)
        clear hSp hKp
        go_wp2
        go_ret
        obtain ⟨hnd, hmem, hN, hb⟩ := HX.out
        obtain ⟨hr5, hne, hb5⟩ := HG.out
        refine ⟨_, xs, rfl, hnd, hmem, ?_, below_keep hb5 HSp.out.2 (fun x hx e => by omega)⟩
        rw [← hN]
        exact ownsRow_block (ownsRow_base hr5 fun k hk => by have := (hr5.lt k hk).1; omega) fun k hk => HSp.out.2.block k (hr5.lt k hk).2 (fun e => hne (e ▸ hk))
end Go.Proofs.YtpdbmpbmepkikaaGreatDoor

namespace Go.Proofs.YtpdbmpbmepkikaaGreatDoor
open Go.RowKit

/-- Whom a step asks: replica number i, its parts by name. -/
structure Who (os : List One) (i : Nat) (o : One) : Prop where
  lt : i < os.length
  is : os[i]? = some o
theorem Who.get {os : List One} {i : Nat} {o : One} (h : Who os i o) : os[i]'h.lt = o := (List.getElem?_eq_some_iff.1 h.is).2
theorem Who.mem {os : List One} {i : Nat} {o : One} (h : Who os i o) : o ∈ os := List.mem_of_getElem? h.is

structure AskAt (N K : Nat) (x pw : Nat) (pv qv : Value) (os : List One) (b : Nat) (cs : Array Value) (w0 W : World) : Prop where
  law : LawAt N K W x pw pv qv os
  box : W.heap[b]? = some (.cells cs 102 (0, 0))
  below : Below w0.heap.size w0 W
variable {N K : Nat} {x pw : Nat} {pv qv : Value} {os : List One} {b : Nat} {cs : Array Value} {w0 W W' : World}
theorem AskAt.later (h : AskAt N K x pw pv qv os b cs w0 W) (hb : Below W.heap.size W W') : AskAt N K x pw pv qv os b cs w0 W' :=
  ⟨h.law.below hb, (hb.block _ (Array.getElem?_eq_some_iff.1 h.box).1).trans h.box, h.below.trans (hb.mono h.below.size)⟩
theorem AskAt_drew : AskAt N K x pw pv qv os b cs w0 W.drew ↔ AskAt N K x pw pv qv os b cs w0 W :=
  ⟨fun h => h.later ⟨rfl, rfl, rfl, Nat.le_refl _, fun _ _ => rfl⟩, fun h => h.later ⟨rfl, rfl, rfl, Nat.le_refl _, fun _ _ => rfl⟩⟩
theorem AskAt.x0 (h : AskAt N K x pw pv qv os b cs w0 W) : W.cell? ⟨x, 0, none⟩ = some (.pointer (some ⟨pw, 0, none⟩)) := Joins.cell_of_block h.law.box 0
theorem AskAt.x1 (h : AskAt N K x pw pv qv os b cs w0 W) : W.cell? ⟨x, 1, none⟩ = some qv := Joins.cell_of_block h.law.box 1
theorem AskAt.bc (h : AskAt N K x pw pv qv os b cs w0 W) (i : Nat) : W.cell? ⟨b, i, none⟩ = cs[i]? := Joins.cell_of_block h.box i
theorem AskAt.q0 (h : AskAt N K x pw pv qv os b cs w0 W) {i : Nat} {o : One} (ho : Who os i o) : W.cell? ⟨o.q, 0, none⟩ = some (.int .i64 o.id) := Joins.cell_of_block (h.law.ones o ho.mem).box 0
theorem AskAt.q1 (h : AskAt N K x pw pv qv os b cs w0 W) {i : Nat} {o : One} (ho : Who os i o) : W.cell? ⟨o.q, 1, none⟩ = some o.lv := Joins.cell_of_block (h.law.ones o ho.mem).box 1
theorem AskAt.new (h : LawAt N K W x pw pv qv os) (cs : Array Value) : AskAt N K x pw pv qv os W.heap.size cs W (W.alloc (.cells cs 102)) :=
  ⟨h.below ((Below.refl _ _).alloc (Nat.le_refl _) _), World.alloc_heap_new _ _, (Below.refl _ _).alloc (Nat.le_refl _) _⟩
theorem LawAt.small (h : LawAt N K W x pw pv qv os) (hK : K ≤ 100000) {i : Nat} {o : One} (ho : Who os i o) : o.l.length ≤ 100000 ∧ o.L.length ≤ 100000 := by
  have := (h.ones o ho.mem).len
  have := (h.ones o ho.mem).bk.perm.length_eq
  omega

/-- The program's Fields, at replica i. -/
theorem AskAt.fields (hK : K ≤ 100000) (hos : os.length ≤ 100000) {i : Nat} {o : One} (ho : Who os i o) (n : ByteArray) (hn : n.size ≤ 4096) (h : AskAt N K x pw pv qv os b cs w0 W) :
    Calls Tryz.prog 27 #[.pointer (some ⟨pw, 0, none⟩), .int .i64 i, .string n] W fun e W' => ∃ v, e = .returned (.tuple #[v, .bool true]) ∧ AskAt N K x pw pv qv os b cs w0 W' ∧ W'.ownsRow W.heap.size 9 1 v (fvs (fieldsD o.l n)).length ((fvs (fieldsD o.l n)).map .string) := by
  have h1 := h.law.ones o ho.mem
  have hp : (os.map (·.p))[i]'(by simpa using ho.lt) = o.p := by simp [ho.get]
  have := fieldsW_any pw pv (os.map (·.p)) i (by simpa using ho.lt) o.id o.m o.g o.L n W h.law.wld (by simp; omega) (by rw [hp]; exact h1.rep) h1.book (by have := (h.law.small hK ho).2; omega) hn
  rw [h1.bk.shown] at this
  exact this.mono fun e W' ⟨v, he, hr, hb⟩ => ⟨v, he, h.later hb, hr⟩
/-- The document's Fields, at replica i. -/
theorem AskAt.fieldsD (hK : K ≤ 100000) {i : Nat} {o : One} (ho : Who os i o) (n : ByteArray) (h : AskAt N K x pw pv qv os b cs w0 W) :
    Calls Tryz.prog 77 #[o.lv, .string n] W fun e W' => ∃ v, e = .returned v ∧ AskAt N K x pw pv qv os b cs w0 W' ∧ W'.ownsRow W.heap.size 154 5 v (fieldsD o.l n).length (rows (fieldsD o.l n)) := by
  have h1 := h.law.ones o ho.mem
  exact (fieldsD_any o.l o.lv n W h1.list (by have := (h.law.small hK ho).1; omega)).mono fun e W' ⟨v, he, hr, hb⟩ => ⟨v, he, h.later hb, hr⟩
end Go.Proofs.YtpdbmpbmepkikaaGreatDoor

namespace Go.Proofs.YtpdbmpbmepkikaaGreatDoor
open Go.RowKit

theorem neq154 (n f v : ByteArray) (c r : Int) (W : World) : (binOp .neq 154 (.agg #[.string n, .string f, .int .i64 c, .int .i64 r, .string v]) (.agg #[.string n, .string f, .int .i64 c, .int .i64 r, .string v])).run Tryz.prog W = .ok (.bool false) W := by
  go_simp

/-- Two slices that hold the same book. -/
theorem sameBook_any (va vb : Value) (l : List Reg) (w : World) (ha : ListAt w va l) (hb : ListAt w vb l) (hl : l.length ≤ 2000000) :
    Calls Tryz.prog 81 #[va, vb] w fun e w' => e = .returned (.bool true) ∧ Below w.heap.size w w' := by
  rcases ha.cases with ⟨rfl, rfl⟩ | ⟨g, ca, rfl, hg⟩
  · rcases hb.cases with ⟨rfl, -⟩ | ⟨g', cb, rfl, hg'⟩
    all_goals
      clear ha hb
      go_enter Tryz.func81, Tryz.ntmps81
      go_wp2
      go_loopg [5] 0 (fun k s wr => s = .int .i64 0 ∧ Below w.heap.size w wr)
      case atStart => exact ⟨rfl, Below.refl _ _⟩
      case round =>
        obtain ⟨rfl, hB⟩ := hrel
        have HBl := Lib.hid hB
        clear hB
        go_wp2
        go_ret
        exact ⟨rfl, HBl.out⟩
  rcases hb.cases with ⟨rfl, rfl⟩ | ⟨g', cb, rfl, hg'⟩
  · clear ha hb
    go_enter Tryz.func81, Tryz.ntmps81
    go_wp2
    go_loopg [5] 0 (fun k s wr => s = .int .i64 0 ∧ Below w.heap.size w wr)
    case atStart => exact ⟨rfl, Below.refl _ _⟩
    case round =>
      obtain ⟨rfl, hB⟩ := hrel
      have HBl := Lib.hid hB
      clear hB
      go_wp2
      go_ret
      exact ⟨rfl, HBl.out⟩
  have HA := Lib.hid (And.intro ha hb)
  clear ha hb
  go_enter Tryz.func81, Tryz.ntmps81
  go_wp2
  go_loopg [5] l.length (fun k s wr => ∃ j : Nat, s = .int .i64 j ∧ k + j = l.length ∧ Below w.heap.size w wr)
  case atStart => exact ⟨0, rfl, by omega, Below.refl _ _⟩
  case round =>
    obtain ⟨j, rfl, hk, hB⟩ := hrel
    by_cases hj : j < l.length
    · obtain ⟨g1, c1, hv, hg1, y0, y1, y2, y3, y4⟩ := HA.out.1.cell hj
      obtain ⟨g2, c2, hv', hg2, u0, u1, u2, u3, u4⟩ := HA.out.2.cell hj
      simp only [Value.slice.injEq, Option.some.injEq, Addr.mk.injEq, and_true, true_and] at hv hv'
      obtain ⟨rfl, rfl⟩ := hv
      obtain ⟨rfl, rfl⟩ := hv'
      obtain ⟨x, hx⟩ : ∃ x, x = l[j] := ⟨_, rfl⟩
      rw [← hx] at y0 y1 y2 y3 y4 u0 u1 u2 u3 u4
      obtain ⟨n, f, c, r, v⟩ := x
      simp only at y0 y1 y2 y3 y4 u0 u1 u2 u3 u4
      have hcl : ∀ i, wr.cell? ⟨g, i, none⟩ = w.cell? ⟨g, i, none⟩ := fun i => hB.cell (p := ⟨_, _, none⟩) hg
      have hcl' : ∀ i, wr.cell? ⟨g', i, none⟩ = w.cell? ⟨g', i, none⟩ := fun i => hB.cell (p := ⟨_, _, none⟩) hg'
      rw [← hcl] at y0 y1 y2 y3 y4
      rw [← hcl'] at u0 u1 u2 u3 u4
      have hneq := neq154 n f v c r
      have hjj : (j : Int) < (l.length : Int) := by omega
      have HBl := Lib.hid (show Below w.heap.size w wr.drew from hB.drew)
      clear hcl hcl' hx hB
      go_wp2
      go_region_held3 (fun W => W.cell? ⟨g, j * 5, none⟩ = some (.string n) ∧ W.cell? ⟨g, j * 5 + 1, none⟩ = some (.string f) ∧ W.cell? ⟨g, j * 5 + 2, none⟩ = some (.int .i64 c) ∧ W.cell? ⟨g, j * 5 + 3, none⟩ = some (.int .i64 r) ∧ W.cell? ⟨g, j * 5 + 4, none⟩ = some (.string v) ∧
        W.cell? ⟨g', j * 5, none⟩ = some (.string n) ∧ W.cell? ⟨g', j * 5 + 1, none⟩ = some (.string f) ∧ W.cell? ⟨g', j * 5 + 2, none⟩ = some (.int .i64 c) ∧ W.cell? ⟨g', j * 5 + 3, none⟩ = some (.int .i64 r) ∧ W.cell? ⟨g', j * 5 + 4, none⟩ = some (.string v)) (go_keep) (fail)
      go_wp2
      go_roundg (gk - 1)
      case rel => exact ⟨j + 1, by go_simp, by omega, HBl.out⟩
      case measure => omega
    · have hje : j = l.length := by omega
      subst hje
      have HBl := Lib.hid hB
      clear hB
      go_wp2
      go_ret
      exact ⟨rfl, HBl.out⟩

theorem Bk.all {L l : List Reg} (h : Bk L l) : belowL L ⟨#[]⟩ = l := by
  rw [h.below]
  exact List.filter_eq_self.2 fun x _ => by simp [preB, Lib.hasPrefix]

theorem RegsAt.cases {w : World} {v : Value} {l : List Reg} (h : RegsAt w v l) : ∃ ad cap, v = .slice ad l.length cap := by
  obtain ⟨h1, h2⟩ := h
  rcases h2 with ⟨hv, h2⟩ | ⟨g, cap, cur, hv, _, hg, _⟩
  · exact ⟨none, 0, by rw [h2]; exact hv⟩
  · exact ⟨_, _, hv⟩
set_option maxHeartbeats 2000000 in
/-- The book that the program tells of, as rows of the law. -/
theorem told_any (N K x pw : Nat) (pv qv : Value) (os : List One) (i : Nat) (o : One) (w : World) (hK : K ≤ 100000) (hos : os.length ≤ 100000) (h : LawAt N K w x pw pv qv os) (ho : Who os i o) :
    Calls Tryz.prog 80 #[.pointer (some ⟨x, 0, none⟩), .int .i64 i] w fun e w' => ∃ v, e = .returned (.tuple #[v, .bool true]) ∧ ListAt w' v o.l ∧ Below w.heap.size w w' := by
  have C1 : Hid (Calls Tryz.prog 21 #[.pointer (some ⟨pw, 0, none⟩), .int .i64 i] w fun e W' => ∃ v, e = .returned (.tuple #[v, .bool true]) ∧ RegsAt W' v o.l ∧ Below w.heap.size w W') := by
    have h1 := h.ones o ho.mem
    have hp : (os.map (·.p))[i]'(by simpa using ho.lt) = o.p := by simp [ho.get]
    have := registersW_any pw pv (os.map (·.p)) i (by simpa using ho.lt) o.id o.m o.g o.L w h.wld (by simp; omega) (by rw [hp]; exact h1.rep) h1.book (by have := (h.small hK ho).2; omega)
    rw [h1.bk.all] at this
    exact Lib.hid (this.mono fun e W' ⟨v, he, hr, hb⟩ => ⟨v, he, ownsRow_base hr fun _ _ => Nat.zero_le _, hb⟩)
  have hx0 : w.cell? ⟨x, 0, none⟩ = some (.pointer (some ⟨pw, 0, none⟩)) := Joins.cell_of_block h.box 0
  have hll := (h.small hK ho).1
  obtain ⟨F, hF⟩ : ∃ F, F = o.l := ⟨_, rfl⟩
  rw [← hF] at C1 hll ⊢
  obtain ⟨i0, hi, hz0, hz1, hz2⟩ := info_parts info154
  clear h ho hos hK hF
  go_enter Tryz.func80, Tryz.ntmps80
  go_wp2_with (go_at_call 21; go_must (refine C1.out.mono ?_); rintro e w1 ⟨v, rfl, hr1, hb1⟩; obtain ⟨fad, fcap, hfv⟩ := hr1.cases; subst hfv; have HR1 := Lib.hid (And.intro hr1 hb1); clear hr1 hb1; refine Halt.of ?_)
  unfold Halt
  go_wp2
  go_loopg [8, 9] F.length (fun k s8 s9 wr => ∃ (sv : Value) (j : Nat), sv = s8 ∧ s9 = .int .i64 j ∧ k + j = F.length ∧ OutAt w1 154 5 sv j (rows (F.take j)) wr)
  case atStart => exact ⟨_, 0, rfl, rfl, by omega, OutAt.new _ _ _⟩
  case round =>
    obtain ⟨sv, j, rfl, rfl, hk, hO⟩ := hrel
    by_cases hj : j < F.length
    · obtain ⟨g', cap', hv', hg', y0, y1, y2, y3, y4⟩ := HR1.out.1.cell hj
      simp only [Value.slice.injEq] at hv'
      obtain ⟨rfl, -, rfl⟩ := hv'
      have htk : rows (F.take (j + 1)) = rows (F.take j) ++ F[j].cells := by
        rw [List.take_add_one, List.getElem?_eq_getElem hj, Option.toList_some, rows_append]; simp [rows]
      obtain ⟨r, hr⟩ : ∃ r, r = F[j] := ⟨_, rfl⟩
      rw [← hr] at y0 y1 y2 y3 y4 htk
      obtain ⟨n, f, c, r, v⟩ := r
      simp only [Reg.cells] at y0 y1 y2 y3 y4 htk
      obtain ⟨so, hso⟩ : ∃ so, so = rows (F.take j) := ⟨_, rfl⟩
      rw [← hso] at hO htk
      have hjj : (j : Int) < (F.length : Int) := by omega
      have hcl : ∀ i, wr.cell? ⟨g', i, none⟩ = w1.cell? ⟨g', i, none⟩ := fun i => hO.below.cell (p := ⟨_, _, none⟩) hg'
      rw [← hcl] at y0 y1 y2 y3 y4
      have HO := Lib.hid hO
      have HT := Lib.hid htk
      clear hcl hO htk hso hr
      go_wp2_with (at_builtin; go_must (refine wpList_append_own_at _ rfl _ _ 145 rfl w1.heap.size 154 i0 (.agg #[.string ⟨#[]⟩, .string ⟨#[]⟩, .int .i64 0, .int .i64 0, .string ⟨#[]⟩]) 5 64 Tryz.underlying145 hi hz0 hz1 hz2 rfl (by decide) sv j so rfl ((HO.out.alloc _).alloc _).row ⟨wr.heap.size + 1, 0, none⟩ 1 1 [.string n, .string f, .int .i64 c, .int .i64 r, .string v] rfl rfl (newsAt (by first | rfl | simp) _ _ rfl) (by simp [Value.oneCell']) (by unfold maxLen; omega) (by omega) (by have := HO.out.below.size; simp; omega) ?_); intro v5 w5 hr5 hg5 _ _; refine Halt.of ?_)
      have hO5 := Lib.hid (OutAt.append ((HO.out.alloc _).alloc _) hg5 hr5)
      clear hr5 hg5
      unfold Halt
      go_wp2
      go_roundg (gk - 1)
      case rel => exact ⟨_, j + 1, rfl, by go_simp, by omega, by rw [HT.out]; exact hO5.out⟩
      case measure => omega
    · have hje : j = F.length := by omega
      subst hje
      rw [List.take_length] at hO
      have HO := Lib.hid hO
      clear hO
      go_wp2
      refine bodyPost_ret (results_tmp2 rfl _ _ _) rfl ?_
      exact ⟨_, rfl, ownsRow_base HO.out.row fun _ _ => Nat.zero_le _, HR1.out.2.trans (HO.out.below.mono HR1.out.2.size)⟩
end Go.Proofs.YtpdbmpbmepkikaaGreatDoor
