/- SavE: A book as the program's bytes. Conditions: at most 100000 registers, which the program holds; at most 2^38 bytes ahead of them.
   SavF: The program's Save of a replica: bytes as the plain words say. Conditions: at most 100000 registers, which the program holds.
   SavG: Contracts of plain's World: Save. Conditions: at most 100000 registers, which the program holds.
   SavH: The program's reader of bytes: take. Condition: at most 2^40 bytes.
   SavI: The program's reader of bytes: number, as the plain words say. No condition.
   SavJ: The program's reader of bytes at bytes that were written whole: text, twisted. Conditions: texts of at most 2^30 bytes; numbers of 64 bits.
   SavK: The program's reader of bytes at a register that was written whole. Condition: a register that the program holds.
   SavL: The program's reader of bytes at a book that was written whole. Conditions: at most 100000 registers, which the program holds.
   SavN: Two arrays of four bytes, compared. No condition.
   SavM: The program's Load at spoilt bytes: an error of kind 5. Condition: at most 2^40 bytes. -/
import Derived.Test.YtpdbmpbmepkikaaGreatDoorS08
import Derived.Test.YtpdbmpbmepkikaaGreatDoorS09
import Derived.Test.YtpdbmpbmepkikaaGreatDoorS05
import Derived.Lib.Zigzag
import Derived.Laws.CopyOwn
set_option linter.all false
set_option linter.unusedSimpArgs false
set_option linter.unusedVariables false

namespace Go.Proofs.YtpdbmpbmepkikaaGreatDoor
open Go.RowKit

theorem regB_length {x : Reg} (h : Fit x) : (regB x).length ≤ 12400 := by
  have h1 := textB_length x.name (by have := h.name; omega)
  have h2 := textB_length x.field (by have := h.field; omega)
  have h3 := textB_length x.value (by have := h.value; omega)
  have h4 := numB_len10 (twistN_lt h.c)
  have h5 := numB_len10 (twistN_lt h.r)
  have := h.name
  have := h.field
  have := h.value
  simp only [regB, List.length_append]
  omega
theorem regsB_length {l : List Reg} (h : ∀ x ∈ l, Fit x) : (l.flatMap regB).length ≤ 12400 * l.length := by
  induction l with
  | nil => simp
  | cons x l ih =>
    have := regB_length (h x (by simp))
    have := ih fun y hy => h y (by simp [hy])
    rw [List.flatMap_cons, List.length_append, List.length_cons]
    omega

set_option maxHeartbeats 2000000 in
theorem listS_any (N : Nat) (v rv : Value) (l : List UInt8) (F : List Reg) (w : World) (h : BufAt N w v l) (hN : N ≤ w.heap.size) (hr : RegsAt w rv F) (hd : ∀ b, ownD v b → rv.ownBlock ≠ some b) (hF : ∀ x ∈ F, Fit x) (hl : l.length ≤ 274877906944) (hz : F.length ≤ 100000) :
    Calls Tryz.prog 163 #[v, rv, .func (.func 164) #[] #[]] w fun e w' => ∃ v', e = .returned v' ∧ BufAt N w' v' (l ++ listB regB F) ∧ Left (ownD v) w (ownD v') w' := by
  obtain ⟨ad, cap, rfl⟩ := hr.cases
  have hcv : IntKind.u64.wrap (F.length : Int) = (F.length : Int) := by rw [IntKind.wrap_u64]; omega
  have HC := Lib.hid (number_any N v l F.length w h hN (by omega) (by omega))
  have hn10 := numB_len10 (n := F.length) (by omega)
  have HR := Lib.hid (And.intro hr (And.intro hd hF))
  have hlt : ∀ g off, ad = some ⟨g, off, none⟩ → g < w.heap.size := fun g off e => by
    subst e
    rcases hr.2 with ⟨h, _⟩ | ⟨g', cap', cur, hv, _, hg, _⟩
    · cases h
    · injection hv with h1 h2 h3; injection h1 with h1; injection h1 with h1; subst h1
      exact (Array.getElem?_eq_some_iff.1 hg).1
  have HLt := Lib.hid hlt
  clear h hr hd hF hlt
  go_enter Tryz.func163, Tryz.ntmps163
  go_wp2_with (go_at_call 199; go_must (refine HC.out.mono ?_); rintro e w1 ⟨v1, rfl, hb1, hL1⟩; have H1 := Lib.hid (And.intro hb1 hL1); clear hb1 hL1; refine Halt.of ?_)
  unfold Halt
  clear HC
  go_wp2
  go_loopg [0, 16] F.length (fun k s0 s16 wr => ∃ (v2 : Value) (j : Nat), v2 = s0 ∧ s16 = .int .i64 j ∧ k + j = F.length ∧ BufAt N wr v2 (l ++ numB F.length ++ (F.take j).flatMap regB) ∧ Left (ownD v) w (ownD v2) wr)
  case atStart => exact ⟨v1, 0, rfl, rfl, by omega, by simpa using H1.out.1, H1.out.2⟩
  case round =>
    obtain ⟨v2, j, rfl, rfl, hk, hb, hL⟩ := hrel
    by_cases hj : j < F.length
    · obtain ⟨hr, hd, hF⟩ := HR.out
      obtain ⟨g, cap', hv, hg, y0, y1, y2, y3, y4⟩ := hr.cell hj
      simp only [Value.slice.injEq] at hv
      obtain ⟨rfl, -, rfl⟩ := hv
      have hgw : ¬ ownD v g := fun e => hd g e rfl
      have hcl : ∀ i, wr.cell? ⟨g, i, none⟩ = w.cell? ⟨g, i, none⟩ := fun i => World.cell?_of_block (w := w) (a := ⟨g, i, none⟩) (hL.1.block g hg hgw)
      rw [← hcl] at y0 y1 y2 y3 y4
      have hlen : (l ++ numB F.length ++ (F.take j).flatMap regB).length ≤ 549755813888 := by
        have := regsB_length (l := F.take j) fun x hx => hF x (List.mem_of_mem_take hx)
        rw [List.length_take] at this
        simp only [List.length_append]
        omega
      have htk : (F.take (j + 1)).flatMap regB = (F.take j).flatMap regB ++ regB F[j] := by
        rw [List.take_add_one, List.getElem?_eq_getElem hj, Option.toList_some, List.flatMap_append]; show _ ++ (regB F[j] ++ []) = _; rw [List.append_nil]
      have hfx := hF F[j] (List.getElem_mem hj)
      obtain ⟨x, hx⟩ : ∃ x, x = F[j] := ⟨_, rfl⟩
      rw [← hx] at y0 y1 y2 y3 y4 htk hfx
      have hsz := hL.1.size
      obtain ⟨n, f, c, r, s⟩ := x
      simp only at y0 y1 y2 y3 y4
      have HC : Hid (∀ W, BufAt N W v2 (l ++ numB F.length ++ (F.take j).flatMap regB) → N ≤ W.heap.size → Calls Tryz.prog 164 #[v2, .agg #[.string n, .string f, .int .i64 c, .int .i64 r, .string s]] W fun e W' => ∃ v', e = .returned v' ∧ BufAt N W' v' (l ++ numB F.length ++ (F.take j).flatMap regB ++ regB ⟨n, f, c, r, s⟩) ∧ Left (ownD v2) W (ownD v') W') :=
        Lib.hid fun W hW hNW => registerS_any N v2 _ ⟨n, f, c, r, s⟩ W hW hNW hfx hlen
      have hjj : (j : Int) < (F.length : Int) := by omega
      have HB := Lib.hid (And.intro hb (And.intro hL htk))
      clear hb hL htk hfx hx hcl hlen hd hF hr H1
      go_wp2_with (go_at_call 164; go_must (refine (HC.out _ (HB.out.1.alloc _) (by simp; omega)).mono ?_); rintro e w5 ⟨v5, rfl, hb5, hL5⟩; have H5 := Lib.hid (And.intro hb5 hL5); clear hb5 hL5; refine Halt.of ?_)
      unfold Halt
      go_wp2
      go_roundg (gk - 1)
      case rel => exact ⟨v5, j + 1, rfl, by go_simp, by omega, by rw [HB.out.2.2, ← List.append_assoc]; exact H5.out.1, HB.out.2.1.trans (Left.trans ⟨Keep.alloc _ _ _, fun b hb => .inl hb⟩ H5.out.2)⟩
      case measure => omega
    · have hje : j = F.length := by omega
      subst hje
      rw [List.take_length] at hb
      have HB := Lib.hid (And.intro hb hL)
      clear hb hL H1
      go_wp2
      go_ret
      exact ⟨_, rfl, by rw [listB, ← List.append_assoc]; exact HB.out.1, HB.out.2⟩
end Go.Proofs.YtpdbmpbmepkikaaGreatDoor

namespace Go.Proofs.YtpdbmpbmepkikaaGreatDoor
open Go.RowKit
attribute [local go_sem] Oper.semAt_some

/-- The registers, gathered. -/
structure GaI (N : Nat) (pre : List Reg) (W : World) (D : Nat → Prop) (v : Value) : Prop where
  acc : AccAt W N 35 46 5 v pre.length (rows pre)
  dom : D = fun b => accD N v b
theorem GaI.owned (N : Nat) : Owned (fun pre W D => ∃ v, GaI N pre W D v) := ⟨fun pre W D ⟨v, h⟩ b hb => by
    rw [h.dom] at hb
    exact h.acc.lt b hb,
  fun pre W D W' ⟨v, h⟩ ha => ⟨v, h.acc.abide fun b hb => ha.block b (by rw [h.dom]; exact hb), h.dom⟩⟩

theorem left_below {W W1 W2 : World} {v v' : Value} (h : Below W.heap.size W W1) (hv : ∀ b, ownD v b → W.heap.size ≤ b) (hL : Left (ownD v) W1 (ownD v') W2) : Below W.heap.size W W2 :=
  ⟨hL.1.os.trans h.os, hL.1.tape.trans h.tape, hL.1.output.trans h.output, Nat.le_trans h.size hL.1.size, fun b hb => (hL.1.block b (Nat.lt_of_lt_of_le hb h.size) fun e => by have := hv b e; omega).trans (h.block b hb)⟩
/-- A buffer that was made since W. -/
structure BW (W : World) (v : Value) (l : List UInt8) (W' : World) : Prop where
  buf : BufAt W.heap.size W' v l
  below : Below W.heap.size W W'
theorem BW.next {W W1 W2 : World} {v v' : Value} {l l' : List UInt8} (h : BW W v l W1) (hb : BufAt W.heap.size W2 v' l') (hL : Left (ownD v) W1 (ownD v') W2) : BW W v' l' W2 :=
  ⟨hb, left_below h.below (fun _ e => (h.buf.lt e).1) hL⟩
theorem BW.num {W W1 : World} (h : Below W.heap.size W W1) (n : Nat) (hn : n < 18446744073709551616) : Calls Tryz.prog 199 #[.slice none 0 0, .int .u64 n] W1 fun e W2 => ∃ v', e = .returned v' ∧ BW W v' (numB n) W2 :=
  (number_any W.heap.size (.slice none 0 0) [] n W1 (BufAt.nil _ _) h.size hn (by simp)).mono fun _ _ ⟨v', he, hb, hL⟩ => ⟨v', he, hb, left_below h (fun _ e => by cases e) hL⟩

theorem RdAt.news {W : World} {g : Nat} {l : List UInt8} {cap : Nat} (h : RdAt W (.slice (some ⟨g, 0, none⟩) l.length cap) l) : ∀ j u, (l.map u8V)[j]? = some u → W.cell? ((⟨g, 0, none⟩ : Addr).add j) = some u := fun j u hu => by
  obtain ⟨ad, c, hv, hc⟩ := h
  simp only [Value.slice.injEq] at hv
  obtain ⟨rfl, -, rfl⟩ := hv
  rw [List.getElem?_map] at hu
  cases hj : l[j]? with
  | none => rw [hj] at hu; cases hu
  | some b =>
    rw [hj] at hu
    obtain ⟨hlt, hb⟩ := List.getElem?_eq_some_iff.1 hj
    rcases hc with rfl | ⟨g', off, he, _, hcell⟩
    · simp at hlt
    · injection he with he
      injection he with h1 h2
      subst h1
      subst h2
      have := hcell j hlt
      rw [hb] at this
      rw [← Option.some.inj hu, Addr.add_lit]
      exact this
theorem u8V_one (l : List UInt8) : ∀ u ∈ l.map u8V, u.oneCell' = true := fun u hu => by
  obtain ⟨b, _, rfl⟩ := List.mem_map.1 hu
  rfl
theorem left_appendS {v v' : Value} {W W' : World} (hg : W.grownBy W' v.ownBlock) (hat : v'.ownBlock = v.ownBlock ∨ v'.ownBlock = some W.heap.size) : Left (ownD v) W (ownD v') W' :=
  ⟨⟨hg.os, hg.tape, hg.output, hg.size, fun k hk hn => hg.block k hk fun e => hn e.symm⟩, fun b hb => by
    unfold ownD at hb ⊢
    rcases hat with h | h
    · exact .inl (h ▸ hb)
    · rw [h] at hb; cases hb; exact .inr (Nat.le_refl _)⟩

set_option maxHeartbeats 2000000 in
theorem saveR_any (p : Nat) (id : Int) (m g0 : Nat) (L : List Reg) (w : World) (hR : RepAt w p id m g0) (hB : BookAt w m L) (hL : L.length ≤ 100000) (hF : ∀ x ∈ L, Fit x) (hid : I64 id) :
    Calls Tryz.prog 191 #[.pointer (some ⟨p, 0, none⟩)] w fun e w' => ∃ v, e = .returned v ∧ BufAt w.heap.size w' v (saveB id (belowL L ⟨#[]⟩)) ∧ Below w.heap.size w w' := by
  obtain ⟨i0, hi46, hq0, hq1, hq2⟩ := info_parts info46
  have hpl := hR.lt
  have hml := hB.lt
  have hpm := hR.ne hB
  have HB := Lib.hid (And.intro hR (And.intro hB hF))
  clear hR hB hF
  refine (callsIn_wide (n := 0)).1 (callsIn_of_wp_marks Tryz.func191 rfl trivial ?_ rfl)
  simp only [Tryz.ntmps191, List.size_toArray, List.length_cons, List.length_nil, Nat.reduceAdd, Nat.reduceSub, Array.replicate_succ, Array.replicate_zero, List.push_toArray, List.append_toArray, List.nil_append, List.cons_append]
  gi_wp2_with (gi_at_call 39; refine (callsIn_wide.2 (registers_any p id m g0 _ ((Below.heap_alloc _ _ _ hpl).trans HB.out.1))).mono ?_; rintro e w1 ⟨rfl, hw1⟩; have HW := Lib.hid hw1; clear hw1)
  obtain ⟨hR, hB, hF⟩ := HB.out
  have hbel : Below w.heap.size w w1 := by rw [HW.out]; exact (((Below.refl _ _).alloc (Nat.le_refl _) _).alloc (by simp) _).alloc (by simp; omega) _
  have hz1 : w1.heap.size = w.heap.size + 3 := by rw [HW.out]; simp
  have hbl : w1.heap[w.heap.size]? = some (.cells #[.slice none 0 0] 35 (0, 0)) := by rw [HW.out]; simp only [World.alloc]; grind
  have hcp : w1.cell? ⟨w.heap.size + 1, 0, none⟩ = some (.map (some m)) := by rw [HW.out]; go_simp
  have hcn : w1.cell? ⟨w.heap.size + 1 + 1, 0, none⟩ = some (.string ⟨#[]⟩) := by rw [HW.out]; go_simp
  have hB1 : BookAt w1 m L := hB.below hbel
  have hit := below1_iter (w.heap.size + 1) (w.heap.size + 1 + 1) m L ⟨#[]⟩ w1 hcp hcn hB1 (by omega)
  have hSl : (belowL L ⟨#[]⟩).length ≤ 100000 := by
    unfold belowL
    rw [List.length_map, sortB_length]
    exact Nat.le_trans (List.length_filter_le _ _) (by simpa using hL)
  refine wp_rangeFunc (gf := 85) (lb := #[.pointer (some ⟨w.heap.size + 1, 0, none⟩), .pointer (some ⟨w.heap.size + 1 + 1, 0, none⟩)]) rfl (callFunc_run Tryz.func85 rfl (by decide)) hit (fun b hb => by rcases hb with rfl | rfl | rfl <;> omega) (fun _ => rfl)
    (fun pre W D => ∃ v, GaI w.heap.size pre W D v) (fun _ _ _ _ => False) (GaI.owned _) (fun _ => ⟨fun _ _ _ h => h.elim, fun _ _ _ _ h => h.elim⟩)
    (fun b => accD w.heap.size (.slice none 0 0) b) (fun b hb => ?idis) ⟨_, ⟨hbl, World.ownsRow_nil _ _ _ _⟩, rfl⟩ ?round ?done ?stop
  case idis =>
    rcases hb with rfl | hb
    · rintro (h | h | h) <;> omega
    · cases hb
  case stop => exact fun _ _ _ _ _ h => h.elim
  case round =>
    rintro l pre ⟨xn, xf, xc, xr, xv⟩ W D hl1 hl2 hDl ⟨suf, hS⟩ ⟨v, hI⟩ hD0
    have hlen : pre.length + 1 ≤ 100000 := by rw [← hS] at hSl; simp at hSl; omega
    have HI := Lib.hid hI
    have hd := hI.dom
    subst hd
    clear hit hbel hbl hcp hcn hB1 hI hS hR hB hF
    unfold Reg.val
    gi_wp2
    refine ⟨⟨Keep.alloc _ _ _, fun b hb => hb.imp (fun h => h) (·.1)⟩, fun W2 hbut => ?_⟩
    have hz2 : W2.heap.size = W.heap.size + 1 := by rw [hbut.size]; simp
    have kb : ∀ b, accD w.heap.size v b → W2.heap[b]? = W.heap[b]? := fun b hb => (hbut.block b (fun e => hDl (e ▸ hb))).trans (Below.heap_alloc _ _ _ (HI.out.acc.lt b hb))
    have hacc2 : AccAt W2 w.heap.size 35 46 5 v pre.length (rows pre) := HI.out.acc.abide fun b hb => kb b hb
    have hnew : W2.heap[W.heap.size]? = some (.cells #[.string xn, .string xf, .int .i64 xc, .int .i64 xr, .string xv] 46 (0, 0)) := (hbut.block _ (by omega)).trans (World.alloc_heap_new _ _)
    have x0 : W2.cell? ⟨W.heap.size, 0, none⟩ = some (.string xn) := Joins.cell_of_block hnew 0
    have x1 : W2.cell? ⟨W.heap.size, 1, none⟩ = some (.string xf) := Joins.cell_of_block hnew 1
    have x2 : W2.cell? ⟨W.heap.size, 2, none⟩ = some (.int .i64 xc) := Joins.cell_of_block hnew 2
    have x3 : W2.cell? ⟨W.heap.size, 3, none⟩ = some (.int .i64 xr) := Joins.cell_of_block hnew 3
    have x4 : W2.cell? ⟨W.heap.size, 4, none⟩ = some (.string xv) := Joins.cell_of_block hnew 4
    obtain ⟨hc, hf⟩ := hacc2.cell
    have hrow := hacc2.row
    have hlt2 := hacc2.lt
    have hN2 := hlt2 _ (.inl rfl)
    have HA := Lib.hid hacc2
    have HBt := Lib.hid hz2
    clear hacc2 hbut hDl hD0 hlt2 kb hnew hz2
    gi_wp2_with (gi_at_builtin; go_must (refine wpListIn_append_own_at _ rfl _ _ 35 rfl (w.heap.size + 1) 46 i0 (.agg #[.string ⟨#[]⟩, .string ⟨#[]⟩, .int .i64 0, .int .i64 0, .string ⟨#[]⟩]) 5 64 Tryz.underlying35 hi46 hq0 hq1 hq2 rfl (by decide) v pre.length (rows pre) rfl (hrow.alloc _) ⟨W2.heap.size, 0, none⟩ 1 1 [.string xn, .string xf, .int .i64 xc, .int .i64 xr, .string xv] rfl rfl (newsAt (by first | rfl | simp) _ _ rfl) (by simp [Value.oneCell']) (by unfold maxLen; omega) (by omega) (by simp; omega) ?_); intro v' w3 ho' hg' _ hat; refine Halt.of ?_)
    obtain ⟨g', cap', hv'⟩ := ownsRow_succ ho'
    have hap := Lib.hid (AccAt.appended (AccAt.abide HA.out (fun b hb => Below.heap_alloc _ _ _ (AccAt.lt HA.out b hb))) hg' ho' hat)
    have hnb : some w.heap.size ≠ v.ownBlock := fun e => by have := (hrow.lt _ e.symm).1; omega
    have hc1 : w3.cell? ⟨w.heap.size, 0, none⟩ = some v := (World.cell?_of_block (w := W2.alloc (.cells #[.string xn, .string xf, .int .i64 xc, .int .i64 xr, .string xv] 46)) (hg'.block _ (by simp; omega) hnb)).trans ((World.cell?_of_block (w := W2) (Below.heap_alloc _ _ _ hN2)).trans hc)
    have hf1 : w3.frozen? ⟨w.heap.size, 0, none⟩ = false := (World.frozen?_of_block (w := W2.alloc (.cells #[.string xn, .string xf, .int .i64 xc, .int .i64 xr, .string xv] 46)) (hg'.block _ (by simp; omega) hnb)).trans ((World.frozen?_of_block (w := W2) (Below.heap_alloc _ _ _ hN2)).trans hf)
    clear hrow hat hg' ho' hi46 hq0 hq1 hq2 hc hf hnb x0 x1 x2 x3 x4
    subst hv'
    unfold Halt
    gi_wp2
    obtain ⟨h1, h2⟩ := hap.out
    have h4 : GaI w.heap.size (pre ++ [(⟨xn, xf, xc, xr, xv⟩ : Reg)]) _ (fun b => accD w.heap.size (.slice (some ⟨g', 0, none⟩) (pre.length + 1) cap') b) (.slice (some ⟨g', 0, none⟩) (pre.length + 1) cap') :=
      ⟨by rw [rows_append, List.length_append]; exact h1, rfl⟩
    refine ⟨_, ⟨_, h4⟩, ?_⟩
    exact h2.shift (Keep.alloc (fun _ => False) W2 (.cells #[.string xn, .string xf, .int .i64 xc, .int .i64 xr, .string xv] 46)) (E := fun b => accD w.heap.size v b ∨ (W.heap.size ≤ b ∧ b < W.heap.size + 1)) fun _ h => .inl h
  case done =>
    rintro xs W D hxs ⟨v, hI⟩ hLf hK hDK
    subst hxs
    have hd := hI.dom
    subst hd
    obtain ⟨tw, htw⟩ : ∃ tw, tw = twistN id := ⟨_, rfl⟩
    have htl : tw < 18446744073709551616 := htw ▸ twistN_lt hid
    obtain ⟨F, hFe⟩ : ∃ F, F = belowL L ⟨#[]⟩ := ⟨_, rfl⟩
    rw [← hFe] at hI hSl
    have hFF : ∀ x ∈ F, Fit x := fun x hx => hF x (belowL_mem (pfx := ⟨#[]⟩) (hFe ▸ hx))
    have hbW : Below w.heap.size w W := hLf.below hbel (fun b hb => by rcases hb with h | h; omega; cases h)
    have hRW : RepAt W p id m g0 := (hbW.block p hpl).trans hR
    have hpW : p < W.heap.size := Nat.lt_of_lt_of_le hpl hbW.size
    have hNW : w.heap.size < W.heap.size := (Array.getElem?_eq_some_iff.1 hI.acc.box).1
    have hKW : w1.heap.size < W.heap.size := (Array.getElem?_eq_some_iff.1 hK).1
    have hreg : RegsAt W v F := ownsRow_base hI.acc.row fun _ _ => Nat.zero_le _
    have k0 : ∀ W', Below W.heap.size W W' → W'.cell? ⟨p, 0, none⟩ = some (.int .i64 id) := fun W' hW => (hW.cell (p := ⟨p, 0, none⟩) hpW).trans hRW.cell.1
    have k3 : ∀ W', Below W.heap.size W W' → W'.cell? ⟨w.heap.size, 0, none⟩ = some v := fun W' hW => (hW.cell (p := ⟨w.heap.size, 0, none⟩) hNW).trans hI.acc.cell.1
    have T1 : Hid (∀ W', Below W.heap.size W W' → CallsIn Fence.wide 0 Tryz.prog 200 #[.int .i64 id] W' fun e W'' => e = .returned (.int .u64 tw) ∧ Below W.heap.size W W'') := Lib.hid fun W' hW => callsIn_wide.2 ((twistS_any id W' hid).mono fun _ _ h => ⟨by rw [h.1, htw], h.2 ▸ hW⟩)
    have T2 : Hid (∀ W', Below W.heap.size W W' → CallsIn Fence.wide 0 Tryz.prog 199 #[.slice none 0 0, .int .u64 tw] W' fun e W'' => ∃ v', e = .returned v' ∧ BW W v' (numB tw) W'' ∧ Below W.heap.size W W'') := Lib.hid fun W' hW => callsIn_wide.2 ((BW.num hW tw htl).mono fun _ _ ⟨v', he, h⟩ => ⟨v', he, h, h.below⟩)
    have T3 : Hid (∀ v1 W', BW W v1 (numB tw) W' → CallsIn Fence.wide 0 Tryz.prog 163 #[v1, v, .func (.func 164) #[] #[]] W' fun e W'' => ∃ v', e = .returned v' ∧ BW W v' (numB tw ++ listB regB F) W'' ∧ Below W.heap.size W W'') := Lib.hid fun v1 W' hW => callsIn_wide.2 ((listS_any W.heap.size v1 v (numB tw) F W' hW.buf hW.below.size (ownsRow_block hreg fun g hg => hW.below.block g (hreg.lt g hg).2) (fun b hb e => by have := (hW.buf.lt hb).1; have := (hreg.lt b e).2; omega) hFF (by have := numB_len10 htl; omega) hSl).mono fun _ _ ⟨v', he, hb, hL⟩ => ⟨v', he, hW.next hb hL, (hW.next hb hL).below⟩)
    have hW0 : Below W.heap.size W W.drew := (Below.refl _ _).drew
    have HX := Lib.hid (And.intro hbW (And.intro hK (And.intro htw (And.intro hFe hFF))))
    have HLt := Lib.hid (And.intro hKW hNW)
    clear hit hbel hbl hcp hcn hB1 hI hR hB hF hLf hK hDK hreg hFe hFF hbW hRW hpW hNW hKW htw
    gi_wp2
    refine wpIn_mono ?hreg (fun e a w h => NoPanic.imp e a w h)
    gi_region_with (first
      | (gi_at_call 200; refine CallsIn.mono (T1.out _ (by assumption)) ?_; rintro e wa ⟨rfl, hba⟩)
      | (gi_at_call 199; refine CallsIn.mono (T2.out _ (by assumption)) ?_; rintro e wb ⟨v1, rfl, hbb, hba2⟩)
      | (gi_at_call 163; refine CallsIn.mono (T3.out v1 _ (by assumption)) ?_; rintro e wc ⟨v5, rfl, hbc, hba3⟩))
    all_goals
      refine NoPanic.normal ?_
      obtain ⟨bd, hbd⟩ : ∃ bd, bd = numB tw ++ listB regB F := ⟨_, rfl⟩
      have hbdl : bd.length ≤ 1250000000 := by
        have h1 := numB_len10 htl
        have h2 := numB_len10 (n := F.length) (by omega)
        have h3 := regsB_length HX.out.2.2.2.2
        rw [hbd, listB]
        simp only [List.length_append]
        omega
      have hbdp : 0 < bd.length := by
        have := numB_pos tw
        rw [hbd, List.length_append]; omega
      rw [← hbd] at hbc
      obtain ⟨bg, bcap, hv5⟩ : ∃ bg bcap, v5 = .slice (some ⟨bg, 0, none⟩) bd.length bcap := by
        rcases hbc.buf.2 with ⟨_, h0⟩ | ⟨g, cap, cur, hv, _⟩
        · omega
        · exact ⟨g, cap, hv⟩
      subst hv5
      have hcv : IntKind.u64.wrap ((bd.length : Int) + 4) = (bd.length : Int) + 4 := by rw [IntKind.wrap_u64]; omega
      have hcw : IntKind.i64.wrap ((bd.length : Int) + 4) = (bd.length : Int) + 4 := by rw [IntKind.wrap_i64]; omega
      have T4 : Hid (CallsIn Fence.wide 0 Tryz.prog 199 #[.slice none 0 0, .int .u64 ((bd.length : Int) + 4)] wc fun e W'' => ∃ v', e = .returned v' ∧ BW W v' (numB (bd.length + 4)) W'' ∧ RdAt W'' (.slice (some ⟨bg, 0, none⟩) bd.length bcap) bd) := Lib.hid (by
        have := number_any W.heap.size (.slice none 0 0) [] (bd.length + 4) wc (BufAt.nil _ _) hbc.below.size (by omega) (by simp)
        rw [show ((bd.length + 4 : Nat) : Int) = (bd.length : Int) + 4 by omega] at this
        exact callsIn_wide.2 (this.mono fun _ _ ⟨v', he, hb, hL⟩ => ⟨v', he, ⟨hb, left_below hbc.below (fun _ e => by cases e) hL⟩, (hbc.buf.block fun g hg => hL.1.block g (hbc.buf.lt hg).2 (fun e => by cases e)).read⟩))
      have HBd := Lib.hid hbd
      have hWc := hbc.below.size
      clear hbc k0 k3 T1 T2 T3 hbd
      gi_wp2_with (gi_at_call 199; go_must (refine CallsIn.mono T4.out ?_); rintro e w6 ⟨v6, rfl, h6, hrd⟩; have H6 := Lib.hid h6; have HRd := Lib.hid hrd; clear h6 hrd; refine Halt.of ?_)
      unfold Halt
      have hw6 := H6.out.below.size
      have hn10 := numB_len10 (n := bd.length + 4) (by omega)
      obtain ⟨i5, hi5, h50, h51, h52⟩ := info_parts info5
      gi_wp2_with (gi_at_builtin; go_must (refine wpListIn_append_own_at _ rfl _ _ 79 rfl W.heap.size 5 i5 (.int .u8 0) 1 1 Tryz.underlying79 hi5 h50 h51 h52 rfl (by decide) v6 (numB (bd.length + 4)).length _ rfl H6.out.buf ⟨bg, 0, none⟩ bd.length bcap (bd.map u8V) rfl (by simp) HRd.out.news (u8V_one _) (by unfold maxLen; omega) (by omega) (by omega) ?_); intro v7 w7 hr7 hg7 _ hat; refine Halt.of ?_)
      have h7 : BW W v7 (numB (bd.length + 4) ++ bd) w7 := H6.out.next (by unfold BufAt; rw [List.map_append, List.length_append]; exact hr7) (left_appendS hg7 hat)
      have H7 := Lib.hid h7
      clear hr7 hg7 hat h7
      unfold Halt
      obtain ⟨l7, hl7⟩ : ∃ l7, l7 = numB (bd.length + 4) ++ bd := ⟨_, rfl⟩
      rw [← hl7] at H7
      have hl7l : l7.length ≤ 1250000010 := by rw [hl7, List.length_append]; omega
      have T7 : Hid (CallsIn Fence.wide 0 Tryz.prog 209 #[v7] w7 fun e W'' => e = .returned (.int .u32 (crcL l7)) ∧ W'' = w7) := Lib.hid (callsIn_wide.2 (checkS_any l7 v7 w7 H7.out.buf.read (by omega)))
      have hk32 := crcL_lt l7
      obtain ⟨k, hk⟩ : ∃ k, k = crcL l7 := ⟨_, rfl⟩
      rw [← hk] at T7 hk32
      obtain ⟨b0, hb0, e0⟩ : ∃ b0 : Nat, IntKind.u8.wrap ((k : Int) / 16777216) = (b0 : Int) ∧ b0 = k / 16777216 % 256 := ⟨_, by rw [IntKind.wrap_u8]; omega, rfl⟩
      obtain ⟨b1, hb1, e1⟩ : ∃ b1 : Nat, IntKind.u8.wrap ((k : Int) / 65536) = (b1 : Int) ∧ b1 = k / 65536 % 256 := ⟨_, by rw [IntKind.wrap_u8]; omega, rfl⟩
      obtain ⟨b2, hb2, e2⟩ : ∃ b2 : Nat, IntKind.u8.wrap ((k : Int) / 256) = (b2 : Int) ∧ b2 = k / 256 % 256 := ⟨_, by rw [IntKind.wrap_u8]; omega, rfl⟩
      obtain ⟨b3, hb3, e3⟩ : ∃ b3 : Nat, IntKind.u8.wrap (k : Int) = (b3 : Int) ∧ b3 = k % 256 := ⟨_, by rw [IntKind.wrap_u8]; omega, rfl⟩
      have hbe : (be32 k).map u8V = [.int .u8 (b0 : Int), .int .u8 (b1 : Int), .int .u8 (b2 : Int), .int .u8 (b3 : Int)] := by
        simp only [be32, List.map_cons, List.map_nil, u8V, UInt8.toNat_ofNat', e0, e1, e2, e3]
      have hw7 := H7.out.below.size
      have HK := Lib.hid (And.intro hk (And.intro hl7 (And.intro hbe hw7)))
      clear H6 HRd T4 hk hl7 hbe e0 e1 e2 e3
      gi_wp2_with (gi_at_call 209; go_must (refine CallsIn.mono T7.out ?_); rintro e w8 ⟨rfl, hw8⟩; have HW8 := Lib.hid hw8; clear hw8; refine Halt.of ?_)
      unfold Halt
      obtain ⟨i5, hi5, h50, h51, h52⟩ := info_parts info5
      gi_wp2_with (gi_at_builtin; go_must (refine wpListIn_append_own_at _ rfl _ _ 79 rfl W.heap.size 5 i5 (.int .u8 0) 1 1 Tryz.underlying79 hi5 h50 h51 h52 rfl (by decide) v7 l7.length _ rfl ((HW8.out.symm ▸ H7.out.buf : BufAt W.heap.size w8 v7 l7).alloc _) ⟨w8.heap.size, 0, none⟩ 4 4 [.int .u8 (b0 : Int), .int .u8 (b1 : Int), .int .u8 (b2 : Int), .int .u8 (b3 : Int)] rfl rfl (newsAt (by first | rfl | simp) _ _ rfl) (by simp [Value.oneCell']) (by unfold maxLen; omega) (by omega) (by have := HK.out.2.2.2; rw [HW8.out]; simp; omega) ?_); intro v9 w9 hr9 hg9 _ hat; refine Halt.of ?_)
      have h9 : BW W v9 (l7 ++ be32 k) w9 := (HW8.out.symm ▸ H7.out : BW W v7 l7 w8).next (by unfold BufAt; rw [List.map_append, HK.out.2.2.1, List.length_append]; exact hr9) (left_append (fun b hb => (BufAt.lt (HW8.out.symm ▸ H7.out.buf : BufAt W.heap.size w8 v7 l7) hb).2) hg9 hat)
      have H9 := Lib.hid h9
      clear hr9 hg9 hat h9
      unfold Halt
      gi_wp2
      obtain ⟨hbW, hKd, htw, hFe, -⟩ := HX.out
      obtain ⟨hKW, hNW⟩ := HLt.out
      obtain ⟨hk, hl7, -, -⟩ := HK.out
      have hdef : w9.heap[w.heap.size + 3]? = some (.deferred (some [])) := by rw [← hz1]; exact (H9.out.below.block _ hKW).trans hKd
      refine ⟨by simp, .inl ⟨_, _, rfl, run_takeDeferred hdef, ?_⟩⟩
      refine ⟨_, results_tmp rfl _ _ _, v9, rfl, ?_, ?_⟩
      · have hb := H9.out.buf
        rw [hk, hl7, HBd.out, htw, hFe] at hb
        have hb2 : BufAt w.heap.size w9 v9 (saveB id (belowL L ⟨#[]⟩)) := ownsRow_base hb fun g hg => by have := (BufAt.lt hb hg).1; omega
        exact hb2.block fun g hg => World.putObj_heap_other (fun e => by have := (BufAt.lt hb hg).1; omega)
      · exact below_putObj (hbW.trans (H9.out.below.mono hbW.size)) (by omega) _
end Go.Proofs.YtpdbmpbmepkikaaGreatDoor

namespace Go.Proofs.YtpdbmpbmepkikaaGreatDoor
open Go.RowKit

theorem sealB_pos (b : List UInt8) : 0 < (sealB b).length := by rw [sealB_length]; omega
theorem saveB_length (id : Int) (l : List Reg) (hid : I64 id) (hF : ∀ x ∈ l, Fit x) (hl : l.length ≤ 100000) : (saveB id l).length ≤ 1250000030 := by
  have h1 := numB_len10 (twistN_lt hid)
  have h2 := numB_len10 (n := l.length) (by omega)
  have h3 := regsB_length hF
  have hb : (numB (twistN id) ++ listB regB l).length ≤ 1240000020 := by
    rw [listB]
    simp only [List.length_append]
    omega
  have h4 := numB_len10 (n := (numB (twistN id) ++ listB regB l).length + 4) (by omega)
  rw [saveB, sealB_length]
  omega

/-- A buffer, as stores leave it. -/
structure FillAt (g n : Nat) (w W : World) : Prop where
  block : ∃ cs, W.heap[g]? = some (.cells cs 5 (0, 0)) ∧ n ≤ cs.size
  below : Below w.heap.size w W
theorem FillAt.cell {g n : Nat} {w W : World} (h : FillAt g n w W) {j : Nat} (hj : j < n) : (∃ v, W.cell? ⟨g, j, none⟩ = some v) ∧ W.frozen? ⟨g, j, none⟩ = false := by
  obtain ⟨⟨cs, hb, hn⟩, _⟩ := h
  exact ⟨⟨cs[j], (Joins.cell_of_block hb j).trans (by simp)⟩, Joins.unfrozen_of_block hb j⟩
theorem FillAt.set {g n : Nat} {w W : World} (h : FillAt g n w W) (hg : w.heap.size ≤ g) (j : Nat) (v : Value) : FillAt g n w (W.setCell ⟨g, j, none⟩ v) := by
  obtain ⟨⟨cs, hb, hn⟩, hB⟩ := h
  refine ⟨⟨cs.setIfInBounds j v, ?_, by simpa using hn⟩, below_keep hB (Keep.setCell (F := fun b => b = g) _ _ _ rfl) fun x hx e => by omega⟩
  simp only [World.setCell, Array.getElem?_modify, hb, Option.map_some, if_true]
  rfl

set_option maxHeartbeats 1000000 in
theorem saveW_any (pw : Nat) (lv : Value) (ps : List Nat) (i : Nat) (hi : i < ps.length) (id : Int) (m g0 : Nat) (L : List Reg) (w : World) (hW : WldAt w pw lv ps) (_hps : ps.length ≤ 1000000) (hR : RepAt w ps[i] id m g0) (hB : BookAt w m L) (hL : L.length ≤ 100000) (hF : ∀ x ∈ L, Fit x) (hid : I64 id) :
    Calls Tryz.prog 134 #[.pointer (some ⟨pw, 0, none⟩), .int .i64 i] w fun e w' => e = .returned (.string ⟨(saveB id (belowL L ⟨#[]⟩)).toArray⟩) ∧ Below w.heap.size w w' := by
  obtain ⟨gs, caps, hv, hg, hci⟩ := hW.cell hi
  subst hv
  obtain ⟨p, hp⟩ : ∃ p, p = ps[i] := ⟨_, rfl⟩
  rw [← hp] at hR hci
  have hcw : w.cell? ⟨pw, 0, none⟩ = some (.slice (some ⟨gs, 0, none⟩) ps.length caps) := Joins.cell_of_block hW.box 0
  have hii : (i : Int) < (ps.length : Int) := by omega
  have HC := Lib.hid (saveR_any p id m g0 L w hR hB hL hF hid)
  obtain ⟨F, hFe⟩ : ∃ F, F = belowL L ⟨#[]⟩ := ⟨_, rfl⟩
  have hFl : F.length ≤ 100000 := by
    rw [hFe]
    unfold belowL
    rw [List.length_map, sortB_length]
    exact Nat.le_trans (List.length_filter_le _ _) (by simpa using hL)
  have hsl := saveB_length id F hid (fun x hx => hF x (belowL_mem (pfx := ⟨#[]⟩) (hFe ▸ hx))) hFl
  have hsp : 0 < (saveB id F).length := sealB_pos _
  rw [← hFe] at HC ⊢
  obtain ⟨sv, hsv⟩ : ∃ sv, sv = saveB id F := ⟨_, rfl⟩
  rw [← hsv] at HC hsl hsp ⊢
  clear hW hp hR hB hF hFe hsv hFl
  go_enter Tryz.func134, Tryz.ntmps134
  go_wp2_with (go_at_call 191; go_must (refine HC.out.mono ?_); rintro e w1 ⟨v, rfl, hb1, hB1⟩; have H1 := Lib.hid (And.intro hb1 hB1); clear hb1 hB1; refine Halt.of ?_)
  unfold Halt
  clear HC hci hcw
  obtain ⟨g, cap, hv, hgl, hfill⟩ : ∃ g cap, v = .slice (some ⟨g, 0, none⟩) sv.length cap ∧ w.heap.size ≤ g ∧ FillAt g sv.length w w1 := by
    rcases H1.out.1.2 with ⟨_, h0⟩ | ⟨g, cap, cur, hv, hbg, hgg, hn, _, hcs, _⟩
    · omega
    · exact ⟨g, cap, hv, hbg, ⟨cur, hgg, by omega⟩, H1.out.2⟩
  subst hv
  have hconv : (convert 79 9 (.slice (some ⟨g, 0, none⟩) sv.length cap)).run Tryz.prog w1 = .ok (.string ⟨sv.toArray⟩) w1 := by
    refine run_convert_bytes_back (P := Tryz.prog) _ 79 9 5 ⟨g, 0, none⟩ cap sv Tryz.underlying79 Tryz.underlying5 Tryz.underlying9 (fun j hj => ?_)
    exact H1.out.1.read.news j _ (by rw [List.getElem?_map, List.getElem?_eq_getElem hj]; rfl)
  have HFl := Lib.hid hfill
  clear hfill
  go_wp2
  clear hconv
  go_loopg [20] sv.length (fun k s20 wr => ∃ j : Nat, s20 = .int .i64 j ∧ k + j = sv.length ∧ FillAt g sv.length w wr)
  case atStart => exact ⟨0, rfl, by omega, HFl.out⟩
  case round =>
    obtain ⟨j, rfl, hk, hfl⟩ := hrel
    by_cases hj : j < sv.length
    · have hjj : (j : Int) < (sv.length : Int) := by omega
      obtain ⟨⟨u, hu⟩, hfr⟩ := hfl.cell hj
      have HF := Lib.hid hfl
      clear hfl
      go_wp2
      go_roundg (gk - 1)
      case rel => exact ⟨j + 1, by go_simp, by omega, HF.out.set hgl _ _⟩
      case measure => omega
    · have hje : j = sv.length := by omega
      subst hje
      have HF := Lib.hid hfl
      clear hfl
      go_wp2
      go_ret
      exact ⟨rfl, HF.out.below⟩
end Go.Proofs.YtpdbmpbmepkikaaGreatDoor

namespace Go.Proofs.YtpdbmpbmepkikaaGreatDoor
open Go.RowKit

/-- A reader: what it has not read yet, and whether it has met an end too early. -/
structure RdrAt (r g off cap : Nat) (l : List UInt8) (bad : Bool) (W : World) : Prop where
  box : W.heap[r]? = some (.cells #[.slice (some ⟨g, off, none⟩) l.length cap, .bool bad] 230 (0, 0))
  fits : l.length ≤ cap
  lt : g < W.heap.size
  ne : g ≠ r
  cells : ∀ j (h : j < l.length), W.cell? ⟨g, off + j, none⟩ = some (u8V l[j])
theorem RdrAt.keep {r g off cap : Nat} {l : List UInt8} {bad : Bool} {W W' : World} (h : RdrAt r g off cap l bad W) (hr : W'.heap[r]? = W.heap[r]?) (hg : W'.heap[g]? = W.heap[g]?) (hz : W.heap.size ≤ W'.heap.size) : RdrAt r g off cap l bad W' :=
  ⟨hr.trans h.box, h.fits, Nat.lt_of_lt_of_le h.lt hz, h.ne, fun j hj => (World.cell?_of_block (w := W) (a := ⟨g, off + j, none⟩) hg).trans (h.cells j hj)⟩
theorem RdrAt.below {r g off cap N : Nat} {l : List UInt8} {bad : Bool} {W W' : World} (h : RdrAt r g off cap l bad W) (hb : Below N W W') (hN : W.heap.size ≤ N) : RdrAt r g off cap l bad W' :=
  h.keep (hb.block _ (Nat.lt_of_lt_of_le (Array.getElem?_eq_some_iff.1 h.box).1 hN)) (hb.block _ (Nat.lt_of_lt_of_le h.lt hN)) hb.size
theorem RdrAt.rlt {r g off cap : Nat} {l : List UInt8} {bad : Bool} {W : World} (h : RdrAt r g off cap l bad W) : r < W.heap.size := (Array.getElem?_eq_some_iff.1 h.box).1

theorem RdrAt.drop {r g off cap n : Nat} {l : List UInt8} {bad : Bool} {W : World} (h : RdrAt r g off cap l bad W) (hn : n ≤ l.length) (off' : Nat) (ho : off' = off + n ∨ cap = n) :
    RdrAt r g off' (cap - n) (l.drop n) bad (W.setCell ⟨r, 0, none⟩ (.slice (some ⟨g, off', none⟩) (l.length - n) (cap - n))) := by
  refine ⟨?_, ?_, ?_, h.ne, fun j hj => ?_⟩
  · simp only [World.setCell, Array.getElem?_modify, h.box, Option.map_some, if_true, List.length_drop]
    rfl
  · rw [List.length_drop]; have := h.fits; omega
  · simpa [World.setCell] using h.lt
  · rw [List.length_drop] at hj
    have hf := h.fits
    have e : off' + j = off + (n + j) := by omega
    rw [e, List.getElem_drop]
    exact (World.cell?_of_block (w := W) (a := ⟨g, off + (n + j), none⟩) (Below.heap_setCell _ _ _ _ h.ne)).trans (h.cells (n + j) (by omega))
theorem RdrAt.spoil {r g off cap : Nat} {l : List UInt8} {bad : Bool} {W : World} (h : RdrAt r g off cap l bad W) : RdrAt r g off cap l true (W.setCell ⟨r, 1, none⟩ (.bool true)) := by
  refine ⟨?_, h.fits, ?_, h.ne, fun j hj => (World.cell?_of_block (w := W) (a := ⟨g, off + j, none⟩) (Below.heap_setCell _ _ _ _ h.ne)).trans (h.cells j hj)⟩
  · simp only [World.setCell, Array.getElem?_modify, h.box, Option.map_some, if_true]
    rfl
  · simpa [World.setCell] using h.lt

set_option maxHeartbeats 1000000 in
/-- As many as are there. -/
theorem takeS_any (r g off cap n : Nat) (l : List UInt8) (w : World) (h : RdrAt r g off cap l false w) (hn : n ≤ l.length) :
    Calls Tryz.prog 147 #[.pointer (some ⟨r, 0, none⟩), .int .i64 n] w fun e w' => e = .returned (.slice (some ⟨g, off, none⟩) n n) ∧ (∃ off', RdrAt r g off' (cap - n) (l.drop n) false w') ∧ Keep (fun b => b = r) w w' := by
  have c0 : w.cell? ⟨r, 0, none⟩ = some (.slice (some ⟨g, off, none⟩) l.length cap) := Joins.cell_of_block h.box 0
  have f0 : w.frozen? ⟨r, 0, none⟩ = false := Joins.unfrozen_of_block h.box 0
  have hnn : (n : Int) ≤ (l.length : Int) := by omega
  have hnc : (n : Int) ≤ (cap : Int) := by have := h.fits; omega
  have hH := Lib.hid h
  have hng : ¬ (l.length : Int) < (n : Int) := by omega
  have hng2 : ¬ l.length < n := by omega
  have hfit := h.fits
  clear h
  go_enter Tryz.func147, Tryz.ntmps147
  go_wp2
  case inr h =>
    go_ret
    exact ⟨rfl, ⟨_, hH.out.drop hn _ (.inl rfl)⟩, Keep.setCell _ _ _ rfl⟩
  case inl h =>
    subst h
    go_ret
    refine ⟨rfl, ⟨off, ?_⟩, Keep.setCell _ _ _ rfl⟩
    have := hH.out.drop hn off (.inr rfl)
    rw [Nat.sub_self] at this
    exact this

set_option maxHeartbeats 1000000 in
/-- More than is there. -/
theorem takeS_none (r g off cap n : Nat) (l : List UInt8) (bad : Bool) (w : World) (h : RdrAt r g off cap l bad w) (hn : l.length < n) :
    Calls Tryz.prog 147 #[.pointer (some ⟨r, 0, none⟩), .int .i64 n] w fun e w' => e = .returned (.slice none 0 0) ∧ RdrAt r g off cap l true w' ∧ Keep (fun b => b = r) w w' := by
  have c0 : w.cell? ⟨r, 0, none⟩ = some (.slice (some ⟨g, off, none⟩) l.length cap) := Joins.cell_of_block h.box 0
  have c1 : w.cell? ⟨r, 1, none⟩ = some (.bool bad) := Joins.cell_of_block h.box 1
  have f1 : w.frozen? ⟨r, 1, none⟩ = false := Joins.unfrozen_of_block h.box 1
  have hH := Lib.hid h
  have hng : (l.length : Int) < (n : Int) := by omega
  clear h
  go_enter Tryz.func147, Tryz.ntmps147
  go_wp2
  go_ret
  exact ⟨rfl, hH.out.spoil, Keep.setCell _ _ _ rfl⟩
end Go.Proofs.YtpdbmpbmepkikaaGreatDoor

namespace Go.Proofs.YtpdbmpbmepkikaaGreatDoor
open Go.RowKit

theorem shl_nat (m z : Nat) : IntKind.u64.wrap ((m : Int) * 2 ^ z) = ((m * 2 ^ z % 18446744073709551616 : Nat) : Int) := by
  rw [IntKind.wrap_u64]
  have : (m : Int) * 2 ^ z = ((m * 2 ^ z : Nat) : Int) := by simp
  rw [this]
  omega
theorem or_sum {a m z : Nat} (ha : a < 2 ^ z) (hz : z ≤ 63) : a ||| m * 2 ^ z % 18446744073709551616 = a + m * 2 ^ z % 18446744073709551616 := by
  have e : m * 2 ^ z % 18446744073709551616 = 2 ^ z * (m % 2 ^ (64 - z)) := by
    have h64 : (18446744073709551616 : Nat) = 2 ^ z * 2 ^ (64 - z) := by rw [← Nat.pow_add, show z + (64 - z) = 64 by omega]
    rw [h64, Nat.mul_comm m, Nat.mul_mod_mul_left]
  rw [e, Nat.or_comm, ← Nat.two_pow_add_eq_or_of_lt ha, Nat.add_comm]
theorem and127 : ∀ x, x < 256 → x &&& 127 = x % 128 := fun x _ => Nat.and_two_pow_sub_one_eq_mod x 7

theorem readNum_cons (f k acc : Nat) (b : UInt8) (l : List UInt8) : readNum (f + 1) k acc (b :: l) = if b.toNat < 128 then (acc + b.toNat % 128 * 2 ^ k % 18446744073709551616, l, false) else readNum f (k + 7) (acc + b.toNat % 128 * 2 ^ k % 18446744073709551616) l := rfl

set_option maxHeartbeats 2000000 in
theorem numberR_any (r g off cap : Nat) (l : List UInt8) (w : World) (h : RdrAt r g off cap l false w) :
    Calls Tryz.prog 194 #[.pointer (some ⟨r, 0, none⟩)] w fun e w' => e = .returned (.int .u64 (readNum 10 0 0 l).1) ∧ (∃ off' cap', RdrAt r g off' cap' (readNum 10 0 0 l).2.1 (readNum 10 0 0 l).2.2 w') ∧ Keep (fun b => b = r) w w' := by
  obtain ⟨R, hR⟩ : ∃ R, R = readNum 10 0 0 l := ⟨_, rfl⟩
  rw [← hR]
  have H0 := Lib.hid (And.intro h hR)
  clear h hR
  go_enter Tryz.func194, Tryz.ntmps194
  go_wp2
  go_loopg [3, 4] 10 (fun k s3 s4 wr => ∃ (z acc off1 cap1 : Nat) (l1 : List UInt8), s3 = .int .u64 acc ∧ s4 = .int .i64 z ∧ 7 * k + z = 70 ∧ readNum k z acc l1 = R ∧ RdrAt r g off1 cap1 l1 false wr ∧ acc < 2 ^ z ∧ acc < 18446744073709551616 ∧ Keep (fun b => b = r) w wr)
  case atStart => exact ⟨0, 0, off, cap, l, rfl, rfl, rfl, H0.out.2.symm, H0.out.1, by decide, by decide, Keep.refl _ _⟩
  case round =>
    obtain ⟨z, acc, off1, cap1, l1, rfl, rfl, hk, hread, hr, hacc, hacc64, hkp⟩ := hrel
    by_cases hz : z < 64
    · obtain ⟨k', rfl⟩ : ∃ k', gk = k' + 1 := ⟨gk - 1, by omega⟩
      have hzz : (z : Int) < 64 := by omega
      cases l1 with
      | nil =>
        have HC := Lib.hid (takeS_none r g off1 cap1 1 [] false wr hr (by simp))
        have HX := Lib.hid (And.intro hread hkp)
        clear hread hr hkp hacc
        go_wp2_with (go_at_call 147; go_must (refine HC.out.mono ?_); rintro e w5 ⟨rfl, hr5, hk5⟩; have c1 : w5.cell? ⟨r, 1, none⟩ = some (.bool true) := Joins.cell_of_block hr5.box 1; have H5 := Lib.hid (And.intro hr5 hk5); clear hr5 hk5; refine Halt.of ?_)
        unfold Halt
        go_wp2
        go_ret
        obtain ⟨hread, hkp⟩ := HX.out
        rw [readNum] at hread
        subst hread
        exact ⟨rfl, ⟨_, _, H5.out.1⟩, hkp.trans H5.out.2⟩
      | cons b l2 =>
        have HC := Lib.hid (takeS_any r g off1 cap1 1 (b :: l2) wr hr (by simp))
        have y0 : wr.cell? ⟨g, off1, none⟩ = some (u8V b) := hr.cells 0 (Nat.zero_lt_succ _)
        have hgr := hr.ne
        have hgl := hr.lt
        obtain ⟨m, hm⟩ : ∃ m, m = b.toNat % 128 := ⟨_, rfl⟩
        have hb8 : b.toNat < 256 := b.toNat_lt
        have hand : bits .and .u8 (b.toNat : Int) 127 = (m : Int) := by
          have := u8_and_nat b.toNat 127 hb8 (by decide)
          rw [and127 _ hb8, ← hm] at this
          exact this
        have hcv : IntKind.u64.wrap (m : Int) = (m : Int) := by rw [IntKind.wrap_u64]; omega
        have hshl := shl_nat m z
        have hos := or_sum (m := m) hacc (by omega : z ≤ 63)
        obtain ⟨x, hx⟩ : ∃ x, x = m * 2 ^ z % 18446744073709551616 := ⟨_, rfl⟩
        rw [← hx] at hshl hos
        have hx64 : x < 18446744073709551616 := by omega
        have hor : bits .or .u64 (acc : Int) (x : Int) = ((acc + x : Nat) : Int) := by
          rw [u64_or_nat acc x hacc64 hx64, hos]
        have hsum64 : acc + x < 18446744073709551616 := by
          rw [← hos]; exact Nat.or_lt_two_pow (n := 64) hacc64 hx64
        have hsum : acc + x < 2 ^ (z + 7) := by
          have h1 : x ≤ m * 2 ^ z := by rw [hx]; exact Nat.mod_le _ _
          have h2 : m * 2 ^ z ≤ 127 * 2 ^ z := Nat.mul_le_mul_right _ (by omega)
          rw [Nat.pow_add]
          omega
        have hw7 : IntKind.i64.wrap ((z : Int) + 7) = (z : Int) + 7 := by rw [IntKind.wrap_i64]; omega
        rw [readNum_cons, ← hm, ← hx] at hread
        have HX := Lib.hid (And.intro hread (And.intro hkp (And.intro hsum hsum64)))
        unfold u8V at y0
        obtain ⟨sx, hsx⟩ : ∃ sx, sx = acc + x := ⟨_, rfl⟩
        rw [← hsx] at hor HX
        have hz0 : (0 : Int) ≤ (z : Int) := by omega
        clear hread hr hkp hacc hos hm hx hsum hsum64 hsx hacc64 hx64
        go_wp2_with (go_at_call 147; go_must (refine HC.out.mono ?_); rintro e w5 ⟨rfl, ⟨off2, hr5⟩, hk5⟩; have c1 : w5.cell? ⟨r, 1, none⟩ = some (.bool false) := Joins.cell_of_block hr5.box 1; have y5 : w5.cell? ⟨g, off1, none⟩ = some (.int .u8 b.toNat) := (World.cell?_of_block (w := wr) (a := ⟨g, off1, none⟩) (hk5.block g hgl hgr)).trans y0; have H5 := Lib.hid (And.intro hr5 hk5); clear hr5 hk5; refine Halt.of ?_)
        unfold Halt
        clear HC y0
        by_cases h128 : b.toNat < 128
        · have hlt : (b.toNat : Int) < 128 := by omega
          go_wp2
          go_ret
          obtain ⟨hread, hkp, -, -⟩ := HX.out
          rw [if_pos h128] at hread
          subst hread
          exact ⟨rfl, ⟨_, _, H5.out.1⟩, hkp.trans H5.out.2⟩
        · have hlt : ¬ (b.toNat : Int) < 128 := by omega
          go_wp2
          go_roundg k'
          case rel =>
            obtain ⟨hread, hkp, hsum, hsum64⟩ := HX.out
            rw [if_neg h128] at hread
            exact ⟨z + 7, sx, off2, cap1 - 1, l2, rfl, by go_simp, by omega, hread, H5.out.1, hsum, hsum64, hkp.trans H5.out.2⟩
          case measure => omega
    · have hk0 : gk = 0 := by omega
      subst hk0
      have hz70 : z = 70 := by omega
      subst hz70
      rw [readNum] at hread
      have HX := Lib.hid (And.intro hread (And.intro hkp hr))
      clear hread hkp hr hacc
      go_wp2
      go_ret
      obtain ⟨hread, hkp, hr⟩ := HX.out
      subst hread
      exact ⟨rfl, ⟨_, _, hr⟩, hkp⟩
end Go.Proofs.YtpdbmpbmepkikaaGreatDoor

namespace Go.Proofs.YtpdbmpbmepkikaaGreatDoor
open Go.RowKit

/-- Behind a reading: what is left. -/
def LeftAt (r g : Nat) (t : List UInt8) (w w' : World) : Prop := (∃ off cap, RdrAt r g off cap t false w') ∧ Keep (fun b => b = r) w w'

theorem numberR_whole (r g off cap n : Nat) (t : List UInt8) (w : World) (h : RdrAt r g off cap (numB n ++ t) false w) (hn : n < 18446744073709551616) :
    Calls Tryz.prog 194 #[.pointer (some ⟨r, 0, none⟩)] w fun e w' => e = .returned (.int .u64 n) ∧ LeftAt r g t w w' := by
  have := numberR_any r g off cap _ w h
  rw [readNum_whole hn] at this
  exact this.mono fun _ _ ⟨h1, h2, h3⟩ => ⟨h1, h2, h3⟩

theorem conv_whole (W : World) (g off : Nat) (s : ByteArray) (h : ∀ j (hj : j < (bl s).length), W.cell? ⟨g, off + j, none⟩ = some (.int .u8 ((bl s)[j].toNat : Int))) : (convert 79 9 (.slice (some ⟨g, off, none⟩) s.size s.size)).run Tryz.prog W = .ok (.string s) W := by
  have hc := run_convert_bytes_back (P := Tryz.prog) W 79 9 5 ⟨g, off, none⟩ s.size (bl s) Tryz.underlying79 Tryz.underlying5 Tryz.underlying9 (fun j hj => by rw [Addr.add_lit]; exact h j hj)
  have e : (⟨(bl s).toArray⟩ : ByteArray) = s := ByteArray.ext (Array.toArray_toList)
  rw [e] at hc
  exact hc

set_option maxHeartbeats 1000000 in
theorem textR_whole (r g off cap : Nat) (s : ByteArray) (t : List UInt8) (w : World) (h : RdrAt r g off cap (textB s ++ t) false w) (hs : s.size ≤ 1073741824) :
    Calls Tryz.prog 152 #[.pointer (some ⟨r, 0, none⟩)] w fun e w' => e = .returned (.string s) ∧ LeftAt r g t w w' := by
  rw [textB, List.append_assoc] at h
  have HC := Lib.hid (numberR_whole r g off cap s.size (bl s ++ t) w h (by omega))
  have hcv : IntKind.i64.wrap (s.size : Int) = (s.size : Int) := by rw [IntKind.wrap_i64]; omega
  have hmin : min (s.size : Int) 1073741824 = (s.size : Int) := by omega
  clear h
  go_enter Tryz.func152, Tryz.ntmps152
  go_wp2_with (go_at_call 194; go_must (refine HC.out.mono ?_); rintro e w1 ⟨rfl, h1⟩; have H1 := Lib.hid h1; clear h1; refine Halt.of ?_)
  unfold Halt
  clear HC
  obtain ⟨⟨off1, cap1, hr1⟩, hk1⟩ := H1.out
  have hbl : (bl s).length = s.size := rfl
  have HC2 := Lib.hid (takeS_any r g off1 cap1 s.size (bl s ++ t) w1 hr1 (by rw [List.length_append]; omega))
  have hrest : (bl s ++ t).drop s.size = t := by rw [← hbl]; exact List.drop_left
  have hcells : ∀ j (hj : j < (bl s).length), w1.cell? ⟨g, off1 + j, none⟩ = some (.int .u8 ((bl s)[j].toNat : Int)) := fun j hj => by
    have := hr1.cells j (by rw [List.length_append]; omega)
    rw [List.getElem_append_left hj] at this
    exact this
  have hgl := hr1.lt
  have hgr := hr1.ne
  have HX := Lib.hid (And.intro hk1 (And.intro hrest hcells))
  clear hr1 hk1 hrest hcells H1
  go_wp2_with (go_at_call 147; go_must (refine HC2.out.mono ?_); rintro e w2 ⟨rfl, ⟨off2, hr2⟩, hk2⟩; have hconv := conv_whole w2 g off1 s (fun j hj => (World.cell?_of_block (w := w1) (a := ⟨g, off1 + j, none⟩) (hk2.block g hgl hgr)).trans (HX.out.2.2 j hj)); have H2 := Lib.hid (And.intro hr2 hk2); clear hr2 hk2; refine Halt.of ?_)
  unfold Halt
  clear HC2
  go_wp2
  go_ret
  refine ⟨rfl, ⟨off2, cap1 - s.size, ?_⟩, HX.out.1.trans H2.out.2⟩
  have := H2.out.1
  rw [HX.out.2.1] at this
  exact this

theorem xor_zero64 {x : Int} (h0 : 0 ≤ x) (h1 : x < 9223372036854775808) : bits .xor .i64 x 0 = x := by
  show IntKind.i64.wrap ((BitVec.ofInt 64 x ^^^ BitVec.ofInt 64 0).toNat : Int) = x
  have e : BitVec.ofInt 64 x ^^^ BitVec.ofInt 64 0 = BitVec.ofInt 64 x := by simp
  rw [e, BitVec.toNat_ofInt, IntKind.wrap_i64]
  omega
theorem xor_ones_i64 {x : Nat} (h1 : x < 9223372036854775808) : bits .xor .i64 (x : Int) (-1) = -(x : Int) - 1 := by
  have := Lib.i64_not x h1
  rw [← this]
  show IntKind.i64.wrap ((BitVec.ofInt 64 (x : Int) ^^^ BitVec.ofInt 64 (-1)).toNat : Int) = IntKind.i64.wrap ((BitVec.ofInt 64 (-1) ^^^ BitVec.ofInt 64 (x : Int)).toNat : Int)
  rw [BitVec.xor_comm]

theorem twistedR_whole (r g off cap : Nat) (z : Int) (t : List UInt8) (w : World) (h : RdrAt r g off cap (numB (twistN z) ++ t) false w) (hz : I64 z) :
    Calls Tryz.prog 195 #[.pointer (some ⟨r, 0, none⟩)] w fun e w' => e = .returned (.int .i64 z) ∧ LeftAt r g t w w' := by
  have hn := twistN_lt hz
  have hu := untwist_twist z
  obtain ⟨n, hne⟩ : ∃ n, n = twistN z := ⟨_, rfl⟩
  rw [← hne] at h hn hu
  have HC := Lib.hid (numberR_whole r g off cap n t w h hn)
  have hand : bits .and .u64 (n : Int) 1 = ((n % 2 : Nat) : Int) := by rw [Lib.u64_and1 _ (by omega) (by omega)]; omega
  have hcv : IntKind.i64.wrap ((n : Int) / 2) = ((n / 2 : Nat) : Int) := by rw [IntKind.wrap_i64]; omega
  clear h hne
  unfold untwist at hu
  by_cases h2 : n % 2 = 0
  · rw [if_pos h2] at hu
    rw [h2] at hand
    have hx : bits .xor .i64 ((n / 2 : Nat) : Int) 0 = z := by rw [xor_zero64 (by omega) (by omega)]; exact hu
    obtain ⟨q, hq⟩ : ∃ q, q = n / 2 := ⟨_, rfl⟩
    rw [← hq] at hcv hx
    clear hu hq
    go_enter Tryz.func195, Tryz.ntmps195
    go_wp2_with (go_at_call 194; go_must (refine HC.out.mono ?_); rintro e w1 ⟨rfl, h1⟩; have H1 := Lib.hid h1; clear h1; refine Halt.of ?_)
    unfold Halt
    go_wp2
    go_ret
    exact ⟨rfl, H1.out⟩
  · rw [if_neg h2] at hu
    have h21 : n % 2 = 1 := by omega
    rw [h21] at hand
    have hx : bits .xor .i64 ((n / 2 : Nat) : Int) (-1) = z := by rw [xor_ones_i64 (by omega)]; exact hu
    obtain ⟨q, hq⟩ : ∃ q, q = n / 2 := ⟨_, rfl⟩
    rw [← hq] at hcv hx
    clear hu hq
    go_enter Tryz.func195, Tryz.ntmps195
    go_wp2_with (go_at_call 194; go_must (refine HC.out.mono ?_); rintro e w1 ⟨rfl, h1⟩; have H1 := Lib.hid h1; clear h1; refine Halt.of ?_)
    unfold Halt
    go_wp2
    go_ret
    exact ⟨rfl, H1.out⟩
end Go.Proofs.YtpdbmpbmepkikaaGreatDoor

namespace Go.Proofs.YtpdbmpbmepkikaaGreatDoor
open Go.RowKit

set_option maxHeartbeats 2000000 in
theorem registerR_whole (r g off cap : Nat) (x : Reg) (t : List UInt8) (w : World) (h : RdrAt r g off cap (regB x ++ t) false w) (hx : Fit x) :
    Calls Tryz.prog 150 #[.pointer (some ⟨r, 0, none⟩)] w fun e w' => e = .returned x.val ∧ LeftAt r g t w w' := by
  obtain ⟨n, f, c, q, s⟩ := x
  obtain ⟨h1, h2, h3, h4, h5⟩ := hx
  simp only at h1 h2 h3 h4 h5
  simp only [regB, List.append_assoc] at h
  have hrl := h.rlt
  have hgl := h.lt
  obtain ⟨w1, hw1⟩ : ∃ w1, w1 = w.alloc (.cells #[.string ⟨#[]⟩, .string ⟨#[]⟩, .int .i64 0, .int .i64 0, .string ⟨#[]⟩] 46) := ⟨_, rfl⟩
  have hb1 : w1.heap[w.heap.size]? = some (.cells #[.string ⟨#[]⟩, .string ⟨#[]⟩, .int .i64 0, .int .i64 0, .string ⟨#[]⟩] 46 (0, 0)) := by rw [hw1]; exact World.alloc_heap_new _ _
  have hk1 : Keep (fun b => b = r) w w1 := by rw [hw1]; exact Keep.alloc _ _ _
  have hr1 : RdrAt r g off cap (textB n ++ (textB f ++ (numB (twistN c) ++ (numB (twistN q) ++ (textB s ++ t))))) false w1 := by rw [hw1]; exact h.below ((Below.refl _ _).alloc (Nat.le_refl _) _) (Nat.le_refl _)
  have hz1 : w.heap.size < w1.heap.size := by rw [hw1]; simp
  have C1 := Lib.hid (textR_whole r g off cap n _ w1 hr1 (by omega))
  have HW := Lib.hid hw1
  have HK1 := Lib.hid (And.intro hk1 (And.intro hb1 hz1))
  clear h hw1 hk1 hb1 hr1 hz1
  unfold Reg.val
  go_enter Tryz.func150, Tryz.ntmps150
  go_wp2_with (rw [← HW.out]; go_at_call 152; go_must (refine C1.out.mono ?_); rintro e w2 ⟨rfl, hl2⟩; have H2 := Lib.hid hl2; clear hl2; refine Halt.of ?_)
  unfold Halt
  obtain ⟨⟨o2, c2, hr2⟩, hk2⟩ := H2.out
  have C2 := Lib.hid (textR_whole r g o2 c2 f _ w2 hr2 (by omega))
  clear hr2 hk2
  go_wp2_with (go_at_call 152; go_must (refine C2.out.mono ?_); rintro e w3 ⟨rfl, hl3⟩; have H3 := Lib.hid hl3; clear hl3; refine Halt.of ?_)
  unfold Halt
  obtain ⟨⟨o3, c3, hr3⟩, hk3⟩ := H3.out
  have C3 := Lib.hid (twistedR_whole r g o3 c3 c _ w3 hr3 h4)
  clear hr3 hk3
  go_wp2_with (go_at_call 195; go_must (refine C3.out.mono ?_); rintro e w4 ⟨rfl, hl4⟩; have H4 := Lib.hid hl4; clear hl4; refine Halt.of ?_)
  unfold Halt
  obtain ⟨⟨o4, c4, hr4⟩, hk4⟩ := H4.out
  have C4 := Lib.hid (twistedR_whole r g o4 c4 q _ w4 hr4 h5)
  clear hr4 hk4
  go_wp2_with (go_at_call 195; go_must (refine C4.out.mono ?_); rintro e w5 ⟨rfl, hl5⟩; have H5 := Lib.hid hl5; clear hl5; refine Halt.of ?_)
  unfold Halt
  obtain ⟨⟨o5, c5, hr5⟩, hk5⟩ := H5.out
  have C5 := Lib.hid (textR_whole r g o5 c5 s _ w5 hr5 (by omega))
  clear hr5 hk5
  go_wp2_with (go_at_call 152; go_must (refine C5.out.mono ?_); rintro e w6 ⟨rfl, hl6⟩; have H6 := Lib.hid hl6; clear hl6; refine Halt.of ?_)
  unfold Halt
  have hkp : Keep (fun b => b = r) w1 w6 := H2.out.2.trans (H3.out.2.trans (H4.out.2.trans (H5.out.2.trans H6.out.2)))
  have hb6 : w6.heap[w.heap.size]? = some (.cells #[.string ⟨#[]⟩, .string ⟨#[]⟩, .int .i64 0, .int .i64 0, .string ⟨#[]⟩] 46 (0, 0)) := (hkp.block _ HK1.out.2.2 (by omega)).trans HK1.out.2.1
  have a0 : w6.cell? ⟨w.heap.size, 0, none⟩ = some (.string ⟨#[]⟩) := Joins.cell_of_block hb6 0
  have a1 : w6.cell? ⟨w.heap.size, 1, none⟩ = some (.string ⟨#[]⟩) := Joins.cell_of_block hb6 1
  have a2 : w6.cell? ⟨w.heap.size, 2, none⟩ = some (.int .i64 0) := Joins.cell_of_block hb6 2
  have a3 : w6.cell? ⟨w.heap.size, 3, none⟩ = some (.int .i64 0) := Joins.cell_of_block hb6 3
  have a4 : w6.cell? ⟨w.heap.size, 4, none⟩ = some (.string ⟨#[]⟩) := Joins.cell_of_block hb6 4
  have fz : ∀ i, w6.frozen? ⟨w.heap.size, i, none⟩ = false := fun i => Joins.unfrozen_of_block hb6 i
  have hA0 : ArrAt w.heap.size 46 w6 #[.string ⟨#[]⟩, .string ⟨#[]⟩, .int .i64 0, .int .i64 0, .string ⟨#[]⟩] w6 := ⟨hb6, Keep.refl _ _⟩
  have HA := Lib.hid (And.intro hA0 hkp)
  clear hb6 hkp hA0 C1 C2 C3 C4 C5
  go_wp2
  generalize hWF : World.setCell _ _ _ = WF
  have hA : ArrAt w.heap.size 46 w6 _ WF := hWF ▸ (((((HA.out.1.set 0 _).set 1 _).set 2 _).set 3 _).set 4 _)
  clear hWF
  obtain ⟨hAb, hAk⟩ := hA
  simp only [List.setIfInBounds_toArray, List.set_cons_zero, List.set_cons_succ] at hAb
  refine bodyPost_ret (results_cell_row rfl _ _ w.heap.size 46 _ (0, 0) _ rfl hAb Tryz.underlying46 rfl (by kernel_rfl)) rfl ?_
  obtain ⟨⟨o6, c6, hr6⟩, -⟩ := H6.out
  have hkp := HA.out.2
  have hz6 := hkp.size
  have hzw := HK1.out.2.2
  refine ⟨rfl, ⟨o6, c6, hr6.keep (hAk.block _ (by omega) (by omega)) (hAk.block _ (by omega) (by omega)) hAk.size⟩, ?_⟩
  exact ⟨hAk.os.trans (hkp.os.trans HK1.out.1.os), hAk.tape.trans (hkp.tape.trans HK1.out.1.tape), hAk.output.trans (hkp.output.trans HK1.out.1.output), Nat.le_trans (Nat.le_of_lt hzw) (Nat.le_trans hz6 hAk.size), fun b hb hn => (hAk.block b (by omega) (by omega)).trans ((hkp.block b (by omega) hn).trans (HK1.out.1.block b hb hn))⟩
end Go.Proofs.YtpdbmpbmepkikaaGreatDoor

namespace Go.Proofs.YtpdbmpbmepkikaaGreatDoor
open Go.RowKit

/-- While the registers are read. -/
structure ManyI (r g : Nat) (F : List Reg) (t : List UInt8) (w : World) (j : Nat) (v : Value) (W : World) : Prop where
  row : W.ownsRow w.heap.size 46 5 v j (rows (F.take j))
  rdr : ∃ off cap, RdrAt r g off cap ((F.drop j).flatMap regB ++ t) false W
  keep : Keep (fun b => b = r) w W

set_option maxHeartbeats 2000000 in
theorem manyR_whole (r g off cap : Nat) (F : List Reg) (t : List UInt8) (w : World) (h : RdrAt r g off cap (listB regB F ++ t) false w) (hF : ∀ x ∈ F, Fit x) (hz : F.length ≤ 100000) :
    Calls Tryz.prog 149 #[.pointer (some ⟨r, 0, none⟩), .func (.func 150) #[.pointer (some ⟨r, 0, none⟩)] #[]] w fun e w' => ∃ v, e = .returned v ∧ w'.ownsRow w.heap.size 46 5 v F.length (rows F) ∧ LeftAt r g t w w' := by
  rw [listB, List.append_assoc] at h
  have hrl := h.rlt
  have hgl := h.lt
  have HC := Lib.hid (numberR_whole r g off cap F.length _ w h (by omega))
  have HF := Lib.hid hF
  obtain ⟨i0, hi, hz0, hz1, hz2⟩ := info_parts info46
  clear h hF
  go_enter Tryz.func149, Tryz.ntmps149
  go_wp2_with (go_at_call 194; go_must (refine HC.out.mono ?_); rintro e w1 ⟨rfl, h1⟩; have H1 := Lib.hid h1; clear h1; refine Halt.of ?_)
  unfold Halt
  clear HC
  go_wp2
  go_loopg [5, 6] F.length (fun k s5 s6 wr => ∃ (v : Value) (j : Nat), v = s5 ∧ s6 = .int .u64 (k : Nat) ∧ k + j = F.length ∧ ManyI r g F t w j v wr)
  case atStart => exact ⟨_, 0, rfl, rfl, rfl, ⟨World.ownsRow_nil _ _ _ _, by simpa using H1.out.1, H1.out.2⟩⟩
  case round =>
    obtain ⟨v, j, rfl, rfl, hk, hI⟩ := hrel
    obtain ⟨o1, c1, hr1⟩ := hI.rdr
    have b1 : wr.cell? ⟨r, 1, none⟩ = some (.bool false) := Joins.cell_of_block hr1.box 1
    by_cases hj : j < F.length
    · obtain ⟨k', rfl⟩ : ∃ k', gk = k' + 1 := ⟨gk - 1, by omega⟩
      have hdr : (F.drop j).flatMap regB ++ t = regB F[j] ++ ((F.drop (j + 1)).flatMap regB ++ t) := by
        rw [List.drop_eq_getElem_cons hj, List.flatMap_cons, List.append_assoc]
      have htk : rows (F.take (j + 1)) = rows (F.take j) ++ F[j].cells := by
        rw [List.take_add_one, List.getElem?_eq_getElem hj, Option.toList_some, rows_append]; simp [rows]
      rw [hdr] at hr1
      have hCx := registerR_whole r g o1 c1 F[j] _ wr hr1 (HF.out F[j] (List.getElem_mem hj))
      obtain ⟨x, hx⟩ : ∃ x, x = F[j] := ⟨_, rfl⟩
      rw [← hx] at hCx htk
      obtain ⟨n, f, c, q, s⟩ := x
      unfold Reg.val at hCx
      simp only [Reg.cells] at htk
      have HC := Lib.hid hCx
      have HI := Lib.hid (And.intro hI htk)
      have hwz := hI.keep.size
      have hw1 : IntKind.u64.wrap (((k' + 1 : Nat) : Int) - 1) = (k' : Int) := by rw [IntKind.wrap_u64]; omega
      have hpos : (0 : Int) < ((k' + 1 : Nat) : Int) := by omega
      obtain ⟨kz, hkz⟩ : ∃ kz : Int, kz = ((k' + 1 : Nat) : Int) := ⟨_, rfl⟩
      rw [← hkz] at hw1 hpos ⊢
      have HKZ := Lib.hid hkz
      clear hI hr1 hdr htk hCx hx hkz
      go_wp2_with (go_at_call 150; go_must (refine HC.out.mono ?_); rintro e w5 ⟨rfl, h5⟩; have H5 := Lib.hid h5; clear h5; refine Halt.of ?_)
      unfold Halt
      have hrow5 : w5.ownsRow w.heap.size 46 5 v j (rows (F.take j)) := ownsRow_block HI.out.1.row fun b hb => H5.out.2.block b (HI.out.1.row.lt b hb).2 (by have := (HI.out.1.row.lt b hb).1; omega)
      have hz5 := H5.out.2.size
      have HR5 := Lib.hid hrow5
      clear hrow5 HC b1
      go_wp2_with (at_builtin; go_must (refine wpList_append_own_at _ rfl _ _ 35 rfl w.heap.size 46 i0 (.agg #[.string ⟨#[]⟩, .string ⟨#[]⟩, .int .i64 0, .int .i64 0, .string ⟨#[]⟩]) 5 64 Tryz.underlying35 hi hz0 hz1 hz2 rfl (by decide) v j (rows (F.take j)) rfl (ownsRow_block HR5.out fun b hb => Below.heap_alloc _ _ _ (HR5.out.lt b hb).2) ⟨w5.heap.size, 0, none⟩ 1 1 [.string n, .string f, .int .i64 c, .int .i64 q, .string s] rfl rfl (newsAt (by first | rfl | simp) _ _ rfl) (by simp [Value.oneCell']) (by unfold maxLen; omega) (by omega) (by simp; omega) ?_); intro v7 w7 hr7 hg7 _ hat; refine Halt.of ?_)
      have hold : ∀ b, b < w.heap.size → w7.heap[b]? = w5.heap[b]? := fun b hb => (hg7.block b (by simp; omega) (fun e => by have := (HR5.out.lt b e.symm).1; omega)).trans (Below.heap_alloc _ _ _ (by omega))
      have hz7 := hg7.size
      have hI7 : ManyI r g F t w (j + 1) v7 w7 := by
        refine ⟨by rw [HI.out.2]; exact hr7, ?_, ?_⟩
        · obtain ⟨o5, c5, hr5⟩ := H5.out.1
          exact ⟨o5, c5, hr5.keep (hold r hrl) (hold g hgl) (by simp at hz7; omega)⟩
        · have hkk := HI.out.1.keep.trans H5.out.2
          exact ⟨hg7.os.trans hkk.os, hg7.tape.trans hkk.tape, hg7.output.trans hkk.output, by simp at hz7; omega, fun b hb hn => (hold b hb).trans (hkk.block b hb hn)⟩
      have HI7 := Lib.hid hI7
      clear hr7 hg7 hat hold hI7 hz7
      unfold Halt
      go_wp2
      go_roundg k'
      case rel => exact ⟨v7, j + 1, rfl, by go_simp, by omega, HI7.out⟩
      case measure => omega
    · have hk0 : gk = 0 := by omega
      subst hk0
      have hje : j = F.length := by omega
      subst hje
      have HI := Lib.hid hI
      clear hI hr1
      go_wp2
      go_ret
      refine ⟨_, rfl, ?_, ?_, HI.out.keep⟩
      · have := HI.out.row
        rw [List.take_length] at this
        exact this
      · have := HI.out.rdr
        rw [List.drop_length] at this
        exact this
end Go.Proofs.YtpdbmpbmepkikaaGreatDoor

namespace Go.Proofs.YtpdbmpbmepkikaaGreatDoor
open Go.RowKit
theorem eq302 (a0 a1 a2 a3 b0 b1 b2 b3 : Int) (W : World) : (Op.equalIn 10000 302 (.agg #[.int .u8 a0, .int .u8 a1, .int .u8 a2, .int .u8 a3]) (.agg #[.int .u8 b0, .int .u8 b1, .int .u8 b2, .int .u8 b3])).run Tryz.prog W = .ok (a0 == b0 && (a1 == b1 && (a2 == b2 && a3 == b3))) W := by
  have hk : ∀ d (x y : Int), (Op.equalIn (d + 1) 5 (.int .u8 x) (.int .u8 y)).run Tryz.prog W = .ok (x == y) W := fun d x y => run_equalIn_int (P := Tryz.prog) W d 5 .u8 .u8 x y Tryz.underlying5
  unfold Op.equalIn
  have z5 := Tryz.sizeOf5
  simp [run_underlying Tryz.underlying302, List.range', part, hk, z5]
  by_cases h0 : a0 = b0 <;> by_cases h1 : a1 = b1 <;> by_cases h2 : a2 = b2 <;> by_cases h3 : a3 = b3 <;> simp [h0, h1, h2, h3]
theorem neq302 (a0 a1 a2 a3 b0 b1 b2 b3 : Int) (W : World) : (binOp .neq 302 (.agg #[.int .u8 a0, .int .u8 a1, .int .u8 a2, .int .u8 a3]) (.agg #[.int .u8 b0, .int .u8 b1, .int .u8 b2, .int .u8 b3])).run Tryz.prog W = .ok (.bool (!(a0 == b0 && (a1 == b1 && (a2 == b2 && a3 == b3))))) W := by
  rw [run_neq_struct, eq302]
  rfl
end Go.Proofs.YtpdbmpbmepkikaaGreatDoor

namespace Go.Proofs.YtpdbmpbmepkikaaGreatDoor
open Go.RowKit

theorem arrayAt302 (a : Addr) (c : Nat) (W : World) : (Instr.arrayAt 302 (.slice (some a) 4 c)).run Tryz.prog W = .ok (.pointer (some a)) W := by
  simp [Instr.arrayAt, run_underlying Tryz.underlying302]
theorem splice_all {α : Type} (L cs : List α) (h : cs.length = L.length) : splice L 0 cs = cs := by
  simp [splice, h]
theorem readNum_rest : ∀ (f k acc : Nat) (l : List UInt8), (readNum f k acc l).2.1.length ≤ l.length
  | 0, _, _, _ => Nat.le_refl _
  | _ + 1, _, _, [] => Nat.le_refl _
  | f + 1, k, acc, b :: l => by
    rw [readNum_cons]
    split
    · simp
    · exact Nat.le_trans (readNum_rest f _ _ l) (by simp)
theorem RdrAt.start {W : World} {g : Nat} {l : List UInt8} (h : W.heap[g]? = some (.cells (l.map u8V).toArray 5 (0, 0))) : RdrAt W.heap.size g 0 l.length l false (W.alloc (.cells #[.slice (some ⟨g, 0, none⟩) l.length l.length, .bool false] 230)) := by
  have hg := (Array.getElem?_eq_some_iff.1 h).1
  refine ⟨World.alloc_heap_new _ _, Nat.le_refl _, by simp; omega, by omega, fun j hj => ?_⟩
  rw [Nat.zero_add, Joins.cell_of_block ((Below.heap_alloc _ _ _ hg).trans h) j]
  simp [hj]

set_option maxHeartbeats 2000000 in
theorem load_broken (l : List UInt8) (bg bcap : Nat) (w : World) (hv : RdAt w (.slice (some ⟨bg, 0, none⟩) l.length bcap) l) (hb : brokenB l = true) (hl : l.length ≤ 1099511627776) :
    Calls Tryz.prog 192 #[.slice (some ⟨bg, 0, none⟩) l.length bcap] w fun e w' => ∃ b, e = .returned (.tuple #[.pointer none, .iface 132 (.pointer (some ⟨b, 0, none⟩))]) ∧ w.heap.size ≤ b ∧ w'.heap[b]? = some (.cells #[.int .i64 5, .string ⟨#[]⟩] 137 (0, 0)) ∧ Below w.heap.size w w' := by
  obtain ⟨i5, hi5, h50, h51, h52⟩ := info_parts info5
  obtain ⟨w1, hw1⟩ : ∃ w1, w1 = w.alloc (.cells #[.int .i64 5, .string ⟨#[]⟩] 137) := ⟨_, rfl⟩
  have hz1 : w1.heap.size = w.heap.size + 1 := by rw [hw1]; simp
  have hB1 : Below w.heap.size w w1 := by rw [hw1]; exact (Below.refl _ _).alloc (Nat.le_refl _) _
  have hbx : w1.heap[w.heap.size]? = some (.cells #[.int .i64 5, .string ⟨#[]⟩] 137 (0, 0)) := by rw [hw1]; exact World.alloc_heap_new _ _
  obtain ⟨w2, hmk, hrow, hgr⟩ := run_make_full (P := Tryz.prog) w1 w1.heap.size 79 5 i5 (.int .u8 0) 1 Tryz.underlying79 hi5 h50 h51 .i64 .i64 l.length (by rw [h52]; omega) (by unfold maxLen; omega) (Nat.le_refl _)
  have hnews := hv.news
  have hlt : 0 < l.length → bg < w.heap.size := fun h => by
    obtain ⟨ad, c, he, hc⟩ := hv
    rcases hc with rfl | ⟨g, off, hg, hgl, _⟩
    · simp at h
    · subst hg; injection he with h1; injection h1 with h1; injection h1 with h1; subst h1; exact hgl
  have HW := Lib.hid hw1
  rw [hz1] at hmk
  rw [hw1] at hmk
  have hB2 : Below w.heap.size w w2 := ⟨hgr.os.trans hB1.os, hgr.tape.trans hB1.tape, hgr.output.trans hB1.output, by have := hgr.size; omega, fun b hb => (hgr.block b (by omega) (fun e => by cases e)).trans (hB1.block b hb)⟩
  have hbx2 : w2.heap[w.heap.size]? = some (.cells #[.int .i64 5, .string ⟨#[]⟩] 137 (0, 0)) := (hgr.block _ (by omega) (fun e => by cases e)).trans hbx
  obtain ⟨cur, hcur, hcs⟩ : ∃ cur : List Value, w2.heap[w.heap.size + 1]? = some (.cells cur.toArray 5 (0, 0)) ∧ cur.length = l.length := by
    rcases hrow.2 with ⟨h, _⟩ | ⟨g, cap, cur, hv, _, hg, _, _, hcs, _⟩
    · cases h
    · injection hv with h1 h2 h3
      injection h1 with h1
      injection h1 with h1
      subst h1
      subst h3
      rw [hz1] at hg
      exact ⟨cur.toList, by simpa using hg, by simpa using hcs⟩
  have hsrc : 0 < (l.map u8V).length → ∀ j v, (l.map u8V)[j]? = some v → w2.cell? ((⟨bg, 0, none⟩ : Addr).add j) = some v := fun h j v hjv => by
    have := hnews j v hjv
    rw [Addr.add_lit] at this ⊢
    exact (hB2.cell (p := ⟨bg, 0 + j, none⟩) (hlt (by simpa using h))).trans this
  have HX := Lib.hid (And.intro hbx2 (And.intro hB2 (And.intro hcur (And.intro hcs hsrc))))
  clear hw1 hB1 hbx hrow hgr hnews hv hlt hB2 hbx2 hcur hcs hsrc
  go_enter Tryz.func192, Tryz.ntmps192
  go_wp2_with (with_reducible refine wpList_copy_splice rfl _ _ 79 79 rfl 5 Tryz.underlying79 (by kernel_rfl) (some ⟨w.heap.size + 1, 0, none⟩) (some ⟨bg, 0, none⟩) l.length l.length l.length bcap rfl rfl (w.heap.size + 1) 0 cur 5 HX.out.2.2.1 (l.map u8V) (by simp) (fun h => ⟨rfl, _, rfl, HX.out.2.2.2.2 h⟩) (by simp; have := HX.out.2.2.2.1; omega) (u8V_one _) (w.heap.size + 1) w2 (Below.refl _ _) (Nat.le_refl _) ?_; intro w3 hg3 hb3; have H3 := Lib.hid (And.intro hg3.out hb3); clear hg3 hb3; refine Halt.of ?_)
  unfold Halt
  have hbuf : w3.heap[w.heap.size + 1]? = some (.cells (l.map u8V).toArray 5 (0, 0)) := by
    rw [← splice_all cur (l.map u8V) (by simp; have := HX.out.2.2.2.1; omega)]
    exact H3.out.1
  have hrd := RdrAt.start hbuf
  obtain ⟨w4, hw4⟩ : ∃ w4, w4 = w3.alloc (.cells #[.slice (some ⟨w.heap.size + 1, 0, none⟩) l.length l.length, .bool false] 230) := ⟨_, rfl⟩
  rw [← hw4] at hrd
  have HC := Lib.hid (numberR_any _ _ _ _ l w4 hrd)
  have HW4 := Lib.hid (And.intro hw4 hrd)
  clear hw4 hrd hbuf
  go_wp2_with (rw [← HW4.out.1]; go_at_call 194; go_must (refine HC.out.mono ?_); rintro e w5 ⟨rfl, h5, hk5⟩; have H5 := Lib.hid (And.intro h5 hk5); clear h5 hk5; refine Halt.of ?_)
  unfold Halt
  have hz2 : w.heap.size + 1 < w2.heap.size := (Array.getElem?_eq_some_iff.1 HX.out.2.2.1).1
  have hz3 := H3.out.2.size
  have hz4 : w4.heap.size = w3.heap.size + 1 := by rw [HW4.out.1]; simp
  have hk5 := H5.out.2
  have hold : ∀ b, b < w.heap.size + 1 → w5.heap[b]? = w2.heap[b]? := fun b hb => (hk5.block b (by omega) (by omega)).trans (by rw [HW4.out.1]; exact (Below.heap_alloc _ _ _ (by omega)).trans (H3.out.2.block b hb))
  have hk4 : w4.os = w3.os ∧ w4.tape = w3.tape ∧ w4.output = w3.output := by rw [HW4.out.1]; exact ⟨rfl, rfl, rfl⟩
  have hfin : w5.heap[w.heap.size]? = some (.cells #[.int .i64 5, .string ⟨#[]⟩] 137 (0, 0)) ∧ Below w.heap.size w w5 := by
    refine ⟨(hold _ (by omega)).trans HX.out.1, ⟨?_, ?_, ?_, ?_, fun b hb => (hold b (by omega)).trans (HX.out.2.1.block b hb)⟩⟩
    · exact hk5.os.trans (hk4.1.trans (H3.out.2.os.trans HX.out.2.1.os))
    · exact hk5.tape.trans (hk4.2.1.trans (H3.out.2.tape.trans HX.out.2.1.tape))
    · exact hk5.output.trans (hk4.2.2.trans (H3.out.2.output.trans HX.out.2.1.output))
    · have := hk5.size; have := HX.out.2.1.size; omega
  have HFin := Lib.hid hfin
  have HBuf : Hid (w5.heap[w.heap.size + 1]? = some (.cells (l.map u8V).toArray 5 (0, 0))) := Lib.hid ((hk5.block _ (by omega) (by omega)).trans (by rw [HW4.out.1]; exact (Below.heap_alloc _ _ _ (by omega)).trans (by rw [← splice_all cur (l.map u8V) (by simp; have := HX.out.2.2.2.1; omega)]; exact H3.out.1)))
  clear hfin hold hk4 hk5
  have hrest := readNum_rest 10 0 0 l
  unfold brokenB at hb
  simp only [Bool.or_eq_true, decide_eq_true_eq] at hb
  obtain ⟨n1, hn1⟩ : ∃ n1, n1 = (readNum 10 0 0 l).1 := ⟨_, rfl⟩
  obtain ⟨l1, hl1⟩ : ∃ l1, l1 = (readNum 10 0 0 l).2.1 := ⟨_, rfl⟩
  obtain ⟨bad, hbad⟩ : ∃ bad, bad = (readNum 10 0 0 l).2.2 := ⟨_, rfl⟩
  rw [← hn1, ← hl1] at hb
  rw [← hl1] at hrest
  rw [← hl1, ← hbad] at H5
  rw [← hn1]
  obtain ⟨⟨o5, c5, hr5⟩, -⟩ := H5.out
  have c0 : w5.cell? ⟨w3.heap.size, 0, none⟩ = some (.slice (some ⟨w.heap.size + 1, o5, none⟩) l1.length c5) := Joins.cell_of_block hr5.box 0
  have hcv : IntKind.u64.wrap (l1.length : Int) = (l1.length : Int) := by rw [IntKind.wrap_u64]; omega
  clear hr5 hn1 hl1 hbad HC
  by_cases hA : n1 = l1.length
  · by_cases hB : n1 < 4
    · have hA' : ((n1 : Int) == (l1.length : Int)) = true := by rw [hA]; simp
      have hB' : (n1 : Int) < 4 := by omega
      subst hA
      go_wp2
      refine bodyPost_ret (results_tmp2 rfl _ _ _) rfl ?_
      exact ⟨w.heap.size, rfl, Nat.le_refl _, HFin.out.1, HFin.out.2⟩
    · obtain ⟨m, hm⟩ : ∃ m, l.length = m + 4 := ⟨l.length - 4, by omega⟩
      have hbuf5 : w5.heap[w.heap.size + 1]? = some (.cells (l.map u8V).toArray 5 (0, 0)) := HBuf.out
      have hrd5 : RdAt w5 (.slice (some ⟨w.heap.size + 1, 0, none⟩) m (m + 4)) (l.take m) := by
        refine ⟨_, m + 4, by rw [show (l.take m).length = m by rw [List.length_take]; omega], .inr ⟨_, 0, rfl, (Array.getElem?_eq_some_iff.1 hbuf5).1, fun j hj => ?_⟩⟩
        rw [Nat.zero_add, Joins.cell_of_block hbuf5 j]
        rw [List.length_take] at hj
        simp [show j < l.length by omega]
      have HC9 := Lib.hid (checkS_any (l.take m) _ w5 hrd5 (by rw [List.length_take]; omega))
      have hA' : ((n1 : Int) == (l1.length : Int)) = true := by rw [hA]; simp
      have hB' : ¬ (n1 : Int) < 4 := by omega
      have hws : IntKind.i64.wrap ((l.length : Int) - 4) = (m : Int) := by rw [IntKind.wrap_i64]; omega
      have hml : (m : Int) ≤ (l.length : Int) := by omega
      subst hA
      clear hbuf5 hrd5
      have hsumN := crcL_lt (l.take m)
      obtain ⟨k, hk⟩ : ∃ k, k = crcL (l.take m) := ⟨_, rfl⟩
      rw [← hk] at HC9 hsumN
      obtain ⟨b0, hb0, e0⟩ : ∃ b0 : Nat, IntKind.u8.wrap ((k : Int) / 16777216) = (b0 : Int) ∧ b0 = k / 16777216 % 256 := ⟨_, by rw [IntKind.wrap_u8]; omega, rfl⟩
      obtain ⟨b1, hb1, e1⟩ : ∃ b1 : Nat, IntKind.u8.wrap ((k : Int) / 65536) = (b1 : Int) ∧ b1 = k / 65536 % 256 := ⟨_, by rw [IntKind.wrap_u8]; omega, rfl⟩
      obtain ⟨b2, hb2, e2⟩ : ∃ b2 : Nat, IntKind.u8.wrap ((k : Int) / 256) = (b2 : Int) ∧ b2 = k / 256 % 256 := ⟨_, by rw [IntKind.wrap_u8]; omega, rfl⟩
      obtain ⟨b3, hb3, e3⟩ : ∃ b3 : Nat, IntKind.u8.wrap (k : Int) = (b3 : Int) ∧ b3 = k % 256 := ⟨_, by rw [IntKind.wrap_u8]; omega, rfl⟩
      have HK := Lib.hid (And.intro hk (And.intro e0 (And.intro e1 (And.intro e2 e3))))
      clear hk e0 e1 e2 e3
      go_wp2_with (go_at_call 209; go_must (refine HC9.out.mono ?_); rintro e w6 ⟨rfl, hw6⟩; have H6 := Lib.hid hw6; clear hw6; refine Halt.of ?_)
      unfold Halt
      have hcl : ∀ i (hi : i < 4), w6.cell? ⟨w.heap.size + 1, m + i, none⟩ = some (u8V (l[m + i]'(by omega))) := fun i hi => by
        rw [H6.out, Joins.cell_of_block HBuf.out (m + i)]
        simp [show m + i < l.length by omega]
      have y0 := hcl 0 (by omega)
      have y1 := hcl 1 (by omega)
      have y2 := hcl 2 (by omega)
      have y3 := hcl 3 (by omega)
      rw [Nat.add_zero] at y0
      have hdrop : l.drop m = [l[m]'(by omega), l[m + 1]'(by omega), l[m + 2]'(by omega), l[m + 3]'(by omega)] := by
        rw [List.drop_eq_getElem_cons (by omega), List.drop_eq_getElem_cons (by omega), List.drop_eq_getElem_cons (by omega), List.drop_eq_getElem_cons (by omega), List.drop_of_length_le (by omega)]
      obtain ⟨x0, hx0⟩ : ∃ x, x = l[m]'(by omega) := ⟨_, rfl⟩
      obtain ⟨x1, hx1⟩ : ∃ x, x = l[m + 1]'(by omega) := ⟨_, rfl⟩
      obtain ⟨x2, hx2⟩ : ∃ x, x = l[m + 2]'(by omega) := ⟨_, rfl⟩
      obtain ⟨x3, hx3⟩ : ∃ x, x = l[m + 3]'(by omega) := ⟨_, rfl⟩
      rw [← hx0, ← hx1, ← hx2, ← hx3] at hdrop
      have z0 : w6.cell? ⟨w.heap.size + 1, m, none⟩ = some (.int .u8 (x0.toNat : Int)) := by rw [hx0]; exact y0
      have z1 : w6.cell? ⟨w.heap.size + 1, m + 1, none⟩ = some (.int .u8 (x1.toNat : Int)) := by rw [hx1]; exact y1
      have z2 : w6.cell? ⟨w.heap.size + 1, m + 2, none⟩ = some (.int .u8 (x2.toNat : Int)) := by rw [hx2]; exact y2
      have z3 : w6.cell? ⟨w.heap.size + 1, m + 3, none⟩ = some (.int .u8 (x3.toNat : Int)) := by rw [hx3]; exact y3
      have hneq : ∀ W, (binOp .neq 302 (.agg #[.int .u8 (x0.toNat : Int), .int .u8 (x1.toNat : Int), .int .u8 (x2.toNat : Int), .int .u8 (x3.toNat : Int)]) (.agg #[.int .u8 (b0 : Int), .int .u8 (b1 : Int), .int .u8 (b2 : Int), .int .u8 (b3 : Int)])).run Tryz.prog W = .ok (.bool true) W := fun W => by
        rw [neq302]
        cases hq : ((x0.toNat : Int) == (b0 : Int) && ((x1.toNat : Int) == (b1 : Int) && ((x2.toNat : Int) == (b2 : Int) && (x3.toNat : Int) == (b3 : Int)))) with
        | false => rfl
        | true =>
          exfalso
          simp only [Bool.and_eq_true, beq_iff_eq] at hq
          obtain ⟨q0, q1, q2, q3⟩ := hq
          obtain ⟨hk, e0, e1, e2, e3⟩ := HK.out
          have hbe : be32 (crcL (l.take m)) ≠ l.drop m := by
            rcases hb with (h | h) | h
            · exact absurd rfl h
            · exact absurd h hB
            · rw [show l.length - 4 = m by omega] at h; exact h
          refine hbe ?_
          rw [← hk, hdrop]
          have f : ∀ (y : UInt8) (n : Nat), y.toNat = n % 256 → UInt8.ofNat n = y := fun y n h => by
            rw [← UInt8.toNat_inj, UInt8.toNat_ofNat']; omega
          unfold be32
          rw [f x0 _ (by omega), f x1 _ (by omega), f x2 _ (by omega), f x3 _ (by omega)]
      have harr := arrayAt302
      have HD := Lib.hid hdrop
      clear hdrop hx0 hx1 hx2 hx3 y0 y1 y2 y3 hcl
      go_wp2
      refine bodyPost_ret (results_tmp2 rfl _ _ _) rfl ?_
      refine ⟨w.heap.size, rfl, Nat.le_refl _, ?_, ?_⟩
      · rw [H6.out]; exact HFin.out.1
      · rw [H6.out]; exact HFin.out.2
  · have hA' : ¬ (n1 : Int) = (l1.length : Int) := by omega
    go_wp2
    refine bodyPost_ret (results_tmp2 rfl _ _ _) rfl ?_
    exact ⟨w.heap.size, rfl, Nat.le_refl _, HFin.out.1, HFin.out.2⟩
end Go.Proofs.YtpdbmpbmepkikaaGreatDoor
