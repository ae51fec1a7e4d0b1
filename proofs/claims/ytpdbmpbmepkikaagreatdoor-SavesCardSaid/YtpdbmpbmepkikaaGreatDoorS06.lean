/- RefE: The contract of the document's Fields. Condition: at most 1000000 registers.
   RefF: Contracts of the document's Names, Put, Delete. Conditions: at most 1000000 registers; short texts.
   BookR: The contract of a replica's Names. -/
import Derived.Test.YtpdbmpbmepkikaaGreatDoorS05
set_option linter.all false
set_option linter.unusedSimpArgs false
set_option linter.unusedVariables false

namespace Go.Proofs.YtpdbmpbmepkikaaGreatDoor
open Go.RowKit

theorem goneD_findI (l : List Reg) (n : ByteArray) : (goneD l n = none ∧ findI l ⟨n, ⟨#[]⟩, 0, 0, ⟨#[]⟩⟩ = -1) ∨ ∃ d, ∃ hd : d < l.length, goneD l n = some l[d] ∧ findI l ⟨n, ⟨#[]⟩, 0, 0, ⟨#[]⟩⟩ = d := by
  unfold goneD findI
  cases h : l.findIdx? (fun y => sameKey y ⟨n, ⟨#[]⟩, 0, 0, ⟨#[]⟩⟩) with
  | none =>
    left
    refine ⟨?_, rfl⟩
    rw [List.find?_eq_none]
    intro y hy
    have := List.findIdx?_eq_none_iff.1 h y hy
    simp [this]
  | some d =>
    right
    obtain ⟨hd, h1, h2⟩ := List.findIdx?_eq_some_iff_getElem.1 h
    refine ⟨d, hd, ?_, rfl⟩
    rw [List.find?_eq_some_iff_getElem]
    exact ⟨h1, d, hd, rfl, fun j hj => by simpa using h2 j hj⟩

theorem newsAt {W : World} {b : Nat} (hb : b = W.heap.size) (vals : List Value) (T : Nat) {o : Obj} (ho : o = .cells vals.toArray T (0, 0)) : ∀ j u, vals[j]? = some u → (W.alloc o).cell? ((⟨b, 0, none⟩ : Addr).add j) = some u := by
  subst hb; exact news5 W vals T ho
theorem filter_take {p : Reg → Bool} {l : List Reg} {j : Nat} (hj : j < l.length) : (l.take (j + 1)).filter p = if p l[j] then (l.take j).filter p ++ [l[j]] else (l.take j).filter p := by
  rw [List.take_add_one, List.filter_append]
  simp only [List.getElem?_eq_getElem hj, Option.toList_some]
  split
  · rename_i h; rw [List.filter_cons_of_pos h]; simp
  · rename_i h; rw [List.filter_cons_of_neg h]; simp

set_option maxHeartbeats 4000000 in
theorem fieldsD_any (l : List Reg) (lv : Value) (n : ByteArray) (w : World) (hl : ListAt w lv l) (hz : l.length ≤ 1000000) :
    Calls Tryz.prog 77 #[lv, .string n] w fun e w' => ∃ v', e = .returned v' ∧ w'.ownsRow w.heap.size 154 5 v' (fieldsD l n).length (rows (fieldsD l n)) ∧ Below w.heap.size w w' := by
  obtain ⟨i0, hi, hz0, hz1, hz2⟩ := info_parts info154
  have hfind := findD_any l lv n ⟨#[]⟩ ⟨#[]⟩ 0 0 w hl hz
  have HC := Lib.hid hfind
  have hg0 := goneD_findI l n
  obtain ⟨g0, hg0e⟩ : ∃ g0, g0 = goneD l n := ⟨_, rfl⟩
  obtain ⟨di, hdi⟩ : ∃ di, di = findI l ⟨n, ⟨#[]⟩, 0, 0, ⟨#[]⟩⟩ := ⟨_, rfl⟩
  rw [← hg0e, ← hdi] at hg0
  have HG := Lib.hid (And.intro hg0e hdi)
  obtain ⟨ad0, cap0, hlv⟩ : ∃ ad0 cap0, lv = .slice ad0 l.length cap0 := by
    rcases hl.cases with ⟨rfl, rfl⟩ | ⟨g, cap, rfl, _⟩ <;> exact ⟨_, _, rfl⟩
  have HL0 := Lib.hid hl
  clear hfind hl hg0e hdi
  subst hlv
  go_enter Tryz.func77, Tryz.ntmps77
  go_wp2_with (go_at_call 137; refine HC.out.mono ?_; rintro e w1 ⟨rfl, hb1⟩; refine Halt.of ?_)
  rw [← HG.out.2]
  have HL : Hid (ListAt w1 (.slice ad0 l.length cap0) l) := Lib.hid (HL0.out.below hb1 (Nat.le_refl _))
  have HB1 := Lib.hid hb1
  have hw1s := hb1.size
  have hg0' := Lib.hid hg0
  clear HC HL0 hb1 hg0
  unfold Halt
  go_wp2
  go_loopg [6, 7] l.length (fun k out i wr => ∃ (ov : Value) (j : Nat) (o : List Reg), ov = out ∧ i = .int .i64 j ∧ k + j = l.length ∧ o = (l.take j).filter (seenD g0 n) ∧ OutR w1 ov o wr)
  case atStart => exact ⟨_, 0, [], rfl, rfl, by omega, by simp, OutAt.new _ _ _⟩
  case round =>
    obtain ⟨out, j, o, rfl, rfl, hk, ho, hout⟩ := hrel
    by_cases hj : j < l.length
    · obtain ⟨g, cap, hv, hg, y0, y1, y2, y3, y4⟩ := HL.out.cell hj
      obtain ⟨y, hy⟩ : ∃ y : Reg, y = l[j] := ⟨_, rfl⟩
      rw [← hy] at y0 y1 y2 y3 y4
      obtain ⟨rfl, rfl⟩ : ad0 = some ⟨g, 0, none⟩ ∧ cap = cap0 := by injection hv with h1 h2 h3; exact ⟨h1, h3.symm⟩
      obtain ⟨n', f', c', r', v'⟩ := y
      simp only at y0 y1 y2 y3 y4
      have hstep := filter_take (p := seenD g0 n) hj
      rw [← ho, ← hy] at hstep
      have hlo : o.length ≤ j := by rw [ho]; exact Nat.le_trans (List.length_filter_le _ _) (by rw [List.length_take]; exact Nat.min_le_left _ _)
      have z0 : wr.cell? ⟨g, j * 5, none⟩ = some (.string n') := (hout.below.cell (p := ⟨_, _, none⟩) hg).trans y0
      have z1 : wr.cell? ⟨g, j * 5 + 1, none⟩ = some (.string f') := (hout.below.cell (p := ⟨_, _, none⟩) hg).trans y1
      have z2 : wr.cell? ⟨g, j * 5 + 2, none⟩ = some (.int .i64 c') := (hout.below.cell (p := ⟨_, _, none⟩) hg).trans y2
      have z3 : wr.cell? ⟨g, j * 5 + 3, none⟩ = some (.int .i64 r') := (hout.below.cell (p := ⟨_, _, none⟩) hg).trans y3
      have z4 : wr.cell? ⟨g, j * 5 + 4, none⟩ = some (.string v') := (hout.below.cell (p := ⟨_, _, none⟩) hg).trans y4
      have hgr : g < wr.heap.size := Nat.lt_of_lt_of_le hg hout.below.size
      obtain ⟨so, hso⟩ : ∃ so, so = rows o := ⟨_, rfl⟩
      obtain ⟨no, hno⟩ : ∃ no, no = o.length := ⟨_, rfl⟩
      obtain ⟨pv, hpv⟩ : ∃ pv, pv = seenD g0 n ⟨n', f', c', r', v'⟩ := ⟨_, rfl⟩
      have hp : ∀ b, pv = b → seenD g0 n ⟨n', f', c', r', v'⟩ = b := fun b h => hpv ▸ h
      rw [← hno] at hlo
      have HS : Hid (so = rows o ∧ no = o.length ∧ (l.take (j + 1)).filter (seenD g0 n) = (if seenD g0 n ⟨n', f', c', r', v'⟩ then o ++ [⟨n', f', c', r', v'⟩] else o) ∧ ∀ {b}, pv = b → seenD g0 n ⟨n', f', c', r', v'⟩ = b) := Lib.hid ⟨hso, hno, hstep, fun {b} h => hpv ▸ h⟩
      have ho5 : OutAt w1 154 5 out no so wr := by rw [hno, hso]; exact hout
      have HPV := Lib.hid hpv
      have HY := Lib.hid hy
      have HV := Lib.hid hv
      have HLB := Lib.hid hout.below
      clear hso hno hstep hpv hp hy hv ho hout y0 y1 y2 y3 y4
      by_cases hn : n' = n
      · by_cases hf : f' = ⟨#[]⟩
        · have hpf : pv = false := by rw [HPV.out]; simp [seenD, hn, hf]
          have hq1 : (n'.toList == n.toList) = true := by rw [toList_beq]; simpa using hn
          have hq2 : (f'.toList == (⟨#[]⟩ : ByteArray).toList) = true := by rw [toList_beq]; simpa using hf
          subst hn
          subst hf
          clear hq1 hq2
          go_wp2
          go_roundg (gk - 1)
          case rel =>
            obtain ⟨hso, hno, hst, hp⟩ := HS.out
            refine ⟨_, j + 1, o, rfl, by go_simp, by omega, ?_, ?_⟩
            · rw [hst, hp hpf, if_neg (by simp)]
            · unfold OutR
              rw [← hso, ← hno]
              exact ho5
          case measure => omega
        · have hq2 : ¬ f'.toList = [] := fun e => hf (bl_inj (by rw [← toList_bl, e]))
          have hq3 : f'.toList.isEmpty = false := by simpa using hq2
          subst hn
          rcases hg0'.out with ⟨hg1, hd1⟩ | ⟨d, hd, hg1, hd1⟩
          · have hpt : pv = true := by rw [HPV.out, hg1]; simp [seenD, hf]
            have HPT := Lib.hid hpt
            have HD1 := Lib.hid hg1
            clear hpt hg1 hf
            subst hd1
            go_wp2_with (at_builtin; go_must (refine wpList_append_own_at _ rfl _ _ 145 rfl w1.heap.size 154 i0 (.agg #[.string ⟨#[]⟩, .string ⟨#[]⟩, .int .i64 0, .int .i64 0, .string ⟨#[]⟩]) 5 64 Tryz.underlying145 hi hz0 hz1 hz2 rfl (by decide) out no so rfl (ho5.alloc _).row ⟨wr.heap.size, 0, none⟩ 1 1 [.string n', .string f', .int .i64 c', .int .i64 r', .string v'] rfl rfl (newsAt (by first | rfl | simp) _ _ rfl) (by simp [Value.oneCell']) (by unfold maxLen; omega) (by omega) (by have := ho5.below.size; simp; omega) ?_); intro v5 w5 hr5 hg5 _ _; refine Halt.of ?_)
            unfold Halt
            go_wp2
            go_roundg (gk - 1)
            case rel =>
              obtain ⟨hso, hno, hst, hp⟩ := HS.out
              have e1 : (o ++ [(⟨n', f', c', r', v'⟩ : Reg)]).length = no + 1 := by rw [hno]; simp
              have e2 : rows (o ++ [(⟨n', f', c', r', v'⟩ : Reg)]) = so ++ [.string n', .string f', .int .i64 c', .int .i64 r', .string v'] := by rw [hso, rows_append]; rfl
              refine ⟨_, j + 1, o ++ [⟨n', f', c', r', v'⟩], rfl, by go_simp, by omega, ?_, ?_⟩
              · rw [hst, hp HPT.out, if_pos rfl]
              · unfold OutR
                rw [e1, e2]
                exact (ho5.alloc _).append hg5 hr5
            case measure => omega
          · obtain ⟨g2, cap2, hv2, hg2, u0, u1, u2, u3, u4⟩ := HL.out.cell hd
            obtain rfl : g = g2 := by simp only [Value.slice.injEq, Option.some.injEq, Addr.mk.injEq] at hv2; exact hv2.1.1
            obtain ⟨yd, hyd⟩ : ∃ yd, yd = l[d] := ⟨_, rfl⟩
            rw [← hyd] at u0 u1 u2 u3 u4 hg1
            obtain ⟨dn, df, dc, dr, dv⟩ := yd
            simp only at u0 u1 u2 u3 u4
            have t0 : wr.cell? ⟨g, d * 5, none⟩ = some (.string dn) := (HLB.out.cell (p := ⟨_, _, none⟩) hg).trans u0
            have t1 : wr.cell? ⟨g, d * 5 + 1, none⟩ = some (.string df) := (HLB.out.cell (p := ⟨_, _, none⟩) hg).trans u1
            have t2 : wr.cell? ⟨g, d * 5 + 2, none⟩ = some (.int .i64 dc) := (HLB.out.cell (p := ⟨_, _, none⟩) hg).trans u2
            have t3 : wr.cell? ⟨g, d * 5 + 3, none⟩ = some (.int .i64 dr) := (HLB.out.cell (p := ⟨_, _, none⟩) hg).trans u3
            have t4 : wr.cell? ⟨g, d * 5 + 4, none⟩ = some (.string dv) := (HLB.out.cell (p := ⟨_, _, none⟩) hg).trans u4
            have hpt : pv = laterZ c' r' dc dr := by rw [HPV.out, hg1]; simp [seenD, hf]
            have hdz : (0 : Int) ≤ (d : Int) := by omega
            have hdl : (d : Int) < (l.length : Int) := by omega
            have HPT := Lib.hid hpt
            have HD1 := Lib.hid hg1
            clear hpt hg1 hf u0 u1 u2 u3 u4 hyd hv2
            subst hd1
            by_cases hc1 : dc < c'
            · have hpt2 : Hid (pv = true) := Lib.hid (by rw [HPT.out]; simp [laterZ, hc1])
              go_wp2_with (at_builtin; go_must (refine wpList_append_own_at _ rfl _ _ 145 rfl w1.heap.size 154 i0 (.agg #[.string ⟨#[]⟩, .string ⟨#[]⟩, .int .i64 0, .int .i64 0, .string ⟨#[]⟩]) 5 64 Tryz.underlying145 hi hz0 hz1 hz2 rfl (by decide) out no so rfl (((ho5.alloc (.cells #[.string n', .string f', .int .i64 c', .int .i64 r', .string v'] 154)).alloc (.cells #[.string dn, .string df, .int .i64 dc, .int .i64 dr, .string dv] 154)).alloc _).row ⟨wr.heap.size + 1 + 1, 0, none⟩ 1 1 [.string n', .string f', .int .i64 c', .int .i64 r', .string v'] rfl rfl (newsAt (by first | rfl | simp) _ _ rfl) (by simp [Value.oneCell']) (by unfold maxLen; omega) (by omega) (by have := ho5.below.size; simp; omega) ?_); intro v5 w5 hr5 hg5 _ _; refine Halt.of ?_)
              unfold Halt
              go_wp2
              go_roundg (gk - 1)
              case rel =>
                obtain ⟨hso, hno, hst, hp⟩ := HS.out
                have e1 : (o ++ [(⟨n', f', c', r', v'⟩ : Reg)]).length = no + 1 := by rw [hno]; simp
                have e2 : rows (o ++ [(⟨n', f', c', r', v'⟩ : Reg)]) = so ++ [.string n', .string f', .int .i64 c', .int .i64 r', .string v'] := by rw [hso, rows_append]; rfl
                refine ⟨_, j + 1, o ++ [⟨n', f', c', r', v'⟩], rfl, by go_simp, by omega, ?_, ?_⟩
                · rw [hst, hp hpt2.out, if_pos rfl]
                · unfold OutR
                  rw [e1, e2]
                  exact (((ho5.alloc (.cells #[.string n', .string f', .int .i64 c', .int .i64 r', .string v'] 154)).alloc (.cells #[.string dn, .string df, .int .i64 dc, .int .i64 dr, .string dv] 154)).alloc _).append hg5 hr5
              case measure => omega
            · by_cases hc2 : c' = dc
              · by_cases hc3 : dr < r'
                · have hpt2 : Hid (pv = true) := Lib.hid (by rw [HPT.out]; simp [laterZ, hc2, hc3])
                  subst hc2
                  go_wp2_with (at_builtin; go_must (refine wpList_append_own_at _ rfl _ _ 145 rfl w1.heap.size 154 i0 (.agg #[.string ⟨#[]⟩, .string ⟨#[]⟩, .int .i64 0, .int .i64 0, .string ⟨#[]⟩]) 5 64 Tryz.underlying145 hi hz0 hz1 hz2 rfl (by decide) out no so rfl (((ho5.alloc (.cells #[.string n', .string f', .int .i64 c', .int .i64 r', .string v'] 154)).alloc (.cells #[.string dn, .string df, .int .i64 c', .int .i64 dr, .string dv] 154)).alloc _).row ⟨wr.heap.size + 1 + 1, 0, none⟩ 1 1 [.string n', .string f', .int .i64 c', .int .i64 r', .string v'] rfl rfl (newsAt (by first | rfl | simp) _ _ rfl) (by simp [Value.oneCell']) (by unfold maxLen; omega) (by omega) (by have := ho5.below.size; simp; omega) ?_); intro v5 w5 hr5 hg5 _ _; refine Halt.of ?_)
                  unfold Halt
                  go_wp2
                  go_roundg (gk - 1)
                  case rel =>
                    obtain ⟨hso, hno, hst, hp⟩ := HS.out
                    have e1 : (o ++ [(⟨n', f', c', r', v'⟩ : Reg)]).length = no + 1 := by rw [hno]; simp
                    have e2 : rows (o ++ [(⟨n', f', c', r', v'⟩ : Reg)]) = so ++ [.string n', .string f', .int .i64 c', .int .i64 r', .string v'] := by rw [hso, rows_append]; rfl
                    refine ⟨_, j + 1, o ++ [⟨n', f', c', r', v'⟩], rfl, by go_simp, by omega, ?_, ?_⟩
                    · rw [hst, hp hpt2.out, if_pos rfl]
                    · unfold OutR
                      rw [e1, e2]
                      exact (((ho5.alloc (.cells #[.string n', .string f', .int .i64 c', .int .i64 r', .string v'] 154)).alloc (.cells #[.string dn, .string df, .int .i64 c', .int .i64 dr, .string dv] 154)).alloc _).append hg5 hr5
                  case measure => omega
                · have hpt2 : Hid (pv = false) := Lib.hid (by rw [HPT.out]; simp [laterZ, hc2, hc3])
                  subst hc2
                  go_wp2
                  go_roundg (gk - 1)
                  case rel =>
                    obtain ⟨hso, hno, hst, hp⟩ := HS.out
                    refine ⟨_, j + 1, o, rfl, by go_simp, by omega, ?_, ?_⟩
                    · rw [hst, hp hpt2.out, if_neg (by simp)]
                    · unfold OutR
                      rw [← hso, ← hno]
                      exact ((ho5.alloc (.cells #[.string n', .string f', .int .i64 c', .int .i64 r', .string v'] 154)).alloc (.cells #[.string dn, .string df, .int .i64 c', .int .i64 dr, .string dv] 154))
                  case measure => omega
              · have hpt2 : Hid (pv = false) := Lib.hid (by rw [HPT.out]; simp [laterZ, hc1]; omega)
                go_wp2
                go_roundg (gk - 1)
                case rel =>
                  obtain ⟨hso, hno, hst, hp⟩ := HS.out
                  refine ⟨_, j + 1, o, rfl, by go_simp, by omega, ?_, ?_⟩
                  · rw [hst, hp hpt2.out, if_neg (by simp)]
                  · unfold OutR
                    rw [← hso, ← hno]
                    exact ((ho5.alloc (.cells #[.string n', .string f', .int .i64 c', .int .i64 r', .string v'] 154)).alloc (.cells #[.string dn, .string df, .int .i64 dc, .int .i64 dr, .string dv] 154))
                case measure => omega
      · have hpf : pv = false := by rw [HPV.out]; simp [seenD, hn]
        have hq1 : (n'.toList == n.toList) = false := by rw [toList_beq]; simpa using hn
        have HPF := Lib.hid hpf
        clear hpf
        go_wp2
        go_roundg (gk - 1)
        case rel =>
          obtain ⟨hso, hno, hst, hp⟩ := HS.out
          refine ⟨_, j + 1, o, rfl, by go_simp, by omega, ?_, ?_⟩
          · rw [hst, hp HPF.out, if_neg (by simp)]
          · unfold OutR
            rw [← hso, ← hno]
            exact ho5
        case measure => omega
    · have hje : j = l.length := by omega
      subst hje
      rw [List.take_length] at ho
      have HF := Lib.hid (And.intro ho hout)
      clear ho hout
      go_wp2
      go_ret
      obtain ⟨ho, hout⟩ := HF.out
      have hfo : fieldsD l n = o := by rw [ho, HG.out.1]; rfl
      refine ⟨_, rfl, ?_, HB1.out.trans (hout.below.mono hw1s)⟩
      rw [hfo]
      exact ownsRow_base hout.row fun g hg => by have := (hout.row.lt g hg).1; omega
end Go.Proofs.YtpdbmpbmepkikaaGreatDoor

namespace Go.Proofs.YtpdbmpbmepkikaaGreatDoor
open Go.RowKit

abbrev OutS (w1 : World) (v : Value) (l : List ByteArray) (W : World) : Prop := OutAt w1 9 1 v l.length (l.map .string) W
theorem OutAt.of_drew {w1 W : World} {e size n : Nat} {v : Value} {xs : List Value} (h : OutAt w1 e size v n xs W) : OutAt w1 e size v n xs W.drew := OutAt_drew.2 h

set_option maxHeartbeats 4000000 in
theorem namesD_any (l : List Reg) (lv : Value) (pfx : ByteArray) (w : World) (hl : ListAt w lv l) (hz : l.length ≤ 1000000) :
    Calls Tryz.prog 79 #[lv, .string pfx] w fun e w' => ∃ v', e = .returned v' ∧ w'.ownsRow w.heap.size 9 1 v' (namesD l pfx).length ((namesD l pfx).map .string) ∧ Below w.heap.size w w' := by
  obtain ⟨i0, hi, hz0, hz1, hz2⟩ := info_parts info9
  obtain ⟨ad0, cap0, hlv⟩ : ∃ ad0 cap0, lv = .slice ad0 l.length cap0 := by
    rcases hl.cases with ⟨rfl, rfl⟩ | ⟨g, cap, rfl, _⟩ <;> exact ⟨_, _, rfl⟩
  have HL := Lib.hid hl
  clear hl
  subst hlv
  go_enter Tryz.func79, Tryz.ntmps79
  go_wp2
  go_loopg [5, 6] l.length (fun k out i wr => ∃ (ov : Value) (j : Nat) (o : List ByteArray), ov = out ∧ i = .int .i64 j ∧ k + j = l.length ∧ o = (l.take j).foldl (stepN l pfx) [] ∧ OutS w ov o wr ∧ o.length ≤ j)
  case atStart => exact ⟨_, 0, [], rfl, rfl, by omega, by simp, OutAt.new _ _ _, Nat.le_refl _⟩
  case round =>
    obtain ⟨out, j, o, rfl, rfl, hk, ho, hout, hlo⟩ := hrel
    by_cases hj : j < l.length
    · obtain ⟨g, cap, hv, hg, y0, y1, y2, y3, y4⟩ := HL.out.cell hj
      obtain ⟨y, hy⟩ : ∃ y : Reg, y = l[j] := ⟨_, rfl⟩
      rw [← hy] at y0 y1 y2 y3 y4
      obtain ⟨rfl, rfl⟩ : ad0 = some ⟨g, 0, none⟩ ∧ cap = cap0 := by injection hv with h1 h2 h3; exact ⟨h1, h3.symm⟩
      obtain ⟨n', f', c', r', v'⟩ := y
      simp only at y0
      have hstep : (l.take (j + 1)).foldl (stepN l pfx) [] = stepN l pfx o ⟨n', f', c', r', v'⟩ := by
        rw [List.take_add_one, List.foldl_append, ← ho, hy]; simp [hj]
      have z0 : ∀ W, Below w.heap.size w W → W.cell? ⟨g, j * 5, none⟩ = some (.string n') := fun W h => (h.cell (p := ⟨_, _, none⟩) hg).trans y0
      have z1 := z0 wr hout.below
      obtain ⟨so, hso⟩ : ∃ so : List Value, so = o.map .string := ⟨_, rfl⟩
      obtain ⟨no, hno⟩ : ∃ no, no = o.length := ⟨_, rfl⟩
      have HS : Hid (so = o.map .string ∧ no = o.length ∧ (l.take (j + 1)).foldl (stepN l pfx) [] = stepN l pfx o ⟨n', f', c', r', v'⟩) := Lib.hid ⟨hso, hno, hstep⟩
      have HO0 : Hid (OutAt w 9 1 out no so wr) := Lib.hid (by rw [hno, hso]; exact hout)
      rw [← hno] at hlo
      have HZ := Lib.hid z0
      have hfl := fieldsD_any l (.slice (some ⟨g, 0, none⟩) l.length cap) n' wr (HL.out.below HO0.out.below (Nat.le_refl _)) hz
      have hbg := beginsD_any n' pfx wr
      obtain ⟨fl, hfle⟩ : ∃ fl, fl = fieldsD l n' := ⟨_, rfl⟩
      obtain ⟨bg, hbge⟩ : ∃ bg, bg = (bl pfx).isPrefixOf (bl n') := ⟨_, rfl⟩
      rw [← hfle] at hfl
      rw [← hbge] at hbg
      have HFl := Lib.hid hfl
      have HBg := Lib.hid hbg
      have HE := Lib.hid (And.intro hfle hbge)
      clear hso hno hstep hy hv hout ho y0 y1 y2 y3 y4 hfl hbg hfle hbge z0
      go_wp2_with (first
        | (go_at_call 138; refine HBg.out.mono ?_; rintro e w2 ⟨rfl, hw2⟩; subst hw2)
        | (go_at_call 77; refine HFl.out.mono ?_; rintro e w2 ⟨fv, rfl, hfo, hb2⟩; refine Halt.of ?_))
      have HO : Hid (OutAt w 9 1 out no so w2) := Lib.hid (HO0.out.later hb2)
      have z2 := HZ.out w2 HO.out.below
      clear HFl HBg HO0 z1
      obtain ⟨fad, fcap, hfv⟩ : ∃ fad fcap, fv = .slice fad fl.length fcap := by
        rcases hfo.2 with ⟨rfl, h0⟩ | ⟨q, cap, cur, rfl, _⟩
        · exact ⟨none, 0, by rw [h0]⟩
        · exact ⟨_, _, rfl⟩
      subst hfv
      obtain ⟨nf, hnf⟩ : ∃ nf, nf = fl.length := ⟨_, rfl⟩
      rw [← hnf]
      have HNF := Lib.hid hnf
      clear hfo hb2 hnf
      unfold Halt
      cases bg
      · go_wp2
        refine wp_region_noPanic ?_
        refine wp_region_held_drew (S := fun W => W.cell? ⟨g, j * 5, none⟩ = some (.string n')) (by kernel_rfl) ?hSb (fun hHeld => ?_)
        case hSb => (try dsimp only); (first | assumption | go_keep)
        refine wpAnyH_take (i := 0) (v := ?vb0) rfl (by kernel_rfl) (by kernel_rfl) (by kernel_rfl) (fun _ _ _ h => h) (Or.inl ⟨by rfl, ?hyb0⟩) hHeld ?restb0; (case hyb0 => (intro w hSw; (try dsimp only at hSw); go_simp; (try with_reducible rfl)))
        simp only [Act.put, List.getElem_toArray, List.getElem_cons_zero, List.getElem_cons_succ, List.setIfInBounds_toArray, List.set_cons_zero, List.set_cons_succ]
        refine wpAnyH_take (i := 1) (v := ?vb1) rfl (by kernel_rfl) (by kernel_rfl) (by kernel_rfl) (fun _ _ _ h => h) (Or.inl ⟨by rfl, ?hyb1⟩) hHeld ?restb1; (case hyb1 => (intro w hSw; (try dsimp only at hSw); go_simp; (try with_reducible rfl)))
        simp only [Act.put, List.getElem_toArray, List.getElem_cons_zero, List.getElem_cons_succ, List.setIfInBounds_toArray, List.set_cons_zero, List.set_cons_succ]
        refine wpAnyH_take (i := 2) (v := undef) rfl (by kernel_rfl) (by kernel_rfl) (by kernel_rfl) (fun _ _ _ h => h) (Or.inr ⟨by rfl, rfl⟩) hHeld ?_
        simp only [Act.put, List.getElem_toArray, List.getElem_cons_zero, List.getElem_cons_succ, List.setIfInBounds_toArray, List.set_cons_zero, List.set_cons_succ]
        refine wpAnyH_take (i := 3) (v := undef) rfl (by kernel_rfl) (by kernel_rfl) (by kernel_rfl) (fun _ _ _ h => h) (Or.inr ⟨by rfl, rfl⟩) hHeld ?_
        simp only [Act.put, List.getElem_toArray, List.getElem_cons_zero, List.getElem_cons_succ, List.setIfInBounds_toArray, List.set_cons_zero, List.set_cons_succ]
        refine wpAnyH_take (i := 4) (v := undef) rfl (by kernel_rfl) (by kernel_rfl) (by kernel_rfl) (fun _ _ _ h => h) (Or.inr ⟨by rfl, rfl⟩) hHeld ?_
        simp only [Act.put, List.getElem_toArray, List.getElem_cons_zero, List.getElem_cons_succ, List.setIfInBounds_toArray, List.set_cons_zero, List.set_cons_succ]
        refine wpAnyH_take (i := 5) (v := ?vb5) rfl (by kernel_rfl) (by kernel_rfl) (by kernel_rfl) (fun _ _ _ h => h) (Or.inl ⟨by rfl, ?hyb5⟩) hHeld ?restb5; (case hyb5 => (intro w hSw; (try dsimp only at hSw); go_simp; (try with_reducible rfl)))
        simp only [Act.put, List.getElem_toArray, List.getElem_cons_zero, List.getElem_cons_succ, List.setIfInBounds_toArray, List.set_cons_zero, List.set_cons_succ]
        refine wpAnyH_take (i := 6) (v := ?vb6) rfl (by kernel_rfl) (by kernel_rfl) (by kernel_rfl) (fun _ _ _ h => h) (Or.inl ⟨by rfl, ?hyb6⟩) hHeld ?restb6; (case hyb6 => (intro w hSw; (try dsimp only at hSw); go_simp; (try with_reducible rfl)))
        simp only [Act.put, List.getElem_toArray, List.getElem_cons_zero, List.getElem_cons_succ, List.setIfInBounds_toArray, List.set_cons_zero, List.set_cons_succ]
        refine wpAnyH_take (i := 7) (v := undef) rfl (by kernel_rfl) (by kernel_rfl) (by kernel_rfl) (fun _ _ _ h => h) (Or.inr ⟨by rfl, rfl⟩) hHeld ?_
        simp only [Act.put, List.getElem_toArray, List.getElem_cons_zero, List.getElem_cons_succ, List.setIfInBounds_toArray, List.set_cons_zero, List.set_cons_succ]
        refine wpAnyH_take (i := 8) (v := undef) rfl (by kernel_rfl) (by kernel_rfl) (by kernel_rfl) (fun _ _ _ h => h) (Or.inr ⟨by rfl, rfl⟩) hHeld ?_
        simp only [Act.put, List.getElem_toArray, List.getElem_cons_zero, List.getElem_cons_succ, List.setIfInBounds_toArray, List.set_cons_zero, List.set_cons_succ]
        refine wpAnyH_take (i := 9) (v := undef) rfl (by kernel_rfl) (by kernel_rfl) (by kernel_rfl) (fun _ _ _ h => h) (Or.inr ⟨by rfl, rfl⟩) hHeld ?_
        simp only [Act.put, List.getElem_toArray, List.getElem_cons_zero, List.getElem_cons_succ, List.setIfInBounds_toArray, List.set_cons_zero, List.set_cons_succ]
        refine wpAnyH_take (i := 10) (v := undef) rfl (by kernel_rfl) (by kernel_rfl) (by kernel_rfl) (fun _ _ _ h => h) (Or.inr ⟨by rfl, rfl⟩) hHeld ?_
        simp only [Act.put, List.getElem_toArray, List.getElem_cons_zero, List.getElem_cons_succ, List.setIfInBounds_toArray, List.set_cons_zero, List.set_cons_succ]
        refine wpAnyH_take (i := 11) (v := undef) rfl (by kernel_rfl) (by kernel_rfl) (by kernel_rfl) (fun _ _ _ h => h) (Or.inr ⟨by rfl, rfl⟩) hHeld ?_
        simp only [Act.put, List.getElem_toArray, List.getElem_cons_zero, List.getElem_cons_succ, List.setIfInBounds_toArray, List.set_cons_zero, List.set_cons_succ]
        refine wpAnyH_take (i := 12) (v := undef) rfl (by kernel_rfl) (by kernel_rfl) (by kernel_rfl) (fun _ _ _ h => h) (Or.inr ⟨by rfl, rfl⟩) hHeld ?_
        simp only [Act.put, List.getElem_toArray, List.getElem_cons_zero, List.getElem_cons_succ, List.setIfInBounds_toArray, List.set_cons_zero, List.set_cons_succ]
        refine wpAnyH_take (i := 13) (v := undef) rfl (by kernel_rfl) (by kernel_rfl) (by kernel_rfl) (fun _ _ _ h => h) (Or.inr ⟨by rfl, rfl⟩) hHeld ?_
        simp only [Act.put, List.getElem_toArray, List.getElem_cons_zero, List.getElem_cons_succ, List.setIfInBounds_toArray, List.set_cons_zero, List.set_cons_succ]
        refine wpAnyH_take (i := 14) (v := undef) rfl (by kernel_rfl) (by kernel_rfl) (by kernel_rfl) (fun _ _ _ h => h) (Or.inr ⟨by rfl, rfl⟩) hHeld ?_
        simp only [Act.put, List.getElem_toArray, List.getElem_cons_zero, List.getElem_cons_succ, List.setIfInBounds_toArray, List.set_cons_zero, List.set_cons_succ]
        refine wpAnyH_take (i := 15) (v := undef) rfl (by kernel_rfl) (by kernel_rfl) (by kernel_rfl) (fun _ _ _ h => h) (Or.inr ⟨by rfl, rfl⟩) hHeld ?_
        simp only [Act.put, List.getElem_toArray, List.getElem_cons_zero, List.getElem_cons_succ, List.setIfInBounds_toArray, List.set_cons_zero, List.set_cons_succ]
        refine wpAnyH_take (i := 16) (v := undef) rfl (by kernel_rfl) (by kernel_rfl) (by kernel_rfl) (fun _ _ _ h => h) (Or.inr ⟨by rfl, rfl⟩) hHeld ?_
        simp only [Act.put, List.getElem_toArray, List.getElem_cons_zero, List.getElem_cons_succ, List.setIfInBounds_toArray, List.set_cons_zero, List.set_cons_succ]
        refine wpAnyH_take (i := 17) (v := undef) rfl (by kernel_rfl) (by kernel_rfl) (by kernel_rfl) (fun _ _ _ h => h) (Or.inr ⟨by rfl, rfl⟩) hHeld ?_
        simp only [Act.put, List.getElem_toArray, List.getElem_cons_zero, List.getElem_cons_succ, List.setIfInBounds_toArray, List.set_cons_zero, List.set_cons_succ]
        refine wpAnyH_take (i := 18) (v := undef) rfl (by kernel_rfl) (by kernel_rfl) (by kernel_rfl) (fun _ _ _ h => h) (Or.inr ⟨by rfl, rfl⟩) hHeld ?_
        simp only [Act.put, List.getElem_toArray, List.getElem_cons_zero, List.getElem_cons_succ, List.setIfInBounds_toArray, List.set_cons_zero, List.set_cons_succ]
        refine wpAnyH_take (i := 19) (v := undef) rfl (by kernel_rfl) (by kernel_rfl) (by kernel_rfl) (fun _ _ _ h => h) (Or.inr ⟨by rfl, rfl⟩) hHeld ?_
        simp only [Act.put, List.getElem_toArray, List.getElem_cons_zero, List.getElem_cons_succ, List.setIfInBounds_toArray, List.set_cons_zero, List.set_cons_succ]
        refine wpAnyH_take (i := 20) (v := undef) rfl (by kernel_rfl) (by kernel_rfl) (by kernel_rfl) (fun _ _ _ h => h) (Or.inr ⟨by rfl, rfl⟩) hHeld ?_
        simp only [Act.put, List.getElem_toArray, List.getElem_cons_zero, List.getElem_cons_succ, List.setIfInBounds_toArray, List.set_cons_zero, List.set_cons_succ]
        refine wpAnyH_take (i := 21) (v := undef) rfl (by kernel_rfl) (by kernel_rfl) (by kernel_rfl) (fun _ _ _ h => h) (Or.inr ⟨by rfl, rfl⟩) hHeld ?_
        simp only [Act.put, List.getElem_toArray, List.getElem_cons_zero, List.getElem_cons_succ, List.setIfInBounds_toArray, List.set_cons_zero, List.set_cons_succ]
        refine wpAnyH_take (i := 22) (v := undef) rfl (by kernel_rfl) (by kernel_rfl) (by kernel_rfl) (fun _ _ _ h => h) (Or.inr ⟨by rfl, rfl⟩) hHeld ?_
        simp only [Act.put, List.getElem_toArray, List.getElem_cons_zero, List.getElem_cons_succ, List.setIfInBounds_toArray, List.set_cons_zero, List.set_cons_succ]
        refine wpAnyH_take (i := 23) (v := undef) rfl (by kernel_rfl) (by kernel_rfl) (by kernel_rfl) (fun _ _ _ h => h) (Or.inr ⟨by rfl, rfl⟩) hHeld ?_
        simp only [Act.put, List.getElem_toArray, List.getElem_cons_zero, List.getElem_cons_succ, List.setIfInBounds_toArray, List.set_cons_zero, List.set_cons_succ]
        refine wpAnyH_take (i := 24) (v := ?vb24) rfl (by kernel_rfl) (by kernel_rfl) (by kernel_rfl) (fun _ _ _ h => h) (Or.inl ⟨by rfl, ?hyb24⟩) hHeld ?restb24; (case hyb24 => (intro w hSw; (try dsimp only at hSw); go_simp; (try with_reducible rfl)))
        simp only [Act.put, List.getElem_toArray, List.getElem_cons_zero, List.getElem_cons_succ, List.setIfInBounds_toArray, List.set_cons_zero, List.set_cons_succ]
        refine wpAnyH_done (by kernel_rfl) ?_ _
        refine NoPanic.normal ?_
        go_wp2
        go_roundg (gk - 1)
        case rel =>
          obtain ⟨hso, hno, hst⟩ := HS.out
          have e0 : stepN l pfx o ⟨n', f', c', r', v'⟩ = o := by have h1 := HE.out.1; have h2 := HE.out.2; have h3 := HNF.out; unfold stepN; simp only [← h1, ← h2]; simp
          refine ⟨_, j + 1, o, rfl, by go_simp, by omega, by rw [hst, e0], ?_, by omega⟩
          unfold OutS
          rw [← hso, ← hno]
          exact HO.out.of_drew
        case measure => omega
      · rcases Nat.eq_zero_or_pos nf with h0 | h0
        · subst h0
          go_wp2
          refine wp_region_noPanic ?_
          refine wp_region_held_drew (S := fun W => W.cell? ⟨g, j * 5, none⟩ = some (.string n')) (by kernel_rfl) ?hSc (fun hHeld => ?_)
          case hSc => (try dsimp only); (first | assumption | go_keep)
          refine wpAnyH_take (i := 0) (v := ?vc0) rfl (by kernel_rfl) (by kernel_rfl) (by kernel_rfl) (fun _ _ _ h => h) (Or.inl ⟨by rfl, ?hyc0⟩) hHeld ?restc0; (case hyc0 => (intro w hSw; (try dsimp only at hSw); go_simp; (try with_reducible rfl)))
          simp only [Act.put, List.getElem_toArray, List.getElem_cons_zero, List.getElem_cons_succ, List.setIfInBounds_toArray, List.set_cons_zero, List.set_cons_succ]
          refine wpAnyH_take (i := 1) (v := ?vc1) rfl (by kernel_rfl) (by kernel_rfl) (by kernel_rfl) (fun _ _ _ h => h) (Or.inl ⟨by rfl, ?hyc1⟩) hHeld ?restc1; (case hyc1 => (intro w hSw; (try dsimp only at hSw); go_simp; (try with_reducible rfl)))
          simp only [Act.put, List.getElem_toArray, List.getElem_cons_zero, List.getElem_cons_succ, List.setIfInBounds_toArray, List.set_cons_zero, List.set_cons_succ]
          refine wpAnyH_take (i := 2) (v := ?vc2) rfl (by kernel_rfl) (by kernel_rfl) (by kernel_rfl) (fun _ _ _ h => h) (Or.inl ⟨by rfl, ?hyc2⟩) hHeld ?restc2; (case hyc2 => (intro w hSw; (try dsimp only at hSw); go_simp; (try with_reducible rfl)))
          simp only [Act.put, List.getElem_toArray, List.getElem_cons_zero, List.getElem_cons_succ, List.setIfInBounds_toArray, List.set_cons_zero, List.set_cons_succ]
          refine wpAnyH_take (i := 3) (v := ?vc3) rfl (by kernel_rfl) (by kernel_rfl) (by kernel_rfl) (fun _ _ _ h => h) (Or.inl ⟨by rfl, ?hyc3⟩) hHeld ?restc3; (case hyc3 => (intro w hSw; (try dsimp only at hSw); go_simp; (try with_reducible rfl)))
          simp only [Act.put, List.getElem_toArray, List.getElem_cons_zero, List.getElem_cons_succ, List.setIfInBounds_toArray, List.set_cons_zero, List.set_cons_succ]
          refine wpAnyH_take (i := 4) (v := ?vc4) rfl (by kernel_rfl) (by kernel_rfl) (by kernel_rfl) (fun _ _ _ h => h) (Or.inl ⟨by rfl, ?hyc4⟩) hHeld ?restc4; (case hyc4 => (intro w hSw; (try dsimp only at hSw); go_simp; (try with_reducible rfl)))
          simp only [Act.put, List.getElem_toArray, List.getElem_cons_zero, List.getElem_cons_succ, List.setIfInBounds_toArray, List.set_cons_zero, List.set_cons_succ]
          refine wpAnyH_take (i := 5) (v := ?vc5) rfl (by kernel_rfl) (by kernel_rfl) (by kernel_rfl) (fun _ _ _ h => h) (Or.inl ⟨by rfl, ?hyc5⟩) hHeld ?restc5; (case hyc5 => (intro w hSw; (try dsimp only at hSw); go_simp; (try with_reducible rfl)))
          simp only [Act.put, List.getElem_toArray, List.getElem_cons_zero, List.getElem_cons_succ, List.setIfInBounds_toArray, List.set_cons_zero, List.set_cons_succ]
          refine wpAnyH_take (i := 6) (v := ?vc6) rfl (by kernel_rfl) (by kernel_rfl) (by kernel_rfl) (fun _ _ _ h => h) (Or.inl ⟨by rfl, ?hyc6⟩) hHeld ?restc6; (case hyc6 => (intro w hSw; (try dsimp only at hSw); go_simp; (try with_reducible rfl)))
          simp only [Act.put, List.getElem_toArray, List.getElem_cons_zero, List.getElem_cons_succ, List.setIfInBounds_toArray, List.set_cons_zero, List.set_cons_succ]
          refine wpAnyH_take (i := 7) (v := undef) rfl (by kernel_rfl) (by kernel_rfl) (by kernel_rfl) (fun _ _ _ h => h) (Or.inr ⟨by rfl, rfl⟩) hHeld ?_
          simp only [Act.put, List.getElem_toArray, List.getElem_cons_zero, List.getElem_cons_succ, List.setIfInBounds_toArray, List.set_cons_zero, List.set_cons_succ]
          refine wpAnyH_take (i := 8) (v := undef) rfl (by kernel_rfl) (by kernel_rfl) (by kernel_rfl) (fun _ _ _ h => h) (Or.inr ⟨by rfl, rfl⟩) hHeld ?_
          simp only [Act.put, List.getElem_toArray, List.getElem_cons_zero, List.getElem_cons_succ, List.setIfInBounds_toArray, List.set_cons_zero, List.set_cons_succ]
          refine wpAnyH_take (i := 9) (v := undef) rfl (by kernel_rfl) (by kernel_rfl) (by kernel_rfl) (fun _ _ _ h => h) (Or.inr ⟨by rfl, rfl⟩) hHeld ?_
          simp only [Act.put, List.getElem_toArray, List.getElem_cons_zero, List.getElem_cons_succ, List.setIfInBounds_toArray, List.set_cons_zero, List.set_cons_succ]
          refine wpAnyH_take (i := 10) (v := undef) rfl (by kernel_rfl) (by kernel_rfl) (by kernel_rfl) (fun _ _ _ h => h) (Or.inr ⟨by rfl, rfl⟩) hHeld ?_
          simp only [Act.put, List.getElem_toArray, List.getElem_cons_zero, List.getElem_cons_succ, List.setIfInBounds_toArray, List.set_cons_zero, List.set_cons_succ]
          refine wpAnyH_take (i := 11) (v := undef) rfl (by kernel_rfl) (by kernel_rfl) (by kernel_rfl) (fun _ _ _ h => h) (Or.inr ⟨by rfl, rfl⟩) hHeld ?_
          simp only [Act.put, List.getElem_toArray, List.getElem_cons_zero, List.getElem_cons_succ, List.setIfInBounds_toArray, List.set_cons_zero, List.set_cons_succ]
          refine wpAnyH_take (i := 12) (v := undef) rfl (by kernel_rfl) (by kernel_rfl) (by kernel_rfl) (fun _ _ _ h => h) (Or.inr ⟨by rfl, rfl⟩) hHeld ?_
          simp only [Act.put, List.getElem_toArray, List.getElem_cons_zero, List.getElem_cons_succ, List.setIfInBounds_toArray, List.set_cons_zero, List.set_cons_succ]
          refine wpAnyH_take (i := 13) (v := undef) rfl (by kernel_rfl) (by kernel_rfl) (by kernel_rfl) (fun _ _ _ h => h) (Or.inr ⟨by rfl, rfl⟩) hHeld ?_
          simp only [Act.put, List.getElem_toArray, List.getElem_cons_zero, List.getElem_cons_succ, List.setIfInBounds_toArray, List.set_cons_zero, List.set_cons_succ]
          refine wpAnyH_take (i := 14) (v := undef) rfl (by kernel_rfl) (by kernel_rfl) (by kernel_rfl) (fun _ _ _ h => h) (Or.inr ⟨by rfl, rfl⟩) hHeld ?_
          simp only [Act.put, List.getElem_toArray, List.getElem_cons_zero, List.getElem_cons_succ, List.setIfInBounds_toArray, List.set_cons_zero, List.set_cons_succ]
          refine wpAnyH_take (i := 15) (v := undef) rfl (by kernel_rfl) (by kernel_rfl) (by kernel_rfl) (fun _ _ _ h => h) (Or.inr ⟨by rfl, rfl⟩) hHeld ?_
          simp only [Act.put, List.getElem_toArray, List.getElem_cons_zero, List.getElem_cons_succ, List.setIfInBounds_toArray, List.set_cons_zero, List.set_cons_succ]
          refine wpAnyH_take (i := 16) (v := undef) rfl (by kernel_rfl) (by kernel_rfl) (by kernel_rfl) (fun _ _ _ h => h) (Or.inr ⟨by rfl, rfl⟩) hHeld ?_
          simp only [Act.put, List.getElem_toArray, List.getElem_cons_zero, List.getElem_cons_succ, List.setIfInBounds_toArray, List.set_cons_zero, List.set_cons_succ]
          refine wpAnyH_take (i := 17) (v := undef) rfl (by kernel_rfl) (by kernel_rfl) (by kernel_rfl) (fun _ _ _ h => h) (Or.inr ⟨by rfl, rfl⟩) hHeld ?_
          simp only [Act.put, List.getElem_toArray, List.getElem_cons_zero, List.getElem_cons_succ, List.setIfInBounds_toArray, List.set_cons_zero, List.set_cons_succ]
          refine wpAnyH_take (i := 18) (v := undef) rfl (by kernel_rfl) (by kernel_rfl) (by kernel_rfl) (fun _ _ _ h => h) (Or.inr ⟨by rfl, rfl⟩) hHeld ?_
          simp only [Act.put, List.getElem_toArray, List.getElem_cons_zero, List.getElem_cons_succ, List.setIfInBounds_toArray, List.set_cons_zero, List.set_cons_succ]
          refine wpAnyH_take (i := 19) (v := undef) rfl (by kernel_rfl) (by kernel_rfl) (by kernel_rfl) (fun _ _ _ h => h) (Or.inr ⟨by rfl, rfl⟩) hHeld ?_
          simp only [Act.put, List.getElem_toArray, List.getElem_cons_zero, List.getElem_cons_succ, List.setIfInBounds_toArray, List.set_cons_zero, List.set_cons_succ]
          refine wpAnyH_take (i := 20) (v := undef) rfl (by kernel_rfl) (by kernel_rfl) (by kernel_rfl) (fun _ _ _ h => h) (Or.inr ⟨by rfl, rfl⟩) hHeld ?_
          simp only [Act.put, List.getElem_toArray, List.getElem_cons_zero, List.getElem_cons_succ, List.setIfInBounds_toArray, List.set_cons_zero, List.set_cons_succ]
          refine wpAnyH_take (i := 21) (v := undef) rfl (by kernel_rfl) (by kernel_rfl) (by kernel_rfl) (fun _ _ _ h => h) (Or.inr ⟨by rfl, rfl⟩) hHeld ?_
          simp only [Act.put, List.getElem_toArray, List.getElem_cons_zero, List.getElem_cons_succ, List.setIfInBounds_toArray, List.set_cons_zero, List.set_cons_succ]
          refine wpAnyH_take (i := 22) (v := undef) rfl (by kernel_rfl) (by kernel_rfl) (by kernel_rfl) (fun _ _ _ h => h) (Or.inr ⟨by rfl, rfl⟩) hHeld ?_
          simp only [Act.put, List.getElem_toArray, List.getElem_cons_zero, List.getElem_cons_succ, List.setIfInBounds_toArray, List.set_cons_zero, List.set_cons_succ]
          refine wpAnyH_take (i := 23) (v := undef) rfl (by kernel_rfl) (by kernel_rfl) (by kernel_rfl) (fun _ _ _ h => h) (Or.inr ⟨by rfl, rfl⟩) hHeld ?_
          simp only [Act.put, List.getElem_toArray, List.getElem_cons_zero, List.getElem_cons_succ, List.setIfInBounds_toArray, List.set_cons_zero, List.set_cons_succ]
          refine wpAnyH_take (i := 24) (v := ?vc24) rfl (by kernel_rfl) (by kernel_rfl) (by kernel_rfl) (fun _ _ _ h => h) (Or.inl ⟨by rfl, ?hyc24⟩) hHeld ?restc24; (case hyc24 => (intro w hSw; (try dsimp only at hSw); go_simp; (try with_reducible rfl)))
          simp only [Act.put, List.getElem_toArray, List.getElem_cons_zero, List.getElem_cons_succ, List.setIfInBounds_toArray, List.set_cons_zero, List.set_cons_succ]
          refine wpAnyH_done (by kernel_rfl) ?_ _
          refine NoPanic.normal ?_
          go_wp2
          go_roundg (gk - 1)
          case rel =>
            obtain ⟨hso, hno, hst⟩ := HS.out
            have e0 : stepN l pfx o ⟨n', f', c', r', v'⟩ = o := by have h1 := HE.out.1; have h2 := HE.out.2; have h3 := HNF.out; unfold stepN; simp only [← h1, ← h2]; simp [List.eq_nil_of_length_eq_zero h3.symm]
            refine ⟨_, j + 1, o, rfl, by go_simp, by omega, by rw [hst, e0], ?_, by omega⟩
            unfold OutS
            rw [← hso, ← hno]
            exact HO.out.of_drew
          case measure => omega
        · rcases Nat.eq_zero_or_pos no with h1 | h1
          · subst h1
            obtain ⟨oad, ocap, hov⟩ : ∃ oad ocap, out = .slice oad 0 ocap := by
              rcases HO.out.row.2 with ⟨rfl, h0⟩ | ⟨q, cap, cur, rfl, _⟩ <;> exact ⟨_, _, rfl⟩
            have HO0' := Lib.hid (show o = [] from List.eq_nil_of_length_eq_zero HS.out.2.1.symm)
            subst hov
            go_wp2
            refine wp_region_noPanic ?_
            refine wp_region_held_drew (S := fun W => W.cell? ⟨g, j * 5, none⟩ = some (.string n')) (by kernel_rfl) ?hSd (fun hHeld => ?_)
            case hSd => (try dsimp only); (first | assumption | go_keep)
            refine wpAnyH_take (i := 0) (v := ?vd0) rfl (by kernel_rfl) (by kernel_rfl) (by kernel_rfl) (fun _ _ _ h => h) (Or.inl ⟨by rfl, ?hyd0⟩) hHeld ?restd0; (case hyd0 => (intro w hSw; (try dsimp only at hSw); go_simp; (try with_reducible rfl)))
            simp only [Act.put, List.getElem_toArray, List.getElem_cons_zero, List.getElem_cons_succ, List.setIfInBounds_toArray, List.set_cons_zero, List.set_cons_succ]
            refine wpAnyH_take (i := 1) (v := ?vd1) rfl (by kernel_rfl) (by kernel_rfl) (by kernel_rfl) (fun _ _ _ h => h) (Or.inl ⟨by rfl, ?hyd1⟩) hHeld ?restd1; (case hyd1 => (intro w hSw; (try dsimp only at hSw); go_simp; (try with_reducible rfl)))
            simp only [Act.put, List.getElem_toArray, List.getElem_cons_zero, List.getElem_cons_succ, List.setIfInBounds_toArray, List.set_cons_zero, List.set_cons_succ]
            refine wpAnyH_take (i := 2) (v := ?vd2) rfl (by kernel_rfl) (by kernel_rfl) (by kernel_rfl) (fun _ _ _ h => h) (Or.inl ⟨by rfl, ?hyd2⟩) hHeld ?restd2; (case hyd2 => (intro w hSw; (try dsimp only at hSw); go_simp; (try with_reducible rfl)))
            simp only [Act.put, List.getElem_toArray, List.getElem_cons_zero, List.getElem_cons_succ, List.setIfInBounds_toArray, List.set_cons_zero, List.set_cons_succ]
            refine wpAnyH_take (i := 3) (v := ?vd3) rfl (by kernel_rfl) (by kernel_rfl) (by kernel_rfl) (fun _ _ _ h => h) (Or.inl ⟨by rfl, ?hyd3⟩) hHeld ?restd3; (case hyd3 => (intro w hSw; (try dsimp only at hSw); go_simp; (try with_reducible rfl)))
            simp only [Act.put, List.getElem_toArray, List.getElem_cons_zero, List.getElem_cons_succ, List.setIfInBounds_toArray, List.set_cons_zero, List.set_cons_succ]
            refine wpAnyH_take (i := 4) (v := ?vd4) rfl (by kernel_rfl) (by kernel_rfl) (by kernel_rfl) (fun _ _ _ h => h) (Or.inl ⟨by rfl, ?hyd4⟩) hHeld ?restd4; (case hyd4 => (intro w hSw; (try dsimp only at hSw); go_simp; (try with_reducible rfl)))
            simp only [Act.put, List.getElem_toArray, List.getElem_cons_zero, List.getElem_cons_succ, List.setIfInBounds_toArray, List.set_cons_zero, List.set_cons_succ]
            refine wpAnyH_take (i := 5) (v := ?vd5) rfl (by kernel_rfl) (by kernel_rfl) (by kernel_rfl) (fun _ _ _ h => h) (Or.inl ⟨by rfl, ?hyd5⟩) hHeld ?restd5; (case hyd5 => (intro w hSw; (try dsimp only at hSw); go_simp; (try with_reducible rfl)))
            simp only [Act.put, List.getElem_toArray, List.getElem_cons_zero, List.getElem_cons_succ, List.setIfInBounds_toArray, List.set_cons_zero, List.set_cons_succ]
            refine wpAnyH_take (i := 6) (v := ?vd6) rfl (by kernel_rfl) (by kernel_rfl) (by kernel_rfl) (fun _ _ _ h => h) (Or.inl ⟨by rfl, ?hyd6⟩) hHeld ?restd6; (case hyd6 => (intro w hSw; (try dsimp only at hSw); go_simp; (try with_reducible rfl)))
            simp only [Act.put, List.getElem_toArray, List.getElem_cons_zero, List.getElem_cons_succ, List.setIfInBounds_toArray, List.set_cons_zero, List.set_cons_succ]
            refine wpAnyH_take (i := 7) (v := ?vd7) rfl (by kernel_rfl) (by kernel_rfl) (by kernel_rfl) (fun _ _ _ h => h) (Or.inl ⟨by rfl, ?hyd7⟩) hHeld ?restd7; (case hyd7 => (intro w hSw; (try dsimp only at hSw); go_simp; (try with_reducible rfl)))
            simp only [Act.put, List.getElem_toArray, List.getElem_cons_zero, List.getElem_cons_succ, List.setIfInBounds_toArray, List.set_cons_zero, List.set_cons_succ]
            refine wpAnyH_take (i := 8) (v := ?vd8) rfl (by kernel_rfl) (by kernel_rfl) (by kernel_rfl) (fun _ _ _ h => h) (Or.inl ⟨by rfl, ?hyd8⟩) hHeld ?restd8; (case hyd8 => (intro w hSw; (try dsimp only at hSw); go_simp; (try with_reducible rfl)))
            simp only [Act.put, List.getElem_toArray, List.getElem_cons_zero, List.getElem_cons_succ, List.setIfInBounds_toArray, List.set_cons_zero, List.set_cons_succ]
            refine wpAnyH_take (i := 9) (v := ?vd9) rfl (by kernel_rfl) (by kernel_rfl) (by kernel_rfl) (fun _ _ _ h => h) (Or.inl ⟨by rfl, ?hyd9⟩) hHeld ?restd9; (case hyd9 => (intro w hSw; (try dsimp only at hSw); go_simp; (try with_reducible rfl)))
            simp only [Act.put, List.getElem_toArray, List.getElem_cons_zero, List.getElem_cons_succ, List.setIfInBounds_toArray, List.set_cons_zero, List.set_cons_succ]
            refine wpAnyH_take (i := 10) (v := ?vd10) rfl (by kernel_rfl) (by kernel_rfl) (by kernel_rfl) (fun _ _ _ h => h) (Or.inl ⟨by rfl, ?hyd10⟩) hHeld ?restd10; (case hyd10 => (intro w hSw; (try dsimp only at hSw); go_simp; (try with_reducible rfl)))
            simp only [Act.put, List.getElem_toArray, List.getElem_cons_zero, List.getElem_cons_succ, List.setIfInBounds_toArray, List.set_cons_zero, List.set_cons_succ]
            refine wpAnyH_take (i := 11) (v := undef) rfl (by kernel_rfl) (by kernel_rfl) (by kernel_rfl) (fun _ _ _ h => h) (Or.inr ⟨by rfl, rfl⟩) hHeld ?_
            simp only [Act.put, List.getElem_toArray, List.getElem_cons_zero, List.getElem_cons_succ, List.setIfInBounds_toArray, List.set_cons_zero, List.set_cons_succ]
            refine wpAnyH_take (i := 12) (v := undef) rfl (by kernel_rfl) (by kernel_rfl) (by kernel_rfl) (fun _ _ _ h => h) (Or.inr ⟨by rfl, rfl⟩) hHeld ?_
            simp only [Act.put, List.getElem_toArray, List.getElem_cons_zero, List.getElem_cons_succ, List.setIfInBounds_toArray, List.set_cons_zero, List.set_cons_succ]
            refine wpAnyH_take (i := 13) (v := undef) rfl (by kernel_rfl) (by kernel_rfl) (by kernel_rfl) (fun _ _ _ h => h) (Or.inr ⟨by rfl, rfl⟩) hHeld ?_
            simp only [Act.put, List.getElem_toArray, List.getElem_cons_zero, List.getElem_cons_succ, List.setIfInBounds_toArray, List.set_cons_zero, List.set_cons_succ]
            refine wpAnyH_take (i := 14) (v := undef) rfl (by kernel_rfl) (by kernel_rfl) (by kernel_rfl) (fun _ _ _ h => h) (Or.inr ⟨by rfl, rfl⟩) hHeld ?_
            simp only [Act.put, List.getElem_toArray, List.getElem_cons_zero, List.getElem_cons_succ, List.setIfInBounds_toArray, List.set_cons_zero, List.set_cons_succ]
            refine wpAnyH_take (i := 15) (v := undef) rfl (by kernel_rfl) (by kernel_rfl) (by kernel_rfl) (fun _ _ _ h => h) (Or.inr ⟨by rfl, rfl⟩) hHeld ?_
            simp only [Act.put, List.getElem_toArray, List.getElem_cons_zero, List.getElem_cons_succ, List.setIfInBounds_toArray, List.set_cons_zero, List.set_cons_succ]
            refine wpAnyH_take (i := 16) (v := undef) rfl (by kernel_rfl) (by kernel_rfl) (by kernel_rfl) (fun _ _ _ h => h) (Or.inr ⟨by rfl, rfl⟩) hHeld ?_
            simp only [Act.put, List.getElem_toArray, List.getElem_cons_zero, List.getElem_cons_succ, List.setIfInBounds_toArray, List.set_cons_zero, List.set_cons_succ]
            refine wpAnyH_take (i := 17) (v := undef) rfl (by kernel_rfl) (by kernel_rfl) (by kernel_rfl) (fun _ _ _ h => h) (Or.inr ⟨by rfl, rfl⟩) hHeld ?_
            simp only [Act.put, List.getElem_toArray, List.getElem_cons_zero, List.getElem_cons_succ, List.setIfInBounds_toArray, List.set_cons_zero, List.set_cons_succ]
            refine wpAnyH_take (i := 18) (v := undef) rfl (by kernel_rfl) (by kernel_rfl) (by kernel_rfl) (fun _ _ _ h => h) (Or.inr ⟨by rfl, rfl⟩) hHeld ?_
            simp only [Act.put, List.getElem_toArray, List.getElem_cons_zero, List.getElem_cons_succ, List.setIfInBounds_toArray, List.set_cons_zero, List.set_cons_succ]
            refine wpAnyH_take (i := 19) (v := undef) rfl (by kernel_rfl) (by kernel_rfl) (by kernel_rfl) (fun _ _ _ h => h) (Or.inr ⟨by rfl, rfl⟩) hHeld ?_
            simp only [Act.put, List.getElem_toArray, List.getElem_cons_zero, List.getElem_cons_succ, List.setIfInBounds_toArray, List.set_cons_zero, List.set_cons_succ]
            refine wpAnyH_take (i := 20) (v := undef) rfl (by kernel_rfl) (by kernel_rfl) (by kernel_rfl) (fun _ _ _ h => h) (Or.inr ⟨by rfl, rfl⟩) hHeld ?_
            simp only [Act.put, List.getElem_toArray, List.getElem_cons_zero, List.getElem_cons_succ, List.setIfInBounds_toArray, List.set_cons_zero, List.set_cons_succ]
            refine wpAnyH_take (i := 21) (v := undef) rfl (by kernel_rfl) (by kernel_rfl) (by kernel_rfl) (fun _ _ _ h => h) (Or.inr ⟨by rfl, rfl⟩) hHeld ?_
            simp only [Act.put, List.getElem_toArray, List.getElem_cons_zero, List.getElem_cons_succ, List.setIfInBounds_toArray, List.set_cons_zero, List.set_cons_succ]
            refine wpAnyH_take (i := 22) (v := undef) rfl (by kernel_rfl) (by kernel_rfl) (by kernel_rfl) (fun _ _ _ h => h) (Or.inr ⟨by rfl, rfl⟩) hHeld ?_
            simp only [Act.put, List.getElem_toArray, List.getElem_cons_zero, List.getElem_cons_succ, List.setIfInBounds_toArray, List.set_cons_zero, List.set_cons_succ]
            refine wpAnyH_take (i := 23) (v := ?vd23) rfl (by kernel_rfl) (by kernel_rfl) (by kernel_rfl) (fun _ _ _ h => h) (Or.inl ⟨by rfl, ?hyd23⟩) hHeld ?restd23; (case hyd23 => (intro w hSw; (try dsimp only at hSw); go_simp; (try with_reducible rfl)))
            simp only [Act.put, List.getElem_toArray, List.getElem_cons_zero, List.getElem_cons_succ, List.setIfInBounds_toArray, List.set_cons_zero, List.set_cons_succ]
            refine wpAnyH_take (i := 24) (v := ?vd24) rfl (by kernel_rfl) (by kernel_rfl) (by kernel_rfl) (fun _ _ _ h => h) (Or.inl ⟨by rfl, ?hyd24⟩) hHeld ?restd24; (case hyd24 => (intro w hSw; (try dsimp only at hSw); go_simp; (try with_reducible rfl)))
            simp only [Act.put, List.getElem_toArray, List.getElem_cons_zero, List.getElem_cons_succ, List.setIfInBounds_toArray, List.set_cons_zero, List.set_cons_succ]
            refine wpAnyH_done (by kernel_rfl) ?_ _
            refine NoPanic.normal ?_
            go_wp2_with (at_builtin; go_must (refine wpList_append_own_at _ rfl _ _ 51 rfl w.heap.size 9 i0 (.string ⟨#[]⟩) 1 16 Tryz.underlying51 hi hz0 hz1 hz2 rfl (by decide) _ _ _ rfl (HO.out.of_drew.alloc _).row ⟨w2.drew.heap.size, 0, none⟩ 1 1 [.string n'] rfl rfl (newsAt (by first | rfl | simp) _ _ rfl) (by simp [Value.oneCell']) (by unfold maxLen; omega) (by omega) (by have := HO.out.below.size; simp; omega) ?_); intro v5 w5 hr5 hg5 _ _; refine Halt.of ?_)
            unfold Halt
            go_wp2
            go_roundg (gk - 1)
            case rel =>
              obtain ⟨hso, hno, hst⟩ := HS.out
              have e0 : stepN l pfx o ⟨n', f', c', r', v'⟩ = o ++ [n'] := by have h1 := HE.out.1; have h2 := HE.out.2; have h3 := HNF.out; unfold stepN; simp only [← h1, ← h2]; rw [show fl.isEmpty = false by cases fl with | nil => (simp at h3; omega) | cons _ _ => rfl]; simp [HO0'.out]
              have e1 : (o ++ [n']).length = 0 + 1 := by rw [hno]; simp
              have e2 : (o ++ [n']).map Value.string = so ++ [.string n'] := by rw [hso]; simp
              refine ⟨_, j + 1, o ++ [n'], rfl, by go_simp, by omega, by rw [hst, e0], ?_, by rw [e1]; omega⟩
              unfold OutS
              rw [e1, e2]
              exact (HO.out.of_drew.alloc _).append hg5 hr5
            case measure => omega
          · obtain ⟨om, rfl⟩ : ∃ om, no = om + 1 := ⟨no - 1, by omega⟩
            obtain ⟨og, ocap, hov⟩ := ownsRow_succ HO.out.row
            obtain ⟨ol, hol⟩ : ∃ ol, o.getLast? = some ol := by
              cases h : o.getLast? with
              | none => rw [List.getLast?_eq_none_iff.1 h] at HS; have := HS.out.2.1; simp at this
              | some x => exact ⟨x, rfl⟩
            have hcl : w2.cell? ⟨og, om, none⟩ = some (.string ol) := by
              rcases HO.out.row.2 with ⟨_, h0⟩ | ⟨q, cap, cur, hv, _, hq, _, _, _, ht⟩
              · omega
              · rw [hov] at hv
                obtain rfl : og = q := by simp only [Value.slice.injEq, Option.some.injEq, Addr.mk.injEq] at hv; exact hv.1.1
                have h1 := Joins.cell_of_block hq om
                have h2 : so[om]? = some (.string ol) := by
                  rw [HS.out.1, List.getElem?_map, show om = o.length - 1 by rw [← HS.out.2.1]; rfl, ← List.getLast?_eq_getElem?, hol]; rfl
                rw [h1, ← h2, ← ht, List.getElem?_take_of_lt (by omega)]
                simp
            have HOL := Lib.hid hol
            have hwr : IntKind.i64.wrap (om : Int) = om := by rw [IntKind.wrap_i64]; omega
            have hq0 : (((om : Int) + 1) == 0) = false := by simp; omega
            have hom : (om : Int) < (om : Int) + 1 := by omega
            subst hov
            clear hol
            by_cases hnl : n' = ol
            · have hnl2 : ol.toList = n'.toList := by rw [hnl]
              go_wp2
              refine wp_region_noPanic ?_
              refine wp_region_held_drew (S := fun W => W.cell? ⟨g, j * 5, none⟩ = some (.string n') ∧ W.cell? ⟨og, om, none⟩ = some (.string ol)) (by kernel_rfl) ?hSe (fun hHeld => ?_)
              case hSe => (try dsimp only); (first | assumption | go_keep)
              refine wpAnyH_take (i := 0) (v := ?ve0) rfl (by kernel_rfl) (by kernel_rfl) (by kernel_rfl) (fun _ _ _ h => h) (Or.inl ⟨by rfl, ?hye0⟩) hHeld ?reste0; (case hye0 => (intro w hSw; (try dsimp only at hSw); go_simp; (try with_reducible rfl)))
              simp only [Act.put, List.getElem_toArray, List.getElem_cons_zero, List.getElem_cons_succ, List.setIfInBounds_toArray, List.set_cons_zero, List.set_cons_succ]
              refine wpAnyH_take (i := 1) (v := ?ve1) rfl (by kernel_rfl) (by kernel_rfl) (by kernel_rfl) (fun _ _ _ h => h) (Or.inl ⟨by rfl, ?hye1⟩) hHeld ?reste1; (case hye1 => (intro w hSw; (try dsimp only at hSw); go_simp; (try with_reducible rfl)))
              simp only [Act.put, List.getElem_toArray, List.getElem_cons_zero, List.getElem_cons_succ, List.setIfInBounds_toArray, List.set_cons_zero, List.set_cons_succ]
              refine wpAnyH_take (i := 2) (v := ?ve2) rfl (by kernel_rfl) (by kernel_rfl) (by kernel_rfl) (fun _ _ _ h => h) (Or.inl ⟨by rfl, ?hye2⟩) hHeld ?reste2; (case hye2 => (intro w hSw; (try dsimp only at hSw); go_simp; (try with_reducible rfl)))
              simp only [Act.put, List.getElem_toArray, List.getElem_cons_zero, List.getElem_cons_succ, List.setIfInBounds_toArray, List.set_cons_zero, List.set_cons_succ]
              refine wpAnyH_take (i := 3) (v := ?ve3) rfl (by kernel_rfl) (by kernel_rfl) (by kernel_rfl) (fun _ _ _ h => h) (Or.inl ⟨by rfl, ?hye3⟩) hHeld ?reste3; (case hye3 => (intro w hSw; (try dsimp only at hSw); go_simp; (try with_reducible rfl)))
              simp only [Act.put, List.getElem_toArray, List.getElem_cons_zero, List.getElem_cons_succ, List.setIfInBounds_toArray, List.set_cons_zero, List.set_cons_succ]
              refine wpAnyH_take (i := 4) (v := ?ve4) rfl (by kernel_rfl) (by kernel_rfl) (by kernel_rfl) (fun _ _ _ h => h) (Or.inl ⟨by rfl, ?hye4⟩) hHeld ?reste4; (case hye4 => (intro w hSw; (try dsimp only at hSw); go_simp; (try with_reducible rfl)))
              simp only [Act.put, List.getElem_toArray, List.getElem_cons_zero, List.getElem_cons_succ, List.setIfInBounds_toArray, List.set_cons_zero, List.set_cons_succ]
              refine wpAnyH_take (i := 5) (v := ?ve5) rfl (by kernel_rfl) (by kernel_rfl) (by kernel_rfl) (fun _ _ _ h => h) (Or.inl ⟨by rfl, ?hye5⟩) hHeld ?reste5; (case hye5 => (intro w hSw; (try dsimp only at hSw); go_simp; (try with_reducible rfl)))
              simp only [Act.put, List.getElem_toArray, List.getElem_cons_zero, List.getElem_cons_succ, List.setIfInBounds_toArray, List.set_cons_zero, List.set_cons_succ]
              refine wpAnyH_take (i := 6) (v := ?ve6) rfl (by kernel_rfl) (by kernel_rfl) (by kernel_rfl) (fun _ _ _ h => h) (Or.inl ⟨by rfl, ?hye6⟩) hHeld ?reste6; (case hye6 => (intro w hSw; (try dsimp only at hSw); go_simp; (try with_reducible rfl)))
              simp only [Act.put, List.getElem_toArray, List.getElem_cons_zero, List.getElem_cons_succ, List.setIfInBounds_toArray, List.set_cons_zero, List.set_cons_succ]
              refine wpAnyH_take (i := 7) (v := ?ve7) rfl (by kernel_rfl) (by kernel_rfl) (by kernel_rfl) (fun _ _ _ h => h) (Or.inl ⟨by rfl, ?hye7⟩) hHeld ?reste7; (case hye7 => (intro w hSw; (try dsimp only at hSw); go_simp; (try with_reducible rfl)))
              simp only [Act.put, List.getElem_toArray, List.getElem_cons_zero, List.getElem_cons_succ, List.setIfInBounds_toArray, List.set_cons_zero, List.set_cons_succ]
              refine wpAnyH_take (i := 8) (v := ?ve8) rfl (by kernel_rfl) (by kernel_rfl) (by kernel_rfl) (fun _ _ _ h => h) (Or.inl ⟨by rfl, ?hye8⟩) hHeld ?reste8; (case hye8 => (intro w hSw; (try dsimp only at hSw); go_simp; (try with_reducible rfl)))
              simp only [Act.put, List.getElem_toArray, List.getElem_cons_zero, List.getElem_cons_succ, List.setIfInBounds_toArray, List.set_cons_zero, List.set_cons_succ]
              refine wpAnyH_take (i := 9) (v := ?ve9) rfl (by kernel_rfl) (by kernel_rfl) (by kernel_rfl) (fun _ _ _ h => h) (Or.inl ⟨by rfl, ?hye9⟩) hHeld ?reste9; (case hye9 => (intro w hSw; (try dsimp only at hSw); go_simp; (try with_reducible rfl)))
              simp only [Act.put, List.getElem_toArray, List.getElem_cons_zero, List.getElem_cons_succ, List.setIfInBounds_toArray, List.set_cons_zero, List.set_cons_succ]
              refine wpAnyH_take (i := 10) (v := ?ve10) rfl (by kernel_rfl) (by kernel_rfl) (by kernel_rfl) (fun _ _ _ h => h) (Or.inl ⟨by rfl, ?hye10⟩) hHeld ?reste10; (case hye10 => (intro w hSw; (try dsimp only at hSw); go_simp; (try with_reducible rfl)))
              simp only [Act.put, List.getElem_toArray, List.getElem_cons_zero, List.getElem_cons_succ, List.setIfInBounds_toArray, List.set_cons_zero, List.set_cons_succ]
              refine wpAnyH_take (i := 11) (v := ?ve11) rfl (by kernel_rfl) (by kernel_rfl) (by kernel_rfl) (fun _ _ _ h => h) (Or.inl ⟨by rfl, ?hye11⟩) hHeld ?reste11; (case hye11 => (intro w hSw; (try dsimp only at hSw); go_simp; (try with_reducible rfl)))
              simp only [Act.put, List.getElem_toArray, List.getElem_cons_zero, List.getElem_cons_succ, List.setIfInBounds_toArray, List.set_cons_zero, List.set_cons_succ]
              refine wpAnyH_take (i := 12) (v := ?ve12) rfl (by kernel_rfl) (by kernel_rfl) (by kernel_rfl) (fun _ _ _ h => h) (Or.inl ⟨by rfl, ?hye12⟩) hHeld ?reste12; (case hye12 => (intro w hSw; (try dsimp only at hSw); go_simp; (try with_reducible rfl)))
              simp only [Act.put, List.getElem_toArray, List.getElem_cons_zero, List.getElem_cons_succ, List.setIfInBounds_toArray, List.set_cons_zero, List.set_cons_succ]
              refine wpAnyH_take (i := 13) (v := ?ve13) rfl (by kernel_rfl) (by kernel_rfl) (by kernel_rfl) (fun _ _ _ h => h) (Or.inl ⟨by rfl, ?hye13⟩) hHeld ?reste13; (case hye13 => (intro w hSw; (try dsimp only at hSw); go_simp; (try with_reducible rfl)))
              simp only [Act.put, List.getElem_toArray, List.getElem_cons_zero, List.getElem_cons_succ, List.setIfInBounds_toArray, List.set_cons_zero, List.set_cons_succ]
              refine wpAnyH_take (i := 14) (v := ?ve14) rfl (by kernel_rfl) (by kernel_rfl) (by kernel_rfl) (fun _ _ _ h => h) (Or.inl ⟨by rfl, ?hye14⟩) hHeld ?reste14; (case hye14 => (intro w hSw; (try dsimp only at hSw); go_simp; (try with_reducible rfl)))
              simp only [Act.put, List.getElem_toArray, List.getElem_cons_zero, List.getElem_cons_succ, List.setIfInBounds_toArray, List.set_cons_zero, List.set_cons_succ]
              refine wpAnyH_take (i := 15) (v := ?ve15) rfl (by kernel_rfl) (by kernel_rfl) (by kernel_rfl) (fun _ _ _ h => h) (Or.inl ⟨by rfl, ?hye15⟩) hHeld ?reste15; (case hye15 => (intro w hSw; (try dsimp only at hSw); go_simp; (try with_reducible rfl)))
              simp only [Act.put, List.getElem_toArray, List.getElem_cons_zero, List.getElem_cons_succ, List.setIfInBounds_toArray, List.set_cons_zero, List.set_cons_succ]
              refine wpAnyH_take (i := 16) (v := ?ve16) rfl (by kernel_rfl) (by kernel_rfl) (by kernel_rfl) (fun _ _ _ h => h) (Or.inl ⟨by rfl, ?hye16⟩) hHeld ?reste16; (case hye16 => (intro w hSw; (try dsimp only at hSw); go_simp; (try with_reducible rfl)))
              simp only [Act.put, List.getElem_toArray, List.getElem_cons_zero, List.getElem_cons_succ, List.setIfInBounds_toArray, List.set_cons_zero, List.set_cons_succ]
              refine wpAnyH_take (i := 17) (v := ?ve17) rfl (by kernel_rfl) (by kernel_rfl) (by kernel_rfl) (fun _ _ _ h => h) (Or.inl ⟨by rfl, ?hye17⟩) hHeld ?reste17; (case hye17 => (intro w hSw; (try dsimp only at hSw); go_simp; (try with_reducible rfl)))
              simp only [Act.put, List.getElem_toArray, List.getElem_cons_zero, List.getElem_cons_succ, List.setIfInBounds_toArray, List.set_cons_zero, List.set_cons_succ]
              refine wpAnyH_take (i := 18) (v := ?ve18) rfl (by kernel_rfl) (by kernel_rfl) (by kernel_rfl) (fun _ _ _ h => h) (Or.inl ⟨by rfl, ?hye18⟩) hHeld ?reste18; (case hye18 => (intro w hSw; (try dsimp only at hSw); go_simp; (try with_reducible rfl)))
              simp only [Act.put, List.getElem_toArray, List.getElem_cons_zero, List.getElem_cons_succ, List.setIfInBounds_toArray, List.set_cons_zero, List.set_cons_succ]
              refine wpAnyH_take (i := 19) (v := ?ve19) rfl (by kernel_rfl) (by kernel_rfl) (by kernel_rfl) (fun _ _ _ h => h) (Or.inl ⟨by rfl, ?hye19⟩) hHeld ?reste19; (case hye19 => (intro w hSw; (try dsimp only at hSw); go_simp; (try with_reducible rfl)))
              simp only [Act.put, List.getElem_toArray, List.getElem_cons_zero, List.getElem_cons_succ, List.setIfInBounds_toArray, List.set_cons_zero, List.set_cons_succ]
              refine wpAnyH_take (i := 20) (v := ?ve20) rfl (by kernel_rfl) (by kernel_rfl) (by kernel_rfl) (fun _ _ _ h => h) (Or.inl ⟨by rfl, ?hye20⟩) hHeld ?reste20; (case hye20 => (intro w hSw; (try dsimp only at hSw); go_simp; (try with_reducible rfl)))
              simp only [Act.put, List.getElem_toArray, List.getElem_cons_zero, List.getElem_cons_succ, List.setIfInBounds_toArray, List.set_cons_zero, List.set_cons_succ]
              refine wpAnyH_take (i := 21) (v := ?ve21) rfl (by kernel_rfl) (by kernel_rfl) (by kernel_rfl) (fun _ _ _ h => h) (Or.inl ⟨by rfl, ?hye21⟩) hHeld ?reste21; (case hye21 => (intro w hSw; (try dsimp only at hSw); go_simp; (try with_reducible rfl)))
              simp only [Act.put, List.getElem_toArray, List.getElem_cons_zero, List.getElem_cons_succ, List.setIfInBounds_toArray, List.set_cons_zero, List.set_cons_succ]
              refine wpAnyH_take (i := 22) (v := ?ve22) rfl (by kernel_rfl) (by kernel_rfl) (by kernel_rfl) (fun _ _ _ h => h) (Or.inl ⟨by rfl, ?hye22⟩) hHeld ?reste22; (case hye22 => (intro w hSw; (try dsimp only at hSw); go_simp; (try with_reducible rfl)))
              simp only [Act.put, List.getElem_toArray, List.getElem_cons_zero, List.getElem_cons_succ, List.setIfInBounds_toArray, List.set_cons_zero, List.set_cons_succ]
              refine wpAnyH_take (i := 23) (v := ?ve23) rfl (by kernel_rfl) (by kernel_rfl) (by kernel_rfl) (fun _ _ _ h => h) (Or.inl ⟨by rfl, ?hye23⟩) hHeld ?reste23; (case hye23 => (intro w hSw; (try dsimp only at hSw); go_simp; (try with_reducible rfl)))
              simp only [Act.put, List.getElem_toArray, List.getElem_cons_zero, List.getElem_cons_succ, List.setIfInBounds_toArray, List.set_cons_zero, List.set_cons_succ]
              refine wpAnyH_take (i := 24) (v := ?ve24) rfl (by kernel_rfl) (by kernel_rfl) (by kernel_rfl) (fun _ _ _ h => h) (Or.inl ⟨by rfl, ?hye24⟩) hHeld ?reste24; (case hye24 => (intro w hSw; (try dsimp only at hSw); go_simp; (try with_reducible rfl)))
              simp only [Act.put, List.getElem_toArray, List.getElem_cons_zero, List.getElem_cons_succ, List.setIfInBounds_toArray, List.set_cons_zero, List.set_cons_succ]
              refine wpAnyH_done (by kernel_rfl) ?_ _
              refine NoPanic.normal ?_
              go_wp2
              go_roundg (gk - 1)
              case rel =>
                obtain ⟨hso, hno, hst⟩ := HS.out
                have e0 : stepN l pfx o ⟨n', f', c', r', v'⟩ = o := by have h1 := HE.out.1; have h2 := HE.out.2; have h3 := HNF.out; unfold stepN; simp only [← h1, ← h2]; simp [HOL.out, hnl]
                refine ⟨_, j + 1, o, rfl, by go_simp, by omega, by rw [hst, e0], ?_, by omega⟩
                unfold OutS
                rw [← hso, ← hno]
                exact HO.out.of_drew
              case measure => omega
            · have hnl2 : (ol.toList == n'.toList) = false := by rw [toList_beq]; simpa using fun e => hnl e.symm
              go_wp2
              refine wp_region_noPanic ?_
              refine wp_region_held_drew (S := fun W => W.cell? ⟨g, j * 5, none⟩ = some (.string n') ∧ W.cell? ⟨og, om, none⟩ = some (.string ol)) (by kernel_rfl) ?hSf (fun hHeld => ?_)
              case hSf => (try dsimp only); (first | assumption | go_keep)
              refine wpAnyH_take (i := 0) (v := ?vf0) rfl (by kernel_rfl) (by kernel_rfl) (by kernel_rfl) (fun _ _ _ h => h) (Or.inl ⟨by rfl, ?hyf0⟩) hHeld ?restf0; (case hyf0 => (intro w hSw; (try dsimp only at hSw); go_simp; (try with_reducible rfl)))
              simp only [Act.put, List.getElem_toArray, List.getElem_cons_zero, List.getElem_cons_succ, List.setIfInBounds_toArray, List.set_cons_zero, List.set_cons_succ]
              refine wpAnyH_take (i := 1) (v := ?vf1) rfl (by kernel_rfl) (by kernel_rfl) (by kernel_rfl) (fun _ _ _ h => h) (Or.inl ⟨by rfl, ?hyf1⟩) hHeld ?restf1; (case hyf1 => (intro w hSw; (try dsimp only at hSw); go_simp; (try with_reducible rfl)))
              simp only [Act.put, List.getElem_toArray, List.getElem_cons_zero, List.getElem_cons_succ, List.setIfInBounds_toArray, List.set_cons_zero, List.set_cons_succ]
              refine wpAnyH_take (i := 2) (v := ?vf2) rfl (by kernel_rfl) (by kernel_rfl) (by kernel_rfl) (fun _ _ _ h => h) (Or.inl ⟨by rfl, ?hyf2⟩) hHeld ?restf2; (case hyf2 => (intro w hSw; (try dsimp only at hSw); go_simp; (try with_reducible rfl)))
              simp only [Act.put, List.getElem_toArray, List.getElem_cons_zero, List.getElem_cons_succ, List.setIfInBounds_toArray, List.set_cons_zero, List.set_cons_succ]
              refine wpAnyH_take (i := 3) (v := ?vf3) rfl (by kernel_rfl) (by kernel_rfl) (by kernel_rfl) (fun _ _ _ h => h) (Or.inl ⟨by rfl, ?hyf3⟩) hHeld ?restf3; (case hyf3 => (intro w hSw; (try dsimp only at hSw); go_simp; (try with_reducible rfl)))
              simp only [Act.put, List.getElem_toArray, List.getElem_cons_zero, List.getElem_cons_succ, List.setIfInBounds_toArray, List.set_cons_zero, List.set_cons_succ]
              refine wpAnyH_take (i := 4) (v := ?vf4) rfl (by kernel_rfl) (by kernel_rfl) (by kernel_rfl) (fun _ _ _ h => h) (Or.inl ⟨by rfl, ?hyf4⟩) hHeld ?restf4; (case hyf4 => (intro w hSw; (try dsimp only at hSw); go_simp; (try with_reducible rfl)))
              simp only [Act.put, List.getElem_toArray, List.getElem_cons_zero, List.getElem_cons_succ, List.setIfInBounds_toArray, List.set_cons_zero, List.set_cons_succ]
              refine wpAnyH_take (i := 5) (v := ?vf5) rfl (by kernel_rfl) (by kernel_rfl) (by kernel_rfl) (fun _ _ _ h => h) (Or.inl ⟨by rfl, ?hyf5⟩) hHeld ?restf5; (case hyf5 => (intro w hSw; (try dsimp only at hSw); go_simp; (try with_reducible rfl)))
              simp only [Act.put, List.getElem_toArray, List.getElem_cons_zero, List.getElem_cons_succ, List.setIfInBounds_toArray, List.set_cons_zero, List.set_cons_succ]
              refine wpAnyH_take (i := 6) (v := ?vf6) rfl (by kernel_rfl) (by kernel_rfl) (by kernel_rfl) (fun _ _ _ h => h) (Or.inl ⟨by rfl, ?hyf6⟩) hHeld ?restf6; (case hyf6 => (intro w hSw; (try dsimp only at hSw); go_simp; (try with_reducible rfl)))
              simp only [Act.put, List.getElem_toArray, List.getElem_cons_zero, List.getElem_cons_succ, List.setIfInBounds_toArray, List.set_cons_zero, List.set_cons_succ]
              refine wpAnyH_take (i := 7) (v := ?vf7) rfl (by kernel_rfl) (by kernel_rfl) (by kernel_rfl) (fun _ _ _ h => h) (Or.inl ⟨by rfl, ?hyf7⟩) hHeld ?restf7; (case hyf7 => (intro w hSw; (try dsimp only at hSw); go_simp; (try with_reducible rfl)))
              simp only [Act.put, List.getElem_toArray, List.getElem_cons_zero, List.getElem_cons_succ, List.setIfInBounds_toArray, List.set_cons_zero, List.set_cons_succ]
              refine wpAnyH_take (i := 8) (v := ?vf8) rfl (by kernel_rfl) (by kernel_rfl) (by kernel_rfl) (fun _ _ _ h => h) (Or.inl ⟨by rfl, ?hyf8⟩) hHeld ?restf8; (case hyf8 => (intro w hSw; (try dsimp only at hSw); go_simp; (try with_reducible rfl)))
              simp only [Act.put, List.getElem_toArray, List.getElem_cons_zero, List.getElem_cons_succ, List.setIfInBounds_toArray, List.set_cons_zero, List.set_cons_succ]
              refine wpAnyH_take (i := 9) (v := ?vf9) rfl (by kernel_rfl) (by kernel_rfl) (by kernel_rfl) (fun _ _ _ h => h) (Or.inl ⟨by rfl, ?hyf9⟩) hHeld ?restf9; (case hyf9 => (intro w hSw; (try dsimp only at hSw); go_simp; (try with_reducible rfl)))
              simp only [Act.put, List.getElem_toArray, List.getElem_cons_zero, List.getElem_cons_succ, List.setIfInBounds_toArray, List.set_cons_zero, List.set_cons_succ]
              refine wpAnyH_take (i := 10) (v := ?vf10) rfl (by kernel_rfl) (by kernel_rfl) (by kernel_rfl) (fun _ _ _ h => h) (Or.inl ⟨by rfl, ?hyf10⟩) hHeld ?restf10; (case hyf10 => (intro w hSw; (try dsimp only at hSw); go_simp; (try with_reducible rfl)))
              simp only [Act.put, List.getElem_toArray, List.getElem_cons_zero, List.getElem_cons_succ, List.setIfInBounds_toArray, List.set_cons_zero, List.set_cons_succ]
              refine wpAnyH_take (i := 11) (v := ?vf11) rfl (by kernel_rfl) (by kernel_rfl) (by kernel_rfl) (fun _ _ _ h => h) (Or.inl ⟨by rfl, ?hyf11⟩) hHeld ?restf11; (case hyf11 => (intro w hSw; (try dsimp only at hSw); go_simp; (try with_reducible rfl)))
              simp only [Act.put, List.getElem_toArray, List.getElem_cons_zero, List.getElem_cons_succ, List.setIfInBounds_toArray, List.set_cons_zero, List.set_cons_succ]
              refine wpAnyH_take (i := 12) (v := ?vf12) rfl (by kernel_rfl) (by kernel_rfl) (by kernel_rfl) (fun _ _ _ h => h) (Or.inl ⟨by rfl, ?hyf12⟩) hHeld ?restf12; (case hyf12 => (intro w hSw; (try dsimp only at hSw); go_simp; (try with_reducible rfl)))
              simp only [Act.put, List.getElem_toArray, List.getElem_cons_zero, List.getElem_cons_succ, List.setIfInBounds_toArray, List.set_cons_zero, List.set_cons_succ]
              refine wpAnyH_take (i := 13) (v := ?vf13) rfl (by kernel_rfl) (by kernel_rfl) (by kernel_rfl) (fun _ _ _ h => h) (Or.inl ⟨by rfl, ?hyf13⟩) hHeld ?restf13; (case hyf13 => (intro w hSw; (try dsimp only at hSw); go_simp; (try with_reducible rfl)))
              simp only [Act.put, List.getElem_toArray, List.getElem_cons_zero, List.getElem_cons_succ, List.setIfInBounds_toArray, List.set_cons_zero, List.set_cons_succ]
              refine wpAnyH_take (i := 14) (v := ?vf14) rfl (by kernel_rfl) (by kernel_rfl) (by kernel_rfl) (fun _ _ _ h => h) (Or.inl ⟨by rfl, ?hyf14⟩) hHeld ?restf14; (case hyf14 => (intro w hSw; (try dsimp only at hSw); go_simp; (try with_reducible rfl)))
              simp only [Act.put, List.getElem_toArray, List.getElem_cons_zero, List.getElem_cons_succ, List.setIfInBounds_toArray, List.set_cons_zero, List.set_cons_succ]
              refine wpAnyH_take (i := 15) (v := ?vf15) rfl (by kernel_rfl) (by kernel_rfl) (by kernel_rfl) (fun _ _ _ h => h) (Or.inl ⟨by rfl, ?hyf15⟩) hHeld ?restf15; (case hyf15 => (intro w hSw; (try dsimp only at hSw); go_simp; (try with_reducible rfl)))
              simp only [Act.put, List.getElem_toArray, List.getElem_cons_zero, List.getElem_cons_succ, List.setIfInBounds_toArray, List.set_cons_zero, List.set_cons_succ]
              refine wpAnyH_take (i := 16) (v := ?vf16) rfl (by kernel_rfl) (by kernel_rfl) (by kernel_rfl) (fun _ _ _ h => h) (Or.inl ⟨by rfl, ?hyf16⟩) hHeld ?restf16; (case hyf16 => (intro w hSw; (try dsimp only at hSw); go_simp; (try with_reducible rfl)))
              simp only [Act.put, List.getElem_toArray, List.getElem_cons_zero, List.getElem_cons_succ, List.setIfInBounds_toArray, List.set_cons_zero, List.set_cons_succ]
              refine wpAnyH_take (i := 17) (v := ?vf17) rfl (by kernel_rfl) (by kernel_rfl) (by kernel_rfl) (fun _ _ _ h => h) (Or.inl ⟨by rfl, ?hyf17⟩) hHeld ?restf17; (case hyf17 => (intro w hSw; (try dsimp only at hSw); go_simp; (try with_reducible rfl)))
              simp only [Act.put, List.getElem_toArray, List.getElem_cons_zero, List.getElem_cons_succ, List.setIfInBounds_toArray, List.set_cons_zero, List.set_cons_succ]
              refine wpAnyH_take (i := 18) (v := ?vf18) rfl (by kernel_rfl) (by kernel_rfl) (by kernel_rfl) (fun _ _ _ h => h) (Or.inl ⟨by rfl, ?hyf18⟩) hHeld ?restf18; (case hyf18 => (intro w hSw; (try dsimp only at hSw); go_simp; (try with_reducible rfl)))
              simp only [Act.put, List.getElem_toArray, List.getElem_cons_zero, List.getElem_cons_succ, List.setIfInBounds_toArray, List.set_cons_zero, List.set_cons_succ]
              refine wpAnyH_take (i := 19) (v := ?vf19) rfl (by kernel_rfl) (by kernel_rfl) (by kernel_rfl) (fun _ _ _ h => h) (Or.inl ⟨by rfl, ?hyf19⟩) hHeld ?restf19; (case hyf19 => (intro w hSw; (try dsimp only at hSw); go_simp; (try with_reducible rfl)))
              simp only [Act.put, List.getElem_toArray, List.getElem_cons_zero, List.getElem_cons_succ, List.setIfInBounds_toArray, List.set_cons_zero, List.set_cons_succ]
              refine wpAnyH_take (i := 20) (v := ?vf20) rfl (by kernel_rfl) (by kernel_rfl) (by kernel_rfl) (fun _ _ _ h => h) (Or.inl ⟨by rfl, ?hyf20⟩) hHeld ?restf20; (case hyf20 => (intro w hSw; (try dsimp only at hSw); go_simp; (try with_reducible rfl)))
              simp only [Act.put, List.getElem_toArray, List.getElem_cons_zero, List.getElem_cons_succ, List.setIfInBounds_toArray, List.set_cons_zero, List.set_cons_succ]
              refine wpAnyH_take (i := 21) (v := ?vf21) rfl (by kernel_rfl) (by kernel_rfl) (by kernel_rfl) (fun _ _ _ h => h) (Or.inl ⟨by rfl, ?hyf21⟩) hHeld ?restf21; (case hyf21 => (intro w hSw; (try dsimp only at hSw); go_simp; (try with_reducible rfl)))
              simp only [Act.put, List.getElem_toArray, List.getElem_cons_zero, List.getElem_cons_succ, List.setIfInBounds_toArray, List.set_cons_zero, List.set_cons_succ]
              refine wpAnyH_take (i := 22) (v := ?vf22) rfl (by kernel_rfl) (by kernel_rfl) (by kernel_rfl) (fun _ _ _ h => h) (Or.inl ⟨by rfl, ?hyf22⟩) hHeld ?restf22; (case hyf22 => (intro w hSw; (try dsimp only at hSw); go_simp; (try with_reducible rfl)))
              simp only [Act.put, List.getElem_toArray, List.getElem_cons_zero, List.getElem_cons_succ, List.setIfInBounds_toArray, List.set_cons_zero, List.set_cons_succ]
              refine wpAnyH_take (i := 23) (v := ?vf23) rfl (by kernel_rfl) (by kernel_rfl) (by kernel_rfl) (fun _ _ _ h => h) (Or.inl ⟨by rfl, ?hyf23⟩) hHeld ?restf23; (case hyf23 => (intro w hSw; (try dsimp only at hSw); go_simp; (try with_reducible rfl)))
              simp only [Act.put, List.getElem_toArray, List.getElem_cons_zero, List.getElem_cons_succ, List.setIfInBounds_toArray, List.set_cons_zero, List.set_cons_succ]
              refine wpAnyH_take (i := 24) (v := ?vf24) rfl (by kernel_rfl) (by kernel_rfl) (by kernel_rfl) (fun _ _ _ h => h) (Or.inl ⟨by rfl, ?hyf24⟩) hHeld ?restf24; (case hyf24 => (intro w hSw; (try dsimp only at hSw); go_simp; (try with_reducible rfl)))
              simp only [Act.put, List.getElem_toArray, List.getElem_cons_zero, List.getElem_cons_succ, List.setIfInBounds_toArray, List.set_cons_zero, List.set_cons_succ]
              refine wpAnyH_done (by kernel_rfl) ?_ _
              refine NoPanic.normal ?_
              go_wp2_with (at_builtin; go_must (refine wpList_append_own_at _ rfl _ _ 51 rfl w.heap.size 9 i0 (.string ⟨#[]⟩) 1 16 Tryz.underlying51 hi hz0 hz1 hz2 rfl (by decide) _ _ _ rfl (HO.out.of_drew.alloc _).row ⟨w2.drew.heap.size, 0, none⟩ 1 1 [.string n'] rfl rfl (newsAt (by first | rfl | simp) _ _ rfl) (by simp [Value.oneCell']) (by unfold maxLen; omega) (by omega) (by have := HO.out.below.size; simp; omega) ?_); intro v5 w5 hr5 hg5 _ _; refine Halt.of ?_)
              unfold Halt
              go_wp2
              go_roundg (gk - 1)
              case rel =>
                obtain ⟨hso, hno, hst⟩ := HS.out
                have e0 : stepN l pfx o ⟨n', f', c', r', v'⟩ = o ++ [n'] := by have h1 := HE.out.1; have h2 := HE.out.2; have h3 := HNF.out; unfold stepN; simp only [← h1, ← h2]; rw [show fl.isEmpty = false by cases fl with | nil => (simp at h3; omega) | cons _ _ => rfl]; simp [HOL.out, Ne.symm hnl]
                have e1 : (o ++ [n']).length = (om + 1) + 1 := by rw [hno]; simp
                have e2 : (o ++ [n']).map Value.string = so ++ [.string n'] := by rw [hso]; simp
                refine ⟨_, j + 1, o ++ [n'], rfl, by go_simp, by omega, by rw [hst, e0], ?_, by rw [e1]; omega⟩
                unfold OutS
                rw [e1, e2]
                exact (HO.out.of_drew.alloc _).append hg5 hr5
              case measure => omega
    · have hje : j = l.length := by omega
      subst hje
      rw [List.take_length] at ho
      have HF := Lib.hid (And.intro ho hout)
      clear ho hout
      go_wp2
      go_ret
      obtain ⟨ho, hout⟩ := HF.out
      refine ⟨_, rfl, ?_, hout.below⟩
      rw [show namesD l pfx = o from ho.symm]
      exact hout.row
end Go.Proofs.YtpdbmpbmepkikaaGreatDoor

namespace Go.Proofs.YtpdbmpbmepkikaaGreatDoor
open Go.RowKit

/-- A slice value that holds texts. -/
def StrAt (w : World) (v : Value) (l : List ByteArray) : Prop := w.ownsRow 0 9 1 v l.length (l.map .string)
theorem StrAt.cell {w : World} {v : Value} {l : List ByteArray} (h : StrAt w v l) {j : Nat} (hj : j < l.length) : ∃ g cap, v = .slice (some ⟨g, 0, none⟩) l.length cap ∧ g < w.heap.size ∧ w.cell? ⟨g, j, none⟩ = some (.string l[j]) := by
  obtain ⟨h1, h2⟩ := h
  rcases h2 with ⟨_, h2⟩ | ⟨g, cap, cur, hv, _, hg, hn, _, _, ht⟩
  · omega
  · refine ⟨g, cap, hv, (Array.getElem?_eq_some_iff.1 hg).1, ?_⟩
    have := Joins.cell_of_block hg j
    rw [this]
    have h3 : (l.map Value.string)[j]? = some (.string l[j]) := by simp [hj]
    rw [← h3, ← ht, List.getElem?_take_of_lt (by omega)]
    simp
theorem StrAt.slice {w : World} {v : Value} {l : List ByteArray} (h : StrAt w v l) : ∃ ad cap, v = .slice ad l.length cap := by
  rcases h.2 with ⟨rfl, h0⟩ | ⟨q, cap, cur, rfl, _⟩
  · exact ⟨none, 0, by rw [h0]⟩
  · exact ⟨_, _, rfl⟩
theorem StrAt.of_row {w : World} {base : Nat} {v : Value} {l : List ByteArray} (h : w.ownsRow base 9 1 v l.length (l.map .string)) : StrAt w v l := ownsRow_base h fun _ _ => Nat.zero_le _
theorem StrAt.below {w w' : World} {v : Value} {l : List ByteArray} (h : StrAt w v l) {N : Nat} (hb : Below N w w') (hN : w.heap.size ≤ N) : StrAt w' v l := ownsRow_block h fun g hg => hb.block g (Nat.lt_of_lt_of_le (World.ownsRow.lt h g hg).2 hN)
theorem filter_takeB {p : ByteArray → Bool} {l : List ByteArray} {j : Nat} (hj : j < l.length) : (l.take (j + 1)).filter p = if p l[j] then (l.take j).filter p ++ [l[j]] else (l.take j).filter p := by
  rw [List.take_add_one, List.filter_append]
  simp only [List.getElem?_eq_getElem hj, Option.toList_some]
  split
  · rename_i h; rw [List.filter_cons_of_pos h]; simp
  · rename_i h; rw [List.filter_cons_of_neg h]; simp

set_option maxHeartbeats 1000000 in
theorem namesR_any (p : Nat) (id : Int) (m g0 : Nat) (L : List Reg) (pfx : ByteArray) (w : World) (hR : RepAt w p id m g0) (hB : BookAt w m L) (hL : L.length ≤ 1000000) (hn : ∀ x ∈ L, x.name.size ≤ 4096) :
    Calls Tryz.prog 47 #[.pointer (some ⟨p, 0, none⟩), .string pfx] w fun e w' => ∃ v xs, e = .returned v ∧ xs.Nodup ∧ (∀ n, n ∈ xs ↔ ∃ y ∈ L, y.name = n) ∧
      w'.ownsRow w.heap.size 9 1 v ((sortB xs).filter fun n => preB pfx n && !(shownL L n).isEmpty).length (((sortB xs).filter fun n => preB pfx n && !(shownL L n).isEmpty).map .string) ∧ Below w.heap.size w w' := by
  have hpl := hR.lt
  have hp1 := hR.cell.2.1
  obtain ⟨i0, hi, hz0, hz1, hz2⟩ := info_parts info9
  have HC := Lib.hid (names_any m L w hB (by omega))
  have HB := Lib.hid hB
  have HN := Lib.hid hn
  clear hR hB hn
  go_enter Tryz.func47, Tryz.ntmps47
  go_wp2_with (go_at_call 70; refine HC.out.mono ?_; rintro e w1 ⟨v, xs, rfl, hnd, hmem, ho, hb⟩; refine Halt.of ?_)
  have hlen : xs.length ≤ 1000000 := by
    have h1 := hnd.length_le_of_subset (l₂ := L.map (·.name)) (fun a ha => by
      obtain ⟨y, hy, rfl⟩ := (hmem a).1 ha
      exact List.mem_map_of_mem hy)
    simp at h1; omega
  obtain ⟨ss, hss⟩ : ∃ ss, ss = sortB xs := ⟨_, rfl⟩
  have hsl : ss.length = xs.length := by rw [hss, sortB_length]
  rw [← hss, ← hsl] at ho
  have hsn : ∀ n ∈ ss, n.size ≤ 4096 := fun n hn => by
    rw [hss] at hn
    obtain ⟨y, hy, rfl⟩ := (hmem n).1 ((sortB_is_perm xs).subset hn)
    exact HN.out y hy
  obtain ⟨ad0, cap0, hv⟩ := (StrAt.of_row ho).slice
  subst hv
  have HS : Hid (StrAt w1 (.slice ad0 ss.length cap0) ss) := Lib.hid (StrAt.of_row ho)
  have HX := Lib.hid (And.intro hnd (And.intro hmem (And.intro hss hb)))
  have HSN := Lib.hid hsn
  have hp2 := (hb.cell (p := ⟨p, 1, none⟩) hpl).trans hp1
  have hpl2 := Nat.lt_of_lt_of_le hpl hb.size
  have hwz := hb.size
  rw [← hsl] at hlen
  clear hnd hmem hss hb ho hsn hsl HC
  unfold Halt
  go_wp2
  go_loopg [5, 14] ss.length (fun k out i wr => ∃ (ov : Value) (j : Nat) (o : List ByteArray), ov = out ∧ i = .int .i64 j ∧ k + j = ss.length ∧ o = (ss.take j).filter (fun n => preB pfx n && !(shownL L n).isEmpty) ∧ OutS w1 ov o wr)
  case atStart => exact ⟨_, 0, [], rfl, rfl, by omega, by simp, OutAt.new _ _ _⟩
  case round =>
    obtain ⟨out, j, o, rfl, rfl, hk, hoe, hout⟩ := hrel
    by_cases hj : j < ss.length
    · obtain ⟨g, cap, hv, hg, y0⟩ := HS.out.cell hj
      obtain ⟨rfl, rfl⟩ : ad0 = some ⟨g, 0, none⟩ ∧ cap0 = cap := by
        simp only [Value.slice.injEq] at hv; exact ⟨hv.1, hv.2.2⟩
      have hstep := filter_takeB (p := fun n => preB pfx n && !(shownL L n).isEmpty) hj
      rw [← hoe] at hstep
      have hlo : o.length ≤ j := by rw [hoe]; exact Nat.le_trans (List.length_filter_le _ _) (by rw [List.length_take]; exact Nat.min_le_left _ _)
      have hsz := HSN.out ss[j] (List.getElem_mem hj)
      obtain ⟨n, hne⟩ : ∃ n, n = ss[j] := ⟨_, rfl⟩
      rw [← hne] at hstep y0 hsz
      have z0 : wr.cell? ⟨g, j, none⟩ = some (.string n) := (hout.below.cell (p := ⟨_, _, none⟩) hg).trans y0
      have zp : wr.cell? ⟨p, 1, none⟩ = some (.map (some m)) := (hout.below.cell (p := ⟨_, _, none⟩) hpl2).trans hp2
      obtain ⟨so, hso⟩ : ∃ so : List Value, so = o.map .string := ⟨_, rfl⟩
      obtain ⟨no, hno⟩ : ∃ no, no = o.length := ⟨_, rfl⟩
      have HO : Hid (OutAt w1 9 1 out no so wr) := Lib.hid (by rw [hno, hso]; exact hout)
      have HSt := Lib.hid (And.intro hso (And.intro hno hstep))
      rw [← hno] at hlo
      have hal := alive_any m L n wr (HB.out.below (HX.out.2.2.2.trans (hout.below.mono hwz))) (by omega) hsz
      obtain ⟨al, hale⟩ : ∃ al, al = !(shownL L n).isEmpty := ⟨_, rfl⟩
      rw [← hale] at hal
      obtain ⟨pb, hpb⟩ : ∃ pb, pb = preB pfx n := ⟨_, rfl⟩
      have hpx := Tryz.strings_HasPrefix n pfx wr
      rw [show Lib.hasPrefix n.data.toList pfx.data.toList = pb from hpb.symm] at hpx
      have HA := Lib.hid hal
      have HP := Lib.hid hpx
      have HV := Lib.hid (And.intro hale hpb)
      clear hso hno hstep hoe hout y0 hv hal hpx hale hpb hne
      cases pb with
      | false =>
        go_wp2_with (go_at_call 71; refine HP.out.mono ?_; rintro e w' ⟨rfl, hw'⟩; subst hw')
        go_roundg (gk - 1)
        case rel =>
          obtain ⟨hso, hno, hstep⟩ := HSt.out
          refine ⟨_, j + 1, o, rfl, by go_simp, by omega, ?_, ?_⟩
          · rw [hstep]; simp only [← HV.out.1, ← HV.out.2]; simp
          · unfold OutS; rw [← hso, ← hno]; exact HO.out
        case measure => omega
      | true =>
        go_wp2_with (first
          | (go_at_call 71; refine HP.out.mono ?_; rintro e w' ⟨rfl, hw'⟩; subst hw')
          | (go_at_call 69; refine HA.out.mono ?_; rintro e w2 ⟨rfl, hb2⟩; refine Halt.of ?_))
        have HO2 : Hid (OutAt w1 9 1 out no so w2) := Lib.hid (HO.out.later hb2)
        clear hb2 HA HP
        cases al with
        | false =>
          unfold Halt
          go_wp2
          go_roundg (gk - 1)
          case rel =>
            obtain ⟨hso, hno, hstep⟩ := HSt.out
            refine ⟨_, j + 1, o, rfl, by go_simp, by omega, ?_, ?_⟩
            · rw [hstep]; simp only [← HV.out.1, ← HV.out.2]; simp
            · unfold OutS; rw [← hso, ← hno]; exact HO2.out
          case measure => omega
        | true =>
          unfold Halt
          go_wp2_with (at_builtin; go_must (refine wpList_append_own_at _ rfl _ _ 51 rfl w1.heap.size 9 i0 (.string ⟨#[]⟩) 1 16 Tryz.underlying51 hi hz0 hz1 hz2 rfl (by decide) _ _ _ rfl (HO2.out.alloc _).row ⟨w2.heap.size, 0, none⟩ 1 1 [.string n] rfl rfl (newsAt (by first | rfl | simp) _ _ rfl) (by simp [Value.oneCell']) (by unfold maxLen; omega) (by omega) (by have := HO2.out.below.size; simp; omega) ?_); intro v5 w5 hr5 hg5 _ _; refine Halt.of ?_)
          unfold Halt
          go_wp2
          go_roundg (gk - 1)
          case rel =>
            obtain ⟨hso, hno, hstep⟩ := HSt.out
            have e1 : (o ++ [n]).length = no + 1 := by rw [hno]; simp
            have e2 : (o ++ [n]).map Value.string = so ++ [.string n] := by rw [hso]; simp
            refine ⟨_, j + 1, o ++ [n], rfl, by go_simp, by omega, ?_, ?_⟩
            · rw [hstep]; simp only [← HV.out.1, ← HV.out.2]; simp
            · unfold OutS; rw [e1, e2]; exact (HO2.out.alloc _).append hg5 hr5
          case measure => omega
    · have hje : j = ss.length := by omega
      subst hje
      rw [List.take_length] at hoe
      have HF := Lib.hid (And.intro hoe hout)
      clear hoe hout
      go_wp2
      go_ret
      obtain ⟨hoe, hout⟩ := HF.out
      obtain ⟨hnd, hmem, hss, hb⟩ := HX.out
      refine ⟨_, xs, rfl, hnd, hmem, ?_, hb.trans (hout.below.mono hwz)⟩
      rw [← hss, ← hoe]
      exact ownsRow_base hout.row fun g hg => by have := (hout.row.lt g hg).1; omega
end Go.Proofs.YtpdbmpbmepkikaaGreatDoor
