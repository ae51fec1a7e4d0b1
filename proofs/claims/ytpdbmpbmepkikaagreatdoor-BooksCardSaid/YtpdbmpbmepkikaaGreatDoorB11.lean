/- LawQ: The law's asks, of books and of digests: the program's are the document's. Conditions: at most 100000 registers and replicas.
   LawR: The law's plays, of edits and questions, with the last look at every replica. Condition: no text is longer than memory.
   LawS: The law's Books, called: true. Conditions: no text is longer than memory; the numbers fit. -/
import Derived.Test.YtpdbmpbmepkikaaGreatDoorB10
import Derived.Test.YtpdbmpbmepkikaaGreatDoorB08
set_option linter.all false
set_option linter.unusedSimpArgs false
set_option linter.unusedVariables false

namespace Go.Proofs.YtpdbmpbmepkikaaGreatDoor
open Go.RowKit

set_option maxHeartbeats 2000000 in
set_option maxRecDepth 100000 in
theorem asks6_any (N K x pw : Nat) (pv qv : Value) (os : List One) (i : Nat) (o : One) (a b c : Int) (s t u : ByteArray) (w : World) (hK : K ≤ 100000) (hos : os.length ≤ 100000) (h : LawAt N K w x pw pv qv os) (ho : Who os i o) :
    Calls Tryz.prog 49 #[.pointer (some ⟨x, 0, none⟩), .agg #[.int .i64 6, .int .i64 a, .int .i64 b, .int .i64 c, .string s, .string t, .string u], .int .i64 i] w fun e w' => e = .returned (.bool true) ∧ Below w.heap.size w w' := by
  obtain ⟨g, cap, hqv, hg, hci⟩ := h.cell ho.lt
  rw [ho.get] at hci
  subst hqv
  have hlt := ho.lt
  obtain ⟨cs, hcs⟩ : ∃ cs : Array Value, cs = #[.int .i64 6, .int .i64 a, .int .i64 b, .int .i64 c, .string s, .string t, .string u] := ⟨_, rfl⟩
  obtain ⟨w1, hw1⟩ : ∃ w1, w1 = w.alloc (.cells cs 102) := ⟨_, rfl⟩
  have hA1 : AskAt N K x pw pv (.slice (some ⟨g, 0, none⟩) os.length cap) os w.heap.size cs w w1 := hw1 ▸ AskAt.new h cs
  have C1 := Lib.hid (told_any N K x pw pv (.slice (some ⟨g, 0, none⟩) os.length cap) os i o w1 hK hos hA1.law ho)
  have hx1 : w.cell? ⟨x, 1, none⟩ = some (.slice (some ⟨g, 0, none⟩) os.length cap) := Joins.cell_of_block h.box 1
  have hxl := h.xlt
  have hql := (h.ones o ho.mem).qlt
  have hii : (i : Int) < (os.length : Int) := by omega
  have HA := Lib.hid hA1
  rw [hcs] at hw1
  have HB1 := Lib.hid hw1
  clear h hcs hw1 hlt hA1
  go_enter Tryz.func49, Tryz.ntmps49
  go_wp2_with (rw [← HB1.out]; go_at_call 80; go_must (refine C1.out.mono ?_); rintro e w2 ⟨v, rfl, hl2, hb2⟩; have HL2 := Lib.hid (And.intro hl2 hb2); clear hl2 hb2; refine Halt.of ?_)
  have hA2 : AskAt N K x pw pv (.slice (some ⟨g, 0, none⟩) os.length cap) os w.heap.size cs w w2 := HA.out.later HL2.out.2
  have z1 : w2.cell? ⟨o.q, 1, none⟩ = some o.lv := hA2.q1 ho
  have HC := Lib.hid (sameBook_any v o.lv o.l w2 HL2.out.1 (hA2.law.ones o ho.mem).list (by have := (hA2.law.small hK ho).1; omega))
  have HO := Lib.hid hA2.below
  clear hA2 HL2 HA hK hos C1 HB1 ho hci hx1 hii
  unfold Halt
  go_wp2_with (go_at_call 81; go_must (refine HC.out.mono ?_); rintro e w5 ⟨rfl, hb5⟩; have HB5 := Lib.hid hb5; clear hb5; refine Halt.of ?_)
  unfold Halt
  go_wp2
  go_ret
  exact ⟨rfl, HO.out.trans (HB5.out.mono HO.out.size)⟩

theorem Good.fit {x : Reg} (h : Good x) {K : Nat} (hK : K ≤ 100000) (hc : 0 ≤ x.c ∧ x.c ≤ K ∧ I64 x.r) : Fit x := by
  obtain ⟨h1, h2, h3⟩ := hc
  refine ⟨?_, ?_, ?_, ?_, h3⟩
  · have := h.name8; omega
  · have := h.field4; omega
  · have := h.value; omega
  · constructor <;> omega

set_option maxHeartbeats 2000000 in
set_option maxRecDepth 100000 in
theorem asks7_any (N K x pw : Nat) (pv qv : Value) (os : List One) (i : Nat) (o : One) (a b c : Int) (s t u : ByteArray) (w : World) (hK : K ≤ 100000) (hos : os.length ≤ 100000) (h : LawAt N K w x pw pv qv os) (ho : Who os i o) (ht : Tab w) :
    Calls Tryz.prog 49 #[.pointer (some ⟨x, 0, none⟩), .agg #[.int .i64 7, .int .i64 a, .int .i64 b, .int .i64 c, .string s, .string t, .string u], .int .i64 i] w fun e w' => e = .returned (.bool true) ∧ Below w.heap.size w w' := by
  obtain ⟨g, cap, hqv, hg, hci⟩ := h.cell ho.lt
  rw [ho.get] at hci
  subst hqv
  have hlt := ho.lt
  obtain ⟨cs, hcs⟩ : ∃ cs : Array Value, cs = #[.int .i64 7, .int .i64 a, .int .i64 b, .int .i64 c, .string s, .string t, .string u] := ⟨_, rfl⟩
  obtain ⟨dg, hdg⟩ : ∃ dg, dg = hashL (o.l.filter fun x => preB s x.key) := ⟨_, rfl⟩
  have hFl : ∀ y ∈ o.l, Fit y := fun y hy => ((h.ones o ho.mem).bk.good y hy).fit hK ((h.ones o ho.mem).cnt y hy)
  have hFL : ∀ y ∈ o.L, Fit y := fun y hy => hFl y ((h.ones o ho.mem).bk.perm.subset hy)
  have C1 : Hid (∀ W, AskAt N K x pw pv (.slice (some ⟨g, 0, none⟩) os.length cap) os w.heap.size cs w W → Calls Tryz.prog 20 #[.pointer (some ⟨pw, 0, none⟩), .int .i64 i, .string s] W fun e W' => e = .returned (.string (digStr dg)) ∧ AskAt N K x pw pv (.slice (some ⟨g, 0, none⟩) os.length cap) os w.heap.size cs w W') :=
    Lib.hid fun W hW => by
      have h1 := hW.law.ones o ho.mem
      have hp : (os.map (·.p))[i]'(by simpa using ho.lt) = o.p := by simp [ho.get]
      have := digestW_any pw pv (os.map (·.p)) i (by simpa using ho.lt) o.id o.m o.g o.L s W hW.law.wld (by simp; omega) (by rw [hp]; exact h1.rep) h1.book (by have := (hW.law.small hK ho).2; omega) (ht.below hW.below (Nat.le_refl _)) hFL
      rw [h1.bk.below, ← hdg] at this
      exact this.mono fun e W' h => ⟨h.1, hW.later h.2⟩
  have C2 : Hid (∀ W, AskAt N K x pw pv (.slice (some ⟨g, 0, none⟩) os.length cap) os w.heap.size cs w W → Calls Tryz.prog 82 #[o.lv, .string s] W fun e W' => e = .returned (.string (linesB o.l s)) ∧ AskAt N K x pw pv (.slice (some ⟨g, 0, none⟩) os.length cap) os w.heap.size cs w W') :=
    Lib.hid fun W hW => (linesD_any o.l o.lv s W (hW.law.ones o ho.mem).list (by have := (hW.law.small hK ho).1; omega) hFl).mono fun e W' h => ⟨h.1, hW.later h.2⟩
  have hsz : (linesB o.l s).size ≤ 1099511627776 := by
    have := linesB_size s hFl o.l.length (Nat.le_refl _)
    rw [List.take_length] at this
    have := (h.small hK ho).1
    omega
  have hhb : hashB 14695981039346656037 (linesB o.l s) = dg := by rw [hashB_lines, hdg]
  obtain ⟨ln, hln⟩ : ∃ ln, ln = linesB o.l s := ⟨_, rfl⟩
  rw [← hln] at hsz hhb C2
  obtain ⟨w1, hw1⟩ : ∃ w1, w1 = w.alloc (.cells cs 102) := ⟨_, rfl⟩
  have hA1 : AskAt N K x pw pv (.slice (some ⟨g, 0, none⟩) os.length cap) os w.heap.size cs w w1 := hw1 ▸ AskAt.new h cs
  have y0 : ∀ W, AskAt N K x pw pv (.slice (some ⟨g, 0, none⟩) os.length cap) os w.heap.size cs w W → W.cell? ⟨x, 0, none⟩ = some (.pointer (some ⟨pw, 0, none⟩)) := fun W hW => hW.x0
  have y4 : ∀ W, AskAt N K x pw pv (.slice (some ⟨g, 0, none⟩) os.length cap) os w.heap.size cs w W → W.cell? ⟨w.heap.size, 4, none⟩ = some (.string s) := fun W hW => (hW.bc 4).trans (by rw [hcs]; rfl)
  have z1 : ∀ W, AskAt N K x pw pv (.slice (some ⟨g, 0, none⟩) os.length cap) os w.heap.size cs w W → W.cell? ⟨o.q, 1, none⟩ = some o.lv := fun W hW => hW.q1 ho
  have hx1 : w.cell? ⟨x, 1, none⟩ = some (.slice (some ⟨g, 0, none⟩) os.length cap) := Joins.cell_of_block h.box 1
  have hxl := h.xlt
  have hii : (i : Int) < (os.length : Int) := by omega
  rw [hcs] at hw1
  have HB1 := Lib.hid hw1
  have HZ1 := Lib.hid z1
  clear h hcs hw1 hlt ht hFl hFL hdg hln z1
  go_enter Tryz.func49, Tryz.ntmps49
  go_wp2
  rw [← HB1.out]
  go_region_held3 (fun W => AskAt N K x pw pv (.slice (some ⟨g, 0, none⟩) os.length cap) os w.heap.size cs w W) (with_reducible (first | assumption | (rw [AskAt_drew]; assumption)))
    ((first | (go_at_call 20; refine Calls.mono (C1.out _ ?hw1) ?_; (case hw1 => with_reducible (first | assumption | (rw [AskAt_drew]; assumption))); rintro e w2 ⟨rfl, hA2⟩)))
  have z1 := HZ1.out
  clear y0 hx1 hci HB1 hA1 HZ1 C1 hii hxl hg
  go_wp2
  go_region_held3 (fun W => AskAt N K x pw pv (.slice (some ⟨g, 0, none⟩) os.length cap) os w.heap.size cs w W) (with_reducible (first | assumption | (rw [AskAt_drew]; assumption)))
    ((first | (go_at_call 82; refine Calls.mono (C2.out _ ?hw1) ?_; (case hw1 => with_reducible (first | assumption | (rw [AskAt_drew]; assumption))); rintro e w3 ⟨rfl, hA3⟩)))
  have HC := Lib.hid (hashD_any ln w3 hsz)
  rw [hhb] at HC
  have HO := Lib.hid hA3.below
  clear hA2 hA3 z1 y4 C2 ho hK hos hhb hsz
  go_wp2_with (go_at_call 83; go_must (refine HC.out.mono ?_); rintro e w5 ⟨rfl, hb5⟩; have HB5 := Lib.hid hb5; clear hb5; refine Halt.of ?_)
  unfold Halt
  go_wp2
  go_ret
  exact ⟨rfl, HO.out.trans (HB5.out.mono HO.out.size)⟩
end Go.Proofs.YtpdbmpbmepkikaaGreatDoor

namespace Go.Proofs.YtpdbmpbmepkikaaGreatDoor
open Go.RowKit
set_option maxHeartbeats 4000000 in
set_option maxRecDepth 100000 in
theorem playsT_any (v : Value) (l : List OpR) (kg kcap : Nat) (ks : List Int) (w : World) (hS : ScriptAt w v l) (hl : l.length ≤ 140737488355328) (hz : ∀ x ∈ l, x.s.size ≤ 140737488355328 ∧ x.t.size ≤ 140737488355328 ∧ x.u.size ≤ 140737488355328)
    (hkg : kg < w.heap.size) (hks : ∀ j (hj : j < ks.length), w.cell? ⟨kg, j, none⟩ = some (.int .i64 ks[j])) (hkl : ks.length ≤ 100) (hT : EType w) (ht : Tab w) (hstep : StepsAt l ks) :
    Calls Tryz.prog 34 #[v, .slice (some ⟨kg, 0, none⟩) ks.length kcap, .bool true] w fun e w' => e = .returned (.bool true) ∧ Below w.heap.size w w' := by
  have HC := Lib.hid (smallL_any v l w hS hl hz)
  have h3 := ht.lt
  obtain ⟨sad, scap, hsv⟩ : ∃ sad scap, v = .slice sad l.length scap := by
    rcases hS with ⟨⟨ad, cap, rfl⟩, rfl⟩ | ⟨g, off, cap, rfl, _⟩
    · exact ⟨_, _, rfl⟩
    · exact ⟨_, _, rfl⟩
  subst hsv
  cases hsm : smallS l with
  | false =>
    rw [hsm] at HC
    clear hS hz hks hT ht hstep hsm
    go_enter Tryz.func34, Tryz.ntmps34
    go_wp2_with (go_at_call 35; go_must (refine HC.out.mono ?_); rintro e w1 ⟨rfl, hb1⟩; have HB1 := Lib.hid hb1; clear hb1)
    go_ret
    exact ⟨rfl, HB1.out⟩
  | true =>
    rw [hsm] at HC
    have hlen : l.length ≤ 4096 := by
      simp only [smallS, decide_eq_true_eq] at hsm
      omega
    have HS := Lib.hid (And.intro hS (And.intro hks (And.intro hT (And.intro ht (And.intro hstep hsm)))))
    clear hS hz hks hT ht hstep hsm
    go_enter Tryz.func34, Tryz.ntmps34
    go_wp2_with (go_at_call 35; go_must (refine HC.out.mono ?_); rintro e w1 ⟨rfl, hb1⟩; have HB1 := Lib.hid hb1; clear hb1)
    have hP0 := PlayAt.start w w1 HB1.out
    obtain ⟨w2, hw2⟩ : ∃ w2, w2 = (w1.alloc (.cells #[.slice none 0 0] 74)).alloc (.cells #[.pointer (some ⟨w1.heap.size, 0, none⟩), .slice none 0 0] 100) := ⟨_, rfl⟩
    rw [← hw2] at hP0 ⊢
    obtain ⟨pw, hpw⟩ : ∃ pw, pw = w1.heap.size := ⟨_, rfl⟩
    rw [← hpw] at hP0 ⊢
    clear hw2 hpw HC
    go_loopg [9] l.length (fun n s9 wr => ∃ j : Nat, s9 = .int .i64 j ∧ n + j = l.length ∧ PlayAt w.heap.size (pw + 1) pw j w wr)
    case atStart => exact ⟨0, rfl, by omega, hP0⟩
    case round =>
      obtain ⟨j, rfl, hn, hP⟩ := hrel
      by_cases hj : j < l.length
      · obtain ⟨hS, hks, hT, ht, hstep, hsm⟩ := HS.out
        obtain ⟨op, hop⟩ : ∃ op, op = l[j] := ⟨_, rfl⟩
        have hmem : op ∈ l := hop ▸ List.getElem_mem hj
        have hPB : Below w.heap.size w wr := by obtain ⟨_, _, _, _, _, h⟩ := hP; exact h
        rcases hS with ⟨hS1, hS2⟩ | ⟨g, off, cap, hS1, hg, hc⟩
        · rw [hS2] at hj; simp at hj
        simp only [Value.slice.injEq] at hS1
        obtain ⟨rfl, -, rfl⟩ := hS1
        have kc : ∀ i, i < 7 → ∀ u, op.cells[i]? = some u → wr.cell? ⟨g, off + j * 7 + i, none⟩ = some u := fun i hi u hu => (hPB.cell (p := ⟨g, off + j * 7 + i, none⟩) hg).trans (by rw [Nat.add_assoc]; exact hc _ _ (by rw [oprows_at hj i hi, ← hop]; exact hu))
        obtain ⟨k, a, b, c, s, t, u⟩ := op
        have e0 : wr.cell? ⟨g, off + j * 7, none⟩ = some (.int .i64 k) := kc 0 (by omega) _ rfl
        have e1 := kc 1 (by omega) _ rfl
        have e2 := kc 2 (by omega) _ rfl
        have e3 := kc 3 (by omega) _ rfl
        have e4 := kc 4 (by omega) _ rfl
        have e5 := kc 5 (by omega) _ rfl
        have e6 := kc 6 (by omega) _ rfl
        have hkc : ∀ i (hi : i < ks.length), wr.cell? ⟨kg, i, none⟩ = some (.int .i64 ks[i]) := fun i hi => (hPB.cell (p := ⟨kg, i, none⟩) hkg).trans (hks i hi)
        have hjj : (j : Int) < (l.length : Int) := by omega
        have HX := Lib.hid (And.intro hkc (And.intro hP (And.intro hstep (And.intro hsm (And.intro hmem (And.intro hT (And.intro ht hPB)))))))
        have hw1 : IntKind.i64.wrap ((j : Int) + 1) = (j : Int) + 1 := by rw [IntKind.wrap_i64]; omega
        clear hks hT ht hstep hsm hc hop hmem kc hkc hP hPB hP0
        have hnil : ∀ W, (binOp .eql 41 (.slice (some ⟨kg, 0, none⟩) ks.length kcap) (.slice none 0 0)).run Tryz.prog W = .ok (.bool false) W := fun W => by
          simpa using Lib.run_eql_slice_nil (P := Tryz.prog) W 41 3 (some ⟨kg, 0, none⟩) ks.length kcap 0 0 Tryz.underlying41
        obtain ⟨wo, rfl⟩ : ∃ wo : World, wo = wr := ⟨_, rfl⟩
        obtain ⟨gkO, rfl⟩ : ∃ z : Nat, z = gk := ⟨_, rfl⟩
        have hkk : ((k == 1) = true ∧ admits [] k = true) ∨ ((k == 1) = false ∧ (k == 2) = true ∧ admits [] k = true) ∨ ((k == 1) = false ∧ (k == 2) = false ∧ (k == 3) = true ∧ admits [] k = true) ∨ ((k == 1) = false ∧ (k == 2) = false ∧ (k == 3) = false ∧ admits [] k = false) := by
          cases h1 : (k == 1) <;> cases h2 : (k == 2) <;> cases h3 : (k == 3) <;> simp [admits, h1, h2, h3]
        rcases hkk with ⟨a1, hb⟩ | ⟨a1, a2, hb⟩ | ⟨a1, a2, a3, hb⟩ | ⟨a1, a2, a3, hb⟩
        all_goals
          have HB := Lib.hid hb
          clear hb
          go_wp2
          go_loopg [11, 12] ks.length (fun m s11 s12 wi => ∃ q : Nat, s12 = .int .i64 q ∧ m + q = ks.length ∧ s11 = .bool (admits (ks.take q) k) ∧ wi = wo)
          case atStart => exact ⟨0, rfl, by omega, by rw [List.take_zero, HB.out], rfl⟩
          case round =>
            obtain ⟨q, rfl, hm, rfl, rfl⟩ := hrel
            clear a1 HB
            by_cases hq : q < ks.length
            · have hqq : (q : Int) < (ks.length : Int) := by omega
              have ek := HX.out.1 q hq
              have hct := contains_take hq k
              have hw2 : IntKind.i64.wrap ((q : Int) + 1) = (q : Int) + 1 := by rw [IntKind.wrap_i64]; omega
              have hadm : admits (ks.take (q + 1)) k = (admits (ks.take q) k || decide (k = ks[q])) := by
                unfold admits; rw [hct]; cases k == 1 <;> cases k == 2 <;> cases k == 3 <;> simp
              obtain ⟨kq, hkq⟩ : ∃ kq, kq = ks[q] := ⟨_, rfl⟩
              rw [← hkq] at ek hadm
              have HA := Lib.hid hadm
              clear hct hadm hkq
              cases hbb : admits (ks.take q) k with
              | true =>
                rw [hbb] at HA
                go_wp2
                go_roundg (gk - 1)
                case rel => exact ⟨q + 1, by go_simp, by omega, by rw [HA.out]; simp, rfl⟩
                case measure => omega
              | false =>
                rw [hbb] at HA
                go_wp2
                go_roundg (gk - 1)
                case rel => exact ⟨q + 1, by go_simp, by omega, by rw [HA.out, Bool.false_or]; rfl, rfl⟩
                case measure => omega
            · have hqe : q = ks.length := by omega
              subst hqe
              rw [List.take_length]
              cases hbb : admits ks k with
              | false =>
                go_wp2
                go_roundg (gkO - 1)
                case rel => exact ⟨j + 1, by go_simp, by omega, HX.out.2.1.more⟩
                case measure => omega
              | true =>
                have HC : Hid (Calls Tryz.prog 48 #[.pointer (some ⟨pw + 1, 0, none⟩), .agg #[.int .i64 k, .int .i64 a, .int .i64 b, .int .i64 c, .string s, .string t, .string u]] wr fun e w' => e = .returned (.bool true) ∧ PlayAt w.heap.size (pw + 1) pw (j + 1) w w') := Lib.hid (by
                  obtain ⟨_, hP, hstep, hsm, hmem, hT, ht, hPB⟩ := HX.out
                  obtain ⟨pv, qv, os, h1, h2, h4⟩ := id hP
                  exact (hstep w.heap.size j (pw + 1) pw pv qv os k a b c s t u wr hmem hbb (by omega) h2 h1 (hT.below hPB (Nat.le_refl _)) (ht.below hPB (Nat.le_refl _)) hPB.size h3 hsm).mono fun e w' hs => hP.step hs)
                clear hbb
                go_wp2_with (go_at_call 48; go_must (refine HC.out.mono ?_); rintro e w5 ⟨rfl, hp5⟩; have HP5 := Lib.hid hp5; clear hp5)
                go_roundg (gkO - 1)
                case rel => exact ⟨j + 1, by go_simp, by omega, HP5.out⟩
                case measure => omega
      · have hje : j = l.length := by omega
        subst hje
        obtain ⟨pv, qv, os, h1, h2, hPB⟩ := hP
        obtain ⟨qad, qcap, hqv⟩ := h1.slice
        subst hqv
        have HX := Lib.hid (And.intro h1 hPB)
        clear h1 hPB hP0
        obtain ⟨wo, rfl⟩ : ∃ wo : World, wo = wr := ⟨_, rfl⟩
        go_wp2
        go_loopg [14] os.length (fun m s14 wi => ∃ q : Nat, s14 = .int .i64 q ∧ m + q = os.length ∧ LawAt w.heap.size l.length wi (pw + 1) pw pv (.slice qad os.length qcap) os ∧ Below w.heap.size w wi)
        case atStart => exact ⟨0, rfl, by omega, HX.out.1, HX.out.2⟩
        case round =>
          obtain ⟨q, rfl, hm, hL, hBi⟩ := hrel
          have hx1 : wr.cell? ⟨pw + 1, 1, none⟩ = some (.slice qad os.length qcap) := Joins.cell_of_block hL.box 1
          by_cases hq : q < os.length
          · have hqq : (q : Int) < (os.length : Int) := by omega
            have hw2 : IntKind.i64.wrap ((q : Int) + 1) = (q : Int) + 1 := by rw [IntKind.wrap_i64]; omega
            have HC := Lib.hid (asks6_any w.heap.size l.length (pw + 1) pw pv (.slice qad os.length qcap) os q os[q] 0 0 0 ⟨#[]⟩ ⟨#[]⟩ ⟨#[]⟩ wr (by omega) (by omega) hL ⟨hq, List.getElem?_eq_getElem hq⟩)
            have HL := Lib.hid (And.intro hL hBi)
            clear hL hBi HX
            go_wp2_with (go_at_call 49; go_must (refine HC.out.mono ?_); rintro e w5 ⟨rfl, hb5⟩; have HB5 := Lib.hid hb5; clear hb5; refine Halt.of ?_)
            unfold Halt
            go_wp2
            go_roundg (gk - 1)
            case rel => exact ⟨q + 1, by go_simp, by omega, HL.out.1.below HB5.out, HL.out.2.trans (HB5.out.mono HL.out.2.size)⟩
            case measure => omega
          · have hqe : q = os.length := by omega
            subst hqe
            have HL := Lib.hid hBi
            clear hL hBi HX
            go_wp2
            go_ret
            exact ⟨rfl, HL.out⟩
end Go.Proofs.YtpdbmpbmepkikaaGreatDoor

namespace Go.Proofs.YtpdbmpbmepkikaaGreatDoor
open Go.RowKit

theorem steps4567 (l : List OpR) (hI : ∀ x ∈ l, I64 x.a) : StepsAt l [4, 5, 6, 7] := by
  intro N K x pw pv qv os k a b c s t u W hmem hadm hK hos hlaw hT ht hN h3 hsm
  obtain ⟨z1, z2, z3⟩ := smallS_mem hmem hsm
  have ha : I64 a := hI _ hmem
  have hk : k = 1 ∨ k = 2 ∨ k = 3 ∨ k = 4 ∨ k = 5 ∨ k = 6 ∨ k = 7 := by
    simp only [admits, Bool.or_eq_true, beq_iff_eq, List.contains_cons, List.contains_nil, Bool.or_false] at hadm
    omega
  rcases hk with rfl | hk
  · exact step1_any N K x pw pv qv os a b c s t u W (by omega) hos hlaw ha hN
  · by_cases hne : os.length = 0
    · exact step0_any N K x pw pv qv os k a b c s t u W hlaw hne (by rcases hk with rfl | rfl | rfl | rfl | rfl | rfl <;> rfl)
    · have hne : 0 < os.length := by omega
      rcases hk with rfl | rfl | rfl | rfl | rfl | rfl
      · exact step2_any N K x pw pv qv os a b c s t u W (by omega) hos hlaw hne ha z1 z2 h3 hT
      · exact step3_any N K x pw pv qv os a b c s t u W (by omega) hos hlaw hne ha z1 h3 hT
      · exact step4_any N K x pw pv qv os a b c s t u W (by omega) hos hlaw hne ha fun W' i o h1 h2 _ => asks4_any N K x pw pv qv os i o a b c s t u W' (by omega) (by omega) h1 h2 z1
      · exact step5_any N K x pw pv qv os a b c s t u W (by omega) hos hlaw hne ha fun W' i o h1 h2 _ => asks5_any N K x pw pv qv os i o a b c s t u W' (by omega) (by omega) h1 h2
      · exact step6_any N K x pw pv qv os a b c s t u W (by omega) hos hlaw hne ha fun W' i o h1 h2 _ => asks6_any N K x pw pv qv os i o a b c s t u W' (by omega) (by omega) h1 h2
      · exact step7_any N K x pw pv qv os a b c s t u W (by omega) hos hlaw hne ha fun W' i o h1 h2 h3 => asks7_any N K x pw pv qv os i o a b c s t u W' (by omega) (by omega) h1 h2 (ht.below h3 (Nat.le_refl _))

theorem books_any (v : Value) (l : List OpR) (w : World) (hS : ScriptAt w v l) (hl : l.length ≤ 140737488355328) (hz : ∀ x ∈ l, x.s.size ≤ 140737488355328 ∧ x.t.size ≤ 140737488355328 ∧ x.u.size ≤ 140737488355328)
    (hI : ∀ x ∈ l, I64 x.a) (hT : EType w) (ht : Tab w) :
    Calls Tryz.prog 10 #[v] w fun e w' => e = .returned (.bool true) ∧ Below w.heap.size w w' := by
  obtain ⟨w1, hw1⟩ : ∃ w1, w1 = w.alloc (.cells #[.int .i64 4, .int .i64 5, .int .i64 6, .int .i64 7] 3) := ⟨_, rfl⟩
  have hb1 : Below w.heap.size w w1 := by rw [hw1]; exact (Below.refl _ _).alloc (Nat.le_refl _) _
  have hcl : w1.heap[w.heap.size]? = some (.cells #[.int .i64 4, .int .i64 5, .int .i64 6, .int .i64 7] 3 (0, 0)) := by rw [hw1]; exact World.alloc_heap_new _ _
  have hcall := playsT_any v l w.heap.size 4 [4, 5, 6, 7] w1 (hS.below hb1) hl hz (by rw [hw1]; simp) (fun j hj => by
    have hj2 : j < 4 := hj
    rw [Joins.cell_of_block hcl j]
    rcases j with _ | _ | _ | _ | j
    · rfl
    · rfl
    · rfl
    · rfl
    · omega) (by simp) (hT.below hb1 (Nat.le_refl _)) (ht.below hb1 (Nat.le_refl _)) (steps4567 l hI)
  rw [hw1] at hcall
  have HC := Lib.hid hcall
  have HB := Lib.hid (And.intro hb1 hw1)
  clear hcall hb1 hcl hw1 hS hz hT ht hI
  go_enter Tryz.func10, Tryz.ntmps10
  go_wp2_with (go_at_call 34; go_must (refine HC.out.mono ?_); rintro e w5 ⟨rfl, hb5⟩; have HB5 := Lib.hid hb5; clear hb5)
  go_ret
  obtain ⟨hb1, hw1⟩ := HB.out
  have hb5 := HB5.out
  rw [← hw1] at hb5
  exact ⟨rfl, hb1.trans (hb5.mono hb1.size)⟩
end Go.Proofs.YtpdbmpbmepkikaaGreatDoor
