/- LawK: The law's plays, of edits and questions, without the last look. Condition: no text is longer than memory.
LawL: The law's Edits, called: true. Conditions: no text is longer than memory; the numbers fit. -/
import Derived.Test.YtpdbmpbmepkikaaGreatDoorE09
import Derived.WalkSpells
set_option linter.all false

namespace Go.Proofs.YtpdbmpbmepkikaaGreatDoor
open Go.RowKit

/-- Is a step of this kind played? -/
def admits (ks : List Int) (k : Int) : Bool := k == 1 || k == 2 || k == 3 || ks.contains k
/-- What a step's contract is to say. -/
def StepsAt (l : List OpR) (ks : List Int) : Prop := ∀ (N K x pw : Nat) (pv qv : Value) (os : List One) (k a b c : Int) (s t u : ByteArray) (W : World), (⟨k, a, b, c, s, t, u⟩ : OpR) ∈ l → admits ks k = true → K ≤ 5000 → os.length ≤ K → LawAt N K W x pw pv qv os → EType W → Tab W → N ≤ W.heap.size → 3 < N → smallS l = true →
  Calls Tryz.prog 48 #[.pointer (some ⟨x, 0, none⟩), .agg #[.int .i64 k, .int .i64 a, .int .i64 b, .int .i64 c, .string s, .string t, .string u]] W (Stepped' N (K + 1) x pw W)

/-- At the head of the script's loop. -/
def PlayAt (N x pw j : Nat) (w W : World) : Prop := ∃ pv qv os, LawAt N j W x pw pv qv os ∧ os.length ≤ j ∧ Below N w W
theorem PlayAt.more {N x pw j : Nat} {w W : World} (h : PlayAt N x pw j w W) : PlayAt N x pw (j + 1) w W := by
  obtain ⟨pv, qv, os, h1, h2, h3⟩ := h
  exact ⟨pv, qv, os, h1.more (Nat.le_succ j), by omega, h3⟩
theorem PlayAt.drew {N x pw j : Nat} {w W : World} (h : PlayAt N x pw j w W) : PlayAt N x pw j w W.drew := by
  obtain ⟨pv, qv, os, h1, h2, h3⟩ := h
  exact ⟨pv, qv, os, h1.below ⟨rfl, rfl, rfl, Nat.le_refl _, fun _ _ => rfl⟩, h2, h3.drew⟩
theorem PlayAt.step {N x pw j : Nat} {w W W' : World} {e : Ending} (h : PlayAt N x pw j w W) (hs : Stepped' N (j + 1) x pw W e W') : e = .returned (.bool true) ∧ PlayAt N x pw (j + 1) w W' := by
  obtain ⟨pv, qv, os, h1, h2, h3⟩ := h
  obtain ⟨he, pv', qv', os', h4, h5, h6⟩ := hs
  exact ⟨he, pv', qv', os', h4, h5, ⟨h6.os.trans h3.os, h6.tape.trans h3.tape, h6.output.trans h3.output, Nat.le_trans h3.size h6.size, fun b hb => (h6.block b (by have := h1.xN; have := h1.xlt; omega) (by omega)).trans (h3.block b hb)⟩⟩
theorem PlayAt.start (w w1 : World) (hb : Below w.heap.size w w1) : PlayAt w.heap.size (w1.heap.size + 1) w1.heap.size 0 w ((w1.alloc (.cells #[.slice none 0 0] 74)).alloc (.cells #[.pointer (some ⟨w1.heap.size, 0, none⟩), .slice none 0 0] 100)) := by
  have hz := hb.size
  have hx : ((w1.alloc (.cells #[.slice none 0 0] 74)).alloc (.cells #[.pointer (some ⟨w1.heap.size, 0, none⟩), .slice none 0 0] 100)).heap[w1.heap.size + 1]? = some (.cells #[.pointer (some ⟨w1.heap.size, 0, none⟩), .slice none 0 0] 100 (0, 0)) := by
    have := World.alloc_heap_new (w1.alloc (.cells #[.slice none 0 0] 74)) (.cells #[.pointer (some ⟨w1.heap.size, 0, none⟩), .slice none 0 0] 100)
    rwa [World.size_alloc] at this
  have hp : ((w1.alloc (.cells #[.slice none 0 0] 74)).alloc (.cells #[.pointer (some ⟨w1.heap.size, 0, none⟩), .slice none 0 0] 100)).heap[w1.heap.size]? = some (.cells #[.slice none 0 0] 74 (0, 0)) := by
    rw [Below.heap_alloc _ _ _ (by simp)]; exact World.alloc_heap_new _ _
  refine ⟨.slice none 0 0, .slice none 0 0, [], ⟨hx, World.ownsRow_nil _ _ _ _, ⟨hp, World.ownsRow_nil _ _ _ _⟩, fun b hb => (by cases hb), by omega, hz, fun o ho => (by cases ho), .nil, .nil⟩, Nat.le_refl _, (hb.alloc hz _).alloc (by simp; omega) _⟩

theorem contains_take {ks : List Int} {j : Nat} (hj : j < ks.length) (k : Int) : (ks.take (j + 1)).contains k = ((ks.take j).contains k || decide (k = ks[j])) := by
  rw [List.take_add_one, List.getElem?_eq_getElem hj, Option.toList_some, List.contains_append]
  simp

set_option maxHeartbeats 4000000 in
set_option maxRecDepth 100000 in
theorem playsF_any (v : Value) (l : List OpR) (kg kcap : Nat) (ks : List Int) (w : World) (hS : ScriptAt w v l) (hl : l.length ≤ 140737488355328) (hz : ∀ x ∈ l, x.s.size ≤ 140737488355328 ∧ x.t.size ≤ 140737488355328 ∧ x.u.size ≤ 140737488355328)
    (hkg : kg < w.heap.size) (hks : ∀ j (hj : j < ks.length), w.cell? ⟨kg, j, none⟩ = some (.int .i64 ks[j])) (hkl : ks.length ≤ 100) (hT : EType w) (ht : Tab w) (hstep : StepsAt l ks) :
    Calls Tryz.prog 34 #[v, .slice (some ⟨kg, 0, none⟩) ks.length kcap, .bool false] w fun e w' => e = .returned (.bool true) ∧ Below w.heap.size w w' := by
  have HC := Lib.hid (smallL_any v l w hS hl hz)
  have h3 := ht.lt
  obtain ⟨sad, scap, hsv⟩ : ∃ sad scap, v = .slice sad l.length scap := by
    rcases hS with ⟨⟨ad, cap, rfl⟩, rfl⟩ | ⟨g, off, cap, rfl, _⟩
    · exact ⟨_, _, rfl⟩
    · exact ⟨_, _, rfl⟩
  subst hsv
  cases hsm : smallS l with
  | false =>
    rw [hsm] at HC
    clear hS hz hks hT ht hstep hsm
    go_enter Tryz.func34, Tryz.ntmps34
    go_wp2_with (go_at_call 35; go_must (refine HC.out.mono ?_); rintro e w1 ⟨rfl, hb1⟩; have HB1 := Lib.hid hb1; clear hb1)
    go_ret
    exact ⟨rfl, HB1.out⟩
  | true =>
    rw [hsm] at HC
    have hlen : l.length ≤ 4096 := by
      simp only [smallS, decide_eq_true_eq] at hsm
      omega
    have HS := Lib.hid (And.intro hS (And.intro hks (And.intro hT (And.intro ht (And.intro hstep hsm)))))
    clear hS hz hks hT ht hstep hsm
    go_enter Tryz.func34, Tryz.ntmps34
    go_wp2_with (go_at_call 35; go_must (refine HC.out.mono ?_); rintro e w1 ⟨rfl, hb1⟩; have HB1 := Lib.hid hb1; clear hb1)
    have hP0 := PlayAt.start w w1 HB1.out
    obtain ⟨w2, hw2⟩ : ∃ w2, w2 = (w1.alloc (.cells #[.slice none 0 0] 74)).alloc (.cells #[.pointer (some ⟨w1.heap.size, 0, none⟩), .slice none 0 0] 100) := ⟨_, rfl⟩
    rw [← hw2] at hP0 ⊢
    obtain ⟨pw, hpw⟩ : ∃ pw, pw = w1.heap.size := ⟨_, rfl⟩
    rw [← hpw] at hP0 ⊢
    clear hw2 hpw HC
    go_loopg [9] l.length (fun n s9 wr => ∃ j : Nat, s9 = .int .i64 j ∧ n + j = l.length ∧ PlayAt w.heap.size (pw + 1) pw j w wr)
    case atStart => exact ⟨0, rfl, by omega, hP0⟩
    case round =>
      obtain ⟨j, rfl, hn, hP⟩ := hrel
      by_cases hj : j < l.length
      · obtain ⟨hS, hks, hT, ht, hstep, hsm⟩ := HS.out
        obtain ⟨op, hop⟩ : ∃ op, op = l[j] := ⟨_, rfl⟩
        have hmem : op ∈ l := hop ▸ List.getElem_mem hj
        have hPB : Below w.heap.size w wr := by obtain ⟨_, _, _, _, _, h⟩ := hP; exact h
        rcases hS with ⟨hS1, hS2⟩ | ⟨g, off, cap, hS1, hg, hc⟩
        · rw [hS2] at hj; simp at hj
        simp only [Value.slice.injEq] at hS1
        obtain ⟨rfl, -, rfl⟩ := hS1
        have kc : ∀ i, i < 7 → ∀ u, op.cells[i]? = some u → wr.cell? ⟨g, off + j * 7 + i, none⟩ = some u := fun i hi u hu => (hPB.cell (p := ⟨g, off + j * 7 + i, none⟩) hg).trans (by rw [Nat.add_assoc]; exact hc _ _ (by rw [oprows_at hj i hi, ← hop]; exact hu))
        obtain ⟨k, a, b, c, s, t, u⟩ := op
        have e0 : wr.cell? ⟨g, off + j * 7, none⟩ = some (.int .i64 k) := kc 0 (by omega) _ rfl
        have e1 := kc 1 (by omega) _ rfl
        have e2 := kc 2 (by omega) _ rfl
        have e3 := kc 3 (by omega) _ rfl
        have e4 := kc 4 (by omega) _ rfl
        have e5 := kc 5 (by omega) _ rfl
        have e6 := kc 6 (by omega) _ rfl
        have hkc : ∀ i (hi : i < ks.length), wr.cell? ⟨kg, i, none⟩ = some (.int .i64 ks[i]) := fun i hi => (hPB.cell (p := ⟨kg, i, none⟩) hkg).trans (hks i hi)
        have hjj : (j : Int) < (l.length : Int) := by omega
        have HX := Lib.hid (And.intro hkc (And.intro hP (And.intro hstep (And.intro hsm (And.intro hmem (And.intro hT (And.intro ht hPB)))))))
        have hw1 : IntKind.i64.wrap ((j : Int) + 1) = (j : Int) + 1 := by rw [IntKind.wrap_i64]; omega
        clear hks hT ht hstep hsm hc hop hmem kc hkc hP hPB hP0
        have hnil : ∀ W, (binOp .eql 41 (.slice (some ⟨kg, 0, none⟩) ks.length kcap) (.slice none 0 0)).run Tryz.prog W = .ok (.bool false) W := fun W => by
          simpa using Lib.run_eql_slice_nil (P := Tryz.prog) W 41 3 (some ⟨kg, 0, none⟩) ks.length kcap 0 0 Tryz.underlying41
        obtain ⟨wo, rfl⟩ : ∃ wo : World, wo = wr := ⟨_, rfl⟩
        obtain ⟨gkO, rfl⟩ : ∃ z : Nat, z = gk := ⟨_, rfl⟩
        have hkk : ((k == 1) = true ∧ admits [] k = true) ∨ ((k == 1) = false ∧ (k == 2) = true ∧ admits [] k = true) ∨ ((k == 1) = false ∧ (k == 2) = false ∧ (k == 3) = true ∧ admits [] k = true) ∨ ((k == 1) = false ∧ (k == 2) = false ∧ (k == 3) = false ∧ admits [] k = false) := by
          cases h1 : (k == 1) <;> cases h2 : (k == 2) <;> cases h3 : (k == 3) <;> simp [admits, h1, h2, h3]
        rcases hkk with ⟨a1, hb⟩ | ⟨a1, a2, hb⟩ | ⟨a1, a2, a3, hb⟩ | ⟨a1, a2, a3, hb⟩
        all_goals
          have HB := Lib.hid hb
          clear hb
          go_wp2
          go_loopg [11, 12] ks.length (fun m s11 s12 wi => ∃ q : Nat, s12 = .int .i64 q ∧ m + q = ks.length ∧ s11 = .bool (admits (ks.take q) k) ∧ wi = wo)
          case atStart => exact ⟨0, rfl, by omega, by rw [List.take_zero, HB.out], rfl⟩
          case round =>
            obtain ⟨q, rfl, hm, rfl, rfl⟩ := hrel
            clear a1 HB
            by_cases hq : q < ks.length
            · have hqq : (q : Int) < (ks.length : Int) := by omega
              have ek := HX.out.1 q hq
              have hct := contains_take hq k
              have hw2 : IntKind.i64.wrap ((q : Int) + 1) = (q : Int) + 1 := by rw [IntKind.wrap_i64]; omega
              have hadm : admits (ks.take (q + 1)) k = (admits (ks.take q) k || decide (k = ks[q])) := by
                unfold admits; rw [hct]; cases k == 1 <;> cases k == 2 <;> cases k == 3 <;> simp
              obtain ⟨kq, hkq⟩ : ∃ kq, kq = ks[q] := ⟨_, rfl⟩
              rw [← hkq] at ek hadm
              have HA := Lib.hid hadm
              clear hct hadm hkq
              cases hbb : admits (ks.take q) k with
              | true =>
                rw [hbb] at HA
                go_wp2
                go_roundg (gk - 1)
                case rel => exact ⟨q + 1, by go_simp, by omega, by rw [HA.out]; simp, rfl⟩
                case measure => omega
              | false =>
                rw [hbb] at HA
                go_wp2
                go_roundg (gk - 1)
                case rel => exact ⟨q + 1, by go_simp, by omega, by rw [HA.out, Bool.false_or]; rfl, rfl⟩
                case measure => omega
            · have hqe : q = ks.length := by omega
              subst hqe
              rw [List.take_length]
              cases hbb : admits ks k with
              | false =>
                go_wp2
                go_roundg (gkO - 1)
                case rel => exact ⟨j + 1, by go_simp, by omega, HX.out.2.1.more⟩
                case measure => omega
              | true =>
                have HC : Hid (Calls Tryz.prog 48 #[.pointer (some ⟨pw + 1, 0, none⟩), .agg #[.int .i64 k, .int .i64 a, .int .i64 b, .int .i64 c, .string s, .string t, .string u]] wr fun e w' => e = .returned (.bool true) ∧ PlayAt w.heap.size (pw + 1) pw (j + 1) w w') := Lib.hid (by
                  obtain ⟨_, hP, hstep, hsm, hmem, hT, ht, hPB⟩ := HX.out
                  obtain ⟨pv, qv, os, h1, h2, h4⟩ := id hP
                  exact (hstep w.heap.size j (pw + 1) pw pv qv os k a b c s t u wr hmem hbb (by omega) h2 h1 (hT.below hPB (Nat.le_refl _)) (ht.below hPB (Nat.le_refl _)) hPB.size h3 hsm).mono fun e w' hs => hP.step hs)
                clear hbb
                go_wp2_with (go_at_call 48; go_must (refine HC.out.mono ?_); rintro e w5 ⟨rfl, hp5⟩; have HP5 := Lib.hid hp5; clear hp5)
                go_roundg (gkO - 1)
                case rel => exact ⟨j + 1, by go_simp, by omega, HP5.out⟩
                case measure => omega
      · have hje : j = l.length := by omega
        subst hje
        obtain ⟨pv, qv, os, h1, h2, hPB⟩ := hP
        obtain ⟨qad, qcap, hqv⟩ := h1.slice
        have hx1 : wr.cell? ⟨pw + 1, 1, none⟩ = some (.slice qad os.length qcap) := (Joins.cell_of_block h1.box 1).trans (by rw [hqv]; rfl)
        have HPB := Lib.hid hPB
        clear h1 hqv hPB hP0
        obtain ⟨wo, rfl⟩ : ∃ wo : World, wo = wr := ⟨_, rfl⟩
        go_wp2
        go_loopg [14] 0 (fun m s14 wi => s14 = .int .i64 0 ∧ wi = wo)
        case atStart => exact ⟨rfl, rfl⟩
        case round =>
          obtain ⟨rfl, rfl⟩ := hrel
          by_cases h0 : os.length = 0
          · rw [h0] at hx1
            go_wp2
            go_ret
            exact ⟨rfl, HPB.out⟩
          · have h00 : (0 : Int) < (os.length : Int) := by omega
            have h01 : 0 < os.length := by omega
            go_wp2
            go_ret
            exact ⟨rfl, HPB.out⟩
end Go.Proofs.YtpdbmpbmepkikaaGreatDoor

namespace Go.Proofs.YtpdbmpbmepkikaaGreatDoor
open Go.RowKit

theorem sumS_mem {l : List OpR} {x : OpR} (h : x ∈ l) : opSize x ≤ sumS l := by
  induction l with
  | nil => cases h
  | cons y l ih =>
    have e : sumS (y :: l) = opSize y + sumS l := by
      have key : ∀ (l : List OpR) (n : Nat), l.foldl (fun n x => n + opSize x) n = n + l.foldl (fun n x => n + opSize x) 0 := fun l => by
        induction l with
        | nil => intro n; simp
        | cons z l ih => intro n; rw [List.foldl_cons, ih, List.foldl_cons, ih (0 + opSize z)]; omega
      show (y :: l).foldl (fun n x => n + opSize x) 0 = _
      rw [List.foldl_cons, key]
      unfold sumS; omega
    rcases List.mem_cons.1 h with rfl | h
    · omega
    · have := ih h; omega
theorem smallS_mem {l : List OpR} {k a b c : Int} {s t u : ByteArray} (h : (⟨k, a, b, c, s, t, u⟩ : OpR) ∈ l) (hs : smallS l = true) : s.size ≤ 4096 ∧ t.size ≤ 4096 ∧ u.size ≤ 4096 := by
  have := sumS_mem h
  simp only [smallS, decide_eq_true_eq] at hs
  have e : opSize ⟨k, a, b, c, s, t, u⟩ = s.size + t.size + u.size := rfl
  omega

theorem steps45 (l : List OpR) (hI : ∀ x ∈ l, I64 x.a) : StepsAt l [4, 5] := by
  intro N K x pw pv qv os k a b c s t u W hmem hadm hK hos hlaw hT ht hN h3 hsm
  obtain ⟨z1, z2, z3⟩ := smallS_mem hmem hsm
  have ha : I64 a := hI _ hmem
  have hk : k = 1 ∨ k = 2 ∨ k = 3 ∨ k = 4 ∨ k = 5 := by
    simp only [admits, Bool.or_eq_true, beq_iff_eq, List.contains_cons, List.contains_nil, Bool.or_false] at hadm
    omega
  rcases hk with rfl | hk
  · exact step1_any N K x pw pv qv os a b c s t u W (by omega) hos hlaw ha hN
  · by_cases hne : os.length = 0
    · exact step0_any N K x pw pv qv os k a b c s t u W hlaw hne (by rcases hk with rfl | rfl | rfl | rfl <;> rfl)
    · have hne : 0 < os.length := by omega
      rcases hk with rfl | rfl | rfl | rfl
      · exact step2_any N K x pw pv qv os a b c s t u W (by omega) hos hlaw hne ha z1 z2 h3 hT
      · exact step3_any N K x pw pv qv os a b c s t u W (by omega) hos hlaw hne ha z1 h3 hT
      · exact step4_any N K x pw pv qv os a b c s t u W (by omega) hos hlaw hne ha fun W' i o h1 h2 _ => asks4_any N K x pw pv qv os i o a b c s t u W' (by omega) (by omega) h1 h2 z1
      · exact step5_any N K x pw pv qv os a b c s t u W (by omega) hos hlaw hne ha fun W' i o h1 h2 _ => asks5_any N K x pw pv qv os i o a b c s t u W' (by omega) (by omega) h1 h2

theorem edits_any (v : Value) (l : List OpR) (w : World) (hS : ScriptAt w v l) (hl : l.length ≤ 140737488355328) (hz : ∀ x ∈ l, x.s.size ≤ 140737488355328 ∧ x.t.size ≤ 140737488355328 ∧ x.u.size ≤ 140737488355328)
    (hI : ∀ x ∈ l, I64 x.a) (hT : EType w) (ht : Tab w) :
    Calls Tryz.prog 9 #[v] w fun e w' => e = .returned (.bool true) ∧ Below w.heap.size w w' := by
  obtain ⟨w1, hw1⟩ : ∃ w1, w1 = w.alloc (.cells #[.int .i64 4, .int .i64 5] 3) := ⟨_, rfl⟩
  have hb1 : Below w.heap.size w w1 := by rw [hw1]; exact (Below.refl _ _).alloc (Nat.le_refl _) _
  have hcl : w1.heap[w.heap.size]? = some (.cells #[.int .i64 4, .int .i64 5] 3 (0, 0)) := by rw [hw1]; exact World.alloc_heap_new _ _
  have hcall := playsF_any v l w.heap.size 2 [4, 5] w1 (hS.below hb1) hl hz (by rw [hw1]; simp) (fun j hj => by
    have hj2 : j < 2 := hj
    rw [Joins.cell_of_block hcl j]
    rcases j with _ | _ | j
    · rfl
    · rfl
    · omega) (by simp) (hT.below hb1 (Nat.le_refl _)) (ht.below hb1 (Nat.le_refl _)) (steps45 l hI)
  rw [hw1] at hcall
  have HC := Lib.hid hcall
  have HB := Lib.hid (And.intro hb1 hw1)
  clear hcall hb1 hcl hw1 hS hz hT ht hI
  go_enter Tryz.func9, Tryz.ntmps9
  go_wp2_with (go_at_call 34; go_must (refine HC.out.mono ?_); rintro e w5 ⟨rfl, hb5⟩; have HB5 := Lib.hid hb5; clear hb5)
  go_ret
  obtain ⟨hb1, hw1⟩ := HB.out
  have hb5 := HB5.out
  rw [← hw1] at hb5
  exact ⟨rfl, hb1.trans (hb5.mono hb1.size)⟩
end Go.Proofs.YtpdbmpbmepkikaaGreatDoor
