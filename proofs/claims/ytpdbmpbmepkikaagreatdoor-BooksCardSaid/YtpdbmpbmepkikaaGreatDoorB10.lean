/- LawK: The law's plays, of edits and questions, without the last look. Condition: no text is longer than memory.
   LawL: The law's Edits, called: true. Conditions: no text is longer than memory; the numbers fit.
   PlnG: Contracts of plain's World: the second round of Registers.
   PlnH: Contracts of plain's World: Registers. Conditions: at most 500000 registers.
   LawM: The law's told, and sameBook at like books. Conditions: at most 100000 registers and replicas.
   LawN: The document's decimal: the library's numeral. Condition: a number of 64 bits.
   LawO: The document's Lines. Conditions: at most 100000 registers, which the program holds.
   LawP: The document's Hash: eight bytes of the sum. Condition: a text of at most 2^40 bytes. -/
import Derived.Test.YtpdbmpbmepkikaaGreatDoorB09
import Derived.WalkSpells
import Derived.Test.YtpdbmpbmepkikaaGreatDoorB08
import Derived.Test.YtpdbmpbmepkikaaGreatDoorB07
import Derived.Test.YtpdbmpbmepkikaaGreatDoorB05
import Derived.Test.YtpdbmpbmepkikaaGreatDoorB06
import Derived.Test.YtpdbmpbmepkikaaGreatDoorB04
import Derived.Laws.IdiomStrings
import Derived.LoopN
set_option linter.all false
set_option linter.unusedSimpArgs false
set_option linter.unusedVariables false

namespace Go.Proofs.YtpdbmpbmepkikaaGreatDoor
open Go.RowKit

/-- Is a step of this kind played? -/
def admits (ks : List Int) (k : Int) : Bool := k == 1 || k == 2 || k == 3 || ks.contains k
/-- What a step's contract is to say. -/
def StepsAt (l : List OpR) (ks : List Int) : Prop := ∀ (N K x pw : Nat) (pv qv : Value) (os : List One) (k a b c : Int) (s t u : ByteArray) (W : World), (⟨k, a, b, c, s, t, u⟩ : OpR) ∈ l → admits ks k = true → K ≤ 5000 → os.length ≤ K → LawAt N K W x pw pv qv os → EType W → Tab W → N ≤ W.heap.size → 3 < N → smallS l = true →
  Calls Tryz.prog 48 #[.pointer (some ⟨x, 0, none⟩), .agg #[.int .i64 k, .int .i64 a, .int .i64 b, .int .i64 c, .string s, .string t, .string u]] W (Stepped' N (K + 1) x pw W)

/-- At the head of the script's loop. -/
def PlayAt (N x pw j : Nat) (w W : World) : Prop := ∃ pv qv os, LawAt N j W x pw pv qv os ∧ os.length ≤ j ∧ Below N w W
theorem PlayAt.more {N x pw j : Nat} {w W : World} (h : PlayAt N x pw j w W) : PlayAt N x pw (j + 1) w W := by
  obtain ⟨pv, qv, os, h1, h2, h3⟩ := h
  exact ⟨pv, qv, os, h1.more (Nat.le_succ j), by omega, h3⟩
theorem PlayAt.drew {N x pw j : Nat} {w W : World} (h : PlayAt N x pw j w W) : PlayAt N x pw j w W.drew := by
  obtain ⟨pv, qv, os, h1, h2, h3⟩ := h
  exact ⟨pv, qv, os, h1.below ⟨rfl, rfl, rfl, Nat.le_refl _, fun _ _ => rfl⟩, h2, h3.drew⟩
theorem PlayAt.step {N x pw j : Nat} {w W W' : World} {e : Ending} (h : PlayAt N x pw j w W) (hs : Stepped' N (j + 1) x pw W e W') : e = .returned (.bool true) ∧ PlayAt N x pw (j + 1) w W' := by
  obtain ⟨pv, qv, os, h1, h2, h3⟩ := h
  obtain ⟨he, pv', qv', os', h4, h5, h6⟩ := hs
  exact ⟨he, pv', qv', os', h4, h5, ⟨h6.os.trans h3.os, h6.tape.trans h3.tape, h6.output.trans h3.output, Nat.le_trans h3.size h6.size, fun b hb => (h6.block b (by have := h1.xN; have := h1.xlt; omega) (by omega)).trans (h3.block b hb)⟩⟩
theorem PlayAt.start (w w1 : World) (hb : Below w.heap.size w w1) : PlayAt w.heap.size (w1.heap.size + 1) w1.heap.size 0 w ((w1.alloc (.cells #[.slice none 0 0] 74)).alloc (.cells #[.pointer (some ⟨w1.heap.size, 0, none⟩), .slice none 0 0] 100)) := by
  have hz := hb.size
  have hx : ((w1.alloc (.cells #[.slice none 0 0] 74)).alloc (.cells #[.pointer (some ⟨w1.heap.size, 0, none⟩), .slice none 0 0] 100)).heap[w1.heap.size + 1]? = some (.cells #[.pointer (some ⟨w1.heap.size, 0, none⟩), .slice none 0 0] 100 (0, 0)) := by
    have := World.alloc_heap_new (w1.alloc (.cells #[.slice none 0 0] 74)) (.cells #[.pointer (some ⟨w1.heap.size, 0, none⟩), .slice none 0 0] 100)
    rwa [World.size_alloc] at this
  have hp : ((w1.alloc (.cells #[.slice none 0 0] 74)).alloc (.cells #[.pointer (some ⟨w1.heap.size, 0, none⟩), .slice none 0 0] 100)).heap[w1.heap.size]? = some (.cells #[.slice none 0 0] 74 (0, 0)) := by
    rw [Below.heap_alloc _ _ _ (by simp)]; exact World.alloc_heap_new _ _
  refine ⟨.slice none 0 0, .slice none 0 0, [], ⟨hx, World.ownsRow_nil _ _ _ _, ⟨hp, World.ownsRow_nil _ _ _ _⟩, fun b hb => (by cases hb), by omega, hz, fun o ho => (by cases ho), .nil, .nil⟩, Nat.le_refl _, (hb.alloc hz _).alloc (by simp; omega) _⟩

theorem contains_take {ks : List Int} {j : Nat} (hj : j < ks.length) (k : Int) : (ks.take (j + 1)).contains k = ((ks.take j).contains k || decide (k = ks[j])) := by
  rw [List.take_add_one, List.getElem?_eq_getElem hj, Option.toList_some, List.contains_append]
  simp

set_option maxHeartbeats 4000000 in
set_option maxRecDepth 100000 in
theorem playsF_any (v : Value) (l : List OpR) (kg kcap : Nat) (ks : List Int) (w : World) (hS : ScriptAt w v l) (hl : l.length ≤ 140737488355328) (hz : ∀ x ∈ l, x.s.size ≤ 140737488355328 ∧ x.t.size ≤ 140737488355328 ∧ x.u.size ≤ 140737488355328)
    (hkg : kg < w.heap.size) (hks : ∀ j (hj : j < ks.length), w.cell? ⟨kg, j, none⟩ = some (.int .i64 ks[j])) (hkl : ks.length ≤ 100) (hT : EType w) (ht : Tab w) (hstep : StepsAt l ks) :
    Calls Tryz.prog 34 #[v, .slice (some ⟨kg, 0, none⟩) ks.length kcap, .bool false] w fun e w' => e = .returned (.bool true) ∧ Below w.heap.size w w' := by
  have HC := Lib.hid (smallL_any v l w hS hl hz)
  have h3 := ht.lt
  obtain ⟨sad, scap, hsv⟩ : ∃ sad scap, v = .slice sad l.length scap := by
    rcases hS with ⟨⟨ad, cap, rfl⟩, rfl⟩ | ⟨g, off, cap, rfl, _⟩
    · exact ⟨_, _, rfl⟩
    · exact ⟨_, _, rfl⟩
  subst hsv
  cases hsm : smallS l with
  | false =>
    rw [hsm] at HC
    clear hS hz hks hT ht hstep hsm
    go_enter Tryz.func34, Tryz.ntmps34
    go_wp2_with (go_at_call 35; go_must (refine HC.out.mono ?_); rintro e w1 ⟨rfl, hb1⟩; have HB1 := Lib.hid hb1; clear hb1)
    go_ret
    exact ⟨rfl, HB1.out⟩
  | true =>
    rw [hsm] at HC
    have hlen : l.length ≤ 4096 := by
      simp only [smallS, decide_eq_true_eq] at hsm
      omega
    have HS := Lib.hid (And.intro hS (And.intro hks (And.intro hT (And.intro ht (And.intro hstep hsm)))))
    clear hS hz hks hT ht hstep hsm
    go_enter Tryz.func34, Tryz.ntmps34
    go_wp2_with (go_at_call 35; go_must (refine HC.out.mono ?_); rintro e w1 ⟨rfl, hb1⟩; have HB1 := Lib.hid hb1; clear hb1)
    have hP0 := PlayAt.start w w1 HB1.out
    obtain ⟨w2, hw2⟩ : ∃ w2, w2 = (w1.alloc (.cells #[.slice none 0 0] 74)).alloc (.cells #[.pointer (some ⟨w1.heap.size, 0, none⟩), .slice none 0 0] 100) := ⟨_, rfl⟩
    rw [← hw2] at hP0 ⊢
    obtain ⟨pw, hpw⟩ : ∃ pw, pw = w1.heap.size := ⟨_, rfl⟩
    rw [← hpw] at hP0 ⊢
    clear hw2 hpw HC
    go_loopg [9] l.length (fun n s9 wr => ∃ j : Nat, s9 = .int .i64 j ∧ n + j = l.length ∧ PlayAt w.heap.size (pw + 1) pw j w wr)
    case atStart => exact ⟨0, rfl, by omega, hP0⟩
    case round =>
      obtain ⟨j, rfl, hn, hP⟩ := hrel
      by_cases hj : j < l.length
      · obtain ⟨hS, hks, hT, ht, hstep, hsm⟩ := HS.out
        obtain ⟨op, hop⟩ : ∃ op, op = l[j] := ⟨_, rfl⟩
        have hmem : op ∈ l := hop ▸ List.getElem_mem hj
        have hPB : Below w.heap.size w wr := by obtain ⟨_, _, _, _, _, h⟩ := hP; exact h
        rcases hS with ⟨hS1, hS2⟩ | ⟨g, off, cap, hS1, hg, hc⟩
        · rw [hS2] at hj; simp at hj
        simp only [Value.slice.injEq] at hS1
        obtain ⟨rfl, -, rfl⟩ := hS1
        have kc : ∀ i, i < 7 → ∀ u, op.cells[i]? = some u → wr.cell? ⟨g, off + j * 7 + i, none⟩ = some u := fun i hi u hu => (hPB.cell (p := ⟨g, off + j * 7 + i, none⟩) hg).trans (by rw [Nat.add_assoc]; exact hc _ _ (by rw [oprows_at hj i hi, ← hop]; exact hu))
        obtain ⟨k, a, b, c, s, t, u⟩ := op
        have e0 : wr.cell? ⟨g, off + j * 7, none⟩ = some (.int .i64 k) := kc 0 (by omega) _ rfl
        have e1 := kc 1 (by omega) _ rfl
        have e2 := kc 2 (by omega) _ rfl
        have e3 := kc 3 (by omega) _ rfl
        have e4 := kc 4 (by omega) _ rfl
        have e5 := kc 5 (by omega) _ rfl
        have e6 := kc 6 (by omega) _ rfl
        have hkc : ∀ i (hi : i < ks.length), wr.cell? ⟨kg, i, none⟩ = some (.int .i64 ks[i]) := fun i hi => (hPB.cell (p := ⟨kg, i, none⟩) hkg).trans (hks i hi)
        have hjj : (j : Int) < (l.length : Int) := by omega
        have HX := Lib.hid (And.intro hkc (And.intro hP (And.intro hstep (And.intro hsm (And.intro hmem (And.intro hT (And.intro ht hPB)))))))
        have hw1 : IntKind.i64.wrap ((j : Int) + 1) = (j : Int) + 1 := by rw [IntKind.wrap_i64]; omega
        clear hks hT ht hstep hsm hc hop hmem kc hkc hP hPB hP0
        have hnil : ∀ W, (binOp .eql 41 (.slice (some ⟨kg, 0, none⟩) ks.length kcap) (.slice none 0 0)).run Tryz.prog W = .ok (.bool false) W := fun W => by
          simpa using Lib.run_eql_slice_nil (P := Tryz.prog) W 41 3 (some ⟨kg, 0, none⟩) ks.length kcap 0 0 Tryz.underlying41
        obtain ⟨wo, rfl⟩ : ∃ wo : World, wo = wr := ⟨_, rfl⟩
        obtain ⟨gkO, rfl⟩ : ∃ z : Nat, z = gk := ⟨_, rfl⟩
        have hkk : ((k == 1) = true ∧ admits [] k = true) ∨ ((k == 1) = false ∧ (k == 2) = true ∧ admits [] k = true) ∨ ((k == 1) = false ∧ (k == 2) = false ∧ (k == 3) = true ∧ admits [] k = true) ∨ ((k == 1) = false ∧ (k == 2) = false ∧ (k == 3) = false ∧ admits [] k = false) := by
          cases h1 : (k == 1) <;> cases h2 : (k == 2) <;> cases h3 : (k == 3) <;> simp [admits, h1, h2, h3]
        rcases hkk with ⟨a1, hb⟩ | ⟨a1, a2, hb⟩ | ⟨a1, a2, a3, hb⟩ | ⟨a1, a2, a3, hb⟩
        all_goals
          have HB := Lib.hid hb
          clear hb
          go_wp2
          go_loopg [11, 12] ks.length (fun m s11 s12 wi => ∃ q : Nat, s12 = .int .i64 q ∧ m + q = ks.length ∧ s11 = .bool (admits (ks.take q) k) ∧ wi = wo)
          case atStart => exact ⟨0, rfl, by omega, by rw [List.take_zero, HB.out], rfl⟩
          case round =>
            obtain ⟨q, rfl, hm, rfl, rfl⟩ := hrel
            clear a1 HB
            by_cases hq : q < ks.length
            · have hqq : (q : Int) < (ks.length : Int) := by omega
              have ek := HX.out.1 q hq
              have hct := contains_take hq k
              have hw2 : IntKind.i64.wrap ((q : Int) + 1) = (q : Int) + 1 := by rw [IntKind.wrap_i64]; omega
              have hadm : admits (ks.take (q + 1)) k = (admits (ks.take q) k || decide (k = ks[q])) := by
                unfold admits; rw [hct]; cases k == 1 <;> cases k == 2 <;> cases k == 3 <;> simp
              obtain ⟨kq, hkq⟩ : ∃ kq, kq = ks[q] := ⟨_, rfl⟩
              rw [← hkq] at ek hadm
              have HA := Lib.hid hadm
              clear hct hadm hkq
              cases hbb : admits (ks.take q) k with
              | true =>
                rw [hbb] at HA
                go_wp2
                go_roundg (gk - 1)
                case rel => exact ⟨q + 1, by go_simp, by omega, by rw [HA.out]; simp, rfl⟩
                case measure => omega
              | false =>
                rw [hbb] at HA
                go_wp2
                go_roundg (gk - 1)
                case rel => exact ⟨q + 1, by go_simp, by omega, by rw [HA.out, Bool.false_or]; rfl, rfl⟩
                case measure => omega
            · have hqe : q = ks.length := by omega
              subst hqe
              rw [List.take_length]
              cases hbb : admits ks k with
              | false =>
                go_wp2
                go_roundg (gkO - 1)
                case rel => exact ⟨j + 1, by go_simp, by omega, HX.out.2.1.more⟩
                case measure => omega
              | true =>
                have HC : Hid (Calls Tryz.prog 48 #[.pointer (some ⟨pw + 1, 0, none⟩), .agg #[.int .i64 k, .int .i64 a, .int .i64 b, .int .i64 c, .string s, .string t, .string u]] wr fun e w' => e = .returned (.bool true) ∧ PlayAt w.heap.size (pw + 1) pw (j + 1) w w') := Lib.hid (by
                  obtain ⟨_, hP, hstep, hsm, hmem, hT, ht, hPB⟩ := HX.out
                  obtain ⟨pv, qv, os, h1, h2, h4⟩ := id hP
                  exact (hstep w.heap.size j (pw + 1) pw pv qv os k a b c s t u wr hmem hbb (by omega) h2 h1 (hT.below hPB (Nat.le_refl _)) (ht.below hPB (Nat.le_refl _)) hPB.size h3 hsm).mono fun e w' hs => hP.step hs)
                clear hbb
                go_wp2_with (go_at_call 48; go_must (refine HC.out.mono ?_); rintro e w5 ⟨rfl, hp5⟩; have HP5 := Lib.hid hp5; clear hp5)
                go_roundg (gkO - 1)
                case rel => exact ⟨j + 1, by go_simp, by omega, HP5.out⟩
                case measure => omega
      · have hje : j = l.length := by omega
        subst hje
        obtain ⟨pv, qv, os, h1, h2, hPB⟩ := hP
        obtain ⟨qad, qcap, hqv⟩ := h1.slice
        have hx1 : wr.cell? ⟨pw + 1, 1, none⟩ = some (.slice qad os.length qcap) := (Joins.cell_of_block h1.box 1).trans (by rw [hqv]; rfl)
        have HPB := Lib.hid hPB
        clear h1 hqv hPB hP0
        obtain ⟨wo, rfl⟩ : ∃ wo : World, wo = wr := ⟨_, rfl⟩
        go_wp2
        go_loopg [14] 0 (fun m s14 wi => s14 = .int .i64 0 ∧ wi = wo)
        case atStart => exact ⟨rfl, rfl⟩
        case round =>
          obtain ⟨rfl, rfl⟩ := hrel
          by_cases h0 : os.length = 0
          · rw [h0] at hx1
            go_wp2
            go_ret
            exact ⟨rfl, HPB.out⟩
          · have h00 : (0 : Int) < (os.length : Int) := by omega
            have h01 : 0 < os.length := by omega
            go_wp2
            go_ret
            exact ⟨rfl, HPB.out⟩
end Go.Proofs.YtpdbmpbmepkikaaGreatDoor

namespace Go.Proofs.YtpdbmpbmepkikaaGreatDoor
open Go.RowKit

theorem sumS_mem {l : List OpR} {x : OpR} (h : x ∈ l) : opSize x ≤ sumS l := by
  induction l with
  | nil => cases h
  | cons y l ih =>
    have e : sumS (y :: l) = opSize y + sumS l := by
      have key : ∀ (l : List OpR) (n : Nat), l.foldl (fun n x => n + opSize x) n = n + l.foldl (fun n x => n + opSize x) 0 := fun l => by
        induction l with
        | nil => intro n; simp
        | cons z l ih => intro n; rw [List.foldl_cons, ih, List.foldl_cons, ih (0 + opSize z)]; omega
      show (y :: l).foldl (fun n x => n + opSize x) 0 = _
      rw [List.foldl_cons, key]
      unfold sumS; omega
    rcases List.mem_cons.1 h with rfl | h
    · omega
    · have := ih h; omega
theorem smallS_mem {l : List OpR} {k a b c : Int} {s t u : ByteArray} (h : (⟨k, a, b, c, s, t, u⟩ : OpR) ∈ l) (hs : smallS l = true) : s.size ≤ 4096 ∧ t.size ≤ 4096 ∧ u.size ≤ 4096 := by
  have := sumS_mem h
  simp only [smallS, decide_eq_true_eq] at hs
  have e : opSize ⟨k, a, b, c, s, t, u⟩ = s.size + t.size + u.size := rfl
  omega

theorem steps45 (l : List OpR) (hI : ∀ x ∈ l, I64 x.a) : StepsAt l [4, 5] := by
  intro N K x pw pv qv os k a b c s t u W hmem hadm hK hos hlaw hT ht hN h3 hsm
  obtain ⟨z1, z2, z3⟩ := smallS_mem hmem hsm
  have ha : I64 a := hI _ hmem
  have hk : k = 1 ∨ k = 2 ∨ k = 3 ∨ k = 4 ∨ k = 5 := by
    simp only [admits, Bool.or_eq_true, beq_iff_eq, List.contains_cons, List.contains_nil, Bool.or_false] at hadm
    omega
  rcases hk with rfl | hk
  · exact step1_any N K x pw pv qv os a b c s t u W (by omega) hos hlaw ha hN
  · by_cases hne : os.length = 0
    · exact step0_any N K x pw pv qv os k a b c s t u W hlaw hne (by rcases hk with rfl | rfl | rfl | rfl <;> rfl)
    · have hne : 0 < os.length := by omega
      rcases hk with rfl | rfl | rfl | rfl
      · exact step2_any N K x pw pv qv os a b c s t u W (by omega) hos hlaw hne ha z1 z2 h3 hT
      · exact step3_any N K x pw pv qv os a b c s t u W (by omega) hos hlaw hne ha z1 h3 hT
      · exact step4_any N K x pw pv qv os a b c s t u W (by omega) hos hlaw hne ha fun W' i o h1 h2 _ => asks4_any N K x pw pv qv os i o a b c s t u W' (by omega) (by omega) h1 h2 z1
      · exact step5_any N K x pw pv qv os a b c s t u W (by omega) hos hlaw hne ha fun W' i o h1 h2 _ => asks5_any N K x pw pv qv os i o a b c s t u W' (by omega) (by omega) h1 h2

theorem edits_any (v : Value) (l : List OpR) (w : World) (hS : ScriptAt w v l) (hl : l.length ≤ 140737488355328) (hz : ∀ x ∈ l, x.s.size ≤ 140737488355328 ∧ x.t.size ≤ 140737488355328 ∧ x.u.size ≤ 140737488355328)
    (hI : ∀ x ∈ l, I64 x.a) (hT : EType w) (ht : Tab w) :
    Calls Tryz.prog 9 #[v] w fun e w' => e = .returned (.bool true) ∧ Below w.heap.size w w' := by
  obtain ⟨w1, hw1⟩ : ∃ w1, w1 = w.alloc (.cells #[.int .i64 4, .int .i64 5] 3) := ⟨_, rfl⟩
  have hb1 : Below w.heap.size w w1 := by rw [hw1]; exact (Below.refl _ _).alloc (Nat.le_refl _) _
  have hcl : w1.heap[w.heap.size]? = some (.cells #[.int .i64 4, .int .i64 5] 3 (0, 0)) := by rw [hw1]; exact World.alloc_heap_new _ _
  have hcall := playsF_any v l w.heap.size 2 [4, 5] w1 (hS.below hb1) hl hz (by rw [hw1]; simp) (fun j hj => by
    have hj2 : j < 2 := hj
    rw [Joins.cell_of_block hcl j]
    rcases j with _ | _ | j
    · rfl
    · rfl
    · omega) (by simp) (hT.below hb1 (Nat.le_refl _)) (ht.below hb1 (Nat.le_refl _)) (steps45 l hI)
  rw [hw1] at hcall
  have HC := Lib.hid hcall
  have HB := Lib.hid (And.intro hb1 hw1)
  clear hcall hb1 hcl hw1 hS hz hT ht hI
  go_enter Tryz.func9, Tryz.ntmps9
  go_wp2_with (go_at_call 34; go_must (refine HC.out.mono ?_); rintro e w5 ⟨rfl, hb5⟩; have HB5 := Lib.hid hb5; clear hb5)
  go_ret
  obtain ⟨hb1, hw1⟩ := HB.out
  have hb5 := HB5.out
  rw [← hw1] at hb5
  exact ⟨rfl, hb1.trans (hb5.mono hb1.size)⟩
end Go.Proofs.YtpdbmpbmepkikaaGreatDoor

namespace Go.Proofs.YtpdbmpbmepkikaaGreatDoor
open Go.RowKit

theorem eql46 (n f v : ByteArray) (c r : Int) (W : World) : (binOp .eql 46 (.agg #[.string n, .string f, .int .i64 c, .int .i64 r, .string v]) (.agg #[.string n, .string f, .int .i64 c, .int .i64 r, .string v])).run Tryz.prog W = .ok (.bool true) W := by
  go_simp

/-- A slice value that holds registers of the program. -/
def RegsAt (w : World) (v : Value) (l : List Reg) : Prop := w.ownsRow 0 46 5 v l.length (rows l)
theorem RegsAt.cell {w : World} {v : Value} {l : List Reg} (h : RegsAt w v l) {j : Nat} (hj : j < l.length) : ∃ g cap, v = .slice (some ⟨g, 0, none⟩) l.length cap ∧ g < w.heap.size ∧
    w.cell? ⟨g, j * 5, none⟩ = some (.string l[j].name) ∧ w.cell? ⟨g, j * 5 + 1, none⟩ = some (.string l[j].field) ∧ w.cell? ⟨g, j * 5 + 2, none⟩ = some (.int .i64 l[j].c) ∧ w.cell? ⟨g, j * 5 + 3, none⟩ = some (.int .i64 l[j].r) ∧ w.cell? ⟨g, j * 5 + 4, none⟩ = some (.string l[j].value) := by
  obtain ⟨h1, h2⟩ := h
  rcases h2 with ⟨_, h2⟩ | ⟨g, cap, cur, hv, _, hg, hn, _, _, ht⟩
  · omega
  · have key : ∀ i, i < 5 → w.cell? ⟨g, j * 5 + i, none⟩ = l[j].cells[i]? := fun i hi => by
      have := Joins.cell_of_block hg (j * 5 + i)
      rw [this, ← rows_at hj i hi, ← ht, List.getElem?_take_of_lt (by omega)]
      simp
    exact ⟨g, cap, hv, (Array.getElem?_eq_some_iff.1 hg).1, key 0 (by omega), key 1 (by omega), key 2 (by omega), key 3 (by omega), key 4 (by omega)⟩

structure F40 (bo bn bk bl : Nat) (ok no : Bool) (k : Int) (lv : Value) (W : World) : Prop where
  ok : W.heap[bo]? = some (.cells #[.bool ok] 4 (0, 0))
  no : W.heap[bn]? = some (.cells #[.bool no] 4 (0, 0))
  k : W.heap[bk]? = some (.cells #[.int .i64 k] 3 (0, 0))
  l : W.heap[bl]? = some (.cells #[lv] 35 (0, 0))

set_option maxHeartbeats 1000000 in
theorem regs40_any (bo bn bk bl : Nat) (F : List Reg) (j : Nat) (hj : j < F.length) (hF : F.length ≤ 1000000) (lv : Value) (W : World) (h : F40 bo bn bk bl true false j lv W) (hl : RegsAt W lv F)
    (hd : bo ≠ bn ∧ bo ≠ bk ∧ bo ≠ bl ∧ bn ≠ bk ∧ bn ≠ bl ∧ bk ≠ bl) (hlo : ∀ b, lv.ownBlock = some b → b ≠ bo ∧ b ≠ bn ∧ b ≠ bk ∧ b ≠ bl) :
    Calls Tryz.prog 40 #[F[j].val, .pointer (some ⟨bo, 0, none⟩), .pointer (some ⟨bn, 0, none⟩), .pointer (some ⟨bk, 0, none⟩), .pointer (some ⟨bl, 0, none⟩)] W fun e w' =>
      e = .returned (.bool (decide (j + 1 ≤ F.length / 2))) ∧ F40 bo bn bk bl true (decide (F.length / 2 < j + 1)) (j + 1 : Nat) lv w' ∧ Keep (fun b => b = bo ∨ b = bn ∨ b = bk) W w' := by
  obtain ⟨g, cap, hv, hg, y0, y1, y2, y3, y4⟩ := hl.cell hj
  obtain ⟨x, hx⟩ : ∃ x, x = F[j] := ⟨_, rfl⟩
  rw [← hx] at y0 y1 y2 y3 y4 ⊢
  obtain ⟨n, f, c, r, v⟩ := x
  obtain ⟨nF, hnF⟩ : ∃ nF, nF = F.length := ⟨_, rfl⟩
  rw [← hnF] at hj hF hv ⊢
  subst hv
  unfold Reg.val
  simp only at y0 y1 y2 y3 y4
  obtain ⟨W1, hW1⟩ : ∃ W1, W1 = W.alloc (.cells #[.string n, .string f, .int .i64 c, .int .i64 r, .string v] 46) := ⟨_, rfl⟩
  have kb : ∀ b, b < W.heap.size → W1.heap[b]? = W.heap[b]? := fun b hb => by rw [hW1]; exact Below.heap_alloc _ _ _ hb
  have lt0 := (Array.getElem?_eq_some_iff.1 h.ok).1
  have lt1 := (Array.getElem?_eq_some_iff.1 h.no).1
  have lt2 := (Array.getElem?_eq_some_iff.1 h.k).1
  have lt3 := (Array.getElem?_eq_some_iff.1 h.l).1
  have hN : W1.heap[W.heap.size]? = some (.cells #[.string n, .string f, .int .i64 c, .int .i64 r, .string v] 46 (0, 0)) := by rw [hW1]; exact World.alloc_heap_new _ _
  have a0 : W1.cell? ⟨bo, 0, none⟩ = some (.bool true) := Joins.cell_of_block ((kb _ lt0).trans h.ok) 0
  have a1 : W1.cell? ⟨bn, 0, none⟩ = some (.bool false) := Joins.cell_of_block ((kb _ lt1).trans h.no) 0
  have a2 : W1.cell? ⟨bk, 0, none⟩ = some (.int .i64 (j : Nat)) := Joins.cell_of_block ((kb _ lt2).trans h.k) 0
  have a3 : W1.cell? ⟨bl, 0, none⟩ = some (.slice (some ⟨g, 0, none⟩) nF cap) := Joins.cell_of_block ((kb _ lt3).trans h.l) 0
  have b0 : W1.frozen? ⟨bo, 0, none⟩ = false := Joins.unfrozen_of_block ((kb _ lt0).trans h.ok) 0
  have b1 : W1.frozen? ⟨bn, 0, none⟩ = false := Joins.unfrozen_of_block ((kb _ lt1).trans h.no) 0
  have b2 : W1.frozen? ⟨bk, 0, none⟩ = false := Joins.unfrozen_of_block ((kb _ lt2).trans h.k) 0
  have xc : ∀ i, W1.cell? ⟨W.heap.size, i, none⟩ = (#[Value.string n, .string f, .int .i64 c, .int .i64 r, .string v])[i]? := fun i => Joins.cell_of_block hN i
  have x0 := xc 0
  have x1 := xc 1
  have x2 := xc 2
  have x3 := xc 3
  have x4 := xc 4
  simp at x0 x1 x2 x3 x4
  have kc : ∀ i, W1.cell? ⟨g, i, none⟩ = W.cell? ⟨g, i, none⟩ := fun i => World.cell?_of_block (w := W) (kb _ hg)
  have z0 := (kc (j * 5)).trans y0
  have z1 := (kc (j * 5 + 1)).trans y1
  have z2 := (kc (j * 5 + 2)).trans y2
  have z3 := (kc (j * 5 + 3)).trans y3
  have z4 := (kc (j * 5 + 4)).trans y4
  obtain ⟨d1, d2, d3, d4, d5, d6⟩ := hd
  obtain ⟨o1, o2, o3, o4⟩ := hlo g rfl
  have n1 : W.heap.size ≠ bo := by omega
  have n2 : W.heap.size ≠ bn := by omega
  have n3 : W.heap.size ≠ bk := by omega
  have w1 : IntKind.i64.wrap ((j : Int) + 1) = (j : Int) + 1 := by rw [IntKind.wrap_i64]; omega
  have hjj : (j : Int) < (nF : Int) := by omega
  have heq := eql46 n f v c r
  have HH := Lib.hid (And.intro h (And.intro hW1 (And.intro lt0 (And.intro lt1 (And.intro lt2 lt3)))))
  have hd1 : ¬ bn = bo := fun e => d1 e.symm
  have hd2 : ¬ bk = bo := fun e => d2 e.symm
  have hd3 : ¬ bl = bo := fun e => d3 e.symm
  clear hl h hx hnF hW1 y0 y1 y2 y3 y4 xc kc kb hN lt0 lt1 lt2 lt3
  go_enter Tryz.func40, Tryz.ntmps40
  go_wp2
  rw [← HH.out.2.1]
  refine wp_region_noPanic ?_
  refine wp_region_Z (S := fun U => U.cell? ⟨bo, 0, none⟩ = some (.bool true) ∧ U.cell? ⟨bn, 0, none⟩ = some (.bool false) ∧ U.cell? ⟨bk, 0, none⟩ = some (.int .i64 (j : Nat)) ∧ U.cell? ⟨bl, 0, none⟩ = some (.slice (some ⟨g, 0, none⟩) nF cap) ∧ U.cell? ⟨W.heap.size, 0, none⟩ = some (.string n) ∧ U.cell? ⟨W.heap.size, 1, none⟩ = some (.string f) ∧ U.cell? ⟨W.heap.size, 2, none⟩ = some (.int .i64 c) ∧ U.cell? ⟨W.heap.size, 3, none⟩ = some (.int .i64 r) ∧ U.cell? ⟨W.heap.size, 4, none⟩ = some (.string v) ∧ U.cell? ⟨g, j * 5, none⟩ = some (.string n) ∧ U.cell? ⟨g, j * 5 + 1, none⟩ = some (.string f) ∧ U.cell? ⟨g, j * 5 + 2, none⟩ = some (.int .i64 c) ∧ U.cell? ⟨g, j * 5 + 3, none⟩ = some (.int .i64 r) ∧ U.cell? ⟨g, j * 5 + 4, none⟩ = some (.string v)) (z := 19) (by kernel_rfl) (⟨a0, a1, a2, a3, x0, x1, x2, x3, x4, z0, z1, z2, z3, z4⟩) (fun hHeld => ?_)
  refine wpAnyZ_take (i := 0) (v := ?v0) rfl (by kernel_rfl) (by kernel_rfl) (by kernel_rfl) (by kernel_rfl) (fun _ _ _ h => h) (Or.inl ⟨by rfl, ?hy0⟩) hHeld ?rest0; (case hy0 => (intro W hSw; obtain ⟨s0, s1, s2, s3, s4, s5, s6, s7, s8, s9, s10, s11, s12, s13⟩ := hSw; go_simp; (try with_reducible rfl)))
  simp only [Act.put, List.getElem_toArray, List.getElem_cons_zero, List.getElem_cons_succ, List.setIfInBounds_toArray, List.set_cons_zero, List.set_cons_succ]
  refine wpAnyZ_take (i := 1) (v := ?v1) rfl (by kernel_rfl) (by kernel_rfl) (by kernel_rfl) (by kernel_rfl) (fun _ _ _ h => h) (Or.inl ⟨by rfl, ?hy1⟩) hHeld ?rest1; (case hy1 => (intro W hSw; obtain ⟨s0, s1, s2, s3, s4, s5, s6, s7, s8, s9, s10, s11, s12, s13⟩ := hSw; go_simp; (try with_reducible rfl)))
  simp only [Act.put, List.getElem_toArray, List.getElem_cons_zero, List.getElem_cons_succ, List.setIfInBounds_toArray, List.set_cons_zero, List.set_cons_succ]
  refine wpAnyZ_take (i := 2) (v := ?v2) rfl (by kernel_rfl) (by kernel_rfl) (by kernel_rfl) (by kernel_rfl) (fun _ _ _ h => h) (Or.inl ⟨by rfl, ?hy2⟩) hHeld ?rest2; (case hy2 => (intro W hSw; obtain ⟨s0, s1, s2, s3, s4, s5, s6, s7, s8, s9, s10, s11, s12, s13⟩ := hSw; go_simp; (try with_reducible rfl)))
  simp only [Act.put, List.getElem_toArray, List.getElem_cons_zero, List.getElem_cons_succ, List.setIfInBounds_toArray, List.set_cons_zero, List.set_cons_succ]
  refine wpAnyZ_take (i := 3) (v := ?v3) rfl (by kernel_rfl) (by kernel_rfl) (by kernel_rfl) (by kernel_rfl) (fun _ _ _ h => h) (Or.inl ⟨by rfl, ?hy3⟩) hHeld ?rest3; (case hy3 => (intro W hSw; obtain ⟨s0, s1, s2, s3, s4, s5, s6, s7, s8, s9, s10, s11, s12, s13⟩ := hSw; go_simp; (try with_reducible rfl)))
  simp only [Act.put, List.getElem_toArray, List.getElem_cons_zero, List.getElem_cons_succ, List.setIfInBounds_toArray, List.set_cons_zero, List.set_cons_succ]
  refine wpAnyZ_take (i := 4) (v := ?v4) rfl (by kernel_rfl) (by kernel_rfl) (by kernel_rfl) (by kernel_rfl) (fun _ _ _ h => h) (Or.inl ⟨by rfl, ?hy4⟩) hHeld ?rest4; (case hy4 => (intro W hSw; obtain ⟨s0, s1, s2, s3, s4, s5, s6, s7, s8, s9, s10, s11, s12, s13⟩ := hSw; go_simp; (try with_reducible rfl)))
  simp only [Act.put, List.getElem_toArray, List.getElem_cons_zero, List.getElem_cons_succ, List.setIfInBounds_toArray, List.set_cons_zero, List.set_cons_succ]
  refine wpAnyZ_take (i := 5) (v := ?v5) rfl (by kernel_rfl) (by kernel_rfl) (by kernel_rfl) (by kernel_rfl) (fun _ _ _ h => h) (Or.inl ⟨by rfl, ?hy5⟩) hHeld ?rest5; (case hy5 => (intro W hSw; obtain ⟨s0, s1, s2, s3, s4, s5, s6, s7, s8, s9, s10, s11, s12, s13⟩ := hSw; go_simp; (try with_reducible rfl)))
  simp only [Act.put, List.getElem_toArray, List.getElem_cons_zero, List.getElem_cons_succ, List.setIfInBounds_toArray, List.set_cons_zero, List.set_cons_succ]
  refine wpAnyZ_take (i := 6) (v := ?v6) rfl (by kernel_rfl) (by kernel_rfl) (by kernel_rfl) (by kernel_rfl) (fun _ _ _ h => h) (Or.inl ⟨by rfl, ?hy6⟩) hHeld ?rest6; (case hy6 => (intro W hSw; obtain ⟨s0, s1, s2, s3, s4, s5, s6, s7, s8, s9, s10, s11, s12, s13⟩ := hSw; go_simp; (try with_reducible rfl)))
  simp only [Act.put, List.getElem_toArray, List.getElem_cons_zero, List.getElem_cons_succ, List.setIfInBounds_toArray, List.set_cons_zero, List.set_cons_succ]
  refine wpAnyZ_take (i := 7) (v := ?v7) rfl (by kernel_rfl) (by kernel_rfl) (by kernel_rfl) (by kernel_rfl) (fun _ _ _ h => h) (Or.inl ⟨by rfl, ?hy7⟩) hHeld ?rest7; (case hy7 => (intro W hSw; obtain ⟨s0, s1, s2, s3, s4, s5, s6, s7, s8, s9, s10, s11, s12, s13⟩ := hSw; go_simp; (try with_reducible rfl)))
  simp only [Act.put, List.getElem_toArray, List.getElem_cons_zero, List.getElem_cons_succ, List.setIfInBounds_toArray, List.set_cons_zero, List.set_cons_succ]
  refine wpAnyZ_take (i := 8) (v := ?v8) rfl (by kernel_rfl) (by kernel_rfl) (by kernel_rfl) (by kernel_rfl) (fun _ _ _ h => h) (Or.inl ⟨by rfl, ?hy8⟩) hHeld ?rest8; (case hy8 => (intro W hSw; obtain ⟨s0, s1, s2, s3, s4, s5, s6, s7, s8, s9, s10, s11, s12, s13⟩ := hSw; go_simp; (try with_reducible rfl)))
  simp only [Act.put, List.getElem_toArray, List.getElem_cons_zero, List.getElem_cons_succ, List.setIfInBounds_toArray, List.set_cons_zero, List.set_cons_succ]
  refine wpAnyZ_take (i := 9) (v := ?v9) rfl (by kernel_rfl) (by kernel_rfl) (by kernel_rfl) (by kernel_rfl) (fun _ _ _ h => h) (Or.inl ⟨by rfl, ?hy9⟩) hHeld ?rest9; (case hy9 => (intro W hSw; obtain ⟨s0, s1, s2, s3, s4, s5, s6, s7, s8, s9, s10, s11, s12, s13⟩ := hSw; go_simp; (try with_reducible rfl)))
  simp only [Act.put, List.getElem_toArray, List.getElem_cons_zero, List.getElem_cons_succ, List.setIfInBounds_toArray, List.set_cons_zero, List.set_cons_succ]
  refine wpAnyZ_take (i := 10) (v := ?v10) rfl (by kernel_rfl) (by kernel_rfl) (by kernel_rfl) (by kernel_rfl) (fun _ _ _ h => h) (Or.inl ⟨by rfl, ?hy10⟩) hHeld ?rest10; (case hy10 => (intro W hSw; obtain ⟨s0, s1, s2, s3, s4, s5, s6, s7, s8, s9, s10, s11, s12, s13⟩ := hSw; go_simp; (try with_reducible rfl)))
  simp only [Act.put, List.getElem_toArray, List.getElem_cons_zero, List.getElem_cons_succ, List.setIfInBounds_toArray, List.set_cons_zero, List.set_cons_succ]
  refine wpAnyZ_take (i := 11) (v := ?v11) rfl (by kernel_rfl) (by kernel_rfl) (by kernel_rfl) (by kernel_rfl) (fun _ _ _ h => h) (Or.inl ⟨by rfl, ?hy11⟩) hHeld ?rest11; (case hy11 => (intro W hSw; obtain ⟨s0, s1, s2, s3, s4, s5, s6, s7, s8, s9, s10, s11, s12, s13⟩ := hSw; go_simp; (try with_reducible rfl)))
  simp only [Act.put, List.getElem_toArray, List.getElem_cons_zero, List.getElem_cons_succ, List.setIfInBounds_toArray, List.set_cons_zero, List.set_cons_succ]
  refine wpAnyZ_take (i := 12) (v := ?v12) rfl (by kernel_rfl) (by kernel_rfl) (by kernel_rfl) (by kernel_rfl) (fun _ _ _ h => h) (Or.inl ⟨by rfl, ?hy12⟩) hHeld ?rest12; (case hy12 => (intro W hSw; obtain ⟨s0, s1, s2, s3, s4, s5, s6, s7, s8, s9, s10, s11, s12, s13⟩ := hSw; go_simp; (try with_reducible rfl)))
  simp only [Act.put, List.getElem_toArray, List.getElem_cons_zero, List.getElem_cons_succ, List.setIfInBounds_toArray, List.set_cons_zero, List.set_cons_succ]
  refine wpAnyZ_take (i := 13) (v := ?v13) rfl (by kernel_rfl) (by kernel_rfl) (by kernel_rfl) (by kernel_rfl) (fun _ _ _ h => h) (Or.inl ⟨by rfl, ?hy13⟩) hHeld ?rest13; (case hy13 => (intro W hSw; obtain ⟨s0, s1, s2, s3, s4, s5, s6, s7, s8, s9, s10, s11, s12, s13⟩ := hSw; go_simp; (try with_reducible rfl)))
  simp only [Act.put, List.getElem_toArray, List.getElem_cons_zero, List.getElem_cons_succ, List.setIfInBounds_toArray, List.set_cons_zero, List.set_cons_succ]
  refine wpAnyZ_take (i := 14) (v := ?v14) rfl (by kernel_rfl) (by kernel_rfl) (by kernel_rfl) (by kernel_rfl) (fun _ _ _ h => h) (Or.inl ⟨by rfl, ?hy14⟩) hHeld ?rest14; (case hy14 => (intro W hSw; obtain ⟨s0, s1, s2, s3, s4, s5, s6, s7, s8, s9, s10, s11, s12, s13⟩ := hSw; go_simp; (try with_reducible rfl)))
  simp only [Act.put, List.getElem_toArray, List.getElem_cons_zero, List.getElem_cons_succ, List.setIfInBounds_toArray, List.set_cons_zero, List.set_cons_succ]
  refine wpAnyZ_take (i := 15) (v := ?v15) rfl (by kernel_rfl) (by kernel_rfl) (by kernel_rfl) (by kernel_rfl) (fun _ _ _ h => h) (Or.inl ⟨by rfl, ?hy15⟩) hHeld ?rest15; (case hy15 => (intro W hSw; obtain ⟨s0, s1, s2, s3, s4, s5, s6, s7, s8, s9, s10, s11, s12, s13⟩ := hSw; go_simp; (try with_reducible rfl)))
  simp only [Act.put, List.getElem_toArray, List.getElem_cons_zero, List.getElem_cons_succ, List.setIfInBounds_toArray, List.set_cons_zero, List.set_cons_succ]
  refine wpAnyZ_take (i := 16) (v := ?v16) rfl (by kernel_rfl) (by kernel_rfl) (by kernel_rfl) (by kernel_rfl) (fun _ _ _ h => h) (Or.inl ⟨by rfl, ?hy16⟩) hHeld ?rest16; (case hy16 => (intro W hSw; obtain ⟨s0, s1, s2, s3, s4, s5, s6, s7, s8, s9, s10, s11, s12, s13⟩ := hSw; go_simp; (try with_reducible rfl)))
  simp only [Act.put, List.getElem_toArray, List.getElem_cons_zero, List.getElem_cons_succ, List.setIfInBounds_toArray, List.set_cons_zero, List.set_cons_succ]
  refine wpAnyZ_take (i := 17) (v := ?v17) rfl (by kernel_rfl) (by kernel_rfl) (by kernel_rfl) (by kernel_rfl) (fun _ _ _ h => h) (Or.inl ⟨by rfl, ?hy17⟩) hHeld ?rest17; (case hy17 => (intro W hSw; obtain ⟨s0, s1, s2, s3, s4, s5, s6, s7, s8, s9, s10, s11, s12, s13⟩ := hSw; go_simp; (try with_reducible rfl)))
  simp only [Act.put, List.getElem_toArray, List.getElem_cons_zero, List.getElem_cons_succ, List.setIfInBounds_toArray, List.set_cons_zero, List.set_cons_succ]
  refine wpAnyZ_take (i := 18) (v := ?v18) rfl (by kernel_rfl) (by kernel_rfl) (by kernel_rfl) (by kernel_rfl) (fun _ _ _ h => h) (Or.inl ⟨by rfl, ?hy18⟩) hHeld ?rest18; (case hy18 => (intro W hSw; obtain ⟨s0, s1, s2, s3, s4, s5, s6, s7, s8, s9, s10, s11, s12, s13⟩ := hSw; go_simp; (try with_reducible rfl)))
  simp only [Act.put, List.getElem_toArray, List.getElem_cons_zero, List.getElem_cons_succ, List.setIfInBounds_toArray, List.set_cons_zero, List.set_cons_succ]
  refine wpAnyZ_skip (i := 19) (w' := W1.drew.setCell ⟨bo, 0, none⟩ (.bool true)) (by kernel_rfl) rfl (by rfl) ?hv19 (fun h => Bool.noConfusion h) ?rest19; (case hv19 => (go_simp))
  simp only [Act.put, List.getElem_toArray, List.getElem_cons_zero, List.getElem_cons_succ, List.setIfInBounds_toArray, List.set_cons_zero, List.set_cons_succ]
  refine wpAnyZ_done (by kernel_rfl) ?_ _
  refine NoPanic.normal ?_
  clear hHeld
  go_wp2
  go_ret
  obtain ⟨h, hW1, lt0, lt1, lt2, lt3⟩ := HH.out
  have hb : decide ((nF : Int) / 2 < (j : Int) + 1) = decide (nF / 2 < j + 1) := by rw [Bool.eq_iff_iff, decide_eq_true_eq, decide_eq_true_eq]; omega
  have kb : ∀ b, b < W.heap.size → W1.heap[b]? = W.heap[b]? := fun b hb => by rw [hW1]; exact Below.heap_alloc _ _ _ hb
  have e0 := (kb _ lt0).trans h.ok
  have e1 := (kb _ lt1).trans h.no
  have e2 := (kb _ lt2).trans h.k
  have e3 := (kb _ lt3).trans h.l
  refine ⟨ret_bool ?_, ⟨?_, ?_, ?_, ?_⟩, ?_⟩
  · rw [hb, Bool.eq_iff_iff]
    simp
  · show (World.setCell _ _ _).heap[bo]? = _
    rw [Below.heap_setCell _ _ _ _ (by simp only; omega), Below.heap_setCell _ _ _ _ (by simp only; omega)]
    exact setCell_box e0
  · show (World.setCell _ _ _).heap[bn]? = _
    rw [hb]
    refine setCell_box (v := .bool false) ?_
    rw [Below.heap_setCell _ _ _ _ (by simp only; omega), Below.heap_setCell _ _ _ _ (by simp only; omega)]
    exact e1
  · show (World.setCell _ _ _).heap[bk]? = _
    rw [Below.heap_setCell _ _ _ _ (by simp only; omega)]
    rw [show ((j + 1 : Nat) : Int) = (j : Int) + 1 by omega]
    refine setCell_box (v := .int .i64 (j : Nat)) ?_
    rw [Below.heap_setCell _ _ _ _ (by simp only; omega)]
    exact e2
  · show (World.setCell _ _ _).heap[bl]? = _
    rw [Below.heap_setCell _ _ _ _ (by simp only; omega), Below.heap_setCell _ _ _ _ (by simp only; omega), Below.heap_setCell _ _ _ _ (by simp only; omega)]
    exact e3
  · refine Keep.trans (hW1 ▸ Keep.alloc _ _ _) ?_
    exact (((Keep.setCell (F := fun b => b = bo ∨ b = bn ∨ b = bk) _ _ _ (.inl rfl)).trans (Keep.setCell _ _ _ (.inr (.inr rfl)))).trans (Keep.setCell _ _ _ (.inr (.inl rfl)))).trans (Keep.drew _ _)
end Go.Proofs.YtpdbmpbmepkikaaGreatDoor

namespace Go.Proofs.YtpdbmpbmepkikaaGreatDoor
open Go.RowKit
attribute [local go_sem] Oper.semAt_some

theorem info46 : (Tryz.prog.info? 46).map (fun i => (i.zero, i.size, i.bytes)) = some (some (.agg #[.string ⟨#[]⟩, .string ⟨#[]⟩, .int .i64 0, .int .i64 0, .string ⟨#[]⟩]), 5, 64) := by kernel_rfl

/-- The first round: what is gathered, and the variable ok. -/
structure RgI (N : Nat) (pre : List Reg) (W : World) (D : Nat → Prop) (v : Value) : Prop where
  acc : AccAt W N 35 46 5 v pre.length (rows pre)
  ok : W.heap[N + 1]? = some (.cells #[.bool true] 4 (0, 0))
  dom : D = fun b => accD N v b ∨ b = N + 1
theorem RgI.owned (N : Nat) : Owned (fun pre W D => ∃ v, RgI N pre W D v) := ⟨fun pre W D ⟨v, h⟩ b hb => by
    rw [h.dom] at hb
    rcases hb with hb | rfl
    · exact h.acc.lt b hb
    · exact (Array.getElem?_eq_some_iff.1 h.ok).1,
  fun pre W D W' ⟨v, h⟩ ha => ⟨v, h.acc.abide fun b hb => ha.block b (by rw [h.dom]; exact .inl hb), (ha.block _ (by rw [h.dom]; exact .inr rfl)).trans h.ok, h.dom⟩⟩

/-- The second round: what the closure's variables hold. -/
def RgJ (bo bn bk bl : Nat) (F : List Reg) (lv : Value) (D2 : Nat → Prop) (last : Bool) (pre : List Reg) (W : World) (D : Nat → Prop) : Prop :=
  ∃ no k, F40 bo bn bk bl true no k lv W ∧ (last = false → no = false ∧ k = (pre.length : Nat)) ∧ RegsAt W lv F ∧ D = D2
theorem RgJ.owned {bo bn bk bl : Nat} {F : List Reg} {lv : Value} {D2 : Nat → Prop} (h1 : ∀ b, D2 b ↔ (b = bo ∨ b = bn ∨ b = bk ∨ b = bl ∨ lv.ownBlock = some b)) (last : Bool) : Owned (RgJ bo bn bk bl F lv D2 last) := ⟨fun pre W D ⟨no, k, h, _, hs, e⟩ b hb => by
    subst e
    rcases (h1 b).1 hb with rfl | rfl | rfl | rfl | hb
    · exact (Array.getElem?_eq_some_iff.1 h.ok).1
    · exact (Array.getElem?_eq_some_iff.1 h.no).1
    · exact (Array.getElem?_eq_some_iff.1 h.k).1
    · exact (Array.getElem?_eq_some_iff.1 h.l).1
    · exact (World.ownsRow.lt hs b hb).2,
  fun pre W D W' ⟨no, k, h, hl, hs, e⟩ ha => by
    subst e
    exact ⟨no, k, ⟨(ha.block _ ((h1 _).2 (.inl rfl))).trans h.ok, (ha.block _ ((h1 _).2 (.inr (.inl rfl)))).trans h.no, (ha.block _ ((h1 _).2 (.inr (.inr (.inl rfl))))).trans h.k, (ha.block _ ((h1 _).2 (.inr (.inr (.inr (.inl rfl)))))).trans h.l⟩, hl, ownsRow_block hs fun g hg => ha.block g ((h1 g).2 (.inr (.inr (.inr (.inr hg))))), rfl⟩⟩

theorem second40_any (bo bn bk bl bp bq m : Nat) (L : List Reg) (lv : Value) (W : World) (D2 : Nat → Prop) (h1 : ∀ b, D2 b ↔ (b = bo ∨ b = bn ∨ b = bk ∨ b = bl ∨ lv.ownBlock = some b))
    (hcp : W.cell? ⟨bp, 0, none⟩ = some (.map (some m))) (hcn : W.cell? ⟨bq, 0, none⟩ = some (.string ⟨#[]⟩)) (hB : BookAt W m L) (hL : L.length ≤ 1073741824) (hF : (belowL L ⟨#[]⟩).length ≤ 1000000)
    (hd : bo ≠ bn ∧ bo ≠ bk ∧ bo ≠ bl ∧ bn ≠ bk ∧ bn ≠ bl ∧ bk ≠ bl) (hlv : ∀ b, lv.ownBlock = some b → b ≠ bo ∧ b ≠ bn ∧ b ≠ bk ∧ b ≠ bl)
    (hdis : ∀ b, D2 b → ¬ (b = bp ∨ b = bq ∨ b = m)) (h40 : F40 bo bn bk bl true false 0 lv W) (hs : RegsAt W lv (belowL L ⟨#[]⟩)) :
    Calls Tryz.prog 85 #[.func (.func 40) #[] #[.pointer (some ⟨bo, 0, none⟩), .pointer (some ⟨bn, 0, none⟩), .pointer (some ⟨bk, 0, none⟩), .pointer (some ⟨bl, 0, none⟩)], .pointer (some ⟨bp, 0, none⟩), .pointer (some ⟨bq, 0, none⟩)] W fun e W' =>
      (∃ v, e = .returned v) ∧ (∃ no k, F40 bo bn bk bl true no k lv W') ∧ RegsAt W' lv (belowL L ⟨#[]⟩) ∧ Keep D2 W W' := by
  obtain ⟨F, hFe⟩ : ∃ F, F = belowL L ⟨#[]⟩ := ⟨_, rfl⟩
  have hit := below1_iterC bp bq m L ⟨#[]⟩ W hcp hcn hB hL
  rw [← hFe] at hit hs hF ⊢
  have hc := hit 40 #[.pointer (some ⟨bo, 0, none⟩), .pointer (some ⟨bn, 0, none⟩), .pointer (some ⟨bk, 0, none⟩), .pointer (some ⟨bl, 0, none⟩)] (RgJ bo bn bk bl F lv D2 false) (RgJ bo bn bk bl F lv D2 true) W D2
    (callFunc_run Tryz.func40 rfl (by decide)) ⟨rfl, rfl, rfl, Nat.le_refl _, fun _ _ => rfl⟩ (RgJ.owned h1 false) (RgJ.owned h1 true) hdis ?_ ⟨false, 0, h40, fun _ => ⟨rfl, rfl⟩, hs, rfl⟩
  · refine (callsIn_wide (n := 0)).1 (hc.mono ?_)
    rintro e W' ⟨hv, (⟨xs, D', _, ⟨no, k, h, _, hs', rfl⟩, hL'⟩ | ⟨pre, D', _, ⟨no, k, h, _, hs', rfl⟩, hL'⟩)⟩
    · exact ⟨hv, ⟨no, k, h⟩, hs', hL'.1⟩
    · exact ⟨hv, ⟨no, k, h⟩, hs', hL'.1⟩
  · rintro pre x W1 D1 ⟨suf, hS⟩ ⟨no, k, h, hk, hs1, rfl⟩
    obtain ⟨rfl, rfl⟩ := hk rfl
    have hj : pre.length < F.length := by rw [← hS]; simp
    have hx : F[pre.length] = x := by simp [← hS]
    have := regs40_any bo bn bk bl F pre.length hj hF lv W1 h hs1 hd hlv
    rw [hx] at this
    refine (callsIn_wide.2 this).mono ?_
    rintro e W' ⟨rfl, h', hk'⟩
    have hs' : RegsAt W' lv F := ownsRow_block hs1 fun g hg => hk'.block g (World.ownsRow.lt hs1 g hg).2 (by obtain ⟨a, b, c, d⟩ := hlv g hg; rintro (e | e | e) <;> contradiction)
    have hL' : Left D1 W1 D1 W' := ⟨hk'.mono fun b _ hb => (h1 b).2 (by rcases hb with h | h | h <;> simp [h]), fun b hb => .inl hb⟩
    by_cases hle : pre.length + 1 ≤ F.length / 2
    · exact .inl ⟨by simp [hle], D1, ⟨_, _, h', fun _ => ⟨by simp; omega, by simp⟩, hs', rfl⟩, hL'⟩
    · exact .inr ⟨by simp [hle], D1, ⟨_, _, h', (fun h => Bool.noConfusion h), hs', rfl⟩, hL'⟩

set_option maxHeartbeats 2000000 in
theorem registersW_any (pw : Nat) (lv : Value) (ps : List Nat) (i : Nat) (hi : i < ps.length) (id : Int) (m g0 : Nat) (L : List Reg) (w : World) (hW : WldAt w pw lv ps) (_hps : ps.length ≤ 1000000) (hR : RepAt w ps[i] id m g0) (hB : BookAt w m L) (hL : L.length ≤ 500000) :
    Calls Tryz.prog 21 #[.pointer (some ⟨pw, 0, none⟩), .int .i64 i] w fun e w' => ∃ v, e = .returned (.tuple #[v, .bool true]) ∧ w'.ownsRow w.heap.size 46 5 v (belowL L ⟨#[]⟩).length (rows (belowL L ⟨#[]⟩)) ∧ Below w.heap.size w w' := by
  obtain ⟨gs, caps, hv, hg, hci⟩ := hW.cell hi
  subst hv
  obtain ⟨p, hp⟩ : ∃ p, p = ps[i] := ⟨_, rfl⟩
  rw [← hp] at hR hci
  have hcw : w.cell? ⟨pw, 0, none⟩ = some (.slice (some ⟨gs, 0, none⟩) ps.length caps) := Joins.cell_of_block hW.box 0
  have hpwl := (Array.getElem?_eq_some_iff.1 hW.box).1
  obtain ⟨i0, hi46, hq0, hq1, hq2⟩ := info_parts info46
  have hii : (i : Int) < (ps.length : Int) := by omega
  have hpl := hR.lt
  have hml := hB.lt
  have hpm := hR.ne hB
  have HB := Lib.hid (And.intro hR hB)
  clear hR hB hW hp
  refine (callsIn_wide (n := 0)).1 (callsIn_of_wp_marks Tryz.func21 rfl trivial ?_ rfl)
  simp only [Tryz.ntmps21, List.size_toArray, List.length_cons, List.length_nil, Nat.reduceAdd, Nat.reduceSub, Array.replicate_succ, Array.replicate_zero, List.push_toArray, List.append_toArray, List.nil_append, List.cons_append]
  gi_wp2_with (gi_at_call 39; refine (callsIn_wide.2 (registers_any p id m g0 _ ((Below.heap_alloc _ _ _ (by simp; omega)).trans ((Below.heap_alloc _ _ _ hpl).trans HB.out.1)))).mono ?_; rintro e w1 ⟨rfl, hw1⟩; have HW := Lib.hid hw1; clear hw1)
  obtain ⟨hR, hB⟩ := HB.out
  have hbel : Below w.heap.size w w1 := by rw [HW.out]; exact ((((Below.refl _ _).alloc (Nat.le_refl _) _).alloc (by simp) _).alloc (by simp; omega) _).alloc (by simp; omega) _
  have hz1 : w1.heap.size = w.heap.size + 4 := by rw [HW.out]; simp
  have hbl : w1.heap[w.heap.size]? = some (.cells #[.slice none 0 0] 35 (0, 0)) := by rw [HW.out]; simp only [World.alloc]; grind
  have hbo : w1.heap[w.heap.size + 1]? = some (.cells #[.bool true] 4 (0, 0)) := by rw [HW.out]; simp only [World.alloc]; grind
  have hcp : w1.cell? ⟨w.heap.size + 1 + 1, 0, none⟩ = some (.map (some m)) := by rw [HW.out]; go_simp
  have hcn : w1.cell? ⟨w.heap.size + 1 + 1 + 1, 0, none⟩ = some (.string ⟨#[]⟩) := by rw [HW.out]; go_simp
  have hB1 : BookAt w1 m L := hB.below hbel
  have hit := below1_iter (w.heap.size + 1 + 1) (w.heap.size + 1 + 1 + 1) m L ⟨#[]⟩ w1 hcp hcn hB1 (by omega)
  have hSl : (belowL L ⟨#[]⟩).length ≤ 500000 := by
    unfold belowL
    rw [List.length_map, sortB_length]
    exact Nat.le_trans (List.length_filter_le _ _) (by simpa using hL)
  refine wp_rangeFunc (gf := 85) (lb := #[.pointer (some ⟨w.heap.size + 1 + 1, 0, none⟩), .pointer (some ⟨w.heap.size + 1 + 1 + 1, 0, none⟩)]) rfl (callFunc_run Tryz.func85 rfl (by decide)) hit (fun b hb => by rcases hb with rfl | rfl | rfl <;> omega) (fun _ => rfl)
    (fun pre W D => ∃ v, RgI w.heap.size pre W D v) (fun _ _ _ _ => False) (RgI.owned _) (fun _ => ⟨fun _ _ _ h => h.elim, fun _ _ _ _ h => h.elim⟩)
    (fun b => accD w.heap.size (.slice none 0 0) b ∨ b = w.heap.size + 1) (fun b hb => ?idis) ⟨_, ⟨hbl, World.ownsRow_nil _ _ _ _⟩, hbo, rfl⟩ ?round ?done ?stop
  case idis =>
    rcases hb with (rfl | hb) | rfl
    · rintro (h | h | h) <;> omega
    · cases hb
    · rintro (h | h | h) <;> omega
  case stop => exact fun _ _ _ _ _ h => h.elim
  case round =>
    rintro l pre ⟨xn, xf, xc, xr, xv⟩ W D hl1 hl2 hDl ⟨suf, hS⟩ ⟨v, hI⟩ hD0
    have hlen : pre.length + 1 ≤ 500000 := by rw [← hS] at hSl; simp at hSl; omega
    have HI := Lib.hid hI
    have hd := hI.dom
    subst hd
    clear hit hbel hbl hbo hcp hcn hB1 hI hS hR hB hci hcw
    unfold Reg.val
    gi_wp2
    refine ⟨⟨Keep.alloc _ _ _, fun b hb => hb.imp (fun h => h) (·.1)⟩, fun W2 hbut => ?_⟩
    have hz2 : W2.heap.size = W.heap.size + 1 := by rw [hbut.size]; simp
    have kb : ∀ b, (accD w.heap.size v b ∨ b = w.heap.size + 1) → W2.heap[b]? = W.heap[b]? := fun b hb => (hbut.block b (fun e => hDl (e ▸ hb))).trans (Below.heap_alloc _ _ _ (by
      rcases hb with hb | rfl
      · exact HI.out.acc.lt b hb
      · exact (Array.getElem?_eq_some_iff.1 HI.out.ok).1))
    have hacc2 : AccAt W2 w.heap.size 35 46 5 v pre.length (rows pre) := HI.out.acc.abide fun b hb => kb b (.inl hb)
    have hok2 : W2.heap[w.heap.size + 1]? = some (.cells #[.bool true] 4 (0, 0)) := (kb _ (.inr rfl)).trans HI.out.ok
    have hnew : W2.heap[W.heap.size]? = some (.cells #[.string xn, .string xf, .int .i64 xc, .int .i64 xr, .string xv] 46 (0, 0)) := (hbut.block _ (by omega)).trans (World.alloc_heap_new _ _)
    have x0 : W2.cell? ⟨W.heap.size, 0, none⟩ = some (.string xn) := Joins.cell_of_block hnew 0
    have x1 : W2.cell? ⟨W.heap.size, 1, none⟩ = some (.string xf) := Joins.cell_of_block hnew 1
    have x2 : W2.cell? ⟨W.heap.size, 2, none⟩ = some (.int .i64 xc) := Joins.cell_of_block hnew 2
    have x3 : W2.cell? ⟨W.heap.size, 3, none⟩ = some (.int .i64 xr) := Joins.cell_of_block hnew 3
    have x4 : W2.cell? ⟨W.heap.size, 4, none⟩ = some (.string xv) := Joins.cell_of_block hnew 4
    obtain ⟨hc, hf⟩ := hacc2.cell
    have hrow := hacc2.row
    have hlt2 := hacc2.lt
    have hN2 := hlt2 _ (.inl rfl)
    have hokl := (Array.getElem?_eq_some_iff.1 hok2).1
    have HA := Lib.hid hacc2
    have HOk := Lib.hid hok2
    have HBt := Lib.hid hz2
    clear hacc2 hbut hDl hD0 hlt2 hok2 kb hnew hz2
    gi_wp2_with (gi_at_builtin; go_must (refine wpListIn_append_own_at _ rfl _ _ 35 rfl (w.heap.size + 1) 46 i0 (.agg #[.string ⟨#[]⟩, .string ⟨#[]⟩, .int .i64 0, .int .i64 0, .string ⟨#[]⟩]) 5 64 Tryz.underlying35 hi46 hq0 hq1 hq2 rfl (by decide) v pre.length (rows pre) rfl (hrow.alloc _) ⟨W2.heap.size, 0, none⟩ 1 1 [.string xn, .string xf, .int .i64 xc, .int .i64 xr, .string xv] rfl rfl (newsAt (by first | rfl | simp) _ _ rfl) (by simp [Value.oneCell']) (by unfold maxLen; omega) (by omega) (by simp; omega) ?_); intro v' w3 ho' hg' _ hat; refine Halt.of ?_)
    obtain ⟨g', cap', hv'⟩ := ownsRow_succ ho'
    have hap := Lib.hid (AccAt.appended (AccAt.abide HA.out (fun b hb => Below.heap_alloc _ _ _ (AccAt.lt HA.out b hb))) hg' ho' hat)
    have hnb : some w.heap.size ≠ v.ownBlock := fun e => by have := (hrow.lt _ e.symm).1; omega
    have hnb1 : some (w.heap.size + 1) ≠ v.ownBlock := fun e => by
      obtain ⟨h1, h2⟩ := hrow
      rcases h2 with ⟨rfl, _⟩ | ⟨g, cap, cur, rfl, _, hg, _⟩
      · cases e
      · simp only [Value.ownBlock, Option.some.injEq] at e
        subst e
        rw [HOk.out] at hg; cases hg
    have hc1 : w3.cell? ⟨w.heap.size, 0, none⟩ = some v := (World.cell?_of_block (w := W2.alloc (.cells #[.string xn, .string xf, .int .i64 xc, .int .i64 xr, .string xv] 46)) (hg'.block _ (by simp; omega) hnb)).trans ((World.cell?_of_block (w := W2) (Below.heap_alloc _ _ _ hN2)).trans hc)
    have hf1 : w3.frozen? ⟨w.heap.size, 0, none⟩ = false := (World.frozen?_of_block (w := W2.alloc (.cells #[.string xn, .string xf, .int .i64 xc, .int .i64 xr, .string xv] 46)) (hg'.block _ (by simp; omega) hnb)).trans ((World.frozen?_of_block (w := W2) (Below.heap_alloc _ _ _ hN2)).trans hf)
    have hok3 : Hid (w3.heap[w.heap.size + 1]? = some (.cells #[.bool true] 4 (0, 0))) := Lib.hid ((hg'.block _ (by simp; omega) hnb1).trans ((Below.heap_alloc _ _ _ hokl).trans HOk.out))
    clear hrow hat hg' ho' hi46 hq0 hq1 hq2 hc hf hnb hnb1 x0 x1 x2 x3 x4
    subst hv'
    unfold Halt
    gi_wp2
    obtain ⟨h1, h2⟩ := hap.out
    have h4 : RgI w.heap.size (pre ++ [(⟨xn, xf, xc, xr, xv⟩ : Reg)]) _ (fun b => accD w.heap.size (.slice (some ⟨g', 0, none⟩) (pre.length + 1) cap') b ∨ b = w.heap.size + 1) (.slice (some ⟨g', 0, none⟩) (pre.length + 1) cap') :=
      ⟨by rw [rows_append, List.length_append]; exact h1, (Below.heap_setCell _ _ _ _ (by simp)).trans hok3.out, rfl⟩
    refine ⟨_, ⟨_, h4⟩, ?_⟩
    have h3 := h2.shift (Keep.alloc (fun _ => False) W2 (.cells #[.string xn, .string xf, .int .i64 xc, .int .i64 xr, .string xv] 46)) (E := fun b => (accD w.heap.size v b ∨ b = w.heap.size + 1) ∨ (W.heap.size ≤ b ∧ b < W.heap.size + 1)) fun _ h => .inl (.inl h)
    refine ⟨h3.1, fun b hb => ?_⟩
    rcases hb with hb | hb
    · exact h3.2 b hb
    · exact .inl (.inl (.inr hb))
  case done =>
    rintro xs W D hxs ⟨v, hI⟩ hLf hK hDK
    subst hxs
    have hd := hI.dom
    subst hd
    have hKl := (Array.getElem?_eq_some_iff.1 hK).1
    have hok := hI.ok
    obtain ⟨hbox, hrow⟩ := hI.acc
    have hWz := hLf.1.size
    obtain ⟨W2, hW2⟩ : ∃ W2, W2 = (W.alloc (.cells #[.int .i64 0] 3)).alloc (.cells #[.bool false] 4) := ⟨_, rfl⟩
    have hb2 : Below W.heap.size W W2 := by rw [hW2]; exact ((Below.refl _ _).alloc (Nat.le_refl _) _).alloc (by simp) _
    have hz2 : W2.heap.size = W.heap.size + 2 := by rw [hW2]; simp
    have hk2 : W2.heap[W.heap.size]? = some (.cells #[.int .i64 0] 3 (0, 0)) := by rw [hW2, Below.heap_alloc _ _ _ (by simp)]; exact World.alloc_heap_new _ _
    have hn2 : W2.heap[W.heap.size + 1]? = some (.cells #[.bool false] 4 (0, 0)) := by
      have := World.alloc_heap_new (W.alloc (.cells #[.int .i64 0] 3)) (.cells #[.bool false] 4)
      rw [World.size_alloc] at this; rw [hW2]; exact this
    have hgv : ∀ g, v.ownBlock = some g → w.heap.size < g ∧ g < W.heap.size ∧ (g = w.heap.size + 1 ∨ w.heap.size + 4 ≤ g) := fun g hg => by
      have h1 := hrow.lt g hg
      refine ⟨by omega, h1.2, ?_⟩
      rcases hLf.2 g (.inl (.inr hg)) with ((h | h) | h) | h
      · omega
      · cases h
      · omega
      · omega
    have hgv1 : ∀ g, v.ownBlock = some g → g ≠ w.heap.size + 1 := fun g hg e => by
      obtain ⟨h1, h2⟩ := hrow
      rcases h2 with ⟨rfl, _⟩ | ⟨g', cap, cur, rfl, _, hg', _⟩
      · cases hg
      · simp only [Value.ownBlock, Option.some.injEq] at hg
        subst hg
        rw [e, hok] at hg'; cases hg'
    have keepW : ∀ b, b < w1.heap.size → b ≠ w.heap.size → b ≠ w.heap.size + 1 → W2.heap[b]? = w1.heap[b]? := fun b hb h0 h1 => (hb2.block b (by omega)).trans (hLf.1.block b hb (by rintro ((h | h) | h); exact h0 h; cases h; exact h1 h))
    have hcall := second40_any (w.heap.size + 1) (W.heap.size + 1) W.heap.size w.heap.size (w.heap.size + 1 + 1) (w.heap.size + 1 + 1 + 1) m L v W2
      (fun b => b = w.heap.size + 1 ∨ b = W.heap.size + 1 ∨ b = W.heap.size ∨ b = w.heap.size ∨ v.ownBlock = some b) (fun b => Iff.rfl)
      ((World.cell?_of_block (w := w1) (a := ⟨_, _, none⟩) (keepW _ (by simp only; omega) (by simp only; omega) (by simp only; omega))).trans hcp) ((World.cell?_of_block (w := w1) (a := ⟨_, _, none⟩) (keepW _ (by simp only; omega) (by simp only; omega) (by simp only; omega))).trans hcn)
      (hB1.of_block (keepW m (by omega) (by omega) (by omega))) (by omega) (by omega) ⟨by omega, by omega, by omega, by omega, by omega, by omega⟩
      (fun b hb => by have h1 := hgv b hb; have h2 := hgv1 b hb; omega)
      (fun b hb => by
        rcases hb with rfl | rfl | rfl | rfl | hb
        · rintro (h | h | h) <;> omega
        · rintro (h | h | h) <;> omega
        · rintro (h | h | h) <;> omega
        · rintro (h | h | h) <;> omega
        · have h1 := hgv b hb; have h2 := hgv1 b hb; rintro (h | h | h) <;> omega)
      ⟨(hb2.block _ (by omega)).trans hok, hn2, hk2, (hb2.block _ (by omega)).trans hbox⟩
      (ownsRow_base (base' := 0) (ownsRow_block hrow fun g hg => hb2.block g (hrow.lt g hg).2) fun _ _ => Nat.zero_le _)
    have hBW2 : Below w.heap.size w W2 := (hLf.below hbel (fun b hb => by rcases hb with (h | h) | h; omega; cases h; omega)).trans (hb2.mono (by omega))
    have hdef : W2.heap[w1.heap.size]? = some (.deferred (some [])) := (hb2.block _ hKl).trans hK
    have hDn : v.ownBlock ≠ some w1.heap.size := fun e => hDK (.inl (.inr e))
    rw [hz1] at hdef hDn
    have HC := Lib.hid hcall
    have HF := Lib.hid (And.intro hBW2 (And.intro hdef (And.intro hDn (And.intro hgv hW2))))
    have hbigW : w.heap.size + 4 < W.heap.size := by omega
    rw [hW2] at HC
    clear hit hbel hbl hbo hcp hcn hB1 hR hB hci hcw hLf hK hDK hI hok hbox hrow hb2 hz2 hk2 hn2 hgv hgv1 keepW hcall hBW2 hdef hDn hW2 HB HW hKl
    gi_wp2_with (gi_at_call 85; refine (callsIn_wide.2 HC.out).mono ?_; rintro e W3 ⟨⟨rv, rfl⟩, ⟨no, k, h40⟩, hs3, hK3⟩; refine Halt.of ?_)
    have e0 : W3.cell? ⟨w.heap.size, 0, none⟩ = some v := Joins.cell_of_block h40.l 0
    have e1 : W3.cell? ⟨w.heap.size + 1, 0, none⟩ = some (.bool true) := Joins.cell_of_block h40.ok 0
    have HE := Lib.hid (And.intro hs3 hK3)
    clear h40 hs3 hK3 HC
    unfold Halt
    gi_wp2
    refine wpIn_mono ?hreg (fun e a w h => NoPanic.imp e a w h)
    gi_region_with (fail)
    all_goals
      refine NoPanic.normal ?_
      gi_wp2
      obtain ⟨hs3, hK3⟩ := HE.out
      obtain ⟨hBW2, hdef, hDn, hgv, hW2⟩ := HF.out
      rw [← hW2] at hK3
      have hdefl := (Array.getElem?_eq_some_iff.1 hdef).1
      have hz2 : W2.heap.size = W.heap.size + 2 := by rw [hW2]; simp
      have hdef3 : W3.drew.heap[w.heap.size + 4]? = some (.deferred (some [])) := (hK3.block _ hdefl (by rintro (h | h | h | h | h); omega; omega; omega; omega; exact hDn h)).trans hdef
      refine ⟨by simp, .inl ⟨_, _, rfl, run_takeDeferred hdef3, ?_⟩⟩
      refine ⟨_, results_tmp2 rfl _ _ _, v, rfl, ?_, ?_⟩
      · exact ownsRow_block (ownsRow_base (w := W3.drew) hs3 fun g hg => by have := (hgv g hg).1; omega) fun g hg => World.putObj_heap_other (fun e => hDn (e ▸ hg))
      · refine below_putObj (below_keep hBW2 (hK3.trans (Keep.drew _ _)) (fun x hx e => ?_)) (by omega) _
        rcases e with h | h | h | h | h
        · omega
        · omega
        · omega
        · omega
        · have := (hgv x h).1; omega
end Go.Proofs.YtpdbmpbmepkikaaGreatDoor

namespace Go.Proofs.YtpdbmpbmepkikaaGreatDoor
open Go.RowKit

theorem neq154 (n f v : ByteArray) (c r : Int) (W : World) : (binOp .neq 154 (.agg #[.string n, .string f, .int .i64 c, .int .i64 r, .string v]) (.agg #[.string n, .string f, .int .i64 c, .int .i64 r, .string v])).run Tryz.prog W = .ok (.bool false) W := by
  go_simp

/-- Two slices that hold the same book. -/
theorem sameBook_any (va vb : Value) (l : List Reg) (w : World) (ha : ListAt w va l) (hb : ListAt w vb l) (hl : l.length ≤ 2000000) :
    Calls Tryz.prog 81 #[va, vb] w fun e w' => e = .returned (.bool true) ∧ Below w.heap.size w w' := by
  rcases ha.cases with ⟨rfl, rfl⟩ | ⟨g, ca, rfl, hg⟩
  · rcases hb.cases with ⟨rfl, -⟩ | ⟨g', cb, rfl, hg'⟩
    all_goals
      clear ha hb
      go_enter Tryz.func81, Tryz.ntmps81
      go_wp2
      go_loopg [5] 0 (fun k s wr => s = .int .i64 0 ∧ Below w.heap.size w wr)
      case atStart => exact ⟨rfl, Below.refl _ _⟩
      case round =>
        obtain ⟨rfl, hB⟩ := hrel
        have HBl := Lib.hid hB
        clear hB
        go_wp2
        go_ret
        exact ⟨rfl, HBl.out⟩
  rcases hb.cases with ⟨rfl, rfl⟩ | ⟨g', cb, rfl, hg'⟩
  · clear ha hb
    go_enter Tryz.func81, Tryz.ntmps81
    go_wp2
    go_loopg [5] 0 (fun k s wr => s = .int .i64 0 ∧ Below w.heap.size w wr)
    case atStart => exact ⟨rfl, Below.refl _ _⟩
    case round =>
      obtain ⟨rfl, hB⟩ := hrel
      have HBl := Lib.hid hB
      clear hB
      go_wp2
      go_ret
      exact ⟨rfl, HBl.out⟩
  have HA := Lib.hid (And.intro ha hb)
  clear ha hb
  go_enter Tryz.func81, Tryz.ntmps81
  go_wp2
  go_loopg [5] l.length (fun k s wr => ∃ j : Nat, s = .int .i64 j ∧ k + j = l.length ∧ Below w.heap.size w wr)
  case atStart => exact ⟨0, rfl, by omega, Below.refl _ _⟩
  case round =>
    obtain ⟨j, rfl, hk, hB⟩ := hrel
    by_cases hj : j < l.length
    · obtain ⟨g1, c1, hv, hg1, y0, y1, y2, y3, y4⟩ := HA.out.1.cell hj
      obtain ⟨g2, c2, hv', hg2, u0, u1, u2, u3, u4⟩ := HA.out.2.cell hj
      simp only [Value.slice.injEq, Option.some.injEq, Addr.mk.injEq, and_true, true_and] at hv hv'
      obtain ⟨rfl, rfl⟩ := hv
      obtain ⟨rfl, rfl⟩ := hv'
      obtain ⟨x, hx⟩ : ∃ x, x = l[j] := ⟨_, rfl⟩
      rw [← hx] at y0 y1 y2 y3 y4 u0 u1 u2 u3 u4
      obtain ⟨n, f, c, r, v⟩ := x
      simp only at y0 y1 y2 y3 y4 u0 u1 u2 u3 u4
      have hcl : ∀ i, wr.cell? ⟨g, i, none⟩ = w.cell? ⟨g, i, none⟩ := fun i => hB.cell (p := ⟨_, _, none⟩) hg
      have hcl' : ∀ i, wr.cell? ⟨g', i, none⟩ = w.cell? ⟨g', i, none⟩ := fun i => hB.cell (p := ⟨_, _, none⟩) hg'
      rw [← hcl] at y0 y1 y2 y3 y4
      rw [← hcl'] at u0 u1 u2 u3 u4
      have hneq := neq154 n f v c r
      have hjj : (j : Int) < (l.length : Int) := by omega
      have HBl := Lib.hid (show Below w.heap.size w wr.drew from hB.drew)
      clear hcl hcl' hx hB
      go_wp2
      go_region_held3 (fun W => W.cell? ⟨g, j * 5, none⟩ = some (.string n) ∧ W.cell? ⟨g, j * 5 + 1, none⟩ = some (.string f) ∧ W.cell? ⟨g, j * 5 + 2, none⟩ = some (.int .i64 c) ∧ W.cell? ⟨g, j * 5 + 3, none⟩ = some (.int .i64 r) ∧ W.cell? ⟨g, j * 5 + 4, none⟩ = some (.string v) ∧
        W.cell? ⟨g', j * 5, none⟩ = some (.string n) ∧ W.cell? ⟨g', j * 5 + 1, none⟩ = some (.string f) ∧ W.cell? ⟨g', j * 5 + 2, none⟩ = some (.int .i64 c) ∧ W.cell? ⟨g', j * 5 + 3, none⟩ = some (.int .i64 r) ∧ W.cell? ⟨g', j * 5 + 4, none⟩ = some (.string v)) (go_keep) (fail)
      go_wp2
      go_roundg (gk - 1)
      case rel => exact ⟨j + 1, by go_simp, by omega, HBl.out⟩
      case measure => omega
    · have hje : j = l.length := by omega
      subst hje
      have HBl := Lib.hid hB
      clear hB
      go_wp2
      go_ret
      exact ⟨rfl, HBl.out⟩

theorem Bk.all {L l : List Reg} (h : Bk L l) : belowL L ⟨#[]⟩ = l := by
  rw [h.below]
  exact List.filter_eq_self.2 fun x _ => by simp [preB, Lib.hasPrefix]

theorem RegsAt.cases {w : World} {v : Value} {l : List Reg} (h : RegsAt w v l) : ∃ ad cap, v = .slice ad l.length cap := by
  obtain ⟨h1, h2⟩ := h
  rcases h2 with ⟨hv, h2⟩ | ⟨g, cap, cur, hv, _, hg, _⟩
  · exact ⟨none, 0, by rw [h2]; exact hv⟩
  · exact ⟨_, _, hv⟩
set_option maxHeartbeats 2000000 in
/-- The book that the program tells of, as rows of the law. -/
theorem told_any (N K x pw : Nat) (pv qv : Value) (os : List One) (i : Nat) (o : One) (w : World) (hK : K ≤ 100000) (hos : os.length ≤ 100000) (h : LawAt N K w x pw pv qv os) (ho : Who os i o) :
    Calls Tryz.prog 80 #[.pointer (some ⟨x, 0, none⟩), .int .i64 i] w fun e w' => ∃ v, e = .returned (.tuple #[v, .bool true]) ∧ ListAt w' v o.l ∧ Below w.heap.size w w' := by
  have C1 : Hid (Calls Tryz.prog 21 #[.pointer (some ⟨pw, 0, none⟩), .int .i64 i] w fun e W' => ∃ v, e = .returned (.tuple #[v, .bool true]) ∧ RegsAt W' v o.l ∧ Below w.heap.size w W') := by
    have h1 := h.ones o ho.mem
    have hp : (os.map (·.p))[i]'(by simpa using ho.lt) = o.p := by simp [ho.get]
    have := registersW_any pw pv (os.map (·.p)) i (by simpa using ho.lt) o.id o.m o.g o.L w h.wld (by simp; omega) (by rw [hp]; exact h1.rep) h1.book (by have := (h.small hK ho).2; omega)
    rw [h1.bk.all] at this
    exact Lib.hid (this.mono fun e W' ⟨v, he, hr, hb⟩ => ⟨v, he, ownsRow_base hr fun _ _ => Nat.zero_le _, hb⟩)
  have hx0 : w.cell? ⟨x, 0, none⟩ = some (.pointer (some ⟨pw, 0, none⟩)) := Joins.cell_of_block h.box 0
  have hll := (h.small hK ho).1
  obtain ⟨F, hF⟩ : ∃ F, F = o.l := ⟨_, rfl⟩
  rw [← hF] at C1 hll ⊢
  obtain ⟨i0, hi, hz0, hz1, hz2⟩ := info_parts info154
  clear h ho hos hK hF
  go_enter Tryz.func80, Tryz.ntmps80
  go_wp2_with (go_at_call 21; go_must (refine C1.out.mono ?_); rintro e w1 ⟨v, rfl, hr1, hb1⟩; obtain ⟨fad, fcap, hfv⟩ := hr1.cases; subst hfv; have HR1 := Lib.hid (And.intro hr1 hb1); clear hr1 hb1; refine Halt.of ?_)
  unfold Halt
  go_wp2
  go_loopg [8, 9] F.length (fun k s8 s9 wr => ∃ (sv : Value) (j : Nat), sv = s8 ∧ s9 = .int .i64 j ∧ k + j = F.length ∧ OutAt w1 154 5 sv j (rows (F.take j)) wr)
  case atStart => exact ⟨_, 0, rfl, rfl, by omega, OutAt.new _ _ _⟩
  case round =>
    obtain ⟨sv, j, rfl, rfl, hk, hO⟩ := hrel
    by_cases hj : j < F.length
    · obtain ⟨g', cap', hv', hg', y0, y1, y2, y3, y4⟩ := HR1.out.1.cell hj
      simp only [Value.slice.injEq] at hv'
      obtain ⟨rfl, -, rfl⟩ := hv'
      have htk : rows (F.take (j + 1)) = rows (F.take j) ++ F[j].cells := by
        rw [List.take_add_one, List.getElem?_eq_getElem hj, Option.toList_some, rows_append]; simp [rows]
      obtain ⟨r, hr⟩ : ∃ r, r = F[j] := ⟨_, rfl⟩
      rw [← hr] at y0 y1 y2 y3 y4 htk
      obtain ⟨n, f, c, r, v⟩ := r
      simp only [Reg.cells] at y0 y1 y2 y3 y4 htk
      obtain ⟨so, hso⟩ : ∃ so, so = rows (F.take j) := ⟨_, rfl⟩
      rw [← hso] at hO htk
      have hjj : (j : Int) < (F.length : Int) := by omega
      have hcl : ∀ i, wr.cell? ⟨g', i, none⟩ = w1.cell? ⟨g', i, none⟩ := fun i => hO.below.cell (p := ⟨_, _, none⟩) hg'
      rw [← hcl] at y0 y1 y2 y3 y4
      have HO := Lib.hid hO
      have HT := Lib.hid htk
      clear hcl hO htk hso hr
      go_wp2_with (at_builtin; go_must (refine wpList_append_own_at _ rfl _ _ 145 rfl w1.heap.size 154 i0 (.agg #[.string ⟨#[]⟩, .string ⟨#[]⟩, .int .i64 0, .int .i64 0, .string ⟨#[]⟩]) 5 64 Tryz.underlying145 hi hz0 hz1 hz2 rfl (by decide) sv j so rfl ((HO.out.alloc _).alloc _).row ⟨wr.heap.size + 1, 0, none⟩ 1 1 [.string n, .string f, .int .i64 c, .int .i64 r, .string v] rfl rfl (newsAt (by first | rfl | simp) _ _ rfl) (by simp [Value.oneCell']) (by unfold maxLen; omega) (by omega) (by have := HO.out.below.size; simp; omega) ?_); intro v5 w5 hr5 hg5 _ _; refine Halt.of ?_)
      have hO5 := Lib.hid (OutAt.append ((HO.out.alloc _).alloc _) hg5 hr5)
      clear hr5 hg5
      unfold Halt
      go_wp2
      go_roundg (gk - 1)
      case rel => exact ⟨_, j + 1, rfl, by go_simp, by omega, by rw [HT.out]; exact hO5.out⟩
      case measure => omega
    · have hje : j = F.length := by omega
      subst hje
      rw [List.take_length] at hO
      have HO := Lib.hid hO
      clear hO
      go_wp2
      refine bodyPost_ret (results_tmp2 rfl _ _ _) rfl ?_
      exact ⟨_, rfl, ownsRow_base HO.out.row fun _ _ => Nat.zero_le _, HR1.out.2.trans (HO.out.below.mono HR1.out.2.size)⟩
end Go.Proofs.YtpdbmpbmepkikaaGreatDoor

namespace Go.Proofs.YtpdbmpbmepkikaaGreatDoor
open Go.RowKit

def decB (n : Nat) : ByteArray := ⟨(Lib.decDigits n).toArray⟩
theorem decB_size (n : Nat) (h : n ≤ 9223372036854775808) : (decB n).size ≤ 21 := by
  have := itoaB_size (-(n : Int)) (by constructor <;> omega)
  rcases Nat.eq_zero_or_pos n with rfl | hp
  · rw [decB, Lib.decDigits]; simp [ByteArray.size]
  · rw [itoaB, Lib.itoa_neg n hp] at this
    simp only [decB, ByteArray.size, List.size_toArray, List.length_cons] at this ⊢
    omega

set_option maxHeartbeats 1000000 in
theorem decN_any (n : Nat) : n ≤ 9223372036854775807 → ∀ w : World, Calls Tryz.prog 139 #[.int .i64 n] w fun e w' => e = .returned (.string (decB n)) ∧ Below w.heap.size w w' := by
  induction n using Nat.strongRecOn with
  | ind n ih =>
    intro hn w
    obtain ⟨z, hz⟩ : ∃ z : Int, z = (n : Int) := ⟨_, rfl⟩
    obtain ⟨d, hd⟩ : ∃ d, d = UInt8.ofNat (48 + n % 10) := ⟨_, rfl⟩
    have hdig : d.toNat = 48 + n % 10 := by
      rw [hd, UInt8.toNat_ofNat']; omega
    have hconv : ∀ W : World, (convert 79 9 (.slice (some ⟨W.heap.size, 0, none⟩) 1 1)).run Tryz.prog (W.alloc (.cells #[.int .u8 (48 + z % 10)] 5)) = .ok (.string ⟨#[d]⟩) (W.alloc (.cells #[.int .u8 (48 + z % 10)] 5)) := fun W => by
      refine run_convert_bytes_back (P := Tryz.prog) _ 79 9 5 ⟨W.heap.size, 0, none⟩ 1 [d] Tryz.underlying79 Tryz.underlying5 Tryz.underlying9 (fun j hj => ?_)
      refine newsAt rfl [.int .u8 (48 + z % 10)] 5 rfl j _ ?_
      have hj8 : j < 1 := hj
      obtain rfl : j = 0 := by omega
      simp only [List.getElem?_cons_zero, List.getElem_cons_zero, hdig, Option.some.injEq, Value.int.injEq, true_and]
      omega
    have w0 : IntKind.i64.wrap (z.tmod 10) = z % 10 := by rw [Int.tmod_eq_emod_of_nonneg (by omega), IntKind.wrap_i64]; omega
    have w1 : IntKind.i64.wrap (48 + z % 10) = 48 + z % 10 := by rw [IntKind.wrap_i64]; omega
    have w2 : IntKind.u8.wrap (48 + z % 10) = 48 + z % 10 := by rw [IntKind.wrap_u8]; omega
    have w3 : IntKind.i64.wrap (z.tdiv 10) = z / 10 := by rw [Int.tdiv_eq_ediv_of_nonneg (by omega), IntKind.wrap_i64]; omega
    have hz0 : ¬ z < 0 := by omega
    by_cases h10 : n < 10
    · have hz1 : z < 10 := by omega
      have HD : Hid (decB n = ⟨#[d]⟩) := Lib.hid (by rw [decB, Lib.decDigits, dif_pos h10, hd, Nat.mod_eq_of_lt h10])
      clear ih hd hdig
      rw [← hz]
      clear hz
      go_enter Tryz.func139, Tryz.ntmps139
      go_wp2
      go_ret
      exact ⟨by rw [HD.out]; rfl, (Below.refl _ _).alloc (Nat.le_refl _) _⟩
    · have hz1 : ¬ z < 10 := by omega
      have HD : Hid (decB n = decB (n / 10) ++ ⟨#[d]⟩) := Lib.hid (by
        rw [decB, Lib.decDigits, dif_neg h10, decB, hd]
        refine ByteArray.ext ?_
        simp)
      have hsz := decB_size (n / 10) (by omega)
      have HC : Hid (∀ W, Calls Tryz.prog 139 #[.int .i64 (z / 10)] W fun e w' => e = .returned (.string (decB (n / 10))) ∧ Below W.heap.size W w') := Lib.hid fun W => by
        have := ih (n / 10) (by omega) (by omega) W
        rwa [show ((n / 10 : Nat) : Int) = z / 10 by omega] at this
      obtain ⟨s, hs⟩ : ∃ s, s = decB (n / 10) := ⟨_, rfl⟩
      rw [← hs] at HC HD hsz
      clear ih hs hd hdig
      rw [← hz]
      clear hz
      go_enter Tryz.func139, Tryz.ntmps139
      go_wp2_with (go_at_call 139; go_must (refine (HC.out _).mono ?_); rintro e w5 ⟨rfl, hb⟩; have HB := Lib.hid hb; clear hb; refine Halt.of ?_)
      unfold Halt
      go_wp2
      go_ret
      exact ⟨by rw [HD.out]; rfl, ((Below.refl _ _).alloc (Nat.le_refl _) _).trans (HB.out.mono (by simp))⟩

set_option maxHeartbeats 1000000 in
theorem decimal_any (z : Int) (hz : I64 z) (w : World) : Calls Tryz.prog 139 #[.int .i64 z] w fun e w' => e = .returned (.string (itoaB z)) ∧ Below w.heap.size w w' := by
  obtain ⟨h1, h2⟩ := hz
  rcases Int.lt_or_le z 0 with hz0 | hz0
  · obtain ⟨n, hn⟩ : ∃ n : Nat, z = -(n : Int) := ⟨z.natAbs, by omega⟩
    have hp : 1 ≤ n := by omega
    have HI : Hid (itoaB z = ⟨#[45]⟩ ++ decB n) := Lib.hid (by
      rw [itoaB, hn, Lib.itoa_neg n hp, decB]
      refine ByteArray.ext ?_
      simp)
    by_cases hmin : z = -9223372036854775808
    · subst hmin
      clear HI hn
      go_enter Tryz.func139, Tryz.ntmps139
      go_wp2
      go_ret
      exact ⟨by rw [show itoaB (-9223372036854775808) = ⟨#[45, 57, 50, 50, 51, 51, 55, 50, 48, 51, 54, 56, 53, 52, 55, 55, 53, 56, 48, 56]⟩ by decide +kernel]; rfl, Below.refl _ _⟩
    · have w0 : IntKind.i64.wrap (-z) = -z := by rw [IntKind.wrap_i64]; omega
      have HC : Hid (Calls Tryz.prog 139 #[.int .i64 (-z)] w fun e w' => e = .returned (.string (decB n)) ∧ Below w.heap.size w w') := Lib.hid (by
        have := decN_any n (by omega) w
        rwa [show (n : Int) = -z by omega] at this)
      have hsz := decB_size n (by omega)
      obtain ⟨s, hs⟩ : ∃ s, s = decB n := ⟨_, rfl⟩
      rw [← hs] at HC HI hsz
      clear hs hn
      go_enter Tryz.func139, Tryz.ntmps139
      go_wp2_with (go_at_call 139; go_must (refine HC.out.mono ?_); rintro e w5 ⟨rfl, hb⟩; have HB := Lib.hid hb; clear hb; refine Halt.of ?_)
      unfold Halt
      go_wp2
      go_ret
      exact ⟨by rw [HI.out]; rfl, HB.out⟩
  · obtain ⟨n, rfl⟩ : ∃ n : Nat, z = (n : Int) := ⟨z.toNat, by omega⟩
    have := decN_any n (by omega) w
    rwa [show decB n = itoaB n by rw [decB, itoaB, Lib.itoa_nonneg]] at this
end Go.Proofs.YtpdbmpbmepkikaaGreatDoor

namespace Go.Proofs.YtpdbmpbmepkikaaGreatDoor
open Go.RowKit

def linesB (l : List Reg) (pfx : ByteArray) : ByteArray := (l.filter fun x => preB pfx x.key).foldl (fun s x => s ++ lineB x) ⟨#[]⟩
theorem linesB_snoc (l : List Reg) (pfx : ByteArray) (x : Reg) : linesB (l ++ [x]) pfx = if preB pfx x.key = true then linesB l pfx ++ lineB x else linesB l pfx := by
  unfold linesB
  rw [List.filter_append, List.foldl_append]
  by_cases h : preB pfx x.key = true
  · simp [h]
  · simp [h]
theorem linesB_take {l : List Reg} {j : Nat} (hj : j < l.length) (pfx : ByteArray) : linesB (l.take (j + 1)) pfx = if preB pfx l[j].key = true then linesB (l.take j) pfx ++ lineB l[j] else linesB (l.take j) pfx := by
  rw [List.take_add_one, List.getElem?_eq_getElem hj, Option.toList_some, linesB_snoc]
theorem linesB_size {l : List Reg} (pfx : ByteArray) (hF : ∀ x ∈ l, Fit x) : ∀ j, j ≤ l.length → (linesB (l.take j) pfx).size ≤ 20000 * j
  | 0, _ => by simp [linesB, ByteArray.size]
  | j + 1, h => by
    have := linesB_size pfx hF j (by omega)
    have h2 := lineB_size (hF l[j] (List.getElem_mem _))
    rw [linesB_take (by omega)]
    split
    · rw [ByteArray.size_append]; omega
    · omega

set_option maxHeartbeats 2000000 in
set_option maxRecDepth 100000 in
theorem linesD_any (l : List Reg) (lv : Value) (pfx : ByteArray) (w : World) (hl : ListAt w lv l) (hz : l.length ≤ 100000) (hF : ∀ x ∈ l, Fit x) :
    Calls Tryz.prog 82 #[lv, .string pfx] w fun e w' => e = .returned (.string (linesB l pfx)) ∧ Below w.heap.size w w' := by
  rcases hl.cases with ⟨rfl, rfl⟩ | ⟨g, cap, rfl, hg⟩
  · clear hl hF
    go_enter Tryz.func82, Tryz.ntmps82
    go_wp2
    go_loopg [5, 6] 0 (fun k n i wr => n = .string ⟨#[]⟩ ∧ i = .int .i64 0 ∧ wr = w)
    case atStart => exact ⟨rfl, rfl, rfl⟩
    case round =>
      obtain ⟨rfl, rfl, rfl⟩ := hrel
      go_wp2
      go_ret
      exact ⟨rfl, Below.refl _ _⟩
  · have HL := Lib.hid (And.intro hl hF)
    clear hl hF
    go_enter Tryz.func82, Tryz.ntmps82
    go_wp2
    go_loopg [5, 6] l.length (fun k n i wr => ∃ (j : Nat) (s : ByteArray), n = .string s ∧ s = linesB (l.take j) pfx ∧ i = .int .i64 j ∧ k + j = l.length ∧ Below w.heap.size w wr)
    case atStart => exact ⟨0, _, rfl, rfl, rfl, by omega, Below.refl _ _⟩
    case round =>
      obtain ⟨j, s, rfl, hs, rfl, hk, hB⟩ := hrel
      have hss : s.size ≤ 2000000000 := by
        have := linesB_size pfx HL.out.2 j (by omega)
        rw [← hs] at this; omega
      by_cases hj : j < l.length
      · obtain ⟨g', cap', hv, hg', y0, y1, y2, y3, y4⟩ := HL.out.1.cell hj
        obtain ⟨rfl, rfl⟩ : g = g' ∧ cap = cap' := by injection hv with h1 h2 h3; injection h1 with h1; injection h1 with h1; exact ⟨h1, h3⟩
        have hst := linesB_take hj pfx
        rw [← hs] at hst
        have hfx := HL.out.2 l[j] (List.getElem_mem _)
        obtain ⟨x, hx⟩ : ∃ x, x = l[j] := ⟨_, rfl⟩
        rw [← hx] at y0 y1 y2 y3 y4 hst hfx
        obtain ⟨n, f, c, r, v⟩ := x
        simp only [Reg.key] at y0 y1 y2 y3 y4 hst
        obtain ⟨hfn, hff, hfv, hfc, hfr⟩ := hfx
        simp only at hfn hff hfv hfc hfr
        have k0 : ∀ W, Below w.heap.size w W → W.cell? ⟨g, j * 5, none⟩ = some (.string n) := fun W hW => (hW.cell (p := ⟨_, _, none⟩) hg).trans y0
        have k1 : ∀ W, Below w.heap.size w W → W.cell? ⟨g, j * 5 + 1, none⟩ = some (.string f) := fun W hW => (hW.cell (p := ⟨_, _, none⟩) hg).trans y1
        have k2 : ∀ W, Below w.heap.size w W → W.cell? ⟨g, j * 5 + 2, none⟩ = some (.int .i64 c) := fun W hW => (hW.cell (p := ⟨_, _, none⟩) hg).trans y2
        have k3 : ∀ W, Below w.heap.size w W → W.cell? ⟨g, j * 5 + 3, none⟩ = some (.int .i64 r) := fun W hW => (hW.cell (p := ⟨_, _, none⟩) hg).trans y3
        have k4 : ∀ W, Below w.heap.size w W → W.cell? ⟨g, j * 5 + 4, none⟩ = some (.string v) := fun W hW => (hW.cell (p := ⟨_, _, none⟩) hg).trans y4
        have hjj : (j : Int) < (l.length : Int) := by omega
        obtain ⟨sc, hsc⟩ : ∃ s, itoaB c = s := ⟨_, rfl⟩
        obtain ⟨sr, hsr⟩ : ∃ s, itoaB r = s := ⟨_, rfl⟩
        obtain ⟨sv, hsv⟩ : ∃ s, itoaB v.size = s := ⟨_, rfl⟩
        have h64 : I64 v.size := by constructor <;> omega
        have z1 : sc.size ≤ 21 := hsc ▸ itoaB_size c hfc
        have z2 : sr.size ≤ 21 := hsr ▸ itoaB_size r hfr
        have z3 : sv.size ≤ 21 := hsv ▸ itoaB_size _ h64
        have hline : lineB ⟨n, f, c, r, v⟩ = n ++ ⟨#[46]⟩ ++ f ++ ⟨#[32]⟩ ++ sc ++ ⟨#[32]⟩ ++ sr ++ ⟨#[32]⟩ ++ sv ++ ⟨#[32]⟩ ++ v ++ ⟨#[10]⟩ := by rw [← hsc, ← hsr, ← hsv]; rfl
        have C1 : Hid (∀ W, Calls Tryz.prog 139 #[.int .i64 c] W fun e w' => e = .returned (.string sc) ∧ Below W.heap.size W w') := Lib.hid fun W => hsc ▸ decimal_any c hfc W
        have C2 : Hid (∀ W, Calls Tryz.prog 139 #[.int .i64 r] W fun e w' => e = .returned (.string sr) ∧ Below W.heap.size W w') := Lib.hid fun W => hsr ▸ decimal_any r hfr W
        have C3 : Hid (∀ W, Calls Tryz.prog 139 #[.int .i64 v.size] W fun e w' => e = .returned (.string sv) ∧ Below W.heap.size W w') := Lib.hid fun W => hsv ▸ decimal_any _ h64 W
        rw [hline] at hst
        obtain ⟨b, hb⟩ : ∃ b, b = preB pfx (keyOf2 n f) := ⟨_, rfl⟩
        have CB : Hid (∀ W, Calls Tryz.prog 138 #[.string (n ++ ⟨#[46]⟩ ++ f ++ ⟨#[0]⟩), .string pfx] W fun e w' => e = .returned (.bool b) ∧ w' = W) := Lib.hid fun W => by
          rw [hb]; exact beginsD_any _ _ W
        have hst1 : b = true → linesB (l.take (j + 1)) pfx = s ++ (n ++ ⟨#[46]⟩ ++ f ++ ⟨#[32]⟩ ++ sc ++ ⟨#[32]⟩ ++ sr ++ ⟨#[32]⟩ ++ sv ++ ⟨#[32]⟩ ++ v ++ ⟨#[10]⟩) := fun h => hst.trans (if_pos (hb.symm.trans h))
        have hst2 : b = false → linesB (l.take (j + 1)) pfx = s := fun h => hst.trans (if_neg (fun e => by have := hb.trans e; rw [h] at this; cases this))
        have HS := Lib.hid (And.intro hst1 hst2)
        clear y0 y1 y2 y3 y4 hv hx hst hst1 hst2 hs hline hb hsc hsr hsv hfc hfr h64
        have ak2 : ¬ ((9223372036854775807 : Int) < (n.size : Int) + 1) := by omega
        have aj2 : ¬ ((9223372036854775807 : Nat) < n.size + 1) := by omega
        have ak3 : ¬ ((9223372036854775807 : Int) < (n.size : Int) + 1 + (f.size : Int)) := by omega
        have aj3 : ¬ ((9223372036854775807 : Nat) < n.size + 1 + f.size) := by omega
        have ak4 : ¬ ((9223372036854775807 : Int) < (n.size : Int) + 1 + (f.size : Int) + 1) := by omega
        have aj4 : ¬ ((9223372036854775807 : Nat) < n.size + 1 + f.size + 1) := by omega
        have bk2 : ¬ ((9223372036854775807 : Int) < (s.size : Int) + (n.size : Int)) := by omega
        have bj2 : ¬ ((9223372036854775807 : Nat) < s.size + n.size) := by omega
        have bk3 : ¬ ((9223372036854775807 : Int) < (s.size : Int) + (n.size : Int) + 1) := by omega
        have bj3 : ¬ ((9223372036854775807 : Nat) < s.size + n.size + 1) := by omega
        have bk4 : ¬ ((9223372036854775807 : Int) < (s.size : Int) + (n.size : Int) + 1 + (f.size : Int)) := by omega
        have bj4 : ¬ ((9223372036854775807 : Nat) < s.size + n.size + 1 + f.size) := by omega
        have bk5 : ¬ ((9223372036854775807 : Int) < (s.size : Int) + (n.size : Int) + 1 + (f.size : Int) + 1) := by omega
        have bj5 : ¬ ((9223372036854775807 : Nat) < s.size + n.size + 1 + f.size + 1) := by omega
        have bk6 : ¬ ((9223372036854775807 : Int) < (s.size : Int) + (n.size : Int) + 1 + (f.size : Int) + 1 + (sc.size : Int)) := by omega
        have bj6 : ¬ ((9223372036854775807 : Nat) < s.size + n.size + 1 + f.size + 1 + sc.size) := by omega
        have bk7 : ¬ ((9223372036854775807 : Int) < (s.size : Int) + (n.size : Int) + 1 + (f.size : Int) + 1 + (sc.size : Int) + 1) := by omega
        have bj7 : ¬ ((9223372036854775807 : Nat) < s.size + n.size + 1 + f.size + 1 + sc.size + 1) := by omega
        have bk8 : ¬ ((9223372036854775807 : Int) < (s.size : Int) + (n.size : Int) + 1 + (f.size : Int) + 1 + (sc.size : Int) + 1 + (sr.size : Int)) := by omega
        have bj8 : ¬ ((9223372036854775807 : Nat) < s.size + n.size + 1 + f.size + 1 + sc.size + 1 + sr.size) := by omega
        have bk9 : ¬ ((9223372036854775807 : Int) < (s.size : Int) + (n.size : Int) + 1 + (f.size : Int) + 1 + (sc.size : Int) + 1 + (sr.size : Int) + 1) := by omega
        have bj9 : ¬ ((9223372036854775807 : Nat) < s.size + n.size + 1 + f.size + 1 + sc.size + 1 + sr.size + 1) := by omega
        have bk10 : ¬ ((9223372036854775807 : Int) < (s.size : Int) + (n.size : Int) + 1 + (f.size : Int) + 1 + (sc.size : Int) + 1 + (sr.size : Int) + 1 + (sv.size : Int)) := by omega
        have bj10 : ¬ ((9223372036854775807 : Nat) < s.size + n.size + 1 + f.size + 1 + sc.size + 1 + sr.size + 1 + sv.size) := by omega
        have bk11 : ¬ ((9223372036854775807 : Int) < (s.size : Int) + (n.size : Int) + 1 + (f.size : Int) + 1 + (sc.size : Int) + 1 + (sr.size : Int) + 1 + (sv.size : Int) + 1) := by omega
        have bj11 : ¬ ((9223372036854775807 : Nat) < s.size + n.size + 1 + f.size + 1 + sc.size + 1 + sr.size + 1 + sv.size + 1) := by omega
        have bk12 : ¬ ((9223372036854775807 : Int) < (s.size : Int) + (n.size : Int) + 1 + (f.size : Int) + 1 + (sc.size : Int) + 1 + (sr.size : Int) + 1 + (sv.size : Int) + 1 + (v.size : Int)) := by omega
        have bj12 : ¬ ((9223372036854775807 : Nat) < s.size + n.size + 1 + f.size + 1 + sc.size + 1 + sr.size + 1 + sv.size + 1 + v.size) := by omega
        have bk13 : ¬ ((9223372036854775807 : Int) < (s.size : Int) + (n.size : Int) + 1 + (f.size : Int) + 1 + (sc.size : Int) + 1 + (sr.size : Int) + 1 + (sv.size : Int) + 1 + (v.size : Int) + 1) := by omega
        have bj13 : ¬ ((9223372036854775807 : Nat) < s.size + n.size + 1 + f.size + 1 + sc.size + 1 + sr.size + 1 + sv.size + 1 + v.size + 1) := by omega
        go_wp2
        go_region_held3 (fun W => Below w.heap.size w W) (first | assumption | exact Below.drew (by assumption))
          ((go_at_call 138; refine Calls.mono (CB.out _) ?_; rintro e w2 ⟨rfl, rfl⟩))
        cases b with
        | false =>
          go_wp2
          go_roundg (gk - 1)
          case rel => exact ⟨j + 1, s, rfl, (HS.out.2 (by first | rfl | trivial)).symm, by go_simp, by omega, hB.drew⟩
          case measure => omega
        | true =>
          have hB0 : Below w.heap.size w wr.drew := hB.drew
          clear hB
          go_wp2_with (go_at_call 139; go_must (refine (C1.out _).mono ?_); rintro e w5 ⟨rfl, hb5⟩; have hB5 : Below w.heap.size w w5 := hB0.trans (hb5.mono hB0.size); clear hb5; refine Halt.of ?_)
          unfold Halt
          go_wp2_with (go_at_call 139; go_must (refine (C2.out _).mono ?_); rintro e w6 ⟨rfl, hb6⟩; have hB6 : Below w.heap.size w w6 := hB5.trans (hb6.mono hB5.size); clear hb6; refine Halt.of ?_)
          unfold Halt
          go_wp2_with (go_at_call 139; go_must (refine (C3.out _).mono ?_); rintro e w7 ⟨rfl, hb7⟩; have hB7 : Below w.heap.size w w7 := hB6.trans (hb7.mono hB6.size); clear hb7; refine Halt.of ?_)
          unfold Halt
          clear hB0 hB5 hB6
          go_wp2
          go_region_held3 (fun W => Below w.heap.size w W) (first | assumption | exact Below.drew (by assumption)) (fail)
          go_wp2
          go_roundg (gk - 1)
          case rel => exact ⟨j + 1, _, rfl, by rw [HS.out.1 (by first | rfl | trivial)]; simp only [ByteArray.append_assoc], by go_simp, by omega, hB7.drew⟩
          case measure => omega
      · have hje : j = l.length := by omega
        subst hje
        rw [List.take_length] at hs
        have HM := Lib.hid (And.intro hs hB)
        clear hs hB
        go_wp2
        go_ret
        exact ⟨by rw [← HM.out.1]; rfl, HM.out.2⟩
end Go.Proofs.YtpdbmpbmepkikaaGreatDoor

namespace Go.Proofs.YtpdbmpbmepkikaaGreatDoor
open Go.RowKit

theorem hashB_append (h : Int) (a b : ByteArray) : hashB h (a ++ b) = hashB (hashB h a) b := by
  unfold hashB hashT
  rw [ByteArray.data_append, Array.toList_append, List.foldl_append]
theorem hashB_lines (l : List Reg) (pfx : ByteArray) : hashB 14695981039346656037 (linesB l pfx) = hashL (l.filter fun x => preB pfx x.key) := by
  unfold linesB hashL
  generalize (l.filter fun x => preB pfx x.key) = q
  have key : ∀ (q : List Reg) (s : ByteArray), hashB 14695981039346656037 (q.foldl (fun s x => s ++ lineB x) s) = q.foldl (fun h x => hashB h (lineB x)) (hashB 14695981039346656037 s) := fun q => by
    induction q with
    | nil => intro s; rfl
    | cons x q ih => intro s; rw [List.foldl_cons, ih, List.foldl_cons, hashB_append]
  exact key q ⟨#[]⟩

theorem makeSlice79 (w : World) : (Instr.makeSlice 79 (.int .i64 8) (.int .i64 8)).run Tryz.prog w = .ok (.slice (some ⟨w.heap.size, 0, none⟩) 8 8) (w.alloc (.cells #[.int .u8 0, .int .u8 0, .int .u8 0, .int .u8 0, .int .u8 0, .int .u8 0, .int .u8 0, .int .u8 0] 5)) := by kernel_rfl

theorem convDig (h : Int) (W : World) : (convert 79 9 (.slice (some ⟨W.heap.size, 0, none⟩) 8 8)).run Tryz.prog (W.alloc (.cells #[.int .u8 (h / 72057594037927936 % 256), .int .u8 (h / 281474976710656 % 256), .int .u8 (h / 1099511627776 % 256), .int .u8 (h / 4294967296 % 256), .int .u8 (h / 16777216 % 256), .int .u8 (h / 65536 % 256), .int .u8 (h / 256 % 256), .int .u8 (h % 256)] 5)) = .ok (.string (digStr h)) (W.alloc (.cells #[.int .u8 (h / 72057594037927936 % 256), .int .u8 (h / 281474976710656 % 256), .int .u8 (h / 1099511627776 % 256), .int .u8 (h / 4294967296 % 256), .int .u8 (h / 16777216 % 256), .int .u8 (h / 65536 % 256), .int .u8 (h / 256 % 256), .int .u8 (h % 256)] 5)) := by
  have hby : ∀ z : Int, ((UInt8.ofNat (z % 256).toNat).toNat : Int) = z % 256 := fun z => by
    have h1 := Int.emod_nonneg z (show (256 : Int) ≠ 0 by decide)
    have h2 := Int.emod_lt_of_pos z (show (0 : Int) < 256 by decide)
    simp only [UInt8.toNat_ofNat']
    omega
  refine run_convert_bytes_back (P := Tryz.prog) _ 79 9 5 ⟨W.heap.size, 0, none⟩ 8 (digStr h).data.toList Tryz.underlying79 Tryz.underlying5 Tryz.underlying9 (fun j hj => ?_)
  refine newsAt rfl [.int .u8 (h / 72057594037927936 % 256), .int .u8 (h / 281474976710656 % 256), .int .u8 (h / 1099511627776 % 256), .int .u8 (h / 4294967296 % 256), .int .u8 (h / 16777216 % 256), .int .u8 (h / 65536 % 256), .int .u8 (h / 256 % 256), .int .u8 (h % 256)] 5 rfl j _ ?_
  have hj8 : j < 8 := hj
  have : j = 0 ∨ j = 1 ∨ j = 2 ∨ j = 3 ∨ j = 4 ∨ j = 5 ∨ j = 6 ∨ j = 7 := by omega
  rcases this with rfl | rfl | rfl | rfl | rfl | rfl | rfl | rfl <;> simp [digStr] <;> omega

set_option maxHeartbeats 2000000 in
set_option maxRecDepth 100000 in
theorem hashD_any (s : ByteArray) (w : World) (hs : s.size ≤ 1099511627776) :
    Calls Tryz.prog 83 #[.string s] w fun e w' => e = .returned (.string (digStr (hashB 14695981039346656037 s))) ∧ Below w.heap.size w w' := by
  have hmk := makeSlice79
  go_enter Tryz.func83, Tryz.ntmps83
  go_wp2
  go_loopg [3, 4] s.size (fun k t3 t4 wr => ∃ (j : Nat) (h : Int), t3 = .int .u64 h ∧ h = hashT 14695981039346656037 (s.data.toList.take j) ∧ t4 = .int .i64 j ∧ k + j = s.size ∧ wr = w)
  case atStart => exact ⟨0, _, rfl, by simp [hashT], rfl, by omega, rfl⟩
  case round =>
    obtain ⟨j, h, rfl, hh, rfl, hk, rfl⟩ := hrel
    by_cases hj : j < s.size
    · have hjj : (j : Int) < (s.size : Int) := by omega
      have hst : hashT 14695981039346656037 (s.data.toList.take (j + 1)) = stepH h (s[j]'hj).toNat := by
        have hj' : j < s.data.size := hj
        rw [hashT_take _ _ _ (by simpa using hj'), ← hh]
        simp [ByteArray.getElem_eq_getElem_data]
      have HH := Lib.hid hst
      clear hh hst
      go_wp2
      go_roundg (gk - 1)
      case rel => exact ⟨j + 1, _, rfl, by rw [HH.out]; rfl, by go_simp, by omega, rfl⟩
      case measure => omega
    · have hje : j = s.size := by omega
      subst hje
      rw [List.take_of_length_le (by rw [Array.length_toList]; exact Nat.le_refl _)] at hh
      have HH : Hid (h = hashB 14695981039346656037 s) := Lib.hid hh
      clear hh
      go_wp2
      have hconv := convDig h
      refine wp_loop_rounds 9 ?_
      iterate 9 (try (rw [rounds_succ]; go_wp2))
      go_ret
      exact ⟨by rw [← HH.out]; rfl, (Below.refl _ _).alloc (Nat.le_refl _) _⟩
end Go.Proofs.YtpdbmpbmepkikaaGreatDoor
