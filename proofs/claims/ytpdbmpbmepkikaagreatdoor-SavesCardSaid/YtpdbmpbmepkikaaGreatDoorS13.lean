/- SavS: The law's saves, a replica saved and loaded spoilt: it is told. Conditions: at most 50000 registers and replicas.
   LawJ: The law's step where it asks, and where there is no replica. Conditions: at most 90000 registers and replicas; short texts.
   SavT: The law's step where it saves. Conditions: at most 50000 registers and replicas.
   LawK: The law's plays, of edits and questions, without the last look. Condition: no text is longer than memory.
   LawR: The law's plays, of edits and questions, with the last look at every replica. Condition: no text is longer than memory.
   LawL: The law's Edits, called: true. Conditions: no text is longer than memory; the numbers fit.
   LawS: The law's Books, called: true. Conditions: no text is longer than memory; the numbers fit.
   SavU: The law's Saves, called: true. Conditions: no text is longer than memory; the numbers fit. -/
import Derived.Test.YtpdbmpbmepkikaaGreatDoorS12
import Derived.WalkSpells
import Derived.Test.YtpdbmpbmepkikaaGreatDoorS07
set_option linter.all false
set_option linter.unusedSimpArgs false
set_option linter.unusedVariables false

set_option linter.unusedSimpArgs false
set_option linter.unusedVariables false
namespace Go.Proofs.YtpdbmpbmepkikaaGreatDoor
open Go.RowKit

theorem pickL_big (c : Int) (n : Nat) (w : World) (hn : 0 < n) (hn2 : n ≤ 1099511627776) (hc : I64 c) :
    Calls Tryz.prog 72 #[.int .i64 c, .int .i64 n] w fun e w' => e = .returned (.int .i64 (pickZ c n)) ∧ w' = w := by
  have hp : ((pickZ c n : Nat) : Int) = (if c < 0 then -(c + 1) else c) % n := by
    unfold pickZ
    exact Int.toNat_of_nonneg (Int.emod_nonneg _ (by omega))
  have hn0 : ((n : Int) == 0) = false := by simp; omega
  have hn1 : ¬ (n : Int) = 0 := by omega
  have hn3 : ¬ n = 0 := by omega
  obtain ⟨h1, h2⟩ := hc
  by_cases h0 : c < 0
  · have w0 : IntKind.i64.wrap (c + 1) = c + 1 := by rw [IntKind.wrap_i64]; omega
    have w1 : IntKind.i64.wrap (-(c + 1)) = -(c + 1) := by rw [IntKind.wrap_i64]; omega
    have hm : (-(c + 1)).tmod (n : Int) = (-(c + 1)) % n := Int.tmod_eq_emod_of_nonneg (by omega)
    have hr := Int.emod_lt_of_pos (-(c + 1)) (show (0 : Int) < n by omega)
    have hr2 := Int.emod_nonneg (-(c + 1)) (show (n : Int) ≠ 0 by omega)
    have w2 : IntKind.i64.wrap ((-(c + 1)).tmod (n : Int)) = (-(c + 1)) % n := by rw [hm, IntKind.wrap_i64]; omega
    rw [if_pos h0] at hp
    have HP := Lib.hid (And.intro hp (And.intro hr hr2))
    clear hp hr hr2
    go_enter Tryz.func72, Tryz.ntmps72
    go_wp2
    go_ret
    obtain ⟨hp, _, _⟩ := HP.out
    exact ⟨congrArg (fun z => Ending.returned (Value.int .i64 z)) hp.symm, rfl⟩
  · have hm : c.tmod (n : Int) = c % n := Int.tmod_eq_emod_of_nonneg (by omega)
    have hr := Int.emod_lt_of_pos c (show (0 : Int) < n by omega)
    have hr2 := Int.emod_nonneg c (show (n : Int) ≠ 0 by omega)
    have w2 : IntKind.i64.wrap (c.tmod (n : Int)) = c % n := by rw [hm, IntKind.wrap_i64]; omega
    rw [if_neg h0] at hp
    have HP := Lib.hid (And.intro hp (And.intro hr hr2))
    clear hp hr hr2
    go_enter Tryz.func72, Tryz.ntmps72
    go_wp2
    go_ret
    obtain ⟨hp, _, _⟩ := HP.out
    exact ⟨congrArg (fun z => Ending.returned (Value.int .i64 z)) hp.symm, rfl⟩

theorem and1_i64 (c : Int) : bits .and .i64 c 1 = c % 2 := by
  show IntKind.i64.wrap ((BitVec.ofInt 64 c &&& BitVec.ofInt 64 1).toNat : Int) = c % 2
  have h1 : (BitVec.ofInt 64 c &&& BitVec.ofInt 64 1).toNat = (c % 2).toNat := by
    rw [BitVec.toNat_and, show (BitVec.ofInt 64 1).toNat = 1 from rfl, Nat.and_one_is_mod, BitVec.toNat_ofInt]
    omega
  rw [h1, IntKind.wrap_i64]
  omega

theorem saveB_seal (id : Int) (l : List Reg) : saveB id l = sealB (numB (twistN id) ++ listB regB l) := rfl
theorem body_small {id : Int} {l : List Reg} (hid : I64 id) (hF : ∀ x ∈ l, Fit x) (hl : l.length ≤ 50000) : (numB (twistN id) ++ listB regB l).length < 1000000000 := by
  have h1 := numB_len10 (twistN_lt hid)
  have h2 := numB_len10 (n := l.length) (by omega)
  have h3 := regsB_length hF
  rw [listB]
  simp only [List.length_append]
  omega
theorem bl_extract (s : ByteArray) (n : Nat) : bl (s.extract 0 n) = (bl s).take n := by
  unfold bl
  simp [ByteArray.data_extract]
theorem turned_ne (x r : Nat) (hx : x < 256) : UInt8.ofNat (x ^^^ 2 ^ r) ≠ UInt8.ofNat x ∨ 8 ≤ r := by
  by_cases h8 : 8 ≤ r
  · exact .inr h8
  · refine .inl fun e => ?_
    have hp : 2 ^ r < 256 := by
      have : r = 0 ∨ r = 1 ∨ r = 2 ∨ r = 3 ∨ r = 4 ∨ r = 5 ∨ r = 6 ∨ r = 7 := by omega
      rcases this with rfl | rfl | rfl | rfl | rfl | rfl | rfl | rfl <;> decide
    have hxr : x ^^^ 2 ^ r < 256 := Nat.xor_lt_two_pow (n := 8) hx hp
    have := congrArg UInt8.toNat e
    rw [UInt8.toNat_ofNat', UInt8.toNat_ofNat', Nat.mod_eq_of_lt hxr, Nat.mod_eq_of_lt hx] at this
    have h0 : 2 ^ r = 0 := by
      have := congrArg (x ^^^ ·) this
      simp only [Nat.xor_self] at this
      rw [← Nat.xor_assoc, Nat.xor_self, Nat.zero_xor] at this
      exact this
    have := Nat.two_pow_pos r
    omega

set_option maxHeartbeats 4000000 in
set_option maxRecDepth 100000 in
theorem saves10_any (N K x pw : Nat) (pv qv : Value) (os : List One) (i : Nat) (o : One) (a b c : Int) (s t u : ByteArray) (w : World) (hK : K ≤ 50000) (hos : os.length ≤ K) (h : LawAt N K w x pw pv qv os) (ho : Who os i o) (hN : N ≤ w.heap.size) (hT : EType w) (hb64 : I64 b) :
    Calls Tryz.prog 76 #[.pointer (some ⟨x, 0, none⟩), .agg #[.int .i64 10, .int .i64 a, .int .i64 b, .int .i64 c, .string s, .string t, .string u], .int .i64 i] w (Stepped' N (K + 1) x pw w) := by
  obtain ⟨g, cap, hqv, hg, hci⟩ := h.cell ho.lt
  rw [ho.get] at hci
  subst hqv
  have hlt := ho.lt
  obtain ⟨cs, hcs⟩ : ∃ cs : Array Value, cs = #[.int .i64 10, .int .i64 a, .int .i64 b, .int .i64 c, .string s, .string t, .string u] := ⟨_, rfl⟩
  obtain ⟨w1, hw1⟩ : ∃ w1, w1 = w.alloc (.cells cs 102) := ⟨_, rfl⟩
  have hA1 : AskAt N K x pw pv (.slice (some ⟨g, 0, none⟩) os.length cap) os w.heap.size cs w w1 := hw1 ▸ AskAt.new h cs
  have hFl : ∀ y ∈ o.l, Fit y := fun y hy => ((h.ones o ho.mem).bk.good y hy).fit (by omega) ((h.ones o ho.mem).cnt y hy)
  have hFL : ∀ y ∈ o.L, Fit y := fun y hy => hFl y ((h.ones o ho.mem).bk.perm.subset hy)
  have hps : (os.map (·.p)).length ≤ 1000000 := by simp; omega
  have hpi : (os.map (·.p))[i]'(by simpa using ho.lt) = o.p := by simp [ho.get]
  have h1 := hA1.law.ones o ho.mem
  have hsm := hA1.law.small (by omega) ho
  have C1 := saveW_any pw pv (os.map (·.p)) i (by simpa using ho.lt) o.id o.m o.g o.L w1 hA1.law.wld hps (by rw [hpi]; exact h1.rep) h1.book hsm.2 hFL h1.idr
  rw [h1.bk.all] at C1
  obtain ⟨sv, hsv⟩ : ∃ sv : ByteArray, sv = ⟨(saveB o.id o.l).toArray⟩ := ⟨_, rfl⟩
  obtain ⟨bd, hbd⟩ : ∃ bd, bd = numB (twistN o.id) ++ listB regB o.l := ⟨_, rfl⟩
  have hbl : bl sv = sealB bd := by rw [hsv, hbd, saveB_seal]
  have hbs : bd.length < 1000000000 := by rw [hbd]; exact body_small h1.idr hFl (by have := h1.len; omega)
  have hsz : sv.size = (sealB bd).length := by rw [← hbl]; rfl
  have hsz2 : 0 < sv.size := by rw [hsz]; exact sealB_pos _
  have hsz3 : sv.size ≤ 1099511627 := by
    have h1 := sealB_length bd
    have h2 := numB_len10 (n := bd.length + 4) (by omega)
    omega
  rw [← hsv] at C1
  have HC1 := Lib.hid C1
  have hx1 : w.cell? ⟨x, 1, none⟩ = some (.slice (some ⟨g, 0, none⟩) os.length cap) := Joins.cell_of_block h.box 1
  have hx0 : w1.cell? ⟨x, 0, none⟩ = some (.pointer (some ⟨pw, 0, none⟩)) := hA1.x0
  have hx0' : w.cell? ⟨x, 0, none⟩ = some (.pointer (some ⟨pw, 0, none⟩)) := Joins.cell_of_block h.box 0
  have hxl := h.xlt
  have hii : (i : Int) < (os.length : Int) := by omega
  have HA := Lib.hid (And.intro hA1 (And.intro hbl (And.intro hbs (And.intro hsz (And.intro hcs hT)))))
  rw [hcs] at hw1
  have HB1 := Lib.hid hw1
  have hs0 : ¬ (sv.size : Int) = 0 := by omega
  have hs00 : ((sv.size : Int) == 0) = false := beq_eq_false_iff_ne.2 (by omega)
  have hand := and1_i64 c
  have hz1 : w1.heap.size = w.heap.size + 1 := by rw [hw1]; simp
  clear h hw1 hlt hA1 C1 hFl hFL hpi h1 hsv hbl hcs hps hbd hbs hsz hT
  go_enter Tryz.func76, Tryz.ntmps76
  go_wp2_with (rw [← HB1.out]; go_at_call 134; go_must (refine HC1.out.mono ?_); rintro e w2 ⟨rfl, hb2⟩; have HB2 := Lib.hid hb2; clear hb2; refine Halt.of ?_)
  unfold Halt
  clear HC1
  have hA2 := HA.out.1.later HB2.out
  obtain ⟨-, -, -, -, hcs, -⟩ := HA.out
  have e0 : w2.cell? ⟨w.heap.size, 0, none⟩ = some (.int .i64 10) := (hA2.bc 0).trans (by rw [hcs]; rfl)
  have e2 : w2.cell? ⟨w.heap.size, 2, none⟩ = some (.int .i64 b) := (hA2.bc 2).trans (by rw [hcs]; rfl)
  have e3 : w2.cell? ⟨w.heap.size, 3, none⟩ = some (.int .i64 c) := (hA2.bc 3).trans (by rw [hcs]; rfl)
  have x0 : w2.cell? ⟨x, 0, none⟩ = some (.pointer (some ⟨pw, 0, none⟩)) := hA2.x0
  have x1 : w2.cell? ⟨x, 1, none⟩ = some (.slice (some ⟨g, 0, none⟩) os.length cap) := hA2.x1
  have hxl2 := hA2.law.xlt
  have hbx2 := (Array.getElem?_eq_some_iff.1 hA2.box).1
  have HA2 := Lib.hid hA2
  have hm2 : c % 2 = 1 ∨ c % 2 = 0 := by omega
  clear hA2 hcs hx0 hx0' hx1 hci
  rcases hm2 with hm2 | hm2
  · rw [hm2] at hand
    obtain ⟨n, hn⟩ : ∃ n, n = pickZ b sv.size := ⟨_, rfl⟩
    have hnl : n < sv.size := hn ▸ pickZ_lt hsz2
    have HC5 := Lib.hid (pickL_big b sv.size w2 hsz2 (by omega) hb64)
    rw [← hn] at HC5
    have hbr : brokenB (bl (sv.extract 0 n)) = true := by
      rw [bl_extract, HA.out.2.1]
      exact seal_cut bd HA.out.2.2.1 n (by rw [← HA.out.2.2.2.1]; exact hnl)
    have hext : (sv.extract 0 n).size ≤ 1099511627776 := by
      have : (bl (sv.extract 0 n)).length = (sv.extract 0 n).size := rfl
      rw [bl_extract, List.length_take] at this
      omega
    have HC6 := Lib.hid (loadW_broken pw (sv.extract 0 n) w2 hbr hext (HA.out.2.2.2.2.2.below HA2.out.below (Nat.le_refl _)))
    have hnn : (n : Int) ≤ (sv.size : Int) := by omega
    clear hn hbr hext
    go_wp2_with (go_at_call 72; go_must (refine HC5.out.mono ?_); rintro e w3 ⟨rfl, hw3⟩; subst hw3; refine Halt.of ?_)
    unfold Halt
    clear HC5
    go_wp2_with (go_at_call 135; go_must (refine HC6.out.mono ?_); rintro e w4 ⟨rfl, hb4⟩; have HB4 := Lib.hid hb4; clear hb4; refine Halt.of ?_)
    unfold Halt
    have hA4 := HA2.out.later HB4.out
    obtain ⟨W5, hW5⟩ : ∃ W5, W5 = w4.alloc (.cells #[.int .i64 5, .string ⟨#[]⟩] 49) := ⟨_, rfl⟩
    have hB5 : Below w4.heap.size w4 W5 := by rw [hW5]; exact (Below.refl _ _).alloc (Nat.le_refl _) _
    have hA5 := hA4.later hB5
    have hC7 := sizeW_any pw pv (os.map (·.p)) W5 hA5.law.wld
    rw [show (os.map (·.p)).length = os.length by simp] at hC7
    have HC7 := Lib.hid hC7
    have x04 : w4.cell? ⟨x, 0, none⟩ = some (.pointer (some ⟨pw, 0, none⟩)) := hA4.x0
    have hxl4 : x < w4.heap.size := hA4.law.xlt
    have hxl4n : ¬ x = w4.heap.size := by omega
    have h5b : W5.heap[w4.heap.size]? = some (.cells #[.int .i64 5, .string ⟨#[]⟩] 49 (0, 0)) := by rw [hW5]; exact World.alloc_heap_new _ _
    have b0 : W5.cell? ⟨w4.heap.size, 0, none⟩ = some (.int .i64 5) := Joins.cell_of_block h5b 0
    have b1 : W5.cell? ⟨w4.heap.size, 1, none⟩ = some (.string ⟨#[]⟩) := Joins.cell_of_block h5b 1
    have x15 : W5.cell? ⟨x, 1, none⟩ = some (.slice (some ⟨g, 0, none⟩) os.length cap) := hA5.x1
    have HW5 := Lib.hid hW5
    have HA5 := Lib.hid hA5
    clear hA4 hB5 hA5 hC7 h5b hW5 HC6 e0 e2 e3 x0 x1
    go_wp2_with (rw [← HW5.out]; go_at_call 136; go_must (refine HC7.out.mono ?_); rintro e w5 ⟨rfl, hw5⟩; subst hw5; refine Halt.of ?_)
    unfold Halt
    clear HC7 x04
    go_wp2
    go_ret
    exact ⟨rfl, pv, _, os, HA5.out.law.more (Nat.le_succ K), by omega, Keep.of_below' HA5.out.below⟩
  · rw [hm2] at hand
    obtain ⟨n8, hn8⟩ : ∃ n8, n8 = 8 * sv.size := ⟨_, rfl⟩
    obtain ⟨n, hn⟩ : ∃ n, n = pickZ b n8 := ⟨_, rfl⟩
    have hnl : n < n8 := hn ▸ pickZ_lt (by omega)
    have HC5 := Lib.hid (pickL_big b n8 w2 (by omega) (by omega) hb64)
    rw [← hn] at HC5
    have hmul : IntKind.i64.wrap (8 * (sv.size : Int)) = (n8 : Int) := by rw [IntKind.wrap_i64]; omega
    obtain ⟨q, hq⟩ : ∃ q, q = n / 8 := ⟨_, rfl⟩
    obtain ⟨r, hr⟩ : ∃ r, r = n % 8 := ⟨_, rfl⟩
    have hqs : q < sv.size := by omega
    have hr8 : r < 8 := by omega
    have hdiv : IntKind.i64.wrap ((n : Int).tdiv 8) = (q : Int) := by rw [Int.tdiv_eq_ediv_of_nonneg (by omega), IntKind.wrap_i64]; omega
    have hmod : IntKind.i64.wrap ((n : Int).tmod 8) = (r : Int) := by rw [Int.tmod_eq_emod_of_nonneg (by omega), IntKind.wrap_i64]; omega
    obtain ⟨wcap, w3, hconv, hrd, hb3, hz3, cs3, lo3, hi3, hblk3, hcs3, hlo3⟩ := conv_own w2 sv
    have hcells : ∀ j (hj : j < (bl sv).length), w3.cell? ⟨w2.heap.size, j, none⟩ = some (u8V (bl sv)[j]) := fun j hj => by
      obtain ⟨ad, cp, he, hc⟩ := hrd
      simp only [Value.slice.injEq] at he
      obtain ⟨rfl, -, rfl⟩ := he
      rcases hc with hc | ⟨g', off, he, _, hc⟩
      · rw [hc] at hj; simp at hj
      · simp only [Option.some.injEq, Addr.mk.injEq] at he
        obtain ⟨rfl, rfl, -⟩ := he
        have := hc j hj
        rwa [Nat.zero_add] at this
    have hql : q < (bl sv).length := hqs
    obtain ⟨y, hy⟩ : ∃ y, y = (bl sv)[q] := ⟨_, rfl⟩
    obtain ⟨yn, hyn⟩ : ∃ yn, yn = y.toNat := ⟨_, rfl⟩
    have hy8 : yn < 256 := hyn ▸ y.toNat_lt
    have c1 : w3.cell? ⟨w2.heap.size, q, none⟩ = some (.int .u8 (yn : Int)) := by rw [hcells q hql, ← hy, hyn]; rfl
    have cf1 : w3.frozen? ⟨w2.heap.size, q, none⟩ = false := by unfold World.frozen?; rw [hblk3]; simp; omega
    have hshl : IntKind.u8.wrap (1 * 2 ^ r) = ((2 ^ r : Nat) : Int) := by
      have : r = 0 ∨ r = 1 ∨ r = 2 ∨ r = 3 ∨ r = 4 ∨ r = 5 ∨ r = 6 ∨ r = 7 := by omega
      rcases this with rfl | rfl | rfl | rfl | rfl | rfl | rfl | rfl <;> decide
    have hp8 : 2 ^ r < 256 := by
      have : r = 0 ∨ r = 1 ∨ r = 2 ∨ r = 3 ∨ r = 4 ∨ r = 5 ∨ r = 6 ∨ r = 7 := by omega
      rcases this with rfl | rfl | rfl | rfl | rfl | rfl | rfl | rfl <;> decide
    obtain ⟨pr, hpr⟩ : ∃ pr, pr = 2 ^ r := ⟨_, rfl⟩
    rw [← hpr] at hshl hp8
    have hshl2 : IntKind.u8.wrap (2 ^ r) = (pr : Int) := by rw [← hshl, Int.one_mul]
    obtain ⟨d, hd⟩ : ∃ d, d = yn ^^^ pr := ⟨_, rfl⟩
    have hxor : bits .xor .u8 (yn : Int) (pr : Int) = (d : Int) := by rw [u8_xor_nat yn pr hy8 hp8, hd]
    have hdiv2 : IntKind.i64.wrap ((n : Int) / 8) = (q : Int) := by rw [IntKind.wrap_i64]; omega
    have hmod2 : IntKind.i64.wrap ((n : Int) % 8) = (r : Int) := by rw [IntKind.wrap_i64]; omega
    have hmod3 : (n : Int).tmod 8 = (r : Int) := by rw [Int.tmod_eq_emod_of_nonneg (by omega)]; omega
    have hq0 : (0 : Int) ≤ (q : Int) := by omega
    have hqi : (q : Int) < (sv.size : Int) := by omega
    have hr0 : (0 : Int) ≤ (r : Int) := by omega
    have HQ := Lib.hid (And.intro hq (And.intro hr (And.intro hb3 (And.intro hcells (And.intro hy (And.intro hyn (And.intro hd (And.intro hpr (And.intro hblk3 (And.intro hcs3 hlo3))))))))))
    clear hn hn8 hq hr hb3 hcells hrd hy hyn hd hpr hblk3 hcs3 hlo3
    go_wp2_with (go_at_call 72; go_must (refine HC5.out.mono ?_); rintro e w3' ⟨rfl, hw3⟩; subst hw3; refine Halt.of ?_)
    unfold Halt
    clear HC5
    go_wp2
    refine wp_region_noPanic ?_
    refine wp_region_Z (S := fun U => U.cell? ⟨w3'.heap.size, q, none⟩ = some (.int .u8 (yn : Int))) (z := 13) (by kernel_rfl) c1 (fun hHeld => ?_)
    refine wpAnyZ_take (i := 0) (v := ?v0) rfl (by kernel_rfl) (by kernel_rfl) (by kernel_rfl) (by kernel_rfl) (fun _ _ _ h => h) (Or.inl ⟨by rfl, ?hy0⟩) hHeld ?rest0; (case hy0 => (intro W hSw; go_simp; (try with_reducible rfl)))
    simp only [Act.put, List.getElem_toArray, List.getElem_cons_zero, List.getElem_cons_succ, List.setIfInBounds_toArray, List.set_cons_zero, List.set_cons_succ]
    refine wpAnyZ_take (i := 1) (v := ?v1) rfl (by kernel_rfl) (by kernel_rfl) (by kernel_rfl) (by kernel_rfl) (fun _ _ _ h => h) (Or.inl ⟨by rfl, ?hy1⟩) hHeld ?rest1; (case hy1 => (intro W hSw; go_simp; (try with_reducible rfl)))
    simp only [Act.put, List.getElem_toArray, List.getElem_cons_zero, List.getElem_cons_succ, List.setIfInBounds_toArray, List.set_cons_zero, List.set_cons_succ]
    refine wpAnyZ_take (i := 2) (v := ?v2) rfl (by kernel_rfl) (by kernel_rfl) (by kernel_rfl) (by kernel_rfl) (fun _ _ _ h => h) (Or.inl ⟨by rfl, ?hy2⟩) hHeld ?rest2; (case hy2 => (intro W hSw; go_simp; (try with_reducible rfl)))
    simp only [Act.put, List.getElem_toArray, List.getElem_cons_zero, List.getElem_cons_succ, List.setIfInBounds_toArray, List.set_cons_zero, List.set_cons_succ]
    refine wpAnyZ_take (i := 3) (v := ?v3) rfl (by kernel_rfl) (by kernel_rfl) (by kernel_rfl) (by kernel_rfl) (fun _ _ _ h => h) (Or.inl ⟨by rfl, ?hy3⟩) hHeld ?rest3; (case hy3 => (intro W hSw; go_simp; (try with_reducible rfl)))
    simp only [Act.put, List.getElem_toArray, List.getElem_cons_zero, List.getElem_cons_succ, List.setIfInBounds_toArray, List.set_cons_zero, List.set_cons_succ]
    refine wpAnyZ_take (i := 4) (v := ?v4) rfl (by kernel_rfl) (by kernel_rfl) (by kernel_rfl) (by kernel_rfl) (fun _ _ _ h => h) (Or.inl ⟨by rfl, ?hy4⟩) hHeld ?rest4; (case hy4 => (intro W hSw; go_simp; (try with_reducible rfl)))
    simp only [Act.put, List.getElem_toArray, List.getElem_cons_zero, List.getElem_cons_succ, List.setIfInBounds_toArray, List.set_cons_zero, List.set_cons_succ]
    refine wpAnyZ_take (i := 5) (v := ?v5) rfl (by kernel_rfl) (by kernel_rfl) (by kernel_rfl) (by kernel_rfl) (fun _ _ _ h => h) (Or.inl ⟨by rfl, ?hy5⟩) hHeld ?rest5; (case hy5 => (intro W hSw; go_simp; (try with_reducible rfl)))
    simp only [Act.put, List.getElem_toArray, List.getElem_cons_zero, List.getElem_cons_succ, List.setIfInBounds_toArray, List.set_cons_zero, List.set_cons_succ]
    refine wpAnyZ_take (i := 6) (v := ?v6) rfl (by kernel_rfl) (by kernel_rfl) (by kernel_rfl) (by kernel_rfl) (fun _ _ _ h => h) (Or.inl ⟨by rfl, ?hy6⟩) hHeld ?rest6; (case hy6 => (intro W hSw; go_simp; (try with_reducible rfl)))
    simp only [Act.put, List.getElem_toArray, List.getElem_cons_zero, List.getElem_cons_succ, List.setIfInBounds_toArray, List.set_cons_zero, List.set_cons_succ]
    refine wpAnyZ_take (i := 7) (v := ?v7) rfl (by kernel_rfl) (by kernel_rfl) (by kernel_rfl) (by kernel_rfl) (fun _ _ _ h => h) (Or.inl ⟨by rfl, ?hy7⟩) hHeld ?rest7; (case hy7 => (intro W hSw; go_simp; (try with_reducible rfl)))
    simp only [Act.put, List.getElem_toArray, List.getElem_cons_zero, List.getElem_cons_succ, List.setIfInBounds_toArray, List.set_cons_zero, List.set_cons_succ]
    refine wpAnyZ_take (i := 8) (v := ?v8) rfl (by kernel_rfl) (by kernel_rfl) (by kernel_rfl) (by kernel_rfl) (fun _ _ _ h => h) (Or.inl ⟨by rfl, ?hy8⟩) hHeld ?rest8; (case hy8 => (intro W hSw; go_simp; (try with_reducible rfl)))
    simp only [Act.put, List.getElem_toArray, List.getElem_cons_zero, List.getElem_cons_succ, List.setIfInBounds_toArray, List.set_cons_zero, List.set_cons_succ]
    refine wpAnyZ_take (i := 9) (v := ?v9) rfl (by kernel_rfl) (by kernel_rfl) (by kernel_rfl) (by kernel_rfl) (fun _ _ _ h => h) (Or.inl ⟨by rfl, ?hy9⟩) hHeld ?rest9; (case hy9 => (intro W hSw; go_simp; (try with_reducible rfl)))
    simp only [Act.put, List.getElem_toArray, List.getElem_cons_zero, List.getElem_cons_succ, List.setIfInBounds_toArray, List.set_cons_zero, List.set_cons_succ]
    refine wpAnyZ_take (i := 10) (v := ?v10) rfl (by kernel_rfl) (by kernel_rfl) (by kernel_rfl) (by kernel_rfl) (fun _ _ _ h => h) (Or.inl ⟨by rfl, ?hy10⟩) hHeld ?rest10; (case hy10 => (intro W hSw; go_simp; (try with_reducible rfl)))
    simp only [Act.put, List.getElem_toArray, List.getElem_cons_zero, List.getElem_cons_succ, List.setIfInBounds_toArray, List.set_cons_zero, List.set_cons_succ]
    refine wpAnyZ_take (i := 11) (v := ?v11) rfl (by kernel_rfl) (by kernel_rfl) (by kernel_rfl) (by kernel_rfl) (fun _ _ _ h => h) (Or.inl ⟨by rfl, ?hy11⟩) hHeld ?rest11; (case hy11 => (intro W hSw; go_simp; (try with_reducible rfl)))
    simp only [Act.put, List.getElem_toArray, List.getElem_cons_zero, List.getElem_cons_succ, List.setIfInBounds_toArray, List.set_cons_zero, List.set_cons_succ]
    refine wpAnyZ_take (i := 12) (v := ?v12) rfl (by kernel_rfl) (by kernel_rfl) (by kernel_rfl) (by kernel_rfl) (fun _ _ _ h => h) (Or.inl ⟨by rfl, ?hy12⟩) hHeld ?rest12; (case hy12 => (intro W hSw; go_simp; (try with_reducible rfl)))
    simp only [Act.put, List.getElem_toArray, List.getElem_cons_zero, List.getElem_cons_succ, List.setIfInBounds_toArray, List.set_cons_zero, List.set_cons_succ]
    refine wpAnyZ_skip (i := 13) (w' := w3.drew.setCell ⟨w3'.heap.size, q, none⟩ (.int .u8 (d : Int))) (by kernel_rfl) rfl (by rfl) ?hv13 (fun h => Bool.noConfusion h) ?rest13; (case hv13 => (go_simp))
    simp only [Act.put, List.getElem_toArray, List.getElem_cons_zero, List.getElem_cons_succ, List.setIfInBounds_toArray, List.set_cons_zero, List.set_cons_succ]
    refine wpAnyZ_done (by kernel_rfl) ?_ _
    refine NoPanic.normal ?_
    clear hHeld
    obtain ⟨w6, hw6⟩ : ∃ w6, w6 = w3.drew.setCell ⟨w3'.heap.size, q, none⟩ (.int .u8 (d : Int)) := ⟨_, rfl⟩
    rw [← hw6]
    obtain ⟨hq, hr, hb3, hcells, hy, hyn, hd, hpr, hblk3, hcs3, hlo3⟩ := HQ.out
    have hd8 : d < 256 := by rw [hd]; exact Nat.xor_lt_two_pow (n := 8) hy8 hp8
    have hdne : (bl sv)[q] ≠ UInt8.ofNat d := fun e => by
      rcases turned_ne yn r hy8 with h | h
      · refine h ?_
        rw [← hpr, ← hd, ← e, ← hy, hyn]
        simp
      · omega
    obtain ⟨l', hl'⟩ : ∃ l', l' = (bl sv).set q (UInt8.ofNat d) := ⟨_, rfl⟩
    have hll : l'.length = sv.size := by rw [hl', List.length_set]; rfl
    have hconv2 : (convert 79 9 (.slice (some ⟨w3'.heap.size, 0, none⟩) sv.size wcap)).run Tryz.prog w6 = .ok (.string ⟨l'.toArray⟩) w6 := by
      rw [← hll]
      refine run_convert_bytes_back (P := Tryz.prog) _ 79 9 5 ⟨w3'.heap.size, 0, none⟩ wcap l' Tryz.underlying79 Tryz.underlying5 Tryz.underlying9 (fun j hj => ?_)
      rw [Addr.add_lit, Nat.zero_add, hw6]
      have hjs : j < (bl sv).length := by rw [hll] at hj; exact hj
      by_cases hjq : j = q
      · subst hjq
        have e : l'[j] = UInt8.ofNat d := by simp [hl']
        rw [e, UInt8.toNat_ofNat', Nat.mod_eq_of_lt hd8]
        exact World.cell?_setCell_same w3.drew _ _ c1
      · have e : l'[j] = (bl sv)[j] := by simp only [hl']; rw [List.getElem_set, if_neg (fun e => hjq e.symm)]
        rw [e]
        have := hcells j hjs
        exact (World.cell?_setCell_other w3.drew _ _ _ (fun e => hjq (by simp only [Addr.mk.injEq] at e; omega))).trans this
    have hbr : brokenB (bl ⟨l'.toArray⟩) = true := by
      have e : bl ⟨l'.toArray⟩ = l' := rfl
      rw [e, hl']
      have hbl := HA.out.2.1
      have := seal_turned bd q (by rw [← hbl]; exact hql) (UInt8.ofNat d) (by simpa only [hbl] using hdne)
      rw [hbl]; exact this
    have hB6 : Below w3'.heap.size w3' w6 := by rw [hw6]; exact below_keep hb3 ((Keep.drew (fun b => b = w3'.heap.size) _).trans (Keep.setCell _ _ _ rfl)) (fun x hx e => by omega)
    have hA6 := HA2.out.later hB6
    have HA6 := Lib.hid hA6
    have hsz6 : (⟨l'.toArray⟩ : ByteArray).size ≤ 1099511627776 := by show l'.length ≤ _; omega
    have HC6 := Lib.hid (loadW_broken pw ⟨l'.toArray⟩ w6 hbr hsz6 (HA.out.2.2.2.2.2.below hA6.below (Nat.le_refl _)))
    have e0' : w6.cell? ⟨x, 0, none⟩ = some (.pointer (some ⟨pw, 0, none⟩)) := hA6.x0
    clear hq hr hb3 hcells hy hyn hd hpr hblk3 hcs3 hlo3 hdne hl' hbr hB6 hA6 hw6 c1 cf1 hsz6 hshl hshl2 hxor hmod hdiv hmod2 hdiv2 hmod3 hmul hconv
    go_wp2_with (go_at_call 135; go_must (refine HC6.out.mono ?_); rintro e w4 ⟨rfl, hb4⟩; have HB4 := Lib.hid hb4; clear hb4; refine Halt.of ?_)
    unfold Halt
    clear hconv2
    have hA4 := HA6.out.later HB4.out
    obtain ⟨W5, hW5⟩ : ∃ W5, W5 = w4.alloc (.cells #[.int .i64 5, .string ⟨#[]⟩] 49) := ⟨_, rfl⟩
    have hB5 : Below w4.heap.size w4 W5 := by rw [hW5]; exact (Below.refl _ _).alloc (Nat.le_refl _) _
    have hA5 := hA4.later hB5
    have hC7 := sizeW_any pw pv (os.map (·.p)) W5 hA5.law.wld
    rw [show (os.map (·.p)).length = os.length by simp] at hC7
    have HC7 := Lib.hid hC7
    have x04 : w4.cell? ⟨x, 0, none⟩ = some (.pointer (some ⟨pw, 0, none⟩)) := hA4.x0
    have hxl4 : x < w4.heap.size := hA4.law.xlt
    have hxl4n : ¬ x = w4.heap.size := by omega
    have h5b : W5.heap[w4.heap.size]? = some (.cells #[.int .i64 5, .string ⟨#[]⟩] 49 (0, 0)) := by rw [hW5]; exact World.alloc_heap_new _ _
    have b0 : W5.cell? ⟨w4.heap.size, 0, none⟩ = some (.int .i64 5) := Joins.cell_of_block h5b 0
    have b1 : W5.cell? ⟨w4.heap.size, 1, none⟩ = some (.string ⟨#[]⟩) := Joins.cell_of_block h5b 1
    have x15 : W5.cell? ⟨x, 1, none⟩ = some (.slice (some ⟨g, 0, none⟩) os.length cap) := hA5.x1
    have HW5 := Lib.hid hW5
    have HA5 := Lib.hid hA5
    clear hA4 hB5 hA5 hC7 h5b hW5 HC6 e0 e2 e3 x0 x1
    go_wp2_with (rw [← HW5.out]; go_at_call 136; go_must (refine HC7.out.mono ?_); rintro e w5 ⟨rfl, hw5⟩; subst hw5; refine Halt.of ?_)
    unfold Halt
    clear HC7 x04
    go_wp2
    go_ret
    exact ⟨rfl, pv, _, os, HA5.out.law.more (Nat.le_succ K), by omega, Keep.of_below' HA5.out.below⟩
end Go.Proofs.YtpdbmpbmepkikaaGreatDoor

namespace Go.Proofs.YtpdbmpbmepkikaaGreatDoor
open Go.RowKit

set_option maxHeartbeats 2000000 in
set_option maxRecDepth 100000 in
theorem step0_any (N K x pw : Nat) (pv qv : Value) (os : List One) (k a b c : Int) (s t u : ByteArray) (w : World) (h : LawAt N K w x pw pv qv os) (hne : os.length = 0) (hk : (k == 1) = false) :
    Calls Tryz.prog 48 #[.pointer (some ⟨x, 0, none⟩), .agg #[.int .i64 k, .int .i64 a, .int .i64 b, .int .i64 c, .string s, .string t, .string u]] w (Stepped' N (K + 1) x pw w) := by
  obtain ⟨qad, qcap, hqv⟩ := h.slice
  rw [hne] at hqv
  subst hqv
  have hx1 : w.cell? ⟨x, 1, none⟩ = some (.slice qad 0 qcap) := Joins.cell_of_block h.box 1
  have hxl := h.xlt
  have hk1 : ¬ k = 1 := by simpa using hk
  have HH := Lib.hid (And.intro h hne)
  clear h hne
  go_enter Tryz.func48, Tryz.ntmps48
  go_wp2
  go_ret
  obtain ⟨h, hne⟩ := HH.out
  have hb : Below w.heap.size w (w.alloc (.cells #[.int .i64 k, .int .i64 a, .int .i64 b, .int .i64 c, .string s, .string t, .string u] 102)) := (Below.refl _ _).alloc (Nat.le_refl _) _
  exact ⟨rfl, pv, _, os, (h.more (Nat.le_succ K)).below hb, by omega, Keep.of_below' hb⟩

set_option maxHeartbeats 2000000 in
set_option maxRecDepth 100000 in
theorem step4_any (N K x pw : Nat) (pv qv : Value) (os : List One) (a b c : Int) (s t u : ByteArray) (w : World) (hK : K ≤ 90000) (hos : os.length ≤ K) (h : LawAt N K w x pw pv qv os) (hne : 0 < os.length) (ha : I64 a)
    (hask : ∀ W i o, LawAt N K W x pw pv qv os → Who os i o → Below w.heap.size w W → Calls Tryz.prog 49 #[.pointer (some ⟨x, 0, none⟩), .agg #[.int .i64 4, .int .i64 a, .int .i64 b, .int .i64 c, .string s, .string t, .string u], .int .i64 i] W fun e w' => e = .returned (.bool true) ∧ Below W.heap.size W w') :
    Calls Tryz.prog 48 #[.pointer (some ⟨x, 0, none⟩), .agg #[.int .i64 4, .int .i64 a, .int .i64 b, .int .i64 c, .string s, .string t, .string u]] w (Stepped' N (K + 1) x pw w) := by
  obtain ⟨i, hi⟩ : ∃ i, i = pickZ a os.length := ⟨_, rfl⟩
  have hlt : i < os.length := hi ▸ pickZ_lt hne
  obtain ⟨o, hoo⟩ : ∃ o, o = os[i] := ⟨_, rfl⟩
  have ho : Who os i o := ⟨hlt, by rw [hoo]; exact List.getElem?_eq_getElem hlt⟩
  obtain ⟨g, cap, hqv, hg, hci⟩ := h.cell hlt
  rw [← hoo] at hci
  subst hqv
  obtain ⟨cs, hcs⟩ : ∃ cs : Array Value, cs = #[.int .i64 4, .int .i64 a, .int .i64 b, .int .i64 c, .string s, .string t, .string u] := ⟨_, rfl⟩
  have C0 : Hid (∀ W, Calls Tryz.prog 72 #[.int .i64 a, .int .i64 os.length] W fun e W' => e = .returned (.int .i64 i) ∧ W' = W) :=
    Lib.hid fun W => by
      have hos2 : os.length ≤ 1000000 := by omega
      have := pickL_any a os.length W hne hos2 ha
      rw [← hi] at this
      exact this
  have y1 : ∀ W, AskAt N K x pw pv (.slice (some ⟨g, 0, none⟩) os.length cap) os w.heap.size cs w W → W.cell? ⟨x, 1, none⟩ = some (.slice (some ⟨g, 0, none⟩) os.length cap) := fun W hW => hW.x1
  have yb : ∀ W, AskAt N K x pw pv (.slice (some ⟨g, 0, none⟩) os.length cap) os w.heap.size cs w W → W.cell? ⟨w.heap.size, 1, none⟩ = some (.int .i64 a) := fun W hW => (hW.bc 1).trans (by rw [hcs]; rfl)
  have hx1 : w.cell? ⟨x, 1, none⟩ = some (.slice (some ⟨g, 0, none⟩) os.length cap) := Joins.cell_of_block h.box 1
  have hxl := h.xlt
  obtain ⟨w1, hw1⟩ : ∃ w1, w1 = w.alloc (.cells cs 102) := ⟨_, rfl⟩
  have hA1 : AskAt N K x pw pv (.slice (some ⟨g, 0, none⟩) os.length cap) os w.heap.size cs w w1 := hw1 ▸ AskAt.new h cs
  rw [hcs] at hw1
  have HB1 := Lib.hid hw1
  have HH := Lib.hid (And.intro hask (And.intro hcs (And.intro hci h)))
  have hn0 : (((os.length : Int)) == 0) = false := beq_eq_false_iff_ne.2 (by omega)
  have hn1 : ¬ (os.length : Int) = 0 := by omega
  have hn2 : ¬ os.length = 0 := by omega
  clear h hcs hw1 hask hci hi hoo hne
  go_enter Tryz.func48, Tryz.ntmps48
  go_wp2
  rw [← HB1.out]
  go_region_held3 (fun W => AskAt N K x pw pv (.slice (some ⟨g, 0, none⟩) os.length cap) os w.heap.size cs w W) (with_reducible (first | assumption | (rw [AskAt_drew]; assumption)))
    ((first | (go_at_call 72; refine Calls.mono (C0.out _) ?_; rintro e w2 ⟨rfl, hw2⟩; subst hw2)))
  rename_i hHeld
  obtain ⟨w2, hw2⟩ : ∃ w2, w2 = w1.drew := ⟨_, rfl⟩
  rw [← hw2] at hHeld ⊢
  obtain ⟨hask, hcs, hci, h⟩ := HH.out
  have u1 : w2.cell? ⟨x, 1, none⟩ = some (.slice (some ⟨g, 0, none⟩) os.length cap) := hHeld.x1
  have u2 : w2.cell? ⟨g, i, none⟩ = some (.pointer (some ⟨o.q, 0, none⟩)) := (hHeld.below.cell (p := ⟨g, i, none⟩) hg).trans hci
  have u3 : w2.cell? ⟨w.heap.size, 0, none⟩ = some (.int .i64 4) := (hHeld.bc 0).trans (by rw [hcs]; rfl)
  have d1 : w2.cell? ⟨w.heap.size, 1, none⟩ = some (.int .i64 a) := (hHeld.bc 1).trans (by rw [hcs]; rfl)
  have d2 : w2.cell? ⟨w.heap.size, 2, none⟩ = some (.int .i64 b) := (hHeld.bc 2).trans (by rw [hcs]; rfl)
  have d3 : w2.cell? ⟨w.heap.size, 3, none⟩ = some (.int .i64 c) := (hHeld.bc 3).trans (by rw [hcs]; rfl)
  have d4 : w2.cell? ⟨w.heap.size, 4, none⟩ = some (.string s) := (hHeld.bc 4).trans (by rw [hcs]; rfl)
  have d5 : w2.cell? ⟨w.heap.size, 5, none⟩ = some (.string t) := (hHeld.bc 5).trans (by rw [hcs]; rfl)
  have d6 : w2.cell? ⟨w.heap.size, 6, none⟩ = some (.string u) := (hHeld.bc 6).trans (by rw [hcs]; rfl)
  have hii : (i : Int) < (os.length : Int) := by omega
  have HC := Lib.hid (hask w2 i o hHeld.law ho hHeld.below)
  have HHe := Lib.hid (And.intro hHeld.below h)
  clear hask hcs hci h HH HB1 C0 y1 yb hA1 hx1 hw2 hHeld
  go_wp2_with (go_at_call 49; go_must (refine HC.out.mono ?_); rintro e w5 ⟨rfl, hb5⟩; have HB5 := Lib.hid hb5; clear hb5)
  go_ret
  have hb : Below w.heap.size w w5 := HHe.out.1.trans (HB5.out.mono HHe.out.1.size)
  exact ⟨rfl, pv, _, os, (HHe.out.2.more (Nat.le_succ K)).below hb, by omega, Keep.of_below' hb⟩

set_option maxHeartbeats 2000000 in
set_option maxRecDepth 100000 in
theorem step5_any (N K x pw : Nat) (pv qv : Value) (os : List One) (a b c : Int) (s t u : ByteArray) (w : World) (hK : K ≤ 90000) (hos : os.length ≤ K) (h : LawAt N K w x pw pv qv os) (hne : 0 < os.length) (ha : I64 a)
    (hask : ∀ W i o, LawAt N K W x pw pv qv os → Who os i o → Below w.heap.size w W → Calls Tryz.prog 49 #[.pointer (some ⟨x, 0, none⟩), .agg #[.int .i64 5, .int .i64 a, .int .i64 b, .int .i64 c, .string s, .string t, .string u], .int .i64 i] W fun e w' => e = .returned (.bool true) ∧ Below W.heap.size W w') :
    Calls Tryz.prog 48 #[.pointer (some ⟨x, 0, none⟩), .agg #[.int .i64 5, .int .i64 a, .int .i64 b, .int .i64 c, .string s, .string t, .string u]] w (Stepped' N (K + 1) x pw w) := by
  obtain ⟨i, hi⟩ : ∃ i, i = pickZ a os.length := ⟨_, rfl⟩
  have hlt : i < os.length := hi ▸ pickZ_lt hne
  obtain ⟨o, hoo⟩ : ∃ o, o = os[i] := ⟨_, rfl⟩
  have ho : Who os i o := ⟨hlt, by rw [hoo]; exact List.getElem?_eq_getElem hlt⟩
  obtain ⟨g, cap, hqv, hg, hci⟩ := h.cell hlt
  rw [← hoo] at hci
  subst hqv
  obtain ⟨cs, hcs⟩ : ∃ cs : Array Value, cs = #[.int .i64 5, .int .i64 a, .int .i64 b, .int .i64 c, .string s, .string t, .string u] := ⟨_, rfl⟩
  have C0 : Hid (∀ W, Calls Tryz.prog 72 #[.int .i64 a, .int .i64 os.length] W fun e W' => e = .returned (.int .i64 i) ∧ W' = W) :=
    Lib.hid fun W => by
      have hos2 : os.length ≤ 1000000 := by omega
      have := pickL_any a os.length W hne hos2 ha
      rw [← hi] at this
      exact this
  have y1 : ∀ W, AskAt N K x pw pv (.slice (some ⟨g, 0, none⟩) os.length cap) os w.heap.size cs w W → W.cell? ⟨x, 1, none⟩ = some (.slice (some ⟨g, 0, none⟩) os.length cap) := fun W hW => hW.x1
  have yb : ∀ W, AskAt N K x pw pv (.slice (some ⟨g, 0, none⟩) os.length cap) os w.heap.size cs w W → W.cell? ⟨w.heap.size, 1, none⟩ = some (.int .i64 a) := fun W hW => (hW.bc 1).trans (by rw [hcs]; rfl)
  have hx1 : w.cell? ⟨x, 1, none⟩ = some (.slice (some ⟨g, 0, none⟩) os.length cap) := Joins.cell_of_block h.box 1
  have hxl := h.xlt
  obtain ⟨w1, hw1⟩ : ∃ w1, w1 = w.alloc (.cells cs 102) := ⟨_, rfl⟩
  have hA1 : AskAt N K x pw pv (.slice (some ⟨g, 0, none⟩) os.length cap) os w.heap.size cs w w1 := hw1 ▸ AskAt.new h cs
  rw [hcs] at hw1
  have HB1 := Lib.hid hw1
  have HH := Lib.hid (And.intro hask (And.intro hcs (And.intro hci h)))
  have hn0 : (((os.length : Int)) == 0) = false := beq_eq_false_iff_ne.2 (by omega)
  have hn1 : ¬ (os.length : Int) = 0 := by omega
  have hn2 : ¬ os.length = 0 := by omega
  clear h hcs hw1 hask hci hi hoo hne
  go_enter Tryz.func48, Tryz.ntmps48
  go_wp2
  rw [← HB1.out]
  go_region_held3 (fun W => AskAt N K x pw pv (.slice (some ⟨g, 0, none⟩) os.length cap) os w.heap.size cs w W) (with_reducible (first | assumption | (rw [AskAt_drew]; assumption)))
    ((first | (go_at_call 72; refine Calls.mono (C0.out _) ?_; rintro e w2 ⟨rfl, hw2⟩; subst hw2)))
  rename_i hHeld
  obtain ⟨w2, hw2⟩ : ∃ w2, w2 = w1.drew := ⟨_, rfl⟩
  rw [← hw2] at hHeld ⊢
  obtain ⟨hask, hcs, hci, h⟩ := HH.out
  have u1 : w2.cell? ⟨x, 1, none⟩ = some (.slice (some ⟨g, 0, none⟩) os.length cap) := hHeld.x1
  have u2 : w2.cell? ⟨g, i, none⟩ = some (.pointer (some ⟨o.q, 0, none⟩)) := (hHeld.below.cell (p := ⟨g, i, none⟩) hg).trans hci
  have u3 : w2.cell? ⟨w.heap.size, 0, none⟩ = some (.int .i64 5) := (hHeld.bc 0).trans (by rw [hcs]; rfl)
  have d1 : w2.cell? ⟨w.heap.size, 1, none⟩ = some (.int .i64 a) := (hHeld.bc 1).trans (by rw [hcs]; rfl)
  have d2 : w2.cell? ⟨w.heap.size, 2, none⟩ = some (.int .i64 b) := (hHeld.bc 2).trans (by rw [hcs]; rfl)
  have d3 : w2.cell? ⟨w.heap.size, 3, none⟩ = some (.int .i64 c) := (hHeld.bc 3).trans (by rw [hcs]; rfl)
  have d4 : w2.cell? ⟨w.heap.size, 4, none⟩ = some (.string s) := (hHeld.bc 4).trans (by rw [hcs]; rfl)
  have d5 : w2.cell? ⟨w.heap.size, 5, none⟩ = some (.string t) := (hHeld.bc 5).trans (by rw [hcs]; rfl)
  have d6 : w2.cell? ⟨w.heap.size, 6, none⟩ = some (.string u) := (hHeld.bc 6).trans (by rw [hcs]; rfl)
  have hii : (i : Int) < (os.length : Int) := by omega
  have HC := Lib.hid (hask w2 i o hHeld.law ho hHeld.below)
  have HHe := Lib.hid (And.intro hHeld.below h)
  clear hask hcs hci h HH HB1 C0 y1 yb hA1 hx1 hw2 hHeld
  go_wp2_with (go_at_call 49; go_must (refine HC.out.mono ?_); rintro e w5 ⟨rfl, hb5⟩; have HB5 := Lib.hid hb5; clear hb5)
  go_ret
  have hb : Below w.heap.size w w5 := HHe.out.1.trans (HB5.out.mono HHe.out.1.size)
  exact ⟨rfl, pv, _, os, (HHe.out.2.more (Nat.le_succ K)).below hb, by omega, Keep.of_below' hb⟩

set_option maxHeartbeats 2000000 in
set_option maxRecDepth 100000 in
theorem step6_any (N K x pw : Nat) (pv qv : Value) (os : List One) (a b c : Int) (s t u : ByteArray) (w : World) (hK : K ≤ 90000) (hos : os.length ≤ K) (h : LawAt N K w x pw pv qv os) (hne : 0 < os.length) (ha : I64 a)
    (hask : ∀ W i o, LawAt N K W x pw pv qv os → Who os i o → Below w.heap.size w W → Calls Tryz.prog 49 #[.pointer (some ⟨x, 0, none⟩), .agg #[.int .i64 6, .int .i64 a, .int .i64 b, .int .i64 c, .string s, .string t, .string u], .int .i64 i] W fun e w' => e = .returned (.bool true) ∧ Below W.heap.size W w') :
    Calls Tryz.prog 48 #[.pointer (some ⟨x, 0, none⟩), .agg #[.int .i64 6, .int .i64 a, .int .i64 b, .int .i64 c, .string s, .string t, .string u]] w (Stepped' N (K + 1) x pw w) := by
  obtain ⟨i, hi⟩ : ∃ i, i = pickZ a os.length := ⟨_, rfl⟩
  have hlt : i < os.length := hi ▸ pickZ_lt hne
  obtain ⟨o, hoo⟩ : ∃ o, o = os[i] := ⟨_, rfl⟩
  have ho : Who os i o := ⟨hlt, by rw [hoo]; exact List.getElem?_eq_getElem hlt⟩
  obtain ⟨g, cap, hqv, hg, hci⟩ := h.cell hlt
  rw [← hoo] at hci
  subst hqv
  obtain ⟨cs, hcs⟩ : ∃ cs : Array Value, cs = #[.int .i64 6, .int .i64 a, .int .i64 b, .int .i64 c, .string s, .string t, .string u] := ⟨_, rfl⟩
  have C0 : Hid (∀ W, Calls Tryz.prog 72 #[.int .i64 a, .int .i64 os.length] W fun e W' => e = .returned (.int .i64 i) ∧ W' = W) :=
    Lib.hid fun W => by
      have hos2 : os.length ≤ 1000000 := by omega
      have := pickL_any a os.length W hne hos2 ha
      rw [← hi] at this
      exact this
  have y1 : ∀ W, AskAt N K x pw pv (.slice (some ⟨g, 0, none⟩) os.length cap) os w.heap.size cs w W → W.cell? ⟨x, 1, none⟩ = some (.slice (some ⟨g, 0, none⟩) os.length cap) := fun W hW => hW.x1
  have yb : ∀ W, AskAt N K x pw pv (.slice (some ⟨g, 0, none⟩) os.length cap) os w.heap.size cs w W → W.cell? ⟨w.heap.size, 1, none⟩ = some (.int .i64 a) := fun W hW => (hW.bc 1).trans (by rw [hcs]; rfl)
  have hx1 : w.cell? ⟨x, 1, none⟩ = some (.slice (some ⟨g, 0, none⟩) os.length cap) := Joins.cell_of_block h.box 1
  have hxl := h.xlt
  obtain ⟨w1, hw1⟩ : ∃ w1, w1 = w.alloc (.cells cs 102) := ⟨_, rfl⟩
  have hA1 : AskAt N K x pw pv (.slice (some ⟨g, 0, none⟩) os.length cap) os w.heap.size cs w w1 := hw1 ▸ AskAt.new h cs
  rw [hcs] at hw1
  have HB1 := Lib.hid hw1
  have HH := Lib.hid (And.intro hask (And.intro hcs (And.intro hci h)))
  have hn0 : (((os.length : Int)) == 0) = false := beq_eq_false_iff_ne.2 (by omega)
  have hn1 : ¬ (os.length : Int) = 0 := by omega
  have hn2 : ¬ os.length = 0 := by omega
  clear h hcs hw1 hask hci hi hoo hne
  go_enter Tryz.func48, Tryz.ntmps48
  go_wp2
  rw [← HB1.out]
  go_region_held3 (fun W => AskAt N K x pw pv (.slice (some ⟨g, 0, none⟩) os.length cap) os w.heap.size cs w W) (with_reducible (first | assumption | (rw [AskAt_drew]; assumption)))
    ((first | (go_at_call 72; refine Calls.mono (C0.out _) ?_; rintro e w2 ⟨rfl, hw2⟩; subst hw2)))
  rename_i hHeld
  obtain ⟨w2, hw2⟩ : ∃ w2, w2 = w1.drew := ⟨_, rfl⟩
  rw [← hw2] at hHeld ⊢
  obtain ⟨hask, hcs, hci, h⟩ := HH.out
  have u1 : w2.cell? ⟨x, 1, none⟩ = some (.slice (some ⟨g, 0, none⟩) os.length cap) := hHeld.x1
  have u2 : w2.cell? ⟨g, i, none⟩ = some (.pointer (some ⟨o.q, 0, none⟩)) := (hHeld.below.cell (p := ⟨g, i, none⟩) hg).trans hci
  have u3 : w2.cell? ⟨w.heap.size, 0, none⟩ = some (.int .i64 6) := (hHeld.bc 0).trans (by rw [hcs]; rfl)
  have d1 : w2.cell? ⟨w.heap.size, 1, none⟩ = some (.int .i64 a) := (hHeld.bc 1).trans (by rw [hcs]; rfl)
  have d2 : w2.cell? ⟨w.heap.size, 2, none⟩ = some (.int .i64 b) := (hHeld.bc 2).trans (by rw [hcs]; rfl)
  have d3 : w2.cell? ⟨w.heap.size, 3, none⟩ = some (.int .i64 c) := (hHeld.bc 3).trans (by rw [hcs]; rfl)
  have d4 : w2.cell? ⟨w.heap.size, 4, none⟩ = some (.string s) := (hHeld.bc 4).trans (by rw [hcs]; rfl)
  have d5 : w2.cell? ⟨w.heap.size, 5, none⟩ = some (.string t) := (hHeld.bc 5).trans (by rw [hcs]; rfl)
  have d6 : w2.cell? ⟨w.heap.size, 6, none⟩ = some (.string u) := (hHeld.bc 6).trans (by rw [hcs]; rfl)
  have hii : (i : Int) < (os.length : Int) := by omega
  have HC := Lib.hid (hask w2 i o hHeld.law ho hHeld.below)
  have HHe := Lib.hid (And.intro hHeld.below h)
  clear hask hcs hci h HH HB1 C0 y1 yb hA1 hx1 hw2 hHeld
  go_wp2_with (go_at_call 49; go_must (refine HC.out.mono ?_); rintro e w5 ⟨rfl, hb5⟩; have HB5 := Lib.hid hb5; clear hb5)
  go_ret
  have hb : Below w.heap.size w w5 := HHe.out.1.trans (HB5.out.mono HHe.out.1.size)
  exact ⟨rfl, pv, _, os, (HHe.out.2.more (Nat.le_succ K)).below hb, by omega, Keep.of_below' hb⟩

set_option maxHeartbeats 2000000 in
set_option maxRecDepth 100000 in
theorem step7_any (N K x pw : Nat) (pv qv : Value) (os : List One) (a b c : Int) (s t u : ByteArray) (w : World) (hK : K ≤ 90000) (hos : os.length ≤ K) (h : LawAt N K w x pw pv qv os) (hne : 0 < os.length) (ha : I64 a)
    (hask : ∀ W i o, LawAt N K W x pw pv qv os → Who os i o → Below w.heap.size w W → Calls Tryz.prog 49 #[.pointer (some ⟨x, 0, none⟩), .agg #[.int .i64 7, .int .i64 a, .int .i64 b, .int .i64 c, .string s, .string t, .string u], .int .i64 i] W fun e w' => e = .returned (.bool true) ∧ Below W.heap.size W w') :
    Calls Tryz.prog 48 #[.pointer (some ⟨x, 0, none⟩), .agg #[.int .i64 7, .int .i64 a, .int .i64 b, .int .i64 c, .string s, .string t, .string u]] w (Stepped' N (K + 1) x pw w) := by
  obtain ⟨i, hi⟩ : ∃ i, i = pickZ a os.length := ⟨_, rfl⟩
  have hlt : i < os.length := hi ▸ pickZ_lt hne
  obtain ⟨o, hoo⟩ : ∃ o, o = os[i] := ⟨_, rfl⟩
  have ho : Who os i o := ⟨hlt, by rw [hoo]; exact List.getElem?_eq_getElem hlt⟩
  obtain ⟨g, cap, hqv, hg, hci⟩ := h.cell hlt
  rw [← hoo] at hci
  subst hqv
  obtain ⟨cs, hcs⟩ : ∃ cs : Array Value, cs = #[.int .i64 7, .int .i64 a, .int .i64 b, .int .i64 c, .string s, .string t, .string u] := ⟨_, rfl⟩
  have C0 : Hid (∀ W, Calls Tryz.prog 72 #[.int .i64 a, .int .i64 os.length] W fun e W' => e = .returned (.int .i64 i) ∧ W' = W) :=
    Lib.hid fun W => by
      have hos2 : os.length ≤ 1000000 := by omega
      have := pickL_any a os.length W hne hos2 ha
      rw [← hi] at this
      exact this
  have y1 : ∀ W, AskAt N K x pw pv (.slice (some ⟨g, 0, none⟩) os.length cap) os w.heap.size cs w W → W.cell? ⟨x, 1, none⟩ = some (.slice (some ⟨g, 0, none⟩) os.length cap) := fun W hW => hW.x1
  have yb : ∀ W, AskAt N K x pw pv (.slice (some ⟨g, 0, none⟩) os.length cap) os w.heap.size cs w W → W.cell? ⟨w.heap.size, 1, none⟩ = some (.int .i64 a) := fun W hW => (hW.bc 1).trans (by rw [hcs]; rfl)
  have hx1 : w.cell? ⟨x, 1, none⟩ = some (.slice (some ⟨g, 0, none⟩) os.length cap) := Joins.cell_of_block h.box 1
  have hxl := h.xlt
  obtain ⟨w1, hw1⟩ : ∃ w1, w1 = w.alloc (.cells cs 102) := ⟨_, rfl⟩
  have hA1 : AskAt N K x pw pv (.slice (some ⟨g, 0, none⟩) os.length cap) os w.heap.size cs w w1 := hw1 ▸ AskAt.new h cs
  rw [hcs] at hw1
  have HB1 := Lib.hid hw1
  have HH := Lib.hid (And.intro hask (And.intro hcs (And.intro hci h)))
  have hn0 : (((os.length : Int)) == 0) = false := beq_eq_false_iff_ne.2 (by omega)
  have hn1 : ¬ (os.length : Int) = 0 := by omega
  have hn2 : ¬ os.length = 0 := by omega
  clear h hcs hw1 hask hci hi hoo hne
  go_enter Tryz.func48, Tryz.ntmps48
  go_wp2
  rw [← HB1.out]
  go_region_held3 (fun W => AskAt N K x pw pv (.slice (some ⟨g, 0, none⟩) os.length cap) os w.heap.size cs w W) (with_reducible (first | assumption | (rw [AskAt_drew]; assumption)))
    ((first | (go_at_call 72; refine Calls.mono (C0.out _) ?_; rintro e w2 ⟨rfl, hw2⟩; subst hw2)))
  rename_i hHeld
  obtain ⟨w2, hw2⟩ : ∃ w2, w2 = w1.drew := ⟨_, rfl⟩
  rw [← hw2] at hHeld ⊢
  obtain ⟨hask, hcs, hci, h⟩ := HH.out
  have u1 : w2.cell? ⟨x, 1, none⟩ = some (.slice (some ⟨g, 0, none⟩) os.length cap) := hHeld.x1
  have u2 : w2.cell? ⟨g, i, none⟩ = some (.pointer (some ⟨o.q, 0, none⟩)) := (hHeld.below.cell (p := ⟨g, i, none⟩) hg).trans hci
  have u3 : w2.cell? ⟨w.heap.size, 0, none⟩ = some (.int .i64 7) := (hHeld.bc 0).trans (by rw [hcs]; rfl)
  have d1 : w2.cell? ⟨w.heap.size, 1, none⟩ = some (.int .i64 a) := (hHeld.bc 1).trans (by rw [hcs]; rfl)
  have d2 : w2.cell? ⟨w.heap.size, 2, none⟩ = some (.int .i64 b) := (hHeld.bc 2).trans (by rw [hcs]; rfl)
  have d3 : w2.cell? ⟨w.heap.size, 3, none⟩ = some (.int .i64 c) := (hHeld.bc 3).trans (by rw [hcs]; rfl)
  have d4 : w2.cell? ⟨w.heap.size, 4, none⟩ = some (.string s) := (hHeld.bc 4).trans (by rw [hcs]; rfl)
  have d5 : w2.cell? ⟨w.heap.size, 5, none⟩ = some (.string t) := (hHeld.bc 5).trans (by rw [hcs]; rfl)
  have d6 : w2.cell? ⟨w.heap.size, 6, none⟩ = some (.string u) := (hHeld.bc 6).trans (by rw [hcs]; rfl)
  have hii : (i : Int) < (os.length : Int) := by omega
  have HC := Lib.hid (hask w2 i o hHeld.law ho hHeld.below)
  have HHe := Lib.hid (And.intro hHeld.below h)
  clear hask hcs hci h HH HB1 C0 y1 yb hA1 hx1 hw2 hHeld
  go_wp2_with (go_at_call 49; go_must (refine HC.out.mono ?_); rintro e w5 ⟨rfl, hb5⟩; have HB5 := Lib.hid hb5; clear hb5)
  go_ret
  have hb : Below w.heap.size w w5 := HHe.out.1.trans (HB5.out.mono HHe.out.1.size)
  exact ⟨rfl, pv, _, os, (HHe.out.2.more (Nat.le_succ K)).below hb, by omega, Keep.of_below' hb⟩
end Go.Proofs.YtpdbmpbmepkikaaGreatDoor

set_option linter.unusedSimpArgs false
set_option linter.unusedVariables false
namespace Go.Proofs.YtpdbmpbmepkikaaGreatDoor
open Go.RowKit

set_option maxHeartbeats 2000000 in
set_option maxRecDepth 100000 in
theorem step9_any (N K x pw : Nat) (pv qv : Value) (os : List One) (a b c : Int) (s t u : ByteArray) (w : World) (hK : K ≤ 90000) (hos : os.length ≤ K) (h : LawAt N K w x pw pv qv os) (hne : 0 < os.length) (ha : I64 a)
    (hask : ∀ W i o, LawAt N K W x pw pv qv os → Who os i o → Below w.heap.size w W → Calls Tryz.prog 76 #[.pointer (some ⟨x, 0, none⟩), .agg #[.int .i64 9, .int .i64 a, .int .i64 b, .int .i64 c, .string s, .string t, .string u], .int .i64 i] W (Stepped' N (K + 1) x pw W)) :
    Calls Tryz.prog 48 #[.pointer (some ⟨x, 0, none⟩), .agg #[.int .i64 9, .int .i64 a, .int .i64 b, .int .i64 c, .string s, .string t, .string u]] w (Stepped' N (K + 1) x pw w) := by
  obtain ⟨i, hi⟩ : ∃ i, i = pickZ a os.length := ⟨_, rfl⟩
  have hlt : i < os.length := hi ▸ pickZ_lt hne
  obtain ⟨o, hoo⟩ : ∃ o, o = os[i] := ⟨_, rfl⟩
  have ho : Who os i o := ⟨hlt, by rw [hoo]; exact List.getElem?_eq_getElem hlt⟩
  obtain ⟨g, cap, hqv, hg, hci⟩ := h.cell hlt
  rw [← hoo] at hci
  subst hqv
  obtain ⟨cs, hcs⟩ : ∃ cs : Array Value, cs = #[.int .i64 9, .int .i64 a, .int .i64 b, .int .i64 c, .string s, .string t, .string u] := ⟨_, rfl⟩
  have C0 : Hid (∀ W, Calls Tryz.prog 72 #[.int .i64 a, .int .i64 os.length] W fun e W' => e = .returned (.int .i64 i) ∧ W' = W) :=
    Lib.hid fun W => by
      have hos2 : os.length ≤ 1000000 := by omega
      have := pickL_any a os.length W hne hos2 ha
      rw [← hi] at this
      exact this
  have y1 : ∀ W, AskAt N K x pw pv (.slice (some ⟨g, 0, none⟩) os.length cap) os w.heap.size cs w W → W.cell? ⟨x, 1, none⟩ = some (.slice (some ⟨g, 0, none⟩) os.length cap) := fun W hW => hW.x1
  have yb : ∀ W, AskAt N K x pw pv (.slice (some ⟨g, 0, none⟩) os.length cap) os w.heap.size cs w W → W.cell? ⟨w.heap.size, 1, none⟩ = some (.int .i64 a) := fun W hW => (hW.bc 1).trans (by rw [hcs]; rfl)
  have hx1 : w.cell? ⟨x, 1, none⟩ = some (.slice (some ⟨g, 0, none⟩) os.length cap) := Joins.cell_of_block h.box 1
  have hxl := h.xlt
  obtain ⟨w1, hw1⟩ : ∃ w1, w1 = w.alloc (.cells cs 102) := ⟨_, rfl⟩
  have hA1 : AskAt N K x pw pv (.slice (some ⟨g, 0, none⟩) os.length cap) os w.heap.size cs w w1 := hw1 ▸ AskAt.new h cs
  rw [hcs] at hw1
  have HB1 := Lib.hid hw1
  have HH := Lib.hid (And.intro hask (And.intro hcs (And.intro hci h)))
  have hn0 : (((os.length : Int)) == 0) = false := beq_eq_false_iff_ne.2 (by omega)
  have hn1 : ¬ (os.length : Int) = 0 := by omega
  have hn2 : ¬ os.length = 0 := by omega
  clear h hcs hw1 hask hci hi hoo hne
  go_enter Tryz.func48, Tryz.ntmps48
  go_wp2
  rw [← HB1.out]
  go_region_held3 (fun W => AskAt N K x pw pv (.slice (some ⟨g, 0, none⟩) os.length cap) os w.heap.size cs w W) (with_reducible (first | assumption | (rw [AskAt_drew]; assumption)))
    ((first | (go_at_call 72; refine Calls.mono (C0.out _) ?_; rintro e w2 ⟨rfl, hw2⟩; subst hw2)))
  rename_i hHeld
  obtain ⟨w2, hw2⟩ : ∃ w2, w2 = w1.drew := ⟨_, rfl⟩
  rw [← hw2] at hHeld ⊢
  obtain ⟨hask, hcs, hci, h⟩ := HH.out
  have u1 : w2.cell? ⟨x, 1, none⟩ = some (.slice (some ⟨g, 0, none⟩) os.length cap) := hHeld.x1
  have u2 : w2.cell? ⟨g, i, none⟩ = some (.pointer (some ⟨o.q, 0, none⟩)) := (hHeld.below.cell (p := ⟨g, i, none⟩) hg).trans hci
  have u3 : w2.cell? ⟨w.heap.size, 0, none⟩ = some (.int .i64 9) := (hHeld.bc 0).trans (by rw [hcs]; rfl)
  have d1 : w2.cell? ⟨w.heap.size, 1, none⟩ = some (.int .i64 a) := (hHeld.bc 1).trans (by rw [hcs]; rfl)
  have d2 : w2.cell? ⟨w.heap.size, 2, none⟩ = some (.int .i64 b) := (hHeld.bc 2).trans (by rw [hcs]; rfl)
  have d3 : w2.cell? ⟨w.heap.size, 3, none⟩ = some (.int .i64 c) := (hHeld.bc 3).trans (by rw [hcs]; rfl)
  have d4 : w2.cell? ⟨w.heap.size, 4, none⟩ = some (.string s) := (hHeld.bc 4).trans (by rw [hcs]; rfl)
  have d5 : w2.cell? ⟨w.heap.size, 5, none⟩ = some (.string t) := (hHeld.bc 5).trans (by rw [hcs]; rfl)
  have d6 : w2.cell? ⟨w.heap.size, 6, none⟩ = some (.string u) := (hHeld.bc 6).trans (by rw [hcs]; rfl)
  have hii : (i : Int) < (os.length : Int) := by omega
  have HC := Lib.hid (hask w2 i o hHeld.law ho hHeld.below)
  have HHe := Lib.hid (And.intro hHeld.below h)
  clear hask hcs hci h HH HB1 C0 y1 yb hA1 hx1 hw2 hHeld
  go_wp2_with (go_at_call 76; go_must (refine HC.out.mono ?_); rintro e w5 ⟨rfl, hb5⟩; have HB5 := Lib.hid hb5; clear hb5)
  go_ret
  obtain ⟨pv', qv', os', h1, h2, h3⟩ := HB5.out
  exact ⟨rfl, pv', qv', os', h1, h2, (Keep.of_below' (F := fun b => N ≤ b) HHe.out.1).trans h3⟩

set_option maxHeartbeats 2000000 in
set_option maxRecDepth 100000 in
theorem step10_any (N K x pw : Nat) (pv qv : Value) (os : List One) (a b c : Int) (s t u : ByteArray) (w : World) (hK : K ≤ 90000) (hos : os.length ≤ K) (h : LawAt N K w x pw pv qv os) (hne : 0 < os.length) (ha : I64 a)
    (hask : ∀ W i o, LawAt N K W x pw pv qv os → Who os i o → Below w.heap.size w W → Calls Tryz.prog 76 #[.pointer (some ⟨x, 0, none⟩), .agg #[.int .i64 10, .int .i64 a, .int .i64 b, .int .i64 c, .string s, .string t, .string u], .int .i64 i] W (Stepped' N (K + 1) x pw W)) :
    Calls Tryz.prog 48 #[.pointer (some ⟨x, 0, none⟩), .agg #[.int .i64 10, .int .i64 a, .int .i64 b, .int .i64 c, .string s, .string t, .string u]] w (Stepped' N (K + 1) x pw w) := by
  obtain ⟨i, hi⟩ : ∃ i, i = pickZ a os.length := ⟨_, rfl⟩
  have hlt : i < os.length := hi ▸ pickZ_lt hne
  obtain ⟨o, hoo⟩ : ∃ o, o = os[i] := ⟨_, rfl⟩
  have ho : Who os i o := ⟨hlt, by rw [hoo]; exact List.getElem?_eq_getElem hlt⟩
  obtain ⟨g, cap, hqv, hg, hci⟩ := h.cell hlt
  rw [← hoo] at hci
  subst hqv
  obtain ⟨cs, hcs⟩ : ∃ cs : Array Value, cs = #[.int .i64 10, .int .i64 a, .int .i64 b, .int .i64 c, .string s, .string t, .string u] := ⟨_, rfl⟩
  have C0 : Hid (∀ W, Calls Tryz.prog 72 #[.int .i64 a, .int .i64 os.length] W fun e W' => e = .returned (.int .i64 i) ∧ W' = W) :=
    Lib.hid fun W => by
      have hos2 : os.length ≤ 1000000 := by omega
      have := pickL_any a os.length W hne hos2 ha
      rw [← hi] at this
      exact this
  have y1 : ∀ W, AskAt N K x pw pv (.slice (some ⟨g, 0, none⟩) os.length cap) os w.heap.size cs w W → W.cell? ⟨x, 1, none⟩ = some (.slice (some ⟨g, 0, none⟩) os.length cap) := fun W hW => hW.x1
  have yb : ∀ W, AskAt N K x pw pv (.slice (some ⟨g, 0, none⟩) os.length cap) os w.heap.size cs w W → W.cell? ⟨w.heap.size, 1, none⟩ = some (.int .i64 a) := fun W hW => (hW.bc 1).trans (by rw [hcs]; rfl)
  have hx1 : w.cell? ⟨x, 1, none⟩ = some (.slice (some ⟨g, 0, none⟩) os.length cap) := Joins.cell_of_block h.box 1
  have hxl := h.xlt
  obtain ⟨w1, hw1⟩ : ∃ w1, w1 = w.alloc (.cells cs 102) := ⟨_, rfl⟩
  have hA1 : AskAt N K x pw pv (.slice (some ⟨g, 0, none⟩) os.length cap) os w.heap.size cs w w1 := hw1 ▸ AskAt.new h cs
  rw [hcs] at hw1
  have HB1 := Lib.hid hw1
  have HH := Lib.hid (And.intro hask (And.intro hcs (And.intro hci h)))
  have hn0 : (((os.length : Int)) == 0) = false := beq_eq_false_iff_ne.2 (by omega)
  have hn1 : ¬ (os.length : Int) = 0 := by omega
  have hn2 : ¬ os.length = 0 := by omega
  clear h hcs hw1 hask hci hi hoo hne
  go_enter Tryz.func48, Tryz.ntmps48
  go_wp2
  rw [← HB1.out]
  go_region_held3 (fun W => AskAt N K x pw pv (.slice (some ⟨g, 0, none⟩) os.length cap) os w.heap.size cs w W) (with_reducible (first | assumption | (rw [AskAt_drew]; assumption)))
    ((first | (go_at_call 72; refine Calls.mono (C0.out _) ?_; rintro e w2 ⟨rfl, hw2⟩; subst hw2)))
  rename_i hHeld
  obtain ⟨w2, hw2⟩ : ∃ w2, w2 = w1.drew := ⟨_, rfl⟩
  rw [← hw2] at hHeld ⊢
  obtain ⟨hask, hcs, hci, h⟩ := HH.out
  have u1 : w2.cell? ⟨x, 1, none⟩ = some (.slice (some ⟨g, 0, none⟩) os.length cap) := hHeld.x1
  have u2 : w2.cell? ⟨g, i, none⟩ = some (.pointer (some ⟨o.q, 0, none⟩)) := (hHeld.below.cell (p := ⟨g, i, none⟩) hg).trans hci
  have u3 : w2.cell? ⟨w.heap.size, 0, none⟩ = some (.int .i64 10) := (hHeld.bc 0).trans (by rw [hcs]; rfl)
  have d1 : w2.cell? ⟨w.heap.size, 1, none⟩ = some (.int .i64 a) := (hHeld.bc 1).trans (by rw [hcs]; rfl)
  have d2 : w2.cell? ⟨w.heap.size, 2, none⟩ = some (.int .i64 b) := (hHeld.bc 2).trans (by rw [hcs]; rfl)
  have d3 : w2.cell? ⟨w.heap.size, 3, none⟩ = some (.int .i64 c) := (hHeld.bc 3).trans (by rw [hcs]; rfl)
  have d4 : w2.cell? ⟨w.heap.size, 4, none⟩ = some (.string s) := (hHeld.bc 4).trans (by rw [hcs]; rfl)
  have d5 : w2.cell? ⟨w.heap.size, 5, none⟩ = some (.string t) := (hHeld.bc 5).trans (by rw [hcs]; rfl)
  have d6 : w2.cell? ⟨w.heap.size, 6, none⟩ = some (.string u) := (hHeld.bc 6).trans (by rw [hcs]; rfl)
  have hii : (i : Int) < (os.length : Int) := by omega
  have HC := Lib.hid (hask w2 i o hHeld.law ho hHeld.below)
  have HHe := Lib.hid (And.intro hHeld.below h)
  clear hask hcs hci h HH HB1 C0 y1 yb hA1 hx1 hw2 hHeld
  go_wp2_with (go_at_call 76; go_must (refine HC.out.mono ?_); rintro e w5 ⟨rfl, hb5⟩; have HB5 := Lib.hid hb5; clear hb5)
  go_ret
  obtain ⟨pv', qv', os', h1, h2, h3⟩ := HB5.out
  exact ⟨rfl, pv', qv', os', h1, h2, (Keep.of_below' (F := fun b => N ≤ b) HHe.out.1).trans h3⟩
end Go.Proofs.YtpdbmpbmepkikaaGreatDoor

namespace Go.Proofs.YtpdbmpbmepkikaaGreatDoor
open Go.RowKit

/-- Is a step of this kind played? -/
def admits (ks : List Int) (k : Int) : Bool := k == 1 || k == 2 || k == 3 || ks.contains k
/-- What a step's contract is to say. -/
def StepsAt (l : List OpR) (ks : List Int) : Prop := ∀ (N K x pw : Nat) (pv qv : Value) (os : List One) (k a b c : Int) (s t u : ByteArray) (W : World), (⟨k, a, b, c, s, t, u⟩ : OpR) ∈ l → admits ks k = true → K ≤ 5000 → os.length ≤ K → LawAt N K W x pw pv qv os → EType W → Tab W → N ≤ W.heap.size → 3 < N → smallS l = true →
  Calls Tryz.prog 48 #[.pointer (some ⟨x, 0, none⟩), .agg #[.int .i64 k, .int .i64 a, .int .i64 b, .int .i64 c, .string s, .string t, .string u]] W (Stepped' N (K + 1) x pw W)

/-- At the head of the script's loop. -/
def PlayAt (N x pw j : Nat) (w W : World) : Prop := ∃ pv qv os, LawAt N j W x pw pv qv os ∧ os.length ≤ j ∧ Below N w W
theorem PlayAt.more {N x pw j : Nat} {w W : World} (h : PlayAt N x pw j w W) : PlayAt N x pw (j + 1) w W := by
  obtain ⟨pv, qv, os, h1, h2, h3⟩ := h
  exact ⟨pv, qv, os, h1.more (Nat.le_succ j), by omega, h3⟩
theorem PlayAt.drew {N x pw j : Nat} {w W : World} (h : PlayAt N x pw j w W) : PlayAt N x pw j w W.drew := by
  obtain ⟨pv, qv, os, h1, h2, h3⟩ := h
  exact ⟨pv, qv, os, h1.below ⟨rfl, rfl, rfl, Nat.le_refl _, fun _ _ => rfl⟩, h2, h3.drew⟩
theorem PlayAt.step {N x pw j : Nat} {w W W' : World} {e : Ending} (h : PlayAt N x pw j w W) (hs : Stepped' N (j + 1) x pw W e W') : e = .returned (.bool true) ∧ PlayAt N x pw (j + 1) w W' := by
  obtain ⟨pv, qv, os, h1, h2, h3⟩ := h
  obtain ⟨he, pv', qv', os', h4, h5, h6⟩ := hs
  exact ⟨he, pv', qv', os', h4, h5, ⟨h6.os.trans h3.os, h6.tape.trans h3.tape, h6.output.trans h3.output, Nat.le_trans h3.size h6.size, fun b hb => (h6.block b (by have := h1.xN; have := h1.xlt; omega) (by omega)).trans (h3.block b hb)⟩⟩
theorem PlayAt.start (w w1 : World) (hb : Below w.heap.size w w1) : PlayAt w.heap.size (w1.heap.size + 1) w1.heap.size 0 w ((w1.alloc (.cells #[.slice none 0 0] 74)).alloc (.cells #[.pointer (some ⟨w1.heap.size, 0, none⟩), .slice none 0 0] 100)) := by
  have hz := hb.size
  have hx : ((w1.alloc (.cells #[.slice none 0 0] 74)).alloc (.cells #[.pointer (some ⟨w1.heap.size, 0, none⟩), .slice none 0 0] 100)).heap[w1.heap.size + 1]? = some (.cells #[.pointer (some ⟨w1.heap.size, 0, none⟩), .slice none 0 0] 100 (0, 0)) := by
    have := World.alloc_heap_new (w1.alloc (.cells #[.slice none 0 0] 74)) (.cells #[.pointer (some ⟨w1.heap.size, 0, none⟩), .slice none 0 0] 100)
    rwa [World.size_alloc] at this
  have hp : ((w1.alloc (.cells #[.slice none 0 0] 74)).alloc (.cells #[.pointer (some ⟨w1.heap.size, 0, none⟩), .slice none 0 0] 100)).heap[w1.heap.size]? = some (.cells #[.slice none 0 0] 74 (0, 0)) := by
    rw [Below.heap_alloc _ _ _ (by simp)]; exact World.alloc_heap_new _ _
  refine ⟨.slice none 0 0, .slice none 0 0, [], ⟨hx, World.ownsRow_nil _ _ _ _, ⟨hp, World.ownsRow_nil _ _ _ _⟩, fun b hb => (by cases hb), by omega, hz, fun o ho => (by cases ho), .nil, .nil⟩, Nat.le_refl _, (hb.alloc hz _).alloc (by simp; omega) _⟩

theorem contains_take {ks : List Int} {j : Nat} (hj : j < ks.length) (k : Int) : (ks.take (j + 1)).contains k = ((ks.take j).contains k || decide (k = ks[j])) := by
  rw [List.take_add_one, List.getElem?_eq_getElem hj, Option.toList_some, List.contains_append]
  simp

set_option maxHeartbeats 4000000 in
set_option maxRecDepth 100000 in
theorem playsF_any (v : Value) (l : List OpR) (kg kcap : Nat) (ks : List Int) (w : World) (hS : ScriptAt w v l) (hl : l.length ≤ 140737488355328) (hz : ∀ x ∈ l, x.s.size ≤ 140737488355328 ∧ x.t.size ≤ 140737488355328 ∧ x.u.size ≤ 140737488355328)
    (hkg : kg < w.heap.size) (hks : ∀ j (hj : j < ks.length), w.cell? ⟨kg, j, none⟩ = some (.int .i64 ks[j])) (hkl : ks.length ≤ 100) (hT : EType w) (ht : Tab w) (hstep : StepsAt l ks) :
    Calls Tryz.prog 34 #[v, .slice (some ⟨kg, 0, none⟩) ks.length kcap, .bool false] w fun e w' => e = .returned (.bool true) ∧ Below w.heap.size w w' := by
  have HC := Lib.hid (smallL_any v l w hS hl hz)
  have h3 := ht.lt
  obtain ⟨sad, scap, hsv⟩ : ∃ sad scap, v = .slice sad l.length scap := by
    rcases hS with ⟨⟨ad, cap, rfl⟩, rfl⟩ | ⟨g, off, cap, rfl, _⟩
    · exact ⟨_, _, rfl⟩
    · exact ⟨_, _, rfl⟩
  subst hsv
  cases hsm : smallS l with
  | false =>
    rw [hsm] at HC
    clear hS hz hks hT ht hstep hsm
    go_enter Tryz.func34, Tryz.ntmps34
    go_wp2_with (go_at_call 35; go_must (refine HC.out.mono ?_); rintro e w1 ⟨rfl, hb1⟩; have HB1 := Lib.hid hb1; clear hb1)
    go_ret
    exact ⟨rfl, HB1.out⟩
  | true =>
    rw [hsm] at HC
    have hlen : l.length ≤ 4096 := by
      simp only [smallS, decide_eq_true_eq] at hsm
      omega
    have HS := Lib.hid (And.intro hS (And.intro hks (And.intro hT (And.intro ht (And.intro hstep hsm)))))
    clear hS hz hks hT ht hstep hsm
    go_enter Tryz.func34, Tryz.ntmps34
    go_wp2_with (go_at_call 35; go_must (refine HC.out.mono ?_); rintro e w1 ⟨rfl, hb1⟩; have HB1 := Lib.hid hb1; clear hb1)
    have hP0 := PlayAt.start w w1 HB1.out
    obtain ⟨w2, hw2⟩ : ∃ w2, w2 = (w1.alloc (.cells #[.slice none 0 0] 74)).alloc (.cells #[.pointer (some ⟨w1.heap.size, 0, none⟩), .slice none 0 0] 100) := ⟨_, rfl⟩
    rw [← hw2] at hP0 ⊢
    obtain ⟨pw, hpw⟩ : ∃ pw, pw = w1.heap.size := ⟨_, rfl⟩
    rw [← hpw] at hP0 ⊢
    clear hw2 hpw HC
    go_loopg [9] l.length (fun n s9 wr => ∃ j : Nat, s9 = .int .i64 j ∧ n + j = l.length ∧ PlayAt w.heap.size (pw + 1) pw j w wr)
    case atStart => exact ⟨0, rfl, by omega, hP0⟩
    case round =>
      obtain ⟨j, rfl, hn, hP⟩ := hrel
      by_cases hj : j < l.length
      · obtain ⟨hS, hks, hT, ht, hstep, hsm⟩ := HS.out
        obtain ⟨op, hop⟩ : ∃ op, op = l[j] := ⟨_, rfl⟩
        have hmem : op ∈ l := hop ▸ List.getElem_mem hj
        have hPB : Below w.heap.size w wr := by obtain ⟨_, _, _, _, _, h⟩ := hP; exact h
        rcases hS with ⟨hS1, hS2⟩ | ⟨g, off, cap, hS1, hg, hc⟩
        · rw [hS2] at hj; simp at hj
        simp only [Value.slice.injEq] at hS1
        obtain ⟨rfl, -, rfl⟩ := hS1
        have kc : ∀ i, i < 7 → ∀ u, op.cells[i]? = some u → wr.cell? ⟨g, off + j * 7 + i, none⟩ = some u := fun i hi u hu => (hPB.cell (p := ⟨g, off + j * 7 + i, none⟩) hg).trans (by rw [Nat.add_assoc]; exact hc _ _ (by rw [oprows_at hj i hi, ← hop]; exact hu))
        obtain ⟨k, a, b, c, s, t, u⟩ := op
        have e0 : wr.cell? ⟨g, off + j * 7, none⟩ = some (.int .i64 k) := kc 0 (by omega) _ rfl
        have e1 := kc 1 (by omega) _ rfl
        have e2 := kc 2 (by omega) _ rfl
        have e3 := kc 3 (by omega) _ rfl
        have e4 := kc 4 (by omega) _ rfl
        have e5 := kc 5 (by omega) _ rfl
        have e6 := kc 6 (by omega) _ rfl
        have hkc : ∀ i (hi : i < ks.length), wr.cell? ⟨kg, i, none⟩ = some (.int .i64 ks[i]) := fun i hi => (hPB.cell (p := ⟨kg, i, none⟩) hkg).trans (hks i hi)
        have hjj : (j : Int) < (l.length : Int) := by omega
        have HX := Lib.hid (And.intro hkc (And.intro hP (And.intro hstep (And.intro hsm (And.intro hmem (And.intro hT (And.intro ht hPB)))))))
        have hw1 : IntKind.i64.wrap ((j : Int) + 1) = (j : Int) + 1 := by rw [IntKind.wrap_i64]; omega
        clear hks hT ht hstep hsm hc hop hmem kc hkc hP hPB hP0
        have hnil : ∀ W, (binOp .eql 41 (.slice (some ⟨kg, 0, none⟩) ks.length kcap) (.slice none 0 0)).run Tryz.prog W = .ok (.bool false) W := fun W => by
          simpa using Lib.run_eql_slice_nil (P := Tryz.prog) W 41 3 (some ⟨kg, 0, none⟩) ks.length kcap 0 0 Tryz.underlying41
        obtain ⟨wo, rfl⟩ : ∃ wo : World, wo = wr := ⟨_, rfl⟩
        obtain ⟨gkO, rfl⟩ : ∃ z : Nat, z = gk := ⟨_, rfl⟩
        have hkk : ((k == 1) = true ∧ admits [] k = true) ∨ ((k == 1) = false ∧ (k == 2) = true ∧ admits [] k = true) ∨ ((k == 1) = false ∧ (k == 2) = false ∧ (k == 3) = true ∧ admits [] k = true) ∨ ((k == 1) = false ∧ (k == 2) = false ∧ (k == 3) = false ∧ admits [] k = false) := by
          cases h1 : (k == 1) <;> cases h2 : (k == 2) <;> cases h3 : (k == 3) <;> simp [admits, h1, h2, h3]
        rcases hkk with ⟨a1, hb⟩ | ⟨a1, a2, hb⟩ | ⟨a1, a2, a3, hb⟩ | ⟨a1, a2, a3, hb⟩
        all_goals
          have HB := Lib.hid hb
          clear hb
          go_wp2
          go_loopg [11, 12] ks.length (fun m s11 s12 wi => ∃ q : Nat, s12 = .int .i64 q ∧ m + q = ks.length ∧ s11 = .bool (admits (ks.take q) k) ∧ wi = wo)
          case atStart => exact ⟨0, rfl, by omega, by rw [List.take_zero, HB.out], rfl⟩
          case round =>
            obtain ⟨q, rfl, hm, rfl, rfl⟩ := hrel
            clear a1 HB
            by_cases hq : q < ks.length
            · have hqq : (q : Int) < (ks.length : Int) := by omega
              have ek := HX.out.1 q hq
              have hct := contains_take hq k
              have hw2 : IntKind.i64.wrap ((q : Int) + 1) = (q : Int) + 1 := by rw [IntKind.wrap_i64]; omega
              have hadm : admits (ks.take (q + 1)) k = (admits (ks.take q) k || decide (k = ks[q])) := by
                unfold admits; rw [hct]; cases k == 1 <;> cases k == 2 <;> cases k == 3 <;> simp
              obtain ⟨kq, hkq⟩ : ∃ kq, kq = ks[q] := ⟨_, rfl⟩
              rw [← hkq] at ek hadm
              have HA := Lib.hid hadm
              clear hct hadm hkq
              cases hbb : admits (ks.take q) k with
              | true =>
                rw [hbb] at HA
                go_wp2
                go_roundg (gk - 1)
                case rel => exact ⟨q + 1, by go_simp, by omega, by rw [HA.out]; simp, rfl⟩
                case measure => omega
              | false =>
                rw [hbb] at HA
                go_wp2
                go_roundg (gk - 1)
                case rel => exact ⟨q + 1, by go_simp, by omega, by rw [HA.out, Bool.false_or]; rfl, rfl⟩
                case measure => omega
            · have hqe : q = ks.length := by omega
              subst hqe
              rw [List.take_length]
              cases hbb : admits ks k with
              | false =>
                go_wp2
                go_roundg (gkO - 1)
                case rel => exact ⟨j + 1, by go_simp, by omega, HX.out.2.1.more⟩
                case measure => omega
              | true =>
                have HC : Hid (Calls Tryz.prog 48 #[.pointer (some ⟨pw + 1, 0, none⟩), .agg #[.int .i64 k, .int .i64 a, .int .i64 b, .int .i64 c, .string s, .string t, .string u]] wr fun e w' => e = .returned (.bool true) ∧ PlayAt w.heap.size (pw + 1) pw (j + 1) w w') := Lib.hid (by
                  obtain ⟨_, hP, hstep, hsm, hmem, hT, ht, hPB⟩ := HX.out
                  obtain ⟨pv, qv, os, h1, h2, h4⟩ := id hP
                  exact (hstep w.heap.size j (pw + 1) pw pv qv os k a b c s t u wr hmem hbb (by omega) h2 h1 (hT.below hPB (Nat.le_refl _)) (ht.below hPB (Nat.le_refl _)) hPB.size h3 hsm).mono fun e w' hs => hP.step hs)
                clear hbb
                go_wp2_with (go_at_call 48; go_must (refine HC.out.mono ?_); rintro e w5 ⟨rfl, hp5⟩; have HP5 := Lib.hid hp5; clear hp5)
                go_roundg (gkO - 1)
                case rel => exact ⟨j + 1, by go_simp, by omega, HP5.out⟩
                case measure => omega
      · have hje : j = l.length := by omega
        subst hje
        obtain ⟨pv, qv, os, h1, h2, hPB⟩ := hP
        obtain ⟨qad, qcap, hqv⟩ := h1.slice
        have hx1 : wr.cell? ⟨pw + 1, 1, none⟩ = some (.slice qad os.length qcap) := (Joins.cell_of_block h1.box 1).trans (by rw [hqv]; rfl)
        have HPB := Lib.hid hPB
        clear h1 hqv hPB hP0
        obtain ⟨wo, rfl⟩ : ∃ wo : World, wo = wr := ⟨_, rfl⟩
        go_wp2
        go_loopg [14] 0 (fun m s14 wi => s14 = .int .i64 0 ∧ wi = wo)
        case atStart => exact ⟨rfl, rfl⟩
        case round =>
          obtain ⟨rfl, rfl⟩ := hrel
          by_cases h0 : os.length = 0
          · rw [h0] at hx1
            go_wp2
            go_ret
            exact ⟨rfl, HPB.out⟩
          · have h00 : (0 : Int) < (os.length : Int) := by omega
            have h01 : 0 < os.length := by omega
            go_wp2
            go_ret
            exact ⟨rfl, HPB.out⟩
end Go.Proofs.YtpdbmpbmepkikaaGreatDoor

namespace Go.Proofs.YtpdbmpbmepkikaaGreatDoor
open Go.RowKit
set_option maxHeartbeats 4000000 in
set_option maxRecDepth 100000 in
theorem playsT_any (v : Value) (l : List OpR) (kg kcap : Nat) (ks : List Int) (w : World) (hS : ScriptAt w v l) (hl : l.length ≤ 140737488355328) (hz : ∀ x ∈ l, x.s.size ≤ 140737488355328 ∧ x.t.size ≤ 140737488355328 ∧ x.u.size ≤ 140737488355328)
    (hkg : kg < w.heap.size) (hks : ∀ j (hj : j < ks.length), w.cell? ⟨kg, j, none⟩ = some (.int .i64 ks[j])) (hkl : ks.length ≤ 100) (hT : EType w) (ht : Tab w) (hstep : StepsAt l ks) :
    Calls Tryz.prog 34 #[v, .slice (some ⟨kg, 0, none⟩) ks.length kcap, .bool true] w fun e w' => e = .returned (.bool true) ∧ Below w.heap.size w w' := by
  have HC := Lib.hid (smallL_any v l w hS hl hz)
  have h3 := ht.lt
  obtain ⟨sad, scap, hsv⟩ : ∃ sad scap, v = .slice sad l.length scap := by
    rcases hS with ⟨⟨ad, cap, rfl⟩, rfl⟩ | ⟨g, off, cap, rfl, _⟩
    · exact ⟨_, _, rfl⟩
    · exact ⟨_, _, rfl⟩
  subst hsv
  cases hsm : smallS l with
  | false =>
    rw [hsm] at HC
    clear hS hz hks hT ht hstep hsm
    go_enter Tryz.func34, Tryz.ntmps34
    go_wp2_with (go_at_call 35; go_must (refine HC.out.mono ?_); rintro e w1 ⟨rfl, hb1⟩; have HB1 := Lib.hid hb1; clear hb1)
    go_ret
    exact ⟨rfl, HB1.out⟩
  | true =>
    rw [hsm] at HC
    have hlen : l.length ≤ 4096 := by
      simp only [smallS, decide_eq_true_eq] at hsm
      omega
    have HS := Lib.hid (And.intro hS (And.intro hks (And.intro hT (And.intro ht (And.intro hstep hsm)))))
    clear hS hz hks hT ht hstep hsm
    go_enter Tryz.func34, Tryz.ntmps34
    go_wp2_with (go_at_call 35; go_must (refine HC.out.mono ?_); rintro e w1 ⟨rfl, hb1⟩; have HB1 := Lib.hid hb1; clear hb1)
    have hP0 := PlayAt.start w w1 HB1.out
    obtain ⟨w2, hw2⟩ : ∃ w2, w2 = (w1.alloc (.cells #[.slice none 0 0] 74)).alloc (.cells #[.pointer (some ⟨w1.heap.size, 0, none⟩), .slice none 0 0] 100) := ⟨_, rfl⟩
    rw [← hw2] at hP0 ⊢
    obtain ⟨pw, hpw⟩ : ∃ pw, pw = w1.heap.size := ⟨_, rfl⟩
    rw [← hpw] at hP0 ⊢
    clear hw2 hpw HC
    go_loopg [9] l.length (fun n s9 wr => ∃ j : Nat, s9 = .int .i64 j ∧ n + j = l.length ∧ PlayAt w.heap.size (pw + 1) pw j w wr)
    case atStart => exact ⟨0, rfl, by omega, hP0⟩
    case round =>
      obtain ⟨j, rfl, hn, hP⟩ := hrel
      by_cases hj : j < l.length
      · obtain ⟨hS, hks, hT, ht, hstep, hsm⟩ := HS.out
        obtain ⟨op, hop⟩ : ∃ op, op = l[j] := ⟨_, rfl⟩
        have hmem : op ∈ l := hop ▸ List.getElem_mem hj
        have hPB : Below w.heap.size w wr := by obtain ⟨_, _, _, _, _, h⟩ := hP; exact h
        rcases hS with ⟨hS1, hS2⟩ | ⟨g, off, cap, hS1, hg, hc⟩
        · rw [hS2] at hj; simp at hj
        simp only [Value.slice.injEq] at hS1
        obtain ⟨rfl, -, rfl⟩ := hS1
        have kc : ∀ i, i < 7 → ∀ u, op.cells[i]? = some u → wr.cell? ⟨g, off + j * 7 + i, none⟩ = some u := fun i hi u hu => (hPB.cell (p := ⟨g, off + j * 7 + i, none⟩) hg).trans (by rw [Nat.add_assoc]; exact hc _ _ (by rw [oprows_at hj i hi, ← hop]; exact hu))
        obtain ⟨k, a, b, c, s, t, u⟩ := op
        have e0 : wr.cell? ⟨g, off + j * 7, none⟩ = some (.int .i64 k) := kc 0 (by omega) _ rfl
        have e1 := kc 1 (by omega) _ rfl
        have e2 := kc 2 (by omega) _ rfl
        have e3 := kc 3 (by omega) _ rfl
        have e4 := kc 4 (by omega) _ rfl
        have e5 := kc 5 (by omega) _ rfl
        have e6 := kc 6 (by omega) _ rfl
        have hkc : ∀ i (hi : i < ks.length), wr.cell? ⟨kg, i, none⟩ = some (.int .i64 ks[i]) := fun i hi => (hPB.cell (p := ⟨kg, i, none⟩) hkg).trans (hks i hi)
        have hjj : (j : Int) < (l.length : Int) := by omega
        have HX := Lib.hid (And.intro hkc (And.intro hP (And.intro hstep (And.intro hsm (And.intro hmem (And.intro hT (And.intro ht hPB)))))))
        have hw1 : IntKind.i64.wrap ((j : Int) + 1) = (j : Int) + 1 := by rw [IntKind.wrap_i64]; omega
        clear hks hT ht hstep hsm hc hop hmem kc hkc hP hPB hP0
        have hnil : ∀ W, (binOp .eql 41 (.slice (some ⟨kg, 0, none⟩) ks.length kcap) (.slice none 0 0)).run Tryz.prog W = .ok (.bool false) W := fun W => by
          simpa using Lib.run_eql_slice_nil (P := Tryz.prog) W 41 3 (some ⟨kg, 0, none⟩) ks.length kcap 0 0 Tryz.underlying41
        obtain ⟨wo, rfl⟩ : ∃ wo : World, wo = wr := ⟨_, rfl⟩
        obtain ⟨gkO, rfl⟩ : ∃ z : Nat, z = gk := ⟨_, rfl⟩
        have hkk : ((k == 1) = true ∧ admits [] k = true) ∨ ((k == 1) = false ∧ (k == 2) = true ∧ admits [] k = true) ∨ ((k == 1) = false ∧ (k == 2) = false ∧ (k == 3) = true ∧ admits [] k = true) ∨ ((k == 1) = false ∧ (k == 2) = false ∧ (k == 3) = false ∧ admits [] k = false) := by
          cases h1 : (k == 1) <;> cases h2 : (k == 2) <;> cases h3 : (k == 3) <;> simp [admits, h1, h2, h3]
        rcases hkk with ⟨a1, hb⟩ | ⟨a1, a2, hb⟩ | ⟨a1, a2, a3, hb⟩ | ⟨a1, a2, a3, hb⟩
        all_goals
          have HB := Lib.hid hb
          clear hb
          go_wp2
          go_loopg [11, 12] ks.length (fun m s11 s12 wi => ∃ q : Nat, s12 = .int .i64 q ∧ m + q = ks.length ∧ s11 = .bool (admits (ks.take q) k) ∧ wi = wo)
          case atStart => exact ⟨0, rfl, by omega, by rw [List.take_zero, HB.out], rfl⟩
          case round =>
            obtain ⟨q, rfl, hm, rfl, rfl⟩ := hrel
            clear a1 HB
            by_cases hq : q < ks.length
            · have hqq : (q : Int) < (ks.length : Int) := by omega
              have ek := HX.out.1 q hq
              have hct := contains_take hq k
              have hw2 : IntKind.i64.wrap ((q : Int) + 1) = (q : Int) + 1 := by rw [IntKind.wrap_i64]; omega
              have hadm : admits (ks.take (q + 1)) k = (admits (ks.take q) k || decide (k = ks[q])) := by
                unfold admits; rw [hct]; cases k == 1 <;> cases k == 2 <;> cases k == 3 <;> simp
              obtain ⟨kq, hkq⟩ : ∃ kq, kq = ks[q] := ⟨_, rfl⟩
              rw [← hkq] at ek hadm
              have HA := Lib.hid hadm
              clear hct hadm hkq
              cases hbb : admits (ks.take q) k with
              | true =>
                rw [hbb] at HA
                go_wp2
                go_roundg (gk - 1)
                case rel => exact ⟨q + 1, by go_simp, by omega, by rw [HA.out]; simp, rfl⟩
                case measure => omega
              | false =>
                rw [hbb] at HA
                go_wp2
                go_roundg (gk - 1)
                case rel => exact ⟨q + 1, by go_simp, by omega, by rw [HA.out, Bool.false_or]; rfl, rfl⟩
                case measure => omega
            · have hqe : q = ks.length := by omega
              subst hqe
              rw [List.take_length]
              cases hbb : admits ks k with
              | false =>
                go_wp2
                go_roundg (gkO - 1)
                case rel => exact ⟨j + 1, by go_simp, by omega, HX.out.2.1.more⟩
                case measure => omega
              | true =>
                have HC : Hid (Calls Tryz.prog 48 #[.pointer (some ⟨pw + 1, 0, none⟩), .agg #[.int .i64 k, .int .i64 a, .int .i64 b, .int .i64 c, .string s, .string t, .string u]] wr fun e w' => e = .returned (.bool true) ∧ PlayAt w.heap.size (pw + 1) pw (j + 1) w w') := Lib.hid (by
                  obtain ⟨_, hP, hstep, hsm, hmem, hT, ht, hPB⟩ := HX.out
                  obtain ⟨pv, qv, os, h1, h2, h4⟩ := id hP
                  exact (hstep w.heap.size j (pw + 1) pw pv qv os k a b c s t u wr hmem hbb (by omega) h2 h1 (hT.below hPB (Nat.le_refl _)) (ht.below hPB (Nat.le_refl _)) hPB.size h3 hsm).mono fun e w' hs => hP.step hs)
                clear hbb
                go_wp2_with (go_at_call 48; go_must (refine HC.out.mono ?_); rintro e w5 ⟨rfl, hp5⟩; have HP5 := Lib.hid hp5; clear hp5)
                go_roundg (gkO - 1)
                case rel => exact ⟨j + 1, by go_simp, by omega, HP5.out⟩
                case measure => omega
      · have hje : j = l.length := by omega
        subst hje
        obtain ⟨pv, qv, os, h1, h2, hPB⟩ := hP
        obtain ⟨qad, qcap, hqv⟩ := h1.slice
        subst hqv
        have HX := Lib.hid (And.intro h1 hPB)
        clear h1 hPB hP0
        obtain ⟨wo, rfl⟩ : ∃ wo : World, wo = wr := ⟨_, rfl⟩
        go_wp2
        go_loopg [14] os.length (fun m s14 wi => ∃ q : Nat, s14 = .int .i64 q ∧ m + q = os.length ∧ LawAt w.heap.size l.length wi (pw + 1) pw pv (.slice qad os.length qcap) os ∧ Below w.heap.size w wi)
        case atStart => exact ⟨0, rfl, by omega, HX.out.1, HX.out.2⟩
        case round =>
          obtain ⟨q, rfl, hm, hL, hBi⟩ := hrel
          have hx1 : wr.cell? ⟨pw + 1, 1, none⟩ = some (.slice qad os.length qcap) := Joins.cell_of_block hL.box 1
          by_cases hq : q < os.length
          · have hqq : (q : Int) < (os.length : Int) := by omega
            have hw2 : IntKind.i64.wrap ((q : Int) + 1) = (q : Int) + 1 := by rw [IntKind.wrap_i64]; omega
            have HC := Lib.hid (asks6_any w.heap.size l.length (pw + 1) pw pv (.slice qad os.length qcap) os q os[q] 0 0 0 ⟨#[]⟩ ⟨#[]⟩ ⟨#[]⟩ wr (by omega) (by omega) hL ⟨hq, List.getElem?_eq_getElem hq⟩)
            have HL := Lib.hid (And.intro hL hBi)
            clear hL hBi HX
            go_wp2_with (go_at_call 49; go_must (refine HC.out.mono ?_); rintro e w5 ⟨rfl, hb5⟩; have HB5 := Lib.hid hb5; clear hb5; refine Halt.of ?_)
            unfold Halt
            go_wp2
            go_roundg (gk - 1)
            case rel => exact ⟨q + 1, by go_simp, by omega, HL.out.1.below HB5.out, HL.out.2.trans (HB5.out.mono HL.out.2.size)⟩
            case measure => omega
          · have hqe : q = os.length := by omega
            subst hqe
            have HL := Lib.hid hBi
            clear hL hBi HX
            go_wp2
            go_ret
            exact ⟨rfl, HL.out⟩
end Go.Proofs.YtpdbmpbmepkikaaGreatDoor

namespace Go.Proofs.YtpdbmpbmepkikaaGreatDoor
open Go.RowKit

theorem sumS_mem {l : List OpR} {x : OpR} (h : x ∈ l) : opSize x ≤ sumS l := by
  induction l with
  | nil => cases h
  | cons y l ih =>
    have e : sumS (y :: l) = opSize y + sumS l := by
      have key : ∀ (l : List OpR) (n : Nat), l.foldl (fun n x => n + opSize x) n = n + l.foldl (fun n x => n + opSize x) 0 := fun l => by
        induction l with
        | nil => intro n; simp
        | cons z l ih => intro n; rw [List.foldl_cons, ih, List.foldl_cons, ih (0 + opSize z)]; omega
      show (y :: l).foldl (fun n x => n + opSize x) 0 = _
      rw [List.foldl_cons, key]
      unfold sumS; omega
    rcases List.mem_cons.1 h with rfl | h
    · omega
    · have := ih h; omega
theorem smallS_mem {l : List OpR} {k a b c : Int} {s t u : ByteArray} (h : (⟨k, a, b, c, s, t, u⟩ : OpR) ∈ l) (hs : smallS l = true) : s.size ≤ 4096 ∧ t.size ≤ 4096 ∧ u.size ≤ 4096 := by
  have := sumS_mem h
  simp only [smallS, decide_eq_true_eq] at hs
  have e : opSize ⟨k, a, b, c, s, t, u⟩ = s.size + t.size + u.size := rfl
  omega

theorem steps45 (l : List OpR) (hI : ∀ x ∈ l, I64 x.a) : StepsAt l [4, 5] := by
  intro N K x pw pv qv os k a b c s t u W hmem hadm hK hos hlaw hT ht hN h3 hsm
  obtain ⟨z1, z2, z3⟩ := smallS_mem hmem hsm
  have ha : I64 a := hI _ hmem
  have hk : k = 1 ∨ k = 2 ∨ k = 3 ∨ k = 4 ∨ k = 5 := by
    simp only [admits, Bool.or_eq_true, beq_iff_eq, List.contains_cons, List.contains_nil, Bool.or_false] at hadm
    omega
  rcases hk with rfl | hk
  · exact step1_any N K x pw pv qv os a b c s t u W (by omega) hos hlaw ha hN
  · by_cases hne : os.length = 0
    · exact step0_any N K x pw pv qv os k a b c s t u W hlaw hne (by rcases hk with rfl | rfl | rfl | rfl <;> rfl)
    · have hne : 0 < os.length := by omega
      rcases hk with rfl | rfl | rfl | rfl
      · exact step2_any N K x pw pv qv os a b c s t u W (by omega) hos hlaw hne ha z1 z2 h3 hT
      · exact step3_any N K x pw pv qv os a b c s t u W (by omega) hos hlaw hne ha z1 h3 hT
      · exact step4_any N K x pw pv qv os a b c s t u W (by omega) hos hlaw hne ha fun W' i o h1 h2 _ => asks4_any N K x pw pv qv os i o a b c s t u W' (by omega) (by omega) h1 h2 z1
      · exact step5_any N K x pw pv qv os a b c s t u W (by omega) hos hlaw hne ha fun W' i o h1 h2 _ => asks5_any N K x pw pv qv os i o a b c s t u W' (by omega) (by omega) h1 h2

theorem edits_any (v : Value) (l : List OpR) (w : World) (hS : ScriptAt w v l) (hl : l.length ≤ 140737488355328) (hz : ∀ x ∈ l, x.s.size ≤ 140737488355328 ∧ x.t.size ≤ 140737488355328 ∧ x.u.size ≤ 140737488355328)
    (hI : ∀ x ∈ l, I64 x.a) (hT : EType w) (ht : Tab w) :
    Calls Tryz.prog 9 #[v] w fun e w' => e = .returned (.bool true) ∧ Below w.heap.size w w' := by
  obtain ⟨w1, hw1⟩ : ∃ w1, w1 = w.alloc (.cells #[.int .i64 4, .int .i64 5] 3) := ⟨_, rfl⟩
  have hb1 : Below w.heap.size w w1 := by rw [hw1]; exact (Below.refl _ _).alloc (Nat.le_refl _) _
  have hcl : w1.heap[w.heap.size]? = some (.cells #[.int .i64 4, .int .i64 5] 3 (0, 0)) := by rw [hw1]; exact World.alloc_heap_new _ _
  have hcall := playsF_any v l w.heap.size 2 [4, 5] w1 (hS.below hb1) hl hz (by rw [hw1]; simp) (fun j hj => by
    have hj2 : j < 2 := hj
    rw [Joins.cell_of_block hcl j]
    rcases j with _ | _ | j
    · rfl
    · rfl
    · omega) (by simp) (hT.below hb1 (Nat.le_refl _)) (ht.below hb1 (Nat.le_refl _)) (steps45 l hI)
  rw [hw1] at hcall
  have HC := Lib.hid hcall
  have HB := Lib.hid (And.intro hb1 hw1)
  clear hcall hb1 hcl hw1 hS hz hT ht hI
  go_enter Tryz.func9, Tryz.ntmps9
  go_wp2_with (go_at_call 34; go_must (refine HC.out.mono ?_); rintro e w5 ⟨rfl, hb5⟩; have HB5 := Lib.hid hb5; clear hb5)
  go_ret
  obtain ⟨hb1, hw1⟩ := HB.out
  have hb5 := HB5.out
  rw [← hw1] at hb5
  exact ⟨rfl, hb1.trans (hb5.mono hb1.size)⟩
end Go.Proofs.YtpdbmpbmepkikaaGreatDoor

namespace Go.Proofs.YtpdbmpbmepkikaaGreatDoor
open Go.RowKit

theorem steps4567 (l : List OpR) (hI : ∀ x ∈ l, I64 x.a) : StepsAt l [4, 5, 6, 7] := by
  intro N K x pw pv qv os k a b c s t u W hmem hadm hK hos hlaw hT ht hN h3 hsm
  obtain ⟨z1, z2, z3⟩ := smallS_mem hmem hsm
  have ha : I64 a := hI _ hmem
  have hk : k = 1 ∨ k = 2 ∨ k = 3 ∨ k = 4 ∨ k = 5 ∨ k = 6 ∨ k = 7 := by
    simp only [admits, Bool.or_eq_true, beq_iff_eq, List.contains_cons, List.contains_nil, Bool.or_false] at hadm
    omega
  rcases hk with rfl | hk
  · exact step1_any N K x pw pv qv os a b c s t u W (by omega) hos hlaw ha hN
  · by_cases hne : os.length = 0
    · exact step0_any N K x pw pv qv os k a b c s t u W hlaw hne (by rcases hk with rfl | rfl | rfl | rfl | rfl | rfl <;> rfl)
    · have hne : 0 < os.length := by omega
      rcases hk with rfl | rfl | rfl | rfl | rfl | rfl
      · exact step2_any N K x pw pv qv os a b c s t u W (by omega) hos hlaw hne ha z1 z2 h3 hT
      · exact step3_any N K x pw pv qv os a b c s t u W (by omega) hos hlaw hne ha z1 h3 hT
      · exact step4_any N K x pw pv qv os a b c s t u W (by omega) hos hlaw hne ha fun W' i o h1 h2 _ => asks4_any N K x pw pv qv os i o a b c s t u W' (by omega) (by omega) h1 h2 z1
      · exact step5_any N K x pw pv qv os a b c s t u W (by omega) hos hlaw hne ha fun W' i o h1 h2 _ => asks5_any N K x pw pv qv os i o a b c s t u W' (by omega) (by omega) h1 h2
      · exact step6_any N K x pw pv qv os a b c s t u W (by omega) hos hlaw hne ha fun W' i o h1 h2 _ => asks6_any N K x pw pv qv os i o a b c s t u W' (by omega) (by omega) h1 h2
      · exact step7_any N K x pw pv qv os a b c s t u W (by omega) hos hlaw hne ha fun W' i o h1 h2 h3 => asks7_any N K x pw pv qv os i o a b c s t u W' (by omega) (by omega) h1 h2 (ht.below h3 (Nat.le_refl _))

theorem books_any (v : Value) (l : List OpR) (w : World) (hS : ScriptAt w v l) (hl : l.length ≤ 140737488355328) (hz : ∀ x ∈ l, x.s.size ≤ 140737488355328 ∧ x.t.size ≤ 140737488355328 ∧ x.u.size ≤ 140737488355328)
    (hI : ∀ x ∈ l, I64 x.a) (hT : EType w) (ht : Tab w) :
    Calls Tryz.prog 10 #[v] w fun e w' => e = .returned (.bool true) ∧ Below w.heap.size w w' := by
  obtain ⟨w1, hw1⟩ : ∃ w1, w1 = w.alloc (.cells #[.int .i64 4, .int .i64 5, .int .i64 6, .int .i64 7] 3) := ⟨_, rfl⟩
  have hb1 : Below w.heap.size w w1 := by rw [hw1]; exact (Below.refl _ _).alloc (Nat.le_refl _) _
  have hcl : w1.heap[w.heap.size]? = some (.cells #[.int .i64 4, .int .i64 5, .int .i64 6, .int .i64 7] 3 (0, 0)) := by rw [hw1]; exact World.alloc_heap_new _ _
  have hcall := playsT_any v l w.heap.size 4 [4, 5, 6, 7] w1 (hS.below hb1) hl hz (by rw [hw1]; simp) (fun j hj => by
    have hj2 : j < 4 := hj
    rw [Joins.cell_of_block hcl j]
    rcases j with _ | _ | _ | _ | j
    · rfl
    · rfl
    · rfl
    · rfl
    · omega) (by simp) (hT.below hb1 (Nat.le_refl _)) (ht.below hb1 (Nat.le_refl _)) (steps4567 l hI)
  rw [hw1] at hcall
  have HC := Lib.hid hcall
  have HB := Lib.hid (And.intro hb1 hw1)
  clear hcall hb1 hcl hw1 hS hz hT ht hI
  go_enter Tryz.func10, Tryz.ntmps10
  go_wp2_with (go_at_call 34; go_must (refine HC.out.mono ?_); rintro e w5 ⟨rfl, hb5⟩; have HB5 := Lib.hid hb5; clear hb5)
  go_ret
  obtain ⟨hb1, hw1⟩ := HB.out
  have hb5 := HB5.out
  rw [← hw1] at hb5
  exact ⟨rfl, hb1.trans (hb5.mono hb1.size)⟩
end Go.Proofs.YtpdbmpbmepkikaaGreatDoor

namespace Go.Proofs.YtpdbmpbmepkikaaGreatDoor
open Go.RowKit

theorem steps46910 (l : List OpR) (hI : ∀ x ∈ l, OpI x) : StepsAt l [4, 6, 9, 10] := by
  intro N K x pw pv qv os k a b c s t u W hmem hadm hK hos hlaw hT ht hN h3 hsm
  obtain ⟨z1, z2, z3⟩ := smallS_mem hmem hsm
  have ha : I64 a := (hI _ hmem).1
  have hb : I64 b := (hI _ hmem).2.1
  have hk : k = 1 ∨ k = 2 ∨ k = 3 ∨ k = 4 ∨ k = 6 ∨ k = 9 ∨ k = 10 := by
    simp only [admits, Bool.or_eq_true, beq_iff_eq, List.contains_cons, List.contains_nil, Bool.or_false] at hadm
    omega
  rcases hk with rfl | hk
  · exact step1_any N K x pw pv qv os a b c s t u W (by omega) hos hlaw ha hN
  · by_cases hne : os.length = 0
    · exact step0_any N K x pw pv qv os k a b c s t u W hlaw hne (by rcases hk with rfl | rfl | rfl | rfl | rfl | rfl <;> rfl)
    · have hne : 0 < os.length := by omega
      rcases hk with rfl | rfl | rfl | rfl | rfl | rfl
      · exact step2_any N K x pw pv qv os a b c s t u W (by omega) hos hlaw hne ha z1 z2 h3 hT
      · exact step3_any N K x pw pv qv os a b c s t u W (by omega) hos hlaw hne ha z1 h3 hT
      · exact step4_any N K x pw pv qv os a b c s t u W (by omega) hos hlaw hne ha fun W' i o h1 h2 _ => asks4_any N K x pw pv qv os i o a b c s t u W' (by omega) (by omega) h1 h2 z1
      · exact step6_any N K x pw pv qv os a b c s t u W (by omega) hos hlaw hne ha fun W' i o h1 h2 _ => asks6_any N K x pw pv qv os i o a b c s t u W' (by omega) (by omega) h1 h2
      · exact step9_any N K x pw pv qv os a b c s t u W (by omega) hos hlaw hne ha fun W' i o h1 h2 h3 => saves9_any N K x pw pv qv os i o a b c s t u W' (by omega) hos h1 h2 (by have := h3.size; omega)
      · exact step10_any N K x pw pv qv os a b c s t u W (by omega) hos hlaw hne ha fun W' i o h1 h2 h3 => saves10_any N K x pw pv qv os i o a b c s t u W' (by omega) hos h1 h2 (by have := h3.size; omega) (hT.below h3 (Nat.le_refl _)) hb

theorem saves_any (v : Value) (l : List OpR) (w : World) (hS : ScriptAt w v l) (hl : l.length ≤ 140737488355328) (hz : ∀ x ∈ l, x.s.size ≤ 140737488355328 ∧ x.t.size ≤ 140737488355328 ∧ x.u.size ≤ 140737488355328)
    (hI : ∀ x ∈ l, OpI x) (hT : EType w) (ht : Tab w) :
    Calls Tryz.prog 11 #[v] w fun e w' => e = .returned (.bool true) ∧ Below w.heap.size w w' := by
  obtain ⟨w1, hw1⟩ : ∃ w1, w1 = w.alloc (.cells #[.int .i64 4, .int .i64 6, .int .i64 9, .int .i64 10] 3) := ⟨_, rfl⟩
  have hb1 : Below w.heap.size w w1 := by rw [hw1]; exact (Below.refl _ _).alloc (Nat.le_refl _) _
  have hcl : w1.heap[w.heap.size]? = some (.cells #[.int .i64 4, .int .i64 6, .int .i64 9, .int .i64 10] 3 (0, 0)) := by rw [hw1]; exact World.alloc_heap_new _ _
  have hcall := playsT_any v l w.heap.size 4 [4, 6, 9, 10] w1 (hS.below hb1) hl hz (by rw [hw1]; simp) (fun j hj => by
    have hj2 : j < 4 := hj
    rw [Joins.cell_of_block hcl j]
    rcases j with _ | _ | _ | _ | j
    · rfl
    · rfl
    · rfl
    · rfl
    · omega) (by simp) (hT.below hb1 (Nat.le_refl _)) (ht.below hb1 (Nat.le_refl _)) (steps46910 l hI)
  rw [hw1] at hcall
  have HC := Lib.hid hcall
  have HB := Lib.hid (And.intro hb1 hw1)
  clear hcall hb1 hcl hw1 hS hz hT ht hI
  go_enter Tryz.func11, Tryz.ntmps11
  go_wp2_with (go_at_call 34; go_must (refine HC.out.mono ?_); rintro e w5 ⟨rfl, hb5⟩; have HB5 := Lib.hid hb5; clear hb5)
  go_ret
  obtain ⟨hb1, hw1⟩ := HB.out
  have hb5 := HB5.out
  rw [← hw1] at hb5
  exact ⟨rfl, hb1.trans (hb5.mono hb1.size)⟩
end Go.Proofs.YtpdbmpbmepkikaaGreatDoor
