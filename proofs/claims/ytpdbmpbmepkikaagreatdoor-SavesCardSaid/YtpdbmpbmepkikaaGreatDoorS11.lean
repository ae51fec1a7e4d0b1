/- SavO: The program's Load at bytes that Save has told: the replica. Conditions: at most 100000 registers, which the program holds.
   SavP: Contracts of plain's World: Load, at spoilt bytes. Conditions: at most 2^40 bytes; the library's variable errorType is laid.
   SavQ: Contracts of plain's World: Load, at bytes that Save has told. Conditions: at most 100000 registers, which the program holds; at most 1000000 replicas.
   LawN: The document's decimal: the library's numeral. Condition: a number of 64 bits.
   LawO: The document's Lines. Conditions: at most 100000 registers, which the program holds.
   LawP: The document's Hash: eight bytes of the sum. Condition: a text of at most 2^40 bytes.
   LawE: The law's asks, of Fields: the program's are the document's. Conditions: at most 100000 registers and replicas; a short name.
   LawF: The law's asks, of Names: the program's are the document's. Conditions: at most 100000 registers and replicas. -/
import Derived.Test.YtpdbmpbmepkikaaGreatDoorS10
import Derived.Test.YtpdbmpbmepkikaaGreatDoorS08
import Derived.Test.YtpdbmpbmepkikaaGreatDoorS09
import Derived.Test.YtpdbmpbmepkikaaGreatDoorS04
import Derived.Laws.IdiomStrings
import Derived.Test.YtpdbmpbmepkikaaGreatDoorS05
import Derived.LoopN
set_option linter.all false
set_option linter.unusedSimpArgs false
set_option linter.unusedVariables false

namespace Go.Proofs.YtpdbmpbmepkikaaGreatDoor
open Go.RowKit

/-- Where the replica's blocks lie, its book and its sessions. -/
structure LdAt (p m g : Nat) (id : Int) (L : List Reg) (W : World) : Prop where
  rep : RepAt W p id m g
  book : BookAt W m L
  begun : MapAt (keI .i64) W g []
theorem LdAt.block {p m g : Nat} {id : Int} {L : List Reg} {W W' : World} (h : LdAt p m g id L W) (hp : W'.heap[p]? = W.heap[p]?) (hm : W'.heap[m]? = W.heap[m]?) (hg : W'.heap[g]? = W.heap[g]?) : LdAt p m g id L W' :=
  ⟨hp.trans h.rep, h.book.of_block hm, h.begun.of_block hg⟩

/-- While the registers are taken in. -/
structure LdI (p m g r bg : Nat) (id : Int) (F : List Reg) (v : Value) (w10 : World) (j : Nat) (W : World) : Prop where
  ld : LdAt p m g id ((F.take j).foldl takeL []) W
  keep : Keep (fun b => b = m) w10 W

theorem row_get {W : World} {N : Nat} {v : Value} {F : List Reg} (h : W.ownsRow N 46 5 v F.length (rows F)) : RegsAt W v F := ownsRow_base h fun _ _ => Nat.zero_le _

theorem foldl_take_succ {F : List Reg} {j : Nat} (hj : j < F.length) : (F.take (j + 1)).foldl takeL [] = takeL ((F.take j).foldl takeL []) F[j] := by
  rw [List.take_add_one, List.getElem?_eq_getElem hj, Option.toList_some, List.foldl_append]; rfl

set_option maxHeartbeats 4000000 in
theorem load_whole (id : Int) (F : List Reg) (l : List UInt8) (bg bcap : Nat) (w : World) (hle : l = saveB id F) (hv : RdAt w (.slice (some ⟨bg, 0, none⟩) l.length bcap) l) (hF : ∀ x ∈ F, Fit x) (hok : ∀ x ∈ F, x.Ok) (hz : F.length ≤ 100000) (hid : I64 id) :
    Calls Tryz.prog 192 #[.slice (some ⟨bg, 0, none⟩) l.length bcap] w fun e w' => ∃ p m g, e = .returned (.tuple #[.pointer (some ⟨p, 0, none⟩), .nilIface]) ∧ LdAt p m g id (F.foldl takeL []) w' ∧ w.heap.size ≤ p ∧ w.heap.size ≤ m ∧ w.heap.size ≤ g ∧ Below w.heap.size w w' := by
  have hl : l.length ≤ 1250000030 := by rw [hle]; exact saveB_length id F hid hF hz
  obtain ⟨bd, hbd⟩ : ∃ bd, bd = numB (twistN id) ++ listB regB F := ⟨_, rfl⟩
  have hsl : l = sealB bd := by rw [hle, hbd]; rfl
  have hbl : bd.length < 1000000000 ∨ 1000000000 ≤ bd.length := by omega
  have hparts := sealB_parts bd
  have hlen := sealB_length bd
  have hnum : readNum 10 0 0 l = (bd.length + 4, bd ++ be32 (crcL (numB (bd.length + 4) ++ bd)), false) := by
    rw [hsl]
    unfold sealB
    rw [List.append_assoc]
    refine readNum_whole ?_ _
    have : bd.length ≤ l.length := by rw [hsl, hlen]; omega
    omega
  rw [← hsl] at hparts hlen
  obtain ⟨nb, hnb⟩ : ∃ nb, nb = bd.length := ⟨_, rfl⟩
  obtain ⟨n1, hn1⟩ : ∃ n1, n1 = bd.length + 4 := ⟨_, rfl⟩
  obtain ⟨l1, hl1⟩ : ∃ l1, l1 = bd ++ be32 (crcL (numB (bd.length + 4) ++ bd)) := ⟨_, rfl⟩
  have hl1n : l1.length = n1 := by rw [hl1, hn1, List.length_append]; rfl
  obtain ⟨m, hm⟩ : ∃ m, l.length = m + 4 := ⟨l.length - 4, by omega⟩
  have hn14 : 4 ≤ n1 := by omega
  have hn1l : n1 ≤ l.length := by omega
  rw [← hn1] at hnum hparts hlen
  have htk1 : l1.take (n1 - 4) = bd := by rw [hl1, hn1, Nat.add_sub_cancel, List.take_left]
  rw [← hn1] at hl1
  rw [← hl1] at hnum
  have hn1b : n1 = nb + 4 := by rw [hn1, hnb]
  have HP := Lib.hid (And.intro hparts (And.intro hlen (And.intro hbd (And.intro hl1 (And.intro htk1 (And.intro hF (And.intro hok hnb)))))))
  have HM := Lib.hid (And.intro hm hn1b)
  have hmlen : m ≤ l.length := by omega
  obtain ⟨i5, hi5, h50, h51, h52⟩ := info_parts info5
  obtain ⟨w1, hw1⟩ : ∃ w1, w1 = w.alloc (.cells #[.int .i64 5, .string ⟨#[]⟩] 137) := ⟨_, rfl⟩
  have hz1 : w1.heap.size = w.heap.size + 1 := by rw [hw1]; simp
  have hB1 : Below w.heap.size w w1 := by rw [hw1]; exact (Below.refl _ _).alloc (Nat.le_refl _) _
  obtain ⟨w2, hmk, hrow, hgr⟩ := run_make_full (P := Tryz.prog) w1 w1.heap.size 79 5 i5 (.int .u8 0) 1 Tryz.underlying79 hi5 h50 h51 .i64 .i64 l.length (by rw [h52]; omega) (by unfold maxLen; omega) (Nat.le_refl _)
  have hnews := hv.news
  have hlt : 0 < l.length → bg < w.heap.size := fun h => by
    obtain ⟨ad, c, he, hc⟩ := hv
    rcases hc with rfl | ⟨g, off, hg, hgl, _⟩
    · simp at h
    · subst hg; injection he with h1; injection h1 with h1; injection h1 with h1; subst h1; exact hgl
  have HW := Lib.hid hw1
  rw [hz1] at hmk
  rw [hw1] at hmk
  have hB2 : Below w.heap.size w w2 := ⟨hgr.os.trans hB1.os, hgr.tape.trans hB1.tape, hgr.output.trans hB1.output, by have := hgr.size; omega, fun b hb => (hgr.block b (by omega) (fun e => by cases e)).trans (hB1.block b hb)⟩
  obtain ⟨cur, hcur, hcs⟩ : ∃ cur : List Value, w2.heap[w.heap.size + 1]? = some (.cells cur.toArray 5 (0, 0)) ∧ cur.length = l.length := by
    rcases hrow.2 with ⟨h, _⟩ | ⟨g, cap, cur, hv, _, hg, _, _, hcs, _⟩
    · cases h
    · injection hv with h1 h2 h3
      injection h1 with h1
      injection h1 with h1
      subst h1
      subst h3
      rw [hz1] at hg
      exact ⟨cur.toList, by simpa using hg, by simpa using hcs⟩
  have hsrc : 0 < (l.map u8V).length → ∀ j v, (l.map u8V)[j]? = some v → w2.cell? ((⟨bg, 0, none⟩ : Addr).add j) = some v := fun h j v hjv => by
    have := hnews j v hjv
    rw [Addr.add_lit] at this ⊢
    exact (hB2.cell (p := ⟨bg, 0 + j, none⟩) (hlt (by simpa using h))).trans this
  have HX := Lib.hid (And.intro hB2 (And.intro hcur (And.intro hcs hsrc)))
  clear hw1 hB1 hrow hgr hnews hv hlt hB2 hcur hcs hsrc hle hsl hparts hlen hbd hl1 htk1 hF hok hbl hn1 hnb hm hn1b
  go_enter Tryz.func192, Tryz.ntmps192
  go_wp2_with (with_reducible refine wpList_copy_splice rfl _ _ 79 79 rfl 5 Tryz.underlying79 (by kernel_rfl) (some ⟨w.heap.size + 1, 0, none⟩) (some ⟨bg, 0, none⟩) l.length l.length l.length bcap rfl rfl (w.heap.size + 1) 0 cur 5 HX.out.2.1 (l.map u8V) (by simp) (fun h => ⟨rfl, _, rfl, HX.out.2.2.2 h⟩) (by simp; have := HX.out.2.2.1; omega) (u8V_one _) (w.heap.size + 1) w2 (Below.refl _ _) (Nat.le_refl _) ?_; intro w3 hg3 hb3; have H3 := Lib.hid (And.intro hg3.out hb3); clear hg3 hb3; refine Halt.of ?_)
  unfold Halt
  have hbuf : w3.heap[w.heap.size + 1]? = some (.cells (l.map u8V).toArray 5 (0, 0)) := by
    rw [← splice_all cur (l.map u8V) (by simp; have := HX.out.2.2.1; omega)]
    exact H3.out.1
  have hrd := RdrAt.start hbuf
  obtain ⟨w4, hw4⟩ : ∃ w4, w4 = w3.alloc (.cells #[.slice (some ⟨w.heap.size + 1, 0, none⟩) l.length l.length, .bool false] 230) := ⟨_, rfl⟩
  rw [← hw4] at hrd
  have hcall := numberR_any _ _ _ _ l w4 hrd
  rw [hnum] at hcall
  have HC := Lib.hid hcall
  have HW4 := Lib.hid (And.intro hw4 hrd)
  clear hw4 hrd hbuf hcall hnum
  go_wp2_with (rw [← HW4.out.1]; go_at_call 194; go_must (refine HC.out.mono ?_); rintro e w5 ⟨rfl, h5, hk5⟩; have H5 := Lib.hid (And.intro h5 hk5); clear h5 hk5; refine Halt.of ?_)
  unfold Halt
  have hz2 : w.heap.size + 1 < w2.heap.size := (Array.getElem?_eq_some_iff.1 HX.out.2.1).1
  have hz3 := H3.out.2.size
  have hz4 : w4.heap.size = w3.heap.size + 1 := by rw [HW4.out.1]; simp
  have hk5 := H5.out.2
  have hz5 := hk5.size
  have hk4 : w4.os = w3.os ∧ w4.tape = w3.tape ∧ w4.output = w3.output := by rw [HW4.out.1]; exact ⟨rfl, rfl, rfl⟩
  have hfin : Below w.heap.size w w5 := by
    refine ⟨?_, ?_, ?_, ?_, fun b hb => ((hk5.block b (by omega) (by omega)).trans (by rw [HW4.out.1]; exact (Below.heap_alloc _ _ _ (by omega)).trans (H3.out.2.block b (by omega)))).trans (HX.out.1.block b hb)⟩
    · exact hk5.os.trans (hk4.1.trans (H3.out.2.os.trans HX.out.1.os))
    · exact hk5.tape.trans (hk4.2.1.trans (H3.out.2.tape.trans HX.out.1.tape))
    · exact hk5.output.trans (hk4.2.2.trans (H3.out.2.output.trans HX.out.1.output))
    · have := hk5.size; have := HX.out.1.size; omega
  have HFin := Lib.hid hfin
  have HBuf : Hid (w5.heap[w.heap.size + 1]? = some (.cells (l.map u8V).toArray 5 (0, 0))) := Lib.hid ((hk5.block _ (by omega) (by omega)).trans (by rw [HW4.out.1]; exact (Below.heap_alloc _ _ _ (by omega)).trans (by rw [← splice_all cur (l.map u8V) (by simp; have := HX.out.2.2.1; omega)]; exact H3.out.1)))
  clear hfin hk4 hk5
  obtain ⟨⟨o5, c5, hr5⟩, -⟩ := H5.out
  have c0 : w5.cell? ⟨w3.heap.size, 0, none⟩ = some (.slice (some ⟨w.heap.size + 1, o5, none⟩) n1 c5) := by rw [← hl1n]; exact Joins.cell_of_block hr5.box 0
  have cf0 : w5.frozen? ⟨w3.heap.size, 0, none⟩ = false := Joins.unfrozen_of_block hr5.box 0
  have hfit := hr5.fits
  rw [hl1n] at hfit
  have HR5 := Lib.hid hr5
  have hcv : IntKind.u64.wrap (n1 : Int) = (n1 : Int) := by rw [IntKind.wrap_u64]; omega
  clear hr5 HC
  have hm := HM.out.1
  have hbuf5 : w5.heap[w.heap.size + 1]? = some (.cells (l.map u8V).toArray 5 (0, 0)) := HBuf.out
  have hrd5 : RdAt w5 (.slice (some ⟨w.heap.size + 1, 0, none⟩) m (m + 4)) (l.take m) := by
    refine ⟨_, m + 4, by rw [show (l.take m).length = m by rw [List.length_take]; omega], .inr ⟨_, 0, rfl, (Array.getElem?_eq_some_iff.1 hbuf5).1, fun j hj => ?_⟩⟩
    rw [Nat.zero_add, Joins.cell_of_block hbuf5 j]
    rw [List.length_take] at hj
    simp [show j < l.length by omega]
  have HC9 := Lib.hid (checkS_any (l.take m) _ w5 hrd5 (by rw [List.length_take]; omega))
  have hA' : ((n1 : Int) == (n1 : Int)) = true := by simp
  have hB' : ¬ (n1 : Int) < 4 := by omega
  have hws : IntKind.i64.wrap ((l.length : Int) - 4) = (m : Int) := by rw [IntKind.wrap_i64]; omega
  have hml : (m : Int) ≤ (l.length : Int) := by omega
  clear hbuf5 hrd5
  have hsumN := crcL_lt (l.take m)
  obtain ⟨k, hk⟩ : ∃ k, k = crcL (l.take m) := ⟨_, rfl⟩
  rw [← hk] at HC9 hsumN
  obtain ⟨b0, hb0, e0⟩ : ∃ b0 : Nat, IntKind.u8.wrap ((k : Int) / 16777216) = (b0 : Int) ∧ b0 = k / 16777216 % 256 := ⟨_, by rw [IntKind.wrap_u8]; omega, rfl⟩
  obtain ⟨b1, hb1, e1⟩ : ∃ b1 : Nat, IntKind.u8.wrap ((k : Int) / 65536) = (b1 : Int) ∧ b1 = k / 65536 % 256 := ⟨_, by rw [IntKind.wrap_u8]; omega, rfl⟩
  obtain ⟨b2, hb2, e2⟩ : ∃ b2 : Nat, IntKind.u8.wrap ((k : Int) / 256) = (b2 : Int) ∧ b2 = k / 256 % 256 := ⟨_, by rw [IntKind.wrap_u8]; omega, rfl⟩
  obtain ⟨b3, hb3, e3⟩ : ∃ b3 : Nat, IntKind.u8.wrap (k : Int) = (b3 : Int) ∧ b3 = k % 256 := ⟨_, by rw [IntKind.wrap_u8]; omega, rfl⟩
  have HK := Lib.hid (And.intro hk (And.intro e0 (And.intro e1 (And.intro e2 e3))))
  clear hk e0 e1 e2 e3
  go_wp2_with (go_at_call 209; go_must (refine HC9.out.mono ?_); rintro e w6 ⟨rfl, hw6⟩; have H6 := Lib.hid hw6; clear hw6; refine Halt.of ?_)
  unfold Halt
  have hcl : ∀ i (hi : i < 4), w6.cell? ⟨w.heap.size + 1, m + i, none⟩ = some (u8V (l[m + i]'(by omega))) := fun i hi => by
    rw [H6.out, Joins.cell_of_block HBuf.out (m + i)]
    simp [show m + i < l.length by omega]
  have y0 := hcl 0 (by omega)
  have y1 := hcl 1 (by omega)
  have y2 := hcl 2 (by omega)
  have y3 := hcl 3 (by omega)
  rw [Nat.add_zero] at y0
  have hdrop : l.drop m = [l[m]'(by omega), l[m + 1]'(by omega), l[m + 2]'(by omega), l[m + 3]'(by omega)] := by
    rw [List.drop_eq_getElem_cons (by omega), List.drop_eq_getElem_cons (by omega), List.drop_eq_getElem_cons (by omega), List.drop_eq_getElem_cons (by omega), List.drop_of_length_le (by omega)]
  obtain ⟨x0, hx0⟩ : ∃ x, x = l[m]'(by omega) := ⟨_, rfl⟩
  obtain ⟨x1, hx1⟩ : ∃ x, x = l[m + 1]'(by omega) := ⟨_, rfl⟩
  obtain ⟨x2, hx2⟩ : ∃ x, x = l[m + 2]'(by omega) := ⟨_, rfl⟩
  obtain ⟨x3, hx3⟩ : ∃ x, x = l[m + 3]'(by omega) := ⟨_, rfl⟩
  rw [← hx0, ← hx1, ← hx2, ← hx3] at hdrop
  have z0 : w6.cell? ⟨w.heap.size + 1, m, none⟩ = some (.int .u8 (x0.toNat : Int)) := by rw [hx0]; exact y0
  have z1 : w6.cell? ⟨w.heap.size + 1, m + 1, none⟩ = some (.int .u8 (x1.toNat : Int)) := by rw [hx1]; exact y1
  have z2 : w6.cell? ⟨w.heap.size + 1, m + 2, none⟩ = some (.int .u8 (x2.toNat : Int)) := by rw [hx2]; exact y2
  have z3 : w6.cell? ⟨w.heap.size + 1, m + 3, none⟩ = some (.int .u8 (x3.toNat : Int)) := by rw [hx3]; exact y3
  have hneq : ∀ W, (binOp .neq 302 (.agg #[.int .u8 (x0.toNat : Int), .int .u8 (x1.toNat : Int), .int .u8 (x2.toNat : Int), .int .u8 (x3.toNat : Int)]) (.agg #[.int .u8 (b0 : Int), .int .u8 (b1 : Int), .int .u8 (b2 : Int), .int .u8 (b3 : Int)])).run Tryz.prog W = .ok (.bool false) W := fun W => by
    rw [neq302]
    obtain ⟨hk, e0, e1, e2, e3⟩ := HK.out
    obtain ⟨hparts, hlen, -⟩ := HP.out
    have hlm : l.length - 4 = m := by omega
    rw [hlm] at hparts
    have hbe : be32 k = [x0, x1, x2, x3] := by rw [← hdrop, hparts.2, hk, hparts.1]
    simp only [be32, List.cons.injEq, and_true] at hbe
    obtain ⟨q0, q1, q2, q3⟩ := hbe
    have f : ∀ (y : UInt8) (n : Nat), UInt8.ofNat n = y → y.toNat = n % 256 := fun y n h => by
      rw [← h, UInt8.toNat_ofNat']
    have r0 := f _ _ q0
    have r1 := f _ _ q1
    have r2 := f _ _ q2
    have r3 := f _ _ q3
    rw [e0, e1, e2, e3, r0, r1, r2, r3]
    simp
  have harr := arrayAt302
  have d0 : w6.cell? ⟨w3.heap.size, 0, none⟩ = some (.slice (some ⟨w.heap.size + 1, o5, none⟩) n1 c5) := by rw [H6.out]; exact c0
  have df0 : w6.frozen? ⟨w3.heap.size, 0, none⟩ = false := by rw [H6.out]; exact cf0
  clear hdrop hx0 hx1 hx2 hx3 y0 y1 y2 y3 hcl c0 cf0 HC9
  have hws2 : IntKind.i64.wrap ((n1 : Int) - 4) = (nb : Int) := by have := HM.out.2; rw [IntKind.wrap_i64]; omega
  have hnc : (nb : Int) ≤ (c5 : Int) := by have := HM.out.2; omega
  go_wp2
  clear hneq harr z0 z1 z2 z3
  refine wp_region_noPanic ?_
  refine wp_region_Z (S := fun U => U.cell? ⟨w3.heap.size, 0, none⟩ = some (.slice (some ⟨w.heap.size + 1, o5, none⟩) n1 c5)) (z := 14) (by kernel_rfl) d0 (fun hHeld => ?_)
  refine wpAnyZ_take (i := 0) (v := ?v0) rfl (by kernel_rfl) (by kernel_rfl) (by kernel_rfl) (by kernel_rfl) (fun _ _ _ h => h) (Or.inl ⟨by rfl, ?hy0⟩) hHeld ?rest0; (case hy0 => (intro W hSw; go_simp; (try with_reducible rfl)))
  simp only [Act.put, List.getElem_toArray, List.getElem_cons_zero, List.getElem_cons_succ, List.setIfInBounds_toArray, List.set_cons_zero, List.set_cons_succ]
  refine wpAnyZ_take (i := 1) (v := ?v1) rfl (by kernel_rfl) (by kernel_rfl) (by kernel_rfl) (by kernel_rfl) (fun _ _ _ h => h) (Or.inl ⟨by rfl, ?hy1⟩) hHeld ?rest1; (case hy1 => (intro W hSw; go_simp; (try with_reducible rfl)))
  simp only [Act.put, List.getElem_toArray, List.getElem_cons_zero, List.getElem_cons_succ, List.setIfInBounds_toArray, List.set_cons_zero, List.set_cons_succ]
  refine wpAnyZ_take (i := 2) (v := ?v2) rfl (by kernel_rfl) (by kernel_rfl) (by kernel_rfl) (by kernel_rfl) (fun _ _ _ h => h) (Or.inl ⟨by rfl, ?hy2⟩) hHeld ?rest2; (case hy2 => (intro W hSw; go_simp; (try with_reducible rfl)))
  simp only [Act.put, List.getElem_toArray, List.getElem_cons_zero, List.getElem_cons_succ, List.setIfInBounds_toArray, List.set_cons_zero, List.set_cons_succ]
  refine wpAnyZ_take (i := 3) (v := ?v3) rfl (by kernel_rfl) (by kernel_rfl) (by kernel_rfl) (by kernel_rfl) (fun _ _ _ h => h) (Or.inl ⟨by rfl, ?hy3⟩) hHeld ?rest3; (case hy3 => (intro W hSw; go_simp; (try with_reducible rfl)))
  simp only [Act.put, List.getElem_toArray, List.getElem_cons_zero, List.getElem_cons_succ, List.setIfInBounds_toArray, List.set_cons_zero, List.set_cons_succ]
  refine wpAnyZ_take (i := 4) (v := ?v4) rfl (by kernel_rfl) (by kernel_rfl) (by kernel_rfl) (by kernel_rfl) (fun _ _ _ h => h) (Or.inl ⟨by rfl, ?hy4⟩) hHeld ?rest4; (case hy4 => (intro W hSw; go_simp; (try with_reducible rfl)))
  simp only [Act.put, List.getElem_toArray, List.getElem_cons_zero, List.getElem_cons_succ, List.setIfInBounds_toArray, List.set_cons_zero, List.set_cons_succ]
  refine wpAnyZ_take (i := 5) (v := ?v5) rfl (by kernel_rfl) (by kernel_rfl) (by kernel_rfl) (by kernel_rfl) (fun _ _ _ h => h) (Or.inl ⟨by rfl, ?hy5⟩) hHeld ?rest5; (case hy5 => (intro W hSw; go_simp; (try with_reducible rfl)))
  simp only [Act.put, List.getElem_toArray, List.getElem_cons_zero, List.getElem_cons_succ, List.setIfInBounds_toArray, List.set_cons_zero, List.set_cons_succ]
  refine wpAnyZ_take (i := 6) (v := ?v6) rfl (by kernel_rfl) (by kernel_rfl) (by kernel_rfl) (by kernel_rfl) (fun _ _ _ h => h) (Or.inl ⟨by rfl, ?hy6⟩) hHeld ?rest6; (case hy6 => (intro W hSw; go_simp; (try with_reducible rfl)))
  simp only [Act.put, List.getElem_toArray, List.getElem_cons_zero, List.getElem_cons_succ, List.setIfInBounds_toArray, List.set_cons_zero, List.set_cons_succ]
  refine wpAnyZ_take (i := 7) (v := ?v7) rfl (by kernel_rfl) (by kernel_rfl) (by kernel_rfl) (by kernel_rfl) (fun _ _ _ h => h) (Or.inl ⟨by rfl, ?hy7⟩) hHeld ?rest7; (case hy7 => (intro W hSw; go_simp; (try with_reducible rfl)))
  simp only [Act.put, List.getElem_toArray, List.getElem_cons_zero, List.getElem_cons_succ, List.setIfInBounds_toArray, List.set_cons_zero, List.set_cons_succ]
  refine wpAnyZ_take (i := 8) (v := ?v8) rfl (by kernel_rfl) (by kernel_rfl) (by kernel_rfl) (by kernel_rfl) (fun _ _ _ h => h) (Or.inl ⟨by rfl, ?hy8⟩) hHeld ?rest8; (case hy8 => (intro W hSw; go_simp; (try with_reducible rfl)))
  simp only [Act.put, List.getElem_toArray, List.getElem_cons_zero, List.getElem_cons_succ, List.setIfInBounds_toArray, List.set_cons_zero, List.set_cons_succ]
  refine wpAnyZ_take (i := 9) (v := ?v9) rfl (by kernel_rfl) (by kernel_rfl) (by kernel_rfl) (by kernel_rfl) (fun _ _ _ h => h) (Or.inl ⟨by rfl, ?hy9⟩) hHeld ?rest9; (case hy9 => (intro W hSw; go_simp; (try with_reducible rfl)))
  simp only [Act.put, List.getElem_toArray, List.getElem_cons_zero, List.getElem_cons_succ, List.setIfInBounds_toArray, List.set_cons_zero, List.set_cons_succ]
  refine wpAnyZ_take (i := 10) (v := ?v10) rfl (by kernel_rfl) (by kernel_rfl) (by kernel_rfl) (by kernel_rfl) (fun _ _ _ h => h) (Or.inl ⟨by rfl, ?hy10⟩) hHeld ?rest10; (case hy10 => (intro W hSw; go_simp; (try with_reducible rfl)))
  simp only [Act.put, List.getElem_toArray, List.getElem_cons_zero, List.getElem_cons_succ, List.setIfInBounds_toArray, List.set_cons_zero, List.set_cons_succ]
  refine wpAnyZ_take (i := 11) (v := ?v11) rfl (by kernel_rfl) (by kernel_rfl) (by kernel_rfl) (by kernel_rfl) (fun _ _ _ h => h) (Or.inl ⟨by rfl, ?hy11⟩) hHeld ?rest11; (case hy11 => (intro W hSw; go_simp; (try with_reducible rfl)))
  simp only [Act.put, List.getElem_toArray, List.getElem_cons_zero, List.getElem_cons_succ, List.setIfInBounds_toArray, List.set_cons_zero, List.set_cons_succ]
  refine wpAnyZ_val (i := 12) (v := .pointer (some ⟨w3.heap.size, 0, none⟩)) (w' := w6.drew) (by kernel_rfl) rfl (by rfl) ?hv12 (fun _ => hHeld) ?rest12; (case hv12 => (go_simp))
  simp only [Act.put, List.getElem_toArray, List.getElem_cons_zero, List.getElem_cons_succ, List.setIfInBounds_toArray, List.set_cons_zero, List.set_cons_succ]
  refine wpAnyZ_val (i := 13) (v := .pointer (some ⟨w3.heap.size, 0, none⟩)) (w' := w6.drew) (by kernel_rfl) rfl (by rfl) ?hv13 (fun _ => hHeld) ?rest13; (case hv13 => (go_simp))
  simp only [Act.put, List.getElem_toArray, List.getElem_cons_zero, List.getElem_cons_succ, List.setIfInBounds_toArray, List.set_cons_zero, List.set_cons_succ]
  refine wpAnyZ_skip (i := 14) (w' := w6.drew.setCell ⟨w3.heap.size, 0, none⟩ (.slice (some ⟨w.heap.size + 1, o5, none⟩) nb c5)) (by kernel_rfl) rfl (by rfl) ?hv14 (fun h => Bool.noConfusion h) ?rest14; (case hv14 => (go_simp))
  simp only [Act.put, List.getElem_toArray, List.getElem_cons_zero, List.getElem_cons_succ, List.setIfInBounds_toArray, List.set_cons_zero, List.set_cons_succ]
  refine wpAnyZ_done (by kernel_rfl) ?_ _
  refine NoPanic.normal ?_
  clear hHeld
  obtain ⟨w7, hw7⟩ : ∃ w7, w7 = w6.drew.setCell ⟨w3.heap.size, 0, none⟩ (.slice (some ⟨w.heap.size + 1, o5, none⟩) nb c5) := ⟨_, rfl⟩
  rw [← hw7]
  obtain ⟨-, -, hbd, hl1, htk1, hF, hok, hnb⟩ := HP.out
  have hn1b := HM.out.2
  have hr5 := HR5.out
  have hr7 : RdrAt w3.heap.size (w.heap.size + 1) o5 c5 bd false w7 := by
    refine ⟨?_, by omega, ?_, hr5.ne, fun j hj => ?_⟩
    · rw [hw7, H6.out]
      simp only [World.setCell, World.drew, Array.getElem?_modify, hr5.box, Option.map_some, if_true, ← hnb]
      rfl
    · rw [hw7, H6.out]; simpa [World.setCell] using hr5.lt
    · have hj1 : j < l1.length := by omega
      have := hr5.cells j hj1
      have he : l1[j] = bd[j] := by
        have : (l1.take (n1 - 4))[j]'(by rw [htk1]; exact hj) = bd[j] := by simp only [htk1]
        rw [← this, List.getElem_take]
      rw [he] at this
      rw [hw7, H6.out]
      exact (World.cell?_of_block (w := w5) (a := ⟨_, _, none⟩) (Below.heap_setCell _ _ _ _ hr5.ne)).trans this
  have hk7 : Keep (fun b => b = w3.heap.size) w5 w7 := by rw [hw7, H6.out]; exact (Keep.drew _ _).trans (Keep.setCell _ _ _ rfl)
  rw [hbd] at hr7
  have HC13 := Lib.hid (twistedR_whole _ _ _ _ id (listB regB F) w7 hr7 hid)
  have HX7 := Lib.hid (And.intro hk7 (And.intro hF hok))
  clear hw7 hr7 hk7 hr5 hbd hl1 htk1 hF hok hnb d0 df0
  go_wp2_with (go_at_call 195; go_must (refine HC13.out.mono ?_); rintro e w8 ⟨rfl, h8⟩; have H8 := Lib.hid h8; clear h8; refine Halt.of ?_)
  unfold Halt
  have HC14 := Lib.hid (new_any id w8)
  clear HC13
  go_wp2_with (go_at_call 50; go_must (refine HC14.out.mono ?_); rintro e w9 ⟨rfl, h9⟩; have H9 := Lib.hid h9; clear h9; refine Halt.of ?_)
  unfold Halt
  clear HC14
  obtain ⟨⟨o8, c8, hr8⟩, hk8⟩ := H8.out
  have hz8 := hk8.size
  have hz7 := HX7.out.1.size
  have hb9 := H9.out.2.2.2
  have hz9 := hb9.size
  have hp9 := H9.out.1.lt
  have hr9 : RdrAt w3.heap.size (w.heap.size + 1) o8 c8 (listB regB F ++ []) false w9 := by
    rw [List.append_nil]
    exact hr8.below hb9 (Nat.le_refl _)
  have HC15 := Lib.hid (manyR_whole _ _ _ _ F [] w9 hr9 HX7.out.2.1 hz)
  clear hr8 hk8 hb9 hr9
  go_wp2_with (go_at_call 149; go_must (refine HC15.out.mono ?_); rintro e w10 ⟨v, rfl, hrow, h10⟩; have H10 := Lib.hid (And.intro hrow h10); clear hrow h10; refine Halt.of ?_)
  unfold Halt
  clear HC15
  obtain ⟨vad, vcap, hvv⟩ : ∃ ad cap, v = .slice ad F.length cap := by
    rcases H10.out.1.2 with ⟨h1, h2⟩ | ⟨g, cap, cur, h1, _⟩
    · exact ⟨none, 0, by rw [h1, h2]⟩
    · exact ⟨_, cap, h1⟩
  have hk10 := H10.out.2.2
  have hz10 := hk10.size
  have hld0 : LdAt (w8.heap.size + 2) w8.heap.size (w8.heap.size + 1) id [] w10 := by
    refine (LdAt.mk H9.out.1 H9.out.2.1 H9.out.2.2.1).block (hk10.block _ hp9 ?_) (hk10.block _ H9.out.2.1.lt ?_) (hk10.block _ H9.out.2.2.1.lt ?_) <;> omega
  have hvb : ∀ b, v.ownBlock = some b → w9.heap.size ≤ b ∧ b < w10.heap.size := fun b hb => H10.out.1.lt b hb
  have HL0 := Lib.hid (And.intro hld0 (And.intro hvb hvv))
  clear hld0 hvb hk10
  subst hvv
  obtain ⟨p, hp⟩ : ∃ p, p = w8.heap.size + 2 := ⟨_, rfl⟩
  obtain ⟨mm, hmm⟩ : ∃ mm, mm = w8.heap.size := ⟨_, rfl⟩
  obtain ⟨gg, hgg⟩ : ∃ gg, gg = w8.heap.size + 1 := ⟨_, rfl⟩
  rw [← hp, ← hgg, ← hmm] at HL0
  rw [← hp]
  have hpm : p ≠ mm := by omega
  have hgm : gg ≠ mm := by omega
  have hmw : mm < w10.heap.size := by omega
  have hm9 : mm < w9.heap.size := by omega
  have hrm : w3.heap.size < mm := by omega
  have HPG := Lib.hid (And.intro hp (And.intro hmm hgg))
  clear hp hmm hgg
  go_wp2
  go_loopg [89] F.length (fun k s wr => ∃ j : Nat, s = .int .i64 j ∧ k + j = F.length ∧ LdI p mm gg w3.heap.size (w.heap.size + 1) id F (.slice vad F.length vcap) w10 j wr)
  case atStart => exact ⟨0, rfl, by omega, HL0.out.1, Keep.refl _ _⟩
  case round =>
    obtain ⟨j, rfl, hk, hI⟩ := hrel
    have hkz := hI.keep.size
    by_cases hj : j < F.length
    · have hjj : (j : Int) < (F.length : Int) := by omega
      have hrow : RegsAt wr (.slice vad F.length vcap) F := row_get (ownsRow_block H10.out.1 fun b hb => hI.keep.block b (HL0.out.2.1 b hb).2 (by have := (HL0.out.2.1 b hb).1; omega))
      obtain ⟨g, cap, hv, hg, y0, y1, y2, y3, y4⟩ := hrow.cell hj
      simp only [Value.slice.injEq] at hv
      obtain ⟨rfl, -, rfl⟩ := hv
      have hxo := HX7.out.2.2 F[j] (List.getElem_mem hj)
      have hst := foldl_take_succ hj
      obtain ⟨L', hL'⟩ : ∃ L', L' = (F.take (j + 1)).foldl takeL [] := ⟨_, rfl⟩
      rw [← hL'] at hst
      obtain ⟨x, hx⟩ : ∃ x, x = F[j] := ⟨_, rfl⟩
      rw [← hx] at y0 y1 y2 y3 y4 hxo hst
      obtain ⟨xn, xf, xc, xr, xv⟩ := x
      simp only at y0 y1 y2 y3 y4
      obtain ⟨W2, hW2⟩ : ∃ W2, W2 = wr.alloc (.cells #[.string xn, .string xf, .int .i64 xc, .int .i64 xr, .string xv] 46) := ⟨_, rfl⟩
      have hnew : W2.heap[wr.heap.size]? = some (.cells #[.string xn, .string xf, .int .i64 xc, .int .i64 xr, .string xv] 46 (0, 0)) := by rw [hW2]; exact World.alloc_heap_new _ _
      have hold : ∀ b, b < wr.heap.size → W2.heap[b]? = wr.heap[b]? := fun b hb => by rw [hW2]; exact Below.heap_alloc _ _ _ hb
      have hld2 : LdAt p mm gg id ((F.take j).foldl takeL []) W2 := hI.ld.block (hold _ hI.ld.rep.lt) (hold _ hI.ld.book.lt) (hold _ hI.ld.begun.lt)
      have x0 : W2.cell? ⟨wr.heap.size, 0, none⟩ = some (.string xn) := Joins.cell_of_block hnew 0
      have x1 : W2.cell? ⟨wr.heap.size, 1, none⟩ = some (.string xf) := Joins.cell_of_block hnew 1
      have x2 : W2.cell? ⟨wr.heap.size, 2, none⟩ = some (.int .i64 xc) := Joins.cell_of_block hnew 2
      have x3 : W2.cell? ⟨wr.heap.size, 3, none⟩ = some (.int .i64 xr) := Joins.cell_of_block hnew 3
      have x4 : W2.cell? ⟨wr.heap.size, 4, none⟩ = some (.string xv) := Joins.cell_of_block hnew 4
      have xp : W2.cell? ⟨p, 1, none⟩ = some (.map (some mm)) := hld2.rep.cell.2.1
      have hk2 : Keep (fun b => b = mm) w10 W2 := hI.keep.trans (hW2 ▸ Keep.alloc _ _ _)
      have hzN : wr.heap.size < W2.heap.size := by rw [hW2]; simp
      have hp2 := hld2.rep.lt
      have hmlt := hI.ld.book.lt
      have hNm : wr.heap.size ≠ mm := by omega
      have hcall : Calls Tryz.prog 101 #[.map (some mm), .agg #[.string xn, .string xf, .int .i64 xc, .int .i64 xr, .string xv]] W2.drew fun e W' => e = .returned (.tuple #[]) ∧ Hid (BookAt W' mm L' ∧ Keep (fun b => b = mm) W2.drew W') ∧ (∀ o, W'.cell? ⟨wr.heap.size, o, none⟩ = W2.drew.cell? ⟨wr.heap.size, o, none⟩) ∧ (∀ o, W'.cell? ⟨p, o, none⟩ = W2.drew.cell? ⟨p, o, none⟩) :=
        (take_any ⟨xn, xf, xc, xr, xv⟩ hxo mm _ W2.drew (hld2.book.of_block rfl)).mono fun e W' y => ⟨y.1, Lib.hid ⟨hst ▸ y.2.1, y.2.2⟩, fun o => y.2.2.cell (p := ⟨_, _, none⟩) hzN hNm, fun o => y.2.2.cell (p := ⟨_, _, none⟩) hp2 hpm⟩
      have HC2 := Lib.hid hcall
      have HW2 := Lib.hid hW2
      have HX := Lib.hid (And.intro hld2 (And.intro hk2 hL'))
      clear hcall hW2 hnew hold hld2 hk2 hI hrow hx hxo hst hL' hmlt
      go_wp2
      rw [← HW2.out]
      go_region_held3 (fun W => W.cell? ⟨wr.heap.size, 0, none⟩ = some (.string xn) ∧ W.cell? ⟨wr.heap.size, 1, none⟩ = some (.string xf) ∧ W.cell? ⟨wr.heap.size, 2, none⟩ = some (.int .i64 xc) ∧ W.cell? ⟨wr.heap.size, 3, none⟩ = some (.int .i64 xr) ∧ W.cell? ⟨wr.heap.size, 4, none⟩ = some (.string xv) ∧ W.cell? ⟨p, 1, none⟩ = some (.map (some mm)))
        (go_keep)
        ((first
          | (go_at_call 101; refine Calls.mono HC2.out ?_; rintro e W3 ⟨rfl, hx, hq, hqf⟩)))
      have HX3 := Lib.hid hx
      clear hx hq hqf
      go_wp2
      go_roundg (gk - 1)
      case rel =>
        refine ⟨j + 1, by go_simp, by omega, ?_, ?_⟩
        · have hB := HX3.out.1
          rw [HX.out.2.2] at hB
          have hld := HX.out.1
          exact ⟨(HX3.out.2.block _ hld.rep.lt hpm).trans hld.rep, hB, hld.begun.of_block (HX3.out.2.block _ hld.begun.lt hgm)⟩
        · exact HX.out.2.1.trans ((Keep.drew _ _).trans HX3.out.2)
      case measure => omega
    · have hje : j = F.length := by omega
      subst hje
      obtain ⟨⟨o10, c10, hr10⟩, -⟩ := H10.out.2
      have hrb : wr.heap[w3.heap.size]? = some (.cells #[.slice (some ⟨w.heap.size + 1, o10, none⟩) 0 c10, .bool false] 230 (0, 0)) := (hI.keep.block _ hr10.rlt (by omega)).trans hr10.box
      have r0 : wr.cell? ⟨w3.heap.size, 0, none⟩ = some (.slice (some ⟨w.heap.size + 1, o10, none⟩) 0 c10) := Joins.cell_of_block hrb 0
      have r1 : wr.cell? ⟨w3.heap.size, 1, none⟩ = some (.bool false) := Joins.cell_of_block hrb 1
      have HI := Lib.hid hI
      clear hI hr10 hrb
      go_wp2
      refine bodyPost_ret (results_tmp2 rfl _ _ _) rfl ?_
      have hI := HI.out
      obtain ⟨hp, hmm, hgg⟩ := HPG.out
      have hld := hI.ld
      rw [List.take_length] at hld
      have hk8 := H8.out.2
      have hb9 := H9.out.2.2.2
      have hk10 := H10.out.2.2
      have hF5 := HFin.out
      have hzw5 := hF5.size
      have hz2w := HX.out.1.size
      refine ⟨p, mm, gg, rfl, hld, by omega, by omega, by omega, ?_⟩
      refine below_keep (G := fun b => b = mm) (below_keep (G := fun b => b = w3.heap.size) ((below_keep (G := fun b => b = w3.heap.size) hF5 (HX7.out.1.trans hk8) (fun x hx e => by omega)).trans (hb9.mono (by omega))) hk10 (fun x hx e => by omega)) hI.keep (fun x hx e => by omega)
end Go.Proofs.YtpdbmpbmepkikaaGreatDoor

namespace Go.Proofs.YtpdbmpbmepkikaaGreatDoor
open Go.RowKit

/-- A text as bytes, in a block of its own. -/
theorem conv_own (w : World) (s : ByteArray) : ∃ cap w1, (convert 9 79 (.string s)).run Tryz.prog w = .ok (.slice (some ⟨w.heap.size, 0, none⟩) s.size cap) w1 ∧
    RdAt w1 (.slice (some ⟨w.heap.size, 0, none⟩) s.size cap) (bl s) ∧ Below w.heap.size w w1 ∧ w1.heap.size = w.heap.size + 1 ∧ ∃ cs lo hi, w1.heap[w.heap.size]? = some (.cells cs 5 (lo, hi)) ∧ s.size ≤ cs.size ∧ s.size ≤ lo := by
  refine ⟨_, _, run_bytes_of_string w 9 79 5 s Tryz.underlying9 Tryz.underlying79 Tryz.underlying5, ?_, (Below.refl _ _).drew.alloc (Nat.le_refl _) _, by simp, ?_⟩
  · refine ⟨_, _, rfl, .inr ⟨w.heap.size, 0, rfl, by simp, fun j hj => ?_⟩⟩
    rw [Nat.zero_add, show w.heap.size = w.drew.heap.size from rfl, World.cell?_alloc_mark]
    exact bytesRow_at s _ j hj
  · refine ⟨_, _, _, World.alloc_heap_new w.drew _, ?_, ?_⟩
    · unfold bytesRow; rw [Array.size_append, Array.size_map]; exact Nat.le_add_right _ _
    · unfold bytesRow; rw [Array.size_append, Array.size_map]; exact Nat.le_add_right _ _

/-- A buffer, as stores leave it; nothing else that was there has changed. -/
structure FillB (g n N : Nat) (w W : World) : Prop where
  block : ∃ cs lo hi, W.heap[g]? = some (.cells cs 5 (lo, hi)) ∧ n ≤ cs.size ∧ n ≤ lo
  keep : Keep (fun b => b = g) w W
theorem FillB.cell {g n N : Nat} {w W : World} (h : FillB g n N w W) {j : Nat} (hj : j < n) : (∃ v, W.cell? ⟨g, j, none⟩ = some v) ∧ W.frozen? ⟨g, j, none⟩ = false := by
  obtain ⟨⟨cs, lo, hi, hb, hn, hl⟩, _⟩ := h
  refine ⟨⟨cs[j], ?_⟩, ?_⟩
  · unfold World.cell?; rw [hb]; simp
  · unfold World.frozen?; rw [hb]; simp; omega
theorem FillB.set {g n N : Nat} {w W : World} (h : FillB g n N w W) (j : Nat) (v : Value) : FillB g n N w (W.setCell ⟨g, j, none⟩ v) := by
  obtain ⟨⟨cs, lo, hi, hb, hn, hl⟩, hB⟩ := h
  refine ⟨⟨cs.setIfInBounds j v, lo, hi, ?_, by simpa using hn, hl⟩, hB.trans (Keep.setCell _ _ _ rfl)⟩
  simp only [World.setCell, Array.getElem?_modify, hb, Option.map_some, if_true]
  rfl

set_option maxHeartbeats 1000000 in
theorem loadW_broken (pw : Nat) (s : ByteArray) (w : World) (hb : brokenB (bl s) = true) (hl : s.size ≤ 1099511627776) (hT : EType w) :
    Calls Tryz.prog 135 #[.pointer (some ⟨pw, 0, none⟩), .string s] w fun e w' => e = .returned (.agg #[.int .i64 5, .string ⟨#[]⟩]) ∧ Below w.heap.size w w' := by
  obtain ⟨w1, hw1⟩ : ∃ w1, w1 = w.alloc (.cells #[.int .i64 0, .string ⟨#[]⟩] 49) := ⟨_, rfl⟩
  have hb1 : Below w.heap.size w w1 := by rw [hw1]; exact (Below.refl _ _).alloc (Nat.le_refl _) _
  have hz1 : w1.heap.size = w.heap.size + 1 := by rw [hw1]; simp
  have hres1 : w1.heap[w.heap.size]? = some (.cells #[.int .i64 0, .string ⟨#[]⟩] 49 (0, 0)) := by rw [hw1]; exact World.alloc_heap_new _ _
  obtain ⟨cap, w2, hconv, hrd, hb2, hz2, hblk⟩ := conv_own w1 s
  have HC := Lib.hid (load_broken (bl s) w1.heap.size cap w2 hrd hb hl)
  have hB2 : Below w.heap.size w w2 := hb1.trans (hb2.mono (by omega))
  have HX := Lib.hid (And.intro hB2 (And.intro ((hb2.block _ (by omega)).trans hres1) (And.intro hblk (hT.below hB2 (Nat.le_refl _)))))
  rw [hz1] at HC hconv
  rw [hw1] at hconv
  have HW := Lib.hid hw1
  clear hw1 hb1 hres1 hrd hb2 hblk hB2 hb hT
  go_enter Tryz.func135, Tryz.ntmps135
  go_wp2_with (go_at_call 192; go_must (refine HC.out.mono ?_); rintro e w3 ⟨b, rfl, hbl, hblk, hB3⟩; have H3 := Lib.hid (And.intro hbl (And.intro hblk hB3)); clear hbl hblk hB3; refine Halt.of ?_)
  unfold Halt
  clear HC hconv
  have hz3 := H3.out.2.2.size
  have HP := Lib.hid (parts_err b 5 ⟨#[]⟩ w3 (HX.out.2.2.2.below H3.out.2.2 (Nat.le_refl _)) H3.out.2.1 (by decide) (by decide))
  go_wp2_with (go_at_call 42; go_must (refine HP.out.mono ?_); rintro e w4 ⟨rfl, hB4⟩; have H4 := Lib.hid hB4; clear hB4; refine Halt.of ?_)
  unfold Halt
  clear HP
  go_wp2
  have hz4 := H4.out.size
  obtain ⟨W5, hW5⟩ : ∃ W5, W5 = w4.alloc (.cells #[.int .i64 5, .string ⟨#[]⟩] 49) := ⟨_, rfl⟩
  rw [← hW5]
  have hB5 : Below w.heap.size w W5 := by
    rw [hW5]
    exact ((HX.out.1.trans (H3.out.2.2.mono HX.out.1.size)).trans (H4.out.mono (by omega))).alloc (by omega) _
  have hold5 : ∀ b, b < w2.heap.size → W5.heap[b]? = w2.heap[b]? := fun b hb => by
    rw [hW5, Below.heap_alloc _ _ _ (by omega), H4.out.block b (by omega), H3.out.2.2.block b hb]
  have hfl : FillB (w.heap.size + 1) s.size 0 W5 W5 := by
    obtain ⟨cs, lo, hi, h1, h2, h3⟩ := HX.out.2.2.1
    rw [hz1] at h1
    exact ⟨⟨cs, lo, hi, (hold5 _ (by omega)).trans h1, h2, h3⟩, Keep.refl _ _⟩
  have hr5 : W5.heap[w.heap.size]? = some (.cells #[.int .i64 0, .string ⟨#[]⟩] 49 (0, 0)) := (hold5 _ (by omega)).trans HX.out.2.1
  have hb5 : W5.heap[w4.heap.size]? = some (.cells #[.int .i64 5, .string ⟨#[]⟩] 49 (0, 0)) := by rw [hW5]; exact World.alloc_heap_new _ _
  have HFl := Lib.hid (And.intro hfl (And.intro hB5 (And.intro hr5 hb5)))
  clear hold5 hfl hB5 hr5 hb5 hW5
  go_loopg [39] s.size (fun k s39 wr => ∃ j : Nat, s39 = .int .i64 j ∧ k + j = s.size ∧ FillB (w.heap.size + 1) s.size 0 W5 wr)
  case atStart => exact ⟨0, rfl, by omega, HFl.out.1⟩
  case round =>
    obtain ⟨j, rfl, hk, hfl⟩ := hrel
    by_cases hj : j < s.size
    · have hjj : (j : Int) < (s.size : Int) := by omega
      obtain ⟨⟨u, hu⟩, hfr⟩ := hfl.cell hj
      have HF := Lib.hid hfl
      clear hfl
      go_wp2
      go_roundg (gk - 1)
      case rel => exact ⟨j + 1, by go_simp, by omega, HF.out.set _ _⟩
      case measure => omega
    · have hje : j = s.size := by omega
      subst hje
      obtain ⟨-, hB5, hr5, hb5⟩ := HFl.out
      have l5 := (Array.getElem?_eq_some_iff.1 hr5).1
      have l8 := (Array.getElem?_eq_some_iff.1 hb5).1
      have hr6 := (hfl.keep.block _ l5 (by omega)).trans hr5
      have hb6 := (hfl.keep.block _ l8 (by omega)).trans hb5
      have a0 : wr.cell? ⟨w.heap.size, 0, none⟩ = some (.int .i64 0) := Joins.cell_of_block hr6 0
      have a1 : wr.cell? ⟨w.heap.size, 1, none⟩ = some (.string ⟨#[]⟩) := Joins.cell_of_block hr6 1
      have f0 : ∀ i, wr.frozen? ⟨w.heap.size, i, none⟩ = false := fun i => Joins.unfrozen_of_block hr6 i
      have b0 : wr.cell? ⟨w4.heap.size, 0, none⟩ = some (.int .i64 5) := Joins.cell_of_block hb6 0
      have b1 : wr.cell? ⟨w4.heap.size, 1, none⟩ = some (.string ⟨#[]⟩) := Joins.cell_of_block hb6 1
      have HF := Lib.hid (And.intro hfl (And.intro hr6 hB5))
      clear hfl hr6 hb6 hr5 hb5 hB5
      go_wp2
      have hA : ArrAt w.heap.size 49 wr _ ((wr.setCell ⟨w.heap.size, 0, none⟩ (.int .i64 5)).setCell ⟨w.heap.size, 1, none⟩ (.string ⟨#[]⟩)) :=
        ((ArrAt.mk (W := wr) HF.out.2.1 (Keep.refl _ _)).set 0 _).set 1 _
      obtain ⟨hAb, hAk⟩ := hA
      simp only [List.setIfInBounds_toArray, List.set_cons_zero, List.set_cons_succ] at hAb
      refine bodyPost_ret (results_cell_row rfl _ _ w.heap.size 49 _ (0, 0) _ rfl hAb Tryz.underlying49 rfl (by kernel_rfl)) rfl ?_
      exact ⟨rfl, below_keep (below_keep HF.out.2.2 HF.out.1.keep (fun x hx e => by omega)) hAk (fun x hx e => by omega)⟩
end Go.Proofs.YtpdbmpbmepkikaaGreatDoor

set_option linter.unusedSimpArgs false
set_option linter.unusedVariables false
namespace Go.Proofs.YtpdbmpbmepkikaaGreatDoor
open Go.RowKit

theorem Keep.of_grown' {w w' : World} {b : Option Nat} (h : w.grownBy w' b) : Keep (fun k => b = some k) w w' := ⟨h.os, h.tape, h.output, h.size, fun k hk hn => h.block k hk fun e => hn e.symm⟩

set_option maxHeartbeats 2000000 in
theorem loadW_whole (pw : Nat) (lv : Value) (ps : List Nat) (id : Int) (F : List Reg) (s : ByteArray) (w : World) (hW : WldAt w pw lv ps) (hps : ps.length ≤ 1000000) (hs : bl s = saveB id F) (hF : ∀ x ∈ F, Fit x) (hok : ∀ x ∈ F, x.Ok) (hz : F.length ≤ 100000) (hid : I64 id) :
    Calls Tryz.prog 135 #[.pointer (some ⟨pw, 0, none⟩), .string s] w fun e w' => e = .returned (.agg #[.int .i64 0, .string ⟨#[]⟩]) ∧ ∃ lv' p m g, WldAt w' pw lv' (ps ++ [p]) ∧ LdAt p m g id (F.foldl takeL []) w' ∧ w.heap.size ≤ p ∧ w.heap.size ≤ m ∧ w.heap.size ≤ g ∧ (∀ b, lv'.ownBlock = some b → lv.ownBlock = some b ∨ w.heap.size ≤ b) ∧ Keep (fun b => b = pw ∨ lv.ownBlock = some b) w w' := by
  obtain ⟨i0, hi, hz0, hz1i, hz2i⟩ := info_parts info77
  have HI := Lib.hid (And.intro hi (And.intro hz0 (And.intro hz1i hz2i)))
  clear hi hz0 hz1i hz2i
  have hpwl := (Array.getElem?_eq_some_iff.1 hW.box).1
  obtain ⟨lad, lcap, hlvv⟩ : ∃ ad cap, lv = .slice ad ps.length cap := by
    rcases hW.row.2 with ⟨h1, h2⟩ | ⟨g, cap, cur, h1, _⟩
    · exact ⟨none, 0, by rw [h1, h2]⟩
    · exact ⟨_, cap, h1⟩
  subst hlvv
  have hsz : s.size ≤ 1250000030 := by
    have h1 := saveB_length id F hid hF hz
    have h2 : (bl s).length = s.size := rfl
    rw [← hs] at h1; omega
  obtain ⟨w1, hw1⟩ : ∃ w1, w1 = w.alloc (.cells #[.int .i64 0, .string ⟨#[]⟩] 49) := ⟨_, rfl⟩
  have hb1 : Below w.heap.size w w1 := by rw [hw1]; exact (Below.refl _ _).alloc (Nat.le_refl _) _
  have hz1 : w1.heap.size = w.heap.size + 1 := by rw [hw1]; simp
  have hres1 : w1.heap[w.heap.size]? = some (.cells #[.int .i64 0, .string ⟨#[]⟩] 49 (0, 0)) := by rw [hw1]; exact World.alloc_heap_new _ _
  obtain ⟨cap, w2, hconv, hrd, hb2, hz2, hblk⟩ := conv_own w1 s
  have HC := Lib.hid (load_whole id F (bl s) w1.heap.size cap w2 hs hrd hF hok hz hid)
  have hB2 : Below w.heap.size w w2 := hb1.trans (hb2.mono (by omega))
  have HX := Lib.hid (And.intro hB2 (And.intro ((hb2.block _ (by omega)).trans hres1) (And.intro hblk hW)))
  rw [hz1] at HC hconv
  rw [hw1] at hconv
  have HW := Lib.hid hw1
  clear hw1 hb1 hres1 hrd hb2 hblk hB2 hW hs hF hok
  go_enter Tryz.func135, Tryz.ntmps135
  go_wp2_with (go_at_call 192; go_must (refine HC.out.mono ?_); rintro e w3 ⟨p, m, g, rfl, hld, hp, hm, hg, hB3⟩; have H3 := Lib.hid (And.intro hld (And.intro hp (And.intro hm (And.intro hg hB3)))); clear hld hp hm hg hB3; refine Halt.of ?_)
  unfold Halt
  clear HC hconv
  have hz3 := H3.out.2.2.2.2.size
  have HP := Lib.hid (parts_nil w3)
  go_wp2_with (go_at_call 42; go_must (refine HP.out.mono ?_); rintro e w4 ⟨rfl, hB4⟩; have H4 := Lib.hid hB4; clear hB4; refine Halt.of ?_)
  unfold Halt
  clear HP
  have hz4 := H4.out.size
  obtain ⟨W5, hW5⟩ : ∃ W5, W5 = w4.alloc (.cells #[.int .i64 0, .string ⟨#[]⟩] 49) := ⟨_, rfl⟩
  have hz5 : W5.heap.size = w4.heap.size + 1 := by rw [hW5]; simp
  have hB5 : Below w.heap.size w W5 := by
    rw [hW5]
    exact ((HX.out.1.trans (H3.out.2.2.2.2.mono HX.out.1.size)).trans (H4.out.mono (by omega))).alloc (by omega) _
  have hold5 : ∀ b, b < w3.heap.size → W5.heap[b]? = w3.heap[b]? := fun b hb => by
    rw [hW5, Below.heap_alloc _ _ _ (by omega), H4.out.block b (by omega)]
  have hold2 : ∀ b, b < w2.heap.size → W5.heap[b]? = w2.heap[b]? := fun b hb => (hold5 b (by omega)).trans (H3.out.2.2.2.2.block b hb)
  have hfl : FillB (w.heap.size + 1) s.size 0 W5 W5 := by
    obtain ⟨cs, lo, hi, h1, h2, h3⟩ := HX.out.2.2.1
    rw [hz1] at h1
    exact ⟨⟨cs, lo, hi, (hold2 _ (by omega)).trans h1, h2, h3⟩, Keep.refl _ _⟩
  have hr5 : W5.heap[w.heap.size]? = some (.cells #[.int .i64 0, .string ⟨#[]⟩] 49 (0, 0)) := (hold2 _ (by omega)).trans HX.out.2.1
  have hb5 : W5.heap[w4.heap.size]? = some (.cells #[.int .i64 0, .string ⟨#[]⟩] 49 (0, 0)) := by rw [hW5]; exact World.alloc_heap_new _ _
  have hpw5 : W5.heap[pw]? = some (.cells #[(.slice lad ps.length lcap)] 74 (0, 0)) := (hB5.block pw hpwl).trans HX.out.2.2.2.box
  have c4 : w4.cell? ⟨pw, 0, none⟩ = some (.slice lad ps.length lcap) := Joins.cell_of_block (((H4.out.block pw (by have := HX.out.1.size; omega)).trans ((H3.out.2.2.2.2.block pw (by have := HX.out.1.size; omega)).trans (HX.out.1.block pw hpwl))).trans HX.out.2.2.2.box) 0
  have hrow : W5.ownsRow 0 77 1 (.slice lad ps.length lcap) ps.length (ps.map fun p => .pointer (some ⟨p, 0, none⟩)) := ownsRow_block HX.out.2.2.2.row fun g hg => hB5.block g (HX.out.2.2.2.row.lt g hg).2
  have hnb : some pw ≠ (Value.slice lad ps.length lcap).ownBlock := fun e => HX.out.2.2.2.ne e.symm
  have HRow := Lib.hid hrow
  have HV := Lib.hid (And.intro hW5 (And.intro hB5 (And.intro hold5 (And.intro hfl (And.intro hr5 (And.intro hb5 (And.intro hpw5 hnb)))))))
  have hpw5l : pw < W5.heap.size := Nat.lt_of_lt_of_le hpwl hB5.size
  have hpw4 : pw < w4.heap.size := by have := HX.out.1.size; omega
  have hpw4n : ¬ pw = w4.heap.size := by omega
  clear hW5 hB5 hold5 hold2 hfl hr5 hb5 hpw5 hrow hnb
  go_wp2_with (at_builtin; (try rw [← HV.out.1]); go_must (refine wpList_append_own_at _ rfl _ _ 72 rfl 0 77 i0 (.pointer none) 1 8 Tryz.underlying72 HI.out.1 HI.out.2.1 HI.out.2.2.1 HI.out.2.2.2 rfl (by decide) (.slice lad ps.length lcap) ps.length _ rfl (ownsRow_block HRow.out (fun g hg => Below.heap_alloc _ _ _ (HRow.out.lt g hg).2)) ⟨w4.heap.size + 1, 0, none⟩ 1 1 [.pointer (some ⟨p, 0, none⟩)] rfl rfl (newsAt (by first | rfl | exact hz5 | exact hz5.symm) _ _ rfl) (by simp [Value.oneCell']) (by unfold maxLen; omega) (by omega) (by simp) ?_); intro v5 w5 hr5 hg5 _ hat; refine Halt.of ?_)
  unfold Halt
  obtain ⟨hW5, hB5, hold5, hfl, hr5b, hb5, hpw5, hnb⟩ := HV.out
  have h5 : w5.heap[pw]? = W5.heap[pw]? := (hg5.block _ (by simp; omega) hnb).trans (Below.heap_alloc _ _ _ hpw5l)
  have hc5 : w5.cell? ⟨pw, 0, none⟩ = some (.slice lad ps.length lcap) := Joins.cell_of_block (h5.trans hpw5) 0
  have hf5 : w5.frozen? ⟨pw, 0, none⟩ = false := Joins.unfrozen_of_block (h5.trans hpw5) 0
  obtain ⟨g', cap', hv'⟩ := ownsRow_succ hr5
  subst hv'
  have hkA : Keep (fun b => b = pw ∨ (Value.slice lad ps.length lcap).ownBlock = some b) W5 (w5.setCell ⟨pw, 0, none⟩ (.slice (some ⟨g', 0, none⟩) (ps.length + 1) cap')) :=
    ((Keep.alloc _ _ _).trans ((Keep.of_grown' hg5).mono fun b _ h => .inr h)).trans (Keep.setCell _ _ _ (.inl rfl))
  have hlvlt : ∀ b, (Value.slice lad ps.length lcap).ownBlock = some b → b < w.heap.size := fun b hb => (HX.out.2.2.2.row.lt b hb).2
  have hnew : ∀ b, w.heap.size ≤ b → b < W5.heap.size → (w5.setCell ⟨pw, 0, none⟩ (.slice (some ⟨g', 0, none⟩) (ps.length + 1) cap')).heap[b]? = W5.heap[b]? := fun b h1 h2 => hkA.block b h2 (fun e => by
    rcases e with e | e
    · omega
    · have := hlvlt b e; omega)
  have hWl : WldAt (w5.setCell ⟨pw, 0, none⟩ (.slice (some ⟨g', 0, none⟩) (ps.length + 1) cap')) pw (.slice (some ⟨g', 0, none⟩) (ps.length + 1) cap') (ps ++ [p]) := by
    refine ⟨setCell_box (h5.trans hpw5), ?_⟩
    have e : (ps ++ [p]).map (fun p => Value.pointer (some ⟨p, 0, none⟩)) = ps.map (fun p => Value.pointer (some ⟨p, 0, none⟩)) ++ [.pointer (some ⟨p, 0, none⟩)] := by simp
    rw [e, List.length_append]
    refine ownsRow_block hr5 fun k hk => Below.heap_setCell _ _ _ _ fun ek => ?_
    simp only [Value.ownBlock, Option.some.injEq] at hk hat
    simp only at ek
    rcases hat with h | h
    · rw [hk, ek] at h; exact hnb h
    · rw [hk, ek, World.size_alloc] at h
      omega
  have hlv' : ∀ b, (Value.slice (some ⟨g', 0, none⟩) (ps.length + 1) cap').ownBlock = some b → (Value.slice lad ps.length lcap).ownBlock = some b ∨ w.heap.size ≤ b := fun b hb => by
    rcases hat with h | h
    · exact .inl (h ▸ hb)
    · refine .inr ?_
      rw [h, World.size_alloc] at hb
      simp only [Option.some.injEq] at hb
      have := hB5.size
      omega
  obtain ⟨W6, hW6⟩ : ∃ W6, W6 = w5.setCell ⟨pw, 0, none⟩ (.slice (some ⟨g', 0, none⟩) (ps.length + 1) cap') := ⟨_, rfl⟩
  rw [← hW6] at hkA hnew hWl
  have hfl6 : FillB (w.heap.size + 1) s.size 0 W6 W6 := by
    obtain ⟨⟨cs, lo, hi, h1, h2, h3⟩, -⟩ := hfl
    exact ⟨⟨cs, lo, hi, (hnew _ (by omega) (by have := (Array.getElem?_eq_some_iff.1 h1).1; omega)).trans h1, h2, h3⟩, Keep.refl _ _⟩
  have hr6 := (hnew _ (Nat.le_refl _) (by omega)).trans hr5b
  have hb6 := (hnew _ (by omega) (by omega)).trans hb5
  have hld6 : LdAt p m g id (F.foldl takeL []) W6 := by
    obtain ⟨hld, hp, hm, hg, -⟩ := H3.out
    have hz2w := HX.out.1.size
    have l1 := hld.rep.lt
    have l2 := hld.book.lt
    have l3 := hld.begun.lt
    exact hld.block ((hnew _ (by omega) (by omega)).trans (hold5 _ (by omega))) ((hnew _ (by omega) (by omega)).trans (hold5 _ (by omega))) ((hnew _ (by omega) (by omega)).trans (hold5 _ (by omega)))
  have HF6 := Lib.hid (And.intro hfl6 (And.intro hr6 (And.intro hb6 (And.intro hld6 (And.intro hWl (And.intro hlv' (And.intro hkA hB5)))))))
  have H6 := Lib.hid hW6
  clear hr5 hg5 hat hW5 hB5 hold5 hfl hr5b hb5 hpw5 hnb h5 hkA hlvlt hnew hWl hlv' hW6 hfl6 hr6 hb6 hld6 c4
  go_wp2
  rw [← H6.out]
  go_loopg [39] s.size (fun k s39 wr => ∃ j : Nat, s39 = .int .i64 j ∧ k + j = s.size ∧ FillB (w.heap.size + 1) s.size 0 W6 wr)
  case atStart => exact ⟨0, rfl, by omega, HF6.out.1⟩
  case round =>
    obtain ⟨j, rfl, hk, hfl⟩ := hrel
    by_cases hj : j < s.size
    · have hjj : (j : Int) < (s.size : Int) := by omega
      obtain ⟨⟨u, hu⟩, hfr⟩ := hfl.cell hj
      have HF := Lib.hid hfl
      clear hfl hc5 hf5
      go_wp2
      go_roundg (gk - 1)
      case rel => exact ⟨j + 1, by go_simp, by omega, HF.out.set _ _⟩
      case measure => omega
    · have hje : j = s.size := by omega
      subst hje
      obtain ⟨-, hr6, hb6, hld6, hWl, hlv', hkA, hB5⟩ := HF6.out
      have l5 := (Array.getElem?_eq_some_iff.1 hr6).1
      have l8 := (Array.getElem?_eq_some_iff.1 hb6).1
      have hr7 := (hfl.keep.block _ l5 (by omega)).trans hr6
      have hb7 := (hfl.keep.block _ l8 (by omega)).trans hb6
      have a0 : wr.cell? ⟨w.heap.size, 0, none⟩ = some (.int .i64 0) := Joins.cell_of_block hr7 0
      have a1 : wr.cell? ⟨w.heap.size, 1, none⟩ = some (.string ⟨#[]⟩) := Joins.cell_of_block hr7 1
      have f0 : ∀ i, wr.frozen? ⟨w.heap.size, i, none⟩ = false := fun i => Joins.unfrozen_of_block hr7 i
      have b0 : wr.cell? ⟨w4.heap.size, 0, none⟩ = some (.int .i64 0) := Joins.cell_of_block hb7 0
      have b1 : wr.cell? ⟨w4.heap.size, 1, none⟩ = some (.string ⟨#[]⟩) := Joins.cell_of_block hb7 1
      have HF := Lib.hid (And.intro hfl hr7)
      clear hfl hr6 hb6 hr7 hb7 hc5 hf5 hld6 hWl hlv' hkA hB5
      go_wp2
      have hA : ArrAt w.heap.size 49 wr _ ((wr.setCell ⟨w.heap.size, 0, none⟩ (.int .i64 0)).setCell ⟨w.heap.size, 1, none⟩ (.string ⟨#[]⟩)) :=
        ((ArrAt.mk (W := wr) HF.out.2 (Keep.refl _ _)).set 0 _).set 1 _
      obtain ⟨hAb, hAk⟩ := hA
      simp only [List.setIfInBounds_toArray, List.set_cons_zero, List.set_cons_succ] at hAb
      refine bodyPost_ret (results_cell_row rfl _ _ w.heap.size 49 _ (0, 0) _ rfl hAb Tryz.underlying49 rfl (by kernel_rfl)) rfl ?_
      obtain ⟨-, hr6, hb6, hld6, hWl, hlv', hkA, hB5⟩ := HF6.out
      obtain ⟨-, hp, hm, hg, hB3⟩ := H3.out
      have hz2w := HX.out.1.size
      have hkE : Keep (fun b => b = w.heap.size + 1 ∨ b = w.heap.size) W6 _ := (HF.out.1.keep.mono fun _ _ h => .inl h).trans (hAk.mono fun _ _ h => .inr h)
      have l1 := hld6.rep.lt
      have l2 := hld6.book.lt
      have l3 := hld6.begun.lt
      have hW6z := hkA.size
      have hlw : ∀ b, (Value.slice lad ps.length lcap).ownBlock = some b → b < w.heap.size := fun b hb => (HX.out.2.2.2.row.lt b hb).2
      refine ⟨rfl, _, p, m, g, hWl.blocks (hkE.block _ (by omega) (by omega)) (fun b hb => hkE.block b (hWl.row.lt b hb).2 ?_), hld6.block (hkE.block _ l1 (by omega)) (hkE.block _ l2 (by omega)) (hkE.block _ l3 (by omega)), by omega, by omega, by omega, hlv', ?_⟩
      · intro e
        obtain ⟨cur, hcur⟩ := row_cells hWl.row hb
        rcases e with rfl | rfl
        · obtain ⟨cs, lo, hi, h1, -⟩ := HF6.out.1.block
          rw [h1] at hcur
          simp only [Option.some.injEq, Obj.cells.injEq] at hcur
          exact absurd hcur.2.1 (by decide)
        · rw [hr6] at hcur
          simp only [Option.some.injEq, Obj.cells.injEq] at hcur
          exact absurd hcur.2.1 (by decide)
      · exact ((Keep.of_below' (F := fun b => b = pw ∨ (Value.slice lad ps.length lcap).ownBlock = some b) hB5).trans hkA).trans' hkE (fun _ _ h => h) (fun b hb e => by omega)
end Go.Proofs.YtpdbmpbmepkikaaGreatDoor

namespace Go.Proofs.YtpdbmpbmepkikaaGreatDoor
open Go.RowKit

def decB (n : Nat) : ByteArray := ⟨(Lib.decDigits n).toArray⟩
theorem decB_size (n : Nat) (h : n ≤ 9223372036854775808) : (decB n).size ≤ 21 := by
  have := itoaB_size (-(n : Int)) (by constructor <;> omega)
  rcases Nat.eq_zero_or_pos n with rfl | hp
  · rw [decB, Lib.decDigits]; simp [ByteArray.size]
  · rw [itoaB, Lib.itoa_neg n hp] at this
    simp only [decB, ByteArray.size, List.size_toArray, List.length_cons] at this ⊢
    omega

set_option maxHeartbeats 1000000 in
theorem decN_any (n : Nat) : n ≤ 9223372036854775807 → ∀ w : World, Calls Tryz.prog 139 #[.int .i64 n] w fun e w' => e = .returned (.string (decB n)) ∧ Below w.heap.size w w' := by
  induction n using Nat.strongRecOn with
  | ind n ih =>
    intro hn w
    obtain ⟨z, hz⟩ : ∃ z : Int, z = (n : Int) := ⟨_, rfl⟩
    obtain ⟨d, hd⟩ : ∃ d, d = UInt8.ofNat (48 + n % 10) := ⟨_, rfl⟩
    have hdig : d.toNat = 48 + n % 10 := by
      rw [hd, UInt8.toNat_ofNat']; omega
    have hconv : ∀ W : World, (convert 79 9 (.slice (some ⟨W.heap.size, 0, none⟩) 1 1)).run Tryz.prog (W.alloc (.cells #[.int .u8 (48 + z % 10)] 5)) = .ok (.string ⟨#[d]⟩) (W.alloc (.cells #[.int .u8 (48 + z % 10)] 5)) := fun W => by
      refine run_convert_bytes_back (P := Tryz.prog) _ 79 9 5 ⟨W.heap.size, 0, none⟩ 1 [d] Tryz.underlying79 Tryz.underlying5 Tryz.underlying9 (fun j hj => ?_)
      refine newsAt rfl [.int .u8 (48 + z % 10)] 5 rfl j _ ?_
      have hj8 : j < 1 := hj
      obtain rfl : j = 0 := by omega
      simp only [List.getElem?_cons_zero, List.getElem_cons_zero, hdig, Option.some.injEq, Value.int.injEq, true_and]
      omega
    have w0 : IntKind.i64.wrap (z.tmod 10) = z % 10 := by rw [Int.tmod_eq_emod_of_nonneg (by omega), IntKind.wrap_i64]; omega
    have w1 : IntKind.i64.wrap (48 + z % 10) = 48 + z % 10 := by rw [IntKind.wrap_i64]; omega
    have w2 : IntKind.u8.wrap (48 + z % 10) = 48 + z % 10 := by rw [IntKind.wrap_u8]; omega
    have w3 : IntKind.i64.wrap (z.tdiv 10) = z / 10 := by rw [Int.tdiv_eq_ediv_of_nonneg (by omega), IntKind.wrap_i64]; omega
    have hz0 : ¬ z < 0 := by omega
    by_cases h10 : n < 10
    · have hz1 : z < 10 := by omega
      have HD : Hid (decB n = ⟨#[d]⟩) := Lib.hid (by rw [decB, Lib.decDigits, dif_pos h10, hd, Nat.mod_eq_of_lt h10])
      clear ih hd hdig
      rw [← hz]
      clear hz
      go_enter Tryz.func139, Tryz.ntmps139
      go_wp2
      go_ret
      exact ⟨by rw [HD.out]; rfl, (Below.refl _ _).alloc (Nat.le_refl _) _⟩
    · have hz1 : ¬ z < 10 := by omega
      have HD : Hid (decB n = decB (n / 10) ++ ⟨#[d]⟩) := Lib.hid (by
        rw [decB, Lib.decDigits, dif_neg h10, decB, hd]
        refine ByteArray.ext ?_
        simp)
      have hsz := decB_size (n / 10) (by omega)
      have HC : Hid (∀ W, Calls Tryz.prog 139 #[.int .i64 (z / 10)] W fun e w' => e = .returned (.string (decB (n / 10))) ∧ Below W.heap.size W w') := Lib.hid fun W => by
        have := ih (n / 10) (by omega) (by omega) W
        rwa [show ((n / 10 : Nat) : Int) = z / 10 by omega] at this
      obtain ⟨s, hs⟩ : ∃ s, s = decB (n / 10) := ⟨_, rfl⟩
      rw [← hs] at HC HD hsz
      clear ih hs hd hdig
      rw [← hz]
      clear hz
      go_enter Tryz.func139, Tryz.ntmps139
      go_wp2_with (go_at_call 139; go_must (refine (HC.out _).mono ?_); rintro e w5 ⟨rfl, hb⟩; have HB := Lib.hid hb; clear hb; refine Halt.of ?_)
      unfold Halt
      go_wp2
      go_ret
      exact ⟨by rw [HD.out]; rfl, ((Below.refl _ _).alloc (Nat.le_refl _) _).trans (HB.out.mono (by simp))⟩

set_option maxHeartbeats 1000000 in
theorem decimal_any (z : Int) (hz : I64 z) (w : World) : Calls Tryz.prog 139 #[.int .i64 z] w fun e w' => e = .returned (.string (itoaB z)) ∧ Below w.heap.size w w' := by
  obtain ⟨h1, h2⟩ := hz
  rcases Int.lt_or_le z 0 with hz0 | hz0
  · obtain ⟨n, hn⟩ : ∃ n : Nat, z = -(n : Int) := ⟨z.natAbs, by omega⟩
    have hp : 1 ≤ n := by omega
    have HI : Hid (itoaB z = ⟨#[45]⟩ ++ decB n) := Lib.hid (by
      rw [itoaB, hn, Lib.itoa_neg n hp, decB]
      refine ByteArray.ext ?_
      simp)
    by_cases hmin : z = -9223372036854775808
    · subst hmin
      clear HI hn
      go_enter Tryz.func139, Tryz.ntmps139
      go_wp2
      go_ret
      exact ⟨by rw [show itoaB (-9223372036854775808) = ⟨#[45, 57, 50, 50, 51, 51, 55, 50, 48, 51, 54, 56, 53, 52, 55, 55, 53, 56, 48, 56]⟩ by decide +kernel]; rfl, Below.refl _ _⟩
    · have w0 : IntKind.i64.wrap (-z) = -z := by rw [IntKind.wrap_i64]; omega
      have HC : Hid (Calls Tryz.prog 139 #[.int .i64 (-z)] w fun e w' => e = .returned (.string (decB n)) ∧ Below w.heap.size w w') := Lib.hid (by
        have := decN_any n (by omega) w
        rwa [show (n : Int) = -z by omega] at this)
      have hsz := decB_size n (by omega)
      obtain ⟨s, hs⟩ : ∃ s, s = decB n := ⟨_, rfl⟩
      rw [← hs] at HC HI hsz
      clear hs hn
      go_enter Tryz.func139, Tryz.ntmps139
      go_wp2_with (go_at_call 139; go_must (refine HC.out.mono ?_); rintro e w5 ⟨rfl, hb⟩; have HB := Lib.hid hb; clear hb; refine Halt.of ?_)
      unfold Halt
      go_wp2
      go_ret
      exact ⟨by rw [HI.out]; rfl, HB.out⟩
  · obtain ⟨n, rfl⟩ : ∃ n : Nat, z = (n : Int) := ⟨z.toNat, by omega⟩
    have := decN_any n (by omega) w
    rwa [show decB n = itoaB n by rw [decB, itoaB, Lib.itoa_nonneg]] at this
end Go.Proofs.YtpdbmpbmepkikaaGreatDoor

namespace Go.Proofs.YtpdbmpbmepkikaaGreatDoor
open Go.RowKit

def linesB (l : List Reg) (pfx : ByteArray) : ByteArray := (l.filter fun x => preB pfx x.key).foldl (fun s x => s ++ lineB x) ⟨#[]⟩
theorem linesB_snoc (l : List Reg) (pfx : ByteArray) (x : Reg) : linesB (l ++ [x]) pfx = if preB pfx x.key = true then linesB l pfx ++ lineB x else linesB l pfx := by
  unfold linesB
  rw [List.filter_append, List.foldl_append]
  by_cases h : preB pfx x.key = true
  · simp [h]
  · simp [h]
theorem linesB_take {l : List Reg} {j : Nat} (hj : j < l.length) (pfx : ByteArray) : linesB (l.take (j + 1)) pfx = if preB pfx l[j].key = true then linesB (l.take j) pfx ++ lineB l[j] else linesB (l.take j) pfx := by
  rw [List.take_add_one, List.getElem?_eq_getElem hj, Option.toList_some, linesB_snoc]
theorem linesB_size {l : List Reg} (pfx : ByteArray) (hF : ∀ x ∈ l, Fit x) : ∀ j, j ≤ l.length → (linesB (l.take j) pfx).size ≤ 20000 * j
  | 0, _ => by simp [linesB, ByteArray.size]
  | j + 1, h => by
    have := linesB_size pfx hF j (by omega)
    have h2 := lineB_size (hF l[j] (List.getElem_mem _))
    rw [linesB_take (by omega)]
    split
    · rw [ByteArray.size_append]; omega
    · omega

set_option maxHeartbeats 2000000 in
set_option maxRecDepth 100000 in
theorem linesD_any (l : List Reg) (lv : Value) (pfx : ByteArray) (w : World) (hl : ListAt w lv l) (hz : l.length ≤ 100000) (hF : ∀ x ∈ l, Fit x) :
    Calls Tryz.prog 82 #[lv, .string pfx] w fun e w' => e = .returned (.string (linesB l pfx)) ∧ Below w.heap.size w w' := by
  rcases hl.cases with ⟨rfl, rfl⟩ | ⟨g, cap, rfl, hg⟩
  · clear hl hF
    go_enter Tryz.func82, Tryz.ntmps82
    go_wp2
    go_loopg [5, 6] 0 (fun k n i wr => n = .string ⟨#[]⟩ ∧ i = .int .i64 0 ∧ wr = w)
    case atStart => exact ⟨rfl, rfl, rfl⟩
    case round =>
      obtain ⟨rfl, rfl, rfl⟩ := hrel
      go_wp2
      go_ret
      exact ⟨rfl, Below.refl _ _⟩
  · have HL := Lib.hid (And.intro hl hF)
    clear hl hF
    go_enter Tryz.func82, Tryz.ntmps82
    go_wp2
    go_loopg [5, 6] l.length (fun k n i wr => ∃ (j : Nat) (s : ByteArray), n = .string s ∧ s = linesB (l.take j) pfx ∧ i = .int .i64 j ∧ k + j = l.length ∧ Below w.heap.size w wr)
    case atStart => exact ⟨0, _, rfl, rfl, rfl, by omega, Below.refl _ _⟩
    case round =>
      obtain ⟨j, s, rfl, hs, rfl, hk, hB⟩ := hrel
      have hss : s.size ≤ 2000000000 := by
        have := linesB_size pfx HL.out.2 j (by omega)
        rw [← hs] at this; omega
      by_cases hj : j < l.length
      · obtain ⟨g', cap', hv, hg', y0, y1, y2, y3, y4⟩ := HL.out.1.cell hj
        obtain ⟨rfl, rfl⟩ : g = g' ∧ cap = cap' := by injection hv with h1 h2 h3; injection h1 with h1; injection h1 with h1; exact ⟨h1, h3⟩
        have hst := linesB_take hj pfx
        rw [← hs] at hst
        have hfx := HL.out.2 l[j] (List.getElem_mem _)
        obtain ⟨x, hx⟩ : ∃ x, x = l[j] := ⟨_, rfl⟩
        rw [← hx] at y0 y1 y2 y3 y4 hst hfx
        obtain ⟨n, f, c, r, v⟩ := x
        simp only [Reg.key] at y0 y1 y2 y3 y4 hst
        obtain ⟨hfn, hff, hfv, hfc, hfr⟩ := hfx
        simp only at hfn hff hfv hfc hfr
        have k0 : ∀ W, Below w.heap.size w W → W.cell? ⟨g, j * 5, none⟩ = some (.string n) := fun W hW => (hW.cell (p := ⟨_, _, none⟩) hg).trans y0
        have k1 : ∀ W, Below w.heap.size w W → W.cell? ⟨g, j * 5 + 1, none⟩ = some (.string f) := fun W hW => (hW.cell (p := ⟨_, _, none⟩) hg).trans y1
        have k2 : ∀ W, Below w.heap.size w W → W.cell? ⟨g, j * 5 + 2, none⟩ = some (.int .i64 c) := fun W hW => (hW.cell (p := ⟨_, _, none⟩) hg).trans y2
        have k3 : ∀ W, Below w.heap.size w W → W.cell? ⟨g, j * 5 + 3, none⟩ = some (.int .i64 r) := fun W hW => (hW.cell (p := ⟨_, _, none⟩) hg).trans y3
        have k4 : ∀ W, Below w.heap.size w W → W.cell? ⟨g, j * 5 + 4, none⟩ = some (.string v) := fun W hW => (hW.cell (p := ⟨_, _, none⟩) hg).trans y4
        have hjj : (j : Int) < (l.length : Int) := by omega
        obtain ⟨sc, hsc⟩ : ∃ s, itoaB c = s := ⟨_, rfl⟩
        obtain ⟨sr, hsr⟩ : ∃ s, itoaB r = s := ⟨_, rfl⟩
        obtain ⟨sv, hsv⟩ : ∃ s, itoaB v.size = s := ⟨_, rfl⟩
        have h64 : I64 v.size := by constructor <;> omega
        have z1 : sc.size ≤ 21 := hsc ▸ itoaB_size c hfc
        have z2 : sr.size ≤ 21 := hsr ▸ itoaB_size r hfr
        have z3 : sv.size ≤ 21 := hsv ▸ itoaB_size _ h64
        have hline : lineB ⟨n, f, c, r, v⟩ = n ++ ⟨#[46]⟩ ++ f ++ ⟨#[32]⟩ ++ sc ++ ⟨#[32]⟩ ++ sr ++ ⟨#[32]⟩ ++ sv ++ ⟨#[32]⟩ ++ v ++ ⟨#[10]⟩ := by rw [← hsc, ← hsr, ← hsv]; rfl
        have C1 : Hid (∀ W, Calls Tryz.prog 139 #[.int .i64 c] W fun e w' => e = .returned (.string sc) ∧ Below W.heap.size W w') := Lib.hid fun W => hsc ▸ decimal_any c hfc W
        have C2 : Hid (∀ W, Calls Tryz.prog 139 #[.int .i64 r] W fun e w' => e = .returned (.string sr) ∧ Below W.heap.size W w') := Lib.hid fun W => hsr ▸ decimal_any r hfr W
        have C3 : Hid (∀ W, Calls Tryz.prog 139 #[.int .i64 v.size] W fun e w' => e = .returned (.string sv) ∧ Below W.heap.size W w') := Lib.hid fun W => hsv ▸ decimal_any _ h64 W
        rw [hline] at hst
        obtain ⟨b, hb⟩ : ∃ b, b = preB pfx (keyOf2 n f) := ⟨_, rfl⟩
        have CB : Hid (∀ W, Calls Tryz.prog 138 #[.string (n ++ ⟨#[46]⟩ ++ f ++ ⟨#[0]⟩), .string pfx] W fun e w' => e = .returned (.bool b) ∧ w' = W) := Lib.hid fun W => by
          rw [hb]; exact beginsD_any _ _ W
        have hst1 : b = true → linesB (l.take (j + 1)) pfx = s ++ (n ++ ⟨#[46]⟩ ++ f ++ ⟨#[32]⟩ ++ sc ++ ⟨#[32]⟩ ++ sr ++ ⟨#[32]⟩ ++ sv ++ ⟨#[32]⟩ ++ v ++ ⟨#[10]⟩) := fun h => hst.trans (if_pos (hb.symm.trans h))
        have hst2 : b = false → linesB (l.take (j + 1)) pfx = s := fun h => hst.trans (if_neg (fun e => by have := hb.trans e; rw [h] at this; cases this))
        have HS := Lib.hid (And.intro hst1 hst2)
        clear y0 y1 y2 y3 y4 hv hx hst hst1 hst2 hs hline hb hsc hsr hsv hfc hfr h64
        have ak2 : ¬ ((9223372036854775807 : Int) < (n.size : Int) + 1) := by omega
        have aj2 : ¬ ((9223372036854775807 : Nat) < n.size + 1) := by omega
        have ak3 : ¬ ((9223372036854775807 : Int) < (n.size : Int) + 1 + (f.size : Int)) := by omega
        have aj3 : ¬ ((9223372036854775807 : Nat) < n.size + 1 + f.size) := by omega
        have ak4 : ¬ ((9223372036854775807 : Int) < (n.size : Int) + 1 + (f.size : Int) + 1) := by omega
        have aj4 : ¬ ((9223372036854775807 : Nat) < n.size + 1 + f.size + 1) := by omega
        have bk2 : ¬ ((9223372036854775807 : Int) < (s.size : Int) + (n.size : Int)) := by omega
        have bj2 : ¬ ((9223372036854775807 : Nat) < s.size + n.size) := by omega
        have bk3 : ¬ ((9223372036854775807 : Int) < (s.size : Int) + (n.size : Int) + 1) := by omega
        have bj3 : ¬ ((9223372036854775807 : Nat) < s.size + n.size + 1) := by omega
        have bk4 : ¬ ((9223372036854775807 : Int) < (s.size : Int) + (n.size : Int) + 1 + (f.size : Int)) := by omega
        have bj4 : ¬ ((9223372036854775807 : Nat) < s.size + n.size + 1 + f.size) := by omega
        have bk5 : ¬ ((9223372036854775807 : Int) < (s.size : Int) + (n.size : Int) + 1 + (f.size : Int) + 1) := by omega
        have bj5 : ¬ ((9223372036854775807 : Nat) < s.size + n.size + 1 + f.size + 1) := by omega
        have bk6 : ¬ ((9223372036854775807 : Int) < (s.size : Int) + (n.size : Int) + 1 + (f.size : Int) + 1 + (sc.size : Int)) := by omega
        have bj6 : ¬ ((9223372036854775807 : Nat) < s.size + n.size + 1 + f.size + 1 + sc.size) := by omega
        have bk7 : ¬ ((9223372036854775807 : Int) < (s.size : Int) + (n.size : Int) + 1 + (f.size : Int) + 1 + (sc.size : Int) + 1) := by omega
        have bj7 : ¬ ((9223372036854775807 : Nat) < s.size + n.size + 1 + f.size + 1 + sc.size + 1) := by omega
        have bk8 : ¬ ((9223372036854775807 : Int) < (s.size : Int) + (n.size : Int) + 1 + (f.size : Int) + 1 + (sc.size : Int) + 1 + (sr.size : Int)) := by omega
        have bj8 : ¬ ((9223372036854775807 : Nat) < s.size + n.size + 1 + f.size + 1 + sc.size + 1 + sr.size) := by omega
        have bk9 : ¬ ((9223372036854775807 : Int) < (s.size : Int) + (n.size : Int) + 1 + (f.size : Int) + 1 + (sc.size : Int) + 1 + (sr.size : Int) + 1) := by omega
        have bj9 : ¬ ((9223372036854775807 : Nat) < s.size + n.size + 1 + f.size + 1 + sc.size + 1 + sr.size + 1) := by omega
        have bk10 : ¬ ((9223372036854775807 : Int) < (s.size : Int) + (n.size : Int) + 1 + (f.size : Int) + 1 + (sc.size : Int) + 1 + (sr.size : Int) + 1 + (sv.size : Int)) := by omega
        have bj10 : ¬ ((9223372036854775807 : Nat) < s.size + n.size + 1 + f.size + 1 + sc.size + 1 + sr.size + 1 + sv.size) := by omega
        have bk11 : ¬ ((9223372036854775807 : Int) < (s.size : Int) + (n.size : Int) + 1 + (f.size : Int) + 1 + (sc.size : Int) + 1 + (sr.size : Int) + 1 + (sv.size : Int) + 1) := by omega
        have bj11 : ¬ ((9223372036854775807 : Nat) < s.size + n.size + 1 + f.size + 1 + sc.size + 1 + sr.size + 1 + sv.size + 1) := by omega
        have bk12 : ¬ ((9223372036854775807 : Int) < (s.size : Int) + (n.size : Int) + 1 + (f.size : Int) + 1 + (sc.size : Int) + 1 + (sr.size : Int) + 1 + (sv.size : Int) + 1 + (v.size : Int)) := by omega
        have bj12 : ¬ ((9223372036854775807 : Nat) < s.size + n.size + 1 + f.size + 1 + sc.size + 1 + sr.size + 1 + sv.size + 1 + v.size) := by omega
        have bk13 : ¬ ((9223372036854775807 : Int) < (s.size : Int) + (n.size : Int) + 1 + (f.size : Int) + 1 + (sc.size : Int) + 1 + (sr.size : Int) + 1 + (sv.size : Int) + 1 + (v.size : Int) + 1) := by omega
        have bj13 : ¬ ((9223372036854775807 : Nat) < s.size + n.size + 1 + f.size + 1 + sc.size + 1 + sr.size + 1 + sv.size + 1 + v.size + 1) := by omega
        go_wp2
        go_region_held3 (fun W => Below w.heap.size w W) (first | assumption | exact Below.drew (by assumption))
          ((go_at_call 138; refine Calls.mono (CB.out _) ?_; rintro e w2 ⟨rfl, rfl⟩))
        cases b with
        | false =>
          go_wp2
          go_roundg (gk - 1)
          case rel => exact ⟨j + 1, s, rfl, (HS.out.2 (by first | rfl | trivial)).symm, by go_simp, by omega, hB.drew⟩
          case measure => omega
        | true =>
          have hB0 : Below w.heap.size w wr.drew := hB.drew
          clear hB
          go_wp2_with (go_at_call 139; go_must (refine (C1.out _).mono ?_); rintro e w5 ⟨rfl, hb5⟩; have hB5 : Below w.heap.size w w5 := hB0.trans (hb5.mono hB0.size); clear hb5; refine Halt.of ?_)
          unfold Halt
          go_wp2_with (go_at_call 139; go_must (refine (C2.out _).mono ?_); rintro e w6 ⟨rfl, hb6⟩; have hB6 : Below w.heap.size w w6 := hB5.trans (hb6.mono hB5.size); clear hb6; refine Halt.of ?_)
          unfold Halt
          go_wp2_with (go_at_call 139; go_must (refine (C3.out _).mono ?_); rintro e w7 ⟨rfl, hb7⟩; have hB7 : Below w.heap.size w w7 := hB6.trans (hb7.mono hB6.size); clear hb7; refine Halt.of ?_)
          unfold Halt
          clear hB0 hB5 hB6
          go_wp2
          go_region_held3 (fun W => Below w.heap.size w W) (first | assumption | exact Below.drew (by assumption)) (fail)
          go_wp2
          go_roundg (gk - 1)
          case rel => exact ⟨j + 1, _, rfl, by rw [HS.out.1 (by first | rfl | trivial)]; simp only [ByteArray.append_assoc], by go_simp, by omega, hB7.drew⟩
          case measure => omega
      · have hje : j = l.length := by omega
        subst hje
        rw [List.take_length] at hs
        have HM := Lib.hid (And.intro hs hB)
        clear hs hB
        go_wp2
        go_ret
        exact ⟨by rw [← HM.out.1]; rfl, HM.out.2⟩
end Go.Proofs.YtpdbmpbmepkikaaGreatDoor

namespace Go.Proofs.YtpdbmpbmepkikaaGreatDoor
open Go.RowKit

theorem hashB_append (h : Int) (a b : ByteArray) : hashB h (a ++ b) = hashB (hashB h a) b := by
  unfold hashB hashT
  rw [ByteArray.data_append, Array.toList_append, List.foldl_append]
theorem hashB_lines (l : List Reg) (pfx : ByteArray) : hashB 14695981039346656037 (linesB l pfx) = hashL (l.filter fun x => preB pfx x.key) := by
  unfold linesB hashL
  generalize (l.filter fun x => preB pfx x.key) = q
  have key : ∀ (q : List Reg) (s : ByteArray), hashB 14695981039346656037 (q.foldl (fun s x => s ++ lineB x) s) = q.foldl (fun h x => hashB h (lineB x)) (hashB 14695981039346656037 s) := fun q => by
    induction q with
    | nil => intro s; rfl
    | cons x q ih => intro s; rw [List.foldl_cons, ih, List.foldl_cons, hashB_append]
  exact key q ⟨#[]⟩

theorem makeSlice79 (w : World) : (Instr.makeSlice 79 (.int .i64 8) (.int .i64 8)).run Tryz.prog w = .ok (.slice (some ⟨w.heap.size, 0, none⟩) 8 8) (w.alloc (.cells #[.int .u8 0, .int .u8 0, .int .u8 0, .int .u8 0, .int .u8 0, .int .u8 0, .int .u8 0, .int .u8 0] 5)) := by kernel_rfl

theorem convDig (h : Int) (W : World) : (convert 79 9 (.slice (some ⟨W.heap.size, 0, none⟩) 8 8)).run Tryz.prog (W.alloc (.cells #[.int .u8 (h / 72057594037927936 % 256), .int .u8 (h / 281474976710656 % 256), .int .u8 (h / 1099511627776 % 256), .int .u8 (h / 4294967296 % 256), .int .u8 (h / 16777216 % 256), .int .u8 (h / 65536 % 256), .int .u8 (h / 256 % 256), .int .u8 (h % 256)] 5)) = .ok (.string (digStr h)) (W.alloc (.cells #[.int .u8 (h / 72057594037927936 % 256), .int .u8 (h / 281474976710656 % 256), .int .u8 (h / 1099511627776 % 256), .int .u8 (h / 4294967296 % 256), .int .u8 (h / 16777216 % 256), .int .u8 (h / 65536 % 256), .int .u8 (h / 256 % 256), .int .u8 (h % 256)] 5)) := by
  have hby : ∀ z : Int, ((UInt8.ofNat (z % 256).toNat).toNat : Int) = z % 256 := fun z => by
    have h1 := Int.emod_nonneg z (show (256 : Int) ≠ 0 by decide)
    have h2 := Int.emod_lt_of_pos z (show (0 : Int) < 256 by decide)
    simp only [UInt8.toNat_ofNat']
    omega
  refine run_convert_bytes_back (P := Tryz.prog) _ 79 9 5 ⟨W.heap.size, 0, none⟩ 8 (digStr h).data.toList Tryz.underlying79 Tryz.underlying5 Tryz.underlying9 (fun j hj => ?_)
  refine newsAt rfl [.int .u8 (h / 72057594037927936 % 256), .int .u8 (h / 281474976710656 % 256), .int .u8 (h / 1099511627776 % 256), .int .u8 (h / 4294967296 % 256), .int .u8 (h / 16777216 % 256), .int .u8 (h / 65536 % 256), .int .u8 (h / 256 % 256), .int .u8 (h % 256)] 5 rfl j _ ?_
  have hj8 : j < 8 := hj
  have : j = 0 ∨ j = 1 ∨ j = 2 ∨ j = 3 ∨ j = 4 ∨ j = 5 ∨ j = 6 ∨ j = 7 := by omega
  rcases this with rfl | rfl | rfl | rfl | rfl | rfl | rfl | rfl <;> simp [digStr] <;> omega

set_option maxHeartbeats 2000000 in
set_option maxRecDepth 100000 in
theorem hashD_any (s : ByteArray) (w : World) (hs : s.size ≤ 1099511627776) :
    Calls Tryz.prog 83 #[.string s] w fun e w' => e = .returned (.string (digStr (hashB 14695981039346656037 s))) ∧ Below w.heap.size w w' := by
  have hmk := makeSlice79
  go_enter Tryz.func83, Tryz.ntmps83
  go_wp2
  go_loopg [3, 4] s.size (fun k t3 t4 wr => ∃ (j : Nat) (h : Int), t3 = .int .u64 h ∧ h = hashT 14695981039346656037 (s.data.toList.take j) ∧ t4 = .int .i64 j ∧ k + j = s.size ∧ wr = w)
  case atStart => exact ⟨0, _, rfl, by simp [hashT], rfl, by omega, rfl⟩
  case round =>
    obtain ⟨j, h, rfl, hh, rfl, hk, rfl⟩ := hrel
    by_cases hj : j < s.size
    · have hjj : (j : Int) < (s.size : Int) := by omega
      have hst : hashT 14695981039346656037 (s.data.toList.take (j + 1)) = stepH h (s[j]'hj).toNat := by
        have hj' : j < s.data.size := hj
        rw [hashT_take _ _ _ (by simpa using hj'), ← hh]
        simp [ByteArray.getElem_eq_getElem_data]
      have HH := Lib.hid hst
      clear hh hst
      go_wp2
      go_roundg (gk - 1)
      case rel => exact ⟨j + 1, _, rfl, by rw [HH.out]; rfl, by go_simp, by omega, rfl⟩
      case measure => omega
    · have hje : j = s.size := by omega
      subst hje
      rw [List.take_of_length_le (by rw [Array.length_toList]; exact Nat.le_refl _)] at hh
      have HH : Hid (h = hashB 14695981039346656037 s) := Lib.hid hh
      clear hh
      go_wp2
      have hconv := convDig h
      refine wp_loop_rounds 9 ?_
      iterate 9 (try (rw [rounds_succ]; go_wp2))
      go_ret
      exact ⟨by rw [← HH.out]; rfl, (Below.refl _ _).alloc (Nat.le_refl _) _⟩
end Go.Proofs.YtpdbmpbmepkikaaGreatDoor

namespace Go.Proofs.YtpdbmpbmepkikaaGreatDoor
open Go.RowKit

structure AskR (N K : Nat) (x pw : Nat) (pv qv : Value) (os : List One) (b : Nat) (cs : Array Value) (v : Value) (l : List ByteArray) (w0 W : World) : Prop where
  ask : AskAt N K x pw pv qv os b cs w0 W
  row : StrAt W v l
theorem AskR.later {N K : Nat} {x pw : Nat} {pv qv : Value} {os : List One} {b : Nat} {cs : Array Value} {w0 W W' : World} {v : Value} {l : List ByteArray} (h : AskR N K x pw pv qv os b cs v l w0 W) (hb : Below W.heap.size W W') : AskR N K x pw pv qv os b cs v l w0 W' :=
  ⟨h.ask.later hb, h.row.below hb (Nat.le_refl _)⟩
theorem AskR_drew {N K : Nat} {x pw : Nat} {pv qv : Value} {os : List One} {b : Nat} {cs : Array Value} {w0 W : World} {v : Value} {l : List ByteArray} : AskR N K x pw pv qv os b cs v l w0 W.drew ↔ AskR N K x pw pv qv os b cs v l w0 W :=
  ⟨fun h => h.later ⟨rfl, rfl, rfl, Nat.le_refl _, fun _ _ => rfl⟩, fun h => h.later ⟨rfl, rfl, rfl, Nat.le_refl _, fun _ _ => rfl⟩⟩

set_option maxHeartbeats 2000000 in
set_option maxRecDepth 100000 in
theorem asks4_any (N K x pw : Nat) (pv qv : Value) (os : List One) (i : Nat) (o : One) (a b c : Int) (s t u : ByteArray) (w : World) (hK : K ≤ 100000) (hos : os.length ≤ 100000) (h : LawAt N K w x pw pv qv os) (ho : Who os i o) (hs : s.size ≤ 4096) :
    Calls Tryz.prog 49 #[.pointer (some ⟨x, 0, none⟩), .agg #[.int .i64 4, .int .i64 a, .int .i64 b, .int .i64 c, .string s, .string t, .string u], .int .i64 i] w fun e w' => e = .returned (.bool true) ∧ Below w.heap.size w w' := by
  obtain ⟨g, cap, hqv, hg, hci⟩ := h.cell ho.lt
  rw [ho.get] at hci
  subst hqv
  have hlt := ho.lt
  obtain ⟨cs, hcs⟩ : ∃ cs : Array Value, cs = #[.int .i64 4, .int .i64 a, .int .i64 b, .int .i64 c, .string s, .string t, .string u] := ⟨_, rfl⟩
  have C1 : Hid (∀ W, AskAt N K x pw pv (.slice (some ⟨g, 0, none⟩) os.length cap) os w.heap.size cs w W → Calls Tryz.prog 27 #[.pointer (some ⟨pw, 0, none⟩), .int .i64 i, .string s] W fun e W' => ∃ v, e = .returned (.tuple #[v, .bool true]) ∧ AskAt N K x pw pv (.slice (some ⟨g, 0, none⟩) os.length cap) os w.heap.size cs w W' ∧ Hid (AskR N K x pw pv (.slice (some ⟨g, 0, none⟩) os.length cap) os w.heap.size cs v (fvs (fieldsD o.l s)) w W')) :=
    Lib.hid fun W hW => (hW.fields hK hos ho s hs).mono fun e W' ⟨v, he, hA, hr⟩ => ⟨v, he, hA, Lib.hid ⟨hA, .of_row hr⟩⟩
  have C2 : Hid (∀ v W, AskR N K x pw pv (.slice (some ⟨g, 0, none⟩) os.length cap) os w.heap.size cs v (fvs (fieldsD o.l s)) w W → Calls Tryz.prog 77 #[o.lv, .string s] W fun e W' => ∃ f, e = .returned f ∧ AskR N K x pw pv (.slice (some ⟨g, 0, none⟩) os.length cap) os w.heap.size cs v (fvs (fieldsD o.l s)) w W' ∧ Hid (W'.ownsRow W.heap.size 154 5 f (fieldsD o.l s).length (rows (fieldsD o.l s)))) :=
    Lib.hid fun v W hW => (fieldsD_any o.l o.lv s W (hW.ask.law.ones o ho.mem).list (by have := (hW.ask.law.small hK ho).1; omega)).mono fun e W' ⟨f, he, hr, hb⟩ => ⟨f, he, hW.later hb, Lib.hid hr⟩
  obtain ⟨w1, hw1⟩ : ∃ w1, w1 = w.alloc (.cells cs 102) := ⟨_, rfl⟩
  have hA1 : AskAt N K x pw pv (.slice (some ⟨g, 0, none⟩) os.length cap) os w.heap.size cs w w1 := hw1 ▸ AskAt.new h cs
  have y0 : ∀ W, AskAt N K x pw pv (.slice (some ⟨g, 0, none⟩) os.length cap) os w.heap.size cs w W → W.cell? ⟨x, 0, none⟩ = some (.pointer (some ⟨pw, 0, none⟩)) := fun W hW => hW.x0
  have y4 : ∀ W, AskAt N K x pw pv (.slice (some ⟨g, 0, none⟩) os.length cap) os w.heap.size cs w W → W.cell? ⟨w.heap.size, 4, none⟩ = some (.string s) := fun W hW => (hW.bc 4).trans (by rw [hcs]; rfl)
  have z1 : ∀ v W, AskR N K x pw pv (.slice (some ⟨g, 0, none⟩) os.length cap) os w.heap.size cs v (fvs (fieldsD o.l s)) w W → W.cell? ⟨o.q, 1, none⟩ = some o.lv := fun v W hW => hW.ask.q1 ho
  have z4 : ∀ v W, AskR N K x pw pv (.slice (some ⟨g, 0, none⟩) os.length cap) os w.heap.size cs v (fvs (fieldsD o.l s)) w W → W.cell? ⟨w.heap.size, 4, none⟩ = some (.string s) := fun v W hW => y4 W hW.ask
  have hx1 : w.cell? ⟨x, 1, none⟩ = some (.slice (some ⟨g, 0, none⟩) os.length cap) := Joins.cell_of_block h.box 1
  have hxl := h.xlt
  have HZ := Lib.hid (And.intro z1 z4)
  have hii : (i : Int) < (os.length : Int) := by omega
  rw [hcs] at hw1
  have HB1 := Lib.hid hw1
  clear h hs hcs hw1 z1 z4 hlt
  go_enter Tryz.func49, Tryz.ntmps49
  go_wp2
  rw [← HB1.out]
  go_region_held3 (fun W => AskAt N K x pw pv (.slice (some ⟨g, 0, none⟩) os.length cap) os w.heap.size cs w W) (with_reducible (first | assumption | (rw [AskAt_drew]; assumption)))
    ((first | (go_at_call 27; refine Calls.mono (C1.out _ ?hw1) ?_; (case hw1 => with_reducible (first | assumption | (rw [AskAt_drew]; assumption))); rintro e w2 ⟨v, rfl, hA2, hx2⟩)))
  have hR2 := hx2.out
  have z1 := HZ.out.1 v
  have z4 := HZ.out.2 v
  have HC2 := Lib.hid (C2.out v)
  clear y0 y4 hA1 hA2 hx2 HZ C1 C2 HB1 hx1 hci hii hxl hg
  go_wp2
  go_region_held3 (fun W => AskR N K x pw pv (.slice (some ⟨g, 0, none⟩) os.length cap) os w.heap.size cs v (fvs (fieldsD o.l s)) w W) (with_reducible (first | assumption | (rw [AskR_drew]; assumption)))
    ((first | (go_at_call 77; refine Calls.mono (HC2.out _ ?hw1) ?_; (case hw1 => with_reducible (first | assumption | (rw [AskR_drew]; assumption))); rintro e w3 ⟨f, rfl, hA3, hx3⟩)))
  have hF := (hA3.ask.law.small hK ho).1
  have hFl : (fieldsD o.l s).length ≤ 100000 := Nat.le_trans (List.length_filter_le _ _) hF
  obtain ⟨F, hFe⟩ : ∃ F, F = fieldsD o.l s := ⟨_, rfl⟩
  rw [← hFe] at hFl hA3 hx3
  have hL3 : ListAt w3 f F := ListAt.of_row hx3.out
  obtain ⟨i0, hi9, hq0, hq1, hq2⟩ := info_parts info9
  obtain ⟨fad, fcap, hfv⟩ : ∃ fad fcap, f = .slice fad F.length fcap := by
    rcases hL3.cases with ⟨rfl, rfl⟩ | ⟨g, cap, rfl, _⟩ <;> exact ⟨_, _, rfl⟩
  subst hfv
  have HA3 := Lib.hid (And.intro hA3 hL3)
  have hstr : StrAt w3 v (fvs F) := hA3.row
  have HBW : Hid (Below w.heap.size w w3) := Lib.hid hA3.ask.below
  have HSt := Lib.hid hstr
  have hlf := fvs_length F
  clear hA3 hx3 hL3 hstr hFe hF HC2 z1 z4 hR2 ho hK hos
  go_wp2
  go_loopg [11, 12] F.length (fun k s11 sk wr => ∃ (sv : Value) (j : Nat), sv = s11 ∧ sk = .int .i64 j ∧ k + j = F.length ∧ OutAt w3 9 1 sv (2 * j) ((fvs (F.take j)).map .string) wr)
  case atStart => exact ⟨_, 0, rfl, rfl, by omega, OutAt.new _ _ _⟩
  case round =>
    obtain ⟨sv, j, rfl, rfl, hk, hO⟩ := hrel
    by_cases hj : j < F.length
    · obtain ⟨g', cap', hv', hg', y0, y1, y2, y3, y4⟩ := HA3.out.2.cell hj
      simp only [Value.slice.injEq] at hv'
      obtain ⟨rfl, -, rfl⟩ := hv'
      obtain ⟨fl, hfl⟩ : ∃ fl, fl = F[j].field := ⟨_, rfl⟩
      obtain ⟨vl, hvl⟩ : ∃ vl, vl = F[j].value := ⟨_, rfl⟩
      rw [← hfl] at y1
      rw [← hvl] at y4
      have htk : fvs (F.take (j + 1)) = fvs (F.take j) ++ [fl, vl] := by
        rw [List.take_add_one, List.getElem?_eq_getElem hj, Option.toList_some, fvs_snoc, hfl, hvl]
      obtain ⟨so, hso⟩ : ∃ so, so = (fvs (F.take j)).map Value.string := ⟨_, rfl⟩
      rw [← hso] at hO
      have hjj : (j : Int) < (F.length : Int) := by omega
      have k1 : ∀ W, Bel w3 W → W.cell? ⟨g', j * 5 + 1, none⟩ = some (.string fl) := fun W hW => (hW.cell (p := ⟨g', j * 5 + 1, none⟩) hg').trans y1
      have k4 : ∀ W, Bel w3 W → W.cell? ⟨g', j * 5 + 4, none⟩ = some (.string vl) := fun W hW => (hW.cell (p := ⟨g', j * 5 + 4, none⟩) hg').trans y4
      have hBr : Bel w3 wr := hO.below
      have HO := Lib.hid hO
      have HS := Lib.hid (And.intro htk hso)
      clear y0 y1 y2 y3 y4 hO htk hso hfl hvl hlf
      go_wp2
      go_region_held3 (fun W => Bel w3 W) (first | assumption | (rw [Bel_drew]; assumption) | exact Bel.alloc (by assumption) _ | exact (OutAt.append (OutAt.alloc (OutAt_drew.2 HO.out) _) hg5 hr5).below)
        ((rw [if_pos (by rfl)]; refine oper_append_own_at _ _ 51 rfl w3.heap.size 9 i0 (.string ⟨#[]⟩) 1 16 Tryz.underlying51 hi9 hq0 hq1 hq2 rfl (by decide) sv (2 * j) so rfl (OutAt.alloc (OutAt_drew.2 HO.out) _).row ⟨wr.drew.heap.size, 0, none⟩ 2 2 [.string fl, .string vl] rfl rfl (news5 _ _ _ rfl) (by simp [Value.oneCell']) (by unfold maxLen; omega) (by omega) (by have := HO.out.below.size; simp; omega) ?_; intro v5 w5 hr5 hg5 _))
      skip
      go_wp2
      go_roundg (gk - 1)
      case rel =>
        refine ⟨_, j + 1, rfl, by go_simp, by omega, ?_⟩
        have h6 : OutAt w3 9 1 v5 (2 * j + 2) (so ++ [.string fl, .string vl]) w5 := OutAt.append (OutAt.alloc (OutAt_drew.2 HO.out) _) hg5 hr5
        rw [HS.out.1, List.map_append, ← HS.out.2]
        exact h6
      case measure => omega
    · have hje : j = F.length := by omega
      subst hje
      rw [List.take_length] at hO
      have hw4 : StrAt wr sv (fvs F) := by
        have := ownsRow_base hO.row fun k hk => Nat.zero_le k
        unfold StrAt
        rw [hlf]; exact this
      have hv4 : StrAt wr v (fvs F) := HSt.out.below hO.below (Nat.le_refl _)
      have HC := Lib.hid (sameL_any v sv (fvs F) wr hv4 hw4 (by rw [hlf]; omega))
      have HO := Lib.hid (show Below w.heap.size w wr from HBW.out.trans (hO.below.mono HBW.out.size))
      clear hO hw4 hv4 hlf
      go_wp2_with (go_at_call 78; go_must (refine HC.out.mono ?_); rintro e w5 ⟨rfl, hb5⟩)
      have HB5 := Lib.hid hb5
      go_ret
      exact ⟨rfl, HO.out.trans (hb5.mono HO.out.size)⟩
end Go.Proofs.YtpdbmpbmepkikaaGreatDoor

namespace Go.Proofs.YtpdbmpbmepkikaaGreatDoor
open Go.RowKit

theorem namesD_length (l : List Reg) (pfx : ByteArray) : (namesD l pfx).length ≤ l.length := by
  have key : ∀ (q : List Reg) (out : List ByteArray), (q.foldl (stepN l pfx) out).length ≤ out.length + q.length := fun q => by
    induction q with
    | nil => intro out; simp
    | cons y q ih =>
      intro out
      rw [List.foldl_cons]
      refine Nat.le_trans (ih _) ?_
      have : (stepN l pfx out y).length ≤ out.length + 1 := by unfold stepN; split <;> simp
      simp only [List.length_cons]
      omega
  have := key l []
  simpa [namesD] using this

set_option maxHeartbeats 2000000 in
set_option maxRecDepth 100000 in
theorem asks5_any (N K x pw : Nat) (pv qv : Value) (os : List One) (i : Nat) (o : One) (a b c : Int) (s t u : ByteArray) (w : World) (hK : K ≤ 100000) (hos : os.length ≤ 100000) (h : LawAt N K w x pw pv qv os) (ho : Who os i o) :
    Calls Tryz.prog 49 #[.pointer (some ⟨x, 0, none⟩), .agg #[.int .i64 5, .int .i64 a, .int .i64 b, .int .i64 c, .string s, .string t, .string u], .int .i64 i] w fun e w' => e = .returned (.bool true) ∧ Below w.heap.size w w' := by
  obtain ⟨g, cap, hqv, hg, hci⟩ := h.cell ho.lt
  rw [ho.get] at hci
  subst hqv
  have hlt := ho.lt
  obtain ⟨cs, hcs⟩ : ∃ cs : Array Value, cs = #[.int .i64 5, .int .i64 a, .int .i64 b, .int .i64 c, .string s, .string t, .string u] := ⟨_, rfl⟩
  have C1 : Hid (∀ W, AskAt N K x pw pv (.slice (some ⟨g, 0, none⟩) os.length cap) os w.heap.size cs w W → Calls Tryz.prog 29 #[.pointer (some ⟨pw, 0, none⟩), .int .i64 i, .string s] W fun e W' => ∃ v, e = .returned v ∧ AskAt N K x pw pv (.slice (some ⟨g, 0, none⟩) os.length cap) os w.heap.size cs w W' ∧ Hid (AskR N K x pw pv (.slice (some ⟨g, 0, none⟩) os.length cap) os w.heap.size cs v (namesD o.l s) w W')) :=
    Lib.hid fun W hW => by
      have h1 := hW.law.ones o ho.mem
      have hp : (os.map (·.p))[i]'(by simpa using ho.lt) = o.p := by simp [ho.get]
      refine (namesW_any pw pv (os.map (·.p)) i (by simpa using ho.lt) o.id o.m o.g o.L s W hW.law.wld (by simp; omega) (by rw [hp]; exact h1.rep) h1.book (by have := (hW.law.small hK ho).2; omega) (fun y hy => ?_)).mono fun e W' ⟨v, xs, he, hx, hm, hr, hb⟩ => ⟨v, he, hW.later hb, Lib.hid ⟨hW.later hb, ?_⟩⟩
      · have := (h1.bk.goodL y hy).name8; omega
      · rw [h1.bk.names s hx hm] at hr
        exact .of_row hr
  have C2 : Hid (∀ v W, AskR N K x pw pv (.slice (some ⟨g, 0, none⟩) os.length cap) os w.heap.size cs v (namesD o.l s) w W → Calls Tryz.prog 79 #[o.lv, .string s] W fun e W' => ∃ f, e = .returned f ∧ AskR N K x pw pv (.slice (some ⟨g, 0, none⟩) os.length cap) os w.heap.size cs v (namesD o.l s) w W' ∧ Hid (StrAt W' f (namesD o.l s))) :=
    Lib.hid fun v W hW => (namesD_any o.l o.lv s W (hW.ask.law.ones o ho.mem).list (by have := (hW.ask.law.small hK ho).1; omega)).mono fun e W' ⟨f, he, hr, hb⟩ => ⟨f, he, hW.later hb, Lib.hid (.of_row hr)⟩
  obtain ⟨w1, hw1⟩ : ∃ w1, w1 = w.alloc (.cells cs 102) := ⟨_, rfl⟩
  have hA1 : AskAt N K x pw pv (.slice (some ⟨g, 0, none⟩) os.length cap) os w.heap.size cs w w1 := hw1 ▸ AskAt.new h cs
  have y0 : ∀ W, AskAt N K x pw pv (.slice (some ⟨g, 0, none⟩) os.length cap) os w.heap.size cs w W → W.cell? ⟨x, 0, none⟩ = some (.pointer (some ⟨pw, 0, none⟩)) := fun W hW => hW.x0
  have y4 : ∀ W, AskAt N K x pw pv (.slice (some ⟨g, 0, none⟩) os.length cap) os w.heap.size cs w W → W.cell? ⟨w.heap.size, 4, none⟩ = some (.string s) := fun W hW => (hW.bc 4).trans (by rw [hcs]; rfl)
  have z1 : ∀ v W, AskR N K x pw pv (.slice (some ⟨g, 0, none⟩) os.length cap) os w.heap.size cs v (namesD o.l s) w W → W.cell? ⟨o.q, 1, none⟩ = some o.lv := fun v W hW => hW.ask.q1 ho
  have z4 : ∀ v W, AskR N K x pw pv (.slice (some ⟨g, 0, none⟩) os.length cap) os w.heap.size cs v (namesD o.l s) w W → W.cell? ⟨w.heap.size, 4, none⟩ = some (.string s) := fun v W hW => y4 W hW.ask
  have hx1 : w.cell? ⟨x, 1, none⟩ = some (.slice (some ⟨g, 0, none⟩) os.length cap) := Joins.cell_of_block h.box 1
  have hxl := h.xlt
  have HZ := Lib.hid (And.intro z1 z4)
  have hii : (i : Int) < (os.length : Int) := by omega
  rw [hcs] at hw1
  have HB1 := Lib.hid hw1
  clear h hcs hw1 z1 z4 hlt
  go_enter Tryz.func49, Tryz.ntmps49
  go_wp2
  rw [← HB1.out]
  go_region_held3 (fun W => AskAt N K x pw pv (.slice (some ⟨g, 0, none⟩) os.length cap) os w.heap.size cs w W) (with_reducible (first | assumption | (rw [AskAt_drew]; assumption)))
    ((first | (go_at_call 29; refine Calls.mono (C1.out _ ?hw1) ?_; (case hw1 => with_reducible (first | assumption | (rw [AskAt_drew]; assumption))); rintro e w2 ⟨v, rfl, hA2, hx2⟩)))
  have hR2 := hx2.out
  have z1 := HZ.out.1 v
  have z4 := HZ.out.2 v
  have HC2 := Lib.hid (C2.out v)
  clear y0 y4 hA1 hA2 hx2 HZ C1 C2 HB1 hx1 hci hii hxl hg
  go_wp2
  go_region_held3 (fun W => AskR N K x pw pv (.slice (some ⟨g, 0, none⟩) os.length cap) os w.heap.size cs v (namesD o.l s) w W) (with_reducible (first | assumption | (rw [AskR_drew]; assumption)))
    ((first | (go_at_call 79; refine Calls.mono (HC2.out _ ?hw1) ?_; (case hw1 => with_reducible (first | assumption | (rw [AskR_drew]; assumption))); rintro e w3 ⟨f, rfl, hA3, hx3⟩)))
  have hnl : (namesD o.l s).length ≤ 100000 := Nat.le_trans (namesD_length o.l s) (hA3.ask.law.small hK ho).1
  have HC := Lib.hid (sameL_any v f (namesD o.l s) w3 hA3.row hx3.out (by omega))
  have HO := Lib.hid hA3.ask.below
  clear hA3 hx3 HC2 z1 z4 hR2 ho hK hos hnl
  go_wp2_with (go_at_call 78; go_must (refine HC.out.mono ?_); rintro e w5 ⟨rfl, hb5⟩)
  have HB5 := Lib.hid hb5
  go_ret
  exact ⟨rfl, HO.out.trans (hb5.mono HO.out.size)⟩
end Go.Proofs.YtpdbmpbmepkikaaGreatDoor
