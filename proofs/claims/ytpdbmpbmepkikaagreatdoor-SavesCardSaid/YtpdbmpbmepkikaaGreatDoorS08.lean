/- PlnB: Contracts of plain's World: Put, Delete. Conditions: short texts; the counter is none of the greatest.
   PlnF: Contracts of plain's World: Digest.
   SavB: Bytes that the program gathers; its number, as the plain words say. Conditions: at most 2^40 bytes; a number of 64 bits.
   SavC: The program's text and twist, as the plain words say. Conditions: at most 2^40 bytes.
   SavD: A register as the program's bytes. Conditions: a register that the program holds; at most 2^39 bytes ahead of it.
   BookS: The contract of what a replica's Fields hands out.
   BookT: The contract of what a replica's Fields hands out, handed a closure.
   PlnE: Contracts of plain's World: Fields. Conditions: at most 500000 registers; short names.
   HeldZ: A region that draws its order, whose last operation (number z) waits for all the others: what is held of the world is held till then, and not behind it. No program in sight. -/
import Derived.Test.YtpdbmpbmepkikaaGreatDoorS07
import Derived.Test.YtpdbmpbmepkikaaGreatDoorS05
import Derived.Test.YtpdbmpbmepkikaaGreatDoorS06
import Derived.Laws.IdiomStrings
import Derived.Lib.AppendStr
import Derived.Lib.Zigzag
import Derived.Test.YtpdbmpbmepkikaaGreatDoorS04
import Derived.Deep.RegionHeld3
import Derived.Test.YtpdbmpbmepkikaaGreatDoorS03
set_option linter.all false
set_option linter.unusedSimpArgs false
set_option linter.unusedVariables false

namespace Go.Proofs.YtpdbmpbmepkikaaGreatDoor
open Go.RowKit

/-- A World's block, and the row of its replicas. -/
structure WldAt (w : World) (pw : Nat) (lv : Value) (ps : List Nat) : Prop where
  box : w.heap[pw]? = some (.cells #[lv] 74 (0, 0))
  row : w.ownsRow 0 77 1 lv ps.length (ps.map fun p => .pointer (some ⟨p, 0, none⟩))
theorem WldAt.cell {w : World} {pw : Nat} {lv : Value} {ps : List Nat} (h : WldAt w pw lv ps) {i : Nat} (hi : i < ps.length) : ∃ g cap, lv = .slice (some ⟨g, 0, none⟩) ps.length cap ∧ g < w.heap.size ∧ w.cell? ⟨g, i, none⟩ = some (.pointer (some ⟨ps[i], 0, none⟩)) := by
  obtain ⟨h1, h2⟩ := h.row
  rcases h2 with ⟨_, h2⟩ | ⟨g, cap, cur, hv, _, hg, hn, _, _, ht⟩
  · omega
  · refine ⟨g, cap, hv, (Array.getElem?_eq_some_iff.1 hg).1, ?_⟩
    rw [Joins.cell_of_block hg i]
    have h3 : (ps.map fun p => Value.pointer (some ⟨p, 0, none⟩))[i]? = some (.pointer (some ⟨ps[i], 0, none⟩)) := by simp [hi]
    rw [← h3, ← ht, List.getElem?_take_of_lt (by omega)]
    simp

theorem parts_any (v : Value) (k : Int) (s : ByteArray) (w : World) (hg : EType w) (h : ErrAt w v k s) :
    Calls Tryz.prog 42 #[v] w fun e w' => e = .returned (.agg #[.int .i64 k, .string s]) ∧ Below w.heap.size w w' := by
  rcases h with ⟨rfl, rfl, rfl⟩ | ⟨q, rfl, hq, h1, h5⟩
  · exact parts_nil w
  · exact parts_err q k s w hg hq h1 h5

theorem putW_any (pw : Nat) (lv : Value) (ps : List Nat) (i : Nat) (hi : i < ps.length) (id : Int) (m g : Nat) (L : List Reg) (n f v : ByteArray) (w : World) (hW : WldAt w pw lv ps) (hps : ps.length ≤ 1000000) (hR : RepAt w ps[i] id m g) (hB : BookAt w m L) (hm0 : m ≠ 0) (hT : EType w)
    (hn : n.size ≤ 65536) (hf : f.size ≤ 65536) (hc : clockL L < 9223372036854775807) :
    Calls Tryz.prog 26 #[.pointer (some ⟨pw, 0, none⟩), .int .i64 i, .string n, .string f, .string v] w fun e w' => e = .returned (.agg #[.int .i64 (putP L id n f v).2.1, .string (putP L id n f v).2.2]) ∧ BookAt w' m (putP L id n f v).1 ∧ Keep (fun b => b = m) w w' := by
  obtain ⟨gs, cap, hv, hg, hci⟩ := hW.cell hi
  subst hv
  obtain ⟨p, hp⟩ : ∃ p, p = ps[i] := ⟨_, rfl⟩
  rw [← hp] at hR hci
  have hpwl := (Array.getElem?_eq_some_iff.1 hW.box).1
  have hml := hB.lt
  have hcw : w.cell? ⟨pw, 0, none⟩ = some (.slice (some ⟨gs, 0, none⟩) ps.length cap) := Joins.cell_of_block hW.box 0
  obtain ⟨w1, hw1⟩ : ∃ w1, w1 = w.alloc (.cells #[.int .i64 0, .string ⟨#[]⟩] 49) := ⟨_, rfl⟩
  have hb1 : Below w.heap.size w w1 := by rw [hw1]; exact (Below.refl _ _).alloc (Nat.le_refl _) _
  have hz1 : w1.heap.size = w.heap.size + 1 := by rw [hw1]; simp
  have hres : w1.heap[w.heap.size]? = some (.cells #[.int .i64 0, .string ⟨#[]⟩] 49 (0, 0)) := by rw [hw1]; exact World.alloc_heap_new _ _
  have hcall := put_any p id m g L n f v w1 ((hb1.block p hR.lt).trans hR) (hB.below hb1) hn hf hc
  obtain ⟨r, hr⟩ : ∃ r, r = putP L id n f v := ⟨_, rfl⟩
  rw [← hr] at hcall ⊢
  rw [hw1] at hcall
  have HC := Lib.hid hcall
  have HH := Lib.hid (And.intro hw1 (And.intro hb1 (And.intro hz1 (And.intro hres (hT.below hb1 (Nat.le_refl _))))))
  have hii : (i : Int) < (ps.length : Int) := by omega
  clear hcall hw1 hb1 hz1 hres hT hW hR hB hr hn hf hc hp
  go_enter Tryz.func26, Tryz.ntmps26
  go_wp2_with (go_at_call 43; refine HC.out.mono ?_; rintro e w2 ⟨ev, rfl, hE, hBk, hK⟩; refine Halt.of ?_)
  obtain ⟨hw1, hb1, hz1, hres, hT⟩ := HH.out
  rw [← hw1] at hK
  have hT2 : EType w2 := hT.keep hK (fun e => hm0 e.symm)
  have hres2 : w2.heap[w.heap.size]? = some (.cells #[.int .i64 0, .string ⟨#[]⟩] 49 (0, 0)) := (hK.block _ (by omega) (by omega)).trans hres
  have HP := Lib.hid (parts_any ev r.2.1 r.2.2 w2 hT2 hE)
  have HK := Lib.hid (And.intro hBk (And.intro ((Keep.of_below' (F := fun b => b = m) hb1).trans hK) hres2))
  have hsz := hK.size
  clear hE hBk hK hT2 hres2 hw1 hb1 hres hT HC hcw hci
  unfold Halt
  go_wp2_with (go_at_call 42; refine HP.out.mono ?_; rintro e w3 ⟨rfl, hb3⟩; refine Halt.of ?_)
  obtain ⟨hBk, hKK, hres2⟩ := HK.out
  have hNl := (Array.getElem?_eq_some_iff.1 hres2).1
  have hres3 : w3.heap[w.heap.size]? = some (.cells #[.int .i64 0, .string ⟨#[]⟩] 49 (0, 0)) := (hb3.block _ hNl).trans hres2
  have a0 : w3.cell? ⟨w.heap.size, 0, none⟩ = some (.int .i64 0) := Joins.cell_of_block hres3 0
  have a1 : w3.cell? ⟨w.heap.size, 1, none⟩ = some (.string ⟨#[]⟩) := Joins.cell_of_block hres3 1
  have b0 : ∀ i, w3.frozen? ⟨w.heap.size, i, none⟩ = false := fun i => Joins.unfrozen_of_block hres3 i
  have HF := Lib.hid (And.intro (hBk.below hb3) (And.intro (hKK.trans (Keep.of_below' hb3)) hres3))
  clear hBk hKK hres2 hb3 hres3 HP HK
  unfold Halt
  go_wp2
  obtain ⟨hBk, hKK, hres3⟩ := HF.out
  have hA : ArrAt w.heap.size 49 w3 _ ((w3.setCell ⟨w.heap.size, 0, none⟩ (.int .i64 r.2.1)).setCell ⟨w.heap.size, 1, none⟩ (.string r.2.2)) :=
    ((ArrAt.mk hres3 (Keep.refl _ _)).set 0 _).set 1 _
  obtain ⟨hAb, hAk⟩ := hA
  simp only [List.setIfInBounds_toArray, List.set_cons_zero, List.set_cons_succ] at hAb
  refine bodyPost_ret (results_cell_row rfl _ _ w.heap.size 49 _ (0, 0) _ rfl hAb Tryz.underlying49 rfl (by kernel_rfl)) rfl ?_
  exact ⟨rfl, hBk.keep hAk (by omega), hKK.trans' hAk (fun _ _ h => h) (fun x hx e => by omega)⟩

theorem deleteW_any (pw : Nat) (lv : Value) (ps : List Nat) (i : Nat) (hi : i < ps.length) (id : Int) (m g : Nat) (L : List Reg) (n : ByteArray) (w : World) (hW : WldAt w pw lv ps) (hps : ps.length ≤ 1000000) (hR : RepAt w ps[i] id m g) (hB : BookAt w m L) (hm0 : m ≠ 0) (hT : EType w)
    (hn : n.size ≤ 65536) (hL : L.length ≤ 1073741824) (hc : clockL L < 9223372036854775807) :
    Calls Tryz.prog 28 #[.pointer (some ⟨pw, 0, none⟩), .int .i64 i, .string n] w fun e w' => e = .returned (.agg #[.int .i64 (deleteP L id n).2.1, .string (deleteP L id n).2.2]) ∧ BookAt w' m (deleteP L id n).1 ∧ Keep (fun b => b = m) w w' := by
  obtain ⟨gs, cap, hv, hg, hci⟩ := hW.cell hi
  subst hv
  obtain ⟨p, hp⟩ : ∃ p, p = ps[i] := ⟨_, rfl⟩
  rw [← hp] at hR hci
  have hpwl := (Array.getElem?_eq_some_iff.1 hW.box).1
  have hml := hB.lt
  have hcw : w.cell? ⟨pw, 0, none⟩ = some (.slice (some ⟨gs, 0, none⟩) ps.length cap) := Joins.cell_of_block hW.box 0
  obtain ⟨w1, hw1⟩ : ∃ w1, w1 = w.alloc (.cells #[.int .i64 0, .string ⟨#[]⟩] 49) := ⟨_, rfl⟩
  have hb1 : Below w.heap.size w w1 := by rw [hw1]; exact (Below.refl _ _).alloc (Nat.le_refl _) _
  have hz1 : w1.heap.size = w.heap.size + 1 := by rw [hw1]; simp
  have hres : w1.heap[w.heap.size]? = some (.cells #[.int .i64 0, .string ⟨#[]⟩] 49 (0, 0)) := by rw [hw1]; exact World.alloc_heap_new _ _
  have hcall := delete_any p id m g L n w1 ((hb1.block p hR.lt).trans hR) (hB.below hb1) hn hL hc
  obtain ⟨r, hr⟩ : ∃ r, r = deleteP L id n := ⟨_, rfl⟩
  rw [← hr] at hcall ⊢
  rw [hw1] at hcall
  have HC := Lib.hid hcall
  have HH := Lib.hid (And.intro hw1 (And.intro hb1 (And.intro hz1 (And.intro hres (hT.below hb1 (Nat.le_refl _))))))
  have hii : (i : Int) < (ps.length : Int) := by omega
  clear hcall hw1 hb1 hz1 hres hT hW hR hB hr hn hL hc hp
  go_enter Tryz.func28, Tryz.ntmps28
  go_wp2_with (go_at_call 46; refine HC.out.mono ?_; rintro e w2 ⟨ev, rfl, hE, hBk, hK⟩; refine Halt.of ?_)
  obtain ⟨hw1, hb1, hz1, hres, hT⟩ := HH.out
  rw [← hw1] at hK
  have hT2 : EType w2 := hT.keep hK (fun e => hm0 e.symm)
  have hres2 : w2.heap[w.heap.size]? = some (.cells #[.int .i64 0, .string ⟨#[]⟩] 49 (0, 0)) := (hK.block _ (by omega) (by omega)).trans hres
  have HP := Lib.hid (parts_any ev r.2.1 r.2.2 w2 hT2 hE)
  have HK := Lib.hid (And.intro hBk (And.intro ((Keep.of_below' (F := fun b => b = m) hb1).trans hK) hres2))
  have hsz := hK.size
  clear hE hBk hK hT2 hres2 hw1 hb1 hres hT HC hcw hci
  unfold Halt
  go_wp2_with (go_at_call 42; refine HP.out.mono ?_; rintro e w3 ⟨rfl, hb3⟩; refine Halt.of ?_)
  obtain ⟨hBk, hKK, hres2⟩ := HK.out
  have hNl := (Array.getElem?_eq_some_iff.1 hres2).1
  have hres3 : w3.heap[w.heap.size]? = some (.cells #[.int .i64 0, .string ⟨#[]⟩] 49 (0, 0)) := (hb3.block _ hNl).trans hres2
  have a0 : w3.cell? ⟨w.heap.size, 0, none⟩ = some (.int .i64 0) := Joins.cell_of_block hres3 0
  have a1 : w3.cell? ⟨w.heap.size, 1, none⟩ = some (.string ⟨#[]⟩) := Joins.cell_of_block hres3 1
  have b0 : ∀ i, w3.frozen? ⟨w.heap.size, i, none⟩ = false := fun i => Joins.unfrozen_of_block hres3 i
  have HF := Lib.hid (And.intro (hBk.below hb3) (And.intro (hKK.trans (Keep.of_below' hb3)) hres3))
  clear hBk hKK hres2 hb3 hres3 HP HK
  unfold Halt
  go_wp2
  obtain ⟨hBk, hKK, hres3⟩ := HF.out
  have hA : ArrAt w.heap.size 49 w3 _ ((w3.setCell ⟨w.heap.size, 0, none⟩ (.int .i64 r.2.1)).setCell ⟨w.heap.size, 1, none⟩ (.string r.2.2)) :=
    ((ArrAt.mk hres3 (Keep.refl _ _)).set 0 _).set 1 _
  obtain ⟨hAb, hAk⟩ := hA
  simp only [List.setIfInBounds_toArray, List.set_cons_zero, List.set_cons_succ] at hAb
  refine bodyPost_ret (results_cell_row rfl _ _ w.heap.size 49 _ (0, 0) _ rfl hAb Tryz.underlying49 rfl (by kernel_rfl)) rfl ?_
  exact ⟨rfl, hBk.keep hAk (by omega), hKK.trans' hAk (fun _ _ h => h) (fun x hx e => by omega)⟩
end Go.Proofs.YtpdbmpbmepkikaaGreatDoor

namespace Go.Proofs.YtpdbmpbmepkikaaGreatDoor
open Go.RowKit

/-- The eight bytes of a sum, as a text. -/
def digStr (h : Int) : ByteArray := ⟨#[UInt8.ofNat (h / 72057594037927936 % 256).toNat, UInt8.ofNat (h / 281474976710656 % 256).toNat, UInt8.ofNat (h / 1099511627776 % 256).toNat, UInt8.ofNat (h / 4294967296 % 256).toNat, UInt8.ofNat (h / 16777216 % 256).toNat, UInt8.ofNat (h / 65536 % 256).toNat, UInt8.ofNat (h / 256 % 256).toNat, UInt8.ofNat (h % 256).toNat]⟩

theorem digestW_any (pw : Nat) (lv : Value) (ps : List Nat) (i : Nat) (hi : i < ps.length) (id : Int) (m g0 : Nat) (L : List Reg) (pfx : ByteArray) (w : World) (hW : WldAt w pw lv ps) (hps : ps.length ≤ 1000000) (hR : RepAt w ps[i] id m g0) (hB : BookAt w m L) (hL : L.length ≤ 1000000) (ht : Tab w) (hF : ∀ x ∈ L, Fit x) :
    Calls Tryz.prog 20 #[.pointer (some ⟨pw, 0, none⟩), .int .i64 i, .string pfx] w fun e w' => e = .returned (.string (digStr (hashL (belowL L pfx)))) ∧ Below w.heap.size w w' := by
  obtain ⟨gs, caps, hv, hg, hci⟩ := hW.cell hi
  subst hv
  obtain ⟨p, hp⟩ : ∃ p, p = ps[i] := ⟨_, rfl⟩
  rw [← hp] at hR hci
  have hcw : w.cell? ⟨pw, 0, none⟩ = some (.slice (some ⟨gs, 0, none⟩) ps.length caps) := Joins.cell_of_block hW.box 0
  have hii : (i : Int) < (ps.length : Int) := by omega
  have HC := Lib.hid (digestR_any p id m g0 L pfx w hR hB (by omega) ht hF)
  obtain ⟨h, hh⟩ : ∃ h, h = hashL (belowL L pfx) := ⟨_, rfl⟩
  rw [← hh] at HC ⊢
  clear hW hp hR hB ht hF hh
  unfold digV at HC
  go_enter Tryz.func20, Tryz.ntmps20
  go_wp2_with (go_at_call 38; go_must (refine HC.out.mono ?_); rintro e w1 ⟨rfl, hb⟩; refine Halt.of ?_)
  have hby : ∀ z : Int, ((UInt8.ofNat (z % 256).toNat).toNat : Int) = z % 256 := fun z => by
    have h1 := Int.emod_nonneg z (show (256 : Int) ≠ 0 by decide)
    have h2 := Int.emod_lt_of_pos z (show (0 : Int) < 256 by decide)
    simp only [UInt8.toNat_ofNat']
    omega
  have hconv : (convert 79 9 (.slice (some ⟨w1.heap.size, 0, none⟩) 8 8)).run Tryz.prog (w1.alloc (.cells #[.int .u8 (h / 72057594037927936 % 256), .int .u8 (h / 281474976710656 % 256), .int .u8 (h / 1099511627776 % 256), .int .u8 (h / 4294967296 % 256), .int .u8 (h / 16777216 % 256), .int .u8 (h / 65536 % 256), .int .u8 (h / 256 % 256), .int .u8 (h % 256)] 76)) =
      .ok (.string (digStr h)) (w1.alloc (.cells #[.int .u8 (h / 72057594037927936 % 256), .int .u8 (h / 281474976710656 % 256), .int .u8 (h / 1099511627776 % 256), .int .u8 (h / 4294967296 % 256), .int .u8 (h / 16777216 % 256), .int .u8 (h / 65536 % 256), .int .u8 (h / 256 % 256), .int .u8 (h % 256)] 76)) := by
    refine run_convert_bytes_back (P := Tryz.prog) _ 79 9 5 ⟨w1.heap.size, 0, none⟩ 8 (digStr h).data.toList Tryz.underlying79 Tryz.underlying5 Tryz.underlying9 (fun j hj => ?_)
    refine newsAt rfl [.int .u8 (h / 72057594037927936 % 256), .int .u8 (h / 281474976710656 % 256), .int .u8 (h / 1099511627776 % 256), .int .u8 (h / 4294967296 % 256), .int .u8 (h / 16777216 % 256), .int .u8 (h / 65536 % 256), .int .u8 (h / 256 % 256), .int .u8 (h % 256)] 76 rfl j _ ?_
    have hj8 : j < 8 := hj
    have : j = 0 ∨ j = 1 ∨ j = 2 ∨ j = 3 ∨ j = 4 ∨ j = 5 ∨ j = 6 ∨ j = 7 := by omega
    rcases this with rfl | rfl | rfl | rfl | rfl | rfl | rfl | rfl <;> simp [digStr] <;> omega
  have HB := Lib.hid hb
  clear hb HC hcw hci hby
  unfold Halt
  go_wp2
  go_ret
  exact ⟨rfl, HB.out.trans ((Below.refl _ _).alloc HB.out.size _)⟩
end Go.Proofs.YtpdbmpbmepkikaaGreatDoor

namespace Go.Proofs.YtpdbmpbmepkikaaGreatDoor
open Go.RowKit

def ownD (v : Value) (b : Nat) : Prop := v.ownBlock = some b
/-- A slice value that owns its bytes. -/
def BufAt (N : Nat) (W : World) (v : Value) (l : List UInt8) : Prop := W.ownsRow N 5 1 v l.length (l.map u8V)
theorem BufAt.nil (N : Nat) (W : World) : BufAt N W (.slice none 0 0) [] := World.ownsRow_nil _ _ _ _
theorem BufAt.block {N : Nat} {W W' : World} {v : Value} {l : List UInt8} (h : BufAt N W v l) (hb : ∀ g, ownD v g → W'.heap[g]? = W.heap[g]?) : BufAt N W' v l := ownsRow_block h hb
theorem BufAt.lt {N : Nat} {W : World} {v : Value} {l : List UInt8} (h : BufAt N W v l) {b : Nat} (hb : ownD v b) : N ≤ b ∧ b < W.heap.size := World.ownsRow.lt h b hb
theorem BufAt.alloc {N : Nat} {W : World} {v : Value} {l : List UInt8} (h : BufAt N W v l) (o : Obj) : BufAt N (W.alloc o) v l := h.block fun _ hg => Below.heap_alloc _ _ _ (h.lt hg).2
theorem BufAt.drew {N : Nat} {W : World} {v : Value} {l : List UInt8} (h : BufAt N W v l) : BufAt N W.drew v l := h
theorem BufAt.read {N : Nat} {W : World} {v : Value} {l : List UInt8} (h : BufAt N W v l) : RdAt W v l := by
  obtain ⟨h1, h2⟩ := h
  rcases h2 with ⟨rfl, h2⟩ | ⟨g, cap, cur, rfl, _, hg, hn, _, _, ht⟩
  · exact ⟨none, 0, by rw [h2], .inl (List.eq_nil_of_length_eq_zero h2)⟩
  · refine ⟨_, cap, rfl, .inr ⟨g, 0, rfl, (Array.getElem?_eq_some_iff.1 hg).1, fun j hj => ?_⟩⟩
    rw [Nat.zero_add, Joins.cell_of_block hg j]
    have : (cur.toList.take (l.length * 1))[j]? = (l.map u8V)[j]? := by rw [ht]
    rw [List.getElem?_take_of_lt (by omega), Array.getElem?_toList] at this
    rw [this]
    simp [hj]
theorem BufAt.cases {N : Nat} {W : World} {v : Value} {l : List UInt8} (h : BufAt N W v l) : ∃ ad cap, v = .slice ad l.length cap := by
  obtain ⟨ad, cap, hv, _⟩ := h.read
  exact ⟨ad, cap, hv⟩

/-- Behind an append, of a slice that was made just ahead. -/
theorem left_append {v v' : Value} {W W' : World} {o : Obj} (_hv : ∀ b, ownD v b → b < W.heap.size) (hg : (W.alloc o).grownBy W' v.ownBlock) (hat : v'.ownBlock = v.ownBlock ∨ v'.ownBlock = some (W.alloc o).heap.size) : Left (ownD v) W (ownD v') W' := by
  refine ⟨⟨hg.os, hg.tape, hg.output, Nat.le_trans (by simp) hg.size, fun k hk hn => ?_⟩, fun b hb => ?_⟩
  · exact (hg.block k (by simp; omega) fun e => hn e.symm).trans (Below.heap_alloc _ _ _ hk)
  · unfold ownD at hb ⊢
    rcases hat with h | h
    · exact .inl (h ▸ hb)
    · rw [h] at hb; cases hb; exact .inr (by simp)

theorem info5 : (Tryz.prog.info? 5).map (fun i => (i.zero, i.size, i.bytes)) = some (some (.int .u8 0), 1, 1) := by kernel_rfl

set_option maxRecDepth 100000 in
theorem or128 : ∀ x, x < 256 → x ||| 128 = x % 128 + 128 := by decide

set_option maxHeartbeats 1000000 in
theorem number_any (N : Nat) (v : Value) (l : List UInt8) (n : Nat) (w : World) (h : BufAt N w v l) (hN : N ≤ w.heap.size) (hn : n < 18446744073709551616) (hl : l.length ≤ 1099511627776) :
    Calls Tryz.prog 199 #[v, .int .u64 n] w fun e w' => ∃ v', e = .returned v' ∧ BufAt N w' v' (l ++ numB n) ∧ Left (ownD v) w (ownD v') w' := by
  obtain ⟨i0, hi, hz0, hz1, hz2⟩ := info_parts info5
  have HB := Lib.hid h
  have hnl : (numB n).length ≤ 10 := numB_length (f := 9) (Nat.lt_of_lt_of_le hn (by decide))
  clear h
  go_enter Tryz.func199, Tryz.ntmps199
  go_wp2
  go_loopg [0, 1] (numB n).length (fun k s0 s1 wr => ∃ (v1 : Value) (l1 : List UInt8) (m : Nat), v1 = s0 ∧ s1 = .int .u64 m ∧ BufAt N wr v1 l1 ∧ l1 ++ numB m = l ++ numB n ∧ Left (ownD v) w (ownD v1) wr ∧ (numB m).length ≤ k ∧ l1.length ≤ 1099511627900 ∧ m < 18446744073709551616)
  case atStart => exact ⟨v, l, n, rfl, rfl, HB.out, rfl, Left.refl _ _, Nat.le_refl _, by omega, hn⟩
  case round =>
    obtain ⟨v1, l1, m, rfl, rfl, hb, hll, hLf, hk, hl1, hm⟩ := hrel
    have hsz := hLf.1.size
    have H1 := Lib.hid (And.intro hb (And.intro hll hLf))
    clear hb hll hLf
    by_cases h128 : m < 128
    · have hmm : ¬ (128 : Int) ≤ (m : Int) := by omega
      have hcv : IntKind.u8.wrap (m : Int) = (m : Int) := by rw [IntKind.wrap_u8]; omega
      have hxs : l1.map u8V ++ [Value.int .u8 (m : Int)] = (l ++ numB n).map u8V := by
        rw [← H1.out.2.1, numB_lt h128, List.map_append]
        have : (UInt8.ofNat m).toNat = m := by rw [UInt8.toNat_ofNat']; omega
        simp [u8V, this]
      have hlen : l1.length + 1 = (l ++ numB n).length := by rw [← H1.out.2.1, numB_lt h128]; simp
      have HX := Lib.hid (And.intro hxs hlen)
      clear hxs hlen
      go_wp2_with (at_builtin; go_must (refine wpList_append_own_at _ rfl _ _ 79 rfl N 5 i0 (.int .u8 0) 1 1 Tryz.underlying79 hi hz0 hz1 hz2 rfl (by decide) v1 l1.length (l1.map u8V) rfl (H1.out.1.alloc _) ⟨wr.heap.size, 0, none⟩ 1 1 [.int .u8 (m : Int)] rfl rfl (newsAt (by first | rfl | simp) _ _ rfl) (by simp [Value.oneCell']) (by unfold maxLen; omega) (by omega) (by simp; omega) ?_); intro v5 w5 hr5 hg5 _ hat; refine Halt.of ?_)
      have hL5 := left_append (fun b hb => (H1.out.1.lt hb).2) hg5 hat
      have HR := Lib.hid (And.intro hr5 hL5)
      clear hr5 hg5 hat hL5
      unfold Halt
      go_wp2
      go_ret
      refine ⟨_, rfl, ?_, H1.out.2.2.trans HR.out.2⟩
      unfold BufAt
      rw [← HX.out.1, ← HX.out.2]
      exact HR.out.1
    · have hmm : (128 : Int) ≤ (m : Int) := by omega
      have hcv : IntKind.u8.wrap (m : Int) = ((m % 256 : Nat) : Int) := by rw [IntKind.wrap_u8]; omega
      have hor : bits .or .u8 ((m % 256 : Nat) : Int) 128 = ((m % 128 + 128 : Nat) : Int) := by
        have := u8_or_nat (m % 256) 128 (by omega) (by decide)
        rw [or128 _ (by omega), Nat.mod_mod_of_dvd _ (by decide : 128 ∣ 256)] at this
        exact this
      obtain ⟨mb, hmb⟩ : ∃ mb, mb = m % 256 := ⟨_, rfl⟩
      obtain ⟨mc, hmc⟩ : ∃ mc, mc = m % 128 + 128 := ⟨_, rfl⟩
      rw [← hmb] at hcv hor
      rw [← hmc] at hor
      have hxs : l1.map u8V ++ [Value.int .u8 (mc : Int)] = (l1 ++ [UInt8.ofNat mc]).map u8V := by
        have : (UInt8.ofNat mc).toNat = mc := by rw [UInt8.toNat_ofNat']; omega
        rw [List.map_append]
        simp [u8V, this]
      have hll2 : (l1 ++ [UInt8.ofNat mc]) ++ numB (m / 128) = l ++ numB n := by
        rw [← H1.out.2.1, numB_ge h128, hmc]; simp
      have hk2 : (numB (m / 128)).length + 1 ≤ gk := by
        rw [numB_ge h128] at hk; simpa using hk
      have hl2 : l1.length + 1 ≤ 1099511627900 := by
        have := congrArg List.length hll2
        simp only [List.length_append, List.length_cons, List.length_nil] at this
        have := numB_pos (m / 128)
        omega
      have hdv : m / 128 < 18446744073709551616 := by omega
      have HX := Lib.hid (And.intro hxs (And.intro hll2 (And.intro hk2 (And.intro hl2 hdv))))
      clear hxs hll2 hmb hmc hk2 hl2 hk hdv
      go_wp2_with (at_builtin; go_must (refine wpList_append_own_at _ rfl _ _ 79 rfl N 5 i0 (.int .u8 0) 1 1 Tryz.underlying79 hi hz0 hz1 hz2 rfl (by decide) v1 l1.length (l1.map u8V) rfl (H1.out.1.alloc _) ⟨wr.heap.size, 0, none⟩ 1 1 [.int .u8 (mc : Int)] rfl rfl (newsAt (by first | rfl | simp) _ _ rfl) (by simp [Value.oneCell']) (by unfold maxLen; omega) (by omega) (by simp; omega) ?_); intro v5 w5 hr5 hg5 _ hat; refine Halt.of ?_)
      have hL5 := left_append (fun b hb => (H1.out.1.lt hb).2) hg5 hat
      have HR := Lib.hid (And.intro hr5 hL5)
      clear hr5 hg5 hat hL5
      unfold Halt
      go_wp2
      go_roundg (gk - 1)
      case rel =>
        obtain ⟨a1, a2, a3, a4, a5⟩ := HX.out
        refine ⟨_, l1 ++ [UInt8.ofNat mc], m / 128, rfl, by go_simp, ?_, a2, H1.out.2.2.trans HR.out.2, by omega, by simpa using a4, a5⟩
        unfold BufAt
        rw [← a1, List.length_append]
        exact HR.out.1
      case measure => have := HX.out.2.2.1; omega
end Go.Proofs.YtpdbmpbmepkikaaGreatDoor

namespace Go.Proofs.YtpdbmpbmepkikaaGreatDoor
open Go.RowKit

/-- A string behind bytes: where the new row lies, too. -/
theorem run_append_string_at (w : World) (base : Nat) (i : TypeInfo) (hi : Tryz.prog.info? 5 = some i) (hz : i.zero = some (.int .u8 0)) (hsize : i.size = 1) (hby : i.bytes = 1)
    (v : Value) (n : Nat) (xs : List Value) (hown : w.ownsRow base 5 1 v n xs) (s : ByteArray) (hb : n + s.size ≤ 140737488355328) (hbase : base ≤ w.heap.size) :
    ∃ v' w', (Builtin.append_ #[79, 9] 79 #[v, .string s]).run Tryz.prog w = .ok v' w' ∧ w'.ownsRow base 5 1 v' (n + s.size) (xs ++ Lib.strCells s) ∧ Left (ownD v) w (ownD v') w' := by
  obtain ⟨v', w', hr, ho, hg, -⟩ := Lib.run_append_own_string (P := Tryz.prog) w base 79 9 79 5 i Tryz.underlying79 Tryz.underlying9 hi hz hsize hby v n xs hown s (by unfold maxLen; omega) hb hbase
  refine ⟨v', w', hr, ho, ⟨hg.os, hg.tape, hg.output, hg.size, fun k hk hn => hg.block k hk fun e => hn e.symm⟩, fun b hbo => ?_⟩
  rcases hown.2 with ⟨rfl, hn0⟩ | ⟨g, cap, cur, rfl, hbg, hgg, hnc, hcm, hcs, htake⟩
  · subst hn0
    have hx : xs = [] := List.eq_nil_of_length_eq_zero (by simpa using hown.1)
    subst hx
    obtain ⟨v2, w2, hr2, ho2, -, -⟩ := Lib.run_append_own_string (P := Tryz.prog) w w.heap.size 79 9 79 5 i Tryz.underlying79 Tryz.underlying9 hi hz hsize hby (.slice none 0 0) 0 [] (World.ownsRow_nil _ _ _ _) s (by unfold maxLen; omega) hb (Nat.le_refl _)
    rw [hr] at hr2
    cases hr2
    exact .inr (ho2.lt b hbo).1
  · by_cases hroom : n + s.size ≤ cap
    · have hcc : cur.size = cap := by simpa using hcs
      have h2 := Lib.run_append_room_string (P := Tryz.prog) w 79 9 79 5 i Tryz.underlying79 Tryz.underlying9 hi hsize g n cap cur hgg s hroom (by omega)
      rw [hr] at h2
      cases h2
      exact .inl hbo
    · have hxl : xs.length = n := by simpa using hown.1
      have h2 := Lib.run_append_grow_string (P := Tryz.prog) w 79 9 79 5 i (.int .u8 0) Tryz.underlying79 Tryz.underlying9 hi hz ⟨g, 0, none⟩ n cap xs (by rw [hsize]; simpa using hxl) (hown.cells (g := g) rfl) s (by omega) (by omega) (by rw [hby]; exact growslice_fits (by omega) (by omega))
      rw [hr] at h2
      cases h2
      cases hbo
      exact .inr (Nat.le_refl _)

theorem wpList_append_string_at {ops : Array Oper} {rest : List Oper} {o : Oper} {a : Act} {w : World} {Q : Exit → Act → World → Prop} (hgd : o.guard = none) (sl x : Operand)
    (ho : o.op = .call { callee := .builtin .append, args := #[sl, x], argTypes := #[79, 9] }) (hty : o.type = 79)
    (base : Nat) (i : TypeInfo) (hi : Tryz.prog.info? 5 = some i) (hz : i.zero = some (.int .u8 0)) (hsize : i.size = 1) (hby : i.bytes = 1)
    (v : Value) (n : Nat) (xs : List Value) (hs : a.eval sl = v) (hown : w.ownsRow base 5 1 v n xs) (s : ByteArray) (hx : a.eval x = .string s) (hb : n + s.size ≤ 140737488355328) (hbase : base ≤ w.heap.size)
    (h : ∀ v' w', w'.ownsRow base 5 1 v' (n + s.size) (xs ++ Lib.strCells s) → Left (ownD v) w (ownD v') w' → wpList Tryz.prog ops Q rest (a.put o.dst v') w') : wpList Tryz.prog ops Q (o :: rest) a w := by
  refine wpList_plain hgd fun K hK => ?_
  obtain ⟨v', w', hr, h2, h3⟩ := run_append_string_at w base i hi hz hsize hby v n xs hown s hb hbase
  unfold Oper.wp execOp
  simp only [ho, hty, resolve, invoke, builtin, Sem.run_bind, Sem.run_pure, Result.andThen_ok, List.map_toArray, List.map_cons, List.map_nil, hs, hx, hr]
  exact hK _ _ (h v' w' h2 h3)

theorem strCells_u8 (s : ByteArray) : Lib.strCells s = (bl s).map u8V := rfl

set_option maxHeartbeats 1000000 in
theorem textS_any (N : Nat) (v : Value) (l : List UInt8) (s : ByteArray) (w : World) (h : BufAt N w v l) (hN : N ≤ w.heap.size) (hs : s.size ≤ 1073741824) (hl : l.length ≤ 1099511627776) :
    Calls Tryz.prog 165 #[v, .string s] w fun e w' => ∃ v', e = .returned v' ∧ BufAt N w' v' (l ++ textB s) ∧ Left (ownD v) w (ownD v') w' := by
  obtain ⟨i0, hi, hz0, hz1, hz2⟩ := info_parts info5
  have HC := Lib.hid (number_any N v l s.size w h hN (by omega) hl)
  have hcv : IntKind.u64.wrap (s.size : Int) = (s.size : Int) := by rw [IntKind.wrap_u64]; omega
  have hnl : (numB s.size).length ≤ 10 := numB_length (f := 9) (by omega)
  clear h
  go_enter Tryz.func165, Tryz.ntmps165
  go_wp2_with (go_at_call 199; go_must (refine HC.out.mono ?_); rintro e w1 ⟨v1, rfl, hb1, hL1⟩; have H1 := Lib.hid (And.intro hb1 hL1); clear hb1 hL1; refine Halt.of ?_)
  have hsz := H1.out.2.1.size
  clear HC
  unfold Halt
  go_wp2_with (at_builtin; go_must (refine wpList_append_string_at rfl _ _ rfl rfl N i0 hi hz0 hz1 hz2 v1 (l ++ numB s.size).length _ rfl H1.out.1 s rfl (by simp; omega) (by omega) ?_); intro v5 w5 hr5 hL5; have HR := Lib.hid (And.intro hr5 hL5); clear hr5 hL5; refine Halt.of ?_)
  unfold Halt
  go_wp2
  go_ret
  refine ⟨_, rfl, ?_, H1.out.2.trans HR.out.2⟩
  have e : l ++ textB s = (l ++ numB s.size) ++ bl s := by rw [textB, List.append_assoc]
  have e2 : (l ++ textB s).length = (l ++ numB s.size).length + s.size := by rw [e]; exact List.length_append
  have := HR.out.1
  rw [strCells_u8, ← List.map_append] at this
  unfold BufAt
  rw [e2, e]
  exact this

theorem twist_facts {z : Int} (h : -9223372036854775808 ≤ z ∧ z ≤ 9223372036854775807) : ∃ (a b e : Nat) (d : Int), IntKind.u64.wrap z = (a : Int) ∧ IntKind.u64.wrap ((a : Int) * 2) = (b : Int) ∧ z / 9223372036854775808 = d ∧ IntKind.u64.wrap d = (e : Int) ∧ bits .xor .u64 (b : Int) (e : Int) = (twistN z : Int) := by
  by_cases h0 : 0 ≤ z
  · obtain ⟨n, rfl⟩ : ∃ n : Nat, z = (n : Int) := ⟨z.toNat, by omega⟩
    refine ⟨n, 2 * n, 0, 0, by rw [IntKind.wrap_u64]; omega, by rw [IntKind.wrap_u64]; omega, by omega, by rw [IntKind.wrap_u64]; omega, ?_⟩
    rw [u64_xor_nat (2 * n) 0 (by omega) (by decide), Nat.xor_zero]
    unfold twistN
    rw [if_pos h0]
    omega
  · obtain ⟨n, rfl⟩ : ∃ n : Nat, z = -(n : Int) := ⟨(-z).toNat, by omega⟩
    refine ⟨18446744073709551616 - n, 18446744073709551616 - 2 * n, 18446744073709551615, -1, by rw [IntKind.wrap_u64]; omega, by rw [IntKind.wrap_u64]; omega, by omega, by rw [IntKind.wrap_u64]; omega, ?_⟩
    rw [u64_xor_nat _ _ (by omega) (by decide), Nat.xor_comm, show (18446744073709551615 : Nat) = 2 ^ 64 - 1 by decide, Lib.xor_ones64 _ (by omega)]
    unfold twistN
    rw [if_neg h0]
    omega

theorem twistS_any (z : Int) (w : World) (h : I64 z) : Calls Tryz.prog 200 #[.int .i64 z] w fun e w' => e = .returned (.int .u64 (twistN z)) ∧ w' = w := by
  obtain ⟨a, b, c, d, h1, h2, h3, h4, h5⟩ := twist_facts h
  clear h
  obtain ⟨t, ht⟩ : ∃ t : Int, t = (twistN z : Int) := ⟨_, rfl⟩
  rw [← ht] at h5 ⊢
  clear ht
  go_enter Tryz.func200, Tryz.ntmps200
  go_wp2
  go_ret
  exact ⟨rfl, rfl⟩
end Go.Proofs.YtpdbmpbmepkikaaGreatDoor

namespace Go.Proofs.YtpdbmpbmepkikaaGreatDoor
open Go.RowKit

theorem textB_length (s : ByteArray) (h : s.size ≤ 1073741824) : (textB s).length ≤ 10 + s.size := by
  have := numB_length (f := 9) (n := s.size) (by omega)
  rw [textB, List.length_append]
  show _ + s.size ≤ _
  omega
theorem numB_len10 {n : Nat} (h : n < 18446744073709551616) : (numB n).length ≤ 10 := numB_length (f := 9) (Nat.lt_of_lt_of_le h (by decide))

/-- While a register is written: its box stands; the buffer is no part of it. -/
structure PutAt (N : Nat) (v0 : Value) (w0 : World) (bx : Nat) (cs : Array Value) (T : TypeId) (v : Value) (l : List UInt8) (W : World) : Prop where
  buf : BufAt N W v l
  box : W.heap[bx]? = some (.cells cs T (0, 0))
  off : ¬ ownD v bx
  left : Left (ownD v0) w0 (ownD v) W
  base : N ≤ W.heap.size
variable {N : Nat} {v0 v : Value} {w0 W : World} {bx : Nat} {cs : Array Value} {T : TypeId} {l : List UInt8}
theorem PutAt_drew : PutAt N v0 w0 bx cs T v l W.drew ↔ PutAt N v0 w0 bx cs T v l W :=
  ⟨fun h => ⟨h.buf, h.box, h.off, ⟨⟨h.left.1.os, h.left.1.tape, h.left.1.output, h.left.1.size, h.left.1.block⟩, h.left.2⟩, h.base⟩, fun h => ⟨h.buf, h.box, h.off, ⟨⟨h.left.1.os, h.left.1.tape, h.left.1.output, h.left.1.size, h.left.1.block⟩, h.left.2⟩, h.base⟩⟩
def BoxAt (bx : Nat) (cs : Array Value) (T : TypeId) (W : World) : Prop := W.heap[bx]? = some (.cells cs T (0, 0))
theorem BoxAt_drew : BoxAt bx cs T W.drew ↔ BoxAt bx cs T W := Iff.rfl
theorem PutAt.isBox (h : PutAt N v0 w0 bx cs T v l W) : BoxAt bx cs T W := h.box
theorem PutAt.next {v' : Value} {l' : List UInt8} {W' : World} (h : PutAt N v0 w0 bx cs T v l W) (hb : BufAt N W' v' l') (hL : Left (ownD v) W (ownD v') W') : PutAt N v0 w0 bx cs T v' l' W' :=
  have hlt := (Array.getElem?_eq_some_iff.1 h.box).1
  ⟨hb, (hL.1.block _ hlt h.off).trans h.box, fun e => by rcases hL.2 _ e with e | e; exact h.off e; omega, h.left.trans hL, Nat.le_trans h.base hL.1.size⟩
theorem PutAt.text (h : PutAt N v0 w0 bx cs T v l W) (s : ByteArray) (hs : s.size ≤ 1073741824) (hl : l.length ≤ 1099511627776) :
    Calls Tryz.prog 165 #[v, .string s] W fun e W' => ∃ v', e = .returned v' ∧ PutAt N v0 w0 bx cs T v' (l ++ textB s) W' :=
  (textS_any N v l s W h.buf h.base hs hl).mono fun _ _ ⟨v', he, hb, hL⟩ => ⟨v', he, h.next hb hL⟩
theorem PutAt.num (h : PutAt N v0 w0 bx cs T v l W) (n : Nat) (hn : n < 18446744073709551616) (hl : l.length ≤ 1099511627776) :
    Calls Tryz.prog 199 #[v, .int .u64 n] W fun e W' => ∃ v', e = .returned v' ∧ PutAt N v0 w0 bx cs T v' (l ++ numB n) W' :=
  (number_any N v l n W h.buf h.base hn hl).mono fun _ _ ⟨v', he, hb, hL⟩ => ⟨v', he, h.next hb hL⟩

set_option maxHeartbeats 2000000 in
set_option maxRecDepth 100000 in
theorem registerS_any (N : Nat) (v : Value) (l : List UInt8) (x : Reg) (w : World) (h : BufAt N w v l) (hN : N ≤ w.heap.size) (hx : Fit x) (hl : l.length ≤ 549755813888) :
    Calls Tryz.prog 164 #[v, x.val] w fun e w' => ∃ v', e = .returned v' ∧ BufAt N w' v' (l ++ regB x) ∧ Left (ownD v) w (ownD v') w' := by
  obtain ⟨n, f, c, r, s⟩ := x
  obtain ⟨h1, h2, h3, h4, h5⟩ := hx
  simp only at h1 h2 h3 h4 h5
  have t1 := textB_length n (by omega)
  have t2 := textB_length f (by omega)
  have hc := twistN_lt h4
  have hr := twistN_lt h5
  have t3 := numB_len10 hc
  have t4 := numB_len10 hr
  obtain ⟨cs, hcs⟩ : ∃ cs : Array Value, cs = #[.string n, .string f, .int .i64 c, .int .i64 r, .string s] := ⟨_, rfl⟩
  obtain ⟨w1, hw1⟩ : ∃ w1, w1 = w.alloc (.cells cs 46) := ⟨_, rfl⟩
  have hA : PutAt N v w w.heap.size cs 46 v l w1 := by
    rw [hw1]
    exact ⟨h.alloc _, World.alloc_heap_new _ _, fun e => by have := (h.lt e).2; omega, ⟨Keep.alloc _ _ _, fun b hb => .inl hb⟩, by simp; omega⟩
  have C1 : Hid (∀ W, PutAt N v w w.heap.size cs 46 v l W → Calls Tryz.prog 165 #[v, .string n] W fun e W' => ∃ v', e = .returned v' ∧ PutAt N v w w.heap.size cs 46 v' (l ++ textB n) W') := Lib.hid fun W hW => hW.text n (by omega) (by omega)
  have C2 : Hid (∀ v1 W, PutAt N v w w.heap.size cs 46 v1 (l ++ textB n) W → Calls Tryz.prog 165 #[v1, .string f] W fun e W' => ∃ v', e = .returned v' ∧ PutAt N v w w.heap.size cs 46 v' (l ++ textB n ++ textB f) W') := Lib.hid fun v1 W hW => hW.text f (by omega) (by simp only [List.length_append]; omega)
  have C3 : Hid (∀ v1 W, PutAt N v w w.heap.size cs 46 v1 (l ++ textB n ++ textB f) W → Calls Tryz.prog 199 #[v1, .int .u64 (twistN c)] W fun e W' => ∃ v', e = .returned v' ∧ PutAt N v w w.heap.size cs 46 v' (l ++ textB n ++ textB f ++ numB (twistN c)) W') := Lib.hid fun v1 W hW => hW.num _ hc (by simp only [List.length_append]; omega)
  have C4 : Hid (∀ v1 W, PutAt N v w w.heap.size cs 46 v1 (l ++ textB n ++ textB f ++ numB (twistN c)) W → Calls Tryz.prog 199 #[v1, .int .u64 (twistN r)] W fun e W' => ∃ v', e = .returned v' ∧ PutAt N v w w.heap.size cs 46 v' (l ++ textB n ++ textB f ++ numB (twistN c) ++ numB (twistN r)) W') := Lib.hid fun v1 W hW => hW.num _ hr (by simp only [List.length_append]; omega)
  have C5 : Hid (∀ v1 W, PutAt N v w w.heap.size cs 46 v1 (l ++ textB n ++ textB f ++ numB (twistN c) ++ numB (twistN r)) W → Calls Tryz.prog 165 #[v1, .string s] W fun e W' => ∃ v', e = .returned v' ∧ PutAt N v w w.heap.size cs 46 v' (l ++ textB n ++ textB f ++ numB (twistN c) ++ numB (twistN r) ++ textB s) W') := Lib.hid fun v1 W hW => hW.text s (by omega) (by simp only [List.length_append]; omega)
  have D1 : Hid (∀ v1 W, PutAt N v w w.heap.size cs 46 v1 (l ++ textB n ++ textB f) W → Calls Tryz.prog 200 #[.int .i64 c] W fun e W' => e = .returned (.int .u64 (twistN c)) ∧ PutAt N v w w.heap.size cs 46 v1 (l ++ textB n ++ textB f) W') := Lib.hid fun v1 W hW => (twistS_any c W h4).mono fun _ _ h => ⟨h.1, h.2 ▸ hW⟩
  have D2 : Hid (∀ v1 W, PutAt N v w w.heap.size cs 46 v1 (l ++ textB n ++ textB f ++ numB (twistN c)) W → Calls Tryz.prog 200 #[.int .i64 r] W fun e W' => e = .returned (.int .u64 (twistN r)) ∧ PutAt N v w w.heap.size cs 46 v1 (l ++ textB n ++ textB f ++ numB (twistN c)) W') := Lib.hid fun v1 W hW => (twistS_any r W h5).mono fun _ _ h => ⟨h.1, h.2 ▸ hW⟩
  obtain ⟨tc, htc⟩ : ∃ z, z = twistN c := ⟨_, rfl⟩
  obtain ⟨tr, htr⟩ : ∃ z, z = twistN r := ⟨_, rfl⟩
  rw [← htc] at C3 C4 C5 D1 D2
  rw [← htr] at C4 C5 D2
  have hreg : l ++ regB ⟨n, f, c, r, s⟩ = l ++ textB n ++ textB f ++ numB tc ++ numB tr ++ textB s := by
    rw [htc, htr]; simp only [regB, List.append_assoc]
  obtain ⟨l1, hl1⟩ : ∃ z, z = l ++ textB n := ⟨_, rfl⟩
  rw [← hl1] at C1 C2 C3 C4 C5 D1 D2 hreg
  obtain ⟨l2, hl2⟩ : ∃ z, z = l1 ++ textB f := ⟨_, rfl⟩
  rw [← hl2] at C2 C3 C4 C5 D1 D2 hreg
  obtain ⟨l3, hl3⟩ : ∃ z, z = l2 ++ numB tc := ⟨_, rfl⟩
  rw [← hl3] at C3 C4 C5 D2 hreg
  obtain ⟨l4, hl4⟩ : ∃ z, z = l3 ++ numB tr := ⟨_, rfl⟩
  rw [← hl4] at C4 C5 hreg
  obtain ⟨l5, hl5⟩ : ∃ z, z = l4 ++ textB s := ⟨_, rfl⟩
  rw [← hl5] at C5 hreg
  have HReg := Lib.hid hreg
  have k0 : ∀ W : World, BoxAt w.heap.size cs 46 W → W.cell? ⟨w.heap.size, 0, none⟩ = some (.string n) := fun W hW => (Joins.cell_of_block hW 0).trans (by rw [hcs]; rfl)
  have k1 : ∀ W : World, BoxAt w.heap.size cs 46 W → W.cell? ⟨w.heap.size, 1, none⟩ = some (.string f) := fun W hW => (Joins.cell_of_block hW 1).trans (by rw [hcs]; rfl)
  have k2 : ∀ W : World, BoxAt w.heap.size cs 46 W → W.cell? ⟨w.heap.size, 2, none⟩ = some (.int .i64 c) := fun W hW => (Joins.cell_of_block hW 2).trans (by rw [hcs]; rfl)
  have k3 : ∀ W : World, BoxAt w.heap.size cs 46 W → W.cell? ⟨w.heap.size, 3, none⟩ = some (.int .i64 r) := fun W hW => (Joins.cell_of_block hW 3).trans (by rw [hcs]; rfl)
  have k4 : ∀ W : World, BoxAt w.heap.size cs 46 W → W.cell? ⟨w.heap.size, 4, none⟩ = some (.string s) := fun W hW => (Joins.cell_of_block hW 4).trans (by rw [hcs]; rfl)
  have hb1 : BoxAt w.heap.size cs 46 w1 := hA.box
  rw [hcs] at hw1
  have HW1 := Lib.hid hw1
  clear hw1 h hcs hreg hl1 hl2 hl3 hl4 hl5 htc htr t1 t2 t3 t4 hc hr h1 h2 h3 h4 h5 hl
  unfold Reg.val
  go_enter Tryz.func164, Tryz.ntmps164
  go_wp2
  rw [← HW1.out]
  go_region_held3 (fun W => BoxAt w.heap.size cs 46 W) (with_reducible (first | assumption | (rw [BoxAt_drew]; assumption) | exact PutAt.isBox (by assumption)))
    ((first
      | (go_at_call 165; with_reducible refine Calls.mono (C1.out _ ?hw1) ?_; (case hw1 => with_reducible (first | assumption | (rw [PutAt_drew]; assumption))); rintro e w2 ⟨v2, rfl, hA2⟩)
      | (go_at_call 165; with_reducible refine Calls.mono (C2.out _ _ ?hw2) ?_; (case hw2 => with_reducible (first | assumption | (rw [PutAt_drew]; assumption))); rintro e w3 ⟨v3, rfl, hA3⟩)))
  clear hb1 hA hA2 C1 C2 HW1 k0 k1
  go_wp2
  go_region_held3 (fun W => BoxAt w.heap.size cs 46 W) (with_reducible (first | assumption | (rw [BoxAt_drew]; assumption) | exact PutAt.isBox (by assumption)))
    ((first
      | (go_at_call 200; with_reducible refine Calls.mono (D1.out v3 _ (by with_reducible (first | assumption | (rw [PutAt_drew]; assumption)))) ?_; rintro e wa ⟨rfl, hAa⟩)
      | (go_at_call 199; with_reducible refine Calls.mono (C3.out v3 _ (by with_reducible (first | assumption | (rw [PutAt_drew]; assumption)))) ?_; rintro e w4 ⟨v4, rfl, hA4⟩)
      | (go_at_call 200; with_reducible refine Calls.mono (D2.out v4 _ (by with_reducible (first | assumption | (rw [PutAt_drew]; assumption)))) ?_; rintro e wb ⟨rfl, hAb⟩)
      | (go_at_call 199; with_reducible refine Calls.mono (C4.out v4 _ (by with_reducible (first | assumption | (rw [PutAt_drew]; assumption)))) ?_; rintro e w5 ⟨v5, rfl, hA5⟩)
      | (go_at_call 165; with_reducible refine Calls.mono (C5.out v5 _ (by with_reducible (first | assumption | (rw [PutAt_drew]; assumption)))) ?_; rintro e w6 ⟨v6, rfl, hA6⟩)))
  go_wp2
  go_ret
  refine ⟨_, rfl, ?_, hA6.left⟩
  rw [HReg.out]
  exact hA6.buf
end Go.Proofs.YtpdbmpbmepkikaaGreatDoor

namespace Go.Proofs.YtpdbmpbmepkikaaGreatDoor
open Go.RowKit
attribute [local go_sem] Oper.semAt_some

/-- What the loop keeps: the outer one's own; the variable of yield. -/
structure FlI' (bx : Nat) (W0 : World) (D0 : Nat → Prop) (yv : Value) (W : World) (D D' : Nat → Prop) : Prop where
  dom : ∀ b, D b ↔ D' b ∨ b = bx
  old : ∀ b, D' b → D0 b ∨ W0.heap.size < b
  box : W.heap[bx]? = some (.cells #[yv] 92 (0, 0))
  size : W0.heap.size ≤ W.heap.size
def FlI (bx : Nat) (W0 : World) (D0 : Nat → Prop) (yv : Value) (J : List Reg → World → (Nat → Prop) → Prop) (pre : List Reg) (W : World) (D : Nat → Prop) : Prop :=
  ∃ D', J pre W D' ∧ FlI' bx W0 D0 yv W D D'
theorem FlI.owned {bx : Nat} {W0 : World} {D0 : Nat → Prop} {yv : Value} {J : List Reg → World → (Nat → Prop) → Prop} (hJ : Owned J) : Owned (FlI bx W0 D0 yv J) := ⟨fun pre W D h b hb => by
    obtain ⟨D', hj, h⟩ := h
    rcases (h.dom b).1 hb with hb | rfl
    · exact hJ.lt _ _ _ hj b hb
    · exact (Array.getElem?_eq_some_iff.1 h.box).1,
  fun pre W D W' h ha => by
    obtain ⟨D', hj, h⟩ := h
    exact ⟨D', hJ.st _ _ _ _ hj ⟨ha.os, ha.tape, ha.output, ha.size, fun k hk => ha.block k ((h.dom k).2 (.inl hk))⟩, h.dom, h.old, (ha.block _ ((h.dom _).2 (.inr rfl))).trans h.box, Nat.le_trans h.size ha.size⟩⟩
theorem FlI'.left {bx : Nat} {W w1 Wd : World} {D0 D D' : Nat → Prop} {yv : Value} (h : FlI' bx W D0 yv Wd D D') (hb : Below W.heap.size W w1) (hbx : W.heap.size ≤ bx) (hL : Left (fun b => D0 b ∨ b = bx) w1 D Wd) : Left D0 W D' Wd :=
  ⟨⟨hL.1.os.trans hb.os, hL.1.tape.trans hb.tape, hL.1.output.trans hb.output, Nat.le_trans hb.size hL.1.size, fun k hk hn =>
    (hL.1.block k (Nat.lt_of_lt_of_le hk hb.size) (by rintro (h' | h'); exact hn h'; omega)).trans (hb.block k hk)⟩,
  fun b hb' => (h.old b hb').imp id fun x => Nat.le_of_lt x⟩
theorem FlI'.step {bx : Nat} {W0 w3 W' : World} {D0 D D' D'' : Nat → Prop} {yv : Value} (h : FlI' bx W0 D0 yv w3 D D') (hd0 : ∀ b, D0 b → b ≠ bx) (hbx : bx = W0.heap.size) (hL : Left D' w3 D'' W') :
    FlI' bx W0 D0 yv W' (fun b => D'' b ∨ b = bx) D'' ∧ Left D w3 (fun b => D'' b ∨ b = bx) W' := by
  have hz := h.size
  have hx := (Array.getElem?_eq_some_iff.1 h.box).1
  have nD : ¬ D' bx := fun hd => by
    rcases h.old bx hd with h1 | h1
    · exact hd0 bx h1 rfl
    · omega
  refine ⟨⟨fun b => Iff.rfl, fun b hb => ?_, (hL.1.block _ hx nD).trans h.box, Nat.le_trans hz hL.1.size⟩, hL.1.mono fun k _ hk => (h.dom k).2 (.inl hk), fun b hb => ?_⟩
  · rcases hL.2 b hb with h1 | h1
    · exact h.old b h1
    · exact .inr (by omega)
  · rcases hb with hb | hb
    · rcases hL.2 b hb with h1 | h1
      · exact .inl ((h.dom b).2 (.inl h1))
      · exact .inr h1
    · exact .inl ((h.dom b).2 (.inr hb))

theorem fields1_iter (bp bn p m g : Nat) (id : Int) (L : List Reg) (n : ByteArray) (w : World)
    (hcp : w.cell? ⟨bp, 0, none⟩ = some (.pointer (some ⟨p, 0, none⟩))) (hcn : w.cell? ⟨bn, 0, none⟩ = some (.string n)) (hR0 : RepAt w p id m g) (hB : BookAt w m L) (hL : L.length ≤ 1073741824) (hn : n.size ≤ 4096) :
    Iter Tryz.prog 67 #[.pointer (some ⟨bp, 0, none⟩), .pointer (some ⟨bn, 0, none⟩)] (fun x : Reg => #[.string x.field, .string x.value]) (fun xs => xs = shownL L n) (fun b => b = bp ∨ b = bn ∨ b = p ∨ b = m) w := by
  intro l J Jx W D0 hA hJ hJx hR hY h0
  have hB1 : BookAt W m L := hB.of_block (hA.block m (by simp))
  have hR1 : RepAt W p id m g := (hA.block p (by simp)).trans hR0
  have hcp1 : W.cell? ⟨bp, 0, none⟩ = some (.pointer (some ⟨p, 0, none⟩)) := (World.cell?_of_block (w := w) (hA.block bp (by simp))).trans hcp
  have hcn1 : W.cell? ⟨bn, 0, none⟩ = some (.string n) := (World.cell?_of_block (w := w) (hA.block bn (by simp))).trans hcn
  have hp1 := hR1.cell.2.1
  have lbp := World.block_lt_of_cell? W _ hcp1
  have lbn := World.block_lt_of_cell? W _ hcn1
  have lp := hR1.lt
  have lm := hB1.lt
  have hpm := hR1.ne hB1
  have HX := Lib.hid (And.intro hA (And.intro hJ (And.intro hJx (And.intro hR (And.intro hY h0)))))
  have HB := Lib.hid hB1
  clear hA hJ hJx hR hY h0 hB1 hB hcp hcn hR0 hR1
  refine callsIn_of_wp_marks Tryz.func67 rfl trivial ?_ rfl
  simp only [Tryz.ntmps67, List.size_toArray, List.length_cons, List.length_nil, Nat.reduceAdd, Nat.reduceSub, Array.replicate_succ, Array.replicate_zero, List.push_toArray, List.append_toArray, List.nil_append, List.cons_append]
  gi_wp2
  obtain ⟨w1, hw1⟩ : ∃ w1, w1 = W.alloc (.cells #[.func (.yield l) #[] #[]] 92) := ⟨_, rfl⟩
  have e0 : w1.cell? ⟨bp, 0, none⟩ = some (.pointer (some ⟨p, 0, none⟩)) := by rw [hw1]; go_simp
  have e1 : w1.cell? ⟨bn, 0, none⟩ = some (.string n) := by rw [hw1]; go_simp
  have e2 : w1.cell? ⟨p, 1, none⟩ = some (.map (some m)) := by rw [hw1]; go_simp
  have HW := Lib.hid hw1
  have HC := Lib.hid (shown_at m L n w1.drew (by rw [hw1]; exact (HB.out.alloc _).of_block rfl) hL hn)
  rw [← hw1]
  clear hw1
  refine wpIn_mono ?hreg (fun e a w h => NoPanic.imp e a w h)
  gi_region_with (gi_at_call 68; refine (callsIn_wide.2 HC.out).mono ?_; rintro e w2 ⟨lb, rfl, hx, hb⟩)
  all_goals
    refine NoPanic.normal ?_
    have HX2 := Lib.hid (And.intro hx hb)
    clear hx hb HC e0 e1 e2
    gi_wp2
    obtain ⟨⟨R, hit, hRR⟩, hb2⟩ := HX2.out
    clear HX2
    obtain ⟨hA, hJ, hJx, hR, hY, h0⟩ := HX.out
    have hz1 : w1.heap.size = W.heap.size + 1 := by rw [HW.out]; simp
    have hz2 : w1.drew.heap.size = W.heap.size + 1 := hz1
    have hbel1 : Below W.heap.size W w1 := by rw [HW.out]; exact (Below.refl _ _).alloc (Nat.le_refl _) _
    have hbel : Below W.heap.size W w2 := hbel1.drew.trans (hb2.mono (by rw [hz2]; omega))
    have hbx : w2.heap[W.heap.size]? = some (.cells #[.func (.yield l) #[] #[]] 92 (0, 0)) := (hb2.block _ (by rw [hz2]; omega)).trans (by rw [HW.out]; exact World.alloc_heap_new _ _)
    have hzw := hb2.size
    rw [hz2] at hzw
    have hD0lt := hJ.lt _ _ _ h0
    have hd0 : ∀ b, D0 b → b ≠ W.heap.size := fun b hb e => by have := hD0lt b hb; omega
    have hdm : ∀ b, D0 b → b ≠ m := fun b hb e => hR b hb (by simp [e])
    have H0 : FlI W.heap.size W D0 (.func (.yield l) #[] #[]) J [] w2 (fun b => D0 b ∨ b = W.heap.size) :=
      ⟨D0, hJ.st _ _ _ _ h0 ((Keep.of_below' (F := fun _ => False) hbel).abide fun b hb => ⟨hD0lt b hb, fun h => h⟩), ⟨fun b => Iff.rfl, fun b hb => .inl hb, hbx, hbel.size⟩⟩
    refine wp_rangeFunc (gf := 120) (lb := lb) rfl (callFunc_run Tryz.func120 rfl (by decide)) hit (fun b hb => (hRR b hb).1) (fun _ => rfl)
      (FlI W.heap.size W D0 (.func (.yield l) #[] #[]) J) (fun c pre W' D => c = .ret ∧ FlI W.heap.size W D0 (.func (.yield l) #[] #[]) Jx pre W' D) (FlI.owned hJ) (fun c => ⟨fun s w D h b hb => (FlI.owned hJx).lt s w D h.2 b hb, fun s w D w' h ha => ⟨h.1, (FlI.owned hJx).st s w D w' h.2 ha⟩⟩)
      (fun b => D0 b ∨ b = W.heap.size) (fun b hb hr => ?idis) H0 ?round ?done ?stop
    case idis =>
      rcases (hRR b hr).2 with h | h
      · rcases hb with hb | hb
        · exact hdm b hb h
        · omega
      · rw [hz2] at h
        rcases hb with hb | hb
        · have := hD0lt b hb; omega
        · omega
    case done =>
      rintro xs Wd D hxs ⟨D', hj, hI⟩ hLf hK hDK
      have hl := hI.left hbel (Nat.le_refl _) hLf
      have hkk : ¬ D' w2.heap.size := fun h => hDK ((hI.dom _).2 (.inl h))
      have hj' := hJ.st _ _ _ _ hj ((But.putObj Wd w2.heap.size (.deferred none)).abide hkk)
      have hl' : Left D0 W D' (Wd.putObj w2.heap.size (.deferred none)) := hl.step (Keep.putObj (F := fun b => b = w2.heap.size) Wd w2.heap.size _ rfl) (fun x hx e => by omega)
      have hfin : Hid (J xs (Wd.putObj w2.heap.size (.deferred none)) D' ∧ Left D0 W D' (Wd.putObj w2.heap.size (.deferred none))) := Lib.hid ⟨hj', hl'⟩
      clear HX HB hA hJ hJx hR hY h0 hbel hit hD0lt hd0 hdm H0 hj hI hLf hl hj' hl' hbx HW hRR hb2 hbel1
      gi_wp2
      refine ⟨by simp, .inl ⟨_, _, rfl, run_takeDeferred hK, ?_⟩⟩
      exact ⟨_, results_none rfl _ _ _, ⟨_, rfl⟩, .inl ⟨_, D', hxs, hfin.out.1, hfin.out.2⟩⟩
    case stop =>
      rintro c pre Wd D ⟨suf, hpre⟩ ⟨rfl, D', hj, hI⟩ hLf hK hDK
      have hl := hI.left hbel (Nat.le_refl _) hLf
      have hkk : ¬ D' w2.heap.size := fun h => hDK ((hI.dom _).2 (.inl h))
      have hj' := hJx.st _ _ _ _ hj ((But.putObj Wd w2.heap.size (.deferred none)).abide hkk)
      have hl' : Left D0 W D' (Wd.putObj w2.heap.size (.deferred none)) := hl.step (Keep.putObj (F := fun b => b = w2.heap.size) Wd w2.heap.size _ rfl) (fun x hx e => by omega)
      have hfin : Hid (Jx pre (Wd.putObj w2.heap.size (.deferred none)) D' ∧ Left D0 W D' (Wd.putObj w2.heap.size (.deferred none))) := Lib.hid ⟨hj', hl'⟩
      clear HX HB hA hJ hJx hR hY h0 hbel hit hD0lt hd0 hdm H0 hj hI hLf hl hj' hl' hbx HW hRR hb2 hbel1
      gi_wp2
      refine ⟨by simp, .inl ⟨_, _, rfl, run_takeDeferred hK, ?_⟩⟩
      exact ⟨_, results_none rfl _ _ _, ⟨_, rfl⟩, .inr ⟨_, D', ⟨suf, hpre⟩, hfin.out.1, hfin.out.2⟩⟩
    case round =>
      rintro l2 pre ⟨xn, xf, xc, xr, xv⟩ Wr D hl1 hl2 hDl ⟨suf, hS⟩ hI hD0
      obtain ⟨D', hj, hI⟩ := hI
      unfold Reg.val
      have hDlt : ∀ b, D b → b < Wr.heap.size := (FlI.owned hJ).lt pre Wr D ⟨D', hj, hI⟩
      have HI := Lib.hid (And.intro hj hI)
      have HS := Lib.hid hS
      have HALL := Lib.hid (And.intro hJ (And.intro hJx (And.intro hY (And.intro hd0 (And.intro hDlt hDl)))))
      have hbx1 := (hI.dom W.heap.size).2 (.inr rfl)
      clear HX HB hA hJ hJx hR hY h0 hbel hit hD0lt hd0 hdm H0 hbx HW hRR hb2 hbel1 hj hI hS
      gi_wp2
      refine ⟨⟨Keep.alloc _ _ _, fun b hb => hb.imp (fun h => h) (·.1)⟩, fun W2 hbut => ?_⟩
      have hcl : W2.heap[Wr.heap.size]? = some (.cells #[.string xn, .string xf, .int .i64 xc, .int .i64 xr, .string xv] 46 (0, 0)) := (hbut.block _ (by omega)).trans (World.alloc_heap_new _ _)
      have c1 : W2.cell? ⟨Wr.heap.size, 1, none⟩ = some (.string xf) := Joins.cell_of_block hcl 1
      have c4 : W2.cell? ⟨Wr.heap.size, 4, none⟩ = some (.string xv) := Joins.cell_of_block hcl 4
      obtain ⟨hj, hI⟩ := HI.out
      obtain ⟨hJ, hJx, hY, hd0, hDlt', hDl'⟩ := HALL.out
      have kb : ∀ b, D b → W2.heap[b]? = Wr.heap[b]? := fun b hb => (hbut.block b (fun e => hDl' (e ▸ hb))).trans (Below.heap_alloc _ _ _ (hDlt b hb))
      have hI2 : FlI' W.heap.size W D0 (.func (.yield l) #[] #[]) W2 D D' := ⟨hI.dom, hI.old, (kb _ hbx1).trans hI.box, Nat.le_trans hI.size (by rw [hbut.size]; simp)⟩
      have hj2 : J pre W2 D' := hJ.st _ _ _ _ hj ⟨hbut.os, hbut.tape, hbut.output, by rw [hbut.size]; simp, fun k hk => kb k ((hI.dom k).2 (.inl hk))⟩
      have q1 : W2.cell? ⟨W.heap.size, 0, none⟩ = some (.func (.yield l) #[] #[]) := Joins.cell_of_block hI2.box 0
      obtain ⟨fn, tmps, assign, body, hy, hRr⟩ := hY pre ⟨xn, xf, xc, xr, xv⟩ W2 D' ⟨suf, HS.out⟩ hj2
      have HRr := Lib.hid (RoundIn.inRound l2 hRr)
      have hyy : (Instr.yield l #[.string xf, .string xv]).run Tryz.prog W2 = .ok (.round l fn tmps assign body) W2 := hy
      have H2 := Lib.hid (And.intro hI2 hd0)
      clear hj hI hJ hJx hY hd0 hDlt' hDl' kb hI2 hj2 hbut HI HALL hcl hbx1 hy hRr
      gi_wp2
      refine HRr.out.mono ?_
      rintro e W' hend
      have hfin : Hid (∀ (D'' : Nat → Prop), Left D' W2 D'' W' → FlI' W.heap.size W D0 (.func (.yield l) #[] #[]) W' (fun b => D'' b ∨ b = W.heap.size) D'' ∧ Left (fun b => D b ∨ (Wr.heap.size ≤ b ∧ b < (Wr.alloc (.cells #[.string xn, .string xf, .int .i64 xc, .int .i64 xr, .string xv] 46)).heap.size)) W2 (fun b => D'' b ∨ b = W.heap.size) W') := Lib.hid fun D'' hL => by
        obtain ⟨f1, f2⟩ := H2.out.1.step H2.out.2 rfl hL
        exact ⟨f1, f2.shift (Keep.refl _ _) (fun b hb => .inl hb)⟩
      clear hyy H2 HRr
      rcases hend with ⟨rfl, D'', hj', hL'⟩ | ⟨rfl, D'', hj', hL'⟩
      · have HE := Lib.hid (And.intro hj' hL')
        clear hj' hL'
        gi_wp2
        exact ⟨_, ⟨D'', HE.out.1, (hfin.out _ HE.out.2).1⟩, (hfin.out _ HE.out.2).2⟩
      · have HE := Lib.hid (And.intro hj' hL')
        clear hj' hL'
        gi_wp2
        exact ⟨_, ⟨rfl, D'', HE.out.1, (hfin.out _ HE.out.2).1⟩, (hfin.out _ HE.out.2).2⟩
end Go.Proofs.YtpdbmpbmepkikaaGreatDoor

namespace Go.Proofs.YtpdbmpbmepkikaaGreatDoor
open Go.RowKit
attribute [local go_sem] Oper.semAt_some

theorem fields1_iterC (bp bn p m g : Nat) (id : Int) (L : List Reg) (n : ByteArray) (w : World)
    (hcp : w.cell? ⟨bp, 0, none⟩ = some (.pointer (some ⟨p, 0, none⟩))) (hcn : w.cell? ⟨bn, 0, none⟩ = some (.string n)) (hR0 : RepAt w p id m g) (hB : BookAt w m L) (hL : L.length ≤ 1073741824) (hn : n.size ≤ 4096) :
    IterC Tryz.prog 67 #[.pointer (some ⟨bp, 0, none⟩), .pointer (some ⟨bn, 0, none⟩)] (fun x : Reg => #[.string x.field, .string x.value]) (fun xs => xs = shownL L n) (fun b => b = bp ∨ b = bn ∨ b = p ∨ b = m) w := by
  intro cf cl J Jx W D0 ecf hA hJ hJx hR hY h0
  have hB1 : BookAt W m L := hB.of_block (hA.block m (by simp))
  have hR1 : RepAt W p id m g := (hA.block p (by simp)).trans hR0
  have hcp1 : W.cell? ⟨bp, 0, none⟩ = some (.pointer (some ⟨p, 0, none⟩)) := (World.cell?_of_block (w := w) (hA.block bp (by simp))).trans hcp
  have hcn1 : W.cell? ⟨bn, 0, none⟩ = some (.string n) := (World.cell?_of_block (w := w) (hA.block bn (by simp))).trans hcn
  have hp1 := hR1.cell.2.1
  have lbp := World.block_lt_of_cell? W _ hcp1
  have lbn := World.block_lt_of_cell? W _ hcn1
  have lp := hR1.lt
  have lm := hB1.lt
  have hpm := hR1.ne hB1
  have HX := Lib.hid (And.intro hA (And.intro hJ (And.intro hJx (And.intro hR (And.intro hY h0)))))
  have HB := Lib.hid hB1
  clear hA hJ hJx hR hY h0 hB1 hB hcp hcn hR0 hR1
  refine callsIn_of_wp_marks Tryz.func67 rfl trivial ?_ rfl
  simp only [Tryz.ntmps67, List.size_toArray, List.length_cons, List.length_nil, Nat.reduceAdd, Nat.reduceSub, Array.replicate_succ, Array.replicate_zero, List.push_toArray, List.append_toArray, List.nil_append, List.cons_append]
  gi_wp2
  obtain ⟨w1, hw1⟩ : ∃ w1, w1 = W.alloc (.cells #[.func (.func cf) #[] cl] 92) := ⟨_, rfl⟩
  have e0 : w1.cell? ⟨bp, 0, none⟩ = some (.pointer (some ⟨p, 0, none⟩)) := by rw [hw1]; go_simp
  have e1 : w1.cell? ⟨bn, 0, none⟩ = some (.string n) := by rw [hw1]; go_simp
  have e2 : w1.cell? ⟨p, 1, none⟩ = some (.map (some m)) := by rw [hw1]; go_simp
  have HW := Lib.hid hw1
  have HC := Lib.hid (shown_at m L n w1.drew (by rw [hw1]; exact (HB.out.alloc _).of_block rfl) hL hn)
  rw [← hw1]
  clear hw1
  refine wpIn_mono ?hreg (fun e a w h => NoPanic.imp e a w h)
  gi_region_with (gi_at_call 68; refine (callsIn_wide.2 HC.out).mono ?_; rintro e w2 ⟨lb, rfl, hx, hb⟩)
  all_goals
    refine NoPanic.normal ?_
    have HX2 := Lib.hid (And.intro hx hb)
    clear hx hb HC e0 e1 e2
    gi_wp2
    obtain ⟨⟨R, hit, hRR⟩, hb2⟩ := HX2.out
    clear HX2
    obtain ⟨hA, hJ, hJx, hR, hY, h0⟩ := HX.out
    have hz1 : w1.heap.size = W.heap.size + 1 := by rw [HW.out]; simp
    have hz2 : w1.drew.heap.size = W.heap.size + 1 := hz1
    have hbel1 : Below W.heap.size W w1 := by rw [HW.out]; exact (Below.refl _ _).alloc (Nat.le_refl _) _
    have hbel : Below W.heap.size W w2 := hbel1.drew.trans (hb2.mono (by rw [hz2]; omega))
    have hbx : w2.heap[W.heap.size]? = some (.cells #[.func (.func cf) #[] cl] 92 (0, 0)) := (hb2.block _ (by rw [hz2]; omega)).trans (by rw [HW.out]; exact World.alloc_heap_new _ _)
    have hzw := hb2.size
    rw [hz2] at hzw
    have hD0lt := hJ.lt _ _ _ h0
    have hd0 : ∀ b, D0 b → b ≠ W.heap.size := fun b hb e => by have := hD0lt b hb; omega
    have hdm : ∀ b, D0 b → b ≠ m := fun b hb e => hR b hb (by simp [e])
    have H0 : FlI W.heap.size W D0 (.func (.func cf) #[] cl) J [] w2 (fun b => D0 b ∨ b = W.heap.size) :=
      ⟨D0, hJ.st _ _ _ _ h0 ((Keep.of_below' (F := fun _ => False) hbel).abide fun b hb => ⟨hD0lt b hb, fun h => h⟩), ⟨fun b => Iff.rfl, fun b hb => .inl hb, hbx, hbel.size⟩⟩
    refine wp_rangeFunc (gf := 120) (lb := lb) rfl (callFunc_run Tryz.func120 rfl (by decide)) hit (fun b hb => (hRR b hb).1) (fun _ => rfl)
      (FlI W.heap.size W D0 (.func (.func cf) #[] cl) J) (fun c pre W' D => c = .ret ∧ FlI W.heap.size W D0 (.func (.func cf) #[] cl) Jx pre W' D) (FlI.owned hJ) (fun c => ⟨fun s w D h b hb => (FlI.owned hJx).lt s w D h.2 b hb, fun s w D w' h ha => ⟨h.1, (FlI.owned hJx).st s w D w' h.2 ha⟩⟩)
      (fun b => D0 b ∨ b = W.heap.size) (fun b hb hr => ?idis) H0 ?round ?done ?stop
    case idis =>
      rcases (hRR b hr).2 with h | h
      · rcases hb with hb | hb
        · exact hdm b hb h
        · omega
      · rw [hz2] at h
        rcases hb with hb | hb
        · have := hD0lt b hb; omega
        · omega
    case done =>
      rintro xs Wd D hxs ⟨D', hj, hI⟩ hLf hK hDK
      have hl := hI.left hbel (Nat.le_refl _) hLf
      have hkk : ¬ D' w2.heap.size := fun h => hDK ((hI.dom _).2 (.inl h))
      have hj' := hJ.st _ _ _ _ hj ((But.putObj Wd w2.heap.size (.deferred none)).abide hkk)
      have hl' : Left D0 W D' (Wd.putObj w2.heap.size (.deferred none)) := hl.step (Keep.putObj (F := fun b => b = w2.heap.size) Wd w2.heap.size _ rfl) (fun x hx e => by omega)
      have hfin : Hid (J xs (Wd.putObj w2.heap.size (.deferred none)) D' ∧ Left D0 W D' (Wd.putObj w2.heap.size (.deferred none))) := Lib.hid ⟨hj', hl'⟩
      clear HX HB hA hJ hJx hR hY h0 hbel hit hD0lt hd0 hdm H0 hj hI hLf hl hj' hl' hbx HW hRR hb2 hbel1
      gi_wp2
      refine ⟨by simp, .inl ⟨_, _, rfl, run_takeDeferred hK, ?_⟩⟩
      exact ⟨_, results_none rfl _ _ _, ⟨_, rfl⟩, .inl ⟨_, D', hxs, hfin.out.1, hfin.out.2⟩⟩
    case stop =>
      rintro c pre Wd D ⟨suf, hpre⟩ ⟨rfl, D', hj, hI⟩ hLf hK hDK
      have hl := hI.left hbel (Nat.le_refl _) hLf
      have hkk : ¬ D' w2.heap.size := fun h => hDK ((hI.dom _).2 (.inl h))
      have hj' := hJx.st _ _ _ _ hj ((But.putObj Wd w2.heap.size (.deferred none)).abide hkk)
      have hl' : Left D0 W D' (Wd.putObj w2.heap.size (.deferred none)) := hl.step (Keep.putObj (F := fun b => b = w2.heap.size) Wd w2.heap.size _ rfl) (fun x hx e => by omega)
      have hfin : Hid (Jx pre (Wd.putObj w2.heap.size (.deferred none)) D' ∧ Left D0 W D' (Wd.putObj w2.heap.size (.deferred none))) := Lib.hid ⟨hj', hl'⟩
      clear HX HB hA hJ hJx hR hY h0 hbel hit hD0lt hd0 hdm H0 hj hI hLf hl hj' hl' hbx HW hRR hb2 hbel1
      gi_wp2
      refine ⟨by simp, .inl ⟨_, _, rfl, run_takeDeferred hK, ?_⟩⟩
      exact ⟨_, results_none rfl _ _ _, ⟨_, rfl⟩, .inr ⟨_, D', ⟨suf, hpre⟩, hfin.out.1, hfin.out.2⟩⟩
    case round =>
      rintro l2 pre ⟨xn, xf, xc, xr, xv⟩ Wr D hl1 hl2 hDl ⟨suf, hS⟩ hI hD0
      obtain ⟨D', hj, hI⟩ := hI
      unfold Reg.val
      have hDlt : ∀ b, D b → b < Wr.heap.size := (FlI.owned hJ).lt pre Wr D ⟨D', hj, hI⟩
      have HI := Lib.hid (And.intro hj hI)
      have HS := Lib.hid hS
      have HALL := Lib.hid (And.intro hJ (And.intro hJx (And.intro hY (And.intro hd0 (And.intro hDlt hDl)))))
      have hbx1 := (hI.dom W.heap.size).2 (.inr rfl)
      clear HX HB hA hJ hJx hR hY h0 hbel hit hD0lt hd0 hdm H0 hbx HW hRR hb2 hbel1 hj hI hS
      gi_wp2
      refine ⟨⟨Keep.alloc _ _ _, fun b hb => hb.imp (fun h => h) (·.1)⟩, fun W2 hbut => ?_⟩
      have hcl : W2.heap[Wr.heap.size]? = some (.cells #[.string xn, .string xf, .int .i64 xc, .int .i64 xr, .string xv] 46 (0, 0)) := (hbut.block _ (by omega)).trans (World.alloc_heap_new _ _)
      have c1 : W2.cell? ⟨Wr.heap.size, 1, none⟩ = some (.string xf) := Joins.cell_of_block hcl 1
      have c4 : W2.cell? ⟨Wr.heap.size, 4, none⟩ = some (.string xv) := Joins.cell_of_block hcl 4
      obtain ⟨hj, hI⟩ := HI.out
      obtain ⟨hJ, hJx, hY, hd0, hDlt', hDl'⟩ := HALL.out
      have kb : ∀ b, D b → W2.heap[b]? = Wr.heap[b]? := fun b hb => (hbut.block b (fun e => hDl' (e ▸ hb))).trans (Below.heap_alloc _ _ _ (hDlt b hb))
      have hI2 : FlI' W.heap.size W D0 (.func (.func cf) #[] cl) W2 D D' := ⟨hI.dom, hI.old, (kb _ hbx1).trans hI.box, Nat.le_trans hI.size (by rw [hbut.size]; simp)⟩
      have hj2 : J pre W2 D' := hJ.st _ _ _ _ hj ⟨hbut.os, hbut.tape, hbut.output, by rw [hbut.size]; simp, fun k hk => kb k ((hI.dom k).2 (.inl hk))⟩
      have q1 : W2.cell? ⟨W.heap.size, 0, none⟩ = some (.func (.func cf) #[] cl) := Joins.cell_of_block hI2.box 0
      have hRr := hY pre ⟨xn, xf, xc, xr, xv⟩ W2 D' ⟨suf, HS.out⟩ hj2
      have HRr := Lib.hid (CallsIn.inRound l2 hRr)
      have H2 := Lib.hid (And.intro hI2 hd0)
      clear hj hI hJ hJx hY hd0 hDlt' hDl' kb hI2 hj2 hbut HI HALL hcl hbx1 hRr
      gi_wp2
      refine HRr.out.mono ?_
      rintro e W' hend
      have hfin : Hid (∀ (D'' : Nat → Prop), Left D' W2 D'' W' → FlI' W.heap.size W D0 (.func (.func cf) #[] cl) W' (fun b => D'' b ∨ b = W.heap.size) D'' ∧ Left (fun b => D b ∨ (Wr.heap.size ≤ b ∧ b < (Wr.alloc (.cells #[.string xn, .string xf, .int .i64 xc, .int .i64 xr, .string xv] 46)).heap.size)) W2 (fun b => D'' b ∨ b = W.heap.size) W') := Lib.hid fun D'' hL => by
        obtain ⟨f1, f2⟩ := H2.out.1.step H2.out.2 rfl hL
        exact ⟨f1, f2.shift (Keep.refl _ _) (fun b hb => .inl hb)⟩
      clear H2 HRr
      rcases hend with ⟨rfl, D'', hj', hL'⟩ | ⟨rfl, D'', hj', hL'⟩
      · have HE := Lib.hid (And.intro hj' hL')
        clear hj' hL'
        gi_wp2
        exact ⟨_, ⟨D'', HE.out.1, (hfin.out _ HE.out.2).1⟩, (hfin.out _ HE.out.2).2⟩
      · have HE := Lib.hid (And.intro hj' hL')
        clear hj' hL'
        gi_wp2
        exact ⟨_, ⟨rfl, D'', HE.out.1, (hfin.out _ HE.out.2).1⟩, (hfin.out _ HE.out.2).2⟩
end Go.Proofs.YtpdbmpbmepkikaaGreatDoor

namespace Go.Proofs.YtpdbmpbmepkikaaGreatDoor
open Go.RowKit
attribute [local go_sem] Oper.semAt_some

theorem fieldsR_any (p : Nat) (n : ByteArray) (w : World) :
    Calls Tryz.prog 44 #[.pointer (some ⟨p, 0, none⟩), .string n] w fun e w' => e = .returned (.func (.func 67) #[] #[.pointer (some ⟨w.heap.size, 0, none⟩), .pointer (some ⟨w.heap.size + 1, 0, none⟩)]) ∧
      w' = (w.alloc (.cells #[.pointer (some ⟨p, 0, none⟩)] 77)).alloc (.cells #[.string n] 9) := by
  go_enter Tryz.func44, Tryz.ntmps44
  go_wp2
  go_ret
  exact ⟨rfl, rfl⟩

theorem fvs_snoc (l : List Reg) (x : Reg) : fvs (l ++ [x]) = fvs l ++ [x.field, x.value] := by simp [fvs]

/-- The first round: what is gathered, and the variable ok. -/
structure FdI (N : Nat) (pre : List Reg) (W : World) (D : Nat → Prop) (v : Value) : Prop where
  acc : AccAt W N 51 9 1 v (2 * pre.length) ((fvs pre).map .string)
  ok : W.heap[N + 1]? = some (.cells #[.bool true] 4 (0, 0))
  dom : D = fun b => accD N v b ∨ b = N + 1
theorem FdI.owned (N : Nat) : Owned (fun pre W D => ∃ v, FdI N pre W D v) := ⟨fun pre W D ⟨v, h⟩ b hb => by
    rw [h.dom] at hb
    rcases hb with hb | rfl
    · exact h.acc.lt b hb
    · exact (Array.getElem?_eq_some_iff.1 h.ok).1,
  fun pre W D W' ⟨v, h⟩ ha => ⟨v, h.acc.abide fun b hb => ha.block b (by rw [h.dom]; exact .inl hb), (ha.block _ (by rw [h.dom]; exact .inr rfl)).trans h.ok, h.dom⟩⟩

/-- The second round: what the closure's variables hold. -/
def SecJ (bo bn bk bl : Nat) (F : List Reg) (lv : Value) (D2 : Nat → Prop) (last : Bool) (pre : List Reg) (W : World) (D : Nat → Prop) : Prop :=
  ∃ no k, F45 bo bn bk bl true no k lv W ∧ (last = false → no = false ∧ k = (2 * pre.length : Nat)) ∧ StrAt W lv (fvs F) ∧ D = D2
theorem SecJ.owned {bo bn bk bl : Nat} {F : List Reg} {lv : Value} {D2 : Nat → Prop} (h1 : ∀ b, D2 b ↔ (b = bo ∨ b = bn ∨ b = bk ∨ b = bl ∨ lv.ownBlock = some b)) (last : Bool) : Owned (SecJ bo bn bk bl F lv D2 last) := ⟨fun pre W D ⟨no, k, h, _, hs, e⟩ b hb => by
    subst e
    rcases (h1 b).1 hb with rfl | rfl | rfl | rfl | hb
    · exact (Array.getElem?_eq_some_iff.1 h.ok).1
    · exact (Array.getElem?_eq_some_iff.1 h.no).1
    · exact (Array.getElem?_eq_some_iff.1 h.k).1
    · exact (Array.getElem?_eq_some_iff.1 h.l).1
    · exact (World.ownsRow.lt hs b hb).2,
  fun pre W D W' ⟨no, k, h, hl, hs, e⟩ ha => by
    subst e
    exact ⟨no, k, ⟨(ha.block _ ((h1 _).2 (.inl rfl))).trans h.ok, (ha.block _ ((h1 _).2 (.inr (.inl rfl)))).trans h.no, (ha.block _ ((h1 _).2 (.inr (.inr (.inl rfl))))).trans h.k, (ha.block _ ((h1 _).2 (.inr (.inr (.inr (.inl rfl)))))).trans h.l⟩, hl, ownsRow_block hs fun g hg => ha.block g ((h1 g).2 (.inr (.inr (.inr (.inr hg))))), rfl⟩⟩

theorem second_any (bo bn bk bl bp bq p m g0 : Nat) (id : Int) (L : List Reg) (n : ByteArray) (lv : Value) (_W0 W : World) (D2 : Nat → Prop) (h1 : ∀ b, D2 b ↔ (b = bo ∨ b = bn ∨ b = bk ∨ b = bl ∨ lv.ownBlock = some b))
    (hcp : W.cell? ⟨bp, 0, none⟩ = some (.pointer (some ⟨p, 0, none⟩))) (hcn : W.cell? ⟨bq, 0, none⟩ = some (.string n)) (hR : RepAt W p id m g0) (hB : BookAt W m L) (hL : L.length ≤ 1073741824) (hn : n.size ≤ 4096) (hF : (shownL L n).length ≤ 1000000)
    (hd : bo ≠ bn ∧ bo ≠ bk ∧ bo ≠ bl ∧ bn ≠ bk ∧ bn ≠ bl ∧ bk ≠ bl) (hlv : ∀ b, lv.ownBlock = some b → b ≠ bo ∧ b ≠ bn ∧ b ≠ bk ∧ b ≠ bl)
    (hdis : ∀ b, D2 b → ¬ (b = bp ∨ b = bq ∨ b = p ∨ b = m)) (h45 : F45 bo bn bk bl true false 0 lv W) (hs : StrAt W lv (fvs (shownL L n))) :
    Calls Tryz.prog 67 #[.func (.func 45) #[] #[.pointer (some ⟨bo, 0, none⟩), .pointer (some ⟨bn, 0, none⟩), .pointer (some ⟨bk, 0, none⟩), .pointer (some ⟨bl, 0, none⟩)], .pointer (some ⟨bp, 0, none⟩), .pointer (some ⟨bq, 0, none⟩)] W fun e W' =>
      (∃ v, e = .returned v) ∧ (∃ no k, F45 bo bn bk bl true no k lv W') ∧ StrAt W' lv (fvs (shownL L n)) ∧ Keep D2 W W' := by
  obtain ⟨F, hFe⟩ : ∃ F, F = shownL L n := ⟨_, rfl⟩
  have hit := fields1_iterC bp bq p m g0 id L n W hcp hcn hR hB hL hn
  rw [← hFe] at hit hs hF ⊢
  have hc := hit 45 #[.pointer (some ⟨bo, 0, none⟩), .pointer (some ⟨bn, 0, none⟩), .pointer (some ⟨bk, 0, none⟩), .pointer (some ⟨bl, 0, none⟩)] (SecJ bo bn bk bl F lv D2 false) (SecJ bo bn bk bl F lv D2 true) W D2
    (callFunc_run Tryz.func45 rfl (by decide)) ⟨rfl, rfl, rfl, Nat.le_refl _, fun _ _ => rfl⟩ (SecJ.owned h1 false) (SecJ.owned h1 true) hdis ?_ ⟨false, 0, h45, fun _ => ⟨rfl, rfl⟩, hs, rfl⟩
  · refine (callsIn_wide (n := 0)).1 (hc.mono ?_)
    rintro e W' ⟨hv, (⟨xs, D', _, ⟨no, k, h, _, hs', rfl⟩, hL'⟩ | ⟨pre, D', _, ⟨no, k, h, _, hs', rfl⟩, hL'⟩)⟩
    · exact ⟨hv, ⟨no, k, h⟩, hs', hL'.1⟩
    · exact ⟨hv, ⟨no, k, h⟩, hs', hL'.1⟩
  · rintro pre x W1 D1 ⟨suf, hS⟩ ⟨no, k, h, hk, hs1, rfl⟩
    obtain ⟨rfl, rfl⟩ := hk rfl
    have hj : pre.length < F.length := by rw [← hS]; simp
    have hx : F[pre.length] = x := by simp [← hS]
    have := fields45_any bo bn bk bl F pre.length hj hF lv W1 h hs1 hd
    rw [hx] at this
    refine (callsIn_wide.2 this).mono ?_
    rintro e W' ⟨rfl, h', hk'⟩
    have hs' : StrAt W' lv (fvs F) := ownsRow_block hs1 fun g hg => hk'.block g (World.ownsRow.lt hs1 g hg).2 (by obtain ⟨a, b, c, d⟩ := hlv g hg; rintro (e | e | e) <;> contradiction)
    have hL' : Left D1 W1 D1 W' := ⟨hk'.mono fun b _ hb => (h1 b).2 (by rcases hb with h | h | h <;> simp [h]), fun b hb => .inl hb⟩
    by_cases hle : 2 * pre.length + 2 ≤ F.length
    · exact .inl ⟨by simp [hle], D1, ⟨_, _, h', fun _ => ⟨by simp; omega, by simp⟩, hs', rfl⟩, hL'⟩
    · exact .inr ⟨by simp [hle], D1, ⟨_, _, h', (fun h => Bool.noConfusion h), hs', rfl⟩, hL'⟩

set_option maxHeartbeats 2000000 in
theorem fieldsW_any (pw : Nat) (lv : Value) (ps : List Nat) (i : Nat) (hi : i < ps.length) (id : Int) (m g0 : Nat) (L : List Reg) (n : ByteArray) (w : World) (hW : WldAt w pw lv ps) (hps : ps.length ≤ 1000000) (hR : RepAt w ps[i] id m g0) (hB : BookAt w m L) (hL : L.length ≤ 500000) (hn : n.size ≤ 4096) :
    Calls Tryz.prog 27 #[.pointer (some ⟨pw, 0, none⟩), .int .i64 i, .string n] w fun e w' => ∃ v, e = .returned (.tuple #[v, .bool true]) ∧ w'.ownsRow w.heap.size 9 1 v (fvs (shownL L n)).length ((fvs (shownL L n)).map .string) ∧ Below w.heap.size w w' := by
  obtain ⟨gs, caps, hv, hg, hci⟩ := hW.cell hi
  subst hv
  obtain ⟨p, hp⟩ : ∃ p, p = ps[i] := ⟨_, rfl⟩
  rw [← hp] at hR hci
  have hcw : w.cell? ⟨pw, 0, none⟩ = some (.slice (some ⟨gs, 0, none⟩) ps.length caps) := Joins.cell_of_block hW.box 0
  have hpwl := (Array.getElem?_eq_some_iff.1 hW.box).1
  obtain ⟨i0, hi9, hq0, hq1, hq2⟩ := info_parts info9
  have hii : (i : Int) < (ps.length : Int) := by omega
  have hpl := hR.lt
  have hml := hB.lt
  have hpm := hR.ne hB
  have HB := Lib.hid (And.intro hR hB)
  clear hR hB hW hp
  refine (callsIn_wide (n := 0)).1 (callsIn_of_wp_marks Tryz.func27 rfl trivial ?_ rfl)
  simp only [Tryz.ntmps27, List.size_toArray, List.length_cons, List.length_nil, Nat.reduceAdd, Nat.reduceSub, Array.replicate_succ, Array.replicate_zero, List.push_toArray, List.append_toArray, List.nil_append, List.cons_append]
  gi_wp2_with (gi_at_call 44; refine (callsIn_wide.2 (fieldsR_any p n _)).mono ?_; rintro e w1 ⟨rfl, hw1⟩; have HW := Lib.hid hw1; clear hw1)
  obtain ⟨hR, hB⟩ := HB.out
  have hbel : Below w.heap.size w w1 := by rw [HW.out]; exact ((((Below.refl _ _).alloc (Nat.le_refl _) _).alloc (by simp) _).alloc (by simp; omega) _).alloc (by simp; omega) _
  have hz1 : w1.heap.size = w.heap.size + 4 := by rw [HW.out]; simp
  have hbl : w1.heap[w.heap.size]? = some (.cells #[.slice none 0 0] 51 (0, 0)) := by rw [HW.out]; simp only [World.alloc]; grind
  have hbo : w1.heap[w.heap.size + 1]? = some (.cells #[.bool true] 4 (0, 0)) := by rw [HW.out]; simp only [World.alloc]; grind
  have hcp : w1.cell? ⟨w.heap.size + 1 + 1, 0, none⟩ = some (.pointer (some ⟨p, 0, none⟩)) := by rw [HW.out]; go_simp
  have hcn : w1.cell? ⟨w.heap.size + 1 + 1 + 1, 0, none⟩ = some (.string n) := by rw [HW.out]; go_simp
  have hR1 : RepAt w1 p id m g0 := (hbel.block p hpl).trans hR
  have hB1 : BookAt w1 m L := hB.below hbel
  have hit := fields1_iter (w.heap.size + 1 + 1) (w.heap.size + 1 + 1 + 1) p m g0 id L n w1 hcp hcn hR1 hB1 (by omega) hn
  have hSl : (shownL L n).length ≤ 500000 := by
    refine Nat.le_trans (List.length_filter_le _ _) ?_
    unfold belowL
    rw [List.length_map, sortB_length]
    exact Nat.le_trans (List.length_filter_le _ _) (by simpa using hL)
  refine wp_rangeFunc (gf := 67) (lb := #[.pointer (some ⟨w.heap.size + 1 + 1, 0, none⟩), .pointer (some ⟨w.heap.size + 1 + 1 + 1, 0, none⟩)]) rfl (callFunc_run Tryz.func67 rfl (by decide)) hit (fun b hb => by rcases hb with rfl | rfl | rfl | rfl <;> omega) (fun _ => rfl)
    (fun pre W D => ∃ v, FdI w.heap.size pre W D v) (fun _ _ _ _ => False) (FdI.owned _) (fun _ => ⟨fun _ _ _ h => h.elim, fun _ _ _ _ h => h.elim⟩)
    (fun b => accD w.heap.size (.slice none 0 0) b ∨ b = w.heap.size + 1) (fun b hb => ?idis) ⟨_, ⟨hbl, World.ownsRow_nil _ _ _ _⟩, hbo, rfl⟩ ?round ?done ?stop
  case idis =>
    rcases hb with (rfl | hb) | rfl
    · rintro (h | h | h | h) <;> omega
    · cases hb
    · rintro (h | h | h | h) <;> omega
  case stop => exact fun _ _ _ _ _ h => h.elim
  case round =>
    rintro l pre ⟨xn, xf, xc, xr, xv⟩ W D hl1 hl2 hDl ⟨suf, hS⟩ ⟨v, hI⟩ hD0
    have hlen : pre.length + 1 ≤ 500000 := by rw [← hS] at hSl; simp at hSl; omega
    have HI := Lib.hid hI
    have hd := hI.dom
    subst hd
    clear hit hbel hbl hbo hcp hcn hR1 hB1 hI hS hR hB hci hcw
    gi_wp2
    refine ⟨⟨.refl _ _, fun b hb => hb.imp (fun h => h) (·.1)⟩, fun W2 hbut => ?_⟩
    have kb : ∀ b, (accD w.heap.size v b ∨ b = w.heap.size + 1) → W2.heap[b]? = W.heap[b]? := fun b hb => hbut.block b (fun e => hDl (e ▸ hb))
    have hacc2 : AccAt W2 w.heap.size 51 9 1 v (2 * pre.length) ((fvs pre).map .string) := HI.out.acc.abide fun b hb => kb b (.inl hb)
    have hok2 : W2.heap[w.heap.size + 1]? = some (.cells #[.bool true] 4 (0, 0)) := (kb _ (.inr rfl)).trans HI.out.ok
    obtain ⟨hc, hf⟩ := hacc2.cell
    have hrow := hacc2.row
    have hlt2 := hacc2.lt
    have hN2 := hlt2 _ (.inl rfl)
    have hokl := (Array.getElem?_eq_some_iff.1 hok2).1
    have HA := Lib.hid hacc2
    have HOk := Lib.hid hok2
    clear hacc2 hbut hDl hD0 hlt2 hok2 kb
    gi_wp2_with (gi_at_builtin; go_must (refine wpListIn_append_own_at _ rfl _ _ 51 rfl (w.heap.size + 1) 9 i0 (.string ⟨#[]⟩) 1 16 Tryz.underlying51 hi9 hq0 hq1 hq2 rfl (by decide) v (2 * pre.length) ((fvs pre).map .string) rfl (hrow.alloc _) ⟨W2.heap.size, 0, none⟩ 2 2 [.string xf, .string xv] rfl rfl (newsAt (by first | rfl | simp) _ _ rfl) (by simp [Value.oneCell']) (by unfold maxLen; omega) (by omega) (by simp; omega) ?_); intro v' w3 ho' hg' _ hat; refine Halt.of ?_)
    obtain ⟨g', cap', hv'⟩ := ownsRow_succ ho'
    have hap := Lib.hid (AccAt.appended (AccAt.abide HA.out (fun b hb => Below.heap_alloc _ _ _ (AccAt.lt HA.out b hb))) hg' ho' hat)
    have hnb : some w.heap.size ≠ v.ownBlock := fun e => by have := (hrow.lt _ e.symm).1; omega
    have hnb1 : some (w.heap.size + 1) ≠ v.ownBlock := fun e => by
      obtain ⟨h1, h2⟩ := hrow
      rcases h2 with ⟨rfl, _⟩ | ⟨g, cap, cur, rfl, _, hg, _⟩
      · cases e
      · simp only [Value.ownBlock, Option.some.injEq] at e
        subst e
        rw [HOk.out] at hg; cases hg
    have hc1 : w3.cell? ⟨w.heap.size, 0, none⟩ = some v := (World.cell?_of_block (w := W2.alloc (.cells #[.string xf, .string xv] 9)) (hg'.block _ (by simp; omega) hnb)).trans ((World.cell?_of_block (w := W2) (Below.heap_alloc _ _ _ hN2)).trans hc)
    have hf1 : w3.frozen? ⟨w.heap.size, 0, none⟩ = false := (World.frozen?_of_block (w := W2.alloc (.cells #[.string xf, .string xv] 9)) (hg'.block _ (by simp; omega) hnb)).trans ((World.frozen?_of_block (w := W2) (Below.heap_alloc _ _ _ hN2)).trans hf)
    have hok3 : Hid (w3.heap[w.heap.size + 1]? = some (.cells #[.bool true] 4 (0, 0))) := Lib.hid ((hg'.block _ (by simp; omega) hnb1).trans ((Below.heap_alloc _ _ _ hokl).trans HOk.out))
    clear hrow hat hg' ho' hi9 hq0 hq1 hq2 hc hf hnb hnb1
    subst hv'
    unfold Halt
    gi_wp2
    obtain ⟨h1, h2⟩ := hap.out
    have h4 : FdI w.heap.size (pre ++ [(⟨xn, xf, xc, xr, xv⟩ : Reg)]) _ (fun b => accD w.heap.size (.slice (some ⟨g', 0, none⟩) (2 * pre.length + 1 + 1) cap') b ∨ b = w.heap.size + 1) (.slice (some ⟨g', 0, none⟩) (2 * pre.length + 1 + 1) cap') :=
      ⟨by rw [fvs_snoc, List.map_append, List.length_append]; exact h1, (Below.heap_setCell _ _ _ _ (by simp)).trans hok3.out, rfl⟩
    refine ⟨_, ⟨_, h4⟩, ?_⟩
    have h3 := h2.shift (Keep.alloc (fun _ => False) W2 (.cells #[.string xf, .string xv] 9)) (E := fun b => (accD w.heap.size v b ∨ b = w.heap.size + 1) ∨ (W.heap.size ≤ b ∧ b < W.heap.size)) fun _ h => .inl (.inl h)
    refine ⟨h3.1, fun b hb => ?_⟩
    rcases hb with hb | hb
    · exact h3.2 b hb
    · exact .inl (.inl (.inr hb))
  case done =>
    rintro xs W D hxs ⟨v, hI⟩ hLf hK hDK
    subst hxs
    have hd := hI.dom
    subst hd
    have hKl := (Array.getElem?_eq_some_iff.1 hK).1
    have hok := hI.ok
    obtain ⟨hbox, hrow⟩ := hI.acc
    have hWz := hLf.1.size
    obtain ⟨W2, hW2⟩ : ∃ W2, W2 = (W.alloc (.cells #[.int .i64 0] 3)).alloc (.cells #[.bool false] 4) := ⟨_, rfl⟩
    have hb2 : Below W.heap.size W W2 := by rw [hW2]; exact ((Below.refl _ _).alloc (Nat.le_refl _) _).alloc (by simp) _
    have hz2 : W2.heap.size = W.heap.size + 2 := by rw [hW2]; simp
    have hk2 : W2.heap[W.heap.size]? = some (.cells #[.int .i64 0] 3 (0, 0)) := by rw [hW2, Below.heap_alloc _ _ _ (by simp)]; exact World.alloc_heap_new _ _
    have hn2 : W2.heap[W.heap.size + 1]? = some (.cells #[.bool false] 4 (0, 0)) := by
      have := World.alloc_heap_new (W.alloc (.cells #[.int .i64 0] 3)) (.cells #[.bool false] 4)
      rw [World.size_alloc] at this; rw [hW2]; exact this
    have hgv : ∀ g, v.ownBlock = some g → w.heap.size < g ∧ g < W.heap.size ∧ (g = w.heap.size + 1 ∨ w.heap.size + 4 ≤ g) := fun g hg => by
      have h1 := hrow.lt g hg
      refine ⟨by omega, h1.2, ?_⟩
      rcases hLf.2 g (.inl (.inr hg)) with ((h | h) | h) | h
      · omega
      · cases h
      · omega
      · omega
    have hgv1 : ∀ g, v.ownBlock = some g → g ≠ w.heap.size + 1 := fun g hg e => by
      obtain ⟨h1, h2⟩ := hrow
      rcases h2 with ⟨rfl, _⟩ | ⟨g', cap, cur, rfl, _, hg', _⟩
      · cases hg
      · simp only [Value.ownBlock, Option.some.injEq] at hg
        subst hg
        rw [e, hok] at hg'; cases hg'
    have keepW : ∀ b, b < w1.heap.size → b ≠ w.heap.size → b ≠ w.heap.size + 1 → W2.heap[b]? = w1.heap[b]? := fun b hb h0 h1 => (hb2.block b (by omega)).trans (hLf.1.block b hb (by rintro ((h | h) | h); exact h0 h; cases h; exact h1 h))
    have hcall := second_any (w.heap.size + 1) (W.heap.size + 1) W.heap.size w.heap.size (w.heap.size + 1 + 1) (w.heap.size + 1 + 1 + 1) p m g0 id L n v w W2
      (fun b => b = w.heap.size + 1 ∨ b = W.heap.size + 1 ∨ b = W.heap.size ∨ b = w.heap.size ∨ v.ownBlock = some b) (fun b => Iff.rfl)
      ((World.cell?_of_block (w := w1) (a := ⟨_, _, none⟩) (keepW _ (by simp only; omega) (by simp only; omega) (by simp only; omega))).trans hcp) ((World.cell?_of_block (w := w1) (a := ⟨_, _, none⟩) (keepW _ (by simp only; omega) (by simp only; omega) (by simp only; omega))).trans hcn)
      ((keepW p (by omega) (by omega) (by omega)).trans hR1) (hB1.of_block (keepW m (by omega) (by omega) (by omega))) (by omega) hn (by omega) ⟨by omega, by omega, by omega, by omega, by omega, by omega⟩
      (fun b hb => by have h1 := hgv b hb; have h2 := hgv1 b hb; omega)
      (fun b hb => by
        rcases hb with rfl | rfl | rfl | rfl | hb
        · rintro (h | h | h | h) <;> omega
        · rintro (h | h | h | h) <;> omega
        · rintro (h | h | h | h) <;> omega
        · rintro (h | h | h | h) <;> omega
        · have h1 := hgv b hb; have h2 := hgv1 b hb; rintro (h | h | h | h) <;> omega)
      ⟨(hb2.block _ (by omega)).trans hok, hn2, hk2, (hb2.block _ (by omega)).trans hbox⟩
      (StrAt.of_row (by rw [fvs_length]; exact ownsRow_block hrow fun g hg => hb2.block g (hrow.lt g hg).2))
    have hBW2 : Below w.heap.size w W2 := (hLf.below hbel (fun b hb => by rcases hb with (h | h) | h; omega; cases h; omega)).trans (hb2.mono (by omega))
    have hdef : W2.heap[w1.heap.size]? = some (.deferred (some [])) := (hb2.block _ hKl).trans hK
    have hDn : v.ownBlock ≠ some w1.heap.size := fun e => hDK (.inl (.inr e))
    rw [hz1] at hdef hDn
    have HC := Lib.hid hcall
    have HF := Lib.hid (And.intro hBW2 (And.intro hdef (And.intro hDn (And.intro hgv hW2))))
    have hbigW : w.heap.size + 4 < W.heap.size := by omega
    rw [hW2] at HC
    clear hit hbel hbl hbo hcp hcn hR1 hB1 hR hB hci hcw hLf hK hDK hI hok hbox hrow hb2 hz2 hk2 hn2 hgv hgv1 keepW hcall hBW2 hdef hDn hW2 HB HW hKl
    gi_wp2_with (gi_at_call 67; refine (callsIn_wide.2 HC.out).mono ?_; rintro e W3 ⟨⟨rv, rfl⟩, ⟨no, k, h45⟩, hs3, hK3⟩; refine Halt.of ?_)
    have e0 : W3.cell? ⟨w.heap.size, 0, none⟩ = some v := Joins.cell_of_block h45.l 0
    have e1 : W3.cell? ⟨w.heap.size + 1, 0, none⟩ = some (.bool true) := Joins.cell_of_block h45.ok 0
    have HE := Lib.hid (And.intro hs3 hK3)
    clear h45 hs3 hK3 HC
    unfold Halt
    gi_wp2
    refine wpIn_mono ?hreg (fun e a w h => NoPanic.imp e a w h)
    gi_region_with (fail)
    all_goals
      refine NoPanic.normal ?_
      gi_wp2
      obtain ⟨hs3, hK3⟩ := HE.out
      obtain ⟨hBW2, hdef, hDn, hgv, hW2⟩ := HF.out
      rw [← hW2] at hK3
      have hdefl := (Array.getElem?_eq_some_iff.1 hdef).1
      have hz2 : W2.heap.size = W.heap.size + 2 := by rw [hW2]; simp
      have hdef3 : W3.drew.heap[w.heap.size + 4]? = some (.deferred (some [])) := (hK3.block _ hdefl (by rintro (h | h | h | h | h); omega; omega; omega; omega; exact hDn h)).trans hdef
      refine ⟨by simp, .inl ⟨_, _, rfl, run_takeDeferred hdef3, ?_⟩⟩
      refine ⟨_, results_tmp2 rfl _ _ _, v, rfl, ?_, ?_⟩
      · exact ownsRow_block (ownsRow_base (w := W3.drew) hs3 fun g hg => by have := (hgv g hg).1; omega) fun g hg => World.putObj_heap_other (fun e => hDn (e ▸ hg))
      · refine below_putObj (below_keep hBW2 (hK3.trans (Keep.drew _ _)) (fun x hx e => ?_)) (by omega) _
        rcases e with h | h | h | h | h
        · omega
        · omega
        · omega
        · omega
        · have := (hgv x h).1; omega
end Go.Proofs.YtpdbmpbmepkikaaGreatDoor

namespace Go.Proofs.YtpdbmpbmepkikaaGreatDoor
variable {P : Program} {ops : Array Oper} {Q : Exit → Act → World → Prop} {md : Region.Mode} {S : World → Prop} {z : Nat}

def wpAnyZ (P : Program) (md : Region.Mode) (ops : Array Oper) (Q : Exit → Act → World → Prop) (S : World → Prop) (z : Nat) : Nat → Array Bool → Act → World → Prop
  | 0, listed, a, w => Region.ready md ops listed = [] ∧ Q .normal a w
  | fuel + 1, listed, a, w =>
    (Region.ready md ops listed = [] → Q .normal a w) ∧
    ∀ i ∈ Region.ready md ops listed, wpOp P ops Q i (fun a' w' => ((listed.setIfInBounds i true).getD z true = false → S w') ∧ wpAnyZ P md ops Q S z fuel (listed.setIfInBounds i true) a' w') a w
theorem wpAny_of_Z : ∀ (fuel : Nat) (listed : Array Bool) (a : Act) (w : World), wpAnyZ P md ops Q S z fuel listed a w → wpAny P md ops Q fuel listed a w
  | 0, _, _, _, h => h
  | fuel + 1, _, _, _, h => ⟨h.1, fun i hi => wpOp_mono (fun a' w' h' => wpAny_of_Z fuel _ a' w' h'.2) (h.2 i hi)⟩
/-- z waits for i. -/
def waitsFor (md : Region.Mode) (ops : Array Oper) (z i : Nat) : Bool := ((ops[z]?).map fun o => o.after.any fun e => Region.binds md e && e.on == i).getD false
theorem waitsFor_spec {i : Nat} (h : waitsFor md ops z i = true) {listed : Array Bool} (hi : listed.getD i true = false) : z ∉ Region.ready md ops listed := by
  intro hz
  obtain ⟨_, o, ho, hall⟩ := mem_ready.1 hz
  simp only [waitsFor, ho, Option.map_some, Option.getD_some] at h
  rw [Array.any_eq_true] at h
  obtain ⟨k, hk, h⟩ := h
  simp only [Bool.and_eq_true, beq_iff_eq] at h
  obtain ⟨hb, rfl⟩ := h
  have := hall o.after[k] (Array.getElem_mem hk) hb
  rcases Nat.lt_or_ge o.after[k].on listed.size with h' | h'
  · simp [h'] at this hi; rw [this] at hi; cases hi
  · simp [Array.getElem?_eq_none h'] at this
theorem wpAnyZ_first {i : Nat} {oi : Oper} {v : Value} (hi : ops[i]? = some oi) (hsel : ∀ (j : Nat) (o : Oper) cs b, ops[j]? = some o → o.op ≠ .select cs b)
    (hQ : ∀ c a w, Q (.panic c) (a.put oi.dst v) w → Q (.panic c) a w) (hzi : z ≠ i) (hzw : waitsFor md ops z i = true) :
    ∀ (fuel : Nat) (listed : Array Bool) (a : Act) (w : World),
      (∀ j oj, ops[j]? = some oj → j ≠ i → listed.getD j true = false → (∀ e ∈ oj.after, Region.binds md e = true → e.on ≠ i) → oi.apart ops oj = true) →
      i ∈ Region.ready md ops listed → YieldsIf P ops S oi v a → listed.getD z true = false → S w →
      wpAnyZ P md ops Q S z fuel (listed.setIfInBounds i true) (a.put oi.dst v) w → wpAnyZ P md ops Q S z (fuel + 1) listed a w := by
  intro fuel
  induction fuel with
  | zero =>
    intro listed a w _ hr hy _ hS H
    refine ⟨fun h => (by rw [h] at hr; cases hr), fun j hj => ?_⟩
    by_cases hji : j = i
    · subst hji; exact hy.wpOp hi hS ⟨fun _ => hS, H⟩
    · have := ready_mono hj hji
      rw [H.1] at this
      cases this
  | succ fuel ih =>
    intro listed a w hfree hr hy hzl hS H
    refine ⟨fun h => (by rw [h] at hr; cases hr), fun j hj => ?_⟩
    by_cases hji : j = i
    · subst hji; exact hy.wpOp hi hS ⟨fun _ => hS, H⟩
    · have h1 := H.2 j (ready_mono hj hji)
      obtain ⟨hjun, oj, hoj, hall⟩ := mem_ready.1 hj
      have hun := (mem_ready.1 hr).1
      have hjz : j ≠ z := fun e => waitsFor_spec hzw hun (e ▸ hj)
      have hnot : ∀ e ∈ oj.after, Region.binds md e = true → e.on ≠ i := fun e he hb heq => by
        have h1 := hall e he hb
        rw [heq] at h1
        rcases Nat.lt_or_ge i listed.size with h' | h'
        · simp [h'] at hun h1; rw [hun] at h1; cases h1
        · simp [Array.getElem?_eq_none h'] at h1
      have h2 := wpOp_putIf hoj (hfree j oj hoj hji hjun hnot) (fun cs b => hsel i oi cs b hi) (fun cs b => hsel j oj cs b hoj) hQ hy h1
      have hfree' : ∀ k ok, ops[k]? = some ok → k ≠ i → (listed.setIfInBounds j true).getD k true = false →
          (∀ e ∈ ok.after, Region.binds md e = true → e.on ≠ i) → oi.apart ops ok = true := fun k ok hk hki hun hno => by
        refine hfree k ok hk hki ?_ hno
        by_cases hjk : j = k
        · subst hjk; exact hjun
        · rw [getD_set_ne true hjk] at hun; exact hun
      have hz1 : (listed.setIfInBounds j true).getD z true = false := by rw [getD_set_ne true hjz]; exact hzl
      have hz2 : ((listed.setIfInBounds i true).setIfInBounds j true).getD z true = false := by rw [getD_set_ne true hjz, getD_set_ne true (Ne.symm hzi)]; exact hzl
      refine wpOp_mono (fun a' w' h3 => ⟨fun _ => h3.2.1 hz2, ih (listed.setIfInBounds j true) a' w' hfree' (ready_mono hr (Ne.symm hji)) h3.1 hz1 (h3.2.1 hz2) ?_⟩) h2
      rw [Array.setIfInBounds_comm _ _ hji]
      exact h3.2.2
theorem wpAnyZ_take {i : Nat} {oi : Oper} {v : Value} {fuel : Nat} {listed : Array Bool} {a : Act} {w : World} (hi : ops[i]? = some oi)
    (hs : Region.noSelect ops = true) (hf : Region.free md ops listed i = true) (hr : (Region.ready md ops listed).contains i = true) (hzi : (z != i && waitsFor md ops z i && !listed.getD z true) = true)
    (hQ : ∀ c a w, Q (.panic c) (a.put oi.dst v) w → Q (.panic c) a w) (hy : YieldsIf P ops S oi v a) (hS : S w)
    (h : wpAnyZ P md ops Q S z fuel (listed.setIfInBounds i true) (a.put oi.dst v) w) : wpAnyZ P md ops Q S z (fuel + 1) listed a w := by
  simp only [Bool.and_eq_true, bne_iff_ne, Bool.not_eq_true'] at hzi
  exact wpAnyZ_first hi (Region.noSelect_spec hs) hQ hzi.1.1 hzi.1.2 fuel listed a w (Region.free_spec hi hf) (by simpa using hr) hy hzi.2 hS h
/-- One alone may come up. -/
theorem wpAnyZ_one {i : Nat} {oi : Oper} {fuel : Nat} {listed : Array Bool} {a : Act} {w : World} (hr : Region.ready md ops listed = [i]) (hi : ops[i]? = some oi) (hw : Region.wanted oi (yielded ops a.tmps) = true)
    (h : Oper.wp P oi a w (fun a' w' => ((listed.setIfInBounds i true).getD z true = false → S w') ∧ wpAnyZ P md ops Q S z fuel (listed.setIfInBounds i true) a' w') Q) : wpAnyZ P md ops Q S z (fuel + 1) listed a w := by
  refine ⟨fun h0 => (by rw [hr] at h0; cases h0), fun j hj => ?_⟩
  rw [hr, List.mem_singleton] at hj
  subst hj
  unfold wpOp
  simp only [hi, hw, if_true]
  exact .inl h
theorem wpAnyZ_val {i : Nat} {oi : Oper} {v : Value} {w' : World} {fuel : Nat} {listed : Array Bool} {a : Act} {w : World} (hr : Region.ready md ops listed = [i]) (hi : ops[i]? = some oi) (hw : Region.wanted oi (yielded ops a.tmps) = true)
    (hv : (execOp a.eval oi).run P w = .ok (.value v) w') (hS : (listed.setIfInBounds i true).getD z true = false → S w') (h : wpAnyZ P md ops Q S z fuel (listed.setIfInBounds i true) (a.put oi.dst v) w') : wpAnyZ P md ops Q S z (fuel + 1) listed a w := by
  refine wpAnyZ_one hr hi hw ?_
  unfold Oper.wp
  rw [hv]
  exact ⟨hS, h⟩
theorem wpAnyZ_skip {i : Nat} {oi : Oper} {w' : World} {fuel : Nat} {listed : Array Bool} {a : Act} {w : World} (hr : Region.ready md ops listed = [i]) (hi : ops[i]? = some oi) (hw : Region.wanted oi (yielded ops a.tmps) = true)
    (hv : (execOp a.eval oi).run P w = .ok .skip w') (hS : (listed.setIfInBounds i true).getD z true = false → S w') (h : wpAnyZ P md ops Q S z fuel (listed.setIfInBounds i true) (a.put oi.dst undef) w') : wpAnyZ P md ops Q S z (fuel + 1) listed a w := by
  refine wpAnyZ_one hr hi hw ?_
  unfold Oper.wp
  rw [hv]
  exact ⟨hS, h⟩
theorem wpAnyZ_done {listed : Array Bool} {a : Act} {w : World} (hr : Region.ready md ops listed = []) (h : Q .normal a w) : ∀ fuel, wpAnyZ P md ops Q S z fuel listed a w
  | 0 => ⟨hr, h⟩
  | _ + 1 => ⟨fun _ => h, by rw [hr]; simp⟩
theorem wp_region_Z {id : Nat} {a : Act} {w : World} (hm : P.follows .mixedOrders = true) (hS : S w.drew)
    (h : S w.drew → wpAnyZ P .any ops Q S z ops.size (Array.replicate ops.size false) a w.drew) : (Code.region id ops true).wp P Q a w :=
  wp_region_any hm (wpAny_of_Z _ _ _ _ (h hS))
end Go.Proofs.YtpdbmpbmepkikaaGreatDoor
