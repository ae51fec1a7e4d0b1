/- BookC: Contracts of keys and what it hands to Sorted, below.
   Acc: A slice that a loop gathers in a variable of its own. No condition.
   SeqS: Contracts of slices.AppendSeq, Collect, Sorted at strings, over any iterator. Condition: at most 2^30 elements come.
   BookD: Contracts of keys, below and what below hands out.
   BookE: Contracts of below and of what it hands out.
   BookG: The contract of clock. Condition: the counters are none below 0, and few.
   BookP: Contracts of what maps.Keys and maps.Values hand out.
   BookF: The same iterator, handed a closure.
   BookH: Contracts of shown, of what it hands out, alive.
   PlainA: Plain laws: the order of keys and the order of registers. No program in sight. -/
import Derived.Test.YtpdbmpbmepkikaaGreatDoorS02
import Derived.Sort.LoopGhostIn
import Derived.Maps.AppendAt
import Derived.Sort.OwnSorted
import Derived.Deep.LoopGhost
import Derived.Lib.Strings
set_option linter.all false
set_option linter.unusedSimpArgs false
set_option linter.unusedVariables false

namespace Go.Proofs.YtpdbmpbmepkikaaGreatDoor
open Go.RowKit
attribute [local go_sem] Oper.semAt_some

/-- Does the key begin so? -/
def preB (pfx k : ByteArray) : Bool := Lib.hasPrefix k.data.toList pfx.data.toList
def keysL (L : List Reg) (pfx : ByteArray) : List ByteArray := (L.map (·.key)).filter (preB pfx)

open Classical in
theorem perm_rest {α : Type} {done keys : List α} (p : α → Bool) (hk : keys.Nodup) (hd : done.Nodup) (hs : ∀ a ∈ done, a ∈ keys) {x : α} (hx : x ∈ keys) (hn : x ∉ done) (hp : p x = true) :
    ∃ suf, (done.filter p ++ x :: suf).Perm (keys.filter p) := by
  refine ⟨(keys.filter p).filter (fun a => decide (a ∉ done ++ [x])), (List.perm_ext_iff_of_nodup ?_ (hk.filter _)).2 fun a => ?_⟩
  · rw [List.nodup_append]
    refine ⟨hd.filter _, ?_, ?_⟩
    · rw [List.nodup_cons]
      refine ⟨fun h => ?_, (hk.filter _).filter _⟩
      have := (List.mem_filter.1 h).2
      simp at this
    · intro a ha b hb hab
      subst hab
      rcases List.mem_cons.1 hb with rfl | hb
      · exact hn (List.mem_filter.1 ha).1
      · have h1 := (List.mem_filter.1 ha).1
        have h2 := (List.mem_filter.1 hb).2
        simp [h1] at h2
  · simp only [List.mem_append, List.mem_filter, List.mem_cons, List.not_mem_nil, or_false, decide_eq_true_eq]
    constructor
    · rintro (⟨h1, h2⟩ | rfl | ⟨h, _⟩)
      · exact ⟨hs _ h1, h2⟩
      · exact ⟨hx, hp⟩
      · exact h
    · rintro ⟨h1, h2⟩
      by_cases h3 : a ∈ done
      · exact .inl ⟨h3, h2⟩
      · by_cases h4 : a = x
        · exact .inr (.inl h4)
        · exact .inr (.inr ⟨⟨h1, h2⟩, by rintro (h | h); exact h3 h; exact h4 h⟩)

theorem keys1_iter (bb bp m : Nat) (L : List Reg) (pfx : ByteArray) (w : World) (hcb : w.cell? ⟨bb, 0, none⟩ = some (.map (some m))) (hcp : w.cell? ⟨bp, 0, none⟩ = some (.string pfx)) (hB : BookAt w m L) :
    Iter Tryz.prog 141 #[.pointer (some ⟨bb, 0, none⟩), .pointer (some ⟨bp, 0, none⟩)] (fun k : ByteArray => #[.string k]) (fun ks => ks.Perm (keysL L pfx)) (fun b => b = bb ∨ b = bp ∨ b = m) w := by
  intro l J Jx W D0 hA hJ hJx hR hY h0
  have hm1 : MapAt keS W m (es L) := MapAt.of_block hB (hA.block m (by simp))
  have hcb1 : W.cell? ⟨bb, 0, none⟩ = some (.map (some m)) := (World.cell?_of_block (w := w) (hA.block bb (by simp))).trans hcb
  have hcp1 : W.cell? ⟨bp, 0, none⟩ = some (.string pfx) := (World.cell?_of_block (w := w) (hA.block bp (by simp))).trans hcp
  obtain ⟨o, hrun, hRg⟩ := run_range (P := Tryz.prog) (T := 107) keS Tryz.underlying107 hm1
  have lbb := World.block_lt_of_cell? W _ hcb1
  have lbp := World.block_lt_of_cell? W _ hcp1
  have lm := hm1.lt
  have hND := hB.nodup
  refine callsIn_of_wp Tryz.func141 rfl trivial ?_
  simp only [Tryz.ntmps141, List.size_toArray, List.length_cons, List.length_nil, Nat.reduceAdd, Nat.reduceSub, Array.replicate_succ, Array.replicate_zero, List.push_toArray, List.append_toArray, List.nil_append, List.cons_append]
  gi_wp2
  gi_loopg [4] L.length (fun k _ wr => ∃ (done : List ByteArray) (D : Nat → Prop), k + done.length = L.length ∧ RangeAt keS wr m W.heap.size (es L) done ∧ done.Nodup ∧ (∀ x ∈ done, x ∈ L.map (·.key)) ∧
      J (done.filter (preB pfx)) wr D ∧ Left D0 W D wr ∧ ¬ D W.heap.size)
  case atStart =>
    have hlt := hJ.lt _ _ _ h0
    refine ⟨[], D0, by simp, hRg, by simp, by simp, hJ.st _ _ _ _ h0 ((Keep.alloc (fun _ => False) _ _).abide fun b hb => ⟨hlt b hb, id⟩), .other (Keep.alloc _ _ _), fun h => absurd (hlt _ h) (by omega)⟩
  case round =>
    obtain ⟨done, D, hk, hRg, hnd, hsub, hj, hL, hDi⟩ := hrel
    have hDb : ∀ b, (b = bb ∨ b = bp ∨ b = m) → b < W.heap.size → ¬ D b := fun b hb hlt hD => by
      rcases hL.2 b hD with h | h
      · exact hR b h hb
      · omega
    have hne : m ≠ W.heap.size := by omega
    have hrlt := hRg.lt
    have hcpw : wr.cell? ⟨bp, 0, none⟩ = some (.string pfx) := (hL.1.cell lbp (fun h => hR bp h (by simp))).trans hcp1
    have HN := Lib.hid hND
    have HL := Lib.hid hL
    have HJ := Lib.hid hj
    have HY := Lib.hid hY
    have HS := Lib.hid hsub
    have HD := Lib.hid hnd
    have HK := Lib.hid hk
    rcases run_next (P := Tryz.prog) keS hRg hne 0 with ⟨hall, hnx⟩ | ⟨x, v, w2, hin, hnin, hnx, hRg2, hk2, hs2⟩
    · clear hRg hL hj hY hsub hnd hk hDb hrun hA hJx hm1 hND
      have HA := Lib.hid hall
      clear hall
      gi_wp2
      go_end0
      refine ⟨⟨_, rfl⟩, .inl ⟨_, D, ?_, HJ.out, HL.out⟩⟩
      have hp : done.Perm (L.map (·.key)) := (List.perm_ext_iff_of_nodup HD.out HN.out).2 fun a => ⟨HS.out a, fun ha => by
        obtain ⟨y, hy, rfl⟩ := List.mem_map.1 ha
        exact HA.out (y.key, y.val) (List.mem_map_of_mem (f := fun x : Reg => (x.key, x.val)) hy)⟩
      exact hp.filter _
    · obtain ⟨v', hv', hen⟩ := run_entry (P := Tryz.prog) keS hRg2
      replace hnx : (Instr.next (.pointer (some ⟨W.heap.size, 0, none⟩)) false 0).run Tryz.prog wr = .ok (.tuple #[.bool true, .string x, v]) w2 := hnx
      replace hen : (Instr.entry (.pointer (some ⟨W.heap.size, 0, none⟩))).run Tryz.prog w2 = .ok (.tuple #[.string x, v']) w2 := hen
      have hxk : x ∈ L.map (·.key) := by
        obtain ⟨y, hy, e⟩ := List.mem_map.1 hin
        simp only [Prod.mk.injEq] at e
        exact List.mem_map.2 ⟨y, hy, e.1⟩
      have hlen : done.length < L.length := by
        have := (List.nodup_cons.2 ⟨hnin, hnd⟩).length_le_of_subset (l₂ := L.map (·.key)) (fun a ha => by
          rcases List.mem_cons.1 ha with rfl | ha
          · exact hxk
          · exact hsub a ha)
        simp at this
        omega
      have hj2 : J (done.filter (preB pfx)) w2 D := hJ.st _ _ _ _ hj (hk2.abide fun b hb => ⟨hJ.lt _ _ _ hj b hb, fun e => hDi (e ▸ hb)⟩)
      have hL2 : Left D0 W D w2 := hL.step hk2 (fun b hb e => by omega)
      have hcp2 : w2.cell? ⟨bp, 0, none⟩ = some (.string pfx) := (hL2.1.cell lbp (fun h => hR bp h (by simp))).trans hcp1
      have HX := Lib.hid (⟨hxk, hnin⟩ : x ∈ L.map (·.key) ∧ x ∉ done)
      have HL2 := Lib.hid hL2
      clear hrun hA hJx hm1 hL hj hY hsub hnd hk hRg hin hnin hND hrlt hcpw hk2 hs2 hv' HJ HL hxk hL2
      by_cases hp : preB pfx x = true
      · obtain ⟨suf, hsuf⟩ := perm_rest (preB pfx) HN.out HD.out HS.out HX.out.1 HX.out.2 hp
        obtain ⟨fn, tmps, assign, body, hy, hRr⟩ := HY.out (done.filter (preB pfx)) x w2 D ⟨suf, hsuf⟩ hj2
        have HR := Lib.hid hRr
        have HP := Lib.hid hp
        have HSf := Lib.hid hsuf
        clear hRr hp hsuf hj2
        have hyy : (Instr.yield l #[.string x]).run Tryz.prog w2 = .ok (.round l fn tmps assign body) w2 := hy
        clear hy
        gi_wp2_with (gi_at_call 71; refine (callsIn_wide.2 (Tryz.strings_HasPrefix _ _ _)).mono ?_; rintro e w' ⟨rfl, hw'⟩; subst hw'; rw [show Lib.hasPrefix x.data.toList pfx.data.toList = true from HP.out])
        refine HR.out.mono ?_
        rintro e W' (⟨rfl, D', hj', hL'⟩ | ⟨rfl, D', hj', hL'⟩)
        · gi_wp2
          gi_roundg (gk - 1)
          case rel =>
            have hRg' : RangeAt keS W' m W.heap.size (es L) (done ++ [x]) := hRg2.of_blocks (hL'.1.block _ hRg2.map.lt (hDb m (by simp) lm)) (hL'.1.block _ hRg2.lt hDi)
            refine ⟨done ++ [x], D', by have := HK.out; simp; omega, hRg', ?_, ?_, ?_, HL2.out.trans hL', ?_⟩
            · rw [List.nodup_append]
              exact ⟨HD.out, by simp, fun a ha b hb e => HX.out.2 (by simp at hb; rw [← hb, ← e]; exact ha)⟩
            · intro a ha
              rcases List.mem_append.1 ha with ha | ha
              · exact HS.out a ha
              · rw [List.mem_singleton.1 ha]; exact HX.out.1
            · rw [List.filter_append, List.filter_cons_of_pos HP.out]; exact hj'
            · intro h
              rcases hL'.2 _ h with h | h
              · exact hDi h
              · have := hRg2.lt; omega
          case measure => have := HK.out; omega
        · gi_wp2
          refine bodyPost_ret (results_none rfl _ _ _) rfl ?_
          exact ⟨⟨_, rfl⟩, .inr ⟨_, D', ⟨suf, by rw [List.append_assoc]; exact HSf.out⟩, hj', HL2.out.trans hL'⟩⟩
      · have HP := Lib.hid (show preB pfx x = false by simpa using hp)
        clear hp
        gi_wp2_with (gi_at_call 71; refine (callsIn_wide.2 (Tryz.strings_HasPrefix _ _ _)).mono ?_; rintro e w' ⟨rfl, hw'⟩; subst hw'; rw [show Lib.hasPrefix x.data.toList pfx.data.toList = false from HP.out])
        gi_roundg (gk - 1)
        case rel =>
          refine ⟨done ++ [x], D, by have := HK.out; simp; omega, hRg2, ?_, ?_, ?_, HL2.out, hDi⟩
          · rw [List.nodup_append]
            exact ⟨HD.out, by simp, fun a ha b hb e => HX.out.2 (by simp at hb; rw [← hb, ← e]; exact ha)⟩
          · intro a ha
            rcases List.mem_append.1 ha with ha | ha
            · exact HS.out a ha
            · rw [List.mem_singleton.1 ha]; exact HX.out.1
          · rw [List.filter_append, List.filter_cons_of_neg (by rw [HP.out]; simp), List.filter_nil, List.append_nil]; exact hj2
        case measure => have := HK.out; omega
end Go.Proofs.YtpdbmpbmepkikaaGreatDoor

namespace Go.Proofs.YtpdbmpbmepkikaaGreatDoor
open Go.RowKit

/-- The variable at block N (type T) holds the slice v, which owns its row, apart from N. -/
structure AccAt (W : World) (N : Nat) (T e size : Nat) (v : Value) (n : Nat) (xs : List Value) : Prop where
  box : W.heap[N]? = some (.cells #[v] T (0, 0))
  row : W.ownsRow (N + 1) e size v n xs

theorem ownsRow_block {w w' : World} {base e size n : Nat} {v : Value} {xs : List Value} (h : w.ownsRow base e size v n xs) (hb : ∀ g, v.ownBlock = some g → w'.heap[g]? = w.heap[g]?) : w'.ownsRow base e size v n xs := by
  obtain ⟨h1, h2⟩ := h
  refine ⟨h1, ?_⟩
  rcases h2 with h2 | ⟨g, cap, cur, hv, hg, hh, r⟩
  · exact .inl h2
  · exact .inr ⟨g, cap, cur, hv, hg, (hb g (by rw [hv]; rfl)).trans hh, r⟩
theorem ownsRow_base {w : World} {base base' e size n : Nat} {v : Value} {xs : List Value} (h : w.ownsRow base e size v n xs) (hb : ∀ g, v.ownBlock = some g → base' ≤ g) : w.ownsRow base' e size v n xs := by
  obtain ⟨h1, h2⟩ := h
  refine ⟨h1, ?_⟩
  rcases h2 with h2 | ⟨g, cap, cur, hv, hg, r⟩
  · exact .inl h2
  · exact .inr ⟨g, cap, cur, hv, hb g (by rw [hv]; rfl), r⟩

/-- The blocks of a gathering. -/
def accD (N : Nat) (v : Value) : Nat → Prop := fun b => b = N ∨ v.ownBlock = some b

theorem AccAt.lt {W : World} {N T e size n : Nat} {v : Value} {xs : List Value} (h : AccAt W N T e size v n xs) : ∀ b, accD N v b → b < W.heap.size := by
  rintro b (rfl | hb)
  · exact (Array.getElem?_eq_some_iff.1 h.box).1
  · exact (h.row.lt b hb).2
theorem AccAt.abide {W W' : World} {N T e size n : Nat} {v : Value} {xs : List Value} (h : AccAt W N T e size v n xs) (hb : ∀ b, accD N v b → W'.heap[b]? = W.heap[b]?) : AccAt W' N T e size v n xs :=
  ⟨(hb N (.inl rfl)).trans h.box, ownsRow_block h.row fun g hg => hb g (.inr hg)⟩
theorem AccAt.cell {W : World} {N T e size n : Nat} {v : Value} {xs : List Value} (h : AccAt W N T e size v n xs) : W.cell? ⟨N, 0, none⟩ = some v ∧ W.frozen? ⟨N, 0, none⟩ = false := by
  simp [World.cell?, World.frozen?, h.box]
theorem AccAt.new (W : World) (T e size : Nat) : AccAt (W.alloc (.cells #[.slice none 0 0] T)) W.heap.size T e size (.slice none 0 0) 0 [] :=
  ⟨World.alloc_heap_new W _, World.ownsRow_nil _ _ _ _⟩

theorem setCell_box {W : World} {N T : Nat} {v u : Value} (h : W.heap[N]? = some (.cells #[v] T (0, 0))) : (W.setCell ⟨N, 0, none⟩ u).heap[N]? = some (.cells #[u] T (0, 0)) := by
  obtain ⟨hlt, hk⟩ := Array.getElem?_eq_some_iff.1 h
  simp only [World.setCell, Array.getElem?_modify, h, Option.map_some, if_true]
  rfl
/-- Behind an append and the store into the variable. -/
theorem AccAt.appended {W W1 : World} {N T e size n n' : Nat} {v v' : Value} {xs xs' : List Value} (h : AccAt W N T e size v n xs) (hg : W.grownBy W1 v.ownBlock) (ho : W1.ownsRow (N + 1) e size v' n' xs') (hat : v'.ownBlock = v.ownBlock ∨ v'.ownBlock = some W.heap.size) :
    AccAt (W1.setCell ⟨N, 0, none⟩ v') N T e size v' n' xs' ∧ Left (accD N v) W (accD N v') (W1.setCell ⟨N, 0, none⟩ v') := by
  have hN := (Array.getElem?_eq_some_iff.1 h.box).1
  have hne : some N ≠ v.ownBlock := fun e => by have := (h.row.lt N e.symm).1; omega
  have hb1 : W1.heap[N]? = some (.cells #[v] T (0, 0)) := (hg.block N hN hne).trans h.box
  refine ⟨⟨setCell_box hb1, ownsRow_setCell_below ho (a := ⟨N, 0, none⟩) (Nat.lt_succ_self N) _⟩, ?_, ?_⟩
  · refine ⟨hg.os, hg.tape, hg.output, by simpa [World.setCell] using hg.size, fun k hk hn => ?_⟩
    have h1 : k ≠ N := fun e => hn (.inl e)
    have h2 : some k ≠ v.ownBlock := fun e => hn (.inr e.symm)
    exact (Below.heap_setCell _ _ _ _ h1).trans (hg.block k hk h2)
  · rintro b (rfl | hb)
    · exact .inl (.inl rfl)
    · rcases hat with h1 | h1
      · exact .inl (.inr (h1 ▸ hb))
      · rw [h1] at hb; cases hb; exact .inr (Nat.le_refl _)
end Go.Proofs.YtpdbmpbmepkikaaGreatDoor

namespace Go.Proofs.YtpdbmpbmepkikaaGreatDoor
open Go.RowKit
attribute [local go_sem] Oper.semAt_some

/-- A mark that a walk stops at. -/
def Halt (p : Prop) : Prop := p
theorem Halt.of {p : Prop} (h : Halt p) : p := h


theorem Left.shift {D E D' : Nat → Prop} {W W1 W' : World} (h : Left D W1 D' W') (k : Keep (fun _ => False) W W1) (hDE : ∀ b, D b → E b) : Left E W D' W' :=
  ⟨(k.mono fun _ _ f => f.elim).trans' (h.1.mono (fun b _ => hDE b)) (fun _ _ x => x) (fun _ _ x => x), fun b hb => (h.2 b hb).imp (hDE b) fun x => Nat.le_trans k.size x⟩
/-- The same, of what the caller sees: nothing that was there has changed. -/
theorem Left.below {D D' : Nat → Prop} {W0 W W' : World} (h : Left D W D' W') (k : Below W0.heap.size W0 W) (hD : ∀ b, D b → W0.heap.size ≤ b) : Below W0.heap.size W0 W' :=
  ⟨h.1.os.trans k.os, h.1.tape.trans k.tape, h.1.output.trans k.output, Nat.le_trans k.size h.1.size, fun b hb => (h.1.block b (Nat.lt_of_lt_of_le hb k.size) fun x => absurd (hD b x) (by omega)).trans (k.block b hb)⟩

theorem below_putObj {N : Nat} {W0 W : World} (h : Below N W0 W) {l : Nat} (hl : N ≤ l) (o : Obj) : Below N W0 (W.putObj l o) :=
  ⟨h.os, h.tape, h.output, by simpa using h.size, fun b hb => (World.putObj_heap_other (by omega)).trans (h.block b hb)⟩

theorem info9 : (Tryz.prog.info? 9).map (fun i => (i.zero, i.size, i.bytes)) = some (some (.string ⟨#[]⟩), 1, 16) := by kernel_rfl

theorem appendSeqS_any (gf : Nat) (lb : Array Value) (S : List ByteArray → Prop) (R : Nat → Prop) (w : World) (eg : ∀ args w, (callFunc gf args).run Tryz.prog w = .ok (.enter gf args) w)
    (hit : Iter Tryz.prog gf lb (fun k : ByteArray => #[.string k]) S R w) (hR : ∀ b, R b → b < w.heap.size) (hN : ∀ xs, S xs → xs.length ≤ 1073741824) :
    Calls Tryz.prog 206 #[.slice none 0 0, .func (.func gf) #[] lb] w fun e w' => ∃ xs v, e = .returned v ∧ S xs ∧ w'.ownsRow w.heap.size 9 1 v xs.length (xs.map .string) ∧ Below w.heap.size w w' := by
  obtain ⟨i0, hi, hz0, hz1, hz2⟩ := info_parts info9
  refine (callsIn_wide (n := 0)).1 (callsIn_of_wp_marks Tryz.func206 rfl trivial ?_ rfl)
  simp only [Tryz.ntmps206, List.size_toArray, List.length_cons, List.length_nil, Nat.reduceAdd, Nat.reduceSub, Array.replicate_succ, Array.replicate_zero, List.push_toArray, List.append_toArray, List.nil_append, List.cons_append]
  gi_wp2
  have hnew := AccAt.new w 51 9 1
  refine wp_rangeFunc (gf := gf) (lb := lb) rfl eg (hit.later ((Keep.alloc (fun _ => False) w _).abide fun b hb => ⟨hR b hb, id⟩)) (fun b hb => by have := hR b hb; simp; omega) (fun _ => rfl)
    (fun pre W D => ∃ v, AccAt W w.heap.size 51 9 1 v pre.length (pre.map .string) ∧ D = accD w.heap.size v) (fun _ _ _ _ => False)
    ⟨fun pre W D ⟨v, h, e⟩ b hb => h.lt b (e ▸ hb), fun pre W D W' ⟨v, h, e⟩ ha => ⟨v, h.abide fun b hb => ha.block b (e ▸ hb), e⟩⟩ (fun _ => ⟨fun _ _ _ h => h.elim, fun _ _ _ _ h => h.elim⟩)
    (accD w.heap.size (.slice none 0 0)) (fun b hb => ?_) ⟨_, hnew, rfl⟩ ?round ?done ?stop
  · rcases hb with rfl | hb
    · exact fun h => absurd (hR _ h) (by omega)
    · cases hb
  case round =>
    rintro l pre x W D hl1 hl2 hDl ⟨suf, hS⟩ ⟨v, hacc, rfl⟩ hD0
    have hlen : pre.length + 1 ≤ 1073741824 := by have := hN _ hS; simp at this; omega
    gi_wp2
    refine ⟨⟨.refl _ _, fun b hb => hb.imp id (·.1)⟩, fun W2 hbut => ?_⟩
    have hacc2 : AccAt W2 w.heap.size 51 9 1 v pre.length (pre.map .string) := hacc.abide fun b hb => hbut.block b fun e => hDl (e ▸ hb)
    obtain ⟨hc, hf⟩ := hacc2.cell
    have hrow := hacc2.row
    have hlt2 := hacc2.lt
    have hN2 := hlt2 _ (.inl rfl)
    have HA := Lib.hid hacc2
    clear hacc hacc2 hbut hDl hD0 hS hit hlt2 hnew
    gi_wp2_with (gi_at_builtin; go_must (refine wpListIn_append_own_at _ rfl _ _ 51 rfl (w.heap.size + 1) 9 i0 (.string ⟨#[]⟩) 1 16 Tryz.underlying51 hi hz0 hz1 hz2 rfl (by decide) v pre.length (pre.map .string) rfl (hrow.alloc _) ⟨W2.heap.size, 0, none⟩ 1 1 [.string x] rfl rfl (cell_one_new _ _ _) (by simp [Value.oneCell']) (by unfold maxLen; omega) (by omega) (by simp; omega) ?_); intro v' w1 ho' hg' _ hat; refine Halt.of ?_)
    obtain ⟨g', cap', hv'⟩ := ownsRow_succ ho'
    have hap := Lib.hid (AccAt.appended (AccAt.abide HA.out (fun b hb => Below.heap_alloc _ _ _ (AccAt.lt HA.out b hb))) hg' ho' hat)
    have hnb : some w.heap.size ≠ v.ownBlock := fun e => by have := (hrow.lt _ e.symm).1; omega
    have hc1 : w1.cell? ⟨w.heap.size, 0, none⟩ = some v := (World.cell?_of_block (w := W2.alloc (.cells #[.string x] 9)) (hg'.block _ (by simp; omega) hnb)).trans ((World.cell?_of_block (w := W2) (Below.heap_alloc _ _ _ hN2)).trans hc)
    have hf1 : w1.frozen? ⟨w.heap.size, 0, none⟩ = false := (World.frozen?_of_block (w := W2.alloc (.cells #[.string x] 9)) (hg'.block _ (by simp; omega) hnb)).trans ((World.frozen?_of_block (w := W2) (Below.heap_alloc _ _ _ hN2)).trans hf)
    clear hrow hat hg' ho' hi hz0 hz1 hz2 eg hc hf hnb
    subst hv'
    unfold Halt
    gi_wp2
    obtain ⟨h1, h2⟩ := hap.out
    exact ⟨_, ⟨_, by simpa using h1, rfl⟩, h2.shift (Keep.alloc _ _ _) fun _ h => .inl h⟩
  case done =>
    rintro xs W D hS ⟨v, hacc, rfl⟩ hL hK hDK
    obtain ⟨hc, hf⟩ := hacc.cell
    have HS := Lib.hid hS
    have HA := Lib.hid hacc
    have HL := Lib.hid hL
    clear hit hR hN hS hacc hL
    gi_wp2
    refine ⟨by simp, .inl ⟨_, _, rfl, run_takeDeferred hK, ?_⟩⟩
    refine ⟨_, results_tmp rfl _ _ _, xs, v, rfl, HS.out, ownsRow_block (ownsRow_base HA.out.row fun g hg => Nat.le_of_succ_le (HA.out.row.lt g hg).1) (fun g hg => World.putObj_heap_other fun e => hDK (.inr (e ▸ hg))), ?_⟩
    refine below_putObj (HL.out.below ((Below.refl _ _).alloc (Nat.le_refl _) _) ?_) (by simp) _
    rintro b (rfl | hb)
    · exact Nat.le_refl _
    · cases hb
  case stop => exact fun _ _ _ _ _ h => h.elim

theorem collectS_any (gf : Nat) (lb : Array Value) (S : List ByteArray → Prop) (R : Nat → Prop) (w : World) (eg : ∀ args w, (callFunc gf args).run Tryz.prog w = .ok (.enter gf args) w)
    (hit : Iter Tryz.prog gf lb (fun k : ByteArray => #[.string k]) S R w) (hR : ∀ b, R b → b < w.heap.size) (hN : ∀ xs, S xs → xs.length ≤ 1073741824) :
    Calls Tryz.prog 185 #[.func (.func gf) #[] lb] w fun e w' => ∃ xs v, e = .returned v ∧ S xs ∧ w'.ownsRow w.heap.size 9 1 v xs.length (xs.map .string) ∧ Below w.heap.size w w' := by
  go_enter Tryz.func185, Tryz.ntmps185
  go_wp2_with (go_at_call 206; refine (appendSeqS_any gf lb S R w eg hit hR hN).mono ?_; rintro e w1 ⟨xs, v, rfl, hr⟩; obtain HR := Lib.hid hr; clear hr)
  go_ret
  exact ⟨xs, v, rfl, HR.out⟩

/-- Strings as lists of bytes, sorted. -/
def sortB (xs : List ByteArray) : List ByteArray := ((xs.map (·.data.toList)).mergeSort fun x y => decide (x ≤ y)).map fun l => ⟨l.toArray⟩
theorem sortB_length (xs : List ByteArray) : (sortB xs).length = xs.length := by simp [sortB]
theorem strs_bytes (xs : List ByteArray) : xs.map Value.string = (xs.map (·.data.toList)).map encStr := by
  rw [List.map_map]
  exact List.map_congr_left fun x _ => by simp [encStr]
theorem strs_sort (xs : List ByteArray) : ((xs.map (·.data.toList)).mergeSort fun x y => decide (x ≤ y)).map encStr = (sortB xs).map Value.string := by
  rw [sortB, List.map_map]
  exact List.map_congr_left fun x _ => by simp [encStr]

theorem sortedS_any (gf : Nat) (lb : Array Value) (S : List ByteArray → Prop) (R : Nat → Prop) (w : World) (eg : ∀ args w, (callFunc gf args).run Tryz.prog w = .ok (.enter gf args) w)
    (hit : Iter Tryz.prog gf lb (fun k : ByteArray => #[.string k]) S R w) (hR : ∀ b, R b → b < w.heap.size) (hN : ∀ xs, S xs → xs.length ≤ 1073741824) :
    Calls Tryz.prog 123 #[.func (.func gf) #[] lb] w fun e w' => ∃ xs v, e = .returned v ∧ S xs ∧ w'.ownsRow w.heap.size 9 1 v xs.length ((sortB xs).map .string) ∧ Below w.heap.size w w' := by
  go_enter Tryz.func123, Tryz.ntmps123
  go_wp2_with (go_at_call 185; refine (collectS_any gf lb S R w eg hit hR hN).mono ?_; rintro e w1 ⟨xs, v, rfl, hs, ho, hb⟩; refine Halt.of ?_)
  rcases ho.2 with ⟨rfl, h0⟩ | ⟨g, cap, cur, rfl, hbase, hg, h1, h2, h3, h4⟩
  · have HS := Lib.hid hs
    have HO := Lib.hid ho
    have HB := Lib.hid hb
    clear hit hR hN hs ho hb
    unfold Halt
    go_wp2_with (go_at_call 186; refine (Tryz.slices_Sort_string_none _ _ _).mono ?_; rintro e w2 ⟨rfl, hw2⟩; subst hw2)
    go_ret
    refine ⟨xs, _, rfl, HS.out, ?_, HB.out⟩
    have := List.eq_nil_of_length_eq_zero h0
    subst this
    simpa [sortB] using HO.out
  · have hH := holds_of_block (ss := xs.map (·.data.toList)) hg (by rw [List.length_map, ← strs_bytes]; simpa using h4)
    have hgl := (Array.getElem?_eq_some_iff.1 hg).1
    have hl : (xs.map (·.data.toList)).length = xs.length := by simp
    have hlt : (xs.map (·.data.toList)).length < 4611686018427387904 := by have := hN _ hs; omega
    have hcall := Tryz.slices_Sort_string g 0 cap (xs.map (·.data.toList)) w1 hH hgl hlt
    rw [hl] at hcall
    have HC := Lib.hid hcall
    have HS := Lib.hid hs
    have HO := Lib.hid ho
    have HB := Lib.hid hb
    have HG := Lib.hid hg
    clear hit hR hN hs ho hb hg h4 hcall
    unfold Halt
    go_wp2_with (go_at_call 186; refine HC.out.mono ?_; rintro e w2 ⟨rfl, n, os, hw2⟩; have HW := Lib.hid hw2; clear hw2; refine Halt.of ?_)
    unfold Halt
    clear hH hgl hlt
    go_wp2
    go_ret
    refine ⟨xs, _, rfl, HS.out, ?_, ?_⟩
    · rw [HW.out, ← strs_sort, ← hl]
      exact ownsRow_sorted (by simp) hbase HG.out (by omega) h2 (by simpa using h3)
    · rw [HW.out]
      exact HB.out.grown (grownBy_sorted _) HB.out.size (fun g' e => by cases e; exact hbase)
end Go.Proofs.YtpdbmpbmepkikaaGreatDoor

namespace Go.Proofs.YtpdbmpbmepkikaaGreatDoor
open Go.RowKit
attribute [local go_sem] Oper.semAt_some

theorem sortB_perm {xs ys : List ByteArray} (h : xs.Perm ys) : sortB xs = sortB ys := by
  have hp := h.map (fun x : ByteArray => x.data.toList)
  have : (xs.map (·.data.toList)).mergeSort (fun x y => decide (x ≤ y)) = (ys.map (·.data.toList)).mergeSort fun x y => decide (x ≤ y) := by
    have tr : ∀ a b c : List UInt8, decide (a ≤ b) = true → decide (b ≤ c) = true → decide (a ≤ c) = true := fun a b c h1 h2 => by
      simp only [decide_eq_true_eq] at *; exact List.le_trans h1 h2
    have to : ∀ a b : List UInt8, (decide (a ≤ b) || decide (b ≤ a)) = true := fun a b => by
      simp only [Bool.or_eq_true, decide_eq_true_eq]; exact List.le_total a b
    exact List.Perm.eq_of_pairwise (le := fun a b => decide (a ≤ b) = true) (fun a b _ _ h1 h2 => by simp only [decide_eq_true_eq] at h1 h2; exact List.le_antisymm h1 h2) (List.pairwise_mergeSort tr to _) (List.pairwise_mergeSort tr to _)
      (((List.mergeSort_perm _ _).trans hp).trans (List.mergeSort_perm _ _).symm)
  rw [sortB, sortB, this]
theorem sortB_is_perm (xs : List ByteArray) : (sortB xs).Perm xs := by
  have := (List.mergeSort_perm (xs.map (·.data.toList)) fun x y => decide (x ≤ y)).map fun l : List UInt8 => (⟨l.toArray⟩ : ByteArray)
  rw [List.map_map] at this
  have e : (xs.map ((fun l : List UInt8 => (⟨l.toArray⟩ : ByteArray)) ∘ fun x => x.data.toList)) = xs := by
    have : ((fun l : List UInt8 => (⟨l.toArray⟩ : ByteArray)) ∘ fun x : ByteArray => x.data.toList) = id := by funext x; simp
    rw [this, List.map_id]
  rw [e] at this
  exact this

theorem callFunc_run {P : Program} {gf : Nat} {fn : Func} {c : Code} (hf : P.funcs[gf]? = some fn) (hb : fn.body = some c) (hn : fn.name ≠ "runtime.NumGoroutine") (args : Array Value) (w : World) : (callFunc gf args).run P w = .ok (.enter gf args) w := by
  simp [callFunc, go_sem, hf, hb, hn]

theorem keys_any (m : Nat) (L : List Reg) (pfx : ByteArray) (w : World) (hB : BookAt w m L) (hL : L.length ≤ 1073741824) :
    Calls Tryz.prog 86 #[.map (some m), .string pfx] w fun e w' => ∃ v, e = .returned v ∧ w'.ownsRow w.heap.size 9 1 v (sortB (keysL L pfx)).length ((sortB (keysL L pfx)).map .string) ∧ Below w.heap.size w w' := by
  have hlt := hB.lt
  go_enter Tryz.func86, Tryz.ntmps86
  have hcall := sortedS_any 141 #[.pointer (some ⟨w.heap.size, 0, none⟩), .pointer (some ⟨w.heap.size + 1, 0, none⟩)] _ _ ((w.alloc (.cells #[.map (some m)] 107)).alloc (.cells #[.string pfx] 9)) (callFunc_run Tryz.func141 rfl (by decide))
    (keys1_iter w.heap.size (w.heap.size + 1) m L pfx _ (by go_simp) (by go_simp) ((hB.alloc _).alloc _)) (fun b hb => by rcases hb with rfl | rfl | rfl <;> simp <;> omega)
    (fun xs h => Nat.le_trans (by rw [h.length_eq]; exact Nat.le_trans (List.length_filter_le _ _) (by simp)) hL)
  have HC := Lib.hid hcall
  clear hcall
  go_wp2_with (go_at_call 123; refine HC.out.mono ?_; rintro e w1 ⟨xs, v, rfl, hp, ho, hb⟩; have HP := Lib.hid (And.intro hp (And.intro ho hb)); clear hp ho hb HC)
  go_ret
  obtain ⟨hp, ho, hb⟩ := HP.out
  refine ⟨v, rfl, ?_, (((Below.refl _ _).alloc (Nat.le_refl _) _).alloc (by simp) _).trans (hb.mono (by simp; omega))⟩
  rw [sortB_perm hp, hp.length_eq] at ho
  rw [sortB_length]
  exact ownsRow_base ho fun g hg => by have := (ho.lt g hg).1; simp at this; omega
end Go.Proofs.YtpdbmpbmepkikaaGreatDoor

namespace Go.Proofs.YtpdbmpbmepkikaaGreatDoor
open Go.RowKit
attribute [local go_sem] Oper.semAt_some

instance : Inhabited Reg := ⟨⟨⟨#[]⟩, ⟨#[]⟩, 0, 0, ⟨#[]⟩⟩⟩
def getK (L : List Reg) (k : ByteArray) : Reg := (findK L k).getD default
/-- The registers whose keys begin so, in the order of keys. -/
def belowL (L : List Reg) (pfx : ByteArray) : List Reg := (sortB (keysL L pfx)).map (getK L)
theorem look_key {L : List Reg} {pfx k : ByteArray} (hk : k ∈ sortB (keysL L pfx)) (z : Value) : (look (es L) k).getD z = (getK L k).val := by
  rw [look_es, getK]
  have h1 := (sortB_is_perm _).subset hk
  have h2 := (List.mem_filter.1 h1).1
  obtain ⟨y, hy, e⟩ := List.mem_map.1 h2
  cases h : findK L k with
  | none => exact absurd e (by simpa using List.find?_eq_none.1 h y hy)
  | some y => rfl

theorem below_any (m : Nat) (pfx : ByteArray) (w : World) :
    Calls Tryz.prog 52 #[.map (some m), .string pfx] w fun e w' => e = .returned (.func (.func 85) #[] #[.pointer (some ⟨w.heap.size, 0, none⟩), .pointer (some ⟨w.heap.size + 1, 0, none⟩)]) ∧
      w' = (w.alloc (.cells #[.map (some m)] 107)).alloc (.cells #[.string pfx] 9) := by
  go_enter Tryz.func52, Tryz.ntmps52
  go_wp2
  go_ret
  exact ⟨rfl, rfl⟩

theorem below1_iter (bb bp m : Nat) (L : List Reg) (pfx : ByteArray) (w : World) (hcb : w.cell? ⟨bb, 0, none⟩ = some (.map (some m))) (hcp : w.cell? ⟨bp, 0, none⟩ = some (.string pfx)) (hB : BookAt w m L) (hL : L.length ≤ 1073741824) :
    Iter Tryz.prog 85 #[.pointer (some ⟨bb, 0, none⟩), .pointer (some ⟨bp, 0, none⟩)] (fun x : Reg => #[x.val]) (fun xs => xs = belowL L pfx) (fun b => b = bb ∨ b = bp ∨ b = m) w := by
  intro l J Jx W D0 hA hJ hJx hR hY h0
  have hB1 : BookAt W m L := hB.of_block (hA.block m (by simp))
  have hcb1 : W.cell? ⟨bb, 0, none⟩ = some (.map (some m)) := (World.cell?_of_block (w := w) (hA.block bb (by simp))).trans hcb
  have hcp1 : W.cell? ⟨bp, 0, none⟩ = some (.string pfx) := (World.cell?_of_block (w := w) (hA.block bp (by simp))).trans hcp
  have lbb := World.block_lt_of_cell? W _ hcb1
  have lbp := World.block_lt_of_cell? W _ hcp1
  have lm := hB1.lt
  have hcall := keys_any m L pfx W hB1 hL
  obtain ⟨K, hK⟩ : ∃ K, K = sortB (keysL L pfx) := ⟨_, rfl⟩
  have hbl : belowL L pfx = K.map (getK L) := by rw [belowL, hK]
  have hlook : ∀ k ∈ K, ∀ z, (look (es L) k).getD z = (getK L k).val := fun k hk z => look_key (hK ▸ hk) z
  rw [← hK] at hcall
  rw [hbl] at hY ⊢
  have HC := Lib.hid hcall
  clear hcall
  refine callsIn_of_wp Tryz.func85 rfl trivial ?_
  simp only [Tryz.ntmps85, List.size_toArray, List.length_cons, List.length_nil, Nat.reduceAdd, Nat.reduceSub, Array.replicate_succ, Array.replicate_zero, List.push_toArray, List.append_toArray, List.nil_append, List.cons_append]
  gi_wp2_with (gi_at_call 86; refine (callsIn_wide.2 HC.out).mono ?_; rintro e w1 ⟨v, rfl, ho, hb⟩; refine Halt.of ?_)
  have hJ1 : J [] w1 D0 := hJ.st _ _ _ _ h0 ((Keep.of_below' (F := fun _ => False) hb).abide fun b hb' => ⟨hJ.lt _ _ _ h0 b hb', id⟩)
  have hL1 : Left D0 W D0 w1 := .other (Keep.of_below' hb)
  have hD0 := hJ.lt _ _ _ h0
  rcases ho.2 with ⟨rfl, hn⟩ | ⟨g, cap, cur, rfl, hg, hgb, hn1, hn2, hn3, hn4⟩
  · have hK0 := List.eq_nil_of_length_eq_zero hn
    have HH := Lib.hid (And.intro hJ1 hL1)
    clear hK hbl hlook ho hb hJ1 hL1 HC hY hA hJ hJx hR h0 hB hB1 hcb hcp hcb1 hcp1 hn
    subst hK0
    unfold Halt
    gi_wp2
    gi_loopg [10] 0 (fun k s wr => s = .int .i64 0 ∧ wr = w1)
    case atStart => exact ⟨rfl, rfl⟩
    case round =>
      obtain ⟨rfl, rfl⟩ := hrel
      gi_wp2
      go_end0
      exact ⟨⟨_, rfl⟩, .inl ⟨_, D0, rfl, HH.out.1, HH.out.2⟩⟩
  · have hgl := (Array.getElem?_eq_some_iff.1 hgb).1
    have hcell : ∀ j (h : j < K.length), w1.cell? ⟨g, j, none⟩ = some (.string K[j]) := fun j h => by
      have := ho.cellAt j (by simpa using h)
      simpa [h] using this
    have hKl : K.length < 2 ^ 62 := by rw [hK, sortB_length]; exact Nat.lt_of_le_of_lt (Nat.le_trans (List.length_filter_le _ _) (by simpa using hL)) (by decide)
    have HO := Lib.hid (And.intro hJ1 (And.intro hL1 hD0))
    have HL := Lib.hid hlook
    have HCe := Lib.hid hcell
    have HJ := Lib.hid hJ
    have HY := Lib.hid hY
    have HR := Lib.hid hR
    have HB := Lib.hid (And.intro hB1 (And.intro hcb1 hcp1))
    clear hK hbl hlook ho hb hJ1 hL1 HC hY hA hJ hJx hR h0 hB hB1 hcb hcp hcb1 hcp1 hn3 hn4 hgb hcell hD0
    unfold Halt
    gi_wp2
    gi_loopg [10] K.length (fun k s wr => ∃ (j : Nat) (D : Nat → Prop), k + j = K.length ∧ s = .int .i64 j ∧ w1.heap.size ≤ wr.heap.size ∧ wr.heap[g]? = w1.heap[g]? ∧ J ((K.take j).map (getK L)) wr D ∧ Left D0 W D wr ∧ ¬ D g)
    case atStart => exact ⟨0, D0, by omega, rfl, Nat.le_refl _, rfl, by simpa using HO.out.1, HO.out.2.1, fun h => by have := HO.out.2.2 _ h; omega⟩
    case round =>
      obtain ⟨j, D, hk, rfl, hzz, hgg, hj, hLf, hDg⟩ := hrel
      by_cases hjl : j < K.length
      · have hx : wr.cell? ⟨g, j, none⟩ = some (.string K[j]) := (World.cell?_of_block (w := w1) hgg).trans (HCe.out j hjl)
        obtain ⟨x, hxe⟩ : ∃ x, x = K[j] := ⟨_, rfl⟩
        rw [← hxe] at hx
        have hcbw : wr.cell? ⟨bb, 0, none⟩ = some (.map (some m)) := (hLf.1.cell lbb (fun h => HR.out bb h (by simp))).trans HB.out.2.1
        have HM : Hid (BookAt wr m L) := Lib.hid (HB.out.1.keep hLf.1 (fun h => HR.out m h (by simp)))
        have hlk := Lib.hid (HL.out x (hxe ▸ List.getElem_mem hjl))
        obtain ⟨suf, hsuf⟩ : ∃ suf, (K.take j).map (getK L) ++ getK L x :: suf = K.map (getK L) := ⟨(K.drop (j+1)).map (getK L), by rw [hxe, ← List.map_cons, ← List.map_append, List.getElem_cons_drop, List.take_append_drop]⟩
        have hpre : (K.take j).map (getK L) ++ [getK L x] = (K.take (j + 1)).map (getK L) := by rw [List.take_add_one, List.map_append]; simp [hjl, hxe]
        obtain ⟨fn, tmps, assign, body, hy, hRr⟩ := HY.out ((K.take j).map (getK L)) (getK L x) wr D ⟨suf, hsuf⟩ hj
        rw [hpre] at hRr
        have HRr := Lib.hid hRr
        have HLf := Lib.hid (And.intro hLf (And.intro hgg (And.intro hzz hDg)))
        have HSf := Lib.hid hsuf
        have hyy : (Instr.yield l #[(getK L x).val]).run Tryz.prog wr = .ok (.round l fn tmps assign body) wr := hy
        clear hy hRr hLf hgg hj hsuf hDg hzz HCe HL hxe
        gi_wp2_with (gi_at_lookup; refine wpListIn_look _ keS rfl _ _ 107 rfl 9 46 Tryz.underlying107 Tryz.underlying9 _ (zero46 _) m (es L) x rfl HM.out rfl ?_; rw [hlk.out])
        refine HRr.out.mono ?_
        rintro e W' (⟨rfl, D', hj', hL'⟩ | ⟨rfl, D', hj', hL'⟩)
        · have HJ' := Lib.hid (And.intro hj' hL')
          clear hj' hL' HRr
          gi_wp2
          gi_roundg (gk - 1)
          case rel =>
            obtain ⟨hL0, h1, h2, h3⟩ := HLf.out
            obtain ⟨hj', hL'⟩ := HJ'.out
            refine ⟨j + 1, D', by omega, by go_simp, Nat.le_trans h2 hL'.1.size, (hL'.1.block g (by omega) h3).trans h1, hj', hL0.trans hL', fun h => ?_⟩
            rcases hL'.2 _ h with h | h
            · exact h3 h
            · omega
          case measure => omega
        · have HJ' := Lib.hid (And.intro hj' hL')
          clear hj' hL' HRr
          gi_wp2
          refine bodyPost_ret (results_none rfl _ _ _) rfl ?_
          exact ⟨⟨_, rfl⟩, .inr ⟨_, D', ⟨suf, by rw [← hpre, List.append_assoc]; exact HSf.out⟩, HJ'.out.1, HLf.out.1.trans HJ'.out.2⟩⟩
      · have hje : j = K.length := by omega
        subst hje
        have HF := Lib.hid (And.intro hj hLf)
        clear hj hLf hgg hDg hzz
        gi_wp2
        go_end0
        exact ⟨⟨_, rfl⟩, .inl ⟨_, D, rfl, by simpa using HF.out.1, HF.out.2⟩⟩
end Go.Proofs.YtpdbmpbmepkikaaGreatDoor

namespace Go.Proofs.YtpdbmpbmepkikaaGreatDoor
open Go.RowKit

/-- The greatest counter; 0 where there is none above. -/
def clockL (L : List Reg) : Int := L.foldr (fun x n => max n x.c) 0
def maxZ (a b : Int) : Int := max a b
theorem clockL_nonneg (L : List Reg) : 0 ≤ clockL L := by
  induction L with
  | nil => exact Int.le_refl 0
  | cons x l ih => exact Int.le_trans ih (Int.le_max_left _ _)
theorem le_clockL {L : List Reg} {x : Reg} (h : x ∈ L) : x.c ≤ clockL L := by
  induction L with
  | nil => cases h
  | cons y l ih =>
    rcases List.mem_cons.1 h with rfl | h
    · exact Int.le_max_right _ _
    · exact Int.le_trans (ih h) (Int.le_max_left _ _)
theorem clockL_mem (L : List Reg) : clockL L = 0 ∨ ∃ x ∈ L, x.c = clockL L := by
  induction L with
  | nil => exact .inl rfl
  | cons y l ih =>
    show max (clockL l) y.c = 0 ∨ ∃ x ∈ y :: l, x.c = max (clockL l) y.c
    rcases Int.le_total y.c (clockL l) with h | h
    · rw [Int.max_eq_left h]
      exact ih.imp id fun ⟨x, hx, e⟩ => ⟨x, List.mem_cons_of_mem _ hx, e⟩
    · rw [Int.max_eq_right h]
      exact .inr ⟨y, List.mem_cons_self, rfl⟩
theorem clockL_unique {L : List Reg} {n : Int} (h0 : 0 ≤ n) (h1 : ∀ x ∈ L, x.c ≤ n) (h2 : n = 0 ∨ ∃ x ∈ L, x.c = n) : n = clockL L := by
  apply Int.le_antisymm
  · rcases h2 with rfl | ⟨x, hx, rfl⟩
    · exact clockL_nonneg L
    · exact le_clockL hx
  · rcases clockL_mem L with h | ⟨x, hx, e⟩
    · omega
    · have := h1 x hx; omega

theorem inj_key {L : List Reg} (h : (L.map (·.key)).Nodup) {x y : Reg} (hx : x ∈ L) (hy : y ∈ L) (e : x.key = y.key) : x = y := by
  induction L with
  | nil => cases hx
  | cons z l ih =>
    rw [List.map_cons, List.nodup_cons] at h
    rcases List.mem_cons.1 hx with rfl | hx' <;> rcases List.mem_cons.1 hy with rfl | hy'
    · rfl
    · exact absurd (e ▸ List.mem_map_of_mem (f := fun x : Reg => x.key) hy') h.1
    · exact absurd (e ▸ List.mem_map_of_mem (f := fun x : Reg => x.key) hx') h.1
    · exact ih h.2 hx' hy'

theorem below_keep {G : Nat → Prop} {w wr w2 : World} (h : Below w.heap.size w wr) (k : Keep G wr w2) (hG : ∀ x, x < w.heap.size → ¬ G x) : Below w.heap.size w w2 :=
  ⟨k.os.trans h.os, k.tape.trans h.tape, k.output.trans h.output, Nat.le_trans h.size k.size, fun b hb => (k.block b (Nat.lt_of_lt_of_le hb h.size) (hG b hb)).trans (h.block b hb)⟩

theorem clock_any (m : Nat) (L : List Reg) (w : World) (hB : BookAt w m L) :
    Calls Tryz.prog 118 #[.map (some m)] w fun e w' => e = .returned (.int .i64 (clockL L)) ∧ Below w.heap.size w w' := by
  have hlt := hB.lt
  obtain ⟨o, hrun, hRg⟩ := run_range (P := Tryz.prog) (T := 107) keS Tryz.underlying107 hB
  have HR := Lib.hid hRg
  have HN := Lib.hid hB.nodup
  clear hRg hB
  go_enter Tryz.func118, Tryz.ntmps118
  go_wp2
  go_loopg [3] L.length (fun k s wr => ∃ (done : List ByteArray) (n : Int), k + done.length = L.length ∧ s = .int .i64 n ∧ RangeAt keS wr m w.heap.size (es L) done ∧ done.Nodup ∧ (∀ x ∈ done, x ∈ L.map (·.key)) ∧
      0 ≤ n ∧ (∀ x ∈ L, x.key ∈ done → x.c ≤ n) ∧ (n = 0 ∨ ∃ x ∈ L, x.c = n) ∧ Below w.heap.size w wr)
  case atStart => exact ⟨[], 0, by simp, rfl, HR.out, by simp, by simp, Int.le_refl 0, by simp, .inl rfl, (Below.refl _ _).alloc (Nat.le_refl _) _⟩
  case round =>
    obtain ⟨done, n, hk, rfl, hRg, hnd, hsub, hn0, hn1, hn2, hbel⟩ := hrel
    have hne : m ≠ w.heap.size := by omega
    have HB := Lib.hid (And.intro hk (And.intro hnd (And.intro hsub (And.intro hn0 (And.intro hn1 (And.intro hn2 hbel))))))
    rcases run_next (P := Tryz.prog) keS hRg hne 0 with ⟨hall, hnx⟩ | ⟨x, v, w2, hin, hnin, hnx, hRg2, hk2, hs2⟩
    · have HA := Lib.hid hall
      clear hRg hk hnd hsub hn0 hn1 hn2 hbel hall hrun
      go_wp2
      go_ret
      obtain ⟨-, -, -, h0, h1, h2, hb⟩ := HB.out
      exact ⟨by rw [← clockL_unique h0 (fun x hx => h1 x hx (HA.out (x.key, x.val) (List.mem_map_of_mem (f := fun x : Reg => (x.key, x.val)) hx))) h2]; rfl, hb⟩
    · obtain ⟨v', hv', hen⟩ := run_entry (P := Tryz.prog) keS hRg2
      obtain ⟨⟨yn, yf, yc, yr, yv⟩, hy, e⟩ := List.mem_map.1 hv'
      simp only [Prod.mk.injEq] at e
      obtain ⟨rfl, rfl⟩ := e
      unfold Reg.val at hen
      obtain ⟨x, hxe⟩ : ∃ x, x = Reg.key ⟨yn, yf, yc, yr, yv⟩ := ⟨_, rfl⟩
      rw [← hxe] at hnx hen hnin hRg2
      replace hnx : (Instr.next (.pointer (some ⟨w.heap.size, 0, none⟩)) false 0).run Tryz.prog wr = .ok (.tuple #[.bool true, .string x, v]) w2 := hnx
      replace hen : (Instr.entry (.pointer (some ⟨w.heap.size, 0, none⟩))).run Tryz.prog w2 = .ok (.tuple #[.string x, .agg #[.string yn, .string yf, .int .i64 yc, .int .i64 yr, .string yv]]) w2 := hen
      have hxk : x ∈ L.map (·.key) := hxe ▸ List.mem_map_of_mem (f := fun y : Reg => y.key) hy
      have hlen : done.length < L.length := by
        have := (List.nodup_cons.2 ⟨hnin, hnd⟩).length_le_of_subset (l₂ := L.map (·.key)) (fun a ha => by
          rcases List.mem_cons.1 ha with ha | ha
          · rw [ha]; exact hxk
          · exact hsub a ha)
        simp at this
        omega
      have HH := Lib.hid (And.intro hlen (And.intro hxk (And.intro hy (And.intro hnin (And.intro hRg2 (And.intro hk2 (And.intro hs2 hxe)))))))
      clear hlen hxk hRg hk hnd hsub hn0 hn1 hn2 hbel hrun hin hnin hRg2 hk2 hs2 hv' hy hxe
      go_wp2
      go_roundg (gk - 1)
      case rel =>
        obtain ⟨hk, hnd, hsub, hn0, hn1, hn2, hbel⟩ := HB.out
        obtain ⟨hlen, hxk, hy, hnin, hRg2, hk2, hs2, hxe⟩ := HH.out
        refine ⟨done ++ [x], max n yc, by simp; omega, rfl, (hRg2.of_blocks (Below.heap_alloc _ _ _ hRg2.map.lt) (Below.heap_alloc _ _ _ hRg2.lt)), ?_, ?_, ?_, ?_, ?_, ?_⟩
        · rw [List.nodup_append]
          exact ⟨hnd, by simp, fun a ha b hb e => hnin (by simp at hb; rw [← hb, ← e]; exact ha)⟩
        · intro a ha
          rcases List.mem_append.1 ha with ha | ha
          · exact hsub a ha
          · rw [List.mem_singleton.1 ha]; exact hxk
        · exact Int.le_trans hn0 (Int.le_max_left _ _)
        · intro y hyL hyd
          rcases List.mem_append.1 hyd with h | h
          · exact Int.le_trans (hn1 y hyL h) (Int.le_max_left _ _)
          · have : y = ⟨yn, yf, yc, yr, yv⟩ := inj_key HN.out hyL hy ((List.mem_singleton.1 h).trans hxe)
            rw [this]
            exact Int.le_max_right _ _
        · rcases Int.le_total yc n with h | h
          · rw [Int.max_eq_left h]; exact hn2
          · rw [Int.max_eq_right h]; exact .inr ⟨_, hy, rfl⟩
        · exact ((below_keep hbel hk2 (fun x hx e => by omega)).alloc (by have := hbel.size; omega) _)
      case measure => have := HB.out.1; have := HH.out.1; omega
end Go.Proofs.YtpdbmpbmepkikaaGreatDoor

namespace Go.Proofs.YtpdbmpbmepkikaaGreatDoor
open Go.RowKit
attribute [local go_sem] Oper.semAt_some

theorem getK_key {L : List Reg} (h : (L.map (·.key)).Nodup) {y : Reg} (hy : y ∈ L) : getK L y.key = y := by
  unfold getK findK
  cases hf : L.find? (fun z => decide (z.key = y.key)) with
  | none => exact absurd (List.find?_eq_none.1 hf y hy) (by simp)
  | some z =>
    have hz := List.mem_of_find?_eq_some hf
    have hk : z.key = y.key := by simpa using List.find?_some hf
    exact inj_key h hz hy hk

theorem getK_map {L : List Reg} (h : (L.map (·.key)).Nodup) : (L.map (·.key)).map (getK L) = L := by
  rw [List.map_map]
  have : ∀ y ∈ L, (getK L ∘ fun x : Reg => x.key) y = id y := fun y hy => getK_key h hy
  rw [List.map_congr_left this, List.map_id]

theorem mapKeys1_iter (bb m : Nat) (es : List (ByteArray × Value)) (hes : (es.map (·.1)).Nodup) (w : World) (hcb : w.cell? ⟨bb, 0, none⟩ = some (.map (some m))) (hB : MapAt keS w m es) :
    Iter Tryz.prog 187 #[.pointer (some ⟨bb, 0, none⟩)] (fun k : ByteArray => #[.string k]) (fun ks => ks.Perm (es.map (·.1))) (fun b => b = bb ∨ b = m) w := by
  intro l J Jx W D0 hA hJ hJx hR hY h0
  have hm1 : MapAt keS W m es := hB.of_block (hA.block m (by simp))
  have hcb1 : W.cell? ⟨bb, 0, none⟩ = some (.map (some m)) := (World.cell?_of_block (w := w) (hA.block bb (by simp))).trans hcb
  obtain ⟨o, hrun, hRg⟩ := run_range (P := Tryz.prog) (T := 208) keS Tryz.underlying208 hm1
  have lbb := World.block_lt_of_cell? W _ hcb1
  have lm := hm1.lt
  have hND := hes
  refine callsIn_of_wp Tryz.func187 rfl trivial ?_
  simp only [Tryz.ntmps187, List.size_toArray, List.length_cons, List.length_nil, Nat.reduceAdd, Nat.reduceSub, Array.replicate_succ, Array.replicate_zero, List.push_toArray, List.append_toArray, List.nil_append, List.cons_append]
  gi_wp2
  gi_loopg [3] es.length (fun k _ wr => ∃ (done : List ByteArray) (D : Nat → Prop), k + done.length = es.length ∧ RangeAt keS wr m W.heap.size es done ∧ done.Nodup ∧ (∀ x ∈ done, x ∈ es.map (·.1)) ∧
      J done wr D ∧ Left D0 W D wr ∧ ¬ D W.heap.size)
  case atStart =>
    have hlt := hJ.lt _ _ _ h0
    refine ⟨[], D0, by simp, hRg, by simp, by simp, hJ.st _ _ _ _ h0 ((Keep.alloc (fun _ => False) _ _).abide fun b hb => ⟨hlt b hb, id⟩), .other (Keep.alloc _ _ _), fun h => absurd (hlt _ h) (by omega)⟩
  case round =>
    obtain ⟨done, D, hk, hRg, hnd, hsub, hj, hL, hDi⟩ := hrel
    have hDb : ∀ b, (b = bb ∨ b = m) → b < W.heap.size → ¬ D b := fun b hb hlt hD => by
      rcases hL.2 b hD with h | h
      · exact hR b h hb
      · omega
    have hne : m ≠ W.heap.size := by omega
    have hrlt := hRg.lt
    have HN := Lib.hid hND
    have HL := Lib.hid hL
    have HJ := Lib.hid hj
    have HY := Lib.hid hY
    have HS := Lib.hid hsub
    have HD := Lib.hid hnd
    have HK := Lib.hid hk
    rcases run_next (P := Tryz.prog) keS hRg hne 0 with ⟨hall, hnx⟩ | ⟨x, v, w2, hin, hnin, hnx, hRg2, hk2, hs2⟩
    · clear hRg hL hj hY hsub hnd hk hDb hrun hA hJx hm1 hND hes
      have HA := Lib.hid hall
      clear hall
      gi_wp2
      go_end0
      refine ⟨⟨_, rfl⟩, .inl ⟨_, D, ?_, HJ.out, HL.out⟩⟩
      exact (List.perm_ext_iff_of_nodup HD.out HN.out).2 fun a => ⟨HS.out a, fun ha => by
        obtain ⟨y, hy, rfl⟩ := List.mem_map.1 ha
        exact HA.out y hy⟩
    · obtain ⟨v', hv', hen⟩ := run_entry (P := Tryz.prog) keS hRg2
      replace hnx : (Instr.next (.pointer (some ⟨W.heap.size, 0, none⟩)) false 0).run Tryz.prog wr = .ok (.tuple #[.bool true, .string x, v]) w2 := hnx
      replace hen : (Instr.entry (.pointer (some ⟨W.heap.size, 0, none⟩))).run Tryz.prog w2 = .ok (.tuple #[.string x, v']) w2 := hen
      have hxk : x ∈ es.map (·.1) := List.mem_map.2 ⟨_, hin, rfl⟩
      have hlen : done.length < es.length := by
        have := (List.nodup_cons.2 ⟨hnin, hnd⟩).length_le_of_subset (l₂ := es.map (·.1)) (fun a ha => by
          rcases List.mem_cons.1 ha with rfl | ha
          · exact hxk
          · exact hsub a ha)
        simp at this
        omega
      have hj2 : J done w2 D := hJ.st _ _ _ _ hj (hk2.abide fun b hb => ⟨hJ.lt _ _ _ hj b hb, fun e => hDi (e ▸ hb)⟩)
      have hL2 : Left D0 W D w2 := hL.step hk2 (fun b hb e => by omega)
      have HX := Lib.hid (⟨hxk, hnin⟩ : x ∈ es.map (·.1) ∧ x ∉ done)
      have HL2 := Lib.hid hL2
      obtain ⟨suf, hsuf⟩ := perm_rest (fun _ => true) HN.out HD.out HS.out hxk hnin rfl
      rw [List.filter_eq_self.2 (by simp), List.filter_eq_self.2 (by simp)] at hsuf
      obtain ⟨fn, tmps, assign, body, hy, hRr⟩ := HY.out done x w2 D ⟨suf, hsuf⟩ hj2
      have HR := Lib.hid hRr
      have HSf := Lib.hid hsuf
      have hyy : (Instr.yield l #[.string x]).run Tryz.prog w2 = .ok (.round l fn tmps assign body) w2 := hy
      clear hrun hA hJx hm1 hL hj hY hsub hnd hk hRg hin hnin hND hrlt hk2 hs2 hv' HJ HL hxk hL2 hRr hsuf hj2 hy hes
      gi_wp2
      refine HR.out.mono ?_
      rintro e W' (⟨rfl, D', hj', hL'⟩ | ⟨rfl, D', hj', hL'⟩)
      · gi_wp2
        gi_roundg (gk - 1)
        case rel =>
          have hRg' : RangeAt keS W' m W.heap.size es (done ++ [x]) := hRg2.of_blocks (hL'.1.block _ hRg2.map.lt (hDb m (by simp) lm)) (hL'.1.block _ hRg2.lt hDi)
          refine ⟨done ++ [x], D', by have := HK.out; simp; omega, hRg', ?_, ?_, hj', HL2.out.trans hL', ?_⟩
          · rw [List.nodup_append]
            exact ⟨HD.out, by simp, fun a ha b hb e => HX.out.2 (by simp at hb; rw [← hb, ← e]; exact ha)⟩
          · intro a ha
            rcases List.mem_append.1 ha with ha | ha
            · exact HS.out a ha
            · rw [List.mem_singleton.1 ha]; exact HX.out.1
          · intro h
            rcases hL'.2 _ h with h | h
            · exact hDi h
            · have := hRg2.lt; omega
        case measure => have := HK.out; omega
      · gi_wp2
        refine bodyPost_ret (results_none rfl _ _ _) rfl ?_
        exact ⟨⟨_, rfl⟩, .inr ⟨_, D', ⟨suf, by rw [List.append_assoc]; exact HSf.out⟩, hj', HL2.out.trans hL'⟩⟩

theorem mapVals1_iter (bb m : Nat) (L : List Reg) (w : World) (hcb : w.cell? ⟨bb, 0, none⟩ = some (.map (some m))) (hB : BookAt w m L) :
    Iter Tryz.prog 184 #[.pointer (some ⟨bb, 0, none⟩)] (fun x : Reg => #[x.val]) (fun xs => xs.Perm L) (fun b => b = bb ∨ b = m) w := by
  intro l J Jx W D0 hA hJ hJx hR hY h0
  have hm1 : MapAt keS W m (es L) := MapAt.of_block hB (hA.block m (by simp))
  have hcb1 : W.cell? ⟨bb, 0, none⟩ = some (.map (some m)) := (World.cell?_of_block (w := w) (hA.block bb (by simp))).trans hcb
  obtain ⟨o, hrun, hRg⟩ := run_range (P := Tryz.prog) (T := 107) keS Tryz.underlying107 hm1
  have lbb := World.block_lt_of_cell? W _ hcb1
  have lm := hm1.lt
  have hND := hB.nodup
  refine callsIn_of_wp Tryz.func184 rfl trivial ?_
  simp only [Tryz.ntmps184, List.size_toArray, List.length_cons, List.length_nil, Nat.reduceAdd, Nat.reduceSub, Array.replicate_succ, Array.replicate_zero, List.push_toArray, List.append_toArray, List.nil_append, List.cons_append]
  gi_wp2
  gi_loopg [4] L.length (fun k _ wr => ∃ (done : List ByteArray) (D : Nat → Prop), k + done.length = L.length ∧ RangeAt keS wr m W.heap.size (es L) done ∧ done.Nodup ∧ (∀ x ∈ done, x ∈ L.map (·.key)) ∧
      J (done.map (getK L)) wr D ∧ Left D0 W D wr ∧ ¬ D W.heap.size)
  case atStart =>
    have hlt := hJ.lt _ _ _ h0
    refine ⟨[], D0, by simp, hRg, by simp, by simp, hJ.st _ _ _ _ h0 ((Keep.alloc (fun _ => False) _ _).abide fun b hb => ⟨hlt b hb, id⟩), .other (Keep.alloc _ _ _), fun h => absurd (hlt _ h) (by omega)⟩
  case round =>
    obtain ⟨done, D, hk, hRg, hnd, hsub, hj, hL, hDi⟩ := hrel
    have hDb : ∀ b, (b = bb ∨ b = m) → b < W.heap.size → ¬ D b := fun b hb hlt hD => by
      rcases hL.2 b hD with h | h
      · exact hR b h hb
      · omega
    have hne : m ≠ W.heap.size := by omega
    have hrlt := hRg.lt
    have HN := Lib.hid hND
    have HL := Lib.hid hL
    have HJ := Lib.hid hj
    have HY := Lib.hid hY
    have HS := Lib.hid hsub
    have HD := Lib.hid hnd
    have HK := Lib.hid hk
    rcases run_next (P := Tryz.prog) keS hRg hne 0 with ⟨hall, hnx⟩ | ⟨x, v, w2, hin, hnin, hnx, hRg2, hk2, hs2⟩
    · clear hRg hL hj hY hsub hnd hk hDb hrun hA hJx hm1 hND
      have HA := Lib.hid hall
      clear hall
      gi_wp2
      go_end0
      refine ⟨⟨_, rfl⟩, .inl ⟨_, D, ?_, HJ.out, HL.out⟩⟩
      have hp : done.Perm (L.map (·.key)) := (List.perm_ext_iff_of_nodup HD.out HN.out).2 fun a => ⟨HS.out a, fun ha => by
        obtain ⟨y, hy, rfl⟩ := List.mem_map.1 ha
        exact HA.out (y.key, y.val) (List.mem_map_of_mem (f := fun x : Reg => (x.key, x.val)) hy)⟩
      have := hp.map (getK L)
      rwa [getK_map HN.out] at this
    · obtain ⟨v', hv', hen⟩ := run_entry (P := Tryz.prog) keS hRg2
      replace hnx : (Instr.next (.pointer (some ⟨W.heap.size, 0, none⟩)) false 0).run Tryz.prog wr = .ok (.tuple #[.bool true, .string x, v]) w2 := hnx
      replace hen : (Instr.entry (.pointer (some ⟨W.heap.size, 0, none⟩))).run Tryz.prog w2 = .ok (.tuple #[.string x, v']) w2 := hen
      obtain ⟨y, hyL, hye⟩ := List.mem_map.1 hv'
      simp only [Prod.mk.injEq] at hye
      obtain ⟨rfl, rfl⟩ := hye
      have hgk := getK_key hND hyL
      have hxk : y.key ∈ L.map (·.key) := List.mem_map_of_mem hyL
      have hlen : done.length < L.length := by
        have := (List.nodup_cons.2 ⟨hnin, hnd⟩).length_le_of_subset (l₂ := L.map (·.key)) (fun a ha => by
          rcases List.mem_cons.1 ha with rfl | ha
          · exact hxk
          · exact hsub a ha)
        simp at this
        omega
      have hj2 : J (done.map (getK L)) w2 D := hJ.st _ _ _ _ hj (hk2.abide fun b hb => ⟨hJ.lt _ _ _ hj b hb, fun e => hDi (e ▸ hb)⟩)
      have hL2 : Left D0 W D w2 := hL.step hk2 (fun b hb e => by omega)
      have HX := Lib.hid (⟨hxk, hnin⟩ : y.key ∈ L.map (·.key) ∧ y.key ∉ done)
      have HL2 := Lib.hid hL2
      obtain ⟨suf, hsuf⟩ := perm_rest (fun _ => true) HN.out HD.out HS.out hxk hnin rfl
      rw [List.filter_eq_self.2 (by simp), List.filter_eq_self.2 (by simp)] at hsuf
      have hsuf2 : (done.map (getK L) ++ y :: suf.map (getK L)).Perm L := by
        have := hsuf.map (getK L)
        rw [List.map_append, List.map_cons, hgk] at this
        rwa [getK_map HN.out] at this
      have hpre : (done ++ [y.key]).map (getK L) = done.map (getK L) ++ [y] := by simp [hgk]
      obtain ⟨w3, hw3⟩ : ∃ w3, w3 = w2.alloc (.cells #[.string y.name, .string y.field, .int .i64 y.c, .int .i64 y.r, .string y.value] 46) := ⟨_, rfl⟩
      have hk3 : Keep (fun _ => False) w2 w3 := by rw [hw3]; exact Keep.alloc _ _ _
      have hj3 : J (done.map (getK L)) w3 D := hJ.st _ _ _ _ hj2 (hk3.abide fun b hb => ⟨hJ.lt _ _ _ hj2 b hb, fun h => h⟩)
      have hL3 : Left D0 W D w3 := hL2.step hk3 (fun b hb e => e.elim)
      have hRg3 : RangeAt keS w3 m W.heap.size (es L) (done ++ [y.key]) := hRg2.of_blocks (hk3.block _ hRg2.map.lt id) (hk3.block _ hRg2.lt id)
      obtain ⟨fn, tmps, assign, body, hy, hRr⟩ := HY.out (done.map (getK L)) y w3 D ⟨_, hsuf2⟩ hj3
      rw [← hpre] at hRr
      have HR := Lib.hid hRr
      have HSf := Lib.hid (And.intro hsuf2 hpre)
      have HL3 := Lib.hid hL3
      have HRg3 := Lib.hid hRg3
      have HW3 := Lib.hid hw3
      have hyy : (Instr.yield l #[.agg #[.string y.name, .string y.field, .int .i64 y.c, .int .i64 y.r, .string y.value]]).run Tryz.prog w3 = .ok (.round l fn tmps assign body) w3 := hy
      clear hrun hA hJx hm1 hL hj hY hsub hnd hk hRg hin hnin hND hrlt hk2 hs2 hv' HJ HL hxk hL2 hRr hsuf hj2 hy hsuf2 hpre hk3 hj3 hL3 hRg3 hRg2 hgk hyL
      unfold Reg.val at hen
      rw [hw3] at hyy
      clear hw3
      gi_wp2
      rw [← HW3.out]
      refine HR.out.mono ?_
      rintro e W' (⟨rfl, D', hj', hL'⟩ | ⟨rfl, D', hj', hL'⟩)
      · gi_wp2
        gi_roundg (gk - 1)
        case rel =>
          have hRg' : RangeAt keS W' m W.heap.size (es L) (done ++ [y.key]) := HRg3.out.of_blocks (hL'.1.block _ HRg3.out.map.lt (hDb m (by simp) lm)) (hL'.1.block _ HRg3.out.lt hDi)
          refine ⟨done ++ [y.key], D', by have := HK.out; simp; omega, hRg', ?_, ?_, hj', HL3.out.trans hL', ?_⟩
          · rw [List.nodup_append]
            exact ⟨HD.out, by simp, fun a ha b hb e => HX.out.2 (by simp at hb; rw [← hb, ← e]; exact ha)⟩
          · intro a ha
            rcases List.mem_append.1 ha with ha | ha
            · exact HS.out a ha
            · rw [List.mem_singleton.1 ha]; exact HX.out.1
          · intro h
            rcases hL'.2 _ h with h | h
            · exact hDi h
            · have := HRg3.out.lt; omega
        case measure => have := HK.out; omega
      · gi_wp2
        refine bodyPost_ret (results_none rfl _ _ _) rfl ?_
        exact ⟨⟨_, rfl⟩, .inr ⟨_, D', ⟨suf.map (getK L), by rw [HSf.out.2, List.append_assoc]; exact HSf.out.1⟩, hj', HL3.out.trans hL'⟩⟩
end Go.Proofs.YtpdbmpbmepkikaaGreatDoor

namespace Go.Proofs.YtpdbmpbmepkikaaGreatDoor
open Go.RowKit
attribute [local go_sem] Oper.semAt_some

/-- The contract of an iterator that is handed a closure: function cf with cl captured. -/
def IterC {α : Type} (P : Program) (gf : Nat) (lb : Array Value) (encs : α → Array Value) (S : List α → Prop) (R : Nat → Prop) (W0 : World) : Prop :=
  ∀ (cf : Nat) (cl : Array Value) (J Jx : List α → World → (Nat → Prop) → Prop) (W : World) (D0 : Nat → Prop), (∀ args w, (callFunc cf args).run P w = .ok (.enter cf args) w) → Abide R W0 W → Owned J → Owned Jx → (∀ b, D0 b → ¬ R b) →
    (∀ (pre : List α) (x : α) (W1 : World) (D1 : Nat → Prop), (∃ suf, S (pre ++ x :: suf)) → J pre W1 D1 → CallsIn Fence.wide 0 P cf (encs x ++ cl) W1 fun e W' =>
      (e = .returned (.bool true) ∧ ∃ D', J (pre ++ [x]) W' D' ∧ Left D1 W1 D' W') ∨ (e = .returned (.bool false) ∧ ∃ D', Jx (pre ++ [x]) W' D' ∧ Left D1 W1 D' W')) →
    J [] W D0 →
    CallsIn Fence.wide 0 P gf (#[.func (.func cf) #[] cl] ++ lb) W fun e W' => (∃ v, e = .returned v) ∧
      ((∃ xs D', S xs ∧ J xs W' D' ∧ Left D0 W D' W') ∨ (∃ pre D', (∃ suf, S (pre ++ suf)) ∧ Jx pre W' D' ∧ Left D0 W D' W'))

theorem below1_iterC (bb bp m : Nat) (L : List Reg) (pfx : ByteArray) (w : World) (hcb : w.cell? ⟨bb, 0, none⟩ = some (.map (some m))) (hcp : w.cell? ⟨bp, 0, none⟩ = some (.string pfx)) (hB : BookAt w m L) (hL : L.length ≤ 1073741824) :
    IterC Tryz.prog 85 #[.pointer (some ⟨bb, 0, none⟩), .pointer (some ⟨bp, 0, none⟩)] (fun x : Reg => #[x.val]) (fun xs => xs = belowL L pfx) (fun b => b = bb ∨ b = bp ∨ b = m) w := by
  intro cf cl J Jx W D0 ecf hA hJ hJx hR hY h0
  have hB1 : BookAt W m L := hB.of_block (hA.block m (by simp))
  have hcb1 : W.cell? ⟨bb, 0, none⟩ = some (.map (some m)) := (World.cell?_of_block (w := w) (hA.block bb (by simp))).trans hcb
  have hcp1 : W.cell? ⟨bp, 0, none⟩ = some (.string pfx) := (World.cell?_of_block (w := w) (hA.block bp (by simp))).trans hcp
  have lbb := World.block_lt_of_cell? W _ hcb1
  have lbp := World.block_lt_of_cell? W _ hcp1
  have lm := hB1.lt
  have hcall := keys_any m L pfx W hB1 hL
  obtain ⟨K, hK⟩ : ∃ K, K = sortB (keysL L pfx) := ⟨_, rfl⟩
  have hbl : belowL L pfx = K.map (getK L) := by rw [belowL, hK]
  have hlook : ∀ k ∈ K, ∀ z, (look (es L) k).getD z = (getK L k).val := fun k hk z => look_key (hK ▸ hk) z
  rw [← hK] at hcall
  rw [hbl] at hY ⊢
  have HC := Lib.hid hcall
  clear hcall
  refine callsIn_of_wp Tryz.func85 rfl trivial ?_
  simp only [Tryz.ntmps85, List.size_toArray, List.length_cons, List.length_nil, Nat.reduceAdd, Nat.reduceSub, Array.replicate_succ, Array.replicate_zero, List.push_toArray, List.append_toArray, List.nil_append, List.cons_append]
  gi_wp2_with (gi_at_call 86; refine (callsIn_wide.2 HC.out).mono ?_; rintro e w1 ⟨v, rfl, ho, hb⟩; refine Halt.of ?_)
  have hJ1 : J [] w1 D0 := hJ.st _ _ _ _ h0 ((Keep.of_below' (F := fun _ => False) hb).abide fun b hb' => ⟨hJ.lt _ _ _ h0 b hb', id⟩)
  have hL1 : Left D0 W D0 w1 := .other (Keep.of_below' hb)
  have hD0 := hJ.lt _ _ _ h0
  rcases ho.2 with ⟨rfl, hn⟩ | ⟨g, cap, cur, rfl, hg, hgb, hn1, hn2, hn3, hn4⟩
  · have hK0 := List.eq_nil_of_length_eq_zero hn
    have HH := Lib.hid (And.intro hJ1 hL1)
    clear hK hbl hlook ho hb hJ1 hL1 HC hY hA hJ hJx hR h0 hB hB1 hcb hcp hcb1 hcp1 hn
    subst hK0
    unfold Halt
    gi_wp2
    gi_loopg [10] 0 (fun k s wr => s = .int .i64 0 ∧ wr = w1)
    case atStart => exact ⟨rfl, rfl⟩
    case round =>
      obtain ⟨rfl, rfl⟩ := hrel
      gi_wp2
      go_end0
      exact ⟨⟨_, rfl⟩, .inl ⟨_, D0, rfl, HH.out.1, HH.out.2⟩⟩
  · have hgl := (Array.getElem?_eq_some_iff.1 hgb).1
    have hcell : ∀ j (h : j < K.length), w1.cell? ⟨g, j, none⟩ = some (.string K[j]) := fun j h => by
      have := ho.cellAt j (by simpa using h)
      simpa [h] using this
    have hKl : K.length < 2 ^ 62 := by rw [hK, sortB_length]; exact Nat.lt_of_le_of_lt (Nat.le_trans (List.length_filter_le _ _) (by simpa using hL)) (by decide)
    have HO := Lib.hid (And.intro hJ1 (And.intro hL1 hD0))
    have HL := Lib.hid hlook
    have HCe := Lib.hid hcell
    have HJ := Lib.hid hJ
    have HY := Lib.hid hY
    have HR := Lib.hid hR
    have HB := Lib.hid (And.intro hB1 (And.intro hcb1 hcp1))
    clear hK hbl hlook ho hb hJ1 hL1 HC hY hA hJ hJx hR h0 hB hB1 hcb hcp hcb1 hcp1 hn3 hn4 hgb hcell hD0
    unfold Halt
    gi_wp2
    gi_loopg [10] K.length (fun k s wr => ∃ (j : Nat) (D : Nat → Prop), k + j = K.length ∧ s = .int .i64 j ∧ w1.heap.size ≤ wr.heap.size ∧ wr.heap[g]? = w1.heap[g]? ∧ J ((K.take j).map (getK L)) wr D ∧ Left D0 W D wr ∧ ¬ D g)
    case atStart => exact ⟨0, D0, by omega, rfl, Nat.le_refl _, rfl, by simpa using HO.out.1, HO.out.2.1, fun h => by have := HO.out.2.2 _ h; omega⟩
    case round =>
      obtain ⟨j, D, hk, rfl, hzz, hgg, hj, hLf, hDg⟩ := hrel
      by_cases hjl : j < K.length
      · have hx : wr.cell? ⟨g, j, none⟩ = some (.string K[j]) := (World.cell?_of_block (w := w1) hgg).trans (HCe.out j hjl)
        obtain ⟨x, hxe⟩ : ∃ x, x = K[j] := ⟨_, rfl⟩
        rw [← hxe] at hx
        have hcbw : wr.cell? ⟨bb, 0, none⟩ = some (.map (some m)) := (hLf.1.cell lbb (fun h => HR.out bb h (by simp))).trans HB.out.2.1
        have HM : Hid (BookAt wr m L) := Lib.hid (HB.out.1.keep hLf.1 (fun h => HR.out m h (by simp)))
        have hlk := Lib.hid (HL.out x (hxe ▸ List.getElem_mem hjl))
        obtain ⟨suf, hsuf⟩ : ∃ suf, (K.take j).map (getK L) ++ getK L x :: suf = K.map (getK L) := ⟨(K.drop (j+1)).map (getK L), by rw [hxe, ← List.map_cons, ← List.map_append, List.getElem_cons_drop, List.take_append_drop]⟩
        have hpre : (K.take j).map (getK L) ++ [getK L x] = (K.take (j + 1)).map (getK L) := by rw [List.take_add_one, List.map_append]; simp [hjl, hxe]
        have hRr := HY.out ((K.take j).map (getK L)) (getK L x) wr D ⟨suf, hsuf⟩ hj
        rw [hpre] at hRr
        have HRr := Lib.hid hRr
        have HLf := Lib.hid (And.intro hLf (And.intro hgg (And.intro hzz hDg)))
        have HSf := Lib.hid hsuf
        clear hRr hLf hgg hj hsuf hDg hzz HCe HL hxe
        gi_wp2_with (gi_at_lookup; refine wpListIn_look _ keS rfl _ _ 107 rfl 9 46 Tryz.underlying107 Tryz.underlying9 _ (zero46 _) m (es L) x rfl HM.out rfl ?_; rw [hlk.out])
        refine HRr.out.mono ?_
        rintro e W' (⟨rfl, D', hj', hL'⟩ | ⟨rfl, D', hj', hL'⟩)
        · have HJ' := Lib.hid (And.intro hj' hL')
          clear hj' hL' HRr
          gi_wp2
          gi_roundg (gk - 1)
          case rel =>
            obtain ⟨hL0, h1, h2, h3⟩ := HLf.out
            obtain ⟨hj', hL'⟩ := HJ'.out
            refine ⟨j + 1, D', by omega, by go_simp, Nat.le_trans h2 hL'.1.size, (hL'.1.block g (by omega) h3).trans h1, hj', hL0.trans hL', fun h => ?_⟩
            rcases hL'.2 _ h with h | h
            · exact h3 h
            · omega
          case measure => omega
        · have HJ' := Lib.hid (And.intro hj' hL')
          clear hj' hL' HRr
          gi_wp2
          refine bodyPost_ret (results_none rfl _ _ _) rfl ?_
          exact ⟨⟨_, rfl⟩, .inr ⟨_, D', ⟨suf, by rw [← hpre, List.append_assoc]; exact HSf.out⟩, HJ'.out.1, HLf.out.1.trans HJ'.out.2⟩⟩
      · have hje : j = K.length := by omega
        subst hje
        have HF := Lib.hid (And.intro hj hLf)
        clear hj hLf hgg hDg hzz
        gi_wp2
        go_end0
        exact ⟨⟨_, rfl⟩, .inl ⟨_, D, rfl, by simpa using HF.out.1, HF.out.2⟩⟩
end Go.Proofs.YtpdbmpbmepkikaaGreatDoor

namespace Go.Proofs.YtpdbmpbmepkikaaGreatDoor
open Go.RowKit
attribute [local go_sem] Oper.semAt_some

/-- The map is there; nothing that was there at w0 has changed. -/
structure ShAt (m : Nat) (L : List Reg) (w0 W : World) : Prop where
  book : BookAt W m L
  below : Below w0.heap.size w0 W
  lt : m < w0.heap.size
theorem ShAt_drew {m : Nat} {L : List Reg} {w0 W : World} : ShAt m L w0 W.drew ↔ ShAt m L w0 W := ⟨fun h => ⟨h.1.of_block rfl, ⟨h.below.os, h.below.tape, h.below.output, h.below.size, h.below.block⟩, h.lt⟩, fun h => ⟨h.1.of_block rfl, ⟨h.below.os, h.below.tape, h.below.output, h.below.size, h.below.block⟩, h.lt⟩⟩
theorem ShAt.alloc {m : Nat} {L : List Reg} {w0 W : World} (h : ShAt m L w0 W) (o : Obj) : ShAt m L w0 (W.alloc o) := ⟨h.1.alloc o, h.below.alloc h.below.size o, h.lt⟩
theorem ShAt.later {m : Nat} {L : List Reg} {w0 W W' : World} (h : ShAt m L w0 W) (hb : Below W.heap.size W W') : ShAt m L w0 W' := ⟨h.1.below hb, h.below.trans (hb.mono h.below.size), h.lt⟩
theorem ShAt.setCell {m : Nat} {L : List Reg} {w0 W : World} (h : ShAt m L w0 W) (a : Addr) (v : Value) (ha : w0.heap.size ≤ a.block) : ShAt m L w0 (W.setCell a v) :=
  ⟨h.1.of_block (Below.heap_setCell _ _ _ _ (by have := h.lt; omega)), ⟨h.below.os, h.below.tape, h.below.output, by simpa [World.setCell] using h.below.size, fun b hb => (Below.heap_setCell _ _ _ _ (by omega)).trans (h.below.block b hb)⟩, h.lt⟩

set_option maxHeartbeats 16000000 in
attribute [local simp] ShAt_drew in
theorem shown_any (m : Nat) (L : List Reg) (n : ByteArray) (w : World) (hB : BookAt w m L) (hn : n.size ≤ 4096) :
    Calls Tryz.prog 68 #[.map (some m), .string n] w fun e w' => ∃ g5 g6, e = .returned (.func (.func 120) #[] #[.pointer (some ⟨w.heap.size, 0, none⟩), .pointer (some ⟨w.heap.size + 1, 0, none⟩), .pointer (some ⟨g6, 0, none⟩), .pointer (some ⟨g5, 0, none⟩)]) ∧
      w.heap.size + 1 < g5 ∧ w.heap.size + 1 < g6 ∧ g5 ≠ g6 ∧
      w'.cell? ⟨w.heap.size, 0, none⟩ = some (.map (some m)) ∧ w'.cell? ⟨w.heap.size + 1, 0, none⟩ = some (.string n) ∧ w'.cell? ⟨g6, 0, none⟩ = some (.bool (findK L (keyOf2 n ⟨#[]⟩)).isSome) ∧
      w'.cell? ⟨g5, 2, none⟩ = some (.int .i64 ((findK L (keyOf2 n ⟨#[]⟩)).getD default).c) ∧ w'.cell? ⟨g5, 3, none⟩ = some (.int .i64 ((findK L (keyOf2 n ⟨#[]⟩)).getD default).r) ∧
      Below w.heap.size w w' := by
  have hlt := hB.lt
  obtain ⟨K, hK⟩ : ∃ K, K = keyOf2 n ⟨#[]⟩ := ⟨_, rfl⟩
  rw [← hK]
  obtain ⟨w0, hw0⟩ : ∃ w0, w0 = (w.alloc (.cells #[.map (some m)] 107)).alloc (.cells #[.string n] 9) := ⟨_, rfl⟩
  obtain ⟨a, b, c, r, v, hval, hc, hr⟩ : ∃ a b c r v, (look (es L) K).getD (.agg #[.string ⟨#[]⟩, .string ⟨#[]⟩, .int .i64 0, .int .i64 0, .string ⟨#[]⟩]) = .agg #[.string a, .string b, .int .i64 c, .int .i64 r, .string v] ∧
      c = ((findK L K).getD default).c ∧ r = ((findK L K).getD default).r := by
    rw [look_es]
    cases h : findK L K with
    | none => exact ⟨_, _, _, _, _, rfl, rfl, rfl⟩
    | some y => exact ⟨_, _, _, _, _, rfl, rfl, rfl⟩
  have hsome : (look (es L) K).isSome = (findK L K).isSome := by rw [look_es]; simp
  rw [← hc, ← hr, ← hsome]
  obtain ⟨was, hwas⟩ : ∃ was, was = (look (es L) K).isSome := ⟨_, rfl⟩
  rw [← hwas]
  have hlook : ∀ W, ShAt m L w0 W → (Instr.lookup 107 (.map (some m)) (.string K) true).run Tryz.prog W = .ok (.tuple #[.agg #[.string a, .string b, .int .i64 c, .int .i64 r, .string v], .bool was]) W := fun W hW => by
    have := run_lookup (P := Tryz.prog) (T := 107) keS Tryz.underlying107 Tryz.underlying9 hW.1 (zero46 W) K true
    rw [hval, ← hwas] at this
    exact this
  have h0 : ShAt m L w0 w0 := by rw [hw0]; exact ⟨(hB.alloc _).alloc _, Below.refl _ _, by simp; omega⟩
  have hc0 : w0.cell? ⟨w.heap.size, 0, none⟩ = some (.map (some m)) := by rw [hw0]; go_simp
  have hc1 : w0.cell? ⟨w.heap.size + 1, 0, none⟩ = some (.string n) := by rw [hw0]; go_simp
  have hz0 : w0.heap.size = w.heap.size + 2 := by rw [hw0]; simp
  have hn0 : ∀ W, ShAt m L w0 W → W.cell? ⟨w.heap.size, 0, none⟩ = some (.map (some m)) := fun W hW => (hW.below.cell (p := ⟨_, _, none⟩) (by simp only; omega)).trans hc0
  have hn1 : ∀ W, ShAt m L w0 W → W.cell? ⟨w.heap.size + 1, 0, none⟩ = some (.string n) := fun W hW => (hW.below.cell (p := ⟨_, _, none⟩) (by simp only; omega)).trans hc1
  have hkey : ∀ W, ShAt m L w0 W → Calls Tryz.prog 119 #[.agg #[.string n, .string ⟨#[]⟩, .int .i64 0, .int .i64 0, .string ⟨#[]⟩]] W fun e W' => e = .returned (.string K) ∧ ShAt m L w0 W' ∧ (∀ b o, b < W.heap.size → W'.cell? ⟨b, o, none⟩ = W.cell? ⟨b, o, none⟩) ∧ (∀ b o, b < W.heap.size → W'.frozen? ⟨b, o, none⟩ = W.frozen? ⟨b, o, none⟩) ∧ (∀ b, b < W.heap.size → b < W'.heap.size) ∧ w0.heap.size ≤ W'.heap.size := fun W hW =>
    (key_any n ⟨#[]⟩ ⟨#[]⟩ 0 0 W hn (by decide)).mono fun e W' h => ⟨hK ▸ h.1, hW.later h.2, (bcell h.2).1, (bcell h.2).2, fun b hb => Nat.lt_of_lt_of_le hb h.2.size, (hW.later h.2).below.size⟩
  have HKey := Lib.hid hkey
  have HW := Lib.hid (And.intro hz0 (show Below w.heap.size w w0 by rw [hw0]; exact ((Below.refl _ _).alloc (Nat.le_refl _) _).alloc (by simp) _))
  go_enter Tryz.func68, Tryz.ntmps68
  go_wp2
  rw [← hw0]
  clear hkey hK hval hc hr hsome hwas hw0 hB hz0 hc0 hc1 hn hlt
  go_region_held3 (fun W => ShAt m L w0 W)
    (with_reducible (((try rw [ShAt_drew]); (repeat (first | assumption | refine ShAt.alloc ?_ _ | (refine ShAt.setCell ?_ _ _ (by first | exact Nat.le_refl _ | assumption | (simp only [World.size_alloc]; omega))))))))
    ((first
      | (go_at_call 119; refine Calls.mono (HKey.out _ ?hw) ?_; (case hw => with_reducible (first | assumption | (rw [ShAt_drew]; first | assumption | exact ShAt.alloc (by assumption) _ | exact ShAt.alloc (ShAt.alloc (by assumption) _) _))); rintro e w' ⟨rfl, hl, hq, hqf, hqz, hz⟩)))
  all_goals
    rename_i hHeld
    obtain ⟨wf, hHf, hwf⟩ : ∃ wf, ShAt m L w0 wf ∧ wf = _ := ⟨_, hHeld, rfl⟩
    rw [← hwf]
    have hz0 := HW.out.1
    have hN0 := Lib.hid (hn0 _ hHf)
    have hN1 := Lib.hid (hn1 _ hHf)
    have hBw : Hid (Below w.heap.size w wf) := Lib.hid (HW.out.2.trans (hHf.below.mono (by rw [hz0]; omega)))
    have hq1 := Lib.hid (hqz w0.heap.size)
    have hq2 := Lib.hid (hqz (w0.heap.size + 1))
    have HWF := Lib.hid hwf
    have HQ := Lib.hid (And.intro hq hqf)
    clear hn0 hn1 hlook HKey h0 hHeld hqz hwf hq hqf
    go_wp2
    go_ret
    refine ⟨_, _, rfl, ?_, ?_, ?_, hN0.out, hN1.out, ?_, ?_, ?_, hBw.out⟩
    · have q1 := hq1.out; have q2 := hq2.out; clear hq1 hq2 HQ hN0 hN1 hBw HWF; simp only [World.size_alloc, World.heap_drewN, heap_drew] at q1 q2; omega
    · have q1 := hq1.out; have q2 := hq2.out; clear hq1 hq2 HQ hN0 hN1 hBw HWF; simp only [World.size_alloc, World.heap_drewN, heap_drew] at q1 q2; omega
    · have q1 := hq1.out; have q2 := hq2.out; clear hq1 hq2 HQ hN0 hN1 hBw HWF; simp only [World.size_alloc, World.heap_drewN, heap_drew] at q1 q2; omega
    · have q := HWF.out; obtain ⟨hq, hqf⟩ := HQ.out; have q1 := hq1.out; simp only [World.size_alloc, heap_drew] at q1; clear HQ hN0 hN1 hBw HWF hHf HW; rw [q]; first | (go_simp; done) | (have q2 := q1 (by omega); rw [World.cell?_alloc_lt _ _ _ (by simp [World.setCell]; omega)]; go_simp)
    · have q := HWF.out; obtain ⟨hq, hqf⟩ := HQ.out; have q1 := hq1.out; simp only [World.size_alloc, heap_drew] at q1; clear HQ hN0 hN1 hBw HWF hHf HW; rw [q]; first | (go_simp; done) | (have q2 := q1 (by omega); rw [World.cell?_alloc_lt _ _ _ (by simp [World.setCell]; omega)]; go_simp)
    · have q := HWF.out; obtain ⟨hq, hqf⟩ := HQ.out; have q1 := hq1.out; simp only [World.size_alloc, heap_drew] at q1; clear HQ hN0 hN1 hBw HWF hHf HW; rw [q]; first | (go_simp; done) | (have q2 := q1 (by omega); rw [World.cell?_alloc_lt _ _ _ (by simp [World.setCell]; omega)]; go_simp)
end Go.Proofs.YtpdbmpbmepkikaaGreatDoor

namespace Go.Proofs.YtpdbmpbmepkikaaGreatDoor

abbrev bl (s : ByteArray) : List UInt8 := s.data.toList
theorem bl_append (a b : ByteArray) : bl (a ++ b) = bl a ++ bl b := by simp [bl]
theorem bl_inj {a b : ByteArray} (h : bl a = bl b) : a = b := by
  obtain ⟨a⟩ := a; obtain ⟨b⟩ := b
  simp only [bl] at h
  rw [Array.toList_inj.1 h]
theorem toList_bl (s : ByteArray) : s.toList = bl s :=
  Lib.toList_data s

theorem bytesLess_lt : ∀ a b : List UInt8, Op.bytesLess a b = decide (a < b)
  | a, [] => by cases a <;> simp [Op.bytesLess]
  | [], b :: l => by simp [Op.bytesLess]
  | a :: l, b :: l' => by
    rw [Op.bytesLess, bytesLess_lt l l', Bool.eq_iff_iff]
    simp [List.cons_lt_cons_iff]

def ltB (a b : ByteArray) : Bool := decide (bl a < bl b)
theorem gtB_lt (a b : ByteArray) : gtB a b = ltB b a := by
  unfold gtB ltB
  rw [toList_bl, toList_bl, bytesLess_lt, Bool.eq_iff_iff]
  simp only [Bool.not_eq_true', Bool.or_eq_false_iff, decide_eq_false_iff_not, beq_eq_false_iff_ne, decide_eq_true_eq]
  constructor
  · rintro ⟨h1, h2⟩
    by_cases h : bl b < bl a
    · exact h
    · exact absurd (List.le_antisymm (List.not_lt.1 h) (List.not_lt.1 h1)) h2
  · exact fun h => ⟨fun h' => List.lt_irrefl _ (List.lt_trans h h'), fun e => List.lt_irrefl (bl a) (e ▸ h)⟩

def letter (b : UInt8) : Bool := decide (97 ≤ b) && decide (b ≤ 122)
/-- Small letters alone. -/
def letters (s : ByteArray) : Bool := (bl s).all letter

/-- A register as it may be in a book. -/
structure Good (x : Reg) : Prop where
  name : letters x.name = true
  name0 : x.name.size ≠ 0
  name8 : x.name.size ≤ 8
  field : letters x.field = true
  field4 : x.field.size ≤ 4
  value : x.value.size ≤ 20

/-- In the order of the document. -/
def ahead (a b : Reg) : Bool := if a.name = b.name then ltB a.field b.field else ltB a.name b.name

theorem lt_mark {c : UInt8} {n n' r r' : List UInt8} (hn : ∀ b ∈ n, c < b) (hn' : ∀ b ∈ n', c < b) : (n ++ c :: r < n' ++ c :: r') ↔ if n = n' then r < r' else n < n' := by
  induction n generalizing n' with
  | nil =>
    cases n' with
    | nil => simp [List.cons_lt_cons_iff]
    | cons b l =>
      have := hn' b (by simp)
      simp [List.cons_lt_cons_iff, this]
  | cons a l ih =>
    have ha := hn a (by simp)
    cases n' with
    | nil =>
      have h1 : ¬ a < c := fun h => by rw [UInt8.lt_iff_toNat_lt] at *; omega
      have h2 : ¬ a = c := fun h => by subst h; rw [UInt8.lt_iff_toNat_lt] at *; omega
      simp [List.cons_lt_cons_iff, h1, h2]
    | cons b l' =>
      have := ih (n' := l') (fun b hb => hn b (by simp [hb])) (fun b hb => hn' b (by simp [hb]))
      simp only [List.cons_append, List.cons_lt_cons_iff, List.cons.injEq]
      by_cases hab : a = b
      · subst hab
        simp only [true_and, this]
        have : ¬ a < a := fun h => by rw [UInt8.lt_iff_toNat_lt] at *; omega
        simp only [this, false_or]
      · simp only [hab, false_and, or_false, if_false]

theorem mark_inj {c : UInt8} {n n' r r' : List UInt8} (hn : c ∉ n) (hn' : c ∉ n') (h : n ++ c :: r = n' ++ c :: r') : n = n' ∧ r = r' := by
  induction n generalizing n' with
  | nil =>
    cases n' with
    | nil => simpa using h
    | cons b l => simp at h; exact absurd h.1 (fun e => hn' (by simp [e]))
  | cons a l ih =>
    cases n' with
    | nil => simp at h; exact absurd h.1 (fun e => hn (by simp [e]))
    | cons b l' =>
      simp only [List.cons_append, List.cons.injEq] at h
      obtain ⟨e1, e2⟩ := ih (n' := l') (fun hc => hn (by simp [hc])) (fun hc => hn' (by simp [hc])) h.2
      exact ⟨by rw [h.1, e1], e2⟩

theorem letters_gt {s : ByteArray} (h : letters s = true) {c : UInt8} (hc : c < 97) : ∀ b ∈ bl s, c < b := fun b hb => by
  have := List.all_eq_true.1 h b hb
  simp only [letter, Bool.and_eq_true, decide_eq_true_eq] at this
  have := this.1
  rw [UInt8.lt_iff_toNat_lt] at *
  rw [UInt8.le_iff_toNat_le] at this
  omega
theorem letters_not {s : ByteArray} (h : letters s = true) {c : UInt8} (hc : c < 97) : c ∉ bl s := fun hb => by
  have := letters_gt h hc c hb
  rw [UInt8.lt_iff_toNat_lt] at this; omega

theorem bl_key (n f : ByteArray) : bl (keyOf2 n f) = bl n ++ 46 :: (bl f ++ 0 :: []) := by
  simp [keyOf2, bl_append]

theorem key_lt {x y : Reg} (hx : Good x) (hy : Good y) : bl x.key < bl y.key ↔ ahead x y = true := by
  unfold Reg.key ahead
  rw [bl_key, bl_key, lt_mark (letters_gt hx.name (by decide)) (letters_gt hy.name (by decide)), lt_mark (letters_gt hx.field (by decide)) (letters_gt hy.field (by decide))]
  have h0 : ¬ ([] : List UInt8) < [] := List.lt_irrefl []
  by_cases hn : x.name = y.name
  · simp only [hn, if_true, ltB, decide_eq_true_eq]
    by_cases hf : bl x.field = bl y.field
    · rw [if_pos hf, hf]
      exact ⟨fun h => absurd h h0, fun h => absurd h (List.lt_irrefl _)⟩
    · rw [if_neg hf]
  · have : ¬ bl x.name = bl y.name := fun h => hn (bl_inj h)
    simp only [hn, this, if_false, ltB, decide_eq_true_eq]
theorem key_inj2 {n f n' f' : ByteArray} (h1 : (46 : UInt8) ∉ bl n) (h2 : (46 : UInt8) ∉ bl n') (h3 : (0 : UInt8) ∉ bl f) (h4 : (0 : UInt8) ∉ bl f') (h : keyOf2 n f = keyOf2 n' f') : n = n' ∧ f = f' := by
  have := congrArg bl h
  rw [bl_key, bl_key] at this
  obtain ⟨e1, e2⟩ := mark_inj h1 h2 this
  exact ⟨bl_inj e1, bl_inj (mark_inj h3 h4 e2).1⟩
theorem key_eq {x y : Reg} (hx : Good x) (hy : Good y) : x.key = y.key ↔ x.name = y.name ∧ x.field = y.field :=
  ⟨fun h => key_inj2 (letters_not hx.name (by decide)) (letters_not hy.name (by decide)) (letters_not hx.field (by decide)) (letters_not hy.field (by decide)) h, fun h => by unfold Reg.key; rw [h.1, h.2]⟩

/-- A key that begins with a name (whatever it be) and a dot: that name's. -/
theorem key_begins {x : Reg} (hx : Good x) (n : ByteArray) : (bl n ++ [46] <+: bl x.key) ↔ x.name = n := by
  unfold Reg.key
  rw [bl_key]
  constructor
  · rintro ⟨t, ht⟩
    rw [List.append_assoc, List.singleton_append] at ht
    have h46 : (46 : UInt8) ∉ bl n := fun h => by
      obtain ⟨a, b, e⟩ := List.append_of_mem h
      -- two dots
      have hc := congrArg (List.count (46 : UInt8)) ht
      have hn0 := List.count_eq_zero.2 (letters_not hx.name (c := 46) (by decide))
      have hf0 := List.count_eq_zero.2 (letters_not hx.field (c := 46) (by decide))
      have := List.one_le_count_iff.2 h
      simp only [List.count_append, List.count_cons, hn0, hf0, List.count_nil] at hc
      generalize List.count 46 (bl n) = k at *
      generalize List.count 46 t = k' at *
      simp at hc
      omega
    exact (bl_inj (mark_inj h46 (letters_not hx.name (by decide)) ht).1).symm
  · rintro rfl
    exact ⟨_, by rw [List.append_assoc, List.singleton_append]⟩
/-- The key of a deletion. -/
theorem key_gone {x : Reg} (hx : Good x) (n : ByteArray) : x.key = keyOf2 n ⟨#[]⟩ ↔ x.name = n ∧ x.field = ⟨#[]⟩ := by
  constructor
  · intro h
    have hp : bl n ++ [46] <+: bl x.key := by rw [h, bl_key]; exact ⟨[0], by simp [bl]⟩
    have hn := (key_begins hx n).1 hp
    refine ⟨hn, ?_⟩
    subst hn
    exact (key_inj2 (letters_not hx.name (by decide)) (letters_not hx.name (by decide)) (letters_not hx.field (by decide)) (by simp [bl]) h).2
  · rintro ⟨rfl, h⟩
    unfold Reg.key; rw [h]
end Go.Proofs.YtpdbmpbmepkikaaGreatDoor
