/- LawQ: The law's asks, of books and of digests: the program's are the document's. Conditions: at most 100000 registers and replicas.
   LawG: The law's step, of Put. Conditions: at most 100000 registers and replicas; short texts.
   LawH: The law's step, of Delete. Conditions: at most 100000 registers and replicas; short texts.
   LawI: The law's step, of New. Conditions: at most 90000 replicas.
   SavR: The law's saves, a replica saved and loaded whole: one replica more, the program's beside the document's. Conditions: at most 50000 registers and replicas. -/
import Derived.Test.YtpdbmpbmepkikaaGreatDoorS09
import Derived.Test.YtpdbmpbmepkikaaGreatDoorS11
import Derived.Test.YtpdbmpbmepkikaaGreatDoorS08
set_option linter.all false
set_option linter.unusedSimpArgs false
set_option linter.unusedVariables false

namespace Go.Proofs.YtpdbmpbmepkikaaGreatDoor
open Go.RowKit

set_option maxHeartbeats 2000000 in
set_option maxRecDepth 100000 in
theorem asks6_any (N K x pw : Nat) (pv qv : Value) (os : List One) (i : Nat) (o : One) (a b c : Int) (s t u : ByteArray) (w : World) (hK : K ≤ 100000) (hos : os.length ≤ 100000) (h : LawAt N K w x pw pv qv os) (ho : Who os i o) :
    Calls Tryz.prog 49 #[.pointer (some ⟨x, 0, none⟩), .agg #[.int .i64 6, .int .i64 a, .int .i64 b, .int .i64 c, .string s, .string t, .string u], .int .i64 i] w fun e w' => e = .returned (.bool true) ∧ Below w.heap.size w w' := by
  obtain ⟨g, cap, hqv, hg, hci⟩ := h.cell ho.lt
  rw [ho.get] at hci
  subst hqv
  have hlt := ho.lt
  obtain ⟨cs, hcs⟩ : ∃ cs : Array Value, cs = #[.int .i64 6, .int .i64 a, .int .i64 b, .int .i64 c, .string s, .string t, .string u] := ⟨_, rfl⟩
  obtain ⟨w1, hw1⟩ : ∃ w1, w1 = w.alloc (.cells cs 102) := ⟨_, rfl⟩
  have hA1 : AskAt N K x pw pv (.slice (some ⟨g, 0, none⟩) os.length cap) os w.heap.size cs w w1 := hw1 ▸ AskAt.new h cs
  have C1 := Lib.hid (told_any N K x pw pv (.slice (some ⟨g, 0, none⟩) os.length cap) os i o w1 hK hos hA1.law ho)
  have hx1 : w.cell? ⟨x, 1, none⟩ = some (.slice (some ⟨g, 0, none⟩) os.length cap) := Joins.cell_of_block h.box 1
  have hxl := h.xlt
  have hql := (h.ones o ho.mem).qlt
  have hii : (i : Int) < (os.length : Int) := by omega
  have HA := Lib.hid hA1
  rw [hcs] at hw1
  have HB1 := Lib.hid hw1
  clear h hcs hw1 hlt hA1
  go_enter Tryz.func49, Tryz.ntmps49
  go_wp2_with (rw [← HB1.out]; go_at_call 80; go_must (refine C1.out.mono ?_); rintro e w2 ⟨v, rfl, hl2, hb2⟩; have HL2 := Lib.hid (And.intro hl2 hb2); clear hl2 hb2; refine Halt.of ?_)
  have hA2 : AskAt N K x pw pv (.slice (some ⟨g, 0, none⟩) os.length cap) os w.heap.size cs w w2 := HA.out.later HL2.out.2
  have z1 : w2.cell? ⟨o.q, 1, none⟩ = some o.lv := hA2.q1 ho
  have HC := Lib.hid (sameBook_any v o.lv o.l w2 HL2.out.1 (hA2.law.ones o ho.mem).list (by have := (hA2.law.small hK ho).1; omega))
  have HO := Lib.hid hA2.below
  clear hA2 HL2 HA hK hos C1 HB1 ho hci hx1 hii
  unfold Halt
  go_wp2_with (go_at_call 81; go_must (refine HC.out.mono ?_); rintro e w5 ⟨rfl, hb5⟩; have HB5 := Lib.hid hb5; clear hb5; refine Halt.of ?_)
  unfold Halt
  go_wp2
  go_ret
  exact ⟨rfl, HO.out.trans (HB5.out.mono HO.out.size)⟩

theorem Good.fit {x : Reg} (h : Good x) {K : Nat} (hK : K ≤ 100000) (hc : 0 ≤ x.c ∧ x.c ≤ K ∧ I64 x.r) : Fit x := by
  obtain ⟨h1, h2, h3⟩ := hc
  refine ⟨?_, ?_, ?_, ?_, h3⟩
  · have := h.name8; omega
  · have := h.field4; omega
  · have := h.value; omega
  · constructor <;> omega

set_option maxHeartbeats 2000000 in
set_option maxRecDepth 100000 in
theorem asks7_any (N K x pw : Nat) (pv qv : Value) (os : List One) (i : Nat) (o : One) (a b c : Int) (s t u : ByteArray) (w : World) (hK : K ≤ 100000) (hos : os.length ≤ 100000) (h : LawAt N K w x pw pv qv os) (ho : Who os i o) (ht : Tab w) :
    Calls Tryz.prog 49 #[.pointer (some ⟨x, 0, none⟩), .agg #[.int .i64 7, .int .i64 a, .int .i64 b, .int .i64 c, .string s, .string t, .string u], .int .i64 i] w fun e w' => e = .returned (.bool true) ∧ Below w.heap.size w w' := by
  obtain ⟨g, cap, hqv, hg, hci⟩ := h.cell ho.lt
  rw [ho.get] at hci
  subst hqv
  have hlt := ho.lt
  obtain ⟨cs, hcs⟩ : ∃ cs : Array Value, cs = #[.int .i64 7, .int .i64 a, .int .i64 b, .int .i64 c, .string s, .string t, .string u] := ⟨_, rfl⟩
  obtain ⟨dg, hdg⟩ : ∃ dg, dg = hashL (o.l.filter fun x => preB s x.key) := ⟨_, rfl⟩
  have hFl : ∀ y ∈ o.l, Fit y := fun y hy => ((h.ones o ho.mem).bk.good y hy).fit hK ((h.ones o ho.mem).cnt y hy)
  have hFL : ∀ y ∈ o.L, Fit y := fun y hy => hFl y ((h.ones o ho.mem).bk.perm.subset hy)
  have C1 : Hid (∀ W, AskAt N K x pw pv (.slice (some ⟨g, 0, none⟩) os.length cap) os w.heap.size cs w W → Calls Tryz.prog 20 #[.pointer (some ⟨pw, 0, none⟩), .int .i64 i, .string s] W fun e W' => e = .returned (.string (digStr dg)) ∧ AskAt N K x pw pv (.slice (some ⟨g, 0, none⟩) os.length cap) os w.heap.size cs w W') :=
    Lib.hid fun W hW => by
      have h1 := hW.law.ones o ho.mem
      have hp : (os.map (·.p))[i]'(by simpa using ho.lt) = o.p := by simp [ho.get]
      have := digestW_any pw pv (os.map (·.p)) i (by simpa using ho.lt) o.id o.m o.g o.L s W hW.law.wld (by simp; omega) (by rw [hp]; exact h1.rep) h1.book (by have := (hW.law.small hK ho).2; omega) (ht.below hW.below (Nat.le_refl _)) hFL
      rw [h1.bk.below, ← hdg] at this
      exact this.mono fun e W' h => ⟨h.1, hW.later h.2⟩
  have C2 : Hid (∀ W, AskAt N K x pw pv (.slice (some ⟨g, 0, none⟩) os.length cap) os w.heap.size cs w W → Calls Tryz.prog 82 #[o.lv, .string s] W fun e W' => e = .returned (.string (linesB o.l s)) ∧ AskAt N K x pw pv (.slice (some ⟨g, 0, none⟩) os.length cap) os w.heap.size cs w W') :=
    Lib.hid fun W hW => (linesD_any o.l o.lv s W (hW.law.ones o ho.mem).list (by have := (hW.law.small hK ho).1; omega) hFl).mono fun e W' h => ⟨h.1, hW.later h.2⟩
  have hsz : (linesB o.l s).size ≤ 1099511627776 := by
    have := linesB_size s hFl o.l.length (Nat.le_refl _)
    rw [List.take_length] at this
    have := (h.small hK ho).1
    omega
  have hhb : hashB 14695981039346656037 (linesB o.l s) = dg := by rw [hashB_lines, hdg]
  obtain ⟨ln, hln⟩ : ∃ ln, ln = linesB o.l s := ⟨_, rfl⟩
  rw [← hln] at hsz hhb C2
  obtain ⟨w1, hw1⟩ : ∃ w1, w1 = w.alloc (.cells cs 102) := ⟨_, rfl⟩
  have hA1 : AskAt N K x pw pv (.slice (some ⟨g, 0, none⟩) os.length cap) os w.heap.size cs w w1 := hw1 ▸ AskAt.new h cs
  have y0 : ∀ W, AskAt N K x pw pv (.slice (some ⟨g, 0, none⟩) os.length cap) os w.heap.size cs w W → W.cell? ⟨x, 0, none⟩ = some (.pointer (some ⟨pw, 0, none⟩)) := fun W hW => hW.x0
  have y4 : ∀ W, AskAt N K x pw pv (.slice (some ⟨g, 0, none⟩) os.length cap) os w.heap.size cs w W → W.cell? ⟨w.heap.size, 4, none⟩ = some (.string s) := fun W hW => (hW.bc 4).trans (by rw [hcs]; rfl)
  have z1 : ∀ W, AskAt N K x pw pv (.slice (some ⟨g, 0, none⟩) os.length cap) os w.heap.size cs w W → W.cell? ⟨o.q, 1, none⟩ = some o.lv := fun W hW => hW.q1 ho
  have hx1 : w.cell? ⟨x, 1, none⟩ = some (.slice (some ⟨g, 0, none⟩) os.length cap) := Joins.cell_of_block h.box 1
  have hxl := h.xlt
  have hii : (i : Int) < (os.length : Int) := by omega
  rw [hcs] at hw1
  have HB1 := Lib.hid hw1
  have HZ1 := Lib.hid z1
  clear h hcs hw1 hlt ht hFl hFL hdg hln z1
  go_enter Tryz.func49, Tryz.ntmps49
  go_wp2
  rw [← HB1.out]
  go_region_held3 (fun W => AskAt N K x pw pv (.slice (some ⟨g, 0, none⟩) os.length cap) os w.heap.size cs w W) (with_reducible (first | assumption | (rw [AskAt_drew]; assumption)))
    ((first | (go_at_call 20; refine Calls.mono (C1.out _ ?hw1) ?_; (case hw1 => with_reducible (first | assumption | (rw [AskAt_drew]; assumption))); rintro e w2 ⟨rfl, hA2⟩)))
  have z1 := HZ1.out
  clear y0 hx1 hci HB1 hA1 HZ1 C1 hii hxl hg
  go_wp2
  go_region_held3 (fun W => AskAt N K x pw pv (.slice (some ⟨g, 0, none⟩) os.length cap) os w.heap.size cs w W) (with_reducible (first | assumption | (rw [AskAt_drew]; assumption)))
    ((first | (go_at_call 82; refine Calls.mono (C2.out _ ?hw1) ?_; (case hw1 => with_reducible (first | assumption | (rw [AskAt_drew]; assumption))); rintro e w3 ⟨rfl, hA3⟩)))
  have HC := Lib.hid (hashD_any ln w3 hsz)
  rw [hhb] at HC
  have HO := Lib.hid hA3.below
  clear hA2 hA3 z1 y4 C2 ho hK hos hhb hsz
  go_wp2_with (go_at_call 83; go_must (refine HC.out.mono ?_); rintro e w5 ⟨rfl, hb5⟩; have HB5 := Lib.hid hb5; clear hb5; refine Halt.of ?_)
  unfold Halt
  go_wp2
  go_ret
  exact ⟨rfl, HO.out.trans (HB5.out.mono HO.out.size)⟩
end Go.Proofs.YtpdbmpbmepkikaaGreatDoor

namespace Go.Proofs.YtpdbmpbmepkikaaGreatDoor
open Go.RowKit

/-- Of the world w1 only the book m may have changed. -/
def KeepM (m : Nat) (w1 W : World) : Prop := Keep (fun b => b = m) w1 W
theorem KeepM_drew {m : Nat} {w1 W : World} : KeepM m w1 W.drew ↔ KeepM m w1 W := ⟨fun h => ⟨h.os, h.tape, h.output, h.size, h.block⟩, fun h => ⟨h.os, h.tape, h.output, h.size, h.block⟩⟩
theorem KeepM.alloc {m : Nat} {w1 W : World} (h : KeepM m w1 W) (o : Obj) : KeepM m w1 (W.alloc o) := Keep.trans h (Keep.alloc _ _ _)
theorem KeepM.set {m : Nat} {w1 W : World} (h : KeepM m w1 W) {a : Addr} (ha : w1.heap.size ≤ a.block) (v : Value) : KeepM m w1 (W.setCell a v) :=
  ⟨h.os, h.tape, h.output, by simpa [World.setCell] using h.size, fun k hk hn => (Below.heap_setCell _ _ _ _ (by omega)).trans (h.block k hk hn)⟩

/-- Behind the program's edit: what it has said lies in block nb. -/
structure PutF (m : Nat) (L' : List Reg) (k : Int) (what : ByteArray) (w3 w5 : World) (nb : Nat) : Prop where
  keep : KeepM m w3 w5
  book : BookAt w5 m L'
  c0 : w5.cell? ⟨nb, 0, none⟩ = some (.int .i64 k)
  c1 : w5.cell? ⟨nb, 1, none⟩ = some (.string what)
  ge : w3.heap.size ≤ nb
theorem PutF.late {m : Nat} {L' : List Reg} {k : Int} {what : ByteArray} {w3 w4 : World} (h : KeepM m w3 w4) (hB : BookAt w4 m L') : PutF m L' k what w3 (w4.alloc (.cells #[.int .i64 k, .string what] 49)) w4.heap.size :=
  ⟨h.alloc _, hB.alloc _, Joins.cell_of_block (World.alloc_heap_new w4 _) 0, Joins.cell_of_block (World.alloc_heap_new w4 _) 1, h.size⟩
theorem PutF.early {m : Nat} {L' : List Reg} {k : Int} {what : ByteArray} {w3 w4 : World} (h : KeepM m w3 w4) (hB : BookAt w4 m L') (hm : m < w3.heap.size) {k0 : Int} {s0 : ByteArray} (g0 : w4.cell? ⟨w3.heap.size, 0, none⟩ = some (.int .i64 k0)) (g1 : w4.cell? ⟨w3.heap.size, 1, none⟩ = some (.string s0)) :
    PutF m L' k what w3 ((w4.setCell ⟨w3.heap.size, 0, none⟩ (.int .i64 k)).setCell ⟨w3.heap.size, 1, none⟩ (.string what)) w3.heap.size := by
  refine ⟨(h.set (Nat.le_refl _) _).set (Nat.le_refl _) _, hB.of_block ?_, by go_simp, by go_simp, Nat.le_refl _⟩
  rw [Below.heap_setCell _ _ _ _ (by show m ≠ w3.heap.size; omega), Below.heap_setCell _ _ _ _ (by show m ≠ w3.heap.size; omega)]

/-- What a step leaves. -/
def Stepped' (N K : Nat) (x pw : Nat) (w : World) (e : Ending) (w' : World) : Prop :=
  e = .returned (.bool true) ∧ ∃ pv' qv' os', LawAt N K w' x pw pv' qv' os' ∧ os'.length ≤ K ∧ Keep (fun b => N ≤ b) w w'

theorem LawAt.wrote {N K x pw : Nat} {pv qv : Value} {os : List One} {i : Nat} {o : One} {cs : Array Value} {bx : Nat} {w w3 w5 : World} {L' l' : List Reg} {k : Int} {what : ByteArray} {nb : Nat} {lv' : Value}
    (hA : AskAt N K x pw pv qv os bx cs w w3) (ho : Who os i o) (hP : PutF o.m L' k what w3 w5 nb) (hq : w5.heap[o.q]? = w3.heap[o.q]?) (hl : ListAt w3 lv' l') (hw : Wrote (K + 1) L' l') (hos : os.length ≤ K + 1) :
    Stepped' N (K + 1) x pw w (.returned (.bool true)) (w5.setCell ⟨o.q, 1, none⟩ lv') := by
  have h3 := hA.law.ones o ho.mem
  have hqm : o.q ≠ o.m := fun e => h3.book.ne_cells h3.box e
  have hk : Keep (fun b => b = o.m ∨ b = o.q) w3 (w5.setCell ⟨o.q, 1, none⟩ lv') := (hP.keep.mono (G := fun b => b = o.m ∨ b = o.q) fun _ _ h => .inl h).trans (Keep.setCell _ _ _ (.inr rfl))
  have hbox : (w5.setCell ⟨o.q, 1, none⟩ lv').heap[o.q]? = some (.cells #[.int .i64 o.id, lv', o.ov, o.bv] 147 (0, 0)) := by
    have := (ArrAt.mk (N := o.q) (T := 147) (W0 := w5) (W := w5) (hq.trans h3.box) (Keep.refl _ _)).set 1 lv'
    exact this.block
  have hget : os[i]'ho.lt = o := ho.get
  have hlaw := (hA.law.more (Nat.le_succ K)).edit (w' := w5.setCell ⟨o.q, 1, none⟩ lv') (i := i) ho.lt (L' := L') (l' := l') (lv' := lv') (ov' := o.ov) (bv' := o.bv) (by rw [hget]; exact hk)
    (by rw [hget]; exact hP.book.of_block (Below.heap_setCell _ _ _ _ (fun e => hqm e.symm)))
    (by rw [hget]; exact hbox)
    (hl.block fun b hb => by
      obtain ⟨cur, hcur⟩ := row_cells hl hb
      exact hk.block b (World.ownsRow.lt hl b hb).2 fun e => by
        rcases e with e | e
        · exact h3.book.ne_cells hcur e
        · exact cells_ne hcur h3.box (by decide) e) hw.bk hw.len hw.cnt
  refine ⟨rfl, pv, qv, _, hlaw, by simpa using hos, ?_⟩
  have hb : Below w.heap.size w w3 := hA.below
  exact (Keep.of_below' (F := fun b => N ≤ b) hb).trans (hk.mono fun b _ h => by
    rcases h with rfl | rfl
    · exact h3.mN
    · exact h3.qN)

set_option maxHeartbeats 2000000 in
set_option maxRecDepth 100000 in
theorem step2_any (N K x pw : Nat) (pv qv : Value) (os : List One) (a b c : Int) (s t u : ByteArray) (w : World) (hK : K ≤ 90000) (hos : os.length ≤ K) (h : LawAt N K w x pw pv qv os) (hne : 0 < os.length) (ha : I64 a)
    (hs : s.size ≤ 4096) (ht : t.size ≤ 4096) (hN : 3 < N) (hT : EType w) :
    Calls Tryz.prog 48 #[.pointer (some ⟨x, 0, none⟩), .agg #[.int .i64 2, .int .i64 a, .int .i64 b, .int .i64 c, .string s, .string t, .string u]] w (Stepped' N (K + 1) x pw w) := by
  obtain ⟨i, hi⟩ : ∃ i, i = pickZ a os.length := ⟨_, rfl⟩
  have hlt : i < os.length := hi ▸ pickZ_lt hne
  obtain ⟨o, hoo⟩ : ∃ o, o = os[i] := ⟨_, rfl⟩
  have ho : Who os i o := ⟨hlt, by rw [hoo]; exact List.getElem?_eq_getElem hlt⟩
  obtain ⟨g, cap, hqv, hg, hci⟩ := h.cell hlt
  rw [← hoo] at hci
  subst hqv
  obtain ⟨cs, hcs⟩ : ∃ cs : Array Value, cs = #[.int .i64 2, .int .i64 a, .int .i64 b, .int .i64 c, .string s, .string t, .string u] := ⟨_, rfl⟩
  obtain ⟨r, hr⟩ : ∃ r, r = putD o.l o.id s t u := ⟨_, rfl⟩
  have h1 := h.ones o ho.mem
  obtain ⟨hw, hpd⟩ := h1.wrote.put h1.idr s t u
  rw [← hr] at hw hpd
  have hcl : clockL o.l < 9223372036854775807 := by
    have := clockL_le (l := o.l) (k := (K : Int)) (by omega) fun y hy => (h1.cnt y hy).2.1
    omega
  have C0 : Hid (∀ W, Calls Tryz.prog 72 #[.int .i64 a, .int .i64 os.length] W fun e W' => e = .returned (.int .i64 i) ∧ W' = W) :=
    Lib.hid fun W => by
      have hos2 : os.length ≤ 1000000 := by omega
      have := pickL_any a os.length W hne hos2 ha
      rw [← hi] at this
      exact this
  have C1 : Hid (∀ W, AskAt N K x pw pv (.slice (some ⟨g, 0, none⟩) os.length cap) os w.heap.size cs w W → Calls Tryz.prog 73 #[o.lv, .int .i64 o.id, .string s, .string t, .string u] W fun e W' => ∃ lv', e = .returned (.tuple #[lv', .int .i64 r.2.1, .string r.2.2]) ∧ AskAt N K x pw pv (.slice (some ⟨g, 0, none⟩) os.length cap) os w.heap.size cs w W' ∧ Hid (ListAt W' lv' r.1)) :=
    Lib.hid fun W hW => by
      have hlen := h1.len
      have := putD_any o.l o.lv o.id s t u W (hW.law.ones o ho.mem).list (by omega) (by omega) (by omega) hcl
      rw [← hr] at this
      exact this.mono fun e W' ⟨lv', he, hl, hb⟩ => ⟨lv', he, hW.later hb, Lib.hid hl⟩
  have y0 : ∀ W, AskAt N K x pw pv (.slice (some ⟨g, 0, none⟩) os.length cap) os w.heap.size cs w W → W.cell? ⟨x, 0, none⟩ = some (.pointer (some ⟨pw, 0, none⟩)) := fun W hW => hW.x0
  have y1 : ∀ W, AskAt N K x pw pv (.slice (some ⟨g, 0, none⟩) os.length cap) os w.heap.size cs w W → W.cell? ⟨x, 1, none⟩ = some (.slice (some ⟨g, 0, none⟩) os.length cap) := fun W hW => hW.x1
  have yb : ∀ W, AskAt N K x pw pv (.slice (some ⟨g, 0, none⟩) os.length cap) os w.heap.size cs w W → W.cell? ⟨w.heap.size, 1, none⟩ = some (.int .i64 a) := fun W hW => (hW.bc 1).trans (by rw [hcs]; rfl)
  have hx1 : w.cell? ⟨x, 1, none⟩ = some (.slice (some ⟨g, 0, none⟩) os.length cap) := Joins.cell_of_block h.box 1
  have hxl := h.xlt
  obtain ⟨w1, hw1⟩ : ∃ w1, w1 = w.alloc (.cells cs 102) := ⟨_, rfl⟩
  have hA1 : AskAt N K x pw pv (.slice (some ⟨g, 0, none⟩) os.length cap) os w.heap.size cs w w1 := hw1 ▸ AskAt.new h cs
  rw [hcs] at hw1
  have HB1 := Lib.hid hw1
  have HH := Lib.hid (And.intro hr (And.intro hw (And.intro hpd (And.intro hcs (And.intro hci hT)))))
  have hn0 : (((os.length : Int)) == 0) = false := beq_eq_false_iff_ne.2 (by omega)
  have hn1 : ¬ (os.length : Int) = 0 := by omega
  have hn2 : ¬ os.length = 0 := by omega
  clear h hcs hw1 hr hw hpd hci hT hi hoo h1 hne hcl
  go_enter Tryz.func48, Tryz.ntmps48
  go_wp2
  rw [← HB1.out]
  go_region_held3 (fun W => AskAt N K x pw pv (.slice (some ⟨g, 0, none⟩) os.length cap) os w.heap.size cs w W) (with_reducible (first | assumption | (rw [AskAt_drew]; assumption)))
    ((first | (go_at_call 72; refine Calls.mono (C0.out _) ?_; rintro e w2 ⟨rfl, hw2⟩; subst hw2)))
  rename_i hHeld
  obtain ⟨w2, hw2⟩ : ∃ w2, w2 = w1.drew := ⟨_, rfl⟩
  rw [← hw2] at hHeld ⊢
  obtain ⟨hr, hw, hpd, hcs, hci, hT⟩ := HH.out
  have u1 : w2.cell? ⟨x, 1, none⟩ = some (.slice (some ⟨g, 0, none⟩) os.length cap) := hHeld.x1
  have u2 : w2.cell? ⟨g, i, none⟩ = some (.pointer (some ⟨o.q, 0, none⟩)) := (hHeld.below.cell (p := ⟨g, i, none⟩) hg).trans hci
  have u3 : w2.cell? ⟨w.heap.size, 0, none⟩ = some (.int .i64 2) := (hHeld.bc 0).trans (by rw [hcs]; rfl)
  have hii : (i : Int) < (os.length : Int) := by omega
  have q0 : ∀ W, AskAt N K x pw pv (.slice (some ⟨g, 0, none⟩) os.length cap) os w.heap.size cs w W → W.cell? ⟨o.q, 0, none⟩ = some (.int .i64 o.id) := fun W hW => hW.q0 ho
  have q1 : ∀ W, AskAt N K x pw pv (.slice (some ⟨g, 0, none⟩) os.length cap) os w.heap.size cs w W → W.cell? ⟨o.q, 1, none⟩ = some o.lv := fun W hW => hW.q1 ho
  have b4 : ∀ W, AskAt N K x pw pv (.slice (some ⟨g, 0, none⟩) os.length cap) os w.heap.size cs w W → W.cell? ⟨w.heap.size, 4, none⟩ = some (.string s) := fun W hW => (hW.bc 4).trans (by rw [hcs]; rfl)
  have b5 : ∀ W, AskAt N K x pw pv (.slice (some ⟨g, 0, none⟩) os.length cap) os w.heap.size cs w W → W.cell? ⟨w.heap.size, 5, none⟩ = some (.string t) := fun W hW => (hW.bc 5).trans (by rw [hcs]; rfl)
  have b6 : ∀ W, AskAt N K x pw pv (.slice (some ⟨g, 0, none⟩) os.length cap) os w.heap.size cs w W → W.cell? ⟨w.heap.size, 6, none⟩ = some (.string u) := fun W hW => (hW.bc 6).trans (by rw [hcs]; rfl)
  have HB4 := Lib.hid (And.intro b4 (And.intro b5 b6))
  clear hr hw hpd hcs hci hT HB1 C0 y0 y1 yb hA1 hx1 hw2
  go_wp2
  go_region_held3 (fun W => AskAt N K x pw pv (.slice (some ⟨g, 0, none⟩) os.length cap) os w.heap.size cs w W) (with_reducible (first | assumption | (rw [AskAt_drew]; assumption)))
    ((first | (go_at_call 73; refine Calls.mono (C1.out _ ?hw1) ?_; (case hw1 => with_reducible (first | assumption | (rw [AskAt_drew]; assumption))); rintro e w3 ⟨lv', rfl, hA3, hx3⟩)))
  obtain ⟨lad, lcap, hlv⟩ : ∃ lad lcap, lv' = .slice lad r.1.length lcap := by
    rcases hx3.out.cases with ⟨h1, h2⟩ | ⟨g, cap, h1, _⟩
    · exact ⟨none, 0, by rw [h1, h2]; rfl⟩
    · exact ⟨_, _, h1⟩
  subst hlv
  obtain ⟨hr, hw, hpd, hcs, hci, hT⟩ := HH.out
  have h3 := hA3.law.ones o ho.mem
  obtain ⟨e1, e2⟩ : (putP o.L o.id s t u).2.1 = r.2.1 ∧ (putP o.L o.id s t u).2.2 = r.2.2 := ⟨by rw [hpd], by rw [hpd]⟩
  have hps : (os.map (·.p)).length ≤ 1000000 := by simp; omega
  have hpi : (os.map (·.p))[i]'(by simpa using ho.lt) = o.p := by simp [ho.get]
  have hm0 : o.m ≠ 0 := by have := h3.mN; omega
  have hcl : clockL o.L < 9223372036854775807 := by
    have h4 := h3.bk.clock
    have h5 := clockL_le (l := o.l) (k := (K : Int)) (by omega) fun y hy => (h3.cnt y hy).2.1
    omega
  have hN3 := h3.mN
  have C2 : Hid (∀ W, Below w3.heap.size w3 W → Calls Tryz.prog 26 #[.pointer (some ⟨pw, 0, none⟩), .int .i64 i, .string s, .string t, .string u] W fun e W' => e = .returned (.agg #[.int .i64 r.2.1, .string r.2.2]) ∧ KeepM o.m w3 W' ∧ Hid (BookAt W' o.m (putP o.L o.id s t u).1) ∧ (∀ k, w3.heap.size < W.heap.size → W'.cell? ⟨w3.heap.size, k, none⟩ = W.cell? ⟨w3.heap.size, k, none⟩) ∧ (∀ k, w3.heap.size < W.heap.size → W'.frozen? ⟨w3.heap.size, k, none⟩ = W.frozen? ⟨w3.heap.size, k, none⟩)) :=
    Lib.hid fun W hW => by
      have h4 := (hA3.law.below hW).ones o ho.mem
      have := putW_any pw pv (os.map (·.p)) i (by simpa using ho.lt) o.id o.m o.g o.L s t u W (hA3.law.below hW).wld hps (by rw [hpi]; exact h4.rep) h4.book hm0 ((hT.below hA3.below (Nat.le_refl _)).below hW (Nat.le_refl _)) (by omega) (by omega) hcl
      rw [e1, e2] at this
      have hml := h3.book.lt
      refine this.mono fun e W' ⟨he, hB, hk⟩ => ⟨he, (Keep.of_below' (F := fun b => b = o.m) hW).trans hk, Lib.hid hB, fun k hz => hk.cell (p := ⟨_, _, none⟩) hz (by show ¬ w3.heap.size = o.m; omega), fun k hz => hk.frozen (p := ⟨_, _, none⟩) hz (by show ¬ w3.heap.size = o.m; omega)⟩
  have nx : x ≠ o.m := fun e => h3.book.ne_cells hA3.law.box (by exact e)
  have nb : w.heap.size ≠ o.m := fun e => h3.book.ne_cells hA3.box (by exact e)
  have hx3l := hA3.law.xlt
  have hb3l := (Array.getElem?_eq_some_iff.1 hA3.box).1
  obtain ⟨b4, b5, b6⟩ := HB4.out
  have v0 : ∀ W, KeepM o.m w3 W → W.cell? ⟨x, 0, none⟩ = some (.pointer (some ⟨pw, 0, none⟩)) := fun W hW => (hW.cell (p := ⟨x, 0, none⟩) hx3l nx).trans hA3.x0
  have v4 : ∀ W, KeepM o.m w3 W → W.cell? ⟨w.heap.size, 4, none⟩ = some (.string s) := fun W hW => (hW.cell (p := ⟨w.heap.size, 4, none⟩) hb3l nb).trans (b4 _ hA3)
  have v5 : ∀ W, KeepM o.m w3 W → W.cell? ⟨w.heap.size, 5, none⟩ = some (.string t) := fun W hW => (hW.cell (p := ⟨w.heap.size, 5, none⟩) hb3l nb).trans (b5 _ hA3)
  have v6 : ∀ W, KeepM o.m w3 W → W.cell? ⟨w.heap.size, 6, none⟩ = some (.string u) := fun W hW => (hW.cell (p := ⟨w.heap.size, 6, none⟩) hb3l nb).trans (b6 _ hA3)
  have hK3 : KeepM o.m w3 w3 := Keep.refl _ _
  have hBe : Hid (Below w3.heap.size w3 w3.drew) := Lib.hid (Below.refl _ _).drew
  have HA3 := Lib.hid hA3
  clear hr hw hpd hcs hci hT h3 e1 e2 hps hpi hm0 hcl hN3 nx nb b4 b5 b6 q0 q1 u1 u2 u3 C1 hA3
  go_wp2
  go_region_held3 (fun W => KeepM o.m w3 W) (first | assumption | (rw [KeepM_drew]; assumption) | (exact KeepM.alloc (by first | assumption | (rw [KeepM_drew]; assumption)) _) | (exact KeepM.set (KeepM.set (by assumption) (by first | exact Nat.le_refl _ | exact hK4.size) _) (by first | exact Nat.le_refl _ | exact hK4.size) _))
    ((first | (go_at_call 26; refine Calls.mono (C2.out _ ?hw1) ?_; (case hw1 => first | exact hBe.out | exact (hBe.out.alloc (Nat.le_refl _) _)); rintro e w4 ⟨rfl, hK4, hB4, hc4, hf4⟩)))
  all_goals
    first
    | (obtain ⟨w5, hw5⟩ : ∃ w5, w5 = (w4.setCell ⟨w3.heap.size, 0, none⟩ (.int .i64 r.2.1)).setCell ⟨w3.heap.size, 1, none⟩ (.string r.2.2) := ⟨_, rfl⟩
       rw [← hw5]
       obtain ⟨nb, hnb⟩ : ∃ nb, nb = w3.heap.size := ⟨_, rfl⟩
       rw [← hnb]
       have HP : Hid (PutF o.m (putP o.L o.id s t u).1 r.2.1 r.2.2 w3 w5 nb) := Lib.hid (by
         rw [hw5, hnb]; exact PutF.early (k0 := 0) (s0 := ⟨#[]⟩) hK4 hB4.out (HA3.out.law.ones o ho.mem).book.lt ((hc4 0 (by simp)).trans (by go_simp)) ((hc4 1 (by simp)).trans (by go_simp)))
       clear hw5 hnb)
    | (obtain ⟨w5, hw5⟩ : ∃ w5, w5 = w4.alloc (.cells #[.int .i64 r.2.1, .string r.2.2] 49) := ⟨_, rfl⟩
       rw [← hw5]
       obtain ⟨nb, hnb⟩ : ∃ nb, nb = w4.heap.size := ⟨_, rfl⟩
       rw [← hnb]
       have HP : Hid (PutF o.m (putP o.L o.id s t u).1 r.2.1 r.2.2 w3 w5 nb) := Lib.hid (by
         rw [hw5, hnb]; exact PutF.late hK4 hB4.out)
       clear hw5 hnb)
  all_goals
    have hA3 := HA3.out
    have hP := HP.out
    have h3 := hA3.law.ones o ho.mem
    have hql := h3.qlt
    have nq : o.q ≠ nb := by have := hP.ge; omega
    have nq2 : nb ≠ o.q := fun e => nq e.symm
    have nqm : o.q ≠ o.m := fun e => h3.book.ne_cells h3.box e
    have hq5 : w5.heap[o.q]? = w3.heap[o.q]? := hP.keep.block _ hql nqm
    have f2 : w5.cell? ⟨o.q, 1, none⟩ = some o.lv := Joins.cell_of_block (hq5.trans h3.box) 1
    have f3 : w5.frozen? ⟨o.q, 1, none⟩ = false := Joins.unfrozen_of_block (hq5.trans h3.box) 1
    have f0 := hP.c0
    have f1 := hP.c1
    have HQ := Lib.hid (And.intro hq5 hx3)
    clear hA3 h3 hq5 hc4 hf4 hK4 hB4 hx3 C2 v0 v4 v5 v6 hK3 hBe nqm hP
    go_wp2
    go_ret
    refine LawAt.wrote HA3.out ho HP.out HQ.out.1 HQ.out.2.out HH.out.2.1 (by omega)
end Go.Proofs.YtpdbmpbmepkikaaGreatDoor

namespace Go.Proofs.YtpdbmpbmepkikaaGreatDoor
open Go.RowKit

set_option maxHeartbeats 2000000 in
set_option maxRecDepth 100000 in
theorem step3_any (N K x pw : Nat) (pv qv : Value) (os : List One) (a b c : Int) (s t u : ByteArray) (w : World) (hK : K ≤ 90000) (hos : os.length ≤ K) (h : LawAt N K w x pw pv qv os) (hne : 0 < os.length) (ha : I64 a)
    (hs : s.size ≤ 4096) (hN : 3 < N) (hT : EType w) :
    Calls Tryz.prog 48 #[.pointer (some ⟨x, 0, none⟩), .agg #[.int .i64 3, .int .i64 a, .int .i64 b, .int .i64 c, .string s, .string t, .string u]] w (Stepped' N (K + 1) x pw w) := by
  obtain ⟨i, hi⟩ : ∃ i, i = pickZ a os.length := ⟨_, rfl⟩
  have hlt : i < os.length := hi ▸ pickZ_lt hne
  obtain ⟨o, hoo⟩ : ∃ o, o = os[i] := ⟨_, rfl⟩
  have ho : Who os i o := ⟨hlt, by rw [hoo]; exact List.getElem?_eq_getElem hlt⟩
  obtain ⟨g, cap, hqv, hg, hci⟩ := h.cell hlt
  rw [← hoo] at hci
  subst hqv
  obtain ⟨cs, hcs⟩ : ∃ cs : Array Value, cs = #[.int .i64 3, .int .i64 a, .int .i64 b, .int .i64 c, .string s, .string t, .string u] := ⟨_, rfl⟩
  obtain ⟨r, hr⟩ : ∃ r, r = deleteD o.l o.id s := ⟨_, rfl⟩
  have h1 := h.ones o ho.mem
  obtain ⟨hw, hpd⟩ := h1.wrote.delete h1.idr s
  rw [← hr] at hw hpd
  have hcl : clockL o.l < 9223372036854775807 := by
    have := clockL_le (l := o.l) (k := (K : Int)) (by omega) fun y hy => (h1.cnt y hy).2.1
    omega
  have C0 : Hid (∀ W, Calls Tryz.prog 72 #[.int .i64 a, .int .i64 os.length] W fun e W' => e = .returned (.int .i64 i) ∧ W' = W) :=
    Lib.hid fun W => by
      have hos2 : os.length ≤ 1000000 := by omega
      have := pickL_any a os.length W hne hos2 ha
      rw [← hi] at this
      exact this
  have C1 : Hid (∀ W, AskAt N K x pw pv (.slice (some ⟨g, 0, none⟩) os.length cap) os w.heap.size cs w W → Calls Tryz.prog 74 #[o.lv, .int .i64 o.id, .string s] W fun e W' => ∃ lv', e = .returned (.tuple #[lv', .int .i64 r.2.1, .string r.2.2]) ∧ AskAt N K x pw pv (.slice (some ⟨g, 0, none⟩) os.length cap) os w.heap.size cs w W' ∧ Hid (ListAt W' lv' r.1)) :=
    Lib.hid fun W hW => by
      have hlen := h1.len
      have := deleteD_any o.l o.lv o.id s W (hW.law.ones o ho.mem).list (by omega) (by omega) hcl
      rw [← hr] at this
      exact this.mono fun e W' ⟨lv', he, hl, hb⟩ => ⟨lv', he, hW.later hb, Lib.hid hl⟩
  have y0 : ∀ W, AskAt N K x pw pv (.slice (some ⟨g, 0, none⟩) os.length cap) os w.heap.size cs w W → W.cell? ⟨x, 0, none⟩ = some (.pointer (some ⟨pw, 0, none⟩)) := fun W hW => hW.x0
  have y1 : ∀ W, AskAt N K x pw pv (.slice (some ⟨g, 0, none⟩) os.length cap) os w.heap.size cs w W → W.cell? ⟨x, 1, none⟩ = some (.slice (some ⟨g, 0, none⟩) os.length cap) := fun W hW => hW.x1
  have yb : ∀ W, AskAt N K x pw pv (.slice (some ⟨g, 0, none⟩) os.length cap) os w.heap.size cs w W → W.cell? ⟨w.heap.size, 1, none⟩ = some (.int .i64 a) := fun W hW => (hW.bc 1).trans (by rw [hcs]; rfl)
  have hx1 : w.cell? ⟨x, 1, none⟩ = some (.slice (some ⟨g, 0, none⟩) os.length cap) := Joins.cell_of_block h.box 1
  have hxl := h.xlt
  obtain ⟨w1, hw1⟩ : ∃ w1, w1 = w.alloc (.cells cs 102) := ⟨_, rfl⟩
  have hA1 : AskAt N K x pw pv (.slice (some ⟨g, 0, none⟩) os.length cap) os w.heap.size cs w w1 := hw1 ▸ AskAt.new h cs
  rw [hcs] at hw1
  have HB1 := Lib.hid hw1
  have HH := Lib.hid (And.intro hr (And.intro hw (And.intro hpd (And.intro hcs (And.intro hci hT)))))
  have hn0 : (((os.length : Int)) == 0) = false := beq_eq_false_iff_ne.2 (by omega)
  have hn1 : ¬ (os.length : Int) = 0 := by omega
  have hn2 : ¬ os.length = 0 := by omega
  clear h hcs hw1 hr hw hpd hci hT hi hoo h1 hne hcl
  go_enter Tryz.func48, Tryz.ntmps48
  go_wp2
  rw [← HB1.out]
  go_region_held3 (fun W => AskAt N K x pw pv (.slice (some ⟨g, 0, none⟩) os.length cap) os w.heap.size cs w W) (with_reducible (first | assumption | (rw [AskAt_drew]; assumption)))
    ((first | (go_at_call 72; refine Calls.mono (C0.out _) ?_; rintro e w2 ⟨rfl, hw2⟩; subst hw2)))
  rename_i hHeld
  obtain ⟨w2, hw2⟩ : ∃ w2, w2 = w1.drew := ⟨_, rfl⟩
  rw [← hw2] at hHeld ⊢
  obtain ⟨hr, hw, hpd, hcs, hci, hT⟩ := HH.out
  have u1 : w2.cell? ⟨x, 1, none⟩ = some (.slice (some ⟨g, 0, none⟩) os.length cap) := hHeld.x1
  have u2 : w2.cell? ⟨g, i, none⟩ = some (.pointer (some ⟨o.q, 0, none⟩)) := (hHeld.below.cell (p := ⟨g, i, none⟩) hg).trans hci
  have u3 : w2.cell? ⟨w.heap.size, 0, none⟩ = some (.int .i64 3) := (hHeld.bc 0).trans (by rw [hcs]; rfl)
  have hii : (i : Int) < (os.length : Int) := by omega
  have q0 : ∀ W, AskAt N K x pw pv (.slice (some ⟨g, 0, none⟩) os.length cap) os w.heap.size cs w W → W.cell? ⟨o.q, 0, none⟩ = some (.int .i64 o.id) := fun W hW => hW.q0 ho
  have q1 : ∀ W, AskAt N K x pw pv (.slice (some ⟨g, 0, none⟩) os.length cap) os w.heap.size cs w W → W.cell? ⟨o.q, 1, none⟩ = some o.lv := fun W hW => hW.q1 ho
  have b4 : ∀ W, AskAt N K x pw pv (.slice (some ⟨g, 0, none⟩) os.length cap) os w.heap.size cs w W → W.cell? ⟨w.heap.size, 4, none⟩ = some (.string s) := fun W hW => (hW.bc 4).trans (by rw [hcs]; rfl)
  have HB4 := Lib.hid b4
  clear hr hw hpd hcs hci hT HB1 C0 y0 y1 yb hA1 hx1 hw2
  go_wp2
  go_region_held3 (fun W => AskAt N K x pw pv (.slice (some ⟨g, 0, none⟩) os.length cap) os w.heap.size cs w W) (with_reducible (first | assumption | (rw [AskAt_drew]; assumption)))
    ((first | (go_at_call 74; refine Calls.mono (C1.out _ ?hw1) ?_; (case hw1 => with_reducible (first | assumption | (rw [AskAt_drew]; assumption))); rintro e w3 ⟨lv', rfl, hA3, hx3⟩)))
  obtain ⟨lad, lcap, hlv⟩ : ∃ lad lcap, lv' = .slice lad r.1.length lcap := by
    rcases hx3.out.cases with ⟨h1, h2⟩ | ⟨g, cap, h1, _⟩
    · exact ⟨none, 0, by rw [h1, h2]; rfl⟩
    · exact ⟨_, _, h1⟩
  subst hlv
  obtain ⟨hr, hw, hpd, hcs, hci, hT⟩ := HH.out
  have h3 := hA3.law.ones o ho.mem
  obtain ⟨e1, e2⟩ : (deleteP o.L o.id s).2.1 = r.2.1 ∧ (deleteP o.L o.id s).2.2 = r.2.2 := ⟨by rw [hpd], by rw [hpd]⟩
  have hps : (os.map (·.p)).length ≤ 1000000 := by simp; omega
  have hpi : (os.map (·.p))[i]'(by simpa using ho.lt) = o.p := by simp [ho.get]
  have hm0 : o.m ≠ 0 := by have := h3.mN; omega
  have hcl : clockL o.L < 9223372036854775807 := by
    have h4 := h3.bk.clock
    have h5 := clockL_le (l := o.l) (k := (K : Int)) (by omega) fun y hy => (h3.cnt y hy).2.1
    omega
  have hN3 := h3.mN
  have C2 : Hid (∀ W, Below w3.heap.size w3 W → Calls Tryz.prog 28 #[.pointer (some ⟨pw, 0, none⟩), .int .i64 i, .string s] W fun e W' => e = .returned (.agg #[.int .i64 r.2.1, .string r.2.2]) ∧ KeepM o.m w3 W' ∧ Hid (BookAt W' o.m (deleteP o.L o.id s).1) ∧ (∀ k, w3.heap.size < W.heap.size → W'.cell? ⟨w3.heap.size, k, none⟩ = W.cell? ⟨w3.heap.size, k, none⟩) ∧ (∀ k, w3.heap.size < W.heap.size → W'.frozen? ⟨w3.heap.size, k, none⟩ = W.frozen? ⟨w3.heap.size, k, none⟩)) :=
    Lib.hid fun W hW => by
      have h4 := (hA3.law.below hW).ones o ho.mem
      have := deleteW_any pw pv (os.map (·.p)) i (by simpa using ho.lt) o.id o.m o.g o.L s W (hA3.law.below hW).wld hps (by rw [hpi]; exact h4.rep) h4.book hm0 ((hT.below hA3.below (Nat.le_refl _)).below hW (Nat.le_refl _)) (by omega) (by have := (hA3.law.small (by omega) ho).2; omega) hcl
      rw [e1, e2] at this
      have hml := h3.book.lt
      refine this.mono fun e W' ⟨he, hB, hk⟩ => ⟨he, (Keep.of_below' (F := fun b => b = o.m) hW).trans hk, Lib.hid hB, fun k hz => hk.cell (p := ⟨_, _, none⟩) hz (by show ¬ w3.heap.size = o.m; omega), fun k hz => hk.frozen (p := ⟨_, _, none⟩) hz (by show ¬ w3.heap.size = o.m; omega)⟩
  have nx : x ≠ o.m := fun e => h3.book.ne_cells hA3.law.box (by exact e)
  have nb : w.heap.size ≠ o.m := fun e => h3.book.ne_cells hA3.box (by exact e)
  have hx3l := hA3.law.xlt
  have hb3l := (Array.getElem?_eq_some_iff.1 hA3.box).1
  have b4 := HB4.out
  have v0 : ∀ W, KeepM o.m w3 W → W.cell? ⟨x, 0, none⟩ = some (.pointer (some ⟨pw, 0, none⟩)) := fun W hW => (hW.cell (p := ⟨x, 0, none⟩) hx3l nx).trans hA3.x0
  have v4 : ∀ W, KeepM o.m w3 W → W.cell? ⟨w.heap.size, 4, none⟩ = some (.string s) := fun W hW => (hW.cell (p := ⟨w.heap.size, 4, none⟩) hb3l nb).trans (b4 _ hA3)
  have hK3 : KeepM o.m w3 w3 := Keep.refl _ _
  have hBe : Hid (Below w3.heap.size w3 w3.drew) := Lib.hid (Below.refl _ _).drew
  have HA3 := Lib.hid hA3
  clear hr hw hpd hcs hci hT h3 e1 e2 hps hpi hm0 hcl hN3 nx nb b4 q0 q1 u1 u2 u3 C1 hA3
  go_wp2
  go_region_held3 (fun W => KeepM o.m w3 W) (first | assumption | (rw [KeepM_drew]; assumption) | (exact KeepM.alloc (by first | assumption | (rw [KeepM_drew]; assumption)) _) | (exact KeepM.set (KeepM.set (by assumption) (by first | exact Nat.le_refl _ | exact hK4.size) _) (by first | exact Nat.le_refl _ | exact hK4.size) _))
    ((first | (go_at_call 28; refine Calls.mono (C2.out _ ?hw1) ?_; (case hw1 => first | exact hBe.out | exact (hBe.out.alloc (Nat.le_refl _) _)); rintro e w4 ⟨rfl, hK4, hB4, hc4, hf4⟩)))
  all_goals
    first
    | (obtain ⟨w5, hw5⟩ : ∃ w5, w5 = (w4.setCell ⟨w3.heap.size, 0, none⟩ (.int .i64 r.2.1)).setCell ⟨w3.heap.size, 1, none⟩ (.string r.2.2) := ⟨_, rfl⟩
       rw [← hw5]
       obtain ⟨nb, hnb⟩ : ∃ nb, nb = w3.heap.size := ⟨_, rfl⟩
       rw [← hnb]
       have HP : Hid (PutF o.m (deleteP o.L o.id s).1 r.2.1 r.2.2 w3 w5 nb) := Lib.hid (by
         rw [hw5, hnb]; exact PutF.early (k0 := 0) (s0 := ⟨#[]⟩) hK4 hB4.out (HA3.out.law.ones o ho.mem).book.lt ((hc4 0 (by simp)).trans (by go_simp)) ((hc4 1 (by simp)).trans (by go_simp)))
       clear hw5 hnb)
    | (obtain ⟨w5, hw5⟩ : ∃ w5, w5 = w4.alloc (.cells #[.int .i64 r.2.1, .string r.2.2] 49) := ⟨_, rfl⟩
       rw [← hw5]
       obtain ⟨nb, hnb⟩ : ∃ nb, nb = w4.heap.size := ⟨_, rfl⟩
       rw [← hnb]
       have HP : Hid (PutF o.m (deleteP o.L o.id s).1 r.2.1 r.2.2 w3 w5 nb) := Lib.hid (by
         rw [hw5, hnb]; exact PutF.late hK4 hB4.out)
       clear hw5 hnb)
  all_goals
    have hA3 := HA3.out
    have hP := HP.out
    have h3 := hA3.law.ones o ho.mem
    have hql := h3.qlt
    have nq : o.q ≠ nb := by have := hP.ge; omega
    have nq2 : nb ≠ o.q := fun e => nq e.symm
    have nqm : o.q ≠ o.m := fun e => h3.book.ne_cells h3.box e
    have hq5 : w5.heap[o.q]? = w3.heap[o.q]? := hP.keep.block _ hql nqm
    have f2 : w5.cell? ⟨o.q, 1, none⟩ = some o.lv := Joins.cell_of_block (hq5.trans h3.box) 1
    have f3 : w5.frozen? ⟨o.q, 1, none⟩ = false := Joins.unfrozen_of_block (hq5.trans h3.box) 1
    have f0 := hP.c0
    have f1 := hP.c1
    have HQ := Lib.hid (And.intro hq5 hx3)
    clear hA3 h3 hq5 hc4 hf4 hK4 hB4 hx3 C2 v0 v4 hK3 hBe nqm hP
    go_wp2
    go_ret
    refine LawAt.wrote HA3.out ho HP.out HQ.out.1 HQ.out.2.out HH.out.2.1 (by omega)
end Go.Proofs.YtpdbmpbmepkikaaGreatDoor

namespace Go.Proofs.YtpdbmpbmepkikaaGreatDoor
open Go.RowKit

theorem info144 : (Tryz.prog.info? 144).map (fun i => (i.zero, i.size, i.bytes)) = some (some (.pointer none), 1, 8) := by kernel_rfl

/-- Of the world w1 only the World's block and its row may have changed. -/
def KeepW (pw : Nat) (pv : Value) (w1 W : World) : Prop := Keep (fun b => b = pw ∨ pv.ownBlock = some b) w1 W
theorem KeepW_drew {pw : Nat} {pv : Value} {w1 W : World} : KeepW pw pv w1 W.drew ↔ KeepW pw pv w1 W := ⟨fun h => ⟨h.os, h.tape, h.output, h.size, h.block⟩, fun h => ⟨h.os, h.tape, h.output, h.size, h.block⟩⟩
/-- .. only the row of the law's. -/
def KeepQ (qv : Value) (w1 W : World) : Prop := Keep (fun b => qv.ownBlock = some b) w1 W
theorem KeepQ_drew {qv : Value} {w1 W : World} : KeepQ qv w1 W.drew ↔ KeepQ qv w1 W := ⟨fun h => ⟨h.os, h.tape, h.output, h.size, h.block⟩, fun h => ⟨h.os, h.tape, h.output, h.size, h.block⟩⟩

theorem Keep.of_grown {w w' : World} {b : Option Nat} (h : w.grownBy w' b) : Keep (fun k => b = some k) w w' := ⟨h.os, h.tape, h.output, h.size, fun k hk hn => h.block k hk fun e => hn e.symm⟩

theorem new_end {N K x pw : Nat} {pv : Value} {os : List One} {cs : Array Value} {bx : Nat} {w w1 w2 W1 w5 : World} {qad : Option Addr} {qcap g' cap' : Nat} {a : Int}
    (hA1 : AskAt N K x pw pv (.slice qad os.length qcap) os bx cs w w1) (hK2 : KeepW pw pv w1 w2)
    (hx2 : ∃ lv' p m g, WldAt w2 pw lv' (os.map (·.p) ++ [p]) ∧ RepAt w2 p a m g ∧ BookAt w2 m [] ∧ w1.heap.size ≤ m ∧ (∀ b, lv'.ownBlock = some b → pv.ownBlock = some b ∨ w1.heap.size ≤ b))
    (hrow2 : w2.ownsRow N 144 1 (.slice qad os.length qcap) os.length (os.map fun o => .pointer (some ⟨o.q, 0, none⟩))) (hx2b : w2.heap[x]? = some (.cells #[.pointer (some ⟨pw, 0, none⟩), .slice qad os.length qcap] 100 (0, 0)))
    (hW1 : W1 = w2.drew.alloc (.cells #[.int .i64 a, .slice none 0 0, .slice none 0 0, .slice none 0 0] 147))
    (hr5 : w5.ownsRow N 144 1 (.slice (some ⟨g', 0, none⟩) (os.length + 1) cap') (os.length + 1) ((os.map fun o => .pointer (some ⟨o.q, 0, none⟩)) ++ [.pointer (some ⟨w2.drew.heap.size, 0, none⟩)]))
    (hg5 : (W1.alloc (.cells #[.pointer (some ⟨w2.drew.heap.size, 0, none⟩)] 144)).grownBy w5 (Value.slice qad os.length qcap).ownBlock) (ha : I64 a) (hos : os.length + 1 ≤ K + 1) (hN : N ≤ w.heap.size) :
    Stepped' N (K + 1) x pw w (.returned (.bool true)) (w5.setCell ⟨x, 1, none⟩ (.slice (some ⟨g', 0, none⟩) (os.length + 1) cap')) := by
  obtain ⟨lv', p, m, g, hWl, hR, hB, hm1, hlv⟩ := hx2
  have hz1 : W1.heap.size = w2.heap.size + 1 := by rw [hW1]; simp
  have hxl2 := (Array.getElem?_eq_some_iff.1 hx2b).1
  have hzz := hK2.size
  have hww := hA1.below.size
  -- blocks of w2, apart from the law's row and x, stand
  have old : ∀ b, b < w2.heap.size → b ≠ x → (Value.slice qad os.length qcap).ownBlock ≠ some b → (w5.setCell ⟨x, 1, none⟩ (.slice (some ⟨g', 0, none⟩) (os.length + 1) cap')).heap[b]? = w2.heap[b]? := fun b hb h1 h2 => by
    rw [Below.heap_setCell _ _ _ _ h1, hg5.block b (by simp; omega) (fun e => h2 e.symm), Below.heap_alloc _ _ _ (by omega), hW1, Below.heap_alloc _ _ _ (by simpa using hb)]; rfl
  have nocell : ∀ (b : Nat) (c : Array Value) (t : Nat), w2.heap[b]? = some (Obj.cells c t (0, 0)) → t ≠ 144 → t ≠ 100 → (w5.setCell ⟨x, 1, none⟩ (.slice (some ⟨g', 0, none⟩) (os.length + 1) cap')).heap[b]? = w2.heap[b]? := fun b c t hb h1 h2 =>
    old b (Array.getElem?_eq_some_iff.1 hb).1 (fun e => cells_ne hb hx2b h2 e) (fun e => by
      obtain ⟨cur, hcur⟩ := row_cells hrow2 e
      exact cells_ne hb hcur h1 rfl)
  have nq : w2.heap.size ≠ x := by omega
  have hqb : (w5.setCell ⟨x, 1, none⟩ (.slice (some ⟨g', 0, none⟩) (os.length + 1) cap')).heap[w2.heap.size]? = some (.cells #[.int .i64 a, .slice none 0 0, .slice none 0 0, .slice none 0 0] 147 (0, 0)) := by
    rw [Below.heap_setCell _ _ _ _ nq, hg5.block _ (by simp; omega) (fun e => by have := (hrow2.lt _ e.symm).2; omega), Below.heap_alloc _ _ _ (by omega), hW1]
    exact World.alloc_heap_new w2.drew _
  have hxw : W1.heap[x]? = w2.heap[x]? := by rw [hW1, Below.heap_alloc _ _ _ (by simpa using hxl2)]; rfl
  have nqx : (Value.slice qad os.length qcap).ownBlock ≠ some x := fun e => by
    obtain ⟨cur, hcur⟩ := row_cells hrow2 e
    exact cells_ne hcur hx2b (by decide) rfl
  have hx5 : w5.heap[x]? = some (.cells #[.pointer (some ⟨pw, 0, none⟩), .slice qad os.length qcap] 100 (0, 0)) := by
    rw [hg5.block x (by simp; omega) (fun e => nqx e.symm), Below.heap_alloc _ _ _ (by omega), hxw]; exact hx2b
  have hbox : (w5.setCell ⟨x, 1, none⟩ (.slice (some ⟨g', 0, none⟩) (os.length + 1) cap')).heap[x]? = some (.cells #[.pointer (some ⟨pw, 0, none⟩), .slice (some ⟨g', 0, none⟩) (os.length + 1) cap'] 100 (0, 0)) :=
    ((ArrAt.mk (N := x) (T := 100) (W0 := w5) (W := w5) hx5 (Keep.refl _ _)).set 1 (.slice (some ⟨g', 0, none⟩) (os.length + 1) cap')).block
  have hkf : Keep (fun b => b = pw ∨ pv.ownBlock = some b ∨ b = x ∨ (Value.slice qad os.length qcap).ownBlock = some b) w1 (w5.setCell ⟨x, 1, none⟩ (.slice (some ⟨g', 0, none⟩) (os.length + 1) cap')) := by
    have s1 : Keep (fun b => b = pw ∨ pv.ownBlock = some b ∨ b = x ∨ (Value.slice qad os.length qcap).ownBlock = some b) w1 w2 := hK2.mono fun b _ h => by rcases h with h | h <;> simp [h]
    have s2 : Keep (fun b => b = pw ∨ pv.ownBlock = some b ∨ b = x ∨ (Value.slice qad os.length qcap).ownBlock = some b) w2 w5 := by
      refine Keep.trans (Keep.drew _ _) (Keep.trans (b := W1) (by rw [hW1]; exact Keep.alloc _ _ _) (Keep.trans (Keep.alloc _ _ _) ((Keep.of_grown hg5).mono fun b _ h => by simp [h])))
    exact (s1.trans s2).trans (Keep.setCell _ _ _ (by simp))
  have hk' : Keep (fun b => N ≤ b) w1 (w5.setCell ⟨x, 1, none⟩ (.slice (some ⟨g', 0, none⟩) (os.length + 1) cap')) := hkf.mono fun b _ h => by
    rcases h with rfl | h | rfl | h
    · exact hA1.law.pwN
    · exact hA1.law.pvN b h
    · exact hA1.law.xN
    · exact (hA1.law.row.lt b h).1
  have hone : OneAt N (K + 1) (w5.setCell ⟨x, 1, none⟩ (.slice (some ⟨g', 0, none⟩) (os.length + 1) cap')) ⟨p, a, m, g, [], w2.heap.size, .slice none 0 0, .slice none 0 0, .slice none 0 0, []⟩ :=
    ⟨(nocell _ _ _ hR (by decide) (by decide)).trans hR, hB.of_block (old m hB.lt (fun e => hB.ne_cells hx2b e.symm) (fun e => by
        obtain ⟨cur, hcur⟩ := row_cells hrow2 e
        exact hB.ne_cells hcur rfl)), hqb, ListAt.nil _, Bk.nil, by show N ≤ m; omega, by show N ≤ w2.heap.size; omega, ha, Nat.zero_le _, fun y hy => by cases hy⟩
  have hWl' : WldAt (w5.setCell ⟨x, 1, none⟩ (.slice (some ⟨g', 0, none⟩) (os.length + 1) cap')) pw lv' (os.map (·.p) ++ [p]) :=
    hWl.blocks (nocell _ _ _ hWl.box (by decide) (by decide)) fun b hb => by
      obtain ⟨cur, hcur⟩ := row_cells hWl.row hb
      exact nocell _ _ _ hcur (by decide) (by decide)
  have hrowf : (w5.setCell ⟨x, 1, none⟩ (.slice (some ⟨g', 0, none⟩) (os.length + 1) cap')).ownsRow N 144 1 (.slice (some ⟨g', 0, none⟩) (os.length + 1) cap') (os.length + 1) ((os.map fun o => .pointer (some ⟨o.q, 0, none⟩)) ++ [.pointer (some ⟨w2.heap.size, 0, none⟩)]) := by
    refine ownsRow_block hr5 fun k hk => Below.heap_setCell _ _ _ _ fun ek => ?_
    obtain ⟨cur, hcur⟩ := row_cells hr5 hk
    exact cells_ne hcur hx5 (by decide) ek
  have hlaw := (hA1.law.more (Nat.le_succ K)).grow (o := ⟨p, a, m, g, [], w2.heap.size, .slice none 0 0, .slice none 0 0, .slice none 0 0, []⟩) hkf hbox hrowf hWl'
    (fun b hb => by rcases hlv b hb with h | h; exact hA1.law.pvN b h; omega) hone hm1 hzz
  refine ⟨rfl, lv', _, _, hlaw, by simpa using hos, ?_⟩
  exact (Keep.of_below' (F := fun b => N ≤ b) hA1.below).trans hk'

set_option maxHeartbeats 2000000 in
set_option maxRecDepth 100000 in
theorem step1_any (N K x pw : Nat) (pv qv : Value) (os : List One) (a b c : Int) (s t u : ByteArray) (w : World) (hK : K ≤ 90000) (hos : os.length ≤ K) (h : LawAt N K w x pw pv qv os) (ha : I64 a) (hN : N ≤ w.heap.size) :
    Calls Tryz.prog 48 #[.pointer (some ⟨x, 0, none⟩), .agg #[.int .i64 1, .int .i64 a, .int .i64 b, .int .i64 c, .string s, .string t, .string u]] w (Stepped' N (K + 1) x pw w) := by
  obtain ⟨cs, hcs⟩ : ∃ cs : Array Value, cs = #[.int .i64 1, .int .i64 a, .int .i64 b, .int .i64 c, .string s, .string t, .string u] := ⟨_, rfl⟩
  obtain ⟨w1, hw1⟩ : ∃ w1, w1 = w.alloc (.cells cs 102) := ⟨_, rfl⟩
  have hA1 : AskAt N K x pw pv qv os w.heap.size cs w w1 := hw1 ▸ AskAt.new h cs
  have hps : (os.map (·.p)).length ≤ 1000000 := by simp; omega
  have nx : ¬ (x = pw ∨ pv.ownBlock = some x) := by
    rintro (e | e)
    · exact cells_ne hA1.law.box hA1.law.wld.box (by decide) e
    · obtain ⟨cur, hcur⟩ := row_cells hA1.law.wld.row e
      exact cells_ne hA1.law.box hcur (by decide) rfl
  have nb : ¬ (w.heap.size = pw ∨ pv.ownBlock = some w.heap.size) := by
    rintro (e | e)
    · exact cells_ne hA1.box hA1.law.wld.box (by decide) e
    · obtain ⟨cur, hcur⟩ := row_cells hA1.law.wld.row e
      exact cells_ne hA1.box hcur (by decide) rfl
  have hxl1 := hA1.law.xlt
  have hbl1 := (Array.getElem?_eq_some_iff.1 hA1.box).1
  have C1 : Hid (∀ W, Below w1.heap.size w1 W → Calls Tryz.prog 37 #[.pointer (some ⟨pw, 0, none⟩), .int .i64 a] W fun e W' => e = .returned (.bool true) ∧ KeepW pw pv w1 W' ∧ Hid (∃ lv' p m g, WldAt W' pw lv' (os.map (·.p) ++ [p]) ∧ RepAt W' p a m g ∧ BookAt W' m [] ∧ w1.heap.size ≤ m ∧ (∀ b, lv'.ownBlock = some b → pv.ownBlock = some b ∨ w1.heap.size ≤ b))) :=
    Lib.hid fun W hW => (newW_any pw pv (os.map (·.p)) a W (hA1.law.below hW).wld hps).mono fun e W' ⟨he, lv', p, m, g, h1, h2, h3, _, _, h4, _, h5, h6⟩ =>
      ⟨he, (Keep.of_below' (F := fun b => b = pw ∨ pv.ownBlock = some b) hW).trans h6, Lib.hid ⟨lv', p, m, g, h1, h2, h3, Nat.le_trans hW.size h4, fun b hb => (h5 b hb).imp id (Nat.le_trans hW.size)⟩⟩
  have y0 : ∀ W, KeepW pw pv w1 W → W.cell? ⟨x, 0, none⟩ = some (.pointer (some ⟨pw, 0, none⟩)) := fun W hW => (hW.cell (p := ⟨x, 0, none⟩) hxl1 nx).trans hA1.x0
  have yb : ∀ W, KeepW pw pv w1 W → W.cell? ⟨w.heap.size, 1, none⟩ = some (.int .i64 a) := fun W hW => (hW.cell (p := ⟨w.heap.size, 1, none⟩) hbl1 nb).trans ((hA1.bc 1).trans (by rw [hcs]; rfl))
  have hK1 : KeepW pw pv w1 w1 := Keep.refl _ _
  have hBe : Hid (Below w1.heap.size w1 w1.drew) := Lib.hid (Below.refl _ _).drew
  rw [hcs] at hw1
  have HB1 := Lib.hid hw1
  have HH := Lib.hid (And.intro hA1 (And.intro hcs (And.intro nx (And.intro nb hxl1))))
  clear h hcs hw1 hps hA1 nx nb hbl1
  go_enter Tryz.func48, Tryz.ntmps48
  go_wp2
  rw [← HB1.out]
  go_region_held3 (fun W => KeepW pw pv w1 W) (with_reducible (first | assumption | (rw [KeepW_drew]; assumption)))
    ((first | (go_at_call 37; refine Calls.mono (C1.out _ hBe.out) ?_; rintro e w2 ⟨rfl, hK2, hx2⟩)))
  obtain ⟨hA1, hcs, nx, nb, -⟩ := HH.out
  have hK2' := hK2
  have hxl2 : x < w2.heap.size := Nat.lt_of_lt_of_le hxl1 hK2.size
  have hx2b : w2.heap[x]? = some (.cells #[.pointer (some ⟨pw, 0, none⟩), qv] 100 (0, 0)) := (hK2.block x hxl1 nx).trans hA1.law.box
  have hb2b : w2.heap[w.heap.size]? = some (.cells cs 102 (0, 0)) := (hK2.block _ (Array.getElem?_eq_some_iff.1 hA1.box).1 nb).trans hA1.box
  have hrow2 : w2.ownsRow N 144 1 qv os.length (os.map fun o => .pointer (some ⟨o.q, 0, none⟩)) := ownsRow_block hA1.law.row fun b hb => hK2.block b (hA1.law.row.lt b hb).2 fun e => by
    obtain ⟨cur, hcur⟩ := row_cells hA1.law.row hb
    rcases e with e | e
    · exact cells_ne hcur hA1.law.wld.box (by decide) e
    · obtain ⟨cur', hcur'⟩ := row_cells hA1.law.wld.row e
      exact cells_ne hcur hcur' (by decide) rfl
  obtain ⟨qad, qcap, hqv⟩ := hA1.law.slice
  subst hqv
  have nqx : ¬ (Value.slice qad os.length qcap).ownBlock = some x := fun e => by
    obtain ⟨cur, hcur⟩ := row_cells hrow2 e
    exact cells_ne hcur hx2b (by decide) rfl
  have nqb : ¬ (Value.slice qad os.length qcap).ownBlock = some w.heap.size := fun e => by
    obtain ⟨cur, hcur⟩ := row_cells hrow2 e
    exact cells_ne hcur hb2b (by decide) rfl
  have z1 : ∀ W, KeepQ (.slice qad os.length qcap) w2 W → W.cell? ⟨x, 1, none⟩ = some (.slice qad os.length qcap) := fun W hW => (hW.cell (p := ⟨x, 1, none⟩) hxl2 nqx).trans (Joins.cell_of_block hx2b 1)
  have zb : ∀ W, KeepQ (.slice qad os.length qcap) w2 W → W.cell? ⟨w.heap.size, 1, none⟩ = some (.int .i64 a) := fun W hW => (hW.cell (p := ⟨w.heap.size, 1, none⟩) (Array.getElem?_eq_some_iff.1 hb2b).1 nqb).trans ((Joins.cell_of_block hb2b 1).trans (by rw [hcs]; rfl))
  have zf : ∀ W, KeepQ (.slice qad os.length qcap) w2 W → W.frozen? ⟨x, 1, none⟩ = false := fun W hW => (hW.frozen (p := ⟨x, 1, none⟩) hxl2 nqx).trans (Joins.unfrozen_of_block hx2b 1)
  have HX := Lib.hid (And.intro hK2 (And.intro hx2 (And.intro hrow2 (And.intro hx2b (And.intro hb2b (And.intro hA1 (And.intro nqx hcs)))))))
  obtain ⟨i0, hi, hz0, hz1, hz2⟩ := info_parts info144
  have hS0 : KeepQ (.slice qad os.length qcap) w2 w2 := Keep.refl _ _
  clear hA1 hcs nx nb hK2 hK2' hx2 hx2b hb2b hrow2 y0 yb hK1 hBe HB1 C1 HH nqx nqb
  go_wp2
  refine wp_region_noPanic ?_
  refine wp_region_Z (S := KeepQ (.slice qad os.length qcap) w2) (z := 13) (by kernel_rfl) (by rw [KeepQ_drew]; exact hS0) (fun hHeld => ?_)
  refine wpAnyZ_take (i := 0) (v := ?v0) rfl (by kernel_rfl) (by kernel_rfl) (by kernel_rfl) (by kernel_rfl) (fun _ _ _ h => h) (Or.inl ⟨by rfl, ?hy0⟩) hHeld ?rest0; (case hy0 => (intro W hSw; go_simp; (try with_reducible rfl)))
  simp only [Act.put, List.getElem_toArray, List.getElem_cons_zero, List.getElem_cons_succ, List.setIfInBounds_toArray, List.set_cons_zero, List.set_cons_succ]
  refine wpAnyZ_take (i := 1) (v := ?v1) rfl (by kernel_rfl) (by kernel_rfl) (by kernel_rfl) (by kernel_rfl) (fun _ _ _ h => h) (Or.inl ⟨by rfl, ?hy1⟩) hHeld ?rest1; (case hy1 => (intro W hSw; go_simp; (try with_reducible rfl)))
  simp only [Act.put, List.getElem_toArray, List.getElem_cons_zero, List.getElem_cons_succ, List.setIfInBounds_toArray, List.set_cons_zero, List.set_cons_succ]
  refine wpAnyZ_take (i := 2) (v := ?v2) rfl (by kernel_rfl) (by kernel_rfl) (by kernel_rfl) (by kernel_rfl) (fun _ _ _ h => h) (Or.inl ⟨by rfl, ?hy2⟩) hHeld ?rest2; (case hy2 => (intro W hSw; go_simp; (try with_reducible rfl)))
  simp only [Act.put, List.getElem_toArray, List.getElem_cons_zero, List.getElem_cons_succ, List.setIfInBounds_toArray, List.set_cons_zero, List.set_cons_succ]
  refine wpAnyZ_take (i := 3) (v := ?v3) rfl (by kernel_rfl) (by kernel_rfl) (by kernel_rfl) (by kernel_rfl) (fun _ _ _ h => h) (Or.inl ⟨by rfl, ?hy3⟩) hHeld ?rest3; (case hy3 => (intro W hSw; go_simp; (try with_reducible rfl)))
  simp only [Act.put, List.getElem_toArray, List.getElem_cons_zero, List.getElem_cons_succ, List.setIfInBounds_toArray, List.set_cons_zero, List.set_cons_succ]
  refine wpAnyZ_take (i := 4) (v := ?v4) rfl (by kernel_rfl) (by kernel_rfl) (by kernel_rfl) (by kernel_rfl) (fun _ _ _ h => h) (Or.inl ⟨by rfl, ?hy4⟩) hHeld ?rest4; (case hy4 => (intro W hSw; go_simp; (try with_reducible rfl)))
  simp only [Act.put, List.getElem_toArray, List.getElem_cons_zero, List.getElem_cons_succ, List.setIfInBounds_toArray, List.set_cons_zero, List.set_cons_succ]
  refine wpAnyZ_take (i := 5) (v := ?v5) rfl (by kernel_rfl) (by kernel_rfl) (by kernel_rfl) (by kernel_rfl) (fun _ _ _ h => h) (Or.inl ⟨by rfl, ?hy5⟩) hHeld ?rest5; (case hy5 => (intro W hSw; go_simp; (try with_reducible rfl)))
  simp only [Act.put, List.getElem_toArray, List.getElem_cons_zero, List.getElem_cons_succ, List.setIfInBounds_toArray, List.set_cons_zero, List.set_cons_succ]
  refine wpAnyZ_take (i := 6) (v := ?v6) rfl (by kernel_rfl) (by kernel_rfl) (by kernel_rfl) (by kernel_rfl) (fun _ _ _ h => h) (Or.inl ⟨by rfl, ?hy6⟩) hHeld ?rest6; (case hy6 => (intro W hSw; go_simp; (try with_reducible rfl)))
  simp only [Act.put, List.getElem_toArray, List.getElem_cons_zero, List.getElem_cons_succ, List.setIfInBounds_toArray, List.set_cons_zero, List.set_cons_succ]
  refine wpAnyZ_take (i := 7) (v := ?v7) rfl (by kernel_rfl) (by kernel_rfl) (by kernel_rfl) (by kernel_rfl) (fun _ _ _ h => h) (Or.inl ⟨by rfl, ?hy7⟩) hHeld ?rest7; (case hy7 => (intro W hSw; go_simp; (try with_reducible rfl)))
  simp only [Act.put, List.getElem_toArray, List.getElem_cons_zero, List.getElem_cons_succ, List.setIfInBounds_toArray, List.set_cons_zero, List.set_cons_succ]
  obtain ⟨W0, hW0⟩ : ∃ W0, W0 = w2.drew := ⟨_, rfl⟩
  rw [← hW0] at hHeld ⊢
  have hz0' : W0.heap.size = w2.heap.size := by rw [hW0]; rfl
  refine wpAnyZ_val (i := 8) (v := .pointer (some ⟨W0.heap.size, 0, none⟩)) (w' := W0.alloc (.cells #[.int .i64 a, .slice none 0 0, .slice none 0 0, .slice none 0 0] 147)) (by kernel_rfl) rfl (by rfl) ?hv8 (fun _ => Keep.trans hHeld (Keep.alloc _ _ _)) ?rest8; (case hv8 => (go_simp))
  simp only [Act.put, List.getElem_toArray, List.getElem_cons_zero, List.getElem_cons_succ, List.setIfInBounds_toArray, List.set_cons_zero, List.set_cons_succ]
  obtain ⟨W1, hW1⟩ : ∃ W1, W1 = W0.alloc (.cells #[.int .i64 a, .slice none 0 0, .slice none 0 0, .slice none 0 0] 147) := ⟨_, rfl⟩
  rw [← hW1]
  have hH1 : KeepQ (.slice qad os.length qcap) w2 W1 := by rw [hW1]; exact Keep.trans hHeld (Keep.alloc _ _ _)
  refine wpAnyZ_val (i := 9) (v := .slice (some ⟨W1.heap.size, 0, none⟩) 1 1) (w' := W1.alloc (.cells #[.pointer (some ⟨W0.heap.size, 0, none⟩)] 144)) (by kernel_rfl) rfl (by rfl) ?hv9 (fun _ => Keep.trans hH1 (Keep.alloc _ _ _)) ?rest9; (case hv9 => (go_simp))
  simp only [Act.put, List.getElem_toArray, List.getElem_cons_zero, List.getElem_cons_succ, List.setIfInBounds_toArray, List.set_cons_zero, List.set_cons_succ]
  have hrowW : (W1.alloc (.cells #[.pointer (some ⟨W0.heap.size, 0, none⟩)] 144)).ownsRow N 144 1 (.slice qad os.length qcap) os.length (os.map fun o => .pointer (some ⟨o.q, 0, none⟩)) := by
    have hzz : W1.heap.size = W0.heap.size + 1 := by rw [hW1]; simp
    refine ownsRow_block HX.out.2.2.1 fun b hb => ?_
    have hbl := (HX.out.2.2.1.lt b hb).2
    rw [Below.heap_alloc _ _ _ (by omega), hW1, Below.heap_alloc _ _ _ (by omega), hW0]; rfl
  refine wpAnyZ_one (i := 10) (by kernel_rfl) rfl (by rfl) ?_
  refine oper_append_own_at _ _ 98 rfl N 144 i0 (.pointer none) 1 8 Tryz.underlying98 hi hz0 hz1 hz2 rfl (by decide) (.slice qad os.length qcap) os.length _ rfl hrowW ⟨W1.heap.size, 0, none⟩ 1 1 [.pointer (some ⟨W0.heap.size, 0, none⟩)] rfl rfl (news5 _ _ _ rfl) (by simp [Value.oneCell']) (by unfold maxLen; omega) (by omega) (by have := HX.out.1.size; have := HX.out.2.2.2.2.2.1.below.size; simp; rw [hW1]; simp; omega) ?_
  intro v5 w5 hr5 hg5 hat
  have hH5 : KeepQ (.slice qad os.length qcap) w2 w5 := Keep.trans (Keep.trans hH1 (Keep.alloc _ _ _)) (Keep.of_grown hg5)
  obtain ⟨g', cap', hv'⟩ := ownsRow_succ hr5
  subst hv'
  have u1 := z1 _ hH5
  have uf := zf _ hH5
  have HG := Lib.hid (And.intro hr5 (And.intro hg5 (And.intro hW0 hW1)))
  clear hr5 hg5 hat hrowW hz1 hz2 hz0 hi hW0 hW1 hS0 z1 zb zf
  refine ⟨fun _ => hH5, ?_⟩
  simp only [Act.put, List.getElem_toArray, List.getElem_cons_zero, List.getElem_cons_succ, List.setIfInBounds_toArray, List.set_cons_zero, List.set_cons_succ]
  refine wpAnyZ_val (i := 11) (v := .pointer (some ⟨x, 0, none⟩)) (w' := w5) (by kernel_rfl) rfl (by rfl) ?hv11 (fun _ => hH5) ?rest11; (case hv11 => (go_simp))
  simp only [Act.put, List.getElem_toArray, List.getElem_cons_zero, List.getElem_cons_succ, List.setIfInBounds_toArray, List.set_cons_zero, List.set_cons_succ]
  refine wpAnyZ_val (i := 12) (v := .pointer (some ⟨x, 1, none⟩)) (w' := w5) (by kernel_rfl) rfl (by rfl) ?hv12 (fun _ => hH5) ?rest12; (case hv12 => (go_simp))
  simp only [Act.put, List.getElem_toArray, List.getElem_cons_zero, List.getElem_cons_succ, List.setIfInBounds_toArray, List.set_cons_zero, List.set_cons_succ]
  refine wpAnyZ_skip (i := 13) (w' := w5.setCell ⟨x, 1, none⟩ (.slice (some ⟨g', 0, none⟩) (os.length + 1) cap')) (by kernel_rfl) rfl (by rfl) ?hv13 (fun h => Bool.noConfusion h) ?rest13; (case hv13 => (go_simp))
  simp only [Act.put, List.getElem_toArray, List.getElem_cons_zero, List.getElem_cons_succ, List.setIfInBounds_toArray, List.set_cons_zero, List.set_cons_succ]
  refine wpAnyZ_done (by kernel_rfl) ?_ _
  refine NoPanic.normal ?_
  go_wp2
  go_ret
  obtain ⟨hr5, hg5, hW0, hW1⟩ := HG.out
  obtain ⟨hK2, hx2, hrow2, hx2b, hb2b, hA1, nqx, hcs⟩ := HX.out
  subst hW0
  exact new_end hA1 hK2 hx2.out hrow2 hx2b hW1 hr5 hg5 ha (by omega) hN
end Go.Proofs.YtpdbmpbmepkikaaGreatDoor

set_option linter.unusedSimpArgs false
set_option linter.unusedVariables false
namespace Go.Proofs.YtpdbmpbmepkikaaGreatDoor
open Go.RowKit

theorem sizeW_any (pw : Nat) (lv : Value) (ps : List Nat) (w : World) (hW : WldAt w pw lv ps) :
    Calls Tryz.prog 136 #[.pointer (some ⟨pw, 0, none⟩)] w fun e w' => e = .returned (.int .i64 ps.length) ∧ w' = w := by
  obtain ⟨lad, lcap, hlvv⟩ : ∃ ad cap, lv = .slice ad ps.length cap := by
    rcases hW.row.2 with ⟨h1, h2⟩ | ⟨g, cap, cur, h1, _⟩
    · exact ⟨none, 0, by rw [h1, h2]⟩
    · exact ⟨_, cap, h1⟩
  subst hlvv
  have c0 : w.cell? ⟨pw, 0, none⟩ = some (.slice lad ps.length lcap) := Joins.cell_of_block hW.box 0
  clear hW
  go_enter Tryz.func136, Tryz.ntmps136
  go_wp2
  go_ret
  exact ⟨rfl, rfl⟩

/-- What a replica that was saved and loaded holds. -/
theorem loaded_bk {K : Nat} {L l : List Reg} (h : Bk L l) : Bk (l.foldl takeL []) l := by
  have := Bk.nil.takes l h.good
  rwa [foldl_ins_self h.sorted] at this

theorem save_end {N K x pw : Nat} {pv : Value} {os : List One} {cs : Array Value} {bx : Nat} {w w1 w2 W1 w5 : World} {qad : Option Addr} {qcap g' cap' : Nat} {a : Int} {lvO : Value} {lO LO : List Reg}
    (hA1 : AskAt N K x pw pv (.slice qad os.length qcap) os bx cs w w1) (hK2 : KeepW pw pv w1 w2)
    (hx2 : ∃ lv' p m g, WldAt w2 pw lv' (os.map (·.p) ++ [p]) ∧ RepAt w2 p a m g ∧ BookAt w2 m LO ∧ w1.heap.size ≤ m ∧ (∀ b, lv'.ownBlock = some b → pv.ownBlock = some b ∨ w1.heap.size ≤ b))
    (hrow2 : w2.ownsRow N 144 1 (.slice qad os.length qcap) os.length (os.map fun o => .pointer (some ⟨o.q, 0, none⟩))) (hx2b : w2.heap[x]? = some (.cells #[.pointer (some ⟨pw, 0, none⟩), .slice qad os.length qcap] 100 (0, 0)))
    (hW1 : W1 = w2.drew.alloc (.cells #[.int .i64 a, lvO, .slice none 0 0, .slice none 0 0] 147)) (hlO : ListAt w2 lvO lO) (hbk : Bk LO lO) (hlen : lO.length ≤ K) (hcnt : ∀ y ∈ lO, 0 ≤ y.c ∧ y.c ≤ K ∧ I64 y.r)
    (hr5 : w5.ownsRow N 144 1 (.slice (some ⟨g', 0, none⟩) (os.length + 1) cap') (os.length + 1) ((os.map fun o => .pointer (some ⟨o.q, 0, none⟩)) ++ [.pointer (some ⟨w2.drew.heap.size, 0, none⟩)]))
    (hg5 : (W1.alloc (.cells #[.pointer (some ⟨w2.drew.heap.size, 0, none⟩)] 144)).grownBy w5 (Value.slice qad os.length qcap).ownBlock) (ha : I64 a) (hN : N ≤ w.heap.size) :
    ∃ lv' o', o'.q = w2.heap.size ∧ o'.l = lO ∧ LawAt N (K + 1) (w5.setCell ⟨x, 1, none⟩ (.slice (some ⟨g', 0, none⟩) (os.length + 1) cap')) x pw lv' (.slice (some ⟨g', 0, none⟩) (os.length + 1) cap') (os ++ [o']) ∧
      Keep (fun b => b = pw ∨ pv.ownBlock = some b ∨ b = x ∨ (Value.slice qad os.length qcap).ownBlock = some b) w1 (w5.setCell ⟨x, 1, none⟩ (.slice (some ⟨g', 0, none⟩) (os.length + 1) cap')) := by
  obtain ⟨lv', p, m, g, hWl, hR, hB, hm1, hlv⟩ := hx2
  have hz1 : W1.heap.size = w2.heap.size + 1 := by rw [hW1]; simp
  have hxl2 := (Array.getElem?_eq_some_iff.1 hx2b).1
  have hzz := hK2.size
  have hww := hA1.below.size
  have old : ∀ b, b < w2.heap.size → b ≠ x → (Value.slice qad os.length qcap).ownBlock ≠ some b → (w5.setCell ⟨x, 1, none⟩ (.slice (some ⟨g', 0, none⟩) (os.length + 1) cap')).heap[b]? = w2.heap[b]? := fun b hb h1 h2 => by
    rw [Below.heap_setCell _ _ _ _ h1, hg5.block b (by simp; omega) (fun e => h2 e.symm), Below.heap_alloc _ _ _ (by omega), hW1, Below.heap_alloc _ _ _ (by simpa using hb)]; rfl
  have nocell : ∀ (b : Nat) (c : Array Value) (t : Nat), w2.heap[b]? = some (Obj.cells c t (0, 0)) → t ≠ 144 → t ≠ 100 → (w5.setCell ⟨x, 1, none⟩ (.slice (some ⟨g', 0, none⟩) (os.length + 1) cap')).heap[b]? = w2.heap[b]? := fun b c t hb h1 h2 =>
    old b (Array.getElem?_eq_some_iff.1 hb).1 (fun e => cells_ne hb hx2b h2 e) (fun e => by
      obtain ⟨cur, hcur⟩ := row_cells hrow2 e
      exact cells_ne hb hcur h1 rfl)
  have nq : w2.heap.size ≠ x := by omega
  have hqb : (w5.setCell ⟨x, 1, none⟩ (.slice (some ⟨g', 0, none⟩) (os.length + 1) cap')).heap[w2.heap.size]? = some (.cells #[.int .i64 a, lvO, .slice none 0 0, .slice none 0 0] 147 (0, 0)) := by
    rw [Below.heap_setCell _ _ _ _ nq, hg5.block _ (by simp; omega) (fun e => by have := (hrow2.lt _ e.symm).2; omega), Below.heap_alloc _ _ _ (by omega), hW1]
    exact World.alloc_heap_new w2.drew _
  have hxw : W1.heap[x]? = w2.heap[x]? := by rw [hW1, Below.heap_alloc _ _ _ (by simpa using hxl2)]; rfl
  have nqx : (Value.slice qad os.length qcap).ownBlock ≠ some x := fun e => by
    obtain ⟨cur, hcur⟩ := row_cells hrow2 e
    exact cells_ne hcur hx2b (by decide) rfl
  have hx5 : w5.heap[x]? = some (.cells #[.pointer (some ⟨pw, 0, none⟩), .slice qad os.length qcap] 100 (0, 0)) := by
    rw [hg5.block x (by simp; omega) (fun e => nqx e.symm), Below.heap_alloc _ _ _ (by omega), hxw]; exact hx2b
  have hbox : (w5.setCell ⟨x, 1, none⟩ (.slice (some ⟨g', 0, none⟩) (os.length + 1) cap')).heap[x]? = some (.cells #[.pointer (some ⟨pw, 0, none⟩), .slice (some ⟨g', 0, none⟩) (os.length + 1) cap'] 100 (0, 0)) :=
    ((ArrAt.mk (N := x) (T := 100) (W0 := w5) (W := w5) hx5 (Keep.refl _ _)).set 1 (.slice (some ⟨g', 0, none⟩) (os.length + 1) cap')).block
  have hkf : Keep (fun b => b = pw ∨ pv.ownBlock = some b ∨ b = x ∨ (Value.slice qad os.length qcap).ownBlock = some b) w1 (w5.setCell ⟨x, 1, none⟩ (.slice (some ⟨g', 0, none⟩) (os.length + 1) cap')) := by
    have s1 : Keep (fun b => b = pw ∨ pv.ownBlock = some b ∨ b = x ∨ (Value.slice qad os.length qcap).ownBlock = some b) w1 w2 := hK2.mono fun b _ h => by rcases h with h | h <;> simp [h]
    have s2 : Keep (fun b => b = pw ∨ pv.ownBlock = some b ∨ b = x ∨ (Value.slice qad os.length qcap).ownBlock = some b) w2 w5 := by
      refine Keep.trans (Keep.drew _ _) (Keep.trans (b := W1) (by rw [hW1]; exact Keep.alloc _ _ _) (Keep.trans (Keep.alloc _ _ _) ((Keep.of_grown hg5).mono fun b _ h => by simp [h])))
    exact (s1.trans s2).trans (Keep.setCell _ _ _ (by simp))
  have hlO' : ListAt (w5.setCell ⟨x, 1, none⟩ (.slice (some ⟨g', 0, none⟩) (os.length + 1) cap')) lvO lO := hlO.block fun b hb => by
    obtain ⟨cur, hcur⟩ := row_cells hlO hb
    exact nocell _ _ _ hcur (by decide) (by decide)
  have hone : OneAt N (K + 1) (w5.setCell ⟨x, 1, none⟩ (.slice (some ⟨g', 0, none⟩) (os.length + 1) cap')) ⟨p, a, m, g, LO, w2.heap.size, lvO, .slice none 0 0, .slice none 0 0, lO⟩ :=
    ⟨(nocell _ _ _ hR (by decide) (by decide)).trans hR, hB.of_block (old m hB.lt (fun e => hB.ne_cells hx2b e.symm) (fun e => by
        obtain ⟨cur, hcur⟩ := row_cells hrow2 e
        exact hB.ne_cells hcur rfl)), hqb, hlO', hbk, by show N ≤ m; omega, by show N ≤ w2.heap.size; omega, ha, Nat.le_succ_of_le hlen, fun y hy => ⟨(hcnt y hy).1, by have := (hcnt y hy).2.1; omega, (hcnt y hy).2.2⟩⟩
  have hWl' : WldAt (w5.setCell ⟨x, 1, none⟩ (.slice (some ⟨g', 0, none⟩) (os.length + 1) cap')) pw lv' (os.map (·.p) ++ [p]) :=
    hWl.blocks (nocell _ _ _ hWl.box (by decide) (by decide)) fun b hb => by
      obtain ⟨cur, hcur⟩ := row_cells hWl.row hb
      exact nocell _ _ _ hcur (by decide) (by decide)
  have hrowf : (w5.setCell ⟨x, 1, none⟩ (.slice (some ⟨g', 0, none⟩) (os.length + 1) cap')).ownsRow N 144 1 (.slice (some ⟨g', 0, none⟩) (os.length + 1) cap') (os.length + 1) ((os.map fun o => .pointer (some ⟨o.q, 0, none⟩)) ++ [.pointer (some ⟨w2.heap.size, 0, none⟩)]) := by
    refine ownsRow_block hr5 fun k hk => Below.heap_setCell _ _ _ _ fun ek => ?_
    obtain ⟨cur, hcur⟩ := row_cells hr5 hk
    exact cells_ne hcur hx5 (by decide) ek
  have hlaw := (hA1.law.more (Nat.le_succ K)).grow (o := ⟨p, a, m, g, LO, w2.heap.size, lvO, .slice none 0 0, .slice none 0 0, lO⟩) hkf hbox hrowf hWl'
    (fun b hb => by rcases hlv b hb with h | h; exact hA1.law.pvN b h; omega) hone hm1 hzz
  exact ⟨lv', _, rfl, rfl, hlaw, hkf⟩

set_option maxHeartbeats 4000000 in
set_option maxRecDepth 100000 in
theorem saves9_any (N K x pw : Nat) (pv qv : Value) (os : List One) (i : Nat) (o : One) (a b c : Int) (s t u : ByteArray) (w : World) (hK : K ≤ 50000) (hos : os.length ≤ K) (h : LawAt N K w x pw pv qv os) (ho : Who os i o) (hN : N ≤ w.heap.size) :
    Calls Tryz.prog 76 #[.pointer (some ⟨x, 0, none⟩), .agg #[.int .i64 9, .int .i64 a, .int .i64 b, .int .i64 c, .string s, .string t, .string u], .int .i64 i] w (Stepped' N (K + 1) x pw w) := by
  obtain ⟨g, cap, hqv, hg, hci⟩ := h.cell ho.lt
  rw [ho.get] at hci
  subst hqv
  have hlt := ho.lt
  obtain ⟨cs, hcs⟩ : ∃ cs : Array Value, cs = #[.int .i64 9, .int .i64 a, .int .i64 b, .int .i64 c, .string s, .string t, .string u] := ⟨_, rfl⟩
  obtain ⟨w1, hw1⟩ : ∃ w1, w1 = w.alloc (.cells cs 102) := ⟨_, rfl⟩
  have hA1 : AskAt N K x pw pv (.slice (some ⟨g, 0, none⟩) os.length cap) os w.heap.size cs w w1 := hw1 ▸ AskAt.new h cs
  have hFl : ∀ y ∈ o.l, Fit y := fun y hy => ((h.ones o ho.mem).bk.good y hy).fit (by omega) ((h.ones o ho.mem).cnt y hy)
  have hOk : ∀ y ∈ o.l, y.Ok := fun y hy => by
    have hgd := (h.ones o ho.mem).bk.good y hy
    exact ⟨by have := hgd.name8; omega, by have := hgd.field4; omega⟩
  have hFL : ∀ y ∈ o.L, Fit y := fun y hy => hFl y ((h.ones o ho.mem).bk.perm.subset hy)
  have hps : (os.map (·.p)).length ≤ 1000000 := by simp; omega
  have hpi : (os.map (·.p))[i]'(by simpa using ho.lt) = o.p := by simp [ho.get]
  have h1 := hA1.law.ones o ho.mem
  have hsm := hA1.law.small (by omega) ho
  have hidr := h1.idr
  have C1 := saveW_any pw pv (os.map (·.p)) i (by simpa using ho.lt) o.id o.m o.g o.L w1 hA1.law.wld hps (by rw [hpi]; exact h1.rep) h1.book hsm.2 hFL h1.idr
  rw [h1.bk.all] at C1
  obtain ⟨sv, hsv⟩ : ∃ sv : ByteArray, sv = ⟨(saveB o.id o.l).toArray⟩ := ⟨_, rfl⟩
  have hbl : bl sv = saveB o.id o.l := by rw [hsv]
  rw [← hsv] at C1
  have HC1 := Lib.hid C1
  obtain ⟨lad, llen, lcap, hlv⟩ : ∃ ad n cp, o.lv = .slice ad n cp := by
    rcases h1.list.cases with ⟨e1, e2⟩ | ⟨g, cap, e1, _⟩
    · exact ⟨none, 0, 0, e1⟩
    · exact ⟨_, _, _, e1⟩
  have hx1 : w.cell? ⟨x, 1, none⟩ = some (.slice (some ⟨g, 0, none⟩) os.length cap) := Joins.cell_of_block h.box 1
  have hx0 : w1.cell? ⟨x, 0, none⟩ = some (.pointer (some ⟨pw, 0, none⟩)) := hA1.x0
  have hx0' : w.cell? ⟨x, 0, none⟩ = some (.pointer (some ⟨pw, 0, none⟩)) := Joins.cell_of_block h.box 0
  have hxl := h.xlt
  have hii : (i : Int) < (os.length : Int) := by omega
  have HA := Lib.hid (And.intro hA1 (And.intro hFl (And.intro hOk (And.intro hps (And.intro hbl (And.intro hlv hcs))))))
  rw [hcs] at hw1
  have HB1 := Lib.hid hw1
  clear h hw1 hlt hA1 C1 hFl hOk hFL hpi h1 hsv hbl hlv hcs hps
  go_enter Tryz.func76, Tryz.ntmps76
  go_wp2_with (rw [← HB1.out]; go_at_call 134; go_must (refine HC1.out.mono ?_); rintro e w2 ⟨rfl, hb2⟩; have HB2 := Lib.hid hb2; clear hb2; refine Halt.of ?_)
  unfold Halt
  clear HC1
  have hA2 := HA.out.1.later HB2.out
  obtain ⟨-, hFl, hOk, hps, hbl, hlv, hcs⟩ := HA.out
  have e0 : w2.cell? ⟨w.heap.size, 0, none⟩ = some (.int .i64 9) := (hA2.bc 0).trans (by rw [hcs]; rfl)
  have e1 : w2.cell? ⟨x, 0, none⟩ = some (.pointer (some ⟨pw, 0, none⟩)) := hA2.x0
  have h2 := hA2.law.ones o ho.mem
  have HC2 := Lib.hid (loadW_whole pw pv (os.map (·.p)) o.id o.l sv w2 hA2.law.wld hps hbl hFl hOk (by omega) hidr)
  have HA2 := Lib.hid hA2
  clear hA2 hFl hOk hps hbl hlv hcs h2
  go_wp2_with (go_at_call 135; go_must (refine HC2.out.mono ?_); rintro e w3 ⟨rfl, hx3⟩; have HX3 := Lib.hid hx3; clear hx3; refine Halt.of ?_)
  unfold Halt
  clear HC2
  obtain ⟨lv', p, m, g3, hW3, hld3, hp3, hm3, hg3, hlv3, hk3⟩ := HX3.out
  have hz3 := hk3.size
  have hA2 := HA2.out
  have nx : ¬ (x = pw ∨ pv.ownBlock = some x) := by
    rintro (e | e)
    · exact cells_ne hA2.law.box hA2.law.wld.box (by decide) e
    · obtain ⟨cur, hcur⟩ := row_cells hA2.law.wld.row e
      exact cells_ne hA2.law.box hcur (by decide) rfl
  have nq : ¬ (o.q = pw ∨ pv.ownBlock = some o.q) := by
    rintro (e | e)
    · exact cells_ne (hA2.law.ones o ho.mem).box hA2.law.wld.box (by decide) e
    · obtain ⟨cur, hcur⟩ := row_cells hA2.law.wld.row e
      exact cells_ne (hA2.law.ones o ho.mem).box hcur (by decide) rfl
  have hx3b : w3.heap[x]? = some (.cells #[.pointer (some ⟨pw, 0, none⟩), .slice (some ⟨g, 0, none⟩) os.length cap] 100 (0, 0)) := (hk3.block x hA2.law.xlt nx).trans hA2.law.box
  have hq3b := (hk3.block o.q (hA2.law.ones o ho.mem).qlt nq).trans (hA2.law.ones o ho.mem).box
  rw [HA.out.2.2.2.2.2.1] at hq3b
  have hx3l := (Array.getElem?_eq_some_iff.1 hx3b).1
  have hq3l := (Array.getElem?_eq_some_iff.1 hq3b).1
  have y0 : w3.cell? ⟨x, 0, none⟩ = some (.pointer (some ⟨pw, 0, none⟩)) := Joins.cell_of_block hx3b 0
  obtain ⟨W4, hW4⟩ : ∃ W4, W4 = w3.alloc (.cells #[.int .i64 0, .string ⟨#[]⟩] 49) := ⟨_, rfl⟩
  have hz4 : W4.heap.size = w3.heap.size + 1 := by rw [hW4]; simp
  have hB4 : Below w3.heap.size w3 W4 := by rw [hW4]; exact (Below.refl _ _).alloc (Nat.le_refl _) _
  have hW4w : WldAt W4 pw lv' (os.map (·.p) ++ [p]) := hW3.blocks (hB4.block _ (Array.getElem?_eq_some_iff.1 hW3.box).1) fun b hb => hB4.block b (hW3.row.lt b hb).2
  have HC4 := Lib.hid (sizeW_any pw lv' _ W4 hW4w)
  have hk4 : KeepW pw pv w2 W4 := hk3.trans (Keep.of_below' hB4)
  have hrow4 : W4.ownsRow N 144 1 (.slice (some ⟨g, 0, none⟩) os.length cap) os.length (os.map fun o => .pointer (some ⟨o.q, 0, none⟩)) := ownsRow_block hA2.law.row fun b hb => hk4.block b (hA2.law.row.lt b hb).2 fun e => by
    obtain ⟨cur, hcur⟩ := row_cells hA2.law.row hb
    rcases e with e | e
    · exact cells_ne hcur hA2.law.wld.box (by decide) e
    · obtain ⟨cur', hcur'⟩ := row_cells hA2.law.wld.row e
      exact cells_ne hcur hcur' (by decide) rfl
  have hx4b : W4.heap[x]? = some (.cells #[.pointer (some ⟨pw, 0, none⟩), .slice (some ⟨g, 0, none⟩) os.length cap] 100 (0, 0)) := (hB4.block _ hx3l).trans hx3b
  have hq4b := (hB4.block _ hq3l).trans hq3b
  have h94b : W4.heap[w3.heap.size]? = some (.cells #[.int .i64 0, .string ⟨#[]⟩] 49 (0, 0)) := by rw [hW4]; exact World.alloc_heap_new _ _
  have hld4 : LdAt p m g3 o.id (o.l.foldl takeL []) W4 := hld3.block (hB4.block _ hld3.rep.lt) (hB4.block _ hld3.book.lt) (hB4.block _ hld3.begun.lt)
  have hlist4 : ListAt W4 o.lv o.l := (hA2.law.ones o ho.mem).list.block fun b hb => hk4.block b (World.ownsRow.lt (hA2.law.ones o ho.mem).list b hb).2 fun e => by
    obtain ⟨cur, hcur⟩ := row_cells (hA2.law.ones o ho.mem).list hb
    rcases e with e | e
    · exact cells_ne hcur hA2.law.wld.box (by decide) e
    · obtain ⟨cur', hcur'⟩ := row_cells hA2.law.wld.row e
      exact cells_ne hcur hcur' (by decide) rfl
  have hpl : (os.map (·.p) ++ [p]).length = os.length + 1 := by simp
  rw [hpl] at HC4
  have HX4 := Lib.hid (And.intro hk4 (And.intro hrow4 (And.intro hx4b (And.intro hq4b (And.intro h94b (And.intro hld4 (And.intro hlist4 (And.intro hW4w hm3))))))))
  have HLV := Lib.hid hlv3
  have HW4 := Lib.hid hW4
  have hx4l : x < W4.heap.size := by omega
  have hq4l : o.q < W4.heap.size := by omega
  clear hW3 hld3 hp3 hm3 hg3 hlv3 hk3 hA2 nx nq hx3b hq3b hW4 hB4 hW4w hk4 hrow4 hx4b hq4b h94b hld4 hlist4 hpl e0 e1 HX3
  go_wp2_with (rw [← HW4.out]; go_at_call 136; go_must (refine HC4.out.mono ?_); rintro e w4 ⟨rfl, hw4⟩; subst hw4; refine Halt.of ?_)
  unfold Halt
  clear HC4
  obtain ⟨hk4, hrow4, hx4b, hq4b, h94b, -⟩ := HX4.out
  have nqx : ¬ (Value.slice (some ⟨g, 0, none⟩) os.length cap).ownBlock = some x := fun e => by
    obtain ⟨cur, hcur⟩ := row_cells hrow4 e
    exact cells_ne hcur hx4b (by decide) rfl
  have nqq : ¬ (Value.slice (some ⟨g, 0, none⟩) os.length cap).ownBlock = some o.q := fun e => by
    obtain ⟨cur, hcur⟩ := row_cells hrow4 e
    exact cells_ne hcur hq4b (by decide) rfl
  have nq9 : ¬ (Value.slice (some ⟨g, 0, none⟩) os.length cap).ownBlock = some w3.heap.size := fun e => by
    obtain ⟨cur, hcur⟩ := row_cells hrow4 e
    exact cells_ne hcur h94b (by decide) rfl
  have z1 : ∀ W, KeepQ (.slice (some ⟨g, 0, none⟩) os.length cap) w4 W → W.cell? ⟨x, 1, none⟩ = some (.slice (some ⟨g, 0, none⟩) os.length cap) := fun W hW => (hW.cell (p := ⟨x, 1, none⟩) hx4l nqx).trans (Joins.cell_of_block hx4b 1)
  have zq0 : ∀ W, KeepQ (.slice (some ⟨g, 0, none⟩) os.length cap) w4 W → W.cell? ⟨o.q, 0, none⟩ = some (.int .i64 o.id) := fun W hW => (hW.cell (p := ⟨o.q, 0, none⟩) hq4l nqq).trans (Joins.cell_of_block hq4b 0)
  have zq1 : ∀ W, KeepQ (.slice (some ⟨g, 0, none⟩) os.length cap) w4 W → W.cell? ⟨o.q, 1, none⟩ = some (.slice lad llen lcap) := fun W hW => (hW.cell (p := ⟨o.q, 1, none⟩) hq4l nqq).trans (Joins.cell_of_block hq4b 1)
  have zf : ∀ W, KeepQ (.slice (some ⟨g, 0, none⟩) os.length cap) w4 W → W.frozen? ⟨x, 1, none⟩ = false := fun W hW => (hW.frozen (p := ⟨x, 1, none⟩) hx4l nqx).trans (Joins.unfrozen_of_block hx4b 1)
  have HNQ := Lib.hid (And.intro nqx (And.intro nqq nq9))
  obtain ⟨i0, hi, hz0, hz1, hz2⟩ := info_parts info144
  have HI := Lib.hid (And.intro hi (And.intro hz0 (And.intro hz1 hz2)))
  have hS0 : KeepQ (.slice (some ⟨g, 0, none⟩) os.length cap) w4 w4 := Keep.refl _ _
  clear hk4 hrow4 hx4b hq4b h94b nqx nqq nq9 hi hz0 hz1 hz2 y0
  go_wp2
  refine wp_region_noPanic ?_
  refine wp_region_Z (S := KeepQ (.slice (some ⟨g, 0, none⟩) os.length cap) w4) (z := 19) (by kernel_rfl) (by rw [KeepQ_drew]; exact hS0) (fun hHeld => ?_)
  refine wpAnyZ_take (i := 0) (v := ?v0) rfl (by kernel_rfl) (by kernel_rfl) (by kernel_rfl) (by kernel_rfl) (fun _ _ _ h => h) (Or.inl ⟨by rfl, ?hy0⟩) hHeld ?rest0; (case hy0 => (intro W hSw; go_simp; (try with_reducible rfl)))
  simp only [Act.put, List.getElem_toArray, List.getElem_cons_zero, List.getElem_cons_succ, List.setIfInBounds_toArray, List.set_cons_zero, List.set_cons_succ]
  refine wpAnyZ_take (i := 1) (v := ?v1) rfl (by kernel_rfl) (by kernel_rfl) (by kernel_rfl) (by kernel_rfl) (fun _ _ _ h => h) (Or.inl ⟨by rfl, ?hy1⟩) hHeld ?rest1; (case hy1 => (intro W hSw; go_simp; (try with_reducible rfl)))
  simp only [Act.put, List.getElem_toArray, List.getElem_cons_zero, List.getElem_cons_succ, List.setIfInBounds_toArray, List.set_cons_zero, List.set_cons_succ]
  refine wpAnyZ_take (i := 2) (v := ?v2) rfl (by kernel_rfl) (by kernel_rfl) (by kernel_rfl) (by kernel_rfl) (fun _ _ _ h => h) (Or.inl ⟨by rfl, ?hy2⟩) hHeld ?rest2; (case hy2 => (intro W hSw; go_simp; (try with_reducible rfl)))
  simp only [Act.put, List.getElem_toArray, List.getElem_cons_zero, List.getElem_cons_succ, List.setIfInBounds_toArray, List.set_cons_zero, List.set_cons_succ]
  refine wpAnyZ_take (i := 3) (v := ?v3) rfl (by kernel_rfl) (by kernel_rfl) (by kernel_rfl) (by kernel_rfl) (fun _ _ _ h => h) (Or.inl ⟨by rfl, ?hy3⟩) hHeld ?rest3; (case hy3 => (intro W hSw; go_simp; (try with_reducible rfl)))
  simp only [Act.put, List.getElem_toArray, List.getElem_cons_zero, List.getElem_cons_succ, List.setIfInBounds_toArray, List.set_cons_zero, List.set_cons_succ]
  refine wpAnyZ_take (i := 4) (v := ?v4) rfl (by kernel_rfl) (by kernel_rfl) (by kernel_rfl) (by kernel_rfl) (fun _ _ _ h => h) (Or.inl ⟨by rfl, ?hy4⟩) hHeld ?rest4; (case hy4 => (intro W hSw; go_simp; (try with_reducible rfl)))
  simp only [Act.put, List.getElem_toArray, List.getElem_cons_zero, List.getElem_cons_succ, List.setIfInBounds_toArray, List.set_cons_zero, List.set_cons_succ]
  refine wpAnyZ_take (i := 5) (v := ?v5) rfl (by kernel_rfl) (by kernel_rfl) (by kernel_rfl) (by kernel_rfl) (fun _ _ _ h => h) (Or.inl ⟨by rfl, ?hy5⟩) hHeld ?rest5; (case hy5 => (intro W hSw; go_simp; (try with_reducible rfl)))
  simp only [Act.put, List.getElem_toArray, List.getElem_cons_zero, List.getElem_cons_succ, List.setIfInBounds_toArray, List.set_cons_zero, List.set_cons_succ]
  refine wpAnyZ_take (i := 6) (v := ?v6) rfl (by kernel_rfl) (by kernel_rfl) (by kernel_rfl) (by kernel_rfl) (fun _ _ _ h => h) (Or.inl ⟨by rfl, ?hy6⟩) hHeld ?rest6; (case hy6 => (intro W hSw; go_simp; (try with_reducible rfl)))
  simp only [Act.put, List.getElem_toArray, List.getElem_cons_zero, List.getElem_cons_succ, List.setIfInBounds_toArray, List.set_cons_zero, List.set_cons_succ]
  refine wpAnyZ_take (i := 7) (v := ?v7) rfl (by kernel_rfl) (by kernel_rfl) (by kernel_rfl) (by kernel_rfl) (fun _ _ _ h => h) (Or.inl ⟨by rfl, ?hy7⟩) hHeld ?rest7; (case hy7 => (intro W hSw; go_simp; (try with_reducible rfl)))
  simp only [Act.put, List.getElem_toArray, List.getElem_cons_zero, List.getElem_cons_succ, List.setIfInBounds_toArray, List.set_cons_zero, List.set_cons_succ]
  refine wpAnyZ_take (i := 8) (v := ?v8) rfl (by kernel_rfl) (by kernel_rfl) (by kernel_rfl) (by kernel_rfl) (fun _ _ _ h => h) (Or.inl ⟨by rfl, ?hy8⟩) hHeld ?rest8; (case hy8 => (intro W hSw; go_simp; (try with_reducible rfl)))
  simp only [Act.put, List.getElem_toArray, List.getElem_cons_zero, List.getElem_cons_succ, List.setIfInBounds_toArray, List.set_cons_zero, List.set_cons_succ]
  refine wpAnyZ_take (i := 9) (v := ?v9) rfl (by kernel_rfl) (by kernel_rfl) (by kernel_rfl) (by kernel_rfl) (fun _ _ _ h => h) (Or.inl ⟨by rfl, ?hy9⟩) hHeld ?rest9; (case hy9 => (intro W hSw; go_simp; (try with_reducible rfl)))
  simp only [Act.put, List.getElem_toArray, List.getElem_cons_zero, List.getElem_cons_succ, List.setIfInBounds_toArray, List.set_cons_zero, List.set_cons_succ]
  refine wpAnyZ_take (i := 10) (v := ?v10) rfl (by kernel_rfl) (by kernel_rfl) (by kernel_rfl) (by kernel_rfl) (fun _ _ _ h => h) (Or.inl ⟨by rfl, ?hy10⟩) hHeld ?rest10; (case hy10 => (intro W hSw; go_simp; (try with_reducible rfl)))
  simp only [Act.put, List.getElem_toArray, List.getElem_cons_zero, List.getElem_cons_succ, List.setIfInBounds_toArray, List.set_cons_zero, List.set_cons_succ]
  refine wpAnyZ_take (i := 11) (v := ?v11) rfl (by kernel_rfl) (by kernel_rfl) (by kernel_rfl) (by kernel_rfl) (fun _ _ _ h => h) (Or.inl ⟨by rfl, ?hy11⟩) hHeld ?rest11; (case hy11 => (intro W hSw; go_simp; (try with_reducible rfl)))
  simp only [Act.put, List.getElem_toArray, List.getElem_cons_zero, List.getElem_cons_succ, List.setIfInBounds_toArray, List.set_cons_zero, List.set_cons_succ]
  refine wpAnyZ_take (i := 12) (v := ?v12) rfl (by kernel_rfl) (by kernel_rfl) (by kernel_rfl) (by kernel_rfl) (fun _ _ _ h => h) (Or.inl ⟨by rfl, ?hy12⟩) hHeld ?rest12; (case hy12 => (intro W hSw; go_simp; (try with_reducible rfl)))
  simp only [Act.put, List.getElem_toArray, List.getElem_cons_zero, List.getElem_cons_succ, List.setIfInBounds_toArray, List.set_cons_zero, List.set_cons_succ]
  refine wpAnyZ_take (i := 13) (v := ?v13) rfl (by kernel_rfl) (by kernel_rfl) (by kernel_rfl) (by kernel_rfl) (fun _ _ _ h => h) (Or.inl ⟨by rfl, ?hy13⟩) hHeld ?rest13; (case hy13 => (intro W hSw; go_simp; (try with_reducible rfl)))
  simp only [Act.put, List.getElem_toArray, List.getElem_cons_zero, List.getElem_cons_succ, List.setIfInBounds_toArray, List.set_cons_zero, List.set_cons_succ]
  obtain ⟨W0, hW0⟩ : ∃ W0, W0 = w4.drew := ⟨_, rfl⟩
  rw [← hW0] at hHeld ⊢
  have hz0' : W0.heap.size = w4.heap.size := by rw [hW0]; rfl
  refine wpAnyZ_val (i := 14) (v := .pointer (some ⟨W0.heap.size, 0, none⟩)) (w' := W0.alloc (.cells #[.int .i64 o.id, .slice lad llen lcap, .slice none 0 0, .slice none 0 0] 147)) (by kernel_rfl) rfl (by rfl) ?hv14 (fun _ => Keep.trans hHeld (Keep.alloc _ _ _)) ?rest14; (case hv14 => (go_simp))
  simp only [Act.put, List.getElem_toArray, List.getElem_cons_zero, List.getElem_cons_succ, List.setIfInBounds_toArray, List.set_cons_zero, List.set_cons_succ]
  obtain ⟨W1, hW1⟩ : ∃ W1, W1 = W0.alloc (.cells #[.int .i64 o.id, .slice lad llen lcap, .slice none 0 0, .slice none 0 0] 147) := ⟨_, rfl⟩
  rw [← hW1]
  have hH1 : KeepQ (.slice (some ⟨g, 0, none⟩) os.length cap) w4 W1 := by rw [hW1]; exact Keep.trans hHeld (Keep.alloc _ _ _)
  refine wpAnyZ_val (i := 15) (v := .slice (some ⟨W1.heap.size, 0, none⟩) 1 1) (w' := W1.alloc (.cells #[.pointer (some ⟨W0.heap.size, 0, none⟩)] 144)) (by kernel_rfl) rfl (by rfl) ?hv15 (fun _ => Keep.trans hH1 (Keep.alloc _ _ _)) ?rest15; (case hv15 => (go_simp))
  simp only [Act.put, List.getElem_toArray, List.getElem_cons_zero, List.getElem_cons_succ, List.setIfInBounds_toArray, List.set_cons_zero, List.set_cons_succ]
  have hrowW : (W1.alloc (.cells #[.pointer (some ⟨W0.heap.size, 0, none⟩)] 144)).ownsRow N 144 1 (.slice (some ⟨g, 0, none⟩) os.length cap) os.length (os.map fun o => .pointer (some ⟨o.q, 0, none⟩)) := by
    have hzz : W1.heap.size = W0.heap.size + 1 := by rw [hW1]; simp
    refine ownsRow_block HX4.out.2.1 fun b hb => ?_
    have hbl := (HX4.out.2.1.lt b hb).2
    rw [Below.heap_alloc _ _ _ (by omega), hW1, Below.heap_alloc _ _ _ (by omega), hW0]; rfl
  refine wpAnyZ_one (i := 16) (by kernel_rfl) rfl (by rfl) ?_
  refine oper_append_own_at _ _ 98 rfl N 144 i0 (.pointer none) 1 8 Tryz.underlying98 HI.out.1 HI.out.2.1 HI.out.2.2.1 HI.out.2.2.2 rfl (by decide) (.slice (some ⟨g, 0, none⟩) os.length cap) os.length _ rfl hrowW ⟨W1.heap.size, 0, none⟩ 1 1 [.pointer (some ⟨W0.heap.size, 0, none⟩)] rfl rfl (news5 _ _ _ rfl) (by simp [Value.oneCell']) (by unfold maxLen; omega) (by omega) (by have := HX4.out.1.size; have := HA2.out.below.size; simp; rw [hW1]; simp; omega) ?_
  intro v5 w5 hr5 hg5 hat
  have hH5 : KeepQ (.slice (some ⟨g, 0, none⟩) os.length cap) w4 w5 := Keep.trans (Keep.trans hH1 (Keep.alloc _ _ _)) (Keep.of_grown hg5)
  obtain ⟨g', cap', hv'⟩ := ownsRow_succ hr5
  subst hv'
  have u1 := z1 _ hH5
  have uf := zf _ hH5
  have HG := Lib.hid (And.intro hr5 (And.intro hg5 (And.intro hW0 hW1)))
  clear hr5 hg5 hat hrowW hW0 hW1 hS0 z1 zf zq0 zq1
  refine ⟨fun _ => hH5, ?_⟩
  simp only [Act.put, List.getElem_toArray, List.getElem_cons_zero, List.getElem_cons_succ, List.setIfInBounds_toArray, List.set_cons_zero, List.set_cons_succ]
  refine wpAnyZ_val (i := 17) (v := .pointer (some ⟨x, 0, none⟩)) (w' := w5) (by kernel_rfl) rfl (by rfl) ?hv17 (fun _ => hH5) ?rest17; (case hv17 => (go_simp))
  simp only [Act.put, List.getElem_toArray, List.getElem_cons_zero, List.getElem_cons_succ, List.setIfInBounds_toArray, List.set_cons_zero, List.set_cons_succ]
  refine wpAnyZ_val (i := 18) (v := .pointer (some ⟨x, 1, none⟩)) (w' := w5) (by kernel_rfl) rfl (by rfl) ?hv18 (fun _ => hH5) ?rest18; (case hv18 => (go_simp))
  simp only [Act.put, List.getElem_toArray, List.getElem_cons_zero, List.getElem_cons_succ, List.setIfInBounds_toArray, List.set_cons_zero, List.set_cons_succ]
  refine wpAnyZ_skip (i := 19) (w' := w5.setCell ⟨x, 1, none⟩ (.slice (some ⟨g', 0, none⟩) (os.length + 1) cap')) (by kernel_rfl) rfl (by rfl) ?hv19 (fun h => Bool.noConfusion h) ?rest19; (case hv19 => (go_simp))
  simp only [Act.put, List.getElem_toArray, List.getElem_cons_zero, List.getElem_cons_succ, List.setIfInBounds_toArray, List.set_cons_zero, List.set_cons_succ]
  refine wpAnyZ_done (by kernel_rfl) ?_ _
  refine NoPanic.normal ?_
  obtain ⟨hr5, hg5, hW0, hW1⟩ := HG.out
  obtain ⟨hk4, hrow4, hx4b, hq4b, h94b, hld4, hlist4, hW4w, hm3⟩ := HX4.out
  obtain ⟨nqx, nqq, nq9⟩ := HNQ.out
  subst hW0
  have hone := HA2.out.law.ones o ho.mem
  have hlvO := HA.out.2.2.2.2.2.1
  rw [hlvO] at hlist4
  obtain ⟨lvF, oF, hoq, hol, hlawF, hkF⟩ := save_end HA2.out hk4 ⟨lv', p, m, g3, hW4w, hld4.rep, hld4.book, hm3, HLV.out⟩ hrow4 hx4b hW1 hlist4 (loaded_bk (K := K) hone.bk) hone.len hone.cnt hr5 hg5 hidr hN
  obtain ⟨w6, hw6⟩ : ∃ w6, w6 = w5.setCell ⟨x, 1, none⟩ (.slice (some ⟨g', 0, none⟩) (os.length + 1) cap') := ⟨_, rfl⟩
  rw [← hw6] at hlawF hkF ⊢
  have h9l := (Array.getElem?_eq_some_iff.1 h94b).1
  have h96 : w6.heap[w3.heap.size]? = some (.cells #[.int .i64 0, .string ⟨#[]⟩] 49 (0, 0)) := by
    rw [hw6, Below.heap_setCell _ _ _ _ (by simp only; omega)]
    exact (hH5.block _ h9l nq9).trans h94b
  have hq6 : w6.heap[o.q]? = some (.cells #[.int .i64 o.id, .slice lad llen lcap, o.ov, o.bv] 147 (0, 0)) := by
    rw [hw6, Below.heap_setCell _ _ _ _ (fun e => by rw [← show o.q = x from e] at hx4b; exact cells_ne hq4b hx4b (by decide) rfl)]
    exact (hH5.block _ hq4l nqq).trans hq4b
  have a9 : w6.cell? ⟨w3.heap.size, 0, none⟩ = some (.int .i64 0) := Joins.cell_of_block h96 0
  have a1 : w6.cell? ⟨x, 1, none⟩ = some (.slice (some ⟨g', 0, none⟩) (os.length + 1) cap') := Joins.cell_of_block hlawF.box 1
  have hiN : (os ++ [oF])[os.length]? = some oF := by simp
  have hwho : Who (os ++ [oF]) os.length oF := ⟨by simp, hiN⟩
  have hlaw1 : LawAt N (K + 1) w6 x pw lvF (.slice (some ⟨g', 0, none⟩) (os.length + 1) cap') (os ++ [oF]) := hlawF
  have HCt := Lib.hid (told_any N (K + 1) x pw lvF _ (os ++ [oF]) os.length oF w6 (by omega) (by simp; omega) hlaw1 hwho)
  rw [hol] at HCt
  have hlistF : ListAt w6 (.slice lad llen lcap) o.l := by
    have hmemo : o ∈ os ++ [oF] := List.mem_append_left _ ho.mem
    have := (hlaw1.ones o hmemo).list
    rwa [hlvO] at this
  have hwr : IntKind.i64.wrap (((os.length + 1 : Nat) : Int) - 1) = (os.length : Int) := by rw [IntKind.wrap_i64]; omega
  have hkN : Keep (fun b => N ≤ b) w w6 := (Keep.of_below' (F := fun b => N ≤ b) HA2.out.below).trans (hkF.mono fun b _ h => by
    rcases h with rfl | h | rfl | h
    · exact HA2.out.law.pwN
    · exact HA2.out.law.pvN b h
    · exact HA2.out.law.xN
    · exact (HA2.out.law.row.lt b h).1)
  have hq6l := (Array.getElem?_eq_some_iff.1 hq6).1
  have HE := Lib.hid (And.intro hlaw1 (And.intro hlistF (And.intro hkN hq6)))
  have hnn : ((os.length + 1 : Nat) : Int) = (os.length : Int) + 1 := by omega
  clear hr5 hg5 hW1 hk4 hrow4 hx4b hq4b h94b hld4 hlist4 hW4w hm3 nqx nqq nq9 hone hlvO hlawF hkF hw6 h96 hq6 hiN hwho hlaw1 hlistF hkN hol hoq u1 uf hH5 hH1 hHeld HLV
  go_wp2_with (go_at_call 80; go_must (refine HCt.out.mono ?_); rintro e w7 ⟨v, rfl, hlv7, hb7⟩; have H7 := Lib.hid (And.intro hlv7 hb7); clear hlv7 hb7; refine Halt.of ?_)
  unfold Halt
  clear HCt a9 a1
  have hq7 : w7.cell? ⟨o.q, 1, none⟩ = some (.slice lad llen lcap) := Joins.cell_of_block ((H7.out.2.block _ hq6l).trans HE.out.2.2.2) 1
  have HC8 := Lib.hid (sameBook_any v (.slice lad llen lcap) o.l w7 H7.out.1 (HE.out.2.1.block fun b hb => H7.out.2.block b (World.ownsRow.lt HE.out.2.1 b hb).2) (by omega))
  go_wp2_with (go_at_call 81; go_must (refine HC8.out.mono ?_); rintro e w8 ⟨rfl, hb8⟩; have H8 := Lib.hid hb8; clear hb8; refine Halt.of ?_)
  unfold Halt
  go_wp2
  go_ret
  have hb68 : Below w6.heap.size w6 w8 := H7.out.2.trans (H8.out.mono H7.out.2.size)
  exact ⟨rfl, lvF, _, _, HE.out.1.below hb68, by simp; omega, HE.out.2.2.1.trans (Keep.of_below' hb68)⟩
end Go.Proofs.YtpdbmpbmepkikaaGreatDoor
