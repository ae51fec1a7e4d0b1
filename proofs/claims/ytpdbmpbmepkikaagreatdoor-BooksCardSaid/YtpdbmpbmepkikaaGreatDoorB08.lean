/- LawC: The invariant of a script's world: the program's replicas beside the document's books; what a step does to it, in plain words.
   PlnD: Contracts of plain's World: Names. Conditions: at most 1000000 registers.
   BookS: The contract of what a replica's Fields hands out.
   BookT: The contract of what a replica's Fields hands out, handed a closure.
   PlnE: Contracts of plain's World: Fields. Conditions: at most 500000 registers; short names.
   PlnF: Contracts of plain's World: Digest.
   LawD: What stays while the law asks: the world of the script, and the step's own block.
   LawE: The law's asks, of Fields: the program's are the document's. Conditions: at most 100000 registers and replicas; a short name.
   LawF: The law's asks, of Names: the program's are the document's. Conditions: at most 100000 registers and replicas. -/
import Derived.Test.YtpdbmpbmepkikaaGreatDoorB07
import Derived.Test.YtpdbmpbmepkikaaGreatDoorB04
import Derived.Test.YtpdbmpbmepkikaaGreatDoorB06
import Derived.Laws.AppendOwnNone
import Derived.Test.YtpdbmpbmepkikaaGreatDoorB05
import Derived.Deep.RegionHeld3
import Derived.Test.YtpdbmpbmepkikaaGreatDoorB03
import Derived.Laws.IdiomStrings
set_option linter.all false
set_option linter.unusedSimpArgs false
set_option linter.unusedVariables false

namespace Go.Proofs.YtpdbmpbmepkikaaGreatDoor
open Go.RowKit

/-- A replica: the program's, and the document's. -/
structure One where
  p : Nat
  id : Int
  m : Nat
  g : Nat
  L : List Reg
  q : Nat
  lv : Value
  ov : Value
  bv : Value
  l : List Reg
def One.upd (o : One) (L' : List Reg) (lv' ov' bv' : Value) (l' : List Reg) : One := ⟨o.p, o.id, o.m, o.g, L', o.q, lv', ov', bv', l'⟩
structure OneAt (N K : Nat) (w : World) (o : One) : Prop where
  rep : RepAt w o.p o.id o.m o.g
  book : BookAt w o.m o.L
  box : w.heap[o.q]? = some (.cells #[.int .i64 o.id, o.lv, o.ov, o.bv] 147 (0, 0))
  list : ListAt w o.lv o.l
  bk : Bk o.L o.l
  mN : N ≤ o.m
  qN : N ≤ o.q
  idr : I64 o.id
  len : o.l.length ≤ K
  cnt : ∀ y ∈ o.l, 0 ≤ y.c ∧ y.c ≤ K ∧ I64 y.r
structure LawAt (N K : Nat) (w : World) (x pw : Nat) (pv qv : Value) (os : List One) : Prop where
  box : w.heap[x]? = some (.cells #[.pointer (some ⟨pw, 0, none⟩), qv] 100 (0, 0))
  row : w.ownsRow N 144 1 qv os.length (os.map fun o => .pointer (some ⟨o.q, 0, none⟩))
  wld : WldAt w pw pv (os.map (·.p))
  pvN : ∀ b, pv.ownBlock = some b → N ≤ b
  xN : N ≤ x
  pwN : N ≤ pw
  ones : ∀ o ∈ os, OneAt N K w o
  ms : (os.map (·.m)).Nodup
  qs : (os.map (·.q)).Nodup

theorem row_cells {w : World} {base e size n : Nat} {v : Value} {xs : List Value} (h : w.ownsRow base e size v n xs) {b : Nat} (hb : v.ownBlock = some b) : ∃ cur, w.heap[b]? = some (.cells cur e (0, 0)) := by
  rcases h.2 with ⟨rfl, _⟩ | ⟨g, cap, cur, rfl, _, hg, _⟩
  · cases hb
  · simp only [Value.ownBlock, Option.some.injEq] at hb
    exact ⟨cur, hb ▸ hg⟩
theorem cells_ne {w : World} {a b : Nat} {c d : Array Value} {t u : Nat} {r s : Nat × Nat} (ha : w.heap[a]? = some (.cells c t r)) (hb : w.heap[b]? = some (.cells d u s)) (h : t ≠ u) : a ≠ b := by
  rintro rfl
  rw [ha] at hb
  simp only [Option.some.injEq, Obj.cells.injEq] at hb
  exact h hb.2.1
theorem BookAt.ne_cells {w : World} {m b : Nat} {L : List Reg} (h : BookAt w m L) {d : Array Value} {u : Nat} {s : Nat × Nat} (hb : w.heap[b]? = some (.cells d u s)) : b ≠ m := by
  rintro rfl
  obtain ⟨en, clock, h1, _⟩ := h
  rw [h1] at hb; cases hb

variable {N K : Nat} {w w' : World} {x pw : Nat} {pv qv : Value} {os : List One}
theorem OneAt.blocks {o : One} (h : OneAt N K w o) (hp : w'.heap[o.p]? = w.heap[o.p]?) (hm : w'.heap[o.m]? = w.heap[o.m]?) (hq : w'.heap[o.q]? = w.heap[o.q]?) (hl : ∀ b, o.lv.ownBlock = some b → w'.heap[b]? = w.heap[b]?) : OneAt N K w' o :=
  ⟨hp.trans h.rep, h.book.of_block hm, hq.trans h.box, h.list.block hl, h.bk, h.mN, h.qN, h.idr, h.len, h.cnt⟩
theorem OneAt.more {o : One} {K' : Nat} (h : OneAt N K w o) (hK : K ≤ K') : OneAt N K' w o :=
  ⟨h.rep, h.book, h.box, h.list, h.bk, h.mN, h.qN, h.idr, Nat.le_trans h.len hK, fun y hy => ⟨(h.cnt y hy).1, by have := (h.cnt y hy).2.1; omega, (h.cnt y hy).2.2⟩⟩
theorem OneAt.qlt {o : One} (h : OneAt N K w o) : o.q < w.heap.size := (Array.getElem?_eq_some_iff.1 h.box).1
theorem LawAt.more {K' : Nat} (h : LawAt N K w x pw pv qv os) (hK : K ≤ K') : LawAt N K' w x pw pv qv os :=
  ⟨h.box, h.row, h.wld, h.pvN, h.xN, h.pwN, fun o ho => (h.ones o ho).more hK, h.ms, h.qs⟩
theorem LawAt.xlt (h : LawAt N K w x pw pv qv os) : x < w.heap.size := (Array.getElem?_eq_some_iff.1 h.box).1
theorem LawAt.pwlt (h : LawAt N K w x pw pv qv os) : pw < w.heap.size := (Array.getElem?_eq_some_iff.1 h.wld.box).1
theorem WldAt.blocks {ps : List Nat} (h : WldAt w pw pv ps) (hp : w'.heap[pw]? = w.heap[pw]?) (hl : ∀ b, pv.ownBlock = some b → w'.heap[b]? = w.heap[b]?) : WldAt w' pw pv ps :=
  ⟨hp.trans h.box, ownsRow_block h.row hl⟩

/-- Where nothing that was there has changed. -/
theorem LawAt.below (h : LawAt N K w x pw pv qv os) (hb : Below w.heap.size w w') : LawAt N K w' x pw pv qv os :=
  ⟨(hb.block _ h.xlt).trans h.box, ownsRow_block h.row fun b hq => hb.block b (h.row.lt b hq).2, h.wld.blocks (hb.block _ h.pwlt) fun b hq => hb.block b (h.wld.row.lt b hq).2, h.pvN, h.xN, h.pwN,
    fun o ho => (h.ones o ho).blocks (hb.block _ (h.ones o ho).rep.lt) (hb.block _ (h.ones o ho).book.lt) (hb.block _ (h.ones o ho).qlt) (fun b hq => hb.block b (World.ownsRow.lt (h.ones o ho).list b hq).2), h.ms, h.qs⟩

/-- Where one replica has changed. -/
theorem LawAt.edit (h : LawAt N K w x pw pv qv os) {i : Nat} (hi : i < os.length) {L' l' : List Reg} {lv' ov' bv' : Value} (hk : Keep (fun b => b = os[i].m ∨ b = os[i].q) w w') (hB : BookAt w' os[i].m L')
    (hbox : w'.heap[os[i].q]? = some (.cells #[.int .i64 os[i].id, lv', ov', bv'] 147 (0, 0))) (hl : ListAt w' lv' l') (hbk : Bk L' l') (hlen : l'.length ≤ K) (hcnt : ∀ y ∈ l', 0 ≤ y.c ∧ y.c ≤ K ∧ I64 y.r) :
    LawAt N K w' x pw pv qv (os.set i (os[i].upd L' lv' ov' bv' l')) := by
  have hio := h.ones os[i] (List.getElem_mem hi)
  have hc : ∀ (b : Nat) (c : Array Value) (t : Nat), w.heap[b]? = some (Obj.cells c t (0, 0)) → t ≠ 147 → w'.heap[b]? = w.heap[b]? := fun b c t hb ht => hk.block b (Array.getElem?_eq_some_iff.1 hb).1 fun e => by
    rcases e with e | e
    · exact hio.book.ne_cells hb e
    · exact cells_ne hb hio.box ht e
  have hps : (os.set i (os[i].upd L' lv' ov' bv' l')).map (·.p) = os.map (·.p) := by rw [List.map_set]; exact List.ext_getElem (by simp) fun n h1 h2 => by rw [List.getElem_set]; split <;> simp_all [One.upd]
  have hms : (os.set i (os[i].upd L' lv' ov' bv' l')).map (·.m) = os.map (·.m) := by rw [List.map_set]; exact List.ext_getElem (by simp) fun n h1 h2 => by rw [List.getElem_set]; split <;> simp_all [One.upd]
  have hqs : (os.set i (os[i].upd L' lv' ov' bv' l')).map (·.q) = os.map (·.q) := by rw [List.map_set]; exact List.ext_getElem (by simp) fun n h1 h2 => by rw [List.getElem_set]; split <;> simp_all [One.upd]
  have hqv : (os.set i (os[i].upd L' lv' ov' bv' l')).map (fun o => Value.pointer (some ⟨o.q, 0, none⟩)) = os.map fun o => Value.pointer (some ⟨o.q, 0, none⟩) := by
    have := congrArg (List.map fun q : Nat => Value.pointer (some ⟨q, 0, none⟩)) hqs
    rw [List.map_map, List.map_map] at this
    exact this
  refine ⟨(hc _ _ _ h.box (by decide)).trans h.box, ?_, ?_, h.pvN, h.xN, h.pwN, fun o ho => ?_, by rw [hms]; exact h.ms, by rw [hqs]; exact h.qs⟩
  · rw [hqv, List.length_set]
    refine ownsRow_block h.row fun b hb => ?_
    obtain ⟨cur, hcur⟩ := row_cells h.row hb
    exact hc _ _ _ hcur (by decide)
  · rw [hps]
    refine h.wld.blocks (hc _ _ _ h.wld.box (by decide)) fun b hb => ?_
    obtain ⟨cur, hcur⟩ := row_cells h.wld.row hb
    exact hc _ _ _ hcur (by decide)
  · obtain ⟨j, hj, hjo⟩ := List.getElem_of_mem ho
    rw [List.length_set] at hj
    rw [List.getElem_set] at hjo
    by_cases hij : i = j
    · rw [if_pos hij] at hjo
      subst hjo
      exact ⟨(hc _ _ _ hio.rep (by decide)).trans hio.rep, hB, hbox, hl, hbk, hio.mN, hio.qN, hio.idr, hlen, hcnt⟩
    · rw [if_neg hij] at hjo
      subst hjo
      have hjo := h.ones os[j] (List.getElem_mem hj)
      have hm : os[j].m ≠ os[i].m := fun e => hij ((List.getElem_inj (h₀ := by simpa using hi) (h₁ := by simpa using hj) h.ms).1 (by simpa using e.symm))
      have hq : os[j].q ≠ os[i].q := fun e => hij ((List.getElem_inj (h₀ := by simpa using hi) (h₁ := by simpa using hj) h.qs).1 (by simpa using e.symm))
      refine hjo.blocks (hc _ _ _ hjo.rep (by decide)) (hk.block _ hjo.book.lt fun e => ?_) (hk.block _ hjo.qlt fun e => ?_) fun b hb => ?_
      · rcases e with e | e
        · exact hm e
        · exact hjo.book.ne_cells hio.box e.symm
      · rcases e with e | e
        · exact hio.book.ne_cells hjo.box e
        · exact hq e
      · obtain ⟨cur, hcur⟩ := row_cells hjo.list hb
        exact hc _ _ _ hcur (by decide)

/-- Where there is one replica more. -/
theorem LawAt.grow (h : LawAt N K w x pw pv qv os) {o : One} {pv' qv' : Value} (hk : Keep (fun b => b = pw ∨ pv.ownBlock = some b ∨ b = x ∨ qv.ownBlock = some b) w w')
    (hbox : w'.heap[x]? = some (.cells #[.pointer (some ⟨pw, 0, none⟩), qv'] 100 (0, 0))) (hrow : w'.ownsRow N 144 1 qv' (os.length + 1) ((os.map fun o => .pointer (some ⟨o.q, 0, none⟩)) ++ [.pointer (some ⟨o.q, 0, none⟩)]))
    (hW : WldAt w' pw pv' (os.map (·.p) ++ [o.p])) (hpv' : ∀ b, pv'.ownBlock = some b → N ≤ b) (ho : OneAt N K w' o) (hm : w.heap.size ≤ o.m) (hq : w.heap.size ≤ o.q) : LawAt N K w' x pw pv' qv' (os ++ [o]) := by
  have hc : ∀ (b : Nat) (c : Array Value) (t : Nat), w.heap[b]? = some (Obj.cells c t (0, 0)) → t ≠ 74 → t ≠ 77 → t ≠ 100 → t ≠ 144 → w'.heap[b]? = w.heap[b]? := fun b c t hb h1 h2 h3 h4 => hk.block b (Array.getElem?_eq_some_iff.1 hb).1 fun e => by
    rcases e with e | e | e | e
    · exact cells_ne hb h.wld.box h1 e
    · obtain ⟨cur, hcur⟩ := row_cells h.wld.row e
      exact cells_ne hb hcur h2 rfl
    · exact cells_ne hb h.box h3 e
    · obtain ⟨cur, hcur⟩ := row_cells h.row e
      exact cells_ne hb hcur h4 rfl
  refine ⟨hbox, by simpa using hrow, by simpa using hW, hpv', h.xN, h.pwN, fun r hr => ?_, ?_, ?_⟩
  · rcases List.mem_append.1 hr with hr | hr
    · have hro := h.ones r hr
      refine hro.blocks (hc _ _ _ hro.rep (by decide) (by decide) (by decide) (by decide)) (hk.block _ hro.book.lt fun e => ?_) (hc _ _ _ hro.box (by decide) (by decide) (by decide) (by decide)) fun b hb => ?_
      · rcases e with e | e | e | e
        · exact hro.book.ne_cells h.wld.box e.symm
        · obtain ⟨cur, hcur⟩ := row_cells h.wld.row e
          exact hro.book.ne_cells hcur rfl
        · exact hro.book.ne_cells h.box e.symm
        · obtain ⟨cur, hcur⟩ := row_cells h.row e
          exact hro.book.ne_cells hcur rfl
      · obtain ⟨cur, hcur⟩ := row_cells hro.list hb
        exact hc _ _ _ hcur (by decide) (by decide) (by decide) (by decide)
    · rw [List.mem_singleton.1 hr]; exact ho
  · rw [List.map_append, List.map_singleton]
    refine List.nodup_append.2 ⟨h.ms, by simp, fun a ha b hb e => ?_⟩
    obtain ⟨r, hr, rfl⟩ := List.mem_map.1 ha
    rw [List.mem_singleton.1 hb] at e
    have := (h.ones r hr).book.lt
    omega
  · rw [List.map_append, List.map_singleton]
    refine List.nodup_append.2 ⟨h.qs, by simp, fun a ha b hb e => ?_⟩
    obtain ⟨r, hr, rfl⟩ := List.mem_map.1 ha
    rw [List.mem_singleton.1 hb] at e
    have := (h.ones r hr).qlt
    omega
theorem LawAt.cell (h : LawAt N K w x pw pv qv os) {i : Nat} (hi : i < os.length) : ∃ g cap, qv = .slice (some ⟨g, 0, none⟩) os.length cap ∧ g < w.heap.size ∧ w.cell? ⟨g, i, none⟩ = some (.pointer (some ⟨os[i].q, 0, none⟩)) := by
  obtain ⟨h1, h2⟩ := h.row
  rcases h2 with ⟨_, h2⟩ | ⟨g, cap, cur, hv, _, hg, hn, _, _, ht⟩
  · omega
  · refine ⟨g, cap, hv, (Array.getElem?_eq_some_iff.1 hg).1, ?_⟩
    rw [Joins.cell_of_block hg i]
    have h3 : (os.map fun o => Value.pointer (some ⟨o.q, 0, none⟩))[i]? = some (.pointer (some ⟨os[i].q, 0, none⟩)) := by simp [hi]
    rw [← h3, ← ht, List.getElem?_take_of_lt (by omega)]
    simp
theorem LawAt.slice (h : LawAt N K w x pw pv qv os) : ∃ ad cap, qv = .slice ad os.length cap := by
  rcases h.row.2 with ⟨rfl, h0⟩ | ⟨q, cap, cur, rfl, _⟩
  · exact ⟨none, 0, by rw [h0]⟩
  · exact ⟨_, _, rfl⟩

theorem ins_length (l : List Reg) (x : Reg) : (ins l x).length ≤ l.length + 1 := by
  induction l with
  | nil => simp [ins]
  | cons y l ih => unfold ins; split <;> (try split) <;> simp <;> omega
theorem clockL_le {l : List Reg} {k : Int} (h0 : 0 ≤ k) (h : ∀ y ∈ l, y.c ≤ k) : clockL l ≤ k := by
  rcases clockL_mem l with e | ⟨y, hy, e⟩
  · omega
  · rw [← e]; exact h y hy
theorem smallB_spec {s : ByteArray} {k : Nat} (h : smallB s k = true) : letters s = true ∧ s.size ≠ 0 ∧ s.size ≤ k := by
  simp only [smallB, Bool.and_eq_true, decide_eq_true_eq] at h
  exact ⟨h.1.1, by omega, h.2⟩

/-- What a write leaves, of both. -/
structure Wrote (K : Nat) (L l : List Reg) : Prop where
  bk : Bk L l
  len : l.length ≤ K
  cnt : ∀ y ∈ l, 0 ≤ y.c ∧ y.c ≤ K ∧ I64 y.r
theorem Wrote.more {K' : Nat} {L l : List Reg} (h : Wrote K L l) (hK : K ≤ K') : Wrote K' L l :=
  ⟨h.bk, Nat.le_trans h.len hK, fun y hy => ⟨(h.cnt y hy).1, by have := (h.cnt y hy).2.1; omega, (h.cnt y hy).2.2⟩⟩
theorem Wrote.take {L l : List Reg} (h : Wrote K L l) {n f v : ByteArray} {id : Int} (hid : I64 id) (hg : Good ⟨n, f, clockL l + 1, id, v⟩) : Wrote (K + 1) (takeL L ⟨n, f, clockL L + 1, id, v⟩) (withD l ⟨n, f, clockL l + 1, id, v⟩) := by
  rw [withD_ins h.bk.sorted, h.bk.clock]
  have hc : clockL l ≤ K := clockL_le (by omega) fun y hy => (h.cnt y hy).2.1
  have h0 := clockL_nonneg l
  refine ⟨h.bk.take hg, Nat.le_trans (ins_length _ _) (by have := h.len; omega), fun y hy => ?_⟩
  rcases ins_mem hy with rfl | hy
  · exact ⟨show (0 : Int) ≤ clockL l + 1 by omega, show clockL l + 1 ≤ ((K + 1 : Nat) : Int) by omega, hid⟩
  · exact ⟨(h.cnt y hy).1, by have := (h.cnt y hy).2.1; omega, (h.cnt y hy).2.2⟩
theorem Wrote.put {L l : List Reg} (h : Wrote K L l) {id : Int} (hid : I64 id) (n f v : ByteArray) : Wrote (K + 1) (putP L id n f v).1 (putD l id n f v).1 ∧ (putP L id n f v).2 = (putD l id n f v).2 := by
  unfold putP putD
  cases h1 : smallB n 8 with
  | false => exact ⟨h.more (by omega), rfl⟩
  | true =>
    cases h2 : smallB f 4 with
    | false => exact ⟨h.more (by omega), rfl⟩
    | true =>
      by_cases h3 : 20 < v.size
      · simp only [h3, if_true]; exact ⟨h.more (by omega), trivial⟩
      · simp only [h3, if_true, if_false]
        obtain ⟨a1, a2, a3⟩ := smallB_spec h1
        obtain ⟨b1, b2, b3⟩ := smallB_spec h2
        exact ⟨h.take hid ⟨a1, a2, a3, b1, b3, by show v.size ≤ 20; omega⟩, trivial⟩
theorem Wrote.delete {L l : List Reg} (h : Wrote K L l) {id : Int} (hid : I64 id) (n : ByteArray) : Wrote (K + 1) (deleteP L id n).1 (deleteD l id n).1 ∧ (deleteP L id n).2 = (deleteD l id n).2 := by
  unfold deleteP deleteD
  cases h1 : smallB n 8 with
  | false => exact ⟨h.more (by omega), rfl⟩
  | true =>
    rw [h.bk.shown]
    cases h2 : (fieldsD l n).isEmpty with
    | true => simp only [if_true]; exact ⟨h.more (by omega), trivial⟩
    | false =>
      simp only [if_true]
      obtain ⟨a1, a2, a3⟩ := smallB_spec h1
      exact ⟨h.take hid ⟨a1, a2, a3, rfl, Nat.zero_le _, Nat.zero_le _⟩, rfl⟩
theorem OneAt.wrote {o : One} (h : OneAt N K w o) : Wrote K o.L o.l := ⟨h.bk, h.len, h.cnt⟩
end Go.Proofs.YtpdbmpbmepkikaaGreatDoor

namespace Go.Proofs.YtpdbmpbmepkikaaGreatDoor
open Go.RowKit

/-- A row that the caller spoils. -/
def Spoilt (g e size : Nat) (W : World) : Prop := ∃ cur, W.heap[g]? = some (.cells cur e (0, 0)) ∧ size ≤ cur.size
theorem Spoilt.cell {g e size : Nat} {W : World} (h : Spoilt g e size W) {j : Nat} (hj : j < size) : ∃ u, W.cell? ⟨g, j, none⟩ = some u := by
  obtain ⟨cur, hg, hs⟩ := h
  exact ⟨cur[j]'(by omega), by rw [Joins.cell_of_block hg j]; simp⟩
theorem Spoilt.frozen {g e size : Nat} {W : World} (h : Spoilt g e size W) (j : Nat) : W.frozen? ⟨g, j, none⟩ = false := by
  obtain ⟨cur, hg, hs⟩ := h
  exact Joins.unfrozen_of_block hg j
theorem Spoilt.set {g e size : Nat} {W : World} (h : Spoilt g e size W) (j : Nat) (v : Value) : Spoilt g e size (W.setCell ⟨g, j, none⟩ v) := by
  obtain ⟨cur, hg, hs⟩ := h
  refine ⟨cur.setIfInBounds j v, ?_, by simpa using hs⟩
  simp only [World.setCell, Array.getElem?_modify, hg, Option.map_some, if_true]
  rfl

set_option maxHeartbeats 1000000 in
theorem namesW_any (pw : Nat) (lv : Value) (ps : List Nat) (i : Nat) (hi : i < ps.length) (id : Int) (m g0 : Nat) (L : List Reg) (pfx : ByteArray) (w : World) (hW : WldAt w pw lv ps) (hps : ps.length ≤ 1000000) (hR : RepAt w ps[i] id m g0) (hB : BookAt w m L) (hL : L.length ≤ 1000000) (hn : ∀ x ∈ L, x.name.size ≤ 4096) :
    Calls Tryz.prog 29 #[.pointer (some ⟨pw, 0, none⟩), .int .i64 i, .string pfx] w fun e w' => ∃ v xs, e = .returned v ∧ xs.Nodup ∧ (∀ n, n ∈ xs ↔ ∃ y ∈ L, y.name = n) ∧
      w'.ownsRow w.heap.size 9 1 v ((sortB xs).filter fun n => preB pfx n && !(shownL L n).isEmpty).length (((sortB xs).filter fun n => preB pfx n && !(shownL L n).isEmpty).map .string) ∧ Below w.heap.size w w' := by
  obtain ⟨gs, caps, hv, hg, hci⟩ := hW.cell hi
  subst hv
  obtain ⟨p, hp⟩ : ∃ p, p = ps[i] := ⟨_, rfl⟩
  rw [← hp] at hR hci
  have hcw : w.cell? ⟨pw, 0, none⟩ = some (.slice (some ⟨gs, 0, none⟩) ps.length caps) := Joins.cell_of_block hW.box 0
  obtain ⟨i0, hi9, hz0, hz1, hz2⟩ := info_parts info9
  have HC := Lib.hid (namesR_any p id m g0 L pfx w hR hB hL hn)
  have hii : (i : Int) < (ps.length : Int) := by omega
  clear hR hB hn hW hp
  go_enter Tryz.func29, Tryz.ntmps29
  go_wp2_with (go_at_call 47; refine HC.out.mono ?_; rintro e w1 ⟨v, xs, rfl, hnd, hmem, ho, hb⟩; refine Halt.of ?_)
  obtain ⟨N, hN⟩ : ∃ N, N = (sortB xs).filter fun n => preB pfx n && !(shownL L n).isEmpty := ⟨_, rfl⟩
  rw [← hN] at ho
  have hNl : N.length ≤ 1000000 := by
    have h1 := hnd.length_le_of_subset (l₂ := L.map (·.name)) (fun a ha => by
      obtain ⟨y, hy, rfl⟩ := (hmem a).1 ha
      exact List.mem_map_of_mem hy)
    have h2 : N.length ≤ (sortB xs).length := by rw [hN]; exact List.length_filter_le _ _
    rw [sortB_length] at h2
    simp at h1; omega
  have HX := Lib.hid (And.intro hnd (And.intro hmem (And.intro hN hb)))
  have hzb := hb.size
  clear hnd hmem hN hb HC hcw hci
  rcases ho.2 with ⟨rfl, h0⟩ | ⟨g, cap, cur, rfl, hgb, hgc, hnc, hcm, hcs, hct⟩
  · have hN0 := List.eq_nil_of_length_eq_zero h0
    subst hN0
    clear ho h0
    unfold Halt
    go_wp2_with (at_builtin; go_must (refine wpList_append_own_none rfl _ _ 51 rfl w.heap.size 9 i0 1 Tryz.underlying51 hi9 (.slice none 0 0) 0 [] rfl (World.ownsRow_nil _ _ _ _) rfl ?_))
    go_loopg [23] 0 (fun k s wr => s = .int .i64 0 ∧ wr = w1)
    case atStart => exact ⟨rfl, rfl⟩
    case round =>
      obtain ⟨rfl, rfl⟩ := hrel
      go_wp2
      go_ret
      obtain ⟨hnd, hmem, hN, hb⟩ := HX.out
      refine ⟨_, xs, rfl, hnd, hmem, ?_, hb⟩
      rw [← hN]
      exact World.ownsRow_nil _ _ _ _
  · have hgl := (Array.getElem?_eq_some_iff.1 hgc).1
    have hnews : ∀ j u, (N.map Value.string)[j]? = some u → w1.cell? ((⟨g, 0, none⟩ : Addr).add j) = some u := fun j u h => by
      have e : (⟨g, 0, none⟩ : Addr).add j = ⟨g, j, none⟩ := by unfold Addr.add; split <;> simp_all
      have hj : j < N.length := by have := (List.getElem?_eq_some_iff.1 h).1; simpa using this
      rw [e, Joins.cell_of_block hgc j, ← h, ← hct, List.getElem?_take_of_lt (by omega)]
      simp
    have hone : ∀ u ∈ N.map Value.string, u.oneCell' = true := fun u hu => by
      obtain ⟨x, _, rfl⟩ := List.mem_map.1 hu; rfl
    have hbig : N.length ≤ maxLen := Nat.le_trans hNl (by unfold maxLen; omega)
    have hS0 : Hid (Spoilt g 9 N.length w1) := Lib.hid ⟨cur, hgc, by omega⟩
    have HNew := Lib.hid (And.intro hnews hone)
    clear hnews hone ho hgc hct hcs
    unfold Halt
    go_wp2_with (at_builtin; go_must (refine wpList_append_own_at _ rfl _ _ 51 rfl w1.heap.size 9 i0 (.string ⟨#[]⟩) 1 16 Tryz.underlying51 hi9 hz0 hz1 hz2 rfl (by decide) (.slice none 0 0) 0 [] rfl (World.ownsRow_nil _ _ _ _) ⟨g, 0, none⟩ N.length cap (N.map .string) rfl (by simp) HNew.out.1 HNew.out.2 (by omega) (by omega) (Nat.le_refl _) ?_); intro v5 w5 hr5 hg5 _ hat; refine Halt.of ?_)
    have hS5 : Spoilt g 9 N.length w5 := by
      obtain ⟨cur, h1, h2⟩ := hS0.out
      exact ⟨cur, (hg5.block g hgl (by simp [Value.ownBlock])).trans h1, h2⟩
    have hne : v5.ownBlock ≠ some g := fun e => by
      rcases hat with h | h
      · rw [h] at e; simp [Value.ownBlock] at e
      · rw [h] at e; simp at e; omega
    rw [Nat.zero_add, List.nil_append] at hr5
    have hb5 : Below w.heap.size w w5 := (HX.out.2.2.2).trans ⟨hg5.os, hg5.tape, hg5.output, hg5.size, fun k hk => hg5.block k (by omega) (by simp [Value.ownBlock])⟩
    have HG := Lib.hid (And.intro hr5 (And.intro hne hb5))
    clear hr5 hg5 hat hne hb5 hS0 HNew
    unfold Halt
    go_wp2
    go_loopg [23] N.length (fun k s wr => ∃ j : Nat, s = .int .i64 j ∧ k + j = N.length ∧ Spoilt g 9 N.length wr ∧ Keep (fun b => b = g) w5 wr)
    case atStart => exact ⟨0, rfl, by omega, hS5, .refl _ _⟩
    case round =>
      obtain ⟨j, rfl, hk, hSp, hKp⟩ := hrel
      by_cases hj : j < N.length
      · obtain ⟨u, hu⟩ := hSp.cell hj
        have hf := hSp.frozen j
        have HSp := Lib.hid (And.intro hSp hKp)
        clear hSp hKp
        go_wp2
        go_roundg (gk - 1)
        case rel => exact ⟨j + 1, by go_simp, by omega, HSp.out.1.set j _, HSp.out.2.trans (Keep.setCell _ _ _ rfl)⟩
        case measure => omega
      · have hje : j = N.length := by omega
        subst hje
        have HSp := Lib.hid (And.intro hSp hKp)
        clear hSp hKp
        go_wp2
        go_ret
        obtain ⟨hnd, hmem, hN, hb⟩ := HX.out
        obtain ⟨hr5, hne, hb5⟩ := HG.out
        refine ⟨_, xs, rfl, hnd, hmem, ?_, below_keep hb5 HSp.out.2 (fun x hx e => by omega)⟩
        rw [← hN]
        exact ownsRow_block (ownsRow_base hr5 fun k hk => by have := (hr5.lt k hk).1; omega) fun k hk => HSp.out.2.block k (hr5.lt k hk).2 (fun e => hne (e ▸ hk))
end Go.Proofs.YtpdbmpbmepkikaaGreatDoor

namespace Go.Proofs.YtpdbmpbmepkikaaGreatDoor
open Go.RowKit
attribute [local go_sem] Oper.semAt_some

/-- What the loop keeps: the outer one's own; the variable of yield. -/
structure FlI' (bx : Nat) (W0 : World) (D0 : Nat → Prop) (yv : Value) (W : World) (D D' : Nat → Prop) : Prop where
  dom : ∀ b, D b ↔ D' b ∨ b = bx
  old : ∀ b, D' b → D0 b ∨ W0.heap.size < b
  box : W.heap[bx]? = some (.cells #[yv] 92 (0, 0))
  size : W0.heap.size ≤ W.heap.size
def FlI (bx : Nat) (W0 : World) (D0 : Nat → Prop) (yv : Value) (J : List Reg → World → (Nat → Prop) → Prop) (pre : List Reg) (W : World) (D : Nat → Prop) : Prop :=
  ∃ D', J pre W D' ∧ FlI' bx W0 D0 yv W D D'
theorem FlI.owned {bx : Nat} {W0 : World} {D0 : Nat → Prop} {yv : Value} {J : List Reg → World → (Nat → Prop) → Prop} (hJ : Owned J) : Owned (FlI bx W0 D0 yv J) := ⟨fun pre W D h b hb => by
    obtain ⟨D', hj, h⟩ := h
    rcases (h.dom b).1 hb with hb | rfl
    · exact hJ.lt _ _ _ hj b hb
    · exact (Array.getElem?_eq_some_iff.1 h.box).1,
  fun pre W D W' h ha => by
    obtain ⟨D', hj, h⟩ := h
    exact ⟨D', hJ.st _ _ _ _ hj ⟨ha.os, ha.tape, ha.output, ha.size, fun k hk => ha.block k ((h.dom k).2 (.inl hk))⟩, h.dom, h.old, (ha.block _ ((h.dom _).2 (.inr rfl))).trans h.box, Nat.le_trans h.size ha.size⟩⟩
theorem FlI'.left {bx : Nat} {W w1 Wd : World} {D0 D D' : Nat → Prop} {yv : Value} (h : FlI' bx W D0 yv Wd D D') (hb : Below W.heap.size W w1) (hbx : W.heap.size ≤ bx) (hL : Left (fun b => D0 b ∨ b = bx) w1 D Wd) : Left D0 W D' Wd :=
  ⟨⟨hL.1.os.trans hb.os, hL.1.tape.trans hb.tape, hL.1.output.trans hb.output, Nat.le_trans hb.size hL.1.size, fun k hk hn =>
    (hL.1.block k (Nat.lt_of_lt_of_le hk hb.size) (by rintro (h' | h'); exact hn h'; omega)).trans (hb.block k hk)⟩,
  fun b hb' => (h.old b hb').imp id fun x => Nat.le_of_lt x⟩
theorem FlI'.step {bx : Nat} {W0 w3 W' : World} {D0 D D' D'' : Nat → Prop} {yv : Value} (h : FlI' bx W0 D0 yv w3 D D') (hd0 : ∀ b, D0 b → b ≠ bx) (hbx : bx = W0.heap.size) (hL : Left D' w3 D'' W') :
    FlI' bx W0 D0 yv W' (fun b => D'' b ∨ b = bx) D'' ∧ Left D w3 (fun b => D'' b ∨ b = bx) W' := by
  have hz := h.size
  have hx := (Array.getElem?_eq_some_iff.1 h.box).1
  have nD : ¬ D' bx := fun hd => by
    rcases h.old bx hd with h1 | h1
    · exact hd0 bx h1 rfl
    · omega
  refine ⟨⟨fun b => Iff.rfl, fun b hb => ?_, (hL.1.block _ hx nD).trans h.box, Nat.le_trans hz hL.1.size⟩, hL.1.mono fun k _ hk => (h.dom k).2 (.inl hk), fun b hb => ?_⟩
  · rcases hL.2 b hb with h1 | h1
    · exact h.old b h1
    · exact .inr (by omega)
  · rcases hb with hb | hb
    · rcases hL.2 b hb with h1 | h1
      · exact .inl ((h.dom b).2 (.inl h1))
      · exact .inr h1
    · exact .inl ((h.dom b).2 (.inr hb))

theorem fields1_iter (bp bn p m g : Nat) (id : Int) (L : List Reg) (n : ByteArray) (w : World)
    (hcp : w.cell? ⟨bp, 0, none⟩ = some (.pointer (some ⟨p, 0, none⟩))) (hcn : w.cell? ⟨bn, 0, none⟩ = some (.string n)) (hR0 : RepAt w p id m g) (hB : BookAt w m L) (hL : L.length ≤ 1073741824) (hn : n.size ≤ 4096) :
    Iter Tryz.prog 67 #[.pointer (some ⟨bp, 0, none⟩), .pointer (some ⟨bn, 0, none⟩)] (fun x : Reg => #[.string x.field, .string x.value]) (fun xs => xs = shownL L n) (fun b => b = bp ∨ b = bn ∨ b = p ∨ b = m) w := by
  intro l J Jx W D0 hA hJ hJx hR hY h0
  have hB1 : BookAt W m L := hB.of_block (hA.block m (by simp))
  have hR1 : RepAt W p id m g := (hA.block p (by simp)).trans hR0
  have hcp1 : W.cell? ⟨bp, 0, none⟩ = some (.pointer (some ⟨p, 0, none⟩)) := (World.cell?_of_block (w := w) (hA.block bp (by simp))).trans hcp
  have hcn1 : W.cell? ⟨bn, 0, none⟩ = some (.string n) := (World.cell?_of_block (w := w) (hA.block bn (by simp))).trans hcn
  have hp1 := hR1.cell.2.1
  have lbp := World.block_lt_of_cell? W _ hcp1
  have lbn := World.block_lt_of_cell? W _ hcn1
  have lp := hR1.lt
  have lm := hB1.lt
  have hpm := hR1.ne hB1
  have HX := Lib.hid (And.intro hA (And.intro hJ (And.intro hJx (And.intro hR (And.intro hY h0)))))
  have HB := Lib.hid hB1
  clear hA hJ hJx hR hY h0 hB1 hB hcp hcn hR0 hR1
  refine callsIn_of_wp_marks Tryz.func67 rfl trivial ?_ rfl
  simp only [Tryz.ntmps67, List.size_toArray, List.length_cons, List.length_nil, Nat.reduceAdd, Nat.reduceSub, Array.replicate_succ, Array.replicate_zero, List.push_toArray, List.append_toArray, List.nil_append, List.cons_append]
  gi_wp2
  obtain ⟨w1, hw1⟩ : ∃ w1, w1 = W.alloc (.cells #[.func (.yield l) #[] #[]] 92) := ⟨_, rfl⟩
  have e0 : w1.cell? ⟨bp, 0, none⟩ = some (.pointer (some ⟨p, 0, none⟩)) := by rw [hw1]; go_simp
  have e1 : w1.cell? ⟨bn, 0, none⟩ = some (.string n) := by rw [hw1]; go_simp
  have e2 : w1.cell? ⟨p, 1, none⟩ = some (.map (some m)) := by rw [hw1]; go_simp
  have HW := Lib.hid hw1
  have HC := Lib.hid (shown_at m L n w1.drew (by rw [hw1]; exact (HB.out.alloc _).of_block rfl) hL hn)
  rw [← hw1]
  clear hw1
  refine wpIn_mono ?hreg (fun e a w h => NoPanic.imp e a w h)
  gi_region_with (gi_at_call 68; refine (callsIn_wide.2 HC.out).mono ?_; rintro e w2 ⟨lb, rfl, hx, hb⟩)
  all_goals
    refine NoPanic.normal ?_
    have HX2 := Lib.hid (And.intro hx hb)
    clear hx hb HC e0 e1 e2
    gi_wp2
    obtain ⟨⟨R, hit, hRR⟩, hb2⟩ := HX2.out
    clear HX2
    obtain ⟨hA, hJ, hJx, hR, hY, h0⟩ := HX.out
    have hz1 : w1.heap.size = W.heap.size + 1 := by rw [HW.out]; simp
    have hz2 : w1.drew.heap.size = W.heap.size + 1 := hz1
    have hbel1 : Below W.heap.size W w1 := by rw [HW.out]; exact (Below.refl _ _).alloc (Nat.le_refl _) _
    have hbel : Below W.heap.size W w2 := hbel1.drew.trans (hb2.mono (by rw [hz2]; omega))
    have hbx : w2.heap[W.heap.size]? = some (.cells #[.func (.yield l) #[] #[]] 92 (0, 0)) := (hb2.block _ (by rw [hz2]; omega)).trans (by rw [HW.out]; exact World.alloc_heap_new _ _)
    have hzw := hb2.size
    rw [hz2] at hzw
    have hD0lt := hJ.lt _ _ _ h0
    have hd0 : ∀ b, D0 b → b ≠ W.heap.size := fun b hb e => by have := hD0lt b hb; omega
    have hdm : ∀ b, D0 b → b ≠ m := fun b hb e => hR b hb (by simp [e])
    have H0 : FlI W.heap.size W D0 (.func (.yield l) #[] #[]) J [] w2 (fun b => D0 b ∨ b = W.heap.size) :=
      ⟨D0, hJ.st _ _ _ _ h0 ((Keep.of_below' (F := fun _ => False) hbel).abide fun b hb => ⟨hD0lt b hb, fun h => h⟩), ⟨fun b => Iff.rfl, fun b hb => .inl hb, hbx, hbel.size⟩⟩
    refine wp_rangeFunc (gf := 120) (lb := lb) rfl (callFunc_run Tryz.func120 rfl (by decide)) hit (fun b hb => (hRR b hb).1) (fun _ => rfl)
      (FlI W.heap.size W D0 (.func (.yield l) #[] #[]) J) (fun c pre W' D => c = .ret ∧ FlI W.heap.size W D0 (.func (.yield l) #[] #[]) Jx pre W' D) (FlI.owned hJ) (fun c => ⟨fun s w D h b hb => (FlI.owned hJx).lt s w D h.2 b hb, fun s w D w' h ha => ⟨h.1, (FlI.owned hJx).st s w D w' h.2 ha⟩⟩)
      (fun b => D0 b ∨ b = W.heap.size) (fun b hb hr => ?idis) H0 ?round ?done ?stop
    case idis =>
      rcases (hRR b hr).2 with h | h
      · rcases hb with hb | hb
        · exact hdm b hb h
        · omega
      · rw [hz2] at h
        rcases hb with hb | hb
        · have := hD0lt b hb; omega
        · omega
    case done =>
      rintro xs Wd D hxs ⟨D', hj, hI⟩ hLf hK hDK
      have hl := hI.left hbel (Nat.le_refl _) hLf
      have hkk : ¬ D' w2.heap.size := fun h => hDK ((hI.dom _).2 (.inl h))
      have hj' := hJ.st _ _ _ _ hj ((But.putObj Wd w2.heap.size (.deferred none)).abide hkk)
      have hl' : Left D0 W D' (Wd.putObj w2.heap.size (.deferred none)) := hl.step (Keep.putObj (F := fun b => b = w2.heap.size) Wd w2.heap.size _ rfl) (fun x hx e => by omega)
      have hfin : Hid (J xs (Wd.putObj w2.heap.size (.deferred none)) D' ∧ Left D0 W D' (Wd.putObj w2.heap.size (.deferred none))) := Lib.hid ⟨hj', hl'⟩
      clear HX HB hA hJ hJx hR hY h0 hbel hit hD0lt hd0 hdm H0 hj hI hLf hl hj' hl' hbx HW hRR hb2 hbel1
      gi_wp2
      refine ⟨by simp, .inl ⟨_, _, rfl, run_takeDeferred hK, ?_⟩⟩
      exact ⟨_, results_none rfl _ _ _, ⟨_, rfl⟩, .inl ⟨_, D', hxs, hfin.out.1, hfin.out.2⟩⟩
    case stop =>
      rintro c pre Wd D ⟨suf, hpre⟩ ⟨rfl, D', hj, hI⟩ hLf hK hDK
      have hl := hI.left hbel (Nat.le_refl _) hLf
      have hkk : ¬ D' w2.heap.size := fun h => hDK ((hI.dom _).2 (.inl h))
      have hj' := hJx.st _ _ _ _ hj ((But.putObj Wd w2.heap.size (.deferred none)).abide hkk)
      have hl' : Left D0 W D' (Wd.putObj w2.heap.size (.deferred none)) := hl.step (Keep.putObj (F := fun b => b = w2.heap.size) Wd w2.heap.size _ rfl) (fun x hx e => by omega)
      have hfin : Hid (Jx pre (Wd.putObj w2.heap.size (.deferred none)) D' ∧ Left D0 W D' (Wd.putObj w2.heap.size (.deferred none))) := Lib.hid ⟨hj', hl'⟩
      clear HX HB hA hJ hJx hR hY h0 hbel hit hD0lt hd0 hdm H0 hj hI hLf hl hj' hl' hbx HW hRR hb2 hbel1
      gi_wp2
      refine ⟨by simp, .inl ⟨_, _, rfl, run_takeDeferred hK, ?_⟩⟩
      exact ⟨_, results_none rfl _ _ _, ⟨_, rfl⟩, .inr ⟨_, D', ⟨suf, hpre⟩, hfin.out.1, hfin.out.2⟩⟩
    case round =>
      rintro l2 pre ⟨xn, xf, xc, xr, xv⟩ Wr D hl1 hl2 hDl ⟨suf, hS⟩ hI hD0
      obtain ⟨D', hj, hI⟩ := hI
      unfold Reg.val
      have hDlt : ∀ b, D b → b < Wr.heap.size := (FlI.owned hJ).lt pre Wr D ⟨D', hj, hI⟩
      have HI := Lib.hid (And.intro hj hI)
      have HS := Lib.hid hS
      have HALL := Lib.hid (And.intro hJ (And.intro hJx (And.intro hY (And.intro hd0 (And.intro hDlt hDl)))))
      have hbx1 := (hI.dom W.heap.size).2 (.inr rfl)
      clear HX HB hA hJ hJx hR hY h0 hbel hit hD0lt hd0 hdm H0 hbx HW hRR hb2 hbel1 hj hI hS
      gi_wp2
      refine ⟨⟨Keep.alloc _ _ _, fun b hb => hb.imp (fun h => h) (·.1)⟩, fun W2 hbut => ?_⟩
      have hcl : W2.heap[Wr.heap.size]? = some (.cells #[.string xn, .string xf, .int .i64 xc, .int .i64 xr, .string xv] 46 (0, 0)) := (hbut.block _ (by omega)).trans (World.alloc_heap_new _ _)
      have c1 : W2.cell? ⟨Wr.heap.size, 1, none⟩ = some (.string xf) := Joins.cell_of_block hcl 1
      have c4 : W2.cell? ⟨Wr.heap.size, 4, none⟩ = some (.string xv) := Joins.cell_of_block hcl 4
      obtain ⟨hj, hI⟩ := HI.out
      obtain ⟨hJ, hJx, hY, hd0, hDlt', hDl'⟩ := HALL.out
      have kb : ∀ b, D b → W2.heap[b]? = Wr.heap[b]? := fun b hb => (hbut.block b (fun e => hDl' (e ▸ hb))).trans (Below.heap_alloc _ _ _ (hDlt b hb))
      have hI2 : FlI' W.heap.size W D0 (.func (.yield l) #[] #[]) W2 D D' := ⟨hI.dom, hI.old, (kb _ hbx1).trans hI.box, Nat.le_trans hI.size (by rw [hbut.size]; simp)⟩
      have hj2 : J pre W2 D' := hJ.st _ _ _ _ hj ⟨hbut.os, hbut.tape, hbut.output, by rw [hbut.size]; simp, fun k hk => kb k ((hI.dom k).2 (.inl hk))⟩
      have q1 : W2.cell? ⟨W.heap.size, 0, none⟩ = some (.func (.yield l) #[] #[]) := Joins.cell_of_block hI2.box 0
      obtain ⟨fn, tmps, assign, body, hy, hRr⟩ := hY pre ⟨xn, xf, xc, xr, xv⟩ W2 D' ⟨suf, HS.out⟩ hj2
      have HRr := Lib.hid (RoundIn.inRound l2 hRr)
      have hyy : (Instr.yield l #[.string xf, .string xv]).run Tryz.prog W2 = .ok (.round l fn tmps assign body) W2 := hy
      have H2 := Lib.hid (And.intro hI2 hd0)
      clear hj hI hJ hJx hY hd0 hDlt' hDl' kb hI2 hj2 hbut HI HALL hcl hbx1 hy hRr
      gi_wp2
      refine HRr.out.mono ?_
      rintro e W' hend
      have hfin : Hid (∀ (D'' : Nat → Prop), Left D' W2 D'' W' → FlI' W.heap.size W D0 (.func (.yield l) #[] #[]) W' (fun b => D'' b ∨ b = W.heap.size) D'' ∧ Left (fun b => D b ∨ (Wr.heap.size ≤ b ∧ b < (Wr.alloc (.cells #[.string xn, .string xf, .int .i64 xc, .int .i64 xr, .string xv] 46)).heap.size)) W2 (fun b => D'' b ∨ b = W.heap.size) W') := Lib.hid fun D'' hL => by
        obtain ⟨f1, f2⟩ := H2.out.1.step H2.out.2 rfl hL
        exact ⟨f1, f2.shift (Keep.refl _ _) (fun b hb => .inl hb)⟩
      clear hyy H2 HRr
      rcases hend with ⟨rfl, D'', hj', hL'⟩ | ⟨rfl, D'', hj', hL'⟩
      · have HE := Lib.hid (And.intro hj' hL')
        clear hj' hL'
        gi_wp2
        exact ⟨_, ⟨D'', HE.out.1, (hfin.out _ HE.out.2).1⟩, (hfin.out _ HE.out.2).2⟩
      · have HE := Lib.hid (And.intro hj' hL')
        clear hj' hL'
        gi_wp2
        exact ⟨_, ⟨rfl, D'', HE.out.1, (hfin.out _ HE.out.2).1⟩, (hfin.out _ HE.out.2).2⟩
end Go.Proofs.YtpdbmpbmepkikaaGreatDoor

namespace Go.Proofs.YtpdbmpbmepkikaaGreatDoor
open Go.RowKit
attribute [local go_sem] Oper.semAt_some

theorem fields1_iterC (bp bn p m g : Nat) (id : Int) (L : List Reg) (n : ByteArray) (w : World)
    (hcp : w.cell? ⟨bp, 0, none⟩ = some (.pointer (some ⟨p, 0, none⟩))) (hcn : w.cell? ⟨bn, 0, none⟩ = some (.string n)) (hR0 : RepAt w p id m g) (hB : BookAt w m L) (hL : L.length ≤ 1073741824) (hn : n.size ≤ 4096) :
    IterC Tryz.prog 67 #[.pointer (some ⟨bp, 0, none⟩), .pointer (some ⟨bn, 0, none⟩)] (fun x : Reg => #[.string x.field, .string x.value]) (fun xs => xs = shownL L n) (fun b => b = bp ∨ b = bn ∨ b = p ∨ b = m) w := by
  intro cf cl J Jx W D0 ecf hA hJ hJx hR hY h0
  have hB1 : BookAt W m L := hB.of_block (hA.block m (by simp))
  have hR1 : RepAt W p id m g := (hA.block p (by simp)).trans hR0
  have hcp1 : W.cell? ⟨bp, 0, none⟩ = some (.pointer (some ⟨p, 0, none⟩)) := (World.cell?_of_block (w := w) (hA.block bp (by simp))).trans hcp
  have hcn1 : W.cell? ⟨bn, 0, none⟩ = some (.string n) := (World.cell?_of_block (w := w) (hA.block bn (by simp))).trans hcn
  have hp1 := hR1.cell.2.1
  have lbp := World.block_lt_of_cell? W _ hcp1
  have lbn := World.block_lt_of_cell? W _ hcn1
  have lp := hR1.lt
  have lm := hB1.lt
  have hpm := hR1.ne hB1
  have HX := Lib.hid (And.intro hA (And.intro hJ (And.intro hJx (And.intro hR (And.intro hY h0)))))
  have HB := Lib.hid hB1
  clear hA hJ hJx hR hY h0 hB1 hB hcp hcn hR0 hR1
  refine callsIn_of_wp_marks Tryz.func67 rfl trivial ?_ rfl
  simp only [Tryz.ntmps67, List.size_toArray, List.length_cons, List.length_nil, Nat.reduceAdd, Nat.reduceSub, Array.replicate_succ, Array.replicate_zero, List.push_toArray, List.append_toArray, List.nil_append, List.cons_append]
  gi_wp2
  obtain ⟨w1, hw1⟩ : ∃ w1, w1 = W.alloc (.cells #[.func (.func cf) #[] cl] 92) := ⟨_, rfl⟩
  have e0 : w1.cell? ⟨bp, 0, none⟩ = some (.pointer (some ⟨p, 0, none⟩)) := by rw [hw1]; go_simp
  have e1 : w1.cell? ⟨bn, 0, none⟩ = some (.string n) := by rw [hw1]; go_simp
  have e2 : w1.cell? ⟨p, 1, none⟩ = some (.map (some m)) := by rw [hw1]; go_simp
  have HW := Lib.hid hw1
  have HC := Lib.hid (shown_at m L n w1.drew (by rw [hw1]; exact (HB.out.alloc _).of_block rfl) hL hn)
  rw [← hw1]
  clear hw1
  refine wpIn_mono ?hreg (fun e a w h => NoPanic.imp e a w h)
  gi_region_with (gi_at_call 68; refine (callsIn_wide.2 HC.out).mono ?_; rintro e w2 ⟨lb, rfl, hx, hb⟩)
  all_goals
    refine NoPanic.normal ?_
    have HX2 := Lib.hid (And.intro hx hb)
    clear hx hb HC e0 e1 e2
    gi_wp2
    obtain ⟨⟨R, hit, hRR⟩, hb2⟩ := HX2.out
    clear HX2
    obtain ⟨hA, hJ, hJx, hR, hY, h0⟩ := HX.out
    have hz1 : w1.heap.size = W.heap.size + 1 := by rw [HW.out]; simp
    have hz2 : w1.drew.heap.size = W.heap.size + 1 := hz1
    have hbel1 : Below W.heap.size W w1 := by rw [HW.out]; exact (Below.refl _ _).alloc (Nat.le_refl _) _
    have hbel : Below W.heap.size W w2 := hbel1.drew.trans (hb2.mono (by rw [hz2]; omega))
    have hbx : w2.heap[W.heap.size]? = some (.cells #[.func (.func cf) #[] cl] 92 (0, 0)) := (hb2.block _ (by rw [hz2]; omega)).trans (by rw [HW.out]; exact World.alloc_heap_new _ _)
    have hzw := hb2.size
    rw [hz2] at hzw
    have hD0lt := hJ.lt _ _ _ h0
    have hd0 : ∀ b, D0 b → b ≠ W.heap.size := fun b hb e => by have := hD0lt b hb; omega
    have hdm : ∀ b, D0 b → b ≠ m := fun b hb e => hR b hb (by simp [e])
    have H0 : FlI W.heap.size W D0 (.func (.func cf) #[] cl) J [] w2 (fun b => D0 b ∨ b = W.heap.size) :=
      ⟨D0, hJ.st _ _ _ _ h0 ((Keep.of_below' (F := fun _ => False) hbel).abide fun b hb => ⟨hD0lt b hb, fun h => h⟩), ⟨fun b => Iff.rfl, fun b hb => .inl hb, hbx, hbel.size⟩⟩
    refine wp_rangeFunc (gf := 120) (lb := lb) rfl (callFunc_run Tryz.func120 rfl (by decide)) hit (fun b hb => (hRR b hb).1) (fun _ => rfl)
      (FlI W.heap.size W D0 (.func (.func cf) #[] cl) J) (fun c pre W' D => c = .ret ∧ FlI W.heap.size W D0 (.func (.func cf) #[] cl) Jx pre W' D) (FlI.owned hJ) (fun c => ⟨fun s w D h b hb => (FlI.owned hJx).lt s w D h.2 b hb, fun s w D w' h ha => ⟨h.1, (FlI.owned hJx).st s w D w' h.2 ha⟩⟩)
      (fun b => D0 b ∨ b = W.heap.size) (fun b hb hr => ?idis) H0 ?round ?done ?stop
    case idis =>
      rcases (hRR b hr).2 with h | h
      · rcases hb with hb | hb
        · exact hdm b hb h
        · omega
      · rw [hz2] at h
        rcases hb with hb | hb
        · have := hD0lt b hb; omega
        · omega
    case done =>
      rintro xs Wd D hxs ⟨D', hj, hI⟩ hLf hK hDK
      have hl := hI.left hbel (Nat.le_refl _) hLf
      have hkk : ¬ D' w2.heap.size := fun h => hDK ((hI.dom _).2 (.inl h))
      have hj' := hJ.st _ _ _ _ hj ((But.putObj Wd w2.heap.size (.deferred none)).abide hkk)
      have hl' : Left D0 W D' (Wd.putObj w2.heap.size (.deferred none)) := hl.step (Keep.putObj (F := fun b => b = w2.heap.size) Wd w2.heap.size _ rfl) (fun x hx e => by omega)
      have hfin : Hid (J xs (Wd.putObj w2.heap.size (.deferred none)) D' ∧ Left D0 W D' (Wd.putObj w2.heap.size (.deferred none))) := Lib.hid ⟨hj', hl'⟩
      clear HX HB hA hJ hJx hR hY h0 hbel hit hD0lt hd0 hdm H0 hj hI hLf hl hj' hl' hbx HW hRR hb2 hbel1
      gi_wp2
      refine ⟨by simp, .inl ⟨_, _, rfl, run_takeDeferred hK, ?_⟩⟩
      exact ⟨_, results_none rfl _ _ _, ⟨_, rfl⟩, .inl ⟨_, D', hxs, hfin.out.1, hfin.out.2⟩⟩
    case stop =>
      rintro c pre Wd D ⟨suf, hpre⟩ ⟨rfl, D', hj, hI⟩ hLf hK hDK
      have hl := hI.left hbel (Nat.le_refl _) hLf
      have hkk : ¬ D' w2.heap.size := fun h => hDK ((hI.dom _).2 (.inl h))
      have hj' := hJx.st _ _ _ _ hj ((But.putObj Wd w2.heap.size (.deferred none)).abide hkk)
      have hl' : Left D0 W D' (Wd.putObj w2.heap.size (.deferred none)) := hl.step (Keep.putObj (F := fun b => b = w2.heap.size) Wd w2.heap.size _ rfl) (fun x hx e => by omega)
      have hfin : Hid (Jx pre (Wd.putObj w2.heap.size (.deferred none)) D' ∧ Left D0 W D' (Wd.putObj w2.heap.size (.deferred none))) := Lib.hid ⟨hj', hl'⟩
      clear HX HB hA hJ hJx hR hY h0 hbel hit hD0lt hd0 hdm H0 hj hI hLf hl hj' hl' hbx HW hRR hb2 hbel1
      gi_wp2
      refine ⟨by simp, .inl ⟨_, _, rfl, run_takeDeferred hK, ?_⟩⟩
      exact ⟨_, results_none rfl _ _ _, ⟨_, rfl⟩, .inr ⟨_, D', ⟨suf, hpre⟩, hfin.out.1, hfin.out.2⟩⟩
    case round =>
      rintro l2 pre ⟨xn, xf, xc, xr, xv⟩ Wr D hl1 hl2 hDl ⟨suf, hS⟩ hI hD0
      obtain ⟨D', hj, hI⟩ := hI
      unfold Reg.val
      have hDlt : ∀ b, D b → b < Wr.heap.size := (FlI.owned hJ).lt pre Wr D ⟨D', hj, hI⟩
      have HI := Lib.hid (And.intro hj hI)
      have HS := Lib.hid hS
      have HALL := Lib.hid (And.intro hJ (And.intro hJx (And.intro hY (And.intro hd0 (And.intro hDlt hDl)))))
      have hbx1 := (hI.dom W.heap.size).2 (.inr rfl)
      clear HX HB hA hJ hJx hR hY h0 hbel hit hD0lt hd0 hdm H0 hbx HW hRR hb2 hbel1 hj hI hS
      gi_wp2
      refine ⟨⟨Keep.alloc _ _ _, fun b hb => hb.imp (fun h => h) (·.1)⟩, fun W2 hbut => ?_⟩
      have hcl : W2.heap[Wr.heap.size]? = some (.cells #[.string xn, .string xf, .int .i64 xc, .int .i64 xr, .string xv] 46 (0, 0)) := (hbut.block _ (by omega)).trans (World.alloc_heap_new _ _)
      have c1 : W2.cell? ⟨Wr.heap.size, 1, none⟩ = some (.string xf) := Joins.cell_of_block hcl 1
      have c4 : W2.cell? ⟨Wr.heap.size, 4, none⟩ = some (.string xv) := Joins.cell_of_block hcl 4
      obtain ⟨hj, hI⟩ := HI.out
      obtain ⟨hJ, hJx, hY, hd0, hDlt', hDl'⟩ := HALL.out
      have kb : ∀ b, D b → W2.heap[b]? = Wr.heap[b]? := fun b hb => (hbut.block b (fun e => hDl' (e ▸ hb))).trans (Below.heap_alloc _ _ _ (hDlt b hb))
      have hI2 : FlI' W.heap.size W D0 (.func (.func cf) #[] cl) W2 D D' := ⟨hI.dom, hI.old, (kb _ hbx1).trans hI.box, Nat.le_trans hI.size (by rw [hbut.size]; simp)⟩
      have hj2 : J pre W2 D' := hJ.st _ _ _ _ hj ⟨hbut.os, hbut.tape, hbut.output, by rw [hbut.size]; simp, fun k hk => kb k ((hI.dom k).2 (.inl hk))⟩
      have q1 : W2.cell? ⟨W.heap.size, 0, none⟩ = some (.func (.func cf) #[] cl) := Joins.cell_of_block hI2.box 0
      have hRr := hY pre ⟨xn, xf, xc, xr, xv⟩ W2 D' ⟨suf, HS.out⟩ hj2
      have HRr := Lib.hid (CallsIn.inRound l2 hRr)
      have H2 := Lib.hid (And.intro hI2 hd0)
      clear hj hI hJ hJx hY hd0 hDlt' hDl' kb hI2 hj2 hbut HI HALL hcl hbx1 hRr
      gi_wp2
      refine HRr.out.mono ?_
      rintro e W' hend
      have hfin : Hid (∀ (D'' : Nat → Prop), Left D' W2 D'' W' → FlI' W.heap.size W D0 (.func (.func cf) #[] cl) W' (fun b => D'' b ∨ b = W.heap.size) D'' ∧ Left (fun b => D b ∨ (Wr.heap.size ≤ b ∧ b < (Wr.alloc (.cells #[.string xn, .string xf, .int .i64 xc, .int .i64 xr, .string xv] 46)).heap.size)) W2 (fun b => D'' b ∨ b = W.heap.size) W') := Lib.hid fun D'' hL => by
        obtain ⟨f1, f2⟩ := H2.out.1.step H2.out.2 rfl hL
        exact ⟨f1, f2.shift (Keep.refl _ _) (fun b hb => .inl hb)⟩
      clear H2 HRr
      rcases hend with ⟨rfl, D'', hj', hL'⟩ | ⟨rfl, D'', hj', hL'⟩
      · have HE := Lib.hid (And.intro hj' hL')
        clear hj' hL'
        gi_wp2
        exact ⟨_, ⟨D'', HE.out.1, (hfin.out _ HE.out.2).1⟩, (hfin.out _ HE.out.2).2⟩
      · have HE := Lib.hid (And.intro hj' hL')
        clear hj' hL'
        gi_wp2
        exact ⟨_, ⟨rfl, D'', HE.out.1, (hfin.out _ HE.out.2).1⟩, (hfin.out _ HE.out.2).2⟩
end Go.Proofs.YtpdbmpbmepkikaaGreatDoor

namespace Go.Proofs.YtpdbmpbmepkikaaGreatDoor
open Go.RowKit
attribute [local go_sem] Oper.semAt_some

theorem fieldsR_any (p : Nat) (n : ByteArray) (w : World) :
    Calls Tryz.prog 44 #[.pointer (some ⟨p, 0, none⟩), .string n] w fun e w' => e = .returned (.func (.func 67) #[] #[.pointer (some ⟨w.heap.size, 0, none⟩), .pointer (some ⟨w.heap.size + 1, 0, none⟩)]) ∧
      w' = (w.alloc (.cells #[.pointer (some ⟨p, 0, none⟩)] 77)).alloc (.cells #[.string n] 9) := by
  go_enter Tryz.func44, Tryz.ntmps44
  go_wp2
  go_ret
  exact ⟨rfl, rfl⟩

theorem fvs_snoc (l : List Reg) (x : Reg) : fvs (l ++ [x]) = fvs l ++ [x.field, x.value] := by simp [fvs]

/-- The first round: what is gathered, and the variable ok. -/
structure FdI (N : Nat) (pre : List Reg) (W : World) (D : Nat → Prop) (v : Value) : Prop where
  acc : AccAt W N 51 9 1 v (2 * pre.length) ((fvs pre).map .string)
  ok : W.heap[N + 1]? = some (.cells #[.bool true] 4 (0, 0))
  dom : D = fun b => accD N v b ∨ b = N + 1
theorem FdI.owned (N : Nat) : Owned (fun pre W D => ∃ v, FdI N pre W D v) := ⟨fun pre W D ⟨v, h⟩ b hb => by
    rw [h.dom] at hb
    rcases hb with hb | rfl
    · exact h.acc.lt b hb
    · exact (Array.getElem?_eq_some_iff.1 h.ok).1,
  fun pre W D W' ⟨v, h⟩ ha => ⟨v, h.acc.abide fun b hb => ha.block b (by rw [h.dom]; exact .inl hb), (ha.block _ (by rw [h.dom]; exact .inr rfl)).trans h.ok, h.dom⟩⟩

/-- The second round: what the closure's variables hold. -/
def SecJ (bo bn bk bl : Nat) (F : List Reg) (lv : Value) (D2 : Nat → Prop) (last : Bool) (pre : List Reg) (W : World) (D : Nat → Prop) : Prop :=
  ∃ no k, F45 bo bn bk bl true no k lv W ∧ (last = false → no = false ∧ k = (2 * pre.length : Nat)) ∧ StrAt W lv (fvs F) ∧ D = D2
theorem SecJ.owned {bo bn bk bl : Nat} {F : List Reg} {lv : Value} {D2 : Nat → Prop} (h1 : ∀ b, D2 b ↔ (b = bo ∨ b = bn ∨ b = bk ∨ b = bl ∨ lv.ownBlock = some b)) (last : Bool) : Owned (SecJ bo bn bk bl F lv D2 last) := ⟨fun pre W D ⟨no, k, h, _, hs, e⟩ b hb => by
    subst e
    rcases (h1 b).1 hb with rfl | rfl | rfl | rfl | hb
    · exact (Array.getElem?_eq_some_iff.1 h.ok).1
    · exact (Array.getElem?_eq_some_iff.1 h.no).1
    · exact (Array.getElem?_eq_some_iff.1 h.k).1
    · exact (Array.getElem?_eq_some_iff.1 h.l).1
    · exact (World.ownsRow.lt hs b hb).2,
  fun pre W D W' ⟨no, k, h, hl, hs, e⟩ ha => by
    subst e
    exact ⟨no, k, ⟨(ha.block _ ((h1 _).2 (.inl rfl))).trans h.ok, (ha.block _ ((h1 _).2 (.inr (.inl rfl)))).trans h.no, (ha.block _ ((h1 _).2 (.inr (.inr (.inl rfl))))).trans h.k, (ha.block _ ((h1 _).2 (.inr (.inr (.inr (.inl rfl)))))).trans h.l⟩, hl, ownsRow_block hs fun g hg => ha.block g ((h1 g).2 (.inr (.inr (.inr (.inr hg))))), rfl⟩⟩

theorem second_any (bo bn bk bl bp bq p m g0 : Nat) (id : Int) (L : List Reg) (n : ByteArray) (lv : Value) (_W0 W : World) (D2 : Nat → Prop) (h1 : ∀ b, D2 b ↔ (b = bo ∨ b = bn ∨ b = bk ∨ b = bl ∨ lv.ownBlock = some b))
    (hcp : W.cell? ⟨bp, 0, none⟩ = some (.pointer (some ⟨p, 0, none⟩))) (hcn : W.cell? ⟨bq, 0, none⟩ = some (.string n)) (hR : RepAt W p id m g0) (hB : BookAt W m L) (hL : L.length ≤ 1073741824) (hn : n.size ≤ 4096) (hF : (shownL L n).length ≤ 1000000)
    (hd : bo ≠ bn ∧ bo ≠ bk ∧ bo ≠ bl ∧ bn ≠ bk ∧ bn ≠ bl ∧ bk ≠ bl) (hlv : ∀ b, lv.ownBlock = some b → b ≠ bo ∧ b ≠ bn ∧ b ≠ bk ∧ b ≠ bl)
    (hdis : ∀ b, D2 b → ¬ (b = bp ∨ b = bq ∨ b = p ∨ b = m)) (h45 : F45 bo bn bk bl true false 0 lv W) (hs : StrAt W lv (fvs (shownL L n))) :
    Calls Tryz.prog 67 #[.func (.func 45) #[] #[.pointer (some ⟨bo, 0, none⟩), .pointer (some ⟨bn, 0, none⟩), .pointer (some ⟨bk, 0, none⟩), .pointer (some ⟨bl, 0, none⟩)], .pointer (some ⟨bp, 0, none⟩), .pointer (some ⟨bq, 0, none⟩)] W fun e W' =>
      (∃ v, e = .returned v) ∧ (∃ no k, F45 bo bn bk bl true no k lv W') ∧ StrAt W' lv (fvs (shownL L n)) ∧ Keep D2 W W' := by
  obtain ⟨F, hFe⟩ : ∃ F, F = shownL L n := ⟨_, rfl⟩
  have hit := fields1_iterC bp bq p m g0 id L n W hcp hcn hR hB hL hn
  rw [← hFe] at hit hs hF ⊢
  have hc := hit 45 #[.pointer (some ⟨bo, 0, none⟩), .pointer (some ⟨bn, 0, none⟩), .pointer (some ⟨bk, 0, none⟩), .pointer (some ⟨bl, 0, none⟩)] (SecJ bo bn bk bl F lv D2 false) (SecJ bo bn bk bl F lv D2 true) W D2
    (callFunc_run Tryz.func45 rfl (by decide)) ⟨rfl, rfl, rfl, Nat.le_refl _, fun _ _ => rfl⟩ (SecJ.owned h1 false) (SecJ.owned h1 true) hdis ?_ ⟨false, 0, h45, fun _ => ⟨rfl, rfl⟩, hs, rfl⟩
  · refine (callsIn_wide (n := 0)).1 (hc.mono ?_)
    rintro e W' ⟨hv, (⟨xs, D', _, ⟨no, k, h, _, hs', rfl⟩, hL'⟩ | ⟨pre, D', _, ⟨no, k, h, _, hs', rfl⟩, hL'⟩)⟩
    · exact ⟨hv, ⟨no, k, h⟩, hs', hL'.1⟩
    · exact ⟨hv, ⟨no, k, h⟩, hs', hL'.1⟩
  · rintro pre x W1 D1 ⟨suf, hS⟩ ⟨no, k, h, hk, hs1, rfl⟩
    obtain ⟨rfl, rfl⟩ := hk rfl
    have hj : pre.length < F.length := by rw [← hS]; simp
    have hx : F[pre.length] = x := by simp [← hS]
    have := fields45_any bo bn bk bl F pre.length hj hF lv W1 h hs1 hd
    rw [hx] at this
    refine (callsIn_wide.2 this).mono ?_
    rintro e W' ⟨rfl, h', hk'⟩
    have hs' : StrAt W' lv (fvs F) := ownsRow_block hs1 fun g hg => hk'.block g (World.ownsRow.lt hs1 g hg).2 (by obtain ⟨a, b, c, d⟩ := hlv g hg; rintro (e | e | e) <;> contradiction)
    have hL' : Left D1 W1 D1 W' := ⟨hk'.mono fun b _ hb => (h1 b).2 (by rcases hb with h | h | h <;> simp [h]), fun b hb => .inl hb⟩
    by_cases hle : 2 * pre.length + 2 ≤ F.length
    · exact .inl ⟨by simp [hle], D1, ⟨_, _, h', fun _ => ⟨by simp; omega, by simp⟩, hs', rfl⟩, hL'⟩
    · exact .inr ⟨by simp [hle], D1, ⟨_, _, h', (fun h => Bool.noConfusion h), hs', rfl⟩, hL'⟩

set_option maxHeartbeats 2000000 in
theorem fieldsW_any (pw : Nat) (lv : Value) (ps : List Nat) (i : Nat) (hi : i < ps.length) (id : Int) (m g0 : Nat) (L : List Reg) (n : ByteArray) (w : World) (hW : WldAt w pw lv ps) (hps : ps.length ≤ 1000000) (hR : RepAt w ps[i] id m g0) (hB : BookAt w m L) (hL : L.length ≤ 500000) (hn : n.size ≤ 4096) :
    Calls Tryz.prog 27 #[.pointer (some ⟨pw, 0, none⟩), .int .i64 i, .string n] w fun e w' => ∃ v, e = .returned (.tuple #[v, .bool true]) ∧ w'.ownsRow w.heap.size 9 1 v (fvs (shownL L n)).length ((fvs (shownL L n)).map .string) ∧ Below w.heap.size w w' := by
  obtain ⟨gs, caps, hv, hg, hci⟩ := hW.cell hi
  subst hv
  obtain ⟨p, hp⟩ : ∃ p, p = ps[i] := ⟨_, rfl⟩
  rw [← hp] at hR hci
  have hcw : w.cell? ⟨pw, 0, none⟩ = some (.slice (some ⟨gs, 0, none⟩) ps.length caps) := Joins.cell_of_block hW.box 0
  have hpwl := (Array.getElem?_eq_some_iff.1 hW.box).1
  obtain ⟨i0, hi9, hq0, hq1, hq2⟩ := info_parts info9
  have hii : (i : Int) < (ps.length : Int) := by omega
  have hpl := hR.lt
  have hml := hB.lt
  have hpm := hR.ne hB
  have HB := Lib.hid (And.intro hR hB)
  clear hR hB hW hp
  refine (callsIn_wide (n := 0)).1 (callsIn_of_wp_marks Tryz.func27 rfl trivial ?_ rfl)
  simp only [Tryz.ntmps27, List.size_toArray, List.length_cons, List.length_nil, Nat.reduceAdd, Nat.reduceSub, Array.replicate_succ, Array.replicate_zero, List.push_toArray, List.append_toArray, List.nil_append, List.cons_append]
  gi_wp2_with (gi_at_call 44; refine (callsIn_wide.2 (fieldsR_any p n _)).mono ?_; rintro e w1 ⟨rfl, hw1⟩; have HW := Lib.hid hw1; clear hw1)
  obtain ⟨hR, hB⟩ := HB.out
  have hbel : Below w.heap.size w w1 := by rw [HW.out]; exact ((((Below.refl _ _).alloc (Nat.le_refl _) _).alloc (by simp) _).alloc (by simp; omega) _).alloc (by simp; omega) _
  have hz1 : w1.heap.size = w.heap.size + 4 := by rw [HW.out]; simp
  have hbl : w1.heap[w.heap.size]? = some (.cells #[.slice none 0 0] 51 (0, 0)) := by rw [HW.out]; simp only [World.alloc]; grind
  have hbo : w1.heap[w.heap.size + 1]? = some (.cells #[.bool true] 4 (0, 0)) := by rw [HW.out]; simp only [World.alloc]; grind
  have hcp : w1.cell? ⟨w.heap.size + 1 + 1, 0, none⟩ = some (.pointer (some ⟨p, 0, none⟩)) := by rw [HW.out]; go_simp
  have hcn : w1.cell? ⟨w.heap.size + 1 + 1 + 1, 0, none⟩ = some (.string n) := by rw [HW.out]; go_simp
  have hR1 : RepAt w1 p id m g0 := (hbel.block p hpl).trans hR
  have hB1 : BookAt w1 m L := hB.below hbel
  have hit := fields1_iter (w.heap.size + 1 + 1) (w.heap.size + 1 + 1 + 1) p m g0 id L n w1 hcp hcn hR1 hB1 (by omega) hn
  have hSl : (shownL L n).length ≤ 500000 := by
    refine Nat.le_trans (List.length_filter_le _ _) ?_
    unfold belowL
    rw [List.length_map, sortB_length]
    exact Nat.le_trans (List.length_filter_le _ _) (by simpa using hL)
  refine wp_rangeFunc (gf := 67) (lb := #[.pointer (some ⟨w.heap.size + 1 + 1, 0, none⟩), .pointer (some ⟨w.heap.size + 1 + 1 + 1, 0, none⟩)]) rfl (callFunc_run Tryz.func67 rfl (by decide)) hit (fun b hb => by rcases hb with rfl | rfl | rfl | rfl <;> omega) (fun _ => rfl)
    (fun pre W D => ∃ v, FdI w.heap.size pre W D v) (fun _ _ _ _ => False) (FdI.owned _) (fun _ => ⟨fun _ _ _ h => h.elim, fun _ _ _ _ h => h.elim⟩)
    (fun b => accD w.heap.size (.slice none 0 0) b ∨ b = w.heap.size + 1) (fun b hb => ?idis) ⟨_, ⟨hbl, World.ownsRow_nil _ _ _ _⟩, hbo, rfl⟩ ?round ?done ?stop
  case idis =>
    rcases hb with (rfl | hb) | rfl
    · rintro (h | h | h | h) <;> omega
    · cases hb
    · rintro (h | h | h | h) <;> omega
  case stop => exact fun _ _ _ _ _ h => h.elim
  case round =>
    rintro l pre ⟨xn, xf, xc, xr, xv⟩ W D hl1 hl2 hDl ⟨suf, hS⟩ ⟨v, hI⟩ hD0
    have hlen : pre.length + 1 ≤ 500000 := by rw [← hS] at hSl; simp at hSl; omega
    have HI := Lib.hid hI
    have hd := hI.dom
    subst hd
    clear hit hbel hbl hbo hcp hcn hR1 hB1 hI hS hR hB hci hcw
    gi_wp2
    refine ⟨⟨.refl _ _, fun b hb => hb.imp (fun h => h) (·.1)⟩, fun W2 hbut => ?_⟩
    have kb : ∀ b, (accD w.heap.size v b ∨ b = w.heap.size + 1) → W2.heap[b]? = W.heap[b]? := fun b hb => hbut.block b (fun e => hDl (e ▸ hb))
    have hacc2 : AccAt W2 w.heap.size 51 9 1 v (2 * pre.length) ((fvs pre).map .string) := HI.out.acc.abide fun b hb => kb b (.inl hb)
    have hok2 : W2.heap[w.heap.size + 1]? = some (.cells #[.bool true] 4 (0, 0)) := (kb _ (.inr rfl)).trans HI.out.ok
    obtain ⟨hc, hf⟩ := hacc2.cell
    have hrow := hacc2.row
    have hlt2 := hacc2.lt
    have hN2 := hlt2 _ (.inl rfl)
    have hokl := (Array.getElem?_eq_some_iff.1 hok2).1
    have HA := Lib.hid hacc2
    have HOk := Lib.hid hok2
    clear hacc2 hbut hDl hD0 hlt2 hok2 kb
    gi_wp2_with (gi_at_builtin; go_must (refine wpListIn_append_own_at _ rfl _ _ 51 rfl (w.heap.size + 1) 9 i0 (.string ⟨#[]⟩) 1 16 Tryz.underlying51 hi9 hq0 hq1 hq2 rfl (by decide) v (2 * pre.length) ((fvs pre).map .string) rfl (hrow.alloc _) ⟨W2.heap.size, 0, none⟩ 2 2 [.string xf, .string xv] rfl rfl (newsAt (by first | rfl | simp) _ _ rfl) (by simp [Value.oneCell']) (by unfold maxLen; omega) (by omega) (by simp; omega) ?_); intro v' w3 ho' hg' _ hat; refine Halt.of ?_)
    obtain ⟨g', cap', hv'⟩ := ownsRow_succ ho'
    have hap := Lib.hid (AccAt.appended (AccAt.abide HA.out (fun b hb => Below.heap_alloc _ _ _ (AccAt.lt HA.out b hb))) hg' ho' hat)
    have hnb : some w.heap.size ≠ v.ownBlock := fun e => by have := (hrow.lt _ e.symm).1; omega
    have hnb1 : some (w.heap.size + 1) ≠ v.ownBlock := fun e => by
      obtain ⟨h1, h2⟩ := hrow
      rcases h2 with ⟨rfl, _⟩ | ⟨g, cap, cur, rfl, _, hg, _⟩
      · cases e
      · simp only [Value.ownBlock, Option.some.injEq] at e
        subst e
        rw [HOk.out] at hg; cases hg
    have hc1 : w3.cell? ⟨w.heap.size, 0, none⟩ = some v := (World.cell?_of_block (w := W2.alloc (.cells #[.string xf, .string xv] 9)) (hg'.block _ (by simp; omega) hnb)).trans ((World.cell?_of_block (w := W2) (Below.heap_alloc _ _ _ hN2)).trans hc)
    have hf1 : w3.frozen? ⟨w.heap.size, 0, none⟩ = false := (World.frozen?_of_block (w := W2.alloc (.cells #[.string xf, .string xv] 9)) (hg'.block _ (by simp; omega) hnb)).trans ((World.frozen?_of_block (w := W2) (Below.heap_alloc _ _ _ hN2)).trans hf)
    have hok3 : Hid (w3.heap[w.heap.size + 1]? = some (.cells #[.bool true] 4 (0, 0))) := Lib.hid ((hg'.block _ (by simp; omega) hnb1).trans ((Below.heap_alloc _ _ _ hokl).trans HOk.out))
    clear hrow hat hg' ho' hi9 hq0 hq1 hq2 hc hf hnb hnb1
    subst hv'
    unfold Halt
    gi_wp2
    obtain ⟨h1, h2⟩ := hap.out
    have h4 : FdI w.heap.size (pre ++ [(⟨xn, xf, xc, xr, xv⟩ : Reg)]) _ (fun b => accD w.heap.size (.slice (some ⟨g', 0, none⟩) (2 * pre.length + 1 + 1) cap') b ∨ b = w.heap.size + 1) (.slice (some ⟨g', 0, none⟩) (2 * pre.length + 1 + 1) cap') :=
      ⟨by rw [fvs_snoc, List.map_append, List.length_append]; exact h1, (Below.heap_setCell _ _ _ _ (by simp)).trans hok3.out, rfl⟩
    refine ⟨_, ⟨_, h4⟩, ?_⟩
    have h3 := h2.shift (Keep.alloc (fun _ => False) W2 (.cells #[.string xf, .string xv] 9)) (E := fun b => (accD w.heap.size v b ∨ b = w.heap.size + 1) ∨ (W.heap.size ≤ b ∧ b < W.heap.size)) fun _ h => .inl (.inl h)
    refine ⟨h3.1, fun b hb => ?_⟩
    rcases hb with hb | hb
    · exact h3.2 b hb
    · exact .inl (.inl (.inr hb))
  case done =>
    rintro xs W D hxs ⟨v, hI⟩ hLf hK hDK
    subst hxs
    have hd := hI.dom
    subst hd
    have hKl := (Array.getElem?_eq_some_iff.1 hK).1
    have hok := hI.ok
    obtain ⟨hbox, hrow⟩ := hI.acc
    have hWz := hLf.1.size
    obtain ⟨W2, hW2⟩ : ∃ W2, W2 = (W.alloc (.cells #[.int .i64 0] 3)).alloc (.cells #[.bool false] 4) := ⟨_, rfl⟩
    have hb2 : Below W.heap.size W W2 := by rw [hW2]; exact ((Below.refl _ _).alloc (Nat.le_refl _) _).alloc (by simp) _
    have hz2 : W2.heap.size = W.heap.size + 2 := by rw [hW2]; simp
    have hk2 : W2.heap[W.heap.size]? = some (.cells #[.int .i64 0] 3 (0, 0)) := by rw [hW2, Below.heap_alloc _ _ _ (by simp)]; exact World.alloc_heap_new _ _
    have hn2 : W2.heap[W.heap.size + 1]? = some (.cells #[.bool false] 4 (0, 0)) := by
      have := World.alloc_heap_new (W.alloc (.cells #[.int .i64 0] 3)) (.cells #[.bool false] 4)
      rw [World.size_alloc] at this; rw [hW2]; exact this
    have hgv : ∀ g, v.ownBlock = some g → w.heap.size < g ∧ g < W.heap.size ∧ (g = w.heap.size + 1 ∨ w.heap.size + 4 ≤ g) := fun g hg => by
      have h1 := hrow.lt g hg
      refine ⟨by omega, h1.2, ?_⟩
      rcases hLf.2 g (.inl (.inr hg)) with ((h | h) | h) | h
      · omega
      · cases h
      · omega
      · omega
    have hgv1 : ∀ g, v.ownBlock = some g → g ≠ w.heap.size + 1 := fun g hg e => by
      obtain ⟨h1, h2⟩ := hrow
      rcases h2 with ⟨rfl, _⟩ | ⟨g', cap, cur, rfl, _, hg', _⟩
      · cases hg
      · simp only [Value.ownBlock, Option.some.injEq] at hg
        subst hg
        rw [e, hok] at hg'; cases hg'
    have keepW : ∀ b, b < w1.heap.size → b ≠ w.heap.size → b ≠ w.heap.size + 1 → W2.heap[b]? = w1.heap[b]? := fun b hb h0 h1 => (hb2.block b (by omega)).trans (hLf.1.block b hb (by rintro ((h | h) | h); exact h0 h; cases h; exact h1 h))
    have hcall := second_any (w.heap.size + 1) (W.heap.size + 1) W.heap.size w.heap.size (w.heap.size + 1 + 1) (w.heap.size + 1 + 1 + 1) p m g0 id L n v w W2
      (fun b => b = w.heap.size + 1 ∨ b = W.heap.size + 1 ∨ b = W.heap.size ∨ b = w.heap.size ∨ v.ownBlock = some b) (fun b => Iff.rfl)
      ((World.cell?_of_block (w := w1) (a := ⟨_, _, none⟩) (keepW _ (by simp only; omega) (by simp only; omega) (by simp only; omega))).trans hcp) ((World.cell?_of_block (w := w1) (a := ⟨_, _, none⟩) (keepW _ (by simp only; omega) (by simp only; omega) (by simp only; omega))).trans hcn)
      ((keepW p (by omega) (by omega) (by omega)).trans hR1) (hB1.of_block (keepW m (by omega) (by omega) (by omega))) (by omega) hn (by omega) ⟨by omega, by omega, by omega, by omega, by omega, by omega⟩
      (fun b hb => by have h1 := hgv b hb; have h2 := hgv1 b hb; omega)
      (fun b hb => by
        rcases hb with rfl | rfl | rfl | rfl | hb
        · rintro (h | h | h | h) <;> omega
        · rintro (h | h | h | h) <;> omega
        · rintro (h | h | h | h) <;> omega
        · rintro (h | h | h | h) <;> omega
        · have h1 := hgv b hb; have h2 := hgv1 b hb; rintro (h | h | h | h) <;> omega)
      ⟨(hb2.block _ (by omega)).trans hok, hn2, hk2, (hb2.block _ (by omega)).trans hbox⟩
      (StrAt.of_row (by rw [fvs_length]; exact ownsRow_block hrow fun g hg => hb2.block g (hrow.lt g hg).2))
    have hBW2 : Below w.heap.size w W2 := (hLf.below hbel (fun b hb => by rcases hb with (h | h) | h; omega; cases h; omega)).trans (hb2.mono (by omega))
    have hdef : W2.heap[w1.heap.size]? = some (.deferred (some [])) := (hb2.block _ hKl).trans hK
    have hDn : v.ownBlock ≠ some w1.heap.size := fun e => hDK (.inl (.inr e))
    rw [hz1] at hdef hDn
    have HC := Lib.hid hcall
    have HF := Lib.hid (And.intro hBW2 (And.intro hdef (And.intro hDn (And.intro hgv hW2))))
    have hbigW : w.heap.size + 4 < W.heap.size := by omega
    rw [hW2] at HC
    clear hit hbel hbl hbo hcp hcn hR1 hB1 hR hB hci hcw hLf hK hDK hI hok hbox hrow hb2 hz2 hk2 hn2 hgv hgv1 keepW hcall hBW2 hdef hDn hW2 HB HW hKl
    gi_wp2_with (gi_at_call 67; refine (callsIn_wide.2 HC.out).mono ?_; rintro e W3 ⟨⟨rv, rfl⟩, ⟨no, k, h45⟩, hs3, hK3⟩; refine Halt.of ?_)
    have e0 : W3.cell? ⟨w.heap.size, 0, none⟩ = some v := Joins.cell_of_block h45.l 0
    have e1 : W3.cell? ⟨w.heap.size + 1, 0, none⟩ = some (.bool true) := Joins.cell_of_block h45.ok 0
    have HE := Lib.hid (And.intro hs3 hK3)
    clear h45 hs3 hK3 HC
    unfold Halt
    gi_wp2
    refine wpIn_mono ?hreg (fun e a w h => NoPanic.imp e a w h)
    gi_region_with (fail)
    all_goals
      refine NoPanic.normal ?_
      gi_wp2
      obtain ⟨hs3, hK3⟩ := HE.out
      obtain ⟨hBW2, hdef, hDn, hgv, hW2⟩ := HF.out
      rw [← hW2] at hK3
      have hdefl := (Array.getElem?_eq_some_iff.1 hdef).1
      have hz2 : W2.heap.size = W.heap.size + 2 := by rw [hW2]; simp
      have hdef3 : W3.drew.heap[w.heap.size + 4]? = some (.deferred (some [])) := (hK3.block _ hdefl (by rintro (h | h | h | h | h); omega; omega; omega; omega; exact hDn h)).trans hdef
      refine ⟨by simp, .inl ⟨_, _, rfl, run_takeDeferred hdef3, ?_⟩⟩
      refine ⟨_, results_tmp2 rfl _ _ _, v, rfl, ?_, ?_⟩
      · exact ownsRow_block (ownsRow_base (w := W3.drew) hs3 fun g hg => by have := (hgv g hg).1; omega) fun g hg => World.putObj_heap_other (fun e => hDn (e ▸ hg))
      · refine below_putObj (below_keep hBW2 (hK3.trans (Keep.drew _ _)) (fun x hx e => ?_)) (by omega) _
        rcases e with h | h | h | h | h
        · omega
        · omega
        · omega
        · omega
        · have := (hgv x h).1; omega
end Go.Proofs.YtpdbmpbmepkikaaGreatDoor

namespace Go.Proofs.YtpdbmpbmepkikaaGreatDoor
open Go.RowKit

/-- The eight bytes of a sum, as a text. -/
def digStr (h : Int) : ByteArray := ⟨#[UInt8.ofNat (h / 72057594037927936 % 256).toNat, UInt8.ofNat (h / 281474976710656 % 256).toNat, UInt8.ofNat (h / 1099511627776 % 256).toNat, UInt8.ofNat (h / 4294967296 % 256).toNat, UInt8.ofNat (h / 16777216 % 256).toNat, UInt8.ofNat (h / 65536 % 256).toNat, UInt8.ofNat (h / 256 % 256).toNat, UInt8.ofNat (h % 256).toNat]⟩

theorem digestW_any (pw : Nat) (lv : Value) (ps : List Nat) (i : Nat) (hi : i < ps.length) (id : Int) (m g0 : Nat) (L : List Reg) (pfx : ByteArray) (w : World) (hW : WldAt w pw lv ps) (hps : ps.length ≤ 1000000) (hR : RepAt w ps[i] id m g0) (hB : BookAt w m L) (hL : L.length ≤ 1000000) (ht : Tab w) (hF : ∀ x ∈ L, Fit x) :
    Calls Tryz.prog 20 #[.pointer (some ⟨pw, 0, none⟩), .int .i64 i, .string pfx] w fun e w' => e = .returned (.string (digStr (hashL (belowL L pfx)))) ∧ Below w.heap.size w w' := by
  obtain ⟨gs, caps, hv, hg, hci⟩ := hW.cell hi
  subst hv
  obtain ⟨p, hp⟩ : ∃ p, p = ps[i] := ⟨_, rfl⟩
  rw [← hp] at hR hci
  have hcw : w.cell? ⟨pw, 0, none⟩ = some (.slice (some ⟨gs, 0, none⟩) ps.length caps) := Joins.cell_of_block hW.box 0
  have hii : (i : Int) < (ps.length : Int) := by omega
  have HC := Lib.hid (digestR_any p id m g0 L pfx w hR hB (by omega) ht hF)
  obtain ⟨h, hh⟩ : ∃ h, h = hashL (belowL L pfx) := ⟨_, rfl⟩
  rw [← hh] at HC ⊢
  clear hW hp hR hB ht hF hh
  unfold digV at HC
  go_enter Tryz.func20, Tryz.ntmps20
  go_wp2_with (go_at_call 38; go_must (refine HC.out.mono ?_); rintro e w1 ⟨rfl, hb⟩; refine Halt.of ?_)
  have hby : ∀ z : Int, ((UInt8.ofNat (z % 256).toNat).toNat : Int) = z % 256 := fun z => by
    have h1 := Int.emod_nonneg z (show (256 : Int) ≠ 0 by decide)
    have h2 := Int.emod_lt_of_pos z (show (0 : Int) < 256 by decide)
    simp only [UInt8.toNat_ofNat']
    omega
  have hconv : (convert 79 9 (.slice (some ⟨w1.heap.size, 0, none⟩) 8 8)).run Tryz.prog (w1.alloc (.cells #[.int .u8 (h / 72057594037927936 % 256), .int .u8 (h / 281474976710656 % 256), .int .u8 (h / 1099511627776 % 256), .int .u8 (h / 4294967296 % 256), .int .u8 (h / 16777216 % 256), .int .u8 (h / 65536 % 256), .int .u8 (h / 256 % 256), .int .u8 (h % 256)] 76)) =
      .ok (.string (digStr h)) (w1.alloc (.cells #[.int .u8 (h / 72057594037927936 % 256), .int .u8 (h / 281474976710656 % 256), .int .u8 (h / 1099511627776 % 256), .int .u8 (h / 4294967296 % 256), .int .u8 (h / 16777216 % 256), .int .u8 (h / 65536 % 256), .int .u8 (h / 256 % 256), .int .u8 (h % 256)] 76)) := by
    refine run_convert_bytes_back (P := Tryz.prog) _ 79 9 5 ⟨w1.heap.size, 0, none⟩ 8 (digStr h).data.toList Tryz.underlying79 Tryz.underlying5 Tryz.underlying9 (fun j hj => ?_)
    refine newsAt rfl [.int .u8 (h / 72057594037927936 % 256), .int .u8 (h / 281474976710656 % 256), .int .u8 (h / 1099511627776 % 256), .int .u8 (h / 4294967296 % 256), .int .u8 (h / 16777216 % 256), .int .u8 (h / 65536 % 256), .int .u8 (h / 256 % 256), .int .u8 (h % 256)] 76 rfl j _ ?_
    have hj8 : j < 8 := hj
    have : j = 0 ∨ j = 1 ∨ j = 2 ∨ j = 3 ∨ j = 4 ∨ j = 5 ∨ j = 6 ∨ j = 7 := by omega
    rcases this with rfl | rfl | rfl | rfl | rfl | rfl | rfl | rfl <;> simp [digStr] <;> omega
  have HB := Lib.hid hb
  clear hb HC hcw hci hby
  unfold Halt
  go_wp2
  go_ret
  exact ⟨rfl, HB.out.trans ((Below.refl _ _).alloc HB.out.size _)⟩
end Go.Proofs.YtpdbmpbmepkikaaGreatDoor

namespace Go.Proofs.YtpdbmpbmepkikaaGreatDoor
open Go.RowKit

/-- Whom a step asks: replica number i, its parts by name. -/
structure Who (os : List One) (i : Nat) (o : One) : Prop where
  lt : i < os.length
  is : os[i]? = some o
theorem Who.get {os : List One} {i : Nat} {o : One} (h : Who os i o) : os[i]'h.lt = o := (List.getElem?_eq_some_iff.1 h.is).2
theorem Who.mem {os : List One} {i : Nat} {o : One} (h : Who os i o) : o ∈ os := List.mem_of_getElem? h.is

structure AskAt (N K : Nat) (x pw : Nat) (pv qv : Value) (os : List One) (b : Nat) (cs : Array Value) (w0 W : World) : Prop where
  law : LawAt N K W x pw pv qv os
  box : W.heap[b]? = some (.cells cs 102 (0, 0))
  below : Below w0.heap.size w0 W
variable {N K : Nat} {x pw : Nat} {pv qv : Value} {os : List One} {b : Nat} {cs : Array Value} {w0 W W' : World}
theorem AskAt.later (h : AskAt N K x pw pv qv os b cs w0 W) (hb : Below W.heap.size W W') : AskAt N K x pw pv qv os b cs w0 W' :=
  ⟨h.law.below hb, (hb.block _ (Array.getElem?_eq_some_iff.1 h.box).1).trans h.box, h.below.trans (hb.mono h.below.size)⟩
theorem AskAt_drew : AskAt N K x pw pv qv os b cs w0 W.drew ↔ AskAt N K x pw pv qv os b cs w0 W :=
  ⟨fun h => h.later ⟨rfl, rfl, rfl, Nat.le_refl _, fun _ _ => rfl⟩, fun h => h.later ⟨rfl, rfl, rfl, Nat.le_refl _, fun _ _ => rfl⟩⟩
theorem AskAt.x0 (h : AskAt N K x pw pv qv os b cs w0 W) : W.cell? ⟨x, 0, none⟩ = some (.pointer (some ⟨pw, 0, none⟩)) := Joins.cell_of_block h.law.box 0
theorem AskAt.x1 (h : AskAt N K x pw pv qv os b cs w0 W) : W.cell? ⟨x, 1, none⟩ = some qv := Joins.cell_of_block h.law.box 1
theorem AskAt.bc (h : AskAt N K x pw pv qv os b cs w0 W) (i : Nat) : W.cell? ⟨b, i, none⟩ = cs[i]? := Joins.cell_of_block h.box i
theorem AskAt.q0 (h : AskAt N K x pw pv qv os b cs w0 W) {i : Nat} {o : One} (ho : Who os i o) : W.cell? ⟨o.q, 0, none⟩ = some (.int .i64 o.id) := Joins.cell_of_block (h.law.ones o ho.mem).box 0
theorem AskAt.q1 (h : AskAt N K x pw pv qv os b cs w0 W) {i : Nat} {o : One} (ho : Who os i o) : W.cell? ⟨o.q, 1, none⟩ = some o.lv := Joins.cell_of_block (h.law.ones o ho.mem).box 1
theorem AskAt.new (h : LawAt N K W x pw pv qv os) (cs : Array Value) : AskAt N K x pw pv qv os W.heap.size cs W (W.alloc (.cells cs 102)) :=
  ⟨h.below ((Below.refl _ _).alloc (Nat.le_refl _) _), World.alloc_heap_new _ _, (Below.refl _ _).alloc (Nat.le_refl _) _⟩
theorem LawAt.small (h : LawAt N K W x pw pv qv os) (hK : K ≤ 100000) {i : Nat} {o : One} (ho : Who os i o) : o.l.length ≤ 100000 ∧ o.L.length ≤ 100000 := by
  have := (h.ones o ho.mem).len
  have := (h.ones o ho.mem).bk.perm.length_eq
  omega

/-- The program's Fields, at replica i. -/
theorem AskAt.fields (hK : K ≤ 100000) (hos : os.length ≤ 100000) {i : Nat} {o : One} (ho : Who os i o) (n : ByteArray) (hn : n.size ≤ 4096) (h : AskAt N K x pw pv qv os b cs w0 W) :
    Calls Tryz.prog 27 #[.pointer (some ⟨pw, 0, none⟩), .int .i64 i, .string n] W fun e W' => ∃ v, e = .returned (.tuple #[v, .bool true]) ∧ AskAt N K x pw pv qv os b cs w0 W' ∧ W'.ownsRow W.heap.size 9 1 v (fvs (fieldsD o.l n)).length ((fvs (fieldsD o.l n)).map .string) := by
  have h1 := h.law.ones o ho.mem
  have hp : (os.map (·.p))[i]'(by simpa using ho.lt) = o.p := by simp [ho.get]
  have := fieldsW_any pw pv (os.map (·.p)) i (by simpa using ho.lt) o.id o.m o.g o.L n W h.law.wld (by simp; omega) (by rw [hp]; exact h1.rep) h1.book (by have := (h.law.small hK ho).2; omega) hn
  rw [h1.bk.shown] at this
  exact this.mono fun e W' ⟨v, he, hr, hb⟩ => ⟨v, he, h.later hb, hr⟩
/-- The document's Fields, at replica i. -/
theorem AskAt.fieldsD (hK : K ≤ 100000) {i : Nat} {o : One} (ho : Who os i o) (n : ByteArray) (h : AskAt N K x pw pv qv os b cs w0 W) :
    Calls Tryz.prog 77 #[o.lv, .string n] W fun e W' => ∃ v, e = .returned v ∧ AskAt N K x pw pv qv os b cs w0 W' ∧ W'.ownsRow W.heap.size 154 5 v (fieldsD o.l n).length (rows (fieldsD o.l n)) := by
  have h1 := h.law.ones o ho.mem
  exact (fieldsD_any o.l o.lv n W h1.list (by have := (h.law.small hK ho).1; omega)).mono fun e W' ⟨v, he, hr, hb⟩ => ⟨v, he, h.later hb, hr⟩
end Go.Proofs.YtpdbmpbmepkikaaGreatDoor

namespace Go.Proofs.YtpdbmpbmepkikaaGreatDoor
open Go.RowKit

structure AskR (N K : Nat) (x pw : Nat) (pv qv : Value) (os : List One) (b : Nat) (cs : Array Value) (v : Value) (l : List ByteArray) (w0 W : World) : Prop where
  ask : AskAt N K x pw pv qv os b cs w0 W
  row : StrAt W v l
theorem AskR.later {N K : Nat} {x pw : Nat} {pv qv : Value} {os : List One} {b : Nat} {cs : Array Value} {w0 W W' : World} {v : Value} {l : List ByteArray} (h : AskR N K x pw pv qv os b cs v l w0 W) (hb : Below W.heap.size W W') : AskR N K x pw pv qv os b cs v l w0 W' :=
  ⟨h.ask.later hb, h.row.below hb (Nat.le_refl _)⟩
theorem AskR_drew {N K : Nat} {x pw : Nat} {pv qv : Value} {os : List One} {b : Nat} {cs : Array Value} {w0 W : World} {v : Value} {l : List ByteArray} : AskR N K x pw pv qv os b cs v l w0 W.drew ↔ AskR N K x pw pv qv os b cs v l w0 W :=
  ⟨fun h => h.later ⟨rfl, rfl, rfl, Nat.le_refl _, fun _ _ => rfl⟩, fun h => h.later ⟨rfl, rfl, rfl, Nat.le_refl _, fun _ _ => rfl⟩⟩

set_option maxHeartbeats 2000000 in
set_option maxRecDepth 100000 in
theorem asks4_any (N K x pw : Nat) (pv qv : Value) (os : List One) (i : Nat) (o : One) (a b c : Int) (s t u : ByteArray) (w : World) (hK : K ≤ 100000) (hos : os.length ≤ 100000) (h : LawAt N K w x pw pv qv os) (ho : Who os i o) (hs : s.size ≤ 4096) :
    Calls Tryz.prog 49 #[.pointer (some ⟨x, 0, none⟩), .agg #[.int .i64 4, .int .i64 a, .int .i64 b, .int .i64 c, .string s, .string t, .string u], .int .i64 i] w fun e w' => e = .returned (.bool true) ∧ Below w.heap.size w w' := by
  obtain ⟨g, cap, hqv, hg, hci⟩ := h.cell ho.lt
  rw [ho.get] at hci
  subst hqv
  have hlt := ho.lt
  obtain ⟨cs, hcs⟩ : ∃ cs : Array Value, cs = #[.int .i64 4, .int .i64 a, .int .i64 b, .int .i64 c, .string s, .string t, .string u] := ⟨_, rfl⟩
  have C1 : Hid (∀ W, AskAt N K x pw pv (.slice (some ⟨g, 0, none⟩) os.length cap) os w.heap.size cs w W → Calls Tryz.prog 27 #[.pointer (some ⟨pw, 0, none⟩), .int .i64 i, .string s] W fun e W' => ∃ v, e = .returned (.tuple #[v, .bool true]) ∧ AskAt N K x pw pv (.slice (some ⟨g, 0, none⟩) os.length cap) os w.heap.size cs w W' ∧ Hid (AskR N K x pw pv (.slice (some ⟨g, 0, none⟩) os.length cap) os w.heap.size cs v (fvs (fieldsD o.l s)) w W')) :=
    Lib.hid fun W hW => (hW.fields hK hos ho s hs).mono fun e W' ⟨v, he, hA, hr⟩ => ⟨v, he, hA, Lib.hid ⟨hA, .of_row hr⟩⟩
  have C2 : Hid (∀ v W, AskR N K x pw pv (.slice (some ⟨g, 0, none⟩) os.length cap) os w.heap.size cs v (fvs (fieldsD o.l s)) w W → Calls Tryz.prog 77 #[o.lv, .string s] W fun e W' => ∃ f, e = .returned f ∧ AskR N K x pw pv (.slice (some ⟨g, 0, none⟩) os.length cap) os w.heap.size cs v (fvs (fieldsD o.l s)) w W' ∧ Hid (W'.ownsRow W.heap.size 154 5 f (fieldsD o.l s).length (rows (fieldsD o.l s)))) :=
    Lib.hid fun v W hW => (fieldsD_any o.l o.lv s W (hW.ask.law.ones o ho.mem).list (by have := (hW.ask.law.small hK ho).1; omega)).mono fun e W' ⟨f, he, hr, hb⟩ => ⟨f, he, hW.later hb, Lib.hid hr⟩
  obtain ⟨w1, hw1⟩ : ∃ w1, w1 = w.alloc (.cells cs 102) := ⟨_, rfl⟩
  have hA1 : AskAt N K x pw pv (.slice (some ⟨g, 0, none⟩) os.length cap) os w.heap.size cs w w1 := hw1 ▸ AskAt.new h cs
  have y0 : ∀ W, AskAt N K x pw pv (.slice (some ⟨g, 0, none⟩) os.length cap) os w.heap.size cs w W → W.cell? ⟨x, 0, none⟩ = some (.pointer (some ⟨pw, 0, none⟩)) := fun W hW => hW.x0
  have y4 : ∀ W, AskAt N K x pw pv (.slice (some ⟨g, 0, none⟩) os.length cap) os w.heap.size cs w W → W.cell? ⟨w.heap.size, 4, none⟩ = some (.string s) := fun W hW => (hW.bc 4).trans (by rw [hcs]; rfl)
  have z1 : ∀ v W, AskR N K x pw pv (.slice (some ⟨g, 0, none⟩) os.length cap) os w.heap.size cs v (fvs (fieldsD o.l s)) w W → W.cell? ⟨o.q, 1, none⟩ = some o.lv := fun v W hW => hW.ask.q1 ho
  have z4 : ∀ v W, AskR N K x pw pv (.slice (some ⟨g, 0, none⟩) os.length cap) os w.heap.size cs v (fvs (fieldsD o.l s)) w W → W.cell? ⟨w.heap.size, 4, none⟩ = some (.string s) := fun v W hW => y4 W hW.ask
  have hx1 : w.cell? ⟨x, 1, none⟩ = some (.slice (some ⟨g, 0, none⟩) os.length cap) := Joins.cell_of_block h.box 1
  have hxl := h.xlt
  have HZ := Lib.hid (And.intro z1 z4)
  have hii : (i : Int) < (os.length : Int) := by omega
  rw [hcs] at hw1
  have HB1 := Lib.hid hw1
  clear h hs hcs hw1 z1 z4 hlt
  go_enter Tryz.func49, Tryz.ntmps49
  go_wp2
  rw [← HB1.out]
  go_region_held3 (fun W => AskAt N K x pw pv (.slice (some ⟨g, 0, none⟩) os.length cap) os w.heap.size cs w W) (with_reducible (first | assumption | (rw [AskAt_drew]; assumption)))
    ((first | (go_at_call 27; refine Calls.mono (C1.out _ ?hw1) ?_; (case hw1 => with_reducible (first | assumption | (rw [AskAt_drew]; assumption))); rintro e w2 ⟨v, rfl, hA2, hx2⟩)))
  have hR2 := hx2.out
  have z1 := HZ.out.1 v
  have z4 := HZ.out.2 v
  have HC2 := Lib.hid (C2.out v)
  clear y0 y4 hA1 hA2 hx2 HZ C1 C2 HB1 hx1 hci hii hxl hg
  go_wp2
  go_region_held3 (fun W => AskR N K x pw pv (.slice (some ⟨g, 0, none⟩) os.length cap) os w.heap.size cs v (fvs (fieldsD o.l s)) w W) (with_reducible (first | assumption | (rw [AskR_drew]; assumption)))
    ((first | (go_at_call 77; refine Calls.mono (HC2.out _ ?hw1) ?_; (case hw1 => with_reducible (first | assumption | (rw [AskR_drew]; assumption))); rintro e w3 ⟨f, rfl, hA3, hx3⟩)))
  have hF := (hA3.ask.law.small hK ho).1
  have hFl : (fieldsD o.l s).length ≤ 100000 := Nat.le_trans (List.length_filter_le _ _) hF
  obtain ⟨F, hFe⟩ : ∃ F, F = fieldsD o.l s := ⟨_, rfl⟩
  rw [← hFe] at hFl hA3 hx3
  have hL3 : ListAt w3 f F := ListAt.of_row hx3.out
  obtain ⟨i0, hi9, hq0, hq1, hq2⟩ := info_parts info9
  obtain ⟨fad, fcap, hfv⟩ : ∃ fad fcap, f = .slice fad F.length fcap := by
    rcases hL3.cases with ⟨rfl, rfl⟩ | ⟨g, cap, rfl, _⟩ <;> exact ⟨_, _, rfl⟩
  subst hfv
  have HA3 := Lib.hid (And.intro hA3 hL3)
  have hstr : StrAt w3 v (fvs F) := hA3.row
  have HBW : Hid (Below w.heap.size w w3) := Lib.hid hA3.ask.below
  have HSt := Lib.hid hstr
  have hlf := fvs_length F
  clear hA3 hx3 hL3 hstr hFe hF HC2 z1 z4 hR2 ho hK hos
  go_wp2
  go_loopg [11, 12] F.length (fun k s11 sk wr => ∃ (sv : Value) (j : Nat), sv = s11 ∧ sk = .int .i64 j ∧ k + j = F.length ∧ OutAt w3 9 1 sv (2 * j) ((fvs (F.take j)).map .string) wr)
  case atStart => exact ⟨_, 0, rfl, rfl, by omega, OutAt.new _ _ _⟩
  case round =>
    obtain ⟨sv, j, rfl, rfl, hk, hO⟩ := hrel
    by_cases hj : j < F.length
    · obtain ⟨g', cap', hv', hg', y0, y1, y2, y3, y4⟩ := HA3.out.2.cell hj
      simp only [Value.slice.injEq] at hv'
      obtain ⟨rfl, -, rfl⟩ := hv'
      obtain ⟨fl, hfl⟩ : ∃ fl, fl = F[j].field := ⟨_, rfl⟩
      obtain ⟨vl, hvl⟩ : ∃ vl, vl = F[j].value := ⟨_, rfl⟩
      rw [← hfl] at y1
      rw [← hvl] at y4
      have htk : fvs (F.take (j + 1)) = fvs (F.take j) ++ [fl, vl] := by
        rw [List.take_add_one, List.getElem?_eq_getElem hj, Option.toList_some, fvs_snoc, hfl, hvl]
      obtain ⟨so, hso⟩ : ∃ so, so = (fvs (F.take j)).map Value.string := ⟨_, rfl⟩
      rw [← hso] at hO
      have hjj : (j : Int) < (F.length : Int) := by omega
      have k1 : ∀ W, Bel w3 W → W.cell? ⟨g', j * 5 + 1, none⟩ = some (.string fl) := fun W hW => (hW.cell (p := ⟨g', j * 5 + 1, none⟩) hg').trans y1
      have k4 : ∀ W, Bel w3 W → W.cell? ⟨g', j * 5 + 4, none⟩ = some (.string vl) := fun W hW => (hW.cell (p := ⟨g', j * 5 + 4, none⟩) hg').trans y4
      have hBr : Bel w3 wr := hO.below
      have HO := Lib.hid hO
      have HS := Lib.hid (And.intro htk hso)
      clear y0 y1 y2 y3 y4 hO htk hso hfl hvl hlf
      go_wp2
      go_region_held3 (fun W => Bel w3 W) (first | assumption | (rw [Bel_drew]; assumption) | exact Bel.alloc (by assumption) _ | exact (OutAt.append (OutAt.alloc (OutAt_drew.2 HO.out) _) hg5 hr5).below)
        ((rw [if_pos (by rfl)]; refine oper_append_own_at _ _ 51 rfl w3.heap.size 9 i0 (.string ⟨#[]⟩) 1 16 Tryz.underlying51 hi9 hq0 hq1 hq2 rfl (by decide) sv (2 * j) so rfl (OutAt.alloc (OutAt_drew.2 HO.out) _).row ⟨wr.drew.heap.size, 0, none⟩ 2 2 [.string fl, .string vl] rfl rfl (news5 _ _ _ rfl) (by simp [Value.oneCell']) (by unfold maxLen; omega) (by omega) (by have := HO.out.below.size; simp; omega) ?_; intro v5 w5 hr5 hg5 _))
      skip
      go_wp2
      go_roundg (gk - 1)
      case rel =>
        refine ⟨_, j + 1, rfl, by go_simp, by omega, ?_⟩
        have h6 : OutAt w3 9 1 v5 (2 * j + 2) (so ++ [.string fl, .string vl]) w5 := OutAt.append (OutAt.alloc (OutAt_drew.2 HO.out) _) hg5 hr5
        rw [HS.out.1, List.map_append, ← HS.out.2]
        exact h6
      case measure => omega
    · have hje : j = F.length := by omega
      subst hje
      rw [List.take_length] at hO
      have hw4 : StrAt wr sv (fvs F) := by
        have := ownsRow_base hO.row fun k hk => Nat.zero_le k
        unfold StrAt
        rw [hlf]; exact this
      have hv4 : StrAt wr v (fvs F) := HSt.out.below hO.below (Nat.le_refl _)
      have HC := Lib.hid (sameL_any v sv (fvs F) wr hv4 hw4 (by rw [hlf]; omega))
      have HO := Lib.hid (show Below w.heap.size w wr from HBW.out.trans (hO.below.mono HBW.out.size))
      clear hO hw4 hv4 hlf
      go_wp2_with (go_at_call 78; go_must (refine HC.out.mono ?_); rintro e w5 ⟨rfl, hb5⟩)
      have HB5 := Lib.hid hb5
      go_ret
      exact ⟨rfl, HO.out.trans (hb5.mono HO.out.size)⟩
end Go.Proofs.YtpdbmpbmepkikaaGreatDoor

namespace Go.Proofs.YtpdbmpbmepkikaaGreatDoor
open Go.RowKit

theorem namesD_length (l : List Reg) (pfx : ByteArray) : (namesD l pfx).length ≤ l.length := by
  have key : ∀ (q : List Reg) (out : List ByteArray), (q.foldl (stepN l pfx) out).length ≤ out.length + q.length := fun q => by
    induction q with
    | nil => intro out; simp
    | cons y q ih =>
      intro out
      rw [List.foldl_cons]
      refine Nat.le_trans (ih _) ?_
      have : (stepN l pfx out y).length ≤ out.length + 1 := by unfold stepN; split <;> simp
      simp only [List.length_cons]
      omega
  have := key l []
  simpa [namesD] using this

set_option maxHeartbeats 2000000 in
set_option maxRecDepth 100000 in
theorem asks5_any (N K x pw : Nat) (pv qv : Value) (os : List One) (i : Nat) (o : One) (a b c : Int) (s t u : ByteArray) (w : World) (hK : K ≤ 100000) (hos : os.length ≤ 100000) (h : LawAt N K w x pw pv qv os) (ho : Who os i o) :
    Calls Tryz.prog 49 #[.pointer (some ⟨x, 0, none⟩), .agg #[.int .i64 5, .int .i64 a, .int .i64 b, .int .i64 c, .string s, .string t, .string u], .int .i64 i] w fun e w' => e = .returned (.bool true) ∧ Below w.heap.size w w' := by
  obtain ⟨g, cap, hqv, hg, hci⟩ := h.cell ho.lt
  rw [ho.get] at hci
  subst hqv
  have hlt := ho.lt
  obtain ⟨cs, hcs⟩ : ∃ cs : Array Value, cs = #[.int .i64 5, .int .i64 a, .int .i64 b, .int .i64 c, .string s, .string t, .string u] := ⟨_, rfl⟩
  have C1 : Hid (∀ W, AskAt N K x pw pv (.slice (some ⟨g, 0, none⟩) os.length cap) os w.heap.size cs w W → Calls Tryz.prog 29 #[.pointer (some ⟨pw, 0, none⟩), .int .i64 i, .string s] W fun e W' => ∃ v, e = .returned v ∧ AskAt N K x pw pv (.slice (some ⟨g, 0, none⟩) os.length cap) os w.heap.size cs w W' ∧ Hid (AskR N K x pw pv (.slice (some ⟨g, 0, none⟩) os.length cap) os w.heap.size cs v (namesD o.l s) w W')) :=
    Lib.hid fun W hW => by
      have h1 := hW.law.ones o ho.mem
      have hp : (os.map (·.p))[i]'(by simpa using ho.lt) = o.p := by simp [ho.get]
      refine (namesW_any pw pv (os.map (·.p)) i (by simpa using ho.lt) o.id o.m o.g o.L s W hW.law.wld (by simp; omega) (by rw [hp]; exact h1.rep) h1.book (by have := (hW.law.small hK ho).2; omega) (fun y hy => ?_)).mono fun e W' ⟨v, xs, he, hx, hm, hr, hb⟩ => ⟨v, he, hW.later hb, Lib.hid ⟨hW.later hb, ?_⟩⟩
      · have := (h1.bk.goodL y hy).name8; omega
      · rw [h1.bk.names s hx hm] at hr
        exact .of_row hr
  have C2 : Hid (∀ v W, AskR N K x pw pv (.slice (some ⟨g, 0, none⟩) os.length cap) os w.heap.size cs v (namesD o.l s) w W → Calls Tryz.prog 79 #[o.lv, .string s] W fun e W' => ∃ f, e = .returned f ∧ AskR N K x pw pv (.slice (some ⟨g, 0, none⟩) os.length cap) os w.heap.size cs v (namesD o.l s) w W' ∧ Hid (StrAt W' f (namesD o.l s))) :=
    Lib.hid fun v W hW => (namesD_any o.l o.lv s W (hW.ask.law.ones o ho.mem).list (by have := (hW.ask.law.small hK ho).1; omega)).mono fun e W' ⟨f, he, hr, hb⟩ => ⟨f, he, hW.later hb, Lib.hid (.of_row hr)⟩
  obtain ⟨w1, hw1⟩ : ∃ w1, w1 = w.alloc (.cells cs 102) := ⟨_, rfl⟩
  have hA1 : AskAt N K x pw pv (.slice (some ⟨g, 0, none⟩) os.length cap) os w.heap.size cs w w1 := hw1 ▸ AskAt.new h cs
  have y0 : ∀ W, AskAt N K x pw pv (.slice (some ⟨g, 0, none⟩) os.length cap) os w.heap.size cs w W → W.cell? ⟨x, 0, none⟩ = some (.pointer (some ⟨pw, 0, none⟩)) := fun W hW => hW.x0
  have y4 : ∀ W, AskAt N K x pw pv (.slice (some ⟨g, 0, none⟩) os.length cap) os w.heap.size cs w W → W.cell? ⟨w.heap.size, 4, none⟩ = some (.string s) := fun W hW => (hW.bc 4).trans (by rw [hcs]; rfl)
  have z1 : ∀ v W, AskR N K x pw pv (.slice (some ⟨g, 0, none⟩) os.length cap) os w.heap.size cs v (namesD o.l s) w W → W.cell? ⟨o.q, 1, none⟩ = some o.lv := fun v W hW => hW.ask.q1 ho
  have z4 : ∀ v W, AskR N K x pw pv (.slice (some ⟨g, 0, none⟩) os.length cap) os w.heap.size cs v (namesD o.l s) w W → W.cell? ⟨w.heap.size, 4, none⟩ = some (.string s) := fun v W hW => y4 W hW.ask
  have hx1 : w.cell? ⟨x, 1, none⟩ = some (.slice (some ⟨g, 0, none⟩) os.length cap) := Joins.cell_of_block h.box 1
  have hxl := h.xlt
  have HZ := Lib.hid (And.intro z1 z4)
  have hii : (i : Int) < (os.length : Int) := by omega
  rw [hcs] at hw1
  have HB1 := Lib.hid hw1
  clear h hcs hw1 z1 z4 hlt
  go_enter Tryz.func49, Tryz.ntmps49
  go_wp2
  rw [← HB1.out]
  go_region_held3 (fun W => AskAt N K x pw pv (.slice (some ⟨g, 0, none⟩) os.length cap) os w.heap.size cs w W) (with_reducible (first | assumption | (rw [AskAt_drew]; assumption)))
    ((first | (go_at_call 29; refine Calls.mono (C1.out _ ?hw1) ?_; (case hw1 => with_reducible (first | assumption | (rw [AskAt_drew]; assumption))); rintro e w2 ⟨v, rfl, hA2, hx2⟩)))
  have hR2 := hx2.out
  have z1 := HZ.out.1 v
  have z4 := HZ.out.2 v
  have HC2 := Lib.hid (C2.out v)
  clear y0 y4 hA1 hA2 hx2 HZ C1 C2 HB1 hx1 hci hii hxl hg
  go_wp2
  go_region_held3 (fun W => AskR N K x pw pv (.slice (some ⟨g, 0, none⟩) os.length cap) os w.heap.size cs v (namesD o.l s) w W) (with_reducible (first | assumption | (rw [AskR_drew]; assumption)))
    ((first | (go_at_call 79; refine Calls.mono (HC2.out _ ?hw1) ?_; (case hw1 => with_reducible (first | assumption | (rw [AskR_drew]; assumption))); rintro e w3 ⟨f, rfl, hA3, hx3⟩)))
  have hnl : (namesD o.l s).length ≤ 100000 := Nat.le_trans (namesD_length o.l s) (hA3.ask.law.small hK ho).1
  have HC := Lib.hid (sameL_any v f (namesD o.l s) w3 hA3.row hx3.out (by omega))
  have HO := Lib.hid hA3.ask.below
  clear hA3 hx3 HC2 z1 z4 hR2 ho hK hos hnl
  go_wp2_with (go_at_call 78; go_must (refine HC.out.mono ?_); rintro e w5 ⟨rfl, hb5⟩)
  have HB5 := Lib.hid hb5
  go_ret
  exact ⟨rfl, HO.out.trans (hb5.mono HO.out.size)⟩
end Go.Proofs.YtpdbmpbmepkikaaGreatDoor
