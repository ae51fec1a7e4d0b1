/- PlainB: Plain laws: books as lists in order; a register taken in. No program in sight.
   PlainC: Plain laws: what the document's functions answer, of books in order. No program in sight.
   PlainD: Plain laws: what the program's book tells, by the document's words. No program in sight.
   Line: The contract of line. Conditions: the table of powers of ten; short texts; numbers of 64 bits.
   BookI: The contract of digest.
   BookL: The contract of what shown hands out.
   BookM: The contract of alive.
   BookJ: Contracts of strings.Trim at the small letters, of is. Condition: texts of at most 65536 bytes. -/
import Derived.Test.YtpdbmpbmepkikaaGreatDoorS03
import Derived.Test.YtpdbmpbmepkikaaGreatDoorS02
import Derived.Lib.SmallJoins
import Derived.Lib.ItoaLen
import Derived.Laws.IdiomStrings
import Derived.LoopNIn
import Derived.Laws.Rows
import Derived.Shelf.Strings.SlTrimAscii
set_option linter.all false
set_option linter.unusedSimpArgs false
set_option linter.unusedVariables false

namespace Go.Proofs.YtpdbmpbmepkikaaGreatDoor

theorem ltB_irrefl (a : ByteArray) : ltB a a = false := by simp [ltB, List.lt_irrefl]
theorem ltB_trans {a b c : ByteArray} (h : ltB a b = true) (k : ltB b c = true) : ltB a c = true := by
  simp only [ltB, decide_eq_true_eq] at *; exact List.lt_trans h k
theorem ltB_conn {a b : ByteArray} (h : ltB a b = false) (hn : a ≠ b) : ltB b a = true := by
  simp only [ltB, decide_eq_true_eq, decide_eq_false_iff_not] at *
  by_cases h' : bl b < bl a
  · exact h'
  · exact absurd (bl_inj (List.le_antisymm (List.not_lt.1 h') (List.not_lt.1 h))) hn
theorem ahead_trans {a b c : Reg} (h : ahead a b = true) (k : ahead b c = true) : ahead a c = true := by
  unfold ahead at *
  by_cases h1 : a.name = b.name <;> by_cases h2 : b.name = c.name
  · rw [if_pos h1] at h
    rw [if_pos h2] at k
    rw [if_pos (h1.trans h2)]; exact ltB_trans h k
  · rw [if_neg h2] at k
    rw [if_neg (h1 ▸ h2), h1]; exact k
  · rw [if_neg h1] at h
    rw [if_neg (h2 ▸ h1), ← h2]; exact h
  · rw [if_neg h1] at h
    rw [if_neg h2] at k
    have h3 := ltB_trans h k
    have : a.name ≠ c.name := fun e => by rw [e, ltB_irrefl] at h3; cases h3
    rw [if_neg this]; exact h3
theorem ahead_irrefl {a b : Reg} (hn : a.name = b.name) (hf : a.field = b.field) : ahead a b = false := by
  unfold ahead; rw [if_pos hn, hf, ltB_irrefl]
theorem ahead_conn {a b : Reg} (h : ahead a b = false) (hn : ¬ (a.name = b.name ∧ a.field = b.field)) : ahead b a = true := by
  unfold ahead at *
  by_cases h1 : a.name = b.name
  · rw [if_pos h1] at h
    rw [if_pos h1.symm]
    exact ltB_conn h (fun e => hn ⟨h1, e⟩)
  · rw [if_neg h1] at h
    rw [if_neg (Ne.symm h1)]
    exact ltB_conn h h1
theorem ahead_asymm {a b : Reg} (h : ahead a b = true) : ahead b a = false := by
  cases hb : ahead b a with
  | false => rfl
  | true => have := ahead_trans h hb; rw [ahead_irrefl rfl rfl] at this; cases this

def sameKey (a b : Reg) : Bool := decide (a.name = b.name) && decide (a.field = b.field)
def winsR (a b : Reg) : Bool := if a.c ≠ b.c then decide (b.c < a.c) else if a.r ≠ b.r then decide (b.r < a.r) else ltB b.value a.value
theorem over_wins (a b : Reg) : overR a b = winsR a b := by
  unfold overR winsR laterZ
  rw [gtB_lt]
  by_cases h1 : a.c = b.c <;> by_cases h2 : a.r = b.r
  · simp [h1, h2]
  · simp [h1, h2]
  · simp [h1]
  · simp [h1]

/-- In order, no key twice. -/
def Sorted (l : List Reg) : Prop := l.Pairwise fun a b => ahead a b = true
/-- A register more, in a book that is in order. -/
def ins : List Reg → Reg → List Reg
  | [], x => [x]
  | y :: l, x => if sameKey y x then (if winsR x y then x :: l else y :: l) else if ahead x y then x :: y :: l else y :: ins l x

theorem ins_mem {l : List Reg} {x z : Reg} (h : z ∈ ins l x) : z = x ∨ z ∈ l := by
  induction l with
  | nil => simpa [ins] using h
  | cons y l ih =>
    unfold ins at h
    split at h
    · split at h <;> simp at h ⊢ <;> rcases h with h | h <;> simp [h]
    · split at h
      · simp at h ⊢; rcases h with h | h | h <;> simp [h]
      · simp at h ⊢
        rcases h with h | h
        · simp [h]
        · rcases ih h with h | h <;> simp [h]
theorem sameKey_ahead {x y z : Reg} (h : sameKey y x = true) (hz : ahead y z = true) : ahead x z = true := by
  simp only [sameKey, Bool.and_eq_true, decide_eq_true_eq] at h
  unfold ahead at *; rw [← h.1, ← h.2]; exact hz
theorem ins_sorted {l : List Reg} (h : Sorted l) (x : Reg) : Sorted (ins l x) := by
  induction l with
  | nil => simp [ins, Sorted]
  | cons y l ih =>
    have hy := List.pairwise_cons.1 h
    unfold ins
    split
    · rename_i hs
      split
      · exact List.pairwise_cons.2 ⟨fun z hz => sameKey_ahead hs (hy.1 z hz), hy.2⟩
      · exact h
    · rename_i hs
      split
      · rename_i ha
        refine List.pairwise_cons.2 ⟨fun z hz => ?_, h⟩
        rcases List.mem_cons.1 hz with rfl | hz
        · exact ha
        · exact ahead_trans ha (hy.1 z hz)
      · rename_i ha
        refine List.pairwise_cons.2 ⟨fun z hz => ?_, ih hy.2⟩
        rcases ins_mem hz with rfl | hz
        · exact ahead_conn (by simpa using ha) (fun e => hs (by simp [sameKey, e.1, e.2]))
        · exact hy.1 z hz
theorem Sorted.nodup {l : List Reg} (h : Sorted l) : l.Nodup := h.imp fun {a b} hab e => by rw [e, ahead_irrefl rfl rfl] at hab; cases hab
theorem Sorted.inj {l : List Reg} (h : Sorted l) {x y : Reg} (hx : x ∈ l) (hy : y ∈ l) (e : sameKey x y = true) : x = y := by
  simp only [sameKey, Bool.and_eq_true, decide_eq_true_eq] at e
  induction l with
  | nil => cases hx
  | cons z l ih =>
    have hz := List.pairwise_cons.1 h
    rcases List.mem_cons.1 hx with rfl | hx' <;> rcases List.mem_cons.1 hy with rfl | hy'
    · rfl
    · have := hz.1 y hy'; rw [ahead_irrefl e.1 e.2] at this; cases this
    · have := hz.1 x hx'; rw [ahead_irrefl e.1.symm e.2.symm] at this; cases this
    · exact ih hz.2 hx' hy'
theorem Sorted.filter {l : List Reg} (h : Sorted l) (p : Reg → Bool) : Sorted (l.filter p) := List.Pairwise.filter p h

/-- Two books in order with the same registers are the same. -/
theorem Sorted.unique {l l' : List Reg} (h : Sorted l) (h' : Sorted l') (hp : l.Perm l') : l = l' :=
  List.Perm.eq_of_pairwise (le := fun a b => ahead a b = true) (fun a b _ _ h1 h2 => by rw [ahead_asymm h1] at h2; cases h2) h h' hp

/-- How a map's book and the document's go together. -/
structure Bk (L l : List Reg) : Prop where
  perm : L.Perm l
  sorted : Sorted l
  good : ∀ x ∈ l, Good x

theorem sameKey_iff {x y : Reg} (hx : Good x) (hy : Good y) : sameKey x y = true ↔ x.key = y.key := by
  rw [key_eq hx hy]; simp [sameKey]

theorem find_mem {L : List Reg} {k : ByteArray} {y : Reg} (h : L.find? (fun y => decide (y.key = k)) = some y) : y ∈ L ∧ y.key = k :=
  ⟨List.mem_of_find?_eq_some h, by simpa using List.find?_some h⟩
theorem find_none {L : List Reg} {k : ByteArray} (h : L.find? (fun y => decide (y.key = k)) = none) : ∀ y ∈ L, y.key ≠ k := fun y hy => by simpa using List.find?_eq_none.1 h y hy
theorem takeL_fresh {L : List Reg} {x : Reg} (h : ∀ y ∈ L, y.key ≠ x.key) : takeL L x = L ++ [x] := by
  induction L with
  | nil => rfl
  | cons y l ih => rw [takeL, if_neg (h y (by simp)), ih (fun z hz => h z (by simp [hz]))]; rfl
theorem takeL_held {L : List Reg} {x y : Reg} (hy : y ∈ L) (hk : y.key = x.key) (hn : (L.map (·.key)).Nodup) : (takeL L x).Perm (if overR x y then x :: L.erase y else L) := by
  induction L with
  | nil => cases hy
  | cons z l ih =>
    rw [List.map_cons, List.nodup_cons] at hn
    by_cases hz : z.key = x.key
    · have : y = z := by
        rcases List.mem_cons.1 hy with h | h
        · exact h
        · exact absurd (hz.trans hk.symm ▸ List.mem_map_of_mem (f := fun r : Reg => r.key) h) hn.1
      subst this
      rw [takeL, if_pos hz]
      split
      · rw [List.erase_cons_head]
      · exact .refl _
    · have hyl : y ∈ l := (List.mem_cons.1 hy).resolve_left fun e => hz (e ▸ hk)
      have hne : z ≠ y := fun e => hz (e ▸ hk)
      rw [takeL, if_neg hz]
      have := ih hyl hn.2
      cases ho : overR x y with
      | true =>
        simp only [ho, if_true] at this ⊢
        rw [List.erase_cons_tail (by simpa using hne)]
        exact (this.cons z).trans (List.Perm.swap _ _ _)
      | false => simp only [ho] at this ⊢; exact this.cons z
theorem ins_fresh {l : List Reg} {x : Reg} (h : ∀ y ∈ l, sameKey y x = false) : (ins l x).Perm (x :: l) := by
  induction l with
  | nil => exact .refl _
  | cons y l ih =>
    rw [ins, if_neg (by rw [h y (by simp)]; simp)]
    split
    · exact .refl _
    · exact ((ih fun z hz => h z (by simp [hz])).cons y).trans (List.Perm.swap _ _ _)
theorem ins_held {l : List Reg} {x y : Reg} (hs : Sorted l) (hy : y ∈ l) (hk : sameKey y x = true) : (ins l x).Perm (if winsR x y then x :: l.erase y else l) := by
  induction l with
  | nil => cases hy
  | cons z l ih =>
    have hz := List.pairwise_cons.1 hs
    by_cases hzx : sameKey z x = true
    · have : y = z := hs.inj hy (by simp) (by simp only [sameKey, Bool.and_eq_true, decide_eq_true_eq] at *; exact ⟨hk.1.trans hzx.1.symm, hk.2.trans hzx.2.symm⟩)
      subst this
      rw [ins, if_pos hzx]
      split
      · rw [List.erase_cons_head]
      · exact .refl _
    · have hyl : y ∈ l := (List.mem_cons.1 hy).resolve_left fun e => hzx (e ▸ hk)
      have hne : z ≠ y := fun e => hzx (e ▸ hk)
      have hza : ahead z x = true := by
        have := hz.1 y hyl
        simp only [sameKey, Bool.and_eq_true, decide_eq_true_eq] at hk
        unfold ahead at *; rw [← hk.1, ← hk.2]; exact this
      rw [ins, if_neg hzx, if_neg (by rw [ahead_asymm hza]; simp)]
      have := ih hz.2 hyl
      cases ho : winsR x y with
      | true =>
        simp only [ho, if_true] at this ⊢
        rw [List.erase_cons_tail (by simpa using hne)]
        exact (this.cons z).trans (List.Perm.swap _ _ _)
      | false => simp only [ho] at this ⊢; exact this.cons z

theorem Sorted.keys {l : List Reg} (h : Sorted l) (hg : ∀ y ∈ l, Good y) : (l.map (·.key)).Nodup := by
  refine List.pairwise_map.2 (List.Pairwise.imp_of_mem (fun {a b} ha hb hab e => ?_) h)
  have := (key_lt (hg a ha) (hg b hb)).2 hab
  rw [e] at this
  exact List.lt_irrefl _ this
theorem Bk.nodup {L l : List Reg} (h : Bk L l) : (L.map (·.key)).Nodup := (h.perm.map _).nodup_iff.2 (h.sorted.keys h.good)
theorem Bk.goodL {L l : List Reg} (h : Bk L l) : ∀ x ∈ L, Good x := fun x hx => h.good x (h.perm.subset hx)

/-- What takes a register in. -/
theorem Bk.take {L l : List Reg} (h : Bk L l) {x : Reg} (hx : Good x) : Bk (takeL L x) (ins l x) := by
  refine ⟨?_, ins_sorted h.sorted x, fun y hy => ?_⟩
  · by_cases hex : ∃ y ∈ l, sameKey y x = true
    · obtain ⟨y, hy, hk⟩ := hex
      have hyL := h.perm.symm.subset hy
      refine (takeL_held hyL ((sameKey_iff (h.good y hy) hx).1 hk) h.nodup).trans (.trans ?_ (ins_held h.sorted hy hk).symm)
      rw [over_wins]
      split
      · exact (h.perm.erase y).cons x
      · exact h.perm
    · have hn : ∀ y ∈ l, sameKey y x = false := fun y hy => by
        cases hs : sameKey y x with
        | false => rfl
        | true => exact absurd ⟨y, hy, hs⟩ hex
      rw [takeL_fresh (fun y hy e => by have := (sameKey_iff (h.goodL y hy) hx).2 e; rw [hn y (h.perm.subset hy)] at this; cases this)]
      exact (List.perm_append_singleton _ _).trans ((h.perm.cons x).trans (ins_fresh hn).symm)
  · rcases ins_mem hy with rfl | hy
    · exact hx
    · exact h.good y hy
theorem Bk.nil : Bk [] [] := ⟨.refl _, .nil, fun _ h => by cases h⟩

/-- What is found by a key. -/
theorem Bk.find {L l : List Reg} (h : Bk L l) (k : ByteArray) : L.find? (fun y => decide (y.key = k)) = l.find? (fun y => decide (y.key = k)) := by
  cases h1 : L.find? (fun y => decide (y.key = k)) with
  | none =>
    cases h2 : l.find? (fun y => decide (y.key = k)) with
    | none => rfl
    | some y => exact absurd (find_mem h2).2 (find_none h1 y (h.perm.symm.subset (find_mem h2).1))
  | some x =>
    cases h2 : l.find? (fun y => decide (y.key = k)) with
    | none => exact absurd (find_mem h1).2 (find_none h2 x (h.perm.subset (find_mem h1).1))
    | some y =>
      have hx := find_mem h1
      have hy := find_mem h2
      have hxl := h.perm.subset hx.1
      rw [h.sorted.inj hxl hy.1 ((sameKey_iff (h.good x hxl) (h.good y hy.1)).2 (hx.2.trans hy.2.symm))]
end Go.Proofs.YtpdbmpbmepkikaaGreatDoor

namespace Go.Proofs.YtpdbmpbmepkikaaGreatDoor

/-- One turn of the document's With: what is out so far, and whether x is in. -/
def stepW (x : Reg) (s : List Reg × Bool) (y : Reg) : List Reg × Bool :=
  if sameKey y x then (if winsR x y then (s.1 ++ [x], true) else (s.1 ++ [y], true))
  else if ahead x y && !s.2 then (s.1 ++ [x, y], true) else (s.1 ++ [y], s.2)
def withD (l : List Reg) (x : Reg) : List Reg :=
  let s := l.foldl (stepW x) ([], false)
  if s.2 then s.1 else s.1 ++ [x]
theorem foldW_in {x : Reg} (l : List Reg) (o : List Reg) (h : ∀ z ∈ l, sameKey z x = false) : l.foldl (stepW x) (o, true) = (o ++ l, true) := by
  induction l generalizing o with
  | nil => simp
  | cons y l ih =>
    have : stepW x (o, true) y = (o ++ [y], true) := by simp [stepW, h y (by simp)]
    rw [List.foldl_cons, this, ih _ (fun z hz => h z (by simp [hz]))]
    simp
theorem foldW_out {x : Reg} (l : List Reg) (hs : Sorted l) (o : List Reg) : (let s := l.foldl (stepW x) (o, false); if s.2 then s.1 else s.1 ++ [x]) = o ++ ins l x := by
  induction l generalizing o with
  | nil => simp [ins]
  | cons y l ih =>
    have hy := List.pairwise_cons.1 hs
    rw [List.foldl_cons, ins]
    by_cases hk : sameKey y x = true
    · have hr : ∀ z ∈ l, sameKey z x = false := fun z hz => by
        cases hz2 : sameKey z x with
        | false => rfl
        | true =>
          have := hy.1 z hz
          simp only [sameKey, Bool.and_eq_true, decide_eq_true_eq] at hk hz2
          rw [ahead_irrefl (hk.1.trans hz2.1.symm) (hk.2.trans hz2.2.symm)] at this; cases this
      rw [if_pos hk]
      cases hw : winsR x y with
      | true =>
        have : stepW x (o, false) y = (o ++ [x], true) := by simp [stepW, hk, hw]
        rw [this, foldW_in _ _ hr]; simp
      | false =>
        have : stepW x (o, false) y = (o ++ [y], true) := by simp [stepW, hk, hw]
        rw [this, foldW_in _ _ hr]; simp
    · rw [if_neg hk]
      by_cases ha : ahead x y = true
      · have hr : ∀ z ∈ l, sameKey z x = false := fun z hz => by
          cases hz2 : sameKey z x with
          | false => rfl
          | true =>
            have := ahead_trans ha (hy.1 z hz)
            simp only [sameKey, Bool.and_eq_true, decide_eq_true_eq] at hz2
            rw [ahead_irrefl hz2.1.symm hz2.2.symm] at this; cases this
        have : stepW x (o, false) y = (o ++ [x, y], true) := by simp [stepW, hk, ha]
        rw [this, foldW_in _ _ hr, if_pos ha]; simp
      · have : stepW x (o, false) y = (o ++ [y], false) := by simp [stepW, hk, ha]
        rw [this, ih hy.2, if_neg ha]; simp
theorem withD_ins {l : List Reg} (hs : Sorted l) (x : Reg) : withD l x = ins l x := by
  have := foldW_out (x := x) l hs []
  unfold withD
  simpa using this

/-- The deletion that is held of a contact. -/
def goneD (l : List Reg) (n : ByteArray) : Option Reg := l.find? fun y => sameKey y ⟨n, ⟨#[]⟩, 0, 0, ⟨#[]⟩⟩
/-- Is a register of contact n seen? -/
def seenD (g : Option Reg) (n : ByteArray) (y : Reg) : Bool :=
  decide (y.name = n) && !decide (y.field = ⟨#[]⟩) && (match g with | none => true | some d => laterZ y.c y.r d.c d.r)
def fieldsD (l : List Reg) (n : ByteArray) : List Reg := l.filter (seenD (goneD l n) n)

/-- One turn of the document's Names. -/
def stepN (l : List Reg) (pfx : ByteArray) (out : List ByteArray) (y : Reg) : List ByteArray :=
  if (bl pfx).isPrefixOf (bl y.name) && !(fieldsD l y.name).isEmpty && !decide (out.getLast? = some y.name) then out ++ [y.name] else out
def namesD (l : List Reg) (pfx : ByteArray) : List ByteArray := l.foldl (stepN l pfx) []

def SortedB (l : List ByteArray) : Prop := l.Pairwise fun a b => ltB a b = true
theorem SortedB.unique {l l' : List ByteArray} (h : SortedB l) (h' : SortedB l') (hm : ∀ n, n ∈ l ↔ n ∈ l') : l = l' := by
  have nd : ∀ {l : List ByteArray}, SortedB l → l.Nodup := fun h => h.imp fun {a b} hab e => by rw [e, ltB_irrefl] at hab; cases hab
  refine List.Perm.eq_of_pairwise (le := fun a b => ltB a b = true) (fun a b _ _ h1 h2 => ?_) h h' ((List.perm_ext_iff_of_nodup (nd h) (nd h')).2 hm)
  have := ltB_trans h1 h2
  rw [ltB_irrefl] at this; cases this

theorem namesD_spec (l : List Reg) (pfx : ByteArray) (q : List Reg) (hs : Sorted q) (out : List ByteArray) (ho : SortedB out) (hq : ∀ n ∈ out, ∀ y ∈ q, n = y.name ∨ ltB n y.name = true)
    (hlast : ∀ n ∈ out, ∀ y ∈ q, n = y.name → out.getLast? = some n) :
    SortedB (q.foldl (stepN l pfx) out) ∧ ∀ n, n ∈ q.foldl (stepN l pfx) out ↔ n ∈ out ∨ ∃ y ∈ q, y.name = n ∧ (bl pfx).isPrefixOf (bl n) = true ∧ fieldsD l n ≠ [] := by
  induction q generalizing out with
  | nil => exact ⟨ho, fun n => by simp⟩
  | cons y q ih =>
    have hy := List.pairwise_cons.1 hs
    rw [List.foldl_cons]
    have hle : ∀ z ∈ q, y.name = z.name ∨ ltB y.name z.name = true := fun z hz => by
      have := hy.1 z hz
      unfold ahead at this
      by_cases h : y.name = z.name
      · exact .inl h
      · rw [if_neg h] at this; exact .inr this
    by_cases hc : ((bl pfx).isPrefixOf (bl y.name) && !(fieldsD l y.name).isEmpty && !decide (out.getLast? = some y.name)) = true
    · have e : stepN l pfx out y = out ++ [y.name] := by rw [stepN, if_pos hc]
      simp only [Bool.and_eq_true, Bool.not_eq_true', decide_eq_false_iff_not, List.isEmpty_eq_false_iff] at hc
      obtain ⟨⟨c1, c2⟩, c3⟩ := hc
      have hlt : ∀ n ∈ out, ltB n y.name = true := fun n hn => by
        rcases hq n hn y (by simp) with h | h
        · exact absurd (h ▸ hlast n hn y (by simp) h) c3
        · exact h
      rw [e]
      obtain ⟨i1, i2⟩ := ih hy.2 (out ++ [y.name]) (by
          unfold SortedB
          rw [List.pairwise_append]
          exact ⟨ho, by simp, fun a ha b hb => by simp at hb; rw [hb]; exact hlt a ha⟩)
        (fun n hn z hz => by
          rcases List.mem_append.1 hn with hn | hn
          · rcases hle z hz with h | h
            · exact .inr (h ▸ hlt n hn)
            · exact .inr (ltB_trans (hlt n hn) h)
          · rw [List.mem_singleton.1 hn]; exact hle z hz)
        (fun n hn z hz hnz => by
          rcases List.mem_append.1 hn with hn | hn
          · have : ltB n z.name = true := by
              rcases hle z hz with h | h
              · exact h ▸ hlt n hn
              · exact ltB_trans (hlt n hn) h
            rw [← hnz, ltB_irrefl] at this; cases this
          · rw [List.mem_singleton.1 hn]; simp)
      refine ⟨i1, fun n => (i2 n).trans ?_⟩
      constructor
      · rintro (h | ⟨z, hz, h⟩)
        · rcases List.mem_append.1 h with h | h
          · exact .inl h
          · rw [List.mem_singleton.1 h]; exact .inr ⟨y, by simp, rfl, c1, c2⟩
        · exact .inr ⟨z, by simp [hz], h⟩
      · rintro (h | ⟨z, hz, h⟩)
        · exact .inl (List.mem_append_left _ h)
        · rcases List.mem_cons.1 hz with rfl | hz
          · exact .inl (by simp [h.1])
          · exact .inr ⟨z, hz, h⟩
    · have e : stepN l pfx out y = out := by rw [stepN, if_neg hc]
      rw [e]
      obtain ⟨i1, i2⟩ := ih hy.2 out ho (fun n hn z hz => hq n hn z (by simp [hz])) (fun n hn z hz => hlast n hn z (by simp [hz]))
      refine ⟨i1, fun n => (i2 n).trans ?_⟩
      constructor
      · rintro (h | ⟨z, hz, h⟩)
        · exact .inl h
        · exact .inr ⟨z, by simp [hz], h⟩
      · rintro (h | ⟨z, hz, h⟩)
        · exact .inl h
        · rcases List.mem_cons.1 hz with rfl | hz
          · obtain ⟨rfl, h1, h2⟩ := h
            simp only [h1, Bool.true_and, Bool.and_eq_true, Bool.not_eq_true', decide_eq_false_iff_not, List.isEmpty_eq_false_iff, not_and, Classical.not_not] at hc
            exact .inl (List.mem_of_getLast? (hc h2))
          · exact .inr ⟨z, hz, h⟩
theorem namesD_sorted {l : List Reg} (hs : Sorted l) (pfx : ByteArray) : SortedB (namesD l pfx) := (namesD_spec l pfx l hs [] .nil (by simp) (by simp)).1
theorem namesD_mem {l : List Reg} (hs : Sorted l) (pfx n : ByteArray) : n ∈ namesD l pfx ↔ (bl pfx).isPrefixOf (bl n) = true ∧ fieldsD l n ≠ [] := by
  rw [namesD, (namesD_spec l pfx l hs [] .nil (by simp) (by simp)).2 n]
  constructor
  · rintro (h | ⟨y, _, _, h⟩)
    · cases h
    · exact h
  · rintro ⟨h1, h2⟩
    obtain ⟨y, hy⟩ := List.exists_mem_of_ne_nil _ h2
    obtain ⟨hy1, hy2⟩ := List.mem_filter.1 hy
    simp only [seenD, Bool.and_eq_true, decide_eq_true_eq] at hy2
    exact .inr ⟨y, hy1, hy2.1.1, h1, h2⟩

/-- The document's small: small letters, not none, not too many. -/
def smallB (s : ByteArray) (most : Nat) : Bool := letters s && decide (0 < s.size) && decide (s.size ≤ most)
end Go.Proofs.YtpdbmpbmepkikaaGreatDoor

namespace Go.Proofs.YtpdbmpbmepkikaaGreatDoor

theorem sortB_sorted {xs : List ByteArray} (h : xs.Nodup) : SortedB (sortB xs) := by
  have hp := sortB_is_perm xs
  have nd : (sortB xs).Nodup := hp.nodup_iff.2 h
  have tr : ∀ a b c : List UInt8, decide (a ≤ b) = true → decide (b ≤ c) = true → decide (a ≤ c) = true := fun a b c h1 h2 => by
    simp only [decide_eq_true_eq] at *; exact List.le_trans h1 h2
  have to : ∀ a b : List UInt8, (decide (a ≤ b) || decide (b ≤ a)) = true := fun a b => by
    simp only [Bool.or_eq_true, decide_eq_true_eq]; exact List.le_total a b
  have hs := List.pairwise_mergeSort tr to (xs.map (·.data.toList))
  have hle : (sortB xs).Pairwise fun a b => ¬ bl b < bl a := by
    unfold sortB
    refine List.pairwise_map.2 (hs.imp fun {a b} hab => ?_)
    simpa using hab
  refine (List.Pairwise.and hle nd).imp fun {a b} ⟨h1, h2⟩ => ?_
  simp only [ltB, decide_eq_true_eq]
  by_cases h : bl a < bl b
  · exact h
  · exact absurd (bl_inj (List.le_antisymm (List.not_lt.1 h1) (List.not_lt.1 h))) h2
theorem SortedB.nodup {l : List ByteArray} (h : SortedB l) : l.Nodup := h.imp fun {a b} hab e => by rw [e, ltB_irrefl] at hab; cases hab

/-- The registers below a prefix, in the order of the document. -/
theorem Bk.below {L l : List Reg} (h : Bk L l) (pfx : ByteArray) : belowL L pfx = l.filter fun x => preB pfx x.key := by
  have e1 : sortB (keysL L pfx) = (l.filter fun x => preB pfx x.key).map (·.key) := by
    have hn : (keysL L pfx).Nodup := h.nodup.filter _
    refine SortedB.unique (sortB_sorted hn) ?_ fun n => ?_
    · refine List.pairwise_map.2 ?_
      refine List.Pairwise.imp_of_mem (fun {a b} ha hb hab => ?_) (h.sorted.filter _)
      simp only [ltB, decide_eq_true_eq]
      exact (key_lt (h.good a (List.mem_filter.1 ha).1) (h.good b (List.mem_filter.1 hb).1)).2 hab
    · rw [(sortB_is_perm _).mem_iff]
      unfold keysL
      rw [List.mem_filter]
      simp only [List.mem_map, List.mem_filter]
      constructor
      · rintro ⟨⟨y, hy, rfl⟩, hp⟩
        exact ⟨y, ⟨h.perm.subset hy, hp⟩, rfl⟩
      · rintro ⟨y, ⟨hy, hp⟩, rfl⟩
        exact ⟨⟨y, h.perm.symm.subset hy, rfl⟩, hp⟩
  unfold belowL
  rw [e1, List.map_map]
  have : ∀ y ∈ l.filter fun x => preB pfx x.key, ((getK L) ∘ fun x : Reg => x.key) y = id y := fun y hy => by
    have hyl := (List.mem_filter.1 hy).1
    show getK L y.key = y
    unfold getK findK
    cases hf : L.find? (fun z => decide (z.key = y.key)) with
    | none => exact absurd rfl (find_none hf y (h.perm.symm.subset hyl))
    | some z =>
      have hz := find_mem hf
      have hzl := h.perm.subset hz.1
      exact h.sorted.inj hzl hyl ((sameKey_iff (h.good z hzl) (h.good y hyl)).2 hz.2)
  rw [List.map_congr_left this, List.map_id]

/-- The deletion that is found. -/
theorem Bk.gone {L l : List Reg} (h : Bk L l) (n : ByteArray) : findK L (keyOf2 n ⟨#[]⟩) = goneD l n := by
  unfold findK goneD
  rw [h.find]
  have e : ∀ q : List Reg, (∀ x ∈ q, Good x) → q.find? (fun y => decide (y.key = keyOf2 n ⟨#[]⟩)) = q.find? fun y => sameKey y ⟨n, ⟨#[]⟩, 0, 0, ⟨#[]⟩⟩ := fun q hq => by
    induction q with
    | nil => rfl
    | cons y q ih =>
      have hy : decide (y.key = keyOf2 n ⟨#[]⟩) = sameKey y ⟨n, ⟨#[]⟩, 0, 0, ⟨#[]⟩⟩ := by
        rw [Bool.eq_iff_iff, decide_eq_true_eq, key_gone (hq y (by simp))]
        simp [sameKey]
      rw [List.find?_cons, List.find?_cons, hy, ih (fun z hz => hq z (by simp [hz]))]
  exact e l h.good

/-- What shown lets through. -/
def shownP (L : List Reg) (n : ByteArray) (x : Reg) : Bool :=
  !(decide (x.field = ⟨#[]⟩) || (findK L (keyOf2 n ⟨#[]⟩)).isSome && !laterZ x.c x.r ((findK L (keyOf2 n ⟨#[]⟩)).getD default).c ((findK L (keyOf2 n ⟨#[]⟩)).getD default).r)
def shownL (L : List Reg) (n : ByteArray) : List Reg := (belowL L (n ++ ⟨#[46]⟩)).filter (shownP L n)
theorem Bk.shown {L l : List Reg} (h : Bk L l) (n : ByteArray) : shownL L n = fieldsD l n := by
  unfold shownL fieldsD
  rw [h.below, List.filter_filter]
  refine List.filter_congr fun x hx => ?_
  have hp : preB (n ++ ⟨#[46]⟩) x.key = decide (x.name = n) := by
    rw [Bool.eq_iff_iff, preB, Lib.hasPrefix, List.isPrefixOf_iff_prefix, decide_eq_true_eq]
    have := key_begins (h.good x hx) n
    rw [← this]
    simp [bl]
  rw [hp]
  unfold shownP seenD
  rw [h.gone]
  cases goneD l n with
  | none => simp [Bool.and_comm]
  | some d => simp [Bool.and_comm, Bool.and_assoc]

/-- The greatest counter. -/
theorem Bk.clock {L l : List Reg} (h : Bk L l) : clockL L = clockL l := by
  unfold clockL
  exact h.perm.foldr_eq' (fun x _ y _ z => by omega) 0

/-- The names, in order: those that a book holds, each once. -/
theorem Bk.names {L l : List Reg} (h : Bk L l) (pfx : ByteArray) {xs : List ByteArray} (hx : xs.Nodup) (hm : ∀ n, n ∈ xs ↔ ∃ y ∈ L, y.name = n) :
    (sortB xs).filter (fun n => preB pfx n && !(shownL L n).isEmpty) = namesD l pfx := by
  refine SortedB.unique (List.Pairwise.filter _ (sortB_sorted hx)) (namesD_sorted h.sorted pfx) fun n => ?_
  rw [List.mem_filter, namesD_mem h.sorted, (sortB_is_perm xs).mem_iff, hm, h.shown]
  simp only [Bool.and_eq_true, preB, Lib.hasPrefix, Bool.not_eq_true', List.isEmpty_eq_false_iff]
  constructor
  · exact fun h => h.2
  · rintro ⟨h1, h2⟩
    obtain ⟨y, hy⟩ := List.exists_mem_of_ne_nil _ h2
    obtain ⟨hy1, hy2⟩ := List.mem_filter.1 hy
    simp only [seenD, Bool.and_eq_true, decide_eq_true_eq] at hy2
    exact ⟨⟨y, h.perm.symm.subset hy1, hy2.1.1⟩, h1, h2⟩
end Go.Proofs.YtpdbmpbmepkikaaGreatDoor

namespace Go.Proofs.YtpdbmpbmepkikaaGreatDoor
open Go.RowKit

/-- The table of the library that the decimal digits want. -/
abbrev Tab (w : World) : Prop := Lib.TabIs Tryz.prog w "internal/strconv.uint64pow10" .u64 Lib.pow10Tab
theorem tabGlobal : Tryz.prog.globalNamed "internal/strconv.uint64pow10" = some 3 := by kernel_rfl
theorem Tab.of_block {w w' : World} (h : Tab w) (hb : w'.heap[3]? = w.heap[3]?) : Tab w' := by
  unfold Tab Lib.TabIs World.var? at h ⊢
  rw [tabGlobal] at h ⊢
  simp only [Option.bind_some] at h ⊢
  rw [hb]
  exact h
theorem Tab.lt {w : World} (h : Tab w) : 3 < w.heap.size := by
  unfold Tab Lib.TabIs World.var? at h
  rw [tabGlobal] at h
  simp only [Option.bind_some] at h
  rcases Nat.lt_or_ge 3 w.heap.size with h' | h'
  · exact h'
  · rw [Array.getElem?_eq_none h'] at h; cases h
theorem Tab.keep {F : Nat → Prop} {w w' : World} (h : Tab w) (hk : Keep F w w') (hF : ¬ F 3) : Tab w' := h.of_block (hk.block 3 h.lt hF)
theorem Tab.below {N : Nat} {w w' : World} (h : Tab w) (hb : Below N w w') (hN : w.heap.size ≤ N) : Tab w' := h.of_block (hb.block 3 (Nat.lt_of_lt_of_le h.lt hN))

/-- What stays: what was there at w0. -/
def LineAt (w0 W : World) : Prop := Below w0.heap.size w0 W
theorem LineAt_drew (w0 W : World) : LineAt w0 W.drew ↔ LineAt w0 W := ⟨fun h => ⟨h.os, h.tape, h.output, h.size, h.block⟩, fun h => ⟨h.os, h.tape, h.output, h.size, h.block⟩⟩

def itoaB (n : Int) : ByteArray := ⟨(Lib.itoa n).toArray⟩
def I64 (n : Int) : Prop := -9223372036854775808 ≤ n ∧ n ≤ 9223372036854775807
theorem itoa_any (n : Int) (h : I64 n) (w : World) (ht : Tab w) : Calls Tryz.prog 140 #[.int .i64 n] w fun e w' => e = .returned (.string (itoaB n)) ∧ Below w.heap.size w w' := by
  refine (Tryz.strconv_Itoa n h.1 h.2 w ht).mono ?_
  rintro e w' ⟨rfl, k, os, rfl⟩
  refine ⟨rfl, rfl, rfl, rfl, by simp [Sort.grow], fun b hb => ?_⟩
  rw [Sort.heap_grow_old _ _ (by simpa using hb)]
  rfl

theorem itoaB_size (n : Int) (h : I64 n) : (itoaB n).size ≤ 21 := by
  simpa [itoaB, ByteArray.size] using Lib.itoa_length_le n h.1 h.2

/-- A register's line. -/
def lineB (x : Reg) : ByteArray := x.name ++ ⟨#[46]⟩ ++ x.field ++ ⟨#[32]⟩ ++ itoaB x.c ++ ⟨#[32]⟩ ++ itoaB x.r ++ ⟨#[32]⟩ ++ itoaB x.value.size ++ ⟨#[32]⟩ ++ x.value ++ ⟨#[10]⟩

set_option maxRecDepth 4000 in
attribute [local simp] LineAt_drew in
theorem line_any (n f v : ByteArray) (c r : Int) (w : World) (ht : Tab w) (hn : n.size ≤ 4096) (hf : f.size ≤ 4096) (hv : v.size ≤ 4096) (hc : I64 c) (hr : I64 r) :
    Calls Tryz.prog 84 #[.agg #[.string n, .string f, .int .i64 c, .int .i64 r, .string v]] w fun e w' => e = .returned (.string (lineB ⟨n, f, c, r, v⟩)) ∧ Below w.heap.size w w' := by
  have h64 : I64 v.size := by constructor <;> omega
  obtain ⟨sc, hsc⟩ : ∃ s, itoaB c = s := ⟨_, rfl⟩
  obtain ⟨sr, hsr⟩ : ∃ s, itoaB r = s := ⟨_, rfl⟩
  obtain ⟨sv, hsv⟩ : ∃ s, itoaB v.size = s := ⟨_, rfl⟩
  have z1 : sc.size ≤ 21 := hsc ▸ itoaB_size c hc
  have z2 : sr.size ≤ 21 := hsr ▸ itoaB_size r hr
  have z3 : sv.size ≤ 21 := hsv ▸ itoaB_size _ h64
  have hcall : ∀ W, LineAt (w.alloc (.cells #[.string n, .string f, .int .i64 c, .int .i64 r, .string v] 46)) W → ∀ k s, I64 k → itoaB k = s → Calls Tryz.prog 140 #[.int .i64 k] W fun e W' => e = .returned (.string s) ∧
      (∀ o, W'.cell? ⟨w.heap.size, o, none⟩ = W.cell? ⟨w.heap.size, o, none⟩) ∧ LineAt (w.alloc (.cells #[.string n, .string f, .int .i64 c, .int .i64 r, .string v] 46)) W' := fun W hW k s hk hs =>
    (itoa_any k hk W ((ht.keep (Keep.alloc (fun _ => False) _ _) id).below hW (Nat.le_refl _))).mono fun e W' h => ⟨by rw [h.1, hs], fun o => (bcell h.2).1 _ _ (Nat.lt_of_lt_of_le (by simp) hW.size), hW.trans (h.2.mono hW.size)⟩
  have HC := Lib.hid hcall
  have hL0 : LineAt (w.alloc (.cells #[.string n, .string f, .int .i64 c, .int .i64 r, .string v] 46)) (w.alloc (.cells #[.string n, .string f, .int .i64 c, .int .i64 r, .string v] 46)) := Below.refl _ _
  have HS := Lib.hid (And.intro hsc (And.intro hsr hsv))
  have HI := Lib.hid (And.intro hc (And.intro hr h64))
  have k2 : ¬ ((9223372036854775807 : Int) < (n.size : Int) + 1) := by omega
  have j2 : ¬ ((9223372036854775807 : Nat) < n.size + 1) := by omega
  have k3 : ¬ ((9223372036854775807 : Int) < (n.size : Int) + 1 + (f.size : Int)) := by omega
  have j3 : ¬ ((9223372036854775807 : Nat) < n.size + 1 + f.size) := by omega
  have k4 : ¬ ((9223372036854775807 : Int) < (n.size : Int) + 1 + (f.size : Int) + 1) := by omega
  have j4 : ¬ ((9223372036854775807 : Nat) < n.size + 1 + f.size + 1) := by omega
  have k5 : ¬ ((9223372036854775807 : Int) < (n.size : Int) + 1 + (f.size : Int) + 1 + (sc.size : Int)) := by omega
  have j5 : ¬ ((9223372036854775807 : Nat) < n.size + 1 + f.size + 1 + sc.size) := by omega
  have k6 : ¬ ((9223372036854775807 : Int) < (n.size : Int) + 1 + (f.size : Int) + 1 + (sc.size : Int) + 1) := by omega
  have j6 : ¬ ((9223372036854775807 : Nat) < n.size + 1 + f.size + 1 + sc.size + 1) := by omega
  have k7 : ¬ ((9223372036854775807 : Int) < (n.size : Int) + 1 + (f.size : Int) + 1 + (sc.size : Int) + 1 + (sr.size : Int)) := by omega
  have j7 : ¬ ((9223372036854775807 : Nat) < n.size + 1 + f.size + 1 + sc.size + 1 + sr.size) := by omega
  have k8 : ¬ ((9223372036854775807 : Int) < (n.size : Int) + 1 + (f.size : Int) + 1 + (sc.size : Int) + 1 + (sr.size : Int) + 1) := by omega
  have j8 : ¬ ((9223372036854775807 : Nat) < n.size + 1 + f.size + 1 + sc.size + 1 + sr.size + 1) := by omega
  have k9 : ¬ ((9223372036854775807 : Int) < (n.size : Int) + 1 + (f.size : Int) + 1 + (sc.size : Int) + 1 + (sr.size : Int) + 1 + (sv.size : Int)) := by omega
  have j9 : ¬ ((9223372036854775807 : Nat) < n.size + 1 + f.size + 1 + sc.size + 1 + sr.size + 1 + sv.size) := by omega
  have k10 : ¬ ((9223372036854775807 : Int) < (n.size : Int) + 1 + (f.size : Int) + 1 + (sc.size : Int) + 1 + (sr.size : Int) + 1 + (sv.size : Int) + 1) := by omega
  have j10 : ¬ ((9223372036854775807 : Nat) < n.size + 1 + f.size + 1 + sc.size + 1 + sr.size + 1 + sv.size + 1) := by omega
  have k11 : ¬ ((9223372036854775807 : Int) < (n.size : Int) + 1 + (f.size : Int) + 1 + (sc.size : Int) + 1 + (sr.size : Int) + 1 + (sv.size : Int) + 1 + (v.size : Int)) := by omega
  have j11 : ¬ ((9223372036854775807 : Nat) < n.size + 1 + f.size + 1 + sc.size + 1 + sr.size + 1 + sv.size + 1 + v.size) := by omega
  have k12 : ¬ ((9223372036854775807 : Int) < (n.size : Int) + 1 + (f.size : Int) + 1 + (sc.size : Int) + 1 + (sr.size : Int) + 1 + (sv.size : Int) + 1 + (v.size : Int) + 1) := by omega
  have j12 : ¬ ((9223372036854775807 : Nat) < n.size + 1 + f.size + 1 + sc.size + 1 + sr.size + 1 + sv.size + 1 + v.size + 1) := by omega
  go_enter Tryz.func84, Tryz.ntmps84
  go_wp2
  clear hsc hsr hsv hcall hc hr h64 ht
  go_region_held3 (fun W => W.cell? ⟨w.heap.size, 0, none⟩ = some (.string n) ∧ W.cell? ⟨w.heap.size, 1, none⟩ = some (.string f) ∧ W.cell? ⟨w.heap.size, 2, none⟩ = some (.int .i64 c) ∧ W.cell? ⟨w.heap.size, 3, none⟩ = some (.int .i64 r) ∧ W.cell? ⟨w.heap.size, 4, none⟩ = some (.string v) ∧ LineAt (w.alloc (.cells #[.string n, .string f, .int .i64 c, .int .i64 r, .string v] 46)) W)
    (go_keep)
    ((first
      | (go_at_call 140; refine (HC.out _ ?hw c sc HI.out.1 HS.out.1).mono ?_; (case hw => first | assumption | (rw [LineAt_drew]; assumption)); rintro e w' ⟨rfl, hq, hl⟩)
      | (go_at_call 140; refine (HC.out _ ?hw r sr HI.out.2.1 HS.out.2.1).mono ?_; (case hw => first | assumption | (rw [LineAt_drew]; assumption)); rintro e w' ⟨rfl, hq, hl⟩)
      | (go_at_call 140; refine (HC.out _ ?hw v.size sv HI.out.2.2 HS.out.2.2).mono ?_; (case hw => first | assumption | (rw [LineAt_drew]; assumption)); rintro e w' ⟨rfl, hq, hl⟩)))
  go_wp2
  go_ret
  refine ⟨?_, ((Below.refl _ _).alloc (Nat.le_refl _) _).trans (Below.mono (by assumption) (by simp))⟩
  rw [lineB, HS.out.1, HS.out.2.1, HS.out.2.2]
  rfl
end Go.Proofs.YtpdbmpbmepkikaaGreatDoor

namespace Go.Proofs.YtpdbmpbmepkikaaGreatDoor
open Go.RowKit
attribute [local go_sem] Oper.semAt_some

theorem conv_bytes (w : World) (s : ByteArray) : ∃ cap o, (convert 9 79 (.string s)).run Tryz.prog w = .ok (.slice (some ⟨w.heap.size, 0, none⟩) s.size cap) (w.drew.alloc o) ∧
    ∀ j (h : j < s.data.size), (w.drew.alloc o).cell? ⟨w.heap.size, j, none⟩ = some (.int .u8 (s.data[j].toNat : Int)) := by
  refine ⟨_, _, run_bytes_of_string w 9 79 5 s Tryz.underlying9 Tryz.underlying79 Tryz.underlying5, fun j hj => ?_⟩
  rw [show w.heap.size = w.drew.heap.size from rfl, World.cell?_alloc_mark]
  exact bytesRow_at s _ j hj

/-- A register that the program holds. -/
structure Fit (x : Reg) : Prop where
  name : x.name.size ≤ 4096
  field : x.field.size ≤ 4096
  value : x.value.size ≤ 4096
  c : I64 x.c
  r : I64 x.r

theorem lineB_size {x : Reg} (h : Fit x) : (lineB x).size ≤ 20000 := by
  have := itoaB_size _ h.c
  have := itoaB_size _ h.r
  have := itoaB_size x.value.size (by have := h.value; constructor <;> omega)
  have := h.name
  have := h.field
  have := h.value
  simp only [lineB, ByteArray.size_append]
  simp only [ByteArray.size, List.size_toArray, List.length_cons, List.length_nil] at *
  omega

theorem belowL_mem {L : List Reg} {pfx : ByteArray} {x : Reg} (h : x ∈ belowL L pfx) : x ∈ L := by
  obtain ⟨k, hk, rfl⟩ := List.mem_map.1 h
  have h2 := (List.mem_filter.1 ((sortB_is_perm _).subset hk)).1
  obtain ⟨y, hy, e⟩ := List.mem_map.1 h2
  rw [getK]
  cases hf : findK L k with
  | none => exact absurd e (by simpa using List.find?_eq_none.1 hf y hy)
  | some z => exact List.mem_of_find?_eq_some hf

def stepH (h c : Int) : Int := IntKind.u64.wrap (Go.bits BinOp.xor IntKind.u64 h (IntKind.u64.wrap c) * 1099511628211)
def hashT (h : Int) (l : List UInt8) : Int := l.foldl (fun h c => stepH h c.toNat) h
def hashB (h : Int) (s : ByteArray) : Int := hashT h s.data.toList
theorem hashT_take (h : Int) (l : List UInt8) (j : Nat) (hj : j < l.length) : hashT h (l.take (j + 1)) = stepH (hashT h (l.take j)) l[j].toNat := by
  rw [hashT, List.take_add_one, List.foldl_append]
  simp [hj, hashT]
def hashL (l : List Reg) : Int := l.foldl (fun h x => hashB h (lineB x)) 14695981039346656037
theorem hashL_snoc (l : List Reg) (x : Reg) : hashL (l ++ [x]) = hashB (hashL l) (lineB x) := by
  rw [hashL, List.foldl_append]; rfl


/-- What the loop over registers keeps: the sum so far, the array, the table of digits. -/
structure DigI (N : Nat) (o3 : Option Obj) (pre : List Reg) (W : World) (D : Nat → Prop) : Prop where
  sum : W.heap[N + 1]? = some (.cells #[.int .u64 (hashL pre)] 120 (0, 0))
  tab : W.heap[3]? = o3
  arr : W.heap[N]? = some (.cells #[.int .u8 0, .int .u8 0, .int .u8 0, .int .u8 0, .int .u8 0, .int .u8 0, .int .u8 0, .int .u8 0] 76 (0, 0))
  own : D = fun b => b = N + 1 ∨ b = 3 ∨ b = N
theorem DigI.owned (N : Nat) (o3 : Option Obj) (h3 : 3 < N) : Owned (DigI N o3) := ⟨fun pre W D ⟨h, h', h'', e⟩ b hb => by
    subst e
    rcases hb with rfl | rfl | rfl
    · exact (Array.getElem?_eq_some_iff.1 h).1
    · have := (Array.getElem?_eq_some_iff.1 h).1; omega
    · exact (Array.getElem?_eq_some_iff.1 h'').1,
  fun pre W D W' ⟨h, h', h'', e⟩ ha => by
    subst e
    exact ⟨(ha.block _ (.inl rfl)).trans h, (ha.block _ (.inr (.inl rfl))).trans h', (ha.block _ (.inr (.inr rfl))).trans h'', rfl⟩⟩

/-- The eight bytes of a sum. -/
def digBytes (h : Int) : List Int := [h / 72057594037927936 % 256, h / 281474976710656 % 256, h / 1099511627776 % 256, h / 4294967296 % 256, h / 16777216 % 256, h / 65536 % 256, h / 256 % 256, h % 256]
def digV (h : Int) : Value := .agg #[.int .u8 (h / 72057594037927936 % 256), .int .u8 (h / 281474976710656 % 256), .int .u8 (h / 1099511627776 % 256), .int .u8 (h / 4294967296 % 256), .int .u8 (h / 16777216 % 256), .int .u8 (h / 65536 % 256), .int .u8 (h / 256 % 256), .int .u8 (h % 256)]
/-- An array in block N, as stores have left it. -/
structure ArrAt (N T : Nat) (W0 : World) (cs : Array Value) (W : World) : Prop where
  block : W.heap[N]? = some (.cells cs T (0, 0))
  keep : Keep (fun b => b = N) W0 W
theorem ArrAt.set {N T : Nat} {W0 W : World} {cs : Array Value} (h : ArrAt N T W0 cs W) (i : Nat) (v : Value) : ArrAt N T W0 (cs.setIfInBounds i v) (W.setCell ⟨N, i, none⟩ v) := by
  refine ⟨?_, h.keep.trans (Keep.setCell _ _ _ rfl)⟩
  simp only [World.setCell, Array.getElem?_modify, h.block, Option.map_some, if_true]
  rfl

set_option maxHeartbeats 400000 in
theorem digest_any (m : Nat) (L : List Reg) (pfx : ByteArray) (w : World) (hB : BookAt w m L) (hL : L.length ≤ 1073741824) (ht : Tab w) (hF : ∀ x ∈ L, Fit x) :
    Calls Tryz.prog 51 #[.map (some m), .string pfx] w fun e w' => e = .returned (digV (hashL (belowL L pfx))) ∧ Below w.heap.size w w' := by
  have hlt := hB.lt
  have hm3 : m ≠ 3 := by
    rintro rfl
    obtain ⟨en, clock, hb, _⟩ := hB
    unfold Tab Lib.TabIs World.var? at ht
    rw [tabGlobal] at ht
    simp [hb] at ht
  have h3 := ht.lt
  refine (callsIn_wide (n := 0)).1 (callsIn_of_wp_marks Tryz.func51 rfl trivial ?_ rfl)
  simp only [Tryz.ntmps51, List.size_toArray, List.length_cons, List.length_nil, Nat.reduceAdd, Nat.reduceSub, Array.replicate_succ, Array.replicate_zero, List.push_toArray, List.append_toArray, List.nil_append, List.cons_append]
  have HT := Lib.hid (And.intro ht hB)
  clear ht hB
  gi_wp2_with (gi_at_call 52; refine (callsIn_wide.2 (below_any m pfx _)).mono ?_; rintro e w1 ⟨rfl, hw1⟩; have HW := Lib.hid hw1; clear hw1)
  obtain ⟨ht, hB⟩ := HT.out
  obtain ⟨N, hN⟩ : ∃ N, N = w.heap.size := ⟨_, rfl⟩
  have hB1 : BookAt w1 m L := by rw [HW.out]; exact (((hB.alloc _).alloc _).alloc _).alloc _
  have ht1 : w1.heap[3]? = w.heap[3]? := by rw [HW.out]; exact (((((Below.refl _ _).alloc (Nat.le_refl _) _).alloc (by simp) _).alloc (by simp; omega) _).alloc (by simp; omega) _).block 3 h3
  have hbel : Below w.heap.size w w1 := by rw [HW.out]; exact ((((Below.refl _ _).alloc (Nat.le_refl _) _).alloc (by simp) _).alloc (by simp; omega) _).alloc (by simp; omega) _
  have hz1 : w1.heap.size = w.heap.size + 4 := by rw [HW.out]; simp
  have hb0 : w1.heap[w.heap.size]? = some (.cells #[.int .u8 0, .int .u8 0, .int .u8 0, .int .u8 0, .int .u8 0, .int .u8 0, .int .u8 0, .int .u8 0] 76 (0, 0)) := by
    rw [HW.out]; simp only [World.alloc]; grind
  have hb1 : w1.heap[w.heap.size + 1]? = some (.cells #[.int .u64 14695981039346656037] 120 (0, 0)) := by
    rw [HW.out]; simp only [World.alloc]; grind
  have hc2 : w1.cell? ⟨w.heap.size + 1 + 1, 0, none⟩ = some (.map (some m)) := by rw [HW.out]; go_simp
  have hc3 : w1.cell? ⟨w.heap.size + 1 + 1 + 1, 0, none⟩ = some (.string pfx) := by rw [HW.out]; go_simp
  have HT0 := Lib.hid ht
  have hit := below1_iter (w.heap.size + 1 + 1) (w.heap.size + 1 + 1 + 1) m L pfx w1 hc2 hc3 hB1 hL
  clear hc2 hc3 hN N HT ht hB
  have HF := Lib.hid hF
  clear hF
  obtain ⟨o3, ho3⟩ : ∃ o, o = w.heap[3]? := ⟨_, rfl⟩
  rw [← ho3] at ht1
  have HO3 := Lib.hid ho3
  clear ho3
  refine wp_rangeFunc (gf := 85) (lb := #[.pointer (some ⟨w.heap.size + 1 + 1, 0, none⟩), .pointer (some ⟨w.heap.size + 1 + 1 + 1, 0, none⟩)]) rfl (callFunc_run Tryz.func85 rfl (by decide)) hit (fun b hb => by rcases hb with rfl | rfl | rfl <;> omega) (fun _ => rfl)
    (DigI w.heap.size o3) (fun _ _ _ _ => False) (DigI.owned _ _ h3) (fun _ => ⟨fun _ _ _ h => h.elim, fun _ _ _ _ h => h.elim⟩)
    (fun b => b = w.heap.size + 1 ∨ b = 3 ∨ b = w.heap.size) (fun b hb => ?idis) ⟨hb1, ht1, hb0, rfl⟩ ?round ?done ?stop
  case idis => rcases hb with rfl | rfl | rfl <;> rintro (h | h | h) <;> omega
  case stop => exact fun _ _ _ _ _ h => h.elim
  case done =>
    rintro xs W D hxs hI hLf hK hDK
    obtain ⟨hsum, htab, harr, rfl⟩ := hI
    have HLf := Lib.hid hLf
    have HTab := Lib.hid htab
    have hc : W.cell? ⟨w.heap.size + 1, 0, none⟩ = some (.int .u64 (hashL xs)) := Joins.cell_of_block hsum 0
    have ha0 : W.cell? ⟨w.heap.size, 0, none⟩ = some (.int .u8 0) := Joins.cell_of_block harr 0
    have ha1 : W.cell? ⟨w.heap.size, 1, none⟩ = some (.int .u8 0) := Joins.cell_of_block harr 1
    have ha2 : W.cell? ⟨w.heap.size, 2, none⟩ = some (.int .u8 0) := Joins.cell_of_block harr 2
    have ha3 : W.cell? ⟨w.heap.size, 3, none⟩ = some (.int .u8 0) := Joins.cell_of_block harr 3
    have ha4 : W.cell? ⟨w.heap.size, 4, none⟩ = some (.int .u8 0) := Joins.cell_of_block harr 4
    have ha5 : W.cell? ⟨w.heap.size, 5, none⟩ = some (.int .u8 0) := Joins.cell_of_block harr 5
    have ha6 : W.cell? ⟨w.heap.size, 6, none⟩ = some (.int .u8 0) := Joins.cell_of_block harr 6
    have ha7 : W.cell? ⟨w.heap.size, 7, none⟩ = some (.int .u8 0) := Joins.cell_of_block harr 7
    have hfr : ∀ i, W.frozen? ⟨w.heap.size, i, none⟩ = false := fun i => Joins.unfrozen_of_block harr i
    obtain ⟨h, hh⟩ : ∃ h, h = hashL xs := ⟨_, rfl⟩
    rw [← hh] at hc
    have HH := Lib.hid (And.intro hh (And.intro hxs (And.intro harr hbel)))
    clear hsum htab harr hLf hh hxs hit hb0 hb1 ht1 hB1 hbel
    gi_wp2
    refine wpIn_loop_rounds 9 ?_
    iterate 9 (try (rw [roundsIn_succ]; gi_wp2))
    generalize hWF : World.setCell _ _ _ = WF
    have hA : ArrAt w.heap.size 76 W _ WF := hWF ▸ (((((((((((((((((ArrAt.mk HH.out.2.2.1 (Keep.refl _ _)).set 0 _).set 1 _).set 2 _).set 3 _).set 4 _).set 5 _).set 6 _).set 7 _).set 0 _).set 1 _).set 2 _).set 3 _).set 4 _).set 5 _).set 6 _).set 7 _)
    clear hWF
    obtain ⟨hAb, hAk⟩ := hA
    simp only [List.setIfInBounds_toArray, List.set_cons_zero, List.set_cons_succ] at hAb
    obtain ⟨hh, hxs, -, hbel⟩ := HH.out
    have hK' : WF.heap[w1.heap.size]? = some (.deferred (some [])) := (hAk.block _ (Array.getElem?_eq_some_iff.1 hK).1 (by omega)).trans hK
    rw [hz1] at hK'
    refine ⟨by simp, .inl ⟨_, _, rfl, run_takeDeferred hK', ?_⟩⟩
    have hAb' : (WF.putObj (w.heap.size + 4) (.deferred none)).heap[w.heap.size]? = some (.cells #[.int .u8 (h / 72057594037927936 % 256), .int .u8 (h / 281474976710656 % 256), .int .u8 (h / 1099511627776 % 256), .int .u8 (h / 4294967296 % 256), .int .u8 (h / 16777216 % 256), .int .u8 (h / 65536 % 256), .int .u8 (h / 256 % 256), .int .u8 (h % 256)] 76 (0, 0)) :=
      (World.putObj_heap_other (by omega)).trans hAb
    refine ⟨_, results_cell_row rfl _ _ w.heap.size 76 _ _ _ rfl hAb' Tryz.underlying76 rfl (by kernel_rfl), ?_, ?_⟩
    · rw [← hxs, ← hh]; rfl
    · have hW : Below w.heap.size w W := ⟨HLf.out.1.os.trans hbel.os, HLf.out.1.tape.trans hbel.tape, HLf.out.1.output.trans hbel.output, Nat.le_trans hbel.size HLf.out.1.size, fun b hb => by
        by_cases h3b : b = 3
        · subst h3b; rw [HTab.out, HO3.out]
        · exact (HLf.out.1.block b (Nat.lt_of_lt_of_le hb hbel.size) (by rintro (e | e | e) <;> omega)).trans (hbel.block b hb)⟩
      exact below_putObj (below_keep hW hAk (fun x hx e => by omega)) (by omega) _
  case round =>
    rintro l pre ⟨n, f, c, r, v⟩ W D hl1 hl2 hDl ⟨suf, hS⟩ hI hD0
    have hFx := HF.out ⟨n, f, c, r, v⟩ (belowL_mem (pfx := pfx) (by rw [← hS]; simp))
    unfold Reg.val
    have HI := Lib.hid (And.intro hI hDl)
    have hlD := (DigI.owned _ _ h3).lt _ _ _ hI
    obtain ⟨hsum, htab, harr, rfl⟩ := hI
    have h3W := hlD 3 (.inr (.inl rfl))
    have hNW := hlD (w.heap.size + 1) (.inl rfl)
    clear hit hlD hb0 hb1 ht1 hB1 hbel htab harr hsum hS
    gi_wp2
    refine ⟨⟨Keep.alloc _ _ _, fun b hb => hb.imp id (·.1)⟩, fun W2 hbut => ?_⟩
    have hcl : W2.heap[W.heap.size]? = some (.cells #[.string n, .string f, .int .i64 c, .int .i64 r, .string v] 46 (0, 0)) := (hbut.block _ (by omega)).trans (World.alloc_heap_new _ _)
    have cb : ∀ i, W2.cell? ⟨W.heap.size, i, none⟩ = (#[Value.string n, .string f, .int .i64 c, .int .i64 r, .string v])[i]? := fun i => Joins.cell_of_block hcl i
    have c0 := cb 0
    have c1 := cb 1
    have c2 := cb 2
    have c3 := cb 3
    have c4 := cb 4
    simp at c0 c1 c2 c3 c4
    obtain ⟨hI, hDl⟩ := HI.out
    have ht2 : Tab W2 := by
      exact HT0.out.of_block (by rw [hbut.block 3 (fun e => hDl (.inr (.inl e.symm))), Below.heap_alloc _ _ _ h3W, hI.tab, HO3.out])
    have hsum : W2.heap[w.heap.size + 1]? = some (.cells #[.int .u64 (hashL pre)] 120 (0, 0)) := by rw [hbut.block _ (fun e => hDl (.inl e.symm)), Below.heap_alloc _ _ _ hNW]; exact hI.sum
    have hz2 : W2.heap.size = W.heap.size + 1 := by rw [hbut.size]; simp
    have HBt := Lib.hid hbut
    clear hbut hI hDl cb hcl
    have hline := line_any n f v c r W2 ht2 hFx.name hFx.field hFx.value hFx.c hFx.r
    have HLn := Lib.hid hline
    clear hline ht2
    gi_wp2_with (gi_at_call 84; refine (callsIn_wide.2 HLn.out).mono ?_; rintro e w3 ⟨rfl, hb3⟩; refine Halt.of ?_)
    have hsz : (lineB ⟨n, f, c, r, v⟩).size ≤ 20000 := lineB_size hFx
    obtain ⟨s, hs⟩ : ∃ s, s = lineB ⟨n, f, c, r, v⟩ := ⟨_, rfl⟩
    rw [← hs] at hsz ⊢
    have hsum3 : w3.heap[w.heap.size + 1]? = some (.cells #[.int .u64 (hashL pre)] 120 (0, 0)) := (hb3.block _ (by omega)).trans hsum
    have HB3 := Lib.hid hb3
    have HS := Lib.hid hs
    clear hb3 hsum c0 c1 c2 c3 c4 hs HLn
    obtain ⟨cap, o, hconv, hrow⟩ := conv_bytes w3 s
    have HRow := Lib.hid hrow
    clear hrow
    unfold Halt
    gi_wp2
    gi_loopg [18] s.size (fun k s18 wr => ∃ j : Nat, k + j = s.size ∧ s18 = .int .i64 j ∧ wr.heap[w.heap.size + 1]? = some (.cells #[.int .u64 (hashT (hashL pre) (s.data.toList.take j))] 120 (0, 0)) ∧ Keep (fun b => b = w.heap.size + 1) (w3.drew.alloc o) wr)
    case atStart => exact ⟨0, by simp, rfl, (Below.heap_alloc w3.drew _ _ (show _ < w3.heap.size from (Array.getElem?_eq_some_iff.1 hsum3).1)).trans hsum3, .refl _ _⟩
    case round =>
      obtain ⟨j, hk, rfl, hw, hkp⟩ := hrel
      have hcw : wr.cell? ⟨w.heap.size + 1, 0, none⟩ = some (.int .u64 (hashT (hashL pre) (s.data.toList.take j))) := Joins.cell_of_block hw 0
      have hfw : wr.frozen? ⟨w.heap.size + 1, 0, none⟩ = false := Joins.unfrozen_of_block hw 0
      by_cases hj : j < s.data.size
      · have hx := (hkp.cell (p := ⟨w3.heap.size, j, none⟩) (by simp) (fun e => by have := (Array.getElem?_eq_some_iff.1 hsum3).1; simp only at e; omega)).trans (HRow.out j hj)
        obtain ⟨b, hb⟩ : ∃ b, b = s.data[j] := ⟨_, rfl⟩
        rw [← hb] at hx
        obtain ⟨h, hh⟩ : ∃ h, h = hashT (hashL pre) (s.data.toList.take j) := ⟨_, rfl⟩
        rw [← hh] at hcw hw
        have HH := Lib.hid (And.intro hb (And.intro hh (And.intro hkp hw)))
        have hj' : j < s.size := hj
        clear hb hh hkp hw hconv
        gi_wp2
        gi_roundg (gk - 1)
        case rel =>
          obtain ⟨hb, hh, hkp, hw⟩ := HH.out
          refine ⟨j + 1, by omega, by go_simp, ?_, hkp.trans (Keep.setCell _ _ _ rfl)⟩
          rw [hashT_take _ _ _ (by simpa using hj), ← hh]
          rw [setCell_box hw]
          simp [stepH, hb]
        case measure => omega
      · have hje : j = s.size := by have : s.data.size = s.size := rfl; omega
        subst hje
        have HH := Lib.hid (And.intro hkp hw)
        clear hkp hw hconv
        gi_wp2
        obtain ⟨hkp, hw⟩ := HH.out
        obtain ⟨hI, hDl⟩ := HI.out
        have hbut := HBt.out
        have hb3 := HB3.out
        have keep : Keep (fun b => b = w.heap.size + 1) W2 wr := (Keep.of_below' (F := fun b => b = w.heap.size + 1) hb3).trans ((Keep.drew _ _).trans ((Keep.alloc _ _ _).trans hkp))
        refine ⟨_, ⟨?_, ?_, ?_, rfl⟩, keep.mono (fun b _ h => .inl (.inl h)), fun b hb => .inl (.inl hb)⟩
        · rw [hw, hashL_snoc, ← HS.out, hashB, List.take_of_length_le (by rw [Array.length_toList]; exact Nat.le_refl _)]
        · rw [keep.block 3 (by omega) (by omega), hbut.block 3 (fun e => hDl (.inr (.inl e.symm))), Below.heap_alloc _ _ _ h3W, hI.tab]
        · rw [keep.block _ (by omega) (by omega), hbut.block _ (fun e => hDl (.inr (.inr e.symm))), Below.heap_alloc _ _ _ (by omega), hI.arr]
end Go.Proofs.YtpdbmpbmepkikaaGreatDoor

namespace Go.Proofs.YtpdbmpbmepkikaaGreatDoor
open Go.RowKit
attribute [local go_sem] Oper.semAt_some

theorem RoundIn.inRound {F : Fence} {n : Nat} {P : Program} {l : Nat} {f : FuncId} {tmps : Array Value} {assign body : Code} {w : World} {R : Ending → World → Prop} (k : Nat) (h : RoundIn F n P l f tmps assign body w R) : RoundIn (F.inRound k) n P l f tmps assign body w R := h

theorem wpListIn_pass {F : Fence} {n : Nat} {P : Program} {ops : Array Oper} {Q : Exit → Act → World → Prop} {a : Act} {w : World} {rest : List Oper} {o : Oper} (hw : Region.wanted o (yielded ops a.tmps) = false) (hf : ∀ f, F.fn f) (h : wpListIn F n P ops Q rest (a.put o.dst undef) w) : wpListIn F n P ops Q (o :: rest) a w := by
  simp only [wpListIn, hw]
  exact ⟨fun f _ => hf f, h⟩
/-- Which registers shown lets through: what it holds of the deletion. -/
def seenP (was : Bool) (gc gr : Int) (x : Reg) : Bool := !(decide (x.field = ⟨#[]⟩) || was && !laterZ x.c x.r gc gr)

/-- What the loop keeps: the outer one's own; its variables. -/
structure ShI' (bx bw bg : Nat) (W0 : World) (D0 : Nat → Prop) (yv : Value) (W : World) (D D' : Nat → Prop) : Prop where
  dom : ∀ b, D b ↔ D' b ∨ b = bx ∨ b = bw ∨ b = bg
  old : ∀ b, D' b → D0 b ∨ W0.heap.size < b
  box : W.heap[bx]? = some (.cells #[yv] 83 (0, 0))
  was : W.heap[bw]? = W0.heap[bw]?
  gone : W.heap[bg]? = W0.heap[bg]?
  size : W0.heap.size ≤ W.heap.size
def ShI (bx bw bg : Nat) (W0 : World) (D0 : Nat → Prop) (yv : Value) (p : Reg → Bool) (J : List Reg → World → (Nat → Prop) → Prop) (pre : List Reg) (W : World) (D : Nat → Prop) : Prop :=
  ∃ D', J (pre.filter p) W D' ∧ ShI' bx bw bg W0 D0 yv W D D'
theorem ShI.owned {bx bw bg : Nat} {W0 : World} {D0 : Nat → Prop} {yv : Value} {p : Reg → Bool} {J : List Reg → World → (Nat → Prop) → Prop} (hJ : Owned J) (hw : bw < W0.heap.size) (hg : bg < W0.heap.size) : Owned (ShI bx bw bg W0 D0 yv p J) := ⟨fun pre W D h b hb => by
    obtain ⟨D', hj, h⟩ := h
    have := h.size
    rcases (h.dom b).1 hb with hb | rfl | rfl | rfl
    · exact hJ.lt _ _ _ hj b hb
    · exact (Array.getElem?_eq_some_iff.1 h.box).1
    · omega
    · omega,
  fun pre W D W' h ha => by
    obtain ⟨D', hj, h⟩ := h
    exact ⟨D', hJ.st _ _ _ _ hj ⟨ha.os, ha.tape, ha.output, ha.size, fun k hk => ha.block k ((h.dom k).2 (.inl hk))⟩, h.dom, h.old, (ha.block _ ((h.dom _).2 (.inr (.inl rfl)))).trans h.box, (ha.block _ ((h.dom _).2 (.inr (.inr (.inl rfl))))).trans h.was, (ha.block _ ((h.dom _).2 (.inr (.inr (.inr rfl))))).trans h.gone, Nat.le_trans h.size ha.size⟩⟩
/-- Behind the loop, as the caller sees it. -/
theorem ShI'.left {bx bw bg : Nat} {W w1 Wd : World} {D0 D D' : Nat → Prop} {yv : Value} (h : ShI' bx bw bg W D0 yv Wd D D') (hb : Below W.heap.size W w1) (hbx : W.heap.size ≤ bx) (hL : Left (fun b => D0 b ∨ b = bx ∨ b = bw ∨ b = bg) w1 D Wd) : Left D0 W D' Wd :=
  ⟨⟨hL.1.os.trans hb.os, hL.1.tape.trans hb.tape, hL.1.output.trans hb.output, Nat.le_trans hb.size hL.1.size, fun k hk hn => by
    by_cases h1 : k = bw
    · rw [h1]; exact h.was
    · by_cases h2 : k = bg
      · rw [h2]; exact h.gone
      · exact (hL.1.block k (Nat.lt_of_lt_of_le hk hb.size) (by rintro (h' | h' | h' | h'); exact hn h'; omega; exact h1 h'; exact h2 h')).trans (hb.block k hk)⟩,
  fun b hb' => (h.old b hb').imp id fun x => Nat.le_of_lt x⟩
/-- A round's end: yield has said its word. -/
theorem ShI'.step {bx bw bg : Nat} {W0 w3 W' : World} {D0 D D' D'' : Nat → Prop} {yv : Value} (h : ShI' bx bw bg W0 D0 yv w3 D D') (hd0 : ∀ b, D0 b → b ≠ bx ∧ b ≠ bw ∧ b ≠ bg) (hbx : bx = W0.heap.size) (hw : bw < W0.heap.size) (hg : bg < W0.heap.size) (hL : Left D' w3 D'' W') :
    ShI' bx bw bg W0 D0 yv W' (fun b => D'' b ∨ b = bx ∨ b = bw ∨ b = bg) D'' ∧ Left D w3 (fun b => D'' b ∨ b = bx ∨ b = bw ∨ b = bg) W' := by
  have hz := h.size
  have hx := (Array.getElem?_eq_some_iff.1 h.box).1
  have nD : ∀ b, (b = bx ∨ b = bw ∨ b = bg) → ¬ D' b := fun b hb hd => by
    rcases h.old b hd with h1 | h1
    · obtain ⟨a1, a2, a3⟩ := hd0 b h1
      rcases hb with e | e | e
      · exact a1 e
      · exact a2 e
      · exact a3 e
    · omega
  refine ⟨⟨fun b => Iff.rfl, fun b hb => ?_, (hL.1.block _ hx (nD _ (.inl rfl))).trans h.box, (hL.1.block _ (by omega) (nD _ (.inr (.inl rfl)))).trans h.was, (hL.1.block _ (by omega) (nD _ (.inr (.inr rfl)))).trans h.gone, Nat.le_trans hz hL.1.size⟩, hL.1.mono fun k _ hk => (h.dom k).2 (.inl hk), fun b hb => ?_⟩
  · rcases hL.2 b hb with h1 | h1
    · exact h.old b h1
    · exact .inr (by omega)
  · rcases hb with hb | hb
    · rcases hL.2 b hb with h1 | h1
      · exact .inl ((h.dom b).2 (.inl h1))
      · exact .inr h1
    · exact .inl ((h.dom b).2 (.inr hb))

set_option maxRecDepth 4000 in
set_option maxHeartbeats 1000000 in
theorem shown1_iter (bm bn bw bg m : Nat) (L : List Reg) (n : ByteArray) (was : Bool) (gc gr : Int) (w : World)
    (hcm : w.cell? ⟨bm, 0, none⟩ = some (.map (some m))) (hcn : w.cell? ⟨bn, 0, none⟩ = some (.string n)) (hcw : w.cell? ⟨bw, 0, none⟩ = some (.bool was))
    (hc2 : w.cell? ⟨bg, 2, none⟩ = some (.int .i64 gc)) (hc3 : w.cell? ⟨bg, 3, none⟩ = some (.int .i64 gr)) (hB : BookAt w m L) (hL : L.length ≤ 1073741824) (hn : n.size ≤ 65536) (hwm : bw ≠ m) (hgm : bg ≠ m) :
    Iter Tryz.prog 120 #[.pointer (some ⟨bm, 0, none⟩), .pointer (some ⟨bn, 0, none⟩), .pointer (some ⟨bw, 0, none⟩), .pointer (some ⟨bg, 0, none⟩)] (fun x : Reg => #[x.val])
      (fun xs => xs = (belowL L (n ++ ⟨#[46]⟩)).filter (seenP was gc gr)) (fun b => b = bm ∨ b = bn ∨ b = bw ∨ b = bg ∨ b = m) w := by
  intro l J Jx W D0 hA hJ hJx hR hY h0
  have hB1 : BookAt W m L := hB.of_block (hA.block m (by simp))
  have kc : ∀ b, (b = bm ∨ b = bn ∨ b = bw ∨ b = bg ∨ b = m) → ∀ i, W.cell? ⟨b, i, none⟩ = w.cell? ⟨b, i, none⟩ := fun b hb i => World.cell?_of_block (w := w) (hA.block b hb)
  have hcm1 := (kc bm (by simp) 0).trans hcm
  have hcn1 := (kc bn (by simp) 0).trans hcn
  have hcw1 := (kc bw (by simp) 0).trans hcw
  have hc21 := (kc bg (by simp) 2).trans hc2
  have hc31 := (kc bg (by simp) 3).trans hc3
  have lbm := World.block_lt_of_cell? W _ hcm1
  have lbn := World.block_lt_of_cell? W _ hcn1
  have lbw := World.block_lt_of_cell? W _ hcw1
  have lbg := World.block_lt_of_cell? W _ hc21
  have lm := hB1.lt
  have hsum : ¬ ((9223372036854775807 : Int) < (n.size : Int) + 1) := by omega
  have hsum2 : ¬ (9223372036854775807 < n.size + 1) := by omega
  have HX := Lib.hid (And.intro hA (And.intro hJ (And.intro hJx (And.intro hR (And.intro hY h0)))))
  have HB := Lib.hid hB1
  clear hA hJ hJx hR hY h0 hB1 hB hcm hcn hcw hc2 hc3 kc
  refine callsIn_of_wp_marks Tryz.func120 rfl trivial ?_ rfl
  simp only [Tryz.ntmps120, List.size_toArray, List.length_cons, List.length_nil, Nat.reduceAdd, Nat.reduceSub, Array.replicate_succ, Array.replicate_zero, List.push_toArray, List.append_toArray, List.nil_append, List.cons_append]
  gi_wp2_with (gi_at_call 52; refine (callsIn_wide.2 (below_any m _ _)).mono ?_; rintro e w1 ⟨rfl, hw1⟩; have HW := Lib.hid hw1; clear hw1)
  obtain ⟨pfx, hpfx⟩ : ∃ pfx : ByteArray, pfx = n ++ ⟨#[46]⟩ := ⟨_, rfl⟩
  rw [← hpfx] at HW ⊢
  obtain ⟨hA, hJ, hJx, hR, hY, h0⟩ := HX.out
  have hbel : Below W.heap.size W w1 := by rw [HW.out]; exact (((Below.refl _ _).alloc (Nat.le_refl _) _).alloc (by simp) _).alloc (by simp; omega) _
  have hz1 : w1.heap.size = W.heap.size + 3 := by rw [HW.out]; simp
  have hbx : w1.heap[W.heap.size]? = some (.cells #[.func (.yield l) #[] #[]] 83 (0, 0)) := by rw [HW.out]; simp only [World.alloc]; grind
  have hcb : w1.cell? ⟨W.heap.size + 1, 0, none⟩ = some (.map (some m)) := by rw [HW.out]; go_simp
  have hcp : w1.cell? ⟨W.heap.size + 1 + 1, 0, none⟩ = some (.string pfx) := by rw [HW.out]; go_simp
  have hit := below1_iter (W.heap.size + 1) (W.heap.size + 1 + 1) m L pfx w1 hcb hcp (HB.out.below hbel) hL
  obtain ⟨p, hp⟩ : ∃ p, p = seenP was gc gr := ⟨_, rfl⟩
  rw [← hp] at hY
  have hD0lt := hJ.lt _ _ _ h0
  have hd0 : ∀ b, D0 b → b ≠ W.heap.size ∧ b ≠ bw ∧ b ≠ bg := fun b hb => ⟨fun e => by have := hD0lt b hb; omega, fun e => hR b hb (by simp [e]), fun e => hR b hb (by simp [e])⟩
  have hdm : ∀ b, D0 b → b ≠ m := fun b hb e => hR b hb (by simp [e])
  have H0 : ShI W.heap.size bw bg W D0 (.func (.yield l) #[] #[]) p J [] w1 (fun b => D0 b ∨ b = W.heap.size ∨ b = bw ∨ b = bg) :=
    ⟨D0, hJ.st _ _ _ _ h0 ((Keep.of_below' (F := fun _ => False) hbel).abide fun b hb => ⟨hD0lt b hb, id⟩), ⟨fun b => Iff.rfl, fun b hb => .inl hb, hbx, hbel.block _ lbw, hbel.block _ lbg, hbel.size⟩⟩
  refine wp_rangeFunc (gf := 85) (lb := #[.pointer (some ⟨W.heap.size + 1, 0, none⟩), .pointer (some ⟨W.heap.size + 1 + 1, 0, none⟩)]) rfl (callFunc_run Tryz.func85 rfl (by decide)) hit (fun b hb => by rcases hb with rfl | rfl | rfl <;> omega) (fun _ => rfl)
    (ShI W.heap.size bw bg W D0 (.func (.yield l) #[] #[]) p J) (fun c pre W' D => c = .ret ∧ ShI W.heap.size bw bg W D0 (.func (.yield l) #[] #[]) p Jx pre W' D) (ShI.owned hJ lbw lbg) (fun c => ⟨fun s w D h b hb => (ShI.owned hJx lbw lbg).lt s w D h.2 b hb, fun s w D w' h ha => ⟨h.1, (ShI.owned hJx lbw lbg).st s w D w' h.2 ha⟩⟩)
    (fun b => D0 b ∨ b = W.heap.size ∨ b = bw ∨ b = bg) (fun b hb => ?idis) H0 ?round ?done ?stop
  case idis =>
    rintro (h | h | h)
    · rcases hb with hb | hb | hb | hb
      · have := hD0lt b hb; omega
      · omega
      · omega
      · omega
    · rcases hb with hb | hb | hb | hb
      · have := hD0lt b hb; omega
      · omega
      · omega
      · omega
    · rcases hb with hb | hb | hb | hb
      · exact hdm b hb h
      · omega
      · exact hwm (hb ▸ h)
      · exact hgm (hb ▸ h)
  case done =>
    rintro xs Wd D hxs ⟨D', hj, hI⟩ hLf hK hDK
    have hl := hI.left hbel (Nat.le_refl _) hLf
    have hkk : ¬ D' w1.heap.size := fun h => hDK ((hI.dom _).2 (.inl h))
    have hj' := hJ.st _ _ _ _ hj ((But.putObj Wd w1.heap.size (.deferred none)).abide hkk)
    have hl' : Left D0 W D' (Wd.putObj w1.heap.size (.deferred none)) := hl.step (Keep.putObj (F := fun b => b = w1.heap.size) Wd w1.heap.size _ rfl) (fun x hx e => by omega)
    have hfin : Hid (xs.filter p = (belowL L pfx).filter p ∧ J (xs.filter p) (Wd.putObj w1.heap.size (.deferred none)) D' ∧ Left D0 W D' (Wd.putObj w1.heap.size (.deferred none))) := Lib.hid ⟨by rw [hxs], hj', hl'⟩
    clear HX HB hA hJ hJx hR hY h0 hbel hit hD0lt hd0 hdm H0 hj hI hLf hl hj' hl' hcb hcp hbx HW
    gi_wp2
    refine ⟨by simp, .inl ⟨_, _, rfl, run_takeDeferred hK, ?_⟩⟩
    refine ⟨_, results_none rfl _ _ _, ⟨_, rfl⟩, .inl ⟨_, D', ?_, hfin.out.2.1, hfin.out.2.2⟩⟩
    rw [hfin.out.1, hp, hpfx]
  case stop =>
    rintro c pre Wd D ⟨suf, hpre⟩ ⟨rfl, D', hj, hI⟩ hLf hK hDK
    have hl := hI.left hbel (Nat.le_refl _) hLf
    have hkk : ¬ D' w1.heap.size := fun h => hDK ((hI.dom _).2 (.inl h))
    have hj' := hJx.st _ _ _ _ hj ((But.putObj Wd w1.heap.size (.deferred none)).abide hkk)
    have hl' : Left D0 W D' (Wd.putObj w1.heap.size (.deferred none)) := hl.step (Keep.putObj (F := fun b => b = w1.heap.size) Wd w1.heap.size _ rfl) (fun x hx e => by omega)
    have hfin : Hid (pre.filter p ++ suf.filter p = (belowL L pfx).filter p ∧ Jx (pre.filter p) (Wd.putObj w1.heap.size (.deferred none)) D' ∧ Left D0 W D' (Wd.putObj w1.heap.size (.deferred none))) := Lib.hid ⟨by rw [← List.filter_append, hpre], hj', hl'⟩
    clear HX HB hA hJ hJx hR hY h0 hbel hit hD0lt hd0 hdm H0 hj hI hLf hl hj' hl' hcb hcp hbx HW
    gi_wp2
    refine ⟨by simp, .inl ⟨_, _, rfl, run_takeDeferred hK, ?_⟩⟩
    refine ⟨_, results_none rfl _ _ _, ⟨_, rfl⟩, .inr ⟨_, D', ⟨suf.filter p, ?_⟩, hfin.out.2.1, hfin.out.2.2⟩⟩
    rw [hfin.out.1, hp, hpfx]
  case round =>
    rintro l2 pre ⟨xn, xf, xc, xr, xv⟩ Wr D hl1 hl2 hDl ⟨suf, hS⟩ hI hD0
    obtain ⟨D', hj, hI⟩ := hI
    unfold Reg.val
    have HI := Lib.hid (And.intro hj hI)
    have hDlt : ∀ b, D b → b < Wr.heap.size := (ShI.owned hJ lbw lbg).lt pre Wr D ⟨D', hj, hI⟩
    have HS := Lib.hid hS
    have HALL := Lib.hid (And.intro hJ (And.intro hJx (And.intro hY (And.intro hd0 (And.intro hDlt hDl)))))
    have hbw := (hI.dom bw).2 (.inr (.inr (.inl rfl)))
    have hbg := (hI.dom bg).2 (.inr (.inr (.inr rfl)))
    have hbx1 := (hI.dom W.heap.size).2 (.inr (.inl rfl))
    have hzr := hI.size
    clear HX HB hA hJ hJx hR hY h0 hbel hit hD0lt hd0 hdm H0 hcb hcp hbx HW hj hI hS
    gi_wp2
    refine ⟨⟨Keep.alloc _ _ _, fun b hb => hb.imp id (·.1)⟩, fun W2 hbut => ?_⟩
    have hcl : W2.heap[Wr.heap.size]? = some (.cells #[.string xn, .string xf, .int .i64 xc, .int .i64 xr, .string xv] 46 (0, 0)) := (hbut.block _ (by omega)).trans (World.alloc_heap_new _ _)
    have cb : ∀ i, W2.cell? ⟨Wr.heap.size, i, none⟩ = (#[Value.string xn, .string xf, .int .i64 xc, .int .i64 xr, .string xv])[i]? := fun i => Joins.cell_of_block hcl i
    have c0 := cb 0
    have c1 := cb 1
    have c2 := cb 2
    have c3 := cb 3
    have c4 := cb 4
    simp at c0 c1 c2 c3 c4
    obtain ⟨hj, hI⟩ := HI.out
    obtain ⟨hJ, hJx, hY, hd0, hDlt', hDl'⟩ := HALL.out
    have kb : ∀ b, D b → W2.heap[b]? = Wr.heap[b]? := fun b hb => (hbut.block b (fun e => hDl' (e ▸ hb))).trans (Below.heap_alloc _ _ _ (hDlt b hb))
    have hI2 : ShI' W.heap.size bw bg W D0 (.func (.yield l) #[] #[]) W2 D D' := ⟨hI.dom, hI.old, (kb _ hbx1).trans hI.box, (kb _ hbw).trans hI.was, (kb _ hbg).trans hI.gone, Nat.le_trans hI.size (by rw [hbut.size]; simp)⟩
    have hj2 : J (pre.filter p) W2 D' := hJ.st _ _ _ _ hj ⟨hbut.os, hbut.tape, hbut.output, by rw [hbut.size]; simp, fun k hk => kb k ((hI.dom k).2 (.inl hk))⟩
    have q1 : W2.cell? ⟨W.heap.size, 0, none⟩ = some (.func (.yield l) #[] #[]) := Joins.cell_of_block hI2.box 0
    have q2 : W2.cell? ⟨bw, 0, none⟩ = some (.bool was) := (World.cell?_of_block (w := W) hI2.was).trans hcw1
    have q3 : W2.cell? ⟨bg, 2, none⟩ = some (.int .i64 gc) := (World.cell?_of_block (w := W) hI2.gone).trans hc21
    have q4 : W2.cell? ⟨bg, 3, none⟩ = some (.int .i64 gr) := (World.cell?_of_block (w := W) hI2.gone).trans hc31
    have hz2 : W2.heap.size = Wr.heap.size + 1 := by rw [hbut.size]; simp
    have H2 := Lib.hid (And.intro hj2 (And.intro hI2 (And.intro hJ (And.intro hJx (And.intro hY hd0)))))
    have hlt2 := Lib.hid (fun b hb => Nat.lt_of_lt_of_le (hDlt b hb) (show Wr.heap.size ≤ W2.heap.size by omega))
    clear hj hI hJ hJx hY hd0 hDlt' hDl' kb hI2 hj2 hbut HI HALL cb hcl hbw hbg hbx1
    have HJ : Hid (Owned J) := Lib.hid H2.out.2.2.1
    by_cases hf : xf = ⟨#[]⟩
    · have HPX : Hid (p ⟨xn, xf, xc, xr, xv⟩ = false) := Lib.hid (by rw [hp]; simp [seenP, hf])
      have hf0 : xf.toList = [] := by rw [hf, toList_bl]
      have hf2 : xf.toList.isEmpty = true := by rw [hf0]; rfl
      have HF := Lib.hid hf
      clear hf hf0
      have hkv : Keep (fun _ => False) W2 W2 := .refl _ _
      have hjv := HJ.out.st _ _ _ _ H2.out.1 (hkv.abide fun b hb => ⟨hlt2.out b ((H2.out.2.1.dom b).2 (.inl hb)), id⟩)
      have hIv : ShI' W.heap.size bw bg W D0 (.func (.yield l) #[] #[]) W2 D D' := by
        obtain ⟨a1, a2, a3, a4, a5, a6⟩ := H2.out.2.1
        have kb : ∀ b, D b → W2.heap[b]? = W2.heap[b]? := fun b hb => hkv.block b (hlt2.out b hb) id
        exact ⟨a1, a2, (kb _ ((a1 _).2 (.inr (.inl rfl)))).trans a3, (kb _ ((a1 _).2 (.inr (.inr (.inl rfl))))).trans a4, (kb _ ((a1 _).2 (.inr (.inr (.inr rfl))))).trans a5, Nat.le_trans a6 hkv.size⟩
      have hend : Hid (∃ D'', ShI W.heap.size bw bg W D0 (.func (.yield l) #[] #[]) p J (pre ++ [⟨xn, xf, xc, xr, xv⟩]) W2 D'' ∧ Left (fun b => D b ∨ (Wr.heap.size ≤ b ∧ b < (Wr.alloc (.cells #[.string xn, .string xf, .int .i64 xc, .int .i64 xr, .string xv] 46)).heap.size)) W2 D'' W2) := Lib.hid
        ⟨D, ⟨D', by rw [List.filter_append, List.filter_cons_of_neg (by rw [HPX.out]; simp), List.filter_nil, List.append_nil]; exact hjv, hIv⟩, hkv.mono (fun _ _ h => h.elim), fun b hb => .inl (.inl hb)⟩
      clear hkv hjv hIv H2 hlt2 HJ
      gi_wp2_with (refine wpListIn_pass rfl (fun _ => trivial) ?_)
      exact hend.out
    · have hf1 : ¬ xf.toList = [] := fun e => hf (bl_inj (by rw [← toList_bl, e]))
      have hf2 : xf.toList.isEmpty = false := by simpa using hf1
      cases was with
      | false =>
        have HPX : Hid (p ⟨xn, xf, xc, xr, xv⟩ = true) := Lib.hid (by rw [hp]; simp [seenP, hf])
        have hkv : Keep (fun _ => False) W2 W2 := .refl _ _
        have hjv := HJ.out.st _ _ _ _ H2.out.1 (hkv.abide fun b hb => ⟨hlt2.out b ((H2.out.2.1.dom b).2 (.inl hb)), id⟩)
        have hIv : ShI' W.heap.size bw bg W D0 (.func (.yield l) #[] #[]) W2 D D' := by
          obtain ⟨a1, a2, a3, a4, a5, a6⟩ := H2.out.2.1
          have kb : ∀ b, D b → W2.heap[b]? = W2.heap[b]? := fun b hb => hkv.block b (hlt2.out b hb) id
          exact ⟨a1, a2, (kb _ ((a1 _).2 (.inr (.inl rfl)))).trans a3, (kb _ ((a1 _).2 (.inr (.inr (.inl rfl))))).trans a4, (kb _ ((a1 _).2 (.inr (.inr (.inr rfl))))).trans a5, Nat.le_trans a6 hkv.size⟩
        obtain ⟨suf', hsuf⟩ : ∃ suf', pre.filter p ++ (⟨xn, xf, xc, xr, xv⟩ : Reg) :: suf' = (belowL L (n ++ ⟨#[46]⟩)).filter p := ⟨suf.filter p, by rw [← hpfx, ← HS.out, List.filter_append, List.filter_cons_of_pos HPX.out]⟩
        obtain ⟨fn, tmps, assign, body, hy, hRr⟩ := H2.out.2.2.2.2.1 (pre.filter p) ⟨xn, xf, xc, xr, xv⟩ W2 D' ⟨suf', by rw [hsuf]⟩ hjv
        have HRr := Lib.hid (RoundIn.inRound l2 hRr)
        have hyy : (Instr.yield l #[.agg #[.string xn, .string xf, .int .i64 xc, .int .i64 xr, .string xv]]).run Tryz.prog W2 = .ok (.round l fn tmps assign body) W2 := hy
        have HV := Lib.hid (And.intro hkv hIv)
        clear hkv hjv hIv hRr hy hsuf HJ
        gi_wp2
        refine HRr.out.mono ?_
        rintro e W' hend
        have hfin : Hid (∀ (D'' : Nat → Prop), Left D' W2 D'' W' → ShI' W.heap.size bw bg W D0 (.func (.yield l) #[] #[]) W' (fun b => D'' b ∨ b = W.heap.size ∨ b = bw ∨ b = bg) D'' ∧ Left (fun b => D b ∨ (Wr.heap.size ≤ b ∧ b < (Wr.alloc (.cells #[.string xn, .string xf, .int .i64 xc, .int .i64 xr, .string xv] 46)).heap.size)) W2 (fun b => D'' b ∨ b = W.heap.size ∨ b = bw ∨ b = bg) W') := Lib.hid fun D'' hL => by
          obtain ⟨hkv, hIv⟩ := HV.out
          obtain ⟨f1, f2⟩ := hIv.step H2.out.2.2.2.2.2 rfl lbw lbg hL
          exact ⟨f1, f2.shift hkv (fun b hb => .inl hb)⟩
        have hflt : (pre ++ [(⟨xn, xf, xc, xr, xv⟩ : Reg)]).filter p = pre.filter p ++ [⟨xn, xf, xc, xr, xv⟩] := by rw [List.filter_append, List.filter_cons_of_pos HPX.out, List.filter_nil]
        have HFl := Lib.hid hflt
        clear hyy HV H2 hlt2 hflt HRr
        rcases hend with ⟨rfl, D'', hj', hL'⟩ | ⟨rfl, D'', hj', hL'⟩
        · have HE := Lib.hid (And.intro hj' hL')
          clear hj' hL'
          gi_wp2
          exact ⟨_, ⟨D'', by rw [HFl.out]; exact HE.out.1, (hfin.out _ HE.out.2).1⟩, (hfin.out _ HE.out.2).2⟩
        · have HE := Lib.hid (And.intro hj' hL')
          clear hj' hL'
          gi_wp2
          exact ⟨_, ⟨rfl, D'', by rw [HFl.out]; exact HE.out.1, (hfin.out _ HE.out.2).1⟩, (hfin.out _ HE.out.2).2⟩
      | true =>
        have HPZ : Hid (p ⟨xn, xf, xc, xr, xv⟩ = laterZ xc xr gc gr) := Lib.hid (by rw [hp]; simp [seenP, hf])
        gi_wp2_with (gi_at_call 121; refine (callsIn_wide.2 (later_any xc xr gc gr _)).mono ?_; rintro e w3 ⟨rfl, hb3⟩; refine Halt.of ?_)
        obtain ⟨lz, hlz⟩ : ∃ lz, lz = laterZ xc xr gc gr := ⟨_, rfl⟩
        rw [← hlz]
        have cc : ∀ b i, b < W2.heap.size → w3.cell? ⟨b, i, none⟩ = W2.cell? ⟨b, i, none⟩ := fun b i h => hb3.cell (p := ⟨b, i, none⟩) h
        have hz3 : Wr.heap.size < W2.heap.size := by omega
        replace c0 := (cc Wr.heap.size 0 hz3).trans c0
        replace c1 := (cc Wr.heap.size 1 hz3).trans c1
        replace c2 := (cc Wr.heap.size 2 hz3).trans c2
        replace c3 := (cc Wr.heap.size 3 hz3).trans c3
        replace c4 := (cc Wr.heap.size 4 hz3).trans c4
        replace q1 := (cc W.heap.size 0 (by omega)).trans q1
        have HLZ := Lib.hid hlz
        clear hlz cc q2 q3 q4
        cases lz with
        | true =>
          have HPX : Hid (p ⟨xn, xf, xc, xr, xv⟩ = true) := Lib.hid (by rw [HPZ.out, ← HLZ.out])
          have hkv : Keep (fun _ => False) W2 w3 := Keep.of_below' hb3
          have hjv := HJ.out.st _ _ _ _ H2.out.1 (hkv.abide fun b hb => ⟨hlt2.out b ((H2.out.2.1.dom b).2 (.inl hb)), id⟩)
          have hIv : ShI' W.heap.size bw bg W D0 (.func (.yield l) #[] #[]) w3 D D' := by
            obtain ⟨a1, a2, a3, a4, a5, a6⟩ := H2.out.2.1
            have kb : ∀ b, D b → w3.heap[b]? = W2.heap[b]? := fun b hb => hkv.block b (hlt2.out b hb) id
            exact ⟨a1, a2, (kb _ ((a1 _).2 (.inr (.inl rfl)))).trans a3, (kb _ ((a1 _).2 (.inr (.inr (.inl rfl))))).trans a4, (kb _ ((a1 _).2 (.inr (.inr (.inr rfl))))).trans a5, Nat.le_trans a6 hkv.size⟩
          clear hb3
          obtain ⟨suf', hsuf⟩ : ∃ suf', pre.filter p ++ (⟨xn, xf, xc, xr, xv⟩ : Reg) :: suf' = (belowL L (n ++ ⟨#[46]⟩)).filter p := ⟨suf.filter p, by rw [← hpfx, ← HS.out, List.filter_append, List.filter_cons_of_pos HPX.out]⟩
          obtain ⟨fn, tmps, assign, body, hy, hRr⟩ := H2.out.2.2.2.2.1 (pre.filter p) ⟨xn, xf, xc, xr, xv⟩ w3 D' ⟨suf', by rw [hsuf]⟩ hjv
          have HRr := Lib.hid (RoundIn.inRound l2 hRr)
          have hyy : (Instr.yield l #[.agg #[.string xn, .string xf, .int .i64 xc, .int .i64 xr, .string xv]]).run Tryz.prog w3 = .ok (.round l fn tmps assign body) w3 := hy
          have HV := Lib.hid (And.intro hkv hIv)
          clear hkv hjv hIv hRr hy hsuf HJ
          unfold Halt
          gi_wp2
          refine HRr.out.mono ?_
          rintro e W' hend
          have hfin : Hid (∀ (D'' : Nat → Prop), Left D' w3 D'' W' → ShI' W.heap.size bw bg W D0 (.func (.yield l) #[] #[]) W' (fun b => D'' b ∨ b = W.heap.size ∨ b = bw ∨ b = bg) D'' ∧ Left (fun b => D b ∨ (Wr.heap.size ≤ b ∧ b < (Wr.alloc (.cells #[.string xn, .string xf, .int .i64 xc, .int .i64 xr, .string xv] 46)).heap.size)) W2 (fun b => D'' b ∨ b = W.heap.size ∨ b = bw ∨ b = bg) W') := Lib.hid fun D'' hL => by
            obtain ⟨hkv, hIv⟩ := HV.out
            obtain ⟨f1, f2⟩ := hIv.step H2.out.2.2.2.2.2 rfl lbw lbg hL
            exact ⟨f1, f2.shift hkv (fun b hb => .inl hb)⟩
          have hflt : (pre ++ [(⟨xn, xf, xc, xr, xv⟩ : Reg)]).filter p = pre.filter p ++ [⟨xn, xf, xc, xr, xv⟩] := by rw [List.filter_append, List.filter_cons_of_pos HPX.out, List.filter_nil]
          have HFl := Lib.hid hflt
          clear hyy HV H2 hlt2 hflt HRr
          rcases hend with ⟨rfl, D'', hj', hL'⟩ | ⟨rfl, D'', hj', hL'⟩
          · have HE := Lib.hid (And.intro hj' hL')
            clear hj' hL'
            gi_wp2
            exact ⟨_, ⟨D'', by rw [HFl.out]; exact HE.out.1, (hfin.out _ HE.out.2).1⟩, (hfin.out _ HE.out.2).2⟩
          · have HE := Lib.hid (And.intro hj' hL')
            clear hj' hL'
            gi_wp2
            exact ⟨_, ⟨rfl, D'', by rw [HFl.out]; exact HE.out.1, (hfin.out _ HE.out.2).1⟩, (hfin.out _ HE.out.2).2⟩
        | false =>
          have HPX : Hid (p ⟨xn, xf, xc, xr, xv⟩ = false) := Lib.hid (by rw [HPZ.out, ← HLZ.out])
          have hkv : Keep (fun _ => False) W2 w3 := Keep.of_below' hb3
          have hjv := HJ.out.st _ _ _ _ H2.out.1 (hkv.abide fun b hb => ⟨hlt2.out b ((H2.out.2.1.dom b).2 (.inl hb)), id⟩)
          have hIv : ShI' W.heap.size bw bg W D0 (.func (.yield l) #[] #[]) w3 D D' := by
            obtain ⟨a1, a2, a3, a4, a5, a6⟩ := H2.out.2.1
            have kb : ∀ b, D b → w3.heap[b]? = W2.heap[b]? := fun b hb => hkv.block b (hlt2.out b hb) id
            exact ⟨a1, a2, (kb _ ((a1 _).2 (.inr (.inl rfl)))).trans a3, (kb _ ((a1 _).2 (.inr (.inr (.inl rfl))))).trans a4, (kb _ ((a1 _).2 (.inr (.inr (.inr rfl))))).trans a5, Nat.le_trans a6 hkv.size⟩
          clear hb3
          have hend : Hid (∃ D'', ShI W.heap.size bw bg W D0 (.func (.yield l) #[] #[]) p J (pre ++ [⟨xn, xf, xc, xr, xv⟩]) w3 D'' ∧ Left (fun b => D b ∨ (Wr.heap.size ≤ b ∧ b < (Wr.alloc (.cells #[.string xn, .string xf, .int .i64 xc, .int .i64 xr, .string xv] 46)).heap.size)) W2 D'' w3) := Lib.hid
            ⟨D, ⟨D', by rw [List.filter_append, List.filter_cons_of_neg (by rw [HPX.out]; simp), List.filter_nil, List.append_nil]; exact hjv, hIv⟩, hkv.mono (fun _ _ h => h.elim), fun b hb => .inl (.inl hb)⟩
          clear hkv hjv hIv H2 hlt2 HJ
          unfold Halt
          gi_wp2
          exact hend.out
end Go.Proofs.YtpdbmpbmepkikaaGreatDoor

namespace Go.Proofs.YtpdbmpbmepkikaaGreatDoor
open Go.RowKit
attribute [local go_sem] Oper.semAt_some

structure AlI (g : Nat) (W : World) (D : Nat → Prop) (b : Bool) : Prop where
  cell : W.heap[g]? = some (.cells #[.bool b] 4 (0, 0))
  dom : D = fun x => x = g
theorem AlI.owned {g : Nat} {α : Type} (q : α → Bool → Prop) : Owned (fun (s : α) W D => ∃ b, q s b ∧ AlI g W D b) := ⟨fun s W D ⟨b, _, h⟩ x hx => by
    rw [h.dom] at hx; subst hx; exact (Array.getElem?_eq_some_iff.1 h.cell).1,
  fun s W D W' ⟨b, hq, h⟩ ha => ⟨b, hq, (ha.block g (by rw [h.dom])).trans h.cell, h.dom⟩⟩

theorem shownL_eq (L : List Reg) (n : ByteArray) : shownL L n = (belowL L (n ++ ⟨#[46]⟩)).filter (seenP (findK L (keyOf2 n ⟨#[]⟩)).isSome ((findK L (keyOf2 n ⟨#[]⟩)).getD default).c ((findK L (keyOf2 n ⟨#[]⟩)).getD default).r) := rfl

/-- What shown hands out, in the world behind the call. -/
theorem shown_at (m : Nat) (L : List Reg) (n : ByteArray) (w : World) (hB : BookAt w m L) (hL : L.length ≤ 1073741824) (hn : n.size ≤ 4096) :
    Calls Tryz.prog 68 #[.map (some m), .string n] w fun e w' => ∃ lb, e = .returned (.func (.func 120) #[] lb) ∧ (∃ R : Nat → Prop, Iter Tryz.prog 120 lb (fun x : Reg => #[x.val]) (fun xs => xs = shownL L n) R w' ∧ ∀ b, R b → b < w'.heap.size ∧ (b = m ∨ w.heap.size ≤ b)) ∧ Below w.heap.size w w' := by
  have hml := hB.lt
  refine (shown_any m L n w hB hn).mono ?_
  rintro e w' ⟨g5, g6, rfl, h5, h6, h56, c0, c1, c2, c3, c4, hb⟩
  refine ⟨_, rfl, ⟨_, shown1_iter w.heap.size (w.heap.size + 1) g6 g5 m L n _ _ _ w' c0 c1 c2 c3 c4 (hB.below hb) hL (by omega) (by omega) (by omega), ?_⟩, hb⟩
  have z0 := World.block_lt_of_cell? w' _ c0
  have z1 := World.block_lt_of_cell? w' _ c1
  have z2 := World.block_lt_of_cell? w' _ c2
  have z3 := World.block_lt_of_cell? w' _ c3
  simp only at z0 z1 z2 z3
  have hz := hb.size
  rintro b (rfl | rfl | rfl | rfl | rfl)
  · exact ⟨z0, .inr (Nat.le_refl _)⟩
  · exact ⟨z1, .inr (by omega)⟩
  · exact ⟨z2, .inr (by omega)⟩
  · exact ⟨z3, .inr (by omega)⟩
  · exact ⟨by omega, .inl rfl⟩
theorem results_cell_bool {fn : Func} {p : Tmp} (h : fn.results = #[.cell p 4]) (tmps : Array Value) (w : World) (g : Nat) (b : Bool) (hp : tmps.getD p undef = .pointer (some ⟨g, 0, none⟩)) (hg : w.cell? ⟨g, 0, none⟩ = some (.bool b)) :
    (results fn tmps).run Tryz.prog w = .ok (.bool b) w := by
  have hp' : tmps[p]?.getD undef = .pointer (some ⟨g, 0, none⟩) := by simpa using hp
  simp [results, h, hp', asAddr]
  go_simp

theorem alive_any (m : Nat) (L : List Reg) (n : ByteArray) (w : World) (hB : BookAt w m L) (hL : L.length ≤ 1073741824) (hn : n.size ≤ 4096) :
    Calls Tryz.prog 69 #[.map (some m), .string n] w fun e w' => e = .returned (.bool (!(shownL L n).isEmpty)) ∧ Below w.heap.size w w' := by
  have hml := hB.lt
  refine (callsIn_wide (n := 0)).1 (callsIn_of_wp_marks Tryz.func69 rfl trivial ?_ rfl)
  simp only [Tryz.ntmps69, List.size_toArray, List.length_cons, List.length_nil, Nat.reduceAdd, Nat.reduceSub, Array.replicate_succ, Array.replicate_zero, List.push_toArray, List.append_toArray, List.nil_append, List.cons_append]
  have HC := Lib.hid (shown_at m L n (w.alloc (.cells #[.bool false] 4)) (hB.alloc _) hL hn)
  clear hB
  gi_wp2_with (gi_at_call 68; refine (callsIn_wide.2 HC.out).mono ?_; rintro e w1 ⟨lb, rfl, hx, hb⟩; refine Halt.of ?_)
  have HX := Lib.hid (And.intro hx hb)
  clear hx hb HC
  unfold Halt
  gi_wp2
  obtain ⟨⟨R, hit, hR⟩, hb⟩ := HX.out
  clear HX
  have hz1 := hb.size
  simp only [World.size_alloc] at hz1
  have hbel : Below w.heap.size w w1 := ((Below.refl _ _).alloc (Nat.le_refl _) _).trans (hb.mono (by simp))
  have hb0 : w1.heap[w.heap.size]? = some (.cells #[.bool false] 4 (0, 0)) := (hb.block _ (by simp)).trans (World.alloc_heap_new _ _)
  refine wp_rangeFunc (gf := 120) (lb := lb) rfl (callFunc_run Tryz.func120 rfl (by decide)) hit (fun b hb => (hR b hb).1) (fun _ => rfl)
    (fun pre W D => ∃ b, (pre = [] ∧ b = false) ∧ AlI w.heap.size W D b) (fun c pre W D => ∃ b, (c = .ret ∧ pre ≠ [] ∧ b = true) ∧ AlI w.heap.size W D b) (AlI.owned (fun pre b => pre = [] ∧ b = false)) (fun c => AlI.owned (fun pre b => c = .ret ∧ pre ≠ [] ∧ b = true))
    (fun b => b = w.heap.size) (fun b hb hr => ?idis) ⟨false, ⟨rfl, rfl⟩, hb0, rfl⟩ ?round ?done ?stop
  case idis =>
    subst hb
    rcases (hR _ hr).2 with h | h
    · omega
    · simp at h; omega
  case round =>
    rintro l pre x W D hl1 hl2 hDl hS ⟨b, ⟨rfl, rfl⟩, hA⟩ hD0
    have hA' := Lib.hid hA
    obtain ⟨hc, rfl⟩ := hA
    have hlt := (Array.getElem?_eq_some_iff.1 hc).1
    clear hit hR hb hb0 hbel hc
    gi_wp2
    refine ⟨⟨.refl _ _, fun b hb => hb.imp id (·.1)⟩, fun W2 hbut => ?_⟩
    have hc2 : W2.heap[w.heap.size]? = some (.cells #[.bool false] 4 (0, 0)) := (hbut.block _ (fun e => hDl e.symm)).trans hA'.out.cell
    have q0 : W2.cell? ⟨w.heap.size, 0, none⟩ = some (.bool false) := Joins.cell_of_block hc2 0
    have q1 : W2.frozen? ⟨w.heap.size, 0, none⟩ = false := Joins.unfrozen_of_block hc2 0
    have HC2 := Lib.hid hc2
    clear hc2 hbut hS
    gi_wp2
    exact ⟨_, ⟨⟨rfl, by simp⟩, setCell_box HC2.out, rfl⟩, (Keep.setCell (F := fun b => b = w.heap.size) _ _ _ rfl).mono (fun _ _ h => .inl h), fun b hb => .inl (.inl hb)⟩
  case done =>
    rintro xs W D hxs ⟨b, ⟨rfl, rfl⟩, hA⟩ hLf hK hDK
    obtain ⟨hc, rfl⟩ := hA
    have q0 : W.cell? ⟨w.heap.size, 0, none⟩ = some (.bool false) := Joins.cell_of_block hc 0
    have q1 : W.frozen? ⟨w.heap.size, 0, none⟩ = false := Joins.unfrozen_of_block hc 0
    have hfin : Hid (shownL L n = [] ∧ Below w.heap.size w ((W.setCell ⟨w.heap.size, 0, none⟩ (.bool false)).putObj w1.heap.size (.deferred none)) ∧ ((W.setCell ⟨w.heap.size, 0, none⟩ (.bool false)).putObj w1.heap.size (.deferred none)).cell? ⟨w.heap.size, 0, none⟩ = some (.bool false) ∧ (W.setCell ⟨w.heap.size, 0, none⟩ (.bool false)).heap[w1.heap.size]? = some (.deferred (some []))) := Lib.hid
      ⟨hxs.symm, below_putObj (below_keep (hLf.below hbel (fun b hb => by omega)) (Keep.setCell (F := fun b => b = w.heap.size) _ _ _ rfl) (fun x hx e => by omega)) (by omega) _,
        Joins.cell_of_block ((World.putObj_heap_other (by omega)).trans (setCell_box hc)) 0, (Below.heap_setCell _ _ _ _ (by simp only; omega)).trans hK⟩
    clear hit hR hb hb0 hbel hc hLf hK hDK hxs
    gi_wp2
    refine ⟨by simp, .inl ⟨_, _, rfl, run_takeDeferred hfin.out.2.2.2, ?_⟩⟩
    exact ⟨_, results_cell_bool rfl _ _ w.heap.size false rfl hfin.out.2.2.1, by rw [hfin.out.1]; rfl, hfin.out.2.1⟩
  case stop =>
    rintro c pre W D ⟨suf, hpre⟩ ⟨b, ⟨rfl, hne, rfl⟩, hA⟩ hLf hK hDK
    obtain ⟨hc, rfl⟩ := hA
    have hfin : Hid (shownL L n ≠ [] ∧ Below w.heap.size w (W.putObj w1.heap.size (.deferred none)) ∧ (W.putObj w1.heap.size (.deferred none)).cell? ⟨w.heap.size, 0, none⟩ = some (.bool true)) := Lib.hid
      ⟨by rw [← hpre]; simp [hne], below_putObj (hLf.below hbel (fun b hb => by omega)) (by omega) _, Joins.cell_of_block ((World.putObj_heap_other (by omega)).trans hc) 0⟩
    clear hit hR hb hb0 hbel hc hLf hDK hpre
    gi_wp2
    refine ⟨by simp, .inl ⟨_, _, rfl, run_takeDeferred hK, ?_⟩⟩
    exact ⟨_, results_cell_bool rfl _ _ w.heap.size true rfl hfin.out.2.2, by cases h : shownL L n with | nil => exact absurd h hfin.out.1 | cons _ _ => rfl, hfin.out.2.1⟩
end Go.Proofs.YtpdbmpbmepkikaaGreatDoor

namespace Go.Proofs.YtpdbmpbmepkikaaGreatDoor
open Go.RowKit

abbrev abcB : ByteArray := ⟨#[97, 98, 99, 100, 101, 102, 103, 104, 105, 106, 107, 108, 109, 110, 111, 112, 113, 114, 115, 116, 117, 118, 119, 120, 121, 122]⟩
theorem abc_letter (c : UInt8) : abcB.data.toList.contains c = letter c := by
  rw [Bool.eq_iff_iff]
  simp only [List.contains_iff_mem, letter, Bool.and_eq_true, decide_eq_true_eq, UInt8.le_iff_toNat_le]
  constructor
  · intro h
    simp only [abcB, List.mem_cons, List.not_mem_nil, or_false] at h
    rcases h with rfl | rfl | rfl | rfl | rfl | rfl | rfl | rfl | rfl | rfl | rfl | rfl | rfl | rfl | rfl | rfl | rfl | rfl | rfl | rfl | rfl | rfl | rfl | rfl | rfl | rfl <;> exact ⟨by decide, by decide⟩
  · rintro ⟨h1, h2⟩
    have e : c = UInt8.ofNat c.toNat := by simp
    generalize c.toNat = n at *
    subst e
    have h1 : 97 ≤ n := h1
    have h2 : n ≤ 122 := h2
    have : n = 97 + (n - 97) := by omega
    generalize n - 97 = k at this
    subst this
    have hk : k < 26 := by omega
    clear h1 h2
    have : ∀ k : Fin 26, UInt8.ofNat (97 + k.val) ∈ abcB.data.toList := by decide
    exact this ⟨k, hk⟩
theorem dropWhile_nil {p : UInt8 → Bool} {l : List UInt8} : l.dropWhile p = [] ↔ l.all p = true := by
  induction l with
  | nil => simp
  | cons a l ih =>
    rw [List.dropWhile_cons]
    cases h : p a with
    | true => simpa [h] using ih
    | false => simp [h]
theorem all_dropWhile {p : UInt8 → Bool} {l : List UInt8} : (l.dropWhile p).all p = l.all p := by
  induction l with
  | nil => rfl
  | cons a l ih =>
    rw [List.dropWhile_cons]
    cases h : p a with
    | true => simpa [h] using ih
    | false => simp [h]
theorem trim_letters (s : ByteArray) : (Lib.trimS s.data.toList abcB.data.toList = []) ↔ letters s = true := by
  have e : (fun c => abcB.data.toList.contains c) = letter := funext abc_letter
  unfold Lib.trimS Lib.trimLeftS Lib.trimRightS letters
  rw [e, dropWhile_nil, List.all_reverse, all_dropWhile, List.all_reverse]

theorem trim_any (s : ByteArray) (w : World) (hs : s.size ≤ 65536) :
    Calls Tryz.prog 117 #[.string s, .string abcB] w fun e w' => e = .returned (.string ⟨(Lib.trimS s.data.toList abcB.data.toList).toArray⟩) ∧ Below w.heap.size w w' :=
  Any.strings_Trim_laid Tryz.lays160 (by kernel_rfl) s abcB w (by omega) (by decide) (ascii_of_all (by decide))

theorem is_any (s : ByteArray) (k : Nat) (w : World) (hs : s.size ≤ 65536) (hk : k < 1000) :
    Calls Tryz.prog 64 #[.string s, .int .i64 k] w fun e w' => e = .returned (.bool (smallB s k)) ∧ Below w.heap.size w w' := by
  have ht := trim_any s
  obtain ⟨t, ht'⟩ : ∃ t : ByteArray, t = ⟨(Lib.trimS s.data.toList abcB.data.toList).toArray⟩ := ⟨_, rfl⟩
  rw [← ht'] at ht
  have htl : (t.toList = []) ↔ letters s = true := by
    rw [← trim_letters, ht', Lib.toList_data]
  have HT := Lib.hid ht
  clear ht ht'
  by_cases h0 : s.toList = []
  · have hz : s.size = 0 := by rw [Lib.size_eq, ← Lib.toList_data, h0]; rfl
    go_enter Tryz.func64, Tryz.ntmps64
    go_wp2
    go_ret
    exact ⟨ret_bool (by simp [smallB, hz]), Below.refl _ _⟩
  · have he : s.toList.isEmpty = false := by simpa using h0
    have hz : 0 < s.size := by
      rcases Nat.eq_zero_or_pos s.size with h | h
      · exact absurd (by rw [Lib.toList_data]; exact List.eq_nil_of_length_eq_zero (by rw [← Lib.size_eq]; exact h)) h0
      · exact h
    by_cases hk : s.size ≤ k
    · go_enter Tryz.func64, Tryz.ntmps64
      go_wp2_with (go_at_call 117; refine (HT.out _ (by omega)).mono ?_; rintro e w1 ⟨rfl, hb⟩)
      go_ret
      refine ⟨ret_bool ?_, hb⟩
      rw [Bool.eq_iff_iff]
      simp [smallB, hz, hk, htl]
    · go_enter Tryz.func64, Tryz.ntmps64
      go_wp2
      go_ret
      exact ⟨ret_bool (by simp [smallB, hk]), Below.refl _ _⟩
end Go.Proofs.YtpdbmpbmepkikaaGreatDoor
