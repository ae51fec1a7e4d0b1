/- Base: The ground of the walks: what a piece of code may change (Keep); iterators (Iter) and the range over one. No condition.
   Maps: Maps as lists of keys and values: look-up, store, range: how the operations run. No condition but what each law says. -/
import Derived.Test.YtpdbmpbmepkikaaGreatDoorProg
import Derived.RangeFuncNested
import Derived.RangeFuncBound
import Derived.RangeFuncLeaves
import Derived.WalkKit
import Derived.OwnWalkIn
import Derived.TacticsInMore
import Derived.LoopNIn
import Derived.LoopIn
import Derived.Lib.Hide
import Derived.Maps.OwnIn
set_option linter.all false
set_option linter.unusedSimpArgs false
set_option linter.unusedVariables false

namespace Go.Proofs.YtpdbmpbmepkikaaGreatDoor
open Go.RowKit

@[go_sem] theorem wide_fn (f : FuncId) : Fence.wide.fn f = True := rfl
@[go_sem] theorem wide_depth : Fence.wide.depth = none := rfl

/-- Of the blocks that were there only those in F may have changed; the streams stand. -/
structure Keep (F : Nat → Prop) (w w' : World) : Prop where
  os : w'.os = w.os
  tape : w'.tape = w.tape
  output : w'.output = w.output
  size : w.heap.size ≤ w'.heap.size
  block : ∀ k, k < w.heap.size → ¬ F k → w'.heap[k]? = w.heap[k]?

theorem Keep.refl (F : Nat → Prop) (w : World) : Keep F w w := ⟨rfl, rfl, rfl, Nat.le_refl _, fun _ _ _ => rfl⟩
theorem Keep.mono {F G : Nat → Prop} {w w' : World} (h : Keep F w w') (hg : ∀ k, k < w.heap.size → F k → G k) : Keep G w w' :=
  ⟨h.os, h.tape, h.output, h.size, fun k hk hn => h.block k hk fun hf => hn (hg k hk hf)⟩
theorem Keep.trans' {F G H : Nat → Prop} {a b c : World} (h : Keep F a b) (k : Keep G b c) (hF : ∀ x, x < a.heap.size → F x → H x) (hG : ∀ x, x < a.heap.size → G x → H x) : Keep H a c :=
  ⟨k.os.trans h.os, k.tape.trans h.tape, k.output.trans h.output, Nat.le_trans h.size k.size, fun i hi hn =>
    (k.block i (Nat.lt_of_lt_of_le hi h.size) fun g => hn (hG i hi g)).trans (h.block i hi fun f => hn (hF i hi f))⟩
theorem Keep.trans {F : Nat → Prop} {a b c : World} (h : Keep F a b) (k : Keep F b c) : Keep F a c := h.trans' k (fun _ _ x => x) (fun _ _ x => x)
theorem Keep.of_below {B : Nat} {w w' : World} {F : Nat → Prop} (h : Below B w w') (hF : ∀ k, k < w.heap.size → B ≤ k → F k) : Keep F w w' :=
  ⟨h.os, h.tape, h.output, h.size, fun k hk hn => h.block k (by
    rcases Nat.lt_or_ge k B with hb | hb
    · exact hb
    · exact absurd (hF k hk hb) hn)⟩
theorem Keep.of_below' {w w' : World} {F : Nat → Prop} (h : Below w.heap.size w w') : Keep F w w' := .of_below h fun k h1 h2 => absurd h1 (by omega)
theorem Keep.below {B : Nat} {w w' : World} {F : Nat → Prop} (h : Keep F w w') (hB : B ≤ w.heap.size) (hF : ∀ k, k < B → ¬ F k) : Below B w w' :=
  ⟨h.os, h.tape, h.output, h.size, fun k hk => h.block k (by omega) (hF k hk)⟩
theorem Keep.alloc (F : Nat → Prop) (w : World) (o : Obj) : Keep F w (w.alloc o) := .of_below' ((Below.refl _ _).alloc (Nat.le_refl _) _)
theorem Keep.drew (F : Nat → Prop) (w : World) : Keep F w w.drew := ⟨rfl, rfl, rfl, Nat.le_refl _, fun _ _ _ => rfl⟩
theorem Keep.setCell {F : Nat → Prop} (w : World) (a : Addr) (v : Value) (h : F a.block) : Keep F w (w.setCell a v) :=
  ⟨rfl, rfl, rfl, by simp [World.setCell], fun k _ hn => Below.heap_setCell _ _ _ _ fun e => hn (e ▸ h)⟩
theorem Keep.putObj {F : Nat → Prop} (w : World) (l : Nat) (o : Obj) (h : F l) : Keep F w (w.putObj l o) :=
  ⟨rfl, rfl, rfl, by simp, fun k _ hn => World.putObj_heap_other fun e => hn (e ▸ h)⟩
theorem Keep.cell {F : Nat → Prop} {w w' : World} (h : Keep F w w') {p : Addr} (hp : p.block < w.heap.size) (hF : ¬ F p.block) : w'.cell? p = w.cell? p := World.cell?_of_block (w := w) (h.block _ hp hF)
theorem Keep.frozen {F : Nat → Prop} {w w' : World} (h : Keep F w w') {p : Addr} (hp : p.block < w.heap.size) (hF : ¬ F p.block) : w'.frozen? p = w.frozen? p := World.frozen?_of_block (w := w) (h.block _ hp hF)

/-- What is known of a world through the blocks of D alone goes over. -/
structure Abide (D : Nat → Prop) (w w' : World) : Prop where
  os : w'.os = w.os
  tape : w'.tape = w.tape
  output : w'.output = w.output
  size : w.heap.size ≤ w'.heap.size
  block : ∀ k, D k → w'.heap[k]? = w.heap[k]?
theorem Keep.abide {F D : Nat → Prop} {w w' : World} (h : Keep F w w') (hD : ∀ k, D k → k < w.heap.size ∧ ¬ F k) : Abide D w w' :=
  ⟨h.os, h.tape, h.output, h.size, fun k hk => h.block k (hD k hk).1 (hD k hk).2⟩

/-- An invariant over the blocks D that whoever holds it owns. -/
structure Owned {α : Type} (I : α → World → (Nat → Prop) → Prop) : Prop where
  lt : ∀ s w D, I s w D → ∀ b, D b → b < w.heap.size
  st : ∀ s w D w', I s w D → Abide D w w' → I s w' D

/-- What a round leaves: from (W, D): the round's owned blocks alone have changed; what it owns now it owned or has made. -/
def Left (D : Nat → Prop) (W : World) (D' : Nat → Prop) (W' : World) : Prop := Keep D W W' ∧ ∀ b, D' b → D b ∨ W.heap.size ≤ b
theorem Left.refl (D : Nat → Prop) (W : World) : Left D W D W := ⟨.refl _ _, fun _ h => .inl h⟩
theorem Left.trans {D D' D'' : Nat → Prop} {W W' W'' : World} (h : Left D W D' W') (k : Left D' W' D'' W'') : Left D W D'' W'' :=
  ⟨h.1.trans' k.1 (fun _ _ x => x) (fun x hx h' => (h.2 x h').resolve_right (by omega)), fun b hb => by
    rcases k.2 b hb with hb | hb
    · exact h.2 b hb
    · exact .inr (Nat.le_trans h.1.size hb)⟩
/-- A step that touches none of what was there at W. -/
theorem Left.step {D D' G : Nat → Prop} {W W1 W2 : World} (h : Left D W D' W1) (k : Keep G W1 W2) (hG : ∀ x, x < W.heap.size → ¬ G x) : Left D W D' W2 :=
  ⟨h.1.trans' k (fun _ _ x => x) (fun x hx hg => absurd hg (hG x hx)), h.2⟩
/-- A step of the other's: nothing of D is touched. -/
theorem Left.other {D : Nat → Prop} {W W' : World} (h : Keep (fun _ => False) W W') : Left D W D W' := ⟨h.mono fun _ _ f => f.elim, fun _ h => .inl h⟩

/-- THE CONTRACT OF AN ITERATOR (function gf with lb captured), as it is in world W0: it reads the blocks R; what it hands to yield, round by round, is a list in S. J: the loop's invariant, over the blocks that the loop owns; Jx: where a round has said 'no more'. -/
def Iter {α : Type} (P : Program) (gf : Nat) (lb : Array Value) (encs : α → Array Value) (S : List α → Prop) (R : Nat → Prop) (W0 : World) : Prop :=
  ∀ (l : Nat) (J Jx : List α → World → (Nat → Prop) → Prop) (W : World) (D0 : Nat → Prop), Abide R W0 W → Owned J → Owned Jx → (∀ b, D0 b → ¬ R b) →
    (∀ (pre : List α) (x : α) (W1 : World) (D1 : Nat → Prop), (∃ suf, S (pre ++ x :: suf)) → J pre W1 D1 → YieldAt Fence.wide 0 P l (encs x) W1 fun e W' =>
      (e = .returned (.bool true) ∧ ∃ D', J (pre ++ [x]) W' D' ∧ Left D1 W1 D' W') ∨ (e = .returned (.bool false) ∧ ∃ D', Jx (pre ++ [x]) W' D' ∧ Left D1 W1 D' W')) →
    J [] W D0 →
    CallsIn Fence.wide 0 P gf (#[.func (.yield l) #[] #[]] ++ lb) W fun e W' => (∃ v, e = .returned v) ∧
      ((∃ xs D', S xs ∧ J xs W' D' ∧ Left D0 W D' W') ∨ (∃ pre D', (∃ suf, S (pre ++ suf)) ∧ Jx pre W' D' ∧ Left D0 W D' W'))

theorem Iter.later {α : Type} {P : Program} {gf : Nat} {lb : Array Value} {encs : α → Array Value} {S : List α → Prop} {R : Nat → Prop} {W0 W1 : World} (h : Iter P gf lb encs S R W0) (ha : Abide R W0 W1) : Iter P gf lb encs S R W1 :=
  fun l J Jx W D0 hA => h l J Jx W D0 ⟨hA.os.trans ha.os, hA.tape.trans ha.tape, hA.output.trans ha.output, Nat.le_trans ha.size hA.size, fun k hk => (hA.block k hk).trans (ha.block k hk)⟩

/-- How a round's body may be left. -/
def roundEnd {α : Type} (I : List α → World → (Nat → Prop) → Prop) (Ix : Code → List α → World → (Nat → Prop) → Prop) (xs : List α) (D : Nat → Prop) (W : World) : Exit → Act → World → Prop
  | .normal, _, W' => ∃ D', I xs W' D' ∧ Left D W D' W'
  | .ret, _, W' => ∃ D', Ix .ret xs W' D' ∧ Left D W D' W'
  | .exit id, _, W' => ∃ D', Ix (.exit id) xs W' D' ∧ Left D W D' W'
  | .goto t, _, W' => ∃ D', Ix (.goto t) xs W' D' ∧ Left D W D' W'
  | .panic _, _, _ => False
  | .outgrown, _, _ => False

/-- Two worlds that part in block l alone. -/
structure But (l : Nat) (w w' : World) : Prop where
  os : w'.os = w.os
  tape : w'.tape = w.tape
  output : w'.output = w.output
  size : w'.heap.size = w.heap.size
  block : ∀ k, k ≠ l → w'.heap[k]? = w.heap[k]?
theorem But.putObj (w : World) (l : Nat) (o : Obj) : But l w (w.putObj l o) := ⟨rfl, rfl, rfl, by simp, fun _ h => World.putObj_heap_other h⟩
theorem But.cell {l : Nat} {w w' : World} (h : But l w w') {p : Addr} (hp : p.block ≠ l) : w'.cell? p = w.cell? p := World.cell?_of_block (w := w) (h.block _ hp)
theorem But.frozen {l : Nat} {w w' : World} (h : But l w w') {p : Addr} (hp : p.block ≠ l) : w'.frozen? p = w.frozen? p := World.frozen?_of_block (w := w) (h.block _ hp)
theorem But.abide {l : Nat} {w w' : World} (h : But l w w') {D : Nat → Prop} (hD : ¬ D l) : Abide D w w' :=
  ⟨h.os, h.tape, h.output, by rw [h.size]; exact Nat.le_refl _, fun k hk => h.block k fun e => hD (e ▸ hk)⟩

/-- THE RANGE OVER AN ITERATOR, in a function's own frame. -/
theorem wp_rangeFunc {α : Type} {P : Program} {g : Operand} {ps : Array Tmp} {assign body : Code} {Q : Exit → Act → World → Prop} {a : Act} {w : World}
    {gf : Nat} {lb : Array Value} (hg : a.eval g = .func (.func gf) #[] lb) (eg : ∀ args w, (callFunc gf args).run P w = .ok (.enter gf args) w)
    {encs : α → Array Value} {S : List α → Prop} {R : Nat → Prop} (hit : Iter P gf lb encs S R w) (hRlt : ∀ b, R b → b < w.heap.size) (hps : ∀ x, (encs x).size = ps.size)
    (I : List α → World → (Nat → Prop) → Prop) (Ix : Code → List α → World → (Nat → Prop) → Prop) (hI : Owned I) (hIx : ∀ c, Owned (Ix c)) (D0 : Nat → Prop) (hR : ∀ b, D0 b → ¬ R b) (h0 : I [] w D0)
    (hround : ∀ (l : Nat) (pre : List α) (x : α) (W : World) (D : Nat → Prop), w.heap.size < l → l < W.heap.size → ¬ D l → (∃ suf, S (pre ++ x :: suf)) → I pre W D → (∀ b, D b → D0 b ∨ w.heap.size ≤ b) →
      assign.wpIn (Fence.wide.inRound l) 0 P (Exit.then (fun a1 W1 => Left D W (fun b => D b ∨ (W.heap.size ≤ b ∧ b < W1.heap.size)) W1 ∧ ∀ W2, But l W1 W2 → body.wpIn (Fence.wide.inRound l) 0 P (roundEnd I Ix (pre ++ [x]) (fun b => D b ∨ (W.heap.size ≤ b ∧ b < W1.heap.size)) W2) a1 W2) (fun _ _ _ => False))
        { tmps := (ps.zip (encs x)).foldl (fun t (p, v) => t.setIfInBounds p v) a.tmps, defers := [] } W)
    (hdone : ∀ (xs : List α) (W : World) (D : Nat → Prop), S xs → I xs W D → Left D0 w D W → W.heap[w.heap.size]? = some (.deferred (some [])) → ¬ D w.heap.size →
      Q .normal { a with defers := { target := .collected w.heap.size, args := #[] } :: a.defers } W)
    (hstop : ∀ (c : Code) (pre : List α) (W : World) (D : Nat → Prop), (∃ suf, S (pre ++ suf)) → Ix c pre W D → Left D0 w D W → W.heap[w.heap.size]? = some (.deferred (some [])) → ¬ D w.heap.size →
      c.wpIn Fence.wide 0 P Q { a with defers := { target := .collected w.heap.size, args := #[] } :: a.defers } W) :
    (Code.rangeFunc g ps assign body).wpIn Fence.wide 0 P Q a w := by
  refine wpIn_rangeFunc ?_
  intro fn hfn
  obtain ⟨N, hN⟩ : ∃ N, N = w.heap.size := ⟨_, rfl⟩
  obtain ⟨rec, hrec⟩ : ∃ rec : LoopState → Option Code → Loop, rec = fun st pe => { state := st, pending := pe, fn, tmps := a.tmps, params := ps, assign, body, defers := w.heap.size } := ⟨_, rfl⟩
  obtain ⟨W1, hW1⟩ : ∃ W1, (w.alloc (.deferred (some []))).alloc (.loop (rec .ready none)) = W1 := ⟨_, rfl⟩
  have hL1 : W1.heap[N + 1]? = some (.loop (rec .ready none)) := by
    rw [← hW1, hN]; have := World.alloc_heap_new (w.alloc (.deferred (some []))) (.loop (rec .ready none)); rwa [World.size_alloc] at this
  have hK1 : W1.heap[N]? = some (.deferred (some [])) := by
    rw [← hW1, hN]; exact (Below.heap_alloc _ _ _ (by simp)).trans (World.alloc_heap_new w _)
  have hz1 : W1.heap.size = N + 2 := by rw [← hW1, hN]; simp
  have hkw : Keep (fun _ => False) w W1 := by rw [← hW1]; exact (Keep.alloc _ w _).trans (Keep.alloc _ _ _)
  have hlt0 := hI.lt _ _ _ h0
  have hI1 : I [] W1 D0 := hI.st _ _ _ _ h0 (hkw.abide fun k hk => ⟨hlt0 k hk, id⟩)
  -- what the law owns beside the loop's own: the record, the block of deferred calls
  let own : (Nat → Prop) → Nat → Prop := fun D b => D b ∨ b = N ∨ b = N + 1
  let J : List α → World → (Nat → Prop) → Prop := fun pre W E => ∃ D, (∀ b, E b ↔ own D b) ∧ I pre W D ∧ ¬ D N ∧ ¬ D (N + 1) ∧ (∀ b, D b → D0 b ∨ N ≤ b) ∧ W.heap[N + 1]? = some (.loop (rec .ready none)) ∧ W.heap[N]? = some (.deferred (some []))
  let Jx : List α → World → (Nat → Prop) → Prop := fun pre W E => ∃ D c, (∀ b, E b ↔ own D b) ∧ Ix c pre W D ∧ ¬ D N ∧ ¬ D (N + 1) ∧ W.heap[N + 1]? = some (.loop (rec .done (some c))) ∧ W.heap[N]? = some (.deferred (some []))
  have hJ : Owned J := ⟨fun s W E h b hb => by
      obtain ⟨D, hE, hi, _, _, _, hl, hk⟩ := h
      rcases (hE b).1 hb with hb | rfl | rfl
      · exact hI.lt _ _ _ hi b hb
      · exact (Array.getElem?_eq_some_iff.1 hk).1
      · exact (Array.getElem?_eq_some_iff.1 hl).1,
    fun s W E W' h ha => by
      obtain ⟨D, hE, hi, h1, h2, h3, hl, hk⟩ := h
      exact ⟨D, hE, hI.st _ _ _ _ hi ⟨ha.os, ha.tape, ha.output, ha.size, fun k hk => ha.block k ((hE k).2 (.inl hk))⟩, h1, h2, h3, (ha.block _ ((hE _).2 (.inr (.inr rfl)))).trans hl, (ha.block _ ((hE _).2 (.inr (.inl rfl)))).trans hk⟩⟩
  have hJx : Owned Jx := ⟨fun s W E h b hb => by
      obtain ⟨D, c, hE, hi, _, _, hl, hk⟩ := h
      rcases (hE b).1 hb with hb | rfl | rfl
      · exact (hIx c).lt _ _ _ hi b hb
      · exact (Array.getElem?_eq_some_iff.1 hk).1
      · exact (Array.getElem?_eq_some_iff.1 hl).1,
    fun s W E W' h ha => by
      obtain ⟨D, c, hE, hi, h1, h2, hl, hk⟩ := h
      exact ⟨D, c, hE, (hIx c).st _ _ _ _ hi ⟨ha.os, ha.tape, ha.output, ha.size, fun k hk => ha.block k ((hE k).2 (.inl hk))⟩, h1, h2, (ha.block _ ((hE _).2 (.inr (.inr rfl)))).trans hl, (ha.block _ ((hE _).2 (.inr (.inl rfl)))).trans hk⟩⟩
  refine ⟨N + 1, [{ target := .collected N, args := #[] }], W1, { target := .fn (.func gf) lb, args := #[.func (.yield (N + 1)) #[] #[]] }, W1, gf,
    #[.func (.yield (N + 1)) #[] #[]] ++ lb, W1, ?_, ?_, fun _ _ => trivial, ?_, fun h => by simp [Fence.wide] at h, ?_⟩
  · rw [← hW1, hrec, hN]; exact run_enterLoop_outer _ _ _ _ _
  · simp only [resolve, hg]
    simp [go_sem]
  · simp [invoke, go_sem, eg]
  · refine (hit (N + 1) J Jx W1 (own D0) (hkw.abide fun k hk => ⟨hRlt k hk, id⟩) hJ hJx (fun b hb => ?_) ?_ ⟨D0, fun _ => Iff.rfl, hI1, fun h => absurd (hlt0 _ h) (by omega), fun h => absurd (hlt0 _ h) (by omega), fun b hb => .inl hb, hL1, hK1⟩).mono ?_
    · rcases hb with hb | rfl | rfl
      · exact hR b hb
      · exact fun h => absurd (hRlt _ h) (by omega)
      · exact fun h => absurd (hRlt _ h) (by omega)
    · -- ONE ROUND
      rintro pre x W E hS ⟨D, hE, hi, hDN, hDl, hDs, hl, hk⟩
      have hlt : N + 1 < W.heap.size := (Array.getElem?_eq_some_iff.1 hl).1
      have hDlt := hI.lt _ _ _ hi
      have hy := run_yield (P := P) (args := encs x) hl (by rw [hrec]; exact hps x)
      rw [hrec] at hy
      refine ⟨fn, _, assign, body, hy, roundIn_of_wpIn hfn (wpIn_mono (hround (N + 1) pre x W D (by omega) hlt hDl hS hi (fun b hb => hN ▸ hDs b hb)) ?_)⟩
      intro e a1 Wa hq
      cases e with
      | normal =>
        obtain ⟨hLa, hb⟩ := hq
        have hka : Wa.heap[N]? = some (.deferred (some [])) := (hLa.1.block _ (by omega) hDN).trans hk
        have hla : Wa.heap[N + 1]? = some (.loop (rec .ready none)) := (hLa.1.block _ hlt hDl).trans hl
        have hlta : N + 1 < Wa.heap.size := Nat.lt_of_lt_of_le hlt hLa.1.size
        refine ⟨_, run_beginRound hla (by rw [hrec]), ?_⟩
        obtain ⟨E1, hE1⟩ : ∃ E1 : Nat → Prop, E1 = fun b => D b ∨ (W.heap.size ≤ b ∧ b < Wa.heap.size) := ⟨_, rfl⟩
        rw [← hE1] at hLa hb
        have hE1N : ¬ E1 N := by rw [hE1]; rintro (h | h); exact hDN h; omega
        have hE1l : ¬ E1 (N + 1) := by rw [hE1]; rintro (h | h); exact hDl h; omega
        refine wpIn_mono (hb _ (But.putObj Wa (N + 1) _)) ?_
        obtain ⟨W2, hW2⟩ : ∃ W2, W2 = Wa.putObj (N + 1) (.loop { rec .ready none with state := .busy }) := ⟨_, rfl⟩
        rw [← hW2]
        have hl2 : W2.heap[N + 1]? = some (.loop { rec .ready none with state := .busy }) := by rw [hW2]; exact World.putObj_heap_same hlta
        have hk2 : W2.heap[N]? = some (.deferred (some [])) := by rw [hW2]; exact (World.putObj_heap_other (by omega)).trans hka
        have hz2 : W2.heap.size = Wa.heap.size := by rw [hW2]; simp
        -- FROM THE ROUND's START TO W3
        have fin : ∀ (jump : Option Code) (D' : Nat → Prop) (W3 : World), (∀ b, D' b → b < W3.heap.size) → Left E1 W2 D' W3 →
            (Instr.endRound (N + 1) jump).run P W3 = .ok (.bool jump.isNone) (W3.putObj (N + 1) (.loop (rec (if jump.isNone then .ready else .done) jump))) ∧
            ¬ D' N ∧ ¬ D' (N + 1) ∧ (∀ b, D' b → D0 b ∨ N ≤ b) ∧
            (W3.putObj (N + 1) (.loop (rec (if jump.isNone then .ready else .done) jump))).heap[N + 1]? = some (.loop (rec (if jump.isNone then .ready else .done) jump)) ∧
            (W3.putObj (N + 1) (.loop (rec (if jump.isNone then .ready else .done) jump))).heap[N]? = some (.deferred (some [])) ∧
            Left E W (own D') (W3.putObj (N + 1) (.loop (rec (if jump.isNone then .ready else .done) jump))) := fun jump D' W3 hD3 hL => by
          have hl3 : W3.heap[N + 1]? = some (.loop { rec .ready none with state := .busy }) := (hL.1.block _ (by omega) hE1l).trans hl2
          have hk3 : W3.heap[N]? = some (.deferred (some [])) := (hL.1.block _ (by omega) hE1N).trans hk2
          have n1 : ¬ D' N := fun h => by rcases hL.2 _ h with h | h; exact hE1N h; omega
          have n2 : ¬ D' (N + 1) := fun h => by rcases hL.2 _ h with h | h; exact hE1l h; omega
          have := run_endRound (P := P) jump hl3
          rw [hrec] at this ⊢
          refine ⟨this, n1, n2, fun b hb => ?_, World.putObj_heap_same (Array.getElem?_eq_some_iff.1 hl3).1, (World.putObj_heap_other (by omega)).trans hk3, ?_, fun b hb => ?_⟩
          · rcases hL.2 b hb with h | h
            · rw [hE1] at h
              rcases h with h | h
              · exact hDs b h
              · exact .inr (by omega)
            · exact .inr (by omega)
          · have s1 : Keep E W Wa := hLa.1.mono fun k _ hk => (hE k).2 (.inl hk)
            have s2 : Keep E Wa W2 := by rw [hW2]; exact Keep.putObj _ _ _ ((hE _).2 (.inr (.inr rfl)))
            have s3 : Keep E W W3 := (s1.trans s2).trans' hL.1 (fun _ _ h => h) (fun k hk h => by
              rw [hE1] at h
              rcases h with h | h
              · exact (hE k).2 (.inl h)
              · omega)
            exact s3.trans (Keep.putObj _ _ _ ((hE _).2 (.inr (.inr rfl))))
          · rcases hb with hb | rfl | rfl
            · rcases hL.2 b hb with h | h
              · rw [hE1] at h
                rcases h with h | h
                · exact .inl ((hE b).2 (.inl h))
                · exact .inr (by omega)
              · exact .inr (by have := hLa.1.size; omega)
            · exact .inl ((hE _).2 (.inr (.inl rfl)))
            · exact .inl ((hE _).2 (.inr (.inr rfl)))
        have keepI : ∀ (K : List α → World → (Nat → Prop) → Prop) (s : List α) (D' : Nat → Prop) (W3 : World) (o : Obj), Owned K → K s W3 D' → ¬ D' (N + 1) → K s (W3.putObj (N + 1) o) D' := fun K s D' W3 o hK hs hn =>
          hK.st _ _ _ _ hs ((But.putObj W3 (N + 1) o).abide hn)
        rintro e a3 W3 hp
        cases e with
        | normal =>
          obtain ⟨D', hi3, hL3⟩ := hp
          obtain ⟨hr, n1, n2, n3, hl4, hk4, hL4⟩ := fin none D' W3 (hI.lt _ _ _ hi3) hL3
          exact ⟨_, _, hr, .inl ⟨rfl, own D', ⟨D', fun _ => Iff.rfl, keepI I _ _ _ _ hI hi3 n2, n1, n2, n3, hl4, hk4⟩, hL4⟩⟩
        | ret =>
          obtain ⟨D', hi3, hL3⟩ := hp
          obtain ⟨hr, n1, n2, n3, hl4, hk4, hL4⟩ := fin (some .ret) D' W3 ((hIx _).lt _ _ _ hi3) hL3
          exact ⟨_, _, hr, .inr ⟨rfl, own D', ⟨D', .ret, fun _ => Iff.rfl, keepI (Ix .ret) _ _ _ _ (hIx _) hi3 n2, n1, n2, hl4, hk4⟩, hL4⟩⟩
        | exit id =>
          obtain ⟨D', hi3, hL3⟩ := hp
          obtain ⟨hr, n1, n2, n3, hl4, hk4, hL4⟩ := fin (some (.exit id)) D' W3 ((hIx _).lt _ _ _ hi3) hL3
          exact ⟨_, _, hr, .inr ⟨rfl, own D', ⟨D', .exit id, fun _ => Iff.rfl, keepI (Ix (.exit id)) _ _ _ _ (hIx _) hi3 n2, n1, n2, hl4, hk4⟩, hL4⟩⟩
        | goto t =>
          obtain ⟨D', hi3, hL3⟩ := hp
          obtain ⟨hr, n1, n2, n3, hl4, hk4, hL4⟩ := fin (some (.goto t)) D' W3 ((hIx _).lt _ _ _ hi3) hL3
          exact ⟨_, _, hr, .inr ⟨rfl, own D', ⟨D', .goto t, fun _ => Iff.rfl, keepI (Ix (.goto t)) _ _ _ _ (hIx _) hi3 n2, n1, n2, hl4, hk4⟩, hL4⟩⟩
        | panic ch => exact hp.elim
        | outgrown => exact hp.elim
      | exit id => exact hq.elim
      | goto t => exact hq.elim
      | ret => exact hq.elim
      | panic ch => exact hq.elim
      | outgrown => exact hq.elim
    · -- BEHIND THE ITERATOR
      have back : ∀ (D E : Nat → Prop) (W2 : World) (o : Obj), (∀ b, E b ↔ own D b) → (∀ b, D b → b < W2.heap.size) → Left (own D0) W1 E W2 → Left D0 w D (W2.putObj (N + 1) o) := fun D E W2 o hE hlt hL => by
        refine ⟨?_, fun b hb => ?_⟩
        · have s1 : Keep D0 w W2 := (hkw.mono (G := D0) fun _ _ h => h.elim).trans' hL.1 (fun _ _ h => h) (fun k hk h => by
            rcases h with h | h | h
            · exact h
            · omega
            · omega)
          exact ⟨s1.os, s1.tape, s1.output, by simpa using s1.size, fun k hk hn => (World.putObj_heap_other (by omega)).trans (s1.block k hk hn)⟩
        · rcases hL.2 b ((hE b).2 (.inl hb)) with h | h
          · rcases h with h | h | h
            · exact .inl h
            · exact .inr (by omega)
            · exact .inr (by omega)
          · exact .inr (by omega)
      rintro e W2 ⟨⟨v, rfl⟩, (⟨xs, E, hS, ⟨D, hE, hi, n1, n2, _, hl, hk⟩, hL⟩ | ⟨pre, E, hSp, ⟨D, c, hE, hi, n1, n2, hl, hk⟩, hL⟩)⟩
      · refine ⟨none, _, by have := run_endLoop (P := P) hl (by rw [hrec]; simp); rw [hrec] at this; exact this, ?_⟩
        have hx := hdone xs (W2.putObj (N + 1) (.loop { rec .ready none with state := .exhausted })) D hS (hI.st _ _ _ _ hi ((But.putObj W2 (N + 1) _).abide n2)) (back D E W2 _ hE (hI.lt _ _ _ hi) hL) (by rw [← hN]; exact (World.putObj_heap_other (by omega)).trans hk) (by rw [← hN]; exact n1)
        subst hN
        rw [hrec] at hx
        exact hx
      · refine ⟨some c, _, by have := run_endLoop (P := P) hl (by rw [hrec]; simp); rw [hrec] at this; exact this, ?_⟩
        have hx := hstop c pre (W2.putObj (N + 1) (.loop { rec .done (some c) with state := .exhausted })) D hSp ((hIx c).st _ _ _ _ hi ((But.putObj W2 (N + 1) _).abide n2)) (back D E W2 _ hE ((hIx c).lt _ _ _ hi) hL) (by rw [← hN]; exact (World.putObj_heap_other (by omega)).trans hk) (by rw [← hN]; exact n1)
        subst hN
        rw [hrec] at hx
        exact hx
theorem bcell {W w1 : World} (hb : Below W.heap.size W w1) : (∀ b o, b < W.heap.size → w1.cell? ⟨b, o, none⟩ = W.cell? ⟨b, o, none⟩) ∧ (∀ b o, b < W.heap.size → w1.frozen? ⟨b, o, none⟩ = W.frozen? ⟨b, o, none⟩) :=
  ⟨fun b o h => hb.cell (p := ⟨b, o, none⟩) h, fun b o h => hb.frozen (p := ⟨b, o, none⟩) h⟩
end Go.Proofs.YtpdbmpbmepkikaaGreatDoor

namespace Go.Proofs.YtpdbmpbmepkikaaGreatDoor
open Go.RowKit

/-- How keys are laid: by strings, by integers of one kind. -/
structure KE (κ : Type) [DecidableEq κ] where
  enc : κ → Value
  desc : TypeDesc
  same : ∀ a b, Instr.sameNow desc (enc a) (enc b) = some (decide (a = b))
  flat : ∀ (P : Program) (w : World) (e : Bool) (n : Nat) (t : TypeId) (v : Value), P.underlying t = some desc → (Instr.checkKey e (n + 1) t v).run P w = .ok () w
  bits : ∀ n a, Instr.sameBits n (enc a) (enc a) = true

def keS : KE ByteArray where
  enc := .string
  desc := .string
  same := fun a b => by
    simp only [Instr.sameNow, Option.some.injEq]
    rw [Bool.eq_iff_iff, MapKept.bytes_beq, decide_eq_true_iff]
  flat := fun P w e n t v h => by simp [Instr.checkKey, run_underlying h]
  bits := fun n a => by cases n <;> (simp only [Instr.sameBits]; exact (MapKept.bytes_beq a a).2 rfl)

def keI (k : IntKind) : KE Int where
  enc := .int k
  desc := .int k
  same := fun a b => by simp [Instr.sameNow]; by_cases h : a = b <;> simp [h]
  flat := fun P w e n t v h => by simp [Instr.checkKey, run_underlying h]
  bits := fun n a => by cases n <;> simp [Instr.sameBits]

section
variable {κ : Type} [DecidableEq κ]

/-- The value of a key. -/
def look : List (κ × Value) → κ → Option Value
  | [], _ => none
  | (a, v) :: l, k => if a = k then some v else look l k
/-- A key with its value more. -/
def put : List (κ × Value) → κ → Value → List (κ × Value)
  | [], k, v => [(k, v)]
  | (a, u) :: l, k, v => if a = k then (k, v) :: l else (a, u) :: put l k v

theorem put_keys_mem (l : List (κ × Value)) (k : κ) (v : Value) (x : κ) : x ∈ (put l k v).map (·.1) ↔ x = k ∨ x ∈ l.map (·.1) := by
  induction l with
  | nil => simp [put]
  | cons p l ih =>
    obtain ⟨a, u⟩ := p
    unfold put
    by_cases h : a = k
    · subst h; simp
    · rw [if_neg h]
      simp only [List.map_cons, List.mem_cons, ih]
      constructor
      · rintro (h | h | h); exact .inr (.inl h); exact .inl h; exact .inr (.inr h)
      · rintro (h | h | h); exact .inr (.inl h); exact .inl h; exact .inr (.inr h)
theorem put_nodup {l : List (κ × Value)} (k : κ) (v : Value) (h : (l.map (·.1)).Nodup) : ((put l k v).map (·.1)).Nodup := by
  induction l with
  | nil => simp [put]
  | cons p l ih =>
    obtain ⟨a, u⟩ := p
    unfold put
    simp only [List.map_cons, List.nodup_cons] at h
    by_cases e : a = k
    · subst e; simp only [if_true, List.map_cons, List.nodup_cons]; exact h
    · rw [if_neg e]
      simp only [List.map_cons, List.nodup_cons]
      exact ⟨fun hm => by rcases (put_keys_mem l k v a).1 hm with hm | hm; exact e hm; exact h.1 hm, ih h.2⟩

/-- The entries of a map's block read as es; no key twice; the stamps rise and lie below the clock. -/
structure Reads (K : KE κ) (en : Array MapEntry) (clock : Nat) (es : List (κ × Value)) : Prop where
  read : en.toList.map (fun e => (e.key, e.val)) = es.map (fun p => (K.enc p.1, p.2))
  nodup : (es.map (·.1)).Nodup
  rise : (en.toList.map (·.born)).Pairwise (· < ·)
  below : ∀ e ∈ en.toList, e.born < clock

def MapAt (K : KE κ) (w : World) (m : Nat) (es : List (κ × Value)) : Prop := ∃ en clock, w.heap[m]? = some (.map en clock) ∧ Reads K en clock es

theorem MapAt.of_block {K : KE κ} {w w' : World} {m : Nat} {es : List (κ × Value)} (h : MapAt K w m es) (hb : w'.heap[m]? = w.heap[m]?) : MapAt K w' m es := by
  obtain ⟨en, clock, h1, h2⟩ := h; exact ⟨en, clock, hb.trans h1, h2⟩
theorem MapAt.lt {K : KE κ} {w : World} {m : Nat} {es : List (κ × Value)} (h : MapAt K w m es) : m < w.heap.size := by
  obtain ⟨en, clock, h1, _⟩ := h; exact (Array.getElem?_eq_some_iff.1 h1).1
theorem MapAt.alloc {K : KE κ} {w : World} {m : Nat} {es : List (κ × Value)} (h : MapAt K w m es) (o : Obj) : MapAt K (w.alloc o) m es := h.of_block (Below.heap_alloc _ _ _ h.lt)
theorem MapAt.below {K : KE κ} {w w' : World} {m : Nat} {es : List (κ × Value)} (h : MapAt K w m es) (hb : Below w.heap.size w w') : MapAt K w' m es := h.of_block (hb.block _ h.lt)
theorem MapAt.keep {K : KE κ} {w w' : World} {m : Nat} {es : List (κ × Value)} {F : Nat → Prop} (h : MapAt K w m es) (hk : Keep F w w') (hF : ¬ F m) : MapAt K w' m es := h.of_block (hk.block _ h.lt hF)
theorem MapAt.setCell {K : KE κ} {w : World} {m : Nat} {es : List (κ × Value)} (h : MapAt K w m es) (p : Addr) (v : Value) (hp : m ≠ p.block) : MapAt K (w.setCell p v) m es := h.of_block (Below.heap_setCell _ _ _ _ hp)
theorem MapAt.drew {K : KE κ} {w : World} {m : Nat} {es : List (κ × Value)} (h : MapAt K w m es) : MapAt K w.drew m es := h.of_block rfl
theorem MapAt.new (K : KE κ) (w : World) : MapAt K (w.alloc (.map #[] 0)) w.heap.size [] :=
  ⟨#[], 0, World.alloc_heap_new w _, by simp, by simp, by simp, by simp⟩

theorem findNow_reads (K : KE κ) (k : κ) : ∀ (l : List MapEntry) (es : List (κ × Value)) (i : Nat), l.map (fun e => (e.key, e.val)) = es.map (fun p => (K.enc p.1, p.2)) →
    Instr.findNow K.desc (K.enc k) l i = some (match es.findIdx? (fun p => p.1 = k) with | some j => (look es k).map fun v => (i + j, v) | none => none) ∧ ((es.findIdx? (fun p => p.1 = k)).isSome = (look es k).isSome) := by
  intro l
  induction l with
  | nil =>
    intro es i h
    cases es with
    | nil => simp [Instr.findNow, look]
    | cons p es => simp at h
  | cons e l ih =>
    intro es i h
    cases es with
    | nil => simp at h
    | cons p es =>
      simp only [List.map_cons, List.cons.injEq, Prod.mk.injEq] at h
      obtain ⟨⟨hk, hv⟩, ht⟩ := h
      obtain ⟨i1, i2⟩ := ih es (i + 1) ht
      simp only [Instr.findNow, hk, K.same, List.findIdx?_cons, look]
      by_cases hp : p.1 = k
      · simp [hp, hv]
      · have hp' : ¬ k = p.1 := fun e => hp e.symm
        simp only [hp', decide_false, i1, hp, if_false]
        cases hf : es.findIdx? (fun p => p.1 = k) with
        | none => simp [hf] at i2 ⊢; exact i2
        | some j =>
          simp only [hf] at i2 ⊢
          cases hl : look es k with
          | none => simp [hl] at i2
          | some v => simp [Nat.add_assoc, Nat.add_comm 1 j]

theorem run_findKey {P : Program} {w : World} {kt : TypeId} (K : KE κ) (hk : P.underlying kt = some K.desc) {en : Array MapEntry} {clock : Nat} {es : List (κ × Value)} (h : Reads K en clock es) (k : κ) :
    (Instr.findKey kt (K.enc k) en.toList).run P w = .ok (match es.findIdx? (fun p => p.1 = k) with | some j => (look es k).map fun v => (j, v) | none => none) w := by
  obtain ⟨h1, _⟩ := findNow_reads K k en.toList es 0 h.read
  simp only [Instr.findKey, Sem.run_bind, run_underlying hk, Result.andThen, h1, Sem.run_pure, Nat.zero_add]

/-- A look-up, with ok or without. -/
theorem run_lookup {P : Program} {w : World} {T kt et : TypeId} (K : KE κ) (hT : P.underlying T = some (.map kt et)) (hk : P.underlying kt = some K.desc) {m : Nat} {es : List (κ × Value)} (h : MapAt K w m es) {z : Value} (hz : (zeroValue et).run P w = .ok z w) (k : κ) (ok : Bool) :
    (Instr.lookup T (.map (some m)) (K.enc k) ok).run P w = .ok (if ok then .tuple #[(look es k).getD z, .bool (look es k).isSome] else (look es k).getD z) w := by
  obtain ⟨en, clock, hb, hr⟩ := h
  have hg : (getObj m).run P w = .ok (.map en clock) w := by simp [getObj, Sem.run, hb]
  have hf := run_findKey (w := w) K hk hr k
  obtain ⟨_, hi⟩ := findNow_reads K k en.toList es 0 hr.read
  simp only [Instr.lookup, Sem.run_bind, run_underlying hT, Result.andThen, hg, Sem.run_pure, K.flat _ _ _ _ _ _ hk, hf]
  cases hj : es.findIdx? (fun p => p.1 = k) with
  | none =>
    rw [hj] at hi
    cases hl : look es k with
    | none => simp [hz, Result.andThen]
    | some v => rw [hl] at hi; cases hi
  | some j =>
    rw [hj] at hi
    cases hl : look es k with
    | none => rw [hl] at hi; cases hi
    | some v => simp

theorem reads_put {K : KE κ} {en : Array MapEntry} {clock : Nat} {es : List (κ × Value)} (h : Reads K en clock es) (k : κ) (v : Value) :
    match es.findIdx? (fun p => p.1 = k) with
    | some j => Reads K (en.modify j fun e => { e with key := K.enc k, val := v }) clock (put es k v) ∧ (en[j]?).map (·.key) = some (K.enc k)
    | none => Reads K (en.push { key := K.enc k, val := v, born := clock }) (clock + 1) (put es k v) := by
  have gen : ∀ (l : List MapEntry) (es : List (κ × Value)), l.map (fun e => (e.key, e.val)) = es.map (fun p => (K.enc p.1, p.2)) →
      match es.findIdx? (fun p => p.1 = k) with
      | some j => (l.modify j fun e => { e with key := K.enc k, val := v }).map (fun e => (e.key, e.val)) = (put es k v).map (fun p => (K.enc p.1, p.2)) ∧ (l.modify j fun e => { e with key := K.enc k, val := v }).map (·.born) = l.map (·.born) ∧ (l[j]?).map (·.key) = some (K.enc k)
      | none => put es k v = es ++ [(k, v)] := by
    intro l
    induction l with
    | nil =>
      intro es h
      cases es with
      | nil => simp [put]
      | cons p es => simp at h
    | cons e l ih =>
      intro es h
      cases es with
      | nil => simp at h
      | cons p es =>
        simp only [List.map_cons, List.cons.injEq, Prod.mk.injEq] at h
        obtain ⟨⟨hk, hv⟩, ht⟩ := h
        have := ih es ht
        simp only [List.findIdx?_cons]
        obtain ⟨a, u⟩ := p
        by_cases hp : a = k
        · subst hp
          simp only [decide_true, if_true, put]
          refine ⟨by simp [List.modify, ht], by simp [List.modify], by simp [hk]⟩
        · simp only [hp, decide_false, Bool.false_eq_true, if_false, put]
          cases hf : es.findIdx? (fun p => p.1 = k) with
          | none => simp [hf] at this ⊢; exact this
          | some j =>
            simp only [hf] at this
            obtain ⟨t1, t2, t3⟩ := this
            simp only [Option.map_some]
            refine ⟨?_, ?_, ?_⟩
            · simp only [List.modify_succ_cons, List.map_cons, t1, hk, hv]
            · simp only [List.modify_succ_cons, List.map_cons, t2]
            · simpa using t3
  have g := gen en.toList es h.read
  cases hf : es.findIdx? (fun p => p.1 = k) with
  | none =>
    simp only [hf] at g ⊢
    refine ⟨?_, put_nodup k v h.nodup, ?_, ?_⟩
    · rw [g]; simp [h.read]
    · simp only [Array.toList_push, List.map_append, List.map_cons, List.map_nil, List.pairwise_append, List.mem_map, List.mem_cons, List.not_mem_nil, or_false]
      refine ⟨h.rise, by simp, ?_⟩
      rintro a ⟨e, he, rfl⟩ b rfl
      exact h.below e he
    · intro e he
      simp only [Array.toList_push, List.mem_append, List.mem_cons, List.not_mem_nil, or_false] at he
      rcases he with he | rfl
      · exact Nat.lt_succ_of_lt (h.below e he)
      · exact Nat.lt_succ_self _
  | some j =>
    simp only [hf] at g ⊢
    obtain ⟨g1, g2, g3⟩ := g
    refine ⟨⟨by rw [Array.toList_modify]; exact g1, put_nodup k v h.nodup, by rw [Array.toList_modify, g2]; exact h.rise, ?_⟩, by rw [← Array.getElem?_toList]; exact g3⟩
    intro e he
    rw [Array.toList_modify] at he
    have : e.born ∈ en.toList.map (·.born) := by rw [← g2]; exact List.mem_map_of_mem he
    obtain ⟨e', he', hb⟩ := List.mem_map.1 this
    rw [← hb]; exact h.below e' he'

/-- A store. -/
theorem run_mapUpdate {P : Program} {w : World} {T kt et : TypeId} (K : KE κ) (hT : P.underlying T = some (.map kt et)) (hk : P.underlying kt = some K.desc) {m : Nat} {es : List (κ × Value)} (h : MapAt K w m es) (k : κ) (v : Value) :
    ∃ o, (Instr.mapUpdate T (.map (some m)) (K.enc k) v).run P w = .ok () (w.putObj m o) ∧ MapAt K (w.putObj m o) m (put es k v) := by
  obtain ⟨en, clock, hb, hr⟩ := h
  have hlt := (Array.getElem?_eq_some_iff.1 hb).1
  have hg : (getObj m).run P w = .ok (.map en clock) w := by simp [getObj, Sem.run, hb]
  have hs : ∀ o, (setObj m o).run P w = .ok () (w.putObj m o) := fun o => by simp [setObj, Sem.run, hb, World.putObj]
  have hf := run_findKey (w := w) K hk hr k
  obtain ⟨_, hi⟩ := findNow_reads K k en.toList es 0 hr.read
  have hp := reads_put hr k v
  simp only [Instr.mapUpdate, Sem.run_bind, run_underlying hT, Result.andThen, hg, K.flat _ _ _ _ _ _ hk, hf]
  cases hj : es.findIdx? (fun p => p.1 = k) with
  | none =>
    rw [hj] at hi hp
    cases hl : look es k with
    | some v => rw [hl] at hi; cases hi
    | none => exact ⟨_, by simp [hs], _, _, World.putObj_heap_same hlt, hp⟩
  | some j =>
    rw [hj] at hi hp
    cases hl : look es k with
    | none => rw [hl] at hi; cases hi
    | some u =>
      obtain ⟨hp1, hp2⟩ := hp
      refine ⟨_, ?_, _, _, World.putObj_heap_same hlt, hp1⟩
      simp only [Option.map_some, Sem.run_bind, Instr.keyThatStays, hp2, Option.getD_some, K.bits, if_true, Sem.run_pure, Result.andThen, hs]
end

section
variable {κ : Type} [DecidableEq κ] {P : Program} (w : World) {ops : Array Oper} {rest : List Oper} {o : Oper} {a : Act} {Q : Exit → Act → World → Prop}

theorem wpList_look (K : KE κ) (hg : o.guard = none) (m x : Operand) (T : TypeId) (hop : o.op = Op.lookup T m x false) (kt et : TypeId) (hT : P.underlying T = some (.map kt et)) (hk : P.underlying kt = some K.desc) (z : Value) (hz : (zeroValue et).run P w = .ok z w) (b : Nat) (es : List (κ × Value)) (k : κ)
    (hm : a.eval m = .map (some b)) (hM : MapAt K w b es) (hx : a.eval x = K.enc k) (hK : wpList P ops Q rest (a.put o.dst ((look es k).getD z)) w) : wpList P ops Q (o :: rest) a w := by
  refine wpList_plain hg fun K' hK' => ?_
  have hrun := run_lookup (P := P) K hT hk hM hz k false
  unfold Oper.wp
  simp only [execOp, hop, hm, hx, Sem.run_bind, hrun, Result.andThen, Sem.run_pure, Bool.false_eq_true, if_false]
  exact hK' _ _ hK
theorem wpList_lookOk (K : KE κ) (hg : o.guard = none) (m x : Operand) (T : TypeId) (hop : o.op = Op.lookup T m x true) (kt et : TypeId) (hT : P.underlying T = some (.map kt et)) (hk : P.underlying kt = some K.desc) (z : Value) (hz : (zeroValue et).run P w = .ok z w) (b : Nat) (es : List (κ × Value)) (k : κ)
    (hm : a.eval m = .map (some b)) (hM : MapAt K w b es) (hx : a.eval x = K.enc k) (hK : wpList P ops Q rest (a.put o.dst (.tuple #[(look es k).getD z, .bool (look es k).isSome])) w) : wpList P ops Q (o :: rest) a w := by
  refine wpList_plain hg fun K' hK' => ?_
  have hrun := run_lookup (P := P) K hT hk hM hz k true
  unfold Oper.wp
  simp only [execOp, hop, hm, hx, Sem.run_bind, hrun, Result.andThen, Sem.run_pure, if_true]
  exact hK' _ _ hK
theorem wpList_upd (K : KE κ) (hg : o.guard = none) (m x y : Operand) (T : TypeId) (hop : o.op = Op.mapUpdate T m x y) (kt et : TypeId) (hT : P.underlying T = some (.map kt et)) (hk : P.underlying kt = some K.desc) (b : Nat) (es : List (κ × Value)) (k : κ) (v : Value)
    (hm : a.eval m = .map (some b)) (hM : MapAt K w b es) (hx : a.eval x = K.enc k) (hy : a.eval y = v) (hK : ∀ w', MapAt K w' b (put es k v) → Keep (fun x => x = b) w w' → w'.heap.size = w.heap.size → wpList P ops Q rest (a.put o.dst undef) w') : wpList P ops Q (o :: rest) a w := by
  refine wpList_plain hg fun K' hK' => ?_
  obtain ⟨ob, hrun, hM'⟩ := run_mapUpdate (P := P) K hT hk hM k v
  unfold Oper.wp
  simp only [execOp, hop, hm, hx, hy, Sem.run_bind, hrun, Result.andThen, Sem.run_pure]
  exact hK' _ _ (hK _ hM' (Keep.putObj _ _ _ rfl) (by simp))

variable {F : Fence} {n : Nat}
theorem wpListIn_look (K : KE κ) (hg : o.guard = none) (m x : Operand) (T : TypeId) (hop : o.op = Op.lookup T m x false) (kt et : TypeId) (hT : P.underlying T = some (.map kt et)) (hk : P.underlying kt = some K.desc) (z : Value) (hz : (zeroValue et).run P w = .ok z w) (b : Nat) (es : List (κ × Value)) (k : κ)
    (hm : a.eval m = .map (some b)) (hM : MapAt K w b es) (hx : a.eval x = K.enc k) (hK : wpListIn F n P ops Q rest (a.put o.dst ((look es k).getD z)) w) : wpListIn F n P ops Q (o :: rest) a w := by
  refine wpListIn_plain hg fun K' hK' => ?_
  have hrun := run_lookup (P := P) K hT hk hM hz k false
  have hsem : o.semAt F.round a.eval = execOp a.eval o := by unfold Oper.semAt; rw [hop]; cases F.round <;> rfl
  refine ⟨fun f h => by simp [Oper.about, hop] at h, ?_⟩
  rw [hsem]
  simp only [execOp, hop, hm, hx, Sem.run_bind, hrun, Result.andThen, Sem.run_pure, Bool.false_eq_true, if_false]
  exact hK' _ _ hK
theorem wpListIn_lookOk (K : KE κ) (hg : o.guard = none) (m x : Operand) (T : TypeId) (hop : o.op = Op.lookup T m x true) (kt et : TypeId) (hT : P.underlying T = some (.map kt et)) (hk : P.underlying kt = some K.desc) (z : Value) (hz : (zeroValue et).run P w = .ok z w) (b : Nat) (es : List (κ × Value)) (k : κ)
    (hm : a.eval m = .map (some b)) (hM : MapAt K w b es) (hx : a.eval x = K.enc k) (hK : wpListIn F n P ops Q rest (a.put o.dst (.tuple #[(look es k).getD z, .bool (look es k).isSome])) w) : wpListIn F n P ops Q (o :: rest) a w := by
  refine wpListIn_plain hg fun K' hK' => ?_
  have hrun := run_lookup (P := P) K hT hk hM hz k true
  have hsem : o.semAt F.round a.eval = execOp a.eval o := by unfold Oper.semAt; rw [hop]; cases F.round <;> rfl
  refine ⟨fun f h => by simp [Oper.about, hop] at h, ?_⟩
  rw [hsem]
  simp only [execOp, hop, hm, hx, Sem.run_bind, hrun, Result.andThen, Sem.run_pure, if_true]
  exact hK' _ _ hK
theorem wpListIn_upd (K : KE κ) (hg : o.guard = none) (m x y : Operand) (T : TypeId) (hop : o.op = Op.mapUpdate T m x y) (kt et : TypeId) (hT : P.underlying T = some (.map kt et)) (hk : P.underlying kt = some K.desc) (b : Nat) (es : List (κ × Value)) (k : κ) (v : Value)
    (hm : a.eval m = .map (some b)) (hM : MapAt K w b es) (hx : a.eval x = K.enc k) (hy : a.eval y = v) (hK : ∀ w', MapAt K w' b (put es k v) → Keep (fun x => x = b) w w' → w'.heap.size = w.heap.size → wpListIn F n P ops Q rest (a.put o.dst undef) w') : wpListIn F n P ops Q (o :: rest) a w := by
  refine wpListIn_plain hg fun K' hK' => ?_
  obtain ⟨ob, hrun, hM'⟩ := run_mapUpdate (P := P) K hT hk hM k v
  have hsem : o.semAt F.round a.eval = execOp a.eval o := by unfold Oper.semAt; rw [hop]; cases F.round <;> rfl
  refine ⟨fun f h => by simp [Oper.about, hop] at h, ?_⟩
  rw [hsem]
  simp only [execOp, hop, hm, hx, hy, Sem.run_bind, hrun, Result.andThen, Sem.run_pure]
  exact hK' _ _ (hK _ hM' (Keep.putObj _ _ _ rfl) (by simp))
end
end Go.Proofs.YtpdbmpbmepkikaaGreatDoor
