/- A range over a function: the iterator may keep blocks of its own over a round: a round changes blocks of M alone. -/
import Derived.Test.YtegdcalefpobeaaBlk
import Derived.RangeFuncNested
import Derived.RangeFuncFrom
import Derived.RangeFuncBound
import Derived.RangeFuncCalls
import Derived.RangeFuncLeaves
import Derived.Shelf.Abstract
import Derived.Shelf.RegionOpen
import Derived.OwnWalkIn
import Derived.TacticsInMore
import Derived.LoopNIn
import Derived.LoopIn
set_option linter.unusedVariables false
set_option linter.unusedSimpArgs false
namespace Go.Proofs.Ytegdcalefpobeaa.A
open Go.RowKit Go.Shelf Go.Proofs.YtegdcalefpobeaaW.PrintWords Go.Proofs.YtegdcalefpobeaaW.PrintLast Go.Proofs.YtegdcalefpobeaaW.PrintMore

/-- all but the blocks of M is as it was -/
structure BelowX (M : Nat → Prop) (w w' : World) : Prop where
  os : w'.os = w.os
  tape : w'.tape = w.tape
  output : w'.output = w.output
  size : w.heap.size ≤ w'.heap.size
  block : ∀ k, k < w.heap.size → ¬ M k → w'.heap[k]? = w.heap[k]?
theorem BelowX.refl (M : Nat → Prop) (w : World) : BelowX M w w := ⟨rfl, rfl, rfl, Nat.le_refl _, fun _ _ _ => rfl⟩
theorem BelowX.trans {M : Nat → Prop} {a b c : World} (h : BelowX M a b) (k : BelowX M b c) : BelowX M a c :=
  ⟨k.os.trans h.os, k.tape.trans h.tape, k.output.trans h.output, Nat.le_trans h.size k.size, fun i hi hm => (k.block i (Nat.lt_of_lt_of_le hi h.size) hm).trans (h.block i hi hm)⟩
theorem BelowX.mono {M M' : Nat → Prop} {a b : World} (h : BelowX M a b) (hm : ∀ k, M k → M' k) : BelowX M' a b := ⟨h.os, h.tape, h.output, h.size, fun k hk hn => h.block k hk (fun x => hn (hm k x))⟩
theorem BelowX.of {M : Nat → Prop} {w w' : World} (h : Below w.heap.size w w') : BelowX M w w' := ⟨h.os, h.tape, h.output, h.size, fun k hk _ => h.block k hk⟩
theorem BelowX.below {M : Nat → Prop} {w w' : World} {n : Nat} (h : BelowX M w w') (hm : ∀ k, M k → n ≤ k) (hn : n ≤ w.heap.size) : Below n w w' :=
  ⟨h.os, h.tape, h.output, h.size, fun k hk => h.block k (by omega) (fun x => by have := hm k x; omega)⟩
theorem BelowX.setCell {M : Nat → Prop} {a w : World} (h : BelowX M a w) {p : Addr} (hp : M p.block) (u : Value) : BelowX M a (w.setCell p u) :=
  h.trans ⟨rfl, rfl, rfl, by simp [World.setCell], fun k hk hm => Below.heap_setCell _ _ _ _ (fun e => hm (e ▸ hp))⟩
theorem Blk.keepX {M : Nat → Prop} {w w' : World} {g : Nat} {t : TypeId} {cs : Array Value} (h : Blk w g t cs) (hx : BelowX M w w') (hg : ¬ M g) : Blk w' g t cs := (hx.block g h.lt hg).trans h
/-- the k-th yield, k < N, is handed 'encs k'; a round that goes on changes blocks of M alone -/
def SeqX (n : Nat) (P : Program) (g : Nat) (lb : Array Value) (encs : Nat → Array Value) (G : Nat → Prop) (N : Nat) (w : World) : Prop :=
  ∀ (M : Nat → Prop) (L : Nat) (J Jx : Nat → World → Prop) (W : World), Below w.heap.size w W → (∀ k, M k → ¬ G k ∧ k < W.heap.size) → AbidesFrom W.heap.size J → AbidesFrom W.heap.size Jx →
    (∀ k W1, k < N → J k W1 → YieldAt Fence.wide (n - 1) P L (encs k) W1 fun e W' =>
      (e = .returned (.bool true) ∧ J (k + 1) W' ∧ BelowX M W1 W') ∨ (e = .returned (.bool false) ∧ Jx (k + 1) W')) →
    J 0 W →
    CallsIn Fence.wide n P g (#[.func (.yield L) #[] #[]] ++ lb) W fun e W' => (∃ v, e = .returned v) ∧ (J N W' ∨ ∃ k, k ≤ N ∧ Jx k W')

/-- how a round's body may be left -/
def roundX (M : Nat → Prop) (I : Nat → World → Prop) (Ix : Code → Nat → World → Prop) (k : Nat) (W : World) : Exit → Act → World → Prop
  | .normal, _, W' => KeepsOthers W W' ∧ BelowX M W W' ∧ I k W'
  | .ret, _, W' => KeepsOthers W W' ∧ Ix .ret k W'
  | .exit id, _, W' => KeepsOthers W W' ∧ Ix (.exit id) k W'
  | _, _, _ => False

theorem rangeX_law {n : Nat} {P : Program} {g : Operand} {ps : Array Tmp} {assign body : Code} {Q : Exit → Act → World → Prop} {a : Act} {w : World}
    {gf : Nat} {lb : Array Value} (hg : a.eval g = .func (.func gf) #[] lb) (eg : ∀ args w, (callFunc gf args).run P w = .ok (.enter gf args) w)
    {encs : Nat → Array Value} {G : Nat → Prop} {N : Nat} {w0 : World} (hseq : SeqX (n - 1) P gf lb encs G N w0) (hb0 : Below w0.heap.size w0 w) (M : Nat → Prop) (hM : ∀ k, M k → ¬ G k ∧ k < w.heap.size) (hG : ∀ k, G k → k < w.heap.size) (hps : ∀ k, (encs k).size = ps.size)
    (I : Nat → World → Prop) (Ix : Code → Nat → World → Prop) (hI : OwnFrom w.heap.size I) (hIx : ∀ c, OwnFrom w.heap.size (Ix c)) (h0 : I 0 w) (a₁ : Nat → Act)
    (hassign : ∀ (L k : Nat) (W : World) (K : Act → World → Prop), K (a₁ k) W →
      assign.wpIn (Fence.wide.inRound L) (n - 1 - 1) P (Exit.then K (fun _ _ _ => False)) { tmps := (ps.zip (encs k)).foldl (fun t (p, v) => t.setIfInBounds p v) a.tmps, defers := [] } W)
    (hbody : ∀ (L k : Nat) (W : World), k < N → I k W → body.wpIn (Fence.wide.inRound L) (n - 1 - 1) P (roundX M I Ix (k + 1) W) (a₁ k) W)
    (hdone : ∀ (D : Nat) (W : World), w.heap.size ≤ D → I N W → W.heap[D]? = some (.deferred (some [])) → Q .normal { a with defers := { target := .collected D, args := #[] } :: a.defers } W)
    (hstop : ∀ (D : Nat) (c : Code) (k : Nat) (W : World), w.heap.size ≤ D → k ≤ N → Ix c k W → W.heap[D]? = some (.deferred (some [])) → c.wpIn Fence.wide n P Q { a with defers := { target := .collected D, args := #[] } :: a.defers } W) :
    (Code.rangeFunc g ps assign body).wpIn Fence.wide n P Q a w := by
  refine wpIn_rangeFunc ?_
  intro fn hfn
  -- the loop's record, by its state and the jump that waits
  let rec_ : LoopState → Option Code → Obj := fun st pe => .loop { state := st, pending := pe, fn, tmps := a.tmps, params := ps, assign, body, defers := w.heap.size }
  have hsz : (w.alloc (.deferred (some []))).heap.size = w.heap.size + 1 := World.size_alloc ..
  obtain ⟨W1, hW1⟩ : ∃ W1, (w.alloc (.deferred (some []))).alloc (rec_ .ready none) = W1 := ⟨_, rfl⟩
  have hL1 : W1.heap[w.heap.size + 1]? = some (rec_ .ready none) := by
    have := World.alloc_heap_new (w.alloc (.deferred (some []))) (rec_ .ready none)
    rw [hsz] at this
    rw [← hW1]; exact this
  have hK1 : W1.heap[w.heap.size]? = some (.deferred (some [])) := by
    rw [← hW1]; exact (Below.heap_alloc _ _ _ (by rw [hsz]; omega)).trans (World.alloc_heap_new w _)
  have hI1 : I 0 W1 := by rw [← hW1]; exact hI.alloc _ (hI.alloc _ h0)
  have hz1 : W1.heap.size = w.heap.size + 2 := by rw [← hW1, World.size_alloc, hsz]
  have hb1 : Below w0.heap.size w0 W1 := by
    refine hb0.trans (Below.mono (B := w.heap.size) ?_ hb0.size)
    rw [← hW1]
    exact ((Below.refl _ w).alloc (Nat.le_refl _) _).alloc (by rw [hsz]; omega) _
  refine ⟨w.heap.size + 1, [{ target := .collected w.heap.size, args := #[] }], W1, { target := .fn (.func gf) lb, args := #[.func (.yield (w.heap.size + 1)) #[] #[]] }, W1, gf,
    #[.func (.yield (w.heap.size + 1)) #[] #[]] ++ lb, W1, ?_, ?_, fun f' _ => trivial, ?_, fun h => (by cases h), ?_⟩
  · rw [← hW1]; exact run_enterLoop_outer _ _ _ _ _
  · simp only [resolve, hg]
    simp [go_sem]
  · simp [invoke, go_sem, eg]
  -- the two blocks of book-keeping, and what a turn of the record leaves
  have upd : ∀ (W : World) (st : LoopState) (pe : Option Code) (o : Obj), W.heap[w.heap.size + 1]? = some (rec_ st pe) → W.heap[w.heap.size]? = some (.deferred (some [])) →
      (W.putObj (w.heap.size + 1) o).heap[w.heap.size + 1]? = some o ∧ (W.putObj (w.heap.size + 1) o).heap[w.heap.size]? = some (.deferred (some [])) ∧ BelowX (fun k => M k ∨ k = w.heap.size + 1) W (W.putObj (w.heap.size + 1) o) := by
    intro W st pe o hl hk
    have hbk := belowK_b (w := w) (Nat.le_refl _) W (w.heap.size + 1) _ o (by omega) hl rfl rfl
    exact ⟨World.putObj_heap_same (Array.getElem?_eq_some_iff.1 hl).1, (World.putObj_heap_other (by omega)).trans hk, hbk.os, hbk.tape, hbk.output, hbk.size, fun k _ hm => World.putObj_heap_other (fun e => hm (.inr e))⟩
  have turn : ∀ {A : World} {row : Option Nat}, (∀ r, row = some r → W1.heap.size ≤ r ∧ ∃ o : Obj, A.heap[r]? = some o ∧ o.isWalk = true) → (∀ r, row = some r → w.heap.size ≤ r ∧ ∃ o : Obj, A.heap[r]? = some o ∧ o.isCells = false) := by
    intro A row hr r e
    obtain ⟨hB, o, ho, hw⟩ := hr r e
    exact ⟨by omega, o, ho, Obj.not_cells_of_walk hw⟩
  refine (hseq (fun k => M k ∨ k = w.heap.size + 1) (w.heap.size + 1)
    (fun k W => I k W ∧ W.heap[w.heap.size + 1]? = some (rec_ .ready none) ∧ W.heap[w.heap.size]? = some (.deferred (some [])))
    (fun k W => ∃ c, Ix c k W ∧ W.heap[w.heap.size + 1]? = some (rec_ .done (some c)) ∧ W.heap[w.heap.size]? = some (.deferred (some [])))
    W1 hb1 (fun k hk => by rcases hk with h | h; exact ⟨(hM k h).1, by have := (hM k h).2; omega⟩; exact ⟨fun hg => by have := hG k hg; omega, by omega⟩) ?_ ?_ ?_ ⟨hI1, hL1, hK1⟩).mono ?_
  · intro s A B row hs hg' hr
    exact ⟨hI s A B row hs.1 hg' (turn hr), (grownBy_keeps hg' (fun r e => (hr r e).2) hs.2.1 rfl).trans hs.2.1, (grownBy_keeps hg' (fun r e => (hr r e).2) hs.2.2 rfl).trans hs.2.2⟩
  · intro s A B row hs hg' hr
    obtain ⟨c, hc, hl, hk⟩ := hs
    exact ⟨c, hIx c s A B row hc hg' (turn hr), (grownBy_keeps hg' (fun r e => (hr r e).2) hl rfl).trans hl, (grownBy_keeps hg' (fun r e => (hr r e).2) hk rfl).trans hk⟩
  · intro k W hkN ⟨hi, hl, hk⟩
    have hy := run_yield (P := P) (args := encs k) hl (hps k)
    refine ⟨fn, _, assign, body, hy, roundIn_of_wpIn hfn (hassign _ k W _ ⟨_, run_beginRound hl rfl, ?_⟩)⟩
    obtain ⟨hl2, hk2, hw2⟩ := upd W _ _ (rec_ .busy none) hl hk
    refine wpIn_mono (hbody _ k _ hkN (hI.putObj _ hi (by omega) hl rfl)) ?_
    have ends : ∀ (jump : Option Code) (W3 : World), KeepsOthers (W.putObj (w.heap.size + 1) (rec_ .busy none)) W3 →
        (Instr.endRound (w.heap.size + 1) jump).run P W3 = .ok (.bool jump.isNone) (W3.putObj (w.heap.size + 1) (rec_ (if jump.isNone then .ready else .done) jump)) ∧
        W3.heap[w.heap.size + 1]? = some (rec_ .busy none) ∧
        (W3.putObj (w.heap.size + 1) (rec_ (if jump.isNone then .ready else .done) jump)).heap[w.heap.size + 1]? = some (rec_ (if jump.isNone then .ready else .done) jump) ∧
        (W3.putObj (w.heap.size + 1) (rec_ (if jump.isNone then .ready else .done) jump)).heap[w.heap.size]? = some (.deferred (some [])) ∧
        BelowX (fun k => M k ∨ k = w.heap.size + 1) W3 (W3.putObj (w.heap.size + 1) (rec_ (if jump.isNone then .ready else .done) jump)) := by
      intro jump W3 hk3
      have hl3 := hk3.same _ _ hl2 rfl
      obtain ⟨x1, x2, x3⟩ := upd W3 _ _ (rec_ (if jump.isNone then .ready else .done) jump) hl3 (hk3.same _ _ hk2 rfl)
      exact ⟨run_endRound (P := P) jump hl3, hl3, x1, x2, x3⟩
    intro e a3 W3 hp
    cases e with
    | normal =>
      obtain ⟨hk3, hb3, hi3⟩ := hp
      obtain ⟨hr, hl3, hl4, hk4, hb4⟩ := ends none W3 hk3
      exact ⟨_, _, hr, .inl ⟨rfl, ⟨hI.putObj _ hi3 (by omega) hl3 rfl, hl4, hk4⟩, (hw2.trans (hb3.mono (fun _ h => .inl h))).trans hb4⟩⟩
    | ret =>
      obtain ⟨hk3, hi3⟩ := hp
      obtain ⟨hr, hl3, hl4, hk4, hb4⟩ := ends (some .ret) W3 hk3
      exact ⟨_, _, hr, .inr ⟨rfl, .ret, (hIx _).putObj _ hi3 (by omega) hl3 rfl, hl4, hk4⟩⟩
    | exit id =>
      obtain ⟨hk3, hi3⟩ := hp
      obtain ⟨hr, hl3, hl4, hk4, hb4⟩ := ends (some (.exit id)) W3 hk3
      exact ⟨_, _, hr, .inr ⟨rfl, .exit id, (hIx _).putObj _ hi3 (by omega) hl3 rfl, hl4, hk4⟩⟩
    | goto t => exact hp.elim
    | panic ch => exact hp.elim
    | outgrown => exact hp.elim
  · intro e W2 h
    obtain ⟨⟨v, rfl⟩, ⟨hi, hl, hk⟩ | ⟨k, hkN, c, hi, hl, hk⟩⟩ := h
    · exact ⟨none, _, run_endLoop (P := P) hl (fun h => by cases h), hdone _ _ (Nat.le_refl _) (hI.putObj _ hi (by omega) hl rfl) ((World.putObj_heap_other (by omega)).trans hk)⟩
    · exact ⟨some c, _, run_endLoop (P := P) hl (fun h => by cases h), hstop _ c k _ (Nat.le_refl _) hkN ((hIx c).putObj _ hi (by omega) hl rfl) ((World.putObj_heap_other (by omega)).trans hk)⟩
end Go.Proofs.Ytegdcalefpobeaa.A
