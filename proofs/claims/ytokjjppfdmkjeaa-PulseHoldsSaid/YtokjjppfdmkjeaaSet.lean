/- A block of cells that is written whole; how two or three results in cells are told. -/
import Derived.Test.YtokjjppfdmkjeaaBlk
set_option linter.unusedVariables false
set_option linter.unusedSimpArgs false
namespace Go.Proofs.Ytokjjppfdmkjeaa.A
open Go.RowKit

theorem Blk.new' (w : World) (t : TypeId) (cs : Array Value) (g : Nat) (h : w.heap.size = g) : Blk (w.alloc (.cells cs t)) g t cs := by
  subst h
  exact Blk.new w t cs
/-- one block is written, and no other -/
structure OneSet (w : World) (g : Nat) (t : TypeId) (cs : Array Value) (w' : World) : Prop where
  blk : Blk w' g t cs
  far : ∀ b, b ≠ g → w'.heap[b]? = w.heap[b]?
  bel : Below g w w'
theorem OneSet.start {w : World} {g : Nat} {t : TypeId} {cs : Array Value} (h : Blk w g t cs) : OneSet w g t cs w := ⟨h, fun _ _ => rfl, Below.refl _ _⟩
theorem OneSet.set_ {w w1 : World} {g : Nat} {t : TypeId} {cs : Array Value} (h : OneSet w g t cs w1) (i : Nat) (u : Value) : OneSet w g t (cs.setIfInBounds i u) (w1.setCell ⟨g, i, none⟩ u) :=
  ⟨h.blk.set_ i u, fun b hb => (Below.heap_setCell w1 _ u b hb).trans (h.far b hb), h.bel.setCell (p := ⟨g, i, none⟩) (Nat.le_refl _) u⟩
theorem OneSet.other {w w1 : World} {g g2 : Nat} {t t2 : TypeId} {cs cs2 : Array Value} (h : OneSet w g t cs w1) (h2 : Blk w g2 t2 cs2) (hne : g2 ≠ g) : Blk w1 g2 t2 cs2 := (h.far g2 hne).trans h2
def sets (w : World) (g : Nat) : Nat → List Value → World
  | _, [] => w
  | i, u :: us => sets (w.setCell ⟨g, i, none⟩ u) g (i + 1) us
theorem sets_one {w : World} {g : Nat} {t : TypeId} : ∀ (us rest pre : List Value) (w1 : World), OneSet w g t (pre ++ rest).toArray w1 → rest.length = us.length → OneSet w g t (pre ++ us).toArray (sets w1 g pre.length us) := by
  intro us
  induction us with
  | nil =>
    intro rest pre w1 h hl
    obtain rfl : rest = [] := List.eq_nil_of_length_eq_zero hl
    exact h
  | cons u us ih =>
    intro rest pre w1 h hl
    match rest, hl with
    | r :: rest, hl =>
      have h1 := h.set_ pre.length u
      have e : (pre ++ r :: rest).toArray.setIfInBounds pre.length u = ((pre ++ [u]) ++ rest).toArray := by
        apply Array.ext'
        simp [List.set_append]
      rw [e] at h1
      have h2 := ih rest (pre ++ [u]) _ h1 (by simpa using hl)
      rw [List.length_append, List.append_assoc] at h2
      exact h2
/-- a block is written whole -/
theorem OneSet.whole {w : World} {g : Nat} {t : TypeId} {cs : Array Value} (h : Blk w g t cs) (us : List Value) (hs : cs.size = us.length) : OneSet w g t us.toArray (sets w g 0 us) :=
  sets_one us cs.toList [] w (by simpa using OneSet.start h) (by simpa using hs)
/-- the cell of a result: a struct's -/
theorem load_blk {P : Program} {w : World} {g : Nat} {t ty : TypeId} {cs : Array Value} {d : TypeDesc} (hg : Blk w g t cs) (hu : P.underlying ty = some d) (hd : (match d with | .struct _ | .array _ _ => true | _ => false) = true) (hi : (P.info? ty).map (·.size) = some cs.size) :
    (loadVar ty ⟨g, 0, none⟩).run P w = .ok (.agg cs) w := run_loadVar_row w g t ty cs (0, 0) d hg hu hd hi
theorem results_2c {P : Program} {fn : Func} {p q : Tmp} {tp tq : TypeId} (h : fn.results = #[.cell p tp, .cell q tq]) (tmps : Array Value) (w : World) (ap aq : Addr) (u v : Value)
    (hp : tmps.getD p undef = .pointer (some ap)) (hu : (loadVar tp ap).run P w = .ok u w) (hq : tmps.getD q undef = .pointer (some aq)) (hv : (loadVar tq aq).run P w = .ok v w) : (results fn tmps).run P w = .ok (.tuple #[u, v]) w := by
  have hp' : tmps[p]?.getD undef = .pointer (some ap) := by simpa [Array.getD_eq_getD_getElem?] using hp
  have hq' : tmps[q]?.getD undef = .pointer (some aq) := by simpa [Array.getD_eq_getD_getElem?] using hq
  simp only [results, h]
  simp [Sem.run_bind, Result.andThen, hp', hq', asAddr, hu, hv]
theorem results_3c {P : Program} {fn : Func} {p q r : Tmp} {tp tq tr : TypeId} (h : fn.results = #[.cell p tp, .cell q tq, .cell r tr]) (tmps : Array Value) (w : World) (ap aq ar : Addr) (u v x : Value)
    (hp : tmps.getD p undef = .pointer (some ap)) (hu : (loadVar tp ap).run P w = .ok u w) (hq : tmps.getD q undef = .pointer (some aq)) (hv : (loadVar tq aq).run P w = .ok v w)
    (hr : tmps.getD r undef = .pointer (some ar)) (hx : (loadVar tr ar).run P w = .ok x w) : (results fn tmps).run P w = .ok (.tuple #[u, v, x]) w := by
  have hp' : tmps[p]?.getD undef = .pointer (some ap) := by simpa [Array.getD_eq_getD_getElem?] using hp
  have hq' : tmps[q]?.getD undef = .pointer (some aq) := by simpa [Array.getD_eq_getD_getElem?] using hq
  have hr' : tmps[r]?.getD undef = .pointer (some ar) := by simpa [Array.getD_eq_getD_getElem?] using hr
  simp only [results, h]
  simp [Sem.run_bind, Result.andThen, hp', hq', hr', asAddr, hu, hv, hx]
theorem results_ct {P : Program} {fn : Func} {p u : Tmp} {tp : TypeId} (h : fn.results = #[.cell p tp, .tmp u]) (tmps : Array Value) (w : World) (ap : Addr) (x : Value)
    (hp : tmps.getD p undef = .pointer (some ap)) (hx : (loadVar tp ap).run P w = .ok x w) : (results fn tmps).run P w = .ok (.tuple #[x, tmps.getD u undef]) w := by
  rw [results_cell_tmp h, hp]
  simp [asAddr, Result.andThen, hx]
theorem results_c {P : Program} {fn : Func} {p : Tmp} {tp : TypeId} (h : fn.results = #[.cell p tp]) (tmps : Array Value) (w : World) (ap : Addr) (x : Value)
    (hp : tmps.getD p undef = .pointer (some ap)) (hx : (loadVar tp ap).run P w = .ok x w) : (results fn tmps).run P w = .ok x w := by
  have hp' : tmps[p]?.getD undef = .pointer (some ap) := by simpa [Array.getD_eq_getD_getElem?] using hp
  simp only [results, h]
  simp [Sem.run_bind, Result.andThen, hp', asAddr, hx]
end Go.Proofs.Ytokjjppfdmkjeaa.A
