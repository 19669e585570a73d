import Derived.Test.YtegdcalefpobeaaBlk
import Derived.RangeFuncNested
import Derived.RangeFuncFrom
import Derived.RangeFuncBound
import Derived.RangeFuncCalls
import Derived.RangeFuncLeaves
import Derived.Shelf.Abstract
import Derived.Shelf.RegionOpen
import Derived.OwnWalkIn
import Derived.TacticsInMore
import Derived.LoopNIn
import Derived.LoopIn
import Derived.Test.YtegdcalefpobeaaSpn1
import Derived.Laws.RangeAny
import Derived.Sort.CutIn
import Derived.Stop.RegionWithIn
import Derived.Defers
/- A range over a function: the iterator may keep blocks of its own over a round: a round changes blocks of M alone. -/
set_option linter.unusedVariables false
set_option linter.unusedSimpArgs false
namespace Go.Proofs.Ytegdcalefpobeaa.A
open Go.RowKit Go.Shelf Go.Proofs.YtegdcalefpobeaaW.PrintWords Go.Proofs.YtegdcalefpobeaaW.PrintLast Go.Proofs.YtegdcalefpobeaaW.PrintMore

/-- all but the blocks of M is as it was -/
structure BelowX (M : Nat → Prop) (w w' : World) : Prop where
  os : w'.os = w.os
  tape : w'.tape = w.tape
  output : w'.output = w.output
  size : w.heap.size ≤ w'.heap.size
  block : ∀ k, k < w.heap.size → ¬ M k → w'.heap[k]? = w.heap[k]?
theorem BelowX.refl (M : Nat → Prop) (w : World) : BelowX M w w := ⟨rfl, rfl, rfl, Nat.le_refl _, fun _ _ _ => rfl⟩
theorem BelowX.trans {M : Nat → Prop} {a b c : World} (h : BelowX M a b) (k : BelowX M b c) : BelowX M a c :=
  ⟨k.os.trans h.os, k.tape.trans h.tape, k.output.trans h.output, Nat.le_trans h.size k.size, fun i hi hm => (k.block i (Nat.lt_of_lt_of_le hi h.size) hm).trans (h.block i hi hm)⟩
theorem BelowX.mono {M M' : Nat → Prop} {a b : World} (h : BelowX M a b) (hm : ∀ k, M k → M' k) : BelowX M' a b := ⟨h.os, h.tape, h.output, h.size, fun k hk hn => h.block k hk (fun x => hn (hm k x))⟩
theorem BelowX.of {M : Nat → Prop} {w w' : World} (h : Below w.heap.size w w') : BelowX M w w' := ⟨h.os, h.tape, h.output, h.size, fun k hk _ => h.block k hk⟩
theorem BelowX.below {M : Nat → Prop} {w w' : World} {n : Nat} (h : BelowX M w w') (hm : ∀ k, M k → n ≤ k) (hn : n ≤ w.heap.size) : Below n w w' :=
  ⟨h.os, h.tape, h.output, h.size, fun k hk => h.block k (by omega) (fun x => by have := hm k x; omega)⟩
theorem BelowX.setCell {M : Nat → Prop} {a w : World} (h : BelowX M a w) {p : Addr} (hp : M p.block) (u : Value) : BelowX M a (w.setCell p u) :=
  h.trans ⟨rfl, rfl, rfl, by simp [World.setCell], fun k hk hm => Below.heap_setCell _ _ _ _ (fun e => hm (e ▸ hp))⟩
theorem Blk.keepX {M : Nat → Prop} {w w' : World} {g : Nat} {t : TypeId} {cs : Array Value} (h : Blk w g t cs) (hx : BelowX M w w') (hg : ¬ M g) : Blk w' g t cs := (hx.block g h.lt hg).trans h
/-- the k-th yield, k < N, is handed 'encs k'; a round that goes on changes blocks of M alone -/
def SeqX (n : Nat) (P : Program) (g : Nat) (lb : Array Value) (encs : Nat → Array Value) (G : Nat → Prop) (N : Nat) (w : World) : Prop :=
  ∀ (M : Nat → Prop) (L : Nat) (J Jx : Nat → World → Prop) (W : World), Below w.heap.size w W → (∀ k, M k → ¬ G k ∧ k < W.heap.size) → AbidesFrom W.heap.size J → AbidesFrom W.heap.size Jx →
    (∀ k W1, k < N → J k W1 → YieldAt Fence.wide (n - 1) P L (encs k) W1 fun e W' =>
      (e = .returned (.bool true) ∧ J (k + 1) W' ∧ BelowX M W1 W') ∨ (e = .returned (.bool false) ∧ Jx (k + 1) W')) →
    J 0 W →
    CallsIn Fence.wide n P g (#[.func (.yield L) #[] #[]] ++ lb) W fun e W' => (∃ v, e = .returned v) ∧ (J N W' ∨ ∃ k, k ≤ N ∧ Jx k W')

/-- how a round's body may be left -/
def roundX (M : Nat → Prop) (I : Nat → World → Prop) (Ix : Code → Nat → World → Prop) (k : Nat) (W : World) : Exit → Act → World → Prop
  | .normal, _, W' => KeepsOthers W W' ∧ BelowX M W W' ∧ I k W'
  | .ret, _, W' => KeepsOthers W W' ∧ Ix .ret k W'
  | .exit id, _, W' => KeepsOthers W W' ∧ Ix (.exit id) k W'
  | _, _, _ => False

theorem rangeX_law {n : Nat} {P : Program} {g : Operand} {ps : Array Tmp} {assign body : Code} {Q : Exit → Act → World → Prop} {a : Act} {w : World}
    {gf : Nat} {lb : Array Value} (hg : a.eval g = .func (.func gf) #[] lb) (eg : ∀ args w, (callFunc gf args).run P w = .ok (.enter gf args) w)
    {encs : Nat → Array Value} {G : Nat → Prop} {N : Nat} {w0 : World} (hseq : SeqX (n - 1) P gf lb encs G N w0) (hb0 : Below w0.heap.size w0 w) (M : Nat → Prop) (hM : ∀ k, M k → ¬ G k ∧ k < w.heap.size) (hG : ∀ k, G k → k < w.heap.size) (hps : ∀ k, (encs k).size = ps.size)
    (I : Nat → World → Prop) (Ix : Code → Nat → World → Prop) (hI : OwnFrom w.heap.size I) (hIx : ∀ c, OwnFrom w.heap.size (Ix c)) (h0 : I 0 w) (a₁ : Nat → Act)
    (hassign : ∀ (L k : Nat) (W : World) (K : Act → World → Prop), K (a₁ k) W →
      assign.wpIn (Fence.wide.inRound L) (n - 1 - 1) P (Exit.then K (fun _ _ _ => False)) { tmps := (ps.zip (encs k)).foldl (fun t (p, v) => t.setIfInBounds p v) a.tmps, defers := [] } W)
    (hbody : ∀ (L k : Nat) (W : World), k < N → I k W → body.wpIn (Fence.wide.inRound L) (n - 1 - 1) P (roundX M I Ix (k + 1) W) (a₁ k) W)
    (hdone : ∀ (D : Nat) (W : World), w.heap.size ≤ D → I N W → W.heap[D]? = some (.deferred (some [])) → Q .normal { a with defers := { target := .collected D, args := #[] } :: a.defers } W)
    (hstop : ∀ (D : Nat) (c : Code) (k : Nat) (W : World), w.heap.size ≤ D → k ≤ N → Ix c k W → W.heap[D]? = some (.deferred (some [])) → c.wpIn Fence.wide n P Q { a with defers := { target := .collected D, args := #[] } :: a.defers } W) :
    (Code.rangeFunc g ps assign body).wpIn Fence.wide n P Q a w := by
  refine wpIn_rangeFunc ?_
  intro fn hfn
  -- the loop's record, by its state and the jump that waits
  let rec_ : LoopState → Option Code → Obj := fun st pe => .loop { state := st, pending := pe, fn, tmps := a.tmps, params := ps, assign, body, defers := w.heap.size }
  have hsz : (w.alloc (.deferred (some []))).heap.size = w.heap.size + 1 := World.size_alloc ..
  obtain ⟨W1, hW1⟩ : ∃ W1, (w.alloc (.deferred (some []))).alloc (rec_ .ready none) = W1 := ⟨_, rfl⟩
  have hL1 : W1.heap[w.heap.size + 1]? = some (rec_ .ready none) := by
    have := World.alloc_heap_new (w.alloc (.deferred (some []))) (rec_ .ready none)
    rw [hsz] at this
    rw [← hW1]; exact this
  have hK1 : W1.heap[w.heap.size]? = some (.deferred (some [])) := by
    rw [← hW1]; exact (Below.heap_alloc _ _ _ (by rw [hsz]; omega)).trans (World.alloc_heap_new w _)
  have hI1 : I 0 W1 := by rw [← hW1]; exact hI.alloc _ (hI.alloc _ h0)
  have hz1 : W1.heap.size = w.heap.size + 2 := by rw [← hW1, World.size_alloc, hsz]
  have hb1 : Below w0.heap.size w0 W1 := by
    refine hb0.trans (Below.mono (B := w.heap.size) ?_ hb0.size)
    rw [← hW1]
    exact ((Below.refl _ w).alloc (Nat.le_refl _) _).alloc (by rw [hsz]; omega) _
  refine ⟨w.heap.size + 1, [{ target := .collected w.heap.size, args := #[] }], W1, { target := .fn (.func gf) lb, args := #[.func (.yield (w.heap.size + 1)) #[] #[]] }, W1, gf,
    #[.func (.yield (w.heap.size + 1)) #[] #[]] ++ lb, W1, ?_, ?_, fun f' _ => trivial, ?_, fun h => (by cases h), ?_⟩
  · rw [← hW1]; exact run_enterLoop_outer _ _ _ _ _
  · simp only [resolve, hg]
    simp [go_sem]
  · simp [invoke, go_sem, eg]
  -- the two blocks of book-keeping, and what a turn of the record leaves
  have upd : ∀ (W : World) (st : LoopState) (pe : Option Code) (o : Obj), W.heap[w.heap.size + 1]? = some (rec_ st pe) → W.heap[w.heap.size]? = some (.deferred (some [])) →
      (W.putObj (w.heap.size + 1) o).heap[w.heap.size + 1]? = some o ∧ (W.putObj (w.heap.size + 1) o).heap[w.heap.size]? = some (.deferred (some [])) ∧ BelowX (fun k => M k ∨ k = w.heap.size + 1) W (W.putObj (w.heap.size + 1) o) := by
    intro W st pe o hl hk
    have hbk := belowK_b (w := w) (Nat.le_refl _) W (w.heap.size + 1) _ o (by omega) hl rfl rfl
    exact ⟨World.putObj_heap_same (Array.getElem?_eq_some_iff.1 hl).1, (World.putObj_heap_other (by omega)).trans hk, hbk.os, hbk.tape, hbk.output, hbk.size, fun k _ hm => World.putObj_heap_other (fun e => hm (.inr e))⟩
  have turn : ∀ {A : World} {row : Option Nat}, (∀ r, row = some r → W1.heap.size ≤ r ∧ ∃ o : Obj, A.heap[r]? = some o ∧ o.isWalk = true) → (∀ r, row = some r → w.heap.size ≤ r ∧ ∃ o : Obj, A.heap[r]? = some o ∧ o.isCells = false) := by
    intro A row hr r e
    obtain ⟨hB, o, ho, hw⟩ := hr r e
    exact ⟨by omega, o, ho, Obj.not_cells_of_walk hw⟩
  refine (hseq (fun k => M k ∨ k = w.heap.size + 1) (w.heap.size + 1)
    (fun k W => I k W ∧ W.heap[w.heap.size + 1]? = some (rec_ .ready none) ∧ W.heap[w.heap.size]? = some (.deferred (some [])))
    (fun k W => ∃ c, Ix c k W ∧ W.heap[w.heap.size + 1]? = some (rec_ .done (some c)) ∧ W.heap[w.heap.size]? = some (.deferred (some [])))
    W1 hb1 (fun k hk => by rcases hk with h | h; exact ⟨(hM k h).1, by have := (hM k h).2; omega⟩; exact ⟨fun hg => by have := hG k hg; omega, by omega⟩) ?_ ?_ ?_ ⟨hI1, hL1, hK1⟩).mono ?_
  · intro s A B row hs hg' hr
    exact ⟨hI s A B row hs.1 hg' (turn hr), (grownBy_keeps hg' (fun r e => (hr r e).2) hs.2.1 rfl).trans hs.2.1, (grownBy_keeps hg' (fun r e => (hr r e).2) hs.2.2 rfl).trans hs.2.2⟩
  · intro s A B row hs hg' hr
    obtain ⟨c, hc, hl, hk⟩ := hs
    exact ⟨c, hIx c s A B row hc hg' (turn hr), (grownBy_keeps hg' (fun r e => (hr r e).2) hl rfl).trans hl, (grownBy_keeps hg' (fun r e => (hr r e).2) hk rfl).trans hk⟩
  · intro k W hkN ⟨hi, hl, hk⟩
    have hy := run_yield (P := P) (args := encs k) hl (hps k)
    refine ⟨fn, _, assign, body, hy, roundIn_of_wpIn hfn (hassign _ k W _ ⟨_, run_beginRound hl rfl, ?_⟩)⟩
    obtain ⟨hl2, hk2, hw2⟩ := upd W _ _ (rec_ .busy none) hl hk
    refine wpIn_mono (hbody _ k _ hkN (hI.putObj _ hi (by omega) hl rfl)) ?_
    have ends : ∀ (jump : Option Code) (W3 : World), KeepsOthers (W.putObj (w.heap.size + 1) (rec_ .busy none)) W3 →
        (Instr.endRound (w.heap.size + 1) jump).run P W3 = .ok (.bool jump.isNone) (W3.putObj (w.heap.size + 1) (rec_ (if jump.isNone then .ready else .done) jump)) ∧
        W3.heap[w.heap.size + 1]? = some (rec_ .busy none) ∧
        (W3.putObj (w.heap.size + 1) (rec_ (if jump.isNone then .ready else .done) jump)).heap[w.heap.size + 1]? = some (rec_ (if jump.isNone then .ready else .done) jump) ∧
        (W3.putObj (w.heap.size + 1) (rec_ (if jump.isNone then .ready else .done) jump)).heap[w.heap.size]? = some (.deferred (some [])) ∧
        BelowX (fun k => M k ∨ k = w.heap.size + 1) W3 (W3.putObj (w.heap.size + 1) (rec_ (if jump.isNone then .ready else .done) jump)) := by
      intro jump W3 hk3
      have hl3 := hk3.same _ _ hl2 rfl
      obtain ⟨x1, x2, x3⟩ := upd W3 _ _ (rec_ (if jump.isNone then .ready else .done) jump) hl3 (hk3.same _ _ hk2 rfl)
      exact ⟨run_endRound (P := P) jump hl3, hl3, x1, x2, x3⟩
    intro e a3 W3 hp
    cases e with
    | normal =>
      obtain ⟨hk3, hb3, hi3⟩ := hp
      obtain ⟨hr, hl3, hl4, hk4, hb4⟩ := ends none W3 hk3
      exact ⟨_, _, hr, .inl ⟨rfl, ⟨hI.putObj _ hi3 (by omega) hl3 rfl, hl4, hk4⟩, (hw2.trans (hb3.mono (fun _ h => .inl h))).trans hb4⟩⟩
    | ret =>
      obtain ⟨hk3, hi3⟩ := hp
      obtain ⟨hr, hl3, hl4, hk4, hb4⟩ := ends (some .ret) W3 hk3
      exact ⟨_, _, hr, .inr ⟨rfl, .ret, (hIx _).putObj _ hi3 (by omega) hl3 rfl, hl4, hk4⟩⟩
    | exit id =>
      obtain ⟨hk3, hi3⟩ := hp
      obtain ⟨hr, hl3, hl4, hk4, hb4⟩ := ends (some (.exit id)) W3 hk3
      exact ⟨_, _, hr, .inr ⟨rfl, .exit id, (hIx _).putObj _ hi3 (by omega) hl3 rfl, hl4, hk4⟩⟩
    | goto t => exact hp.elim
    | panic ch => exact hp.elim
    | outgrown => exact hp.elim
  · intro e W2 h
    obtain ⟨⟨v, rfl⟩, ⟨hi, hl, hk⟩ | ⟨k, hkN, c, hi, hl, hk⟩⟩ := h
    · exact ⟨none, _, run_endLoop (P := P) hl (fun h => by cases h), hdone _ _ (Nat.le_refl _) (hI.putObj _ hi (by omega) hl rfl) ((World.putObj_heap_other (by omega)).trans hk)⟩
    · exact ⟨some c, _, run_endLoop (P := P) hl (fun h => by cases h), hstop _ c k _ (Nat.le_refl _) hkN ((hIx c).putObj _ hi (by omega) hl rfl) ((World.putObj_heap_other (by omega)).trans hk)⟩
end Go.Proofs.Ytegdcalefpobeaa.A

/- config: which spans count. -/
set_option linter.unusedVariables false
set_option linter.unusedSimpArgs false
namespace Go.Proofs.Ytegdcalefpobeaa.A
open Go.RowKit Go.Proofs.YtegdcalefpobeaaW.PrintWords Go.Proofs.YtegdcalefpobeaaW.PrintLast Go.Proofs.YtegdcalefpobeaaW.PrintMore Go.Proofs.Ytegdcalefpobeaa.PConfigChecks
set_option maxHeartbeats 1000000 in
theorem counts_no (s : ByteArray) (c : Int) (hs : s.size ≤ 1000) (h0 : 0 < s.size) (hc : ((s[0]'h0).toNat : Int) = c) (hq : c = 113 ∨ c = 115) (w : World) : Calls Try.prog 46 #[.string s] w fun e w' => e = .returned (.bool false) ∧ Below w.heap.size w w' := by
  have hnx : ∀ ty, (Instr.next (.pointer (some ⟨w.heap.size, 0, none⟩)) true ty).run Try.prog (w.iter s 0) = .ok (.tuple #[.bool true, .int .i64 0, .int .i32 c]) (w.iter s (0 + 1)) := by
    intro ty
    rw [← hc]
    exact run_next_ascii w s 0 ty h0 (by omega)
  clear hc h0
  rcases hq with rfl | rfl
  all_goals
    go_enter Try.func46, Try.ntmps46
    go_wp2
    refine wp_loop_rounds 1 ?_
    rw [rounds_succ]
    go_wp2
    go_ret
    exact ⟨rfl, below_alloc (Below.refl _ _) _⟩
set_option maxHeartbeats 1000000 in
theorem counts_yes (s : ByteArray) (hs : s.size ≤ 1000) (ha : ∀ i (h : i < s.size), (s[i]'h).toNat < 128) (hq : ∀ h : 0 < s.size, (s[0]'h).toNat ≠ 113 ∧ (s[0]'h).toNat ≠ 115) (w : World) : Calls Try.prog 46 #[.string s] w fun e w' => e = .returned (.bool true) ∧ Below w.heap.size w w' := by
  have HA := Aside0.mk ha
  have HQ := Aside0.mk hq
  clear ha hq
  go_enter Try.func46, Try.ntmps46
  go_wp2
  go_loopw [3] (fun v3 wr => ∃ pos : Nat, wr = w.iter s pos ∧ pos ≤ s.size) (fun _ wr => s.size - wr.iterPos w.heap.size)
  case atStart => exact ⟨0, rfl, Nat.zero_le _⟩
  case round =>
    obtain ⟨pos, rfl, hp⟩ := hrel
    by_cases hlt : pos < s.size
    · have hnx := fun ty => run_next_ascii (P := Try.prog) w s pos ty hlt (HA.out pos hlt)
      by_cases h0 : pos = 0
      · subst h0
        obtain ⟨q1, q2⟩ := HQ.out hlt
        obtain ⟨c, hc⟩ : ∃ c : Int, ((s[0]'hlt).toNat : Int) = c := ⟨_, rfl⟩
        rw [hc] at hnx
        have q3 : (c == 113) = false := by rw [← hc, beq_eq_false_iff_ne]; omega
        have q4 : (c == 115) = false := by rw [← hc, beq_eq_false_iff_ne]; omega
        clear hc q1 q2
        go_wp2
        go_roundw
        case rel => exact ⟨_, rfl, by omega⟩
        case measure => simp; omega
      · have h1 : ((pos : Int) == 0) = false := by rw [beq_eq_false_iff_ne]; omega
        go_wp2
        go_roundw
        case rel => exact ⟨_, rfl, by omega⟩
        case measure => simp; omega
    · have hnx := fun ty => run_next_end (P := Try.prog) w s pos ty hlt
      go_wp2
      go_ret
      exact ⟨rfl, below_alloc (Below.refl _ _) _⟩
end Go.Proofs.Ytegdcalefpobeaa.A

/- config: Spans and its iterator. -/
set_option linter.unusedVariables false
set_option linter.unusedSimpArgs false
namespace Go.Proofs.Ytegdcalefpobeaa.A
open Go.RowKit Go.Shelf Go.Proofs.YtegdcalefpobeaaW.PrintWords Go.Proofs.YtegdcalefpobeaaW.PrintLast Go.Proofs.YtegdcalefpobeaaW.PrintMore Go.Proofs.Ytegdcalefpobeaa.PConfigChecks
attribute [local go_sem] Oper.semAt_some

theorem spansf_any (c0 c1 c2 c3 c4 c5 c6 cap : Int) (A : Option Addr) (nn cc : Nat) (w : World) : Calls Try.prog 26 #[.agg #[.int .i64 c0, .int .i64 c1, .int .i64 c2, .int .i64 c3, .int .i64 c4, .int .i64 c5, .int .i64 c6, .int .i64 cap, .slice A nn cc]] w fun e w' => e = .returned (.func (.func 47) #[] #[.pointer (some ⟨w.heap.size, 0, none⟩)]) ∧ w' = w.alloc (.cells #[.int .i64 c0, .int .i64 c1, .int .i64 c2, .int .i64 c3, .int .i64 c4, .int .i64 c5, .int .i64 c6, .int .i64 cap, .slice A nn cc] 24) := by
  go_enter Try.func26, Try.ntmps26
  go_wp2
  go_ret
  exact ⟨rfl, rfl⟩
/-- how a round ends -/
def YEnd (M : Nat → Prop) (J Jx : Nat → World → Prop) (x : Nat) (W1 : World) (b : Bool) (W' : World) : Prop := (b = true ∧ J (x + 1) W' ∧ BelowX M W1 W') ∨ (b = false ∧ Jx (x + 1) W')
theorem yieldAt_end {P : Program} {n L : Nat} {args : Array Value} {M : Nat → Prop} {J Jx : Nat → World → Prop} {x : Nat} {W1 : World} (h : YieldAt Fence.wide n P L args W1 fun e W' => (e = .returned (.bool true) ∧ J (x + 1) W' ∧ BelowX M W1 W') ∨ (e = .returned (.bool false) ∧ Jx (x + 1) W')) :
    ∃ fn tmps assign body, (Instr.yield L args).run P W1 = .ok (.round L fn tmps assign body) W1 ∧ RoundIn Fence.wide n P L fn tmps assign body W1 (fun e W' => ∃ b, e = .returned (.bool b) ∧ YEnd M J Jx x W1 b W') := by
  obtain ⟨fn, tmps, assign, body, hy, hR⟩ := h
  refine ⟨fn, tmps, assign, body, hy, hR.mono ?_⟩
  rintro e W' (⟨rfl, h1, h2⟩ | ⟨rfl, h1⟩)
  · exact ⟨true, rfl, .inl ⟨rfl, h1, h2⟩⟩
  · exact ⟨false, rfl, .inr ⟨rfl, h1⟩⟩
set_option maxHeartbeats 4000000 in
theorem spans1_seq (n g : Nat) (c0 c1 c2 c3 c4 c5 c6 cap : Int) (A : Option Addr) (nn cc : Nat) (hn : 2 ≤ n) (w : World) (hg : Blk w g 24 #[.int .i64 c0, .int .i64 c1, .int .i64 c2, .int .i64 c3, .int .i64 c4, .int .i64 c5, .int .i64 c6, .int .i64 cap, .slice A nn cc]) :
    SeqX n Try.prog 47 #[.pointer (some ⟨g, 0, none⟩)] (fun k => #[.string (spanN k), .int .i64 (spanV c0 c1 c2 c3 c4 c5 c6 k)]) (fun k => k = g) 7 w := by
  intro M L J Jx W hW hM hJ hJx hY h0
  have HG := Aside0.mk (hg.later hW)
  have HM := Aside0.mk hM
  have HJ := Aside0.mk hJ
  have HY := Aside0.mk hY
  have H0 := Aside0.mk h0
  clear hg hW hM hJ hJx hY h0
  have hro : Fence.wide.round = none := rfl
  have h1 : 1 ≤ n := by omega
  refine callsIn_of_wp Try.func47 rfl trivial ?_ rfl
  simp only [Try.ntmps47, List.size_toArray, List.length_cons, List.length_nil, Nat.reduceAdd, Nat.reduceSub, Array.replicate_succ, Array.replicate_zero, List.push_toArray, List.append_toArray, List.nil_append, List.cons_append]
  refine wpIn_wide.2 (wp_scope_straight ((wpIn_wide (n := n)).1 ?_))
  gi_wp2
  refine wpIn_label ?_
  gi_wp2_with (refine ⟨trivial, ?_⟩; gi_at_call 48; go_loud (refine (callsIn_wide.2 (spans_any _)).mono ?_); rintro e1 w1 ⟨rfl, rfl⟩)
  have HJ1 := Aside0.mk (HJ.out _ _ _ none H0.out (grown_of_below (below_alloc (Below.refl _ W) (.cells spanCells 76)) none) (fun r h => by cases h))
  have HG1 := Aside0.mk (HG.out.alloc (.cells spanCells 76))
  have HS1 := Aside0.mk (Blk.new W 76 spanCells)
  gi_loopw [7] (fun v wr => ∃ x : Nat, x ≤ 7 ∧ v = .int .i64 (x : Int) ∧ Aside0 (J x wr) ∧ Aside0 (Blk wr g 24 #[.int .i64 c0, .int .i64 c1, .int .i64 c2, .int .i64 c3, .int .i64 c4, .int .i64 c5, .int .i64 c6, .int .i64 cap, .slice A nn cc]) ∧ Aside0 (Blk wr W.heap.size 76 spanCells)) (fun v _ => 7 - (intOf v).toNat)
  case atStart => exact ⟨0, by omega, rfl, HJ1, HG1, HS1⟩
  case round =>
    have HJ0 := HJ
    obtain ⟨x, hx, rfl, HJ, HG, HS⟩ := hrel
    by_cases hlt : x < 7
    · have p1 : (0 : Int) ≤ (x : Int) := by omega
      have p2 : (x : Int) < 7 := by omega
      obtain ⟨s0, s1, s2⟩ := spanC x hlt
      have hcf := spanF_call x hlt
      have hF := spanF_any c0 c1 c2 c3 c4 c5 c6 cap A nn cc x hlt
      have hYx : ∀ W1, J x W1 → _ := fun W1 h => yieldAt_end (HY.out x W1 hlt h)
      obtain ⟨N, hN⟩ : ∃ N, spanN x = N := ⟨_, rfl⟩
      obtain ⟨F, hFF⟩ : ∃ F, spanF x = F := ⟨_, rfl⟩
      obtain ⟨Ls, hLL⟩ : ∃ L, spanL x = L := ⟨_, rfl⟩
      obtain ⟨V, hV⟩ : ∃ V, spanV c0 c1 c2 c3 c4 c5 c6 x = V := ⟨_, rfl⟩
      rw [hN] at s0
      rw [hFF] at s1 hF hcf
      rw [hLL] at s2
      rw [hV] at hF
      simp only [hN, hV] at hYx
      have z0 := HS.out.cell _ _ s0
      have z1 := HS.out.cell _ _ s1
      have z2 := HS.out.cell _ _ s2
      have HF := Aside0.mk hF
      have HYX := Aside0.mk hYx
      clear hF hYx hN hFF hLL hV s0 s1 s2
      gi_upto_region 3 with (fail)
      have HBS := Aside0.mk (Blk.new wr 76 #[.string N, .func (.func F) #[] #[], .int .i64 Ls])
      have HGA := Aside0.mk (HG.out.alloc (.cells #[.string N, .func (.func F) #[] #[], .int .i64 Ls] 76))
      have d0 := HBS.out.cell 0 _ rfl
      have d1 := HBS.out.cell 1 _ rfl
      have d2 := HBS.out.cell 2 _ rfl
      have e0 := HGA.out.cell 0 _ rfl; have e1 := HGA.out.cell 1 _ rfl; have e2 := HGA.out.cell 2 _ rfl; have e3 := HGA.out.cell 3 _ rfl; have e4 := HGA.out.cell 4 _ rfl; have e5 := HGA.out.cell 5 _ rfl; have e6 := HGA.out.cell 6 _ rfl; have e7 := HGA.out.cell 7 _ rfl; have e8 := HGA.out.cell 8 _ rfl
      have HBD : Aside0 (Blk (wr.alloc (.cells #[.string N, .func (.func F) #[] #[], .int .i64 Ls] 76)).drew wr.heap.size 76 #[.string N, .func (.func F) #[] #[], .int .i64 Ls]) := ⟨HBS.out⟩
      have HWD : Aside0 (Below wr.heap.size wr (wr.alloc (.cells #[.string N, .func (.func F) #[] #[], .int .i64 Ls] 76)).drew) := ⟨below_drew (below_alloc (Below.refl wr.heap.size wr) _)⟩
      clear z0 z1 z2
      gi_region_with (first
        | (refine ⟨trivial, ?_⟩; go_loud ((with_reducible refine (callsIn_wide.2 (HF.out _)).mono ?_); rintro e w4 ⟨rfl, hb4⟩; have f0 := (HBD.out.later hb4).cell 0 _ rfl; have HB4 := Aside0.mk (thenB HWD.out HWD.out.size hb4); obtain ⟨fn, tm, asg, bd, hy, hRR⟩ := HYX.out w4 (HJ0.out _ _ _ none HJ.out (grown_of_below HB4.out none) (fun r h => by cases h)); have HRR := Aside0.mk hRR; clear hRR hb4; dsimp only))
        | (refine HRR.out.mono ?_; rintro e W' ⟨b, rfl, hYE⟩; have HYE := Aside0.mk hYE; clear hYE; dsimp only))
      all_goals
        clear hy HRR HYX HF d0 d1 d2 e0 e1 e2 e3 e4 e5 e6 e7 e8 HBD HWD HBS HGA hcf f0
        cases b with
        | true =>
          have HT : Aside0 (J (x + 1) W' ∧ BelowX M w4 W') := ⟨by rcases HYE.out with ⟨_, h1, h2⟩ | ⟨h, _⟩; exact ⟨h1, h2⟩; cases h⟩
          have HG2 := Aside0.mk ((HG.out.later HB4.out).keepX HT.out.2 (fun h => (HM.out g h).1 rfl))
          have HS2 := Aside0.mk ((HS.out.later HB4.out).keepX HT.out.2 (fun h => by have := (HM.out _ h).2; omega))
          gi_wp2
          go_roundw
          case rel => exact ⟨x + 1, by omega, by simp, ⟨HT.out.1⟩, HG2, HS2⟩
          case measure => simp [intOf]; omega
        | false =>
          have HT : Aside0 (Jx (x + 1) W') := ⟨by rcases HYE.out with ⟨h, _⟩ | ⟨_, h1⟩; cases h; exact h1⟩
          gi_wp2
          simp only [Exit.noGoto]
          go_end0
          exact ⟨⟨_, rfl⟩, .inr ⟨x + 1, hlt, HT.out⟩⟩
    · obtain rfl : x = 7 := by omega
      gi_wp2
      simp only [Exit.noGoto]
      go_end0
      exact ⟨⟨_, rfl⟩, .inl HJ.out⟩
end Go.Proofs.Ytegdcalefpobeaa.A

/- A function that defers a call and ranges over a function once: how it leaves: the range's mark first, then the deferred calls. -/
set_option linter.unusedVariables false
set_option linter.unusedSimpArgs false
namespace Go.Proofs.Ytegdcalefpobeaa.A
open Go.RowKit Go.Shelf

/-- one mark, then what is deferred -/
def MarkLeaves (P : Program) (fn : Func) (tmps : Array Value) (R : Ending → World → Prop) (u : FrameMode) (w : World) : List Deferred → Prop
  | ⟨.collected r, xs⟩ :: ds => u ≠ .run ∧ ∃ w', (Instr.takeDeferred r).run P w = .ok [] w' ∧ Leaves P fn tmps R ds u w'
  | ds => Leaves P fn tmps R ds u w
theorem mark_steps {P : Program} {fn : Func} {tmps : Array Value} {R : Ending → World → Prop} (ds : List Deferred) (u : FrameMode) (w : World) (fr : Frame) (cs : List Frame)
    (hu : fr.mode = u) (hd : fr.defers = ds) (ht : fr.tmps = tmps) (hf : P.funcs[fr.fn]? = some fn) (hk : fr.kind = .normal) (h : MarkLeaves P fn tmps R u w ds) :
    ∃ e w' fr', R e w' ∧ Comes P (lone fr cs w) (lone fr' cs w') e ∧ fr'.fn = fr.fn ∧ fr'.leaving P w' e := by
  unfold MarkLeaves at h
  split at h
  · rename_i r xs ds
    obtain ⟨hrun, w', htake, h⟩ := h
    have h1 := step_collected (cs := cs) (hu ▸ hrun) hd rfl htake
    obtain ⟨e', w'', fr', hR, hs, hfn, hl⟩ := leaves_steps ds u w' { fr with defers := [] ++ ds } cs hu rfl ht hf hk h
    exact ⟨e', w'', fr', hR, Comes.of_steps (.one h1) hs, hfn, hl⟩
  · exact leaves_steps ds u w fr cs hu hd ht hf hk h
def postMark (P : Program) (fn : Func) (R : Ending → World → Prop) : Exit → Act → World → Prop
  | .normal, a, w => MarkLeaves P fn a.tmps R .returning w a.defers
  | .ret, a, w => MarkLeaves P fn a.tmps R .returning w a.defers
  | .panic chain, a, w => MarkLeaves P fn a.tmps R (.panicking chain) w a.defers
  | .outgrown, _, w => R .outgrown w
  | _, _, _ => False
theorem calls_of_mark {P : Program} {f : FuncId} {fn : Func} {c : Code} {args : Array Value} {w : World} {R : Ending → World → Prop} (hf : P.funcs[f]? = some fn) (hb : fn.body = some c)
    (h : c.wp P (postMark P fn R) { tmps := args ++ Array.replicate (fn.ntmps - args.size) undef, defers := [] } w) : Calls P f args w R := by
  intro cs
  obtain ⟨b, hbb⟩ : ∃ b : Frame, b = { (default : Frame) with fn := f, kind := .normal } := ⟨_, rfl⟩
  have henter : Frame.enter P f args .normal = b.at { tmps := args ++ Array.replicate (fn.ntmps - args.size) undef, defers := [] } [.code c] := by
    subst hbb
    simp [Frame.enter, Frame.at, hf, hb]
  have hfn' : ∀ a t, P.funcs[(b.at a t).fn]? = some fn := fun a t => by subst hbb; exact hf
  have hk' : ∀ a t, (b.at a t).kind = .normal := fun a t => by subst hbb; rfl
  have hff : ∀ a t, (b.at a t).fn = f := fun a t => by subst hbb; rfl
  obtain ⟨e, a', w', hq, harr⟩ := h b [] cs
  rw [← henter] at harr
  cases e with
  | normal =>
    obtain ⟨e', w'', fr', hR, hs, hfn, hl⟩ := mark_steps a'.defers .returning w' { b.at a' [] with mode := .returning } cs rfl rfl rfl (hfn' a' []) (hk' a' []) hq
    exact ⟨e', w'', fr', hR, Comes.of_steps (Steps.trans harr (.one step_end)) hs, hfn.trans (hff a' []), hl⟩
  | ret =>
    obtain ⟨todo, hs₀⟩ := harr
    obtain ⟨e', w'', fr', hR, hs, hfn, hl⟩ := mark_steps a'.defers .returning w' { b.at a' todo with mode := .returning } cs rfl rfl rfl (hfn' a' todo) (hk' a' todo) hq
    exact ⟨e', w'', fr', hR, Comes.of_steps hs₀ hs, hfn.trans (hff a' todo), hl⟩
  | panic chain =>
    obtain ⟨todo, hs₀⟩ := harr
    obtain ⟨e', w'', fr', hR, hs, hfn, hl⟩ := mark_steps a'.defers (.panicking chain) w' { b.at a' todo with mode := .panicking chain } cs rfl rfl rfl (hfn' a' todo) (hk' a' todo) hq
    exact ⟨e', w'', fr', hR, Comes.of_steps hs₀ hs, hfn.trans (hff a' todo), hl⟩
  | exit id => exact hq.elim
  | goto l => exact hq.elim
  | outgrown => exact ⟨.outgrown, w', b, hq, harr.resolve_left (by subst hbb; simp), hbb ▸ rfl, trivial⟩
end Go.Proofs.Ytegdcalefpobeaa.A
