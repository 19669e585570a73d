/- config: Check. -/
import Derived.Test.YtokjjppfdmkjeaaSpn2
set_option linter.unusedVariables false
set_option linter.unusedSimpArgs false
namespace Go.Proofs.Ytokjjppfdmkjeaa.A
open Go.RowKit Go.Proofs.YtokjjppfdmkjeaaW.PrintWords Go.Proofs.YtokjjppfdmkjeaaW.PrintLast Go.Proofs.YtokjjppfdmkjeaaW.PrintMore Go.Proofs.Ytokjjppfdmkjeaa.PPulseHolds

set_option maxHeartbeats 4000000 in
theorem check_any (c0 c1 c2 c3 c4 c5 c6 cap : Int) (A : Option Addr) (l : List Pfx) (cc : Nat) (w : World) (hr : Kd.C k81 w A l.length l) (hc : l.length ≤ cc) (ha : AdrP l) (hm : l.length ≤ 140737488355328) :
    Calls Try.prog 40 #[.agg #[.int .i64 c0, .int .i64 c1, .int .i64 c2, .int .i64 c3, .int .i64 c4, .int .i64 c5, .int .i64 c6, .int .i64 cap, .slice A l.length cc]] w fun e w' => e = .returned (.int .i64 (if rightN c0 c1 c2 c3 c4 c5 c6 cap l then 0 else 2)) ∧ Below w.heap.size w w' := by
  have HR := Aside0.mk hr
  have HA := Aside0.mk ha
  clear hr ha
  cases hn : rightN c0 c1 c2 c3 c4 c5 c6 cap l with
  | true =>
    go_enter_defers Try.func40, Try.ntmps40
    go_wp2_with (go_at_call 51; go_loud ((with_reducible refine (lright_any c0 c1 c2 c3 c4 c5 c6 cap A l cc _ (Kd.C_alloc (Kd.C_alloc HR.out _) _) hc HA.out hm).mono ?_); rintro e w1 ⟨h1, hb1⟩; rw [rightEnd, hn, if_pos rfl] at h1; cases h1; have B1 := (blk1 w 29 #[.int .i64 0] _).later hb1; have z0 := B1.cell 0 _ rfl; have f0 := B1.frozen 0))
    refine leaves_cons (f := 49) (args := #[.pointer (some ⟨w.heap.size + 1, 0, none⟩), .func (.func 50) #[] #[]]) (by simp) (by simp [go_sem]) ?_
    refine (caught_idle _ _ _).mono ?_
    rintro e u' w'' ⟨rfl, rfl, rfl⟩
    have z1 := (B1.set_ 0 (.int .i64 0)).cell 0 _ rfl
    simp [Leaves, settle, results, Try.results40, go_sem, z1]
    exact Below.setCell (thenB (below_two w _ _) (by simp; omega) hb1) (by simp) _
  | false =>
    go_enter_defers Try.func40, Try.ntmps40
    go_wp2_with (go_at_call 51; go_loud ((with_reducible refine (lright_any c0 c1 c2 c3 c4 c5 c6 cap A l cc _ (Kd.C_alloc (Kd.C_alloc HR.out _) _) hc HA.out hm).mono ?_); rintro e w1 ⟨h1, hb1⟩; rw [rightEnd, hn, if_neg Bool.false_ne_true] at h1; cases h1))
    refine leaves_cons (f := 49) (args := #[.pointer (some ⟨w.heap.size + 1, 0, none⟩), .func (.func 50) #[] #[]]) (by simp) (by simp [go_sem]) ?_
    have B1 := (blk1 w 29 #[.int .i64 0] _).later hb1
    refine (caught_check ⟨w.heap.size + 1, 0, none⟩ 0 2 w1 (B1.cell 0 _ rfl) (B1.frozen 0)).mono ?_
    rintro e u' w'' ⟨rfl, rfl, rfl⟩
    have z1 := (B1.set_ 0 (.int .i64 2)).cell 0 _ rfl
    simp [Leaves, settle, results, Try.results40, go_sem, z1]
    exact Below.setCell (thenB (below_two w _ _) (by simp; omega) hb1) (by simp) _
end Go.Proofs.Ytokjjppfdmkjeaa.A
