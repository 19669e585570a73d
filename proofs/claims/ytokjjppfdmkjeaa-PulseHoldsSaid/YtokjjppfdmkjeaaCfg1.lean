/- config: to give up, and to be caught. -/
import Derived.Test.YtokjjppfdmkjeaaEnt2
import Derived.Defers
import Derived.Recover
import Derived.Laws.Panics
import Derived.Laws.PanicsMore
import Derived.WalkSmall
set_option linter.unusedVariables false
set_option linter.unusedSimpArgs false
namespace Go.Proofs.Ytokjjppfdmkjeaa.A
open Go.RowKit Go.Proofs.YtokjjppfdmkjeaaW.PrintWords Go.Proofs.YtokjjppfdmkjeaaW.PrintLast Go.Proofs.YtokjjppfdmkjeaaW.PrintMore Go.Proofs.Ytokjjppfdmkjeaa.PPulseHolds

theorem must_ok (e0 : Int) (w : World) : Calls Try.prog 59 #[.bool true, .int .i64 e0] w fun e w' => e = .returned (.tuple #[]) ∧ w = w' := by
  go_enter Try.func59, Try.ntmps59
  go_wp2
  go_end0
  exact ⟨rfl, rfl⟩
def given (e0 : Int) : PanicEntry := { v := .iface 29 (.int .i64 e0), recovered := false }
theorem must_no (e0 : Int) (w : World) : Calls Try.prog 59 #[.bool false, .int .i64 e0] w fun e w' => e = .panicked [given e0] ∧ w = w' := by
  go_enter Try.func59, Try.ntmps59
  go_wp2
  exact ⟨rfl, rfl, rfl⟩
theorem caught_idle (p : Addr) (f : Value) (w : World) :
    CallsD Try.prog 49 #[.pointer (some p), f] .returning w fun e u' w' => e = .returned (.tuple #[]) ∧ u' = .returning ∧ w' = w := by
  refine callsD_of_wpS Try.func49 rfl fun c₀ cs hu => ?_
  apply wpS_seq
  apply wpS_region
  simp [wpOpsS, go_sem, recoverD, hu, Try.ntmps49, Exit.thenS]
  apply wpS_seq
  apply wpS_seq
  apply wpS_region
  simp [wpOpsS, go_sem, Exit.thenS]
  refine wpS_cond (t := true) (by simp [Act.eval, Array.replicate]) ?_
  simp only [if_true]
  refine wpS_of_wp (wp_ret ?_)
  cases c₀
  simp_all [bodyPostS, results, Try.results49, Exit.thenS]
theorem tmps_caught (p f V : Value) : #[p, f] ++ ((Array.replicate 21 undef).setIfInBounds 5 V).setIfInBounds 2 V = #[p, f, undef, undef, V, undef, undef, V, undef, undef, undef, undef, undef, undef, undef, undef, undef, undef, undef, undef, undef, undef, undef] := by
  apply Array.ext'
  simp [List.replicate]
set_option maxRecDepth 20000 in
set_option maxHeartbeats 1000000 in
theorem caught_check (p : Addr) (x e0 : Int) (w : World) (hc : w.cell? p = some (.int .i64 x)) (hz : w.frozen? p = false) :
    CallsD Try.prog 49 #[.pointer (some p), .func (.func 50) #[] #[]] (.panicking [given e0]) w fun e u' w' => e = .returned (.tuple #[]) ∧ u' = .panicking [{ given e0 with recovered := true }] ∧ w' = w.setCell p (.int .i64 e0) := by
  refine callsD_of_wpS Try.func49 rfl fun c₀ cs hu => ?_
  unfold given at hu
  apply wpS_seq
  apply wpS_region
  simp [wpOpsS, go_sem, recoverD, hu, Try.ntmps49, Exit.thenS]
  refine wpS_of_wp (Code.wp_mono (Q := fun e a' w' => e = .normal ∧ a'.defers = [] ∧ w' = w.setCell p (.int .i64 e0)) ?_ ?_)
  · rintro e a' w' ⟨rfl, hd, rfl⟩
    cases c₀
    simp_all [bodyPostS, results, Try.results49, Exit.thenS, given]
  · clear hu
    rw [tmps_caught]
    have hta : ∀ w : World, (Instr.typeAssert (.iface 29 (.int .i64 e0)) 20 29 true).run Try.prog w = .ok (.tuple #[.int .i64 e0, .bool true]) w := fun _ => by kernel_rfl
    go_wp2
    go_end0
    go_wp2
end Go.Proofs.Ytokjjppfdmkjeaa.A
