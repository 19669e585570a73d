/- config: to be caught, a number cleared. -/
import Derived.Test.YtokjjppfdmkjeaaChk1
set_option linter.unusedVariables false
set_option linter.unusedSimpArgs false
namespace Go.Proofs.Ytokjjppfdmkjeaa.A
open Go.RowKit Go.Proofs.YtokjjppfdmkjeaaW.PrintWords Go.Proofs.YtokjjppfdmkjeaaW.PrintLast Go.Proofs.YtokjjppfdmkjeaaW.PrintMore Go.Proofs.Ytokjjppfdmkjeaa.PPulseHolds

set_option maxRecDepth 20000 in
set_option maxHeartbeats 1000000 in
theorem caught_wait (g : Nat) (x y e0 : Int) (w : World) (hc : w.cell? ⟨g + 1, 0, none⟩ = some (.int .i64 x)) (hz : w.frozen? ⟨g + 1, 0, none⟩ = false) (hc2 : w.cell? ⟨g, 0, none⟩ = some (.int .i64 y)) (hz2 : w.frozen? ⟨g, 0, none⟩ = false) :
    CallsD Try.prog 49 #[.pointer (some ⟨g + 1, 0, none⟩), .func (.func 52) #[] #[.pointer (some ⟨g, 0, none⟩)]] (.panicking [given e0]) w fun e u' w' => e = .returned (.tuple #[]) ∧ u' = .panicking [{ given e0 with recovered := true }] ∧ w' = (w.setCell ⟨g, 0, none⟩ (.int .i64 0)).setCell ⟨g + 1, 0, none⟩ (.int .i64 e0) := by
  refine callsD_of_wpS Try.func49 rfl fun c₀ cs hu => ?_
  unfold given at hu
  apply wpS_seq
  apply wpS_region
  simp [wpOpsS, go_sem, recoverD, hu, Try.ntmps49, Exit.thenS]
  refine wpS_of_wp (Code.wp_mono (Q := fun e a' w' => e = .normal ∧ a'.defers = [] ∧ w' = (w.setCell ⟨g, 0, none⟩ (.int .i64 0)).setCell ⟨g + 1, 0, none⟩ (.int .i64 e0)) ?_ ?_)
  · rintro e a' w' ⟨rfl, hd, rfl⟩
    cases c₀
    simp_all [bodyPostS, results, Try.results49, Exit.thenS, given]
  · clear hu
    rw [tmps_caught]
    have hta : ∀ w : World, (Instr.typeAssert (.iface 29 (.int .i64 e0)) 20 29 true).run Try.prog w = .ok (.tuple #[.int .i64 e0, .bool true]) w := fun _ => by kernel_rfl
    go_wp2
    go_end0
    go_wp2

set_option maxRecDepth 20000 in
set_option maxHeartbeats 1000000 in
theorem caught_quiet (g : Nat) (x y e0 : Int) (w : World) (hc : w.cell? ⟨g + 1, 0, none⟩ = some (.int .i64 x)) (hz : w.frozen? ⟨g + 1, 0, none⟩ = false) (hc2 : w.cell? ⟨g, 0, none⟩ = some (.int .i64 y)) (hz2 : w.frozen? ⟨g, 0, none⟩ = false) :
    CallsD Try.prog 49 #[.pointer (some ⟨g + 1, 0, none⟩), .func (.func 63) #[] #[.pointer (some ⟨g, 0, none⟩)]] (.panicking [given e0]) w fun e u' w' => e = .returned (.tuple #[]) ∧ u' = .panicking [{ given e0 with recovered := true }] ∧ w' = (w.setCell ⟨g, 0, none⟩ (.int .i64 0)).setCell ⟨g + 1, 0, none⟩ (.int .i64 e0) := by
  refine callsD_of_wpS Try.func49 rfl fun c₀ cs hu => ?_
  unfold given at hu
  apply wpS_seq
  apply wpS_region
  simp [wpOpsS, go_sem, recoverD, hu, Try.ntmps49, Exit.thenS]
  refine wpS_of_wp (Code.wp_mono (Q := fun e a' w' => e = .normal ∧ a'.defers = [] ∧ w' = (w.setCell ⟨g, 0, none⟩ (.int .i64 0)).setCell ⟨g + 1, 0, none⟩ (.int .i64 e0)) ?_ ?_)
  · rintro e a' w' ⟨rfl, hd, rfl⟩
    cases c₀
    simp_all [bodyPostS, results, Try.results49, Exit.thenS, given]
  · clear hu
    rw [tmps_caught]
    have hta : ∀ w : World, (Instr.typeAssert (.iface 29 (.int .i64 e0)) 20 29 true).run Try.prog w = .ok (.tuple #[.int .i64 e0, .bool true]) w := fun _ => by kernel_rfl
    go_wp2
    go_end0
    go_wp2

end Go.Proofs.Ytokjjppfdmkjeaa.A
