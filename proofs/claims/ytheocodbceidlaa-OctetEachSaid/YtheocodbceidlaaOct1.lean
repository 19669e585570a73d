/- octet: the widths, clones of bytes. No conditions but that a slice is no longer than memory bears. -/
import Derived.Test.YtheocodbceidlaaBase
import Derived.Test.YtheocodbceidlaaPOctetPutsx1
set_option linter.unusedVariables false
set_option linter.unusedSimpArgs false
namespace Go.Proofs.Ytheocodbceidlaa.A
open Go.RowKit Go.Proofs.YtheocodbceidlaaW.PrintWords Go.Proofs.YtheocodbceidlaaW.PrintLast Go.Proofs.YtheocodbceidlaaW.PrintMore Go.Proofs.Ytheocodbceidlaa.POctetPuts

def wd (x : Int) : Bool := decide (x = 1 ∨ x = 2 ∨ x = 4)

theorem widths_any (w : World) : Calls Try.prog 30 #[] w fun e w' => e = .returned (.agg #[.int .i64 1, .int .i64 2, .int .i64 4]) ∧ Below w.heap.size w w' := by
  go_enter Try.func30, Try.ntmps30
  go_wp2
  exact bodyPost_ret (v := .agg #[.int .i64 1, .int .i64 2, .int .i64 4]) (by simp [results, Try.results30, go_sem]) rfl ⟨rfl, (Below.refl _ _).alloc (Nat.le_refl _) _⟩

theorem contains3 (x : Int) : slices_Contains_int_int.f 5 [1, 2, 4] x = some (wd x) := by
  unfold slices_Contains_int_int.f slices_Index_int_int.f wd
  by_cases h1 : x = 1
  · subst h1; simp [slices_Index_int_int.l0, rd]
  · by_cases h2 : x = 2
    · subst h2; simp [slices_Index_int_int.l0, rd, wrap64]
    · by_cases h4 : x = 4
      · subst h4; simp [slices_Index_int_int.l0, rd, wrap64]
      · simp [slices_Index_int_int.l0, h1, h2, h4, rd, wrap64]

theorem right_any (x : Int) (w : World) : Calls Try.prog 23 #[.int .i64 x] w fun e w' => e = .returned (.bool (wd x)) ∧ Below w.heap.size w w' := by
  go_enter Try.func23, Try.ntmps23
  go_wp2_with (first | (go_at_call 30; (with_reducible refine (widths_any _).mono ?_); rintro e w1 ⟨rfl, hb⟩) | (go_at_call 31; go_loud (refine (slices_Contains_int_int.calls 5 _ 3 [1,2,4] x (wd x) _ (C_new .i64 w1 [1,2,4] 68 (by decide)) (by decide) (contains3 x)).mono ?_); rintro e w2 ⟨rfl, hd⟩))
  go_ret
  refine ⟨rfl, ?_⟩
  exact below_then (below_alloc hb _) (by have := hb.size; simp; omega) hd.below
theorem right_b (x : Int) (b : Bool) (h : wd x = b) (w : World) : Calls Try.prog 23 #[.int .i64 x] w fun e w' => e = .returned (.bool b) ∧ Below w.heap.size w w' := by
  subst h; exact right_any x w

theorem clone_any (A : Option Addr) (l : List Int) (c : Nat) (w : World) (hr : Kd.C (Kd.int .u8) w A l.length l) (hc : l.length ≤ c) (hm : l.length ≤ 140737488355328) :
    Calls Try.prog 25 #[.slice A l.length c] w fun e w' => ∃ v, e = .returned v ∧ Kd.R (Kd.int .u8) 5 w' w.heap.size (fun _ => True) v l ∧ Below w.heap.size w w' := by
  have hq := fun A n c w => eqnil 23 5 Try.underlying23 A n c w
  cases A with
  | none =>
    obtain rfl := nil_of_none hr
    go_enter Try.func25, Try.ntmps25
    go_wp2
    go_ret
    exact ⟨_, rfl, Kd.R_nil _ _ _ _ _, Below.refl _ _⟩
  | some ad =>
    have HR := Aside0.mk hr
    have HM := Aside0.mk hm
    clear hr hm
    go_enter Try.func25, Try.ntmps25
    go_wp2_with (at_builtin; go_loud (refine Kd.R_append_row (w0 := w) (Value.int .u8) (0:Int) (h1 := fun _ => rfl) w.heap.size rfl _ _ 23 5 (.int .u8 0) 1 rfl Try.underlying23 rfl rfl (by decide) _ [] l (some ad) l.length c (fun _ => True) rfl rfl (fun _ _ => trivial) (R_lit0 .u8 5 [] w w.heap.size (Nat.le_refl _) (by decide)) (Kd.C_alloc HR.out _) (below_alloc (Below.refl _ _) _) (by simp) (by simpa using HM.out) ?_); intro v1 w1 hR hB hG hO)
    go_ret
    exact ⟨_, rfl, hR, hB⟩
theorem cloneb_any (A : Option Addr) (l : List Int) (c : Nat) (w : World) (hr : Kd.C (Kd.int .u8) w A l.length l) (hc : l.length ≤ c) (hm : l.length ≤ 140737488355328) :
    Calls Try.prog 28 #[.slice A l.length c] w fun e w' => ∃ v, e = .returned v ∧ Kd.R (Kd.int .u8) 5 w' w.heap.size (fun _ => True) v l ∧ Below w.heap.size w w' := by
  have hq := fun A n c w => eqnil 62 5 Try.underlying62 A n c w
  cases A with
  | none =>
    obtain rfl := nil_of_none hr
    go_enter Try.func28, Try.ntmps28
    go_wp2
    go_ret
    exact ⟨_, rfl, Kd.R_nil _ _ _ _ _, Below.refl _ _⟩
  | some ad =>
    have HR := Aside0.mk hr
    have HM := Aside0.mk hm
    clear hr hm
    go_enter Try.func28, Try.ntmps28
    go_wp2_with (at_builtin; go_loud (refine Kd.R_append_row (w0 := w) (Value.int .u8) (0:Int) (h1 := fun _ => rfl) w.heap.size rfl _ _ 62 5 (.int .u8 0) 1 rfl Try.underlying62 rfl rfl (by decide) _ [] l (some ad) l.length c (fun _ => True) rfl rfl (fun _ _ => trivial) (R_lit0 .u8 5 [] w w.heap.size (Nat.le_refl _) (by decide)) (Kd.C_alloc HR.out _) (below_alloc (Below.refl _ _) _) (by simp) (by simpa using HM.out) ?_); intro v1 w1 hR hB hG hO)
    go_ret
    exact ⟨_, rfl, hR, hB⟩
end Go.Proofs.Ytheocodbceidlaa.A
