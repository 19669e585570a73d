/- octet: the number at a place. -/
import Derived.Test.YtheocodbceidlaaOct1
set_option linter.unusedVariables false
set_option linter.unusedSimpArgs false
namespace Go.Proofs.Ytheocodbceidlaa.A
open Go.RowKit Go.Proofs.YtheocodbceidlaaW.PrintWords Go.Proofs.YtheocodbceidlaaW.PrintLast Go.Proofs.YtheocodbceidlaaW.PrintMore Go.Proofs.Ytheocodbceidlaa.POctetPuts

theorem num_arg (A : Option Addr) (l : List Int) (c : Nat) (at_ x : Int) (w : World) (h : wd x = false) :
    Calls Try.prog 27 #[.slice A l.length c, .int .i64 at_, .int .i64 x] w fun e w' => e = .returned (.tuple #[.int .u32 0, .int .i64 2]) ∧ Below w.heap.size w w' := by
  go_enter Try.func27, Try.ntmps27
  go_wp2
  refine wp_scope_jumps 0 (fun a' w' => Below w.heap.size w w' ∧ ∃ u8 u9 u10 u11 u12 u13 u14 u15 u16 u17 u18 u19 u20 u21 u22 u23 u24 u25 u26 u27 u28 u29 u30 u31 u32 u33 u34 u35 : Value, a' = { tmps := #[.slice A l.length c, .int .i64 at_, .int .i64 x, undef, undef, undef, .int .u32 0, .int .i64 2, u8, u9, u10, u11, u12, u13, u14, u15, u16, u17, u18, u19, u20, u21, u22, u23, u24, u25, u26, u27, u28, u29, u30, u31, u32, u33, u34, u35], defers := [] }) (fun _ _ => 0) rfl ?_ ?_
  · go_wp2_with (go_at_call 23; (with_reducible refine (right_b _ _ h _).mono ?_); rintro e w1 ⟨rfl, hb⟩)
    go_step3
    exact ⟨rfl, hb, _, _, _, _, _, _, _, _, _, _, _, _, _, _, _, _, _, _, _, _, _, _, _, _, _, _, _, _, rfl⟩
  · rintro a' w' ⟨hb, u8, u9, u10, u11, u12, u13, u14, u15, u16, u17, u18, u19, u20, u21, u22, u23, u24, u25, u26, u27, u28, u29, u30, u31, u32, u33, u34, u35, rfl⟩
    go_wp2
    simp only [Exit.jump]
    go_ret2
    exact ⟨rfl, hb⟩

theorem num_neg (A : Option Addr) (l : List Int) (c : Nat) (at_ x : Int) (w : World) (h : wd x = true) (ha : decide (at_ < 0) = true) :
    Calls Try.prog 27 #[.slice A l.length c, .int .i64 at_, .int .i64 x] w fun e w' => e = .returned (.tuple #[.int .u32 0, .int .i64 4]) ∧ Below w.heap.size w w' := by
  go_enter Try.func27, Try.ntmps27
  go_wp2
  refine wp_scope_jumps 0 (fun a' w' => Below w.heap.size w w' ∧ ∃ u8 u9 u10 u11 u12 u13 u14 u15 u16 u17 u18 u19 u20 u21 u22 u23 u24 u25 u26 u27 u28 u29 u30 u31 u32 u33 u34 u35 : Value, a' = { tmps := #[.slice A l.length c, .int .i64 at_, .int .i64 x, undef, undef, undef, .int .u32 0, .int .i64 4, u8, u9, u10, u11, u12, u13, u14, u15, u16, u17, u18, u19, u20, u21, u22, u23, u24, u25, u26, u27, u28, u29, u30, u31, u32, u33, u34, u35], defers := [] }) (fun _ _ => 0) rfl ?_ ?_
  · go_wp2_with (go_at_call 23; (with_reducible refine (right_b _ _ h _).mono ?_); rintro e w1 ⟨rfl, hb⟩)
    go_step3
    exact ⟨rfl, hb, _, _, _, _, _, _, _, _, _, _, _, _, _, _, _, _, _, _, _, _, _, _, _, _, _, _, _, _, rfl⟩
  · rintro a' w' ⟨hb, u8, u9, u10, u11, u12, u13, u14, u15, u16, u17, u18, u19, u20, u21, u22, u23, u24, u25, u26, u27, u28, u29, u30, u31, u32, u33, u34, u35, rfl⟩
    go_wp2
    simp only [Exit.jump]
    go_ret2
    exact ⟨rfl, hb⟩

theorem num_far (A : Option Addr) (l : List Int) (c : Nat) (at_ x : Int) (w : World) (h : wd x = true) (ha : 0 ≤ at_) (hf : decide ((l.length : Int) < at_) = true) :
    Calls Try.prog 27 #[.slice A l.length c, .int .i64 at_, .int .i64 x] w fun e w' => e = .returned (.tuple #[.int .u32 0, .int .i64 130]) ∧ Below w.heap.size w w' := by
  go_enter Try.func27, Try.ntmps27
  go_wp2
  refine wp_scope_jumps 0 (fun a' w' => Below w.heap.size w w' ∧ ∃ u8 u9 u10 u11 u12 u13 u14 u15 u16 u17 u18 u19 u20 u21 u22 u23 u24 u25 u26 u27 u28 u29 u30 u31 u32 u33 u34 u35 : Value, a' = { tmps := #[.slice A l.length c, .int .i64 at_, .int .i64 x, undef, undef, undef, .int .u32 0, .int .i64 130, u8, u9, u10, u11, u12, u13, u14, u15, u16, u17, u18, u19, u20, u21, u22, u23, u24, u25, u26, u27, u28, u29, u30, u31, u32, u33, u34, u35], defers := [] }) (fun _ _ => 0) rfl ?_ ?_
  · go_wp2_with (go_at_call 23; (with_reducible refine (right_b _ _ h _).mono ?_); rintro e w1 ⟨rfl, hb⟩)
    go_step3
    exact ⟨rfl, hb, _, _, _, _, _, _, _, _, _, _, _, _, _, _, _, _, _, _, _, _, _, _, _, _, _, _, _, _, rfl⟩
  · rintro a' w' ⟨hb, u8, u9, u10, u11, u12, u13, u14, u15, u16, u17, u18, u19, u20, u21, u22, u23, u24, u25, u26, u27, u28, u29, u30, u31, u32, u33, u34, u35, rfl⟩
    go_wp2
    simp only [Exit.jump]
    go_ret2
    exact ⟨rfl, hb⟩

theorem num_end (A : Option Addr) (l : List Int) (c : Nat) (at_ x : Int) (w : World) (h : wd x = true) (ha : 0 ≤ at_) (hf : at_ ≤ l.length) (he : decide ((l.length : Int) - at_ < x) = true) (hm : l.length ≤ 140737488355328) :
    Calls Try.prog 27 #[.slice A l.length c, .int .i64 at_, .int .i64 x] w fun e w' => e = .returned (.tuple #[.int .u32 0, .int .i64 130]) ∧ Below w.heap.size w w' := by
  go_enter Try.func27, Try.ntmps27
  go_wp2
  refine wp_scope_jumps 0 (fun a' w' => Below w.heap.size w w' ∧ ∃ u8 u9 u10 u11 u12 u13 u14 u15 u16 u17 u18 u19 u20 u21 u22 u23 u24 u25 u26 u27 u28 u29 u30 u31 u32 u33 u34 u35 : Value, a' = { tmps := #[.slice A l.length c, .int .i64 at_, .int .i64 x, undef, undef, undef, .int .u32 0, .int .i64 130, u8, u9, u10, u11, u12, u13, u14, u15, u16, u17, u18, u19, u20, u21, u22, u23, u24, u25, u26, u27, u28, u29, u30, u31, u32, u33, u34, u35], defers := [] }) (fun _ _ => 0) rfl ?_ ?_
  · go_wp2_with (go_at_call 23; (with_reducible refine (right_b _ _ h _).mono ?_); rintro e w1 ⟨rfl, hb⟩)
    go_step3
    exact ⟨rfl, hb, _, _, _, _, _, _, _, _, _, _, _, _, _, _, _, _, _, _, _, _, _, _, _, _, _, _, _, _, rfl⟩
  · rintro a' w' ⟨hb, u8, u9, u10, u11, u12, u13, u14, u15, u16, u17, u18, u19, u20, u21, u22, u23, u24, u25, u26, u27, u28, u29, u30, u31, u32, u33, u34, u35, rfl⟩
    go_wp2
    simp only [Exit.jump]
    go_ret2
    exact ⟨rfl, hb⟩

theorem folded_at (A : Option Addr) (m : List Int) (x c : Nat) (hx : m.length = x) (hxc : x ≤ c) (w : World) (hr : Kd.C (Kd.int .u8) w A m.length m) (k : Nat) (v : Int) (hv : octet_folded_byte.f k m = some v) :
    Calls Try.prog 24 #[.slice A x c] w fun e w' => e = .returned (.int .u32 v) ∧ Drawn0 w w' := by
  subst hx
  exact octet_folded_byte.calls k A c m v w hr hxc hv
theorem C_win (A : Option Addr) (l : List Int) (c lo x : Nat) (hx : ¬ x = 0) (he : lo + x ≤ l.length) (w : World) (hc : l.length ≤ c) (hr : Kd.C (Kd.int .u8) w A l.length l) :
    Kd.C (Kd.int .u8) w (A.map (fun p => p.add lo)) ((l.take (lo + x)).drop lo).length ((l.take (lo + x)).drop lo) := by
  have h := Kd.C_mid (c := c) (lo := lo) (hi := lo + x) hr (by omega) he hc
  rw [if_neg (by omega)] at h
  simpa [show (Kd.int .u8).sz = 1 from rfl] using h
theorem win_len (l : List Int) (lo x : Nat) (he : lo + x ≤ l.length) : ((l.take (lo + x)).drop lo).length = x := by
  rw [List.length_drop, List.length_take]; omega

theorem num_ok (A : Option Addr) (l : List Int) (c at_ x : Nat) (w : World) (h : wd x = true) (hx0 : ¬ x = 0) (hx : x ≤ 4) (he : at_ + x ≤ l.length) (hm : l.length ≤ 140737488355328) (hc : l.length ≤ c) (hr : Kd.C (Kd.int .u8) w A l.length l) (k : Nat) (v : Int) (hv : octet_folded_byte.f k ((l.take (at_ + x)).drop at_) = some v) :
    Calls Try.prog 27 #[.slice A l.length c, .int .i64 at_, .int .i64 x] w fun e w' => e = .returned (.tuple #[.int .u32 v, .int .i64 0]) ∧ Below w.heap.size w w' := by
  have HR := Aside0.mk hr
  have HV := Aside0.mk hv
  have HX := Aside0.mk hx0
  clear hr hv
  go_enter Try.func27, Try.ntmps27
  go_wp2
  refine wp_scope_jumps 0 (fun _ _ => False) (fun _ _ => 0) rfl ?_ (fun _ _ h => h.elim)
  go_wp2_with (first | (go_at_call 23; (with_reducible refine (right_b _ _ h _).mono ?_); rintro e w1 ⟨rfl, hb⟩) | (go_at_call 24; go_loud (refine (folded_at _ _ x _ (win_len l at_ x he) (Nat.le_refl _) _ (C_win A l c at_ x HX.out he _ hc (Kd.C_below HR.out hb)) k v HV.out).mono ?_); rintro e w2 ⟨rfl, hd⟩))
  simp only [Exit.jump]
  go_ret2
  exact ⟨rfl, below_then hb hb.size hd.below⟩
end Go.Proofs.Ytheocodbceidlaa.A
