/- the document's answers: an address's kind, which prefixes may be told. -/
import Derived.Test.YtokjjppfdmkjeaaEnt1
set_option linter.unusedVariables false
set_option linter.unusedSimpArgs false
namespace Go.Proofs.Ytokjjppfdmkjeaa.A
open Go.RowKit Go.Proofs.YtokjjppfdmkjeaaW.PrintWords Go.Proofs.YtokjjppfdmkjeaaW.PrintLast Go.Proofs.YtokjjppfdmkjeaaW.PrintMore Go.Proofs.Ytokjjppfdmkjeaa.PPulseHolds

theorem parts_any (a : Int) (ha : Adr a) (w : World) : Calls Try.prog 75 #[.int .u32 a] w fun e w' => (∃ p1 p2 p3 : Int, e = .returned (.agg #[.int .i64 (a / 16777216), .int .i64 p1, .int .i64 p2, .int .i64 p3])) ∧ Below w.heap.size w w' := by
  obtain ⟨ha1, ha2⟩ := ha
  go_enter Try.func75, Try.ntmps75
  go_wp2
  have HB2 := Blk.new w 104 #[.int .i64 (a / 16777216), .int .i64 (a / 65536 % 256), .int .i64 (a / 256 % 256), .int .i64 (a % 256)]
  exact bodyPost_ret (results_cell_row rfl _ _ w.heap.size 104 _ _ _ rfl HB2 Try.underlying104 rfl (by kernel_rfl)) rfl
    ⟨⟨_, _, _, rfl⟩, below_alloc (Below.refl _ _) _⟩

set_option maxHeartbeats 2000000 in
theorem refkind_1 (a : Int) (ha : Adr a) (h1 : (a == 0) = true) (w : World) : Calls Try.prog 65 #[.int .u32 a] w fun e w' => e = .returned (.int .i64 1) ∧ Below w.heap.size w w' := by
  have HA := Aside0.mk ha
  obtain ⟨ha1, ha2⟩ := ha
  go_enter Try.func65, Try.ntmps65
  go_wp2_with (go_at_call 75; go_loud ((with_reducible refine (parts_any a HA.out _).mono ?_); rintro e w1 ⟨⟨p1, p2, p3, rfl⟩, hb1⟩))
  go_ret
  exact ⟨rfl, by first | exact below_alloc hb1 _ | (trace_state; fail)⟩

set_option maxHeartbeats 2000000 in
theorem refkind_2 (a : Int) (ha : Adr a) (h1 : (a == 0) = false) (h2 : (a / 16777216 == 0) = true) (w : World) : Calls Try.prog 65 #[.int .u32 a] w fun e w' => e = .returned (.int .i64 2) ∧ Below w.heap.size w w' := by
  have HA := Aside0.mk ha
  obtain ⟨ha1, ha2⟩ := ha
  go_enter Try.func65, Try.ntmps65
  go_wp2_with (go_at_call 75; go_loud ((with_reducible refine (parts_any a HA.out _).mono ?_); rintro e w1 ⟨⟨p1, p2, p3, rfl⟩, hb1⟩))
  go_ret
  exact ⟨rfl, by first | exact below_alloc hb1 _ | (trace_state; fail)⟩

set_option maxHeartbeats 2000000 in
theorem refkind_3 (a : Int) (ha : Adr a) (h1 : (a == 0) = false) (h2 : (a / 16777216 == 0) = false) (h3 : (a / 16777216 == 127) = true) (w : World) : Calls Try.prog 65 #[.int .u32 a] w fun e w' => e = .returned (.int .i64 3) ∧ Below w.heap.size w w' := by
  have HA := Aside0.mk ha
  obtain ⟨ha1, ha2⟩ := ha
  go_enter Try.func65, Try.ntmps65
  go_wp2_with (go_at_call 75; go_loud ((with_reducible refine (parts_any a HA.out _).mono ?_); rintro e w1 ⟨⟨p1, p2, p3, rfl⟩, hb1⟩))
  go_ret
  exact ⟨rfl, by first | exact below_alloc hb1 _ | (trace_state; fail)⟩

set_option maxHeartbeats 2000000 in
theorem refkind_4 (a : Int) (ha : Adr a) (h1 : (a == 0) = false) (h2 : (a / 16777216 == 0) = false) (h3 : (a / 16777216 == 127) = false) (h4 : 224 ≤ a / 16777216) (h4' : a / 16777216 ≤ 239) (w : World) : Calls Try.prog 65 #[.int .u32 a] w fun e w' => e = .returned (.int .i64 4) ∧ Below w.heap.size w w' := by
  have HA := Aside0.mk ha
  obtain ⟨ha1, ha2⟩ := ha
  go_enter Try.func65, Try.ntmps65
  go_wp2_with (go_at_call 75; go_loud ((with_reducible refine (parts_any a HA.out _).mono ?_); rintro e w1 ⟨⟨p1, p2, p3, rfl⟩, hb1⟩))
  go_ret
  exact ⟨rfl, by first | exact below_alloc hb1 _ | (trace_state; fail)⟩

set_option maxHeartbeats 2000000 in
theorem refkind_5 (a : Int) (ha : Adr a) (h1 : (a == 0) = false) (h2 : (a / 16777216 == 0) = false) (h3 : (a / 16777216 == 127) = false) (h4 : 224 ≤ a / 16777216) (h4' : ¬ a / 16777216 ≤ 239) (h5 : 240 ≤ a / 16777216) (w : World) : Calls Try.prog 65 #[.int .u32 a] w fun e w' => e = .returned (.int .i64 5) ∧ Below w.heap.size w w' := by
  have HA := Aside0.mk ha
  obtain ⟨ha1, ha2⟩ := ha
  go_enter Try.func65, Try.ntmps65
  go_wp2_with (go_at_call 75; go_loud ((with_reducible refine (parts_any a HA.out _).mono ?_); rintro e w1 ⟨⟨p1, p2, p3, rfl⟩, hb1⟩))
  go_ret
  exact ⟨rfl, by first | exact below_alloc hb1 _ | (trace_state; fail)⟩

set_option maxHeartbeats 2000000 in
theorem refkind_6 (a : Int) (ha : Adr a) (h1 : (a == 0) = false) (h2 : (a / 16777216 == 0) = false) (h3 : (a / 16777216 == 127) = false) (h4 : ¬ 224 ≤ a / 16777216) (h5 : ¬ 240 ≤ a / 16777216) (w : World) : Calls Try.prog 65 #[.int .u32 a] w fun e w' => e = .returned (.int .i64 6) ∧ Below w.heap.size w w' := by
  have HA := Aside0.mk ha
  obtain ⟨ha1, ha2⟩ := ha
  go_enter Try.func65, Try.ntmps65
  go_wp2_with (go_at_call 75; go_loud ((with_reducible refine (parts_any a HA.out _).mono ?_); rintro e w1 ⟨⟨p1, p2, p3, rfl⟩, hb1⟩))
  go_ret
  exact ⟨rfl, by first | exact below_alloc hb1 _ | (trace_state; fail)⟩

theorem refkind_any (a : Int) (ha : Adr a) (w : World) : Calls Try.prog 65 #[.int .u32 a] w fun e w' => e = .returned (.int .i64 (kindN a)) ∧ Below w.heap.size w w' := by
  unfold kindN
  by_cases h1 : a = 0
  · rw [if_pos h1]
    exact refkind_1 a ha (beq_iff_eq.2 h1) w
  rw [if_neg h1]
  by_cases h2 : a / 16777216 = 0
  · rw [if_pos h2]
    exact refkind_2 a ha (beq_eq_false_iff_ne.2 h1) (beq_iff_eq.2 h2) w
  rw [if_neg h2]
  by_cases h3 : a / 16777216 = 127
  · rw [if_pos h3]
    exact refkind_3 a ha (beq_eq_false_iff_ne.2 h1) (beq_eq_false_iff_ne.2 h2) (beq_iff_eq.2 h3) w
  rw [if_neg h3]
  by_cases h4 : 224 ≤ a / 16777216 ∧ a / 16777216 ≤ 239
  · rw [if_pos h4]
    exact refkind_4 a ha (beq_eq_false_iff_ne.2 h1) (beq_eq_false_iff_ne.2 h2) (beq_eq_false_iff_ne.2 h3) h4.1 h4.2 w
  rw [if_neg h4]
  by_cases h5 : 240 ≤ a / 16777216
  · rw [if_pos h5]
    exact refkind_5 a ha (beq_eq_false_iff_ne.2 h1) (beq_eq_false_iff_ne.2 h2) (beq_eq_false_iff_ne.2 h3) (by omega) (by omega) h5 w
  · rw [if_neg h5]
    exact refkind_6 a ha (beq_eq_false_iff_ne.2 h1) (beq_eq_false_iff_ne.2 h2) (beq_eq_false_iff_ne.2 h3) (by omega) h5 w

theorem refother_1 (a m : Int) (hK : ∀ w, Calls Try.prog 65 #[.int .u32 a] w fun e w' => e = .returned (.int .i64 1) ∧ Below w.heap.size w w') (w : World) : Calls Try.prog 56 #[.int .u32 a, .int .u32 m] w fun e w' => e = .returned (.bool (!(m == 0))) ∧ Below w.heap.size w w' := by
  go_enter Try.func56, Try.ntmps56
  go_wp2_with (go_at_call 65; go_loud ((with_reducible refine (hK _).mono ?_); rintro e w1 ⟨rfl, hb1⟩))
  go_ret
  exact ⟨by first | rfl | (simp [*]; done), hb1⟩

theorem refother_2 (a m : Int) (hK : ∀ w, Calls Try.prog 65 #[.int .u32 a] w fun e w' => e = .returned (.int .i64 2) ∧ Below w.heap.size w w') (w : World) : Calls Try.prog 56 #[.int .u32 a, .int .u32 m] w fun e w' => e = .returned (.bool true) ∧ Below w.heap.size w w' := by
  go_enter Try.func56, Try.ntmps56
  go_wp2_with (go_at_call 65; go_loud ((with_reducible refine (hK _).mono ?_); rintro e w1 ⟨rfl, hb1⟩))
  go_ret
  exact ⟨by first | rfl | (simp [*]; done), hb1⟩

theorem refother_3 (a m : Int) (hK : ∀ w, Calls Try.prog 65 #[.int .u32 a] w fun e w' => e = .returned (.int .i64 3) ∧ Below w.heap.size w w') (w : World) : Calls Try.prog 56 #[.int .u32 a, .int .u32 m] w fun e w' => e = .returned (.bool true) ∧ Below w.heap.size w w' := by
  go_enter Try.func56, Try.ntmps56
  go_wp2_with (go_at_call 65; go_loud ((with_reducible refine (hK _).mono ?_); rintro e w1 ⟨rfl, hb1⟩))
  go_ret
  exact ⟨by first | rfl | (simp [*]; done), hb1⟩

theorem refother_4 (a m : Int) (hK : ∀ w, Calls Try.prog 65 #[.int .u32 a] w fun e w' => e = .returned (.int .i64 4) ∧ Below w.heap.size w w') (w : World) : Calls Try.prog 56 #[.int .u32 a, .int .u32 m] w fun e w' => e = .returned (.bool true) ∧ Below w.heap.size w w' := by
  go_enter Try.func56, Try.ntmps56
  go_wp2_with (go_at_call 65; go_loud ((with_reducible refine (hK _).mono ?_); rintro e w1 ⟨rfl, hb1⟩))
  go_ret
  exact ⟨by first | rfl | (simp [*]; done), hb1⟩

theorem refother_5 (a m : Int) (hK : ∀ w, Calls Try.prog 65 #[.int .u32 a] w fun e w' => e = .returned (.int .i64 5) ∧ Below w.heap.size w w') (w : World) : Calls Try.prog 56 #[.int .u32 a, .int .u32 m] w fun e w' => e = .returned (.bool true) ∧ Below w.heap.size w w' := by
  go_enter Try.func56, Try.ntmps56
  go_wp2_with (go_at_call 65; go_loud ((with_reducible refine (hK _).mono ?_); rintro e w1 ⟨rfl, hb1⟩))
  go_ret
  exact ⟨by first | rfl | (simp [*]; done), hb1⟩

theorem refother_6 (a m : Int) (hK : ∀ w, Calls Try.prog 65 #[.int .u32 a] w fun e w' => e = .returned (.int .i64 6) ∧ Below w.heap.size w w') (w : World) : Calls Try.prog 56 #[.int .u32 a, .int .u32 m] w fun e w' => e = .returned (.bool false) ∧ Below w.heap.size w w' := by
  go_enter Try.func56, Try.ntmps56
  go_wp2_with (go_at_call 65; go_loud ((with_reducible refine (hK _).mono ?_); rintro e w1 ⟨rfl, hb1⟩))
  go_ret
  exact ⟨by first | rfl | (simp [*]; done), hb1⟩

theorem refother_any (a m : Int) (ha : Adr a) (w : World) : Calls Try.prog 56 #[.int .u32 a, .int .u32 m] w fun e w' => e = .returned (.bool (otherN a m)) ∧ Below w.heap.size w w' := by
  have hK := refkind_any a ha
  have hr := kindN_range a
  unfold otherN
  obtain ⟨k, hk⟩ : ∃ k, kindN a = k := ⟨_, rfl⟩
  rw [hk] at hK hr ⊢
  obtain rfl | rfl | rfl | rfl | rfl | rfl : k = 1 ∨ k = 2 ∨ k = 3 ∨ k = 4 ∨ k = 5 ∨ k = 6 := by omega
  · exact refother_1 a m hK w
  · exact refother_2 a m hK w
  · exact refother_3 a m hK w
  · exact refother_4 a m hK w
  · exact refother_5 a m hK w
  · exact refother_6 a m hK w

/-- a prefix that may be told -/
def goodN (a n : Int) : Bool := rightP a n && !otherN a (maskN n)

set_option maxHeartbeats 2000000 in
theorem good_no (a n : Int) (ha : Adr a) (h : rightP a n = false) (w : World) : Calls Try.prog 47 #[.agg #[.int .u32 a, .int .i64 n]] w fun e w' => e = .returned (.bool false) ∧ Below w.heap.size w w' := by
  have HR := Aside0.mk (refright_eq a n ha)
  rw [h] at HR
  go_enter Try.func47, Try.ntmps47
  go_wp2_with fail
  first
  | go_region_with (go_at_call 55; go_loud ((with_reducible refine (waywardenref02_Right.calls 80 a n _ _ HR.out).mono ?_); rintro e w1 ⟨rfl, hb1⟩; have HB1 := Aside0.mk (thenB (below_drew (below_alloc (Below.refl w.heap.size w) (.cells #[.int .u32 a, .int .i64 n] 81))) (by simp) hb1); clear hb1; dsimp only))
  | fail "the region"
  all_goals go_wp2
  all_goals go_ret
  all_goals exact ⟨by first | rfl | (simp [*]; done), HB1.out⟩

set_option maxHeartbeats 2000000 in
theorem good_yes (a n : Int) (ha : Adr a) (h : rightP a n = true) (hn : 0 ≤ n ∧ n ≤ 32) (w : World) : Calls Try.prog 47 #[.agg #[.int .u32 a, .int .i64 n]] w fun e w' => e = .returned (.bool (!otherN a (maskN n))) ∧ Below w.heap.size w w' := by
  have HA := Aside0.mk ha
  have HR := Aside0.mk (refright_eq a n ha)
  have HM := Aside0.mk (refmask_eq n hn)
  rw [h] at HR
  go_enter Try.func47, Try.ntmps47
  go_wp2_with fail
  first
  | go_region_held3 (fun w' => w'.cell? ⟨w.heap.size, 0, none⟩ = some (.int .u32 a) ∧ w'.cell? ⟨w.heap.size, 1, none⟩ = some (.int .i64 n) ∧ Aside0 (Held w w.heap.size 81 #[.int .u32 a, .int .i64 n] w'))
    (first
      | assumption
      | (exact held2 (Held.drew (Held.new w _ _)))
      | (exact held2 (Held.later (Aside0.out (And.right (And.right (by assumption)))) (by assumption)))
      | skip)
    (first
      | (go_at_call 55; go_loud ((with_reducible refine (waywardenref02_Right.calls 80 a n _ _ HR.out).mono ?_); rintro e w1 ⟨rfl, hb1⟩))
      | (go_at_call 57; go_loud ((with_reducible refine (waywardenref02_Mask.calls 40 n _ _ HM.out).mono ?_); rintro e w2 ⟨rfl, hd2⟩; have hb2 := hd2.below; clear hd2))
      | (go_at_call 56; go_loud ((with_reducible refine (refother_any a (maskN n) HA.out _).mono ?_); rintro e w3 ⟨rfl, hb3⟩)))
  | fail "the region"
  all_goals go_wp2
  all_goals go_ret
  all_goals exact ⟨by first | rfl | (simp [*]; done), Held.bel (g := w.heap.size) (t := 81) (cs := #[.int .u32 a, .int .i64 n]) (Aside0.out (And.right (And.right (by assumption))))⟩

theorem rightP_in (a n : Int) (h : rightP a n = true) : 0 ≤ n ∧ n ≤ 32 := by
  have := of_decide_eq_true h
  exact ⟨this.1, this.2.1⟩
theorem good_any (a n : Int) (ha : Adr a) (w : World) : Calls Try.prog 47 #[.agg #[.int .u32 a, .int .i64 n]] w fun e w' => e = .returned (.bool (goodN a n)) ∧ Below w.heap.size w w' := by
  unfold goodN
  cases h : rightP a n with
  | false => exact good_no a n ha h w
  | true => exact good_yes a n ha h (rightP_in a n h) w

end Go.Proofs.Ytokjjppfdmkjeaa.A
