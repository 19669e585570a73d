/- entries: which prefixes may be told. -/
import Derived.Test.YtokjjppfdmkjeaaPfx1
import Derived.Test.YtokjjppfdmkjeaaBlk
set_option linter.unusedVariables false
set_option linter.unusedSimpArgs false
namespace Go.Proofs.Ytokjjppfdmkjeaa.A
open Go.RowKit Go.Proofs.YtokjjppfdmkjeaaW.PrintWords Go.Proofs.YtokjjppfdmkjeaaW.PrintLast Go.Proofs.YtokjjppfdmkjeaaW.PrintMore Go.Proofs.Ytokjjppfdmkjeaa.PPulseHolds

theorem Mask_neg (n : Int) (h : n < 0) (w : World) : Calls Try.prog 77 #[.int .i64 n] w fun e w' => e = .returned (.tuple #[.int .u32 0, .int .i64 2]) ∧ Below w.heap.size w w' := by
  go_enter Try.func77, Try.ntmps77
  go_wp2
  refine wp_scope_jumps 0 (fun a' w' => Below w.heap.size w w' ∧ ∃ u4 u5 u6 u7 u8 u9 u10 u11 : Value, a' = { tmps := #[.int .i64 n, undef, .int .u32 0, .int .i64 0, u4, u5, u6, u7, u8, u9, u10, u11], defers := [] }) (fun _ _ => 0) rfl ?_ ?_
  · go_wp2
    go_step3
    exact ⟨rfl, Below.refl _ _, _, _, _, _, _, _, _, _, rfl⟩
  · rintro a' w' ⟨hb, u4, u5, u6, u7, u8, u9, u10, u11, rfl⟩
    go_wp2
    simp only [Exit.jump]
    go_ret2
    exact ⟨rfl, hb⟩

theorem Mask_big (n : Int) (h : 32 < n) (w : World) : Calls Try.prog 77 #[.int .i64 n] w fun e w' => e = .returned (.tuple #[.int .u32 0, .int .i64 2]) ∧ Below w.heap.size w w' := by
  go_enter Try.func77, Try.ntmps77
  go_wp2
  refine wp_scope_jumps 0 (fun a' w' => Below w.heap.size w w' ∧ ∃ u4 u5 u6 u7 u8 u9 u10 u11 : Value, a' = { tmps := #[.int .i64 n, undef, .int .u32 0, .int .i64 0, u4, u5, u6, u7, u8, u9, u10, u11], defers := [] }) (fun _ _ => 0) rfl ?_ ?_
  · go_wp2
    go_step3
    exact ⟨rfl, Below.refl _ _, _, _, _, _, _, _, _, _, rfl⟩
  · rintro a' w' ⟨hb, u4, u5, u6, u7, u8, u9, u10, u11, rfl⟩
    go_wp2
    simp only [Exit.jump]
    go_ret2
    exact ⟨rfl, hb⟩

theorem Mask_in (n : Int) (h : 0 ≤ n ∧ n ≤ 32) (w : World) : Calls Try.prog 77 #[.int .i64 n] w fun e w' => e = .returned (.tuple #[.int .u32 (maskN n), .int .i64 0]) ∧ Below w.heap.size w w' := by
  go_enter Try.func77, Try.ntmps77
  go_wp2
  refine wp_scope_jumps 0 (fun _ _ => False) (fun _ _ => 0) rfl ?_ ?_
  · go_wp2_with (go_at_call 81; go_loud (refine (prefix_mask.calls n _ _ (mask_eq n h)).mono ?_); rintro e w1 ⟨rfl, hd⟩)
    simp only [Exit.jump]
    go_ret2
    exact ⟨rfl, hd.below⟩
  · rintro a' w' h
    exact h.elim

def okM (n : Int) : Bool := decide (0 ≤ n ∧ n ≤ 32)
theorem Mask_any (n : Int) (w : World) : Calls Try.prog 77 #[.int .i64 n] w fun e w' => e = .returned (.tuple #[.int .u32 (if okM n then maskN n else 0), .int .i64 (if okM n then 0 else 2)]) ∧ Below w.heap.size w w' := by
  unfold okM
  by_cases h : 0 ≤ n ∧ n ≤ 32
  · rw [decide_eq_true h]
    exact Mask_in n h w
  · rw [decide_eq_false h]
    by_cases h0 : n < 0
    · exact Mask_neg n h0 w
    · exact Mask_big n (by omega) w
/-- an address that nobody tells of -/
def otherN (a m : Int) : Bool := if kindN a = 6 then false else if kindN a = 1 then !(m == 0) else true

theorem other_any (a m : Int) (ha : Adr a) (w : World) : Calls Try.prog 80 #[.int .u32 a, .int .u32 m] w fun e w' => e = .returned (.bool (otherN a m)) ∧ Below w.heap.size w w' := by
  obtain ⟨k, hk⟩ : ∃ k, kindN a = k := ⟨_, rfl⟩
  have hK := Kind_any a ha
  unfold otherN
  rw [hk] at hK ⊢
  by_cases h6 : k = 6
  · subst h6
    rw [if_pos rfl]
    go_enter Try.func80, Try.ntmps80
    go_wp2_with (go_at_call 83; (with_reducible refine (hK _).mono ?_); rintro e w1 ⟨rfl, hb⟩)
    go_ret
    exact ⟨rfl, hb⟩
  · have e6 : (k == 6) = false := beq_eq_false_iff_ne.2 h6
    rw [if_neg h6]
    by_cases h1 : k = 1
    · subst h1
      rw [if_pos rfl]
      go_enter Try.func80, Try.ntmps80
      go_wp2_with (go_at_call 83; (with_reducible refine (hK _).mono ?_); rintro e w1 ⟨rfl, hb⟩)
      go_ret
      exact ⟨rfl, hb⟩
    · have e1 : (k == 1) = false := beq_eq_false_iff_ne.2 h1
      rw [if_neg h1]
      go_enter Try.func80, Try.ntmps80
      go_wp2_with (go_at_call 83; (with_reducible refine (hK _).mono ?_); rintro e w1 ⟨rfl, hb⟩)
      go_ret
      exact ⟨rfl, hb⟩

/-- a prefix that may be told, with a metric -/
def tellN (a n m : Int) : Bool := rightP a n && !otherN a (maskN n) && decide (1 ≤ m ∧ m ≤ 16)

theorem right_1 (a n m mv : Int) (hM : ∀ w, Calls Try.prog 77 #[.int .i64 n] w fun e w' => e = .returned (.tuple #[.int .u32 mv, .int .i64 2]) ∧ Below w.heap.size w w') (w : World) : Calls Try.prog 76 #[.agg #[.int .u32 a, .int .i64 n], .int .i64 m] w fun e w' => e = .returned (.bool false) ∧ Below w.heap.size w w' := by
  go_enter Try.func76, Try.ntmps76
  go_wp2_with (first
    | (go_at_call 77; (with_reducible refine (hM _).mono ?_); rintro e w1 ⟨rfl, hb1⟩; have HB := (below_alloc (Below.refl w.heap.size w) (.cells #[.int .u32 a, .int .i64 n] 81)).trans (hb1.mono (by simp)); have c0 := cell_later hb1 (show (w.alloc (.cells #[.int .u32 a, .int .i64 n] 81)).cell? ⟨w.heap.size, 0, none⟩ = some (.int .u32 a) by go_simp); have c1 := cell_later hb1 (show (w.alloc (.cells #[.int .u32 a, .int .i64 n] 81)).cell? ⟨w.heap.size, 1, none⟩ = some (.int .i64 n) by go_simp); clear hb1))
  go_ret
  exact ⟨by first | rfl | (simp [*]; done), HB⟩

theorem right_2 (a n m mv : Int) (hM : ∀ w, Calls Try.prog 77 #[.int .i64 n] w fun e w' => e = .returned (.tuple #[.int .u32 mv, .int .i64 0]) ∧ Below w.heap.size w w') (hC : ∀ w, Calls Try.prog 79 #[.agg #[.int .u32 a, .int .i64 n]] w fun e w' => e = .returned (.int .i64 2) ∧ Below w.heap.size w w') (w : World) : Calls Try.prog 76 #[.agg #[.int .u32 a, .int .i64 n], .int .i64 m] w fun e w' => e = .returned (.bool false) ∧ Below w.heap.size w w' := by
  go_enter Try.func76, Try.ntmps76
  go_wp2_with (first
    | (go_at_call 77; (with_reducible refine (hM _).mono ?_); rintro e w1 ⟨rfl, hb1⟩; have HB := (below_alloc (Below.refl w.heap.size w) (.cells #[.int .u32 a, .int .i64 n] 81)).trans (hb1.mono (by simp)); have c0 := cell_later hb1 (show (w.alloc (.cells #[.int .u32 a, .int .i64 n] 81)).cell? ⟨w.heap.size, 0, none⟩ = some (.int .u32 a) by go_simp); have c1 := cell_later hb1 (show (w.alloc (.cells #[.int .u32 a, .int .i64 n] 81)).cell? ⟨w.heap.size, 1, none⟩ = some (.int .i64 n) by go_simp); clear hb1)
    | (go_at_call 79; (with_reducible refine (hC _).mono ?_); rintro e w2 ⟨rfl, hb2⟩; have HB' := HB.trans (hb2.mono HB.size); have c0' := cell_later hb2 c0; have c1' := cell_later hb2 c1; clear HB c0 c1 hb2))
  go_ret
  exact ⟨by first | rfl | (simp [*]; done), HB'⟩

theorem right_3 (a n m mv : Int) (hM : ∀ w, Calls Try.prog 77 #[.int .i64 n] w fun e w' => e = .returned (.tuple #[.int .u32 mv, .int .i64 0]) ∧ Below w.heap.size w w') (hC : ∀ w, Calls Try.prog 79 #[.agg #[.int .u32 a, .int .i64 n]] w fun e w' => e = .returned (.int .i64 0) ∧ Below w.heap.size w w') (hO : ∀ w, Calls Try.prog 80 #[.int .u32 a, .int .u32 mv] w fun e w' => e = .returned (.bool true) ∧ Below w.heap.size w w') (w : World) : Calls Try.prog 76 #[.agg #[.int .u32 a, .int .i64 n], .int .i64 m] w fun e w' => e = .returned (.bool false) ∧ Below w.heap.size w w' := by
  go_enter Try.func76, Try.ntmps76
  go_wp2_with (first
    | (go_at_call 77; (with_reducible refine (hM _).mono ?_); rintro e w1 ⟨rfl, hb1⟩; have HB := (below_alloc (Below.refl w.heap.size w) (.cells #[.int .u32 a, .int .i64 n] 81)).trans (hb1.mono (by simp)); have c0 := cell_later hb1 (show (w.alloc (.cells #[.int .u32 a, .int .i64 n] 81)).cell? ⟨w.heap.size, 0, none⟩ = some (.int .u32 a) by go_simp); have c1 := cell_later hb1 (show (w.alloc (.cells #[.int .u32 a, .int .i64 n] 81)).cell? ⟨w.heap.size, 1, none⟩ = some (.int .i64 n) by go_simp); clear hb1)
    | (go_at_call 79; (with_reducible refine (hC _).mono ?_); rintro e w2 ⟨rfl, hb2⟩; have HB' := HB.trans (hb2.mono HB.size); have c0' := cell_later hb2 c0; have c1' := cell_later hb2 c1; clear HB c0 c1 hb2)
    | (go_at_call 80; (with_reducible refine (hO _).mono ?_); rintro e w3 ⟨rfl, hb3⟩; have HB'' := HB'.trans (hb3.mono HB'.size); clear HB' c0' c1' hb3))
  go_ret
  exact ⟨by first | rfl | (simp [*]; done), HB''⟩

theorem right_4 (a n m mv : Int) (hM : ∀ w, Calls Try.prog 77 #[.int .i64 n] w fun e w' => e = .returned (.tuple #[.int .u32 mv, .int .i64 0]) ∧ Below w.heap.size w w') (hC : ∀ w, Calls Try.prog 79 #[.agg #[.int .u32 a, .int .i64 n]] w fun e w' => e = .returned (.int .i64 0) ∧ Below w.heap.size w w') (hO : ∀ w, Calls Try.prog 80 #[.int .u32 a, .int .u32 mv] w fun e w' => e = .returned (.bool false) ∧ Below w.heap.size w w') (h : m < 1) (w : World) : Calls Try.prog 76 #[.agg #[.int .u32 a, .int .i64 n], .int .i64 m] w fun e w' => e = .returned (.bool false) ∧ Below w.heap.size w w' := by
  go_enter Try.func76, Try.ntmps76
  go_wp2_with (first
    | (go_at_call 77; (with_reducible refine (hM _).mono ?_); rintro e w1 ⟨rfl, hb1⟩; have HB := (below_alloc (Below.refl w.heap.size w) (.cells #[.int .u32 a, .int .i64 n] 81)).trans (hb1.mono (by simp)); have c0 := cell_later hb1 (show (w.alloc (.cells #[.int .u32 a, .int .i64 n] 81)).cell? ⟨w.heap.size, 0, none⟩ = some (.int .u32 a) by go_simp); have c1 := cell_later hb1 (show (w.alloc (.cells #[.int .u32 a, .int .i64 n] 81)).cell? ⟨w.heap.size, 1, none⟩ = some (.int .i64 n) by go_simp); clear hb1)
    | (go_at_call 79; (with_reducible refine (hC _).mono ?_); rintro e w2 ⟨rfl, hb2⟩; have HB' := HB.trans (hb2.mono HB.size); have c0' := cell_later hb2 c0; have c1' := cell_later hb2 c1; clear HB c0 c1 hb2)
    | (go_at_call 80; (with_reducible refine (hO _).mono ?_); rintro e w3 ⟨rfl, hb3⟩; have HB'' := HB'.trans (hb3.mono HB'.size); clear HB' c0' c1' hb3))
  go_ret
  exact ⟨by first | rfl | (simp [*]; done), HB''⟩

theorem right_5 (a n m mv : Int) (hM : ∀ w, Calls Try.prog 77 #[.int .i64 n] w fun e w' => e = .returned (.tuple #[.int .u32 mv, .int .i64 0]) ∧ Below w.heap.size w w') (hC : ∀ w, Calls Try.prog 79 #[.agg #[.int .u32 a, .int .i64 n]] w fun e w' => e = .returned (.int .i64 0) ∧ Below w.heap.size w w') (hO : ∀ w, Calls Try.prog 80 #[.int .u32 a, .int .u32 mv] w fun e w' => e = .returned (.bool false) ∧ Below w.heap.size w w') (h : ¬ m ≤ 16) (w : World) : Calls Try.prog 76 #[.agg #[.int .u32 a, .int .i64 n], .int .i64 m] w fun e w' => e = .returned (.bool false) ∧ Below w.heap.size w w' := by
  go_enter Try.func76, Try.ntmps76
  go_wp2_with (first
    | (go_at_call 77; (with_reducible refine (hM _).mono ?_); rintro e w1 ⟨rfl, hb1⟩; have HB := (below_alloc (Below.refl w.heap.size w) (.cells #[.int .u32 a, .int .i64 n] 81)).trans (hb1.mono (by simp)); have c0 := cell_later hb1 (show (w.alloc (.cells #[.int .u32 a, .int .i64 n] 81)).cell? ⟨w.heap.size, 0, none⟩ = some (.int .u32 a) by go_simp); have c1 := cell_later hb1 (show (w.alloc (.cells #[.int .u32 a, .int .i64 n] 81)).cell? ⟨w.heap.size, 1, none⟩ = some (.int .i64 n) by go_simp); clear hb1)
    | (go_at_call 79; (with_reducible refine (hC _).mono ?_); rintro e w2 ⟨rfl, hb2⟩; have HB' := HB.trans (hb2.mono HB.size); have c0' := cell_later hb2 c0; have c1' := cell_later hb2 c1; clear HB c0 c1 hb2)
    | (go_at_call 80; (with_reducible refine (hO _).mono ?_); rintro e w3 ⟨rfl, hb3⟩; have HB'' := HB'.trans (hb3.mono HB'.size); clear HB' c0' c1' hb3))
  go_ret
  exact ⟨by first | rfl | (simp [*]; done), HB''⟩

theorem right_6 (a n m mv : Int) (hM : ∀ w, Calls Try.prog 77 #[.int .i64 n] w fun e w' => e = .returned (.tuple #[.int .u32 mv, .int .i64 0]) ∧ Below w.heap.size w w') (hC : ∀ w, Calls Try.prog 79 #[.agg #[.int .u32 a, .int .i64 n]] w fun e w' => e = .returned (.int .i64 0) ∧ Below w.heap.size w w') (hO : ∀ w, Calls Try.prog 80 #[.int .u32 a, .int .u32 mv] w fun e w' => e = .returned (.bool false) ∧ Below w.heap.size w w') (h : 1 ≤ m) (h' : m ≤ 16) (w : World) : Calls Try.prog 76 #[.agg #[.int .u32 a, .int .i64 n], .int .i64 m] w fun e w' => e = .returned (.bool true) ∧ Below w.heap.size w w' := by
  go_enter Try.func76, Try.ntmps76
  go_wp2_with (first
    | (go_at_call 77; (with_reducible refine (hM _).mono ?_); rintro e w1 ⟨rfl, hb1⟩; have HB := (below_alloc (Below.refl w.heap.size w) (.cells #[.int .u32 a, .int .i64 n] 81)).trans (hb1.mono (by simp)); have c0 := cell_later hb1 (show (w.alloc (.cells #[.int .u32 a, .int .i64 n] 81)).cell? ⟨w.heap.size, 0, none⟩ = some (.int .u32 a) by go_simp); have c1 := cell_later hb1 (show (w.alloc (.cells #[.int .u32 a, .int .i64 n] 81)).cell? ⟨w.heap.size, 1, none⟩ = some (.int .i64 n) by go_simp); clear hb1)
    | (go_at_call 79; (with_reducible refine (hC _).mono ?_); rintro e w2 ⟨rfl, hb2⟩; have HB' := HB.trans (hb2.mono HB.size); have c0' := cell_later hb2 c0; have c1' := cell_later hb2 c1; clear HB c0 c1 hb2)
    | (go_at_call 80; (with_reducible refine (hO _).mono ?_); rintro e w3 ⟨rfl, hb3⟩; have HB'' := HB'.trans (hb3.mono HB'.size); clear HB' c0' c1' hb3))
  go_ret
  exact ⟨by first | rfl | (simp [*]; done), HB''⟩

theorem right_any (a n m : Int) (ha : Adr a) (w : World) : Calls Try.prog 76 #[.agg #[.int .u32 a, .int .i64 n], .int .i64 m] w fun e w' => e = .returned (.bool (tellN a n m)) ∧ Below w.heap.size w w' := by
  have hC := fun w => prefix_Check.calls a n _ w (check_eq a n ha)
  unfold tellN
  by_cases h0 : n < 0
  · have e : rightP a n = false := decide_eq_false (by omega)
    rw [e]
    exact right_1 a n m 0 (Mask_neg n h0) w
  by_cases h1 : 32 < n
  · have e : rightP a n = false := decide_eq_false (by omega)
    rw [e]
    exact right_1 a n m 0 (Mask_big n h1) w
  have hM := Mask_in n (by omega)
  have hO := fun w => other_any a (maskN n) ha w
  cases hr : rightP a n with
  | false =>
    rw [hr] at hC
    exact right_2 a n m (maskN n) hM hC w
  | true =>
    rw [hr] at hC
    cases ho : otherN a (maskN n) with
    | true =>
      rw [ho] at hO
      exact right_3 a n m (maskN n) hM hC hO w
    | false =>
      rw [ho] at hO
      by_cases h2 : m < 1
      · rw [decide_eq_false (by omega)]
        exact right_4 a n m (maskN n) hM hC hO h2 w
      by_cases h3 : 16 < m
      · rw [decide_eq_false (by omega)]
        exact right_5 a n m (maskN n) hM hC hO (by omega) w
      · rw [decide_eq_true (by omega)]
        exact right_6 a n m (maskN n) hM hC hO (by omega) (by omega) w

set_option maxHeartbeats 2000000 in
theorem Of_no (a n m : Int) (hR : ∀ w, Calls Try.prog 76 #[.agg #[.int .u32 a, .int .i64 n], .int .i64 m] w fun e w' => e = .returned (.bool false) ∧ Below w.heap.size w w') (w : World) : Calls Try.prog 73 #[.agg #[.int .u32 a, .int .i64 n], .int .i64 m] w fun e w' => e = .returned (.tuple #[.agg #[.int .i64 0, .int .i64 0, .int .u32 0, .int .u32 0, .int .u32 0, .int .u32 0], .int .i64 2]) ∧ Below w.heap.size w w' := by
  go_enter Try.func73, Try.ntmps73
  go_wp2_with (first
    | (go_at_call 76; go_loud ((with_reducible refine (hR _).mono ?_); rintro e w1 ⟨rfl, hb1⟩; have HB := thenB (below_two w (.cells #[.int .u32 a, .int .i64 n] 81) (.cells #[.int .i64 0, .int .i64 0, .int .u32 0, .int .u32 0, .int .u32 0, .int .u32 0] 100)) (by simp; omega) hb1; have B0 := (blk0 w 81 #[.int .u32 a, .int .i64 n] (.cells #[.int .i64 0, .int .i64 0, .int .u32 0, .int .u32 0, .int .u32 0, .int .u32 0] 100)).later hb1; have B1 := (blk1 w 100 #[.int .i64 0, .int .i64 0, .int .u32 0, .int .u32 0, .int .u32 0, .int .u32 0] (.cells #[.int .u32 a, .int .i64 n] 81)).later hb1; have c0 := B0.cell 0 _ rfl; have c1 := B0.cell 1 _ rfl; have z0 := B1.cell 0 _ rfl; have z1 := B1.cell 1 _ rfl; have z2 := B1.cell 2 _ rfl; have z3 := B1.cell 3 _ rfl; have z4 := B1.cell 4 _ rfl; have z5 := B1.cell 5 _ rfl; have zf0 := B1.frozen 0; have zf1 := B1.frozen 1; have zf2 := B1.frozen 2; have zf3 := B1.frozen 3; have zf4 := B1.frozen 4; have zf5 := B1.frozen 5; clear hb1)))
  have HB2 := (((((B1.set_ 0 (.int .i64 0)).set_ 1 (.int .i64 0)).set_ 2 (.int .u32 0)).set_ 3 (.int .u32 0)).set_ 4 (.int .u32 0)).set_ 5 (.int .u32 0)
  simp only [List.setIfInBounds_toArray, List.set_cons_zero, List.set_cons_succ] at HB2
  exact bodyPost_ret (results_blk2 rfl _ _ (w.heap.size + 1) 100 _ _ rfl HB2 Try.underlying100 rfl (by kernel_rfl)) rfl
    ⟨rfl, by (iterate 6 (refine Below.setCell ?_ (by simp) _)); exact HB⟩
set_option maxHeartbeats 2000000 in
theorem Of_yes (a n m : Int) (hR : ∀ w, Calls Try.prog 76 #[.agg #[.int .u32 a, .int .i64 n], .int .i64 m] w fun e w' => e = .returned (.bool true) ∧ Below w.heap.size w w') (hM : ∀ w, Calls Try.prog 77 #[.int .i64 n] w fun e w' => e = .returned (.tuple #[.int .u32 (maskN n), .int .i64 0]) ∧ Below w.heap.size w w') (h0 : 0 ≤ m) (h1 : m ≤ 16) (w : World) : Calls Try.prog 73 #[.agg #[.int .u32 a, .int .i64 n], .int .i64 m] w fun e w' => e = .returned (.tuple #[.agg #[.int .i64 2, .int .i64 0, .int .u32 a, .int .u32 (maskN n), .int .u32 0, .int .u32 m], .int .i64 0]) ∧ Below w.heap.size w w' := by
  go_enter Try.func73, Try.ntmps73
  go_wp2_with (first
    | (go_at_call 76; go_loud ((with_reducible refine (hR _).mono ?_); rintro e w1 ⟨rfl, hb1⟩; have HB := thenB (below_two w (.cells #[.int .u32 a, .int .i64 n] 81) (.cells #[.int .i64 0, .int .i64 0, .int .u32 0, .int .u32 0, .int .u32 0, .int .u32 0] 100)) (by simp; omega) hb1; have B0 := (blk0 w 81 #[.int .u32 a, .int .i64 n] (.cells #[.int .i64 0, .int .i64 0, .int .u32 0, .int .u32 0, .int .u32 0, .int .u32 0] 100)).later hb1; have B1 := (blk1 w 100 #[.int .i64 0, .int .i64 0, .int .u32 0, .int .u32 0, .int .u32 0, .int .u32 0] (.cells #[.int .u32 a, .int .i64 n] 81)).later hb1; have c0 := B0.cell 0 _ rfl; have c1 := B0.cell 1 _ rfl; have z0 := B1.cell 0 _ rfl; have z1 := B1.cell 1 _ rfl; have z2 := B1.cell 2 _ rfl; have z3 := B1.cell 3 _ rfl; have z4 := B1.cell 4 _ rfl; have z5 := B1.cell 5 _ rfl; have zf0 := B1.frozen 0; have zf1 := B1.frozen 1; have zf2 := B1.frozen 2; have zf3 := B1.frozen 3; have zf4 := B1.frozen 4; have zf5 := B1.frozen 5; clear hb1))
    | (go_at_call 77; (with_reducible refine (hM _).mono ?_); rintro e w2 ⟨rfl, hb2⟩; have HB' := thenB HB HB.size hb2; have B0' := B0.later hb2; have B1' := B1.later hb2; clear HB B0 c0 c1 hb2 B1 z0 zf0 z1 zf1 z2 zf2 z3 zf3 z4 zf4 z5 zf5; have c0 := B0'.cell 0 _ rfl; have c1 := B0'.cell 1 _ rfl; have z0 := B1'.cell 0 _ rfl; have z1 := B1'.cell 1 _ rfl; have z2 := B1'.cell 2 _ rfl; have z3 := B1'.cell 3 _ rfl; have z4 := B1'.cell 4 _ rfl; have z5 := B1'.cell 5 _ rfl; have zf0 := B1'.frozen 0; have zf1 := B1'.frozen 1; have zf2 := B1'.frozen 2; have zf3 := B1'.frozen 3; have zf4 := B1'.frozen 4; have zf5 := B1'.frozen 5))
  have HB2 := (((((B1'.set_ 0 (.int .i64 2)).set_ 1 (.int .i64 0)).set_ 2 (.int .u32 a)).set_ 3 (.int .u32 (maskN n))).set_ 4 (.int .u32 0)).set_ 5 (.int .u32 m)
  simp only [List.setIfInBounds_toArray, List.set_cons_zero, List.set_cons_succ] at HB2
  exact bodyPost_ret (results_blk2 rfl _ _ (w.heap.size + 1) 100 _ _ rfl HB2 Try.underlying100 rfl (by kernel_rfl)) rfl
    ⟨rfl, by (iterate 6 (refine Below.setCell ?_ (by simp) _)); exact HB'⟩

end Go.Proofs.Ytokjjppfdmkjeaa.A

