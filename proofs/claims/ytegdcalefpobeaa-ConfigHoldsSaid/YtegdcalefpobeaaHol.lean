/- config: the walk of the law ConfigHolds. -/
import Derived.Test.YtegdcalefpobeaaWrk
import Derived.Test.YtegdcalefpobeaaArgC
set_option linter.unusedVariables false
set_option linter.unusedSimpArgs false
namespace Go.Proofs.Ytegdcalefpobeaa.A
open Go.RowKit Go.Shelf Go.Proofs.YtegdcalefpobeaaW.PrintWords Go.Proofs.YtegdcalefpobeaaW.PrintLast Go.Proofs.YtegdcalefpobeaaW.PrintMore Go.Proofs.Ytegdcalefpobeaa.PConfigChecks
attribute [local go_sem] max2_int min2_int max_two min_two

theorem clampN_mono (a b s : Int) (hs : 0 ≤ s) (h : a ≤ b) : clampN a s ≤ clampN b s := by
  unfold clampN
  repeat' split
  all_goals omega
set_option maxRecDepth 100000 in
set_option maxHeartbeats 8000000 in
theorem holds_far (c0 c1 c2 c3 c4 c5 c6 cap : Int) (A : Option Addr) (l : List Pfx) (cc : Nat) (one two : Int) (w : World) (hr : Kd.C k28 w A l.length l) (hc : l.length ≤ cc) (ha : AdrP l) (hfar : 30 < l.length) :
    Calls Try.prog 6 #[.agg #[.int .i64 c0, .int .i64 c1, .int .i64 c2, .int .i64 c3, .int .i64 c4, .int .i64 c5, .int .i64 c6, .int .i64 cap, .slice A l.length cc], .int .i64 one, .int .i64 two] w fun e w' => e = .returned (.bool true) ∧ Below w.heap.size w w' := by
  have HR := Aside0.mk hr
  have HA := Aside0.mk ha
  clear hr ha
  have HK := Aside0.mk (Held.new w 24 #[.int .i64 c0, .int .i64 c1, .int .i64 c2, .int .i64 c3, .int .i64 c4, .int .i64 c5, .int .i64 c6, .int .i64 cap, .slice A l.length cc])
  have k0 := HK.out.blk.cell 0 _ rfl; have k1 := HK.out.blk.cell 1 _ rfl; have k2 := HK.out.blk.cell 2 _ rfl; have k3 := HK.out.blk.cell 3 _ rfl; have k4 := HK.out.blk.cell 4 _ rfl; have k5 := HK.out.blk.cell 5 _ rfl; have k6 := HK.out.blk.cell 6 _ rfl; have k7 := HK.out.blk.cell 7 _ rfl; have k8 := HK.out.blk.cell 8 _ rfl
  go_enter Try.func6, Try.ntmps6
  go_wp2_with (first
    | (go_at_call 8; go_loud ((with_reducible refine (waywardenlaw08_few.calls c0 c1 c2 c3 c4 c5 c6 cap A cc l false _ (Kd.C_below HR.out HK.out.bel) hc (by unfold waywardenlaw08_few.f; congr 1; apply decide_eq_false; omega)).mono ?_); rintro e w9 ⟨rfl, hb⟩; have HK := Aside0.mk (HK.out.later hb); (try clear k0 k1 k2 k3 k4 k5 k6 k7 k8); have k0 := HK.out.blk.cell 0 _ rfl; have k1 := HK.out.blk.cell 1 _ rfl; have k2 := HK.out.blk.cell 2 _ rfl; have k3 := HK.out.blk.cell 3 _ rfl; have k4 := HK.out.blk.cell 4 _ rfl; have k5 := HK.out.blk.cell 5 _ rfl; have k6 := HK.out.blk.cell 6 _ rfl; have k7 := HK.out.blk.cell 7 _ rfl; have k8 := HK.out.blk.cell 8 _ rfl; clear hb)) | (go_at_call 9; ((with_reducible refine (works_any _).mono ?_); rintro e w9 ⟨rfl, hb⟩; have HK := Aside0.mk (HK.out.later hb); (try clear k0 k1 k2 k3 k4 k5 k6 k7 k8); have k0 := HK.out.blk.cell 0 _ rfl; have k1 := HK.out.blk.cell 1 _ rfl; have k2 := HK.out.blk.cell 2 _ rfl; have k3 := HK.out.blk.cell 3 _ rfl; have k4 := HK.out.blk.cell 4 _ rfl; have k5 := HK.out.blk.cell 5 _ rfl; have k6 := HK.out.blk.cell 6 _ rfl; have k7 := HK.out.blk.cell 7 _ rfl; have k8 := HK.out.blk.cell 8 _ rfl; clear hb)))
  go_ret
  exact ⟨rfl, HK.out.bel⟩
set_option maxRecDepth 100000 in
set_option maxHeartbeats 8000000 in
theorem holds_not (c0 c1 c2 c3 c4 c5 c6 cap : Int) (A : Option Addr) (l : List Pfx) (cc : Nat) (one two : Int) (w : World) (hr : Kd.C k28 w A l.length l) (hc : l.length ≤ cc) (ha : AdrP l) (hfew : l.length ≤ 30) (hn : rightN c0 c1 c2 c3 c4 c5 c6 cap l = false) :
    Calls Try.prog 6 #[.agg #[.int .i64 c0, .int .i64 c1, .int .i64 c2, .int .i64 c3, .int .i64 c4, .int .i64 c5, .int .i64 c6, .int .i64 cap, .slice A l.length cc], .int .i64 one, .int .i64 two] w fun e w' => e = .returned (.bool true) ∧ Below w.heap.size w w' := by
  have HR := Aside0.mk hr
  have HA := Aside0.mk ha
  clear hr ha
  have HK := Aside0.mk (Held.new w 24 #[.int .i64 c0, .int .i64 c1, .int .i64 c2, .int .i64 c3, .int .i64 c4, .int .i64 c5, .int .i64 c6, .int .i64 cap, .slice A l.length cc])
  have k0 := HK.out.blk.cell 0 _ rfl; have k1 := HK.out.blk.cell 1 _ rfl; have k2 := HK.out.blk.cell 2 _ rfl; have k3 := HK.out.blk.cell 3 _ rfl; have k4 := HK.out.blk.cell 4 _ rfl; have k5 := HK.out.blk.cell 5 _ rfl; have k6 := HK.out.blk.cell 6 _ rfl; have k7 := HK.out.blk.cell 7 _ rfl; have k8 := HK.out.blk.cell 8 _ rfl
  have HN := Aside0.mk hn
  clear hn
  go_enter Try.func6, Try.ntmps6
  go_wp2_with (first
    | (go_at_call 8; go_loud ((with_reducible refine (waywardenlaw08_few.calls c0 c1 c2 c3 c4 c5 c6 cap A cc l true _ (Kd.C_below HR.out HK.out.bel) hc (by unfold waywardenlaw08_few.f; congr 1; apply decide_eq_true; omega)).mono ?_); rintro e w9 ⟨rfl, hb⟩; have HK := Aside0.mk (HK.out.later hb); (try clear k0 k1 k2 k3 k4 k5 k6 k7 k8); have k0 := HK.out.blk.cell 0 _ rfl; have k1 := HK.out.blk.cell 1 _ rfl; have k2 := HK.out.blk.cell 2 _ rfl; have k3 := HK.out.blk.cell 3 _ rfl; have k4 := HK.out.blk.cell 4 _ rfl; have k5 := HK.out.blk.cell 5 _ rfl; have k6 := HK.out.blk.cell 6 _ rfl; have k7 := HK.out.blk.cell 7 _ rfl; have k8 := HK.out.blk.cell 8 _ rfl; clear hb)) | (go_at_call 9; ((with_reducible refine (works_any _).mono ?_); rintro e w9 ⟨rfl, hb⟩; have HK := Aside0.mk (HK.out.later hb); (try clear k0 k1 k2 k3 k4 k5 k6 k7 k8); have k0 := HK.out.blk.cell 0 _ rfl; have k1 := HK.out.blk.cell 1 _ rfl; have k2 := HK.out.blk.cell 2 _ rfl; have k3 := HK.out.blk.cell 3 _ rfl; have k4 := HK.out.blk.cell 4 _ rfl; have k5 := HK.out.blk.cell 5 _ rfl; have k6 := HK.out.blk.cell 6 _ rfl; have k7 := HK.out.blk.cell 7 _ rfl; have k8 := HK.out.blk.cell 8 _ rfl; clear hb)) | (go_at_call 10; ((with_reducible refine (waywardenlaw08_num.calls _ _ _ rfl).mono ?_); rintro e w9 ⟨rfl, hd⟩; have hb := hd.below; clear hd; have HK := Aside0.mk (HK.out.later hb); (try clear k0 k1 k2 k3 k4 k5 k6 k7 k8); have k0 := HK.out.blk.cell 0 _ rfl; have k1 := HK.out.blk.cell 1 _ rfl; have k2 := HK.out.blk.cell 2 _ rfl; have k3 := HK.out.blk.cell 3 _ rfl; have k4 := HK.out.blk.cell 4 _ rfl; have k5 := HK.out.blk.cell 5 _ rfl; have k6 := HK.out.blk.cell 6 _ rfl; have k7 := HK.out.blk.cell 7 _ rfl; have k8 := HK.out.blk.cell 8 _ rfl; clear hb)) | (go_at_call 11; go_loud ((with_reducible refine (check_any c0 c1 c2 c3 c4 c5 c6 cap A l cc _ (Kd.C_below HR.out HK.out.bel) hc HA.out (by omega)).mono ?_); rw [HN.out, if_neg Bool.false_ne_true]; rintro e w9 ⟨rfl, hb⟩; have HK := Aside0.mk (HK.out.later hb); (try clear k0 k1 k2 k3 k4 k5 k6 k7 k8); have k0 := HK.out.blk.cell 0 _ rfl; have k1 := HK.out.blk.cell 1 _ rfl; have k2 := HK.out.blk.cell 2 _ rfl; have k3 := HK.out.blk.cell 3 _ rfl; have k4 := HK.out.blk.cell 4 _ rfl; have k5 := HK.out.blk.cell 5 _ rfl; have k6 := HK.out.blk.cell 6 _ rfl; have k7 := HK.out.blk.cell 7 _ rfl; have k8 := HK.out.blk.cell 8 _ rfl; clear hb)))
  go_ret
  exact ⟨rfl, HK.out.bel⟩
set_option maxRecDepth 100000 in
set_option maxHeartbeats 8000000 in
theorem holds_yes (c0 c1 c2 c3 c4 c5 c6 cap : Int) (A : Option Addr) (l : List Pfx) (cc : Nat) (one two : Int) (w : World) (hr : Kd.C k28 w A l.length l) (hc : l.length ≤ cc) (ha : AdrP l) (hfew : l.length ≤ 30) (hn : rightN c0 c1 c2 c3 c4 c5 c6 cap l = true) :
    Calls Try.prog 6 #[.agg #[.int .i64 c0, .int .i64 c1, .int .i64 c2, .int .i64 c3, .int .i64 c4, .int .i64 c5, .int .i64 c6, .int .i64 cap, .slice A l.length cc], .int .i64 one, .int .i64 two] w fun e w' => e = .returned (.bool true) ∧ Below w.heap.size w w' := by
  have HR := Aside0.mk hr
  have HA := Aside0.mk ha
  clear hr ha
  have HK := Aside0.mk (Held.new w 24 #[.int .i64 c0, .int .i64 c1, .int .i64 c2, .int .i64 c3, .int .i64 c4, .int .i64 c5, .int .i64 c6, .int .i64 cap, .slice A l.length cc])
  have k0 := HK.out.blk.cell 0 _ rfl; have k1 := HK.out.blk.cell 1 _ rfl; have k2 := HK.out.blk.cell 2 _ rfl; have k3 := HK.out.blk.cell 3 _ rfl; have k4 := HK.out.blk.cell 4 _ rfl; have k5 := HK.out.blk.cell 5 _ rfl; have k6 := HK.out.blk.cell 6 _ rfl; have k7 := HK.out.blk.cell 7 _ rfl; have k8 := HK.out.blk.cell 8 _ rfl
  have HN := Aside0.mk hn
  have hin := rightN_in c0 c1 c2 c3 c4 c5 c6 cap l hn
  have g0 := hin 0 (by omega)
  have g1 := hin 1 (by omega)
  have g5 := hin 5 (by omega)
  have g6 := hin 6 (by omega)
  simp only [spanL, spanV, List.getD_cons_succ, List.getD_cons_zero] at g0 g1 g5 g6
  clear hin hn
  obtain ⟨lo, hi, hmm, hcase⟩ : ∃ lo hi : Int, lo ≤ hi ∧ ((one < two ∧ one = lo ∧ two = hi) ∨ (two ≤ one ∧ two = lo ∧ one = hi)) := by
    by_cases h : one < two
    · exact ⟨one, two, by omega, .inl ⟨h, rfl, rfl⟩⟩
    · exact ⟨two, one, by omega, .inr ⟨by omega, rfl, rfl⟩⟩
  have x1 := clampN_in lo c1 g1.1
  have x2 := clampN_in hi c1 g1.1
  have x3 := clampN_in lo c6 g6.1
  have x4 := clampN_in hi c6 g6.1
  have x5 := clampN_mono lo hi c1 g1.1 (by omega)
  have x6 := clampN_mono lo hi c6 g6.1 (by omega)
  obtain ⟨a, hae⟩ : ∃ x, c0 + clampN lo c1 = x := ⟨_, rfl⟩
  obtain ⟨b, hbe⟩ : ∃ x, c0 + clampN hi c1 = x := ⟨_, rfl⟩
  obtain ⟨d, hde⟩ : ∃ x, c5 + clampN lo c6 = x := ⟨_, rfl⟩
  obtain ⟨h, hhe⟩ : ∃ x, c5 + clampN hi c6 = x := ⟨_, rfl⟩
  have y1 : c0 ≤ a := by omega
  have y2 : a ≤ b := by omega
  have y3 : b ≤ c0 + c1 := by omega
  have y4 : c5 ≤ d := by omega
  have y5 : d ≤ h := by omega
  have y6 : h ≤ c5 + c6 := by omega
  have H1 := Aside0.mk hae
  have H2 := Aside0.mk hbe
  have H3 := Aside0.mk hde
  have H4 := Aside0.mk hhe
  obtain ⟨g2, g3⟩ := g0
  obtain ⟨g4, g7⟩ := g1
  obtain ⟨g8, g9⟩ := g5
  obtain ⟨g10, g11⟩ := g6
  clear hae hbe hde hhe x1 x2 x3 x4 x5 x6
  rcases hcase with ⟨hle, rfl, rfl⟩ | ⟨hle, rfl, rfl⟩
  all_goals go_enter Try.func6, Try.ntmps6
  all_goals go_wp2_with (first
    | (go_at_call 8; go_loud ((with_reducible refine (waywardenlaw08_few.calls c0 c1 c2 c3 c4 c5 c6 cap A cc l true _ (Kd.C_below HR.out HK.out.bel) hc (by unfold waywardenlaw08_few.f; congr 1; apply decide_eq_true; omega)).mono ?_); rintro e w9 ⟨rfl, hb⟩; have HK := Aside0.mk (HK.out.later hb); (try clear k0 k1 k2 k3 k4 k5 k6 k7 k8); have k0 := HK.out.blk.cell 0 _ rfl; have k1 := HK.out.blk.cell 1 _ rfl; have k2 := HK.out.blk.cell 2 _ rfl; have k3 := HK.out.blk.cell 3 _ rfl; have k4 := HK.out.blk.cell 4 _ rfl; have k5 := HK.out.blk.cell 5 _ rfl; have k6 := HK.out.blk.cell 6 _ rfl; have k7 := HK.out.blk.cell 7 _ rfl; have k8 := HK.out.blk.cell 8 _ rfl; clear hb)) | (go_at_call 9; ((with_reducible refine (works_any _).mono ?_); rintro e w9 ⟨rfl, hb⟩; have HK := Aside0.mk (HK.out.later hb); (try clear k0 k1 k2 k3 k4 k5 k6 k7 k8); have k0 := HK.out.blk.cell 0 _ rfl; have k1 := HK.out.blk.cell 1 _ rfl; have k2 := HK.out.blk.cell 2 _ rfl; have k3 := HK.out.blk.cell 3 _ rfl; have k4 := HK.out.blk.cell 4 _ rfl; have k5 := HK.out.blk.cell 5 _ rfl; have k6 := HK.out.blk.cell 6 _ rfl; have k7 := HK.out.blk.cell 7 _ rfl; have k8 := HK.out.blk.cell 8 _ rfl; clear hb)) | (go_at_call 10; ((with_reducible refine (waywardenlaw08_num.calls _ _ _ rfl).mono ?_); rintro e w9 ⟨rfl, hd⟩; have hb := hd.below; clear hd; have HK := Aside0.mk (HK.out.later hb); (try clear k0 k1 k2 k3 k4 k5 k6 k7 k8); have k0 := HK.out.blk.cell 0 _ rfl; have k1 := HK.out.blk.cell 1 _ rfl; have k2 := HK.out.blk.cell 2 _ rfl; have k3 := HK.out.blk.cell 3 _ rfl; have k4 := HK.out.blk.cell 4 _ rfl; have k5 := HK.out.blk.cell 5 _ rfl; have k6 := HK.out.blk.cell 6 _ rfl; have k7 := HK.out.blk.cell 7 _ rfl; have k8 := HK.out.blk.cell 8 _ rfl; clear hb)) | (go_at_call 11; go_loud ((with_reducible refine (check_any c0 c1 c2 c3 c4 c5 c6 cap A l cc _ (Kd.C_below HR.out HK.out.bel) hc HA.out (by omega)).mono ?_); rw [HN.out, if_pos rfl]; rintro e w9 ⟨rfl, hb⟩; have HK := Aside0.mk (HK.out.later hb); (try clear k0 k1 k2 k3 k4 k5 k6 k7 k8); have k0 := HK.out.blk.cell 0 _ rfl; have k1 := HK.out.blk.cell 1 _ rfl; have k2 := HK.out.blk.cell 2 _ rfl; have k3 := HK.out.blk.cell 3 _ rfl; have k4 := HK.out.blk.cell 4 _ rfl; have k5 := HK.out.blk.cell 5 _ rfl; have k6 := HK.out.blk.cell 6 _ rfl; have k7 := HK.out.blk.cell 7 _ rfl; have k8 := HK.out.blk.cell 8 _ rfl; clear hb))
    | (go_at_call 18; first
        | ((with_reducible refine (wait_yes c0 c1 c2 c3 c4 c5 c6 cap A l cc _ _ (Kd.C_below HR.out HK.out.bel) hc HA.out (by omega) HN.out).mono ?_); rw [H1.out]; rintro e w9 ⟨rfl, hb⟩; have HK := Aside0.mk (HK.out.later hb); (try clear k0 k1 k2 k3 k4 k5 k6 k7 k8); have k0 := HK.out.blk.cell 0 _ rfl; have k1 := HK.out.blk.cell 1 _ rfl; have k2 := HK.out.blk.cell 2 _ rfl; have k3 := HK.out.blk.cell 3 _ rfl; have k4 := HK.out.blk.cell 4 _ rfl; have k5 := HK.out.blk.cell 5 _ rfl; have k6 := HK.out.blk.cell 6 _ rfl; have k7 := HK.out.blk.cell 7 _ rfl; have k8 := HK.out.blk.cell 8 _ rfl; clear hb)
        | ((with_reducible refine (wait_yes c0 c1 c2 c3 c4 c5 c6 cap A l cc _ _ (Kd.C_below HR.out HK.out.bel) hc HA.out (by omega) HN.out).mono ?_); rw [H2.out]; rintro e w9 ⟨rfl, hb⟩; have HK := Aside0.mk (HK.out.later hb); (try clear k0 k1 k2 k3 k4 k5 k6 k7 k8); have k0 := HK.out.blk.cell 0 _ rfl; have k1 := HK.out.blk.cell 1 _ rfl; have k2 := HK.out.blk.cell 2 _ rfl; have k3 := HK.out.blk.cell 3 _ rfl; have k4 := HK.out.blk.cell 4 _ rfl; have k5 := HK.out.blk.cell 5 _ rfl; have k6 := HK.out.blk.cell 6 _ rfl; have k7 := HK.out.blk.cell 7 _ rfl; have k8 := HK.out.blk.cell 8 _ rfl; clear hb))
    | (go_at_call 19; first
        | ((with_reducible refine (quiet_yes c0 c1 c2 c3 c4 c5 c6 cap A l cc _ _ (Kd.C_below HR.out HK.out.bel) hc HA.out (by omega) HN.out).mono ?_); rw [H3.out]; rintro e w9 ⟨rfl, hb⟩; have HK := Aside0.mk (HK.out.later hb); (try clear k0 k1 k2 k3 k4 k5 k6 k7 k8); have k0 := HK.out.blk.cell 0 _ rfl; have k1 := HK.out.blk.cell 1 _ rfl; have k2 := HK.out.blk.cell 2 _ rfl; have k3 := HK.out.blk.cell 3 _ rfl; have k4 := HK.out.blk.cell 4 _ rfl; have k5 := HK.out.blk.cell 5 _ rfl; have k6 := HK.out.blk.cell 6 _ rfl; have k7 := HK.out.blk.cell 7 _ rfl; have k8 := HK.out.blk.cell 8 _ rfl; clear hb)
        | ((with_reducible refine (quiet_yes c0 c1 c2 c3 c4 c5 c6 cap A l cc _ _ (Kd.C_below HR.out HK.out.bel) hc HA.out (by omega) HN.out).mono ?_); rw [H4.out]; rintro e w9 ⟨rfl, hb⟩; have HK := Aside0.mk (HK.out.later hb); (try clear k0 k1 k2 k3 k4 k5 k6 k7 k8); have k0 := HK.out.blk.cell 0 _ rfl; have k1 := HK.out.blk.cell 1 _ rfl; have k2 := HK.out.blk.cell 2 _ rfl; have k3 := HK.out.blk.cell 3 _ rfl; have k4 := HK.out.blk.cell 4 _ rfl; have k5 := HK.out.blk.cell 5 _ rfl; have k6 := HK.out.blk.cell 6 _ rfl; have k7 := HK.out.blk.cell 7 _ rfl; have k8 := HK.out.blk.cell 8 _ rfl; clear hb)))
  all_goals go_ret
  all_goals exact ⟨rfl, HK.out.bel⟩
theorem holds_walk (c0 c1 c2 c3 c4 c5 c6 cap : Int) (A : Option Addr) (l : List Pfx) (cc : Nat) (one : Int) (_ : (Lit.int .i64 one).wf = true) (two : Int) (_ : (Lit.int .i64 two).wf = true) {w : World} (hr : Kd.C k28 w A l.length l) (hc : l.length ≤ cc) (ha : AdrP l) : ∀ w1, w1 = w →
    Calls Try.prog 6 #[.agg #[.int .i64 c0, .int .i64 c1, .int .i64 c2, .int .i64 c3, .int .i64 c4, .int .i64 c5, .int .i64 c6, .int .i64 cap, .slice A l.length cc], .int .i64 one, .int .i64 two] w1 fun e w' => e = .returned (.bool true) ∧ Below w.heap.size w w' := by
  rintro _ rfl
  by_cases h : l.length ≤ 30
  · cases hn : rightN c0 c1 c2 c3 c4 c5 c6 cap l with
    | true => exact holds_yes c0 c1 c2 c3 c4 c5 c6 cap A l cc one two _ hr hc ha h hn
    | false => exact holds_not c0 c1 c2 c3 c4 c5 c6 cap A l cc one two _ hr hc ha h hn
  · exact holds_far c0 c1 c2 c3 c4 c5 c6 cap A l cc one two _ hr hc ha (by omega)
end Go.Proofs.Ytegdcalefpobeaa.A
