/- config: the walk of the law ConfigWaits. -/
import Derived.Test.YtegdcalefpobeaaWrk
import Derived.Test.YtegdcalefpobeaaArgC
import Derived.Test.YtegdcalefpobeaaRwt
set_option linter.unusedVariables false
set_option linter.unusedSimpArgs false
namespace Go.Proofs.Ytegdcalefpobeaa.A
open Go.RowKit Go.Shelf Go.Proofs.YtegdcalefpobeaaW.PrintWords Go.Proofs.YtegdcalefpobeaaW.PrintLast Go.Proofs.YtegdcalefpobeaaW.PrintMore Go.Proofs.Ytegdcalefpobeaa.PConfigChecks
attribute [local go_sem] max2_int min2_int max_two min_two

set_option maxRecDepth 100000 in
set_option maxHeartbeats 8000000 in
theorem waits_far (c0 c1 c2 c3 c4 c5 c6 cap : Int) (A : Option Addr) (l : List Pfx) (cc : Nat) (one two : Int) (w : World) (hr : Kd.C k28 w A l.length l) (hc : l.length ≤ cc) (ha : AdrP l) (hfar : 30 < l.length) :
    Calls Try.prog 4 #[.agg #[.int .i64 c0, .int .i64 c1, .int .i64 c2, .int .i64 c3, .int .i64 c4, .int .i64 c5, .int .i64 c6, .int .i64 cap, .slice A l.length cc], .int .i64 one, .int .i64 two] w fun e w' => e = .returned (.bool true) ∧ Below w.heap.size w w' := by
  have HR := Aside0.mk hr
  have HA := Aside0.mk ha
  clear hr ha
  have HK := Aside0.mk (Held.new w 24 #[.int .i64 c0, .int .i64 c1, .int .i64 c2, .int .i64 c3, .int .i64 c4, .int .i64 c5, .int .i64 c6, .int .i64 cap, .slice A l.length cc])
  have k0 := HK.out.blk.cell 0 _ rfl; have k1 := HK.out.blk.cell 1 _ rfl; have k2 := HK.out.blk.cell 2 _ rfl; have k3 := HK.out.blk.cell 3 _ rfl; have k4 := HK.out.blk.cell 4 _ rfl; have k5 := HK.out.blk.cell 5 _ rfl; have k6 := HK.out.blk.cell 6 _ rfl; have k7 := HK.out.blk.cell 7 _ rfl; have k8 := HK.out.blk.cell 8 _ rfl
  go_enter Try.func4, Try.ntmps4
  go_wp2_with (first
    | (go_at_call 8; go_loud ((with_reducible refine (waywardenlaw08_few.calls c0 c1 c2 c3 c4 c5 c6 cap A cc l false _ (Kd.C_below HR.out HK.out.bel) hc (by unfold waywardenlaw08_few.f; congr 1; apply decide_eq_false; omega)).mono ?_); rintro e w9 ⟨rfl, hb⟩; have HK := Aside0.mk (HK.out.later hb); (try clear k0 k1 k2 k3 k4 k5 k6 k7 k8); have k0 := HK.out.blk.cell 0 _ rfl; have k1 := HK.out.blk.cell 1 _ rfl; have k2 := HK.out.blk.cell 2 _ rfl; have k3 := HK.out.blk.cell 3 _ rfl; have k4 := HK.out.blk.cell 4 _ rfl; have k5 := HK.out.blk.cell 5 _ rfl; have k6 := HK.out.blk.cell 6 _ rfl; have k7 := HK.out.blk.cell 7 _ rfl; have k8 := HK.out.blk.cell 8 _ rfl; clear hb))
    | (go_at_call 9; ((with_reducible refine (works_any _).mono ?_); rintro e w9 ⟨rfl, hb⟩; have HK := Aside0.mk (HK.out.later hb); (try clear k0 k1 k2 k3 k4 k5 k6 k7 k8); have k0 := HK.out.blk.cell 0 _ rfl; have k1 := HK.out.blk.cell 1 _ rfl; have k2 := HK.out.blk.cell 2 _ rfl; have k3 := HK.out.blk.cell 3 _ rfl; have k4 := HK.out.blk.cell 4 _ rfl; have k5 := HK.out.blk.cell 5 _ rfl; have k6 := HK.out.blk.cell 6 _ rfl; have k7 := HK.out.blk.cell 7 _ rfl; have k8 := HK.out.blk.cell 8 _ rfl; clear hb)))
  go_ret
  exact ⟨rfl, HK.out.bel⟩
set_option maxRecDepth 100000 in
set_option maxHeartbeats 8000000 in
theorem waits_not (c0 c1 c2 c3 c4 c5 c6 cap : Int) (A : Option Addr) (l : List Pfx) (cc : Nat) (one two : Int) (w : World) (hr : Kd.C k28 w A l.length l) (hc : l.length ≤ cc) (ha : AdrP l) (hfew : l.length ≤ 30) (hn : rightN c0 c1 c2 c3 c4 c5 c6 cap l = false) :
    Calls Try.prog 4 #[.agg #[.int .i64 c0, .int .i64 c1, .int .i64 c2, .int .i64 c3, .int .i64 c4, .int .i64 c5, .int .i64 c6, .int .i64 cap, .slice A l.length cc], .int .i64 one, .int .i64 two] w fun e w' => e = .returned (.bool true) ∧ Below w.heap.size w w' := by
  have HR := Aside0.mk hr
  have HA := Aside0.mk ha
  clear hr ha
  have HK := Aside0.mk (Held.new w 24 #[.int .i64 c0, .int .i64 c1, .int .i64 c2, .int .i64 c3, .int .i64 c4, .int .i64 c5, .int .i64 c6, .int .i64 cap, .slice A l.length cc])
  have k0 := HK.out.blk.cell 0 _ rfl; have k1 := HK.out.blk.cell 1 _ rfl; have k2 := HK.out.blk.cell 2 _ rfl; have k3 := HK.out.blk.cell 3 _ rfl; have k4 := HK.out.blk.cell 4 _ rfl; have k5 := HK.out.blk.cell 5 _ rfl; have k6 := HK.out.blk.cell 6 _ rfl; have k7 := HK.out.blk.cell 7 _ rfl; have k8 := HK.out.blk.cell 8 _ rfl
  have HN := Aside0.mk hn
  clear hn
  go_enter Try.func4, Try.ntmps4
  go_wp2_with (first
    | (go_at_call 8; go_loud ((with_reducible refine (waywardenlaw08_few.calls c0 c1 c2 c3 c4 c5 c6 cap A cc l true _ (Kd.C_below HR.out HK.out.bel) hc (by unfold waywardenlaw08_few.f; congr 1; apply decide_eq_true; omega)).mono ?_); rintro e w9 ⟨rfl, hb⟩; have HK := Aside0.mk (HK.out.later hb); (try clear k0 k1 k2 k3 k4 k5 k6 k7 k8); have k0 := HK.out.blk.cell 0 _ rfl; have k1 := HK.out.blk.cell 1 _ rfl; have k2 := HK.out.blk.cell 2 _ rfl; have k3 := HK.out.blk.cell 3 _ rfl; have k4 := HK.out.blk.cell 4 _ rfl; have k5 := HK.out.blk.cell 5 _ rfl; have k6 := HK.out.blk.cell 6 _ rfl; have k7 := HK.out.blk.cell 7 _ rfl; have k8 := HK.out.blk.cell 8 _ rfl; clear hb))
    | (go_at_call 9; ((with_reducible refine (works_any _).mono ?_); rintro e w9 ⟨rfl, hb⟩; have HK := Aside0.mk (HK.out.later hb); (try clear k0 k1 k2 k3 k4 k5 k6 k7 k8); have k0 := HK.out.blk.cell 0 _ rfl; have k1 := HK.out.blk.cell 1 _ rfl; have k2 := HK.out.blk.cell 2 _ rfl; have k3 := HK.out.blk.cell 3 _ rfl; have k4 := HK.out.blk.cell 4 _ rfl; have k5 := HK.out.blk.cell 5 _ rfl; have k6 := HK.out.blk.cell 6 _ rfl; have k7 := HK.out.blk.cell 7 _ rfl; have k8 := HK.out.blk.cell 8 _ rfl; clear hb))
    | (go_at_call 10; ((with_reducible refine (waywardenlaw08_num.calls _ _ _ rfl).mono ?_); rintro e w9 ⟨rfl, hd⟩; have hb := hd.below; clear hd; have HK := Aside0.mk (HK.out.later hb); (try clear k0 k1 k2 k3 k4 k5 k6 k7 k8); have k0 := HK.out.blk.cell 0 _ rfl; have k1 := HK.out.blk.cell 1 _ rfl; have k2 := HK.out.blk.cell 2 _ rfl; have k3 := HK.out.blk.cell 3 _ rfl; have k4 := HK.out.blk.cell 4 _ rfl; have k5 := HK.out.blk.cell 5 _ rfl; have k6 := HK.out.blk.cell 6 _ rfl; have k7 := HK.out.blk.cell 7 _ rfl; have k8 := HK.out.blk.cell 8 _ rfl; clear hb))
    | (go_at_call 14; ((with_reducible refine (cfgright_any c0 c1 c2 c3 c4 c5 c6 cap A l cc _ (Kd.C_below HR.out HK.out.bel) hc HA.out (by omega)).mono ?_); rw [HN.out]; rintro e w9 ⟨rfl, hb⟩; have HK := Aside0.mk (HK.out.later hb); (try clear k0 k1 k2 k3 k4 k5 k6 k7 k8); have k0 := HK.out.blk.cell 0 _ rfl; have k1 := HK.out.blk.cell 1 _ rfl; have k2 := HK.out.blk.cell 2 _ rfl; have k3 := HK.out.blk.cell 3 _ rfl; have k4 := HK.out.blk.cell 4 _ rfl; have k5 := HK.out.blk.cell 5 _ rfl; have k6 := HK.out.blk.cell 6 _ rfl; have k7 := HK.out.blk.cell 7 _ rfl; have k8 := HK.out.blk.cell 8 _ rfl; clear hb))
    | (go_at_call 18; first
        | ((with_reducible refine (wait_no c0 c1 c2 c3 c4 c5 c6 cap A l cc one _ (Kd.C_below HR.out HK.out.bel) hc HA.out (by omega) HN.out).mono ?_); rintro e w9 ⟨rfl, hb⟩; have HK := Aside0.mk (HK.out.later hb); (try clear k0 k1 k2 k3 k4 k5 k6 k7 k8); have k0 := HK.out.blk.cell 0 _ rfl; have k1 := HK.out.blk.cell 1 _ rfl; have k2 := HK.out.blk.cell 2 _ rfl; have k3 := HK.out.blk.cell 3 _ rfl; have k4 := HK.out.blk.cell 4 _ rfl; have k5 := HK.out.blk.cell 5 _ rfl; have k6 := HK.out.blk.cell 6 _ rfl; have k7 := HK.out.blk.cell 7 _ rfl; have k8 := HK.out.blk.cell 8 _ rfl; clear hb)
        | ((with_reducible refine (wait_no c0 c1 c2 c3 c4 c5 c6 cap A l cc two _ (Kd.C_below HR.out HK.out.bel) hc HA.out (by omega) HN.out).mono ?_); rintro e w9 ⟨rfl, hb⟩; have HK := Aside0.mk (HK.out.later hb); (try clear k0 k1 k2 k3 k4 k5 k6 k7 k8); have k0 := HK.out.blk.cell 0 _ rfl; have k1 := HK.out.blk.cell 1 _ rfl; have k2 := HK.out.blk.cell 2 _ rfl; have k3 := HK.out.blk.cell 3 _ rfl; have k4 := HK.out.blk.cell 4 _ rfl; have k5 := HK.out.blk.cell 5 _ rfl; have k6 := HK.out.blk.cell 6 _ rfl; have k7 := HK.out.blk.cell 7 _ rfl; have k8 := HK.out.blk.cell 8 _ rfl; clear hb))
    | (go_at_call 19; first
        | ((with_reducible refine (quiet_no c0 c1 c2 c3 c4 c5 c6 cap A l cc one _ (Kd.C_below HR.out HK.out.bel) hc HA.out (by omega) HN.out).mono ?_); rintro e w9 ⟨rfl, hb⟩; have HK := Aside0.mk (HK.out.later hb); (try clear k0 k1 k2 k3 k4 k5 k6 k7 k8); have k0 := HK.out.blk.cell 0 _ rfl; have k1 := HK.out.blk.cell 1 _ rfl; have k2 := HK.out.blk.cell 2 _ rfl; have k3 := HK.out.blk.cell 3 _ rfl; have k4 := HK.out.blk.cell 4 _ rfl; have k5 := HK.out.blk.cell 5 _ rfl; have k6 := HK.out.blk.cell 6 _ rfl; have k7 := HK.out.blk.cell 7 _ rfl; have k8 := HK.out.blk.cell 8 _ rfl; clear hb)
        | ((with_reducible refine (quiet_no c0 c1 c2 c3 c4 c5 c6 cap A l cc two _ (Kd.C_below HR.out HK.out.bel) hc HA.out (by omega) HN.out).mono ?_); rintro e w9 ⟨rfl, hb⟩; have HK := Aside0.mk (HK.out.later hb); (try clear k0 k1 k2 k3 k4 k5 k6 k7 k8); have k0 := HK.out.blk.cell 0 _ rfl; have k1 := HK.out.blk.cell 1 _ rfl; have k2 := HK.out.blk.cell 2 _ rfl; have k3 := HK.out.blk.cell 3 _ rfl; have k4 := HK.out.blk.cell 4 _ rfl; have k5 := HK.out.blk.cell 5 _ rfl; have k6 := HK.out.blk.cell 6 _ rfl; have k7 := HK.out.blk.cell 7 _ rfl; have k8 := HK.out.blk.cell 8 _ rfl; clear hb)))
  go_ret
  exact ⟨rfl, HK.out.bel⟩
set_option maxRecDepth 100000 in
set_option maxHeartbeats 8000000 in
theorem waits_yes (c0 c1 c2 c3 c4 c5 c6 cap : Int) (A : Option Addr) (l : List Pfx) (cc : Nat) (one two : Int) (w : World) (hr : Kd.C k28 w A l.length l) (hc : l.length ≤ cc) (ha : AdrP l) (hfew : l.length ≤ 30) (hn : rightN c0 c1 c2 c3 c4 c5 c6 cap l = true) :
    Calls Try.prog 4 #[.agg #[.int .i64 c0, .int .i64 c1, .int .i64 c2, .int .i64 c3, .int .i64 c4, .int .i64 c5, .int .i64 c6, .int .i64 cap, .slice A l.length cc], .int .i64 one, .int .i64 two] w fun e w' => e = .returned (.bool true) ∧ Below w.heap.size w w' := by
  have HR := Aside0.mk hr
  have HA := Aside0.mk ha
  clear hr ha
  have HK := Aside0.mk (Held.new w 24 #[.int .i64 c0, .int .i64 c1, .int .i64 c2, .int .i64 c3, .int .i64 c4, .int .i64 c5, .int .i64 c6, .int .i64 cap, .slice A l.length cc])
  have k0 := HK.out.blk.cell 0 _ rfl; have k1 := HK.out.blk.cell 1 _ rfl; have k2 := HK.out.blk.cell 2 _ rfl; have k3 := HK.out.blk.cell 3 _ rfl; have k4 := HK.out.blk.cell 4 _ rfl; have k5 := HK.out.blk.cell 5 _ rfl; have k6 := HK.out.blk.cell 6 _ rfl; have k7 := HK.out.blk.cell 7 _ rfl; have k8 := HK.out.blk.cell 8 _ rfl
  have HN := Aside0.mk hn
  have hin := rightN_in c0 c1 c2 c3 c4 c5 c6 cap l hn
  have g0 := hin 0 (by omega)
  have g1 := hin 1 (by omega)
  have g5 := hin 5 (by omega)
  have g6 := hin 6 (by omega)
  simp only [spanL, spanV, List.getD_cons_succ, List.getD_cons_zero] at g0 g1 g5 g6
  clear hin hn
  obtain ⟨a, hae⟩ : ∃ x, c0 + clampN one c1 = x := ⟨_, rfl⟩
  obtain ⟨b, hbe⟩ : ∃ x, c0 + clampN two c1 = x := ⟨_, rfl⟩
  obtain ⟨d, hde⟩ : ∃ x, c5 + clampN one c6 = x := ⟨_, rfl⟩
  obtain ⟨h, hhe⟩ : ∃ x, c5 + clampN two c6 = x := ⟨_, rfl⟩
  have H1 := Aside0.mk hae
  have H2 := Aside0.mk hbe
  have H3 := Aside0.mk hde
  have H4 := Aside0.mk hhe
  clear hae hbe hde hhe
  go_enter Try.func4, Try.ntmps4
  go_wp2_with (first
    | (go_at_call 8; go_loud ((with_reducible refine (waywardenlaw08_few.calls c0 c1 c2 c3 c4 c5 c6 cap A cc l true _ (Kd.C_below HR.out HK.out.bel) hc (by unfold waywardenlaw08_few.f; congr 1; apply decide_eq_true; omega)).mono ?_); rintro e w9 ⟨rfl, hb⟩; have HK := Aside0.mk (HK.out.later hb); (try clear k0 k1 k2 k3 k4 k5 k6 k7 k8); have k0 := HK.out.blk.cell 0 _ rfl; have k1 := HK.out.blk.cell 1 _ rfl; have k2 := HK.out.blk.cell 2 _ rfl; have k3 := HK.out.blk.cell 3 _ rfl; have k4 := HK.out.blk.cell 4 _ rfl; have k5 := HK.out.blk.cell 5 _ rfl; have k6 := HK.out.blk.cell 6 _ rfl; have k7 := HK.out.blk.cell 7 _ rfl; have k8 := HK.out.blk.cell 8 _ rfl; clear hb))
    | (go_at_call 9; ((with_reducible refine (works_any _).mono ?_); rintro e w9 ⟨rfl, hb⟩; have HK := Aside0.mk (HK.out.later hb); (try clear k0 k1 k2 k3 k4 k5 k6 k7 k8); have k0 := HK.out.blk.cell 0 _ rfl; have k1 := HK.out.blk.cell 1 _ rfl; have k2 := HK.out.blk.cell 2 _ rfl; have k3 := HK.out.blk.cell 3 _ rfl; have k4 := HK.out.blk.cell 4 _ rfl; have k5 := HK.out.blk.cell 5 _ rfl; have k6 := HK.out.blk.cell 6 _ rfl; have k7 := HK.out.blk.cell 7 _ rfl; have k8 := HK.out.blk.cell 8 _ rfl; clear hb))
    | (go_at_call 10; ((with_reducible refine (waywardenlaw08_num.calls _ _ _ rfl).mono ?_); rintro e w9 ⟨rfl, hd⟩; have hb := hd.below; clear hd; have HK := Aside0.mk (HK.out.later hb); (try clear k0 k1 k2 k3 k4 k5 k6 k7 k8); have k0 := HK.out.blk.cell 0 _ rfl; have k1 := HK.out.blk.cell 1 _ rfl; have k2 := HK.out.blk.cell 2 _ rfl; have k3 := HK.out.blk.cell 3 _ rfl; have k4 := HK.out.blk.cell 4 _ rfl; have k5 := HK.out.blk.cell 5 _ rfl; have k6 := HK.out.blk.cell 6 _ rfl; have k7 := HK.out.blk.cell 7 _ rfl; have k8 := HK.out.blk.cell 8 _ rfl; clear hb))
    | (go_at_call 14; ((with_reducible refine (cfgright_any c0 c1 c2 c3 c4 c5 c6 cap A l cc _ (Kd.C_below HR.out HK.out.bel) hc HA.out (by omega)).mono ?_); rw [HN.out]; rintro e w9 ⟨rfl, hb⟩; have HK := Aside0.mk (HK.out.later hb); (try clear k0 k1 k2 k3 k4 k5 k6 k7 k8); have k0 := HK.out.blk.cell 0 _ rfl; have k1 := HK.out.blk.cell 1 _ rfl; have k2 := HK.out.blk.cell 2 _ rfl; have k3 := HK.out.blk.cell 3 _ rfl; have k4 := HK.out.blk.cell 4 _ rfl; have k5 := HK.out.blk.cell 5 _ rfl; have k6 := HK.out.blk.cell 6 _ rfl; have k7 := HK.out.blk.cell 7 _ rfl; have k8 := HK.out.blk.cell 8 _ rfl; clear hb))
    | (go_at_call 18; first
        | ((with_reducible refine (wait_yes c0 c1 c2 c3 c4 c5 c6 cap A l cc one _ (Kd.C_below HR.out HK.out.bel) hc HA.out (by omega) HN.out).mono ?_); rw [H1.out]; rintro e w9 ⟨rfl, hb⟩; have HK := Aside0.mk (HK.out.later hb); (try clear k0 k1 k2 k3 k4 k5 k6 k7 k8); have k0 := HK.out.blk.cell 0 _ rfl; have k1 := HK.out.blk.cell 1 _ rfl; have k2 := HK.out.blk.cell 2 _ rfl; have k3 := HK.out.blk.cell 3 _ rfl; have k4 := HK.out.blk.cell 4 _ rfl; have k5 := HK.out.blk.cell 5 _ rfl; have k6 := HK.out.blk.cell 6 _ rfl; have k7 := HK.out.blk.cell 7 _ rfl; have k8 := HK.out.blk.cell 8 _ rfl; clear hb)
        | ((with_reducible refine (wait_yes c0 c1 c2 c3 c4 c5 c6 cap A l cc two _ (Kd.C_below HR.out HK.out.bel) hc HA.out (by omega) HN.out).mono ?_); rw [H2.out]; rintro e w9 ⟨rfl, hb⟩; have HK := Aside0.mk (HK.out.later hb); (try clear k0 k1 k2 k3 k4 k5 k6 k7 k8); have k0 := HK.out.blk.cell 0 _ rfl; have k1 := HK.out.blk.cell 1 _ rfl; have k2 := HK.out.blk.cell 2 _ rfl; have k3 := HK.out.blk.cell 3 _ rfl; have k4 := HK.out.blk.cell 4 _ rfl; have k5 := HK.out.blk.cell 5 _ rfl; have k6 := HK.out.blk.cell 6 _ rfl; have k7 := HK.out.blk.cell 7 _ rfl; have k8 := HK.out.blk.cell 8 _ rfl; clear hb))
    | (go_at_call 19; first
        | ((with_reducible refine (quiet_yes c0 c1 c2 c3 c4 c5 c6 cap A l cc one _ (Kd.C_below HR.out HK.out.bel) hc HA.out (by omega) HN.out).mono ?_); rw [H3.out]; rintro e w9 ⟨rfl, hb⟩; have HK := Aside0.mk (HK.out.later hb); (try clear k0 k1 k2 k3 k4 k5 k6 k7 k8); have k0 := HK.out.blk.cell 0 _ rfl; have k1 := HK.out.blk.cell 1 _ rfl; have k2 := HK.out.blk.cell 2 _ rfl; have k3 := HK.out.blk.cell 3 _ rfl; have k4 := HK.out.blk.cell 4 _ rfl; have k5 := HK.out.blk.cell 5 _ rfl; have k6 := HK.out.blk.cell 6 _ rfl; have k7 := HK.out.blk.cell 7 _ rfl; have k8 := HK.out.blk.cell 8 _ rfl; clear hb)
        | ((with_reducible refine (quiet_yes c0 c1 c2 c3 c4 c5 c6 cap A l cc two _ (Kd.C_below HR.out HK.out.bel) hc HA.out (by omega) HN.out).mono ?_); rw [H4.out]; rintro e w9 ⟨rfl, hb⟩; have HK := Aside0.mk (HK.out.later hb); (try clear k0 k1 k2 k3 k4 k5 k6 k7 k8); have k0 := HK.out.blk.cell 0 _ rfl; have k1 := HK.out.blk.cell 1 _ rfl; have k2 := HK.out.blk.cell 2 _ rfl; have k3 := HK.out.blk.cell 3 _ rfl; have k4 := HK.out.blk.cell 4 _ rfl; have k5 := HK.out.blk.cell 5 _ rfl; have k6 := HK.out.blk.cell 6 _ rfl; have k7 := HK.out.blk.cell 7 _ rfl; have k8 := HK.out.blk.cell 8 _ rfl; clear hb))
    | (go_at_call 20; first
        | ((with_reducible refine (refwait_any c0 c1 c2 c3 c4 c5 c6 cap A l cc one _ (by omega) (by omega) (by omega) (by omega)).mono ?_); rw [H1.out]; rintro e w9 ⟨rfl, hb⟩; have HK := Aside0.mk (HK.out.later hb); (try clear k0 k1 k2 k3 k4 k5 k6 k7 k8); have k0 := HK.out.blk.cell 0 _ rfl; have k1 := HK.out.blk.cell 1 _ rfl; have k2 := HK.out.blk.cell 2 _ rfl; have k3 := HK.out.blk.cell 3 _ rfl; have k4 := HK.out.blk.cell 4 _ rfl; have k5 := HK.out.blk.cell 5 _ rfl; have k6 := HK.out.blk.cell 6 _ rfl; have k7 := HK.out.blk.cell 7 _ rfl; have k8 := HK.out.blk.cell 8 _ rfl; clear hb)
        | ((with_reducible refine (refwait_any c0 c1 c2 c3 c4 c5 c6 cap A l cc two _ (by omega) (by omega) (by omega) (by omega)).mono ?_); rw [H2.out]; rintro e w9 ⟨rfl, hb⟩; have HK := Aside0.mk (HK.out.later hb); (try clear k0 k1 k2 k3 k4 k5 k6 k7 k8); have k0 := HK.out.blk.cell 0 _ rfl; have k1 := HK.out.blk.cell 1 _ rfl; have k2 := HK.out.blk.cell 2 _ rfl; have k3 := HK.out.blk.cell 3 _ rfl; have k4 := HK.out.blk.cell 4 _ rfl; have k5 := HK.out.blk.cell 5 _ rfl; have k6 := HK.out.blk.cell 6 _ rfl; have k7 := HK.out.blk.cell 7 _ rfl; have k8 := HK.out.blk.cell 8 _ rfl; clear hb))
    | (go_at_call 21; first
        | ((with_reducible refine (refquiet_any c0 c1 c2 c3 c4 c5 c6 cap A l cc one _ (by omega) (by omega) (by omega) (by omega)).mono ?_); rw [H3.out]; rintro e w9 ⟨rfl, hb⟩; have HK := Aside0.mk (HK.out.later hb); (try clear k0 k1 k2 k3 k4 k5 k6 k7 k8); have k0 := HK.out.blk.cell 0 _ rfl; have k1 := HK.out.blk.cell 1 _ rfl; have k2 := HK.out.blk.cell 2 _ rfl; have k3 := HK.out.blk.cell 3 _ rfl; have k4 := HK.out.blk.cell 4 _ rfl; have k5 := HK.out.blk.cell 5 _ rfl; have k6 := HK.out.blk.cell 6 _ rfl; have k7 := HK.out.blk.cell 7 _ rfl; have k8 := HK.out.blk.cell 8 _ rfl; clear hb)
        | ((with_reducible refine (refquiet_any c0 c1 c2 c3 c4 c5 c6 cap A l cc two _ (by omega) (by omega) (by omega) (by omega)).mono ?_); rw [H4.out]; rintro e w9 ⟨rfl, hb⟩; have HK := Aside0.mk (HK.out.later hb); (try clear k0 k1 k2 k3 k4 k5 k6 k7 k8); have k0 := HK.out.blk.cell 0 _ rfl; have k1 := HK.out.blk.cell 1 _ rfl; have k2 := HK.out.blk.cell 2 _ rfl; have k3 := HK.out.blk.cell 3 _ rfl; have k4 := HK.out.blk.cell 4 _ rfl; have k5 := HK.out.blk.cell 5 _ rfl; have k6 := HK.out.blk.cell 6 _ rfl; have k7 := HK.out.blk.cell 7 _ rfl; have k8 := HK.out.blk.cell 8 _ rfl; clear hb)))
  go_ret
  exact ⟨rfl, HK.out.bel⟩
theorem waits_walk (c0 c1 c2 c3 c4 c5 c6 cap : Int) (A : Option Addr) (l : List Pfx) (cc : Nat) (one : Int) (_ : (Lit.int .i64 one).wf = true) (two : Int) (_ : (Lit.int .i64 two).wf = true) {w : World} (hr : Kd.C k28 w A l.length l) (hc : l.length ≤ cc) (ha : AdrP l) : ∀ w1, w1 = w →
    Calls Try.prog 4 #[.agg #[.int .i64 c0, .int .i64 c1, .int .i64 c2, .int .i64 c3, .int .i64 c4, .int .i64 c5, .int .i64 c6, .int .i64 cap, .slice A l.length cc], .int .i64 one, .int .i64 two] w1 fun e w' => e = .returned (.bool true) ∧ Below w.heap.size w w' := by
  rintro _ rfl
  by_cases h : l.length ≤ 30
  · cases hn : rightN c0 c1 c2 c3 c4 c5 c6 cap l with
    | true => exact waits_yes c0 c1 c2 c3 c4 c5 c6 cap A l cc one two _ hr hc ha h hn
    | false => exact waits_not c0 c1 c2 c3 c4 c5 c6 cap A l cc one two _ hr hc ha h hn
  · exact waits_far c0 c1 c2 c3 c4 c5 c6 cap A l cc one two _ hr hc ha (by omega)
end Go.Proofs.Ytegdcalefpobeaa.A
