/- config: the document's bound; the walk of the law ConfigBound. -/
import Derived.Test.YtegdcalefpobeaaWrk
import Derived.Test.YtegdcalefpobeaaArgC
import Derived.Test.YtegdcalefpobeaaRwt
set_option linter.unusedVariables false
set_option linter.unusedSimpArgs false
namespace Go.Proofs.Ytegdcalefpobeaa.A
open Go.RowKit Go.Shelf Go.Proofs.YtegdcalefpobeaaW.PrintWords Go.Proofs.YtegdcalefpobeaaW.PrintLast Go.Proofs.YtegdcalefpobeaaW.PrintMore Go.Proofs.Ytegdcalefpobeaa.PConfigChecks
attribute [local go_sem] max2_int min2_int max_two min_two

set_option maxHeartbeats 4000000 in
theorem refbound_no1 (c0 c1 c2 c3 c4 c5 c6 cap : Int) (A : Option Addr) (l : List Pfx) (cc : Nat) (d : Int) (w : World) (hr : Kd.C k28 w A l.length l) (hc : l.length ≤ cc) (ha : AdrP l) (hm : l.length ≤ 140737488355328) (hn : rightN c0 c1 c2 c3 c4 c5 c6 cap l = false) :
    Calls Try.prog 23 #[.agg #[.int .i64 c0, .int .i64 c1, .int .i64 c2, .int .i64 c3, .int .i64 c4, .int .i64 c5, .int .i64 c6, .int .i64 cap, .slice A l.length cc], .int .i64 d] w fun e w' => e = .returned (.tuple #[.int .i64 0, .int .i64 2]) ∧ Below w.heap.size w w' := by
  have HR := Aside0.mk hr
  have HA := Aside0.mk ha
  clear hr ha
  have HK := Aside0.mk (Held.new w 24 #[.int .i64 c0, .int .i64 c1, .int .i64 c2, .int .i64 c3, .int .i64 c4, .int .i64 c5, .int .i64 c6, .int .i64 cap, .slice A l.length cc])
  have k0 := HK.out.blk.cell 0 _ rfl; have k1 := HK.out.blk.cell 1 _ rfl; have k2 := HK.out.blk.cell 2 _ rfl; have k3 := HK.out.blk.cell 3 _ rfl; have k4 := HK.out.blk.cell 4 _ rfl; have k5 := HK.out.blk.cell 5 _ rfl; have k6 := HK.out.blk.cell 6 _ rfl; have k7 := HK.out.blk.cell 7 _ rfl; have k8 := HK.out.blk.cell 8 _ rfl
  have HN := Aside0.mk hn
  clear hn
  go_enter Try.func23, Try.ntmps23
  go_wp2_with (first
    | (go_at_call 14; ((with_reducible refine (cfgright_any c0 c1 c2 c3 c4 c5 c6 cap A l cc _ (Kd.C_below HR.out HK.out.bel) hc HA.out hm).mono ?_); rw [HN.out]; rintro e w9 ⟨rfl, hb⟩; have HK := Aside0.mk (HK.out.later hb); (try clear k0 k1 k2 k3 k4 k5 k6 k7 k8); have k0 := HK.out.blk.cell 0 _ rfl; have k1 := HK.out.blk.cell 1 _ rfl; have k2 := HK.out.blk.cell 2 _ rfl; have k3 := HK.out.blk.cell 3 _ rfl; have k4 := HK.out.blk.cell 4 _ rfl; have k5 := HK.out.blk.cell 5 _ rfl; have k6 := HK.out.blk.cell 6 _ rfl; have k7 := HK.out.blk.cell 7 _ rfl; have k8 := HK.out.blk.cell 8 _ rfl; clear hb)))
  go_ret2
  exact ⟨rfl, HK.out.bel⟩
set_option maxHeartbeats 4000000 in
theorem refbound_no2 (c0 c1 c2 c3 c4 c5 c6 cap : Int) (A : Option Addr) (l : List Pfx) (cc : Nat) (d : Int) (w : World) (hr : Kd.C k28 w A l.length l) (hc : l.length ≤ cc) (ha : AdrP l) (hm : l.length ≤ 140737488355328) (hn : rightN c0 c1 c2 c3 c4 c5 c6 cap l = true) (hd : ¬ (0 ≤ d ∧ d ≤ 1000000)) :
    Calls Try.prog 23 #[.agg #[.int .i64 c0, .int .i64 c1, .int .i64 c2, .int .i64 c3, .int .i64 c4, .int .i64 c5, .int .i64 c6, .int .i64 cap, .slice A l.length cc], .int .i64 d] w fun e w' => e = .returned (.tuple #[.int .i64 0, .int .i64 2]) ∧ Below w.heap.size w w' := by
  have HR := Aside0.mk hr
  have HA := Aside0.mk ha
  clear hr ha
  have HK := Aside0.mk (Held.new w 24 #[.int .i64 c0, .int .i64 c1, .int .i64 c2, .int .i64 c3, .int .i64 c4, .int .i64 c5, .int .i64 c6, .int .i64 cap, .slice A l.length cc])
  have k0 := HK.out.blk.cell 0 _ rfl; have k1 := HK.out.blk.cell 1 _ rfl; have k2 := HK.out.blk.cell 2 _ rfl; have k3 := HK.out.blk.cell 3 _ rfl; have k4 := HK.out.blk.cell 4 _ rfl; have k5 := HK.out.blk.cell 5 _ rfl; have k6 := HK.out.blk.cell 6 _ rfl; have k7 := HK.out.blk.cell 7 _ rfl; have k8 := HK.out.blk.cell 8 _ rfl
  have HN := Aside0.mk hn
  have hsp := refspan_eq d
  rw [decide_eq_false hd] at hsp
  have HSP := Aside0.mk hsp
  clear hsp
  clear hn
  go_enter Try.func23, Try.ntmps23
  go_wp2_with (first
    | (go_at_call 14; ((with_reducible refine (cfgright_any c0 c1 c2 c3 c4 c5 c6 cap A l cc _ (Kd.C_below HR.out HK.out.bel) hc HA.out hm).mono ?_); rw [HN.out]; rintro e w9 ⟨rfl, hb⟩; have HK := Aside0.mk (HK.out.later hb); (try clear k0 k1 k2 k3 k4 k5 k6 k7 k8); have k0 := HK.out.blk.cell 0 _ rfl; have k1 := HK.out.blk.cell 1 _ rfl; have k2 := HK.out.blk.cell 2 _ rfl; have k3 := HK.out.blk.cell 3 _ rfl; have k4 := HK.out.blk.cell 4 _ rfl; have k5 := HK.out.blk.cell 5 _ rfl; have k6 := HK.out.blk.cell 6 _ rfl; have k7 := HK.out.blk.cell 7 _ rfl; have k8 := HK.out.blk.cell 8 _ rfl; clear hb))
    | (go_at_call 37; ((with_reducible refine (waywardenref08_Span.calls d false _ HSP.out).mono ?_); rintro e w9 ⟨rfl, hd⟩; have hb := hd.below; clear hd; have HK := Aside0.mk (HK.out.later hb); (try clear k0 k1 k2 k3 k4 k5 k6 k7 k8); have k0 := HK.out.blk.cell 0 _ rfl; have k1 := HK.out.blk.cell 1 _ rfl; have k2 := HK.out.blk.cell 2 _ rfl; have k3 := HK.out.blk.cell 3 _ rfl; have k4 := HK.out.blk.cell 4 _ rfl; have k5 := HK.out.blk.cell 5 _ rfl; have k6 := HK.out.blk.cell 6 _ rfl; have k7 := HK.out.blk.cell 7 _ rfl; have k8 := HK.out.blk.cell 8 _ rfl; clear hb)))
  go_ret2
  exact ⟨rfl, HK.out.bel⟩
set_option maxHeartbeats 4000000 in
theorem refbound_no3 (c0 c1 c2 c3 c4 c5 c6 cap : Int) (A : Option Addr) (l : List Pfx) (cc : Nat) (d : Int) (w : World) (hr : Kd.C k28 w A l.length l) (hc : l.length ≤ cc) (ha : AdrP l) (hm : l.length ≤ 140737488355328) (hn : rightN c0 c1 c2 c3 c4 c5 c6 cap l = true) (hd : 0 ≤ d ∧ d ≤ 1000000) (hlt : c2 ≤ c0 + c1 + d) :
    Calls Try.prog 23 #[.agg #[.int .i64 c0, .int .i64 c1, .int .i64 c2, .int .i64 c3, .int .i64 c4, .int .i64 c5, .int .i64 c6, .int .i64 cap, .slice A l.length cc], .int .i64 d] w fun e w' => e = .returned (.tuple #[.int .i64 0, .int .i64 180]) ∧ Below w.heap.size w w' := by
  have HR := Aside0.mk hr
  have HA := Aside0.mk ha
  clear hr ha
  have HK := Aside0.mk (Held.new w 24 #[.int .i64 c0, .int .i64 c1, .int .i64 c2, .int .i64 c3, .int .i64 c4, .int .i64 c5, .int .i64 c6, .int .i64 cap, .slice A l.length cc])
  have k0 := HK.out.blk.cell 0 _ rfl; have k1 := HK.out.blk.cell 1 _ rfl; have k2 := HK.out.blk.cell 2 _ rfl; have k3 := HK.out.blk.cell 3 _ rfl; have k4 := HK.out.blk.cell 4 _ rfl; have k5 := HK.out.blk.cell 5 _ rfl; have k6 := HK.out.blk.cell 6 _ rfl; have k7 := HK.out.blk.cell 7 _ rfl; have k8 := HK.out.blk.cell 8 _ rfl
  have HN := Aside0.mk hn
  have hsp := refspan_eq d
  rw [decide_eq_true hd] at hsp
  have HSP := Aside0.mk hsp
  clear hsp
  have hin := rightN_in c0 c1 c2 c3 c4 c5 c6 cap l hn
  have g0 := hin 0 (by omega)
  have g1 := hin 1 (by omega)
  have g2 := hin 2 (by omega)
  have g3 := hin 3 (by omega)
  have g4 := hin 4 (by omega)
  simp only [spanL, spanV, List.getD_cons_succ, List.getD_cons_zero] at g0 g1 g2 g3 g4
  obtain ⟨g0a, g0b⟩ := g0
  obtain ⟨g1a, g1b⟩ := g1
  obtain ⟨g2a, g2b⟩ := g2
  obtain ⟨g3a, g3b⟩ := g3
  obtain ⟨g4a, g4b⟩ := g4
  obtain ⟨hd1, hd2⟩ := hd
  clear hin
  clear hn
  go_enter Try.func23, Try.ntmps23
  go_wp2_with (first
    | (go_at_call 14; ((with_reducible refine (cfgright_any c0 c1 c2 c3 c4 c5 c6 cap A l cc _ (Kd.C_below HR.out HK.out.bel) hc HA.out hm).mono ?_); rw [HN.out]; rintro e w9 ⟨rfl, hb⟩; have HK := Aside0.mk (HK.out.later hb); (try clear k0 k1 k2 k3 k4 k5 k6 k7 k8); have k0 := HK.out.blk.cell 0 _ rfl; have k1 := HK.out.blk.cell 1 _ rfl; have k2 := HK.out.blk.cell 2 _ rfl; have k3 := HK.out.blk.cell 3 _ rfl; have k4 := HK.out.blk.cell 4 _ rfl; have k5 := HK.out.blk.cell 5 _ rfl; have k6 := HK.out.blk.cell 6 _ rfl; have k7 := HK.out.blk.cell 7 _ rfl; have k8 := HK.out.blk.cell 8 _ rfl; clear hb))
    | (go_at_call 37; ((with_reducible refine (waywardenref08_Span.calls d true _ HSP.out).mono ?_); rintro e w9 ⟨rfl, hd⟩; have hb := hd.below; clear hd; have HK := Aside0.mk (HK.out.later hb); (try clear k0 k1 k2 k3 k4 k5 k6 k7 k8); have k0 := HK.out.blk.cell 0 _ rfl; have k1 := HK.out.blk.cell 1 _ rfl; have k2 := HK.out.blk.cell 2 _ rfl; have k3 := HK.out.blk.cell 3 _ rfl; have k4 := HK.out.blk.cell 4 _ rfl; have k5 := HK.out.blk.cell 5 _ rfl; have k6 := HK.out.blk.cell 6 _ rfl; have k7 := HK.out.blk.cell 7 _ rfl; have k8 := HK.out.blk.cell 8 _ rfl; clear hb)))
  go_ret2
  exact ⟨rfl, HK.out.bel⟩
set_option maxHeartbeats 4000000 in
theorem refbound_yes0 (c0 c1 c2 c3 c4 c5 c6 cap : Int) (A : Option Addr) (l : List Pfx) (cc : Nat) (d : Int) (w : World) (hr : Kd.C k28 w A l.length l) (hc : l.length ≤ cc) (ha : AdrP l) (hm : l.length ≤ 140737488355328) (hn : rightN c0 c1 c2 c3 c4 c5 c6 cap l = true) (hd : 0 ≤ d ∧ d ≤ 1000000) (hlt : c0 + c1 + d < c2) :
    Calls Try.prog 23 #[.agg #[.int .i64 c0, .int .i64 c1, .int .i64 c2, .int .i64 c3, .int .i64 c4, .int .i64 c5, .int .i64 c6, .int .i64 cap, .slice A l.length cc], .int .i64 d] w fun e w' => e = .returned (.tuple #[.int .i64 (32 * (c2 + c3 + c4 + c0 + c1 + d)), .int .i64 0]) ∧ Below w.heap.size w w' := by
  have HR := Aside0.mk hr
  have HA := Aside0.mk ha
  clear hr ha
  have HK := Aside0.mk (Held.new w 24 #[.int .i64 c0, .int .i64 c1, .int .i64 c2, .int .i64 c3, .int .i64 c4, .int .i64 c5, .int .i64 c6, .int .i64 cap, .slice A l.length cc])
  have k0 := HK.out.blk.cell 0 _ rfl; have k1 := HK.out.blk.cell 1 _ rfl; have k2 := HK.out.blk.cell 2 _ rfl; have k3 := HK.out.blk.cell 3 _ rfl; have k4 := HK.out.blk.cell 4 _ rfl; have k5 := HK.out.blk.cell 5 _ rfl; have k6 := HK.out.blk.cell 6 _ rfl; have k7 := HK.out.blk.cell 7 _ rfl; have k8 := HK.out.blk.cell 8 _ rfl
  have HN := Aside0.mk hn
  have hsp := refspan_eq d
  rw [decide_eq_true hd] at hsp
  have HSP := Aside0.mk hsp
  clear hsp
  have hin := rightN_in c0 c1 c2 c3 c4 c5 c6 cap l hn
  have g0 := hin 0 (by omega)
  have g1 := hin 1 (by omega)
  have g2 := hin 2 (by omega)
  have g3 := hin 3 (by omega)
  have g4 := hin 4 (by omega)
  simp only [spanL, spanV, List.getD_cons_succ, List.getD_cons_zero] at g0 g1 g2 g3 g4
  obtain ⟨g0a, g0b⟩ := g0
  obtain ⟨g1a, g1b⟩ := g1
  obtain ⟨g2a, g2b⟩ := g2
  obtain ⟨g3a, g3b⟩ := g3
  obtain ⟨g4a, g4b⟩ := g4
  obtain ⟨hd1, hd2⟩ := hd
  clear hin
  have hlt2 : decide (c2 ≤ c0 + c1 + d) = false := decide_eq_false (by omega)
  clear hn
  go_enter Try.func23, Try.ntmps23
  go_wp2_with (first
    | (go_at_call 14; ((with_reducible refine (cfgright_any c0 c1 c2 c3 c4 c5 c6 cap A l cc _ (Kd.C_below HR.out HK.out.bel) hc HA.out hm).mono ?_); rw [HN.out]; rintro e w9 ⟨rfl, hb⟩; have HK := Aside0.mk (HK.out.later hb); (try clear k0 k1 k2 k3 k4 k5 k6 k7 k8); have k0 := HK.out.blk.cell 0 _ rfl; have k1 := HK.out.blk.cell 1 _ rfl; have k2 := HK.out.blk.cell 2 _ rfl; have k3 := HK.out.blk.cell 3 _ rfl; have k4 := HK.out.blk.cell 4 _ rfl; have k5 := HK.out.blk.cell 5 _ rfl; have k6 := HK.out.blk.cell 6 _ rfl; have k7 := HK.out.blk.cell 7 _ rfl; have k8 := HK.out.blk.cell 8 _ rfl; clear hb))
    | (go_at_call 37; ((with_reducible refine (waywardenref08_Span.calls d true _ HSP.out).mono ?_); rintro e w9 ⟨rfl, hd⟩; have hb := hd.below; clear hd; have HK := Aside0.mk (HK.out.later hb); (try clear k0 k1 k2 k3 k4 k5 k6 k7 k8); have k0 := HK.out.blk.cell 0 _ rfl; have k1 := HK.out.blk.cell 1 _ rfl; have k2 := HK.out.blk.cell 2 _ rfl; have k3 := HK.out.blk.cell 3 _ rfl; have k4 := HK.out.blk.cell 4 _ rfl; have k5 := HK.out.blk.cell 5 _ rfl; have k6 := HK.out.blk.cell 6 _ rfl; have k7 := HK.out.blk.cell 7 _ rfl; have k8 := HK.out.blk.cell 8 _ rfl; clear hb)))
  go_ret2
  exact ⟨rfl, HK.out.bel⟩
theorem refbound_yes (c0 c1 c2 c3 c4 c5 c6 cap : Int) (A : Option Addr) (l : List Pfx) (cc : Nat) (d : Int) (w : World) (hr : Kd.C k28 w A l.length l) (hc : l.length ≤ cc) (ha : AdrP l) (hm : l.length ≤ 140737488355328) (hn : rightN c0 c1 c2 c3 c4 c5 c6 cap l = true) (hd : 0 ≤ d ∧ d ≤ 1000000) (hlt : c0 + c1 + d < c2) :
    Calls Try.prog 23 #[.agg #[.int .i64 c0, .int .i64 c1, .int .i64 c2, .int .i64 c3, .int .i64 c4, .int .i64 c5, .int .i64 c6, .int .i64 cap, .slice A l.length cc], .int .i64 d] w fun e w' => e = .returned (.tuple #[.int .i64 (32 * (c0 + c1 + c2 + c3 + c4 + d)), .int .i64 0]) ∧ Below w.heap.size w w' := by
  have h := refbound_yes0 c0 c1 c2 c3 c4 c5 c6 cap A l cc d w hr hc ha hm hn hd hlt
  rw [show c2 + c3 + c4 + c0 + c1 + d = c0 + c1 + c2 + c3 + c4 + d by omega] at h
  exact h
set_option maxRecDepth 100000 in
set_option maxHeartbeats 8000000 in
theorem bdl_far (c0 c1 c2 c3 c4 c5 c6 cap : Int) (A : Option Addr) (l : List Pfx) (cc : Nat) (d : Int) (w : World) (hr : Kd.C k28 w A l.length l) (hc : l.length ≤ cc) (ha : AdrP l) (hfar : 30 < l.length) :
    Calls Try.prog 5 #[.agg #[.int .i64 c0, .int .i64 c1, .int .i64 c2, .int .i64 c3, .int .i64 c4, .int .i64 c5, .int .i64 c6, .int .i64 cap, .slice A l.length cc], .int .i64 d] w fun e w' => e = .returned (.bool true) ∧ Below w.heap.size w w' := by
  have HR := Aside0.mk hr
  have HA := Aside0.mk ha
  clear hr ha
  have HK := Aside0.mk (Held.new w 24 #[.int .i64 c0, .int .i64 c1, .int .i64 c2, .int .i64 c3, .int .i64 c4, .int .i64 c5, .int .i64 c6, .int .i64 cap, .slice A l.length cc])
  have k0 := HK.out.blk.cell 0 _ rfl; have k1 := HK.out.blk.cell 1 _ rfl; have k2 := HK.out.blk.cell 2 _ rfl; have k3 := HK.out.blk.cell 3 _ rfl; have k4 := HK.out.blk.cell 4 _ rfl; have k5 := HK.out.blk.cell 5 _ rfl; have k6 := HK.out.blk.cell 6 _ rfl; have k7 := HK.out.blk.cell 7 _ rfl; have k8 := HK.out.blk.cell 8 _ rfl
  go_enter Try.func5, Try.ntmps5
  go_wp2_with (first
    | (go_at_call 8; go_loud ((with_reducible refine (waywardenlaw08_few.calls c0 c1 c2 c3 c4 c5 c6 cap A cc l false _ (Kd.C_below HR.out HK.out.bel) hc (by unfold waywardenlaw08_few.f; congr 1; apply decide_eq_false; omega)).mono ?_); rintro e w9 ⟨rfl, hb⟩; have HK := Aside0.mk (HK.out.later hb); (try clear k0 k1 k2 k3 k4 k5 k6 k7 k8); have k0 := HK.out.blk.cell 0 _ rfl; have k1 := HK.out.blk.cell 1 _ rfl; have k2 := HK.out.blk.cell 2 _ rfl; have k3 := HK.out.blk.cell 3 _ rfl; have k4 := HK.out.blk.cell 4 _ rfl; have k5 := HK.out.blk.cell 5 _ rfl; have k6 := HK.out.blk.cell 6 _ rfl; have k7 := HK.out.blk.cell 7 _ rfl; have k8 := HK.out.blk.cell 8 _ rfl; clear hb))
    | (go_at_call 9; ((with_reducible refine (works_any _).mono ?_); rintro e w9 ⟨rfl, hb⟩; have HK := Aside0.mk (HK.out.later hb); (try clear k0 k1 k2 k3 k4 k5 k6 k7 k8); have k0 := HK.out.blk.cell 0 _ rfl; have k1 := HK.out.blk.cell 1 _ rfl; have k2 := HK.out.blk.cell 2 _ rfl; have k3 := HK.out.blk.cell 3 _ rfl; have k4 := HK.out.blk.cell 4 _ rfl; have k5 := HK.out.blk.cell 5 _ rfl; have k6 := HK.out.blk.cell 6 _ rfl; have k7 := HK.out.blk.cell 7 _ rfl; have k8 := HK.out.blk.cell 8 _ rfl; clear hb)))
  go_ret
  exact ⟨rfl, HK.out.bel⟩
set_option maxRecDepth 100000 in
set_option maxHeartbeats 8000000 in
theorem bdl_no1 (c0 c1 c2 c3 c4 c5 c6 cap : Int) (A : Option Addr) (l : List Pfx) (cc : Nat) (d : Int) (w : World) (hr : Kd.C k28 w A l.length l) (hc : l.length ≤ cc) (ha : AdrP l) (hfew : l.length ≤ 30) (hn : rightN c0 c1 c2 c3 c4 c5 c6 cap l = false) :
    Calls Try.prog 5 #[.agg #[.int .i64 c0, .int .i64 c1, .int .i64 c2, .int .i64 c3, .int .i64 c4, .int .i64 c5, .int .i64 c6, .int .i64 cap, .slice A l.length cc], .int .i64 d] w fun e w' => e = .returned (.bool true) ∧ Below w.heap.size w w' := by
  have HR := Aside0.mk hr
  have HA := Aside0.mk ha
  clear hr ha
  have HK := Aside0.mk (Held.new w 24 #[.int .i64 c0, .int .i64 c1, .int .i64 c2, .int .i64 c3, .int .i64 c4, .int .i64 c5, .int .i64 c6, .int .i64 cap, .slice A l.length cc])
  have k0 := HK.out.blk.cell 0 _ rfl; have k1 := HK.out.blk.cell 1 _ rfl; have k2 := HK.out.blk.cell 2 _ rfl; have k3 := HK.out.blk.cell 3 _ rfl; have k4 := HK.out.blk.cell 4 _ rfl; have k5 := HK.out.blk.cell 5 _ rfl; have k6 := HK.out.blk.cell 6 _ rfl; have k7 := HK.out.blk.cell 7 _ rfl; have k8 := HK.out.blk.cell 8 _ rfl
  have HN := Aside0.mk hn
  clear hn
  go_enter Try.func5, Try.ntmps5
  go_wp2_with (first
    | (go_at_call 8; go_loud ((with_reducible refine (waywardenlaw08_few.calls c0 c1 c2 c3 c4 c5 c6 cap A cc l true _ (Kd.C_below HR.out HK.out.bel) hc (by unfold waywardenlaw08_few.f; congr 1; apply decide_eq_true; omega)).mono ?_); rintro e w9 ⟨rfl, hb⟩; have HK := Aside0.mk (HK.out.later hb); (try clear k0 k1 k2 k3 k4 k5 k6 k7 k8); have k0 := HK.out.blk.cell 0 _ rfl; have k1 := HK.out.blk.cell 1 _ rfl; have k2 := HK.out.blk.cell 2 _ rfl; have k3 := HK.out.blk.cell 3 _ rfl; have k4 := HK.out.blk.cell 4 _ rfl; have k5 := HK.out.blk.cell 5 _ rfl; have k6 := HK.out.blk.cell 6 _ rfl; have k7 := HK.out.blk.cell 7 _ rfl; have k8 := HK.out.blk.cell 8 _ rfl; clear hb))
    | (go_at_call 9; ((with_reducible refine (works_any _).mono ?_); rintro e w9 ⟨rfl, hb⟩; have HK := Aside0.mk (HK.out.later hb); (try clear k0 k1 k2 k3 k4 k5 k6 k7 k8); have k0 := HK.out.blk.cell 0 _ rfl; have k1 := HK.out.blk.cell 1 _ rfl; have k2 := HK.out.blk.cell 2 _ rfl; have k3 := HK.out.blk.cell 3 _ rfl; have k4 := HK.out.blk.cell 4 _ rfl; have k5 := HK.out.blk.cell 5 _ rfl; have k6 := HK.out.blk.cell 6 _ rfl; have k7 := HK.out.blk.cell 7 _ rfl; have k8 := HK.out.blk.cell 8 _ rfl; clear hb))
    | (go_at_call 10; ((with_reducible refine (waywardenlaw08_num.calls _ _ _ rfl).mono ?_); rintro e w9 ⟨rfl, hd⟩; have hb := hd.below; clear hd; have HK := Aside0.mk (HK.out.later hb); (try clear k0 k1 k2 k3 k4 k5 k6 k7 k8); have k0 := HK.out.blk.cell 0 _ rfl; have k1 := HK.out.blk.cell 1 _ rfl; have k2 := HK.out.blk.cell 2 _ rfl; have k3 := HK.out.blk.cell 3 _ rfl; have k4 := HK.out.blk.cell 4 _ rfl; have k5 := HK.out.blk.cell 5 _ rfl; have k6 := HK.out.blk.cell 6 _ rfl; have k7 := HK.out.blk.cell 7 _ rfl; have k8 := HK.out.blk.cell 8 _ rfl; clear hb))
    | (go_at_call 22; ((with_reducible refine (bound_no1 c0 c1 c2 c3 c4 c5 c6 cap A l cc d _ (Kd.C_below HR.out HK.out.bel) hc HA.out (by omega) HN.out).mono ?_); rintro e w9 ⟨rfl, hb⟩; have HK := Aside0.mk (HK.out.later hb); (try clear k0 k1 k2 k3 k4 k5 k6 k7 k8); have k0 := HK.out.blk.cell 0 _ rfl; have k1 := HK.out.blk.cell 1 _ rfl; have k2 := HK.out.blk.cell 2 _ rfl; have k3 := HK.out.blk.cell 3 _ rfl; have k4 := HK.out.blk.cell 4 _ rfl; have k5 := HK.out.blk.cell 5 _ rfl; have k6 := HK.out.blk.cell 6 _ rfl; have k7 := HK.out.blk.cell 7 _ rfl; have k8 := HK.out.blk.cell 8 _ rfl; clear hb))
    | (go_at_call 23; ((with_reducible refine (refbound_no1 c0 c1 c2 c3 c4 c5 c6 cap A l cc d _ (Kd.C_below HR.out HK.out.bel) hc HA.out (by omega) HN.out).mono ?_); rintro e w9 ⟨rfl, hb⟩; have HK := Aside0.mk (HK.out.later hb); (try clear k0 k1 k2 k3 k4 k5 k6 k7 k8); have k0 := HK.out.blk.cell 0 _ rfl; have k1 := HK.out.blk.cell 1 _ rfl; have k2 := HK.out.blk.cell 2 _ rfl; have k3 := HK.out.blk.cell 3 _ rfl; have k4 := HK.out.blk.cell 4 _ rfl; have k5 := HK.out.blk.cell 5 _ rfl; have k6 := HK.out.blk.cell 6 _ rfl; have k7 := HK.out.blk.cell 7 _ rfl; have k8 := HK.out.blk.cell 8 _ rfl; clear hb)))
  go_ret
  exact ⟨rfl, HK.out.bel⟩
set_option maxRecDepth 100000 in
set_option maxHeartbeats 8000000 in
theorem bdl_no2 (c0 c1 c2 c3 c4 c5 c6 cap : Int) (A : Option Addr) (l : List Pfx) (cc : Nat) (d : Int) (w : World) (hr : Kd.C k28 w A l.length l) (hc : l.length ≤ cc) (ha : AdrP l) (hfew : l.length ≤ 30) (hn : rightN c0 c1 c2 c3 c4 c5 c6 cap l = true) (hd : ¬ (0 ≤ d ∧ d ≤ 1000000)) :
    Calls Try.prog 5 #[.agg #[.int .i64 c0, .int .i64 c1, .int .i64 c2, .int .i64 c3, .int .i64 c4, .int .i64 c5, .int .i64 c6, .int .i64 cap, .slice A l.length cc], .int .i64 d] w fun e w' => e = .returned (.bool true) ∧ Below w.heap.size w w' := by
  have HR := Aside0.mk hr
  have HA := Aside0.mk ha
  clear hr ha
  have HK := Aside0.mk (Held.new w 24 #[.int .i64 c0, .int .i64 c1, .int .i64 c2, .int .i64 c3, .int .i64 c4, .int .i64 c5, .int .i64 c6, .int .i64 cap, .slice A l.length cc])
  have k0 := HK.out.blk.cell 0 _ rfl; have k1 := HK.out.blk.cell 1 _ rfl; have k2 := HK.out.blk.cell 2 _ rfl; have k3 := HK.out.blk.cell 3 _ rfl; have k4 := HK.out.blk.cell 4 _ rfl; have k5 := HK.out.blk.cell 5 _ rfl; have k6 := HK.out.blk.cell 6 _ rfl; have k7 := HK.out.blk.cell 7 _ rfl; have k8 := HK.out.blk.cell 8 _ rfl
  have HN := Aside0.mk hn
  have HD := Aside0.mk hd
  clear hn hd
  go_enter Try.func5, Try.ntmps5
  go_wp2_with (first
    | (go_at_call 8; go_loud ((with_reducible refine (waywardenlaw08_few.calls c0 c1 c2 c3 c4 c5 c6 cap A cc l true _ (Kd.C_below HR.out HK.out.bel) hc (by unfold waywardenlaw08_few.f; congr 1; apply decide_eq_true; omega)).mono ?_); rintro e w9 ⟨rfl, hb⟩; have HK := Aside0.mk (HK.out.later hb); (try clear k0 k1 k2 k3 k4 k5 k6 k7 k8); have k0 := HK.out.blk.cell 0 _ rfl; have k1 := HK.out.blk.cell 1 _ rfl; have k2 := HK.out.blk.cell 2 _ rfl; have k3 := HK.out.blk.cell 3 _ rfl; have k4 := HK.out.blk.cell 4 _ rfl; have k5 := HK.out.blk.cell 5 _ rfl; have k6 := HK.out.blk.cell 6 _ rfl; have k7 := HK.out.blk.cell 7 _ rfl; have k8 := HK.out.blk.cell 8 _ rfl; clear hb))
    | (go_at_call 9; ((with_reducible refine (works_any _).mono ?_); rintro e w9 ⟨rfl, hb⟩; have HK := Aside0.mk (HK.out.later hb); (try clear k0 k1 k2 k3 k4 k5 k6 k7 k8); have k0 := HK.out.blk.cell 0 _ rfl; have k1 := HK.out.blk.cell 1 _ rfl; have k2 := HK.out.blk.cell 2 _ rfl; have k3 := HK.out.blk.cell 3 _ rfl; have k4 := HK.out.blk.cell 4 _ rfl; have k5 := HK.out.blk.cell 5 _ rfl; have k6 := HK.out.blk.cell 6 _ rfl; have k7 := HK.out.blk.cell 7 _ rfl; have k8 := HK.out.blk.cell 8 _ rfl; clear hb))
    | (go_at_call 10; ((with_reducible refine (waywardenlaw08_num.calls _ _ _ rfl).mono ?_); rintro e w9 ⟨rfl, hd⟩; have hb := hd.below; clear hd; have HK := Aside0.mk (HK.out.later hb); (try clear k0 k1 k2 k3 k4 k5 k6 k7 k8); have k0 := HK.out.blk.cell 0 _ rfl; have k1 := HK.out.blk.cell 1 _ rfl; have k2 := HK.out.blk.cell 2 _ rfl; have k3 := HK.out.blk.cell 3 _ rfl; have k4 := HK.out.blk.cell 4 _ rfl; have k5 := HK.out.blk.cell 5 _ rfl; have k6 := HK.out.blk.cell 6 _ rfl; have k7 := HK.out.blk.cell 7 _ rfl; have k8 := HK.out.blk.cell 8 _ rfl; clear hb))
    | (go_at_call 22; ((with_reducible refine (bound_no2 c0 c1 c2 c3 c4 c5 c6 cap A l cc d _ (Kd.C_below HR.out HK.out.bel) hc HA.out (by omega) HN.out (by rw [within64_eq, decide_eq_false HD.out])).mono ?_); rintro e w9 ⟨rfl, hb⟩; have HK := Aside0.mk (HK.out.later hb); (try clear k0 k1 k2 k3 k4 k5 k6 k7 k8); have k0 := HK.out.blk.cell 0 _ rfl; have k1 := HK.out.blk.cell 1 _ rfl; have k2 := HK.out.blk.cell 2 _ rfl; have k3 := HK.out.blk.cell 3 _ rfl; have k4 := HK.out.blk.cell 4 _ rfl; have k5 := HK.out.blk.cell 5 _ rfl; have k6 := HK.out.blk.cell 6 _ rfl; have k7 := HK.out.blk.cell 7 _ rfl; have k8 := HK.out.blk.cell 8 _ rfl; clear hb))
    | (go_at_call 23; ((with_reducible refine (refbound_no2 c0 c1 c2 c3 c4 c5 c6 cap A l cc d _ (Kd.C_below HR.out HK.out.bel) hc HA.out (by omega) HN.out HD.out).mono ?_); rintro e w9 ⟨rfl, hb⟩; have HK := Aside0.mk (HK.out.later hb); (try clear k0 k1 k2 k3 k4 k5 k6 k7 k8); have k0 := HK.out.blk.cell 0 _ rfl; have k1 := HK.out.blk.cell 1 _ rfl; have k2 := HK.out.blk.cell 2 _ rfl; have k3 := HK.out.blk.cell 3 _ rfl; have k4 := HK.out.blk.cell 4 _ rfl; have k5 := HK.out.blk.cell 5 _ rfl; have k6 := HK.out.blk.cell 6 _ rfl; have k7 := HK.out.blk.cell 7 _ rfl; have k8 := HK.out.blk.cell 8 _ rfl; clear hb)))
  go_ret
  exact ⟨rfl, HK.out.bel⟩
set_option maxRecDepth 100000 in
set_option maxHeartbeats 8000000 in
theorem bdl_no3 (c0 c1 c2 c3 c4 c5 c6 cap : Int) (A : Option Addr) (l : List Pfx) (cc : Nat) (d : Int) (w : World) (hr : Kd.C k28 w A l.length l) (hc : l.length ≤ cc) (ha : AdrP l) (hfew : l.length ≤ 30) (hn : rightN c0 c1 c2 c3 c4 c5 c6 cap l = true) (hd : 0 ≤ d ∧ d ≤ 1000000) (hlt : c2 ≤ c0 + c1 + d) :
    Calls Try.prog 5 #[.agg #[.int .i64 c0, .int .i64 c1, .int .i64 c2, .int .i64 c3, .int .i64 c4, .int .i64 c5, .int .i64 c6, .int .i64 cap, .slice A l.length cc], .int .i64 d] w fun e w' => e = .returned (.bool true) ∧ Below w.heap.size w w' := by
  have HR := Aside0.mk hr
  have HA := Aside0.mk ha
  clear hr ha
  have HK := Aside0.mk (Held.new w 24 #[.int .i64 c0, .int .i64 c1, .int .i64 c2, .int .i64 c3, .int .i64 c4, .int .i64 c5, .int .i64 c6, .int .i64 cap, .slice A l.length cc])
  have k0 := HK.out.blk.cell 0 _ rfl; have k1 := HK.out.blk.cell 1 _ rfl; have k2 := HK.out.blk.cell 2 _ rfl; have k3 := HK.out.blk.cell 3 _ rfl; have k4 := HK.out.blk.cell 4 _ rfl; have k5 := HK.out.blk.cell 5 _ rfl; have k6 := HK.out.blk.cell 6 _ rfl; have k7 := HK.out.blk.cell 7 _ rfl; have k8 := HK.out.blk.cell 8 _ rfl
  have HN := Aside0.mk hn
  have HD := Aside0.mk hd
  have HL := Aside0.mk hlt
  clear hn hd hlt
  go_enter Try.func5, Try.ntmps5
  go_wp2_with (first
    | (go_at_call 8; go_loud ((with_reducible refine (waywardenlaw08_few.calls c0 c1 c2 c3 c4 c5 c6 cap A cc l true _ (Kd.C_below HR.out HK.out.bel) hc (by unfold waywardenlaw08_few.f; congr 1; apply decide_eq_true; omega)).mono ?_); rintro e w9 ⟨rfl, hb⟩; have HK := Aside0.mk (HK.out.later hb); (try clear k0 k1 k2 k3 k4 k5 k6 k7 k8); have k0 := HK.out.blk.cell 0 _ rfl; have k1 := HK.out.blk.cell 1 _ rfl; have k2 := HK.out.blk.cell 2 _ rfl; have k3 := HK.out.blk.cell 3 _ rfl; have k4 := HK.out.blk.cell 4 _ rfl; have k5 := HK.out.blk.cell 5 _ rfl; have k6 := HK.out.blk.cell 6 _ rfl; have k7 := HK.out.blk.cell 7 _ rfl; have k8 := HK.out.blk.cell 8 _ rfl; clear hb))
    | (go_at_call 9; ((with_reducible refine (works_any _).mono ?_); rintro e w9 ⟨rfl, hb⟩; have HK := Aside0.mk (HK.out.later hb); (try clear k0 k1 k2 k3 k4 k5 k6 k7 k8); have k0 := HK.out.blk.cell 0 _ rfl; have k1 := HK.out.blk.cell 1 _ rfl; have k2 := HK.out.blk.cell 2 _ rfl; have k3 := HK.out.blk.cell 3 _ rfl; have k4 := HK.out.blk.cell 4 _ rfl; have k5 := HK.out.blk.cell 5 _ rfl; have k6 := HK.out.blk.cell 6 _ rfl; have k7 := HK.out.blk.cell 7 _ rfl; have k8 := HK.out.blk.cell 8 _ rfl; clear hb))
    | (go_at_call 10; ((with_reducible refine (waywardenlaw08_num.calls _ _ _ rfl).mono ?_); rintro e w9 ⟨rfl, hd⟩; have hb := hd.below; clear hd; have HK := Aside0.mk (HK.out.later hb); (try clear k0 k1 k2 k3 k4 k5 k6 k7 k8); have k0 := HK.out.blk.cell 0 _ rfl; have k1 := HK.out.blk.cell 1 _ rfl; have k2 := HK.out.blk.cell 2 _ rfl; have k3 := HK.out.blk.cell 3 _ rfl; have k4 := HK.out.blk.cell 4 _ rfl; have k5 := HK.out.blk.cell 5 _ rfl; have k6 := HK.out.blk.cell 6 _ rfl; have k7 := HK.out.blk.cell 7 _ rfl; have k8 := HK.out.blk.cell 8 _ rfl; clear hb))
    | (go_at_call 22; ((with_reducible refine (bound_no3 c0 c1 c2 c3 c4 c5 c6 cap A l cc d _ (Kd.C_below HR.out HK.out.bel) hc HA.out (by omega) HN.out (by rw [within64_eq, decide_eq_true HD.out]) (Int.not_lt.2 HL.out)).mono ?_); rintro e w9 ⟨rfl, hb⟩; have HK := Aside0.mk (HK.out.later hb); (try clear k0 k1 k2 k3 k4 k5 k6 k7 k8); have k0 := HK.out.blk.cell 0 _ rfl; have k1 := HK.out.blk.cell 1 _ rfl; have k2 := HK.out.blk.cell 2 _ rfl; have k3 := HK.out.blk.cell 3 _ rfl; have k4 := HK.out.blk.cell 4 _ rfl; have k5 := HK.out.blk.cell 5 _ rfl; have k6 := HK.out.blk.cell 6 _ rfl; have k7 := HK.out.blk.cell 7 _ rfl; have k8 := HK.out.blk.cell 8 _ rfl; clear hb))
    | (go_at_call 23; ((with_reducible refine (refbound_no3 c0 c1 c2 c3 c4 c5 c6 cap A l cc d _ (Kd.C_below HR.out HK.out.bel) hc HA.out (by omega) HN.out HD.out HL.out).mono ?_); rintro e w9 ⟨rfl, hb⟩; have HK := Aside0.mk (HK.out.later hb); (try clear k0 k1 k2 k3 k4 k5 k6 k7 k8); have k0 := HK.out.blk.cell 0 _ rfl; have k1 := HK.out.blk.cell 1 _ rfl; have k2 := HK.out.blk.cell 2 _ rfl; have k3 := HK.out.blk.cell 3 _ rfl; have k4 := HK.out.blk.cell 4 _ rfl; have k5 := HK.out.blk.cell 5 _ rfl; have k6 := HK.out.blk.cell 6 _ rfl; have k7 := HK.out.blk.cell 7 _ rfl; have k8 := HK.out.blk.cell 8 _ rfl; clear hb)))
  go_ret
  exact ⟨rfl, HK.out.bel⟩
set_option maxRecDepth 100000 in
set_option maxHeartbeats 8000000 in
theorem bdl_yes (c0 c1 c2 c3 c4 c5 c6 cap : Int) (A : Option Addr) (l : List Pfx) (cc : Nat) (d : Int) (w : World) (hr : Kd.C k28 w A l.length l) (hc : l.length ≤ cc) (ha : AdrP l) (hfew : l.length ≤ 30) (hn : rightN c0 c1 c2 c3 c4 c5 c6 cap l = true) (hd : 0 ≤ d ∧ d ≤ 1000000) (hlt : c0 + c1 + d < c2) :
    Calls Try.prog 5 #[.agg #[.int .i64 c0, .int .i64 c1, .int .i64 c2, .int .i64 c3, .int .i64 c4, .int .i64 c5, .int .i64 c6, .int .i64 cap, .slice A l.length cc], .int .i64 d] w fun e w' => e = .returned (.bool true) ∧ Below w.heap.size w w' := by
  have HR := Aside0.mk hr
  have HA := Aside0.mk ha
  clear hr ha
  have HK := Aside0.mk (Held.new w 24 #[.int .i64 c0, .int .i64 c1, .int .i64 c2, .int .i64 c3, .int .i64 c4, .int .i64 c5, .int .i64 c6, .int .i64 cap, .slice A l.length cc])
  have k0 := HK.out.blk.cell 0 _ rfl; have k1 := HK.out.blk.cell 1 _ rfl; have k2 := HK.out.blk.cell 2 _ rfl; have k3 := HK.out.blk.cell 3 _ rfl; have k4 := HK.out.blk.cell 4 _ rfl; have k5 := HK.out.blk.cell 5 _ rfl; have k6 := HK.out.blk.cell 6 _ rfl; have k7 := HK.out.blk.cell 7 _ rfl; have k8 := HK.out.blk.cell 8 _ rfl
  have HN := Aside0.mk hn
  have HD := Aside0.mk hd
  have HL := Aside0.mk hlt
  obtain ⟨V, hV⟩ : ∃ V, 32 * (c0 + c1 + c2 + c3 + c4 + d) = V := ⟨_, rfl⟩
  have HV := Aside0.mk hV
  clear hn hd hlt hV
  go_enter Try.func5, Try.ntmps5
  go_wp2_with (first
    | (go_at_call 8; go_loud ((with_reducible refine (waywardenlaw08_few.calls c0 c1 c2 c3 c4 c5 c6 cap A cc l true _ (Kd.C_below HR.out HK.out.bel) hc (by unfold waywardenlaw08_few.f; congr 1; apply decide_eq_true; omega)).mono ?_); rintro e w9 ⟨rfl, hb⟩; have HK := Aside0.mk (HK.out.later hb); (try clear k0 k1 k2 k3 k4 k5 k6 k7 k8); have k0 := HK.out.blk.cell 0 _ rfl; have k1 := HK.out.blk.cell 1 _ rfl; have k2 := HK.out.blk.cell 2 _ rfl; have k3 := HK.out.blk.cell 3 _ rfl; have k4 := HK.out.blk.cell 4 _ rfl; have k5 := HK.out.blk.cell 5 _ rfl; have k6 := HK.out.blk.cell 6 _ rfl; have k7 := HK.out.blk.cell 7 _ rfl; have k8 := HK.out.blk.cell 8 _ rfl; clear hb))
    | (go_at_call 9; ((with_reducible refine (works_any _).mono ?_); rintro e w9 ⟨rfl, hb⟩; have HK := Aside0.mk (HK.out.later hb); (try clear k0 k1 k2 k3 k4 k5 k6 k7 k8); have k0 := HK.out.blk.cell 0 _ rfl; have k1 := HK.out.blk.cell 1 _ rfl; have k2 := HK.out.blk.cell 2 _ rfl; have k3 := HK.out.blk.cell 3 _ rfl; have k4 := HK.out.blk.cell 4 _ rfl; have k5 := HK.out.blk.cell 5 _ rfl; have k6 := HK.out.blk.cell 6 _ rfl; have k7 := HK.out.blk.cell 7 _ rfl; have k8 := HK.out.blk.cell 8 _ rfl; clear hb))
    | (go_at_call 10; ((with_reducible refine (waywardenlaw08_num.calls _ _ _ rfl).mono ?_); rintro e w9 ⟨rfl, hd⟩; have hb := hd.below; clear hd; have HK := Aside0.mk (HK.out.later hb); (try clear k0 k1 k2 k3 k4 k5 k6 k7 k8); have k0 := HK.out.blk.cell 0 _ rfl; have k1 := HK.out.blk.cell 1 _ rfl; have k2 := HK.out.blk.cell 2 _ rfl; have k3 := HK.out.blk.cell 3 _ rfl; have k4 := HK.out.blk.cell 4 _ rfl; have k5 := HK.out.blk.cell 5 _ rfl; have k6 := HK.out.blk.cell 6 _ rfl; have k7 := HK.out.blk.cell 7 _ rfl; have k8 := HK.out.blk.cell 8 _ rfl; clear hb))
    | (go_at_call 22; ((with_reducible refine (bound_yes c0 c1 c2 c3 c4 c5 c6 cap A l cc d _ (Kd.C_below HR.out HK.out.bel) hc HA.out (by omega) HN.out (by rw [within64_eq, decide_eq_true HD.out]) HL.out).mono ?_); rw [HV.out]; rintro e w9 ⟨rfl, hb⟩; have HK := Aside0.mk (HK.out.later hb); (try clear k0 k1 k2 k3 k4 k5 k6 k7 k8); have k0 := HK.out.blk.cell 0 _ rfl; have k1 := HK.out.blk.cell 1 _ rfl; have k2 := HK.out.blk.cell 2 _ rfl; have k3 := HK.out.blk.cell 3 _ rfl; have k4 := HK.out.blk.cell 4 _ rfl; have k5 := HK.out.blk.cell 5 _ rfl; have k6 := HK.out.blk.cell 6 _ rfl; have k7 := HK.out.blk.cell 7 _ rfl; have k8 := HK.out.blk.cell 8 _ rfl; clear hb))
    | (go_at_call 23; ((with_reducible refine (refbound_yes c0 c1 c2 c3 c4 c5 c6 cap A l cc d _ (Kd.C_below HR.out HK.out.bel) hc HA.out (by omega) HN.out HD.out HL.out).mono ?_); rw [HV.out]; rintro e w9 ⟨rfl, hb⟩; have HK := Aside0.mk (HK.out.later hb); (try clear k0 k1 k2 k3 k4 k5 k6 k7 k8); have k0 := HK.out.blk.cell 0 _ rfl; have k1 := HK.out.blk.cell 1 _ rfl; have k2 := HK.out.blk.cell 2 _ rfl; have k3 := HK.out.blk.cell 3 _ rfl; have k4 := HK.out.blk.cell 4 _ rfl; have k5 := HK.out.blk.cell 5 _ rfl; have k6 := HK.out.blk.cell 6 _ rfl; have k7 := HK.out.blk.cell 7 _ rfl; have k8 := HK.out.blk.cell 8 _ rfl; clear hb)))
  go_ret
  exact ⟨rfl, HK.out.bel⟩
theorem bdl_walk (c0 c1 c2 c3 c4 c5 c6 cap : Int) (A : Option Addr) (l : List Pfx) (cc : Nat) (d : Int) (_ : (Lit.int .i64 d).wf = true) {w : World} (hr : Kd.C k28 w A l.length l) (hc : l.length ≤ cc) (ha : AdrP l) : ∀ w1, w1 = w →
    Calls Try.prog 5 #[.agg #[.int .i64 c0, .int .i64 c1, .int .i64 c2, .int .i64 c3, .int .i64 c4, .int .i64 c5, .int .i64 c6, .int .i64 cap, .slice A l.length cc], .int .i64 d] w1 fun e w' => e = .returned (.bool true) ∧ Below w.heap.size w w' := by
  rintro _ rfl
  by_cases h : l.length ≤ 30
  · cases hn : rightN c0 c1 c2 c3 c4 c5 c6 cap l with
    | true =>
      by_cases hd : 0 ≤ d ∧ d ≤ 1000000
      · by_cases hlt : c0 + c1 + d < c2
        · exact bdl_yes c0 c1 c2 c3 c4 c5 c6 cap A l cc d _ hr hc ha h hn hd hlt
        · exact bdl_no3 c0 c1 c2 c3 c4 c5 c6 cap A l cc d _ hr hc ha h hn hd (by omega)
      · exact bdl_no2 c0 c1 c2 c3 c4 c5 c6 cap A l cc d _ hr hc ha h hn hd
    | false => exact bdl_no1 c0 c1 c2 c3 c4 c5 c6 cap A l cc d _ hr hc ha h hn
  · exact bdl_far c0 c1 c2 c3 c4 c5 c6 cap A l cc d _ hr hc ha (by omega)
end Go.Proofs.Ytegdcalefpobeaa.A
