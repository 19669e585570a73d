/- pulse: the law PulseNext. -/
import Derived.Test.YtokjjppfdmkjeaaPlz
set_option linter.unusedVariables false
set_option linter.unusedSimpArgs false
namespace Go.Proofs.Ytokjjppfdmkjeaa.A
open Go.RowKit Go.Proofs.YtokjjppfdmkjeaaW.PrintWords Go.Proofs.YtokjjppfdmkjeaaW.PrintLast Go.Proofs.YtokjjppfdmkjeaaW.PrintMore Go.Proofs.Ytokjjppfdmkjeaa.PPulseHolds
attribute [local go_sem high] eqA28

set_option maxRecDepth 100000 in
set_option maxHeartbeats 16000000 in
theorem next_far (c0 c1 c2 c3 c4 c5 c6 cap : Int) (A : Option Addr) (l : List Pfx) (cc : Nat) (u0 u1 : Int) (u2 : Bool) (ah d : Int) (w : World) (hr : Kd.C k81 w A l.length l) (hc : l.length ≤ cc) (ha : AdrP l) (hfar : 20 < l.length) :
    Calls Try.prog 5 #[.agg #[.int .i64 c0, .int .i64 c1, .int .i64 c2, .int .i64 c3, .int .i64 c4, .int .i64 c5, .int .i64 c6, .int .i64 cap, .slice A l.length cc], .agg #[.int .i64 u0, .int .i64 u1, .bool u2], .int .i64 ah, .int .i64 d] w fun e w' => e = .returned (.bool true) ∧ Below w.heap.size w w' := by
  have HR := Aside0.mk hr
  have HA := Aside0.mk ha
  clear hr ha
  have HF : Aside0 (waywardenlaw15_few.f c0 c1 c2 c3 c4 c5 c6 cap l = some false) := ⟨by unfold waywardenlaw15_few.f; congr 1; apply decide_eq_false; omega⟩
  have HM : Aside0 (Many w [(w.heap.size, 24, #[.int .i64 c0, .int .i64 c1, .int .i64 c2, .int .i64 c3, .int .i64 c4, .int .i64 c5, .int .i64 c6, .int .i64 cap, .slice A l.length cc]), ((w.heap.size + 1), 28, #[.int .i64 u0, .int .i64 u1, .bool u2])] ((w.alloc (.cells #[.int .i64 c0, .int .i64 c1, .int .i64 c2, .int .i64 c3, .int .i64 c4, .int .i64 c5, .int .i64 c6, .int .i64 cap, .slice A l.length cc] 24)).alloc (.cells #[.int .i64 u0, .int .i64 u1, .bool u2] 28))) := ⟨by have h := Many.grow (Many.grow (Many.none w) 24 #[.int .i64 c0, .int .i64 c1, .int .i64 c2, .int .i64 c3, .int .i64 c4, .int .i64 c5, .int .i64 c6, .int .i64 cap, .slice A l.length cc]) 28 #[.int .i64 u0, .int .i64 u1, .bool u2]; simpa using h⟩
  have k0 := Blk.cell (Many.blk HM.out 0 _ _ _ rfl) 0 _ rfl
  have k1 := Blk.cell (Many.blk HM.out 0 _ _ _ rfl) 1 _ rfl
  have k2 := Blk.cell (Many.blk HM.out 0 _ _ _ rfl) 2 _ rfl
  have k3 := Blk.cell (Many.blk HM.out 0 _ _ _ rfl) 3 _ rfl
  have k4 := Blk.cell (Many.blk HM.out 0 _ _ _ rfl) 4 _ rfl
  have k5 := Blk.cell (Many.blk HM.out 0 _ _ _ rfl) 5 _ rfl
  have k6 := Blk.cell (Many.blk HM.out 0 _ _ _ rfl) 6 _ rfl
  have k7 := Blk.cell (Many.blk HM.out 0 _ _ _ rfl) 7 _ rfl
  have k8 := Blk.cell (Many.blk HM.out 0 _ _ _ rfl) 8 _ rfl
  have p0 := Blk.cell (Many.blk HM.out 1 _ _ _ rfl) 0 _ rfl
  have p1 := Blk.cell (Many.blk HM.out 1 _ _ _ rfl) 1 _ rfl
  have p2 := Blk.cell (Many.blk HM.out 1 _ _ _ rfl) 2 _ rfl
  go_enter Try.func5, Try.ntmps5
  go_wp2_with (first
    | (go_at_call 8; ((with_reducible refine (waywardenlaw15_few.calls c0 c1 c2 c3 c4 c5 c6 cap A cc l false _ (Kd.C_below HR.out HM.out.bel) hc HF.out).mono ?_); rintro e w9 ⟨rfl, hb⟩; have HM := Aside0.mk (Many.later HM.out hb); (try clear k0 k1 k2 k3 k4 k5 k6 k7 k8 p0 p1 p2); have k0 := Blk.cell (Many.blk HM.out 0 _ _ _ rfl) 0 _ rfl; have k1 := Blk.cell (Many.blk HM.out 0 _ _ _ rfl) 1 _ rfl; have k2 := Blk.cell (Many.blk HM.out 0 _ _ _ rfl) 2 _ rfl; have k3 := Blk.cell (Many.blk HM.out 0 _ _ _ rfl) 3 _ rfl; have k4 := Blk.cell (Many.blk HM.out 0 _ _ _ rfl) 4 _ rfl; have k5 := Blk.cell (Many.blk HM.out 0 _ _ _ rfl) 5 _ rfl; have k6 := Blk.cell (Many.blk HM.out 0 _ _ _ rfl) 6 _ rfl; have k7 := Blk.cell (Many.blk HM.out 0 _ _ _ rfl) 7 _ rfl; have k8 := Blk.cell (Many.blk HM.out 0 _ _ _ rfl) 8 _ rfl; have p0 := Blk.cell (Many.blk HM.out 1 _ _ _ rfl) 0 _ rfl; have p1 := Blk.cell (Many.blk HM.out 1 _ _ _ rfl) 1 _ rfl; have p2 := Blk.cell (Many.blk HM.out 1 _ _ _ rfl) 2 _ rfl; clear hb))
    | (go_at_call 9; go_loud ((with_reducible refine (works_any _).mono ?_); rintro e w9 ⟨rfl, hb⟩; have HM := Aside0.mk (Many.later HM.out hb); (try clear k0 k1 k2 k3 k4 k5 k6 k7 k8 p0 p1 p2); have k0 := Blk.cell (Many.blk HM.out 0 _ _ _ rfl) 0 _ rfl; have k1 := Blk.cell (Many.blk HM.out 0 _ _ _ rfl) 1 _ rfl; have k2 := Blk.cell (Many.blk HM.out 0 _ _ _ rfl) 2 _ rfl; have k3 := Blk.cell (Many.blk HM.out 0 _ _ _ rfl) 3 _ rfl; have k4 := Blk.cell (Many.blk HM.out 0 _ _ _ rfl) 4 _ rfl; have k5 := Blk.cell (Many.blk HM.out 0 _ _ _ rfl) 5 _ rfl; have k6 := Blk.cell (Many.blk HM.out 0 _ _ _ rfl) 6 _ rfl; have k7 := Blk.cell (Many.blk HM.out 0 _ _ _ rfl) 7 _ rfl; have k8 := Blk.cell (Many.blk HM.out 0 _ _ _ rfl) 8 _ rfl; have p0 := Blk.cell (Many.blk HM.out 1 _ _ _ rfl) 0 _ rfl; have p1 := Blk.cell (Many.blk HM.out 1 _ _ _ rfl) 1 _ rfl; have p2 := Blk.cell (Many.blk HM.out 1 _ _ _ rfl) 2 _ rfl; clear hb)))
  go_ret
  exact ⟨rfl, HM.out.bel⟩
set_option maxRecDepth 100000 in
set_option maxHeartbeats 16000000 in
theorem next_bad (c0 c1 c2 c3 c4 c5 c6 cap : Int) (A : Option Addr) (l : List Pfx) (cc : Nat) (u0 u1 : Int) (u2 : Bool) (ah d E : Int) (w : World) (hr : Kd.C k81 w A l.length l) (hc : l.length ≤ cc) (ha : AdrP l) (hm : l.length ≤ 140737488355328) (hfew : l.length ≤ 20) (hE : (E != 0) = true) (hAS : ∀ W : World, Kd.C k81 W A l.length l → Calls Try.prog 11 #[.agg #[.int .i64 c0, .int .i64 c1, .int .i64 c2, .int .i64 c3, .int .i64 c4, .int .i64 c5, .int .i64 c6, .int .i64 cap, .slice A l.length cc], .agg #[.int .i64 u0, .int .i64 u1, .bool u2], .int .i64 0] W fun e w' => e = .returned (.int .i64 E) ∧ Below W.heap.size W w') :
    Calls Try.prog 5 #[.agg #[.int .i64 c0, .int .i64 c1, .int .i64 c2, .int .i64 c3, .int .i64 c4, .int .i64 c5, .int .i64 c6, .int .i64 cap, .slice A l.length cc], .agg #[.int .i64 u0, .int .i64 u1, .bool u2], .int .i64 ah, .int .i64 d] w fun e w' => e = .returned (.bool true) ∧ Below w.heap.size w w' := by
  have HR := Aside0.mk hr
  have HA := Aside0.mk ha
  clear hr ha
  have HF : Aside0 (waywardenlaw15_few.f c0 c1 c2 c3 c4 c5 c6 cap l = some true) := ⟨by unfold waywardenlaw15_few.f; congr 1; apply decide_eq_true; omega⟩
  have HhAS := Aside0.mk hAS
  clear hAS
  have HM : Aside0 (Many w [(w.heap.size, 24, #[.int .i64 c0, .int .i64 c1, .int .i64 c2, .int .i64 c3, .int .i64 c4, .int .i64 c5, .int .i64 c6, .int .i64 cap, .slice A l.length cc]), ((w.heap.size + 1), 28, #[.int .i64 u0, .int .i64 u1, .bool u2])] ((w.alloc (.cells #[.int .i64 c0, .int .i64 c1, .int .i64 c2, .int .i64 c3, .int .i64 c4, .int .i64 c5, .int .i64 c6, .int .i64 cap, .slice A l.length cc] 24)).alloc (.cells #[.int .i64 u0, .int .i64 u1, .bool u2] 28))) := ⟨by have h := Many.grow (Many.grow (Many.none w) 24 #[.int .i64 c0, .int .i64 c1, .int .i64 c2, .int .i64 c3, .int .i64 c4, .int .i64 c5, .int .i64 c6, .int .i64 cap, .slice A l.length cc]) 28 #[.int .i64 u0, .int .i64 u1, .bool u2]; simpa using h⟩
  have k0 := Blk.cell (Many.blk HM.out 0 _ _ _ rfl) 0 _ rfl
  have k1 := Blk.cell (Many.blk HM.out 0 _ _ _ rfl) 1 _ rfl
  have k2 := Blk.cell (Many.blk HM.out 0 _ _ _ rfl) 2 _ rfl
  have k3 := Blk.cell (Many.blk HM.out 0 _ _ _ rfl) 3 _ rfl
  have k4 := Blk.cell (Many.blk HM.out 0 _ _ _ rfl) 4 _ rfl
  have k5 := Blk.cell (Many.blk HM.out 0 _ _ _ rfl) 5 _ rfl
  have k6 := Blk.cell (Many.blk HM.out 0 _ _ _ rfl) 6 _ rfl
  have k7 := Blk.cell (Many.blk HM.out 0 _ _ _ rfl) 7 _ rfl
  have k8 := Blk.cell (Many.blk HM.out 0 _ _ _ rfl) 8 _ rfl
  have p0 := Blk.cell (Many.blk HM.out 1 _ _ _ rfl) 0 _ rfl
  have p1 := Blk.cell (Many.blk HM.out 1 _ _ _ rfl) 1 _ rfl
  have p2 := Blk.cell (Many.blk HM.out 1 _ _ _ rfl) 2 _ rfl
  go_enter Try.func5, Try.ntmps5
  go_wp2_with (first
    | (go_at_call 8; ((with_reducible refine (waywardenlaw15_few.calls c0 c1 c2 c3 c4 c5 c6 cap A cc l true _ (Kd.C_below HR.out HM.out.bel) hc HF.out).mono ?_); rintro e w9 ⟨rfl, hb⟩; have HM := Aside0.mk (Many.later HM.out hb); (try clear k0 k1 k2 k3 k4 k5 k6 k7 k8 p0 p1 p2); have k0 := Blk.cell (Many.blk HM.out 0 _ _ _ rfl) 0 _ rfl; have k1 := Blk.cell (Many.blk HM.out 0 _ _ _ rfl) 1 _ rfl; have k2 := Blk.cell (Many.blk HM.out 0 _ _ _ rfl) 2 _ rfl; have k3 := Blk.cell (Many.blk HM.out 0 _ _ _ rfl) 3 _ rfl; have k4 := Blk.cell (Many.blk HM.out 0 _ _ _ rfl) 4 _ rfl; have k5 := Blk.cell (Many.blk HM.out 0 _ _ _ rfl) 5 _ rfl; have k6 := Blk.cell (Many.blk HM.out 0 _ _ _ rfl) 6 _ rfl; have k7 := Blk.cell (Many.blk HM.out 0 _ _ _ rfl) 7 _ rfl; have k8 := Blk.cell (Many.blk HM.out 0 _ _ _ rfl) 8 _ rfl; have p0 := Blk.cell (Many.blk HM.out 1 _ _ _ rfl) 0 _ rfl; have p1 := Blk.cell (Many.blk HM.out 1 _ _ _ rfl) 1 _ rfl; have p2 := Blk.cell (Many.blk HM.out 1 _ _ _ rfl) 2 _ rfl; clear hb))
    | (go_at_call 9; go_loud ((with_reducible refine (works_any _).mono ?_); rintro e w9 ⟨rfl, hb⟩; have HM := Aside0.mk (Many.later HM.out hb); (try clear k0 k1 k2 k3 k4 k5 k6 k7 k8 p0 p1 p2); have k0 := Blk.cell (Many.blk HM.out 0 _ _ _ rfl) 0 _ rfl; have k1 := Blk.cell (Many.blk HM.out 0 _ _ _ rfl) 1 _ rfl; have k2 := Blk.cell (Many.blk HM.out 0 _ _ _ rfl) 2 _ rfl; have k3 := Blk.cell (Many.blk HM.out 0 _ _ _ rfl) 3 _ rfl; have k4 := Blk.cell (Many.blk HM.out 0 _ _ _ rfl) 4 _ rfl; have k5 := Blk.cell (Many.blk HM.out 0 _ _ _ rfl) 5 _ rfl; have k6 := Blk.cell (Many.blk HM.out 0 _ _ _ rfl) 6 _ rfl; have k7 := Blk.cell (Many.blk HM.out 0 _ _ _ rfl) 7 _ rfl; have k8 := Blk.cell (Many.blk HM.out 0 _ _ _ rfl) 8 _ rfl; have p0 := Blk.cell (Many.blk HM.out 1 _ _ _ rfl) 0 _ rfl; have p1 := Blk.cell (Many.blk HM.out 1 _ _ _ rfl) 1 _ rfl; have p2 := Blk.cell (Many.blk HM.out 1 _ _ _ rfl) 2 _ rfl; clear hb))
    | (go_at_call 11; go_loud ((with_reducible refine (HhAS.out _ (Kd.C_below HR.out HM.out.bel)).mono ?_); rintro e w9 ⟨rfl, hb⟩; have HM := Aside0.mk (Many.later HM.out hb); (try clear k0 k1 k2 k3 k4 k5 k6 k7 k8 p0 p1 p2); have k0 := Blk.cell (Many.blk HM.out 0 _ _ _ rfl) 0 _ rfl; have k1 := Blk.cell (Many.blk HM.out 0 _ _ _ rfl) 1 _ rfl; have k2 := Blk.cell (Many.blk HM.out 0 _ _ _ rfl) 2 _ rfl; have k3 := Blk.cell (Many.blk HM.out 0 _ _ _ rfl) 3 _ rfl; have k4 := Blk.cell (Many.blk HM.out 0 _ _ _ rfl) 4 _ rfl; have k5 := Blk.cell (Many.blk HM.out 0 _ _ _ rfl) 5 _ rfl; have k6 := Blk.cell (Many.blk HM.out 0 _ _ _ rfl) 6 _ rfl; have k7 := Blk.cell (Many.blk HM.out 0 _ _ _ rfl) 7 _ rfl; have k8 := Blk.cell (Many.blk HM.out 0 _ _ _ rfl) 8 _ rfl; have p0 := Blk.cell (Many.blk HM.out 1 _ _ _ rfl) 0 _ rfl; have p1 := Blk.cell (Many.blk HM.out 1 _ _ _ rfl) 1 _ rfl; have p2 := Blk.cell (Many.blk HM.out 1 _ _ _ rfl) 2 _ rfl; clear hb)))
  go_ret
  exact ⟨rfl, HM.out.bel⟩
set_option maxRecDepth 100000 in
set_option maxHeartbeats 16000000 in
theorem next_huge (c0 c1 c2 c3 c4 c5 c6 cap : Int) (A : Option Addr) (l : List Pfx) (cc : Nat) (u0 u1 : Int) (u2 : Bool) (ah d n : Int) (w : World) (hr : Kd.C k81 w A l.length l) (hc : l.length ≤ cc) (ha : AdrP l) (hm : l.length ≤ 140737488355328) (hfew : l.length ≤ 20) (hn0 : 0 ≤ n) (hn1 : 2305843009213693952 < n) (hAS : ∀ W : World, Kd.C k81 W A l.length l → Calls Try.prog 11 #[.agg #[.int .i64 c0, .int .i64 c1, .int .i64 c2, .int .i64 c3, .int .i64 c4, .int .i64 c5, .int .i64 c6, .int .i64 cap, .slice A l.length cc], .agg #[.int .i64 u0, .int .i64 u1, .bool u2], .int .i64 0] W fun e w' => e = .returned (.int .i64 0) ∧ Below W.heap.size W w') (hNX : ∀ W : World, Calls Try.prog 16 #[.agg #[.int .i64 u0, .int .i64 u1, .bool u2]] W fun e w' => e = .returned (.int .i64 n) ∧ Below W.heap.size W w') (hRN : ∀ W : World, Calls Try.prog 17 #[.agg #[.int .i64 u0, .int .i64 u1, .bool u2]] W fun e w' => e = .returned (.int .i64 n) ∧ Below W.heap.size W w') :
    Calls Try.prog 5 #[.agg #[.int .i64 c0, .int .i64 c1, .int .i64 c2, .int .i64 c3, .int .i64 c4, .int .i64 c5, .int .i64 c6, .int .i64 cap, .slice A l.length cc], .agg #[.int .i64 u0, .int .i64 u1, .bool u2], .int .i64 ah, .int .i64 d] w fun e w' => e = .returned (.bool true) ∧ Below w.heap.size w w' := by
  have HR := Aside0.mk hr
  have HA := Aside0.mk ha
  clear hr ha
  have HF : Aside0 (waywardenlaw15_few.f c0 c1 c2 c3 c4 c5 c6 cap l = some true) := ⟨by unfold waywardenlaw15_few.f; congr 1; apply decide_eq_true; omega⟩
  have HhAS := Aside0.mk hAS
  have HhNX := Aside0.mk hNX
  have HhRN := Aside0.mk hRN
  clear hAS hNX hRN
  have dn0 : decide (n < 0) = false := decide_eq_false (by omega)
  have dn1 : decide (n > 2305843009213693952) = true := decide_eq_true (by omega)
  have dn2 : decide (2305843009213693952 < n) = true := decide_eq_true (by omega)
  clear hn0 hn1
  have HM : Aside0 (Many w [(w.heap.size, 24, #[.int .i64 c0, .int .i64 c1, .int .i64 c2, .int .i64 c3, .int .i64 c4, .int .i64 c5, .int .i64 c6, .int .i64 cap, .slice A l.length cc]), ((w.heap.size + 1), 28, #[.int .i64 u0, .int .i64 u1, .bool u2])] ((w.alloc (.cells #[.int .i64 c0, .int .i64 c1, .int .i64 c2, .int .i64 c3, .int .i64 c4, .int .i64 c5, .int .i64 c6, .int .i64 cap, .slice A l.length cc] 24)).alloc (.cells #[.int .i64 u0, .int .i64 u1, .bool u2] 28))) := ⟨by have h := Many.grow (Many.grow (Many.none w) 24 #[.int .i64 c0, .int .i64 c1, .int .i64 c2, .int .i64 c3, .int .i64 c4, .int .i64 c5, .int .i64 c6, .int .i64 cap, .slice A l.length cc]) 28 #[.int .i64 u0, .int .i64 u1, .bool u2]; simpa using h⟩
  have k0 := Blk.cell (Many.blk HM.out 0 _ _ _ rfl) 0 _ rfl
  have k1 := Blk.cell (Many.blk HM.out 0 _ _ _ rfl) 1 _ rfl
  have k2 := Blk.cell (Many.blk HM.out 0 _ _ _ rfl) 2 _ rfl
  have k3 := Blk.cell (Many.blk HM.out 0 _ _ _ rfl) 3 _ rfl
  have k4 := Blk.cell (Many.blk HM.out 0 _ _ _ rfl) 4 _ rfl
  have k5 := Blk.cell (Many.blk HM.out 0 _ _ _ rfl) 5 _ rfl
  have k6 := Blk.cell (Many.blk HM.out 0 _ _ _ rfl) 6 _ rfl
  have k7 := Blk.cell (Many.blk HM.out 0 _ _ _ rfl) 7 _ rfl
  have k8 := Blk.cell (Many.blk HM.out 0 _ _ _ rfl) 8 _ rfl
  have p0 := Blk.cell (Many.blk HM.out 1 _ _ _ rfl) 0 _ rfl
  have p1 := Blk.cell (Many.blk HM.out 1 _ _ _ rfl) 1 _ rfl
  have p2 := Blk.cell (Many.blk HM.out 1 _ _ _ rfl) 2 _ rfl
  go_enter Try.func5, Try.ntmps5
  go_wp2_with (first
    | (go_at_call 8; ((with_reducible refine (waywardenlaw15_few.calls c0 c1 c2 c3 c4 c5 c6 cap A cc l true _ (Kd.C_below HR.out HM.out.bel) hc HF.out).mono ?_); rintro e w9 ⟨rfl, hb⟩; have HM := Aside0.mk (Many.later HM.out hb); (try clear k0 k1 k2 k3 k4 k5 k6 k7 k8 p0 p1 p2); have k0 := Blk.cell (Many.blk HM.out 0 _ _ _ rfl) 0 _ rfl; have k1 := Blk.cell (Many.blk HM.out 0 _ _ _ rfl) 1 _ rfl; have k2 := Blk.cell (Many.blk HM.out 0 _ _ _ rfl) 2 _ rfl; have k3 := Blk.cell (Many.blk HM.out 0 _ _ _ rfl) 3 _ rfl; have k4 := Blk.cell (Many.blk HM.out 0 _ _ _ rfl) 4 _ rfl; have k5 := Blk.cell (Many.blk HM.out 0 _ _ _ rfl) 5 _ rfl; have k6 := Blk.cell (Many.blk HM.out 0 _ _ _ rfl) 6 _ rfl; have k7 := Blk.cell (Many.blk HM.out 0 _ _ _ rfl) 7 _ rfl; have k8 := Blk.cell (Many.blk HM.out 0 _ _ _ rfl) 8 _ rfl; have p0 := Blk.cell (Many.blk HM.out 1 _ _ _ rfl) 0 _ rfl; have p1 := Blk.cell (Many.blk HM.out 1 _ _ _ rfl) 1 _ rfl; have p2 := Blk.cell (Many.blk HM.out 1 _ _ _ rfl) 2 _ rfl; clear hb))
    | (go_at_call 9; go_loud ((with_reducible refine (works_any _).mono ?_); rintro e w9 ⟨rfl, hb⟩; have HM := Aside0.mk (Many.later HM.out hb); (try clear k0 k1 k2 k3 k4 k5 k6 k7 k8 p0 p1 p2); have k0 := Blk.cell (Many.blk HM.out 0 _ _ _ rfl) 0 _ rfl; have k1 := Blk.cell (Many.blk HM.out 0 _ _ _ rfl) 1 _ rfl; have k2 := Blk.cell (Many.blk HM.out 0 _ _ _ rfl) 2 _ rfl; have k3 := Blk.cell (Many.blk HM.out 0 _ _ _ rfl) 3 _ rfl; have k4 := Blk.cell (Many.blk HM.out 0 _ _ _ rfl) 4 _ rfl; have k5 := Blk.cell (Many.blk HM.out 0 _ _ _ rfl) 5 _ rfl; have k6 := Blk.cell (Many.blk HM.out 0 _ _ _ rfl) 6 _ rfl; have k7 := Blk.cell (Many.blk HM.out 0 _ _ _ rfl) 7 _ rfl; have k8 := Blk.cell (Many.blk HM.out 0 _ _ _ rfl) 8 _ rfl; have p0 := Blk.cell (Many.blk HM.out 1 _ _ _ rfl) 0 _ rfl; have p1 := Blk.cell (Many.blk HM.out 1 _ _ _ rfl) 1 _ rfl; have p2 := Blk.cell (Many.blk HM.out 1 _ _ _ rfl) 2 _ rfl; clear hb))
    | (go_at_call 11; go_loud ((with_reducible refine (HhAS.out _ (Kd.C_below HR.out HM.out.bel)).mono ?_); rintro e w9 ⟨rfl, hb⟩; have HM := Aside0.mk (Many.later HM.out hb); (try clear k0 k1 k2 k3 k4 k5 k6 k7 k8 p0 p1 p2); have k0 := Blk.cell (Many.blk HM.out 0 _ _ _ rfl) 0 _ rfl; have k1 := Blk.cell (Many.blk HM.out 0 _ _ _ rfl) 1 _ rfl; have k2 := Blk.cell (Many.blk HM.out 0 _ _ _ rfl) 2 _ rfl; have k3 := Blk.cell (Many.blk HM.out 0 _ _ _ rfl) 3 _ rfl; have k4 := Blk.cell (Many.blk HM.out 0 _ _ _ rfl) 4 _ rfl; have k5 := Blk.cell (Many.blk HM.out 0 _ _ _ rfl) 5 _ rfl; have k6 := Blk.cell (Many.blk HM.out 0 _ _ _ rfl) 6 _ rfl; have k7 := Blk.cell (Many.blk HM.out 0 _ _ _ rfl) 7 _ rfl; have k8 := Blk.cell (Many.blk HM.out 0 _ _ _ rfl) 8 _ rfl; have p0 := Blk.cell (Many.blk HM.out 1 _ _ _ rfl) 0 _ rfl; have p1 := Blk.cell (Many.blk HM.out 1 _ _ _ rfl) 1 _ rfl; have p2 := Blk.cell (Many.blk HM.out 1 _ _ _ rfl) 2 _ rfl; clear hb))
    | (go_at_call 16; go_loud ((with_reducible refine (HhNX.out _).mono ?_); rintro e w9 ⟨rfl, hb⟩; have HM := Aside0.mk (Many.later HM.out hb); (try clear k0 k1 k2 k3 k4 k5 k6 k7 k8 p0 p1 p2); have k0 := Blk.cell (Many.blk HM.out 0 _ _ _ rfl) 0 _ rfl; have k1 := Blk.cell (Many.blk HM.out 0 _ _ _ rfl) 1 _ rfl; have k2 := Blk.cell (Many.blk HM.out 0 _ _ _ rfl) 2 _ rfl; have k3 := Blk.cell (Many.blk HM.out 0 _ _ _ rfl) 3 _ rfl; have k4 := Blk.cell (Many.blk HM.out 0 _ _ _ rfl) 4 _ rfl; have k5 := Blk.cell (Many.blk HM.out 0 _ _ _ rfl) 5 _ rfl; have k6 := Blk.cell (Many.blk HM.out 0 _ _ _ rfl) 6 _ rfl; have k7 := Blk.cell (Many.blk HM.out 0 _ _ _ rfl) 7 _ rfl; have k8 := Blk.cell (Many.blk HM.out 0 _ _ _ rfl) 8 _ rfl; have p0 := Blk.cell (Many.blk HM.out 1 _ _ _ rfl) 0 _ rfl; have p1 := Blk.cell (Many.blk HM.out 1 _ _ _ rfl) 1 _ rfl; have p2 := Blk.cell (Many.blk HM.out 1 _ _ _ rfl) 2 _ rfl; clear hb))
    | (go_at_call 17; go_loud ((with_reducible refine (HhRN.out _).mono ?_); rintro e w9 ⟨rfl, hb⟩; have HM := Aside0.mk (Many.later HM.out hb); (try clear k0 k1 k2 k3 k4 k5 k6 k7 k8 p0 p1 p2); have k0 := Blk.cell (Many.blk HM.out 0 _ _ _ rfl) 0 _ rfl; have k1 := Blk.cell (Many.blk HM.out 0 _ _ _ rfl) 1 _ rfl; have k2 := Blk.cell (Many.blk HM.out 0 _ _ _ rfl) 2 _ rfl; have k3 := Blk.cell (Many.blk HM.out 0 _ _ _ rfl) 3 _ rfl; have k4 := Blk.cell (Many.blk HM.out 0 _ _ _ rfl) 4 _ rfl; have k5 := Blk.cell (Many.blk HM.out 0 _ _ _ rfl) 5 _ rfl; have k6 := Blk.cell (Many.blk HM.out 0 _ _ _ rfl) 6 _ rfl; have k7 := Blk.cell (Many.blk HM.out 0 _ _ _ rfl) 7 _ rfl; have k8 := Blk.cell (Many.blk HM.out 0 _ _ _ rfl) 8 _ rfl; have p0 := Blk.cell (Many.blk HM.out 1 _ _ _ rfl) 0 _ rfl; have p1 := Blk.cell (Many.blk HM.out 1 _ _ _ rfl) 1 _ rfl; have p2 := Blk.cell (Many.blk HM.out 1 _ _ _ rfl) 2 _ rfl; clear hb)))
  go_ret
  exact ⟨rfl, HM.out.bel⟩
set_option maxRecDepth 100000 in
set_option maxHeartbeats 16000000 in
theorem next_ah1 (c0 c1 c2 c3 c4 c5 c6 cap : Int) (A : Option Addr) (l : List Pfx) (cc : Nat) (u0 u1 : Int) (u2 : Bool) (ah d n X0 X1 K : Int) (w : World) (hr : Kd.C k81 w A l.length l) (hc : l.length ≤ cc) (ha : AdrP l) (hm : l.length ≤ 140737488355328) (hfew : l.length ≤ 20) (hn0 : 0 ≤ n) (hn1 : n ≤ 2305843009213693952) (hK : (K == 0) = false) (hah : ah < 1) (hAS : ∀ W : World, Kd.C k81 W A l.length l → Calls Try.prog 11 #[.agg #[.int .i64 c0, .int .i64 c1, .int .i64 c2, .int .i64 c3, .int .i64 c4, .int .i64 c5, .int .i64 c6, .int .i64 cap, .slice A l.length cc], .agg #[.int .i64 u0, .int .i64 u1, .bool u2], .int .i64 0] W fun e w' => e = .returned (.int .i64 0) ∧ Below W.heap.size W w') (hNX : ∀ W : World, Calls Try.prog 16 #[.agg #[.int .i64 u0, .int .i64 u1, .bool u2]] W fun e w' => e = .returned (.int .i64 n) ∧ Below W.heap.size W w') (hT1 : ∀ W : World, Kd.C k81 W A l.length l → Calls Try.prog 15 #[.agg #[.int .i64 c0, .int .i64 c1, .int .i64 c2, .int .i64 c3, .int .i64 c4, .int .i64 c5, .int .i64 c6, .int .i64 cap, .slice A l.length cc], .agg #[.int .i64 u0, .int .i64 u1, .bool u2], .int .i64 n, .int .i64 d] W fun e w' => e = .returned (.tuple #[.agg #[.int .i64 X0, .int .i64 X1, .bool false], .int .i64 K, .int .i64 0]) ∧ Below W.heap.size W w') :
    Calls Try.prog 5 #[.agg #[.int .i64 c0, .int .i64 c1, .int .i64 c2, .int .i64 c3, .int .i64 c4, .int .i64 c5, .int .i64 c6, .int .i64 cap, .slice A l.length cc], .agg #[.int .i64 u0, .int .i64 u1, .bool u2], .int .i64 ah, .int .i64 d] w fun e w' => e = .returned (.bool true) ∧ Below w.heap.size w w' := by
  have HR := Aside0.mk hr
  have HA := Aside0.mk ha
  clear hr ha
  have HF : Aside0 (waywardenlaw15_few.f c0 c1 c2 c3 c4 c5 c6 cap l = some true) := ⟨by unfold waywardenlaw15_few.f; congr 1; apply decide_eq_true; omega⟩
  have HhAS := Aside0.mk hAS
  have HhNX := Aside0.mk hNX
  have HhT1 := Aside0.mk hT1
  clear hAS hNX hT1
  have dn0 : decide (n < 0) = false := decide_eq_false (by omega)
  have dn1 : decide (n > 2305843009213693952) = false := decide_eq_false (by omega)
  have dn2 : decide (2305843009213693952 < n) = false := decide_eq_false (by omega)
  have da0 : decide (ah < 1) = true := decide_eq_true (by omega)
  clear hn0 hn1
  have HM : Aside0 (Many w [(w.heap.size, 24, #[.int .i64 c0, .int .i64 c1, .int .i64 c2, .int .i64 c3, .int .i64 c4, .int .i64 c5, .int .i64 c6, .int .i64 cap, .slice A l.length cc]), ((w.heap.size + 1), 28, #[.int .i64 u0, .int .i64 u1, .bool u2])] ((w.alloc (.cells #[.int .i64 c0, .int .i64 c1, .int .i64 c2, .int .i64 c3, .int .i64 c4, .int .i64 c5, .int .i64 c6, .int .i64 cap, .slice A l.length cc] 24)).alloc (.cells #[.int .i64 u0, .int .i64 u1, .bool u2] 28))) := ⟨by have h := Many.grow (Many.grow (Many.none w) 24 #[.int .i64 c0, .int .i64 c1, .int .i64 c2, .int .i64 c3, .int .i64 c4, .int .i64 c5, .int .i64 c6, .int .i64 cap, .slice A l.length cc]) 28 #[.int .i64 u0, .int .i64 u1, .bool u2]; simpa using h⟩
  have k0 := Blk.cell (Many.blk HM.out 0 _ _ _ rfl) 0 _ rfl
  have k1 := Blk.cell (Many.blk HM.out 0 _ _ _ rfl) 1 _ rfl
  have k2 := Blk.cell (Many.blk HM.out 0 _ _ _ rfl) 2 _ rfl
  have k3 := Blk.cell (Many.blk HM.out 0 _ _ _ rfl) 3 _ rfl
  have k4 := Blk.cell (Many.blk HM.out 0 _ _ _ rfl) 4 _ rfl
  have k5 := Blk.cell (Many.blk HM.out 0 _ _ _ rfl) 5 _ rfl
  have k6 := Blk.cell (Many.blk HM.out 0 _ _ _ rfl) 6 _ rfl
  have k7 := Blk.cell (Many.blk HM.out 0 _ _ _ rfl) 7 _ rfl
  have k8 := Blk.cell (Many.blk HM.out 0 _ _ _ rfl) 8 _ rfl
  have p0 := Blk.cell (Many.blk HM.out 1 _ _ _ rfl) 0 _ rfl
  have p1 := Blk.cell (Many.blk HM.out 1 _ _ _ rfl) 1 _ rfl
  have p2 := Blk.cell (Many.blk HM.out 1 _ _ _ rfl) 2 _ rfl
  go_enter Try.func5, Try.ntmps5
  go_upto_region 7 with (first
    | (go_at_call 8; ((with_reducible refine (waywardenlaw15_few.calls c0 c1 c2 c3 c4 c5 c6 cap A cc l true _ (Kd.C_below HR.out HM.out.bel) hc HF.out).mono ?_); rintro e w9 ⟨rfl, hb⟩; have HM := Aside0.mk (Many.later HM.out hb); (try clear k0 k1 k2 k3 k4 k5 k6 k7 k8 p0 p1 p2); have k0 := Blk.cell (Many.blk HM.out 0 _ _ _ rfl) 0 _ rfl; have k1 := Blk.cell (Many.blk HM.out 0 _ _ _ rfl) 1 _ rfl; have k2 := Blk.cell (Many.blk HM.out 0 _ _ _ rfl) 2 _ rfl; have k3 := Blk.cell (Many.blk HM.out 0 _ _ _ rfl) 3 _ rfl; have k4 := Blk.cell (Many.blk HM.out 0 _ _ _ rfl) 4 _ rfl; have k5 := Blk.cell (Many.blk HM.out 0 _ _ _ rfl) 5 _ rfl; have k6 := Blk.cell (Many.blk HM.out 0 _ _ _ rfl) 6 _ rfl; have k7 := Blk.cell (Many.blk HM.out 0 _ _ _ rfl) 7 _ rfl; have k8 := Blk.cell (Many.blk HM.out 0 _ _ _ rfl) 8 _ rfl; have p0 := Blk.cell (Many.blk HM.out 1 _ _ _ rfl) 0 _ rfl; have p1 := Blk.cell (Many.blk HM.out 1 _ _ _ rfl) 1 _ rfl; have p2 := Blk.cell (Many.blk HM.out 1 _ _ _ rfl) 2 _ rfl; clear hb))
    | (go_at_call 9; go_loud ((with_reducible refine (works_any _).mono ?_); rintro e w9 ⟨rfl, hb⟩; have HM := Aside0.mk (Many.later HM.out hb); (try clear k0 k1 k2 k3 k4 k5 k6 k7 k8 p0 p1 p2); have k0 := Blk.cell (Many.blk HM.out 0 _ _ _ rfl) 0 _ rfl; have k1 := Blk.cell (Many.blk HM.out 0 _ _ _ rfl) 1 _ rfl; have k2 := Blk.cell (Many.blk HM.out 0 _ _ _ rfl) 2 _ rfl; have k3 := Blk.cell (Many.blk HM.out 0 _ _ _ rfl) 3 _ rfl; have k4 := Blk.cell (Many.blk HM.out 0 _ _ _ rfl) 4 _ rfl; have k5 := Blk.cell (Many.blk HM.out 0 _ _ _ rfl) 5 _ rfl; have k6 := Blk.cell (Many.blk HM.out 0 _ _ _ rfl) 6 _ rfl; have k7 := Blk.cell (Many.blk HM.out 0 _ _ _ rfl) 7 _ rfl; have k8 := Blk.cell (Many.blk HM.out 0 _ _ _ rfl) 8 _ rfl; have p0 := Blk.cell (Many.blk HM.out 1 _ _ _ rfl) 0 _ rfl; have p1 := Blk.cell (Many.blk HM.out 1 _ _ _ rfl) 1 _ rfl; have p2 := Blk.cell (Many.blk HM.out 1 _ _ _ rfl) 2 _ rfl; clear hb))
    | (go_at_call 11; go_loud ((with_reducible refine (HhAS.out _ (Kd.C_below HR.out HM.out.bel)).mono ?_); rintro e w9 ⟨rfl, hb⟩; have HM := Aside0.mk (Many.later HM.out hb); (try clear k0 k1 k2 k3 k4 k5 k6 k7 k8 p0 p1 p2); have k0 := Blk.cell (Many.blk HM.out 0 _ _ _ rfl) 0 _ rfl; have k1 := Blk.cell (Many.blk HM.out 0 _ _ _ rfl) 1 _ rfl; have k2 := Blk.cell (Many.blk HM.out 0 _ _ _ rfl) 2 _ rfl; have k3 := Blk.cell (Many.blk HM.out 0 _ _ _ rfl) 3 _ rfl; have k4 := Blk.cell (Many.blk HM.out 0 _ _ _ rfl) 4 _ rfl; have k5 := Blk.cell (Many.blk HM.out 0 _ _ _ rfl) 5 _ rfl; have k6 := Blk.cell (Many.blk HM.out 0 _ _ _ rfl) 6 _ rfl; have k7 := Blk.cell (Many.blk HM.out 0 _ _ _ rfl) 7 _ rfl; have k8 := Blk.cell (Many.blk HM.out 0 _ _ _ rfl) 8 _ rfl; have p0 := Blk.cell (Many.blk HM.out 1 _ _ _ rfl) 0 _ rfl; have p1 := Blk.cell (Many.blk HM.out 1 _ _ _ rfl) 1 _ rfl; have p2 := Blk.cell (Many.blk HM.out 1 _ _ _ rfl) 2 _ rfl; clear hb))
    | (go_at_call 16; go_loud ((with_reducible refine (HhNX.out _).mono ?_); rintro e w9 ⟨rfl, hb⟩; have HM := Aside0.mk (Many.later HM.out hb); (try clear k0 k1 k2 k3 k4 k5 k6 k7 k8 p0 p1 p2); have k0 := Blk.cell (Many.blk HM.out 0 _ _ _ rfl) 0 _ rfl; have k1 := Blk.cell (Many.blk HM.out 0 _ _ _ rfl) 1 _ rfl; have k2 := Blk.cell (Many.blk HM.out 0 _ _ _ rfl) 2 _ rfl; have k3 := Blk.cell (Many.blk HM.out 0 _ _ _ rfl) 3 _ rfl; have k4 := Blk.cell (Many.blk HM.out 0 _ _ _ rfl) 4 _ rfl; have k5 := Blk.cell (Many.blk HM.out 0 _ _ _ rfl) 5 _ rfl; have k6 := Blk.cell (Many.blk HM.out 0 _ _ _ rfl) 6 _ rfl; have k7 := Blk.cell (Many.blk HM.out 0 _ _ _ rfl) 7 _ rfl; have k8 := Blk.cell (Many.blk HM.out 0 _ _ _ rfl) 8 _ rfl; have p0 := Blk.cell (Many.blk HM.out 1 _ _ _ rfl) 0 _ rfl; have p1 := Blk.cell (Many.blk HM.out 1 _ _ _ rfl) 1 _ rfl; have p2 := Blk.cell (Many.blk HM.out 1 _ _ _ rfl) 2 _ rfl; clear hb))
    | (go_at_call 15; go_loud ((with_reducible refine (HhT1.out _ (Kd.C_below HR.out HM.out.bel)).mono ?_); rintro e w9 ⟨rfl, hb⟩; have HM := Aside0.mk (Many.later HM.out hb); (try clear k0 k1 k2 k3 k4 k5 k6 k7 k8 p0 p1 p2); have k0 := Blk.cell (Many.blk HM.out 0 _ _ _ rfl) 0 _ rfl; have k1 := Blk.cell (Many.blk HM.out 0 _ _ _ rfl) 1 _ rfl; have k2 := Blk.cell (Many.blk HM.out 0 _ _ _ rfl) 2 _ rfl; have k3 := Blk.cell (Many.blk HM.out 0 _ _ _ rfl) 3 _ rfl; have k4 := Blk.cell (Many.blk HM.out 0 _ _ _ rfl) 4 _ rfl; have k5 := Blk.cell (Many.blk HM.out 0 _ _ _ rfl) 5 _ rfl; have k6 := Blk.cell (Many.blk HM.out 0 _ _ _ rfl) 6 _ rfl; have k7 := Blk.cell (Many.blk HM.out 0 _ _ _ rfl) 7 _ rfl; have k8 := Blk.cell (Many.blk HM.out 0 _ _ _ rfl) 8 _ rfl; have p0 := Blk.cell (Many.blk HM.out 1 _ _ _ rfl) 0 _ rfl; have p1 := Blk.cell (Many.blk HM.out 1 _ _ _ rfl) 1 _ rfl; have p2 := Blk.cell (Many.blk HM.out 1 _ _ _ rfl) 2 _ rfl; clear hb)))
  have HM0 := Aside0.mk (Many.grow HM.out 28 #[.int .i64 X0, .int .i64 X1, .bool false])
  obtain ⟨gq, hgq⟩ : ∃ g, w9.heap.size = g := ⟨_, rfl⟩
  obtain ⟨Wq, hWq⟩ : ∃ W', w9.alloc (.cells #[.int .i64 X0, .int .i64 X1, .bool false] 28) = W' := ⟨_, rfl⟩
  have hnq : ∀ p v, w9.cell? p = some v → p.block < gq := fun p v h => by rw [← hgq]; exact World.block_lt_of_cell? w9 p h
  rw [hWq, hgq] at HM0
  rw [hWq, hgq]
  have ltq_k := hnq _ _ (Blk.cell (Many.blk HM.out 0 _ _ _ rfl) 0 _ rfl)
  have ltq_p := hnq _ _ (Blk.cell (Many.blk HM.out 1 _ _ _ rfl) 0 _ rfl)
  clear hnq hgq hWq k0 k1 k2 k3 k4 k5 k6 k7 k8 p0 p1 p2 HM
  have HM : Aside0 (Many w [(w.heap.size, 24, #[.int .i64 c0, .int .i64 c1, .int .i64 c2, .int .i64 c3, .int .i64 c4, .int .i64 c5, .int .i64 c6, .int .i64 cap, .slice A l.length cc]), ((w.heap.size + 1), 28, #[.int .i64 u0, .int .i64 u1, .bool u2]), (gq, 28, #[.int .i64 X0, .int .i64 X1, .bool false])] Wq) := ⟨HM0.out⟩
  clear HM0
  have k0 := Blk.cell (Many.blk HM.out 0 _ _ _ rfl) 0 _ rfl
  have k1 := Blk.cell (Many.blk HM.out 0 _ _ _ rfl) 1 _ rfl
  have k2 := Blk.cell (Many.blk HM.out 0 _ _ _ rfl) 2 _ rfl
  have k3 := Blk.cell (Many.blk HM.out 0 _ _ _ rfl) 3 _ rfl
  have k4 := Blk.cell (Many.blk HM.out 0 _ _ _ rfl) 4 _ rfl
  have k5 := Blk.cell (Many.blk HM.out 0 _ _ _ rfl) 5 _ rfl
  have k6 := Blk.cell (Many.blk HM.out 0 _ _ _ rfl) 6 _ rfl
  have k7 := Blk.cell (Many.blk HM.out 0 _ _ _ rfl) 7 _ rfl
  have k8 := Blk.cell (Many.blk HM.out 0 _ _ _ rfl) 8 _ rfl
  have p0 := Blk.cell (Many.blk HM.out 1 _ _ _ rfl) 0 _ rfl
  have p1 := Blk.cell (Many.blk HM.out 1 _ _ _ rfl) 1 _ rfl
  have p2 := Blk.cell (Many.blk HM.out 1 _ _ _ rfl) 2 _ rfl
  have q0 := Blk.cell (Many.blk HM.out 2 _ _ _ rfl) 0 _ rfl
  have q1 := Blk.cell (Many.blk HM.out 2 _ _ _ rfl) 1 _ rfl
  have q2 := Blk.cell (Many.blk HM.out 2 _ _ _ rfl) 2 _ rfl
  go_wp2_with (first
    | (go_at_call 12; ((with_reducible refine (waywardenlaw15_num.calls _ _ _ rfl).mono ?_); rintro e w9 ⟨rfl, hd⟩; have hb := hd.below; clear hd; have HM := Aside0.mk (Many.later HM.out hb); (try clear k0 k1 k2 k3 k4 k5 k6 k7 k8 p0 p1 p2 q0 q1 q2); have k0 := Blk.cell (Many.blk HM.out 0 _ _ _ rfl) 0 _ rfl; have k1 := Blk.cell (Many.blk HM.out 0 _ _ _ rfl) 1 _ rfl; have k2 := Blk.cell (Many.blk HM.out 0 _ _ _ rfl) 2 _ rfl; have k3 := Blk.cell (Many.blk HM.out 0 _ _ _ rfl) 3 _ rfl; have k4 := Blk.cell (Many.blk HM.out 0 _ _ _ rfl) 4 _ rfl; have k5 := Blk.cell (Many.blk HM.out 0 _ _ _ rfl) 5 _ rfl; have k6 := Blk.cell (Many.blk HM.out 0 _ _ _ rfl) 6 _ rfl; have k7 := Blk.cell (Many.blk HM.out 0 _ _ _ rfl) 7 _ rfl; have k8 := Blk.cell (Many.blk HM.out 0 _ _ _ rfl) 8 _ rfl; have p0 := Blk.cell (Many.blk HM.out 1 _ _ _ rfl) 0 _ rfl; have p1 := Blk.cell (Many.blk HM.out 1 _ _ _ rfl) 1 _ rfl; have p2 := Blk.cell (Many.blk HM.out 1 _ _ _ rfl) 2 _ rfl; have q0 := Blk.cell (Many.blk HM.out 2 _ _ _ rfl) 0 _ rfl; have q1 := Blk.cell (Many.blk HM.out 2 _ _ _ rfl) 1 _ rfl; have q2 := Blk.cell (Many.blk HM.out 2 _ _ _ rfl) 2 _ rfl; clear hb))
    | (go_at_call 9; go_loud ((with_reducible refine (works_any _).mono ?_); rintro e w9 ⟨rfl, hb⟩; have HM := Aside0.mk (Many.later HM.out hb); (try clear k0 k1 k2 k3 k4 k5 k6 k7 k8 p0 p1 p2 q0 q1 q2); have k0 := Blk.cell (Many.blk HM.out 0 _ _ _ rfl) 0 _ rfl; have k1 := Blk.cell (Many.blk HM.out 0 _ _ _ rfl) 1 _ rfl; have k2 := Blk.cell (Many.blk HM.out 0 _ _ _ rfl) 2 _ rfl; have k3 := Blk.cell (Many.blk HM.out 0 _ _ _ rfl) 3 _ rfl; have k4 := Blk.cell (Many.blk HM.out 0 _ _ _ rfl) 4 _ rfl; have k5 := Blk.cell (Many.blk HM.out 0 _ _ _ rfl) 5 _ rfl; have k6 := Blk.cell (Many.blk HM.out 0 _ _ _ rfl) 6 _ rfl; have k7 := Blk.cell (Many.blk HM.out 0 _ _ _ rfl) 7 _ rfl; have k8 := Blk.cell (Many.blk HM.out 0 _ _ _ rfl) 8 _ rfl; have p0 := Blk.cell (Many.blk HM.out 1 _ _ _ rfl) 0 _ rfl; have p1 := Blk.cell (Many.blk HM.out 1 _ _ _ rfl) 1 _ rfl; have p2 := Blk.cell (Many.blk HM.out 1 _ _ _ rfl) 2 _ rfl; have q0 := Blk.cell (Many.blk HM.out 2 _ _ _ rfl) 0 _ rfl; have q1 := Blk.cell (Many.blk HM.out 2 _ _ _ rfl) 1 _ rfl; have q2 := Blk.cell (Many.blk HM.out 2 _ _ _ rfl) 2 _ rfl; clear hb)))
  go_ret
  exact ⟨rfl, HM.out.bel⟩
set_option maxRecDepth 100000 in
set_option maxHeartbeats 16000000 in
theorem next_ah2 (c0 c1 c2 c3 c4 c5 c6 cap : Int) (A : Option Addr) (l : List Pfx) (cc : Nat) (u0 u1 : Int) (u2 : Bool) (ah d n X0 X1 K : Int) (w : World) (hr : Kd.C k81 w A l.length l) (hc : l.length ≤ cc) (ha : AdrP l) (hm : l.length ≤ 140737488355328) (hfew : l.length ≤ 20) (hn0 : 0 ≤ n) (hn1 : n ≤ 2305843009213693952) (hK : (K == 0) = false) (hah : ¬ ah < 1) (hah2 : n < ah) (hAS : ∀ W : World, Kd.C k81 W A l.length l → Calls Try.prog 11 #[.agg #[.int .i64 c0, .int .i64 c1, .int .i64 c2, .int .i64 c3, .int .i64 c4, .int .i64 c5, .int .i64 c6, .int .i64 cap, .slice A l.length cc], .agg #[.int .i64 u0, .int .i64 u1, .bool u2], .int .i64 0] W fun e w' => e = .returned (.int .i64 0) ∧ Below W.heap.size W w') (hNX : ∀ W : World, Calls Try.prog 16 #[.agg #[.int .i64 u0, .int .i64 u1, .bool u2]] W fun e w' => e = .returned (.int .i64 n) ∧ Below W.heap.size W w') (hT1 : ∀ W : World, Kd.C k81 W A l.length l → Calls Try.prog 15 #[.agg #[.int .i64 c0, .int .i64 c1, .int .i64 c2, .int .i64 c3, .int .i64 c4, .int .i64 c5, .int .i64 c6, .int .i64 cap, .slice A l.length cc], .agg #[.int .i64 u0, .int .i64 u1, .bool u2], .int .i64 n, .int .i64 d] W fun e w' => e = .returned (.tuple #[.agg #[.int .i64 X0, .int .i64 X1, .bool false], .int .i64 K, .int .i64 0]) ∧ Below W.heap.size W w') :
    Calls Try.prog 5 #[.agg #[.int .i64 c0, .int .i64 c1, .int .i64 c2, .int .i64 c3, .int .i64 c4, .int .i64 c5, .int .i64 c6, .int .i64 cap, .slice A l.length cc], .agg #[.int .i64 u0, .int .i64 u1, .bool u2], .int .i64 ah, .int .i64 d] w fun e w' => e = .returned (.bool true) ∧ Below w.heap.size w w' := by
  have HR := Aside0.mk hr
  have HA := Aside0.mk ha
  clear hr ha
  have HF : Aside0 (waywardenlaw15_few.f c0 c1 c2 c3 c4 c5 c6 cap l = some true) := ⟨by unfold waywardenlaw15_few.f; congr 1; apply decide_eq_true; omega⟩
  have HhAS := Aside0.mk hAS
  have HhNX := Aside0.mk hNX
  have HhT1 := Aside0.mk hT1
  clear hAS hNX hT1
  have dn0 : decide (n < 0) = false := decide_eq_false (by omega)
  have dn1 : decide (n > 2305843009213693952) = false := decide_eq_false (by omega)
  have dn2 : decide (2305843009213693952 < n) = false := decide_eq_false (by omega)
  have da0 : decide (ah < 1) = false := decide_eq_false (by omega)
  have da1 : decide (ah > n) = true := decide_eq_true (by omega)
  have da2 : decide (n < ah) = true := decide_eq_true (by omega)
  clear hn0 hn1
  have HM : Aside0 (Many w [(w.heap.size, 24, #[.int .i64 c0, .int .i64 c1, .int .i64 c2, .int .i64 c3, .int .i64 c4, .int .i64 c5, .int .i64 c6, .int .i64 cap, .slice A l.length cc]), ((w.heap.size + 1), 28, #[.int .i64 u0, .int .i64 u1, .bool u2])] ((w.alloc (.cells #[.int .i64 c0, .int .i64 c1, .int .i64 c2, .int .i64 c3, .int .i64 c4, .int .i64 c5, .int .i64 c6, .int .i64 cap, .slice A l.length cc] 24)).alloc (.cells #[.int .i64 u0, .int .i64 u1, .bool u2] 28))) := ⟨by have h := Many.grow (Many.grow (Many.none w) 24 #[.int .i64 c0, .int .i64 c1, .int .i64 c2, .int .i64 c3, .int .i64 c4, .int .i64 c5, .int .i64 c6, .int .i64 cap, .slice A l.length cc]) 28 #[.int .i64 u0, .int .i64 u1, .bool u2]; simpa using h⟩
  have k0 := Blk.cell (Many.blk HM.out 0 _ _ _ rfl) 0 _ rfl
  have k1 := Blk.cell (Many.blk HM.out 0 _ _ _ rfl) 1 _ rfl
  have k2 := Blk.cell (Many.blk HM.out 0 _ _ _ rfl) 2 _ rfl
  have k3 := Blk.cell (Many.blk HM.out 0 _ _ _ rfl) 3 _ rfl
  have k4 := Blk.cell (Many.blk HM.out 0 _ _ _ rfl) 4 _ rfl
  have k5 := Blk.cell (Many.blk HM.out 0 _ _ _ rfl) 5 _ rfl
  have k6 := Blk.cell (Many.blk HM.out 0 _ _ _ rfl) 6 _ rfl
  have k7 := Blk.cell (Many.blk HM.out 0 _ _ _ rfl) 7 _ rfl
  have k8 := Blk.cell (Many.blk HM.out 0 _ _ _ rfl) 8 _ rfl
  have p0 := Blk.cell (Many.blk HM.out 1 _ _ _ rfl) 0 _ rfl
  have p1 := Blk.cell (Many.blk HM.out 1 _ _ _ rfl) 1 _ rfl
  have p2 := Blk.cell (Many.blk HM.out 1 _ _ _ rfl) 2 _ rfl
  go_enter Try.func5, Try.ntmps5
  go_upto_region 7 with (first
    | (go_at_call 8; ((with_reducible refine (waywardenlaw15_few.calls c0 c1 c2 c3 c4 c5 c6 cap A cc l true _ (Kd.C_below HR.out HM.out.bel) hc HF.out).mono ?_); rintro e w9 ⟨rfl, hb⟩; have HM := Aside0.mk (Many.later HM.out hb); (try clear k0 k1 k2 k3 k4 k5 k6 k7 k8 p0 p1 p2); have k0 := Blk.cell (Many.blk HM.out 0 _ _ _ rfl) 0 _ rfl; have k1 := Blk.cell (Many.blk HM.out 0 _ _ _ rfl) 1 _ rfl; have k2 := Blk.cell (Many.blk HM.out 0 _ _ _ rfl) 2 _ rfl; have k3 := Blk.cell (Many.blk HM.out 0 _ _ _ rfl) 3 _ rfl; have k4 := Blk.cell (Many.blk HM.out 0 _ _ _ rfl) 4 _ rfl; have k5 := Blk.cell (Many.blk HM.out 0 _ _ _ rfl) 5 _ rfl; have k6 := Blk.cell (Many.blk HM.out 0 _ _ _ rfl) 6 _ rfl; have k7 := Blk.cell (Many.blk HM.out 0 _ _ _ rfl) 7 _ rfl; have k8 := Blk.cell (Many.blk HM.out 0 _ _ _ rfl) 8 _ rfl; have p0 := Blk.cell (Many.blk HM.out 1 _ _ _ rfl) 0 _ rfl; have p1 := Blk.cell (Many.blk HM.out 1 _ _ _ rfl) 1 _ rfl; have p2 := Blk.cell (Many.blk HM.out 1 _ _ _ rfl) 2 _ rfl; clear hb))
    | (go_at_call 9; go_loud ((with_reducible refine (works_any _).mono ?_); rintro e w9 ⟨rfl, hb⟩; have HM := Aside0.mk (Many.later HM.out hb); (try clear k0 k1 k2 k3 k4 k5 k6 k7 k8 p0 p1 p2); have k0 := Blk.cell (Many.blk HM.out 0 _ _ _ rfl) 0 _ rfl; have k1 := Blk.cell (Many.blk HM.out 0 _ _ _ rfl) 1 _ rfl; have k2 := Blk.cell (Many.blk HM.out 0 _ _ _ rfl) 2 _ rfl; have k3 := Blk.cell (Many.blk HM.out 0 _ _ _ rfl) 3 _ rfl; have k4 := Blk.cell (Many.blk HM.out 0 _ _ _ rfl) 4 _ rfl; have k5 := Blk.cell (Many.blk HM.out 0 _ _ _ rfl) 5 _ rfl; have k6 := Blk.cell (Many.blk HM.out 0 _ _ _ rfl) 6 _ rfl; have k7 := Blk.cell (Many.blk HM.out 0 _ _ _ rfl) 7 _ rfl; have k8 := Blk.cell (Many.blk HM.out 0 _ _ _ rfl) 8 _ rfl; have p0 := Blk.cell (Many.blk HM.out 1 _ _ _ rfl) 0 _ rfl; have p1 := Blk.cell (Many.blk HM.out 1 _ _ _ rfl) 1 _ rfl; have p2 := Blk.cell (Many.blk HM.out 1 _ _ _ rfl) 2 _ rfl; clear hb))
    | (go_at_call 11; go_loud ((with_reducible refine (HhAS.out _ (Kd.C_below HR.out HM.out.bel)).mono ?_); rintro e w9 ⟨rfl, hb⟩; have HM := Aside0.mk (Many.later HM.out hb); (try clear k0 k1 k2 k3 k4 k5 k6 k7 k8 p0 p1 p2); have k0 := Blk.cell (Many.blk HM.out 0 _ _ _ rfl) 0 _ rfl; have k1 := Blk.cell (Many.blk HM.out 0 _ _ _ rfl) 1 _ rfl; have k2 := Blk.cell (Many.blk HM.out 0 _ _ _ rfl) 2 _ rfl; have k3 := Blk.cell (Many.blk HM.out 0 _ _ _ rfl) 3 _ rfl; have k4 := Blk.cell (Many.blk HM.out 0 _ _ _ rfl) 4 _ rfl; have k5 := Blk.cell (Many.blk HM.out 0 _ _ _ rfl) 5 _ rfl; have k6 := Blk.cell (Many.blk HM.out 0 _ _ _ rfl) 6 _ rfl; have k7 := Blk.cell (Many.blk HM.out 0 _ _ _ rfl) 7 _ rfl; have k8 := Blk.cell (Many.blk HM.out 0 _ _ _ rfl) 8 _ rfl; have p0 := Blk.cell (Many.blk HM.out 1 _ _ _ rfl) 0 _ rfl; have p1 := Blk.cell (Many.blk HM.out 1 _ _ _ rfl) 1 _ rfl; have p2 := Blk.cell (Many.blk HM.out 1 _ _ _ rfl) 2 _ rfl; clear hb))
    | (go_at_call 16; go_loud ((with_reducible refine (HhNX.out _).mono ?_); rintro e w9 ⟨rfl, hb⟩; have HM := Aside0.mk (Many.later HM.out hb); (try clear k0 k1 k2 k3 k4 k5 k6 k7 k8 p0 p1 p2); have k0 := Blk.cell (Many.blk HM.out 0 _ _ _ rfl) 0 _ rfl; have k1 := Blk.cell (Many.blk HM.out 0 _ _ _ rfl) 1 _ rfl; have k2 := Blk.cell (Many.blk HM.out 0 _ _ _ rfl) 2 _ rfl; have k3 := Blk.cell (Many.blk HM.out 0 _ _ _ rfl) 3 _ rfl; have k4 := Blk.cell (Many.blk HM.out 0 _ _ _ rfl) 4 _ rfl; have k5 := Blk.cell (Many.blk HM.out 0 _ _ _ rfl) 5 _ rfl; have k6 := Blk.cell (Many.blk HM.out 0 _ _ _ rfl) 6 _ rfl; have k7 := Blk.cell (Many.blk HM.out 0 _ _ _ rfl) 7 _ rfl; have k8 := Blk.cell (Many.blk HM.out 0 _ _ _ rfl) 8 _ rfl; have p0 := Blk.cell (Many.blk HM.out 1 _ _ _ rfl) 0 _ rfl; have p1 := Blk.cell (Many.blk HM.out 1 _ _ _ rfl) 1 _ rfl; have p2 := Blk.cell (Many.blk HM.out 1 _ _ _ rfl) 2 _ rfl; clear hb))
    | (go_at_call 15; go_loud ((with_reducible refine (HhT1.out _ (Kd.C_below HR.out HM.out.bel)).mono ?_); rintro e w9 ⟨rfl, hb⟩; have HM := Aside0.mk (Many.later HM.out hb); (try clear k0 k1 k2 k3 k4 k5 k6 k7 k8 p0 p1 p2); have k0 := Blk.cell (Many.blk HM.out 0 _ _ _ rfl) 0 _ rfl; have k1 := Blk.cell (Many.blk HM.out 0 _ _ _ rfl) 1 _ rfl; have k2 := Blk.cell (Many.blk HM.out 0 _ _ _ rfl) 2 _ rfl; have k3 := Blk.cell (Many.blk HM.out 0 _ _ _ rfl) 3 _ rfl; have k4 := Blk.cell (Many.blk HM.out 0 _ _ _ rfl) 4 _ rfl; have k5 := Blk.cell (Many.blk HM.out 0 _ _ _ rfl) 5 _ rfl; have k6 := Blk.cell (Many.blk HM.out 0 _ _ _ rfl) 6 _ rfl; have k7 := Blk.cell (Many.blk HM.out 0 _ _ _ rfl) 7 _ rfl; have k8 := Blk.cell (Many.blk HM.out 0 _ _ _ rfl) 8 _ rfl; have p0 := Blk.cell (Many.blk HM.out 1 _ _ _ rfl) 0 _ rfl; have p1 := Blk.cell (Many.blk HM.out 1 _ _ _ rfl) 1 _ rfl; have p2 := Blk.cell (Many.blk HM.out 1 _ _ _ rfl) 2 _ rfl; clear hb)))
  have HM0 := Aside0.mk (Many.grow HM.out 28 #[.int .i64 X0, .int .i64 X1, .bool false])
  obtain ⟨gq, hgq⟩ : ∃ g, w9.heap.size = g := ⟨_, rfl⟩
  obtain ⟨Wq, hWq⟩ : ∃ W', w9.alloc (.cells #[.int .i64 X0, .int .i64 X1, .bool false] 28) = W' := ⟨_, rfl⟩
  have hnq : ∀ p v, w9.cell? p = some v → p.block < gq := fun p v h => by rw [← hgq]; exact World.block_lt_of_cell? w9 p h
  rw [hWq, hgq] at HM0
  rw [hWq, hgq]
  have ltq_k := hnq _ _ (Blk.cell (Many.blk HM.out 0 _ _ _ rfl) 0 _ rfl)
  have ltq_p := hnq _ _ (Blk.cell (Many.blk HM.out 1 _ _ _ rfl) 0 _ rfl)
  clear hnq hgq hWq k0 k1 k2 k3 k4 k5 k6 k7 k8 p0 p1 p2 HM
  have HM : Aside0 (Many w [(w.heap.size, 24, #[.int .i64 c0, .int .i64 c1, .int .i64 c2, .int .i64 c3, .int .i64 c4, .int .i64 c5, .int .i64 c6, .int .i64 cap, .slice A l.length cc]), ((w.heap.size + 1), 28, #[.int .i64 u0, .int .i64 u1, .bool u2]), (gq, 28, #[.int .i64 X0, .int .i64 X1, .bool false])] Wq) := ⟨HM0.out⟩
  clear HM0
  have k0 := Blk.cell (Many.blk HM.out 0 _ _ _ rfl) 0 _ rfl
  have k1 := Blk.cell (Many.blk HM.out 0 _ _ _ rfl) 1 _ rfl
  have k2 := Blk.cell (Many.blk HM.out 0 _ _ _ rfl) 2 _ rfl
  have k3 := Blk.cell (Many.blk HM.out 0 _ _ _ rfl) 3 _ rfl
  have k4 := Blk.cell (Many.blk HM.out 0 _ _ _ rfl) 4 _ rfl
  have k5 := Blk.cell (Many.blk HM.out 0 _ _ _ rfl) 5 _ rfl
  have k6 := Blk.cell (Many.blk HM.out 0 _ _ _ rfl) 6 _ rfl
  have k7 := Blk.cell (Many.blk HM.out 0 _ _ _ rfl) 7 _ rfl
  have k8 := Blk.cell (Many.blk HM.out 0 _ _ _ rfl) 8 _ rfl
  have p0 := Blk.cell (Many.blk HM.out 1 _ _ _ rfl) 0 _ rfl
  have p1 := Blk.cell (Many.blk HM.out 1 _ _ _ rfl) 1 _ rfl
  have p2 := Blk.cell (Many.blk HM.out 1 _ _ _ rfl) 2 _ rfl
  have q0 := Blk.cell (Many.blk HM.out 2 _ _ _ rfl) 0 _ rfl
  have q1 := Blk.cell (Many.blk HM.out 2 _ _ _ rfl) 1 _ rfl
  have q2 := Blk.cell (Many.blk HM.out 2 _ _ _ rfl) 2 _ rfl
  go_wp2_with (first
    | (go_at_call 12; ((with_reducible refine (waywardenlaw15_num.calls _ _ _ rfl).mono ?_); rintro e w9 ⟨rfl, hd⟩; have hb := hd.below; clear hd; have HM := Aside0.mk (Many.later HM.out hb); (try clear k0 k1 k2 k3 k4 k5 k6 k7 k8 p0 p1 p2 q0 q1 q2); have k0 := Blk.cell (Many.blk HM.out 0 _ _ _ rfl) 0 _ rfl; have k1 := Blk.cell (Many.blk HM.out 0 _ _ _ rfl) 1 _ rfl; have k2 := Blk.cell (Many.blk HM.out 0 _ _ _ rfl) 2 _ rfl; have k3 := Blk.cell (Many.blk HM.out 0 _ _ _ rfl) 3 _ rfl; have k4 := Blk.cell (Many.blk HM.out 0 _ _ _ rfl) 4 _ rfl; have k5 := Blk.cell (Many.blk HM.out 0 _ _ _ rfl) 5 _ rfl; have k6 := Blk.cell (Many.blk HM.out 0 _ _ _ rfl) 6 _ rfl; have k7 := Blk.cell (Many.blk HM.out 0 _ _ _ rfl) 7 _ rfl; have k8 := Blk.cell (Many.blk HM.out 0 _ _ _ rfl) 8 _ rfl; have p0 := Blk.cell (Many.blk HM.out 1 _ _ _ rfl) 0 _ rfl; have p1 := Blk.cell (Many.blk HM.out 1 _ _ _ rfl) 1 _ rfl; have p2 := Blk.cell (Many.blk HM.out 1 _ _ _ rfl) 2 _ rfl; have q0 := Blk.cell (Many.blk HM.out 2 _ _ _ rfl) 0 _ rfl; have q1 := Blk.cell (Many.blk HM.out 2 _ _ _ rfl) 1 _ rfl; have q2 := Blk.cell (Many.blk HM.out 2 _ _ _ rfl) 2 _ rfl; clear hb))
    | (go_at_call 9; go_loud ((with_reducible refine (works_any _).mono ?_); rintro e w9 ⟨rfl, hb⟩; have HM := Aside0.mk (Many.later HM.out hb); (try clear k0 k1 k2 k3 k4 k5 k6 k7 k8 p0 p1 p2 q0 q1 q2); have k0 := Blk.cell (Many.blk HM.out 0 _ _ _ rfl) 0 _ rfl; have k1 := Blk.cell (Many.blk HM.out 0 _ _ _ rfl) 1 _ rfl; have k2 := Blk.cell (Many.blk HM.out 0 _ _ _ rfl) 2 _ rfl; have k3 := Blk.cell (Many.blk HM.out 0 _ _ _ rfl) 3 _ rfl; have k4 := Blk.cell (Many.blk HM.out 0 _ _ _ rfl) 4 _ rfl; have k5 := Blk.cell (Many.blk HM.out 0 _ _ _ rfl) 5 _ rfl; have k6 := Blk.cell (Many.blk HM.out 0 _ _ _ rfl) 6 _ rfl; have k7 := Blk.cell (Many.blk HM.out 0 _ _ _ rfl) 7 _ rfl; have k8 := Blk.cell (Many.blk HM.out 0 _ _ _ rfl) 8 _ rfl; have p0 := Blk.cell (Many.blk HM.out 1 _ _ _ rfl) 0 _ rfl; have p1 := Blk.cell (Many.blk HM.out 1 _ _ _ rfl) 1 _ rfl; have p2 := Blk.cell (Many.blk HM.out 1 _ _ _ rfl) 2 _ rfl; have q0 := Blk.cell (Many.blk HM.out 2 _ _ _ rfl) 0 _ rfl; have q1 := Blk.cell (Many.blk HM.out 2 _ _ _ rfl) 1 _ rfl; have q2 := Blk.cell (Many.blk HM.out 2 _ _ _ rfl) 2 _ rfl; clear hb)))
  go_ret
  exact ⟨rfl, HM.out.bel⟩
set_option maxRecDepth 100000 in
set_option maxHeartbeats 16000000 in
theorem next_good (c0 c1 c2 c3 c4 c5 c6 cap : Int) (A : Option Addr) (l : List Pfx) (cc : Nat) (u0 u1 : Int) (u2 : Bool) (ah d n X0 X1 K : Int) (w : World) (hr : Kd.C k81 w A l.length l) (hc : l.length ≤ cc) (ha : AdrP l) (hm : l.length ≤ 140737488355328) (hfew : l.length ≤ 20) (hn0 : 0 ≤ n) (hn1 : n ≤ 2305843009213693952) (hK : (K == 0) = false) (hah : ¬ ah < 1) (hah2 : ¬ n < ah) (hAS : ∀ W : World, Kd.C k81 W A l.length l → Calls Try.prog 11 #[.agg #[.int .i64 c0, .int .i64 c1, .int .i64 c2, .int .i64 c3, .int .i64 c4, .int .i64 c5, .int .i64 c6, .int .i64 cap, .slice A l.length cc], .agg #[.int .i64 u0, .int .i64 u1, .bool u2], .int .i64 0] W fun e w' => e = .returned (.int .i64 0) ∧ Below W.heap.size W w') (hNX : ∀ W : World, Calls Try.prog 16 #[.agg #[.int .i64 u0, .int .i64 u1, .bool u2]] W fun e w' => e = .returned (.int .i64 n) ∧ Below W.heap.size W w') (hT1 : ∀ W : World, Kd.C k81 W A l.length l → Calls Try.prog 15 #[.agg #[.int .i64 c0, .int .i64 c1, .int .i64 c2, .int .i64 c3, .int .i64 c4, .int .i64 c5, .int .i64 c6, .int .i64 cap, .slice A l.length cc], .agg #[.int .i64 u0, .int .i64 u1, .bool u2], .int .i64 n, .int .i64 d] W fun e w' => e = .returned (.tuple #[.agg #[.int .i64 X0, .int .i64 X1, .bool false], .int .i64 K, .int .i64 0]) ∧ Below W.heap.size W w') (hT2 : ∀ W : World, Kd.C k81 W A l.length l → Calls Try.prog 15 #[.agg #[.int .i64 c0, .int .i64 c1, .int .i64 c2, .int .i64 c3, .int .i64 c4, .int .i64 c5, .int .i64 c6, .int .i64 cap, .slice A l.length cc], .agg #[.int .i64 u0, .int .i64 u1, .bool u2], .int .i64 (n - ah), .int .i64 d] W fun e w' => e = .returned (.tuple #[.agg #[.int .i64 u0, .int .i64 u1, .bool u2], .int .i64 0, .int .i64 0]) ∧ Below W.heap.size W w') :
    Calls Try.prog 5 #[.agg #[.int .i64 c0, .int .i64 c1, .int .i64 c2, .int .i64 c3, .int .i64 c4, .int .i64 c5, .int .i64 c6, .int .i64 cap, .slice A l.length cc], .agg #[.int .i64 u0, .int .i64 u1, .bool u2], .int .i64 ah, .int .i64 d] w fun e w' => e = .returned (.bool true) ∧ Below w.heap.size w w' := by
  have HR := Aside0.mk hr
  have HA := Aside0.mk ha
  clear hr ha
  have HF : Aside0 (waywardenlaw15_few.f c0 c1 c2 c3 c4 c5 c6 cap l = some true) := ⟨by unfold waywardenlaw15_few.f; congr 1; apply decide_eq_true; omega⟩
  have HhAS := Aside0.mk hAS
  have HhNX := Aside0.mk hNX
  have HhT1 := Aside0.mk hT1
  have HhT2 := Aside0.mk hT2
  clear hAS hNX hT1 hT2
  have dn0 : decide (n < 0) = false := decide_eq_false (by omega)
  have dn1 : decide (n > 2305843009213693952) = false := decide_eq_false (by omega)
  have dn2 : decide (2305843009213693952 < n) = false := decide_eq_false (by omega)
  have da0 : decide (ah < 1) = false := decide_eq_false (by omega)
  have da1 : decide (ah > n) = false := decide_eq_false (by omega)
  have da2 : decide (n < ah) = false := decide_eq_false (by omega)
  have gw : wrap64 (n - ah) = n - ah := wrap_id (by omega) (by omega)
  have HW := Aside0.mk gw
  clear hn0 hn1 hah hah2 gw
  have HM : Aside0 (Many w [(w.heap.size, 24, #[.int .i64 c0, .int .i64 c1, .int .i64 c2, .int .i64 c3, .int .i64 c4, .int .i64 c5, .int .i64 c6, .int .i64 cap, .slice A l.length cc]), ((w.heap.size + 1), 28, #[.int .i64 u0, .int .i64 u1, .bool u2])] ((w.alloc (.cells #[.int .i64 c0, .int .i64 c1, .int .i64 c2, .int .i64 c3, .int .i64 c4, .int .i64 c5, .int .i64 c6, .int .i64 cap, .slice A l.length cc] 24)).alloc (.cells #[.int .i64 u0, .int .i64 u1, .bool u2] 28))) := ⟨by have h := Many.grow (Many.grow (Many.none w) 24 #[.int .i64 c0, .int .i64 c1, .int .i64 c2, .int .i64 c3, .int .i64 c4, .int .i64 c5, .int .i64 c6, .int .i64 cap, .slice A l.length cc]) 28 #[.int .i64 u0, .int .i64 u1, .bool u2]; simpa using h⟩
  have k0 := Blk.cell (Many.blk HM.out 0 _ _ _ rfl) 0 _ rfl
  have k1 := Blk.cell (Many.blk HM.out 0 _ _ _ rfl) 1 _ rfl
  have k2 := Blk.cell (Many.blk HM.out 0 _ _ _ rfl) 2 _ rfl
  have k3 := Blk.cell (Many.blk HM.out 0 _ _ _ rfl) 3 _ rfl
  have k4 := Blk.cell (Many.blk HM.out 0 _ _ _ rfl) 4 _ rfl
  have k5 := Blk.cell (Many.blk HM.out 0 _ _ _ rfl) 5 _ rfl
  have k6 := Blk.cell (Many.blk HM.out 0 _ _ _ rfl) 6 _ rfl
  have k7 := Blk.cell (Many.blk HM.out 0 _ _ _ rfl) 7 _ rfl
  have k8 := Blk.cell (Many.blk HM.out 0 _ _ _ rfl) 8 _ rfl
  have p0 := Blk.cell (Many.blk HM.out 1 _ _ _ rfl) 0 _ rfl
  have p1 := Blk.cell (Many.blk HM.out 1 _ _ _ rfl) 1 _ rfl
  have p2 := Blk.cell (Many.blk HM.out 1 _ _ _ rfl) 2 _ rfl
  go_enter Try.func5, Try.ntmps5
  go_upto_region 7 with (first
    | (go_at_call 8; ((with_reducible refine (waywardenlaw15_few.calls c0 c1 c2 c3 c4 c5 c6 cap A cc l true _ (Kd.C_below HR.out HM.out.bel) hc HF.out).mono ?_); rintro e w9 ⟨rfl, hb⟩; have HM := Aside0.mk (Many.later HM.out hb); (try clear k0 k1 k2 k3 k4 k5 k6 k7 k8 p0 p1 p2); have k0 := Blk.cell (Many.blk HM.out 0 _ _ _ rfl) 0 _ rfl; have k1 := Blk.cell (Many.blk HM.out 0 _ _ _ rfl) 1 _ rfl; have k2 := Blk.cell (Many.blk HM.out 0 _ _ _ rfl) 2 _ rfl; have k3 := Blk.cell (Many.blk HM.out 0 _ _ _ rfl) 3 _ rfl; have k4 := Blk.cell (Many.blk HM.out 0 _ _ _ rfl) 4 _ rfl; have k5 := Blk.cell (Many.blk HM.out 0 _ _ _ rfl) 5 _ rfl; have k6 := Blk.cell (Many.blk HM.out 0 _ _ _ rfl) 6 _ rfl; have k7 := Blk.cell (Many.blk HM.out 0 _ _ _ rfl) 7 _ rfl; have k8 := Blk.cell (Many.blk HM.out 0 _ _ _ rfl) 8 _ rfl; have p0 := Blk.cell (Many.blk HM.out 1 _ _ _ rfl) 0 _ rfl; have p1 := Blk.cell (Many.blk HM.out 1 _ _ _ rfl) 1 _ rfl; have p2 := Blk.cell (Many.blk HM.out 1 _ _ _ rfl) 2 _ rfl; clear hb))
    | (go_at_call 9; go_loud ((with_reducible refine (works_any _).mono ?_); rintro e w9 ⟨rfl, hb⟩; have HM := Aside0.mk (Many.later HM.out hb); (try clear k0 k1 k2 k3 k4 k5 k6 k7 k8 p0 p1 p2); have k0 := Blk.cell (Many.blk HM.out 0 _ _ _ rfl) 0 _ rfl; have k1 := Blk.cell (Many.blk HM.out 0 _ _ _ rfl) 1 _ rfl; have k2 := Blk.cell (Many.blk HM.out 0 _ _ _ rfl) 2 _ rfl; have k3 := Blk.cell (Many.blk HM.out 0 _ _ _ rfl) 3 _ rfl; have k4 := Blk.cell (Many.blk HM.out 0 _ _ _ rfl) 4 _ rfl; have k5 := Blk.cell (Many.blk HM.out 0 _ _ _ rfl) 5 _ rfl; have k6 := Blk.cell (Many.blk HM.out 0 _ _ _ rfl) 6 _ rfl; have k7 := Blk.cell (Many.blk HM.out 0 _ _ _ rfl) 7 _ rfl; have k8 := Blk.cell (Many.blk HM.out 0 _ _ _ rfl) 8 _ rfl; have p0 := Blk.cell (Many.blk HM.out 1 _ _ _ rfl) 0 _ rfl; have p1 := Blk.cell (Many.blk HM.out 1 _ _ _ rfl) 1 _ rfl; have p2 := Blk.cell (Many.blk HM.out 1 _ _ _ rfl) 2 _ rfl; clear hb))
    | (go_at_call 11; go_loud ((with_reducible refine (HhAS.out _ (Kd.C_below HR.out HM.out.bel)).mono ?_); rintro e w9 ⟨rfl, hb⟩; have HM := Aside0.mk (Many.later HM.out hb); (try clear k0 k1 k2 k3 k4 k5 k6 k7 k8 p0 p1 p2); have k0 := Blk.cell (Many.blk HM.out 0 _ _ _ rfl) 0 _ rfl; have k1 := Blk.cell (Many.blk HM.out 0 _ _ _ rfl) 1 _ rfl; have k2 := Blk.cell (Many.blk HM.out 0 _ _ _ rfl) 2 _ rfl; have k3 := Blk.cell (Many.blk HM.out 0 _ _ _ rfl) 3 _ rfl; have k4 := Blk.cell (Many.blk HM.out 0 _ _ _ rfl) 4 _ rfl; have k5 := Blk.cell (Many.blk HM.out 0 _ _ _ rfl) 5 _ rfl; have k6 := Blk.cell (Many.blk HM.out 0 _ _ _ rfl) 6 _ rfl; have k7 := Blk.cell (Many.blk HM.out 0 _ _ _ rfl) 7 _ rfl; have k8 := Blk.cell (Many.blk HM.out 0 _ _ _ rfl) 8 _ rfl; have p0 := Blk.cell (Many.blk HM.out 1 _ _ _ rfl) 0 _ rfl; have p1 := Blk.cell (Many.blk HM.out 1 _ _ _ rfl) 1 _ rfl; have p2 := Blk.cell (Many.blk HM.out 1 _ _ _ rfl) 2 _ rfl; clear hb))
    | (go_at_call 16; go_loud ((with_reducible refine (HhNX.out _).mono ?_); rintro e w9 ⟨rfl, hb⟩; have HM := Aside0.mk (Many.later HM.out hb); (try clear k0 k1 k2 k3 k4 k5 k6 k7 k8 p0 p1 p2); have k0 := Blk.cell (Many.blk HM.out 0 _ _ _ rfl) 0 _ rfl; have k1 := Blk.cell (Many.blk HM.out 0 _ _ _ rfl) 1 _ rfl; have k2 := Blk.cell (Many.blk HM.out 0 _ _ _ rfl) 2 _ rfl; have k3 := Blk.cell (Many.blk HM.out 0 _ _ _ rfl) 3 _ rfl; have k4 := Blk.cell (Many.blk HM.out 0 _ _ _ rfl) 4 _ rfl; have k5 := Blk.cell (Many.blk HM.out 0 _ _ _ rfl) 5 _ rfl; have k6 := Blk.cell (Many.blk HM.out 0 _ _ _ rfl) 6 _ rfl; have k7 := Blk.cell (Many.blk HM.out 0 _ _ _ rfl) 7 _ rfl; have k8 := Blk.cell (Many.blk HM.out 0 _ _ _ rfl) 8 _ rfl; have p0 := Blk.cell (Many.blk HM.out 1 _ _ _ rfl) 0 _ rfl; have p1 := Blk.cell (Many.blk HM.out 1 _ _ _ rfl) 1 _ rfl; have p2 := Blk.cell (Many.blk HM.out 1 _ _ _ rfl) 2 _ rfl; clear hb))
    | (go_at_call 15; go_loud ((with_reducible refine (HhT1.out _ (Kd.C_below HR.out HM.out.bel)).mono ?_); rintro e w9 ⟨rfl, hb⟩; have HM := Aside0.mk (Many.later HM.out hb); (try clear k0 k1 k2 k3 k4 k5 k6 k7 k8 p0 p1 p2); have k0 := Blk.cell (Many.blk HM.out 0 _ _ _ rfl) 0 _ rfl; have k1 := Blk.cell (Many.blk HM.out 0 _ _ _ rfl) 1 _ rfl; have k2 := Blk.cell (Many.blk HM.out 0 _ _ _ rfl) 2 _ rfl; have k3 := Blk.cell (Many.blk HM.out 0 _ _ _ rfl) 3 _ rfl; have k4 := Blk.cell (Many.blk HM.out 0 _ _ _ rfl) 4 _ rfl; have k5 := Blk.cell (Many.blk HM.out 0 _ _ _ rfl) 5 _ rfl; have k6 := Blk.cell (Many.blk HM.out 0 _ _ _ rfl) 6 _ rfl; have k7 := Blk.cell (Many.blk HM.out 0 _ _ _ rfl) 7 _ rfl; have k8 := Blk.cell (Many.blk HM.out 0 _ _ _ rfl) 8 _ rfl; have p0 := Blk.cell (Many.blk HM.out 1 _ _ _ rfl) 0 _ rfl; have p1 := Blk.cell (Many.blk HM.out 1 _ _ _ rfl) 1 _ rfl; have p2 := Blk.cell (Many.blk HM.out 1 _ _ _ rfl) 2 _ rfl; clear hb)))
  have HM0 := Aside0.mk (Many.grow HM.out 28 #[.int .i64 X0, .int .i64 X1, .bool false])
  obtain ⟨gq, hgq⟩ : ∃ g, w9.heap.size = g := ⟨_, rfl⟩
  obtain ⟨Wq, hWq⟩ : ∃ W', w9.alloc (.cells #[.int .i64 X0, .int .i64 X1, .bool false] 28) = W' := ⟨_, rfl⟩
  have hnq : ∀ p v, w9.cell? p = some v → p.block < gq := fun p v h => by rw [← hgq]; exact World.block_lt_of_cell? w9 p h
  rw [hWq, hgq] at HM0
  rw [hWq, hgq]
  have ltq_k := hnq _ _ (Blk.cell (Many.blk HM.out 0 _ _ _ rfl) 0 _ rfl)
  have ltq_p := hnq _ _ (Blk.cell (Many.blk HM.out 1 _ _ _ rfl) 0 _ rfl)
  clear hnq hgq hWq k0 k1 k2 k3 k4 k5 k6 k7 k8 p0 p1 p2 HM
  have HM : Aside0 (Many w [(w.heap.size, 24, #[.int .i64 c0, .int .i64 c1, .int .i64 c2, .int .i64 c3, .int .i64 c4, .int .i64 c5, .int .i64 c6, .int .i64 cap, .slice A l.length cc]), ((w.heap.size + 1), 28, #[.int .i64 u0, .int .i64 u1, .bool u2]), (gq, 28, #[.int .i64 X0, .int .i64 X1, .bool false])] Wq) := ⟨HM0.out⟩
  clear HM0
  have k0 := Blk.cell (Many.blk HM.out 0 _ _ _ rfl) 0 _ rfl
  have k1 := Blk.cell (Many.blk HM.out 0 _ _ _ rfl) 1 _ rfl
  have k2 := Blk.cell (Many.blk HM.out 0 _ _ _ rfl) 2 _ rfl
  have k3 := Blk.cell (Many.blk HM.out 0 _ _ _ rfl) 3 _ rfl
  have k4 := Blk.cell (Many.blk HM.out 0 _ _ _ rfl) 4 _ rfl
  have k5 := Blk.cell (Many.blk HM.out 0 _ _ _ rfl) 5 _ rfl
  have k6 := Blk.cell (Many.blk HM.out 0 _ _ _ rfl) 6 _ rfl
  have k7 := Blk.cell (Many.blk HM.out 0 _ _ _ rfl) 7 _ rfl
  have k8 := Blk.cell (Many.blk HM.out 0 _ _ _ rfl) 8 _ rfl
  have p0 := Blk.cell (Many.blk HM.out 1 _ _ _ rfl) 0 _ rfl
  have p1 := Blk.cell (Many.blk HM.out 1 _ _ _ rfl) 1 _ rfl
  have p2 := Blk.cell (Many.blk HM.out 1 _ _ _ rfl) 2 _ rfl
  have q0 := Blk.cell (Many.blk HM.out 2 _ _ _ rfl) 0 _ rfl
  have q1 := Blk.cell (Many.blk HM.out 2 _ _ _ rfl) 1 _ rfl
  have q2 := Blk.cell (Many.blk HM.out 2 _ _ _ rfl) 2 _ rfl
  go_upto_region 12 with (first
    | (go_at_call 12; ((with_reducible refine (waywardenlaw15_num.calls _ _ _ rfl).mono ?_); rintro e w9 ⟨rfl, hd⟩; have hb := hd.below; clear hd; have HM := Aside0.mk (Many.later HM.out hb); (try clear k0 k1 k2 k3 k4 k5 k6 k7 k8 p0 p1 p2 q0 q1 q2); have k0 := Blk.cell (Many.blk HM.out 0 _ _ _ rfl) 0 _ rfl; have k1 := Blk.cell (Many.blk HM.out 0 _ _ _ rfl) 1 _ rfl; have k2 := Blk.cell (Many.blk HM.out 0 _ _ _ rfl) 2 _ rfl; have k3 := Blk.cell (Many.blk HM.out 0 _ _ _ rfl) 3 _ rfl; have k4 := Blk.cell (Many.blk HM.out 0 _ _ _ rfl) 4 _ rfl; have k5 := Blk.cell (Many.blk HM.out 0 _ _ _ rfl) 5 _ rfl; have k6 := Blk.cell (Many.blk HM.out 0 _ _ _ rfl) 6 _ rfl; have k7 := Blk.cell (Many.blk HM.out 0 _ _ _ rfl) 7 _ rfl; have k8 := Blk.cell (Many.blk HM.out 0 _ _ _ rfl) 8 _ rfl; have p0 := Blk.cell (Many.blk HM.out 1 _ _ _ rfl) 0 _ rfl; have p1 := Blk.cell (Many.blk HM.out 1 _ _ _ rfl) 1 _ rfl; have p2 := Blk.cell (Many.blk HM.out 1 _ _ _ rfl) 2 _ rfl; have q0 := Blk.cell (Many.blk HM.out 2 _ _ _ rfl) 0 _ rfl; have q1 := Blk.cell (Many.blk HM.out 2 _ _ _ rfl) 1 _ rfl; have q2 := Blk.cell (Many.blk HM.out 2 _ _ _ rfl) 2 _ rfl; clear hb))
    | (go_at_call 9; go_loud ((with_reducible refine (works_any _).mono ?_); rintro e w9 ⟨rfl, hb⟩; have HM := Aside0.mk (Many.later HM.out hb); (try clear k0 k1 k2 k3 k4 k5 k6 k7 k8 p0 p1 p2 q0 q1 q2); have k0 := Blk.cell (Many.blk HM.out 0 _ _ _ rfl) 0 _ rfl; have k1 := Blk.cell (Many.blk HM.out 0 _ _ _ rfl) 1 _ rfl; have k2 := Blk.cell (Many.blk HM.out 0 _ _ _ rfl) 2 _ rfl; have k3 := Blk.cell (Many.blk HM.out 0 _ _ _ rfl) 3 _ rfl; have k4 := Blk.cell (Many.blk HM.out 0 _ _ _ rfl) 4 _ rfl; have k5 := Blk.cell (Many.blk HM.out 0 _ _ _ rfl) 5 _ rfl; have k6 := Blk.cell (Many.blk HM.out 0 _ _ _ rfl) 6 _ rfl; have k7 := Blk.cell (Many.blk HM.out 0 _ _ _ rfl) 7 _ rfl; have k8 := Blk.cell (Many.blk HM.out 0 _ _ _ rfl) 8 _ rfl; have p0 := Blk.cell (Many.blk HM.out 1 _ _ _ rfl) 0 _ rfl; have p1 := Blk.cell (Many.blk HM.out 1 _ _ _ rfl) 1 _ rfl; have p2 := Blk.cell (Many.blk HM.out 1 _ _ _ rfl) 2 _ rfl; have q0 := Blk.cell (Many.blk HM.out 2 _ _ _ rfl) 0 _ rfl; have q1 := Blk.cell (Many.blk HM.out 2 _ _ _ rfl) 1 _ rfl; have q2 := Blk.cell (Many.blk HM.out 2 _ _ _ rfl) 2 _ rfl; clear hb))
    | (go_at_call 15; rw [HW.out]; go_loud ((with_reducible refine (HhT2.out _ (Kd.C_below HR.out HM.out.bel)).mono ?_); rintro e w9 ⟨rfl, hb⟩; have HM := Aside0.mk (Many.later HM.out hb); (try clear k0 k1 k2 k3 k4 k5 k6 k7 k8 p0 p1 p2 q0 q1 q2); have k0 := Blk.cell (Many.blk HM.out 0 _ _ _ rfl) 0 _ rfl; have k1 := Blk.cell (Many.blk HM.out 0 _ _ _ rfl) 1 _ rfl; have k2 := Blk.cell (Many.blk HM.out 0 _ _ _ rfl) 2 _ rfl; have k3 := Blk.cell (Many.blk HM.out 0 _ _ _ rfl) 3 _ rfl; have k4 := Blk.cell (Many.blk HM.out 0 _ _ _ rfl) 4 _ rfl; have k5 := Blk.cell (Many.blk HM.out 0 _ _ _ rfl) 5 _ rfl; have k6 := Blk.cell (Many.blk HM.out 0 _ _ _ rfl) 6 _ rfl; have k7 := Blk.cell (Many.blk HM.out 0 _ _ _ rfl) 7 _ rfl; have k8 := Blk.cell (Many.blk HM.out 0 _ _ _ rfl) 8 _ rfl; have p0 := Blk.cell (Many.blk HM.out 1 _ _ _ rfl) 0 _ rfl; have p1 := Blk.cell (Many.blk HM.out 1 _ _ _ rfl) 1 _ rfl; have p2 := Blk.cell (Many.blk HM.out 1 _ _ _ rfl) 2 _ rfl; have q0 := Blk.cell (Many.blk HM.out 2 _ _ _ rfl) 0 _ rfl; have q1 := Blk.cell (Many.blk HM.out 2 _ _ _ rfl) 1 _ rfl; have q2 := Blk.cell (Many.blk HM.out 2 _ _ _ rfl) 2 _ rfl; clear hb)))
  have HM0 := Aside0.mk (Many.grow HM.out 28 #[.int .i64 u0, .int .i64 u1, .bool u2])
  obtain ⟨gr, hgr⟩ : ∃ g, w9.heap.size = g := ⟨_, rfl⟩
  obtain ⟨Wr, hWr⟩ : ∃ W', w9.alloc (.cells #[.int .i64 u0, .int .i64 u1, .bool u2] 28) = W' := ⟨_, rfl⟩
  have hnr : ∀ p v, w9.cell? p = some v → p.block < gr := fun p v h => by rw [← hgr]; exact World.block_lt_of_cell? w9 p h
  rw [hWr, hgr] at HM0
  rw [hWr, hgr]
  have ltr_k := hnr _ _ (Blk.cell (Many.blk HM.out 0 _ _ _ rfl) 0 _ rfl)
  have ltr_p := hnr _ _ (Blk.cell (Many.blk HM.out 1 _ _ _ rfl) 0 _ rfl)
  have ltr_q := hnr _ _ (Blk.cell (Many.blk HM.out 2 _ _ _ rfl) 0 _ rfl)
  clear hnr hgr hWr k0 k1 k2 k3 k4 k5 k6 k7 k8 p0 p1 p2 q0 q1 q2 HM
  have HM : Aside0 (Many w [(w.heap.size, 24, #[.int .i64 c0, .int .i64 c1, .int .i64 c2, .int .i64 c3, .int .i64 c4, .int .i64 c5, .int .i64 c6, .int .i64 cap, .slice A l.length cc]), ((w.heap.size + 1), 28, #[.int .i64 u0, .int .i64 u1, .bool u2]), (gq, 28, #[.int .i64 X0, .int .i64 X1, .bool false]), (gr, 28, #[.int .i64 u0, .int .i64 u1, .bool u2])] Wr) := ⟨HM0.out⟩
  clear HM0
  have k0 := Blk.cell (Many.blk HM.out 0 _ _ _ rfl) 0 _ rfl
  have k1 := Blk.cell (Many.blk HM.out 0 _ _ _ rfl) 1 _ rfl
  have k2 := Blk.cell (Many.blk HM.out 0 _ _ _ rfl) 2 _ rfl
  have k3 := Blk.cell (Many.blk HM.out 0 _ _ _ rfl) 3 _ rfl
  have k4 := Blk.cell (Many.blk HM.out 0 _ _ _ rfl) 4 _ rfl
  have k5 := Blk.cell (Many.blk HM.out 0 _ _ _ rfl) 5 _ rfl
  have k6 := Blk.cell (Many.blk HM.out 0 _ _ _ rfl) 6 _ rfl
  have k7 := Blk.cell (Many.blk HM.out 0 _ _ _ rfl) 7 _ rfl
  have k8 := Blk.cell (Many.blk HM.out 0 _ _ _ rfl) 8 _ rfl
  have p0 := Blk.cell (Many.blk HM.out 1 _ _ _ rfl) 0 _ rfl
  have p1 := Blk.cell (Many.blk HM.out 1 _ _ _ rfl) 1 _ rfl
  have p2 := Blk.cell (Many.blk HM.out 1 _ _ _ rfl) 2 _ rfl
  have q0 := Blk.cell (Many.blk HM.out 2 _ _ _ rfl) 0 _ rfl
  have q1 := Blk.cell (Many.blk HM.out 2 _ _ _ rfl) 1 _ rfl
  have q2 := Blk.cell (Many.blk HM.out 2 _ _ _ rfl) 2 _ rfl
  have r0 := Blk.cell (Many.blk HM.out 3 _ _ _ rfl) 0 _ rfl
  have r1 := Blk.cell (Many.blk HM.out 3 _ _ _ rfl) 1 _ rfl
  have r2 := Blk.cell (Many.blk HM.out 3 _ _ _ rfl) 2 _ rfl
  go_wp2_with (first
    | (go_at_call 12; ((with_reducible refine (waywardenlaw15_num.calls _ _ _ rfl).mono ?_); rintro e w9 ⟨rfl, hd⟩; have hb := hd.below; clear hd; have HM := Aside0.mk (Many.later HM.out hb); (try clear k0 k1 k2 k3 k4 k5 k6 k7 k8 p0 p1 p2 q0 q1 q2 r0 r1 r2); have k0 := Blk.cell (Many.blk HM.out 0 _ _ _ rfl) 0 _ rfl; have k1 := Blk.cell (Many.blk HM.out 0 _ _ _ rfl) 1 _ rfl; have k2 := Blk.cell (Many.blk HM.out 0 _ _ _ rfl) 2 _ rfl; have k3 := Blk.cell (Many.blk HM.out 0 _ _ _ rfl) 3 _ rfl; have k4 := Blk.cell (Many.blk HM.out 0 _ _ _ rfl) 4 _ rfl; have k5 := Blk.cell (Many.blk HM.out 0 _ _ _ rfl) 5 _ rfl; have k6 := Blk.cell (Many.blk HM.out 0 _ _ _ rfl) 6 _ rfl; have k7 := Blk.cell (Many.blk HM.out 0 _ _ _ rfl) 7 _ rfl; have k8 := Blk.cell (Many.blk HM.out 0 _ _ _ rfl) 8 _ rfl; have p0 := Blk.cell (Many.blk HM.out 1 _ _ _ rfl) 0 _ rfl; have p1 := Blk.cell (Many.blk HM.out 1 _ _ _ rfl) 1 _ rfl; have p2 := Blk.cell (Many.blk HM.out 1 _ _ _ rfl) 2 _ rfl; have q0 := Blk.cell (Many.blk HM.out 2 _ _ _ rfl) 0 _ rfl; have q1 := Blk.cell (Many.blk HM.out 2 _ _ _ rfl) 1 _ rfl; have q2 := Blk.cell (Many.blk HM.out 2 _ _ _ rfl) 2 _ rfl; have r0 := Blk.cell (Many.blk HM.out 3 _ _ _ rfl) 0 _ rfl; have r1 := Blk.cell (Many.blk HM.out 3 _ _ _ rfl) 1 _ rfl; have r2 := Blk.cell (Many.blk HM.out 3 _ _ _ rfl) 2 _ rfl; clear hb))
    | (go_at_call 9; go_loud ((with_reducible refine (works_any _).mono ?_); rintro e w9 ⟨rfl, hb⟩; have HM := Aside0.mk (Many.later HM.out hb); (try clear k0 k1 k2 k3 k4 k5 k6 k7 k8 p0 p1 p2 q0 q1 q2 r0 r1 r2); have k0 := Blk.cell (Many.blk HM.out 0 _ _ _ rfl) 0 _ rfl; have k1 := Blk.cell (Many.blk HM.out 0 _ _ _ rfl) 1 _ rfl; have k2 := Blk.cell (Many.blk HM.out 0 _ _ _ rfl) 2 _ rfl; have k3 := Blk.cell (Many.blk HM.out 0 _ _ _ rfl) 3 _ rfl; have k4 := Blk.cell (Many.blk HM.out 0 _ _ _ rfl) 4 _ rfl; have k5 := Blk.cell (Many.blk HM.out 0 _ _ _ rfl) 5 _ rfl; have k6 := Blk.cell (Many.blk HM.out 0 _ _ _ rfl) 6 _ rfl; have k7 := Blk.cell (Many.blk HM.out 0 _ _ _ rfl) 7 _ rfl; have k8 := Blk.cell (Many.blk HM.out 0 _ _ _ rfl) 8 _ rfl; have p0 := Blk.cell (Many.blk HM.out 1 _ _ _ rfl) 0 _ rfl; have p1 := Blk.cell (Many.blk HM.out 1 _ _ _ rfl) 1 _ rfl; have p2 := Blk.cell (Many.blk HM.out 1 _ _ _ rfl) 2 _ rfl; have q0 := Blk.cell (Many.blk HM.out 2 _ _ _ rfl) 0 _ rfl; have q1 := Blk.cell (Many.blk HM.out 2 _ _ _ rfl) 1 _ rfl; have q2 := Blk.cell (Many.blk HM.out 2 _ _ _ rfl) 2 _ rfl; have r0 := Blk.cell (Many.blk HM.out 3 _ _ _ rfl) 0 _ rfl; have r1 := Blk.cell (Many.blk HM.out 3 _ _ _ rfl) 1 _ rfl; have r2 := Blk.cell (Many.blk HM.out 3 _ _ _ rfl) 2 _ rfl; clear hb)))
  go_ret
  exact ⟨rfl, HM.out.bel⟩
theorem nextN_bounds {u0 u1 : Int} {u2 : Bool} (hp : pulseOk u0 u1 = true) : 0 ≤ nextN u0 u1 u2 ∧ nextN u0 u1 u2 ≤ u0 ∧ (nextN u0 u1 u2 < u0 → u2 = true ∧ nextN u0 u1 u2 = u1) ∧ (u2 = true → nextN u0 u1 u2 ≤ u1) := by
  rw [pulseOk_and, Bool.and_eq_true, decide_eq_true_eq, decide_eq_true_eq] at hp
  unfold nextN
  rw [pulseOk_and, if_pos (by rw [Bool.and_eq_true, decide_eq_true_eq, decide_eq_true_eq]; exact hp)]
  cases u2 with
  | false => simp; omega
  | true =>
    simp only [if_true]
    split <;> simp <;> omega
theorem next_walk (c0 c1 c2 c3 c4 c5 c6 cap : Int) (A : Option Addr) (l : List Pfx) (cc : Nat) (u0 u1 : Int) (u2 : Bool) (ah : Int) (_ : (Lit.int .i64 ah).wf = true) (d : Int) (_ : (Lit.int .i64 d).wf = true) {w : World} (hr : Kd.C k81 w A l.length l) (hc : l.length ≤ cc) (ha : AdrP l) : ∀ w1, w1 = w →
    Calls Try.prog 5 #[.agg #[.int .i64 c0, .int .i64 c1, .int .i64 c2, .int .i64 c3, .int .i64 c4, .int .i64 c5, .int .i64 c6, .int .i64 cap, .slice A l.length cc], .agg #[.int .i64 u0, .int .i64 u1, .bool u2], .int .i64 ah, .int .i64 d] w1 fun e w' => e = .returned (.bool true) ∧ Below w.heap.size w w' := by
  rintro _ rfl
  by_cases h : l.length ≤ 20
  · have hm : l.length ≤ 140737488355328 := by omega
    cases hn : rightN c0 c1 c2 c3 c4 c5 c6 cap l with
    | false => exact next_bad c0 c1 c2 c3 c4 c5 c6 cap A l cc u0 u1 u2 ah d 2 _ hr hc ha hm h (by decide) (fun W hW => refasked_no1 c0 c1 c2 c3 c4 c5 c6 cap A l cc u0 u1 u2 0 W hW hc ha hm hn)
    | true =>
      cases hp : pulseOk u0 u1 with
      | false => exact next_bad c0 c1 c2 c3 c4 c5 c6 cap A l cc u0 u1 u2 ah d 2 _ hr hc ha hm h (by decide) (fun W hW => refasked_no2 c0 c1 c2 c3 c4 c5 c6 cap A l cc u0 u1 u2 0 W hW hc ha hm hn hp)
      | true =>
        obtain ⟨b0, b1, b2, b3⟩ := nextN_bounds (u2 := u2) hp
        have hAS := fun (W : World) hW => refasked_ok c0 c1 c2 c3 c4 c5 c6 cap A l cc u0 u1 u2 0 W hW hc ha hm hn hp (by omega) (by omega)
        by_cases g : 2305843009213693952 < nextN u0 u1 u2
        · exact next_huge c0 c1 c2 c3 c4 c5 c6 cap A l cc u0 u1 u2 ah d _ _ hr hc ha hm h b0 g hAS (next_any u0 u1 u2) (refnext_any u0 u1 u2)
        · have hT := fun (now : Int) (g0 : 0 ≤ now) (g1 : now ≤ 4611686018425387904) (W : World) hW => tick_yes c0 c1 c2 c3 c4 c5 c6 cap A l cc u0 u1 u2 now d W hW hc ha hm hp hn ⟨g0, g1⟩
          have hT1 := hT (nextN u0 u1 u2) b0 (by omega)
          have e2 : tkU2 u0 u1 u2 (nextN u0 u1 u2) = false := by
            unfold tkU2
            by_cases hq : u0 ≤ nextN u0 u1 u2
            · simp [hq]
            · obtain ⟨rfl, hu⟩ := b2 (by omega)
              simp [hq]
              omega
          have e3 : (tkK u0 u1 u2 (nextN u0 u1 u2) == 0) = false := by
            unfold tkK chK
            by_cases hq : u0 ≤ nextN u0 u1 u2
            · simp [hq]
            · obtain ⟨rfl, hu⟩ := b2 (by omega)
              have hv : ¬ nextN u0 u1 true < u1 := by omega
              simp [hq, hv]
          rw [e2] at hT1
          by_cases g1 : ah < 1
          · exact next_ah1 c0 c1 c2 c3 c4 c5 c6 cap A l cc u0 u1 u2 ah d _ _ _ _ _ hr hc ha hm h b0 (by omega) e3 g1 hAS (next_any u0 u1 u2) hT1
          · by_cases g2 : nextN u0 u1 u2 < ah
            · exact next_ah2 c0 c1 c2 c3 c4 c5 c6 cap A l cc u0 u1 u2 ah d _ _ _ _ _ hr hc ha hm h b0 (by omega) e3 g1 g2 hAS (next_any u0 u1 u2) hT1
            · have hT2 := hT (nextN u0 u1 u2 - ah) (by omega) (by omega)
              have f0 : tkU0 u0 (nextN u0 u1 u2 - ah) (c0 + clampN d c1) = u0 := by
                unfold tkU0
                rw [if_neg (by omega)]
              have f1 : tkU1 u0 u1 u2 (nextN u0 u1 u2 - ah) (c5 + clampN d c6) = u1 := by
                unfold tkU1 chU1
                rw [if_neg (by omega)]
                split
                · next hu => rw [if_pos (by have := b3 hu; omega)]
                · rfl
              have f2 : tkU2 u0 u1 u2 (nextN u0 u1 u2 - ah) = u2 := by
                unfold tkU2
                rw [if_neg (by omega)]
                split
                · next hu => rw [hu]; exact decide_eq_true (by have := b3 hu; rw [hu] at this; omega)
                · next hu => cases u2 <;> simp_all
              have f3 : tkK u0 u1 u2 (nextN u0 u1 u2 - ah) = 0 := by
                unfold tkK chK
                rw [if_neg (by omega)]
                split
                · next hu => rw [if_pos (by have := b3 hu; omega)]
                · rfl
              rw [f0, f1, f2, f3] at hT2
              exact next_good c0 c1 c2 c3 c4 c5 c6 cap A l cc u0 u1 u2 ah d _ _ _ _ _ hr hc ha hm h b0 (by omega) e3 g1 g2 hAS (next_any u0 u1 u2) hT1 hT2
  · exact next_far c0 c1 c2 c3 c4 c5 c6 cap A l cc u0 u1 u2 ah d _ hr hc ha (by omega)
end Go.Proofs.Ytokjjppfdmkjeaa.A
