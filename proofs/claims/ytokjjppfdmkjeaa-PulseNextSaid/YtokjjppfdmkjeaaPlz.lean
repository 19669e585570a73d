import Derived.Test.YtokjjppfdmkjeaaArgC
import Derived.Test.YtokjjppfdmkjeaaPul6
import Derived.Test.YtokjjppfdmkjeaaPrz
import Derived.Test.YtokjjppfdmkjeaaPrz
/- What is given: a pulse: how it reads. -/
set_option linter.unusedVariables false
set_option linter.unusedSimpArgs false
namespace Go.Proofs.Ytokjjppfdmkjeaa.A
open Go.RowKit Go.Joins Go.ChangeShapes Go.WideShapes Go.Deep Go.Proofs.YtokjjppfdmkjeaaW.PrintWords Go.Proofs.YtokjjppfdmkjeaaW.PrintLast Go.Proofs.YtokjjppfdmkjeaaW.PrintMore
set_option maxRecDepth 100000
section
variable {H : Type} {enc : TypeId × Value → H} {w : World} {base : Nat} {spare : Nat → Bool} {held : Bool}
theorem open_pulse {r : Reach} {b0 : Nat} {v : Value} {d : DataW H} {p : List MemPlace} (hv : Value.okWide Try.prog w r b0 28 v) (h : DataW.Trod enc Try.prog w base spare held 28 v d p) :
    ∃ (u0 u1 : Int) (u2 : Bool), v = .agg #[.int .i64 u0, .int .i64 u1, .bool u2] := by
  obtain ⟨cs, rfl, hl, hf⟩ := open_agg_any Try.underlying28 (by kernel_rfl) (by kernel_rfl) hv h
  match cs, hl with
  | [u0, u1, u2], _ =>
    obtain ⟨v0, x0, n0, e0, t0⟩ := hf 0 _ rfl
    obtain ⟨v1, x1, n1, e1, t1⟩ := hf 1 _ rfl
    obtain ⟨v2, x2, n2, e2, t2⟩ := hf 2 _ rfl
    obtain rfl : u0 = v0 := by simpa using e0
    obtain rfl : u1 = v1 := by simpa using e1
    obtain rfl : u2 = v2 := by simpa using e2
    obtain ⟨a, rfl, _⟩ := trod_int1 (by kernel_rfl : Try.prog.underlying 2 = some (.int .i64)) t0
    obtain ⟨b, rfl, _⟩ := trod_int1 (by kernel_rfl : Try.prog.underlying 2 = some (.int .i64)) t1
    obtain ⟨c, rfl⟩ := trod_bool1 (by kernel_rfl : Try.prog.underlying 4 = some .bool) t2
    exact ⟨a, b, c, rfl⟩
end
end Go.Proofs.Ytokjjppfdmkjeaa.A

/- pulse: the walks of the laws PulseBegins, PulseBeats. -/
set_option linter.unusedVariables false
set_option linter.unusedSimpArgs false
namespace Go.Proofs.Ytokjjppfdmkjeaa.A
open Go.RowKit Go.Proofs.YtokjjppfdmkjeaaW.PrintWords Go.Proofs.YtokjjppfdmkjeaaW.PrintLast Go.Proofs.YtokjjppfdmkjeaaW.PrintMore Go.Proofs.Ytokjjppfdmkjeaa.PPulseHolds
attribute [local go_sem high] eqA28

set_option maxRecDepth 100000 in
set_option maxHeartbeats 16000000 in
theorem begins_far (c0 c1 c2 c3 c4 c5 c6 cap : Int) (A : Option Addr) (l : List Pfx) (cc : Nat) (now d : Int) (w : World) (hr : Kd.C k81 w A l.length l) (hc : l.length ≤ cc) (ha : AdrP l) (hfar : 20 < l.length) :
    Calls Try.prog 3 #[.agg #[.int .i64 c0, .int .i64 c1, .int .i64 c2, .int .i64 c3, .int .i64 c4, .int .i64 c5, .int .i64 c6, .int .i64 cap, .slice A l.length cc], .int .i64 now, .int .i64 d] w fun e w' => e = .returned (.bool true) ∧ Below w.heap.size w w' := by
  have HR := Aside0.mk hr
  have HA := Aside0.mk ha
  clear hr ha
  have HF : Aside0 (waywardenlaw15_few.f c0 c1 c2 c3 c4 c5 c6 cap l = some false) := ⟨by unfold waywardenlaw15_few.f; congr 1; apply decide_eq_false; omega⟩
  have HM : Aside0 (Many w [(w.heap.size, 24, #[.int .i64 c0, .int .i64 c1, .int .i64 c2, .int .i64 c3, .int .i64 c4, .int .i64 c5, .int .i64 c6, .int .i64 cap, .slice A l.length cc])] (w.alloc (.cells #[.int .i64 c0, .int .i64 c1, .int .i64 c2, .int .i64 c3, .int .i64 c4, .int .i64 c5, .int .i64 c6, .int .i64 cap, .slice A l.length cc] 24))) := ⟨by have h := Many.grow (Many.none w) 24 #[.int .i64 c0, .int .i64 c1, .int .i64 c2, .int .i64 c3, .int .i64 c4, .int .i64 c5, .int .i64 c6, .int .i64 cap, .slice A l.length cc]; simpa using h⟩
  have k0 := Blk.cell (Many.blk HM.out 0 _ _ _ rfl) 0 _ rfl
  have k1 := Blk.cell (Many.blk HM.out 0 _ _ _ rfl) 1 _ rfl
  have k2 := Blk.cell (Many.blk HM.out 0 _ _ _ rfl) 2 _ rfl
  have k3 := Blk.cell (Many.blk HM.out 0 _ _ _ rfl) 3 _ rfl
  have k4 := Blk.cell (Many.blk HM.out 0 _ _ _ rfl) 4 _ rfl
  have k5 := Blk.cell (Many.blk HM.out 0 _ _ _ rfl) 5 _ rfl
  have k6 := Blk.cell (Many.blk HM.out 0 _ _ _ rfl) 6 _ rfl
  have k7 := Blk.cell (Many.blk HM.out 0 _ _ _ rfl) 7 _ rfl
  have k8 := Blk.cell (Many.blk HM.out 0 _ _ _ rfl) 8 _ rfl
  go_enter Try.func3, Try.ntmps3
  go_wp2_with (first
    | (go_at_call 8; ((with_reducible refine (waywardenlaw15_few.calls c0 c1 c2 c3 c4 c5 c6 cap A cc l false _ (Kd.C_below HR.out HM.out.bel) hc HF.out).mono ?_); rintro e w9 ⟨rfl, hb⟩; have HM := Aside0.mk (Many.later HM.out hb); (try clear k0 k1 k2 k3 k4 k5 k6 k7 k8); have k0 := Blk.cell (Many.blk HM.out 0 _ _ _ rfl) 0 _ rfl; have k1 := Blk.cell (Many.blk HM.out 0 _ _ _ rfl) 1 _ rfl; have k2 := Blk.cell (Many.blk HM.out 0 _ _ _ rfl) 2 _ rfl; have k3 := Blk.cell (Many.blk HM.out 0 _ _ _ rfl) 3 _ rfl; have k4 := Blk.cell (Many.blk HM.out 0 _ _ _ rfl) 4 _ rfl; have k5 := Blk.cell (Many.blk HM.out 0 _ _ _ rfl) 5 _ rfl; have k6 := Blk.cell (Many.blk HM.out 0 _ _ _ rfl) 6 _ rfl; have k7 := Blk.cell (Many.blk HM.out 0 _ _ _ rfl) 7 _ rfl; have k8 := Blk.cell (Many.blk HM.out 0 _ _ _ rfl) 8 _ rfl; clear hb))
    | (go_at_call 9; go_loud ((with_reducible refine (works_any _).mono ?_); rintro e w9 ⟨rfl, hb⟩; have HM := Aside0.mk (Many.later HM.out hb); (try clear k0 k1 k2 k3 k4 k5 k6 k7 k8); have k0 := Blk.cell (Many.blk HM.out 0 _ _ _ rfl) 0 _ rfl; have k1 := Blk.cell (Many.blk HM.out 0 _ _ _ rfl) 1 _ rfl; have k2 := Blk.cell (Many.blk HM.out 0 _ _ _ rfl) 2 _ rfl; have k3 := Blk.cell (Many.blk HM.out 0 _ _ _ rfl) 3 _ rfl; have k4 := Blk.cell (Many.blk HM.out 0 _ _ _ rfl) 4 _ rfl; have k5 := Blk.cell (Many.blk HM.out 0 _ _ _ rfl) 5 _ rfl; have k6 := Blk.cell (Many.blk HM.out 0 _ _ _ rfl) 6 _ rfl; have k7 := Blk.cell (Many.blk HM.out 0 _ _ _ rfl) 7 _ rfl; have k8 := Blk.cell (Many.blk HM.out 0 _ _ _ rfl) 8 _ rfl; clear hb)))
  go_ret
  exact ⟨rfl, HM.out.bel⟩
set_option maxRecDepth 100000 in
set_option maxHeartbeats 16000000 in
theorem begins_bad (c0 c1 c2 c3 c4 c5 c6 cap : Int) (A : Option Addr) (l : List Pfx) (cc : Nat) (now d E : Int) (w : World) (hr : Kd.C k81 w A l.length l) (hc : l.length ≤ cc) (ha : AdrP l) (hm : l.length ≤ 140737488355328) (hfew : l.length ≤ 20) (hE : (E != 0) = true) (hBG : ∀ W : World, Kd.C k81 W A l.length l → Calls Try.prog 10 #[.agg #[.int .i64 c0, .int .i64 c1, .int .i64 c2, .int .i64 c3, .int .i64 c4, .int .i64 c5, .int .i64 c6, .int .i64 cap, .slice A l.length cc], .int .i64 now, .int .i64 d] W fun e w' => e = .returned (.tuple #[.agg #[.int .i64 0, .int .i64 0, .bool false], .int .i64 E]) ∧ Below W.heap.size W w') (hAS : ∀ W : World, Kd.C k81 W A l.length l → Calls Try.prog 11 #[.agg #[.int .i64 c0, .int .i64 c1, .int .i64 c2, .int .i64 c3, .int .i64 c4, .int .i64 c5, .int .i64 c6, .int .i64 cap, .slice A l.length cc], .agg #[.int .i64 0, .int .i64 0, .bool false], .int .i64 now] W fun e w' => e = .returned (.int .i64 E) ∧ Below W.heap.size W w') :
    Calls Try.prog 3 #[.agg #[.int .i64 c0, .int .i64 c1, .int .i64 c2, .int .i64 c3, .int .i64 c4, .int .i64 c5, .int .i64 c6, .int .i64 cap, .slice A l.length cc], .int .i64 now, .int .i64 d] w fun e w' => e = .returned (.bool true) ∧ Below w.heap.size w w' := by
  have HR := Aside0.mk hr
  have HA := Aside0.mk ha
  clear hr ha
  have HF : Aside0 (waywardenlaw15_few.f c0 c1 c2 c3 c4 c5 c6 cap l = some true) := ⟨by unfold waywardenlaw15_few.f; congr 1; apply decide_eq_true; omega⟩
  have HhBG := Aside0.mk hBG
  have HhAS := Aside0.mk hAS
  clear hBG hAS
  have HM : Aside0 (Many w [(w.heap.size, 24, #[.int .i64 c0, .int .i64 c1, .int .i64 c2, .int .i64 c3, .int .i64 c4, .int .i64 c5, .int .i64 c6, .int .i64 cap, .slice A l.length cc])] (w.alloc (.cells #[.int .i64 c0, .int .i64 c1, .int .i64 c2, .int .i64 c3, .int .i64 c4, .int .i64 c5, .int .i64 c6, .int .i64 cap, .slice A l.length cc] 24))) := ⟨by have h := Many.grow (Many.none w) 24 #[.int .i64 c0, .int .i64 c1, .int .i64 c2, .int .i64 c3, .int .i64 c4, .int .i64 c5, .int .i64 c6, .int .i64 cap, .slice A l.length cc]; simpa using h⟩
  have k0 := Blk.cell (Many.blk HM.out 0 _ _ _ rfl) 0 _ rfl
  have k1 := Blk.cell (Many.blk HM.out 0 _ _ _ rfl) 1 _ rfl
  have k2 := Blk.cell (Many.blk HM.out 0 _ _ _ rfl) 2 _ rfl
  have k3 := Blk.cell (Many.blk HM.out 0 _ _ _ rfl) 3 _ rfl
  have k4 := Blk.cell (Many.blk HM.out 0 _ _ _ rfl) 4 _ rfl
  have k5 := Blk.cell (Many.blk HM.out 0 _ _ _ rfl) 5 _ rfl
  have k6 := Blk.cell (Many.blk HM.out 0 _ _ _ rfl) 6 _ rfl
  have k7 := Blk.cell (Many.blk HM.out 0 _ _ _ rfl) 7 _ rfl
  have k8 := Blk.cell (Many.blk HM.out 0 _ _ _ rfl) 8 _ rfl
  go_enter Try.func3, Try.ntmps3
  go_upto_region 4 with (first
    | (go_at_call 8; ((with_reducible refine (waywardenlaw15_few.calls c0 c1 c2 c3 c4 c5 c6 cap A cc l true _ (Kd.C_below HR.out HM.out.bel) hc HF.out).mono ?_); rintro e w9 ⟨rfl, hb⟩; have HM := Aside0.mk (Many.later HM.out hb); (try clear k0 k1 k2 k3 k4 k5 k6 k7 k8); have k0 := Blk.cell (Many.blk HM.out 0 _ _ _ rfl) 0 _ rfl; have k1 := Blk.cell (Many.blk HM.out 0 _ _ _ rfl) 1 _ rfl; have k2 := Blk.cell (Many.blk HM.out 0 _ _ _ rfl) 2 _ rfl; have k3 := Blk.cell (Many.blk HM.out 0 _ _ _ rfl) 3 _ rfl; have k4 := Blk.cell (Many.blk HM.out 0 _ _ _ rfl) 4 _ rfl; have k5 := Blk.cell (Many.blk HM.out 0 _ _ _ rfl) 5 _ rfl; have k6 := Blk.cell (Many.blk HM.out 0 _ _ _ rfl) 6 _ rfl; have k7 := Blk.cell (Many.blk HM.out 0 _ _ _ rfl) 7 _ rfl; have k8 := Blk.cell (Many.blk HM.out 0 _ _ _ rfl) 8 _ rfl; clear hb))
    | (go_at_call 9; go_loud ((with_reducible refine (works_any _).mono ?_); rintro e w9 ⟨rfl, hb⟩; have HM := Aside0.mk (Many.later HM.out hb); (try clear k0 k1 k2 k3 k4 k5 k6 k7 k8); have k0 := Blk.cell (Many.blk HM.out 0 _ _ _ rfl) 0 _ rfl; have k1 := Blk.cell (Many.blk HM.out 0 _ _ _ rfl) 1 _ rfl; have k2 := Blk.cell (Many.blk HM.out 0 _ _ _ rfl) 2 _ rfl; have k3 := Blk.cell (Many.blk HM.out 0 _ _ _ rfl) 3 _ rfl; have k4 := Blk.cell (Many.blk HM.out 0 _ _ _ rfl) 4 _ rfl; have k5 := Blk.cell (Many.blk HM.out 0 _ _ _ rfl) 5 _ rfl; have k6 := Blk.cell (Many.blk HM.out 0 _ _ _ rfl) 6 _ rfl; have k7 := Blk.cell (Many.blk HM.out 0 _ _ _ rfl) 7 _ rfl; have k8 := Blk.cell (Many.blk HM.out 0 _ _ _ rfl) 8 _ rfl; clear hb))
    | (go_at_call 10; go_loud ((with_reducible refine (HhBG.out _ (Kd.C_below HR.out HM.out.bel)).mono ?_); rintro e w9 ⟨rfl, hb⟩; have HM := Aside0.mk (Many.later HM.out hb); (try clear k0 k1 k2 k3 k4 k5 k6 k7 k8); have k0 := Blk.cell (Many.blk HM.out 0 _ _ _ rfl) 0 _ rfl; have k1 := Blk.cell (Many.blk HM.out 0 _ _ _ rfl) 1 _ rfl; have k2 := Blk.cell (Many.blk HM.out 0 _ _ _ rfl) 2 _ rfl; have k3 := Blk.cell (Many.blk HM.out 0 _ _ _ rfl) 3 _ rfl; have k4 := Blk.cell (Many.blk HM.out 0 _ _ _ rfl) 4 _ rfl; have k5 := Blk.cell (Many.blk HM.out 0 _ _ _ rfl) 5 _ rfl; have k6 := Blk.cell (Many.blk HM.out 0 _ _ _ rfl) 6 _ rfl; have k7 := Blk.cell (Many.blk HM.out 0 _ _ _ rfl) 7 _ rfl; have k8 := Blk.cell (Many.blk HM.out 0 _ _ _ rfl) 8 _ rfl; clear hb)))
  have HM0 := Aside0.mk (Many.grow HM.out 28 #[.int .i64 0, .int .i64 0, .bool false])
  obtain ⟨gq, hgq⟩ : ∃ g, w9.heap.size = g := ⟨_, rfl⟩
  obtain ⟨Wq, hWq⟩ : ∃ W', w9.alloc (.cells #[.int .i64 0, .int .i64 0, .bool false] 28) = W' := ⟨_, rfl⟩
  have hnq : ∀ p v, w9.cell? p = some v → p.block < gq := fun p v h => by rw [← hgq]; exact World.block_lt_of_cell? w9 p h
  rw [hWq, hgq] at HM0
  rw [hWq, hgq]
  have ltq_k := hnq _ _ (Blk.cell (Many.blk HM.out 0 _ _ _ rfl) 0 _ rfl)
  clear hnq hgq hWq k0 k1 k2 k3 k4 k5 k6 k7 k8 HM
  have HM : Aside0 (Many w [(w.heap.size, 24, #[.int .i64 c0, .int .i64 c1, .int .i64 c2, .int .i64 c3, .int .i64 c4, .int .i64 c5, .int .i64 c6, .int .i64 cap, .slice A l.length cc]), (gq, 28, #[.int .i64 0, .int .i64 0, .bool false])] Wq) := ⟨HM0.out⟩
  clear HM0
  have k0 := Blk.cell (Many.blk HM.out 0 _ _ _ rfl) 0 _ rfl
  have k1 := Blk.cell (Many.blk HM.out 0 _ _ _ rfl) 1 _ rfl
  have k2 := Blk.cell (Many.blk HM.out 0 _ _ _ rfl) 2 _ rfl
  have k3 := Blk.cell (Many.blk HM.out 0 _ _ _ rfl) 3 _ rfl
  have k4 := Blk.cell (Many.blk HM.out 0 _ _ _ rfl) 4 _ rfl
  have k5 := Blk.cell (Many.blk HM.out 0 _ _ _ rfl) 5 _ rfl
  have k6 := Blk.cell (Many.blk HM.out 0 _ _ _ rfl) 6 _ rfl
  have k7 := Blk.cell (Many.blk HM.out 0 _ _ _ rfl) 7 _ rfl
  have k8 := Blk.cell (Many.blk HM.out 0 _ _ _ rfl) 8 _ rfl
  have q0 := Blk.cell (Many.blk HM.out 1 _ _ _ rfl) 0 _ rfl
  have q1 := Blk.cell (Many.blk HM.out 1 _ _ _ rfl) 1 _ rfl
  have q2 := Blk.cell (Many.blk HM.out 1 _ _ _ rfl) 2 _ rfl
  go_wp2_with (first
    | (go_at_call 12; ((with_reducible refine (waywardenlaw15_num.calls _ _ _ rfl).mono ?_); rintro e w9 ⟨rfl, hd⟩; have hb := hd.below; clear hd; have HM := Aside0.mk (Many.later HM.out hb); (try clear k0 k1 k2 k3 k4 k5 k6 k7 k8 q0 q1 q2); have k0 := Blk.cell (Many.blk HM.out 0 _ _ _ rfl) 0 _ rfl; have k1 := Blk.cell (Many.blk HM.out 0 _ _ _ rfl) 1 _ rfl; have k2 := Blk.cell (Many.blk HM.out 0 _ _ _ rfl) 2 _ rfl; have k3 := Blk.cell (Many.blk HM.out 0 _ _ _ rfl) 3 _ rfl; have k4 := Blk.cell (Many.blk HM.out 0 _ _ _ rfl) 4 _ rfl; have k5 := Blk.cell (Many.blk HM.out 0 _ _ _ rfl) 5 _ rfl; have k6 := Blk.cell (Many.blk HM.out 0 _ _ _ rfl) 6 _ rfl; have k7 := Blk.cell (Many.blk HM.out 0 _ _ _ rfl) 7 _ rfl; have k8 := Blk.cell (Many.blk HM.out 0 _ _ _ rfl) 8 _ rfl; have q0 := Blk.cell (Many.blk HM.out 1 _ _ _ rfl) 0 _ rfl; have q1 := Blk.cell (Many.blk HM.out 1 _ _ _ rfl) 1 _ rfl; have q2 := Blk.cell (Many.blk HM.out 1 _ _ _ rfl) 2 _ rfl; clear hb))
    | (go_at_call 9; go_loud ((with_reducible refine (works_any _).mono ?_); rintro e w9 ⟨rfl, hb⟩; have HM := Aside0.mk (Many.later HM.out hb); (try clear k0 k1 k2 k3 k4 k5 k6 k7 k8 q0 q1 q2); have k0 := Blk.cell (Many.blk HM.out 0 _ _ _ rfl) 0 _ rfl; have k1 := Blk.cell (Many.blk HM.out 0 _ _ _ rfl) 1 _ rfl; have k2 := Blk.cell (Many.blk HM.out 0 _ _ _ rfl) 2 _ rfl; have k3 := Blk.cell (Many.blk HM.out 0 _ _ _ rfl) 3 _ rfl; have k4 := Blk.cell (Many.blk HM.out 0 _ _ _ rfl) 4 _ rfl; have k5 := Blk.cell (Many.blk HM.out 0 _ _ _ rfl) 5 _ rfl; have k6 := Blk.cell (Many.blk HM.out 0 _ _ _ rfl) 6 _ rfl; have k7 := Blk.cell (Many.blk HM.out 0 _ _ _ rfl) 7 _ rfl; have k8 := Blk.cell (Many.blk HM.out 0 _ _ _ rfl) 8 _ rfl; have q0 := Blk.cell (Many.blk HM.out 1 _ _ _ rfl) 0 _ rfl; have q1 := Blk.cell (Many.blk HM.out 1 _ _ _ rfl) 1 _ rfl; have q2 := Blk.cell (Many.blk HM.out 1 _ _ _ rfl) 2 _ rfl; clear hb))
    | (go_at_call 11; go_loud ((with_reducible refine (HhAS.out _ (Kd.C_below HR.out HM.out.bel)).mono ?_); rintro e w9 ⟨rfl, hb⟩; have HM := Aside0.mk (Many.later HM.out hb); (try clear k0 k1 k2 k3 k4 k5 k6 k7 k8 q0 q1 q2); have k0 := Blk.cell (Many.blk HM.out 0 _ _ _ rfl) 0 _ rfl; have k1 := Blk.cell (Many.blk HM.out 0 _ _ _ rfl) 1 _ rfl; have k2 := Blk.cell (Many.blk HM.out 0 _ _ _ rfl) 2 _ rfl; have k3 := Blk.cell (Many.blk HM.out 0 _ _ _ rfl) 3 _ rfl; have k4 := Blk.cell (Many.blk HM.out 0 _ _ _ rfl) 4 _ rfl; have k5 := Blk.cell (Many.blk HM.out 0 _ _ _ rfl) 5 _ rfl; have k6 := Blk.cell (Many.blk HM.out 0 _ _ _ rfl) 6 _ rfl; have k7 := Blk.cell (Many.blk HM.out 0 _ _ _ rfl) 7 _ rfl; have k8 := Blk.cell (Many.blk HM.out 0 _ _ _ rfl) 8 _ rfl; have q0 := Blk.cell (Many.blk HM.out 1 _ _ _ rfl) 0 _ rfl; have q1 := Blk.cell (Many.blk HM.out 1 _ _ _ rfl) 1 _ rfl; have q2 := Blk.cell (Many.blk HM.out 1 _ _ _ rfl) 2 _ rfl; clear hb)))
  go_ret
  exact ⟨rfl, HM.out.bel⟩
set_option maxRecDepth 100000 in
set_option maxHeartbeats 16000000 in
theorem begins_good (c0 c1 c2 c3 c4 c5 c6 cap : Int) (A : Option Addr) (l : List Pfx) (cc : Nat) (now d X : Int) (w : World) (hr : Kd.C k81 w A l.length l) (hc : l.length ≤ cc) (ha : AdrP l) (hm : l.length ≤ 140737488355328) (hfew : l.length ≤ 20) (hBG : ∀ W : World, Kd.C k81 W A l.length l → Calls Try.prog 10 #[.agg #[.int .i64 c0, .int .i64 c1, .int .i64 c2, .int .i64 c3, .int .i64 c4, .int .i64 c5, .int .i64 c6, .int .i64 cap, .slice A l.length cc], .int .i64 now, .int .i64 d] W fun e w' => e = .returned (.tuple #[.agg #[.int .i64 X, .int .i64 now, .bool false], .int .i64 0]) ∧ Below W.heap.size W w') (hAS : ∀ W : World, Kd.C k81 W A l.length l → Calls Try.prog 11 #[.agg #[.int .i64 c0, .int .i64 c1, .int .i64 c2, .int .i64 c3, .int .i64 c4, .int .i64 c5, .int .i64 c6, .int .i64 cap, .slice A l.length cc], .agg #[.int .i64 0, .int .i64 0, .bool false], .int .i64 now] W fun e w' => e = .returned (.int .i64 0) ∧ Below W.heap.size W w') (hRB : ∀ W : World, Calls Try.prog 13 #[.agg #[.int .i64 c0, .int .i64 c1, .int .i64 c2, .int .i64 c3, .int .i64 c4, .int .i64 c5, .int .i64 c6, .int .i64 cap, .slice A l.length cc], .int .i64 now, .int .i64 d] W fun e w' => e = .returned (.agg #[.int .i64 X, .int .i64 now, .bool false]) ∧ Below W.heap.size W w') :
    Calls Try.prog 3 #[.agg #[.int .i64 c0, .int .i64 c1, .int .i64 c2, .int .i64 c3, .int .i64 c4, .int .i64 c5, .int .i64 c6, .int .i64 cap, .slice A l.length cc], .int .i64 now, .int .i64 d] w fun e w' => e = .returned (.bool true) ∧ Below w.heap.size w w' := by
  have HR := Aside0.mk hr
  have HA := Aside0.mk ha
  clear hr ha
  have HF : Aside0 (waywardenlaw15_few.f c0 c1 c2 c3 c4 c5 c6 cap l = some true) := ⟨by unfold waywardenlaw15_few.f; congr 1; apply decide_eq_true; omega⟩
  have HhBG := Aside0.mk hBG
  have HhAS := Aside0.mk hAS
  have HhRB := Aside0.mk hRB
  clear hBG hAS hRB
  have HM : Aside0 (Many w [(w.heap.size, 24, #[.int .i64 c0, .int .i64 c1, .int .i64 c2, .int .i64 c3, .int .i64 c4, .int .i64 c5, .int .i64 c6, .int .i64 cap, .slice A l.length cc])] (w.alloc (.cells #[.int .i64 c0, .int .i64 c1, .int .i64 c2, .int .i64 c3, .int .i64 c4, .int .i64 c5, .int .i64 c6, .int .i64 cap, .slice A l.length cc] 24))) := ⟨by have h := Many.grow (Many.none w) 24 #[.int .i64 c0, .int .i64 c1, .int .i64 c2, .int .i64 c3, .int .i64 c4, .int .i64 c5, .int .i64 c6, .int .i64 cap, .slice A l.length cc]; simpa using h⟩
  have k0 := Blk.cell (Many.blk HM.out 0 _ _ _ rfl) 0 _ rfl
  have k1 := Blk.cell (Many.blk HM.out 0 _ _ _ rfl) 1 _ rfl
  have k2 := Blk.cell (Many.blk HM.out 0 _ _ _ rfl) 2 _ rfl
  have k3 := Blk.cell (Many.blk HM.out 0 _ _ _ rfl) 3 _ rfl
  have k4 := Blk.cell (Many.blk HM.out 0 _ _ _ rfl) 4 _ rfl
  have k5 := Blk.cell (Many.blk HM.out 0 _ _ _ rfl) 5 _ rfl
  have k6 := Blk.cell (Many.blk HM.out 0 _ _ _ rfl) 6 _ rfl
  have k7 := Blk.cell (Many.blk HM.out 0 _ _ _ rfl) 7 _ rfl
  have k8 := Blk.cell (Many.blk HM.out 0 _ _ _ rfl) 8 _ rfl
  go_enter Try.func3, Try.ntmps3
  go_upto_region 4 with (first
    | (go_at_call 8; ((with_reducible refine (waywardenlaw15_few.calls c0 c1 c2 c3 c4 c5 c6 cap A cc l true _ (Kd.C_below HR.out HM.out.bel) hc HF.out).mono ?_); rintro e w9 ⟨rfl, hb⟩; have HM := Aside0.mk (Many.later HM.out hb); (try clear k0 k1 k2 k3 k4 k5 k6 k7 k8); have k0 := Blk.cell (Many.blk HM.out 0 _ _ _ rfl) 0 _ rfl; have k1 := Blk.cell (Many.blk HM.out 0 _ _ _ rfl) 1 _ rfl; have k2 := Blk.cell (Many.blk HM.out 0 _ _ _ rfl) 2 _ rfl; have k3 := Blk.cell (Many.blk HM.out 0 _ _ _ rfl) 3 _ rfl; have k4 := Blk.cell (Many.blk HM.out 0 _ _ _ rfl) 4 _ rfl; have k5 := Blk.cell (Many.blk HM.out 0 _ _ _ rfl) 5 _ rfl; have k6 := Blk.cell (Many.blk HM.out 0 _ _ _ rfl) 6 _ rfl; have k7 := Blk.cell (Many.blk HM.out 0 _ _ _ rfl) 7 _ rfl; have k8 := Blk.cell (Many.blk HM.out 0 _ _ _ rfl) 8 _ rfl; clear hb))
    | (go_at_call 9; go_loud ((with_reducible refine (works_any _).mono ?_); rintro e w9 ⟨rfl, hb⟩; have HM := Aside0.mk (Many.later HM.out hb); (try clear k0 k1 k2 k3 k4 k5 k6 k7 k8); have k0 := Blk.cell (Many.blk HM.out 0 _ _ _ rfl) 0 _ rfl; have k1 := Blk.cell (Many.blk HM.out 0 _ _ _ rfl) 1 _ rfl; have k2 := Blk.cell (Many.blk HM.out 0 _ _ _ rfl) 2 _ rfl; have k3 := Blk.cell (Many.blk HM.out 0 _ _ _ rfl) 3 _ rfl; have k4 := Blk.cell (Many.blk HM.out 0 _ _ _ rfl) 4 _ rfl; have k5 := Blk.cell (Many.blk HM.out 0 _ _ _ rfl) 5 _ rfl; have k6 := Blk.cell (Many.blk HM.out 0 _ _ _ rfl) 6 _ rfl; have k7 := Blk.cell (Many.blk HM.out 0 _ _ _ rfl) 7 _ rfl; have k8 := Blk.cell (Many.blk HM.out 0 _ _ _ rfl) 8 _ rfl; clear hb))
    | (go_at_call 10; go_loud ((with_reducible refine (HhBG.out _ (Kd.C_below HR.out HM.out.bel)).mono ?_); rintro e w9 ⟨rfl, hb⟩; have HM := Aside0.mk (Many.later HM.out hb); (try clear k0 k1 k2 k3 k4 k5 k6 k7 k8); have k0 := Blk.cell (Many.blk HM.out 0 _ _ _ rfl) 0 _ rfl; have k1 := Blk.cell (Many.blk HM.out 0 _ _ _ rfl) 1 _ rfl; have k2 := Blk.cell (Many.blk HM.out 0 _ _ _ rfl) 2 _ rfl; have k3 := Blk.cell (Many.blk HM.out 0 _ _ _ rfl) 3 _ rfl; have k4 := Blk.cell (Many.blk HM.out 0 _ _ _ rfl) 4 _ rfl; have k5 := Blk.cell (Many.blk HM.out 0 _ _ _ rfl) 5 _ rfl; have k6 := Blk.cell (Many.blk HM.out 0 _ _ _ rfl) 6 _ rfl; have k7 := Blk.cell (Many.blk HM.out 0 _ _ _ rfl) 7 _ rfl; have k8 := Blk.cell (Many.blk HM.out 0 _ _ _ rfl) 8 _ rfl; clear hb)))
  have HM0 := Aside0.mk (Many.grow HM.out 28 #[.int .i64 X, .int .i64 now, .bool false])
  obtain ⟨gq, hgq⟩ : ∃ g, w9.heap.size = g := ⟨_, rfl⟩
  obtain ⟨Wq, hWq⟩ : ∃ W', w9.alloc (.cells #[.int .i64 X, .int .i64 now, .bool false] 28) = W' := ⟨_, rfl⟩
  have hnq : ∀ p v, w9.cell? p = some v → p.block < gq := fun p v h => by rw [← hgq]; exact World.block_lt_of_cell? w9 p h
  rw [hWq, hgq] at HM0
  rw [hWq, hgq]
  have ltq_k := hnq _ _ (Blk.cell (Many.blk HM.out 0 _ _ _ rfl) 0 _ rfl)
  clear hnq hgq hWq k0 k1 k2 k3 k4 k5 k6 k7 k8 HM
  have HM : Aside0 (Many w [(w.heap.size, 24, #[.int .i64 c0, .int .i64 c1, .int .i64 c2, .int .i64 c3, .int .i64 c4, .int .i64 c5, .int .i64 c6, .int .i64 cap, .slice A l.length cc]), (gq, 28, #[.int .i64 X, .int .i64 now, .bool false])] Wq) := ⟨HM0.out⟩
  clear HM0
  have k0 := Blk.cell (Many.blk HM.out 0 _ _ _ rfl) 0 _ rfl
  have k1 := Blk.cell (Many.blk HM.out 0 _ _ _ rfl) 1 _ rfl
  have k2 := Blk.cell (Many.blk HM.out 0 _ _ _ rfl) 2 _ rfl
  have k3 := Blk.cell (Many.blk HM.out 0 _ _ _ rfl) 3 _ rfl
  have k4 := Blk.cell (Many.blk HM.out 0 _ _ _ rfl) 4 _ rfl
  have k5 := Blk.cell (Many.blk HM.out 0 _ _ _ rfl) 5 _ rfl
  have k6 := Blk.cell (Many.blk HM.out 0 _ _ _ rfl) 6 _ rfl
  have k7 := Blk.cell (Many.blk HM.out 0 _ _ _ rfl) 7 _ rfl
  have k8 := Blk.cell (Many.blk HM.out 0 _ _ _ rfl) 8 _ rfl
  have q0 := Blk.cell (Many.blk HM.out 1 _ _ _ rfl) 0 _ rfl
  have q1 := Blk.cell (Many.blk HM.out 1 _ _ _ rfl) 1 _ rfl
  have q2 := Blk.cell (Many.blk HM.out 1 _ _ _ rfl) 2 _ rfl
  go_upto_region 7 with (first
    | (go_at_call 12; ((with_reducible refine (waywardenlaw15_num.calls _ _ _ rfl).mono ?_); rintro e w9 ⟨rfl, hd⟩; have hb := hd.below; clear hd; have HM := Aside0.mk (Many.later HM.out hb); (try clear k0 k1 k2 k3 k4 k5 k6 k7 k8 q0 q1 q2); have k0 := Blk.cell (Many.blk HM.out 0 _ _ _ rfl) 0 _ rfl; have k1 := Blk.cell (Many.blk HM.out 0 _ _ _ rfl) 1 _ rfl; have k2 := Blk.cell (Many.blk HM.out 0 _ _ _ rfl) 2 _ rfl; have k3 := Blk.cell (Many.blk HM.out 0 _ _ _ rfl) 3 _ rfl; have k4 := Blk.cell (Many.blk HM.out 0 _ _ _ rfl) 4 _ rfl; have k5 := Blk.cell (Many.blk HM.out 0 _ _ _ rfl) 5 _ rfl; have k6 := Blk.cell (Many.blk HM.out 0 _ _ _ rfl) 6 _ rfl; have k7 := Blk.cell (Many.blk HM.out 0 _ _ _ rfl) 7 _ rfl; have k8 := Blk.cell (Many.blk HM.out 0 _ _ _ rfl) 8 _ rfl; have q0 := Blk.cell (Many.blk HM.out 1 _ _ _ rfl) 0 _ rfl; have q1 := Blk.cell (Many.blk HM.out 1 _ _ _ rfl) 1 _ rfl; have q2 := Blk.cell (Many.blk HM.out 1 _ _ _ rfl) 2 _ rfl; clear hb))
    | (go_at_call 9; go_loud ((with_reducible refine (works_any _).mono ?_); rintro e w9 ⟨rfl, hb⟩; have HM := Aside0.mk (Many.later HM.out hb); (try clear k0 k1 k2 k3 k4 k5 k6 k7 k8 q0 q1 q2); have k0 := Blk.cell (Many.blk HM.out 0 _ _ _ rfl) 0 _ rfl; have k1 := Blk.cell (Many.blk HM.out 0 _ _ _ rfl) 1 _ rfl; have k2 := Blk.cell (Many.blk HM.out 0 _ _ _ rfl) 2 _ rfl; have k3 := Blk.cell (Many.blk HM.out 0 _ _ _ rfl) 3 _ rfl; have k4 := Blk.cell (Many.blk HM.out 0 _ _ _ rfl) 4 _ rfl; have k5 := Blk.cell (Many.blk HM.out 0 _ _ _ rfl) 5 _ rfl; have k6 := Blk.cell (Many.blk HM.out 0 _ _ _ rfl) 6 _ rfl; have k7 := Blk.cell (Many.blk HM.out 0 _ _ _ rfl) 7 _ rfl; have k8 := Blk.cell (Many.blk HM.out 0 _ _ _ rfl) 8 _ rfl; have q0 := Blk.cell (Many.blk HM.out 1 _ _ _ rfl) 0 _ rfl; have q1 := Blk.cell (Many.blk HM.out 1 _ _ _ rfl) 1 _ rfl; have q2 := Blk.cell (Many.blk HM.out 1 _ _ _ rfl) 2 _ rfl; clear hb))
    | (go_at_call 11; go_loud ((with_reducible refine (HhAS.out _ (Kd.C_below HR.out HM.out.bel)).mono ?_); rintro e w9 ⟨rfl, hb⟩; have HM := Aside0.mk (Many.later HM.out hb); (try clear k0 k1 k2 k3 k4 k5 k6 k7 k8 q0 q1 q2); have k0 := Blk.cell (Many.blk HM.out 0 _ _ _ rfl) 0 _ rfl; have k1 := Blk.cell (Many.blk HM.out 0 _ _ _ rfl) 1 _ rfl; have k2 := Blk.cell (Many.blk HM.out 0 _ _ _ rfl) 2 _ rfl; have k3 := Blk.cell (Many.blk HM.out 0 _ _ _ rfl) 3 _ rfl; have k4 := Blk.cell (Many.blk HM.out 0 _ _ _ rfl) 4 _ rfl; have k5 := Blk.cell (Many.blk HM.out 0 _ _ _ rfl) 5 _ rfl; have k6 := Blk.cell (Many.blk HM.out 0 _ _ _ rfl) 6 _ rfl; have k7 := Blk.cell (Many.blk HM.out 0 _ _ _ rfl) 7 _ rfl; have k8 := Blk.cell (Many.blk HM.out 0 _ _ _ rfl) 8 _ rfl; have q0 := Blk.cell (Many.blk HM.out 1 _ _ _ rfl) 0 _ rfl; have q1 := Blk.cell (Many.blk HM.out 1 _ _ _ rfl) 1 _ rfl; have q2 := Blk.cell (Many.blk HM.out 1 _ _ _ rfl) 2 _ rfl; clear hb)))
  have k0' : ∀ w' : World, Many w [(w.heap.size, 24, #[.int .i64 c0, .int .i64 c1, .int .i64 c2, .int .i64 c3, .int .i64 c4, .int .i64 c5, .int .i64 c6, .int .i64 cap, .slice A l.length cc]), (gq, 28, #[.int .i64 X, .int .i64 now, .bool false])] w' → w'.cell? ⟨w.heap.size, 0, none⟩ = some (.int .i64 c0) := fun w' h => Blk.cell (Many.blk h 0 _ _ _ rfl) 0 _ rfl
  have k1' : ∀ w' : World, Many w [(w.heap.size, 24, #[.int .i64 c0, .int .i64 c1, .int .i64 c2, .int .i64 c3, .int .i64 c4, .int .i64 c5, .int .i64 c6, .int .i64 cap, .slice A l.length cc]), (gq, 28, #[.int .i64 X, .int .i64 now, .bool false])] w' → w'.cell? ⟨w.heap.size, 1, none⟩ = some (.int .i64 c1) := fun w' h => Blk.cell (Many.blk h 0 _ _ _ rfl) 1 _ rfl
  have k2' : ∀ w' : World, Many w [(w.heap.size, 24, #[.int .i64 c0, .int .i64 c1, .int .i64 c2, .int .i64 c3, .int .i64 c4, .int .i64 c5, .int .i64 c6, .int .i64 cap, .slice A l.length cc]), (gq, 28, #[.int .i64 X, .int .i64 now, .bool false])] w' → w'.cell? ⟨w.heap.size, 2, none⟩ = some (.int .i64 c2) := fun w' h => Blk.cell (Many.blk h 0 _ _ _ rfl) 2 _ rfl
  have k3' : ∀ w' : World, Many w [(w.heap.size, 24, #[.int .i64 c0, .int .i64 c1, .int .i64 c2, .int .i64 c3, .int .i64 c4, .int .i64 c5, .int .i64 c6, .int .i64 cap, .slice A l.length cc]), (gq, 28, #[.int .i64 X, .int .i64 now, .bool false])] w' → w'.cell? ⟨w.heap.size, 3, none⟩ = some (.int .i64 c3) := fun w' h => Blk.cell (Many.blk h 0 _ _ _ rfl) 3 _ rfl
  have k4' : ∀ w' : World, Many w [(w.heap.size, 24, #[.int .i64 c0, .int .i64 c1, .int .i64 c2, .int .i64 c3, .int .i64 c4, .int .i64 c5, .int .i64 c6, .int .i64 cap, .slice A l.length cc]), (gq, 28, #[.int .i64 X, .int .i64 now, .bool false])] w' → w'.cell? ⟨w.heap.size, 4, none⟩ = some (.int .i64 c4) := fun w' h => Blk.cell (Many.blk h 0 _ _ _ rfl) 4 _ rfl
  have k5' : ∀ w' : World, Many w [(w.heap.size, 24, #[.int .i64 c0, .int .i64 c1, .int .i64 c2, .int .i64 c3, .int .i64 c4, .int .i64 c5, .int .i64 c6, .int .i64 cap, .slice A l.length cc]), (gq, 28, #[.int .i64 X, .int .i64 now, .bool false])] w' → w'.cell? ⟨w.heap.size, 5, none⟩ = some (.int .i64 c5) := fun w' h => Blk.cell (Many.blk h 0 _ _ _ rfl) 5 _ rfl
  have k6' : ∀ w' : World, Many w [(w.heap.size, 24, #[.int .i64 c0, .int .i64 c1, .int .i64 c2, .int .i64 c3, .int .i64 c4, .int .i64 c5, .int .i64 c6, .int .i64 cap, .slice A l.length cc]), (gq, 28, #[.int .i64 X, .int .i64 now, .bool false])] w' → w'.cell? ⟨w.heap.size, 6, none⟩ = some (.int .i64 c6) := fun w' h => Blk.cell (Many.blk h 0 _ _ _ rfl) 6 _ rfl
  have k7' : ∀ w' : World, Many w [(w.heap.size, 24, #[.int .i64 c0, .int .i64 c1, .int .i64 c2, .int .i64 c3, .int .i64 c4, .int .i64 c5, .int .i64 c6, .int .i64 cap, .slice A l.length cc]), (gq, 28, #[.int .i64 X, .int .i64 now, .bool false])] w' → w'.cell? ⟨w.heap.size, 7, none⟩ = some (.int .i64 cap) := fun w' h => Blk.cell (Many.blk h 0 _ _ _ rfl) 7 _ rfl
  have k8' : ∀ w' : World, Many w [(w.heap.size, 24, #[.int .i64 c0, .int .i64 c1, .int .i64 c2, .int .i64 c3, .int .i64 c4, .int .i64 c5, .int .i64 c6, .int .i64 cap, .slice A l.length cc]), (gq, 28, #[.int .i64 X, .int .i64 now, .bool false])] w' → w'.cell? ⟨w.heap.size, 8, none⟩ = some (.slice A l.length cc) := fun w' h => Blk.cell (Many.blk h 0 _ _ _ rfl) 8 _ rfl
  have q0' : ∀ w' : World, Many w [(w.heap.size, 24, #[.int .i64 c0, .int .i64 c1, .int .i64 c2, .int .i64 c3, .int .i64 c4, .int .i64 c5, .int .i64 c6, .int .i64 cap, .slice A l.length cc]), (gq, 28, #[.int .i64 X, .int .i64 now, .bool false])] w' → w'.cell? ⟨gq, 0, none⟩ = some (.int .i64 X) := fun w' h => Blk.cell (Many.blk h 1 _ _ _ rfl) 0 _ rfl
  have q1' : ∀ w' : World, Many w [(w.heap.size, 24, #[.int .i64 c0, .int .i64 c1, .int .i64 c2, .int .i64 c3, .int .i64 c4, .int .i64 c5, .int .i64 c6, .int .i64 cap, .slice A l.length cc]), (gq, 28, #[.int .i64 X, .int .i64 now, .bool false])] w' → w'.cell? ⟨gq, 1, none⟩ = some (.int .i64 now) := fun w' h => Blk.cell (Many.blk h 1 _ _ _ rfl) 1 _ rfl
  have q2' : ∀ w' : World, Many w [(w.heap.size, 24, #[.int .i64 c0, .int .i64 c1, .int .i64 c2, .int .i64 c3, .int .i64 c4, .int .i64 c5, .int .i64 c6, .int .i64 cap, .slice A l.length cc]), (gq, 28, #[.int .i64 X, .int .i64 now, .bool false])] w' → w'.cell? ⟨gq, 2, none⟩ = some (.bool false) := fun w' h => Blk.cell (Many.blk h 1 _ _ _ rfl) 2 _ rfl
  clear k0 k1 k2 k3 k4 k5 k6 k7 k8 q0 q1 q2
  refine wp_region_held_drew (S := fun w' => Many w [(w.heap.size, 24, #[.int .i64 c0, .int .i64 c1, .int .i64 c2, .int .i64 c3, .int .i64 c4, .int .i64 c5, .int .i64 c6, .int .i64 cap, .slice A l.length cc]), (gq, 28, #[.int .i64 X, .int .i64 now, .bool false])] w') (by kernel_rfl) ?sA (fun hHeld => ?rA)
  case sA => exact Many.drew HM.out
  refine wpAnyH_take (i := 0) (oi := ?oA_0) (v := ?vA_0) ?iA_0 (by kernel_rfl) (by kernel_rfl) (by kernel_rfl) ?qA_0 ?yA_0 hHeld ?nA_0
  case iA_0 => (simp only [List.getElem?_toArray, List.getElem?_cons_succ, List.getElem?_cons_zero]; rfl)
  case yA_0 => (refine Or.inl ⟨by kernel_rfl, ?_⟩; intro w' hSw; (try dsimp only at hSw); first | (go_simp; done) | (go_simp; with_reducible rfl))
  case qA_0 => exact fun _ _ _ h => h
  try simp only [Act.put, List.setIfInBounds_toArray, List.set_cons_zero, List.set_cons_succ]
  refine wpAnyH_take (i := 1) (oi := ?oA_1) (v := ?vA_1) ?iA_1 (by kernel_rfl) (by kernel_rfl) (by kernel_rfl) ?qA_1 ?yA_1 hHeld ?nA_1
  case iA_1 => (simp only [List.getElem?_toArray, List.getElem?_cons_succ, List.getElem?_cons_zero]; rfl)
  case yA_1 => (refine Or.inl ⟨by kernel_rfl, ?_⟩; intro w' hSw; (try dsimp only at hSw); first | (go_simp; done) | (go_simp; with_reducible rfl))
  case qA_1 => exact fun _ _ _ h => h
  try simp only [Act.put, List.setIfInBounds_toArray, List.set_cons_zero, List.set_cons_succ]
  refine wpAnyH_take (i := 2) (oi := ?oA_2) (v := ?vA_2) ?iA_2 (by kernel_rfl) (by kernel_rfl) (by kernel_rfl) ?qA_2 ?yA_2 hHeld ?nA_2
  case iA_2 => (simp only [List.getElem?_toArray, List.getElem?_cons_succ, List.getElem?_cons_zero]; rfl)
  case yA_2 => (refine Or.inl ⟨by kernel_rfl, ?_⟩; intro w' hSw; (try dsimp only at hSw); first | (go_simp; done) | (go_simp; with_reducible rfl))
  case qA_2 => exact fun _ _ _ h => h
  try simp only [Act.put, List.setIfInBounds_toArray, List.set_cons_zero, List.set_cons_succ]
  refine wpAnyH_take (i := 3) (oi := ?oA_3) (v := ?vA_3) ?iA_3 (by kernel_rfl) (by kernel_rfl) (by kernel_rfl) ?qA_3 ?yA_3 hHeld ?nA_3
  case iA_3 => (simp only [List.getElem?_toArray, List.getElem?_cons_succ, List.getElem?_cons_zero]; rfl)
  case yA_3 => (refine Or.inl ⟨by kernel_rfl, ?_⟩; intro w' hSw; (try dsimp only at hSw); first | (go_simp; done) | (go_simp; with_reducible rfl))
  case qA_3 => exact fun _ _ _ h => h
  try simp only [Act.put, List.setIfInBounds_toArray, List.set_cons_zero, List.set_cons_succ]
  refine wpAnyH_ready (rs := [4]) (by kernel_rfl) (by simp) ?_
  refine AllReadyH.cons (o := ?oA_4) ?iA_4 (fun K hK => ?kA_4) AllReadyH.nil
  case iA_4 => (simp only [List.getElem?_toArray, List.getElem?_cons_succ, List.getElem?_cons_zero]; rfl)
  go_simp
  ((with_reducible refine (HhRB.out _).mono ?_); rintro e w4 ⟨rfl, hb⟩; dsimp only)
  refine hK.out _ _ ?hA_4 (fun hHeld2 => ?mA_4)
  case hA_4 => exact Many.later hHeld hb
  clear hK K hHeld
  have hHeld := hHeld2
  clear hHeld2
  try simp only [Act.put, List.setIfInBounds_toArray, List.set_cons_zero, List.set_cons_succ]
  refine wpAnyH_take (i := 5) (oi := ?oA_5) (v := ?vA_5) ?iA_5 (by kernel_rfl) (by kernel_rfl) (by kernel_rfl) ?qA_5 ?yA_5 hHeld ?nA_5
  case iA_5 => (simp only [List.getElem?_toArray, List.getElem?_cons_succ, List.getElem?_cons_zero]; rfl)
  case yA_5 => (refine Or.inl ⟨by kernel_rfl, ?_⟩; intro w' hSw; (try dsimp only at hSw); first | (go_simp; done) | (go_simp; with_reducible rfl))
  case qA_5 => exact fun _ _ _ h => h
  try simp only [Act.put, List.setIfInBounds_toArray, List.set_cons_zero, List.set_cons_succ]
  refine wpAnyH_take (i := 6) (oi := ?oA_6) (v := ?vA_6) ?iA_6 (by kernel_rfl) (by kernel_rfl) (by kernel_rfl) ?qA_6 ?yA_6 hHeld ?nA_6
  case iA_6 => (simp only [List.getElem?_toArray, List.getElem?_cons_succ, List.getElem?_cons_zero]; rfl)
  case yA_6 => (refine Or.inl ⟨by kernel_rfl, ?_⟩; intro w' hSw; (try dsimp only at hSw); first | (go_simp; done) | (go_simp; with_reducible rfl))
  case qA_6 => exact fun _ _ _ h => h
  try simp only [Act.put, List.setIfInBounds_toArray, List.set_cons_zero, List.set_cons_succ]
  refine wpAnyH_take (i := 7) (oi := ?oA_7) (v := ?vA_7) ?iA_7 (by kernel_rfl) (by kernel_rfl) (by kernel_rfl) ?qA_7 ?yA_7 hHeld ?nA_7
  case iA_7 => (simp only [List.getElem?_toArray, List.getElem?_cons_succ, List.getElem?_cons_zero]; rfl)
  case yA_7 => (refine Or.inl ⟨by kernel_rfl, ?_⟩; intro w' hSw; (try dsimp only at hSw); first | (go_simp; done) | (go_simp; with_reducible rfl))
  case qA_7 => exact fun _ _ _ h => h
  try simp only [Act.put, List.setIfInBounds_toArray, List.set_cons_zero, List.set_cons_succ]
  refine wpAnyH_ready (rs := [8]) (by kernel_rfl) (by simp) ?_
  refine AllReadyH.cons (o := ?oA_8) ?iA_8 (fun K hK => ?kA_8) AllReadyH.nil
  case iA_8 => (simp only [List.getElem?_toArray, List.getElem?_cons_succ, List.getElem?_cons_zero]; rfl)
  go_simp
  ((with_reducible refine (waywardenlaw15_num.calls _ _ _ rfl).mono ?_); rintro e w4 ⟨rfl, hd⟩; have hb := hd.below; clear hd; dsimp only)
  refine hK.out _ _ ?hA_8 (fun hHeld2 => ?mA_8)
  case hA_8 => exact Many.later hHeld hb
  clear hK K hHeld
  have hHeld := hHeld2
  clear hHeld2
  try simp only [Act.put, List.setIfInBounds_toArray, List.set_cons_zero, List.set_cons_succ]
  refine wpAnyH_take (i := 9) (oi := ?oA_9) (v := ?vA_9) ?iA_9 (by kernel_rfl) (by kernel_rfl) (by kernel_rfl) ?qA_9 ?yA_9 hHeld ?nA_9
  case iA_9 => (simp only [List.getElem?_toArray, List.getElem?_cons_succ, List.getElem?_cons_zero]; rfl)
  case yA_9 => (refine Or.inl ⟨by kernel_rfl, ?_⟩; intro w' hSw; (try dsimp only at hSw); first | (go_simp; done) | (go_simp; with_reducible rfl))
  case qA_9 => exact fun _ _ _ h => h
  try simp only [Act.put, List.setIfInBounds_toArray, List.set_cons_zero, List.set_cons_succ]
  refine wpAnyH_take (i := 10) (oi := ?oA_10) (v := ?vA_10) ?iA_10 (by kernel_rfl) (by kernel_rfl) (by kernel_rfl) ?qA_10 ?yA_10 hHeld ?nA_10
  case iA_10 => (simp only [List.getElem?_toArray, List.getElem?_cons_succ, List.getElem?_cons_zero]; rfl)
  case yA_10 => (refine Or.inl ⟨by kernel_rfl, ?_⟩; intro w' hSw; (try dsimp only at hSw); first | (go_simp; done) | (go_simp; with_reducible rfl))
  case qA_10 => exact fun _ _ _ h => h
  try simp only [Act.put, List.setIfInBounds_toArray, List.set_cons_zero, List.set_cons_succ]
  refine wpAnyH_take (i := 11) (oi := ?oA_11) (v := ?vA_11) ?iA_11 (by kernel_rfl) (by kernel_rfl) (by kernel_rfl) ?qA_11 ?yA_11 hHeld ?nA_11
  case iA_11 => (simp only [List.getElem?_toArray, List.getElem?_cons_succ, List.getElem?_cons_zero]; rfl)
  case yA_11 => (refine Or.inl ⟨by kernel_rfl, ?_⟩; intro w' hSw; (try dsimp only at hSw); first | (go_simp; done) | (go_simp; with_reducible rfl))
  case qA_11 => exact fun _ _ _ h => h
  try simp only [Act.put, List.setIfInBounds_toArray, List.set_cons_zero, List.set_cons_succ]
  refine wpAnyH_ready (rs := [12]) (by kernel_rfl) (by simp) ?_
  refine AllReadyH.cons (o := ?oA_12) ?iA_12 (fun K hK => ?kA_12) AllReadyH.nil
  case iA_12 => (simp only [List.getElem?_toArray, List.getElem?_cons_succ, List.getElem?_cons_zero]; rfl)
  go_simp
  ((with_reducible refine (works_any _).mono ?_); rintro e w4 ⟨rfl, hb⟩; dsimp only)
  refine hK.out _ _ ?hA_12 (fun hHeld2 => ?mA_12)
  case hA_12 => exact Many.later hHeld hb
  clear hK K hHeld
  have hHeld := hHeld2
  clear hHeld2
  try simp only [Act.put, List.setIfInBounds_toArray, List.set_cons_zero, List.set_cons_succ]
  refine wpAnyH_take (i := 13) (oi := ?oA_13) (v := ?vA_13) ?iA_13 (by kernel_rfl) (by kernel_rfl) (by kernel_rfl) ?qA_13 ?yA_13 hHeld ?nA_13
  case iA_13 => (simp only [List.getElem?_toArray, List.getElem?_cons_succ, List.getElem?_cons_zero]; rfl)
  case yA_13 => (refine Or.inl ⟨by kernel_rfl, ?_⟩; intro w' hSw; (try dsimp only at hSw); first | (go_simp; done) | (go_simp; with_reducible rfl))
  case qA_13 => exact fun _ _ _ h => h
  try simp only [Act.put, List.setIfInBounds_toArray, List.set_cons_zero, List.set_cons_succ]
  refine wpAnyH_take (i := 14) (oi := ?oA_14) (v := ?vA_14) ?iA_14 (by kernel_rfl) (by kernel_rfl) (by kernel_rfl) ?qA_14 ?yA_14 hHeld ?nA_14
  case iA_14 => (simp only [List.getElem?_toArray, List.getElem?_cons_succ, List.getElem?_cons_zero]; rfl)
  case yA_14 => (refine Or.inl ⟨by kernel_rfl, ?_⟩; intro w' hSw; (try dsimp only at hSw); first | (go_simp; done) | (go_simp; with_reducible rfl))
  case qA_14 => exact fun _ _ _ h => h
  try simp only [Act.put, List.setIfInBounds_toArray, List.set_cons_zero, List.set_cons_succ]
  refine wpAnyH_done (by kernel_rfl) ?_ _
  have HB9 := Aside0.mk (Many.bel hHeld)
  clear hHeld k0' k1' k2' k3' k4' k5' k6' k7' k8' q0' q1' q2'
  go_wp2
  go_ret
  exact ⟨rfl, HB9.out⟩
set_option maxRecDepth 100000 in
set_option maxHeartbeats 16000000 in
theorem beats_far (c0 c1 c2 c3 c4 c5 c6 cap : Int) (A : Option Addr) (l : List Pfx) (cc : Nat) (u0 u1 : Int) (u2 : Bool) (now d : Int) (w : World) (hr : Kd.C k81 w A l.length l) (hc : l.length ≤ cc) (ha : AdrP l) (hfar : 20 < l.length) :
    Calls Try.prog 4 #[.agg #[.int .i64 c0, .int .i64 c1, .int .i64 c2, .int .i64 c3, .int .i64 c4, .int .i64 c5, .int .i64 c6, .int .i64 cap, .slice A l.length cc], .agg #[.int .i64 u0, .int .i64 u1, .bool u2], .int .i64 now, .int .i64 d] w fun e w' => e = .returned (.bool true) ∧ Below w.heap.size w w' := by
  have HR := Aside0.mk hr
  have HA := Aside0.mk ha
  clear hr ha
  have HF : Aside0 (waywardenlaw15_few.f c0 c1 c2 c3 c4 c5 c6 cap l = some false) := ⟨by unfold waywardenlaw15_few.f; congr 1; apply decide_eq_false; omega⟩
  have HM : Aside0 (Many w [(w.heap.size, 24, #[.int .i64 c0, .int .i64 c1, .int .i64 c2, .int .i64 c3, .int .i64 c4, .int .i64 c5, .int .i64 c6, .int .i64 cap, .slice A l.length cc]), ((w.heap.size + 1), 28, #[.int .i64 u0, .int .i64 u1, .bool u2])] ((w.alloc (.cells #[.int .i64 c0, .int .i64 c1, .int .i64 c2, .int .i64 c3, .int .i64 c4, .int .i64 c5, .int .i64 c6, .int .i64 cap, .slice A l.length cc] 24)).alloc (.cells #[.int .i64 u0, .int .i64 u1, .bool u2] 28))) := ⟨by have h := Many.grow (Many.grow (Many.none w) 24 #[.int .i64 c0, .int .i64 c1, .int .i64 c2, .int .i64 c3, .int .i64 c4, .int .i64 c5, .int .i64 c6, .int .i64 cap, .slice A l.length cc]) 28 #[.int .i64 u0, .int .i64 u1, .bool u2]; simpa using h⟩
  have k0 := Blk.cell (Many.blk HM.out 0 _ _ _ rfl) 0 _ rfl
  have k1 := Blk.cell (Many.blk HM.out 0 _ _ _ rfl) 1 _ rfl
  have k2 := Blk.cell (Many.blk HM.out 0 _ _ _ rfl) 2 _ rfl
  have k3 := Blk.cell (Many.blk HM.out 0 _ _ _ rfl) 3 _ rfl
  have k4 := Blk.cell (Many.blk HM.out 0 _ _ _ rfl) 4 _ rfl
  have k5 := Blk.cell (Many.blk HM.out 0 _ _ _ rfl) 5 _ rfl
  have k6 := Blk.cell (Many.blk HM.out 0 _ _ _ rfl) 6 _ rfl
  have k7 := Blk.cell (Many.blk HM.out 0 _ _ _ rfl) 7 _ rfl
  have k8 := Blk.cell (Many.blk HM.out 0 _ _ _ rfl) 8 _ rfl
  have p0 := Blk.cell (Many.blk HM.out 1 _ _ _ rfl) 0 _ rfl
  have p1 := Blk.cell (Many.blk HM.out 1 _ _ _ rfl) 1 _ rfl
  have p2 := Blk.cell (Many.blk HM.out 1 _ _ _ rfl) 2 _ rfl
  go_enter Try.func4, Try.ntmps4
  go_wp2_with (first
    | (go_at_call 8; ((with_reducible refine (waywardenlaw15_few.calls c0 c1 c2 c3 c4 c5 c6 cap A cc l false _ (Kd.C_below HR.out HM.out.bel) hc HF.out).mono ?_); rintro e w9 ⟨rfl, hb⟩; have HM := Aside0.mk (Many.later HM.out hb); (try clear k0 k1 k2 k3 k4 k5 k6 k7 k8 p0 p1 p2); have k0 := Blk.cell (Many.blk HM.out 0 _ _ _ rfl) 0 _ rfl; have k1 := Blk.cell (Many.blk HM.out 0 _ _ _ rfl) 1 _ rfl; have k2 := Blk.cell (Many.blk HM.out 0 _ _ _ rfl) 2 _ rfl; have k3 := Blk.cell (Many.blk HM.out 0 _ _ _ rfl) 3 _ rfl; have k4 := Blk.cell (Many.blk HM.out 0 _ _ _ rfl) 4 _ rfl; have k5 := Blk.cell (Many.blk HM.out 0 _ _ _ rfl) 5 _ rfl; have k6 := Blk.cell (Many.blk HM.out 0 _ _ _ rfl) 6 _ rfl; have k7 := Blk.cell (Many.blk HM.out 0 _ _ _ rfl) 7 _ rfl; have k8 := Blk.cell (Many.blk HM.out 0 _ _ _ rfl) 8 _ rfl; have p0 := Blk.cell (Many.blk HM.out 1 _ _ _ rfl) 0 _ rfl; have p1 := Blk.cell (Many.blk HM.out 1 _ _ _ rfl) 1 _ rfl; have p2 := Blk.cell (Many.blk HM.out 1 _ _ _ rfl) 2 _ rfl; clear hb))
    | (go_at_call 9; go_loud ((with_reducible refine (works_any _).mono ?_); rintro e w9 ⟨rfl, hb⟩; have HM := Aside0.mk (Many.later HM.out hb); (try clear k0 k1 k2 k3 k4 k5 k6 k7 k8 p0 p1 p2); have k0 := Blk.cell (Many.blk HM.out 0 _ _ _ rfl) 0 _ rfl; have k1 := Blk.cell (Many.blk HM.out 0 _ _ _ rfl) 1 _ rfl; have k2 := Blk.cell (Many.blk HM.out 0 _ _ _ rfl) 2 _ rfl; have k3 := Blk.cell (Many.blk HM.out 0 _ _ _ rfl) 3 _ rfl; have k4 := Blk.cell (Many.blk HM.out 0 _ _ _ rfl) 4 _ rfl; have k5 := Blk.cell (Many.blk HM.out 0 _ _ _ rfl) 5 _ rfl; have k6 := Blk.cell (Many.blk HM.out 0 _ _ _ rfl) 6 _ rfl; have k7 := Blk.cell (Many.blk HM.out 0 _ _ _ rfl) 7 _ rfl; have k8 := Blk.cell (Many.blk HM.out 0 _ _ _ rfl) 8 _ rfl; have p0 := Blk.cell (Many.blk HM.out 1 _ _ _ rfl) 0 _ rfl; have p1 := Blk.cell (Many.blk HM.out 1 _ _ _ rfl) 1 _ rfl; have p2 := Blk.cell (Many.blk HM.out 1 _ _ _ rfl) 2 _ rfl; clear hb)))
  go_ret
  exact ⟨rfl, HM.out.bel⟩
set_option maxRecDepth 100000 in
set_option maxHeartbeats 16000000 in
theorem beats_bad (c0 c1 c2 c3 c4 c5 c6 cap : Int) (A : Option Addr) (l : List Pfx) (cc : Nat) (u0 u1 : Int) (u2 : Bool) (now d : Int) (E V : Int) (w : World) (hr : Kd.C k81 w A l.length l) (hc : l.length ≤ cc) (ha : AdrP l) (hm : l.length ≤ 140737488355328) (hfew : l.length ≤ 20) (hE : (E != 0) = true) (hCH : ∀ W : World, Kd.C k81 W A l.length l → Calls Try.prog 14 #[.agg #[.int .i64 c0, .int .i64 c1, .int .i64 c2, .int .i64 c3, .int .i64 c4, .int .i64 c5, .int .i64 c6, .int .i64 cap, .slice A l.length cc], .agg #[.int .i64 u0, .int .i64 u1, .bool u2], .int .i64 now, .int .i64 d] W fun e w' => e = .returned (.tuple #[.agg #[.int .i64 0, .int .i64 0, .bool false], .int .i64 0, .int .i64 E]) ∧ Below W.heap.size W w') (hTI : ∀ W : World, Kd.C k81 W A l.length l → Calls Try.prog 15 #[.agg #[.int .i64 c0, .int .i64 c1, .int .i64 c2, .int .i64 c3, .int .i64 c4, .int .i64 c5, .int .i64 c6, .int .i64 cap, .slice A l.length cc], .agg #[.int .i64 u0, .int .i64 u1, .bool u2], .int .i64 now, .int .i64 d] W fun e w' => e = .returned (.tuple #[.agg #[.int .i64 0, .int .i64 0, .bool false], .int .i64 0, .int .i64 E]) ∧ Below W.heap.size W w') (hNX : ∀ W : World, Calls Try.prog 16 #[.agg #[.int .i64 u0, .int .i64 u1, .bool u2]] W fun e w' => e = .returned (.int .i64 V) ∧ Below W.heap.size W w') (hRN : ∀ W : World, Calls Try.prog 17 #[.agg #[.int .i64 u0, .int .i64 u1, .bool u2]] W fun e w' => e = .returned (.int .i64 V) ∧ Below W.heap.size W w') (hAS : ∀ W : World, Kd.C k81 W A l.length l → Calls Try.prog 11 #[.agg #[.int .i64 c0, .int .i64 c1, .int .i64 c2, .int .i64 c3, .int .i64 c4, .int .i64 c5, .int .i64 c6, .int .i64 cap, .slice A l.length cc], .agg #[.int .i64 u0, .int .i64 u1, .bool u2], .int .i64 now] W fun e w' => e = .returned (.int .i64 E) ∧ Below W.heap.size W w') :
    Calls Try.prog 4 #[.agg #[.int .i64 c0, .int .i64 c1, .int .i64 c2, .int .i64 c3, .int .i64 c4, .int .i64 c5, .int .i64 c6, .int .i64 cap, .slice A l.length cc], .agg #[.int .i64 u0, .int .i64 u1, .bool u2], .int .i64 now, .int .i64 d] w fun e w' => e = .returned (.bool true) ∧ Below w.heap.size w w' := by
  have HR := Aside0.mk hr
  have HA := Aside0.mk ha
  clear hr ha
  have HF : Aside0 (waywardenlaw15_few.f c0 c1 c2 c3 c4 c5 c6 cap l = some true) := ⟨by unfold waywardenlaw15_few.f; congr 1; apply decide_eq_true; omega⟩
  have HhCH := Aside0.mk hCH
  have HhTI := Aside0.mk hTI
  have HhNX := Aside0.mk hNX
  have HhRN := Aside0.mk hRN
  have HhAS := Aside0.mk hAS
  clear hCH hTI hNX hRN hAS
  have HM : Aside0 (Many w [(w.heap.size, 24, #[.int .i64 c0, .int .i64 c1, .int .i64 c2, .int .i64 c3, .int .i64 c4, .int .i64 c5, .int .i64 c6, .int .i64 cap, .slice A l.length cc]), ((w.heap.size + 1), 28, #[.int .i64 u0, .int .i64 u1, .bool u2])] ((w.alloc (.cells #[.int .i64 c0, .int .i64 c1, .int .i64 c2, .int .i64 c3, .int .i64 c4, .int .i64 c5, .int .i64 c6, .int .i64 cap, .slice A l.length cc] 24)).alloc (.cells #[.int .i64 u0, .int .i64 u1, .bool u2] 28))) := ⟨by have h := Many.grow (Many.grow (Many.none w) 24 #[.int .i64 c0, .int .i64 c1, .int .i64 c2, .int .i64 c3, .int .i64 c4, .int .i64 c5, .int .i64 c6, .int .i64 cap, .slice A l.length cc]) 28 #[.int .i64 u0, .int .i64 u1, .bool u2]; simpa using h⟩
  have k0 := Blk.cell (Many.blk HM.out 0 _ _ _ rfl) 0 _ rfl
  have k1 := Blk.cell (Many.blk HM.out 0 _ _ _ rfl) 1 _ rfl
  have k2 := Blk.cell (Many.blk HM.out 0 _ _ _ rfl) 2 _ rfl
  have k3 := Blk.cell (Many.blk HM.out 0 _ _ _ rfl) 3 _ rfl
  have k4 := Blk.cell (Many.blk HM.out 0 _ _ _ rfl) 4 _ rfl
  have k5 := Blk.cell (Many.blk HM.out 0 _ _ _ rfl) 5 _ rfl
  have k6 := Blk.cell (Many.blk HM.out 0 _ _ _ rfl) 6 _ rfl
  have k7 := Blk.cell (Many.blk HM.out 0 _ _ _ rfl) 7 _ rfl
  have k8 := Blk.cell (Many.blk HM.out 0 _ _ _ rfl) 8 _ rfl
  have p0 := Blk.cell (Many.blk HM.out 1 _ _ _ rfl) 0 _ rfl
  have p1 := Blk.cell (Many.blk HM.out 1 _ _ _ rfl) 1 _ rfl
  have p2 := Blk.cell (Many.blk HM.out 1 _ _ _ rfl) 2 _ rfl
  go_enter Try.func4, Try.ntmps4
  go_upto_region 4 with (first
    | (go_at_call 8; ((with_reducible refine (waywardenlaw15_few.calls c0 c1 c2 c3 c4 c5 c6 cap A cc l true _ (Kd.C_below HR.out HM.out.bel) hc HF.out).mono ?_); rintro e w9 ⟨rfl, hb⟩; have HM := Aside0.mk (Many.later HM.out hb); (try clear k0 k1 k2 k3 k4 k5 k6 k7 k8 p0 p1 p2); have k0 := Blk.cell (Many.blk HM.out 0 _ _ _ rfl) 0 _ rfl; have k1 := Blk.cell (Many.blk HM.out 0 _ _ _ rfl) 1 _ rfl; have k2 := Blk.cell (Many.blk HM.out 0 _ _ _ rfl) 2 _ rfl; have k3 := Blk.cell (Many.blk HM.out 0 _ _ _ rfl) 3 _ rfl; have k4 := Blk.cell (Many.blk HM.out 0 _ _ _ rfl) 4 _ rfl; have k5 := Blk.cell (Many.blk HM.out 0 _ _ _ rfl) 5 _ rfl; have k6 := Blk.cell (Many.blk HM.out 0 _ _ _ rfl) 6 _ rfl; have k7 := Blk.cell (Many.blk HM.out 0 _ _ _ rfl) 7 _ rfl; have k8 := Blk.cell (Many.blk HM.out 0 _ _ _ rfl) 8 _ rfl; have p0 := Blk.cell (Many.blk HM.out 1 _ _ _ rfl) 0 _ rfl; have p1 := Blk.cell (Many.blk HM.out 1 _ _ _ rfl) 1 _ rfl; have p2 := Blk.cell (Many.blk HM.out 1 _ _ _ rfl) 2 _ rfl; clear hb))
    | (go_at_call 9; go_loud ((with_reducible refine (works_any _).mono ?_); rintro e w9 ⟨rfl, hb⟩; have HM := Aside0.mk (Many.later HM.out hb); (try clear k0 k1 k2 k3 k4 k5 k6 k7 k8 p0 p1 p2); have k0 := Blk.cell (Many.blk HM.out 0 _ _ _ rfl) 0 _ rfl; have k1 := Blk.cell (Many.blk HM.out 0 _ _ _ rfl) 1 _ rfl; have k2 := Blk.cell (Many.blk HM.out 0 _ _ _ rfl) 2 _ rfl; have k3 := Blk.cell (Many.blk HM.out 0 _ _ _ rfl) 3 _ rfl; have k4 := Blk.cell (Many.blk HM.out 0 _ _ _ rfl) 4 _ rfl; have k5 := Blk.cell (Many.blk HM.out 0 _ _ _ rfl) 5 _ rfl; have k6 := Blk.cell (Many.blk HM.out 0 _ _ _ rfl) 6 _ rfl; have k7 := Blk.cell (Many.blk HM.out 0 _ _ _ rfl) 7 _ rfl; have k8 := Blk.cell (Many.blk HM.out 0 _ _ _ rfl) 8 _ rfl; have p0 := Blk.cell (Many.blk HM.out 1 _ _ _ rfl) 0 _ rfl; have p1 := Blk.cell (Many.blk HM.out 1 _ _ _ rfl) 1 _ rfl; have p2 := Blk.cell (Many.blk HM.out 1 _ _ _ rfl) 2 _ rfl; clear hb))
    | (go_at_call 14; go_loud ((with_reducible refine (HhCH.out _ (Kd.C_below HR.out HM.out.bel)).mono ?_); rintro e w9 ⟨rfl, hb⟩; have HM := Aside0.mk (Many.later HM.out hb); (try clear k0 k1 k2 k3 k4 k5 k6 k7 k8 p0 p1 p2); have k0 := Blk.cell (Many.blk HM.out 0 _ _ _ rfl) 0 _ rfl; have k1 := Blk.cell (Many.blk HM.out 0 _ _ _ rfl) 1 _ rfl; have k2 := Blk.cell (Many.blk HM.out 0 _ _ _ rfl) 2 _ rfl; have k3 := Blk.cell (Many.blk HM.out 0 _ _ _ rfl) 3 _ rfl; have k4 := Blk.cell (Many.blk HM.out 0 _ _ _ rfl) 4 _ rfl; have k5 := Blk.cell (Many.blk HM.out 0 _ _ _ rfl) 5 _ rfl; have k6 := Blk.cell (Many.blk HM.out 0 _ _ _ rfl) 6 _ rfl; have k7 := Blk.cell (Many.blk HM.out 0 _ _ _ rfl) 7 _ rfl; have k8 := Blk.cell (Many.blk HM.out 0 _ _ _ rfl) 8 _ rfl; have p0 := Blk.cell (Many.blk HM.out 1 _ _ _ rfl) 0 _ rfl; have p1 := Blk.cell (Many.blk HM.out 1 _ _ _ rfl) 1 _ rfl; have p2 := Blk.cell (Many.blk HM.out 1 _ _ _ rfl) 2 _ rfl; clear hb)))
  have HM0 := Aside0.mk (Many.grow HM.out 28 #[.int .i64 0, .int .i64 0, .bool false])
  obtain ⟨gq, hgq⟩ : ∃ g, w9.heap.size = g := ⟨_, rfl⟩
  obtain ⟨Wq, hWq⟩ : ∃ W', w9.alloc (.cells #[.int .i64 0, .int .i64 0, .bool false] 28) = W' := ⟨_, rfl⟩
  have hnq : ∀ p v, w9.cell? p = some v → p.block < gq := fun p v h => by rw [← hgq]; exact World.block_lt_of_cell? w9 p h
  rw [hWq, hgq] at HM0
  rw [hWq, hgq]
  have ltq_k := hnq _ _ (Blk.cell (Many.blk HM.out 0 _ _ _ rfl) 0 _ rfl)
  have ltq_p := hnq _ _ (Blk.cell (Many.blk HM.out 1 _ _ _ rfl) 0 _ rfl)
  clear hnq hgq hWq k0 k1 k2 k3 k4 k5 k6 k7 k8 p0 p1 p2 HM
  have HM : Aside0 (Many w [(w.heap.size, 24, #[.int .i64 c0, .int .i64 c1, .int .i64 c2, .int .i64 c3, .int .i64 c4, .int .i64 c5, .int .i64 c6, .int .i64 cap, .slice A l.length cc]), ((w.heap.size + 1), 28, #[.int .i64 u0, .int .i64 u1, .bool u2]), (gq, 28, #[.int .i64 0, .int .i64 0, .bool false])] Wq) := ⟨HM0.out⟩
  clear HM0
  have k0 := Blk.cell (Many.blk HM.out 0 _ _ _ rfl) 0 _ rfl
  have k1 := Blk.cell (Many.blk HM.out 0 _ _ _ rfl) 1 _ rfl
  have k2 := Blk.cell (Many.blk HM.out 0 _ _ _ rfl) 2 _ rfl
  have k3 := Blk.cell (Many.blk HM.out 0 _ _ _ rfl) 3 _ rfl
  have k4 := Blk.cell (Many.blk HM.out 0 _ _ _ rfl) 4 _ rfl
  have k5 := Blk.cell (Many.blk HM.out 0 _ _ _ rfl) 5 _ rfl
  have k6 := Blk.cell (Many.blk HM.out 0 _ _ _ rfl) 6 _ rfl
  have k7 := Blk.cell (Many.blk HM.out 0 _ _ _ rfl) 7 _ rfl
  have k8 := Blk.cell (Many.blk HM.out 0 _ _ _ rfl) 8 _ rfl
  have p0 := Blk.cell (Many.blk HM.out 1 _ _ _ rfl) 0 _ rfl
  have p1 := Blk.cell (Many.blk HM.out 1 _ _ _ rfl) 1 _ rfl
  have p2 := Blk.cell (Many.blk HM.out 1 _ _ _ rfl) 2 _ rfl
  have q0 := Blk.cell (Many.blk HM.out 2 _ _ _ rfl) 0 _ rfl
  have q1 := Blk.cell (Many.blk HM.out 2 _ _ _ rfl) 1 _ rfl
  have q2 := Blk.cell (Many.blk HM.out 2 _ _ _ rfl) 2 _ rfl
  go_upto_region 5 with (first
    | (go_at_call 15; go_loud ((with_reducible refine (HhTI.out _ (Kd.C_below HR.out HM.out.bel)).mono ?_); rintro e w9 ⟨rfl, hb⟩; have HM := Aside0.mk (Many.later HM.out hb); (try clear k0 k1 k2 k3 k4 k5 k6 k7 k8 p0 p1 p2 q0 q1 q2); have k0 := Blk.cell (Many.blk HM.out 0 _ _ _ rfl) 0 _ rfl; have k1 := Blk.cell (Many.blk HM.out 0 _ _ _ rfl) 1 _ rfl; have k2 := Blk.cell (Many.blk HM.out 0 _ _ _ rfl) 2 _ rfl; have k3 := Blk.cell (Many.blk HM.out 0 _ _ _ rfl) 3 _ rfl; have k4 := Blk.cell (Many.blk HM.out 0 _ _ _ rfl) 4 _ rfl; have k5 := Blk.cell (Many.blk HM.out 0 _ _ _ rfl) 5 _ rfl; have k6 := Blk.cell (Many.blk HM.out 0 _ _ _ rfl) 6 _ rfl; have k7 := Blk.cell (Many.blk HM.out 0 _ _ _ rfl) 7 _ rfl; have k8 := Blk.cell (Many.blk HM.out 0 _ _ _ rfl) 8 _ rfl; have p0 := Blk.cell (Many.blk HM.out 1 _ _ _ rfl) 0 _ rfl; have p1 := Blk.cell (Many.blk HM.out 1 _ _ _ rfl) 1 _ rfl; have p2 := Blk.cell (Many.blk HM.out 1 _ _ _ rfl) 2 _ rfl; have q0 := Blk.cell (Many.blk HM.out 2 _ _ _ rfl) 0 _ rfl; have q1 := Blk.cell (Many.blk HM.out 2 _ _ _ rfl) 1 _ rfl; have q2 := Blk.cell (Many.blk HM.out 2 _ _ _ rfl) 2 _ rfl; clear hb)))
  have HM0 := Aside0.mk (Many.grow HM.out 28 #[.int .i64 0, .int .i64 0, .bool false])
  obtain ⟨gr, hgr⟩ : ∃ g, w9.heap.size = g := ⟨_, rfl⟩
  obtain ⟨Wr, hWr⟩ : ∃ W', w9.alloc (.cells #[.int .i64 0, .int .i64 0, .bool false] 28) = W' := ⟨_, rfl⟩
  have hnr : ∀ p v, w9.cell? p = some v → p.block < gr := fun p v h => by rw [← hgr]; exact World.block_lt_of_cell? w9 p h
  rw [hWr, hgr] at HM0
  rw [hWr, hgr]
  have ltr_k := hnr _ _ (Blk.cell (Many.blk HM.out 0 _ _ _ rfl) 0 _ rfl)
  have ltr_p := hnr _ _ (Blk.cell (Many.blk HM.out 1 _ _ _ rfl) 0 _ rfl)
  have ltr_q := hnr _ _ (Blk.cell (Many.blk HM.out 2 _ _ _ rfl) 0 _ rfl)
  clear hnr hgr hWr k0 k1 k2 k3 k4 k5 k6 k7 k8 p0 p1 p2 q0 q1 q2 HM
  have HM : Aside0 (Many w [(w.heap.size, 24, #[.int .i64 c0, .int .i64 c1, .int .i64 c2, .int .i64 c3, .int .i64 c4, .int .i64 c5, .int .i64 c6, .int .i64 cap, .slice A l.length cc]), ((w.heap.size + 1), 28, #[.int .i64 u0, .int .i64 u1, .bool u2]), (gq, 28, #[.int .i64 0, .int .i64 0, .bool false]), (gr, 28, #[.int .i64 0, .int .i64 0, .bool false])] Wr) := ⟨HM0.out⟩
  clear HM0
  have k0 := Blk.cell (Many.blk HM.out 0 _ _ _ rfl) 0 _ rfl
  have k1 := Blk.cell (Many.blk HM.out 0 _ _ _ rfl) 1 _ rfl
  have k2 := Blk.cell (Many.blk HM.out 0 _ _ _ rfl) 2 _ rfl
  have k3 := Blk.cell (Many.blk HM.out 0 _ _ _ rfl) 3 _ rfl
  have k4 := Blk.cell (Many.blk HM.out 0 _ _ _ rfl) 4 _ rfl
  have k5 := Blk.cell (Many.blk HM.out 0 _ _ _ rfl) 5 _ rfl
  have k6 := Blk.cell (Many.blk HM.out 0 _ _ _ rfl) 6 _ rfl
  have k7 := Blk.cell (Many.blk HM.out 0 _ _ _ rfl) 7 _ rfl
  have k8 := Blk.cell (Many.blk HM.out 0 _ _ _ rfl) 8 _ rfl
  have p0 := Blk.cell (Many.blk HM.out 1 _ _ _ rfl) 0 _ rfl
  have p1 := Blk.cell (Many.blk HM.out 1 _ _ _ rfl) 1 _ rfl
  have p2 := Blk.cell (Many.blk HM.out 1 _ _ _ rfl) 2 _ rfl
  have q0 := Blk.cell (Many.blk HM.out 2 _ _ _ rfl) 0 _ rfl
  have q1 := Blk.cell (Many.blk HM.out 2 _ _ _ rfl) 1 _ rfl
  have q2 := Blk.cell (Many.blk HM.out 2 _ _ _ rfl) 2 _ rfl
  have r0 := Blk.cell (Many.blk HM.out 3 _ _ _ rfl) 0 _ rfl
  have r1 := Blk.cell (Many.blk HM.out 3 _ _ _ rfl) 1 _ rfl
  have r2 := Blk.cell (Many.blk HM.out 3 _ _ _ rfl) 2 _ rfl
  have k0' : ∀ w' : World, Many w [(w.heap.size, 24, #[.int .i64 c0, .int .i64 c1, .int .i64 c2, .int .i64 c3, .int .i64 c4, .int .i64 c5, .int .i64 c6, .int .i64 cap, .slice A l.length cc]), ((w.heap.size + 1), 28, #[.int .i64 u0, .int .i64 u1, .bool u2]), (gq, 28, #[.int .i64 0, .int .i64 0, .bool false]), (gr, 28, #[.int .i64 0, .int .i64 0, .bool false])] w' → w'.cell? ⟨w.heap.size, 0, none⟩ = some (.int .i64 c0) := fun w' h => Blk.cell (Many.blk h 0 _ _ _ rfl) 0 _ rfl
  have k1' : ∀ w' : World, Many w [(w.heap.size, 24, #[.int .i64 c0, .int .i64 c1, .int .i64 c2, .int .i64 c3, .int .i64 c4, .int .i64 c5, .int .i64 c6, .int .i64 cap, .slice A l.length cc]), ((w.heap.size + 1), 28, #[.int .i64 u0, .int .i64 u1, .bool u2]), (gq, 28, #[.int .i64 0, .int .i64 0, .bool false]), (gr, 28, #[.int .i64 0, .int .i64 0, .bool false])] w' → w'.cell? ⟨w.heap.size, 1, none⟩ = some (.int .i64 c1) := fun w' h => Blk.cell (Many.blk h 0 _ _ _ rfl) 1 _ rfl
  have k2' : ∀ w' : World, Many w [(w.heap.size, 24, #[.int .i64 c0, .int .i64 c1, .int .i64 c2, .int .i64 c3, .int .i64 c4, .int .i64 c5, .int .i64 c6, .int .i64 cap, .slice A l.length cc]), ((w.heap.size + 1), 28, #[.int .i64 u0, .int .i64 u1, .bool u2]), (gq, 28, #[.int .i64 0, .int .i64 0, .bool false]), (gr, 28, #[.int .i64 0, .int .i64 0, .bool false])] w' → w'.cell? ⟨w.heap.size, 2, none⟩ = some (.int .i64 c2) := fun w' h => Blk.cell (Many.blk h 0 _ _ _ rfl) 2 _ rfl
  have k3' : ∀ w' : World, Many w [(w.heap.size, 24, #[.int .i64 c0, .int .i64 c1, .int .i64 c2, .int .i64 c3, .int .i64 c4, .int .i64 c5, .int .i64 c6, .int .i64 cap, .slice A l.length cc]), ((w.heap.size + 1), 28, #[.int .i64 u0, .int .i64 u1, .bool u2]), (gq, 28, #[.int .i64 0, .int .i64 0, .bool false]), (gr, 28, #[.int .i64 0, .int .i64 0, .bool false])] w' → w'.cell? ⟨w.heap.size, 3, none⟩ = some (.int .i64 c3) := fun w' h => Blk.cell (Many.blk h 0 _ _ _ rfl) 3 _ rfl
  have k4' : ∀ w' : World, Many w [(w.heap.size, 24, #[.int .i64 c0, .int .i64 c1, .int .i64 c2, .int .i64 c3, .int .i64 c4, .int .i64 c5, .int .i64 c6, .int .i64 cap, .slice A l.length cc]), ((w.heap.size + 1), 28, #[.int .i64 u0, .int .i64 u1, .bool u2]), (gq, 28, #[.int .i64 0, .int .i64 0, .bool false]), (gr, 28, #[.int .i64 0, .int .i64 0, .bool false])] w' → w'.cell? ⟨w.heap.size, 4, none⟩ = some (.int .i64 c4) := fun w' h => Blk.cell (Many.blk h 0 _ _ _ rfl) 4 _ rfl
  have k5' : ∀ w' : World, Many w [(w.heap.size, 24, #[.int .i64 c0, .int .i64 c1, .int .i64 c2, .int .i64 c3, .int .i64 c4, .int .i64 c5, .int .i64 c6, .int .i64 cap, .slice A l.length cc]), ((w.heap.size + 1), 28, #[.int .i64 u0, .int .i64 u1, .bool u2]), (gq, 28, #[.int .i64 0, .int .i64 0, .bool false]), (gr, 28, #[.int .i64 0, .int .i64 0, .bool false])] w' → w'.cell? ⟨w.heap.size, 5, none⟩ = some (.int .i64 c5) := fun w' h => Blk.cell (Many.blk h 0 _ _ _ rfl) 5 _ rfl
  have k6' : ∀ w' : World, Many w [(w.heap.size, 24, #[.int .i64 c0, .int .i64 c1, .int .i64 c2, .int .i64 c3, .int .i64 c4, .int .i64 c5, .int .i64 c6, .int .i64 cap, .slice A l.length cc]), ((w.heap.size + 1), 28, #[.int .i64 u0, .int .i64 u1, .bool u2]), (gq, 28, #[.int .i64 0, .int .i64 0, .bool false]), (gr, 28, #[.int .i64 0, .int .i64 0, .bool false])] w' → w'.cell? ⟨w.heap.size, 6, none⟩ = some (.int .i64 c6) := fun w' h => Blk.cell (Many.blk h 0 _ _ _ rfl) 6 _ rfl
  have k7' : ∀ w' : World, Many w [(w.heap.size, 24, #[.int .i64 c0, .int .i64 c1, .int .i64 c2, .int .i64 c3, .int .i64 c4, .int .i64 c5, .int .i64 c6, .int .i64 cap, .slice A l.length cc]), ((w.heap.size + 1), 28, #[.int .i64 u0, .int .i64 u1, .bool u2]), (gq, 28, #[.int .i64 0, .int .i64 0, .bool false]), (gr, 28, #[.int .i64 0, .int .i64 0, .bool false])] w' → w'.cell? ⟨w.heap.size, 7, none⟩ = some (.int .i64 cap) := fun w' h => Blk.cell (Many.blk h 0 _ _ _ rfl) 7 _ rfl
  have k8' : ∀ w' : World, Many w [(w.heap.size, 24, #[.int .i64 c0, .int .i64 c1, .int .i64 c2, .int .i64 c3, .int .i64 c4, .int .i64 c5, .int .i64 c6, .int .i64 cap, .slice A l.length cc]), ((w.heap.size + 1), 28, #[.int .i64 u0, .int .i64 u1, .bool u2]), (gq, 28, #[.int .i64 0, .int .i64 0, .bool false]), (gr, 28, #[.int .i64 0, .int .i64 0, .bool false])] w' → w'.cell? ⟨w.heap.size, 8, none⟩ = some (.slice A l.length cc) := fun w' h => Blk.cell (Many.blk h 0 _ _ _ rfl) 8 _ rfl
  have p0' : ∀ w' : World, Many w [(w.heap.size, 24, #[.int .i64 c0, .int .i64 c1, .int .i64 c2, .int .i64 c3, .int .i64 c4, .int .i64 c5, .int .i64 c6, .int .i64 cap, .slice A l.length cc]), ((w.heap.size + 1), 28, #[.int .i64 u0, .int .i64 u1, .bool u2]), (gq, 28, #[.int .i64 0, .int .i64 0, .bool false]), (gr, 28, #[.int .i64 0, .int .i64 0, .bool false])] w' → w'.cell? ⟨(w.heap.size + 1), 0, none⟩ = some (.int .i64 u0) := fun w' h => Blk.cell (Many.blk h 1 _ _ _ rfl) 0 _ rfl
  have p1' : ∀ w' : World, Many w [(w.heap.size, 24, #[.int .i64 c0, .int .i64 c1, .int .i64 c2, .int .i64 c3, .int .i64 c4, .int .i64 c5, .int .i64 c6, .int .i64 cap, .slice A l.length cc]), ((w.heap.size + 1), 28, #[.int .i64 u0, .int .i64 u1, .bool u2]), (gq, 28, #[.int .i64 0, .int .i64 0, .bool false]), (gr, 28, #[.int .i64 0, .int .i64 0, .bool false])] w' → w'.cell? ⟨(w.heap.size + 1), 1, none⟩ = some (.int .i64 u1) := fun w' h => Blk.cell (Many.blk h 1 _ _ _ rfl) 1 _ rfl
  have p2' : ∀ w' : World, Many w [(w.heap.size, 24, #[.int .i64 c0, .int .i64 c1, .int .i64 c2, .int .i64 c3, .int .i64 c4, .int .i64 c5, .int .i64 c6, .int .i64 cap, .slice A l.length cc]), ((w.heap.size + 1), 28, #[.int .i64 u0, .int .i64 u1, .bool u2]), (gq, 28, #[.int .i64 0, .int .i64 0, .bool false]), (gr, 28, #[.int .i64 0, .int .i64 0, .bool false])] w' → w'.cell? ⟨(w.heap.size + 1), 2, none⟩ = some (.bool u2) := fun w' h => Blk.cell (Many.blk h 1 _ _ _ rfl) 2 _ rfl
  have q0' : ∀ w' : World, Many w [(w.heap.size, 24, #[.int .i64 c0, .int .i64 c1, .int .i64 c2, .int .i64 c3, .int .i64 c4, .int .i64 c5, .int .i64 c6, .int .i64 cap, .slice A l.length cc]), ((w.heap.size + 1), 28, #[.int .i64 u0, .int .i64 u1, .bool u2]), (gq, 28, #[.int .i64 0, .int .i64 0, .bool false]), (gr, 28, #[.int .i64 0, .int .i64 0, .bool false])] w' → w'.cell? ⟨gq, 0, none⟩ = some (.int .i64 0) := fun w' h => Blk.cell (Many.blk h 2 _ _ _ rfl) 0 _ rfl
  have q1' : ∀ w' : World, Many w [(w.heap.size, 24, #[.int .i64 c0, .int .i64 c1, .int .i64 c2, .int .i64 c3, .int .i64 c4, .int .i64 c5, .int .i64 c6, .int .i64 cap, .slice A l.length cc]), ((w.heap.size + 1), 28, #[.int .i64 u0, .int .i64 u1, .bool u2]), (gq, 28, #[.int .i64 0, .int .i64 0, .bool false]), (gr, 28, #[.int .i64 0, .int .i64 0, .bool false])] w' → w'.cell? ⟨gq, 1, none⟩ = some (.int .i64 0) := fun w' h => Blk.cell (Many.blk h 2 _ _ _ rfl) 1 _ rfl
  have q2' : ∀ w' : World, Many w [(w.heap.size, 24, #[.int .i64 c0, .int .i64 c1, .int .i64 c2, .int .i64 c3, .int .i64 c4, .int .i64 c5, .int .i64 c6, .int .i64 cap, .slice A l.length cc]), ((w.heap.size + 1), 28, #[.int .i64 u0, .int .i64 u1, .bool u2]), (gq, 28, #[.int .i64 0, .int .i64 0, .bool false]), (gr, 28, #[.int .i64 0, .int .i64 0, .bool false])] w' → w'.cell? ⟨gq, 2, none⟩ = some (.bool false) := fun w' h => Blk.cell (Many.blk h 2 _ _ _ rfl) 2 _ rfl
  have r0' : ∀ w' : World, Many w [(w.heap.size, 24, #[.int .i64 c0, .int .i64 c1, .int .i64 c2, .int .i64 c3, .int .i64 c4, .int .i64 c5, .int .i64 c6, .int .i64 cap, .slice A l.length cc]), ((w.heap.size + 1), 28, #[.int .i64 u0, .int .i64 u1, .bool u2]), (gq, 28, #[.int .i64 0, .int .i64 0, .bool false]), (gr, 28, #[.int .i64 0, .int .i64 0, .bool false])] w' → w'.cell? ⟨gr, 0, none⟩ = some (.int .i64 0) := fun w' h => Blk.cell (Many.blk h 3 _ _ _ rfl) 0 _ rfl
  have r1' : ∀ w' : World, Many w [(w.heap.size, 24, #[.int .i64 c0, .int .i64 c1, .int .i64 c2, .int .i64 c3, .int .i64 c4, .int .i64 c5, .int .i64 c6, .int .i64 cap, .slice A l.length cc]), ((w.heap.size + 1), 28, #[.int .i64 u0, .int .i64 u1, .bool u2]), (gq, 28, #[.int .i64 0, .int .i64 0, .bool false]), (gr, 28, #[.int .i64 0, .int .i64 0, .bool false])] w' → w'.cell? ⟨gr, 1, none⟩ = some (.int .i64 0) := fun w' h => Blk.cell (Many.blk h 3 _ _ _ rfl) 1 _ rfl
  have r2' : ∀ w' : World, Many w [(w.heap.size, 24, #[.int .i64 c0, .int .i64 c1, .int .i64 c2, .int .i64 c3, .int .i64 c4, .int .i64 c5, .int .i64 c6, .int .i64 cap, .slice A l.length cc]), ((w.heap.size + 1), 28, #[.int .i64 u0, .int .i64 u1, .bool u2]), (gq, 28, #[.int .i64 0, .int .i64 0, .bool false]), (gr, 28, #[.int .i64 0, .int .i64 0, .bool false])] w' → w'.cell? ⟨gr, 2, none⟩ = some (.bool false) := fun w' h => Blk.cell (Many.blk h 3 _ _ _ rfl) 2 _ rfl
  clear k0 k1 k2 k3 k4 k5 k6 k7 k8 p0 p1 p2 q0 q1 q2 r0 r1 r2
  refine wp_region_held_drew (S := fun w' => Many w [(w.heap.size, 24, #[.int .i64 c0, .int .i64 c1, .int .i64 c2, .int .i64 c3, .int .i64 c4, .int .i64 c5, .int .i64 c6, .int .i64 cap, .slice A l.length cc]), ((w.heap.size + 1), 28, #[.int .i64 u0, .int .i64 u1, .bool u2]), (gq, 28, #[.int .i64 0, .int .i64 0, .bool false]), (gr, 28, #[.int .i64 0, .int .i64 0, .bool false])] w') (by kernel_rfl) ?sA (fun hHeld => ?rA)
  case sA => exact Many.drew HM.out
  refine wpAnyH_take (i := 0) (oi := ?oA_0) (v := ?vA_0) ?iA_0 (by kernel_rfl) (by kernel_rfl) (by kernel_rfl) ?qA_0 ?yA_0 hHeld ?nA_0
  case iA_0 => (simp only [List.getElem?_toArray, List.getElem?_cons_succ, List.getElem?_cons_zero]; rfl)
  case yA_0 => (refine Or.inl ⟨by kernel_rfl, ?_⟩; intro w' hSw; (try dsimp only at hSw); first | (go_simp; done) | (go_simp; with_reducible rfl))
  case qA_0 => exact fun _ _ _ h => h
  try simp only [Act.put, List.setIfInBounds_toArray, List.set_cons_zero, List.set_cons_succ]
  refine wpAnyH_take (i := 2) (oi := ?oA_2) (v := ?vA_2) ?iA_2 (by kernel_rfl) (by kernel_rfl) (by kernel_rfl) ?qA_2 ?yA_2 hHeld ?nA_2
  case iA_2 => (simp only [List.getElem?_toArray, List.getElem?_cons_succ, List.getElem?_cons_zero]; rfl)
  case yA_2 => (refine Or.inl ⟨by kernel_rfl, ?_⟩; intro w' hSw; (try dsimp only at hSw); first | (go_simp; done) | (go_simp; with_reducible rfl))
  case qA_2 => exact fun _ _ _ h => h
  try simp only [Act.put, List.setIfInBounds_toArray, List.set_cons_zero, List.set_cons_succ]
  refine wpAnyH_ready (rs := [1]) (by kernel_rfl) (by simp) ?_
  refine AllReadyH.cons (o := ?oA_1) ?iA_1 (fun K hK => ?kA_1) AllReadyH.nil
  case iA_1 => (simp only [List.getElem?_toArray, List.getElem?_cons_succ, List.getElem?_cons_zero]; rfl)
  go_simp
  ((with_reducible refine (HhNX.out _).mono ?_); rintro e w4 ⟨rfl, hb⟩; dsimp only)
  refine hK.out _ _ ?hA_1 (fun hHeld2 => ?mA_1)
  case hA_1 => exact Many.later hHeld hb
  clear hK K hHeld
  have hHeld := hHeld2
  clear hHeld2
  try simp only [Act.put, List.setIfInBounds_toArray, List.set_cons_zero, List.set_cons_succ]
  refine wpAnyH_ready (rs := [3]) (by kernel_rfl) (by simp) ?_
  refine AllReadyH.cons (o := ?oA_3) ?iA_3 (fun K hK => ?kA_3) AllReadyH.nil
  case iA_3 => (simp only [List.getElem?_toArray, List.getElem?_cons_succ, List.getElem?_cons_zero]; rfl)
  go_simp
  ((with_reducible refine (HhRN.out _).mono ?_); rintro e w4 ⟨rfl, hb⟩; dsimp only)
  refine hK.out _ _ ?hA_3 (fun hHeld2 => ?mA_3)
  case hA_3 => exact Many.later hHeld hb
  clear hK K hHeld
  have hHeld := hHeld2
  clear hHeld2
  try simp only [Act.put, List.setIfInBounds_toArray, List.set_cons_zero, List.set_cons_succ]
  refine wpAnyH_take (i := 4) (oi := ?oA_4) (v := ?vA_4) ?iA_4 (by kernel_rfl) (by kernel_rfl) (by kernel_rfl) ?qA_4 ?yA_4 hHeld ?nA_4
  case iA_4 => (simp only [List.getElem?_toArray, List.getElem?_cons_succ, List.getElem?_cons_zero]; rfl)
  case yA_4 => (refine Or.inl ⟨by kernel_rfl, ?_⟩; intro w' hSw; (try dsimp only at hSw); first | (go_simp; done) | (go_simp; with_reducible rfl))
  case qA_4 => exact fun _ _ _ h => h
  try simp only [Act.put, List.setIfInBounds_toArray, List.set_cons_zero, List.set_cons_succ]
  refine wpAnyH_done (by kernel_rfl) ?_ _
  have HM := Aside0.mk hHeld
  clear hHeld k0' k1' k2' k3' k4' k5' k6' k7' k8' p0' p1' p2' q0' q1' q2' r0' r1' r2'
  have k0 := Blk.cell (Many.blk HM.out 0 _ _ _ rfl) 0 _ rfl
  have k1 := Blk.cell (Many.blk HM.out 0 _ _ _ rfl) 1 _ rfl
  have k2 := Blk.cell (Many.blk HM.out 0 _ _ _ rfl) 2 _ rfl
  have k3 := Blk.cell (Many.blk HM.out 0 _ _ _ rfl) 3 _ rfl
  have k4 := Blk.cell (Many.blk HM.out 0 _ _ _ rfl) 4 _ rfl
  have k5 := Blk.cell (Many.blk HM.out 0 _ _ _ rfl) 5 _ rfl
  have k6 := Blk.cell (Many.blk HM.out 0 _ _ _ rfl) 6 _ rfl
  have k7 := Blk.cell (Many.blk HM.out 0 _ _ _ rfl) 7 _ rfl
  have k8 := Blk.cell (Many.blk HM.out 0 _ _ _ rfl) 8 _ rfl
  have p0 := Blk.cell (Many.blk HM.out 1 _ _ _ rfl) 0 _ rfl
  have p1 := Blk.cell (Many.blk HM.out 1 _ _ _ rfl) 1 _ rfl
  have p2 := Blk.cell (Many.blk HM.out 1 _ _ _ rfl) 2 _ rfl
  have q0 := Blk.cell (Many.blk HM.out 2 _ _ _ rfl) 0 _ rfl
  have q1 := Blk.cell (Many.blk HM.out 2 _ _ _ rfl) 1 _ rfl
  have q2 := Blk.cell (Many.blk HM.out 2 _ _ _ rfl) 2 _ rfl
  have r0 := Blk.cell (Many.blk HM.out 3 _ _ _ rfl) 0 _ rfl
  have r1 := Blk.cell (Many.blk HM.out 3 _ _ _ rfl) 1 _ rfl
  have r2 := Blk.cell (Many.blk HM.out 3 _ _ _ rfl) 2 _ rfl
  go_wp2_with (first
    | (go_at_call 12; ((with_reducible refine (waywardenlaw15_num.calls _ _ _ rfl).mono ?_); rintro e w9 ⟨rfl, hd⟩; have hb := hd.below; clear hd; have HM := Aside0.mk (Many.later HM.out hb); (try clear k0 k1 k2 k3 k4 k5 k6 k7 k8 p0 p1 p2 q0 q1 q2 r0 r1 r2); have k0 := Blk.cell (Many.blk HM.out 0 _ _ _ rfl) 0 _ rfl; have k1 := Blk.cell (Many.blk HM.out 0 _ _ _ rfl) 1 _ rfl; have k2 := Blk.cell (Many.blk HM.out 0 _ _ _ rfl) 2 _ rfl; have k3 := Blk.cell (Many.blk HM.out 0 _ _ _ rfl) 3 _ rfl; have k4 := Blk.cell (Many.blk HM.out 0 _ _ _ rfl) 4 _ rfl; have k5 := Blk.cell (Many.blk HM.out 0 _ _ _ rfl) 5 _ rfl; have k6 := Blk.cell (Many.blk HM.out 0 _ _ _ rfl) 6 _ rfl; have k7 := Blk.cell (Many.blk HM.out 0 _ _ _ rfl) 7 _ rfl; have k8 := Blk.cell (Many.blk HM.out 0 _ _ _ rfl) 8 _ rfl; have p0 := Blk.cell (Many.blk HM.out 1 _ _ _ rfl) 0 _ rfl; have p1 := Blk.cell (Many.blk HM.out 1 _ _ _ rfl) 1 _ rfl; have p2 := Blk.cell (Many.blk HM.out 1 _ _ _ rfl) 2 _ rfl; have q0 := Blk.cell (Many.blk HM.out 2 _ _ _ rfl) 0 _ rfl; have q1 := Blk.cell (Many.blk HM.out 2 _ _ _ rfl) 1 _ rfl; have q2 := Blk.cell (Many.blk HM.out 2 _ _ _ rfl) 2 _ rfl; have r0 := Blk.cell (Many.blk HM.out 3 _ _ _ rfl) 0 _ rfl; have r1 := Blk.cell (Many.blk HM.out 3 _ _ _ rfl) 1 _ rfl; have r2 := Blk.cell (Many.blk HM.out 3 _ _ _ rfl) 2 _ rfl; clear hb))
    | (go_at_call 9; go_loud ((with_reducible refine (works_any _).mono ?_); rintro e w9 ⟨rfl, hb⟩; have HM := Aside0.mk (Many.later HM.out hb); (try clear k0 k1 k2 k3 k4 k5 k6 k7 k8 p0 p1 p2 q0 q1 q2 r0 r1 r2); have k0 := Blk.cell (Many.blk HM.out 0 _ _ _ rfl) 0 _ rfl; have k1 := Blk.cell (Many.blk HM.out 0 _ _ _ rfl) 1 _ rfl; have k2 := Blk.cell (Many.blk HM.out 0 _ _ _ rfl) 2 _ rfl; have k3 := Blk.cell (Many.blk HM.out 0 _ _ _ rfl) 3 _ rfl; have k4 := Blk.cell (Many.blk HM.out 0 _ _ _ rfl) 4 _ rfl; have k5 := Blk.cell (Many.blk HM.out 0 _ _ _ rfl) 5 _ rfl; have k6 := Blk.cell (Many.blk HM.out 0 _ _ _ rfl) 6 _ rfl; have k7 := Blk.cell (Many.blk HM.out 0 _ _ _ rfl) 7 _ rfl; have k8 := Blk.cell (Many.blk HM.out 0 _ _ _ rfl) 8 _ rfl; have p0 := Blk.cell (Many.blk HM.out 1 _ _ _ rfl) 0 _ rfl; have p1 := Blk.cell (Many.blk HM.out 1 _ _ _ rfl) 1 _ rfl; have p2 := Blk.cell (Many.blk HM.out 1 _ _ _ rfl) 2 _ rfl; have q0 := Blk.cell (Many.blk HM.out 2 _ _ _ rfl) 0 _ rfl; have q1 := Blk.cell (Many.blk HM.out 2 _ _ _ rfl) 1 _ rfl; have q2 := Blk.cell (Many.blk HM.out 2 _ _ _ rfl) 2 _ rfl; have r0 := Blk.cell (Many.blk HM.out 3 _ _ _ rfl) 0 _ rfl; have r1 := Blk.cell (Many.blk HM.out 3 _ _ _ rfl) 1 _ rfl; have r2 := Blk.cell (Many.blk HM.out 3 _ _ _ rfl) 2 _ rfl; clear hb))
    | (go_at_call 11; go_loud ((with_reducible refine (HhAS.out _ (Kd.C_below HR.out HM.out.bel)).mono ?_); rintro e w9 ⟨rfl, hb⟩; have HM := Aside0.mk (Many.later HM.out hb); (try clear k0 k1 k2 k3 k4 k5 k6 k7 k8 p0 p1 p2 q0 q1 q2 r0 r1 r2); have k0 := Blk.cell (Many.blk HM.out 0 _ _ _ rfl) 0 _ rfl; have k1 := Blk.cell (Many.blk HM.out 0 _ _ _ rfl) 1 _ rfl; have k2 := Blk.cell (Many.blk HM.out 0 _ _ _ rfl) 2 _ rfl; have k3 := Blk.cell (Many.blk HM.out 0 _ _ _ rfl) 3 _ rfl; have k4 := Blk.cell (Many.blk HM.out 0 _ _ _ rfl) 4 _ rfl; have k5 := Blk.cell (Many.blk HM.out 0 _ _ _ rfl) 5 _ rfl; have k6 := Blk.cell (Many.blk HM.out 0 _ _ _ rfl) 6 _ rfl; have k7 := Blk.cell (Many.blk HM.out 0 _ _ _ rfl) 7 _ rfl; have k8 := Blk.cell (Many.blk HM.out 0 _ _ _ rfl) 8 _ rfl; have p0 := Blk.cell (Many.blk HM.out 1 _ _ _ rfl) 0 _ rfl; have p1 := Blk.cell (Many.blk HM.out 1 _ _ _ rfl) 1 _ rfl; have p2 := Blk.cell (Many.blk HM.out 1 _ _ _ rfl) 2 _ rfl; have q0 := Blk.cell (Many.blk HM.out 2 _ _ _ rfl) 0 _ rfl; have q1 := Blk.cell (Many.blk HM.out 2 _ _ _ rfl) 1 _ rfl; have q2 := Blk.cell (Many.blk HM.out 2 _ _ _ rfl) 2 _ rfl; have r0 := Blk.cell (Many.blk HM.out 3 _ _ _ rfl) 0 _ rfl; have r1 := Blk.cell (Many.blk HM.out 3 _ _ _ rfl) 1 _ rfl; have r2 := Blk.cell (Many.blk HM.out 3 _ _ _ rfl) 2 _ rfl; clear hb)))
  go_ret
  exact ⟨rfl, HM.out.bel⟩
set_option maxRecDepth 100000 in
set_option maxHeartbeats 16000000 in
theorem beats_good (c0 c1 c2 c3 c4 c5 c6 cap : Int) (A : Option Addr) (l : List Pfx) (cc : Nat) (u0 u1 : Int) (u2 : Bool) (now d : Int) (Y1 X2 Y2 K1 K2 V : Int) (b1 b2 : Bool) (w : World) (hr : Kd.C k81 w A l.length l) (hc : l.length ≤ cc) (ha : AdrP l) (hm : l.length ≤ 140737488355328) (hfew : l.length ≤ 20) (hCH : ∀ W : World, Kd.C k81 W A l.length l → Calls Try.prog 14 #[.agg #[.int .i64 c0, .int .i64 c1, .int .i64 c2, .int .i64 c3, .int .i64 c4, .int .i64 c5, .int .i64 c6, .int .i64 cap, .slice A l.length cc], .agg #[.int .i64 u0, .int .i64 u1, .bool u2], .int .i64 now, .int .i64 d] W fun e w' => e = .returned (.tuple #[.agg #[.int .i64 u0, .int .i64 Y1, .bool b1], .int .i64 K1, .int .i64 0]) ∧ Below W.heap.size W w') (hTI : ∀ W : World, Kd.C k81 W A l.length l → Calls Try.prog 15 #[.agg #[.int .i64 c0, .int .i64 c1, .int .i64 c2, .int .i64 c3, .int .i64 c4, .int .i64 c5, .int .i64 c6, .int .i64 cap, .slice A l.length cc], .agg #[.int .i64 u0, .int .i64 u1, .bool u2], .int .i64 now, .int .i64 d] W fun e w' => e = .returned (.tuple #[.agg #[.int .i64 X2, .int .i64 Y2, .bool b2], .int .i64 K2, .int .i64 0]) ∧ Below W.heap.size W w') (hNX : ∀ W : World, Calls Try.prog 16 #[.agg #[.int .i64 u0, .int .i64 u1, .bool u2]] W fun e w' => e = .returned (.int .i64 V) ∧ Below W.heap.size W w') (hRN : ∀ W : World, Calls Try.prog 17 #[.agg #[.int .i64 u0, .int .i64 u1, .bool u2]] W fun e w' => e = .returned (.int .i64 V) ∧ Below W.heap.size W w') (hAS : ∀ W : World, Kd.C k81 W A l.length l → Calls Try.prog 11 #[.agg #[.int .i64 c0, .int .i64 c1, .int .i64 c2, .int .i64 c3, .int .i64 c4, .int .i64 c5, .int .i64 c6, .int .i64 cap, .slice A l.length cc], .agg #[.int .i64 u0, .int .i64 u1, .bool u2], .int .i64 now] W fun e w' => e = .returned (.int .i64 0) ∧ Below W.heap.size W w') (hRC : ∀ W : World, Calls Try.prog 18 #[.agg #[.int .i64 c0, .int .i64 c1, .int .i64 c2, .int .i64 c3, .int .i64 c4, .int .i64 c5, .int .i64 c6, .int .i64 cap, .slice A l.length cc], .agg #[.int .i64 u0, .int .i64 u1, .bool u2], .int .i64 now, .int .i64 d] W fun e w' => e = .returned (.tuple #[.agg #[.int .i64 u0, .int .i64 Y1, .bool b1], .int .i64 K1]) ∧ Below W.heap.size W w') (hRT : ∀ W : World, Calls Try.prog 19 #[.agg #[.int .i64 c0, .int .i64 c1, .int .i64 c2, .int .i64 c3, .int .i64 c4, .int .i64 c5, .int .i64 c6, .int .i64 cap, .slice A l.length cc], .agg #[.int .i64 u0, .int .i64 u1, .bool u2], .int .i64 now, .int .i64 d] W fun e w' => e = .returned (.tuple #[.agg #[.int .i64 X2, .int .i64 Y2, .bool b2], .int .i64 K2]) ∧ Below W.heap.size W w') :
    Calls Try.prog 4 #[.agg #[.int .i64 c0, .int .i64 c1, .int .i64 c2, .int .i64 c3, .int .i64 c4, .int .i64 c5, .int .i64 c6, .int .i64 cap, .slice A l.length cc], .agg #[.int .i64 u0, .int .i64 u1, .bool u2], .int .i64 now, .int .i64 d] w fun e w' => e = .returned (.bool true) ∧ Below w.heap.size w w' := by
  have HR := Aside0.mk hr
  have HA := Aside0.mk ha
  clear hr ha
  have HF : Aside0 (waywardenlaw15_few.f c0 c1 c2 c3 c4 c5 c6 cap l = some true) := ⟨by unfold waywardenlaw15_few.f; congr 1; apply decide_eq_true; omega⟩
  have HhCH := Aside0.mk hCH
  have HhTI := Aside0.mk hTI
  have HhNX := Aside0.mk hNX
  have HhRN := Aside0.mk hRN
  have HhAS := Aside0.mk hAS
  have HhRC := Aside0.mk hRC
  have HhRT := Aside0.mk hRT
  clear hCH hTI hNX hRN hAS hRC hRT
  have HM : Aside0 (Many w [(w.heap.size, 24, #[.int .i64 c0, .int .i64 c1, .int .i64 c2, .int .i64 c3, .int .i64 c4, .int .i64 c5, .int .i64 c6, .int .i64 cap, .slice A l.length cc]), ((w.heap.size + 1), 28, #[.int .i64 u0, .int .i64 u1, .bool u2])] ((w.alloc (.cells #[.int .i64 c0, .int .i64 c1, .int .i64 c2, .int .i64 c3, .int .i64 c4, .int .i64 c5, .int .i64 c6, .int .i64 cap, .slice A l.length cc] 24)).alloc (.cells #[.int .i64 u0, .int .i64 u1, .bool u2] 28))) := ⟨by have h := Many.grow (Many.grow (Many.none w) 24 #[.int .i64 c0, .int .i64 c1, .int .i64 c2, .int .i64 c3, .int .i64 c4, .int .i64 c5, .int .i64 c6, .int .i64 cap, .slice A l.length cc]) 28 #[.int .i64 u0, .int .i64 u1, .bool u2]; simpa using h⟩
  have k0 := Blk.cell (Many.blk HM.out 0 _ _ _ rfl) 0 _ rfl
  have k1 := Blk.cell (Many.blk HM.out 0 _ _ _ rfl) 1 _ rfl
  have k2 := Blk.cell (Many.blk HM.out 0 _ _ _ rfl) 2 _ rfl
  have k3 := Blk.cell (Many.blk HM.out 0 _ _ _ rfl) 3 _ rfl
  have k4 := Blk.cell (Many.blk HM.out 0 _ _ _ rfl) 4 _ rfl
  have k5 := Blk.cell (Many.blk HM.out 0 _ _ _ rfl) 5 _ rfl
  have k6 := Blk.cell (Many.blk HM.out 0 _ _ _ rfl) 6 _ rfl
  have k7 := Blk.cell (Many.blk HM.out 0 _ _ _ rfl) 7 _ rfl
  have k8 := Blk.cell (Many.blk HM.out 0 _ _ _ rfl) 8 _ rfl
  have p0 := Blk.cell (Many.blk HM.out 1 _ _ _ rfl) 0 _ rfl
  have p1 := Blk.cell (Many.blk HM.out 1 _ _ _ rfl) 1 _ rfl
  have p2 := Blk.cell (Many.blk HM.out 1 _ _ _ rfl) 2 _ rfl
  go_enter Try.func4, Try.ntmps4
  go_upto_region 4 with (first
    | (go_at_call 8; ((with_reducible refine (waywardenlaw15_few.calls c0 c1 c2 c3 c4 c5 c6 cap A cc l true _ (Kd.C_below HR.out HM.out.bel) hc HF.out).mono ?_); rintro e w9 ⟨rfl, hb⟩; have HM := Aside0.mk (Many.later HM.out hb); (try clear k0 k1 k2 k3 k4 k5 k6 k7 k8 p0 p1 p2); have k0 := Blk.cell (Many.blk HM.out 0 _ _ _ rfl) 0 _ rfl; have k1 := Blk.cell (Many.blk HM.out 0 _ _ _ rfl) 1 _ rfl; have k2 := Blk.cell (Many.blk HM.out 0 _ _ _ rfl) 2 _ rfl; have k3 := Blk.cell (Many.blk HM.out 0 _ _ _ rfl) 3 _ rfl; have k4 := Blk.cell (Many.blk HM.out 0 _ _ _ rfl) 4 _ rfl; have k5 := Blk.cell (Many.blk HM.out 0 _ _ _ rfl) 5 _ rfl; have k6 := Blk.cell (Many.blk HM.out 0 _ _ _ rfl) 6 _ rfl; have k7 := Blk.cell (Many.blk HM.out 0 _ _ _ rfl) 7 _ rfl; have k8 := Blk.cell (Many.blk HM.out 0 _ _ _ rfl) 8 _ rfl; have p0 := Blk.cell (Many.blk HM.out 1 _ _ _ rfl) 0 _ rfl; have p1 := Blk.cell (Many.blk HM.out 1 _ _ _ rfl) 1 _ rfl; have p2 := Blk.cell (Many.blk HM.out 1 _ _ _ rfl) 2 _ rfl; clear hb))
    | (go_at_call 9; go_loud ((with_reducible refine (works_any _).mono ?_); rintro e w9 ⟨rfl, hb⟩; have HM := Aside0.mk (Many.later HM.out hb); (try clear k0 k1 k2 k3 k4 k5 k6 k7 k8 p0 p1 p2); have k0 := Blk.cell (Many.blk HM.out 0 _ _ _ rfl) 0 _ rfl; have k1 := Blk.cell (Many.blk HM.out 0 _ _ _ rfl) 1 _ rfl; have k2 := Blk.cell (Many.blk HM.out 0 _ _ _ rfl) 2 _ rfl; have k3 := Blk.cell (Many.blk HM.out 0 _ _ _ rfl) 3 _ rfl; have k4 := Blk.cell (Many.blk HM.out 0 _ _ _ rfl) 4 _ rfl; have k5 := Blk.cell (Many.blk HM.out 0 _ _ _ rfl) 5 _ rfl; have k6 := Blk.cell (Many.blk HM.out 0 _ _ _ rfl) 6 _ rfl; have k7 := Blk.cell (Many.blk HM.out 0 _ _ _ rfl) 7 _ rfl; have k8 := Blk.cell (Many.blk HM.out 0 _ _ _ rfl) 8 _ rfl; have p0 := Blk.cell (Many.blk HM.out 1 _ _ _ rfl) 0 _ rfl; have p1 := Blk.cell (Many.blk HM.out 1 _ _ _ rfl) 1 _ rfl; have p2 := Blk.cell (Many.blk HM.out 1 _ _ _ rfl) 2 _ rfl; clear hb))
    | (go_at_call 14; go_loud ((with_reducible refine (HhCH.out _ (Kd.C_below HR.out HM.out.bel)).mono ?_); rintro e w9 ⟨rfl, hb⟩; have HM := Aside0.mk (Many.later HM.out hb); (try clear k0 k1 k2 k3 k4 k5 k6 k7 k8 p0 p1 p2); have k0 := Blk.cell (Many.blk HM.out 0 _ _ _ rfl) 0 _ rfl; have k1 := Blk.cell (Many.blk HM.out 0 _ _ _ rfl) 1 _ rfl; have k2 := Blk.cell (Many.blk HM.out 0 _ _ _ rfl) 2 _ rfl; have k3 := Blk.cell (Many.blk HM.out 0 _ _ _ rfl) 3 _ rfl; have k4 := Blk.cell (Many.blk HM.out 0 _ _ _ rfl) 4 _ rfl; have k5 := Blk.cell (Many.blk HM.out 0 _ _ _ rfl) 5 _ rfl; have k6 := Blk.cell (Many.blk HM.out 0 _ _ _ rfl) 6 _ rfl; have k7 := Blk.cell (Many.blk HM.out 0 _ _ _ rfl) 7 _ rfl; have k8 := Blk.cell (Many.blk HM.out 0 _ _ _ rfl) 8 _ rfl; have p0 := Blk.cell (Many.blk HM.out 1 _ _ _ rfl) 0 _ rfl; have p1 := Blk.cell (Many.blk HM.out 1 _ _ _ rfl) 1 _ rfl; have p2 := Blk.cell (Many.blk HM.out 1 _ _ _ rfl) 2 _ rfl; clear hb)))
  have HM0 := Aside0.mk (Many.grow HM.out 28 #[.int .i64 u0, .int .i64 Y1, .bool b1])
  obtain ⟨gq, hgq⟩ : ∃ g, w9.heap.size = g := ⟨_, rfl⟩
  obtain ⟨Wq, hWq⟩ : ∃ W', w9.alloc (.cells #[.int .i64 u0, .int .i64 Y1, .bool b1] 28) = W' := ⟨_, rfl⟩
  have hnq : ∀ p v, w9.cell? p = some v → p.block < gq := fun p v h => by rw [← hgq]; exact World.block_lt_of_cell? w9 p h
  rw [hWq, hgq] at HM0
  rw [hWq, hgq]
  have ltq_k := hnq _ _ (Blk.cell (Many.blk HM.out 0 _ _ _ rfl) 0 _ rfl)
  have ltq_p := hnq _ _ (Blk.cell (Many.blk HM.out 1 _ _ _ rfl) 0 _ rfl)
  clear hnq hgq hWq k0 k1 k2 k3 k4 k5 k6 k7 k8 p0 p1 p2 HM
  have HM : Aside0 (Many w [(w.heap.size, 24, #[.int .i64 c0, .int .i64 c1, .int .i64 c2, .int .i64 c3, .int .i64 c4, .int .i64 c5, .int .i64 c6, .int .i64 cap, .slice A l.length cc]), ((w.heap.size + 1), 28, #[.int .i64 u0, .int .i64 u1, .bool u2]), (gq, 28, #[.int .i64 u0, .int .i64 Y1, .bool b1])] Wq) := ⟨HM0.out⟩
  clear HM0
  have k0 := Blk.cell (Many.blk HM.out 0 _ _ _ rfl) 0 _ rfl
  have k1 := Blk.cell (Many.blk HM.out 0 _ _ _ rfl) 1 _ rfl
  have k2 := Blk.cell (Many.blk HM.out 0 _ _ _ rfl) 2 _ rfl
  have k3 := Blk.cell (Many.blk HM.out 0 _ _ _ rfl) 3 _ rfl
  have k4 := Blk.cell (Many.blk HM.out 0 _ _ _ rfl) 4 _ rfl
  have k5 := Blk.cell (Many.blk HM.out 0 _ _ _ rfl) 5 _ rfl
  have k6 := Blk.cell (Many.blk HM.out 0 _ _ _ rfl) 6 _ rfl
  have k7 := Blk.cell (Many.blk HM.out 0 _ _ _ rfl) 7 _ rfl
  have k8 := Blk.cell (Many.blk HM.out 0 _ _ _ rfl) 8 _ rfl
  have p0 := Blk.cell (Many.blk HM.out 1 _ _ _ rfl) 0 _ rfl
  have p1 := Blk.cell (Many.blk HM.out 1 _ _ _ rfl) 1 _ rfl
  have p2 := Blk.cell (Many.blk HM.out 1 _ _ _ rfl) 2 _ rfl
  have q0 := Blk.cell (Many.blk HM.out 2 _ _ _ rfl) 0 _ rfl
  have q1 := Blk.cell (Many.blk HM.out 2 _ _ _ rfl) 1 _ rfl
  have q2 := Blk.cell (Many.blk HM.out 2 _ _ _ rfl) 2 _ rfl
  go_upto_region 5 with (first
    | (go_at_call 15; go_loud ((with_reducible refine (HhTI.out _ (Kd.C_below HR.out HM.out.bel)).mono ?_); rintro e w9 ⟨rfl, hb⟩; have HM := Aside0.mk (Many.later HM.out hb); (try clear k0 k1 k2 k3 k4 k5 k6 k7 k8 p0 p1 p2 q0 q1 q2); have k0 := Blk.cell (Many.blk HM.out 0 _ _ _ rfl) 0 _ rfl; have k1 := Blk.cell (Many.blk HM.out 0 _ _ _ rfl) 1 _ rfl; have k2 := Blk.cell (Many.blk HM.out 0 _ _ _ rfl) 2 _ rfl; have k3 := Blk.cell (Many.blk HM.out 0 _ _ _ rfl) 3 _ rfl; have k4 := Blk.cell (Many.blk HM.out 0 _ _ _ rfl) 4 _ rfl; have k5 := Blk.cell (Many.blk HM.out 0 _ _ _ rfl) 5 _ rfl; have k6 := Blk.cell (Many.blk HM.out 0 _ _ _ rfl) 6 _ rfl; have k7 := Blk.cell (Many.blk HM.out 0 _ _ _ rfl) 7 _ rfl; have k8 := Blk.cell (Many.blk HM.out 0 _ _ _ rfl) 8 _ rfl; have p0 := Blk.cell (Many.blk HM.out 1 _ _ _ rfl) 0 _ rfl; have p1 := Blk.cell (Many.blk HM.out 1 _ _ _ rfl) 1 _ rfl; have p2 := Blk.cell (Many.blk HM.out 1 _ _ _ rfl) 2 _ rfl; have q0 := Blk.cell (Many.blk HM.out 2 _ _ _ rfl) 0 _ rfl; have q1 := Blk.cell (Many.blk HM.out 2 _ _ _ rfl) 1 _ rfl; have q2 := Blk.cell (Many.blk HM.out 2 _ _ _ rfl) 2 _ rfl; clear hb)))
  have HM0 := Aside0.mk (Many.grow HM.out 28 #[.int .i64 X2, .int .i64 Y2, .bool b2])
  obtain ⟨gr, hgr⟩ : ∃ g, w9.heap.size = g := ⟨_, rfl⟩
  obtain ⟨Wr, hWr⟩ : ∃ W', w9.alloc (.cells #[.int .i64 X2, .int .i64 Y2, .bool b2] 28) = W' := ⟨_, rfl⟩
  have hnr : ∀ p v, w9.cell? p = some v → p.block < gr := fun p v h => by rw [← hgr]; exact World.block_lt_of_cell? w9 p h
  rw [hWr, hgr] at HM0
  rw [hWr, hgr]
  have ltr_k := hnr _ _ (Blk.cell (Many.blk HM.out 0 _ _ _ rfl) 0 _ rfl)
  have ltr_p := hnr _ _ (Blk.cell (Many.blk HM.out 1 _ _ _ rfl) 0 _ rfl)
  have ltr_q := hnr _ _ (Blk.cell (Many.blk HM.out 2 _ _ _ rfl) 0 _ rfl)
  clear hnr hgr hWr k0 k1 k2 k3 k4 k5 k6 k7 k8 p0 p1 p2 q0 q1 q2 HM
  have HM : Aside0 (Many w [(w.heap.size, 24, #[.int .i64 c0, .int .i64 c1, .int .i64 c2, .int .i64 c3, .int .i64 c4, .int .i64 c5, .int .i64 c6, .int .i64 cap, .slice A l.length cc]), ((w.heap.size + 1), 28, #[.int .i64 u0, .int .i64 u1, .bool u2]), (gq, 28, #[.int .i64 u0, .int .i64 Y1, .bool b1]), (gr, 28, #[.int .i64 X2, .int .i64 Y2, .bool b2])] Wr) := ⟨HM0.out⟩
  clear HM0
  have k0 := Blk.cell (Many.blk HM.out 0 _ _ _ rfl) 0 _ rfl
  have k1 := Blk.cell (Many.blk HM.out 0 _ _ _ rfl) 1 _ rfl
  have k2 := Blk.cell (Many.blk HM.out 0 _ _ _ rfl) 2 _ rfl
  have k3 := Blk.cell (Many.blk HM.out 0 _ _ _ rfl) 3 _ rfl
  have k4 := Blk.cell (Many.blk HM.out 0 _ _ _ rfl) 4 _ rfl
  have k5 := Blk.cell (Many.blk HM.out 0 _ _ _ rfl) 5 _ rfl
  have k6 := Blk.cell (Many.blk HM.out 0 _ _ _ rfl) 6 _ rfl
  have k7 := Blk.cell (Many.blk HM.out 0 _ _ _ rfl) 7 _ rfl
  have k8 := Blk.cell (Many.blk HM.out 0 _ _ _ rfl) 8 _ rfl
  have p0 := Blk.cell (Many.blk HM.out 1 _ _ _ rfl) 0 _ rfl
  have p1 := Blk.cell (Many.blk HM.out 1 _ _ _ rfl) 1 _ rfl
  have p2 := Blk.cell (Many.blk HM.out 1 _ _ _ rfl) 2 _ rfl
  have q0 := Blk.cell (Many.blk HM.out 2 _ _ _ rfl) 0 _ rfl
  have q1 := Blk.cell (Many.blk HM.out 2 _ _ _ rfl) 1 _ rfl
  have q2 := Blk.cell (Many.blk HM.out 2 _ _ _ rfl) 2 _ rfl
  have r0 := Blk.cell (Many.blk HM.out 3 _ _ _ rfl) 0 _ rfl
  have r1 := Blk.cell (Many.blk HM.out 3 _ _ _ rfl) 1 _ rfl
  have r2 := Blk.cell (Many.blk HM.out 3 _ _ _ rfl) 2 _ rfl
  have k0' : ∀ w' : World, Many w [(w.heap.size, 24, #[.int .i64 c0, .int .i64 c1, .int .i64 c2, .int .i64 c3, .int .i64 c4, .int .i64 c5, .int .i64 c6, .int .i64 cap, .slice A l.length cc]), ((w.heap.size + 1), 28, #[.int .i64 u0, .int .i64 u1, .bool u2]), (gq, 28, #[.int .i64 u0, .int .i64 Y1, .bool b1]), (gr, 28, #[.int .i64 X2, .int .i64 Y2, .bool b2])] w' → w'.cell? ⟨w.heap.size, 0, none⟩ = some (.int .i64 c0) := fun w' h => Blk.cell (Many.blk h 0 _ _ _ rfl) 0 _ rfl
  have k1' : ∀ w' : World, Many w [(w.heap.size, 24, #[.int .i64 c0, .int .i64 c1, .int .i64 c2, .int .i64 c3, .int .i64 c4, .int .i64 c5, .int .i64 c6, .int .i64 cap, .slice A l.length cc]), ((w.heap.size + 1), 28, #[.int .i64 u0, .int .i64 u1, .bool u2]), (gq, 28, #[.int .i64 u0, .int .i64 Y1, .bool b1]), (gr, 28, #[.int .i64 X2, .int .i64 Y2, .bool b2])] w' → w'.cell? ⟨w.heap.size, 1, none⟩ = some (.int .i64 c1) := fun w' h => Blk.cell (Many.blk h 0 _ _ _ rfl) 1 _ rfl
  have k2' : ∀ w' : World, Many w [(w.heap.size, 24, #[.int .i64 c0, .int .i64 c1, .int .i64 c2, .int .i64 c3, .int .i64 c4, .int .i64 c5, .int .i64 c6, .int .i64 cap, .slice A l.length cc]), ((w.heap.size + 1), 28, #[.int .i64 u0, .int .i64 u1, .bool u2]), (gq, 28, #[.int .i64 u0, .int .i64 Y1, .bool b1]), (gr, 28, #[.int .i64 X2, .int .i64 Y2, .bool b2])] w' → w'.cell? ⟨w.heap.size, 2, none⟩ = some (.int .i64 c2) := fun w' h => Blk.cell (Many.blk h 0 _ _ _ rfl) 2 _ rfl
  have k3' : ∀ w' : World, Many w [(w.heap.size, 24, #[.int .i64 c0, .int .i64 c1, .int .i64 c2, .int .i64 c3, .int .i64 c4, .int .i64 c5, .int .i64 c6, .int .i64 cap, .slice A l.length cc]), ((w.heap.size + 1), 28, #[.int .i64 u0, .int .i64 u1, .bool u2]), (gq, 28, #[.int .i64 u0, .int .i64 Y1, .bool b1]), (gr, 28, #[.int .i64 X2, .int .i64 Y2, .bool b2])] w' → w'.cell? ⟨w.heap.size, 3, none⟩ = some (.int .i64 c3) := fun w' h => Blk.cell (Many.blk h 0 _ _ _ rfl) 3 _ rfl
  have k4' : ∀ w' : World, Many w [(w.heap.size, 24, #[.int .i64 c0, .int .i64 c1, .int .i64 c2, .int .i64 c3, .int .i64 c4, .int .i64 c5, .int .i64 c6, .int .i64 cap, .slice A l.length cc]), ((w.heap.size + 1), 28, #[.int .i64 u0, .int .i64 u1, .bool u2]), (gq, 28, #[.int .i64 u0, .int .i64 Y1, .bool b1]), (gr, 28, #[.int .i64 X2, .int .i64 Y2, .bool b2])] w' → w'.cell? ⟨w.heap.size, 4, none⟩ = some (.int .i64 c4) := fun w' h => Blk.cell (Many.blk h 0 _ _ _ rfl) 4 _ rfl
  have k5' : ∀ w' : World, Many w [(w.heap.size, 24, #[.int .i64 c0, .int .i64 c1, .int .i64 c2, .int .i64 c3, .int .i64 c4, .int .i64 c5, .int .i64 c6, .int .i64 cap, .slice A l.length cc]), ((w.heap.size + 1), 28, #[.int .i64 u0, .int .i64 u1, .bool u2]), (gq, 28, #[.int .i64 u0, .int .i64 Y1, .bool b1]), (gr, 28, #[.int .i64 X2, .int .i64 Y2, .bool b2])] w' → w'.cell? ⟨w.heap.size, 5, none⟩ = some (.int .i64 c5) := fun w' h => Blk.cell (Many.blk h 0 _ _ _ rfl) 5 _ rfl
  have k6' : ∀ w' : World, Many w [(w.heap.size, 24, #[.int .i64 c0, .int .i64 c1, .int .i64 c2, .int .i64 c3, .int .i64 c4, .int .i64 c5, .int .i64 c6, .int .i64 cap, .slice A l.length cc]), ((w.heap.size + 1), 28, #[.int .i64 u0, .int .i64 u1, .bool u2]), (gq, 28, #[.int .i64 u0, .int .i64 Y1, .bool b1]), (gr, 28, #[.int .i64 X2, .int .i64 Y2, .bool b2])] w' → w'.cell? ⟨w.heap.size, 6, none⟩ = some (.int .i64 c6) := fun w' h => Blk.cell (Many.blk h 0 _ _ _ rfl) 6 _ rfl
  have k7' : ∀ w' : World, Many w [(w.heap.size, 24, #[.int .i64 c0, .int .i64 c1, .int .i64 c2, .int .i64 c3, .int .i64 c4, .int .i64 c5, .int .i64 c6, .int .i64 cap, .slice A l.length cc]), ((w.heap.size + 1), 28, #[.int .i64 u0, .int .i64 u1, .bool u2]), (gq, 28, #[.int .i64 u0, .int .i64 Y1, .bool b1]), (gr, 28, #[.int .i64 X2, .int .i64 Y2, .bool b2])] w' → w'.cell? ⟨w.heap.size, 7, none⟩ = some (.int .i64 cap) := fun w' h => Blk.cell (Many.blk h 0 _ _ _ rfl) 7 _ rfl
  have k8' : ∀ w' : World, Many w [(w.heap.size, 24, #[.int .i64 c0, .int .i64 c1, .int .i64 c2, .int .i64 c3, .int .i64 c4, .int .i64 c5, .int .i64 c6, .int .i64 cap, .slice A l.length cc]), ((w.heap.size + 1), 28, #[.int .i64 u0, .int .i64 u1, .bool u2]), (gq, 28, #[.int .i64 u0, .int .i64 Y1, .bool b1]), (gr, 28, #[.int .i64 X2, .int .i64 Y2, .bool b2])] w' → w'.cell? ⟨w.heap.size, 8, none⟩ = some (.slice A l.length cc) := fun w' h => Blk.cell (Many.blk h 0 _ _ _ rfl) 8 _ rfl
  have p0' : ∀ w' : World, Many w [(w.heap.size, 24, #[.int .i64 c0, .int .i64 c1, .int .i64 c2, .int .i64 c3, .int .i64 c4, .int .i64 c5, .int .i64 c6, .int .i64 cap, .slice A l.length cc]), ((w.heap.size + 1), 28, #[.int .i64 u0, .int .i64 u1, .bool u2]), (gq, 28, #[.int .i64 u0, .int .i64 Y1, .bool b1]), (gr, 28, #[.int .i64 X2, .int .i64 Y2, .bool b2])] w' → w'.cell? ⟨(w.heap.size + 1), 0, none⟩ = some (.int .i64 u0) := fun w' h => Blk.cell (Many.blk h 1 _ _ _ rfl) 0 _ rfl
  have p1' : ∀ w' : World, Many w [(w.heap.size, 24, #[.int .i64 c0, .int .i64 c1, .int .i64 c2, .int .i64 c3, .int .i64 c4, .int .i64 c5, .int .i64 c6, .int .i64 cap, .slice A l.length cc]), ((w.heap.size + 1), 28, #[.int .i64 u0, .int .i64 u1, .bool u2]), (gq, 28, #[.int .i64 u0, .int .i64 Y1, .bool b1]), (gr, 28, #[.int .i64 X2, .int .i64 Y2, .bool b2])] w' → w'.cell? ⟨(w.heap.size + 1), 1, none⟩ = some (.int .i64 u1) := fun w' h => Blk.cell (Many.blk h 1 _ _ _ rfl) 1 _ rfl
  have p2' : ∀ w' : World, Many w [(w.heap.size, 24, #[.int .i64 c0, .int .i64 c1, .int .i64 c2, .int .i64 c3, .int .i64 c4, .int .i64 c5, .int .i64 c6, .int .i64 cap, .slice A l.length cc]), ((w.heap.size + 1), 28, #[.int .i64 u0, .int .i64 u1, .bool u2]), (gq, 28, #[.int .i64 u0, .int .i64 Y1, .bool b1]), (gr, 28, #[.int .i64 X2, .int .i64 Y2, .bool b2])] w' → w'.cell? ⟨(w.heap.size + 1), 2, none⟩ = some (.bool u2) := fun w' h => Blk.cell (Many.blk h 1 _ _ _ rfl) 2 _ rfl
  have q0' : ∀ w' : World, Many w [(w.heap.size, 24, #[.int .i64 c0, .int .i64 c1, .int .i64 c2, .int .i64 c3, .int .i64 c4, .int .i64 c5, .int .i64 c6, .int .i64 cap, .slice A l.length cc]), ((w.heap.size + 1), 28, #[.int .i64 u0, .int .i64 u1, .bool u2]), (gq, 28, #[.int .i64 u0, .int .i64 Y1, .bool b1]), (gr, 28, #[.int .i64 X2, .int .i64 Y2, .bool b2])] w' → w'.cell? ⟨gq, 0, none⟩ = some (.int .i64 u0) := fun w' h => Blk.cell (Many.blk h 2 _ _ _ rfl) 0 _ rfl
  have q1' : ∀ w' : World, Many w [(w.heap.size, 24, #[.int .i64 c0, .int .i64 c1, .int .i64 c2, .int .i64 c3, .int .i64 c4, .int .i64 c5, .int .i64 c6, .int .i64 cap, .slice A l.length cc]), ((w.heap.size + 1), 28, #[.int .i64 u0, .int .i64 u1, .bool u2]), (gq, 28, #[.int .i64 u0, .int .i64 Y1, .bool b1]), (gr, 28, #[.int .i64 X2, .int .i64 Y2, .bool b2])] w' → w'.cell? ⟨gq, 1, none⟩ = some (.int .i64 Y1) := fun w' h => Blk.cell (Many.blk h 2 _ _ _ rfl) 1 _ rfl
  have q2' : ∀ w' : World, Many w [(w.heap.size, 24, #[.int .i64 c0, .int .i64 c1, .int .i64 c2, .int .i64 c3, .int .i64 c4, .int .i64 c5, .int .i64 c6, .int .i64 cap, .slice A l.length cc]), ((w.heap.size + 1), 28, #[.int .i64 u0, .int .i64 u1, .bool u2]), (gq, 28, #[.int .i64 u0, .int .i64 Y1, .bool b1]), (gr, 28, #[.int .i64 X2, .int .i64 Y2, .bool b2])] w' → w'.cell? ⟨gq, 2, none⟩ = some (.bool b1) := fun w' h => Blk.cell (Many.blk h 2 _ _ _ rfl) 2 _ rfl
  have r0' : ∀ w' : World, Many w [(w.heap.size, 24, #[.int .i64 c0, .int .i64 c1, .int .i64 c2, .int .i64 c3, .int .i64 c4, .int .i64 c5, .int .i64 c6, .int .i64 cap, .slice A l.length cc]), ((w.heap.size + 1), 28, #[.int .i64 u0, .int .i64 u1, .bool u2]), (gq, 28, #[.int .i64 u0, .int .i64 Y1, .bool b1]), (gr, 28, #[.int .i64 X2, .int .i64 Y2, .bool b2])] w' → w'.cell? ⟨gr, 0, none⟩ = some (.int .i64 X2) := fun w' h => Blk.cell (Many.blk h 3 _ _ _ rfl) 0 _ rfl
  have r1' : ∀ w' : World, Many w [(w.heap.size, 24, #[.int .i64 c0, .int .i64 c1, .int .i64 c2, .int .i64 c3, .int .i64 c4, .int .i64 c5, .int .i64 c6, .int .i64 cap, .slice A l.length cc]), ((w.heap.size + 1), 28, #[.int .i64 u0, .int .i64 u1, .bool u2]), (gq, 28, #[.int .i64 u0, .int .i64 Y1, .bool b1]), (gr, 28, #[.int .i64 X2, .int .i64 Y2, .bool b2])] w' → w'.cell? ⟨gr, 1, none⟩ = some (.int .i64 Y2) := fun w' h => Blk.cell (Many.blk h 3 _ _ _ rfl) 1 _ rfl
  have r2' : ∀ w' : World, Many w [(w.heap.size, 24, #[.int .i64 c0, .int .i64 c1, .int .i64 c2, .int .i64 c3, .int .i64 c4, .int .i64 c5, .int .i64 c6, .int .i64 cap, .slice A l.length cc]), ((w.heap.size + 1), 28, #[.int .i64 u0, .int .i64 u1, .bool u2]), (gq, 28, #[.int .i64 u0, .int .i64 Y1, .bool b1]), (gr, 28, #[.int .i64 X2, .int .i64 Y2, .bool b2])] w' → w'.cell? ⟨gr, 2, none⟩ = some (.bool b2) := fun w' h => Blk.cell (Many.blk h 3 _ _ _ rfl) 2 _ rfl
  clear k0 k1 k2 k3 k4 k5 k6 k7 k8 p0 p1 p2 q0 q1 q2 r0 r1 r2
  refine wp_region_held_drew (S := fun w' => Many w [(w.heap.size, 24, #[.int .i64 c0, .int .i64 c1, .int .i64 c2, .int .i64 c3, .int .i64 c4, .int .i64 c5, .int .i64 c6, .int .i64 cap, .slice A l.length cc]), ((w.heap.size + 1), 28, #[.int .i64 u0, .int .i64 u1, .bool u2]), (gq, 28, #[.int .i64 u0, .int .i64 Y1, .bool b1]), (gr, 28, #[.int .i64 X2, .int .i64 Y2, .bool b2])] w') (by kernel_rfl) ?sA (fun hHeld => ?rA)
  case sA => exact Many.drew HM.out
  refine wpAnyH_take (i := 0) (oi := ?oA_0) (v := ?vA_0) ?iA_0 (by kernel_rfl) (by kernel_rfl) (by kernel_rfl) ?qA_0 ?yA_0 hHeld ?nA_0
  case iA_0 => (simp only [List.getElem?_toArray, List.getElem?_cons_succ, List.getElem?_cons_zero]; rfl)
  case yA_0 => (refine Or.inl ⟨by kernel_rfl, ?_⟩; intro w' hSw; (try dsimp only at hSw); first | (go_simp; done) | (go_simp; with_reducible rfl))
  case qA_0 => exact fun _ _ _ h => h
  try simp only [Act.put, List.setIfInBounds_toArray, List.set_cons_zero, List.set_cons_succ]
  refine wpAnyH_take (i := 2) (oi := ?oA_2) (v := ?vA_2) ?iA_2 (by kernel_rfl) (by kernel_rfl) (by kernel_rfl) ?qA_2 ?yA_2 hHeld ?nA_2
  case iA_2 => (simp only [List.getElem?_toArray, List.getElem?_cons_succ, List.getElem?_cons_zero]; rfl)
  case yA_2 => (refine Or.inl ⟨by kernel_rfl, ?_⟩; intro w' hSw; (try dsimp only at hSw); first | (go_simp; done) | (go_simp; with_reducible rfl))
  case qA_2 => exact fun _ _ _ h => h
  try simp only [Act.put, List.setIfInBounds_toArray, List.set_cons_zero, List.set_cons_succ]
  refine wpAnyH_ready (rs := [1]) (by kernel_rfl) (by simp) ?_
  refine AllReadyH.cons (o := ?oA_1) ?iA_1 (fun K hK => ?kA_1) AllReadyH.nil
  case iA_1 => (simp only [List.getElem?_toArray, List.getElem?_cons_succ, List.getElem?_cons_zero]; rfl)
  go_simp
  ((with_reducible refine (HhNX.out _).mono ?_); rintro e w4 ⟨rfl, hb⟩; dsimp only)
  refine hK.out _ _ ?hA_1 (fun hHeld2 => ?mA_1)
  case hA_1 => exact Many.later hHeld hb
  clear hK K hHeld
  have hHeld := hHeld2
  clear hHeld2
  try simp only [Act.put, List.setIfInBounds_toArray, List.set_cons_zero, List.set_cons_succ]
  refine wpAnyH_ready (rs := [3]) (by kernel_rfl) (by simp) ?_
  refine AllReadyH.cons (o := ?oA_3) ?iA_3 (fun K hK => ?kA_3) AllReadyH.nil
  case iA_3 => (simp only [List.getElem?_toArray, List.getElem?_cons_succ, List.getElem?_cons_zero]; rfl)
  go_simp
  ((with_reducible refine (HhRN.out _).mono ?_); rintro e w4 ⟨rfl, hb⟩; dsimp only)
  refine hK.out _ _ ?hA_3 (fun hHeld2 => ?mA_3)
  case hA_3 => exact Many.later hHeld hb
  clear hK K hHeld
  have hHeld := hHeld2
  clear hHeld2
  try simp only [Act.put, List.setIfInBounds_toArray, List.set_cons_zero, List.set_cons_succ]
  refine wpAnyH_take (i := 4) (oi := ?oA_4) (v := ?vA_4) ?iA_4 (by kernel_rfl) (by kernel_rfl) (by kernel_rfl) ?qA_4 ?yA_4 hHeld ?nA_4
  case iA_4 => (simp only [List.getElem?_toArray, List.getElem?_cons_succ, List.getElem?_cons_zero]; rfl)
  case yA_4 => (refine Or.inl ⟨by kernel_rfl, ?_⟩; intro w' hSw; (try dsimp only at hSw); first | (go_simp; done) | (go_simp; with_reducible rfl))
  case qA_4 => exact fun _ _ _ h => h
  try simp only [Act.put, List.setIfInBounds_toArray, List.set_cons_zero, List.set_cons_succ]
  refine wpAnyH_done (by kernel_rfl) ?_ _
  have HM := Aside0.mk hHeld
  clear hHeld k0' k1' k2' k3' k4' k5' k6' k7' k8' p0' p1' p2' q0' q1' q2' r0' r1' r2'
  have k0 := Blk.cell (Many.blk HM.out 0 _ _ _ rfl) 0 _ rfl
  have k1 := Blk.cell (Many.blk HM.out 0 _ _ _ rfl) 1 _ rfl
  have k2 := Blk.cell (Many.blk HM.out 0 _ _ _ rfl) 2 _ rfl
  have k3 := Blk.cell (Many.blk HM.out 0 _ _ _ rfl) 3 _ rfl
  have k4 := Blk.cell (Many.blk HM.out 0 _ _ _ rfl) 4 _ rfl
  have k5 := Blk.cell (Many.blk HM.out 0 _ _ _ rfl) 5 _ rfl
  have k6 := Blk.cell (Many.blk HM.out 0 _ _ _ rfl) 6 _ rfl
  have k7 := Blk.cell (Many.blk HM.out 0 _ _ _ rfl) 7 _ rfl
  have k8 := Blk.cell (Many.blk HM.out 0 _ _ _ rfl) 8 _ rfl
  have p0 := Blk.cell (Many.blk HM.out 1 _ _ _ rfl) 0 _ rfl
  have p1 := Blk.cell (Many.blk HM.out 1 _ _ _ rfl) 1 _ rfl
  have p2 := Blk.cell (Many.blk HM.out 1 _ _ _ rfl) 2 _ rfl
  have q0 := Blk.cell (Many.blk HM.out 2 _ _ _ rfl) 0 _ rfl
  have q1 := Blk.cell (Many.blk HM.out 2 _ _ _ rfl) 1 _ rfl
  have q2 := Blk.cell (Many.blk HM.out 2 _ _ _ rfl) 2 _ rfl
  have r0 := Blk.cell (Many.blk HM.out 3 _ _ _ rfl) 0 _ rfl
  have r1 := Blk.cell (Many.blk HM.out 3 _ _ _ rfl) 1 _ rfl
  have r2 := Blk.cell (Many.blk HM.out 3 _ _ _ rfl) 2 _ rfl
  go_upto_region 11 with (first
    | (go_at_call 12; ((with_reducible refine (waywardenlaw15_num.calls _ _ _ rfl).mono ?_); rintro e w9 ⟨rfl, hd⟩; have hb := hd.below; clear hd; have HM := Aside0.mk (Many.later HM.out hb); (try clear k0 k1 k2 k3 k4 k5 k6 k7 k8 p0 p1 p2 q0 q1 q2 r0 r1 r2); have k0 := Blk.cell (Many.blk HM.out 0 _ _ _ rfl) 0 _ rfl; have k1 := Blk.cell (Many.blk HM.out 0 _ _ _ rfl) 1 _ rfl; have k2 := Blk.cell (Many.blk HM.out 0 _ _ _ rfl) 2 _ rfl; have k3 := Blk.cell (Many.blk HM.out 0 _ _ _ rfl) 3 _ rfl; have k4 := Blk.cell (Many.blk HM.out 0 _ _ _ rfl) 4 _ rfl; have k5 := Blk.cell (Many.blk HM.out 0 _ _ _ rfl) 5 _ rfl; have k6 := Blk.cell (Many.blk HM.out 0 _ _ _ rfl) 6 _ rfl; have k7 := Blk.cell (Many.blk HM.out 0 _ _ _ rfl) 7 _ rfl; have k8 := Blk.cell (Many.blk HM.out 0 _ _ _ rfl) 8 _ rfl; have p0 := Blk.cell (Many.blk HM.out 1 _ _ _ rfl) 0 _ rfl; have p1 := Blk.cell (Many.blk HM.out 1 _ _ _ rfl) 1 _ rfl; have p2 := Blk.cell (Many.blk HM.out 1 _ _ _ rfl) 2 _ rfl; have q0 := Blk.cell (Many.blk HM.out 2 _ _ _ rfl) 0 _ rfl; have q1 := Blk.cell (Many.blk HM.out 2 _ _ _ rfl) 1 _ rfl; have q2 := Blk.cell (Many.blk HM.out 2 _ _ _ rfl) 2 _ rfl; have r0 := Blk.cell (Many.blk HM.out 3 _ _ _ rfl) 0 _ rfl; have r1 := Blk.cell (Many.blk HM.out 3 _ _ _ rfl) 1 _ rfl; have r2 := Blk.cell (Many.blk HM.out 3 _ _ _ rfl) 2 _ rfl; clear hb))
    | (go_at_call 9; go_loud ((with_reducible refine (works_any _).mono ?_); rintro e w9 ⟨rfl, hb⟩; have HM := Aside0.mk (Many.later HM.out hb); (try clear k0 k1 k2 k3 k4 k5 k6 k7 k8 p0 p1 p2 q0 q1 q2 r0 r1 r2); have k0 := Blk.cell (Many.blk HM.out 0 _ _ _ rfl) 0 _ rfl; have k1 := Blk.cell (Many.blk HM.out 0 _ _ _ rfl) 1 _ rfl; have k2 := Blk.cell (Many.blk HM.out 0 _ _ _ rfl) 2 _ rfl; have k3 := Blk.cell (Many.blk HM.out 0 _ _ _ rfl) 3 _ rfl; have k4 := Blk.cell (Many.blk HM.out 0 _ _ _ rfl) 4 _ rfl; have k5 := Blk.cell (Many.blk HM.out 0 _ _ _ rfl) 5 _ rfl; have k6 := Blk.cell (Many.blk HM.out 0 _ _ _ rfl) 6 _ rfl; have k7 := Blk.cell (Many.blk HM.out 0 _ _ _ rfl) 7 _ rfl; have k8 := Blk.cell (Many.blk HM.out 0 _ _ _ rfl) 8 _ rfl; have p0 := Blk.cell (Many.blk HM.out 1 _ _ _ rfl) 0 _ rfl; have p1 := Blk.cell (Many.blk HM.out 1 _ _ _ rfl) 1 _ rfl; have p2 := Blk.cell (Many.blk HM.out 1 _ _ _ rfl) 2 _ rfl; have q0 := Blk.cell (Many.blk HM.out 2 _ _ _ rfl) 0 _ rfl; have q1 := Blk.cell (Many.blk HM.out 2 _ _ _ rfl) 1 _ rfl; have q2 := Blk.cell (Many.blk HM.out 2 _ _ _ rfl) 2 _ rfl; have r0 := Blk.cell (Many.blk HM.out 3 _ _ _ rfl) 0 _ rfl; have r1 := Blk.cell (Many.blk HM.out 3 _ _ _ rfl) 1 _ rfl; have r2 := Blk.cell (Many.blk HM.out 3 _ _ _ rfl) 2 _ rfl; clear hb))
    | (go_at_call 11; go_loud ((with_reducible refine (HhAS.out _ (Kd.C_below HR.out HM.out.bel)).mono ?_); rintro e w9 ⟨rfl, hb⟩; have HM := Aside0.mk (Many.later HM.out hb); (try clear k0 k1 k2 k3 k4 k5 k6 k7 k8 p0 p1 p2 q0 q1 q2 r0 r1 r2); have k0 := Blk.cell (Many.blk HM.out 0 _ _ _ rfl) 0 _ rfl; have k1 := Blk.cell (Many.blk HM.out 0 _ _ _ rfl) 1 _ rfl; have k2 := Blk.cell (Many.blk HM.out 0 _ _ _ rfl) 2 _ rfl; have k3 := Blk.cell (Many.blk HM.out 0 _ _ _ rfl) 3 _ rfl; have k4 := Blk.cell (Many.blk HM.out 0 _ _ _ rfl) 4 _ rfl; have k5 := Blk.cell (Many.blk HM.out 0 _ _ _ rfl) 5 _ rfl; have k6 := Blk.cell (Many.blk HM.out 0 _ _ _ rfl) 6 _ rfl; have k7 := Blk.cell (Many.blk HM.out 0 _ _ _ rfl) 7 _ rfl; have k8 := Blk.cell (Many.blk HM.out 0 _ _ _ rfl) 8 _ rfl; have p0 := Blk.cell (Many.blk HM.out 1 _ _ _ rfl) 0 _ rfl; have p1 := Blk.cell (Many.blk HM.out 1 _ _ _ rfl) 1 _ rfl; have p2 := Blk.cell (Many.blk HM.out 1 _ _ _ rfl) 2 _ rfl; have q0 := Blk.cell (Many.blk HM.out 2 _ _ _ rfl) 0 _ rfl; have q1 := Blk.cell (Many.blk HM.out 2 _ _ _ rfl) 1 _ rfl; have q2 := Blk.cell (Many.blk HM.out 2 _ _ _ rfl) 2 _ rfl; have r0 := Blk.cell (Many.blk HM.out 3 _ _ _ rfl) 0 _ rfl; have r1 := Blk.cell (Many.blk HM.out 3 _ _ _ rfl) 1 _ rfl; have r2 := Blk.cell (Many.blk HM.out 3 _ _ _ rfl) 2 _ rfl; clear hb))
    | (go_at_call 18; go_loud ((with_reducible refine (HhRC.out _).mono ?_); rintro e w9 ⟨rfl, hb⟩; have HM := Aside0.mk (Many.later HM.out hb); (try clear k0 k1 k2 k3 k4 k5 k6 k7 k8 p0 p1 p2 q0 q1 q2 r0 r1 r2); have k0 := Blk.cell (Many.blk HM.out 0 _ _ _ rfl) 0 _ rfl; have k1 := Blk.cell (Many.blk HM.out 0 _ _ _ rfl) 1 _ rfl; have k2 := Blk.cell (Many.blk HM.out 0 _ _ _ rfl) 2 _ rfl; have k3 := Blk.cell (Many.blk HM.out 0 _ _ _ rfl) 3 _ rfl; have k4 := Blk.cell (Many.blk HM.out 0 _ _ _ rfl) 4 _ rfl; have k5 := Blk.cell (Many.blk HM.out 0 _ _ _ rfl) 5 _ rfl; have k6 := Blk.cell (Many.blk HM.out 0 _ _ _ rfl) 6 _ rfl; have k7 := Blk.cell (Many.blk HM.out 0 _ _ _ rfl) 7 _ rfl; have k8 := Blk.cell (Many.blk HM.out 0 _ _ _ rfl) 8 _ rfl; have p0 := Blk.cell (Many.blk HM.out 1 _ _ _ rfl) 0 _ rfl; have p1 := Blk.cell (Many.blk HM.out 1 _ _ _ rfl) 1 _ rfl; have p2 := Blk.cell (Many.blk HM.out 1 _ _ _ rfl) 2 _ rfl; have q0 := Blk.cell (Many.blk HM.out 2 _ _ _ rfl) 0 _ rfl; have q1 := Blk.cell (Many.blk HM.out 2 _ _ _ rfl) 1 _ rfl; have q2 := Blk.cell (Many.blk HM.out 2 _ _ _ rfl) 2 _ rfl; have r0 := Blk.cell (Many.blk HM.out 3 _ _ _ rfl) 0 _ rfl; have r1 := Blk.cell (Many.blk HM.out 3 _ _ _ rfl) 1 _ rfl; have r2 := Blk.cell (Many.blk HM.out 3 _ _ _ rfl) 2 _ rfl; clear hb)))
  have HM0 := Aside0.mk (Many.grow HM.out 28 #[.int .i64 u0, .int .i64 Y1, .bool b1])
  obtain ⟨gs, hgs⟩ : ∃ g, w9.heap.size = g := ⟨_, rfl⟩
  obtain ⟨Ws, hWs⟩ : ∃ W', w9.alloc (.cells #[.int .i64 u0, .int .i64 Y1, .bool b1] 28) = W' := ⟨_, rfl⟩
  have hns : ∀ p v, w9.cell? p = some v → p.block < gs := fun p v h => by rw [← hgs]; exact World.block_lt_of_cell? w9 p h
  rw [hWs, hgs] at HM0
  rw [hWs, hgs]
  have lts_k := hns _ _ (Blk.cell (Many.blk HM.out 0 _ _ _ rfl) 0 _ rfl)
  have lts_p := hns _ _ (Blk.cell (Many.blk HM.out 1 _ _ _ rfl) 0 _ rfl)
  have lts_q := hns _ _ (Blk.cell (Many.blk HM.out 2 _ _ _ rfl) 0 _ rfl)
  have lts_r := hns _ _ (Blk.cell (Many.blk HM.out 3 _ _ _ rfl) 0 _ rfl)
  clear hns hgs hWs k0 k1 k2 k3 k4 k5 k6 k7 k8 p0 p1 p2 q0 q1 q2 r0 r1 r2 HM
  have HM : Aside0 (Many w [(w.heap.size, 24, #[.int .i64 c0, .int .i64 c1, .int .i64 c2, .int .i64 c3, .int .i64 c4, .int .i64 c5, .int .i64 c6, .int .i64 cap, .slice A l.length cc]), ((w.heap.size + 1), 28, #[.int .i64 u0, .int .i64 u1, .bool u2]), (gq, 28, #[.int .i64 u0, .int .i64 Y1, .bool b1]), (gr, 28, #[.int .i64 X2, .int .i64 Y2, .bool b2]), (gs, 28, #[.int .i64 u0, .int .i64 Y1, .bool b1])] Ws) := ⟨HM0.out⟩
  clear HM0
  have k0 := Blk.cell (Many.blk HM.out 0 _ _ _ rfl) 0 _ rfl
  have k1 := Blk.cell (Many.blk HM.out 0 _ _ _ rfl) 1 _ rfl
  have k2 := Blk.cell (Many.blk HM.out 0 _ _ _ rfl) 2 _ rfl
  have k3 := Blk.cell (Many.blk HM.out 0 _ _ _ rfl) 3 _ rfl
  have k4 := Blk.cell (Many.blk HM.out 0 _ _ _ rfl) 4 _ rfl
  have k5 := Blk.cell (Many.blk HM.out 0 _ _ _ rfl) 5 _ rfl
  have k6 := Blk.cell (Many.blk HM.out 0 _ _ _ rfl) 6 _ rfl
  have k7 := Blk.cell (Many.blk HM.out 0 _ _ _ rfl) 7 _ rfl
  have k8 := Blk.cell (Many.blk HM.out 0 _ _ _ rfl) 8 _ rfl
  have p0 := Blk.cell (Many.blk HM.out 1 _ _ _ rfl) 0 _ rfl
  have p1 := Blk.cell (Many.blk HM.out 1 _ _ _ rfl) 1 _ rfl
  have p2 := Blk.cell (Many.blk HM.out 1 _ _ _ rfl) 2 _ rfl
  have q0 := Blk.cell (Many.blk HM.out 2 _ _ _ rfl) 0 _ rfl
  have q1 := Blk.cell (Many.blk HM.out 2 _ _ _ rfl) 1 _ rfl
  have q2 := Blk.cell (Many.blk HM.out 2 _ _ _ rfl) 2 _ rfl
  have r0 := Blk.cell (Many.blk HM.out 3 _ _ _ rfl) 0 _ rfl
  have r1 := Blk.cell (Many.blk HM.out 3 _ _ _ rfl) 1 _ rfl
  have r2 := Blk.cell (Many.blk HM.out 3 _ _ _ rfl) 2 _ rfl
  have s0 := Blk.cell (Many.blk HM.out 4 _ _ _ rfl) 0 _ rfl
  have s1 := Blk.cell (Many.blk HM.out 4 _ _ _ rfl) 1 _ rfl
  have s2 := Blk.cell (Many.blk HM.out 4 _ _ _ rfl) 2 _ rfl
  go_upto_region 12 with (first
    | (go_at_call 19; go_loud ((with_reducible refine (HhRT.out _).mono ?_); rintro e w9 ⟨rfl, hb⟩; have HM := Aside0.mk (Many.later HM.out hb); (try clear k0 k1 k2 k3 k4 k5 k6 k7 k8 p0 p1 p2 q0 q1 q2 r0 r1 r2 s0 s1 s2); have k0 := Blk.cell (Many.blk HM.out 0 _ _ _ rfl) 0 _ rfl; have k1 := Blk.cell (Many.blk HM.out 0 _ _ _ rfl) 1 _ rfl; have k2 := Blk.cell (Many.blk HM.out 0 _ _ _ rfl) 2 _ rfl; have k3 := Blk.cell (Many.blk HM.out 0 _ _ _ rfl) 3 _ rfl; have k4 := Blk.cell (Many.blk HM.out 0 _ _ _ rfl) 4 _ rfl; have k5 := Blk.cell (Many.blk HM.out 0 _ _ _ rfl) 5 _ rfl; have k6 := Blk.cell (Many.blk HM.out 0 _ _ _ rfl) 6 _ rfl; have k7 := Blk.cell (Many.blk HM.out 0 _ _ _ rfl) 7 _ rfl; have k8 := Blk.cell (Many.blk HM.out 0 _ _ _ rfl) 8 _ rfl; have p0 := Blk.cell (Many.blk HM.out 1 _ _ _ rfl) 0 _ rfl; have p1 := Blk.cell (Many.blk HM.out 1 _ _ _ rfl) 1 _ rfl; have p2 := Blk.cell (Many.blk HM.out 1 _ _ _ rfl) 2 _ rfl; have q0 := Blk.cell (Many.blk HM.out 2 _ _ _ rfl) 0 _ rfl; have q1 := Blk.cell (Many.blk HM.out 2 _ _ _ rfl) 1 _ rfl; have q2 := Blk.cell (Many.blk HM.out 2 _ _ _ rfl) 2 _ rfl; have r0 := Blk.cell (Many.blk HM.out 3 _ _ _ rfl) 0 _ rfl; have r1 := Blk.cell (Many.blk HM.out 3 _ _ _ rfl) 1 _ rfl; have r2 := Blk.cell (Many.blk HM.out 3 _ _ _ rfl) 2 _ rfl; have s0 := Blk.cell (Many.blk HM.out 4 _ _ _ rfl) 0 _ rfl; have s1 := Blk.cell (Many.blk HM.out 4 _ _ _ rfl) 1 _ rfl; have s2 := Blk.cell (Many.blk HM.out 4 _ _ _ rfl) 2 _ rfl; clear hb)))
  have HM0 := Aside0.mk (Many.grow HM.out 28 #[.int .i64 X2, .int .i64 Y2, .bool b2])
  obtain ⟨gt, hgt⟩ : ∃ g, w9.heap.size = g := ⟨_, rfl⟩
  obtain ⟨Wt, hWt⟩ : ∃ W', w9.alloc (.cells #[.int .i64 X2, .int .i64 Y2, .bool b2] 28) = W' := ⟨_, rfl⟩
  have hnt : ∀ p v, w9.cell? p = some v → p.block < gt := fun p v h => by rw [← hgt]; exact World.block_lt_of_cell? w9 p h
  rw [hWt, hgt] at HM0
  rw [hWt, hgt]
  have ltt_k := hnt _ _ (Blk.cell (Many.blk HM.out 0 _ _ _ rfl) 0 _ rfl)
  have ltt_p := hnt _ _ (Blk.cell (Many.blk HM.out 1 _ _ _ rfl) 0 _ rfl)
  have ltt_q := hnt _ _ (Blk.cell (Many.blk HM.out 2 _ _ _ rfl) 0 _ rfl)
  have ltt_r := hnt _ _ (Blk.cell (Many.blk HM.out 3 _ _ _ rfl) 0 _ rfl)
  have ltt_s := hnt _ _ (Blk.cell (Many.blk HM.out 4 _ _ _ rfl) 0 _ rfl)
  clear hnt hgt hWt k0 k1 k2 k3 k4 k5 k6 k7 k8 p0 p1 p2 q0 q1 q2 r0 r1 r2 s0 s1 s2 HM
  have HM : Aside0 (Many w [(w.heap.size, 24, #[.int .i64 c0, .int .i64 c1, .int .i64 c2, .int .i64 c3, .int .i64 c4, .int .i64 c5, .int .i64 c6, .int .i64 cap, .slice A l.length cc]), ((w.heap.size + 1), 28, #[.int .i64 u0, .int .i64 u1, .bool u2]), (gq, 28, #[.int .i64 u0, .int .i64 Y1, .bool b1]), (gr, 28, #[.int .i64 X2, .int .i64 Y2, .bool b2]), (gs, 28, #[.int .i64 u0, .int .i64 Y1, .bool b1]), (gt, 28, #[.int .i64 X2, .int .i64 Y2, .bool b2])] Wt) := ⟨HM0.out⟩
  clear HM0
  have k0 := Blk.cell (Many.blk HM.out 0 _ _ _ rfl) 0 _ rfl
  have k1 := Blk.cell (Many.blk HM.out 0 _ _ _ rfl) 1 _ rfl
  have k2 := Blk.cell (Many.blk HM.out 0 _ _ _ rfl) 2 _ rfl
  have k3 := Blk.cell (Many.blk HM.out 0 _ _ _ rfl) 3 _ rfl
  have k4 := Blk.cell (Many.blk HM.out 0 _ _ _ rfl) 4 _ rfl
  have k5 := Blk.cell (Many.blk HM.out 0 _ _ _ rfl) 5 _ rfl
  have k6 := Blk.cell (Many.blk HM.out 0 _ _ _ rfl) 6 _ rfl
  have k7 := Blk.cell (Many.blk HM.out 0 _ _ _ rfl) 7 _ rfl
  have k8 := Blk.cell (Many.blk HM.out 0 _ _ _ rfl) 8 _ rfl
  have p0 := Blk.cell (Many.blk HM.out 1 _ _ _ rfl) 0 _ rfl
  have p1 := Blk.cell (Many.blk HM.out 1 _ _ _ rfl) 1 _ rfl
  have p2 := Blk.cell (Many.blk HM.out 1 _ _ _ rfl) 2 _ rfl
  have q0 := Blk.cell (Many.blk HM.out 2 _ _ _ rfl) 0 _ rfl
  have q1 := Blk.cell (Many.blk HM.out 2 _ _ _ rfl) 1 _ rfl
  have q2 := Blk.cell (Many.blk HM.out 2 _ _ _ rfl) 2 _ rfl
  have r0 := Blk.cell (Many.blk HM.out 3 _ _ _ rfl) 0 _ rfl
  have r1 := Blk.cell (Many.blk HM.out 3 _ _ _ rfl) 1 _ rfl
  have r2 := Blk.cell (Many.blk HM.out 3 _ _ _ rfl) 2 _ rfl
  have s0 := Blk.cell (Many.blk HM.out 4 _ _ _ rfl) 0 _ rfl
  have s1 := Blk.cell (Many.blk HM.out 4 _ _ _ rfl) 1 _ rfl
  have s2 := Blk.cell (Many.blk HM.out 4 _ _ _ rfl) 2 _ rfl
  have t0 := Blk.cell (Many.blk HM.out 5 _ _ _ rfl) 0 _ rfl
  have t1 := Blk.cell (Many.blk HM.out 5 _ _ _ rfl) 1 _ rfl
  have t2 := Blk.cell (Many.blk HM.out 5 _ _ _ rfl) 2 _ rfl
  go_wp2_with (first
    | (go_at_call 12; ((with_reducible refine (waywardenlaw15_num.calls _ _ _ rfl).mono ?_); rintro e w9 ⟨rfl, hd⟩; have hb := hd.below; clear hd; have HM := Aside0.mk (Many.later HM.out hb); (try clear k0 k1 k2 k3 k4 k5 k6 k7 k8 p0 p1 p2 q0 q1 q2 r0 r1 r2 s0 s1 s2 t0 t1 t2); have k0 := Blk.cell (Many.blk HM.out 0 _ _ _ rfl) 0 _ rfl; have k1 := Blk.cell (Many.blk HM.out 0 _ _ _ rfl) 1 _ rfl; have k2 := Blk.cell (Many.blk HM.out 0 _ _ _ rfl) 2 _ rfl; have k3 := Blk.cell (Many.blk HM.out 0 _ _ _ rfl) 3 _ rfl; have k4 := Blk.cell (Many.blk HM.out 0 _ _ _ rfl) 4 _ rfl; have k5 := Blk.cell (Many.blk HM.out 0 _ _ _ rfl) 5 _ rfl; have k6 := Blk.cell (Many.blk HM.out 0 _ _ _ rfl) 6 _ rfl; have k7 := Blk.cell (Many.blk HM.out 0 _ _ _ rfl) 7 _ rfl; have k8 := Blk.cell (Many.blk HM.out 0 _ _ _ rfl) 8 _ rfl; have p0 := Blk.cell (Many.blk HM.out 1 _ _ _ rfl) 0 _ rfl; have p1 := Blk.cell (Many.blk HM.out 1 _ _ _ rfl) 1 _ rfl; have p2 := Blk.cell (Many.blk HM.out 1 _ _ _ rfl) 2 _ rfl; have q0 := Blk.cell (Many.blk HM.out 2 _ _ _ rfl) 0 _ rfl; have q1 := Blk.cell (Many.blk HM.out 2 _ _ _ rfl) 1 _ rfl; have q2 := Blk.cell (Many.blk HM.out 2 _ _ _ rfl) 2 _ rfl; have r0 := Blk.cell (Many.blk HM.out 3 _ _ _ rfl) 0 _ rfl; have r1 := Blk.cell (Many.blk HM.out 3 _ _ _ rfl) 1 _ rfl; have r2 := Blk.cell (Many.blk HM.out 3 _ _ _ rfl) 2 _ rfl; have s0 := Blk.cell (Many.blk HM.out 4 _ _ _ rfl) 0 _ rfl; have s1 := Blk.cell (Many.blk HM.out 4 _ _ _ rfl) 1 _ rfl; have s2 := Blk.cell (Many.blk HM.out 4 _ _ _ rfl) 2 _ rfl; have t0 := Blk.cell (Many.blk HM.out 5 _ _ _ rfl) 0 _ rfl; have t1 := Blk.cell (Many.blk HM.out 5 _ _ _ rfl) 1 _ rfl; have t2 := Blk.cell (Many.blk HM.out 5 _ _ _ rfl) 2 _ rfl; clear hb))
    | (go_at_call 9; go_loud ((with_reducible refine (works_any _).mono ?_); rintro e w9 ⟨rfl, hb⟩; have HM := Aside0.mk (Many.later HM.out hb); (try clear k0 k1 k2 k3 k4 k5 k6 k7 k8 p0 p1 p2 q0 q1 q2 r0 r1 r2 s0 s1 s2 t0 t1 t2); have k0 := Blk.cell (Many.blk HM.out 0 _ _ _ rfl) 0 _ rfl; have k1 := Blk.cell (Many.blk HM.out 0 _ _ _ rfl) 1 _ rfl; have k2 := Blk.cell (Many.blk HM.out 0 _ _ _ rfl) 2 _ rfl; have k3 := Blk.cell (Many.blk HM.out 0 _ _ _ rfl) 3 _ rfl; have k4 := Blk.cell (Many.blk HM.out 0 _ _ _ rfl) 4 _ rfl; have k5 := Blk.cell (Many.blk HM.out 0 _ _ _ rfl) 5 _ rfl; have k6 := Blk.cell (Many.blk HM.out 0 _ _ _ rfl) 6 _ rfl; have k7 := Blk.cell (Many.blk HM.out 0 _ _ _ rfl) 7 _ rfl; have k8 := Blk.cell (Many.blk HM.out 0 _ _ _ rfl) 8 _ rfl; have p0 := Blk.cell (Many.blk HM.out 1 _ _ _ rfl) 0 _ rfl; have p1 := Blk.cell (Many.blk HM.out 1 _ _ _ rfl) 1 _ rfl; have p2 := Blk.cell (Many.blk HM.out 1 _ _ _ rfl) 2 _ rfl; have q0 := Blk.cell (Many.blk HM.out 2 _ _ _ rfl) 0 _ rfl; have q1 := Blk.cell (Many.blk HM.out 2 _ _ _ rfl) 1 _ rfl; have q2 := Blk.cell (Many.blk HM.out 2 _ _ _ rfl) 2 _ rfl; have r0 := Blk.cell (Many.blk HM.out 3 _ _ _ rfl) 0 _ rfl; have r1 := Blk.cell (Many.blk HM.out 3 _ _ _ rfl) 1 _ rfl; have r2 := Blk.cell (Many.blk HM.out 3 _ _ _ rfl) 2 _ rfl; have s0 := Blk.cell (Many.blk HM.out 4 _ _ _ rfl) 0 _ rfl; have s1 := Blk.cell (Many.blk HM.out 4 _ _ _ rfl) 1 _ rfl; have s2 := Blk.cell (Many.blk HM.out 4 _ _ _ rfl) 2 _ rfl; have t0 := Blk.cell (Many.blk HM.out 5 _ _ _ rfl) 0 _ rfl; have t1 := Blk.cell (Many.blk HM.out 5 _ _ _ rfl) 1 _ rfl; have t2 := Blk.cell (Many.blk HM.out 5 _ _ _ rfl) 2 _ rfl; clear hb)))
  go_ret
  exact ⟨rfl, HM.out.bel⟩
end Go.Proofs.Ytokjjppfdmkjeaa.A

/- pulse: the laws PulseBegins, PulseBeats: every case. -/
set_option linter.unusedVariables false
set_option linter.unusedSimpArgs false
namespace Go.Proofs.Ytokjjppfdmkjeaa.A
open Go.RowKit Go.Proofs.YtokjjppfdmkjeaaW.PrintWords Go.Proofs.YtokjjppfdmkjeaaW.PrintLast Go.Proofs.YtokjjppfdmkjeaaW.PrintMore Go.Proofs.Ytokjjppfdmkjeaa.PPulseHolds

/-- when a tick tells something -/
def nextN (u0 u1 : Int) (u2 : Bool) : Int := if pulseOk u0 u1 = true then (if u2 = true then (if u1 < u0 then u1 else u0) else u0) else 0
theorem pulse_next_eq (u0 u1 : Int) (u2 : Bool) : pulse_Next.f 3 u0 u1 u2 = some (nextN u0 u1 u2) := by
  unfold pulse_Next.f nextN
  rw [pulse_right_eq, Option.bind_some]
  cases pulseOk u0 u1 <;> cases u2 <;> simp
  unfold mn
  repeat' split
  all_goals omega
theorem next_any (u0 u1 : Int) (u2 : Bool) (W : World) : Calls Try.prog 16 #[.agg #[.int .i64 u0, .int .i64 u1, .bool u2]] W fun e w' => e = .returned (.int .i64 (nextN u0 u1 u2)) ∧ Below W.heap.size W w' :=
  pulse_Next.calls 3 u0 u1 u2 _ W (pulse_next_eq u0 u1 u2)
theorem refnext_any (u0 u1 : Int) (u2 : Bool) (W : World) : Calls Try.prog 17 #[.agg #[.int .i64 u0, .int .i64 u1, .bool u2]] W fun e w' => e = .returned (.int .i64 (nextN u0 u1 u2)) ∧ Below W.heap.size W w' := by
  unfold nextN
  cases hp : pulseOk u0 u1 with
  | false =>
    rw [if_neg Bool.false_ne_true]
    exact refnext_no u0 u1 u2 W hp
  | true =>
    rw [if_pos rfl]
    cases u2 with
    | false =>
      rw [if_neg Bool.false_ne_true]
      exact refnext_3 u0 u1 false W hp rfl
    | true =>
      rw [if_pos rfl]
      by_cases h : u1 < u0
      · rw [if_pos h]
        exact refnext_1 u0 u1 true W hp rfl h
      · rw [if_neg h]
        exact refnext_2 u0 u1 true W hp rfl (by omega)
theorem refchange_any (c0 c1 c2 c3 c4 c5 c6 cap : Int) (A : Option Addr) (l : List Pfx) (cc : Nat) (u0 u1 : Int) (u2 : Bool) (now d : Int) (W : World) (hn : rightN c0 c1 c2 c3 c4 c5 c6 cap l = true) (h0 : 0 ≤ now) (h1 : now ≤ 4611686018427387904) :
    Calls Try.prog 18 #[.agg #[.int .i64 c0, .int .i64 c1, .int .i64 c2, .int .i64 c3, .int .i64 c4, .int .i64 c5, .int .i64 c6, .int .i64 cap, .slice A l.length cc], .agg #[.int .i64 u0, .int .i64 u1, .bool u2], .int .i64 now, .int .i64 d] W fun e w' => e = .returned (.tuple #[.agg #[.int .i64 u0, .int .i64 (chU1 u1 now (c5 + clampN d c6)), .bool (decide (now < u1))], .int .i64 (chK u1 now)]) ∧ Below W.heap.size W w' := by
  unfold chU1 chK
  by_cases h : now < u1
  · rw [if_pos h, if_pos h, decide_eq_true h]
    exact refchg_lt c0 c1 c2 c3 c4 c5 c6 cap A l cc u0 u1 u2 now d W h
  · rw [if_neg h, if_neg h, decide_eq_false h]
    exact refchg_ge c0 c1 c2 c3 c4 c5 c6 cap A l cc u0 u1 u2 now d W hn h0 h1 (by omega)
theorem reftick_any (c0 c1 c2 c3 c4 c5 c6 cap : Int) (A : Option Addr) (l : List Pfx) (cc : Nat) (u0 u1 : Int) (u2 : Bool) (now d : Int) (W : World) (hn : rightN c0 c1 c2 c3 c4 c5 c6 cap l = true) (h0 : 0 ≤ now) (h1 : now ≤ 4611686018427387904) :
    Calls Try.prog 19 #[.agg #[.int .i64 c0, .int .i64 c1, .int .i64 c2, .int .i64 c3, .int .i64 c4, .int .i64 c5, .int .i64 c6, .int .i64 cap, .slice A l.length cc], .agg #[.int .i64 u0, .int .i64 u1, .bool u2], .int .i64 now, .int .i64 d] W fun e w' => e = .returned (.tuple #[.agg #[.int .i64 (tkU0 u0 now (c0 + clampN d c1)), .int .i64 (tkU1 u0 u1 u2 now (c5 + clampN d c6)), .bool (tkU2 u0 u1 u2 now)], .int .i64 (tkK u0 u1 u2 now)]) ∧ Below W.heap.size W w' := by
  unfold tkU0 tkU1 tkU2 tkK
  by_cases h : u0 ≤ now
  · simp only [if_pos h]
    exact reftick_due c0 c1 c2 c3 c4 c5 c6 cap A l cc u0 u1 u2 now d W hn h0 h1 h
  · simp only [if_neg h]
    cases u2 with
    | false =>
      simp only [if_neg Bool.false_ne_true]
      exact reftick_idle1 c0 c1 c2 c3 c4 c5 c6 cap A l cc u0 u1 false now d W rfl (by omega)
    | true =>
      simp only [if_true]
      unfold chU1 chK
      by_cases h2 : now < u1
      · simp only [if_pos h2, decide_eq_true h2]
        exact reftick_idle2 c0 c1 c2 c3 c4 c5 c6 cap A l cc u0 u1 true now d W rfl (by omega) h2
      · simp only [if_neg h2, decide_eq_false h2]
        exact reftick_chg c0 c1 c2 c3 c4 c5 c6 cap A l cc u0 u1 now d W hn h0 h1 (by omega) (by omega)
theorem begins_walk (c0 c1 c2 c3 c4 c5 c6 cap : Int) (A : Option Addr) (l : List Pfx) (cc : Nat) (now : Int) (_ : (Lit.int .i64 now).wf = true) (d : Int) (_ : (Lit.int .i64 d).wf = true) {w : World} (hr : Kd.C k81 w A l.length l) (hc : l.length ≤ cc) (ha : AdrP l) : ∀ w1, w1 = w →
    Calls Try.prog 3 #[.agg #[.int .i64 c0, .int .i64 c1, .int .i64 c2, .int .i64 c3, .int .i64 c4, .int .i64 c5, .int .i64 c6, .int .i64 cap, .slice A l.length cc], .int .i64 now, .int .i64 d] w1 fun e w' => e = .returned (.bool true) ∧ Below w.heap.size w w' := by
  rintro _ rfl
  by_cases h : l.length ≤ 20
  · have hm : l.length ≤ 140737488355328 := by omega
    cases hn : rightN c0 c1 c2 c3 c4 c5 c6 cap l with
    | false => exact begins_bad c0 c1 c2 c3 c4 c5 c6 cap A l cc now d 2 _ hr hc ha hm h (by decide) (fun W hW => begin_no2 c0 c1 c2 c3 c4 c5 c6 cap A l cc now d W hW hc ha hm hn) (fun W hW => refasked_no1 c0 c1 c2 c3 c4 c5 c6 cap A l cc 0 0 false now W hW hc ha hm hn)
    | true =>
      by_cases h0 : 0 ≤ now
      · by_cases h1 : now ≤ 4611686018425387904
        · exact begins_good c0 c1 c2 c3 c4 c5 c6 cap A l cc now d _ _ hr hc ha hm h (fun W hW => begin_yes c0 c1 c2 c3 c4 c5 c6 cap A l cc now d W hW hc ha hm hn ⟨h0, h1⟩) (fun W hW => refasked_ok c0 c1 c2 c3 c4 c5 c6 cap A l cc 0 0 false now W hW hc ha hm hn pulseOk_zero h0 h1) (fun W => refbegin_any c0 c1 c2 c3 c4 c5 c6 cap A l cc now d W hn h0 (by omega))
        · exact begins_bad c0 c1 c2 c3 c4 c5 c6 cap A l cc now d 170 _ hr hc ha hm h (by decide) (fun W hW => begin_no3 c0 c1 c2 c3 c4 c5 c6 cap A l cc now d W hW hc ha hm hn (by omega)) (fun W hW => refasked_no4 c0 c1 c2 c3 c4 c5 c6 cap A l cc 0 0 false now W hW hc ha hm hn pulseOk_zero h0 (by omega))
      · exact begins_bad c0 c1 c2 c3 c4 c5 c6 cap A l cc now d 170 _ hr hc ha hm h (by decide) (fun W hW => begin_no3 c0 c1 c2 c3 c4 c5 c6 cap A l cc now d W hW hc ha hm hn (by omega)) (fun W hW => refasked_no3 c0 c1 c2 c3 c4 c5 c6 cap A l cc 0 0 false now W hW hc ha hm hn pulseOk_zero (by omega))
  · exact begins_far c0 c1 c2 c3 c4 c5 c6 cap A l cc now d _ hr hc ha (by omega)
theorem beats_walk (c0 c1 c2 c3 c4 c5 c6 cap : Int) (A : Option Addr) (l : List Pfx) (cc : Nat) (u0 u1 : Int) (u2 : Bool) (now : Int) (_ : (Lit.int .i64 now).wf = true) (d : Int) (_ : (Lit.int .i64 d).wf = true) {w : World} (hr : Kd.C k81 w A l.length l) (hc : l.length ≤ cc) (ha : AdrP l) : ∀ w1, w1 = w →
    Calls Try.prog 4 #[.agg #[.int .i64 c0, .int .i64 c1, .int .i64 c2, .int .i64 c3, .int .i64 c4, .int .i64 c5, .int .i64 c6, .int .i64 cap, .slice A l.length cc], .agg #[.int .i64 u0, .int .i64 u1, .bool u2], .int .i64 now, .int .i64 d] w1 fun e w' => e = .returned (.bool true) ∧ Below w.heap.size w w' := by
  rintro _ rfl
  by_cases h : l.length ≤ 20
  · have hm : l.length ≤ 140737488355328 := by omega
    cases hp : pulseOk u0 u1 with
    | false =>
      cases hn : rightN c0 c1 c2 c3 c4 c5 c6 cap l with
      | false => exact beats_bad c0 c1 c2 c3 c4 c5 c6 cap A l cc u0 u1 u2 now d 2 _ _ hr hc ha hm h (by decide) (fun W hW => change_no1 c0 c1 c2 c3 c4 c5 c6 cap A l cc u0 u1 u2 now d W hW hc ha hm hp) (fun W hW => tick_no1 c0 c1 c2 c3 c4 c5 c6 cap A l cc u0 u1 u2 now d W hW hc ha hm hp) (next_any u0 u1 u2) (refnext_any u0 u1 u2) (fun W hW => refasked_no1 c0 c1 c2 c3 c4 c5 c6 cap A l cc u0 u1 u2 now W hW hc ha hm hn)
      | true => exact beats_bad c0 c1 c2 c3 c4 c5 c6 cap A l cc u0 u1 u2 now d 2 _ _ hr hc ha hm h (by decide) (fun W hW => change_no1 c0 c1 c2 c3 c4 c5 c6 cap A l cc u0 u1 u2 now d W hW hc ha hm hp) (fun W hW => tick_no1 c0 c1 c2 c3 c4 c5 c6 cap A l cc u0 u1 u2 now d W hW hc ha hm hp) (next_any u0 u1 u2) (refnext_any u0 u1 u2) (fun W hW => refasked_no2 c0 c1 c2 c3 c4 c5 c6 cap A l cc u0 u1 u2 now W hW hc ha hm hn hp)
    | true =>
      cases hn : rightN c0 c1 c2 c3 c4 c5 c6 cap l with
      | false => exact beats_bad c0 c1 c2 c3 c4 c5 c6 cap A l cc u0 u1 u2 now d 2 _ _ hr hc ha hm h (by decide) (fun W hW => change_no2 c0 c1 c2 c3 c4 c5 c6 cap A l cc u0 u1 u2 now d W hW hc ha hm hp hn) (fun W hW => tick_no2 c0 c1 c2 c3 c4 c5 c6 cap A l cc u0 u1 u2 now d W hW hc ha hm hp hn) (next_any u0 u1 u2) (refnext_any u0 u1 u2) (fun W hW => refasked_no1 c0 c1 c2 c3 c4 c5 c6 cap A l cc u0 u1 u2 now W hW hc ha hm hn)
      | true =>
        by_cases h0 : 0 ≤ now
        · by_cases h1 : now ≤ 4611686018425387904
          · exact beats_good c0 c1 c2 c3 c4 c5 c6 cap A l cc u0 u1 u2 now d _ _ _ _ _ _ _ _ _ hr hc ha hm h (fun W hW => change_yes c0 c1 c2 c3 c4 c5 c6 cap A l cc u0 u1 u2 now d W hW hc ha hm hp hn ⟨h0, h1⟩) (fun W hW => tick_yes c0 c1 c2 c3 c4 c5 c6 cap A l cc u0 u1 u2 now d W hW hc ha hm hp hn ⟨h0, h1⟩) (next_any u0 u1 u2) (refnext_any u0 u1 u2) (fun W hW => refasked_ok c0 c1 c2 c3 c4 c5 c6 cap A l cc u0 u1 u2 now W hW hc ha hm hn hp h0 h1) (fun W => refchange_any c0 c1 c2 c3 c4 c5 c6 cap A l cc u0 u1 u2 now d W hn h0 (by omega)) (fun W => reftick_any c0 c1 c2 c3 c4 c5 c6 cap A l cc u0 u1 u2 now d W hn h0 (by omega))
          · exact beats_bad c0 c1 c2 c3 c4 c5 c6 cap A l cc u0 u1 u2 now d 170 _ _ hr hc ha hm h (by decide) (fun W hW => change_no3 c0 c1 c2 c3 c4 c5 c6 cap A l cc u0 u1 u2 now d W hW hc ha hm hp hn (by omega)) (fun W hW => tick_no3 c0 c1 c2 c3 c4 c5 c6 cap A l cc u0 u1 u2 now d W hW hc ha hm hp hn (by omega)) (next_any u0 u1 u2) (refnext_any u0 u1 u2) (fun W hW => refasked_no4 c0 c1 c2 c3 c4 c5 c6 cap A l cc u0 u1 u2 now W hW hc ha hm hn hp h0 (by omega))
        · exact beats_bad c0 c1 c2 c3 c4 c5 c6 cap A l cc u0 u1 u2 now d 170 _ _ hr hc ha hm h (by decide) (fun W hW => change_no3 c0 c1 c2 c3 c4 c5 c6 cap A l cc u0 u1 u2 now d W hW hc ha hm hp hn (by omega)) (fun W hW => tick_no3 c0 c1 c2 c3 c4 c5 c6 cap A l cc u0 u1 u2 now d W hW hc ha hm hp hn (by omega)) (next_any u0 u1 u2) (refnext_any u0 u1 u2) (fun W hW => refasked_no3 c0 c1 c2 c3 c4 c5 c6 cap A l cc u0 u1 u2 now W hW hc ha hm hn hp (by omega))
  · exact beats_far c0 c1 c2 c3 c4 c5 c6 cap A l cc u0 u1 u2 now d _ hr hc ha (by omega)
end Go.Proofs.Ytokjjppfdmkjeaa.A
