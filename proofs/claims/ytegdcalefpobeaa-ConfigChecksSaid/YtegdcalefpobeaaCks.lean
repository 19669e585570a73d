/- config: the walk of the law ConfigChecks. -/
import Derived.Test.YtegdcalefpobeaaWrk
import Derived.Test.YtegdcalefpobeaaArgZ
import Derived.Test.YtegdcalefpobeaaRst
set_option linter.unusedVariables false
set_option linter.unusedSimpArgs false
namespace Go.Proofs.Ytegdcalefpobeaa.A
open Go.RowKit Go.Shelf Go.Proofs.YtegdcalefpobeaaW.PrintWords Go.Proofs.YtegdcalefpobeaaW.PrintLast Go.Proofs.YtegdcalefpobeaaW.PrintMore Go.Proofs.Ytegdcalefpobeaa.PConfigChecks
attribute [local go_sem] max2_int min2_int max_two min_two
set_option maxRecDepth 100000 in
set_option maxHeartbeats 16000000 in
theorem cks_far (c0 c1 c2 c3 c4 c5 c6 cap : Int) (A : Option Addr) (l : List Pfx) (cc : Nat) (p0 p1 : Int) (w : World) (hr : Kd.C k28 w A l.length l) (hc : l.length ≤ cc) (ha : AdrP l) (hfar : 30 < l.length) :
    Calls Try.prog 3 #[.agg #[.int .i64 c0, .int .i64 c1, .int .i64 c2, .int .i64 c3, .int .i64 c4, .int .i64 c5, .int .i64 c6, .int .i64 cap, .slice A l.length cc], .agg #[.int .u32 p0, .int .i64 p1]] w fun e w' => e = .returned (.bool true) ∧ Below w.heap.size w w' := by
  have HR := Aside0.mk hr
  have HA := Aside0.mk ha
  clear hr ha
  have HF : Aside0 (waywardenlaw08_few.f c0 c1 c2 c3 c4 c5 c6 cap l = some false) := ⟨by unfold waywardenlaw08_few.f; congr 1; apply decide_eq_false; omega⟩
  have HM : Aside0 (Many w [(w.heap.size, 24, #[.int .i64 c0, .int .i64 c1, .int .i64 c2, .int .i64 c3, .int .i64 c4, .int .i64 c5, .int .i64 c6, .int .i64 cap, .slice A l.length cc]), ((w.heap.size + 1), 28, #[.int .u32 p0, .int .i64 p1])] ((w.alloc (.cells #[.int .i64 c0, .int .i64 c1, .int .i64 c2, .int .i64 c3, .int .i64 c4, .int .i64 c5, .int .i64 c6, .int .i64 cap, .slice A l.length cc] 24)).alloc (.cells #[.int .u32 p0, .int .i64 p1] 28))) := ⟨by have h := Many.grow (Many.grow (Many.none w) 24 #[.int .i64 c0, .int .i64 c1, .int .i64 c2, .int .i64 c3, .int .i64 c4, .int .i64 c5, .int .i64 c6, .int .i64 cap, .slice A l.length cc]) 28 #[.int .u32 p0, .int .i64 p1]; simpa using h⟩
  have k0 := Blk.cell (Many.blk HM.out 0 _ _ _ rfl) 0 _ rfl
  have k1 := Blk.cell (Many.blk HM.out 0 _ _ _ rfl) 1 _ rfl
  have k2 := Blk.cell (Many.blk HM.out 0 _ _ _ rfl) 2 _ rfl
  have k3 := Blk.cell (Many.blk HM.out 0 _ _ _ rfl) 3 _ rfl
  have k4 := Blk.cell (Many.blk HM.out 0 _ _ _ rfl) 4 _ rfl
  have k5 := Blk.cell (Many.blk HM.out 0 _ _ _ rfl) 5 _ rfl
  have k6 := Blk.cell (Many.blk HM.out 0 _ _ _ rfl) 6 _ rfl
  have k7 := Blk.cell (Many.blk HM.out 0 _ _ _ rfl) 7 _ rfl
  have k8 := Blk.cell (Many.blk HM.out 0 _ _ _ rfl) 8 _ rfl
  have pp0 := Blk.cell (Many.blk HM.out 1 _ _ _ rfl) 0 _ rfl
  have pp1 := Blk.cell (Many.blk HM.out 1 _ _ _ rfl) 1 _ rfl
  go_enter Try.func3, Try.ntmps3
  go_wp2_with (first
    | (go_at_call 8; ((with_reducible refine (waywardenlaw08_few.calls c0 c1 c2 c3 c4 c5 c6 cap A cc l false _ (Kd.C_below HR.out HM.out.bel) hc HF.out).mono ?_); rintro e w9 ⟨rfl, hb⟩; have HM := Aside0.mk (Many.later HM.out hb); (try clear k0 k1 k2 k3 k4 k5 k6 k7 k8 pp0 pp1); have k0 := Blk.cell (Many.blk HM.out 0 _ _ _ rfl) 0 _ rfl; have k1 := Blk.cell (Many.blk HM.out 0 _ _ _ rfl) 1 _ rfl; have k2 := Blk.cell (Many.blk HM.out 0 _ _ _ rfl) 2 _ rfl; have k3 := Blk.cell (Many.blk HM.out 0 _ _ _ rfl) 3 _ rfl; have k4 := Blk.cell (Many.blk HM.out 0 _ _ _ rfl) 4 _ rfl; have k5 := Blk.cell (Many.blk HM.out 0 _ _ _ rfl) 5 _ rfl; have k6 := Blk.cell (Many.blk HM.out 0 _ _ _ rfl) 6 _ rfl; have k7 := Blk.cell (Many.blk HM.out 0 _ _ _ rfl) 7 _ rfl; have k8 := Blk.cell (Many.blk HM.out 0 _ _ _ rfl) 8 _ rfl; have pp0 := Blk.cell (Many.blk HM.out 1 _ _ _ rfl) 0 _ rfl; have pp1 := Blk.cell (Many.blk HM.out 1 _ _ _ rfl) 1 _ rfl; clear hb))
    | (go_at_call 9; ((with_reducible refine (works_any _).mono ?_); rintro e w9 ⟨rfl, hb⟩; have HM := Aside0.mk (Many.later HM.out hb); (try clear k0 k1 k2 k3 k4 k5 k6 k7 k8 pp0 pp1); have k0 := Blk.cell (Many.blk HM.out 0 _ _ _ rfl) 0 _ rfl; have k1 := Blk.cell (Many.blk HM.out 0 _ _ _ rfl) 1 _ rfl; have k2 := Blk.cell (Many.blk HM.out 0 _ _ _ rfl) 2 _ rfl; have k3 := Blk.cell (Many.blk HM.out 0 _ _ _ rfl) 3 _ rfl; have k4 := Blk.cell (Many.blk HM.out 0 _ _ _ rfl) 4 _ rfl; have k5 := Blk.cell (Many.blk HM.out 0 _ _ _ rfl) 5 _ rfl; have k6 := Blk.cell (Many.blk HM.out 0 _ _ _ rfl) 6 _ rfl; have k7 := Blk.cell (Many.blk HM.out 0 _ _ _ rfl) 7 _ rfl; have k8 := Blk.cell (Many.blk HM.out 0 _ _ _ rfl) 8 _ rfl; have pp0 := Blk.cell (Many.blk HM.out 1 _ _ _ rfl) 0 _ rfl; have pp1 := Blk.cell (Many.blk HM.out 1 _ _ _ rfl) 1 _ rfl; clear hb)))
  go_ret
  exact ⟨rfl, HM.out.bel⟩
attribute [local go_sem] beq_self_eq_true in
set_option maxRecDepth 100000 in
set_option maxHeartbeats 16000000 in
theorem cks_right (c0 c1 c2 c3 c4 c5 c6 cap : Int) (A : Option Addr) (l : List Pfx) (cc : Nat) (p0 p1 : Int) (x0 x1 x2 x3 x4 x5 x6 x7 : Int) (b : Bool) (Ps : Option Addr → Nat → Nat → World → Prop) (w : World) (hr : Kd.C k28 w A l.length l) (hc : l.length ≤ cc) (ha : AdrP l) (hm : l.length ≤ 140737488355328) (hfew : l.length ≤ 30) (hPS : ∀ B n d W W', Ps B n d W → Below W.heap.size W W' → Ps B n d W')
    (hCK : ∀ W : World, Kd.C k28 W A l.length l → Calls Try.prog 11 #[.agg #[.int .i64 c0, .int .i64 c1, .int .i64 c2, .int .i64 c3, .int .i64 c4, .int .i64 c5, .int .i64 c6, .int .i64 cap, .slice A l.length cc]] W fun e w' => e = .returned (.int .i64 0) ∧ Below W.heap.size W w') (hRR : ∀ W : World, Kd.C k28 W A l.length l → Calls Try.prog 14 #[.agg #[.int .i64 c0, .int .i64 c1, .int .i64 c2, .int .i64 c3, .int .i64 c4, .int .i64 c5, .int .i64 c6, .int .i64 cap, .slice A l.length cc]] W fun e w' => e = .returned (.bool true) ∧ Below W.heap.size W w') (hST : ∀ W : World, Kd.C k28 W A l.length l → Calls Try.prog 12 #[.slice A l.length cc] W fun e w' => (∃ B n d, e = .returned (.tuple #[.agg #[.int .i64 x0, .int .i64 x1, .int .i64 x2, .int .i64 x3, .int .i64 x4, .int .i64 x5, .int .i64 x6, .int .i64 x7, .slice B n d], .int .i64 0]) ∧ Ps B n d w') ∧ Below W.heap.size W w') (hRS : ∀ W : World, Kd.C k28 W A l.length l → Calls Try.prog 13 #[.slice A l.length cc] W fun e w' => (∃ B n d, e = .returned (.tuple #[.agg #[.int .i64 x0, .int .i64 x1, .int .i64 x2, .int .i64 x3, .int .i64 x4, .int .i64 x5, .int .i64 x6, .int .i64 x7, .slice B n d], .int .i64 0]) ∧ Ps B n d w') ∧ Below W.heap.size W w') (hOW : ∀ W : World, Kd.C k28 W A l.length l → Calls Try.prog 15 #[.agg #[.int .i64 c0, .int .i64 c1, .int .i64 c2, .int .i64 c3, .int .i64 c4, .int .i64 c5, .int .i64 c6, .int .i64 cap, .slice A l.length cc], .agg #[.int .u32 p0, .int .i64 p1]] W fun e w' => e = .returned (.bool b) ∧ Below W.heap.size W w') (hRO : ∀ W : World, Kd.C k28 W A l.length l → Calls Try.prog 16 #[.agg #[.int .i64 c0, .int .i64 c1, .int .i64 c2, .int .i64 c3, .int .i64 c4, .int .i64 c5, .int .i64 c6, .int .i64 cap, .slice A l.length cc], .agg #[.int .u32 p0, .int .i64 p1]] W fun e w' => e = .returned (.bool b) ∧ Below W.heap.size W w')
    (hSM : ∀ (B : Option Addr) (n d : Nat) (B2 : Option Addr) (n2 d2 : Nat) (W : World), Ps B n d W → Ps B2 n2 d2 W → Calls Try.prog 17 #[.agg #[.int .i64 x0, .int .i64 x1, .int .i64 x2, .int .i64 x3, .int .i64 x4, .int .i64 x5, .int .i64 x6, .int .i64 x7, .slice B n d], .agg #[.int .i64 x0, .int .i64 x1, .int .i64 x2, .int .i64 x3, .int .i64 x4, .int .i64 x5, .int .i64 x6, .int .i64 x7, .slice B2 n2 d2]] W fun e w' => e = .returned (.bool true) ∧ Below W.heap.size W w') :
    Calls Try.prog 3 #[.agg #[.int .i64 c0, .int .i64 c1, .int .i64 c2, .int .i64 c3, .int .i64 c4, .int .i64 c5, .int .i64 c6, .int .i64 cap, .slice A l.length cc], .agg #[.int .u32 p0, .int .i64 p1]] w fun e w' => e = .returned (.bool true) ∧ Below w.heap.size w w' := by
  have HR := Aside0.mk hr
  have HA := Aside0.mk ha
  clear hr ha
  have HF : Aside0 (waywardenlaw08_few.f c0 c1 c2 c3 c4 c5 c6 cap l = some true) := ⟨by unfold waywardenlaw08_few.f; congr 1; apply decide_eq_true; omega⟩
  have HhCK := Aside0.mk hCK
  have HhRR := Aside0.mk hRR
  have HhST := Aside0.mk hST
  have HhRS := Aside0.mk hRS
  have HhOW := Aside0.mk hOW
  have HhRO := Aside0.mk hRO
  have HhSM := Aside0.mk hSM
  have HhPS := Aside0.mk hPS
  clear hCK hRR hST hRS hOW hRO hSM hPS
  have HM : Aside0 (Many w [(w.heap.size, 24, #[.int .i64 c0, .int .i64 c1, .int .i64 c2, .int .i64 c3, .int .i64 c4, .int .i64 c5, .int .i64 c6, .int .i64 cap, .slice A l.length cc]), ((w.heap.size + 1), 28, #[.int .u32 p0, .int .i64 p1])] ((w.alloc (.cells #[.int .i64 c0, .int .i64 c1, .int .i64 c2, .int .i64 c3, .int .i64 c4, .int .i64 c5, .int .i64 c6, .int .i64 cap, .slice A l.length cc] 24)).alloc (.cells #[.int .u32 p0, .int .i64 p1] 28))) := ⟨by have h := Many.grow (Many.grow (Many.none w) 24 #[.int .i64 c0, .int .i64 c1, .int .i64 c2, .int .i64 c3, .int .i64 c4, .int .i64 c5, .int .i64 c6, .int .i64 cap, .slice A l.length cc]) 28 #[.int .u32 p0, .int .i64 p1]; simpa using h⟩
  have k0 := Blk.cell (Many.blk HM.out 0 _ _ _ rfl) 0 _ rfl
  have k1 := Blk.cell (Many.blk HM.out 0 _ _ _ rfl) 1 _ rfl
  have k2 := Blk.cell (Many.blk HM.out 0 _ _ _ rfl) 2 _ rfl
  have k3 := Blk.cell (Many.blk HM.out 0 _ _ _ rfl) 3 _ rfl
  have k4 := Blk.cell (Many.blk HM.out 0 _ _ _ rfl) 4 _ rfl
  have k5 := Blk.cell (Many.blk HM.out 0 _ _ _ rfl) 5 _ rfl
  have k6 := Blk.cell (Many.blk HM.out 0 _ _ _ rfl) 6 _ rfl
  have k7 := Blk.cell (Many.blk HM.out 0 _ _ _ rfl) 7 _ rfl
  have k8 := Blk.cell (Many.blk HM.out 0 _ _ _ rfl) 8 _ rfl
  have pp0 := Blk.cell (Many.blk HM.out 1 _ _ _ rfl) 0 _ rfl
  have pp1 := Blk.cell (Many.blk HM.out 1 _ _ _ rfl) 1 _ rfl
  go_enter Try.func3, Try.ntmps3
  go_upto_region 5 with (first
    | (go_at_call 8; ((with_reducible refine (waywardenlaw08_few.calls c0 c1 c2 c3 c4 c5 c6 cap A cc l true _ (Kd.C_below HR.out HM.out.bel) hc HF.out).mono ?_); rintro e w9 ⟨rfl, hb⟩; have HM := Aside0.mk (Many.later HM.out hb); (try clear k0 k1 k2 k3 k4 k5 k6 k7 k8 pp0 pp1); have k0 := Blk.cell (Many.blk HM.out 0 _ _ _ rfl) 0 _ rfl; have k1 := Blk.cell (Many.blk HM.out 0 _ _ _ rfl) 1 _ rfl; have k2 := Blk.cell (Many.blk HM.out 0 _ _ _ rfl) 2 _ rfl; have k3 := Blk.cell (Many.blk HM.out 0 _ _ _ rfl) 3 _ rfl; have k4 := Blk.cell (Many.blk HM.out 0 _ _ _ rfl) 4 _ rfl; have k5 := Blk.cell (Many.blk HM.out 0 _ _ _ rfl) 5 _ rfl; have k6 := Blk.cell (Many.blk HM.out 0 _ _ _ rfl) 6 _ rfl; have k7 := Blk.cell (Many.blk HM.out 0 _ _ _ rfl) 7 _ rfl; have k8 := Blk.cell (Many.blk HM.out 0 _ _ _ rfl) 8 _ rfl; have pp0 := Blk.cell (Many.blk HM.out 1 _ _ _ rfl) 0 _ rfl; have pp1 := Blk.cell (Many.blk HM.out 1 _ _ _ rfl) 1 _ rfl; clear hb))
    | (go_at_call 10; ((with_reducible refine (waywardenlaw08_num.calls _ _ _ rfl).mono ?_); rintro e w9 ⟨rfl, hd⟩; have hb := hd.below; clear hd; have HM := Aside0.mk (Many.later HM.out hb); (try clear k0 k1 k2 k3 k4 k5 k6 k7 k8 pp0 pp1); have k0 := Blk.cell (Many.blk HM.out 0 _ _ _ rfl) 0 _ rfl; have k1 := Blk.cell (Many.blk HM.out 0 _ _ _ rfl) 1 _ rfl; have k2 := Blk.cell (Many.blk HM.out 0 _ _ _ rfl) 2 _ rfl; have k3 := Blk.cell (Many.blk HM.out 0 _ _ _ rfl) 3 _ rfl; have k4 := Blk.cell (Many.blk HM.out 0 _ _ _ rfl) 4 _ rfl; have k5 := Blk.cell (Many.blk HM.out 0 _ _ _ rfl) 5 _ rfl; have k6 := Blk.cell (Many.blk HM.out 0 _ _ _ rfl) 6 _ rfl; have k7 := Blk.cell (Many.blk HM.out 0 _ _ _ rfl) 7 _ rfl; have k8 := Blk.cell (Many.blk HM.out 0 _ _ _ rfl) 8 _ rfl; have pp0 := Blk.cell (Many.blk HM.out 1 _ _ _ rfl) 0 _ rfl; have pp1 := Blk.cell (Many.blk HM.out 1 _ _ _ rfl) 1 _ rfl; clear hb))
    | (go_at_call 11; ((with_reducible refine (HhCK.out _ (Kd.C_below HR.out HM.out.bel)).mono ?_); rintro e w9 ⟨rfl, hb⟩; have HM := Aside0.mk (Many.later HM.out hb); (try clear k0 k1 k2 k3 k4 k5 k6 k7 k8 pp0 pp1); have k0 := Blk.cell (Many.blk HM.out 0 _ _ _ rfl) 0 _ rfl; have k1 := Blk.cell (Many.blk HM.out 0 _ _ _ rfl) 1 _ rfl; have k2 := Blk.cell (Many.blk HM.out 0 _ _ _ rfl) 2 _ rfl; have k3 := Blk.cell (Many.blk HM.out 0 _ _ _ rfl) 3 _ rfl; have k4 := Blk.cell (Many.blk HM.out 0 _ _ _ rfl) 4 _ rfl; have k5 := Blk.cell (Many.blk HM.out 0 _ _ _ rfl) 5 _ rfl; have k6 := Blk.cell (Many.blk HM.out 0 _ _ _ rfl) 6 _ rfl; have k7 := Blk.cell (Many.blk HM.out 0 _ _ _ rfl) 7 _ rfl; have k8 := Blk.cell (Many.blk HM.out 0 _ _ _ rfl) 8 _ rfl; have pp0 := Blk.cell (Many.blk HM.out 1 _ _ _ rfl) 0 _ rfl; have pp1 := Blk.cell (Many.blk HM.out 1 _ _ _ rfl) 1 _ rfl; clear hb))
    | (go_at_call 12; ((with_reducible refine (HhST.out _ (Kd.C_below HR.out HM.out.bel)).mono ?_); rintro e w9 ⟨⟨B, n, d, rfl, hp⟩, hb⟩; have HP1 := Aside0.mk (HhPS.out _ _ _ _ _ hp (below_alloc (Below.refl _ _) (.cells #[.int .i64 x0, .int .i64 x1, .int .i64 x2, .int .i64 x3, .int .i64 x4, .int .i64 x5, .int .i64 x6, .int .i64 x7, .slice B n d] 24))); clear hp; have HM := Aside0.mk (Many.later HM.out hb); (try clear k0 k1 k2 k3 k4 k5 k6 k7 k8 pp0 pp1); have k0 := Blk.cell (Many.blk HM.out 0 _ _ _ rfl) 0 _ rfl; have k1 := Blk.cell (Many.blk HM.out 0 _ _ _ rfl) 1 _ rfl; have k2 := Blk.cell (Many.blk HM.out 0 _ _ _ rfl) 2 _ rfl; have k3 := Blk.cell (Many.blk HM.out 0 _ _ _ rfl) 3 _ rfl; have k4 := Blk.cell (Many.blk HM.out 0 _ _ _ rfl) 4 _ rfl; have k5 := Blk.cell (Many.blk HM.out 0 _ _ _ rfl) 5 _ rfl; have k6 := Blk.cell (Many.blk HM.out 0 _ _ _ rfl) 6 _ rfl; have k7 := Blk.cell (Many.blk HM.out 0 _ _ _ rfl) 7 _ rfl; have k8 := Blk.cell (Many.blk HM.out 0 _ _ _ rfl) 8 _ rfl; have pp0 := Blk.cell (Many.blk HM.out 1 _ _ _ rfl) 0 _ rfl; have pp1 := Blk.cell (Many.blk HM.out 1 _ _ _ rfl) 1 _ rfl; clear hb)))
  have HM0 := Aside0.mk (Many.grow HM.out 24 #[.int .i64 x0, .int .i64 x1, .int .i64 x2, .int .i64 x3, .int .i64 x4, .int .i64 x5, .int .i64 x6, .int .i64 x7, .slice B n d])
  obtain ⟨gs, hgs⟩ : ∃ g, w9.heap.size = g := ⟨_, rfl⟩
  obtain ⟨Ws, hWs⟩ : ∃ W', w9.alloc (.cells #[.int .i64 x0, .int .i64 x1, .int .i64 x2, .int .i64 x3, .int .i64 x4, .int .i64 x5, .int .i64 x6, .int .i64 x7, .slice B n d] 24) = W' := ⟨_, rfl⟩
  have hns : ∀ p v, w9.cell? p = some v → p.block < gs := fun p v h => by rw [← hgs]; exact World.block_lt_of_cell? w9 p h
  rw [hWs, hgs] at HM0
  rw [hWs] at HP1
  rw [hWs, hgs]
  have lts_k := hns _ _ (Blk.cell (Many.blk HM.out 0 _ _ _ rfl) 0 _ rfl)
  have lts_pp := hns _ _ (Blk.cell (Many.blk HM.out 1 _ _ _ rfl) 0 _ rfl)
  clear hns hgs hWs k0 k1 k2 k3 k4 k5 k6 k7 k8 pp0 pp1 HM
  have HM : Aside0 (Many w [(w.heap.size, 24, #[.int .i64 c0, .int .i64 c1, .int .i64 c2, .int .i64 c3, .int .i64 c4, .int .i64 c5, .int .i64 c6, .int .i64 cap, .slice A l.length cc]), ((w.heap.size + 1), 28, #[.int .u32 p0, .int .i64 p1]), (gs, 24, #[.int .i64 x0, .int .i64 x1, .int .i64 x2, .int .i64 x3, .int .i64 x4, .int .i64 x5, .int .i64 x6, .int .i64 x7, .slice B n d])] Ws) := ⟨HM0.out⟩
  clear HM0
  have k0 := Blk.cell (Many.blk HM.out 0 _ _ _ rfl) 0 _ rfl
  have k1 := Blk.cell (Many.blk HM.out 0 _ _ _ rfl) 1 _ rfl
  have k2 := Blk.cell (Many.blk HM.out 0 _ _ _ rfl) 2 _ rfl
  have k3 := Blk.cell (Many.blk HM.out 0 _ _ _ rfl) 3 _ rfl
  have k4 := Blk.cell (Many.blk HM.out 0 _ _ _ rfl) 4 _ rfl
  have k5 := Blk.cell (Many.blk HM.out 0 _ _ _ rfl) 5 _ rfl
  have k6 := Blk.cell (Many.blk HM.out 0 _ _ _ rfl) 6 _ rfl
  have k7 := Blk.cell (Many.blk HM.out 0 _ _ _ rfl) 7 _ rfl
  have k8 := Blk.cell (Many.blk HM.out 0 _ _ _ rfl) 8 _ rfl
  have pp0 := Blk.cell (Many.blk HM.out 1 _ _ _ rfl) 0 _ rfl
  have pp1 := Blk.cell (Many.blk HM.out 1 _ _ _ rfl) 1 _ rfl
  have s0 := Blk.cell (Many.blk HM.out 2 _ _ _ rfl) 0 _ rfl
  have s1 := Blk.cell (Many.blk HM.out 2 _ _ _ rfl) 1 _ rfl
  have s2 := Blk.cell (Many.blk HM.out 2 _ _ _ rfl) 2 _ rfl
  have s3 := Blk.cell (Many.blk HM.out 2 _ _ _ rfl) 3 _ rfl
  have s4 := Blk.cell (Many.blk HM.out 2 _ _ _ rfl) 4 _ rfl
  have s5 := Blk.cell (Many.blk HM.out 2 _ _ _ rfl) 5 _ rfl
  have s6 := Blk.cell (Many.blk HM.out 2 _ _ _ rfl) 6 _ rfl
  have s7 := Blk.cell (Many.blk HM.out 2 _ _ _ rfl) 7 _ rfl
  have s8 := Blk.cell (Many.blk HM.out 2 _ _ _ rfl) 8 _ rfl
  go_upto_region 6 with (go_at_call 13; ((with_reducible refine (HhRS.out _ (Kd.C_below HR.out HM.out.bel)).mono ?_); rintro e w9 ⟨⟨B2, n2, d2, rfl, hp⟩, hb⟩; have HP1 := Aside0.mk (HhPS.out _ _ _ _ _ HP1.out hb); have HP1 := Aside0.mk (HhPS.out _ _ _ _ _ HP1.out (below_alloc (Below.refl _ _) (.cells #[.int .i64 x0, .int .i64 x1, .int .i64 x2, .int .i64 x3, .int .i64 x4, .int .i64 x5, .int .i64 x6, .int .i64 x7, .slice B2 n2 d2] 24))); have HP2 := Aside0.mk (HhPS.out _ _ _ _ _ hp (below_alloc (Below.refl _ _) (.cells #[.int .i64 x0, .int .i64 x1, .int .i64 x2, .int .i64 x3, .int .i64 x4, .int .i64 x5, .int .i64 x6, .int .i64 x7, .slice B2 n2 d2] 24))); clear hp; have HM := Aside0.mk (Many.later HM.out hb); (try clear k0 k1 k2 k3 k4 k5 k6 k7 k8 pp0 pp1 s0 s1 s2 s3 s4 s5 s6 s7 s8); have k0 := Blk.cell (Many.blk HM.out 0 _ _ _ rfl) 0 _ rfl; have k1 := Blk.cell (Many.blk HM.out 0 _ _ _ rfl) 1 _ rfl; have k2 := Blk.cell (Many.blk HM.out 0 _ _ _ rfl) 2 _ rfl; have k3 := Blk.cell (Many.blk HM.out 0 _ _ _ rfl) 3 _ rfl; have k4 := Blk.cell (Many.blk HM.out 0 _ _ _ rfl) 4 _ rfl; have k5 := Blk.cell (Many.blk HM.out 0 _ _ _ rfl) 5 _ rfl; have k6 := Blk.cell (Many.blk HM.out 0 _ _ _ rfl) 6 _ rfl; have k7 := Blk.cell (Many.blk HM.out 0 _ _ _ rfl) 7 _ rfl; have k8 := Blk.cell (Many.blk HM.out 0 _ _ _ rfl) 8 _ rfl; have pp0 := Blk.cell (Many.blk HM.out 1 _ _ _ rfl) 0 _ rfl; have pp1 := Blk.cell (Many.blk HM.out 1 _ _ _ rfl) 1 _ rfl; have s0 := Blk.cell (Many.blk HM.out 2 _ _ _ rfl) 0 _ rfl; have s1 := Blk.cell (Many.blk HM.out 2 _ _ _ rfl) 1 _ rfl; have s2 := Blk.cell (Many.blk HM.out 2 _ _ _ rfl) 2 _ rfl; have s3 := Blk.cell (Many.blk HM.out 2 _ _ _ rfl) 3 _ rfl; have s4 := Blk.cell (Many.blk HM.out 2 _ _ _ rfl) 4 _ rfl; have s5 := Blk.cell (Many.blk HM.out 2 _ _ _ rfl) 5 _ rfl; have s6 := Blk.cell (Many.blk HM.out 2 _ _ _ rfl) 6 _ rfl; have s7 := Blk.cell (Many.blk HM.out 2 _ _ _ rfl) 7 _ rfl; have s8 := Blk.cell (Many.blk HM.out 2 _ _ _ rfl) 8 _ rfl; clear hb))
  have HM0 := Aside0.mk (Many.grow HM.out 24 #[.int .i64 x0, .int .i64 x1, .int .i64 x2, .int .i64 x3, .int .i64 x4, .int .i64 x5, .int .i64 x6, .int .i64 x7, .slice B2 n2 d2])
  obtain ⟨gt, hgt⟩ : ∃ g, w9.heap.size = g := ⟨_, rfl⟩
  obtain ⟨Wt, hWt⟩ : ∃ W', w9.alloc (.cells #[.int .i64 x0, .int .i64 x1, .int .i64 x2, .int .i64 x3, .int .i64 x4, .int .i64 x5, .int .i64 x6, .int .i64 x7, .slice B2 n2 d2] 24) = W' := ⟨_, rfl⟩
  have hnt : ∀ p v, w9.cell? p = some v → p.block < gt := fun p v h => by rw [← hgt]; exact World.block_lt_of_cell? w9 p h
  rw [hWt, hgt] at HM0
  rw [hWt] at HP1
  rw [hWt] at HP2
  rw [hWt, hgt]
  have ltt_k := hnt _ _ (Blk.cell (Many.blk HM.out 0 _ _ _ rfl) 0 _ rfl)
  have ltt_pp := hnt _ _ (Blk.cell (Many.blk HM.out 1 _ _ _ rfl) 0 _ rfl)
  have ltt_s := hnt _ _ (Blk.cell (Many.blk HM.out 2 _ _ _ rfl) 0 _ rfl)
  clear hnt hgt hWt k0 k1 k2 k3 k4 k5 k6 k7 k8 pp0 pp1 s0 s1 s2 s3 s4 s5 s6 s7 s8 HM
  have HM : Aside0 (Many w [(w.heap.size, 24, #[.int .i64 c0, .int .i64 c1, .int .i64 c2, .int .i64 c3, .int .i64 c4, .int .i64 c5, .int .i64 c6, .int .i64 cap, .slice A l.length cc]), ((w.heap.size + 1), 28, #[.int .u32 p0, .int .i64 p1]), (gs, 24, #[.int .i64 x0, .int .i64 x1, .int .i64 x2, .int .i64 x3, .int .i64 x4, .int .i64 x5, .int .i64 x6, .int .i64 x7, .slice B n d]), (gt, 24, #[.int .i64 x0, .int .i64 x1, .int .i64 x2, .int .i64 x3, .int .i64 x4, .int .i64 x5, .int .i64 x6, .int .i64 x7, .slice B2 n2 d2])] Wt) := ⟨HM0.out⟩
  clear HM0
  have k0 := Blk.cell (Many.blk HM.out 0 _ _ _ rfl) 0 _ rfl
  have k1 := Blk.cell (Many.blk HM.out 0 _ _ _ rfl) 1 _ rfl
  have k2 := Blk.cell (Many.blk HM.out 0 _ _ _ rfl) 2 _ rfl
  have k3 := Blk.cell (Many.blk HM.out 0 _ _ _ rfl) 3 _ rfl
  have k4 := Blk.cell (Many.blk HM.out 0 _ _ _ rfl) 4 _ rfl
  have k5 := Blk.cell (Many.blk HM.out 0 _ _ _ rfl) 5 _ rfl
  have k6 := Blk.cell (Many.blk HM.out 0 _ _ _ rfl) 6 _ rfl
  have k7 := Blk.cell (Many.blk HM.out 0 _ _ _ rfl) 7 _ rfl
  have k8 := Blk.cell (Many.blk HM.out 0 _ _ _ rfl) 8 _ rfl
  have pp0 := Blk.cell (Many.blk HM.out 1 _ _ _ rfl) 0 _ rfl
  have pp1 := Blk.cell (Many.blk HM.out 1 _ _ _ rfl) 1 _ rfl
  have s0 := Blk.cell (Many.blk HM.out 2 _ _ _ rfl) 0 _ rfl
  have s1 := Blk.cell (Many.blk HM.out 2 _ _ _ rfl) 1 _ rfl
  have s2 := Blk.cell (Many.blk HM.out 2 _ _ _ rfl) 2 _ rfl
  have s3 := Blk.cell (Many.blk HM.out 2 _ _ _ rfl) 3 _ rfl
  have s4 := Blk.cell (Many.blk HM.out 2 _ _ _ rfl) 4 _ rfl
  have s5 := Blk.cell (Many.blk HM.out 2 _ _ _ rfl) 5 _ rfl
  have s6 := Blk.cell (Many.blk HM.out 2 _ _ _ rfl) 6 _ rfl
  have s7 := Blk.cell (Many.blk HM.out 2 _ _ _ rfl) 7 _ rfl
  have s8 := Blk.cell (Many.blk HM.out 2 _ _ _ rfl) 8 _ rfl
  have t0 := Blk.cell (Many.blk HM.out 3 _ _ _ rfl) 0 _ rfl
  have t1 := Blk.cell (Many.blk HM.out 3 _ _ _ rfl) 1 _ rfl
  have t2 := Blk.cell (Many.blk HM.out 3 _ _ _ rfl) 2 _ rfl
  have t3 := Blk.cell (Many.blk HM.out 3 _ _ _ rfl) 3 _ rfl
  have t4 := Blk.cell (Many.blk HM.out 3 _ _ _ rfl) 4 _ rfl
  have t5 := Blk.cell (Many.blk HM.out 3 _ _ _ rfl) 5 _ rfl
  have t6 := Blk.cell (Many.blk HM.out 3 _ _ _ rfl) 6 _ rfl
  have t7 := Blk.cell (Many.blk HM.out 3 _ _ _ rfl) 7 _ rfl
  have t8 := Blk.cell (Many.blk HM.out 3 _ _ _ rfl) 8 _ rfl
  have HRT : Aside0 (Many Wt [(w.heap.size, 24, #[.int .i64 c0, .int .i64 c1, .int .i64 c2, .int .i64 c3, .int .i64 c4, .int .i64 c5, .int .i64 c6, .int .i64 cap, .slice A l.length cc]), ((w.heap.size + 1), 28, #[.int .u32 p0, .int .i64 p1]), (gs, 24, #[.int .i64 x0, .int .i64 x1, .int .i64 x2, .int .i64 x3, .int .i64 x4, .int .i64 x5, .int .i64 x6, .int .i64 x7, .slice B n d]), (gt, 24, #[.int .i64 x0, .int .i64 x1, .int .i64 x2, .int .i64 x3, .int .i64 x4, .int .i64 x5, .int .i64 x6, .int .i64 x7, .slice B2 n2 d2])] Wt) := ⟨⟨HM.out.blk, Below.refl _ _⟩⟩
  have HRr := Aside0.mk (Kd.C_below HR.out HM.out.bel)
  have k0' : ∀ w' : World, Many Wt [(w.heap.size, 24, #[.int .i64 c0, .int .i64 c1, .int .i64 c2, .int .i64 c3, .int .i64 c4, .int .i64 c5, .int .i64 c6, .int .i64 cap, .slice A l.length cc]), ((w.heap.size + 1), 28, #[.int .u32 p0, .int .i64 p1]), (gs, 24, #[.int .i64 x0, .int .i64 x1, .int .i64 x2, .int .i64 x3, .int .i64 x4, .int .i64 x5, .int .i64 x6, .int .i64 x7, .slice B n d]), (gt, 24, #[.int .i64 x0, .int .i64 x1, .int .i64 x2, .int .i64 x3, .int .i64 x4, .int .i64 x5, .int .i64 x6, .int .i64 x7, .slice B2 n2 d2])] w' → w'.cell? ⟨w.heap.size, 0, none⟩ = some (.int .i64 c0) := fun w' h => Blk.cell (Many.blk h 0 _ _ _ rfl) 0 _ rfl
  have k1' : ∀ w' : World, Many Wt [(w.heap.size, 24, #[.int .i64 c0, .int .i64 c1, .int .i64 c2, .int .i64 c3, .int .i64 c4, .int .i64 c5, .int .i64 c6, .int .i64 cap, .slice A l.length cc]), ((w.heap.size + 1), 28, #[.int .u32 p0, .int .i64 p1]), (gs, 24, #[.int .i64 x0, .int .i64 x1, .int .i64 x2, .int .i64 x3, .int .i64 x4, .int .i64 x5, .int .i64 x6, .int .i64 x7, .slice B n d]), (gt, 24, #[.int .i64 x0, .int .i64 x1, .int .i64 x2, .int .i64 x3, .int .i64 x4, .int .i64 x5, .int .i64 x6, .int .i64 x7, .slice B2 n2 d2])] w' → w'.cell? ⟨w.heap.size, 1, none⟩ = some (.int .i64 c1) := fun w' h => Blk.cell (Many.blk h 0 _ _ _ rfl) 1 _ rfl
  have k2' : ∀ w' : World, Many Wt [(w.heap.size, 24, #[.int .i64 c0, .int .i64 c1, .int .i64 c2, .int .i64 c3, .int .i64 c4, .int .i64 c5, .int .i64 c6, .int .i64 cap, .slice A l.length cc]), ((w.heap.size + 1), 28, #[.int .u32 p0, .int .i64 p1]), (gs, 24, #[.int .i64 x0, .int .i64 x1, .int .i64 x2, .int .i64 x3, .int .i64 x4, .int .i64 x5, .int .i64 x6, .int .i64 x7, .slice B n d]), (gt, 24, #[.int .i64 x0, .int .i64 x1, .int .i64 x2, .int .i64 x3, .int .i64 x4, .int .i64 x5, .int .i64 x6, .int .i64 x7, .slice B2 n2 d2])] w' → w'.cell? ⟨w.heap.size, 2, none⟩ = some (.int .i64 c2) := fun w' h => Blk.cell (Many.blk h 0 _ _ _ rfl) 2 _ rfl
  have k3' : ∀ w' : World, Many Wt [(w.heap.size, 24, #[.int .i64 c0, .int .i64 c1, .int .i64 c2, .int .i64 c3, .int .i64 c4, .int .i64 c5, .int .i64 c6, .int .i64 cap, .slice A l.length cc]), ((w.heap.size + 1), 28, #[.int .u32 p0, .int .i64 p1]), (gs, 24, #[.int .i64 x0, .int .i64 x1, .int .i64 x2, .int .i64 x3, .int .i64 x4, .int .i64 x5, .int .i64 x6, .int .i64 x7, .slice B n d]), (gt, 24, #[.int .i64 x0, .int .i64 x1, .int .i64 x2, .int .i64 x3, .int .i64 x4, .int .i64 x5, .int .i64 x6, .int .i64 x7, .slice B2 n2 d2])] w' → w'.cell? ⟨w.heap.size, 3, none⟩ = some (.int .i64 c3) := fun w' h => Blk.cell (Many.blk h 0 _ _ _ rfl) 3 _ rfl
  have k4' : ∀ w' : World, Many Wt [(w.heap.size, 24, #[.int .i64 c0, .int .i64 c1, .int .i64 c2, .int .i64 c3, .int .i64 c4, .int .i64 c5, .int .i64 c6, .int .i64 cap, .slice A l.length cc]), ((w.heap.size + 1), 28, #[.int .u32 p0, .int .i64 p1]), (gs, 24, #[.int .i64 x0, .int .i64 x1, .int .i64 x2, .int .i64 x3, .int .i64 x4, .int .i64 x5, .int .i64 x6, .int .i64 x7, .slice B n d]), (gt, 24, #[.int .i64 x0, .int .i64 x1, .int .i64 x2, .int .i64 x3, .int .i64 x4, .int .i64 x5, .int .i64 x6, .int .i64 x7, .slice B2 n2 d2])] w' → w'.cell? ⟨w.heap.size, 4, none⟩ = some (.int .i64 c4) := fun w' h => Blk.cell (Many.blk h 0 _ _ _ rfl) 4 _ rfl
  have k5' : ∀ w' : World, Many Wt [(w.heap.size, 24, #[.int .i64 c0, .int .i64 c1, .int .i64 c2, .int .i64 c3, .int .i64 c4, .int .i64 c5, .int .i64 c6, .int .i64 cap, .slice A l.length cc]), ((w.heap.size + 1), 28, #[.int .u32 p0, .int .i64 p1]), (gs, 24, #[.int .i64 x0, .int .i64 x1, .int .i64 x2, .int .i64 x3, .int .i64 x4, .int .i64 x5, .int .i64 x6, .int .i64 x7, .slice B n d]), (gt, 24, #[.int .i64 x0, .int .i64 x1, .int .i64 x2, .int .i64 x3, .int .i64 x4, .int .i64 x5, .int .i64 x6, .int .i64 x7, .slice B2 n2 d2])] w' → w'.cell? ⟨w.heap.size, 5, none⟩ = some (.int .i64 c5) := fun w' h => Blk.cell (Many.blk h 0 _ _ _ rfl) 5 _ rfl
  have k6' : ∀ w' : World, Many Wt [(w.heap.size, 24, #[.int .i64 c0, .int .i64 c1, .int .i64 c2, .int .i64 c3, .int .i64 c4, .int .i64 c5, .int .i64 c6, .int .i64 cap, .slice A l.length cc]), ((w.heap.size + 1), 28, #[.int .u32 p0, .int .i64 p1]), (gs, 24, #[.int .i64 x0, .int .i64 x1, .int .i64 x2, .int .i64 x3, .int .i64 x4, .int .i64 x5, .int .i64 x6, .int .i64 x7, .slice B n d]), (gt, 24, #[.int .i64 x0, .int .i64 x1, .int .i64 x2, .int .i64 x3, .int .i64 x4, .int .i64 x5, .int .i64 x6, .int .i64 x7, .slice B2 n2 d2])] w' → w'.cell? ⟨w.heap.size, 6, none⟩ = some (.int .i64 c6) := fun w' h => Blk.cell (Many.blk h 0 _ _ _ rfl) 6 _ rfl
  have k7' : ∀ w' : World, Many Wt [(w.heap.size, 24, #[.int .i64 c0, .int .i64 c1, .int .i64 c2, .int .i64 c3, .int .i64 c4, .int .i64 c5, .int .i64 c6, .int .i64 cap, .slice A l.length cc]), ((w.heap.size + 1), 28, #[.int .u32 p0, .int .i64 p1]), (gs, 24, #[.int .i64 x0, .int .i64 x1, .int .i64 x2, .int .i64 x3, .int .i64 x4, .int .i64 x5, .int .i64 x6, .int .i64 x7, .slice B n d]), (gt, 24, #[.int .i64 x0, .int .i64 x1, .int .i64 x2, .int .i64 x3, .int .i64 x4, .int .i64 x5, .int .i64 x6, .int .i64 x7, .slice B2 n2 d2])] w' → w'.cell? ⟨w.heap.size, 7, none⟩ = some (.int .i64 cap) := fun w' h => Blk.cell (Many.blk h 0 _ _ _ rfl) 7 _ rfl
  have k8' : ∀ w' : World, Many Wt [(w.heap.size, 24, #[.int .i64 c0, .int .i64 c1, .int .i64 c2, .int .i64 c3, .int .i64 c4, .int .i64 c5, .int .i64 c6, .int .i64 cap, .slice A l.length cc]), ((w.heap.size + 1), 28, #[.int .u32 p0, .int .i64 p1]), (gs, 24, #[.int .i64 x0, .int .i64 x1, .int .i64 x2, .int .i64 x3, .int .i64 x4, .int .i64 x5, .int .i64 x6, .int .i64 x7, .slice B n d]), (gt, 24, #[.int .i64 x0, .int .i64 x1, .int .i64 x2, .int .i64 x3, .int .i64 x4, .int .i64 x5, .int .i64 x6, .int .i64 x7, .slice B2 n2 d2])] w' → w'.cell? ⟨w.heap.size, 8, none⟩ = some (.slice A l.length cc) := fun w' h => Blk.cell (Many.blk h 0 _ _ _ rfl) 8 _ rfl
  have pp0' : ∀ w' : World, Many Wt [(w.heap.size, 24, #[.int .i64 c0, .int .i64 c1, .int .i64 c2, .int .i64 c3, .int .i64 c4, .int .i64 c5, .int .i64 c6, .int .i64 cap, .slice A l.length cc]), ((w.heap.size + 1), 28, #[.int .u32 p0, .int .i64 p1]), (gs, 24, #[.int .i64 x0, .int .i64 x1, .int .i64 x2, .int .i64 x3, .int .i64 x4, .int .i64 x5, .int .i64 x6, .int .i64 x7, .slice B n d]), (gt, 24, #[.int .i64 x0, .int .i64 x1, .int .i64 x2, .int .i64 x3, .int .i64 x4, .int .i64 x5, .int .i64 x6, .int .i64 x7, .slice B2 n2 d2])] w' → w'.cell? ⟨(w.heap.size + 1), 0, none⟩ = some (.int .u32 p0) := fun w' h => Blk.cell (Many.blk h 1 _ _ _ rfl) 0 _ rfl
  have pp1' : ∀ w' : World, Many Wt [(w.heap.size, 24, #[.int .i64 c0, .int .i64 c1, .int .i64 c2, .int .i64 c3, .int .i64 c4, .int .i64 c5, .int .i64 c6, .int .i64 cap, .slice A l.length cc]), ((w.heap.size + 1), 28, #[.int .u32 p0, .int .i64 p1]), (gs, 24, #[.int .i64 x0, .int .i64 x1, .int .i64 x2, .int .i64 x3, .int .i64 x4, .int .i64 x5, .int .i64 x6, .int .i64 x7, .slice B n d]), (gt, 24, #[.int .i64 x0, .int .i64 x1, .int .i64 x2, .int .i64 x3, .int .i64 x4, .int .i64 x5, .int .i64 x6, .int .i64 x7, .slice B2 n2 d2])] w' → w'.cell? ⟨(w.heap.size + 1), 1, none⟩ = some (.int .i64 p1) := fun w' h => Blk.cell (Many.blk h 1 _ _ _ rfl) 1 _ rfl
  have s0' : ∀ w' : World, Many Wt [(w.heap.size, 24, #[.int .i64 c0, .int .i64 c1, .int .i64 c2, .int .i64 c3, .int .i64 c4, .int .i64 c5, .int .i64 c6, .int .i64 cap, .slice A l.length cc]), ((w.heap.size + 1), 28, #[.int .u32 p0, .int .i64 p1]), (gs, 24, #[.int .i64 x0, .int .i64 x1, .int .i64 x2, .int .i64 x3, .int .i64 x4, .int .i64 x5, .int .i64 x6, .int .i64 x7, .slice B n d]), (gt, 24, #[.int .i64 x0, .int .i64 x1, .int .i64 x2, .int .i64 x3, .int .i64 x4, .int .i64 x5, .int .i64 x6, .int .i64 x7, .slice B2 n2 d2])] w' → w'.cell? ⟨gs, 0, none⟩ = some (.int .i64 x0) := fun w' h => Blk.cell (Many.blk h 2 _ _ _ rfl) 0 _ rfl
  have s1' : ∀ w' : World, Many Wt [(w.heap.size, 24, #[.int .i64 c0, .int .i64 c1, .int .i64 c2, .int .i64 c3, .int .i64 c4, .int .i64 c5, .int .i64 c6, .int .i64 cap, .slice A l.length cc]), ((w.heap.size + 1), 28, #[.int .u32 p0, .int .i64 p1]), (gs, 24, #[.int .i64 x0, .int .i64 x1, .int .i64 x2, .int .i64 x3, .int .i64 x4, .int .i64 x5, .int .i64 x6, .int .i64 x7, .slice B n d]), (gt, 24, #[.int .i64 x0, .int .i64 x1, .int .i64 x2, .int .i64 x3, .int .i64 x4, .int .i64 x5, .int .i64 x6, .int .i64 x7, .slice B2 n2 d2])] w' → w'.cell? ⟨gs, 1, none⟩ = some (.int .i64 x1) := fun w' h => Blk.cell (Many.blk h 2 _ _ _ rfl) 1 _ rfl
  have s2' : ∀ w' : World, Many Wt [(w.heap.size, 24, #[.int .i64 c0, .int .i64 c1, .int .i64 c2, .int .i64 c3, .int .i64 c4, .int .i64 c5, .int .i64 c6, .int .i64 cap, .slice A l.length cc]), ((w.heap.size + 1), 28, #[.int .u32 p0, .int .i64 p1]), (gs, 24, #[.int .i64 x0, .int .i64 x1, .int .i64 x2, .int .i64 x3, .int .i64 x4, .int .i64 x5, .int .i64 x6, .int .i64 x7, .slice B n d]), (gt, 24, #[.int .i64 x0, .int .i64 x1, .int .i64 x2, .int .i64 x3, .int .i64 x4, .int .i64 x5, .int .i64 x6, .int .i64 x7, .slice B2 n2 d2])] w' → w'.cell? ⟨gs, 2, none⟩ = some (.int .i64 x2) := fun w' h => Blk.cell (Many.blk h 2 _ _ _ rfl) 2 _ rfl
  have s3' : ∀ w' : World, Many Wt [(w.heap.size, 24, #[.int .i64 c0, .int .i64 c1, .int .i64 c2, .int .i64 c3, .int .i64 c4, .int .i64 c5, .int .i64 c6, .int .i64 cap, .slice A l.length cc]), ((w.heap.size + 1), 28, #[.int .u32 p0, .int .i64 p1]), (gs, 24, #[.int .i64 x0, .int .i64 x1, .int .i64 x2, .int .i64 x3, .int .i64 x4, .int .i64 x5, .int .i64 x6, .int .i64 x7, .slice B n d]), (gt, 24, #[.int .i64 x0, .int .i64 x1, .int .i64 x2, .int .i64 x3, .int .i64 x4, .int .i64 x5, .int .i64 x6, .int .i64 x7, .slice B2 n2 d2])] w' → w'.cell? ⟨gs, 3, none⟩ = some (.int .i64 x3) := fun w' h => Blk.cell (Many.blk h 2 _ _ _ rfl) 3 _ rfl
  have s4' : ∀ w' : World, Many Wt [(w.heap.size, 24, #[.int .i64 c0, .int .i64 c1, .int .i64 c2, .int .i64 c3, .int .i64 c4, .int .i64 c5, .int .i64 c6, .int .i64 cap, .slice A l.length cc]), ((w.heap.size + 1), 28, #[.int .u32 p0, .int .i64 p1]), (gs, 24, #[.int .i64 x0, .int .i64 x1, .int .i64 x2, .int .i64 x3, .int .i64 x4, .int .i64 x5, .int .i64 x6, .int .i64 x7, .slice B n d]), (gt, 24, #[.int .i64 x0, .int .i64 x1, .int .i64 x2, .int .i64 x3, .int .i64 x4, .int .i64 x5, .int .i64 x6, .int .i64 x7, .slice B2 n2 d2])] w' → w'.cell? ⟨gs, 4, none⟩ = some (.int .i64 x4) := fun w' h => Blk.cell (Many.blk h 2 _ _ _ rfl) 4 _ rfl
  have s5' : ∀ w' : World, Many Wt [(w.heap.size, 24, #[.int .i64 c0, .int .i64 c1, .int .i64 c2, .int .i64 c3, .int .i64 c4, .int .i64 c5, .int .i64 c6, .int .i64 cap, .slice A l.length cc]), ((w.heap.size + 1), 28, #[.int .u32 p0, .int .i64 p1]), (gs, 24, #[.int .i64 x0, .int .i64 x1, .int .i64 x2, .int .i64 x3, .int .i64 x4, .int .i64 x5, .int .i64 x6, .int .i64 x7, .slice B n d]), (gt, 24, #[.int .i64 x0, .int .i64 x1, .int .i64 x2, .int .i64 x3, .int .i64 x4, .int .i64 x5, .int .i64 x6, .int .i64 x7, .slice B2 n2 d2])] w' → w'.cell? ⟨gs, 5, none⟩ = some (.int .i64 x5) := fun w' h => Blk.cell (Many.blk h 2 _ _ _ rfl) 5 _ rfl
  have s6' : ∀ w' : World, Many Wt [(w.heap.size, 24, #[.int .i64 c0, .int .i64 c1, .int .i64 c2, .int .i64 c3, .int .i64 c4, .int .i64 c5, .int .i64 c6, .int .i64 cap, .slice A l.length cc]), ((w.heap.size + 1), 28, #[.int .u32 p0, .int .i64 p1]), (gs, 24, #[.int .i64 x0, .int .i64 x1, .int .i64 x2, .int .i64 x3, .int .i64 x4, .int .i64 x5, .int .i64 x6, .int .i64 x7, .slice B n d]), (gt, 24, #[.int .i64 x0, .int .i64 x1, .int .i64 x2, .int .i64 x3, .int .i64 x4, .int .i64 x5, .int .i64 x6, .int .i64 x7, .slice B2 n2 d2])] w' → w'.cell? ⟨gs, 6, none⟩ = some (.int .i64 x6) := fun w' h => Blk.cell (Many.blk h 2 _ _ _ rfl) 6 _ rfl
  have s7' : ∀ w' : World, Many Wt [(w.heap.size, 24, #[.int .i64 c0, .int .i64 c1, .int .i64 c2, .int .i64 c3, .int .i64 c4, .int .i64 c5, .int .i64 c6, .int .i64 cap, .slice A l.length cc]), ((w.heap.size + 1), 28, #[.int .u32 p0, .int .i64 p1]), (gs, 24, #[.int .i64 x0, .int .i64 x1, .int .i64 x2, .int .i64 x3, .int .i64 x4, .int .i64 x5, .int .i64 x6, .int .i64 x7, .slice B n d]), (gt, 24, #[.int .i64 x0, .int .i64 x1, .int .i64 x2, .int .i64 x3, .int .i64 x4, .int .i64 x5, .int .i64 x6, .int .i64 x7, .slice B2 n2 d2])] w' → w'.cell? ⟨gs, 7, none⟩ = some (.int .i64 x7) := fun w' h => Blk.cell (Many.blk h 2 _ _ _ rfl) 7 _ rfl
  have s8' : ∀ w' : World, Many Wt [(w.heap.size, 24, #[.int .i64 c0, .int .i64 c1, .int .i64 c2, .int .i64 c3, .int .i64 c4, .int .i64 c5, .int .i64 c6, .int .i64 cap, .slice A l.length cc]), ((w.heap.size + 1), 28, #[.int .u32 p0, .int .i64 p1]), (gs, 24, #[.int .i64 x0, .int .i64 x1, .int .i64 x2, .int .i64 x3, .int .i64 x4, .int .i64 x5, .int .i64 x6, .int .i64 x7, .slice B n d]), (gt, 24, #[.int .i64 x0, .int .i64 x1, .int .i64 x2, .int .i64 x3, .int .i64 x4, .int .i64 x5, .int .i64 x6, .int .i64 x7, .slice B2 n2 d2])] w' → w'.cell? ⟨gs, 8, none⟩ = some (.slice B n d) := fun w' h => Blk.cell (Many.blk h 2 _ _ _ rfl) 8 _ rfl
  have t0' : ∀ w' : World, Many Wt [(w.heap.size, 24, #[.int .i64 c0, .int .i64 c1, .int .i64 c2, .int .i64 c3, .int .i64 c4, .int .i64 c5, .int .i64 c6, .int .i64 cap, .slice A l.length cc]), ((w.heap.size + 1), 28, #[.int .u32 p0, .int .i64 p1]), (gs, 24, #[.int .i64 x0, .int .i64 x1, .int .i64 x2, .int .i64 x3, .int .i64 x4, .int .i64 x5, .int .i64 x6, .int .i64 x7, .slice B n d]), (gt, 24, #[.int .i64 x0, .int .i64 x1, .int .i64 x2, .int .i64 x3, .int .i64 x4, .int .i64 x5, .int .i64 x6, .int .i64 x7, .slice B2 n2 d2])] w' → w'.cell? ⟨gt, 0, none⟩ = some (.int .i64 x0) := fun w' h => Blk.cell (Many.blk h 3 _ _ _ rfl) 0 _ rfl
  have t1' : ∀ w' : World, Many Wt [(w.heap.size, 24, #[.int .i64 c0, .int .i64 c1, .int .i64 c2, .int .i64 c3, .int .i64 c4, .int .i64 c5, .int .i64 c6, .int .i64 cap, .slice A l.length cc]), ((w.heap.size + 1), 28, #[.int .u32 p0, .int .i64 p1]), (gs, 24, #[.int .i64 x0, .int .i64 x1, .int .i64 x2, .int .i64 x3, .int .i64 x4, .int .i64 x5, .int .i64 x6, .int .i64 x7, .slice B n d]), (gt, 24, #[.int .i64 x0, .int .i64 x1, .int .i64 x2, .int .i64 x3, .int .i64 x4, .int .i64 x5, .int .i64 x6, .int .i64 x7, .slice B2 n2 d2])] w' → w'.cell? ⟨gt, 1, none⟩ = some (.int .i64 x1) := fun w' h => Blk.cell (Many.blk h 3 _ _ _ rfl) 1 _ rfl
  have t2' : ∀ w' : World, Many Wt [(w.heap.size, 24, #[.int .i64 c0, .int .i64 c1, .int .i64 c2, .int .i64 c3, .int .i64 c4, .int .i64 c5, .int .i64 c6, .int .i64 cap, .slice A l.length cc]), ((w.heap.size + 1), 28, #[.int .u32 p0, .int .i64 p1]), (gs, 24, #[.int .i64 x0, .int .i64 x1, .int .i64 x2, .int .i64 x3, .int .i64 x4, .int .i64 x5, .int .i64 x6, .int .i64 x7, .slice B n d]), (gt, 24, #[.int .i64 x0, .int .i64 x1, .int .i64 x2, .int .i64 x3, .int .i64 x4, .int .i64 x5, .int .i64 x6, .int .i64 x7, .slice B2 n2 d2])] w' → w'.cell? ⟨gt, 2, none⟩ = some (.int .i64 x2) := fun w' h => Blk.cell (Many.blk h 3 _ _ _ rfl) 2 _ rfl
  have t3' : ∀ w' : World, Many Wt [(w.heap.size, 24, #[.int .i64 c0, .int .i64 c1, .int .i64 c2, .int .i64 c3, .int .i64 c4, .int .i64 c5, .int .i64 c6, .int .i64 cap, .slice A l.length cc]), ((w.heap.size + 1), 28, #[.int .u32 p0, .int .i64 p1]), (gs, 24, #[.int .i64 x0, .int .i64 x1, .int .i64 x2, .int .i64 x3, .int .i64 x4, .int .i64 x5, .int .i64 x6, .int .i64 x7, .slice B n d]), (gt, 24, #[.int .i64 x0, .int .i64 x1, .int .i64 x2, .int .i64 x3, .int .i64 x4, .int .i64 x5, .int .i64 x6, .int .i64 x7, .slice B2 n2 d2])] w' → w'.cell? ⟨gt, 3, none⟩ = some (.int .i64 x3) := fun w' h => Blk.cell (Many.blk h 3 _ _ _ rfl) 3 _ rfl
  have t4' : ∀ w' : World, Many Wt [(w.heap.size, 24, #[.int .i64 c0, .int .i64 c1, .int .i64 c2, .int .i64 c3, .int .i64 c4, .int .i64 c5, .int .i64 c6, .int .i64 cap, .slice A l.length cc]), ((w.heap.size + 1), 28, #[.int .u32 p0, .int .i64 p1]), (gs, 24, #[.int .i64 x0, .int .i64 x1, .int .i64 x2, .int .i64 x3, .int .i64 x4, .int .i64 x5, .int .i64 x6, .int .i64 x7, .slice B n d]), (gt, 24, #[.int .i64 x0, .int .i64 x1, .int .i64 x2, .int .i64 x3, .int .i64 x4, .int .i64 x5, .int .i64 x6, .int .i64 x7, .slice B2 n2 d2])] w' → w'.cell? ⟨gt, 4, none⟩ = some (.int .i64 x4) := fun w' h => Blk.cell (Many.blk h 3 _ _ _ rfl) 4 _ rfl
  have t5' : ∀ w' : World, Many Wt [(w.heap.size, 24, #[.int .i64 c0, .int .i64 c1, .int .i64 c2, .int .i64 c3, .int .i64 c4, .int .i64 c5, .int .i64 c6, .int .i64 cap, .slice A l.length cc]), ((w.heap.size + 1), 28, #[.int .u32 p0, .int .i64 p1]), (gs, 24, #[.int .i64 x0, .int .i64 x1, .int .i64 x2, .int .i64 x3, .int .i64 x4, .int .i64 x5, .int .i64 x6, .int .i64 x7, .slice B n d]), (gt, 24, #[.int .i64 x0, .int .i64 x1, .int .i64 x2, .int .i64 x3, .int .i64 x4, .int .i64 x5, .int .i64 x6, .int .i64 x7, .slice B2 n2 d2])] w' → w'.cell? ⟨gt, 5, none⟩ = some (.int .i64 x5) := fun w' h => Blk.cell (Many.blk h 3 _ _ _ rfl) 5 _ rfl
  have t6' : ∀ w' : World, Many Wt [(w.heap.size, 24, #[.int .i64 c0, .int .i64 c1, .int .i64 c2, .int .i64 c3, .int .i64 c4, .int .i64 c5, .int .i64 c6, .int .i64 cap, .slice A l.length cc]), ((w.heap.size + 1), 28, #[.int .u32 p0, .int .i64 p1]), (gs, 24, #[.int .i64 x0, .int .i64 x1, .int .i64 x2, .int .i64 x3, .int .i64 x4, .int .i64 x5, .int .i64 x6, .int .i64 x7, .slice B n d]), (gt, 24, #[.int .i64 x0, .int .i64 x1, .int .i64 x2, .int .i64 x3, .int .i64 x4, .int .i64 x5, .int .i64 x6, .int .i64 x7, .slice B2 n2 d2])] w' → w'.cell? ⟨gt, 6, none⟩ = some (.int .i64 x6) := fun w' h => Blk.cell (Many.blk h 3 _ _ _ rfl) 6 _ rfl
  have t7' : ∀ w' : World, Many Wt [(w.heap.size, 24, #[.int .i64 c0, .int .i64 c1, .int .i64 c2, .int .i64 c3, .int .i64 c4, .int .i64 c5, .int .i64 c6, .int .i64 cap, .slice A l.length cc]), ((w.heap.size + 1), 28, #[.int .u32 p0, .int .i64 p1]), (gs, 24, #[.int .i64 x0, .int .i64 x1, .int .i64 x2, .int .i64 x3, .int .i64 x4, .int .i64 x5, .int .i64 x6, .int .i64 x7, .slice B n d]), (gt, 24, #[.int .i64 x0, .int .i64 x1, .int .i64 x2, .int .i64 x3, .int .i64 x4, .int .i64 x5, .int .i64 x6, .int .i64 x7, .slice B2 n2 d2])] w' → w'.cell? ⟨gt, 7, none⟩ = some (.int .i64 x7) := fun w' h => Blk.cell (Many.blk h 3 _ _ _ rfl) 7 _ rfl
  have t8' : ∀ w' : World, Many Wt [(w.heap.size, 24, #[.int .i64 c0, .int .i64 c1, .int .i64 c2, .int .i64 c3, .int .i64 c4, .int .i64 c5, .int .i64 c6, .int .i64 cap, .slice A l.length cc]), ((w.heap.size + 1), 28, #[.int .u32 p0, .int .i64 p1]), (gs, 24, #[.int .i64 x0, .int .i64 x1, .int .i64 x2, .int .i64 x3, .int .i64 x4, .int .i64 x5, .int .i64 x6, .int .i64 x7, .slice B n d]), (gt, 24, #[.int .i64 x0, .int .i64 x1, .int .i64 x2, .int .i64 x3, .int .i64 x4, .int .i64 x5, .int .i64 x6, .int .i64 x7, .slice B2 n2 d2])] w' → w'.cell? ⟨gt, 8, none⟩ = some (.slice B2 n2 d2) := fun w' h => Blk.cell (Many.blk h 3 _ _ _ rfl) 8 _ rfl
  clear k0 k1 k2 k3 k4 k5 k6 k7 k8 pp0 pp1 s0 s1 s2 s3 s4 s5 s6 s7 s8 t0 t1 t2 t3 t4 t5 t6 t7 t8 HR
  refine wp_region_held_drew (S := fun w' => Many Wt [(w.heap.size, 24, #[.int .i64 c0, .int .i64 c1, .int .i64 c2, .int .i64 c3, .int .i64 c4, .int .i64 c5, .int .i64 c6, .int .i64 cap, .slice A l.length cc]), ((w.heap.size + 1), 28, #[.int .u32 p0, .int .i64 p1]), (gs, 24, #[.int .i64 x0, .int .i64 x1, .int .i64 x2, .int .i64 x3, .int .i64 x4, .int .i64 x5, .int .i64 x6, .int .i64 x7, .slice B n d]), (gt, 24, #[.int .i64 x0, .int .i64 x1, .int .i64 x2, .int .i64 x3, .int .i64 x4, .int .i64 x5, .int .i64 x6, .int .i64 x7, .slice B2 n2 d2])] w') (by kernel_rfl) ?sA (fun hHeld => ?rA)
  case sA => exact Many.drew HRT.out
  refine wpAnyH_take (i := 0) (oi := ?oA_0) (v := ?vA_0) ?iA_0 (by kernel_rfl) (by kernel_rfl) (by kernel_rfl) ?qA_0 ?yA_0 hHeld ?nA_0
  case iA_0 => (simp only [List.getElem?_toArray, List.getElem?_cons_succ, List.getElem?_cons_zero]; rfl)
  case yA_0 => (refine Or.inl ⟨by kernel_rfl, ?_⟩; intro w' hSw; (try dsimp only at hSw); first | (go_simp; done) | (go_simp; with_reducible rfl))
  case qA_0 => exact fun _ _ _ h => h
  try simp only [Act.put, List.setIfInBounds_toArray, List.set_cons_zero, List.set_cons_succ]
  refine wpAnyH_take (i := 1) (oi := ?oA_1) (v := ?vA_1) ?iA_1 (by kernel_rfl) (by kernel_rfl) (by kernel_rfl) ?qA_1 ?yA_1 hHeld ?nA_1
  case iA_1 => (simp only [List.getElem?_toArray, List.getElem?_cons_succ, List.getElem?_cons_zero]; rfl)
  case yA_1 => (refine Or.inl ⟨by kernel_rfl, ?_⟩; intro w' hSw; (try dsimp only at hSw); first | (go_simp; done) | (go_simp; with_reducible rfl))
  case qA_1 => exact fun _ _ _ h => h
  try simp only [Act.put, List.setIfInBounds_toArray, List.set_cons_zero, List.set_cons_succ]
  refine wpAnyH_take (i := 2) (oi := ?oA_2) (v := ?vA_2) ?iA_2 (by kernel_rfl) (by kernel_rfl) (by kernel_rfl) ?qA_2 ?yA_2 hHeld ?nA_2
  case iA_2 => (simp only [List.getElem?_toArray, List.getElem?_cons_succ, List.getElem?_cons_zero]; rfl)
  case yA_2 => (refine Or.inl ⟨by kernel_rfl, ?_⟩; intro w' hSw; (try dsimp only at hSw); first | (go_simp; done) | (go_simp; with_reducible rfl))
  case qA_2 => exact fun _ _ _ h => h
  try simp only [Act.put, List.setIfInBounds_toArray, List.set_cons_zero, List.set_cons_succ]
  refine wpAnyH_ready (rs := [3]) (by kernel_rfl) (by simp) ?_
  refine AllReadyH.cons (o := ?oA_3) ?iA_3 (fun K hK => ?kA_3) AllReadyH.nil
  case iA_3 => (simp only [List.getElem?_toArray, List.getElem?_cons_succ, List.getElem?_cons_zero]; rfl)
  go_simp
  ((with_reducible refine (HhRR.out _ (Kd.C_below HRr.out hHeld.bel)).mono ?_); rintro e w4 ⟨rfl, hb⟩; dsimp only)
  refine hK.out _ _ ?hA_3 (fun hHeld2 => ?mA_3)
  case hA_3 => exact Many.later hHeld hb
  clear hK K hHeld
  have hHeld := hHeld2
  clear hHeld2
  try simp only [Act.put, List.setIfInBounds_toArray, List.set_cons_zero, List.set_cons_succ]
  refine wpAnyH_take (i := 4) (oi := ?oA_4) (v := ?vA_4) ?iA_4 (by kernel_rfl) (by kernel_rfl) (by kernel_rfl) ?qA_4 ?yA_4 hHeld ?nA_4
  case iA_4 => (simp only [List.getElem?_toArray, List.getElem?_cons_succ, List.getElem?_cons_zero]; rfl)
  case yA_4 => (refine Or.inl ⟨by kernel_rfl, ?_⟩; intro w' hSw; (try dsimp only at hSw); first | (go_simp; done) | (go_simp; with_reducible rfl))
  case qA_4 => exact fun _ _ _ h => h
  try simp only [Act.put, List.setIfInBounds_toArray, List.set_cons_zero, List.set_cons_succ]
  refine wpAnyH_take (i := 5) (oi := ?oA_5) (v := ?vA_5) ?iA_5 (by kernel_rfl) (by kernel_rfl) (by kernel_rfl) ?qA_5 ?yA_5 hHeld ?nA_5
  case iA_5 => (simp only [List.getElem?_toArray, List.getElem?_cons_succ, List.getElem?_cons_zero]; rfl)
  case yA_5 => (refine Or.inl ⟨by kernel_rfl, ?_⟩; intro w' hSw; (try dsimp only at hSw); first | (go_simp; done) | (go_simp; with_reducible rfl))
  case qA_5 => exact fun _ _ _ h => h
  try simp only [Act.put, List.setIfInBounds_toArray, List.set_cons_zero, List.set_cons_succ]
  refine wpAnyH_take (i := 6) (oi := ?oA_6) (v := ?vA_6) ?iA_6 (by kernel_rfl) (by kernel_rfl) (by kernel_rfl) ?qA_6 ?yA_6 hHeld ?nA_6
  case iA_6 => (simp only [List.getElem?_toArray, List.getElem?_cons_succ, List.getElem?_cons_zero]; rfl)
  case yA_6 => (refine Or.inl ⟨by kernel_rfl, ?_⟩; intro w' hSw; (try dsimp only at hSw); first | (go_simp; done) | (go_simp; with_reducible rfl))
  case qA_6 => exact fun _ _ _ h => h
  try simp only [Act.put, List.setIfInBounds_toArray, List.set_cons_zero, List.set_cons_succ]
  refine wpAnyH_take (i := 7) (oi := ?oA_7) (v := ?vA_7) ?iA_7 (by kernel_rfl) (by kernel_rfl) (by kernel_rfl) ?qA_7 ?yA_7 hHeld ?nA_7
  case iA_7 => (simp only [List.getElem?_toArray, List.getElem?_cons_succ, List.getElem?_cons_zero]; rfl)
  case yA_7 => (refine Or.inl ⟨by kernel_rfl, ?_⟩; intro w' hSw; (try dsimp only at hSw); first | (go_simp; done) | (go_simp; with_reducible rfl))
  case qA_7 => exact fun _ _ _ h => h
  try simp only [Act.put, List.setIfInBounds_toArray, List.set_cons_zero, List.set_cons_succ]
  refine wpAnyH_take (i := 8) (oi := ?oA_8) (v := ?vA_8) ?iA_8 (by kernel_rfl) (by kernel_rfl) (by kernel_rfl) ?qA_8 ?yA_8 hHeld ?nA_8
  case iA_8 => (simp only [List.getElem?_toArray, List.getElem?_cons_succ, List.getElem?_cons_zero]; rfl)
  case yA_8 => (refine Or.inl ⟨by kernel_rfl, ?_⟩; intro w' hSw; (try dsimp only at hSw); first | (go_simp; done) | (go_simp; with_reducible rfl))
  case qA_8 => exact fun _ _ _ h => h
  try simp only [Act.put, List.setIfInBounds_toArray, List.set_cons_zero, List.set_cons_succ]
  refine wpAnyH_take (i := 9) (oi := ?oA_9) (v := undef) ?iA_9 (by kernel_rfl) (by kernel_rfl) (by kernel_rfl) ?qA_9 ?yA_9 hHeld ?nA_9
  case iA_9 => (simp only [List.getElem?_toArray, List.getElem?_cons_succ, List.getElem?_cons_zero]; rfl)
  case yA_9 => exact Or.inr ⟨by kernel_rfl, rfl⟩
  case qA_9 => exact fun _ _ _ h => h
  try simp only [Act.put, List.setIfInBounds_toArray, List.set_cons_zero, List.set_cons_succ]
  refine wpAnyH_take (i := 10) (oi := ?oA_10) (v := undef) ?iA_10 (by kernel_rfl) (by kernel_rfl) (by kernel_rfl) ?qA_10 ?yA_10 hHeld ?nA_10
  case iA_10 => (simp only [List.getElem?_toArray, List.getElem?_cons_succ, List.getElem?_cons_zero]; rfl)
  case yA_10 => exact Or.inr ⟨by kernel_rfl, rfl⟩
  case qA_10 => exact fun _ _ _ h => h
  try simp only [Act.put, List.setIfInBounds_toArray, List.set_cons_zero, List.set_cons_succ]
  refine wpAnyH_take (i := 11) (oi := ?oA_11) (v := ?vA_11) ?iA_11 (by kernel_rfl) (by kernel_rfl) (by kernel_rfl) ?qA_11 ?yA_11 hHeld ?nA_11
  case iA_11 => (simp only [List.getElem?_toArray, List.getElem?_cons_succ, List.getElem?_cons_zero]; rfl)
  case yA_11 => (refine Or.inl ⟨by kernel_rfl, ?_⟩; intro w' hSw; (try dsimp only at hSw); first | (go_simp; done) | (go_simp; with_reducible rfl))
  case qA_11 => exact fun _ _ _ h => h
  try simp only [Act.put, List.setIfInBounds_toArray, List.set_cons_zero, List.set_cons_succ]
  refine wpAnyH_take (i := 12) (oi := ?oA_12) (v := ?vA_12) ?iA_12 (by kernel_rfl) (by kernel_rfl) (by kernel_rfl) ?qA_12 ?yA_12 hHeld ?nA_12
  case iA_12 => (simp only [List.getElem?_toArray, List.getElem?_cons_succ, List.getElem?_cons_zero]; rfl)
  case yA_12 => (refine Or.inl ⟨by kernel_rfl, ?_⟩; intro w' hSw; (try dsimp only at hSw); first | (go_simp; done) | (go_simp; with_reducible rfl))
  case qA_12 => exact fun _ _ _ h => h
  try simp only [Act.put, List.setIfInBounds_toArray, List.set_cons_zero, List.set_cons_succ]
  refine wpAnyH_take (i := 13) (oi := ?oA_13) (v := ?vA_13) ?iA_13 (by kernel_rfl) (by kernel_rfl) (by kernel_rfl) ?qA_13 ?yA_13 hHeld ?nA_13
  case iA_13 => (simp only [List.getElem?_toArray, List.getElem?_cons_succ, List.getElem?_cons_zero]; rfl)
  case yA_13 => (refine Or.inl ⟨by kernel_rfl, ?_⟩; intro w' hSw; (try dsimp only at hSw); first | (go_simp; done) | (go_simp; with_reducible rfl))
  case qA_13 => exact fun _ _ _ h => h
  try simp only [Act.put, List.setIfInBounds_toArray, List.set_cons_zero, List.set_cons_succ]
  refine wpAnyH_take (i := 14) (oi := ?oA_14) (v := ?vA_14) ?iA_14 (by kernel_rfl) (by kernel_rfl) (by kernel_rfl) ?qA_14 ?yA_14 hHeld ?nA_14
  case iA_14 => (simp only [List.getElem?_toArray, List.getElem?_cons_succ, List.getElem?_cons_zero]; rfl)
  case yA_14 => (refine Or.inl ⟨by kernel_rfl, ?_⟩; intro w' hSw; (try dsimp only at hSw); first | (go_simp; done) | (go_simp; with_reducible rfl))
  case qA_14 => exact fun _ _ _ h => h
  try simp only [Act.put, List.setIfInBounds_toArray, List.set_cons_zero, List.set_cons_succ]
  refine wpAnyH_take (i := 15) (oi := ?oA_15) (v := ?vA_15) ?iA_15 (by kernel_rfl) (by kernel_rfl) (by kernel_rfl) ?qA_15 ?yA_15 hHeld ?nA_15
  case iA_15 => (simp only [List.getElem?_toArray, List.getElem?_cons_succ, List.getElem?_cons_zero]; rfl)
  case yA_15 => (refine Or.inl ⟨by kernel_rfl, ?_⟩; intro w' hSw; (try dsimp only at hSw); first | (go_simp; done) | (go_simp; with_reducible rfl))
  case qA_15 => exact fun _ _ _ h => h
  try simp only [Act.put, List.setIfInBounds_toArray, List.set_cons_zero, List.set_cons_succ]
  refine wpAnyH_take (i := 17) (oi := ?oA_17) (v := ?vA_17) ?iA_17 (by kernel_rfl) (by kernel_rfl) (by kernel_rfl) ?qA_17 ?yA_17 hHeld ?nA_17
  case iA_17 => (simp only [List.getElem?_toArray, List.getElem?_cons_succ, List.getElem?_cons_zero]; rfl)
  case yA_17 => (refine Or.inl ⟨by kernel_rfl, ?_⟩; intro w' hSw; (try dsimp only at hSw); first | (go_simp; done) | (go_simp; with_reducible rfl))
  case qA_17 => exact fun _ _ _ h => h
  try simp only [Act.put, List.setIfInBounds_toArray, List.set_cons_zero, List.set_cons_succ]
  refine wpAnyH_take (i := 18) (oi := ?oA_18) (v := ?vA_18) ?iA_18 (by kernel_rfl) (by kernel_rfl) (by kernel_rfl) ?qA_18 ?yA_18 hHeld ?nA_18
  case iA_18 => (simp only [List.getElem?_toArray, List.getElem?_cons_succ, List.getElem?_cons_zero]; rfl)
  case yA_18 => (refine Or.inl ⟨by kernel_rfl, ?_⟩; intro w' hSw; (try dsimp only at hSw); first | (go_simp; done) | (go_simp; with_reducible rfl))
  case qA_18 => exact fun _ _ _ h => h
  try simp only [Act.put, List.setIfInBounds_toArray, List.set_cons_zero, List.set_cons_succ]
  refine wpAnyH_ready (rs := [16]) (by kernel_rfl) (by simp) ?_
  refine AllReadyH.cons (o := ?oA_16) ?iA_16 (fun K hK => ?kA_16) AllReadyH.nil
  case iA_16 => (simp only [List.getElem?_toArray, List.getElem?_cons_succ, List.getElem?_cons_zero]; rfl)
  go_simp
  ((with_reducible refine (HhOW.out _ (Kd.C_below HRr.out hHeld.bel)).mono ?_); rintro e w4 ⟨rfl, hb⟩; dsimp only)
  refine hK.out _ _ ?hA_16 (fun hHeld2 => ?mA_16)
  case hA_16 => exact Many.later hHeld hb
  clear hK K hHeld
  have hHeld := hHeld2
  clear hHeld2
  try simp only [Act.put, List.setIfInBounds_toArray, List.set_cons_zero, List.set_cons_succ]
  refine wpAnyH_ready (rs := [19]) (by kernel_rfl) (by simp) ?_
  refine AllReadyH.cons (o := ?oA_19) ?iA_19 (fun K hK => ?kA_19) AllReadyH.nil
  case iA_19 => (simp only [List.getElem?_toArray, List.getElem?_cons_succ, List.getElem?_cons_zero]; rfl)
  go_simp
  ((with_reducible refine (HhRO.out _ (Kd.C_below HRr.out hHeld.bel)).mono ?_); rintro e w4 ⟨rfl, hb⟩; dsimp only)
  refine hK.out _ _ ?hA_19 (fun hHeld2 => ?mA_19)
  case hA_19 => exact Many.later hHeld hb
  clear hK K hHeld
  have hHeld := hHeld2
  clear hHeld2
  try simp only [Act.put, List.setIfInBounds_toArray, List.set_cons_zero, List.set_cons_succ]
  refine wpAnyH_take (i := 20) (oi := ?oA_20) (v := ?vA_20) ?iA_20 (by kernel_rfl) (by kernel_rfl) (by kernel_rfl) ?qA_20 ?yA_20 hHeld ?nA_20
  case iA_20 => (simp only [List.getElem?_toArray, List.getElem?_cons_succ, List.getElem?_cons_zero]; rfl)
  case yA_20 => (refine Or.inl ⟨by kernel_rfl, ?_⟩; intro w' hSw; (try dsimp only at hSw); first | (go_simp; done) | (go_simp; with_reducible rfl))
  case qA_20 => exact fun _ _ _ h => h
  try simp only [Act.put, List.setIfInBounds_toArray, List.set_cons_zero, List.set_cons_succ]
  refine wpAnyH_take (i := 21) (oi := ?oA_21) (v := ?vA_21) ?iA_21 (by kernel_rfl) (by kernel_rfl) (by kernel_rfl) ?qA_21 ?yA_21 hHeld ?nA_21
  case iA_21 => (simp only [List.getElem?_toArray, List.getElem?_cons_succ, List.getElem?_cons_zero]; rfl)
  case yA_21 => (refine Or.inl ⟨by kernel_rfl, ?_⟩; intro w' hSw; (try dsimp only at hSw); first | (go_simp; done) | (go_simp; with_reducible rfl))
  case qA_21 => exact fun _ _ _ h => h
  try simp only [Act.put, List.setIfInBounds_toArray, List.set_cons_zero, List.set_cons_succ]
  refine wpAnyH_take (i := 22) (oi := ?oA_22) (v := ?vA_22) ?iA_22 (by kernel_rfl) (by kernel_rfl) (by kernel_rfl) ?qA_22 ?yA_22 hHeld ?nA_22
  case iA_22 => (simp only [List.getElem?_toArray, List.getElem?_cons_succ, List.getElem?_cons_zero]; rfl)
  case yA_22 => (refine Or.inl ⟨by kernel_rfl, ?_⟩; intro w' hSw; (try dsimp only at hSw); first | (go_simp; done) | (go_simp; with_reducible rfl))
  case qA_22 => exact fun _ _ _ h => h
  try simp only [Act.put, List.setIfInBounds_toArray, List.set_cons_zero, List.set_cons_succ]
  refine wpAnyH_take (i := 23) (oi := ?oA_23) (v := ?vA_23) ?iA_23 (by kernel_rfl) (by kernel_rfl) (by kernel_rfl) ?qA_23 ?yA_23 hHeld ?nA_23
  case iA_23 => (simp only [List.getElem?_toArray, List.getElem?_cons_succ, List.getElem?_cons_zero]; rfl)
  case yA_23 => (refine Or.inl ⟨by kernel_rfl, ?_⟩; intro w' hSw; (try dsimp only at hSw); first | (go_simp; done) | (go_simp; with_reducible rfl))
  case qA_23 => exact fun _ _ _ h => h
  try simp only [Act.put, List.setIfInBounds_toArray, List.set_cons_zero, List.set_cons_succ]
  refine wpAnyH_take (i := 24) (oi := ?oA_24) (v := ?vA_24) ?iA_24 (by kernel_rfl) (by kernel_rfl) (by kernel_rfl) ?qA_24 ?yA_24 hHeld ?nA_24
  case iA_24 => (simp only [List.getElem?_toArray, List.getElem?_cons_succ, List.getElem?_cons_zero]; rfl)
  case yA_24 => (refine Or.inl ⟨by kernel_rfl, ?_⟩; intro w' hSw; (try dsimp only at hSw); first | (go_simp; done) | (go_simp; with_reducible rfl))
  case qA_24 => exact fun _ _ _ h => h
  try simp only [Act.put, List.setIfInBounds_toArray, List.set_cons_zero, List.set_cons_succ]
  refine wpAnyH_ready (rs := [25]) (by kernel_rfl) (by simp) ?_
  refine AllReadyH.cons (o := ?oA_25) ?iA_25 (fun K hK => ?kA_25) AllReadyH.nil
  case iA_25 => (simp only [List.getElem?_toArray, List.getElem?_cons_succ, List.getElem?_cons_zero]; rfl)
  go_simp
  ((with_reducible refine (HhSM.out _ _ _ _ _ _ _ (HhPS.out _ _ _ _ _ HP1.out hHeld.bel) (HhPS.out _ _ _ _ _ HP2.out hHeld.bel)).mono ?_); rintro e w4 ⟨rfl, hb⟩; dsimp only)
  refine hK.out _ _ ?hA_25 (fun hHeld2 => ?mA_25)
  case hA_25 => exact Many.later hHeld hb
  clear hK K hHeld
  have hHeld := hHeld2
  clear hHeld2
  try simp only [Act.put, List.setIfInBounds_toArray, List.set_cons_zero, List.set_cons_succ]
  refine wpAnyH_take (i := 26) (oi := ?oA_26) (v := ?vA_26) ?iA_26 (by kernel_rfl) (by kernel_rfl) (by kernel_rfl) ?qA_26 ?yA_26 hHeld ?nA_26
  case iA_26 => (simp only [List.getElem?_toArray, List.getElem?_cons_succ, List.getElem?_cons_zero]; rfl)
  case yA_26 => (refine Or.inl ⟨by kernel_rfl, ?_⟩; intro w' hSw; (try dsimp only at hSw); first | (go_simp; done) | (go_simp; with_reducible rfl))
  case qA_26 => exact fun _ _ _ h => h
  try simp only [Act.put, List.setIfInBounds_toArray, List.set_cons_zero, List.set_cons_succ]
  refine wpAnyH_take (i := 27) (oi := ?oA_27) (v := ?vA_27) ?iA_27 (by kernel_rfl) (by kernel_rfl) (by kernel_rfl) ?qA_27 ?yA_27 hHeld ?nA_27
  case iA_27 => (simp only [List.getElem?_toArray, List.getElem?_cons_succ, List.getElem?_cons_zero]; rfl)
  case yA_27 => (refine Or.inl ⟨by kernel_rfl, ?_⟩; intro w' hSw; (try dsimp only at hSw); first | (go_simp; done) | (go_simp; with_reducible rfl))
  case qA_27 => exact fun _ _ _ h => h
  try simp only [Act.put, List.setIfInBounds_toArray, List.set_cons_zero, List.set_cons_succ]
  refine wpAnyH_take (i := 28) (oi := ?oA_28) (v := ?vA_28) ?iA_28 (by kernel_rfl) (by kernel_rfl) (by kernel_rfl) ?qA_28 ?yA_28 hHeld ?nA_28
  case iA_28 => (simp only [List.getElem?_toArray, List.getElem?_cons_succ, List.getElem?_cons_zero]; rfl)
  case yA_28 => (refine Or.inl ⟨by kernel_rfl, ?_⟩; intro w' hSw; (try dsimp only at hSw); first | (go_simp; done) | (go_simp; with_reducible rfl))
  case qA_28 => exact fun _ _ _ h => h
  try simp only [Act.put, List.setIfInBounds_toArray, List.set_cons_zero, List.set_cons_succ]
  refine wpAnyH_take (i := 30) (oi := ?oA_30) (v := ?vA_30) ?iA_30 (by kernel_rfl) (by kernel_rfl) (by kernel_rfl) ?qA_30 ?yA_30 hHeld ?nA_30
  case iA_30 => (simp only [List.getElem?_toArray, List.getElem?_cons_succ, List.getElem?_cons_zero]; rfl)
  case yA_30 => (refine Or.inl ⟨by kernel_rfl, ?_⟩; intro w' hSw; (try dsimp only at hSw); first | (go_simp; done) | (go_simp; with_reducible rfl))
  case qA_30 => exact fun _ _ _ h => h
  try simp only [Act.put, List.setIfInBounds_toArray, List.set_cons_zero, List.set_cons_succ]
  refine wpAnyH_ready (rs := [29]) (by kernel_rfl) (by simp) ?_
  refine AllReadyH.cons (o := ?oA_29) ?iA_29 (fun K hK => ?kA_29) AllReadyH.nil
  case iA_29 => (simp only [List.getElem?_toArray, List.getElem?_cons_succ, List.getElem?_cons_zero]; rfl)
  go_simp
  ((with_reducible refine (waywardenlaw08_num.calls _ _ _ rfl).mono ?_); rintro e w4 ⟨rfl, hd⟩; have hb := hd.below; clear hd; dsimp only)
  refine hK.out _ _ ?hA_29 (fun hHeld2 => ?mA_29)
  case hA_29 => exact Many.later hHeld hb
  clear hK K hHeld
  have hHeld := hHeld2
  clear hHeld2
  try simp only [Act.put, List.setIfInBounds_toArray, List.set_cons_zero, List.set_cons_succ]
  refine wpAnyH_take (i := 31) (oi := ?oA_31) (v := ?vA_31) ?iA_31 (by kernel_rfl) (by kernel_rfl) (by kernel_rfl) ?qA_31 ?yA_31 hHeld ?nA_31
  case iA_31 => (simp only [List.getElem?_toArray, List.getElem?_cons_succ, List.getElem?_cons_zero]; rfl)
  case yA_31 => (refine Or.inl ⟨by kernel_rfl, ?_⟩; intro w' hSw; (try dsimp only at hSw); first | (go_simp; done) | (go_simp; with_reducible rfl))
  case qA_31 => exact fun _ _ _ h => h
  try simp only [Act.put, List.setIfInBounds_toArray, List.set_cons_zero, List.set_cons_succ]
  refine wpAnyH_take (i := 32) (oi := ?oA_32) (v := ?vA_32) ?iA_32 (by kernel_rfl) (by kernel_rfl) (by kernel_rfl) ?qA_32 ?yA_32 hHeld ?nA_32
  case iA_32 => (simp only [List.getElem?_toArray, List.getElem?_cons_succ, List.getElem?_cons_zero]; rfl)
  case yA_32 => (refine Or.inl ⟨by kernel_rfl, ?_⟩; intro w' hSw; (try dsimp only at hSw); first | (go_simp; done) | (go_simp; with_reducible rfl))
  case qA_32 => exact fun _ _ _ h => h
  try simp only [Act.put, List.setIfInBounds_toArray, List.set_cons_zero, List.set_cons_succ]
  refine wpAnyH_take (i := 33) (oi := ?oA_33) (v := ?vA_33) ?iA_33 (by kernel_rfl) (by kernel_rfl) (by kernel_rfl) ?qA_33 ?yA_33 hHeld ?nA_33
  case iA_33 => (simp only [List.getElem?_toArray, List.getElem?_cons_succ, List.getElem?_cons_zero]; rfl)
  case yA_33 => (refine Or.inl ⟨by kernel_rfl, ?_⟩; intro w' hSw; (try dsimp only at hSw); first | (go_simp; done) | (go_simp; with_reducible rfl))
  case qA_33 => exact fun _ _ _ h => h
  try simp only [Act.put, List.setIfInBounds_toArray, List.set_cons_zero, List.set_cons_succ]
  refine wpAnyH_ready (rs := [34]) (by kernel_rfl) (by simp) ?_
  refine AllReadyH.cons (o := ?oA_34) ?iA_34 (fun K hK => ?kA_34) AllReadyH.nil
  case iA_34 => (simp only [List.getElem?_toArray, List.getElem?_cons_succ, List.getElem?_cons_zero]; rfl)
  go_simp
  ((with_reducible refine (works_any _).mono ?_); rintro e w4 ⟨rfl, hb⟩; dsimp only)
  refine hK.out _ _ ?hA_34 (fun hHeld2 => ?mA_34)
  case hA_34 => exact Many.later hHeld hb
  clear hK K hHeld
  have hHeld := hHeld2
  clear hHeld2
  try simp only [Act.put, List.setIfInBounds_toArray, List.set_cons_zero, List.set_cons_succ]
  refine wpAnyH_take (i := 35) (oi := ?oA_35) (v := ?vA_35) ?iA_35 (by kernel_rfl) (by kernel_rfl) (by kernel_rfl) ?qA_35 ?yA_35 hHeld ?nA_35
  case iA_35 => (simp only [List.getElem?_toArray, List.getElem?_cons_succ, List.getElem?_cons_zero]; rfl)
  case yA_35 => (refine Or.inl ⟨by kernel_rfl, ?_⟩; intro w' hSw; (try dsimp only at hSw); first | (go_simp; done) | (go_simp; with_reducible rfl))
  case qA_35 => exact fun _ _ _ h => h
  try simp only [Act.put, List.setIfInBounds_toArray, List.set_cons_zero, List.set_cons_succ]
  refine wpAnyH_take (i := 36) (oi := ?oA_36) (v := ?vA_36) ?iA_36 (by kernel_rfl) (by kernel_rfl) (by kernel_rfl) ?qA_36 ?yA_36 hHeld ?nA_36
  case iA_36 => (simp only [List.getElem?_toArray, List.getElem?_cons_succ, List.getElem?_cons_zero]; rfl)
  case yA_36 => (refine Or.inl ⟨by kernel_rfl, ?_⟩; intro w' hSw; (try dsimp only at hSw); first | (go_simp; done) | (go_simp; with_reducible rfl))
  case qA_36 => exact fun _ _ _ h => h
  try simp only [Act.put, List.setIfInBounds_toArray, List.set_cons_zero, List.set_cons_succ]
  refine wpAnyH_done (by kernel_rfl) ?_ _
  have HB9 := Aside0.mk (thenB HM.out.bel HM.out.bel.size (Many.bel hHeld))
  clear hHeld k0' k1' k2' k3' k4' k5' k6' k7' k8' pp0' pp1' s0' s1' s2' s3' s4' s5' s6' s7' s8' t0' t1' t2' t3' t4' t5' t6' t7' t8'
  go_wp2
  go_ret
  exact ⟨rfl, HB9.out⟩
theorem pfx_none (w : World) : Kd.C k28 w none 0 [] := ⟨rfl, by decide, fun h => absurd h (Nat.lt_irrefl 0)⟩
attribute [local go_sem] beq_self_eq_true in
set_option maxRecDepth 100000 in
set_option maxHeartbeats 16000000 in
theorem cks_left_own (c0 c1 c2 c3 c4 c5 c6 cap : Int) (A : Option Addr) (l : List Pfx) (cc : Nat) (p0 p1 : Int) (x0 x1 x2 x3 x4 x5 x6 x7 : Int) (b : Bool) (Ps : Option Addr → Nat → Nat → World → Prop) (w : World) (hr : Kd.C k28 w A l.length l) (hc : l.length ≤ cc) (ha : AdrP l) (hm : l.length ≤ 140737488355328) (hfew : l.length ≤ 30) (hPS : ∀ B n d W W', Ps B n d W → Below W.heap.size W W' → Ps B n d W')
    (hCK : ∀ W : World, Kd.C k28 W A l.length l → Calls Try.prog 11 #[.agg #[.int .i64 c0, .int .i64 c1, .int .i64 c2, .int .i64 c3, .int .i64 c4, .int .i64 c5, .int .i64 c6, .int .i64 cap, .slice A l.length cc]] W fun e w' => e = .returned (.int .i64 2) ∧ Below W.heap.size W w') (hRR : ∀ W : World, Kd.C k28 W A l.length l → Calls Try.prog 14 #[.agg #[.int .i64 c0, .int .i64 c1, .int .i64 c2, .int .i64 c3, .int .i64 c4, .int .i64 c5, .int .i64 c6, .int .i64 cap, .slice A l.length cc]] W fun e w' => e = .returned (.bool false) ∧ Below W.heap.size W w') (hST : ∀ W : World, Kd.C k28 W A l.length l → Calls Try.prog 12 #[.slice A l.length cc] W fun e w' => (∃ B n d, e = .returned (.tuple #[.agg #[.int .i64 x0, .int .i64 x1, .int .i64 x2, .int .i64 x3, .int .i64 x4, .int .i64 x5, .int .i64 x6, .int .i64 x7, .slice B n d], .int .i64 0]) ∧ Ps B n d w') ∧ Below W.heap.size W w') (hRS : ∀ W : World, Kd.C k28 W A l.length l → Calls Try.prog 13 #[.slice A l.length cc] W fun e w' => (∃ B n d, e = .returned (.tuple #[.agg #[.int .i64 x0, .int .i64 x1, .int .i64 x2, .int .i64 x3, .int .i64 x4, .int .i64 x5, .int .i64 x6, .int .i64 x7, .slice B n d], .int .i64 0]) ∧ Ps B n d w') ∧ Below W.heap.size W w') (hOW : ∀ W : World, Kd.C k28 W A l.length l → Calls Try.prog 15 #[.agg #[.int .i64 c0, .int .i64 c1, .int .i64 c2, .int .i64 c3, .int .i64 c4, .int .i64 c5, .int .i64 c6, .int .i64 cap, .slice A l.length cc], .agg #[.int .u32 p0, .int .i64 p1]] W fun e w' => e = .returned (.bool b) ∧ Below W.heap.size W w') (hRO : ∀ W : World, Kd.C k28 W A l.length l → Calls Try.prog 16 #[.agg #[.int .i64 c0, .int .i64 c1, .int .i64 c2, .int .i64 c3, .int .i64 c4, .int .i64 c5, .int .i64 c6, .int .i64 cap, .slice A l.length cc], .agg #[.int .u32 p0, .int .i64 p1]] W fun e w' => e = .returned (.bool b) ∧ Below W.heap.size W w')
    (hSM : ∀ (B : Option Addr) (n d : Nat) (B2 : Option Addr) (n2 d2 : Nat) (W : World), Ps B n d W → Ps B2 n2 d2 W → Calls Try.prog 17 #[.agg #[.int .i64 x0, .int .i64 x1, .int .i64 x2, .int .i64 x3, .int .i64 x4, .int .i64 x5, .int .i64 x6, .int .i64 x7, .slice B n d], .agg #[.int .i64 x0, .int .i64 x1, .int .i64 x2, .int .i64 x3, .int .i64 x4, .int .i64 x5, .int .i64 x6, .int .i64 x7, .slice B2 n2 d2]] W fun e w' => e = .returned (.bool true) ∧ Below W.heap.size W w') :
    Calls Try.prog 3 #[.agg #[.int .i64 c0, .int .i64 c1, .int .i64 c2, .int .i64 c3, .int .i64 c4, .int .i64 c5, .int .i64 c6, .int .i64 cap, .slice A l.length cc], .agg #[.int .u32 p0, .int .i64 p1]] w fun e w' => e = .returned (.bool true) ∧ Below w.heap.size w w' := by
  have HR := Aside0.mk hr
  have HA := Aside0.mk ha
  clear hr ha
  have HF : Aside0 (waywardenlaw08_few.f c0 c1 c2 c3 c4 c5 c6 cap l = some true) := ⟨by unfold waywardenlaw08_few.f; congr 1; apply decide_eq_true; omega⟩
  have HhCK := Aside0.mk hCK
  have HhRR := Aside0.mk hRR
  have HhST := Aside0.mk hST
  have HhRS := Aside0.mk hRS
  have HhOW := Aside0.mk hOW
  have HhRO := Aside0.mk hRO
  have HhSM := Aside0.mk hSM
  have HhPS := Aside0.mk hPS
  clear hCK hRR hST hRS hOW hRO hSM hPS
  have HM : Aside0 (Many w [(w.heap.size, 24, #[.int .i64 c0, .int .i64 c1, .int .i64 c2, .int .i64 c3, .int .i64 c4, .int .i64 c5, .int .i64 c6, .int .i64 cap, .slice A l.length cc]), ((w.heap.size + 1), 28, #[.int .u32 p0, .int .i64 p1])] ((w.alloc (.cells #[.int .i64 c0, .int .i64 c1, .int .i64 c2, .int .i64 c3, .int .i64 c4, .int .i64 c5, .int .i64 c6, .int .i64 cap, .slice A l.length cc] 24)).alloc (.cells #[.int .u32 p0, .int .i64 p1] 28))) := ⟨by have h := Many.grow (Many.grow (Many.none w) 24 #[.int .i64 c0, .int .i64 c1, .int .i64 c2, .int .i64 c3, .int .i64 c4, .int .i64 c5, .int .i64 c6, .int .i64 cap, .slice A l.length cc]) 28 #[.int .u32 p0, .int .i64 p1]; simpa using h⟩
  have k0 := Blk.cell (Many.blk HM.out 0 _ _ _ rfl) 0 _ rfl
  have k1 := Blk.cell (Many.blk HM.out 0 _ _ _ rfl) 1 _ rfl
  have k2 := Blk.cell (Many.blk HM.out 0 _ _ _ rfl) 2 _ rfl
  have k3 := Blk.cell (Many.blk HM.out 0 _ _ _ rfl) 3 _ rfl
  have k4 := Blk.cell (Many.blk HM.out 0 _ _ _ rfl) 4 _ rfl
  have k5 := Blk.cell (Many.blk HM.out 0 _ _ _ rfl) 5 _ rfl
  have k6 := Blk.cell (Many.blk HM.out 0 _ _ _ rfl) 6 _ rfl
  have k7 := Blk.cell (Many.blk HM.out 0 _ _ _ rfl) 7 _ rfl
  have k8 := Blk.cell (Many.blk HM.out 0 _ _ _ rfl) 8 _ rfl
  have pp0 := Blk.cell (Many.blk HM.out 1 _ _ _ rfl) 0 _ rfl
  have pp1 := Blk.cell (Many.blk HM.out 1 _ _ _ rfl) 1 _ rfl
  go_enter Try.func3, Try.ntmps3
  go_upto_region 5 with (first
    | (go_at_call 8; ((with_reducible refine (waywardenlaw08_few.calls c0 c1 c2 c3 c4 c5 c6 cap A cc l true _ (Kd.C_below HR.out HM.out.bel) hc HF.out).mono ?_); rintro e w9 ⟨rfl, hb⟩; have HM := Aside0.mk (Many.later HM.out hb); (try clear k0 k1 k2 k3 k4 k5 k6 k7 k8 pp0 pp1); have k0 := Blk.cell (Many.blk HM.out 0 _ _ _ rfl) 0 _ rfl; have k1 := Blk.cell (Many.blk HM.out 0 _ _ _ rfl) 1 _ rfl; have k2 := Blk.cell (Many.blk HM.out 0 _ _ _ rfl) 2 _ rfl; have k3 := Blk.cell (Many.blk HM.out 0 _ _ _ rfl) 3 _ rfl; have k4 := Blk.cell (Many.blk HM.out 0 _ _ _ rfl) 4 _ rfl; have k5 := Blk.cell (Many.blk HM.out 0 _ _ _ rfl) 5 _ rfl; have k6 := Blk.cell (Many.blk HM.out 0 _ _ _ rfl) 6 _ rfl; have k7 := Blk.cell (Many.blk HM.out 0 _ _ _ rfl) 7 _ rfl; have k8 := Blk.cell (Many.blk HM.out 0 _ _ _ rfl) 8 _ rfl; have pp0 := Blk.cell (Many.blk HM.out 1 _ _ _ rfl) 0 _ rfl; have pp1 := Blk.cell (Many.blk HM.out 1 _ _ _ rfl) 1 _ rfl; clear hb))
    | (go_at_call 10; ((with_reducible refine (waywardenlaw08_num.calls _ _ _ rfl).mono ?_); rintro e w9 ⟨rfl, hd⟩; have hb := hd.below; clear hd; have HM := Aside0.mk (Many.later HM.out hb); (try clear k0 k1 k2 k3 k4 k5 k6 k7 k8 pp0 pp1); have k0 := Blk.cell (Many.blk HM.out 0 _ _ _ rfl) 0 _ rfl; have k1 := Blk.cell (Many.blk HM.out 0 _ _ _ rfl) 1 _ rfl; have k2 := Blk.cell (Many.blk HM.out 0 _ _ _ rfl) 2 _ rfl; have k3 := Blk.cell (Many.blk HM.out 0 _ _ _ rfl) 3 _ rfl; have k4 := Blk.cell (Many.blk HM.out 0 _ _ _ rfl) 4 _ rfl; have k5 := Blk.cell (Many.blk HM.out 0 _ _ _ rfl) 5 _ rfl; have k6 := Blk.cell (Many.blk HM.out 0 _ _ _ rfl) 6 _ rfl; have k7 := Blk.cell (Many.blk HM.out 0 _ _ _ rfl) 7 _ rfl; have k8 := Blk.cell (Many.blk HM.out 0 _ _ _ rfl) 8 _ rfl; have pp0 := Blk.cell (Many.blk HM.out 1 _ _ _ rfl) 0 _ rfl; have pp1 := Blk.cell (Many.blk HM.out 1 _ _ _ rfl) 1 _ rfl; clear hb))
    | (go_at_call 11; ((with_reducible refine (HhCK.out _ (Kd.C_below HR.out HM.out.bel)).mono ?_); rintro e w9 ⟨rfl, hb⟩; have HM := Aside0.mk (Many.later HM.out hb); (try clear k0 k1 k2 k3 k4 k5 k6 k7 k8 pp0 pp1); have k0 := Blk.cell (Many.blk HM.out 0 _ _ _ rfl) 0 _ rfl; have k1 := Blk.cell (Many.blk HM.out 0 _ _ _ rfl) 1 _ rfl; have k2 := Blk.cell (Many.blk HM.out 0 _ _ _ rfl) 2 _ rfl; have k3 := Blk.cell (Many.blk HM.out 0 _ _ _ rfl) 3 _ rfl; have k4 := Blk.cell (Many.blk HM.out 0 _ _ _ rfl) 4 _ rfl; have k5 := Blk.cell (Many.blk HM.out 0 _ _ _ rfl) 5 _ rfl; have k6 := Blk.cell (Many.blk HM.out 0 _ _ _ rfl) 6 _ rfl; have k7 := Blk.cell (Many.blk HM.out 0 _ _ _ rfl) 7 _ rfl; have k8 := Blk.cell (Many.blk HM.out 0 _ _ _ rfl) 8 _ rfl; have pp0 := Blk.cell (Many.blk HM.out 1 _ _ _ rfl) 0 _ rfl; have pp1 := Blk.cell (Many.blk HM.out 1 _ _ _ rfl) 1 _ rfl; clear hb))
    | (go_at_call 12; ((with_reducible refine (HhST.out _ (Kd.C_below HR.out HM.out.bel)).mono ?_); rintro e w9 ⟨⟨B, n, d, rfl, hp⟩, hb⟩; have HP1 := Aside0.mk (HhPS.out _ _ _ _ _ hp (below_alloc (Below.refl _ _) (.cells #[.int .i64 x0, .int .i64 x1, .int .i64 x2, .int .i64 x3, .int .i64 x4, .int .i64 x5, .int .i64 x6, .int .i64 x7, .slice B n d] 24))); clear hp; have HM := Aside0.mk (Many.later HM.out hb); (try clear k0 k1 k2 k3 k4 k5 k6 k7 k8 pp0 pp1); have k0 := Blk.cell (Many.blk HM.out 0 _ _ _ rfl) 0 _ rfl; have k1 := Blk.cell (Many.blk HM.out 0 _ _ _ rfl) 1 _ rfl; have k2 := Blk.cell (Many.blk HM.out 0 _ _ _ rfl) 2 _ rfl; have k3 := Blk.cell (Many.blk HM.out 0 _ _ _ rfl) 3 _ rfl; have k4 := Blk.cell (Many.blk HM.out 0 _ _ _ rfl) 4 _ rfl; have k5 := Blk.cell (Many.blk HM.out 0 _ _ _ rfl) 5 _ rfl; have k6 := Blk.cell (Many.blk HM.out 0 _ _ _ rfl) 6 _ rfl; have k7 := Blk.cell (Many.blk HM.out 0 _ _ _ rfl) 7 _ rfl; have k8 := Blk.cell (Many.blk HM.out 0 _ _ _ rfl) 8 _ rfl; have pp0 := Blk.cell (Many.blk HM.out 1 _ _ _ rfl) 0 _ rfl; have pp1 := Blk.cell (Many.blk HM.out 1 _ _ _ rfl) 1 _ rfl; clear hb)))
  have HM0 := Aside0.mk (Many.grow HM.out 24 #[.int .i64 x0, .int .i64 x1, .int .i64 x2, .int .i64 x3, .int .i64 x4, .int .i64 x5, .int .i64 x6, .int .i64 x7, .slice B n d])
  obtain ⟨gs, hgs⟩ : ∃ g, w9.heap.size = g := ⟨_, rfl⟩
  obtain ⟨Ws, hWs⟩ : ∃ W', w9.alloc (.cells #[.int .i64 x0, .int .i64 x1, .int .i64 x2, .int .i64 x3, .int .i64 x4, .int .i64 x5, .int .i64 x6, .int .i64 x7, .slice B n d] 24) = W' := ⟨_, rfl⟩
  have hns : ∀ p v, w9.cell? p = some v → p.block < gs := fun p v h => by rw [← hgs]; exact World.block_lt_of_cell? w9 p h
  rw [hWs, hgs] at HM0
  rw [hWs] at HP1
  rw [hWs, hgs]
  have lts_k := hns _ _ (Blk.cell (Many.blk HM.out 0 _ _ _ rfl) 0 _ rfl)
  have lts_pp := hns _ _ (Blk.cell (Many.blk HM.out 1 _ _ _ rfl) 0 _ rfl)
  clear hns hgs hWs k0 k1 k2 k3 k4 k5 k6 k7 k8 pp0 pp1 HM
  have HM : Aside0 (Many w [(w.heap.size, 24, #[.int .i64 c0, .int .i64 c1, .int .i64 c2, .int .i64 c3, .int .i64 c4, .int .i64 c5, .int .i64 c6, .int .i64 cap, .slice A l.length cc]), ((w.heap.size + 1), 28, #[.int .u32 p0, .int .i64 p1]), (gs, 24, #[.int .i64 x0, .int .i64 x1, .int .i64 x2, .int .i64 x3, .int .i64 x4, .int .i64 x5, .int .i64 x6, .int .i64 x7, .slice B n d])] Ws) := ⟨HM0.out⟩
  clear HM0
  have k0 := Blk.cell (Many.blk HM.out 0 _ _ _ rfl) 0 _ rfl
  have k1 := Blk.cell (Many.blk HM.out 0 _ _ _ rfl) 1 _ rfl
  have k2 := Blk.cell (Many.blk HM.out 0 _ _ _ rfl) 2 _ rfl
  have k3 := Blk.cell (Many.blk HM.out 0 _ _ _ rfl) 3 _ rfl
  have k4 := Blk.cell (Many.blk HM.out 0 _ _ _ rfl) 4 _ rfl
  have k5 := Blk.cell (Many.blk HM.out 0 _ _ _ rfl) 5 _ rfl
  have k6 := Blk.cell (Many.blk HM.out 0 _ _ _ rfl) 6 _ rfl
  have k7 := Blk.cell (Many.blk HM.out 0 _ _ _ rfl) 7 _ rfl
  have k8 := Blk.cell (Many.blk HM.out 0 _ _ _ rfl) 8 _ rfl
  have pp0 := Blk.cell (Many.blk HM.out 1 _ _ _ rfl) 0 _ rfl
  have pp1 := Blk.cell (Many.blk HM.out 1 _ _ _ rfl) 1 _ rfl
  have s0 := Blk.cell (Many.blk HM.out 2 _ _ _ rfl) 0 _ rfl
  have s1 := Blk.cell (Many.blk HM.out 2 _ _ _ rfl) 1 _ rfl
  have s2 := Blk.cell (Many.blk HM.out 2 _ _ _ rfl) 2 _ rfl
  have s3 := Blk.cell (Many.blk HM.out 2 _ _ _ rfl) 3 _ rfl
  have s4 := Blk.cell (Many.blk HM.out 2 _ _ _ rfl) 4 _ rfl
  have s5 := Blk.cell (Many.blk HM.out 2 _ _ _ rfl) 5 _ rfl
  have s6 := Blk.cell (Many.blk HM.out 2 _ _ _ rfl) 6 _ rfl
  have s7 := Blk.cell (Many.blk HM.out 2 _ _ _ rfl) 7 _ rfl
  have s8 := Blk.cell (Many.blk HM.out 2 _ _ _ rfl) 8 _ rfl
  go_upto_region 6 with (go_at_call 13; ((with_reducible refine (HhRS.out _ (Kd.C_below HR.out HM.out.bel)).mono ?_); rintro e w9 ⟨⟨B2, n2, d2, rfl, hp⟩, hb⟩; have HP1 := Aside0.mk (HhPS.out _ _ _ _ _ HP1.out hb); have HP1 := Aside0.mk (HhPS.out _ _ _ _ _ HP1.out (below_alloc (Below.refl _ _) (.cells #[.int .i64 x0, .int .i64 x1, .int .i64 x2, .int .i64 x3, .int .i64 x4, .int .i64 x5, .int .i64 x6, .int .i64 x7, .slice B2 n2 d2] 24))); have HP2 := Aside0.mk (HhPS.out _ _ _ _ _ hp (below_alloc (Below.refl _ _) (.cells #[.int .i64 x0, .int .i64 x1, .int .i64 x2, .int .i64 x3, .int .i64 x4, .int .i64 x5, .int .i64 x6, .int .i64 x7, .slice B2 n2 d2] 24))); clear hp; have HM := Aside0.mk (Many.later HM.out hb); (try clear k0 k1 k2 k3 k4 k5 k6 k7 k8 pp0 pp1 s0 s1 s2 s3 s4 s5 s6 s7 s8); have k0 := Blk.cell (Many.blk HM.out 0 _ _ _ rfl) 0 _ rfl; have k1 := Blk.cell (Many.blk HM.out 0 _ _ _ rfl) 1 _ rfl; have k2 := Blk.cell (Many.blk HM.out 0 _ _ _ rfl) 2 _ rfl; have k3 := Blk.cell (Many.blk HM.out 0 _ _ _ rfl) 3 _ rfl; have k4 := Blk.cell (Many.blk HM.out 0 _ _ _ rfl) 4 _ rfl; have k5 := Blk.cell (Many.blk HM.out 0 _ _ _ rfl) 5 _ rfl; have k6 := Blk.cell (Many.blk HM.out 0 _ _ _ rfl) 6 _ rfl; have k7 := Blk.cell (Many.blk HM.out 0 _ _ _ rfl) 7 _ rfl; have k8 := Blk.cell (Many.blk HM.out 0 _ _ _ rfl) 8 _ rfl; have pp0 := Blk.cell (Many.blk HM.out 1 _ _ _ rfl) 0 _ rfl; have pp1 := Blk.cell (Many.blk HM.out 1 _ _ _ rfl) 1 _ rfl; have s0 := Blk.cell (Many.blk HM.out 2 _ _ _ rfl) 0 _ rfl; have s1 := Blk.cell (Many.blk HM.out 2 _ _ _ rfl) 1 _ rfl; have s2 := Blk.cell (Many.blk HM.out 2 _ _ _ rfl) 2 _ rfl; have s3 := Blk.cell (Many.blk HM.out 2 _ _ _ rfl) 3 _ rfl; have s4 := Blk.cell (Many.blk HM.out 2 _ _ _ rfl) 4 _ rfl; have s5 := Blk.cell (Many.blk HM.out 2 _ _ _ rfl) 5 _ rfl; have s6 := Blk.cell (Many.blk HM.out 2 _ _ _ rfl) 6 _ rfl; have s7 := Blk.cell (Many.blk HM.out 2 _ _ _ rfl) 7 _ rfl; have s8 := Blk.cell (Many.blk HM.out 2 _ _ _ rfl) 8 _ rfl; clear hb))
  have HM0 := Aside0.mk (Many.grow HM.out 24 #[.int .i64 x0, .int .i64 x1, .int .i64 x2, .int .i64 x3, .int .i64 x4, .int .i64 x5, .int .i64 x6, .int .i64 x7, .slice B2 n2 d2])
  obtain ⟨gt, hgt⟩ : ∃ g, w9.heap.size = g := ⟨_, rfl⟩
  obtain ⟨Wt, hWt⟩ : ∃ W', w9.alloc (.cells #[.int .i64 x0, .int .i64 x1, .int .i64 x2, .int .i64 x3, .int .i64 x4, .int .i64 x5, .int .i64 x6, .int .i64 x7, .slice B2 n2 d2] 24) = W' := ⟨_, rfl⟩
  have hnt : ∀ p v, w9.cell? p = some v → p.block < gt := fun p v h => by rw [← hgt]; exact World.block_lt_of_cell? w9 p h
  rw [hWt, hgt] at HM0
  rw [hWt] at HP1
  rw [hWt] at HP2
  rw [hWt, hgt]
  have ltt_k := hnt _ _ (Blk.cell (Many.blk HM.out 0 _ _ _ rfl) 0 _ rfl)
  have ltt_pp := hnt _ _ (Blk.cell (Many.blk HM.out 1 _ _ _ rfl) 0 _ rfl)
  have ltt_s := hnt _ _ (Blk.cell (Many.blk HM.out 2 _ _ _ rfl) 0 _ rfl)
  clear hnt hgt hWt k0 k1 k2 k3 k4 k5 k6 k7 k8 pp0 pp1 s0 s1 s2 s3 s4 s5 s6 s7 s8 HM
  have HM : Aside0 (Many w [(w.heap.size, 24, #[.int .i64 c0, .int .i64 c1, .int .i64 c2, .int .i64 c3, .int .i64 c4, .int .i64 c5, .int .i64 c6, .int .i64 cap, .slice A l.length cc]), ((w.heap.size + 1), 28, #[.int .u32 p0, .int .i64 p1]), (gs, 24, #[.int .i64 x0, .int .i64 x1, .int .i64 x2, .int .i64 x3, .int .i64 x4, .int .i64 x5, .int .i64 x6, .int .i64 x7, .slice B n d]), (gt, 24, #[.int .i64 x0, .int .i64 x1, .int .i64 x2, .int .i64 x3, .int .i64 x4, .int .i64 x5, .int .i64 x6, .int .i64 x7, .slice B2 n2 d2])] Wt) := ⟨HM0.out⟩
  clear HM0
  have k0 := Blk.cell (Many.blk HM.out 0 _ _ _ rfl) 0 _ rfl
  have k1 := Blk.cell (Many.blk HM.out 0 _ _ _ rfl) 1 _ rfl
  have k2 := Blk.cell (Many.blk HM.out 0 _ _ _ rfl) 2 _ rfl
  have k3 := Blk.cell (Many.blk HM.out 0 _ _ _ rfl) 3 _ rfl
  have k4 := Blk.cell (Many.blk HM.out 0 _ _ _ rfl) 4 _ rfl
  have k5 := Blk.cell (Many.blk HM.out 0 _ _ _ rfl) 5 _ rfl
  have k6 := Blk.cell (Many.blk HM.out 0 _ _ _ rfl) 6 _ rfl
  have k7 := Blk.cell (Many.blk HM.out 0 _ _ _ rfl) 7 _ rfl
  have k8 := Blk.cell (Many.blk HM.out 0 _ _ _ rfl) 8 _ rfl
  have pp0 := Blk.cell (Many.blk HM.out 1 _ _ _ rfl) 0 _ rfl
  have pp1 := Blk.cell (Many.blk HM.out 1 _ _ _ rfl) 1 _ rfl
  have s0 := Blk.cell (Many.blk HM.out 2 _ _ _ rfl) 0 _ rfl
  have s1 := Blk.cell (Many.blk HM.out 2 _ _ _ rfl) 1 _ rfl
  have s2 := Blk.cell (Many.blk HM.out 2 _ _ _ rfl) 2 _ rfl
  have s3 := Blk.cell (Many.blk HM.out 2 _ _ _ rfl) 3 _ rfl
  have s4 := Blk.cell (Many.blk HM.out 2 _ _ _ rfl) 4 _ rfl
  have s5 := Blk.cell (Many.blk HM.out 2 _ _ _ rfl) 5 _ rfl
  have s6 := Blk.cell (Many.blk HM.out 2 _ _ _ rfl) 6 _ rfl
  have s7 := Blk.cell (Many.blk HM.out 2 _ _ _ rfl) 7 _ rfl
  have s8 := Blk.cell (Many.blk HM.out 2 _ _ _ rfl) 8 _ rfl
  have t0 := Blk.cell (Many.blk HM.out 3 _ _ _ rfl) 0 _ rfl
  have t1 := Blk.cell (Many.blk HM.out 3 _ _ _ rfl) 1 _ rfl
  have t2 := Blk.cell (Many.blk HM.out 3 _ _ _ rfl) 2 _ rfl
  have t3 := Blk.cell (Many.blk HM.out 3 _ _ _ rfl) 3 _ rfl
  have t4 := Blk.cell (Many.blk HM.out 3 _ _ _ rfl) 4 _ rfl
  have t5 := Blk.cell (Many.blk HM.out 3 _ _ _ rfl) 5 _ rfl
  have t6 := Blk.cell (Many.blk HM.out 3 _ _ _ rfl) 6 _ rfl
  have t7 := Blk.cell (Many.blk HM.out 3 _ _ _ rfl) 7 _ rfl
  have t8 := Blk.cell (Many.blk HM.out 3 _ _ _ rfl) 8 _ rfl
  have HRT : Aside0 (Many Wt [(w.heap.size, 24, #[.int .i64 c0, .int .i64 c1, .int .i64 c2, .int .i64 c3, .int .i64 c4, .int .i64 c5, .int .i64 c6, .int .i64 cap, .slice A l.length cc]), ((w.heap.size + 1), 28, #[.int .u32 p0, .int .i64 p1]), (gs, 24, #[.int .i64 x0, .int .i64 x1, .int .i64 x2, .int .i64 x3, .int .i64 x4, .int .i64 x5, .int .i64 x6, .int .i64 x7, .slice B n d]), (gt, 24, #[.int .i64 x0, .int .i64 x1, .int .i64 x2, .int .i64 x3, .int .i64 x4, .int .i64 x5, .int .i64 x6, .int .i64 x7, .slice B2 n2 d2])] Wt) := ⟨⟨HM.out.blk, Below.refl _ _⟩⟩
  have HRr := Aside0.mk (Kd.C_below HR.out HM.out.bel)
  have k0' : ∀ w' : World, Many Wt [(w.heap.size, 24, #[.int .i64 c0, .int .i64 c1, .int .i64 c2, .int .i64 c3, .int .i64 c4, .int .i64 c5, .int .i64 c6, .int .i64 cap, .slice A l.length cc]), ((w.heap.size + 1), 28, #[.int .u32 p0, .int .i64 p1]), (gs, 24, #[.int .i64 x0, .int .i64 x1, .int .i64 x2, .int .i64 x3, .int .i64 x4, .int .i64 x5, .int .i64 x6, .int .i64 x7, .slice B n d]), (gt, 24, #[.int .i64 x0, .int .i64 x1, .int .i64 x2, .int .i64 x3, .int .i64 x4, .int .i64 x5, .int .i64 x6, .int .i64 x7, .slice B2 n2 d2])] w' → w'.cell? ⟨w.heap.size, 0, none⟩ = some (.int .i64 c0) := fun w' h => Blk.cell (Many.blk h 0 _ _ _ rfl) 0 _ rfl
  have k1' : ∀ w' : World, Many Wt [(w.heap.size, 24, #[.int .i64 c0, .int .i64 c1, .int .i64 c2, .int .i64 c3, .int .i64 c4, .int .i64 c5, .int .i64 c6, .int .i64 cap, .slice A l.length cc]), ((w.heap.size + 1), 28, #[.int .u32 p0, .int .i64 p1]), (gs, 24, #[.int .i64 x0, .int .i64 x1, .int .i64 x2, .int .i64 x3, .int .i64 x4, .int .i64 x5, .int .i64 x6, .int .i64 x7, .slice B n d]), (gt, 24, #[.int .i64 x0, .int .i64 x1, .int .i64 x2, .int .i64 x3, .int .i64 x4, .int .i64 x5, .int .i64 x6, .int .i64 x7, .slice B2 n2 d2])] w' → w'.cell? ⟨w.heap.size, 1, none⟩ = some (.int .i64 c1) := fun w' h => Blk.cell (Many.blk h 0 _ _ _ rfl) 1 _ rfl
  have k2' : ∀ w' : World, Many Wt [(w.heap.size, 24, #[.int .i64 c0, .int .i64 c1, .int .i64 c2, .int .i64 c3, .int .i64 c4, .int .i64 c5, .int .i64 c6, .int .i64 cap, .slice A l.length cc]), ((w.heap.size + 1), 28, #[.int .u32 p0, .int .i64 p1]), (gs, 24, #[.int .i64 x0, .int .i64 x1, .int .i64 x2, .int .i64 x3, .int .i64 x4, .int .i64 x5, .int .i64 x6, .int .i64 x7, .slice B n d]), (gt, 24, #[.int .i64 x0, .int .i64 x1, .int .i64 x2, .int .i64 x3, .int .i64 x4, .int .i64 x5, .int .i64 x6, .int .i64 x7, .slice B2 n2 d2])] w' → w'.cell? ⟨w.heap.size, 2, none⟩ = some (.int .i64 c2) := fun w' h => Blk.cell (Many.blk h 0 _ _ _ rfl) 2 _ rfl
  have k3' : ∀ w' : World, Many Wt [(w.heap.size, 24, #[.int .i64 c0, .int .i64 c1, .int .i64 c2, .int .i64 c3, .int .i64 c4, .int .i64 c5, .int .i64 c6, .int .i64 cap, .slice A l.length cc]), ((w.heap.size + 1), 28, #[.int .u32 p0, .int .i64 p1]), (gs, 24, #[.int .i64 x0, .int .i64 x1, .int .i64 x2, .int .i64 x3, .int .i64 x4, .int .i64 x5, .int .i64 x6, .int .i64 x7, .slice B n d]), (gt, 24, #[.int .i64 x0, .int .i64 x1, .int .i64 x2, .int .i64 x3, .int .i64 x4, .int .i64 x5, .int .i64 x6, .int .i64 x7, .slice B2 n2 d2])] w' → w'.cell? ⟨w.heap.size, 3, none⟩ = some (.int .i64 c3) := fun w' h => Blk.cell (Many.blk h 0 _ _ _ rfl) 3 _ rfl
  have k4' : ∀ w' : World, Many Wt [(w.heap.size, 24, #[.int .i64 c0, .int .i64 c1, .int .i64 c2, .int .i64 c3, .int .i64 c4, .int .i64 c5, .int .i64 c6, .int .i64 cap, .slice A l.length cc]), ((w.heap.size + 1), 28, #[.int .u32 p0, .int .i64 p1]), (gs, 24, #[.int .i64 x0, .int .i64 x1, .int .i64 x2, .int .i64 x3, .int .i64 x4, .int .i64 x5, .int .i64 x6, .int .i64 x7, .slice B n d]), (gt, 24, #[.int .i64 x0, .int .i64 x1, .int .i64 x2, .int .i64 x3, .int .i64 x4, .int .i64 x5, .int .i64 x6, .int .i64 x7, .slice B2 n2 d2])] w' → w'.cell? ⟨w.heap.size, 4, none⟩ = some (.int .i64 c4) := fun w' h => Blk.cell (Many.blk h 0 _ _ _ rfl) 4 _ rfl
  have k5' : ∀ w' : World, Many Wt [(w.heap.size, 24, #[.int .i64 c0, .int .i64 c1, .int .i64 c2, .int .i64 c3, .int .i64 c4, .int .i64 c5, .int .i64 c6, .int .i64 cap, .slice A l.length cc]), ((w.heap.size + 1), 28, #[.int .u32 p0, .int .i64 p1]), (gs, 24, #[.int .i64 x0, .int .i64 x1, .int .i64 x2, .int .i64 x3, .int .i64 x4, .int .i64 x5, .int .i64 x6, .int .i64 x7, .slice B n d]), (gt, 24, #[.int .i64 x0, .int .i64 x1, .int .i64 x2, .int .i64 x3, .int .i64 x4, .int .i64 x5, .int .i64 x6, .int .i64 x7, .slice B2 n2 d2])] w' → w'.cell? ⟨w.heap.size, 5, none⟩ = some (.int .i64 c5) := fun w' h => Blk.cell (Many.blk h 0 _ _ _ rfl) 5 _ rfl
  have k6' : ∀ w' : World, Many Wt [(w.heap.size, 24, #[.int .i64 c0, .int .i64 c1, .int .i64 c2, .int .i64 c3, .int .i64 c4, .int .i64 c5, .int .i64 c6, .int .i64 cap, .slice A l.length cc]), ((w.heap.size + 1), 28, #[.int .u32 p0, .int .i64 p1]), (gs, 24, #[.int .i64 x0, .int .i64 x1, .int .i64 x2, .int .i64 x3, .int .i64 x4, .int .i64 x5, .int .i64 x6, .int .i64 x7, .slice B n d]), (gt, 24, #[.int .i64 x0, .int .i64 x1, .int .i64 x2, .int .i64 x3, .int .i64 x4, .int .i64 x5, .int .i64 x6, .int .i64 x7, .slice B2 n2 d2])] w' → w'.cell? ⟨w.heap.size, 6, none⟩ = some (.int .i64 c6) := fun w' h => Blk.cell (Many.blk h 0 _ _ _ rfl) 6 _ rfl
  have k7' : ∀ w' : World, Many Wt [(w.heap.size, 24, #[.int .i64 c0, .int .i64 c1, .int .i64 c2, .int .i64 c3, .int .i64 c4, .int .i64 c5, .int .i64 c6, .int .i64 cap, .slice A l.length cc]), ((w.heap.size + 1), 28, #[.int .u32 p0, .int .i64 p1]), (gs, 24, #[.int .i64 x0, .int .i64 x1, .int .i64 x2, .int .i64 x3, .int .i64 x4, .int .i64 x5, .int .i64 x6, .int .i64 x7, .slice B n d]), (gt, 24, #[.int .i64 x0, .int .i64 x1, .int .i64 x2, .int .i64 x3, .int .i64 x4, .int .i64 x5, .int .i64 x6, .int .i64 x7, .slice B2 n2 d2])] w' → w'.cell? ⟨w.heap.size, 7, none⟩ = some (.int .i64 cap) := fun w' h => Blk.cell (Many.blk h 0 _ _ _ rfl) 7 _ rfl
  have k8' : ∀ w' : World, Many Wt [(w.heap.size, 24, #[.int .i64 c0, .int .i64 c1, .int .i64 c2, .int .i64 c3, .int .i64 c4, .int .i64 c5, .int .i64 c6, .int .i64 cap, .slice A l.length cc]), ((w.heap.size + 1), 28, #[.int .u32 p0, .int .i64 p1]), (gs, 24, #[.int .i64 x0, .int .i64 x1, .int .i64 x2, .int .i64 x3, .int .i64 x4, .int .i64 x5, .int .i64 x6, .int .i64 x7, .slice B n d]), (gt, 24, #[.int .i64 x0, .int .i64 x1, .int .i64 x2, .int .i64 x3, .int .i64 x4, .int .i64 x5, .int .i64 x6, .int .i64 x7, .slice B2 n2 d2])] w' → w'.cell? ⟨w.heap.size, 8, none⟩ = some (.slice A l.length cc) := fun w' h => Blk.cell (Many.blk h 0 _ _ _ rfl) 8 _ rfl
  have pp0' : ∀ w' : World, Many Wt [(w.heap.size, 24, #[.int .i64 c0, .int .i64 c1, .int .i64 c2, .int .i64 c3, .int .i64 c4, .int .i64 c5, .int .i64 c6, .int .i64 cap, .slice A l.length cc]), ((w.heap.size + 1), 28, #[.int .u32 p0, .int .i64 p1]), (gs, 24, #[.int .i64 x0, .int .i64 x1, .int .i64 x2, .int .i64 x3, .int .i64 x4, .int .i64 x5, .int .i64 x6, .int .i64 x7, .slice B n d]), (gt, 24, #[.int .i64 x0, .int .i64 x1, .int .i64 x2, .int .i64 x3, .int .i64 x4, .int .i64 x5, .int .i64 x6, .int .i64 x7, .slice B2 n2 d2])] w' → w'.cell? ⟨(w.heap.size + 1), 0, none⟩ = some (.int .u32 p0) := fun w' h => Blk.cell (Many.blk h 1 _ _ _ rfl) 0 _ rfl
  have pp1' : ∀ w' : World, Many Wt [(w.heap.size, 24, #[.int .i64 c0, .int .i64 c1, .int .i64 c2, .int .i64 c3, .int .i64 c4, .int .i64 c5, .int .i64 c6, .int .i64 cap, .slice A l.length cc]), ((w.heap.size + 1), 28, #[.int .u32 p0, .int .i64 p1]), (gs, 24, #[.int .i64 x0, .int .i64 x1, .int .i64 x2, .int .i64 x3, .int .i64 x4, .int .i64 x5, .int .i64 x6, .int .i64 x7, .slice B n d]), (gt, 24, #[.int .i64 x0, .int .i64 x1, .int .i64 x2, .int .i64 x3, .int .i64 x4, .int .i64 x5, .int .i64 x6, .int .i64 x7, .slice B2 n2 d2])] w' → w'.cell? ⟨(w.heap.size + 1), 1, none⟩ = some (.int .i64 p1) := fun w' h => Blk.cell (Many.blk h 1 _ _ _ rfl) 1 _ rfl
  have s0' : ∀ w' : World, Many Wt [(w.heap.size, 24, #[.int .i64 c0, .int .i64 c1, .int .i64 c2, .int .i64 c3, .int .i64 c4, .int .i64 c5, .int .i64 c6, .int .i64 cap, .slice A l.length cc]), ((w.heap.size + 1), 28, #[.int .u32 p0, .int .i64 p1]), (gs, 24, #[.int .i64 x0, .int .i64 x1, .int .i64 x2, .int .i64 x3, .int .i64 x4, .int .i64 x5, .int .i64 x6, .int .i64 x7, .slice B n d]), (gt, 24, #[.int .i64 x0, .int .i64 x1, .int .i64 x2, .int .i64 x3, .int .i64 x4, .int .i64 x5, .int .i64 x6, .int .i64 x7, .slice B2 n2 d2])] w' → w'.cell? ⟨gs, 0, none⟩ = some (.int .i64 x0) := fun w' h => Blk.cell (Many.blk h 2 _ _ _ rfl) 0 _ rfl
  have s1' : ∀ w' : World, Many Wt [(w.heap.size, 24, #[.int .i64 c0, .int .i64 c1, .int .i64 c2, .int .i64 c3, .int .i64 c4, .int .i64 c5, .int .i64 c6, .int .i64 cap, .slice A l.length cc]), ((w.heap.size + 1), 28, #[.int .u32 p0, .int .i64 p1]), (gs, 24, #[.int .i64 x0, .int .i64 x1, .int .i64 x2, .int .i64 x3, .int .i64 x4, .int .i64 x5, .int .i64 x6, .int .i64 x7, .slice B n d]), (gt, 24, #[.int .i64 x0, .int .i64 x1, .int .i64 x2, .int .i64 x3, .int .i64 x4, .int .i64 x5, .int .i64 x6, .int .i64 x7, .slice B2 n2 d2])] w' → w'.cell? ⟨gs, 1, none⟩ = some (.int .i64 x1) := fun w' h => Blk.cell (Many.blk h 2 _ _ _ rfl) 1 _ rfl
  have s2' : ∀ w' : World, Many Wt [(w.heap.size, 24, #[.int .i64 c0, .int .i64 c1, .int .i64 c2, .int .i64 c3, .int .i64 c4, .int .i64 c5, .int .i64 c6, .int .i64 cap, .slice A l.length cc]), ((w.heap.size + 1), 28, #[.int .u32 p0, .int .i64 p1]), (gs, 24, #[.int .i64 x0, .int .i64 x1, .int .i64 x2, .int .i64 x3, .int .i64 x4, .int .i64 x5, .int .i64 x6, .int .i64 x7, .slice B n d]), (gt, 24, #[.int .i64 x0, .int .i64 x1, .int .i64 x2, .int .i64 x3, .int .i64 x4, .int .i64 x5, .int .i64 x6, .int .i64 x7, .slice B2 n2 d2])] w' → w'.cell? ⟨gs, 2, none⟩ = some (.int .i64 x2) := fun w' h => Blk.cell (Many.blk h 2 _ _ _ rfl) 2 _ rfl
  have s3' : ∀ w' : World, Many Wt [(w.heap.size, 24, #[.int .i64 c0, .int .i64 c1, .int .i64 c2, .int .i64 c3, .int .i64 c4, .int .i64 c5, .int .i64 c6, .int .i64 cap, .slice A l.length cc]), ((w.heap.size + 1), 28, #[.int .u32 p0, .int .i64 p1]), (gs, 24, #[.int .i64 x0, .int .i64 x1, .int .i64 x2, .int .i64 x3, .int .i64 x4, .int .i64 x5, .int .i64 x6, .int .i64 x7, .slice B n d]), (gt, 24, #[.int .i64 x0, .int .i64 x1, .int .i64 x2, .int .i64 x3, .int .i64 x4, .int .i64 x5, .int .i64 x6, .int .i64 x7, .slice B2 n2 d2])] w' → w'.cell? ⟨gs, 3, none⟩ = some (.int .i64 x3) := fun w' h => Blk.cell (Many.blk h 2 _ _ _ rfl) 3 _ rfl
  have s4' : ∀ w' : World, Many Wt [(w.heap.size, 24, #[.int .i64 c0, .int .i64 c1, .int .i64 c2, .int .i64 c3, .int .i64 c4, .int .i64 c5, .int .i64 c6, .int .i64 cap, .slice A l.length cc]), ((w.heap.size + 1), 28, #[.int .u32 p0, .int .i64 p1]), (gs, 24, #[.int .i64 x0, .int .i64 x1, .int .i64 x2, .int .i64 x3, .int .i64 x4, .int .i64 x5, .int .i64 x6, .int .i64 x7, .slice B n d]), (gt, 24, #[.int .i64 x0, .int .i64 x1, .int .i64 x2, .int .i64 x3, .int .i64 x4, .int .i64 x5, .int .i64 x6, .int .i64 x7, .slice B2 n2 d2])] w' → w'.cell? ⟨gs, 4, none⟩ = some (.int .i64 x4) := fun w' h => Blk.cell (Many.blk h 2 _ _ _ rfl) 4 _ rfl
  have s5' : ∀ w' : World, Many Wt [(w.heap.size, 24, #[.int .i64 c0, .int .i64 c1, .int .i64 c2, .int .i64 c3, .int .i64 c4, .int .i64 c5, .int .i64 c6, .int .i64 cap, .slice A l.length cc]), ((w.heap.size + 1), 28, #[.int .u32 p0, .int .i64 p1]), (gs, 24, #[.int .i64 x0, .int .i64 x1, .int .i64 x2, .int .i64 x3, .int .i64 x4, .int .i64 x5, .int .i64 x6, .int .i64 x7, .slice B n d]), (gt, 24, #[.int .i64 x0, .int .i64 x1, .int .i64 x2, .int .i64 x3, .int .i64 x4, .int .i64 x5, .int .i64 x6, .int .i64 x7, .slice B2 n2 d2])] w' → w'.cell? ⟨gs, 5, none⟩ = some (.int .i64 x5) := fun w' h => Blk.cell (Many.blk h 2 _ _ _ rfl) 5 _ rfl
  have s6' : ∀ w' : World, Many Wt [(w.heap.size, 24, #[.int .i64 c0, .int .i64 c1, .int .i64 c2, .int .i64 c3, .int .i64 c4, .int .i64 c5, .int .i64 c6, .int .i64 cap, .slice A l.length cc]), ((w.heap.size + 1), 28, #[.int .u32 p0, .int .i64 p1]), (gs, 24, #[.int .i64 x0, .int .i64 x1, .int .i64 x2, .int .i64 x3, .int .i64 x4, .int .i64 x5, .int .i64 x6, .int .i64 x7, .slice B n d]), (gt, 24, #[.int .i64 x0, .int .i64 x1, .int .i64 x2, .int .i64 x3, .int .i64 x4, .int .i64 x5, .int .i64 x6, .int .i64 x7, .slice B2 n2 d2])] w' → w'.cell? ⟨gs, 6, none⟩ = some (.int .i64 x6) := fun w' h => Blk.cell (Many.blk h 2 _ _ _ rfl) 6 _ rfl
  have s7' : ∀ w' : World, Many Wt [(w.heap.size, 24, #[.int .i64 c0, .int .i64 c1, .int .i64 c2, .int .i64 c3, .int .i64 c4, .int .i64 c5, .int .i64 c6, .int .i64 cap, .slice A l.length cc]), ((w.heap.size + 1), 28, #[.int .u32 p0, .int .i64 p1]), (gs, 24, #[.int .i64 x0, .int .i64 x1, .int .i64 x2, .int .i64 x3, .int .i64 x4, .int .i64 x5, .int .i64 x6, .int .i64 x7, .slice B n d]), (gt, 24, #[.int .i64 x0, .int .i64 x1, .int .i64 x2, .int .i64 x3, .int .i64 x4, .int .i64 x5, .int .i64 x6, .int .i64 x7, .slice B2 n2 d2])] w' → w'.cell? ⟨gs, 7, none⟩ = some (.int .i64 x7) := fun w' h => Blk.cell (Many.blk h 2 _ _ _ rfl) 7 _ rfl
  have s8' : ∀ w' : World, Many Wt [(w.heap.size, 24, #[.int .i64 c0, .int .i64 c1, .int .i64 c2, .int .i64 c3, .int .i64 c4, .int .i64 c5, .int .i64 c6, .int .i64 cap, .slice A l.length cc]), ((w.heap.size + 1), 28, #[.int .u32 p0, .int .i64 p1]), (gs, 24, #[.int .i64 x0, .int .i64 x1, .int .i64 x2, .int .i64 x3, .int .i64 x4, .int .i64 x5, .int .i64 x6, .int .i64 x7, .slice B n d]), (gt, 24, #[.int .i64 x0, .int .i64 x1, .int .i64 x2, .int .i64 x3, .int .i64 x4, .int .i64 x5, .int .i64 x6, .int .i64 x7, .slice B2 n2 d2])] w' → w'.cell? ⟨gs, 8, none⟩ = some (.slice B n d) := fun w' h => Blk.cell (Many.blk h 2 _ _ _ rfl) 8 _ rfl
  have t0' : ∀ w' : World, Many Wt [(w.heap.size, 24, #[.int .i64 c0, .int .i64 c1, .int .i64 c2, .int .i64 c3, .int .i64 c4, .int .i64 c5, .int .i64 c6, .int .i64 cap, .slice A l.length cc]), ((w.heap.size + 1), 28, #[.int .u32 p0, .int .i64 p1]), (gs, 24, #[.int .i64 x0, .int .i64 x1, .int .i64 x2, .int .i64 x3, .int .i64 x4, .int .i64 x5, .int .i64 x6, .int .i64 x7, .slice B n d]), (gt, 24, #[.int .i64 x0, .int .i64 x1, .int .i64 x2, .int .i64 x3, .int .i64 x4, .int .i64 x5, .int .i64 x6, .int .i64 x7, .slice B2 n2 d2])] w' → w'.cell? ⟨gt, 0, none⟩ = some (.int .i64 x0) := fun w' h => Blk.cell (Many.blk h 3 _ _ _ rfl) 0 _ rfl
  have t1' : ∀ w' : World, Many Wt [(w.heap.size, 24, #[.int .i64 c0, .int .i64 c1, .int .i64 c2, .int .i64 c3, .int .i64 c4, .int .i64 c5, .int .i64 c6, .int .i64 cap, .slice A l.length cc]), ((w.heap.size + 1), 28, #[.int .u32 p0, .int .i64 p1]), (gs, 24, #[.int .i64 x0, .int .i64 x1, .int .i64 x2, .int .i64 x3, .int .i64 x4, .int .i64 x5, .int .i64 x6, .int .i64 x7, .slice B n d]), (gt, 24, #[.int .i64 x0, .int .i64 x1, .int .i64 x2, .int .i64 x3, .int .i64 x4, .int .i64 x5, .int .i64 x6, .int .i64 x7, .slice B2 n2 d2])] w' → w'.cell? ⟨gt, 1, none⟩ = some (.int .i64 x1) := fun w' h => Blk.cell (Many.blk h 3 _ _ _ rfl) 1 _ rfl
  have t2' : ∀ w' : World, Many Wt [(w.heap.size, 24, #[.int .i64 c0, .int .i64 c1, .int .i64 c2, .int .i64 c3, .int .i64 c4, .int .i64 c5, .int .i64 c6, .int .i64 cap, .slice A l.length cc]), ((w.heap.size + 1), 28, #[.int .u32 p0, .int .i64 p1]), (gs, 24, #[.int .i64 x0, .int .i64 x1, .int .i64 x2, .int .i64 x3, .int .i64 x4, .int .i64 x5, .int .i64 x6, .int .i64 x7, .slice B n d]), (gt, 24, #[.int .i64 x0, .int .i64 x1, .int .i64 x2, .int .i64 x3, .int .i64 x4, .int .i64 x5, .int .i64 x6, .int .i64 x7, .slice B2 n2 d2])] w' → w'.cell? ⟨gt, 2, none⟩ = some (.int .i64 x2) := fun w' h => Blk.cell (Many.blk h 3 _ _ _ rfl) 2 _ rfl
  have t3' : ∀ w' : World, Many Wt [(w.heap.size, 24, #[.int .i64 c0, .int .i64 c1, .int .i64 c2, .int .i64 c3, .int .i64 c4, .int .i64 c5, .int .i64 c6, .int .i64 cap, .slice A l.length cc]), ((w.heap.size + 1), 28, #[.int .u32 p0, .int .i64 p1]), (gs, 24, #[.int .i64 x0, .int .i64 x1, .int .i64 x2, .int .i64 x3, .int .i64 x4, .int .i64 x5, .int .i64 x6, .int .i64 x7, .slice B n d]), (gt, 24, #[.int .i64 x0, .int .i64 x1, .int .i64 x2, .int .i64 x3, .int .i64 x4, .int .i64 x5, .int .i64 x6, .int .i64 x7, .slice B2 n2 d2])] w' → w'.cell? ⟨gt, 3, none⟩ = some (.int .i64 x3) := fun w' h => Blk.cell (Many.blk h 3 _ _ _ rfl) 3 _ rfl
  have t4' : ∀ w' : World, Many Wt [(w.heap.size, 24, #[.int .i64 c0, .int .i64 c1, .int .i64 c2, .int .i64 c3, .int .i64 c4, .int .i64 c5, .int .i64 c6, .int .i64 cap, .slice A l.length cc]), ((w.heap.size + 1), 28, #[.int .u32 p0, .int .i64 p1]), (gs, 24, #[.int .i64 x0, .int .i64 x1, .int .i64 x2, .int .i64 x3, .int .i64 x4, .int .i64 x5, .int .i64 x6, .int .i64 x7, .slice B n d]), (gt, 24, #[.int .i64 x0, .int .i64 x1, .int .i64 x2, .int .i64 x3, .int .i64 x4, .int .i64 x5, .int .i64 x6, .int .i64 x7, .slice B2 n2 d2])] w' → w'.cell? ⟨gt, 4, none⟩ = some (.int .i64 x4) := fun w' h => Blk.cell (Many.blk h 3 _ _ _ rfl) 4 _ rfl
  have t5' : ∀ w' : World, Many Wt [(w.heap.size, 24, #[.int .i64 c0, .int .i64 c1, .int .i64 c2, .int .i64 c3, .int .i64 c4, .int .i64 c5, .int .i64 c6, .int .i64 cap, .slice A l.length cc]), ((w.heap.size + 1), 28, #[.int .u32 p0, .int .i64 p1]), (gs, 24, #[.int .i64 x0, .int .i64 x1, .int .i64 x2, .int .i64 x3, .int .i64 x4, .int .i64 x5, .int .i64 x6, .int .i64 x7, .slice B n d]), (gt, 24, #[.int .i64 x0, .int .i64 x1, .int .i64 x2, .int .i64 x3, .int .i64 x4, .int .i64 x5, .int .i64 x6, .int .i64 x7, .slice B2 n2 d2])] w' → w'.cell? ⟨gt, 5, none⟩ = some (.int .i64 x5) := fun w' h => Blk.cell (Many.blk h 3 _ _ _ rfl) 5 _ rfl
  have t6' : ∀ w' : World, Many Wt [(w.heap.size, 24, #[.int .i64 c0, .int .i64 c1, .int .i64 c2, .int .i64 c3, .int .i64 c4, .int .i64 c5, .int .i64 c6, .int .i64 cap, .slice A l.length cc]), ((w.heap.size + 1), 28, #[.int .u32 p0, .int .i64 p1]), (gs, 24, #[.int .i64 x0, .int .i64 x1, .int .i64 x2, .int .i64 x3, .int .i64 x4, .int .i64 x5, .int .i64 x6, .int .i64 x7, .slice B n d]), (gt, 24, #[.int .i64 x0, .int .i64 x1, .int .i64 x2, .int .i64 x3, .int .i64 x4, .int .i64 x5, .int .i64 x6, .int .i64 x7, .slice B2 n2 d2])] w' → w'.cell? ⟨gt, 6, none⟩ = some (.int .i64 x6) := fun w' h => Blk.cell (Many.blk h 3 _ _ _ rfl) 6 _ rfl
  have t7' : ∀ w' : World, Many Wt [(w.heap.size, 24, #[.int .i64 c0, .int .i64 c1, .int .i64 c2, .int .i64 c3, .int .i64 c4, .int .i64 c5, .int .i64 c6, .int .i64 cap, .slice A l.length cc]), ((w.heap.size + 1), 28, #[.int .u32 p0, .int .i64 p1]), (gs, 24, #[.int .i64 x0, .int .i64 x1, .int .i64 x2, .int .i64 x3, .int .i64 x4, .int .i64 x5, .int .i64 x6, .int .i64 x7, .slice B n d]), (gt, 24, #[.int .i64 x0, .int .i64 x1, .int .i64 x2, .int .i64 x3, .int .i64 x4, .int .i64 x5, .int .i64 x6, .int .i64 x7, .slice B2 n2 d2])] w' → w'.cell? ⟨gt, 7, none⟩ = some (.int .i64 x7) := fun w' h => Blk.cell (Many.blk h 3 _ _ _ rfl) 7 _ rfl
  have t8' : ∀ w' : World, Many Wt [(w.heap.size, 24, #[.int .i64 c0, .int .i64 c1, .int .i64 c2, .int .i64 c3, .int .i64 c4, .int .i64 c5, .int .i64 c6, .int .i64 cap, .slice A l.length cc]), ((w.heap.size + 1), 28, #[.int .u32 p0, .int .i64 p1]), (gs, 24, #[.int .i64 x0, .int .i64 x1, .int .i64 x2, .int .i64 x3, .int .i64 x4, .int .i64 x5, .int .i64 x6, .int .i64 x7, .slice B n d]), (gt, 24, #[.int .i64 x0, .int .i64 x1, .int .i64 x2, .int .i64 x3, .int .i64 x4, .int .i64 x5, .int .i64 x6, .int .i64 x7, .slice B2 n2 d2])] w' → w'.cell? ⟨gt, 8, none⟩ = some (.slice B2 n2 d2) := fun w' h => Blk.cell (Many.blk h 3 _ _ _ rfl) 8 _ rfl
  clear k0 k1 k2 k3 k4 k5 k6 k7 k8 pp0 pp1 s0 s1 s2 s3 s4 s5 s6 s7 s8 t0 t1 t2 t3 t4 t5 t6 t7 t8 HR
  refine wp_region_held_drew (S := fun w' => Many Wt [(w.heap.size, 24, #[.int .i64 c0, .int .i64 c1, .int .i64 c2, .int .i64 c3, .int .i64 c4, .int .i64 c5, .int .i64 c6, .int .i64 cap, .slice A l.length cc]), ((w.heap.size + 1), 28, #[.int .u32 p0, .int .i64 p1]), (gs, 24, #[.int .i64 x0, .int .i64 x1, .int .i64 x2, .int .i64 x3, .int .i64 x4, .int .i64 x5, .int .i64 x6, .int .i64 x7, .slice B n d]), (gt, 24, #[.int .i64 x0, .int .i64 x1, .int .i64 x2, .int .i64 x3, .int .i64 x4, .int .i64 x5, .int .i64 x6, .int .i64 x7, .slice B2 n2 d2])] w') (by kernel_rfl) ?sA (fun hHeld => ?rA)
  case sA => exact Many.drew HRT.out
  refine wpAnyH_take (i := 0) (oi := ?oA_0) (v := ?vA_0) ?iA_0 (by kernel_rfl) (by kernel_rfl) (by kernel_rfl) ?qA_0 ?yA_0 hHeld ?nA_0
  case iA_0 => (simp only [List.getElem?_toArray, List.getElem?_cons_succ, List.getElem?_cons_zero]; rfl)
  case yA_0 => (refine Or.inl ⟨by kernel_rfl, ?_⟩; intro w' hSw; (try dsimp only at hSw); first | (go_simp; done) | (go_simp; with_reducible rfl))
  case qA_0 => exact fun _ _ _ h => h
  try simp only [Act.put, List.setIfInBounds_toArray, List.set_cons_zero, List.set_cons_succ]
  refine wpAnyH_take (i := 1) (oi := ?oA_1) (v := ?vA_1) ?iA_1 (by kernel_rfl) (by kernel_rfl) (by kernel_rfl) ?qA_1 ?yA_1 hHeld ?nA_1
  case iA_1 => (simp only [List.getElem?_toArray, List.getElem?_cons_succ, List.getElem?_cons_zero]; rfl)
  case yA_1 => (refine Or.inl ⟨by kernel_rfl, ?_⟩; intro w' hSw; (try dsimp only at hSw); first | (go_simp; done) | (go_simp; with_reducible rfl))
  case qA_1 => exact fun _ _ _ h => h
  try simp only [Act.put, List.setIfInBounds_toArray, List.set_cons_zero, List.set_cons_succ]
  refine wpAnyH_take (i := 2) (oi := ?oA_2) (v := ?vA_2) ?iA_2 (by kernel_rfl) (by kernel_rfl) (by kernel_rfl) ?qA_2 ?yA_2 hHeld ?nA_2
  case iA_2 => (simp only [List.getElem?_toArray, List.getElem?_cons_succ, List.getElem?_cons_zero]; rfl)
  case yA_2 => (refine Or.inl ⟨by kernel_rfl, ?_⟩; intro w' hSw; (try dsimp only at hSw); first | (go_simp; done) | (go_simp; with_reducible rfl))
  case qA_2 => exact fun _ _ _ h => h
  try simp only [Act.put, List.setIfInBounds_toArray, List.set_cons_zero, List.set_cons_succ]
  refine wpAnyH_ready (rs := [3]) (by kernel_rfl) (by simp) ?_
  refine AllReadyH.cons (o := ?oA_3) ?iA_3 (fun K hK => ?kA_3) AllReadyH.nil
  case iA_3 => (simp only [List.getElem?_toArray, List.getElem?_cons_succ, List.getElem?_cons_zero]; rfl)
  go_simp
  ((with_reducible refine (HhRR.out _ (Kd.C_below HRr.out hHeld.bel)).mono ?_); rintro e w4 ⟨rfl, hb⟩; dsimp only)
  refine hK.out _ _ ?hA_3 (fun hHeld2 => ?mA_3)
  case hA_3 => exact Many.later hHeld hb
  clear hK K hHeld
  have hHeld := hHeld2
  clear hHeld2
  try simp only [Act.put, List.setIfInBounds_toArray, List.set_cons_zero, List.set_cons_succ]
  refine wpAnyH_take (i := 4) (oi := ?oA_4) (v := ?vA_4) ?iA_4 (by kernel_rfl) (by kernel_rfl) (by kernel_rfl) ?qA_4 ?yA_4 hHeld ?nA_4
  case iA_4 => (simp only [List.getElem?_toArray, List.getElem?_cons_succ, List.getElem?_cons_zero]; rfl)
  case yA_4 => (refine Or.inl ⟨by kernel_rfl, ?_⟩; intro w' hSw; (try dsimp only at hSw); first | (go_simp; done) | (go_simp; with_reducible rfl))
  case qA_4 => exact fun _ _ _ h => h
  try simp only [Act.put, List.setIfInBounds_toArray, List.set_cons_zero, List.set_cons_succ]
  refine wpAnyH_take (i := 5) (oi := ?oA_5) (v := ?vA_5) ?iA_5 (by kernel_rfl) (by kernel_rfl) (by kernel_rfl) ?qA_5 ?yA_5 hHeld ?nA_5
  case iA_5 => (simp only [List.getElem?_toArray, List.getElem?_cons_succ, List.getElem?_cons_zero]; rfl)
  case yA_5 => (refine Or.inl ⟨by kernel_rfl, ?_⟩; intro w' hSw; (try dsimp only at hSw); first | (go_simp; done) | (go_simp; with_reducible rfl))
  case qA_5 => exact fun _ _ _ h => h
  try simp only [Act.put, List.setIfInBounds_toArray, List.set_cons_zero, List.set_cons_succ]
  refine wpAnyH_take (i := 6) (oi := ?oA_6) (v := ?vA_6) ?iA_6 (by kernel_rfl) (by kernel_rfl) (by kernel_rfl) ?qA_6 ?yA_6 hHeld ?nA_6
  case iA_6 => (simp only [List.getElem?_toArray, List.getElem?_cons_succ, List.getElem?_cons_zero]; rfl)
  case yA_6 => (refine Or.inl ⟨by kernel_rfl, ?_⟩; intro w' hSw; (try dsimp only at hSw); first | (go_simp; done) | (go_simp; with_reducible rfl))
  case qA_6 => exact fun _ _ _ h => h
  try simp only [Act.put, List.setIfInBounds_toArray, List.set_cons_zero, List.set_cons_succ]
  refine wpAnyH_take (i := 7) (oi := ?oA_7) (v := ?vA_7) ?iA_7 (by kernel_rfl) (by kernel_rfl) (by kernel_rfl) ?qA_7 ?yA_7 hHeld ?nA_7
  case iA_7 => (simp only [List.getElem?_toArray, List.getElem?_cons_succ, List.getElem?_cons_zero]; rfl)
  case yA_7 => (refine Or.inl ⟨by kernel_rfl, ?_⟩; intro w' hSw; (try dsimp only at hSw); first | (go_simp; done) | (go_simp; with_reducible rfl))
  case qA_7 => exact fun _ _ _ h => h
  try simp only [Act.put, List.setIfInBounds_toArray, List.set_cons_zero, List.set_cons_succ]
  refine wpAnyH_take (i := 8) (oi := ?oA_8) (v := ?vA_8) ?iA_8 (by kernel_rfl) (by kernel_rfl) (by kernel_rfl) ?qA_8 ?yA_8 hHeld ?nA_8
  case iA_8 => (simp only [List.getElem?_toArray, List.getElem?_cons_succ, List.getElem?_cons_zero]; rfl)
  case yA_8 => (refine Or.inl ⟨by kernel_rfl, ?_⟩; intro w' hSw; (try dsimp only at hSw); first | (go_simp; done) | (go_simp; with_reducible rfl))
  case qA_8 => exact fun _ _ _ h => h
  try simp only [Act.put, List.setIfInBounds_toArray, List.set_cons_zero, List.set_cons_succ]
  refine wpAnyH_take (i := 9) (oi := ?oA_9) (v := ?vA_9) ?iA_9 (by kernel_rfl) (by kernel_rfl) (by kernel_rfl) ?qA_9 ?yA_9 hHeld ?nA_9
  case iA_9 => (simp only [List.getElem?_toArray, List.getElem?_cons_succ, List.getElem?_cons_zero]; rfl)
  case yA_9 => (refine Or.inl ⟨by kernel_rfl, ?_⟩; intro w' hSw; (try dsimp only at hSw); first | (go_simp; done) | (go_simp; with_reducible rfl))
  case qA_9 => exact fun _ _ _ h => h
  try simp only [Act.put, List.setIfInBounds_toArray, List.set_cons_zero, List.set_cons_succ]
  refine wpAnyH_take (i := 10) (oi := ?oA_10) (v := ?vA_10) ?iA_10 (by kernel_rfl) (by kernel_rfl) (by kernel_rfl) ?qA_10 ?yA_10 hHeld ?nA_10
  case iA_10 => (simp only [List.getElem?_toArray, List.getElem?_cons_succ, List.getElem?_cons_zero]; rfl)
  case yA_10 => (refine Or.inl ⟨by kernel_rfl, ?_⟩; intro w' hSw; (try dsimp only at hSw); first | (go_simp; done) | (go_simp; with_reducible rfl))
  case qA_10 => exact fun _ _ _ h => h
  try simp only [Act.put, List.setIfInBounds_toArray, List.set_cons_zero, List.set_cons_succ]
  refine wpAnyH_take (i := 11) (oi := ?oA_11) (v := ?vA_11) ?iA_11 (by kernel_rfl) (by kernel_rfl) (by kernel_rfl) ?qA_11 ?yA_11 hHeld ?nA_11
  case iA_11 => (simp only [List.getElem?_toArray, List.getElem?_cons_succ, List.getElem?_cons_zero]; rfl)
  case yA_11 => (refine Or.inl ⟨by kernel_rfl, ?_⟩; intro w' hSw; (try dsimp only at hSw); first | (go_simp; done) | (go_simp; with_reducible rfl))
  case qA_11 => exact fun _ _ _ h => h
  try simp only [Act.put, List.setIfInBounds_toArray, List.set_cons_zero, List.set_cons_succ]
  refine wpAnyH_take (i := 12) (oi := ?oA_12) (v := ?vA_12) ?iA_12 (by kernel_rfl) (by kernel_rfl) (by kernel_rfl) ?qA_12 ?yA_12 hHeld ?nA_12
  case iA_12 => (simp only [List.getElem?_toArray, List.getElem?_cons_succ, List.getElem?_cons_zero]; rfl)
  case yA_12 => (refine Or.inl ⟨by kernel_rfl, ?_⟩; intro w' hSw; (try dsimp only at hSw); first | (go_simp; done) | (go_simp; with_reducible rfl))
  case qA_12 => exact fun _ _ _ h => h
  try simp only [Act.put, List.setIfInBounds_toArray, List.set_cons_zero, List.set_cons_succ]
  refine wpAnyH_take (i := 13) (oi := ?oA_13) (v := ?vA_13) ?iA_13 (by kernel_rfl) (by kernel_rfl) (by kernel_rfl) ?qA_13 ?yA_13 hHeld ?nA_13
  case iA_13 => (simp only [List.getElem?_toArray, List.getElem?_cons_succ, List.getElem?_cons_zero]; rfl)
  case yA_13 => (refine Or.inl ⟨by kernel_rfl, ?_⟩; intro w' hSw; (try dsimp only at hSw); first | (go_simp; done) | (go_simp; with_reducible rfl))
  case qA_13 => exact fun _ _ _ h => h
  try simp only [Act.put, List.setIfInBounds_toArray, List.set_cons_zero, List.set_cons_succ]
  refine wpAnyH_take (i := 14) (oi := ?oA_14) (v := ?vA_14) ?iA_14 (by kernel_rfl) (by kernel_rfl) (by kernel_rfl) ?qA_14 ?yA_14 hHeld ?nA_14
  case iA_14 => (simp only [List.getElem?_toArray, List.getElem?_cons_succ, List.getElem?_cons_zero]; rfl)
  case yA_14 => (refine Or.inl ⟨by kernel_rfl, ?_⟩; intro w' hSw; (try dsimp only at hSw); first | (go_simp; done) | (go_simp; with_reducible rfl))
  case qA_14 => exact fun _ _ _ h => h
  try simp only [Act.put, List.setIfInBounds_toArray, List.set_cons_zero, List.set_cons_succ]
  refine wpAnyH_take (i := 15) (oi := ?oA_15) (v := ?vA_15) ?iA_15 (by kernel_rfl) (by kernel_rfl) (by kernel_rfl) ?qA_15 ?yA_15 hHeld ?nA_15
  case iA_15 => (simp only [List.getElem?_toArray, List.getElem?_cons_succ, List.getElem?_cons_zero]; rfl)
  case yA_15 => (refine Or.inl ⟨by kernel_rfl, ?_⟩; intro w' hSw; (try dsimp only at hSw); first | (go_simp; done) | (go_simp; with_reducible rfl))
  case qA_15 => exact fun _ _ _ h => h
  try simp only [Act.put, List.setIfInBounds_toArray, List.set_cons_zero, List.set_cons_succ]
  refine wpAnyH_take (i := 17) (oi := ?oA_17) (v := ?vA_17) ?iA_17 (by kernel_rfl) (by kernel_rfl) (by kernel_rfl) ?qA_17 ?yA_17 hHeld ?nA_17
  case iA_17 => (simp only [List.getElem?_toArray, List.getElem?_cons_succ, List.getElem?_cons_zero]; rfl)
  case yA_17 => (refine Or.inl ⟨by kernel_rfl, ?_⟩; intro w' hSw; (try dsimp only at hSw); first | (go_simp; done) | (go_simp; with_reducible rfl))
  case qA_17 => exact fun _ _ _ h => h
  try simp only [Act.put, List.setIfInBounds_toArray, List.set_cons_zero, List.set_cons_succ]
  refine wpAnyH_take (i := 18) (oi := ?oA_18) (v := ?vA_18) ?iA_18 (by kernel_rfl) (by kernel_rfl) (by kernel_rfl) ?qA_18 ?yA_18 hHeld ?nA_18
  case iA_18 => (simp only [List.getElem?_toArray, List.getElem?_cons_succ, List.getElem?_cons_zero]; rfl)
  case yA_18 => (refine Or.inl ⟨by kernel_rfl, ?_⟩; intro w' hSw; (try dsimp only at hSw); first | (go_simp; done) | (go_simp; with_reducible rfl))
  case qA_18 => exact fun _ _ _ h => h
  try simp only [Act.put, List.setIfInBounds_toArray, List.set_cons_zero, List.set_cons_succ]
  refine wpAnyH_ready (rs := [16]) (by kernel_rfl) (by simp) ?_
  refine AllReadyH.cons (o := ?oA_16) ?iA_16 (fun K hK => ?kA_16) AllReadyH.nil
  case iA_16 => (simp only [List.getElem?_toArray, List.getElem?_cons_succ, List.getElem?_cons_zero]; rfl)
  go_simp
  ((with_reducible refine (HhOW.out _ (Kd.C_below HRr.out hHeld.bel)).mono ?_); rintro e w4 ⟨rfl, hb⟩; dsimp only)
  refine hK.out _ _ ?hA_16 (fun hHeld2 => ?mA_16)
  case hA_16 => exact Many.later hHeld hb
  clear hK K hHeld
  have hHeld := hHeld2
  clear hHeld2
  try simp only [Act.put, List.setIfInBounds_toArray, List.set_cons_zero, List.set_cons_succ]
  refine wpAnyH_ready (rs := [19]) (by kernel_rfl) (by simp) ?_
  refine AllReadyH.cons (o := ?oA_19) ?iA_19 (fun K hK => ?kA_19) AllReadyH.nil
  case iA_19 => (simp only [List.getElem?_toArray, List.getElem?_cons_succ, List.getElem?_cons_zero]; rfl)
  go_simp
  ((with_reducible refine (HhRO.out _ (Kd.C_below HRr.out hHeld.bel)).mono ?_); rintro e w4 ⟨rfl, hb⟩; dsimp only)
  refine hK.out _ _ ?hA_19 (fun hHeld2 => ?mA_19)
  case hA_19 => exact Many.later hHeld hb
  clear hK K hHeld
  have hHeld := hHeld2
  clear hHeld2
  try simp only [Act.put, List.setIfInBounds_toArray, List.set_cons_zero, List.set_cons_succ]
  refine wpAnyH_take (i := 20) (oi := ?oA_20) (v := ?vA_20) ?iA_20 (by kernel_rfl) (by kernel_rfl) (by kernel_rfl) ?qA_20 ?yA_20 hHeld ?nA_20
  case iA_20 => (simp only [List.getElem?_toArray, List.getElem?_cons_succ, List.getElem?_cons_zero]; rfl)
  case yA_20 => (refine Or.inl ⟨by kernel_rfl, ?_⟩; intro w' hSw; (try dsimp only at hSw); first | (go_simp; done) | (go_simp; with_reducible rfl))
  case qA_20 => exact fun _ _ _ h => h
  try simp only [Act.put, List.setIfInBounds_toArray, List.set_cons_zero, List.set_cons_succ]
  refine wpAnyH_take (i := 21) (oi := ?oA_21) (v := ?vA_21) ?iA_21 (by kernel_rfl) (by kernel_rfl) (by kernel_rfl) ?qA_21 ?yA_21 hHeld ?nA_21
  case iA_21 => (simp only [List.getElem?_toArray, List.getElem?_cons_succ, List.getElem?_cons_zero]; rfl)
  case yA_21 => (refine Or.inl ⟨by kernel_rfl, ?_⟩; intro w' hSw; (try dsimp only at hSw); first | (go_simp; done) | (go_simp; with_reducible rfl))
  case qA_21 => exact fun _ _ _ h => h
  try simp only [Act.put, List.setIfInBounds_toArray, List.set_cons_zero, List.set_cons_succ]
  refine wpAnyH_take (i := 22) (oi := ?oA_22) (v := ?vA_22) ?iA_22 (by kernel_rfl) (by kernel_rfl) (by kernel_rfl) ?qA_22 ?yA_22 hHeld ?nA_22
  case iA_22 => (simp only [List.getElem?_toArray, List.getElem?_cons_succ, List.getElem?_cons_zero]; rfl)
  case yA_22 => (refine Or.inl ⟨by kernel_rfl, ?_⟩; intro w' hSw; (try dsimp only at hSw); first | (go_simp; done) | (go_simp; with_reducible rfl))
  case qA_22 => exact fun _ _ _ h => h
  try simp only [Act.put, List.setIfInBounds_toArray, List.set_cons_zero, List.set_cons_succ]
  refine wpAnyH_take (i := 23) (oi := ?oA_23) (v := ?vA_23) ?iA_23 (by kernel_rfl) (by kernel_rfl) (by kernel_rfl) ?qA_23 ?yA_23 hHeld ?nA_23
  case iA_23 => (simp only [List.getElem?_toArray, List.getElem?_cons_succ, List.getElem?_cons_zero]; rfl)
  case yA_23 => (refine Or.inl ⟨by kernel_rfl, ?_⟩; intro w' hSw; (try dsimp only at hSw); first | (go_simp; done) | (go_simp; with_reducible rfl))
  case qA_23 => exact fun _ _ _ h => h
  try simp only [Act.put, List.setIfInBounds_toArray, List.set_cons_zero, List.set_cons_succ]
  refine wpAnyH_take (i := 24) (oi := ?oA_24) (v := ?vA_24) ?iA_24 (by kernel_rfl) (by kernel_rfl) (by kernel_rfl) ?qA_24 ?yA_24 hHeld ?nA_24
  case iA_24 => (simp only [List.getElem?_toArray, List.getElem?_cons_succ, List.getElem?_cons_zero]; rfl)
  case yA_24 => (refine Or.inl ⟨by kernel_rfl, ?_⟩; intro w' hSw; (try dsimp only at hSw); first | (go_simp; done) | (go_simp; with_reducible rfl))
  case qA_24 => exact fun _ _ _ h => h
  try simp only [Act.put, List.setIfInBounds_toArray, List.set_cons_zero, List.set_cons_succ]
  refine wpAnyH_ready (rs := [25]) (by kernel_rfl) (by simp) ?_
  refine AllReadyH.cons (o := ?oA_25) ?iA_25 (fun K hK => ?kA_25) AllReadyH.nil
  case iA_25 => (simp only [List.getElem?_toArray, List.getElem?_cons_succ, List.getElem?_cons_zero]; rfl)
  go_simp
  ((with_reducible refine (HhSM.out _ _ _ _ _ _ _ (HhPS.out _ _ _ _ _ HP1.out hHeld.bel) (HhPS.out _ _ _ _ _ HP2.out hHeld.bel)).mono ?_); rintro e w4 ⟨rfl, hb⟩; dsimp only)
  refine hK.out _ _ ?hA_25 (fun hHeld2 => ?mA_25)
  case hA_25 => exact Many.later hHeld hb
  clear hK K hHeld
  have hHeld := hHeld2
  clear hHeld2
  try simp only [Act.put, List.setIfInBounds_toArray, List.set_cons_zero, List.set_cons_succ]
  refine wpAnyH_take (i := 26) (oi := ?oA_26) (v := ?vA_26) ?iA_26 (by kernel_rfl) (by kernel_rfl) (by kernel_rfl) ?qA_26 ?yA_26 hHeld ?nA_26
  case iA_26 => (simp only [List.getElem?_toArray, List.getElem?_cons_succ, List.getElem?_cons_zero]; rfl)
  case yA_26 => (refine Or.inl ⟨by kernel_rfl, ?_⟩; intro w' hSw; (try dsimp only at hSw); first | (go_simp; done) | (go_simp; with_reducible rfl))
  case qA_26 => exact fun _ _ _ h => h
  try simp only [Act.put, List.setIfInBounds_toArray, List.set_cons_zero, List.set_cons_succ]
  refine wpAnyH_take (i := 27) (oi := ?oA_27) (v := ?vA_27) ?iA_27 (by kernel_rfl) (by kernel_rfl) (by kernel_rfl) ?qA_27 ?yA_27 hHeld ?nA_27
  case iA_27 => (simp only [List.getElem?_toArray, List.getElem?_cons_succ, List.getElem?_cons_zero]; rfl)
  case yA_27 => (refine Or.inl ⟨by kernel_rfl, ?_⟩; intro w' hSw; (try dsimp only at hSw); first | (go_simp; done) | (go_simp; with_reducible rfl))
  case qA_27 => exact fun _ _ _ h => h
  try simp only [Act.put, List.setIfInBounds_toArray, List.set_cons_zero, List.set_cons_succ]
  refine wpAnyH_take (i := 28) (oi := ?oA_28) (v := ?vA_28) ?iA_28 (by kernel_rfl) (by kernel_rfl) (by kernel_rfl) ?qA_28 ?yA_28 hHeld ?nA_28
  case iA_28 => (simp only [List.getElem?_toArray, List.getElem?_cons_succ, List.getElem?_cons_zero]; rfl)
  case yA_28 => (refine Or.inl ⟨by kernel_rfl, ?_⟩; intro w' hSw; (try dsimp only at hSw); first | (go_simp; done) | (go_simp; with_reducible rfl))
  case qA_28 => exact fun _ _ _ h => h
  try simp only [Act.put, List.setIfInBounds_toArray, List.set_cons_zero, List.set_cons_succ]
  refine wpAnyH_take (i := 30) (oi := ?oA_30) (v := ?vA_30) ?iA_30 (by kernel_rfl) (by kernel_rfl) (by kernel_rfl) ?qA_30 ?yA_30 hHeld ?nA_30
  case iA_30 => (simp only [List.getElem?_toArray, List.getElem?_cons_succ, List.getElem?_cons_zero]; rfl)
  case yA_30 => (refine Or.inl ⟨by kernel_rfl, ?_⟩; intro w' hSw; (try dsimp only at hSw); first | (go_simp; done) | (go_simp; with_reducible rfl))
  case qA_30 => exact fun _ _ _ h => h
  try simp only [Act.put, List.setIfInBounds_toArray, List.set_cons_zero, List.set_cons_succ]
  refine wpAnyH_ready (rs := [29]) (by kernel_rfl) (by simp) ?_
  refine AllReadyH.cons (o := ?oA_29) ?iA_29 (fun K hK => ?kA_29) AllReadyH.nil
  case iA_29 => (simp only [List.getElem?_toArray, List.getElem?_cons_succ, List.getElem?_cons_zero]; rfl)
  go_simp
  ((with_reducible refine (waywardenlaw08_num.calls _ _ _ rfl).mono ?_); rintro e w4 ⟨rfl, hd⟩; have hb := hd.below; clear hd; dsimp only)
  refine hK.out _ _ ?hA_29 (fun hHeld2 => ?mA_29)
  case hA_29 => exact Many.later hHeld hb
  clear hK K hHeld
  have hHeld := hHeld2
  clear hHeld2
  try simp only [Act.put, List.setIfInBounds_toArray, List.set_cons_zero, List.set_cons_succ]
  refine wpAnyH_take (i := 31) (oi := ?oA_31) (v := ?vA_31) ?iA_31 (by kernel_rfl) (by kernel_rfl) (by kernel_rfl) ?qA_31 ?yA_31 hHeld ?nA_31
  case iA_31 => (simp only [List.getElem?_toArray, List.getElem?_cons_succ, List.getElem?_cons_zero]; rfl)
  case yA_31 => (refine Or.inl ⟨by kernel_rfl, ?_⟩; intro w' hSw; (try dsimp only at hSw); first | (go_simp; done) | (go_simp; with_reducible rfl))
  case qA_31 => exact fun _ _ _ h => h
  try simp only [Act.put, List.setIfInBounds_toArray, List.set_cons_zero, List.set_cons_succ]
  refine wpAnyH_take (i := 32) (oi := ?oA_32) (v := ?vA_32) ?iA_32 (by kernel_rfl) (by kernel_rfl) (by kernel_rfl) ?qA_32 ?yA_32 hHeld ?nA_32
  case iA_32 => (simp only [List.getElem?_toArray, List.getElem?_cons_succ, List.getElem?_cons_zero]; rfl)
  case yA_32 => (refine Or.inl ⟨by kernel_rfl, ?_⟩; intro w' hSw; (try dsimp only at hSw); first | (go_simp; done) | (go_simp; with_reducible rfl))
  case qA_32 => exact fun _ _ _ h => h
  try simp only [Act.put, List.setIfInBounds_toArray, List.set_cons_zero, List.set_cons_succ]
  refine wpAnyH_take (i := 33) (oi := ?oA_33) (v := ?vA_33) ?iA_33 (by kernel_rfl) (by kernel_rfl) (by kernel_rfl) ?qA_33 ?yA_33 hHeld ?nA_33
  case iA_33 => (simp only [List.getElem?_toArray, List.getElem?_cons_succ, List.getElem?_cons_zero]; rfl)
  case yA_33 => (refine Or.inl ⟨by kernel_rfl, ?_⟩; intro w' hSw; (try dsimp only at hSw); first | (go_simp; done) | (go_simp; with_reducible rfl))
  case qA_33 => exact fun _ _ _ h => h
  try simp only [Act.put, List.setIfInBounds_toArray, List.set_cons_zero, List.set_cons_succ]
  refine wpAnyH_ready (rs := [34]) (by kernel_rfl) (by simp) ?_
  refine AllReadyH.cons (o := ?oA_34) ?iA_34 (fun K hK => ?kA_34) AllReadyH.nil
  case iA_34 => (simp only [List.getElem?_toArray, List.getElem?_cons_succ, List.getElem?_cons_zero]; rfl)
  go_simp
  ((with_reducible refine (works_any _).mono ?_); rintro e w4 ⟨rfl, hb⟩; dsimp only)
  refine hK.out _ _ ?hA_34 (fun hHeld2 => ?mA_34)
  case hA_34 => exact Many.later hHeld hb
  clear hK K hHeld
  have hHeld := hHeld2
  clear hHeld2
  try simp only [Act.put, List.setIfInBounds_toArray, List.set_cons_zero, List.set_cons_succ]
  refine wpAnyH_take (i := 35) (oi := ?oA_35) (v := ?vA_35) ?iA_35 (by kernel_rfl) (by kernel_rfl) (by kernel_rfl) ?qA_35 ?yA_35 hHeld ?nA_35
  case iA_35 => (simp only [List.getElem?_toArray, List.getElem?_cons_succ, List.getElem?_cons_zero]; rfl)
  case yA_35 => (refine Or.inl ⟨by kernel_rfl, ?_⟩; intro w' hSw; (try dsimp only at hSw); first | (go_simp; done) | (go_simp; with_reducible rfl))
  case qA_35 => exact fun _ _ _ h => h
  try simp only [Act.put, List.setIfInBounds_toArray, List.set_cons_zero, List.set_cons_succ]
  refine wpAnyH_take (i := 36) (oi := ?oA_36) (v := ?vA_36) ?iA_36 (by kernel_rfl) (by kernel_rfl) (by kernel_rfl) ?qA_36 ?yA_36 hHeld ?nA_36
  case iA_36 => (simp only [List.getElem?_toArray, List.getElem?_cons_succ, List.getElem?_cons_zero]; rfl)
  case yA_36 => (refine Or.inl ⟨by kernel_rfl, ?_⟩; intro w' hSw; (try dsimp only at hSw); first | (go_simp; done) | (go_simp; with_reducible rfl))
  case qA_36 => exact fun _ _ _ h => h
  try simp only [Act.put, List.setIfInBounds_toArray, List.set_cons_zero, List.set_cons_succ]
  refine wpAnyH_done (by kernel_rfl) ?_ _
  have HB9 := Aside0.mk (thenB HM.out.bel HM.out.bel.size (Many.bel hHeld))
  clear hHeld k0' k1' k2' k3' k4' k5' k6' k7' k8' pp0' pp1' s0' s1' s2' s3' s4' s5' s6' s7' s8' t0' t1' t2' t3' t4' t5' t6' t7' t8'
  go_wp2
  go_ret
  exact ⟨rfl, HB9.out⟩
attribute [local go_sem] beq_self_eq_true in
set_option maxRecDepth 100000 in
set_option maxHeartbeats 16000000 in
theorem cks_left_not (c0 c1 c2 c3 c4 c5 c6 cap : Int) (A : Option Addr) (l : List Pfx) (cc : Nat) (p0 p1 : Int) (x0 x1 x2 x3 x4 x5 x6 x7 : Int) (b : Bool) (Ps : Option Addr → Nat → Nat → World → Prop) (w : World) (hr : Kd.C k28 w A l.length l) (hc : l.length ≤ cc) (ha : AdrP l) (hm : l.length ≤ 140737488355328) (hfew : l.length ≤ 30) (hPS : ∀ B n d W W', Ps B n d W → Below W.heap.size W W' → Ps B n d W')
    (hCK : ∀ W : World, Kd.C k28 W A l.length l → Calls Try.prog 11 #[.agg #[.int .i64 c0, .int .i64 c1, .int .i64 c2, .int .i64 c3, .int .i64 c4, .int .i64 c5, .int .i64 c6, .int .i64 cap, .slice A l.length cc]] W fun e w' => e = .returned (.int .i64 2) ∧ Below W.heap.size W w') (hRR : ∀ W : World, Kd.C k28 W A l.length l → Calls Try.prog 14 #[.agg #[.int .i64 c0, .int .i64 c1, .int .i64 c2, .int .i64 c3, .int .i64 c4, .int .i64 c5, .int .i64 c6, .int .i64 cap, .slice A l.length cc]] W fun e w' => e = .returned (.bool false) ∧ Below W.heap.size W w') (hST : ∀ W : World, Kd.C k28 W A l.length l → Calls Try.prog 12 #[.slice A l.length cc] W fun e w' => (∃ B n d, e = .returned (.tuple #[.agg #[.int .i64 x0, .int .i64 x1, .int .i64 x2, .int .i64 x3, .int .i64 x4, .int .i64 x5, .int .i64 x6, .int .i64 x7, .slice B n d], .int .i64 2]) ∧ Ps B n d w') ∧ Below W.heap.size W w') (hRS : ∀ W : World, Kd.C k28 W A l.length l → Calls Try.prog 13 #[.slice A l.length cc] W fun e w' => (∃ B n d, e = .returned (.tuple #[.agg #[.int .i64 x0, .int .i64 x1, .int .i64 x2, .int .i64 x3, .int .i64 x4, .int .i64 x5, .int .i64 x6, .int .i64 x7, .slice B n d], .int .i64 2]) ∧ Ps B n d w') ∧ Below W.heap.size W w') (hOW : ∀ W : World, Kd.C k28 W A l.length l → Calls Try.prog 15 #[.agg #[.int .i64 c0, .int .i64 c1, .int .i64 c2, .int .i64 c3, .int .i64 c4, .int .i64 c5, .int .i64 c6, .int .i64 cap, .slice A l.length cc], .agg #[.int .u32 p0, .int .i64 p1]] W fun e w' => e = .returned (.bool b) ∧ Below W.heap.size W w') (hRO : ∀ W : World, Kd.C k28 W A l.length l → Calls Try.prog 16 #[.agg #[.int .i64 c0, .int .i64 c1, .int .i64 c2, .int .i64 c3, .int .i64 c4, .int .i64 c5, .int .i64 c6, .int .i64 cap, .slice A l.length cc], .agg #[.int .u32 p0, .int .i64 p1]] W fun e w' => e = .returned (.bool b) ∧ Below W.heap.size W w')
    (hSM : ∀ (B : Option Addr) (n d : Nat) (B2 : Option Addr) (n2 d2 : Nat) (W : World), Ps B n d W → Ps B2 n2 d2 W → Calls Try.prog 17 #[.agg #[.int .i64 x0, .int .i64 x1, .int .i64 x2, .int .i64 x3, .int .i64 x4, .int .i64 x5, .int .i64 x6, .int .i64 x7, .slice B n d], .agg #[.int .i64 x0, .int .i64 x1, .int .i64 x2, .int .i64 x3, .int .i64 x4, .int .i64 x5, .int .i64 x6, .int .i64 x7, .slice B2 n2 d2]] W fun e w' => e = .returned (.bool true) ∧ Below W.heap.size W w') :
    Calls Try.prog 3 #[.agg #[.int .i64 c0, .int .i64 c1, .int .i64 c2, .int .i64 c3, .int .i64 c4, .int .i64 c5, .int .i64 c6, .int .i64 cap, .slice A l.length cc], .agg #[.int .u32 p0, .int .i64 p1]] w fun e w' => e = .returned (.bool true) ∧ Below w.heap.size w w' := by
  have HR := Aside0.mk hr
  have HA := Aside0.mk ha
  clear hr ha
  have HF : Aside0 (waywardenlaw08_few.f c0 c1 c2 c3 c4 c5 c6 cap l = some true) := ⟨by unfold waywardenlaw08_few.f; congr 1; apply decide_eq_true; omega⟩
  have HhCK := Aside0.mk hCK
  have HhRR := Aside0.mk hRR
  have HhST := Aside0.mk hST
  have HhRS := Aside0.mk hRS
  have HhOW := Aside0.mk hOW
  have HhRO := Aside0.mk hRO
  have HhSM := Aside0.mk hSM
  have HhPS := Aside0.mk hPS
  clear hCK hRR hST hRS hOW hRO hSM hPS
  have HM : Aside0 (Many w [(w.heap.size, 24, #[.int .i64 c0, .int .i64 c1, .int .i64 c2, .int .i64 c3, .int .i64 c4, .int .i64 c5, .int .i64 c6, .int .i64 cap, .slice A l.length cc]), ((w.heap.size + 1), 28, #[.int .u32 p0, .int .i64 p1])] ((w.alloc (.cells #[.int .i64 c0, .int .i64 c1, .int .i64 c2, .int .i64 c3, .int .i64 c4, .int .i64 c5, .int .i64 c6, .int .i64 cap, .slice A l.length cc] 24)).alloc (.cells #[.int .u32 p0, .int .i64 p1] 28))) := ⟨by have h := Many.grow (Many.grow (Many.none w) 24 #[.int .i64 c0, .int .i64 c1, .int .i64 c2, .int .i64 c3, .int .i64 c4, .int .i64 c5, .int .i64 c6, .int .i64 cap, .slice A l.length cc]) 28 #[.int .u32 p0, .int .i64 p1]; simpa using h⟩
  have k0 := Blk.cell (Many.blk HM.out 0 _ _ _ rfl) 0 _ rfl
  have k1 := Blk.cell (Many.blk HM.out 0 _ _ _ rfl) 1 _ rfl
  have k2 := Blk.cell (Many.blk HM.out 0 _ _ _ rfl) 2 _ rfl
  have k3 := Blk.cell (Many.blk HM.out 0 _ _ _ rfl) 3 _ rfl
  have k4 := Blk.cell (Many.blk HM.out 0 _ _ _ rfl) 4 _ rfl
  have k5 := Blk.cell (Many.blk HM.out 0 _ _ _ rfl) 5 _ rfl
  have k6 := Blk.cell (Many.blk HM.out 0 _ _ _ rfl) 6 _ rfl
  have k7 := Blk.cell (Many.blk HM.out 0 _ _ _ rfl) 7 _ rfl
  have k8 := Blk.cell (Many.blk HM.out 0 _ _ _ rfl) 8 _ rfl
  have pp0 := Blk.cell (Many.blk HM.out 1 _ _ _ rfl) 0 _ rfl
  have pp1 := Blk.cell (Many.blk HM.out 1 _ _ _ rfl) 1 _ rfl
  go_enter Try.func3, Try.ntmps3
  go_upto_region 5 with (first
    | (go_at_call 8; ((with_reducible refine (waywardenlaw08_few.calls c0 c1 c2 c3 c4 c5 c6 cap A cc l true _ (Kd.C_below HR.out HM.out.bel) hc HF.out).mono ?_); rintro e w9 ⟨rfl, hb⟩; have HM := Aside0.mk (Many.later HM.out hb); (try clear k0 k1 k2 k3 k4 k5 k6 k7 k8 pp0 pp1); have k0 := Blk.cell (Many.blk HM.out 0 _ _ _ rfl) 0 _ rfl; have k1 := Blk.cell (Many.blk HM.out 0 _ _ _ rfl) 1 _ rfl; have k2 := Blk.cell (Many.blk HM.out 0 _ _ _ rfl) 2 _ rfl; have k3 := Blk.cell (Many.blk HM.out 0 _ _ _ rfl) 3 _ rfl; have k4 := Blk.cell (Many.blk HM.out 0 _ _ _ rfl) 4 _ rfl; have k5 := Blk.cell (Many.blk HM.out 0 _ _ _ rfl) 5 _ rfl; have k6 := Blk.cell (Many.blk HM.out 0 _ _ _ rfl) 6 _ rfl; have k7 := Blk.cell (Many.blk HM.out 0 _ _ _ rfl) 7 _ rfl; have k8 := Blk.cell (Many.blk HM.out 0 _ _ _ rfl) 8 _ rfl; have pp0 := Blk.cell (Many.blk HM.out 1 _ _ _ rfl) 0 _ rfl; have pp1 := Blk.cell (Many.blk HM.out 1 _ _ _ rfl) 1 _ rfl; clear hb))
    | (go_at_call 10; ((with_reducible refine (waywardenlaw08_num.calls _ _ _ rfl).mono ?_); rintro e w9 ⟨rfl, hd⟩; have hb := hd.below; clear hd; have HM := Aside0.mk (Many.later HM.out hb); (try clear k0 k1 k2 k3 k4 k5 k6 k7 k8 pp0 pp1); have k0 := Blk.cell (Many.blk HM.out 0 _ _ _ rfl) 0 _ rfl; have k1 := Blk.cell (Many.blk HM.out 0 _ _ _ rfl) 1 _ rfl; have k2 := Blk.cell (Many.blk HM.out 0 _ _ _ rfl) 2 _ rfl; have k3 := Blk.cell (Many.blk HM.out 0 _ _ _ rfl) 3 _ rfl; have k4 := Blk.cell (Many.blk HM.out 0 _ _ _ rfl) 4 _ rfl; have k5 := Blk.cell (Many.blk HM.out 0 _ _ _ rfl) 5 _ rfl; have k6 := Blk.cell (Many.blk HM.out 0 _ _ _ rfl) 6 _ rfl; have k7 := Blk.cell (Many.blk HM.out 0 _ _ _ rfl) 7 _ rfl; have k8 := Blk.cell (Many.blk HM.out 0 _ _ _ rfl) 8 _ rfl; have pp0 := Blk.cell (Many.blk HM.out 1 _ _ _ rfl) 0 _ rfl; have pp1 := Blk.cell (Many.blk HM.out 1 _ _ _ rfl) 1 _ rfl; clear hb))
    | (go_at_call 11; ((with_reducible refine (HhCK.out _ (Kd.C_below HR.out HM.out.bel)).mono ?_); rintro e w9 ⟨rfl, hb⟩; have HM := Aside0.mk (Many.later HM.out hb); (try clear k0 k1 k2 k3 k4 k5 k6 k7 k8 pp0 pp1); have k0 := Blk.cell (Many.blk HM.out 0 _ _ _ rfl) 0 _ rfl; have k1 := Blk.cell (Many.blk HM.out 0 _ _ _ rfl) 1 _ rfl; have k2 := Blk.cell (Many.blk HM.out 0 _ _ _ rfl) 2 _ rfl; have k3 := Blk.cell (Many.blk HM.out 0 _ _ _ rfl) 3 _ rfl; have k4 := Blk.cell (Many.blk HM.out 0 _ _ _ rfl) 4 _ rfl; have k5 := Blk.cell (Many.blk HM.out 0 _ _ _ rfl) 5 _ rfl; have k6 := Blk.cell (Many.blk HM.out 0 _ _ _ rfl) 6 _ rfl; have k7 := Blk.cell (Many.blk HM.out 0 _ _ _ rfl) 7 _ rfl; have k8 := Blk.cell (Many.blk HM.out 0 _ _ _ rfl) 8 _ rfl; have pp0 := Blk.cell (Many.blk HM.out 1 _ _ _ rfl) 0 _ rfl; have pp1 := Blk.cell (Many.blk HM.out 1 _ _ _ rfl) 1 _ rfl; clear hb))
    | (go_at_call 12; ((with_reducible refine (HhST.out _ (Kd.C_below HR.out HM.out.bel)).mono ?_); rintro e w9 ⟨⟨B, n, d, rfl, hp⟩, hb⟩; have HP1 := Aside0.mk (HhPS.out _ _ _ _ _ hp (below_alloc (Below.refl _ _) (.cells #[.int .i64 x0, .int .i64 x1, .int .i64 x2, .int .i64 x3, .int .i64 x4, .int .i64 x5, .int .i64 x6, .int .i64 x7, .slice B n d] 24))); clear hp; have HM := Aside0.mk (Many.later HM.out hb); (try clear k0 k1 k2 k3 k4 k5 k6 k7 k8 pp0 pp1); have k0 := Blk.cell (Many.blk HM.out 0 _ _ _ rfl) 0 _ rfl; have k1 := Blk.cell (Many.blk HM.out 0 _ _ _ rfl) 1 _ rfl; have k2 := Blk.cell (Many.blk HM.out 0 _ _ _ rfl) 2 _ rfl; have k3 := Blk.cell (Many.blk HM.out 0 _ _ _ rfl) 3 _ rfl; have k4 := Blk.cell (Many.blk HM.out 0 _ _ _ rfl) 4 _ rfl; have k5 := Blk.cell (Many.blk HM.out 0 _ _ _ rfl) 5 _ rfl; have k6 := Blk.cell (Many.blk HM.out 0 _ _ _ rfl) 6 _ rfl; have k7 := Blk.cell (Many.blk HM.out 0 _ _ _ rfl) 7 _ rfl; have k8 := Blk.cell (Many.blk HM.out 0 _ _ _ rfl) 8 _ rfl; have pp0 := Blk.cell (Many.blk HM.out 1 _ _ _ rfl) 0 _ rfl; have pp1 := Blk.cell (Many.blk HM.out 1 _ _ _ rfl) 1 _ rfl; clear hb)))
  have HM0 := Aside0.mk (Many.grow HM.out 24 #[.int .i64 x0, .int .i64 x1, .int .i64 x2, .int .i64 x3, .int .i64 x4, .int .i64 x5, .int .i64 x6, .int .i64 x7, .slice B n d])
  obtain ⟨gs, hgs⟩ : ∃ g, w9.heap.size = g := ⟨_, rfl⟩
  obtain ⟨Ws, hWs⟩ : ∃ W', w9.alloc (.cells #[.int .i64 x0, .int .i64 x1, .int .i64 x2, .int .i64 x3, .int .i64 x4, .int .i64 x5, .int .i64 x6, .int .i64 x7, .slice B n d] 24) = W' := ⟨_, rfl⟩
  have hns : ∀ p v, w9.cell? p = some v → p.block < gs := fun p v h => by rw [← hgs]; exact World.block_lt_of_cell? w9 p h
  rw [hWs, hgs] at HM0
  rw [hWs] at HP1
  rw [hWs, hgs]
  have lts_k := hns _ _ (Blk.cell (Many.blk HM.out 0 _ _ _ rfl) 0 _ rfl)
  have lts_pp := hns _ _ (Blk.cell (Many.blk HM.out 1 _ _ _ rfl) 0 _ rfl)
  clear hns hgs hWs k0 k1 k2 k3 k4 k5 k6 k7 k8 pp0 pp1 HM
  have HM : Aside0 (Many w [(w.heap.size, 24, #[.int .i64 c0, .int .i64 c1, .int .i64 c2, .int .i64 c3, .int .i64 c4, .int .i64 c5, .int .i64 c6, .int .i64 cap, .slice A l.length cc]), ((w.heap.size + 1), 28, #[.int .u32 p0, .int .i64 p1]), (gs, 24, #[.int .i64 x0, .int .i64 x1, .int .i64 x2, .int .i64 x3, .int .i64 x4, .int .i64 x5, .int .i64 x6, .int .i64 x7, .slice B n d])] Ws) := ⟨HM0.out⟩
  clear HM0
  have k0 := Blk.cell (Many.blk HM.out 0 _ _ _ rfl) 0 _ rfl
  have k1 := Blk.cell (Many.blk HM.out 0 _ _ _ rfl) 1 _ rfl
  have k2 := Blk.cell (Many.blk HM.out 0 _ _ _ rfl) 2 _ rfl
  have k3 := Blk.cell (Many.blk HM.out 0 _ _ _ rfl) 3 _ rfl
  have k4 := Blk.cell (Many.blk HM.out 0 _ _ _ rfl) 4 _ rfl
  have k5 := Blk.cell (Many.blk HM.out 0 _ _ _ rfl) 5 _ rfl
  have k6 := Blk.cell (Many.blk HM.out 0 _ _ _ rfl) 6 _ rfl
  have k7 := Blk.cell (Many.blk HM.out 0 _ _ _ rfl) 7 _ rfl
  have k8 := Blk.cell (Many.blk HM.out 0 _ _ _ rfl) 8 _ rfl
  have pp0 := Blk.cell (Many.blk HM.out 1 _ _ _ rfl) 0 _ rfl
  have pp1 := Blk.cell (Many.blk HM.out 1 _ _ _ rfl) 1 _ rfl
  have s0 := Blk.cell (Many.blk HM.out 2 _ _ _ rfl) 0 _ rfl
  have s1 := Blk.cell (Many.blk HM.out 2 _ _ _ rfl) 1 _ rfl
  have s2 := Blk.cell (Many.blk HM.out 2 _ _ _ rfl) 2 _ rfl
  have s3 := Blk.cell (Many.blk HM.out 2 _ _ _ rfl) 3 _ rfl
  have s4 := Blk.cell (Many.blk HM.out 2 _ _ _ rfl) 4 _ rfl
  have s5 := Blk.cell (Many.blk HM.out 2 _ _ _ rfl) 5 _ rfl
  have s6 := Blk.cell (Many.blk HM.out 2 _ _ _ rfl) 6 _ rfl
  have s7 := Blk.cell (Many.blk HM.out 2 _ _ _ rfl) 7 _ rfl
  have s8 := Blk.cell (Many.blk HM.out 2 _ _ _ rfl) 8 _ rfl
  go_upto_region 6 with (go_at_call 13; ((with_reducible refine (HhRS.out _ (Kd.C_below HR.out HM.out.bel)).mono ?_); rintro e w9 ⟨⟨B2, n2, d2, rfl, hp⟩, hb⟩; have HP1 := Aside0.mk (HhPS.out _ _ _ _ _ HP1.out hb); have HP1 := Aside0.mk (HhPS.out _ _ _ _ _ HP1.out (below_alloc (Below.refl _ _) (.cells #[.int .i64 x0, .int .i64 x1, .int .i64 x2, .int .i64 x3, .int .i64 x4, .int .i64 x5, .int .i64 x6, .int .i64 x7, .slice B2 n2 d2] 24))); have HP2 := Aside0.mk (HhPS.out _ _ _ _ _ hp (below_alloc (Below.refl _ _) (.cells #[.int .i64 x0, .int .i64 x1, .int .i64 x2, .int .i64 x3, .int .i64 x4, .int .i64 x5, .int .i64 x6, .int .i64 x7, .slice B2 n2 d2] 24))); clear hp; have HM := Aside0.mk (Many.later HM.out hb); (try clear k0 k1 k2 k3 k4 k5 k6 k7 k8 pp0 pp1 s0 s1 s2 s3 s4 s5 s6 s7 s8); have k0 := Blk.cell (Many.blk HM.out 0 _ _ _ rfl) 0 _ rfl; have k1 := Blk.cell (Many.blk HM.out 0 _ _ _ rfl) 1 _ rfl; have k2 := Blk.cell (Many.blk HM.out 0 _ _ _ rfl) 2 _ rfl; have k3 := Blk.cell (Many.blk HM.out 0 _ _ _ rfl) 3 _ rfl; have k4 := Blk.cell (Many.blk HM.out 0 _ _ _ rfl) 4 _ rfl; have k5 := Blk.cell (Many.blk HM.out 0 _ _ _ rfl) 5 _ rfl; have k6 := Blk.cell (Many.blk HM.out 0 _ _ _ rfl) 6 _ rfl; have k7 := Blk.cell (Many.blk HM.out 0 _ _ _ rfl) 7 _ rfl; have k8 := Blk.cell (Many.blk HM.out 0 _ _ _ rfl) 8 _ rfl; have pp0 := Blk.cell (Many.blk HM.out 1 _ _ _ rfl) 0 _ rfl; have pp1 := Blk.cell (Many.blk HM.out 1 _ _ _ rfl) 1 _ rfl; have s0 := Blk.cell (Many.blk HM.out 2 _ _ _ rfl) 0 _ rfl; have s1 := Blk.cell (Many.blk HM.out 2 _ _ _ rfl) 1 _ rfl; have s2 := Blk.cell (Many.blk HM.out 2 _ _ _ rfl) 2 _ rfl; have s3 := Blk.cell (Many.blk HM.out 2 _ _ _ rfl) 3 _ rfl; have s4 := Blk.cell (Many.blk HM.out 2 _ _ _ rfl) 4 _ rfl; have s5 := Blk.cell (Many.blk HM.out 2 _ _ _ rfl) 5 _ rfl; have s6 := Blk.cell (Many.blk HM.out 2 _ _ _ rfl) 6 _ rfl; have s7 := Blk.cell (Many.blk HM.out 2 _ _ _ rfl) 7 _ rfl; have s8 := Blk.cell (Many.blk HM.out 2 _ _ _ rfl) 8 _ rfl; clear hb))
  have HM0 := Aside0.mk (Many.grow HM.out 24 #[.int .i64 x0, .int .i64 x1, .int .i64 x2, .int .i64 x3, .int .i64 x4, .int .i64 x5, .int .i64 x6, .int .i64 x7, .slice B2 n2 d2])
  obtain ⟨gt, hgt⟩ : ∃ g, w9.heap.size = g := ⟨_, rfl⟩
  obtain ⟨Wt, hWt⟩ : ∃ W', w9.alloc (.cells #[.int .i64 x0, .int .i64 x1, .int .i64 x2, .int .i64 x3, .int .i64 x4, .int .i64 x5, .int .i64 x6, .int .i64 x7, .slice B2 n2 d2] 24) = W' := ⟨_, rfl⟩
  have hnt : ∀ p v, w9.cell? p = some v → p.block < gt := fun p v h => by rw [← hgt]; exact World.block_lt_of_cell? w9 p h
  rw [hWt, hgt] at HM0
  rw [hWt] at HP1
  rw [hWt] at HP2
  rw [hWt, hgt]
  have ltt_k := hnt _ _ (Blk.cell (Many.blk HM.out 0 _ _ _ rfl) 0 _ rfl)
  have ltt_pp := hnt _ _ (Blk.cell (Many.blk HM.out 1 _ _ _ rfl) 0 _ rfl)
  have ltt_s := hnt _ _ (Blk.cell (Many.blk HM.out 2 _ _ _ rfl) 0 _ rfl)
  clear hnt hgt hWt k0 k1 k2 k3 k4 k5 k6 k7 k8 pp0 pp1 s0 s1 s2 s3 s4 s5 s6 s7 s8 HM
  have HM : Aside0 (Many w [(w.heap.size, 24, #[.int .i64 c0, .int .i64 c1, .int .i64 c2, .int .i64 c3, .int .i64 c4, .int .i64 c5, .int .i64 c6, .int .i64 cap, .slice A l.length cc]), ((w.heap.size + 1), 28, #[.int .u32 p0, .int .i64 p1]), (gs, 24, #[.int .i64 x0, .int .i64 x1, .int .i64 x2, .int .i64 x3, .int .i64 x4, .int .i64 x5, .int .i64 x6, .int .i64 x7, .slice B n d]), (gt, 24, #[.int .i64 x0, .int .i64 x1, .int .i64 x2, .int .i64 x3, .int .i64 x4, .int .i64 x5, .int .i64 x6, .int .i64 x7, .slice B2 n2 d2])] Wt) := ⟨HM0.out⟩
  clear HM0
  have k0 := Blk.cell (Many.blk HM.out 0 _ _ _ rfl) 0 _ rfl
  have k1 := Blk.cell (Many.blk HM.out 0 _ _ _ rfl) 1 _ rfl
  have k2 := Blk.cell (Many.blk HM.out 0 _ _ _ rfl) 2 _ rfl
  have k3 := Blk.cell (Many.blk HM.out 0 _ _ _ rfl) 3 _ rfl
  have k4 := Blk.cell (Many.blk HM.out 0 _ _ _ rfl) 4 _ rfl
  have k5 := Blk.cell (Many.blk HM.out 0 _ _ _ rfl) 5 _ rfl
  have k6 := Blk.cell (Many.blk HM.out 0 _ _ _ rfl) 6 _ rfl
  have k7 := Blk.cell (Many.blk HM.out 0 _ _ _ rfl) 7 _ rfl
  have k8 := Blk.cell (Many.blk HM.out 0 _ _ _ rfl) 8 _ rfl
  have pp0 := Blk.cell (Many.blk HM.out 1 _ _ _ rfl) 0 _ rfl
  have pp1 := Blk.cell (Many.blk HM.out 1 _ _ _ rfl) 1 _ rfl
  have s0 := Blk.cell (Many.blk HM.out 2 _ _ _ rfl) 0 _ rfl
  have s1 := Blk.cell (Many.blk HM.out 2 _ _ _ rfl) 1 _ rfl
  have s2 := Blk.cell (Many.blk HM.out 2 _ _ _ rfl) 2 _ rfl
  have s3 := Blk.cell (Many.blk HM.out 2 _ _ _ rfl) 3 _ rfl
  have s4 := Blk.cell (Many.blk HM.out 2 _ _ _ rfl) 4 _ rfl
  have s5 := Blk.cell (Many.blk HM.out 2 _ _ _ rfl) 5 _ rfl
  have s6 := Blk.cell (Many.blk HM.out 2 _ _ _ rfl) 6 _ rfl
  have s7 := Blk.cell (Many.blk HM.out 2 _ _ _ rfl) 7 _ rfl
  have s8 := Blk.cell (Many.blk HM.out 2 _ _ _ rfl) 8 _ rfl
  have t0 := Blk.cell (Many.blk HM.out 3 _ _ _ rfl) 0 _ rfl
  have t1 := Blk.cell (Many.blk HM.out 3 _ _ _ rfl) 1 _ rfl
  have t2 := Blk.cell (Many.blk HM.out 3 _ _ _ rfl) 2 _ rfl
  have t3 := Blk.cell (Many.blk HM.out 3 _ _ _ rfl) 3 _ rfl
  have t4 := Blk.cell (Many.blk HM.out 3 _ _ _ rfl) 4 _ rfl
  have t5 := Blk.cell (Many.blk HM.out 3 _ _ _ rfl) 5 _ rfl
  have t6 := Blk.cell (Many.blk HM.out 3 _ _ _ rfl) 6 _ rfl
  have t7 := Blk.cell (Many.blk HM.out 3 _ _ _ rfl) 7 _ rfl
  have t8 := Blk.cell (Many.blk HM.out 3 _ _ _ rfl) 8 _ rfl
  have HRT : Aside0 (Many Wt [(w.heap.size, 24, #[.int .i64 c0, .int .i64 c1, .int .i64 c2, .int .i64 c3, .int .i64 c4, .int .i64 c5, .int .i64 c6, .int .i64 cap, .slice A l.length cc]), ((w.heap.size + 1), 28, #[.int .u32 p0, .int .i64 p1]), (gs, 24, #[.int .i64 x0, .int .i64 x1, .int .i64 x2, .int .i64 x3, .int .i64 x4, .int .i64 x5, .int .i64 x6, .int .i64 x7, .slice B n d]), (gt, 24, #[.int .i64 x0, .int .i64 x1, .int .i64 x2, .int .i64 x3, .int .i64 x4, .int .i64 x5, .int .i64 x6, .int .i64 x7, .slice B2 n2 d2])] Wt) := ⟨⟨HM.out.blk, Below.refl _ _⟩⟩
  have HRr := Aside0.mk (Kd.C_below HR.out HM.out.bel)
  have k0' : ∀ w' : World, Many Wt [(w.heap.size, 24, #[.int .i64 c0, .int .i64 c1, .int .i64 c2, .int .i64 c3, .int .i64 c4, .int .i64 c5, .int .i64 c6, .int .i64 cap, .slice A l.length cc]), ((w.heap.size + 1), 28, #[.int .u32 p0, .int .i64 p1]), (gs, 24, #[.int .i64 x0, .int .i64 x1, .int .i64 x2, .int .i64 x3, .int .i64 x4, .int .i64 x5, .int .i64 x6, .int .i64 x7, .slice B n d]), (gt, 24, #[.int .i64 x0, .int .i64 x1, .int .i64 x2, .int .i64 x3, .int .i64 x4, .int .i64 x5, .int .i64 x6, .int .i64 x7, .slice B2 n2 d2])] w' → w'.cell? ⟨w.heap.size, 0, none⟩ = some (.int .i64 c0) := fun w' h => Blk.cell (Many.blk h 0 _ _ _ rfl) 0 _ rfl
  have k1' : ∀ w' : World, Many Wt [(w.heap.size, 24, #[.int .i64 c0, .int .i64 c1, .int .i64 c2, .int .i64 c3, .int .i64 c4, .int .i64 c5, .int .i64 c6, .int .i64 cap, .slice A l.length cc]), ((w.heap.size + 1), 28, #[.int .u32 p0, .int .i64 p1]), (gs, 24, #[.int .i64 x0, .int .i64 x1, .int .i64 x2, .int .i64 x3, .int .i64 x4, .int .i64 x5, .int .i64 x6, .int .i64 x7, .slice B n d]), (gt, 24, #[.int .i64 x0, .int .i64 x1, .int .i64 x2, .int .i64 x3, .int .i64 x4, .int .i64 x5, .int .i64 x6, .int .i64 x7, .slice B2 n2 d2])] w' → w'.cell? ⟨w.heap.size, 1, none⟩ = some (.int .i64 c1) := fun w' h => Blk.cell (Many.blk h 0 _ _ _ rfl) 1 _ rfl
  have k2' : ∀ w' : World, Many Wt [(w.heap.size, 24, #[.int .i64 c0, .int .i64 c1, .int .i64 c2, .int .i64 c3, .int .i64 c4, .int .i64 c5, .int .i64 c6, .int .i64 cap, .slice A l.length cc]), ((w.heap.size + 1), 28, #[.int .u32 p0, .int .i64 p1]), (gs, 24, #[.int .i64 x0, .int .i64 x1, .int .i64 x2, .int .i64 x3, .int .i64 x4, .int .i64 x5, .int .i64 x6, .int .i64 x7, .slice B n d]), (gt, 24, #[.int .i64 x0, .int .i64 x1, .int .i64 x2, .int .i64 x3, .int .i64 x4, .int .i64 x5, .int .i64 x6, .int .i64 x7, .slice B2 n2 d2])] w' → w'.cell? ⟨w.heap.size, 2, none⟩ = some (.int .i64 c2) := fun w' h => Blk.cell (Many.blk h 0 _ _ _ rfl) 2 _ rfl
  have k3' : ∀ w' : World, Many Wt [(w.heap.size, 24, #[.int .i64 c0, .int .i64 c1, .int .i64 c2, .int .i64 c3, .int .i64 c4, .int .i64 c5, .int .i64 c6, .int .i64 cap, .slice A l.length cc]), ((w.heap.size + 1), 28, #[.int .u32 p0, .int .i64 p1]), (gs, 24, #[.int .i64 x0, .int .i64 x1, .int .i64 x2, .int .i64 x3, .int .i64 x4, .int .i64 x5, .int .i64 x6, .int .i64 x7, .slice B n d]), (gt, 24, #[.int .i64 x0, .int .i64 x1, .int .i64 x2, .int .i64 x3, .int .i64 x4, .int .i64 x5, .int .i64 x6, .int .i64 x7, .slice B2 n2 d2])] w' → w'.cell? ⟨w.heap.size, 3, none⟩ = some (.int .i64 c3) := fun w' h => Blk.cell (Many.blk h 0 _ _ _ rfl) 3 _ rfl
  have k4' : ∀ w' : World, Many Wt [(w.heap.size, 24, #[.int .i64 c0, .int .i64 c1, .int .i64 c2, .int .i64 c3, .int .i64 c4, .int .i64 c5, .int .i64 c6, .int .i64 cap, .slice A l.length cc]), ((w.heap.size + 1), 28, #[.int .u32 p0, .int .i64 p1]), (gs, 24, #[.int .i64 x0, .int .i64 x1, .int .i64 x2, .int .i64 x3, .int .i64 x4, .int .i64 x5, .int .i64 x6, .int .i64 x7, .slice B n d]), (gt, 24, #[.int .i64 x0, .int .i64 x1, .int .i64 x2, .int .i64 x3, .int .i64 x4, .int .i64 x5, .int .i64 x6, .int .i64 x7, .slice B2 n2 d2])] w' → w'.cell? ⟨w.heap.size, 4, none⟩ = some (.int .i64 c4) := fun w' h => Blk.cell (Many.blk h 0 _ _ _ rfl) 4 _ rfl
  have k5' : ∀ w' : World, Many Wt [(w.heap.size, 24, #[.int .i64 c0, .int .i64 c1, .int .i64 c2, .int .i64 c3, .int .i64 c4, .int .i64 c5, .int .i64 c6, .int .i64 cap, .slice A l.length cc]), ((w.heap.size + 1), 28, #[.int .u32 p0, .int .i64 p1]), (gs, 24, #[.int .i64 x0, .int .i64 x1, .int .i64 x2, .int .i64 x3, .int .i64 x4, .int .i64 x5, .int .i64 x6, .int .i64 x7, .slice B n d]), (gt, 24, #[.int .i64 x0, .int .i64 x1, .int .i64 x2, .int .i64 x3, .int .i64 x4, .int .i64 x5, .int .i64 x6, .int .i64 x7, .slice B2 n2 d2])] w' → w'.cell? ⟨w.heap.size, 5, none⟩ = some (.int .i64 c5) := fun w' h => Blk.cell (Many.blk h 0 _ _ _ rfl) 5 _ rfl
  have k6' : ∀ w' : World, Many Wt [(w.heap.size, 24, #[.int .i64 c0, .int .i64 c1, .int .i64 c2, .int .i64 c3, .int .i64 c4, .int .i64 c5, .int .i64 c6, .int .i64 cap, .slice A l.length cc]), ((w.heap.size + 1), 28, #[.int .u32 p0, .int .i64 p1]), (gs, 24, #[.int .i64 x0, .int .i64 x1, .int .i64 x2, .int .i64 x3, .int .i64 x4, .int .i64 x5, .int .i64 x6, .int .i64 x7, .slice B n d]), (gt, 24, #[.int .i64 x0, .int .i64 x1, .int .i64 x2, .int .i64 x3, .int .i64 x4, .int .i64 x5, .int .i64 x6, .int .i64 x7, .slice B2 n2 d2])] w' → w'.cell? ⟨w.heap.size, 6, none⟩ = some (.int .i64 c6) := fun w' h => Blk.cell (Many.blk h 0 _ _ _ rfl) 6 _ rfl
  have k7' : ∀ w' : World, Many Wt [(w.heap.size, 24, #[.int .i64 c0, .int .i64 c1, .int .i64 c2, .int .i64 c3, .int .i64 c4, .int .i64 c5, .int .i64 c6, .int .i64 cap, .slice A l.length cc]), ((w.heap.size + 1), 28, #[.int .u32 p0, .int .i64 p1]), (gs, 24, #[.int .i64 x0, .int .i64 x1, .int .i64 x2, .int .i64 x3, .int .i64 x4, .int .i64 x5, .int .i64 x6, .int .i64 x7, .slice B n d]), (gt, 24, #[.int .i64 x0, .int .i64 x1, .int .i64 x2, .int .i64 x3, .int .i64 x4, .int .i64 x5, .int .i64 x6, .int .i64 x7, .slice B2 n2 d2])] w' → w'.cell? ⟨w.heap.size, 7, none⟩ = some (.int .i64 cap) := fun w' h => Blk.cell (Many.blk h 0 _ _ _ rfl) 7 _ rfl
  have k8' : ∀ w' : World, Many Wt [(w.heap.size, 24, #[.int .i64 c0, .int .i64 c1, .int .i64 c2, .int .i64 c3, .int .i64 c4, .int .i64 c5, .int .i64 c6, .int .i64 cap, .slice A l.length cc]), ((w.heap.size + 1), 28, #[.int .u32 p0, .int .i64 p1]), (gs, 24, #[.int .i64 x0, .int .i64 x1, .int .i64 x2, .int .i64 x3, .int .i64 x4, .int .i64 x5, .int .i64 x6, .int .i64 x7, .slice B n d]), (gt, 24, #[.int .i64 x0, .int .i64 x1, .int .i64 x2, .int .i64 x3, .int .i64 x4, .int .i64 x5, .int .i64 x6, .int .i64 x7, .slice B2 n2 d2])] w' → w'.cell? ⟨w.heap.size, 8, none⟩ = some (.slice A l.length cc) := fun w' h => Blk.cell (Many.blk h 0 _ _ _ rfl) 8 _ rfl
  have pp0' : ∀ w' : World, Many Wt [(w.heap.size, 24, #[.int .i64 c0, .int .i64 c1, .int .i64 c2, .int .i64 c3, .int .i64 c4, .int .i64 c5, .int .i64 c6, .int .i64 cap, .slice A l.length cc]), ((w.heap.size + 1), 28, #[.int .u32 p0, .int .i64 p1]), (gs, 24, #[.int .i64 x0, .int .i64 x1, .int .i64 x2, .int .i64 x3, .int .i64 x4, .int .i64 x5, .int .i64 x6, .int .i64 x7, .slice B n d]), (gt, 24, #[.int .i64 x0, .int .i64 x1, .int .i64 x2, .int .i64 x3, .int .i64 x4, .int .i64 x5, .int .i64 x6, .int .i64 x7, .slice B2 n2 d2])] w' → w'.cell? ⟨(w.heap.size + 1), 0, none⟩ = some (.int .u32 p0) := fun w' h => Blk.cell (Many.blk h 1 _ _ _ rfl) 0 _ rfl
  have pp1' : ∀ w' : World, Many Wt [(w.heap.size, 24, #[.int .i64 c0, .int .i64 c1, .int .i64 c2, .int .i64 c3, .int .i64 c4, .int .i64 c5, .int .i64 c6, .int .i64 cap, .slice A l.length cc]), ((w.heap.size + 1), 28, #[.int .u32 p0, .int .i64 p1]), (gs, 24, #[.int .i64 x0, .int .i64 x1, .int .i64 x2, .int .i64 x3, .int .i64 x4, .int .i64 x5, .int .i64 x6, .int .i64 x7, .slice B n d]), (gt, 24, #[.int .i64 x0, .int .i64 x1, .int .i64 x2, .int .i64 x3, .int .i64 x4, .int .i64 x5, .int .i64 x6, .int .i64 x7, .slice B2 n2 d2])] w' → w'.cell? ⟨(w.heap.size + 1), 1, none⟩ = some (.int .i64 p1) := fun w' h => Blk.cell (Many.blk h 1 _ _ _ rfl) 1 _ rfl
  have s0' : ∀ w' : World, Many Wt [(w.heap.size, 24, #[.int .i64 c0, .int .i64 c1, .int .i64 c2, .int .i64 c3, .int .i64 c4, .int .i64 c5, .int .i64 c6, .int .i64 cap, .slice A l.length cc]), ((w.heap.size + 1), 28, #[.int .u32 p0, .int .i64 p1]), (gs, 24, #[.int .i64 x0, .int .i64 x1, .int .i64 x2, .int .i64 x3, .int .i64 x4, .int .i64 x5, .int .i64 x6, .int .i64 x7, .slice B n d]), (gt, 24, #[.int .i64 x0, .int .i64 x1, .int .i64 x2, .int .i64 x3, .int .i64 x4, .int .i64 x5, .int .i64 x6, .int .i64 x7, .slice B2 n2 d2])] w' → w'.cell? ⟨gs, 0, none⟩ = some (.int .i64 x0) := fun w' h => Blk.cell (Many.blk h 2 _ _ _ rfl) 0 _ rfl
  have s1' : ∀ w' : World, Many Wt [(w.heap.size, 24, #[.int .i64 c0, .int .i64 c1, .int .i64 c2, .int .i64 c3, .int .i64 c4, .int .i64 c5, .int .i64 c6, .int .i64 cap, .slice A l.length cc]), ((w.heap.size + 1), 28, #[.int .u32 p0, .int .i64 p1]), (gs, 24, #[.int .i64 x0, .int .i64 x1, .int .i64 x2, .int .i64 x3, .int .i64 x4, .int .i64 x5, .int .i64 x6, .int .i64 x7, .slice B n d]), (gt, 24, #[.int .i64 x0, .int .i64 x1, .int .i64 x2, .int .i64 x3, .int .i64 x4, .int .i64 x5, .int .i64 x6, .int .i64 x7, .slice B2 n2 d2])] w' → w'.cell? ⟨gs, 1, none⟩ = some (.int .i64 x1) := fun w' h => Blk.cell (Many.blk h 2 _ _ _ rfl) 1 _ rfl
  have s2' : ∀ w' : World, Many Wt [(w.heap.size, 24, #[.int .i64 c0, .int .i64 c1, .int .i64 c2, .int .i64 c3, .int .i64 c4, .int .i64 c5, .int .i64 c6, .int .i64 cap, .slice A l.length cc]), ((w.heap.size + 1), 28, #[.int .u32 p0, .int .i64 p1]), (gs, 24, #[.int .i64 x0, .int .i64 x1, .int .i64 x2, .int .i64 x3, .int .i64 x4, .int .i64 x5, .int .i64 x6, .int .i64 x7, .slice B n d]), (gt, 24, #[.int .i64 x0, .int .i64 x1, .int .i64 x2, .int .i64 x3, .int .i64 x4, .int .i64 x5, .int .i64 x6, .int .i64 x7, .slice B2 n2 d2])] w' → w'.cell? ⟨gs, 2, none⟩ = some (.int .i64 x2) := fun w' h => Blk.cell (Many.blk h 2 _ _ _ rfl) 2 _ rfl
  have s3' : ∀ w' : World, Many Wt [(w.heap.size, 24, #[.int .i64 c0, .int .i64 c1, .int .i64 c2, .int .i64 c3, .int .i64 c4, .int .i64 c5, .int .i64 c6, .int .i64 cap, .slice A l.length cc]), ((w.heap.size + 1), 28, #[.int .u32 p0, .int .i64 p1]), (gs, 24, #[.int .i64 x0, .int .i64 x1, .int .i64 x2, .int .i64 x3, .int .i64 x4, .int .i64 x5, .int .i64 x6, .int .i64 x7, .slice B n d]), (gt, 24, #[.int .i64 x0, .int .i64 x1, .int .i64 x2, .int .i64 x3, .int .i64 x4, .int .i64 x5, .int .i64 x6, .int .i64 x7, .slice B2 n2 d2])] w' → w'.cell? ⟨gs, 3, none⟩ = some (.int .i64 x3) := fun w' h => Blk.cell (Many.blk h 2 _ _ _ rfl) 3 _ rfl
  have s4' : ∀ w' : World, Many Wt [(w.heap.size, 24, #[.int .i64 c0, .int .i64 c1, .int .i64 c2, .int .i64 c3, .int .i64 c4, .int .i64 c5, .int .i64 c6, .int .i64 cap, .slice A l.length cc]), ((w.heap.size + 1), 28, #[.int .u32 p0, .int .i64 p1]), (gs, 24, #[.int .i64 x0, .int .i64 x1, .int .i64 x2, .int .i64 x3, .int .i64 x4, .int .i64 x5, .int .i64 x6, .int .i64 x7, .slice B n d]), (gt, 24, #[.int .i64 x0, .int .i64 x1, .int .i64 x2, .int .i64 x3, .int .i64 x4, .int .i64 x5, .int .i64 x6, .int .i64 x7, .slice B2 n2 d2])] w' → w'.cell? ⟨gs, 4, none⟩ = some (.int .i64 x4) := fun w' h => Blk.cell (Many.blk h 2 _ _ _ rfl) 4 _ rfl
  have s5' : ∀ w' : World, Many Wt [(w.heap.size, 24, #[.int .i64 c0, .int .i64 c1, .int .i64 c2, .int .i64 c3, .int .i64 c4, .int .i64 c5, .int .i64 c6, .int .i64 cap, .slice A l.length cc]), ((w.heap.size + 1), 28, #[.int .u32 p0, .int .i64 p1]), (gs, 24, #[.int .i64 x0, .int .i64 x1, .int .i64 x2, .int .i64 x3, .int .i64 x4, .int .i64 x5, .int .i64 x6, .int .i64 x7, .slice B n d]), (gt, 24, #[.int .i64 x0, .int .i64 x1, .int .i64 x2, .int .i64 x3, .int .i64 x4, .int .i64 x5, .int .i64 x6, .int .i64 x7, .slice B2 n2 d2])] w' → w'.cell? ⟨gs, 5, none⟩ = some (.int .i64 x5) := fun w' h => Blk.cell (Many.blk h 2 _ _ _ rfl) 5 _ rfl
  have s6' : ∀ w' : World, Many Wt [(w.heap.size, 24, #[.int .i64 c0, .int .i64 c1, .int .i64 c2, .int .i64 c3, .int .i64 c4, .int .i64 c5, .int .i64 c6, .int .i64 cap, .slice A l.length cc]), ((w.heap.size + 1), 28, #[.int .u32 p0, .int .i64 p1]), (gs, 24, #[.int .i64 x0, .int .i64 x1, .int .i64 x2, .int .i64 x3, .int .i64 x4, .int .i64 x5, .int .i64 x6, .int .i64 x7, .slice B n d]), (gt, 24, #[.int .i64 x0, .int .i64 x1, .int .i64 x2, .int .i64 x3, .int .i64 x4, .int .i64 x5, .int .i64 x6, .int .i64 x7, .slice B2 n2 d2])] w' → w'.cell? ⟨gs, 6, none⟩ = some (.int .i64 x6) := fun w' h => Blk.cell (Many.blk h 2 _ _ _ rfl) 6 _ rfl
  have s7' : ∀ w' : World, Many Wt [(w.heap.size, 24, #[.int .i64 c0, .int .i64 c1, .int .i64 c2, .int .i64 c3, .int .i64 c4, .int .i64 c5, .int .i64 c6, .int .i64 cap, .slice A l.length cc]), ((w.heap.size + 1), 28, #[.int .u32 p0, .int .i64 p1]), (gs, 24, #[.int .i64 x0, .int .i64 x1, .int .i64 x2, .int .i64 x3, .int .i64 x4, .int .i64 x5, .int .i64 x6, .int .i64 x7, .slice B n d]), (gt, 24, #[.int .i64 x0, .int .i64 x1, .int .i64 x2, .int .i64 x3, .int .i64 x4, .int .i64 x5, .int .i64 x6, .int .i64 x7, .slice B2 n2 d2])] w' → w'.cell? ⟨gs, 7, none⟩ = some (.int .i64 x7) := fun w' h => Blk.cell (Many.blk h 2 _ _ _ rfl) 7 _ rfl
  have s8' : ∀ w' : World, Many Wt [(w.heap.size, 24, #[.int .i64 c0, .int .i64 c1, .int .i64 c2, .int .i64 c3, .int .i64 c4, .int .i64 c5, .int .i64 c6, .int .i64 cap, .slice A l.length cc]), ((w.heap.size + 1), 28, #[.int .u32 p0, .int .i64 p1]), (gs, 24, #[.int .i64 x0, .int .i64 x1, .int .i64 x2, .int .i64 x3, .int .i64 x4, .int .i64 x5, .int .i64 x6, .int .i64 x7, .slice B n d]), (gt, 24, #[.int .i64 x0, .int .i64 x1, .int .i64 x2, .int .i64 x3, .int .i64 x4, .int .i64 x5, .int .i64 x6, .int .i64 x7, .slice B2 n2 d2])] w' → w'.cell? ⟨gs, 8, none⟩ = some (.slice B n d) := fun w' h => Blk.cell (Many.blk h 2 _ _ _ rfl) 8 _ rfl
  have t0' : ∀ w' : World, Many Wt [(w.heap.size, 24, #[.int .i64 c0, .int .i64 c1, .int .i64 c2, .int .i64 c3, .int .i64 c4, .int .i64 c5, .int .i64 c6, .int .i64 cap, .slice A l.length cc]), ((w.heap.size + 1), 28, #[.int .u32 p0, .int .i64 p1]), (gs, 24, #[.int .i64 x0, .int .i64 x1, .int .i64 x2, .int .i64 x3, .int .i64 x4, .int .i64 x5, .int .i64 x6, .int .i64 x7, .slice B n d]), (gt, 24, #[.int .i64 x0, .int .i64 x1, .int .i64 x2, .int .i64 x3, .int .i64 x4, .int .i64 x5, .int .i64 x6, .int .i64 x7, .slice B2 n2 d2])] w' → w'.cell? ⟨gt, 0, none⟩ = some (.int .i64 x0) := fun w' h => Blk.cell (Many.blk h 3 _ _ _ rfl) 0 _ rfl
  have t1' : ∀ w' : World, Many Wt [(w.heap.size, 24, #[.int .i64 c0, .int .i64 c1, .int .i64 c2, .int .i64 c3, .int .i64 c4, .int .i64 c5, .int .i64 c6, .int .i64 cap, .slice A l.length cc]), ((w.heap.size + 1), 28, #[.int .u32 p0, .int .i64 p1]), (gs, 24, #[.int .i64 x0, .int .i64 x1, .int .i64 x2, .int .i64 x3, .int .i64 x4, .int .i64 x5, .int .i64 x6, .int .i64 x7, .slice B n d]), (gt, 24, #[.int .i64 x0, .int .i64 x1, .int .i64 x2, .int .i64 x3, .int .i64 x4, .int .i64 x5, .int .i64 x6, .int .i64 x7, .slice B2 n2 d2])] w' → w'.cell? ⟨gt, 1, none⟩ = some (.int .i64 x1) := fun w' h => Blk.cell (Many.blk h 3 _ _ _ rfl) 1 _ rfl
  have t2' : ∀ w' : World, Many Wt [(w.heap.size, 24, #[.int .i64 c0, .int .i64 c1, .int .i64 c2, .int .i64 c3, .int .i64 c4, .int .i64 c5, .int .i64 c6, .int .i64 cap, .slice A l.length cc]), ((w.heap.size + 1), 28, #[.int .u32 p0, .int .i64 p1]), (gs, 24, #[.int .i64 x0, .int .i64 x1, .int .i64 x2, .int .i64 x3, .int .i64 x4, .int .i64 x5, .int .i64 x6, .int .i64 x7, .slice B n d]), (gt, 24, #[.int .i64 x0, .int .i64 x1, .int .i64 x2, .int .i64 x3, .int .i64 x4, .int .i64 x5, .int .i64 x6, .int .i64 x7, .slice B2 n2 d2])] w' → w'.cell? ⟨gt, 2, none⟩ = some (.int .i64 x2) := fun w' h => Blk.cell (Many.blk h 3 _ _ _ rfl) 2 _ rfl
  have t3' : ∀ w' : World, Many Wt [(w.heap.size, 24, #[.int .i64 c0, .int .i64 c1, .int .i64 c2, .int .i64 c3, .int .i64 c4, .int .i64 c5, .int .i64 c6, .int .i64 cap, .slice A l.length cc]), ((w.heap.size + 1), 28, #[.int .u32 p0, .int .i64 p1]), (gs, 24, #[.int .i64 x0, .int .i64 x1, .int .i64 x2, .int .i64 x3, .int .i64 x4, .int .i64 x5, .int .i64 x6, .int .i64 x7, .slice B n d]), (gt, 24, #[.int .i64 x0, .int .i64 x1, .int .i64 x2, .int .i64 x3, .int .i64 x4, .int .i64 x5, .int .i64 x6, .int .i64 x7, .slice B2 n2 d2])] w' → w'.cell? ⟨gt, 3, none⟩ = some (.int .i64 x3) := fun w' h => Blk.cell (Many.blk h 3 _ _ _ rfl) 3 _ rfl
  have t4' : ∀ w' : World, Many Wt [(w.heap.size, 24, #[.int .i64 c0, .int .i64 c1, .int .i64 c2, .int .i64 c3, .int .i64 c4, .int .i64 c5, .int .i64 c6, .int .i64 cap, .slice A l.length cc]), ((w.heap.size + 1), 28, #[.int .u32 p0, .int .i64 p1]), (gs, 24, #[.int .i64 x0, .int .i64 x1, .int .i64 x2, .int .i64 x3, .int .i64 x4, .int .i64 x5, .int .i64 x6, .int .i64 x7, .slice B n d]), (gt, 24, #[.int .i64 x0, .int .i64 x1, .int .i64 x2, .int .i64 x3, .int .i64 x4, .int .i64 x5, .int .i64 x6, .int .i64 x7, .slice B2 n2 d2])] w' → w'.cell? ⟨gt, 4, none⟩ = some (.int .i64 x4) := fun w' h => Blk.cell (Many.blk h 3 _ _ _ rfl) 4 _ rfl
  have t5' : ∀ w' : World, Many Wt [(w.heap.size, 24, #[.int .i64 c0, .int .i64 c1, .int .i64 c2, .int .i64 c3, .int .i64 c4, .int .i64 c5, .int .i64 c6, .int .i64 cap, .slice A l.length cc]), ((w.heap.size + 1), 28, #[.int .u32 p0, .int .i64 p1]), (gs, 24, #[.int .i64 x0, .int .i64 x1, .int .i64 x2, .int .i64 x3, .int .i64 x4, .int .i64 x5, .int .i64 x6, .int .i64 x7, .slice B n d]), (gt, 24, #[.int .i64 x0, .int .i64 x1, .int .i64 x2, .int .i64 x3, .int .i64 x4, .int .i64 x5, .int .i64 x6, .int .i64 x7, .slice B2 n2 d2])] w' → w'.cell? ⟨gt, 5, none⟩ = some (.int .i64 x5) := fun w' h => Blk.cell (Many.blk h 3 _ _ _ rfl) 5 _ rfl
  have t6' : ∀ w' : World, Many Wt [(w.heap.size, 24, #[.int .i64 c0, .int .i64 c1, .int .i64 c2, .int .i64 c3, .int .i64 c4, .int .i64 c5, .int .i64 c6, .int .i64 cap, .slice A l.length cc]), ((w.heap.size + 1), 28, #[.int .u32 p0, .int .i64 p1]), (gs, 24, #[.int .i64 x0, .int .i64 x1, .int .i64 x2, .int .i64 x3, .int .i64 x4, .int .i64 x5, .int .i64 x6, .int .i64 x7, .slice B n d]), (gt, 24, #[.int .i64 x0, .int .i64 x1, .int .i64 x2, .int .i64 x3, .int .i64 x4, .int .i64 x5, .int .i64 x6, .int .i64 x7, .slice B2 n2 d2])] w' → w'.cell? ⟨gt, 6, none⟩ = some (.int .i64 x6) := fun w' h => Blk.cell (Many.blk h 3 _ _ _ rfl) 6 _ rfl
  have t7' : ∀ w' : World, Many Wt [(w.heap.size, 24, #[.int .i64 c0, .int .i64 c1, .int .i64 c2, .int .i64 c3, .int .i64 c4, .int .i64 c5, .int .i64 c6, .int .i64 cap, .slice A l.length cc]), ((w.heap.size + 1), 28, #[.int .u32 p0, .int .i64 p1]), (gs, 24, #[.int .i64 x0, .int .i64 x1, .int .i64 x2, .int .i64 x3, .int .i64 x4, .int .i64 x5, .int .i64 x6, .int .i64 x7, .slice B n d]), (gt, 24, #[.int .i64 x0, .int .i64 x1, .int .i64 x2, .int .i64 x3, .int .i64 x4, .int .i64 x5, .int .i64 x6, .int .i64 x7, .slice B2 n2 d2])] w' → w'.cell? ⟨gt, 7, none⟩ = some (.int .i64 x7) := fun w' h => Blk.cell (Many.blk h 3 _ _ _ rfl) 7 _ rfl
  have t8' : ∀ w' : World, Many Wt [(w.heap.size, 24, #[.int .i64 c0, .int .i64 c1, .int .i64 c2, .int .i64 c3, .int .i64 c4, .int .i64 c5, .int .i64 c6, .int .i64 cap, .slice A l.length cc]), ((w.heap.size + 1), 28, #[.int .u32 p0, .int .i64 p1]), (gs, 24, #[.int .i64 x0, .int .i64 x1, .int .i64 x2, .int .i64 x3, .int .i64 x4, .int .i64 x5, .int .i64 x6, .int .i64 x7, .slice B n d]), (gt, 24, #[.int .i64 x0, .int .i64 x1, .int .i64 x2, .int .i64 x3, .int .i64 x4, .int .i64 x5, .int .i64 x6, .int .i64 x7, .slice B2 n2 d2])] w' → w'.cell? ⟨gt, 8, none⟩ = some (.slice B2 n2 d2) := fun w' h => Blk.cell (Many.blk h 3 _ _ _ rfl) 8 _ rfl
  clear k0 k1 k2 k3 k4 k5 k6 k7 k8 pp0 pp1 s0 s1 s2 s3 s4 s5 s6 s7 s8 t0 t1 t2 t3 t4 t5 t6 t7 t8 HR
  refine wp_region_held_drew (S := fun w' => Many Wt [(w.heap.size, 24, #[.int .i64 c0, .int .i64 c1, .int .i64 c2, .int .i64 c3, .int .i64 c4, .int .i64 c5, .int .i64 c6, .int .i64 cap, .slice A l.length cc]), ((w.heap.size + 1), 28, #[.int .u32 p0, .int .i64 p1]), (gs, 24, #[.int .i64 x0, .int .i64 x1, .int .i64 x2, .int .i64 x3, .int .i64 x4, .int .i64 x5, .int .i64 x6, .int .i64 x7, .slice B n d]), (gt, 24, #[.int .i64 x0, .int .i64 x1, .int .i64 x2, .int .i64 x3, .int .i64 x4, .int .i64 x5, .int .i64 x6, .int .i64 x7, .slice B2 n2 d2])] w') (by kernel_rfl) ?sA (fun hHeld => ?rA)
  case sA => exact Many.drew HRT.out
  refine wpAnyH_take (i := 0) (oi := ?oA_0) (v := ?vA_0) ?iA_0 (by kernel_rfl) (by kernel_rfl) (by kernel_rfl) ?qA_0 ?yA_0 hHeld ?nA_0
  case iA_0 => (simp only [List.getElem?_toArray, List.getElem?_cons_succ, List.getElem?_cons_zero]; rfl)
  case yA_0 => (refine Or.inl ⟨by kernel_rfl, ?_⟩; intro w' hSw; (try dsimp only at hSw); first | (go_simp; done) | (go_simp; with_reducible rfl))
  case qA_0 => exact fun _ _ _ h => h
  try simp only [Act.put, List.setIfInBounds_toArray, List.set_cons_zero, List.set_cons_succ]
  refine wpAnyH_take (i := 1) (oi := ?oA_1) (v := ?vA_1) ?iA_1 (by kernel_rfl) (by kernel_rfl) (by kernel_rfl) ?qA_1 ?yA_1 hHeld ?nA_1
  case iA_1 => (simp only [List.getElem?_toArray, List.getElem?_cons_succ, List.getElem?_cons_zero]; rfl)
  case yA_1 => (refine Or.inl ⟨by kernel_rfl, ?_⟩; intro w' hSw; (try dsimp only at hSw); first | (go_simp; done) | (go_simp; with_reducible rfl))
  case qA_1 => exact fun _ _ _ h => h
  try simp only [Act.put, List.setIfInBounds_toArray, List.set_cons_zero, List.set_cons_succ]
  refine wpAnyH_take (i := 2) (oi := ?oA_2) (v := ?vA_2) ?iA_2 (by kernel_rfl) (by kernel_rfl) (by kernel_rfl) ?qA_2 ?yA_2 hHeld ?nA_2
  case iA_2 => (simp only [List.getElem?_toArray, List.getElem?_cons_succ, List.getElem?_cons_zero]; rfl)
  case yA_2 => (refine Or.inl ⟨by kernel_rfl, ?_⟩; intro w' hSw; (try dsimp only at hSw); first | (go_simp; done) | (go_simp; with_reducible rfl))
  case qA_2 => exact fun _ _ _ h => h
  try simp only [Act.put, List.setIfInBounds_toArray, List.set_cons_zero, List.set_cons_succ]
  refine wpAnyH_ready (rs := [3]) (by kernel_rfl) (by simp) ?_
  refine AllReadyH.cons (o := ?oA_3) ?iA_3 (fun K hK => ?kA_3) AllReadyH.nil
  case iA_3 => (simp only [List.getElem?_toArray, List.getElem?_cons_succ, List.getElem?_cons_zero]; rfl)
  go_simp
  ((with_reducible refine (HhRR.out _ (Kd.C_below HRr.out hHeld.bel)).mono ?_); rintro e w4 ⟨rfl, hb⟩; dsimp only)
  refine hK.out _ _ ?hA_3 (fun hHeld2 => ?mA_3)
  case hA_3 => exact Many.later hHeld hb
  clear hK K hHeld
  have hHeld := hHeld2
  clear hHeld2
  try simp only [Act.put, List.setIfInBounds_toArray, List.set_cons_zero, List.set_cons_succ]
  refine wpAnyH_take (i := 4) (oi := ?oA_4) (v := ?vA_4) ?iA_4 (by kernel_rfl) (by kernel_rfl) (by kernel_rfl) ?qA_4 ?yA_4 hHeld ?nA_4
  case iA_4 => (simp only [List.getElem?_toArray, List.getElem?_cons_succ, List.getElem?_cons_zero]; rfl)
  case yA_4 => (refine Or.inl ⟨by kernel_rfl, ?_⟩; intro w' hSw; (try dsimp only at hSw); first | (go_simp; done) | (go_simp; with_reducible rfl))
  case qA_4 => exact fun _ _ _ h => h
  try simp only [Act.put, List.setIfInBounds_toArray, List.set_cons_zero, List.set_cons_succ]
  refine wpAnyH_take (i := 5) (oi := ?oA_5) (v := ?vA_5) ?iA_5 (by kernel_rfl) (by kernel_rfl) (by kernel_rfl) ?qA_5 ?yA_5 hHeld ?nA_5
  case iA_5 => (simp only [List.getElem?_toArray, List.getElem?_cons_succ, List.getElem?_cons_zero]; rfl)
  case yA_5 => (refine Or.inl ⟨by kernel_rfl, ?_⟩; intro w' hSw; (try dsimp only at hSw); first | (go_simp; done) | (go_simp; with_reducible rfl))
  case qA_5 => exact fun _ _ _ h => h
  try simp only [Act.put, List.setIfInBounds_toArray, List.set_cons_zero, List.set_cons_succ]
  refine wpAnyH_take (i := 6) (oi := ?oA_6) (v := ?vA_6) ?iA_6 (by kernel_rfl) (by kernel_rfl) (by kernel_rfl) ?qA_6 ?yA_6 hHeld ?nA_6
  case iA_6 => (simp only [List.getElem?_toArray, List.getElem?_cons_succ, List.getElem?_cons_zero]; rfl)
  case yA_6 => (refine Or.inl ⟨by kernel_rfl, ?_⟩; intro w' hSw; (try dsimp only at hSw); first | (go_simp; done) | (go_simp; with_reducible rfl))
  case qA_6 => exact fun _ _ _ h => h
  try simp only [Act.put, List.setIfInBounds_toArray, List.set_cons_zero, List.set_cons_succ]
  refine wpAnyH_take (i := 7) (oi := ?oA_7) (v := ?vA_7) ?iA_7 (by kernel_rfl) (by kernel_rfl) (by kernel_rfl) ?qA_7 ?yA_7 hHeld ?nA_7
  case iA_7 => (simp only [List.getElem?_toArray, List.getElem?_cons_succ, List.getElem?_cons_zero]; rfl)
  case yA_7 => (refine Or.inl ⟨by kernel_rfl, ?_⟩; intro w' hSw; (try dsimp only at hSw); first | (go_simp; done) | (go_simp; with_reducible rfl))
  case qA_7 => exact fun _ _ _ h => h
  try simp only [Act.put, List.setIfInBounds_toArray, List.set_cons_zero, List.set_cons_succ]
  refine wpAnyH_take (i := 8) (oi := ?oA_8) (v := ?vA_8) ?iA_8 (by kernel_rfl) (by kernel_rfl) (by kernel_rfl) ?qA_8 ?yA_8 hHeld ?nA_8
  case iA_8 => (simp only [List.getElem?_toArray, List.getElem?_cons_succ, List.getElem?_cons_zero]; rfl)
  case yA_8 => (refine Or.inl ⟨by kernel_rfl, ?_⟩; intro w' hSw; (try dsimp only at hSw); first | (go_simp; done) | (go_simp; with_reducible rfl))
  case qA_8 => exact fun _ _ _ h => h
  try simp only [Act.put, List.setIfInBounds_toArray, List.set_cons_zero, List.set_cons_succ]
  refine wpAnyH_take (i := 9) (oi := ?oA_9) (v := ?vA_9) ?iA_9 (by kernel_rfl) (by kernel_rfl) (by kernel_rfl) ?qA_9 ?yA_9 hHeld ?nA_9
  case iA_9 => (simp only [List.getElem?_toArray, List.getElem?_cons_succ, List.getElem?_cons_zero]; rfl)
  case yA_9 => (refine Or.inl ⟨by kernel_rfl, ?_⟩; intro w' hSw; (try dsimp only at hSw); first | (go_simp; done) | (go_simp; with_reducible rfl))
  case qA_9 => exact fun _ _ _ h => h
  try simp only [Act.put, List.setIfInBounds_toArray, List.set_cons_zero, List.set_cons_succ]
  refine wpAnyH_take (i := 10) (oi := ?oA_10) (v := ?vA_10) ?iA_10 (by kernel_rfl) (by kernel_rfl) (by kernel_rfl) ?qA_10 ?yA_10 hHeld ?nA_10
  case iA_10 => (simp only [List.getElem?_toArray, List.getElem?_cons_succ, List.getElem?_cons_zero]; rfl)
  case yA_10 => (refine Or.inl ⟨by kernel_rfl, ?_⟩; intro w' hSw; (try dsimp only at hSw); first | (go_simp; done) | (go_simp; with_reducible rfl))
  case qA_10 => exact fun _ _ _ h => h
  try simp only [Act.put, List.setIfInBounds_toArray, List.set_cons_zero, List.set_cons_succ]
  refine wpAnyH_take (i := 11) (oi := ?oA_11) (v := ?vA_11) ?iA_11 (by kernel_rfl) (by kernel_rfl) (by kernel_rfl) ?qA_11 ?yA_11 hHeld ?nA_11
  case iA_11 => (simp only [List.getElem?_toArray, List.getElem?_cons_succ, List.getElem?_cons_zero]; rfl)
  case yA_11 => (refine Or.inl ⟨by kernel_rfl, ?_⟩; intro w' hSw; (try dsimp only at hSw); first | (go_simp; done) | (go_simp; with_reducible rfl))
  case qA_11 => exact fun _ _ _ h => h
  try simp only [Act.put, List.setIfInBounds_toArray, List.set_cons_zero, List.set_cons_succ]
  refine wpAnyH_take (i := 12) (oi := ?oA_12) (v := ?vA_12) ?iA_12 (by kernel_rfl) (by kernel_rfl) (by kernel_rfl) ?qA_12 ?yA_12 hHeld ?nA_12
  case iA_12 => (simp only [List.getElem?_toArray, List.getElem?_cons_succ, List.getElem?_cons_zero]; rfl)
  case yA_12 => (refine Or.inl ⟨by kernel_rfl, ?_⟩; intro w' hSw; (try dsimp only at hSw); first | (go_simp; done) | (go_simp; with_reducible rfl))
  case qA_12 => exact fun _ _ _ h => h
  try simp only [Act.put, List.setIfInBounds_toArray, List.set_cons_zero, List.set_cons_succ]
  refine wpAnyH_take (i := 13) (oi := ?oA_13) (v := ?vA_13) ?iA_13 (by kernel_rfl) (by kernel_rfl) (by kernel_rfl) ?qA_13 ?yA_13 hHeld ?nA_13
  case iA_13 => (simp only [List.getElem?_toArray, List.getElem?_cons_succ, List.getElem?_cons_zero]; rfl)
  case yA_13 => (refine Or.inl ⟨by kernel_rfl, ?_⟩; intro w' hSw; (try dsimp only at hSw); first | (go_simp; done) | (go_simp; with_reducible rfl))
  case qA_13 => exact fun _ _ _ h => h
  try simp only [Act.put, List.setIfInBounds_toArray, List.set_cons_zero, List.set_cons_succ]
  refine wpAnyH_take (i := 14) (oi := ?oA_14) (v := ?vA_14) ?iA_14 (by kernel_rfl) (by kernel_rfl) (by kernel_rfl) ?qA_14 ?yA_14 hHeld ?nA_14
  case iA_14 => (simp only [List.getElem?_toArray, List.getElem?_cons_succ, List.getElem?_cons_zero]; rfl)
  case yA_14 => (refine Or.inl ⟨by kernel_rfl, ?_⟩; intro w' hSw; (try dsimp only at hSw); first | (go_simp; done) | (go_simp; with_reducible rfl))
  case qA_14 => exact fun _ _ _ h => h
  try simp only [Act.put, List.setIfInBounds_toArray, List.set_cons_zero, List.set_cons_succ]
  refine wpAnyH_take (i := 15) (oi := ?oA_15) (v := ?vA_15) ?iA_15 (by kernel_rfl) (by kernel_rfl) (by kernel_rfl) ?qA_15 ?yA_15 hHeld ?nA_15
  case iA_15 => (simp only [List.getElem?_toArray, List.getElem?_cons_succ, List.getElem?_cons_zero]; rfl)
  case yA_15 => (refine Or.inl ⟨by kernel_rfl, ?_⟩; intro w' hSw; (try dsimp only at hSw); first | (go_simp; done) | (go_simp; with_reducible rfl))
  case qA_15 => exact fun _ _ _ h => h
  try simp only [Act.put, List.setIfInBounds_toArray, List.set_cons_zero, List.set_cons_succ]
  refine wpAnyH_take (i := 17) (oi := ?oA_17) (v := ?vA_17) ?iA_17 (by kernel_rfl) (by kernel_rfl) (by kernel_rfl) ?qA_17 ?yA_17 hHeld ?nA_17
  case iA_17 => (simp only [List.getElem?_toArray, List.getElem?_cons_succ, List.getElem?_cons_zero]; rfl)
  case yA_17 => (refine Or.inl ⟨by kernel_rfl, ?_⟩; intro w' hSw; (try dsimp only at hSw); first | (go_simp; done) | (go_simp; with_reducible rfl))
  case qA_17 => exact fun _ _ _ h => h
  try simp only [Act.put, List.setIfInBounds_toArray, List.set_cons_zero, List.set_cons_succ]
  refine wpAnyH_take (i := 18) (oi := ?oA_18) (v := ?vA_18) ?iA_18 (by kernel_rfl) (by kernel_rfl) (by kernel_rfl) ?qA_18 ?yA_18 hHeld ?nA_18
  case iA_18 => (simp only [List.getElem?_toArray, List.getElem?_cons_succ, List.getElem?_cons_zero]; rfl)
  case yA_18 => (refine Or.inl ⟨by kernel_rfl, ?_⟩; intro w' hSw; (try dsimp only at hSw); first | (go_simp; done) | (go_simp; with_reducible rfl))
  case qA_18 => exact fun _ _ _ h => h
  try simp only [Act.put, List.setIfInBounds_toArray, List.set_cons_zero, List.set_cons_succ]
  refine wpAnyH_ready (rs := [16]) (by kernel_rfl) (by simp) ?_
  refine AllReadyH.cons (o := ?oA_16) ?iA_16 (fun K hK => ?kA_16) AllReadyH.nil
  case iA_16 => (simp only [List.getElem?_toArray, List.getElem?_cons_succ, List.getElem?_cons_zero]; rfl)
  go_simp
  ((with_reducible refine (HhOW.out _ (Kd.C_below HRr.out hHeld.bel)).mono ?_); rintro e w4 ⟨rfl, hb⟩; dsimp only)
  refine hK.out _ _ ?hA_16 (fun hHeld2 => ?mA_16)
  case hA_16 => exact Many.later hHeld hb
  clear hK K hHeld
  have hHeld := hHeld2
  clear hHeld2
  try simp only [Act.put, List.setIfInBounds_toArray, List.set_cons_zero, List.set_cons_succ]
  refine wpAnyH_ready (rs := [19]) (by kernel_rfl) (by simp) ?_
  refine AllReadyH.cons (o := ?oA_19) ?iA_19 (fun K hK => ?kA_19) AllReadyH.nil
  case iA_19 => (simp only [List.getElem?_toArray, List.getElem?_cons_succ, List.getElem?_cons_zero]; rfl)
  go_simp
  ((with_reducible refine (HhRO.out _ (Kd.C_below HRr.out hHeld.bel)).mono ?_); rintro e w4 ⟨rfl, hb⟩; dsimp only)
  refine hK.out _ _ ?hA_19 (fun hHeld2 => ?mA_19)
  case hA_19 => exact Many.later hHeld hb
  clear hK K hHeld
  have hHeld := hHeld2
  clear hHeld2
  try simp only [Act.put, List.setIfInBounds_toArray, List.set_cons_zero, List.set_cons_succ]
  refine wpAnyH_take (i := 20) (oi := ?oA_20) (v := ?vA_20) ?iA_20 (by kernel_rfl) (by kernel_rfl) (by kernel_rfl) ?qA_20 ?yA_20 hHeld ?nA_20
  case iA_20 => (simp only [List.getElem?_toArray, List.getElem?_cons_succ, List.getElem?_cons_zero]; rfl)
  case yA_20 => (refine Or.inl ⟨by kernel_rfl, ?_⟩; intro w' hSw; (try dsimp only at hSw); first | (go_simp; done) | (go_simp; with_reducible rfl))
  case qA_20 => exact fun _ _ _ h => h
  try simp only [Act.put, List.setIfInBounds_toArray, List.set_cons_zero, List.set_cons_succ]
  refine wpAnyH_take (i := 21) (oi := ?oA_21) (v := ?vA_21) ?iA_21 (by kernel_rfl) (by kernel_rfl) (by kernel_rfl) ?qA_21 ?yA_21 hHeld ?nA_21
  case iA_21 => (simp only [List.getElem?_toArray, List.getElem?_cons_succ, List.getElem?_cons_zero]; rfl)
  case yA_21 => (refine Or.inl ⟨by kernel_rfl, ?_⟩; intro w' hSw; (try dsimp only at hSw); first | (go_simp; done) | (go_simp; with_reducible rfl))
  case qA_21 => exact fun _ _ _ h => h
  try simp only [Act.put, List.setIfInBounds_toArray, List.set_cons_zero, List.set_cons_succ]
  refine wpAnyH_take (i := 22) (oi := ?oA_22) (v := ?vA_22) ?iA_22 (by kernel_rfl) (by kernel_rfl) (by kernel_rfl) ?qA_22 ?yA_22 hHeld ?nA_22
  case iA_22 => (simp only [List.getElem?_toArray, List.getElem?_cons_succ, List.getElem?_cons_zero]; rfl)
  case yA_22 => (refine Or.inl ⟨by kernel_rfl, ?_⟩; intro w' hSw; (try dsimp only at hSw); first | (go_simp; done) | (go_simp; with_reducible rfl))
  case qA_22 => exact fun _ _ _ h => h
  try simp only [Act.put, List.setIfInBounds_toArray, List.set_cons_zero, List.set_cons_succ]
  refine wpAnyH_take (i := 23) (oi := ?oA_23) (v := ?vA_23) ?iA_23 (by kernel_rfl) (by kernel_rfl) (by kernel_rfl) ?qA_23 ?yA_23 hHeld ?nA_23
  case iA_23 => (simp only [List.getElem?_toArray, List.getElem?_cons_succ, List.getElem?_cons_zero]; rfl)
  case yA_23 => (refine Or.inl ⟨by kernel_rfl, ?_⟩; intro w' hSw; (try dsimp only at hSw); first | (go_simp; done) | (go_simp; with_reducible rfl))
  case qA_23 => exact fun _ _ _ h => h
  try simp only [Act.put, List.setIfInBounds_toArray, List.set_cons_zero, List.set_cons_succ]
  refine wpAnyH_take (i := 24) (oi := ?oA_24) (v := ?vA_24) ?iA_24 (by kernel_rfl) (by kernel_rfl) (by kernel_rfl) ?qA_24 ?yA_24 hHeld ?nA_24
  case iA_24 => (simp only [List.getElem?_toArray, List.getElem?_cons_succ, List.getElem?_cons_zero]; rfl)
  case yA_24 => (refine Or.inl ⟨by kernel_rfl, ?_⟩; intro w' hSw; (try dsimp only at hSw); first | (go_simp; done) | (go_simp; with_reducible rfl))
  case qA_24 => exact fun _ _ _ h => h
  try simp only [Act.put, List.setIfInBounds_toArray, List.set_cons_zero, List.set_cons_succ]
  refine wpAnyH_ready (rs := [25]) (by kernel_rfl) (by simp) ?_
  refine AllReadyH.cons (o := ?oA_25) ?iA_25 (fun K hK => ?kA_25) AllReadyH.nil
  case iA_25 => (simp only [List.getElem?_toArray, List.getElem?_cons_succ, List.getElem?_cons_zero]; rfl)
  go_simp
  ((with_reducible refine (HhSM.out _ _ _ _ _ _ _ (HhPS.out _ _ _ _ _ HP1.out hHeld.bel) (HhPS.out _ _ _ _ _ HP2.out hHeld.bel)).mono ?_); rintro e w4 ⟨rfl, hb⟩; dsimp only)
  refine hK.out _ _ ?hA_25 (fun hHeld2 => ?mA_25)
  case hA_25 => exact Many.later hHeld hb
  clear hK K hHeld
  have hHeld := hHeld2
  clear hHeld2
  try simp only [Act.put, List.setIfInBounds_toArray, List.set_cons_zero, List.set_cons_succ]
  refine wpAnyH_take (i := 26) (oi := ?oA_26) (v := ?vA_26) ?iA_26 (by kernel_rfl) (by kernel_rfl) (by kernel_rfl) ?qA_26 ?yA_26 hHeld ?nA_26
  case iA_26 => (simp only [List.getElem?_toArray, List.getElem?_cons_succ, List.getElem?_cons_zero]; rfl)
  case yA_26 => (refine Or.inl ⟨by kernel_rfl, ?_⟩; intro w' hSw; (try dsimp only at hSw); first | (go_simp; done) | (go_simp; with_reducible rfl))
  case qA_26 => exact fun _ _ _ h => h
  try simp only [Act.put, List.setIfInBounds_toArray, List.set_cons_zero, List.set_cons_succ]
  refine wpAnyH_take (i := 27) (oi := ?oA_27) (v := ?vA_27) ?iA_27 (by kernel_rfl) (by kernel_rfl) (by kernel_rfl) ?qA_27 ?yA_27 hHeld ?nA_27
  case iA_27 => (simp only [List.getElem?_toArray, List.getElem?_cons_succ, List.getElem?_cons_zero]; rfl)
  case yA_27 => (refine Or.inl ⟨by kernel_rfl, ?_⟩; intro w' hSw; (try dsimp only at hSw); first | (go_simp; done) | (go_simp; with_reducible rfl))
  case qA_27 => exact fun _ _ _ h => h
  try simp only [Act.put, List.setIfInBounds_toArray, List.set_cons_zero, List.set_cons_succ]
  refine wpAnyH_take (i := 28) (oi := ?oA_28) (v := ?vA_28) ?iA_28 (by kernel_rfl) (by kernel_rfl) (by kernel_rfl) ?qA_28 ?yA_28 hHeld ?nA_28
  case iA_28 => (simp only [List.getElem?_toArray, List.getElem?_cons_succ, List.getElem?_cons_zero]; rfl)
  case yA_28 => (refine Or.inl ⟨by kernel_rfl, ?_⟩; intro w' hSw; (try dsimp only at hSw); first | (go_simp; done) | (go_simp; with_reducible rfl))
  case qA_28 => exact fun _ _ _ h => h
  try simp only [Act.put, List.setIfInBounds_toArray, List.set_cons_zero, List.set_cons_succ]
  refine wpAnyH_take (i := 30) (oi := ?oA_30) (v := ?vA_30) ?iA_30 (by kernel_rfl) (by kernel_rfl) (by kernel_rfl) ?qA_30 ?yA_30 hHeld ?nA_30
  case iA_30 => (simp only [List.getElem?_toArray, List.getElem?_cons_succ, List.getElem?_cons_zero]; rfl)
  case yA_30 => (refine Or.inl ⟨by kernel_rfl, ?_⟩; intro w' hSw; (try dsimp only at hSw); first | (go_simp; done) | (go_simp; with_reducible rfl))
  case qA_30 => exact fun _ _ _ h => h
  try simp only [Act.put, List.setIfInBounds_toArray, List.set_cons_zero, List.set_cons_succ]
  refine wpAnyH_ready (rs := [29]) (by kernel_rfl) (by simp) ?_
  refine AllReadyH.cons (o := ?oA_29) ?iA_29 (fun K hK => ?kA_29) AllReadyH.nil
  case iA_29 => (simp only [List.getElem?_toArray, List.getElem?_cons_succ, List.getElem?_cons_zero]; rfl)
  go_simp
  ((with_reducible refine (waywardenlaw08_num.calls _ _ _ rfl).mono ?_); rintro e w4 ⟨rfl, hd⟩; have hb := hd.below; clear hd; dsimp only)
  refine hK.out _ _ ?hA_29 (fun hHeld2 => ?mA_29)
  case hA_29 => exact Many.later hHeld hb
  clear hK K hHeld
  have hHeld := hHeld2
  clear hHeld2
  try simp only [Act.put, List.setIfInBounds_toArray, List.set_cons_zero, List.set_cons_succ]
  refine wpAnyH_take (i := 31) (oi := ?oA_31) (v := ?vA_31) ?iA_31 (by kernel_rfl) (by kernel_rfl) (by kernel_rfl) ?qA_31 ?yA_31 hHeld ?nA_31
  case iA_31 => (simp only [List.getElem?_toArray, List.getElem?_cons_succ, List.getElem?_cons_zero]; rfl)
  case yA_31 => (refine Or.inl ⟨by kernel_rfl, ?_⟩; intro w' hSw; (try dsimp only at hSw); first | (go_simp; done) | (go_simp; with_reducible rfl))
  case qA_31 => exact fun _ _ _ h => h
  try simp only [Act.put, List.setIfInBounds_toArray, List.set_cons_zero, List.set_cons_succ]
  refine wpAnyH_take (i := 32) (oi := ?oA_32) (v := ?vA_32) ?iA_32 (by kernel_rfl) (by kernel_rfl) (by kernel_rfl) ?qA_32 ?yA_32 hHeld ?nA_32
  case iA_32 => (simp only [List.getElem?_toArray, List.getElem?_cons_succ, List.getElem?_cons_zero]; rfl)
  case yA_32 => (refine Or.inl ⟨by kernel_rfl, ?_⟩; intro w' hSw; (try dsimp only at hSw); first | (go_simp; done) | (go_simp; with_reducible rfl))
  case qA_32 => exact fun _ _ _ h => h
  try simp only [Act.put, List.setIfInBounds_toArray, List.set_cons_zero, List.set_cons_succ]
  refine wpAnyH_take (i := 33) (oi := ?oA_33) (v := ?vA_33) ?iA_33 (by kernel_rfl) (by kernel_rfl) (by kernel_rfl) ?qA_33 ?yA_33 hHeld ?nA_33
  case iA_33 => (simp only [List.getElem?_toArray, List.getElem?_cons_succ, List.getElem?_cons_zero]; rfl)
  case yA_33 => (refine Or.inl ⟨by kernel_rfl, ?_⟩; intro w' hSw; (try dsimp only at hSw); first | (go_simp; done) | (go_simp; with_reducible rfl))
  case qA_33 => exact fun _ _ _ h => h
  try simp only [Act.put, List.setIfInBounds_toArray, List.set_cons_zero, List.set_cons_succ]
  refine wpAnyH_ready (rs := [34]) (by kernel_rfl) (by simp) ?_
  refine AllReadyH.cons (o := ?oA_34) ?iA_34 (fun K hK => ?kA_34) AllReadyH.nil
  case iA_34 => (simp only [List.getElem?_toArray, List.getElem?_cons_succ, List.getElem?_cons_zero]; rfl)
  go_simp
  ((with_reducible refine (works_any _).mono ?_); rintro e w4 ⟨rfl, hb⟩; dsimp only)
  refine hK.out _ _ ?hA_34 (fun hHeld2 => ?mA_34)
  case hA_34 => exact Many.later hHeld hb
  clear hK K hHeld
  have hHeld := hHeld2
  clear hHeld2
  try simp only [Act.put, List.setIfInBounds_toArray, List.set_cons_zero, List.set_cons_succ]
  refine wpAnyH_take (i := 35) (oi := ?oA_35) (v := ?vA_35) ?iA_35 (by kernel_rfl) (by kernel_rfl) (by kernel_rfl) ?qA_35 ?yA_35 hHeld ?nA_35
  case iA_35 => (simp only [List.getElem?_toArray, List.getElem?_cons_succ, List.getElem?_cons_zero]; rfl)
  case yA_35 => (refine Or.inl ⟨by kernel_rfl, ?_⟩; intro w' hSw; (try dsimp only at hSw); first | (go_simp; done) | (go_simp; with_reducible rfl))
  case qA_35 => exact fun _ _ _ h => h
  try simp only [Act.put, List.setIfInBounds_toArray, List.set_cons_zero, List.set_cons_succ]
  refine wpAnyH_take (i := 36) (oi := ?oA_36) (v := ?vA_36) ?iA_36 (by kernel_rfl) (by kernel_rfl) (by kernel_rfl) ?qA_36 ?yA_36 hHeld ?nA_36
  case iA_36 => (simp only [List.getElem?_toArray, List.getElem?_cons_succ, List.getElem?_cons_zero]; rfl)
  case yA_36 => (refine Or.inl ⟨by kernel_rfl, ?_⟩; intro w' hSw; (try dsimp only at hSw); first | (go_simp; done) | (go_simp; with_reducible rfl))
  case qA_36 => exact fun _ _ _ h => h
  try simp only [Act.put, List.setIfInBounds_toArray, List.set_cons_zero, List.set_cons_succ]
  refine wpAnyH_done (by kernel_rfl) ?_ _
  have HB9 := Aside0.mk (thenB HM.out.bel HM.out.bel.size (Many.bel hHeld))
  clear hHeld k0' k1' k2' k3' k4' k5' k6' k7' k8' pp0' pp1' s0' s1' s2' s3' s4' s5' s6' s7' s8' t0' t1' t2' t3' t4' t5' t6' t7' t8'
  go_wp2
  go_ret
  exact ⟨rfl, HB9.out⟩
theorem own_of_right {c0 c1 c2 c3 c4 c5 c6 cap : Int} {l : List Pfx} (h : rightN c0 c1 c2 c3 c4 c5 c6 cap l = true) : ownN l = true := by
  unfold rightN at h
  simp only [Bool.and_eq_true] at h
  exact h.2
theorem cks_walk (c0 c1 c2 c3 c4 c5 c6 cap : Int) (A : Option Addr) (l : List Pfx) (cc : Nat) (p0 p1 : Int) {w : World} (hr : Kd.C k28 w A l.length l) (hc : l.length ≤ cc) (ha : AdrP l) (_ : Adr p0) : ∀ w1, w1 = w →
    Calls Try.prog 3 #[.agg #[.int .i64 c0, .int .i64 c1, .int .i64 c2, .int .i64 c3, .int .i64 c4, .int .i64 c5, .int .i64 c6, .int .i64 cap, .slice A l.length cc], .agg #[.int .u32 p0, .int .i64 p1]] w1 fun e w' => e = .returned (.bool true) ∧ Below w.heap.size w w' := by
  rintro _ rfl
  by_cases h : l.length ≤ 30
  · have hm : l.length ≤ 140737488355328 := by omega
    cases hn : rightN c0 c1 c2 c3 c4 c5 c6 cap l with
    | true =>
      have ho := own_of_right hn
      exact cks_right c0 c1 c2 c3 c4 c5 c6 cap A l cc p0 p1 25 10 180 120 120 1 4 256 (hasP l p0 p1) (fun B n d W => n = l.length ∧ n ≤ d ∧ Kd.C k28 W B l.length l) _ hr hc ha hm h (fun B n d W W' h hb => ⟨h.1, h.2.1, Kd.C_below h.2.2 hb⟩) (fun W hW => by have q := check_any c0 c1 c2 c3 c4 c5 c6 cap A l cc W hW hc ha hm; rw [hn] at q; exact q) (fun W hW => by have q := cfgright_any c0 c1 c2 c3 c4 c5 c6 cap A l cc W hW hc ha hm; rw [hn] at q; exact q) (fun W hW => (std_yes A l cc W hW hc ha hm ho)) (fun W hW => (refstd_yes A l cc W hW hc ha hm ho)) (fun W hW => config_Owns.calls (l.length + 1) c0 c1 c2 c3 c4 c5 c6 cap A cc l p0 p1 _ W hW hc (by unfold config_Owns.f; rw [contains_eq l p0 p1 hm]; rfl)) (fun W hW => (waywardenref08_Owns.calls (l.length + 1) c0 c1 c2 c3 c4 c5 c6 cap A cc l p0 p1 _ W hW hc (refowns_eq l p0 p1 hm c0 c1 c2 c3 c4 c5 c6 cap))) (fun B n d B2 n2 d2 W h h2 => by obtain ⟨rfl, h3, h4⟩ := h; obtain ⟨rfl, h5, h6⟩ := h2; exact refsame_self 25 10 180 120 120 1 4 256 B B2 l d d2 W h4 h3 h6 h5 hm)
    | false =>
      cases ho : ownN l with
      | true => exact cks_left_own c0 c1 c2 c3 c4 c5 c6 cap A l cc p0 p1 25 10 180 120 120 1 4 256 (hasP l p0 p1) (fun B n d W => n = l.length ∧ n ≤ d ∧ Kd.C k28 W B l.length l) _ hr hc ha hm h (fun B n d W W' h hb => ⟨h.1, h.2.1, Kd.C_below h.2.2 hb⟩) (fun W hW => by have q := check_any c0 c1 c2 c3 c4 c5 c6 cap A l cc W hW hc ha hm; rw [hn] at q; exact q) (fun W hW => by have q := cfgright_any c0 c1 c2 c3 c4 c5 c6 cap A l cc W hW hc ha hm; rw [hn] at q; exact q) (fun W hW => (std_yes A l cc W hW hc ha hm ho)) (fun W hW => (refstd_yes A l cc W hW hc ha hm ho)) (fun W hW => config_Owns.calls (l.length + 1) c0 c1 c2 c3 c4 c5 c6 cap A cc l p0 p1 _ W hW hc (by unfold config_Owns.f; rw [contains_eq l p0 p1 hm]; rfl)) (fun W hW => (waywardenref08_Owns.calls (l.length + 1) c0 c1 c2 c3 c4 c5 c6 cap A cc l p0 p1 _ W hW hc (refowns_eq l p0 p1 hm c0 c1 c2 c3 c4 c5 c6 cap))) (fun B n d B2 n2 d2 W h h2 => by obtain ⟨rfl, h3, h4⟩ := h; obtain ⟨rfl, h5, h6⟩ := h2; exact refsame_self 25 10 180 120 120 1 4 256 B B2 l d d2 W h4 h3 h6 h5 hm)
      | false => exact cks_left_not c0 c1 c2 c3 c4 c5 c6 cap A l cc p0 p1 0 0 0 0 0 0 0 0 (hasP l p0 p1) (fun B n d _ => B = none ∧ n = 0 ∧ d = 0) _ hr hc ha hm h (fun B n d W W' h _ => h) (fun W hW => by have q := check_any c0 c1 c2 c3 c4 c5 c6 cap A l cc W hW hc ha hm; rw [hn] at q; exact q) (fun W hW => by have q := cfgright_any c0 c1 c2 c3 c4 c5 c6 cap A l cc W hW hc ha hm; rw [hn] at q; exact q) (fun W hW => (std_no A l cc W hW hc ha hm ho).mono fun e w' h => ⟨⟨none, 0, 0, h.1, rfl, rfl, rfl⟩, h.2⟩) (fun W hW => (refstd_no A l cc W hW hc ha hm ho).mono fun e w' h => ⟨⟨none, 0, 0, h.1, rfl, rfl, rfl⟩, h.2⟩) (fun W hW => config_Owns.calls (l.length + 1) c0 c1 c2 c3 c4 c5 c6 cap A cc l p0 p1 _ W hW hc (by unfold config_Owns.f; rw [contains_eq l p0 p1 hm]; rfl)) (fun W hW => (waywardenref08_Owns.calls (l.length + 1) c0 c1 c2 c3 c4 c5 c6 cap A cc l p0 p1 _ W hW hc (refowns_eq l p0 p1 hm c0 c1 c2 c3 c4 c5 c6 cap))) (fun B n d B2 n2 d2 W h h2 => by obtain ⟨rfl, rfl, rfl⟩ := h; obtain ⟨rfl, rfl, rfl⟩ := h2; exact refsame_self 0 0 0 0 0 0 0 0 none none [] 0 0 W (pfx_none W) (Nat.le_refl _) (pfx_none W) (Nat.le_refl _) (by simp))
  · exact cks_far c0 c1 c2 c3 c4 c5 c6 cap A l cc p0 p1 _ hr hc ha (by omega)
end Go.Proofs.Ytegdcalefpobeaa.A
