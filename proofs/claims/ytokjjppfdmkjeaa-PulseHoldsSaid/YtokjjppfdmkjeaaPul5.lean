/- pulse: Begin. -/
import Derived.Test.YtokjjppfdmkjeaaPulB
set_option linter.unusedVariables false
set_option linter.unusedSimpArgs false
namespace Go.Proofs.Ytokjjppfdmkjeaa.A
open Go.RowKit Go.Proofs.YtokjjppfdmkjeaaW.PrintWords Go.Proofs.YtokjjppfdmkjeaaW.PrintLast Go.Proofs.YtokjjppfdmkjeaaW.PrintMore Go.Proofs.Ytokjjppfdmkjeaa.PPulseHolds

theorem pulseOk_zero : pulseOk 0 0 = true := by decide
set_option maxHeartbeats 2000000 in
theorem begin_clear (g : Nat) (v0 v1 v2 : Value) (w : World) (hg : Blk w g 28 #[v0, v1, v2]) :
    Calls Try.prog 24 #[.pointer (some ⟨g, 0, none⟩)] w fun e w' => e = .returned (.tuple #[]) ∧ w' = sets w g 0 [.int .i64 0, .int .i64 0, .bool false] := by
  have c0 := hg.cell 0 _ rfl; have c1 := hg.cell 1 _ rfl; have c2 := hg.cell 2 _ rfl; have f0 := hg.frozen 0; have f1 := hg.frozen 1; have f2 := hg.frozen 2
  go_enter Try.func24, Try.ntmps24
  go_wp2
  go_end0
  exact ⟨rfl, rfl⟩
set_option maxRecDepth 20000 in
set_option maxHeartbeats 4000000 in
theorem begin_no2 (c0 c1 c2 c3 c4 c5 c6 cap : Int) (A : Option Addr) (l : List Pfx) (cc : Nat) (now d : Int) (w : World) (hr : Kd.C k81 w A l.length l) (hc : l.length ≤ cc) (ha : AdrP l) (hm : l.length ≤ 140737488355328) (hn : rightN c0 c1 c2 c3 c4 c5 c6 cap l = false) :
    Calls Try.prog 10 #[.agg #[.int .i64 c0, .int .i64 c1, .int .i64 c2, .int .i64 c3, .int .i64 c4, .int .i64 c5, .int .i64 c6, .int .i64 cap, .slice A l.length cc], .int .i64 now, .int .i64 d] w fun e w' => e = .returned (.tuple #[.agg #[.int .i64 0, .int .i64 0, .bool false], .int .i64 2]) ∧ Below w.heap.size w w' := by
  have hmf : ∀ (fn : Fn) (first cap : Array Value) (w : World), (Instr.makeFunc fn first cap).run Try.prog w = .ok (.func fn first cap) w := fun _ _ _ _ => rfl
  have HR := Aside0.mk hr
  have HA := Aside0.mk ha
  clear hr ha
  have Qhn := Aside0.mk hn
  clear hn
  have Hk : Aside0 (Blk (((w.alloc (.cells #[.int .i64 c0, .int .i64 c1, .int .i64 c2, .int .i64 c3, .int .i64 c4, .int .i64 c5, .int .i64 c6, .int .i64 cap, .slice A l.length cc] 24)).alloc (.cells #[.int .i64 0, .int .i64 0, .bool false] 28)).alloc (.cells #[.int .i64 0] 29)) (w.heap.size) 24 #[.int .i64 c0, .int .i64 c1, .int .i64 c2, .int .i64 c3, .int .i64 c4, .int .i64 c5, .int .i64 c6, .int .i64 cap, .slice A l.length cc]) := ⟨Blk.alloc (Blk.alloc (Blk.new' w 24 #[.int .i64 c0, .int .i64 c1, .int .i64 c2, .int .i64 c3, .int .i64 c4, .int .i64 c5, .int .i64 c6, .int .i64 cap, .slice A l.length cc] (w.heap.size) (by simp)) _) _⟩
  have Ho : Aside0 (Blk (((w.alloc (.cells #[.int .i64 c0, .int .i64 c1, .int .i64 c2, .int .i64 c3, .int .i64 c4, .int .i64 c5, .int .i64 c6, .int .i64 cap, .slice A l.length cc] 24)).alloc (.cells #[.int .i64 0, .int .i64 0, .bool false] 28)).alloc (.cells #[.int .i64 0] 29)) (w.heap.size + 1) 28 #[.int .i64 0, .int .i64 0, .bool false]) := ⟨Blk.alloc (Blk.new' (w.alloc (.cells #[.int .i64 c0, .int .i64 c1, .int .i64 c2, .int .i64 c3, .int .i64 c4, .int .i64 c5, .int .i64 c6, .int .i64 cap, .slice A l.length cc] 24)) 28 #[.int .i64 0, .int .i64 0, .bool false] (w.heap.size + 1) (by simp)) _⟩
  have He : Aside0 (Blk (((w.alloc (.cells #[.int .i64 c0, .int .i64 c1, .int .i64 c2, .int .i64 c3, .int .i64 c4, .int .i64 c5, .int .i64 c6, .int .i64 cap, .slice A l.length cc] 24)).alloc (.cells #[.int .i64 0, .int .i64 0, .bool false] 28)).alloc (.cells #[.int .i64 0] 29)) (w.heap.size + 1 + 1) 29 #[.int .i64 0]) := ⟨Blk.new' ((w.alloc (.cells #[.int .i64 c0, .int .i64 c1, .int .i64 c2, .int .i64 c3, .int .i64 c4, .int .i64 c5, .int .i64 c6, .int .i64 cap, .slice A l.length cc] 24)).alloc (.cells #[.int .i64 0, .int .i64 0, .bool false] 28)) 29 #[.int .i64 0] (w.heap.size + 1 + 1) (by simp)⟩
  have HT : Aside0 (Below w.heap.size w (((w.alloc (.cells #[.int .i64 c0, .int .i64 c1, .int .i64 c2, .int .i64 c3, .int .i64 c4, .int .i64 c5, .int .i64 c6, .int .i64 cap, .slice A l.length cc] 24)).alloc (.cells #[.int .i64 0, .int .i64 0, .bool false] 28)).alloc (.cells #[.int .i64 0] 29))) := ⟨below_alloc (below_alloc (below_alloc (Below.refl w.heap.size w) _) _) _⟩
  go_enter_defers Try.func10, Try.ntmps10
  go_wp2_with (go_at_call 25; go_loud ((with_reducible refine (asked_no2 c0 c1 c2 c3 c4 c5 c6 cap A l cc 0 0 false now _ (Kd.C_below HR.out HT.out) hc HA.out hm pulseOk_zero Qhn.out).mono ?_); rintro e w9 ⟨rfl, hb⟩; have Ho := Aside0.mk (Blk.later Ho.out hb); have He := Aside0.mk (Blk.later He.out hb); have HT := Aside0.mk (thenB HT.out HT.out.size hb); (try clear o0 o1 o2 e0 of0 of1 of2 ef0); have o0 := Blk.cell Ho.out 0 _ rfl; have of0 := Blk.frozen Ho.out 0; have o1 := Blk.cell Ho.out 1 _ rfl; have of1 := Blk.frozen Ho.out 1; have o2 := Blk.cell Ho.out 2 _ rfl; have of2 := Blk.frozen Ho.out 2; have e0 := Blk.cell He.out 0 _ rfl; have ef0 := Blk.frozen He.out 0; clear hb))
  refine leaves_cons (f := 23) (args := #[.pointer (some ⟨w.heap.size + 1 + 1, 0, none⟩), .func (.func 24) #[] #[.pointer (some ⟨w.heap.size + 1, 0, none⟩)]]) (by simp) (by simp [go_sem]) ?_
  refine (pulse_caught_any 24 #[.pointer (some ⟨w.heap.size + 1, 0, none⟩)] ⟨w.heap.size + 1 + 1, 0, none⟩ 2 w9 (fun w' => w' = sets w9 (w.heap.size + 1) 0 [.int .i64 0, .int .i64 0, .bool false]) (fun _ _ => by kernel_rfl) ((begin_clear (w.heap.size + 1) _ _ _ w9 Ho.out).mono ?_)).mono ?_
  · rintro e w2 ⟨rfl, rfl⟩
    have X := (OneSet.whole Ho.out [.int .i64 0, .int .i64 0, .bool false] rfl).other He.out (by omega)
    exact ⟨rfl, rfl, ⟨_, X.cell 0 _ rfl⟩, X.frozen 0⟩
  rintro e u' w'' ⟨rfl, rfl, w2, rfl, rfl⟩
  have O := OneSet.whole Ho.out [.int .i64 0, .int .i64 0, .bool false] rfl
  have Y1 := O.blk.far (p := ⟨w.heap.size + 1 + 1, 0, none⟩) (by simp) (.int .i64 2)
  have Y3 := (O.other He.out (by omega)).set_ 0 (.int .i64 2)
  have z3 := Y3.cell 0 _ rfl
  refine ⟨_, results_2c (p := 6) (q := 7) rfl _ _ ⟨w.heap.size + 1, 0, none⟩ ⟨w.heap.size + 1 + 1, 0, none⟩ _ (.int .i64 2) rfl (load_blk Y1 Try.underlying28 rfl (by kernel_rfl)) rfl (by simp [go_sem, z3]), rfl, ?_⟩
  exact Below.setCell (p := ⟨w.heap.size + 1 + 1, 0, none⟩) (HT.out.trans (O.bel.mono (by omega))) (by simp; omega) _
set_option maxRecDepth 20000 in
set_option maxHeartbeats 4000000 in
theorem begin_no3 (c0 c1 c2 c3 c4 c5 c6 cap : Int) (A : Option Addr) (l : List Pfx) (cc : Nat) (now d : Int) (w : World) (hr : Kd.C k81 w A l.length l) (hc : l.length ≤ cc) (ha : AdrP l) (hm : l.length ≤ 140737488355328) (hn : rightN c0 c1 c2 c3 c4 c5 c6 cap l = true) (h0 : ¬ (0 ≤ now ∧ now ≤ 4611686018425387904)) :
    Calls Try.prog 10 #[.agg #[.int .i64 c0, .int .i64 c1, .int .i64 c2, .int .i64 c3, .int .i64 c4, .int .i64 c5, .int .i64 c6, .int .i64 cap, .slice A l.length cc], .int .i64 now, .int .i64 d] w fun e w' => e = .returned (.tuple #[.agg #[.int .i64 0, .int .i64 0, .bool false], .int .i64 170]) ∧ Below w.heap.size w w' := by
  have hmf : ∀ (fn : Fn) (first cap : Array Value) (w : World), (Instr.makeFunc fn first cap).run Try.prog w = .ok (.func fn first cap) w := fun _ _ _ _ => rfl
  have HR := Aside0.mk hr
  have HA := Aside0.mk ha
  clear hr ha
  have Qhn := Aside0.mk hn
  have Qh0 := Aside0.mk h0
  clear hn h0
  have Hk : Aside0 (Blk (((w.alloc (.cells #[.int .i64 c0, .int .i64 c1, .int .i64 c2, .int .i64 c3, .int .i64 c4, .int .i64 c5, .int .i64 c6, .int .i64 cap, .slice A l.length cc] 24)).alloc (.cells #[.int .i64 0, .int .i64 0, .bool false] 28)).alloc (.cells #[.int .i64 0] 29)) (w.heap.size) 24 #[.int .i64 c0, .int .i64 c1, .int .i64 c2, .int .i64 c3, .int .i64 c4, .int .i64 c5, .int .i64 c6, .int .i64 cap, .slice A l.length cc]) := ⟨Blk.alloc (Blk.alloc (Blk.new' w 24 #[.int .i64 c0, .int .i64 c1, .int .i64 c2, .int .i64 c3, .int .i64 c4, .int .i64 c5, .int .i64 c6, .int .i64 cap, .slice A l.length cc] (w.heap.size) (by simp)) _) _⟩
  have Ho : Aside0 (Blk (((w.alloc (.cells #[.int .i64 c0, .int .i64 c1, .int .i64 c2, .int .i64 c3, .int .i64 c4, .int .i64 c5, .int .i64 c6, .int .i64 cap, .slice A l.length cc] 24)).alloc (.cells #[.int .i64 0, .int .i64 0, .bool false] 28)).alloc (.cells #[.int .i64 0] 29)) (w.heap.size + 1) 28 #[.int .i64 0, .int .i64 0, .bool false]) := ⟨Blk.alloc (Blk.new' (w.alloc (.cells #[.int .i64 c0, .int .i64 c1, .int .i64 c2, .int .i64 c3, .int .i64 c4, .int .i64 c5, .int .i64 c6, .int .i64 cap, .slice A l.length cc] 24)) 28 #[.int .i64 0, .int .i64 0, .bool false] (w.heap.size + 1) (by simp)) _⟩
  have He : Aside0 (Blk (((w.alloc (.cells #[.int .i64 c0, .int .i64 c1, .int .i64 c2, .int .i64 c3, .int .i64 c4, .int .i64 c5, .int .i64 c6, .int .i64 cap, .slice A l.length cc] 24)).alloc (.cells #[.int .i64 0, .int .i64 0, .bool false] 28)).alloc (.cells #[.int .i64 0] 29)) (w.heap.size + 1 + 1) 29 #[.int .i64 0]) := ⟨Blk.new' ((w.alloc (.cells #[.int .i64 c0, .int .i64 c1, .int .i64 c2, .int .i64 c3, .int .i64 c4, .int .i64 c5, .int .i64 c6, .int .i64 cap, .slice A l.length cc] 24)).alloc (.cells #[.int .i64 0, .int .i64 0, .bool false] 28)) 29 #[.int .i64 0] (w.heap.size + 1 + 1) (by simp)⟩
  have HT : Aside0 (Below w.heap.size w (((w.alloc (.cells #[.int .i64 c0, .int .i64 c1, .int .i64 c2, .int .i64 c3, .int .i64 c4, .int .i64 c5, .int .i64 c6, .int .i64 cap, .slice A l.length cc] 24)).alloc (.cells #[.int .i64 0, .int .i64 0, .bool false] 28)).alloc (.cells #[.int .i64 0] 29))) := ⟨below_alloc (below_alloc (below_alloc (Below.refl w.heap.size w) _) _) _⟩
  go_enter_defers Try.func10, Try.ntmps10
  go_wp2_with (go_at_call 25; go_loud ((with_reducible refine (asked_no3 c0 c1 c2 c3 c4 c5 c6 cap A l cc 0 0 false now _ (Kd.C_below HR.out HT.out) hc HA.out hm pulseOk_zero Qhn.out Qh0.out).mono ?_); rintro e w9 ⟨rfl, hb⟩; have Ho := Aside0.mk (Blk.later Ho.out hb); have He := Aside0.mk (Blk.later He.out hb); have HT := Aside0.mk (thenB HT.out HT.out.size hb); (try clear o0 o1 o2 e0 of0 of1 of2 ef0); have o0 := Blk.cell Ho.out 0 _ rfl; have of0 := Blk.frozen Ho.out 0; have o1 := Blk.cell Ho.out 1 _ rfl; have of1 := Blk.frozen Ho.out 1; have o2 := Blk.cell Ho.out 2 _ rfl; have of2 := Blk.frozen Ho.out 2; have e0 := Blk.cell He.out 0 _ rfl; have ef0 := Blk.frozen He.out 0; clear hb))
  refine leaves_cons (f := 23) (args := #[.pointer (some ⟨w.heap.size + 1 + 1, 0, none⟩), .func (.func 24) #[] #[.pointer (some ⟨w.heap.size + 1, 0, none⟩)]]) (by simp) (by simp [go_sem]) ?_
  refine (pulse_caught_any 24 #[.pointer (some ⟨w.heap.size + 1, 0, none⟩)] ⟨w.heap.size + 1 + 1, 0, none⟩ 170 w9 (fun w' => w' = sets w9 (w.heap.size + 1) 0 [.int .i64 0, .int .i64 0, .bool false]) (fun _ _ => by kernel_rfl) ((begin_clear (w.heap.size + 1) _ _ _ w9 Ho.out).mono ?_)).mono ?_
  · rintro e w2 ⟨rfl, rfl⟩
    have X := (OneSet.whole Ho.out [.int .i64 0, .int .i64 0, .bool false] rfl).other He.out (by omega)
    exact ⟨rfl, rfl, ⟨_, X.cell 0 _ rfl⟩, X.frozen 0⟩
  rintro e u' w'' ⟨rfl, rfl, w2, rfl, rfl⟩
  have O := OneSet.whole Ho.out [.int .i64 0, .int .i64 0, .bool false] rfl
  have Y1 := O.blk.far (p := ⟨w.heap.size + 1 + 1, 0, none⟩) (by simp) (.int .i64 170)
  have Y3 := (O.other He.out (by omega)).set_ 0 (.int .i64 170)
  have z3 := Y3.cell 0 _ rfl
  refine ⟨_, results_2c (p := 6) (q := 7) rfl _ _ ⟨w.heap.size + 1, 0, none⟩ ⟨w.heap.size + 1 + 1, 0, none⟩ _ (.int .i64 170) rfl (load_blk Y1 Try.underlying28 rfl (by kernel_rfl)) rfl (by simp [go_sem, z3]), rfl, ?_⟩
  exact Below.setCell (p := ⟨w.heap.size + 1 + 1, 0, none⟩) (HT.out.trans (O.bel.mono (by omega))) (by simp; omega) _
set_option maxRecDepth 20000 in
set_option maxHeartbeats 4000000 in
theorem begin_yes (c0 c1 c2 c3 c4 c5 c6 cap : Int) (A : Option Addr) (l : List Pfx) (cc : Nat) (now d : Int) (w : World) (hr : Kd.C k81 w A l.length l) (hc : l.length ≤ cc) (ha : AdrP l) (hm : l.length ≤ 140737488355328) (hn : rightN c0 c1 c2 c3 c4 c5 c6 cap l = true) (h0 : 0 ≤ now ∧ now ≤ 4611686018425387904) :
    Calls Try.prog 10 #[.agg #[.int .i64 c0, .int .i64 c1, .int .i64 c2, .int .i64 c3, .int .i64 c4, .int .i64 c5, .int .i64 c6, .int .i64 cap, .slice A l.length cc], .int .i64 now, .int .i64 d] w fun e w' => e = .returned (.tuple #[.agg #[.int .i64 (now + (c0 + clampN d c1)), .int .i64 now, .bool false], .int .i64 0]) ∧ Below w.heap.size w w' := by
  have hmf : ∀ (fn : Fn) (first cap : Array Value) (w : World), (Instr.makeFunc fn first cap).run Try.prog w = .ok (.func fn first cap) w := fun _ _ _ _ => rfl
  have HR := Aside0.mk hr
  have HA := Aside0.mk ha
  clear hr ha
  have Qhn := Aside0.mk hn
  have Qh0 := Aside0.mk h0
  obtain ⟨X, hX⟩ : ∃ X, now + (c0 + clampN d c1) = X := ⟨_, rfl⟩
  have HX := Aside0.mk hX
  rw [hX]
  clear hn h0 hX
  have Hk : Aside0 (Blk (((w.alloc (.cells #[.int .i64 c0, .int .i64 c1, .int .i64 c2, .int .i64 c3, .int .i64 c4, .int .i64 c5, .int .i64 c6, .int .i64 cap, .slice A l.length cc] 24)).alloc (.cells #[.int .i64 0, .int .i64 0, .bool false] 28)).alloc (.cells #[.int .i64 0] 29)) (w.heap.size) 24 #[.int .i64 c0, .int .i64 c1, .int .i64 c2, .int .i64 c3, .int .i64 c4, .int .i64 c5, .int .i64 c6, .int .i64 cap, .slice A l.length cc]) := ⟨Blk.alloc (Blk.alloc (Blk.new' w 24 #[.int .i64 c0, .int .i64 c1, .int .i64 c2, .int .i64 c3, .int .i64 c4, .int .i64 c5, .int .i64 c6, .int .i64 cap, .slice A l.length cc] (w.heap.size) (by simp)) _) _⟩
  have Ho : Aside0 (Blk (((w.alloc (.cells #[.int .i64 c0, .int .i64 c1, .int .i64 c2, .int .i64 c3, .int .i64 c4, .int .i64 c5, .int .i64 c6, .int .i64 cap, .slice A l.length cc] 24)).alloc (.cells #[.int .i64 0, .int .i64 0, .bool false] 28)).alloc (.cells #[.int .i64 0] 29)) (w.heap.size + 1) 28 #[.int .i64 0, .int .i64 0, .bool false]) := ⟨Blk.alloc (Blk.new' (w.alloc (.cells #[.int .i64 c0, .int .i64 c1, .int .i64 c2, .int .i64 c3, .int .i64 c4, .int .i64 c5, .int .i64 c6, .int .i64 cap, .slice A l.length cc] 24)) 28 #[.int .i64 0, .int .i64 0, .bool false] (w.heap.size + 1) (by simp)) _⟩
  have He : Aside0 (Blk (((w.alloc (.cells #[.int .i64 c0, .int .i64 c1, .int .i64 c2, .int .i64 c3, .int .i64 c4, .int .i64 c5, .int .i64 c6, .int .i64 cap, .slice A l.length cc] 24)).alloc (.cells #[.int .i64 0, .int .i64 0, .bool false] 28)).alloc (.cells #[.int .i64 0] 29)) (w.heap.size + 1 + 1) 29 #[.int .i64 0]) := ⟨Blk.new' ((w.alloc (.cells #[.int .i64 c0, .int .i64 c1, .int .i64 c2, .int .i64 c3, .int .i64 c4, .int .i64 c5, .int .i64 c6, .int .i64 cap, .slice A l.length cc] 24)).alloc (.cells #[.int .i64 0, .int .i64 0, .bool false] 28)) 29 #[.int .i64 0] (w.heap.size + 1 + 1) (by simp)⟩
  have HT : Aside0 (Below w.heap.size w (((w.alloc (.cells #[.int .i64 c0, .int .i64 c1, .int .i64 c2, .int .i64 c3, .int .i64 c4, .int .i64 c5, .int .i64 c6, .int .i64 cap, .slice A l.length cc] 24)).alloc (.cells #[.int .i64 0, .int .i64 0, .bool false] 28)).alloc (.cells #[.int .i64 0] 29))) := ⟨below_alloc (below_alloc (below_alloc (Below.refl w.heap.size w) _) _) _⟩
  go_enter_defers Try.func10, Try.ntmps10
  go_wp2_with (first
    | (go_at_call 25; go_loud ((with_reducible refine (asked_ok c0 c1 c2 c3 c4 c5 c6 cap A l cc 0 0 false now _ (Kd.C_below HR.out HT.out) hc HA.out hm pulseOk_zero Qhn.out Qh0.out).mono ?_); rintro e w9 ⟨rfl, hb⟩; have Hk := Aside0.mk (Blk.later Hk.out hb); have Ho := Aside0.mk (Blk.later Ho.out hb); have He := Aside0.mk (Blk.later He.out hb); have HT := Aside0.mk (thenB HT.out HT.out.size hb); (try clear k0 k1 k2 k3 k4 k5 k6 k7 k8 o0 o1 o2 e0 of0 of1 of2 ef0); have k0 := Blk.cell Hk.out 0 _ rfl; have k1 := Blk.cell Hk.out 1 _ rfl; have k2 := Blk.cell Hk.out 2 _ rfl; have k3 := Blk.cell Hk.out 3 _ rfl; have k4 := Blk.cell Hk.out 4 _ rfl; have k5 := Blk.cell Hk.out 5 _ rfl; have k6 := Blk.cell Hk.out 6 _ rfl; have k7 := Blk.cell Hk.out 7 _ rfl; have k8 := Blk.cell Hk.out 8 _ rfl; have o0 := Blk.cell Ho.out 0 _ rfl; have of0 := Blk.frozen Ho.out 0; have o1 := Blk.cell Ho.out 1 _ rfl; have of1 := Blk.frozen Ho.out 1; have o2 := Blk.cell Ho.out 2 _ rfl; have of2 := Blk.frozen Ho.out 2; have e0 := Blk.cell He.out 0 _ rfl; have ef0 := Blk.frozen He.out 0; clear hb))
    | (go_at_call 26; go_loud ((with_reducible refine (pwait_any c0 c1 c2 c3 c4 c5 c6 cap A l cc now d _ (Kd.C_below HR.out HT.out) hc HA.out hm Qhn.out Qh0.out.1 (by have := Qh0.out.2; omega)).mono ?_); rw [HX.out]; rintro e w9 ⟨rfl, hb⟩; have Hk := Aside0.mk (Blk.later Hk.out hb); have Ho := Aside0.mk (Blk.later Ho.out hb); have He := Aside0.mk (Blk.later He.out hb); have HT := Aside0.mk (thenB HT.out HT.out.size hb); (try clear k0 k1 k2 k3 k4 k5 k6 k7 k8 o0 o1 o2 e0 of0 of1 of2 ef0); have k0 := Blk.cell Hk.out 0 _ rfl; have k1 := Blk.cell Hk.out 1 _ rfl; have k2 := Blk.cell Hk.out 2 _ rfl; have k3 := Blk.cell Hk.out 3 _ rfl; have k4 := Blk.cell Hk.out 4 _ rfl; have k5 := Blk.cell Hk.out 5 _ rfl; have k6 := Blk.cell Hk.out 6 _ rfl; have k7 := Blk.cell Hk.out 7 _ rfl; have k8 := Blk.cell Hk.out 8 _ rfl; have o0 := Blk.cell Ho.out 0 _ rfl; have of0 := Blk.frozen Ho.out 0; have o1 := Blk.cell Ho.out 1 _ rfl; have of1 := Blk.frozen Ho.out 1; have o2 := Blk.cell Ho.out 2 _ rfl; have of2 := Blk.frozen Ho.out 2; have e0 := Blk.cell He.out 0 _ rfl; have ef0 := Blk.frozen He.out 0; clear hb)))
  have P1 := OneSet.whole Ho.out [.int .i64 X, .int .i64 now, .bool false] rfl
  have P3 := (OneSet.start (P1.other He.out (by omega))).set_ 0 (.int .i64 0)
  have Y1 := P3.other P1.blk (by omega)
  have Y3 := P3.blk
  have z3 := Y3.cell 0 _ rfl
  have hbel := (HT.out.trans (P1.bel.mono (by omega))).trans (P3.bel.mono (by omega))
  simp only [sets, List.setIfInBounds_toArray, List.set_cons_zero, List.set_cons_succ, Nat.zero_add, Nat.reduceAdd] at Y1 Y3 z3 hbel
  refine leaves_cons (f := 23) (args := #[.pointer (some ⟨w.heap.size + 1 + 1, 0, none⟩), .func (.func 24) #[] #[.pointer (some ⟨w.heap.size + 1, 0, none⟩)]]) (by simp) (by simp [go_sem]) ?_
  refine (pulse_caught_idle _ _ _).mono ?_
  rintro e u' w'' ⟨rfl, rfl, rfl⟩
  refine ⟨_, results_2c (p := 6) (q := 7) rfl _ _ ⟨w.heap.size + 1, 0, none⟩ ⟨w.heap.size + 1 + 1, 0, none⟩ _ (.int .i64 0) rfl (load_blk Y1 Try.underlying28 rfl (by kernel_rfl)) rfl (by simp [go_sem, z3]), rfl, hbel⟩
end Go.Proofs.Ytokjjppfdmkjeaa.A
