import Derived.Test.YtokjjppfdmkjeaaCfg1
import Derived.Test.YtokjjppfdmkjeaaSet
import Derived.Test.YtokjjppfdmkjeaaWait
/- pulse: to give up, and to be caught. -/
set_option linter.unusedVariables false
set_option linter.unusedSimpArgs false
namespace Go.Proofs.Ytokjjppfdmkjeaa.A
open Go.RowKit Go.Proofs.YtokjjppfdmkjeaaW.PrintWords Go.Proofs.YtokjjppfdmkjeaaW.PrintLast Go.Proofs.YtokjjppfdmkjeaaW.PrintMore Go.Proofs.Ytokjjppfdmkjeaa.PPulseHolds

theorem pulse_must_ok (e0 : Int) (w : World) : Calls Try.prog 41 #[.bool true, .int .i64 e0] w fun e w' => e = .returned (.tuple #[]) ∧ w = w' := by
  go_enter Try.func41, Try.ntmps41
  go_wp2
  go_end0
  exact ⟨rfl, rfl⟩
theorem pulse_must_no (e0 : Int) (w : World) : Calls Try.prog 41 #[.bool false, .int .i64 e0] w fun e w' => e = .panicked [given e0] ∧ w = w' := by
  go_enter Try.func41, Try.ntmps41
  go_wp2
  exact ⟨rfl, rfl, rfl⟩
theorem pulse_caught_idle (p : Addr) (f : Value) (w : World) :
    CallsD Try.prog 23 #[.pointer (some p), f] .returning w fun e u' w' => e = .returned (.tuple #[]) ∧ u' = .returning ∧ w' = w := by
  refine callsD_of_wpS Try.func23 rfl fun c₀ cs hu => ?_
  apply wpS_seq
  apply wpS_region
  simp [wpOpsS, go_sem, recoverD, hu, Try.ntmps23, Exit.thenS]
  apply wpS_seq
  apply wpS_seq
  apply wpS_region
  simp [wpOpsS, go_sem, Exit.thenS]
  refine wpS_cond (t := true) (by simp [Act.eval, Array.replicate]) ?_
  simp only [if_true]
  refine wpS_of_wp (wp_ret ?_)
  cases c₀
  simp_all [bodyPostS, results, Try.results23, Exit.thenS]
/-- how what was caught ends -/
def pulse_CaughtBy (R : World → Prop) (p : Addr) (e0 : Int) (w' : World) : Prop := ∃ w2, R w2 ∧ w' = w2.setCell p (.int .i64 e0)
set_option maxRecDepth 20000 in
set_option maxHeartbeats 1000000 in
theorem pulse_caught_any (F : FuncId) (caps : Array Value) (p : Addr) (e0 : Int) (w : World) (R : World → Prop) (hF : ∀ (args : Array Value) (w : World), (callFunc F args).run Try.prog w = .ok (.enter F args) w)
    (hcl : Calls Try.prog F caps w fun e w' => e = .returned (.tuple #[]) ∧ R w' ∧ (∃ x, w'.cell? p = some (.int .i64 x)) ∧ w'.frozen? p = false) :
    CallsD Try.prog 23 #[.pointer (some p), .func (.func F) #[] caps] (.panicking [given e0]) w fun e u' w' => e = .returned (.tuple #[]) ∧ u' = .panicking [{ given e0 with recovered := true }] ∧ pulse_CaughtBy R p e0 w' := by
  have HC := Aside0.mk hcl
  clear hcl
  refine callsD_of_wpS Try.func23 rfl fun c₀ cs hu => ?_
  unfold given at hu
  apply wpS_seq
  apply wpS_region
  simp [wpOpsS, go_sem, recoverD, hu, Try.ntmps23, Exit.thenS]
  refine wpS_of_wp (Code.wp_mono (Q := fun e a' w' => e = .normal ∧ a'.defers = [] ∧ pulse_CaughtBy R p e0 w') ?_ ?_)
  · rintro e a' w' ⟨rfl, hd, hR⟩
    cases c₀
    simp_all [bodyPostS, results, Try.results23, Exit.thenS, given]
  · clear hu
    rw [tmps_caught]
    have hta : ∀ w : World, (Instr.typeAssert (.iface 29 (.int .i64 e0)) 20 29 true).run Try.prog w = .ok (.tuple #[.int .i64 e0, .bool true]) w := fun _ => by kernel_rfl
    go_wp2_with ((with_reducible refine HC.out.mono ?_); rintro e w1 ⟨rfl, hR, ⟨x, hx⟩, hz⟩; have HR := Aside0.mk hR; clear hR)
    exact ⟨_, HR.out, rfl⟩
end Go.Proofs.Ytokjjppfdmkjeaa.A


/- pulse: what is asked; waits. -/
set_option linter.unusedVariables false
set_option linter.unusedSimpArgs false
namespace Go.Proofs.Ytokjjppfdmkjeaa.A
open Go.RowKit Go.Proofs.YtokjjppfdmkjeaaW.PrintWords Go.Proofs.YtokjjppfdmkjeaaW.PrintLast Go.Proofs.YtokjjppfdmkjeaaW.PrintMore Go.Proofs.Ytokjjppfdmkjeaa.PPulseHolds

/-- may a pulse be? -/
def pulseOk (u0 u1 : Int) : Bool := decide (0 ≤ u0 ∧ u0 ≤ 4611686018427387904 ∧ 0 ≤ u1 ∧ u1 ≤ 4611686018427387904)
theorem rd_one (a : Int) (l : List Int) : rd (a :: l) 0 = a := rfl
theorem pulse_right_eq (u0 u1 : Int) (u2 : Bool) : pulse_look_right.f 3 u0 u1 u2 = some (pulseOk u0 u1) := by
  unfold pulse_look_right.f pulse_within_int64.f pulseOk
  have e1 : rd [u0, u1] 0 = u0 := rfl
  have e2 : rd [u0, u1] 1 = u1 := rfl
  have e3 : wrap64 (0 + 1) = 1 := by decide +kernel
  have e4 : wrap64 (1 + 1) = 2 := by decide +kernel
  have e5 : (([u0, u1] : List Int).length : Int) = 2 := rfl
  rw [e5]
  simp only [pulse_within_int64.l0, e1, e2, e3, e4]
  by_cases a0 : u0 < 0
  · rw [if_pos (by omega), if_pos (by omega), if_pos (by rw [e5]; omega), if_pos a0, decide_eq_false (by omega)]; rfl
  · by_cases a1 : u0 > 4611686018427387904
    · rw [if_pos (by omega), if_pos (by omega), if_pos (by rw [e5]; omega), if_neg a0, if_pos a1, decide_eq_false (by omega)]; rfl
    · by_cases a2 : u1 < 0
      · rw [if_pos (by omega), if_pos (by omega), if_pos (by rw [e5]; omega), if_neg a0, if_neg a1, if_pos (by omega), if_pos (by omega), if_pos (by rw [e5]; omega), if_pos a2, decide_eq_false (by omega)]; rfl
      · by_cases a3 : u1 > 4611686018427387904
        · rw [if_pos (by omega), if_pos (by omega), if_pos (by rw [e5]; omega), if_neg a0, if_neg a1, if_pos (by omega), if_pos (by omega), if_pos (by rw [e5]; omega), if_neg a2, if_pos a3, decide_eq_false (by omega)]; rfl
        · rw [if_pos (by omega), if_pos (by omega), if_pos (by rw [e5]; omega), if_neg a0, if_neg a1, if_pos (by omega), if_pos (by omega), if_pos (by rw [e5]; omega), if_neg a2, if_neg a3, if_neg (by omega), decide_eq_true (by omega)]; rfl
theorem pulse_now_eq (now : Int) : pulse_within_int64.f 3 0 4611686018425387904 [now] = some (decide (0 ≤ now ∧ now ≤ 4611686018425387904)) := by
  unfold pulse_within_int64.f
  have e1 : rd [now] 0 = now := rfl
  have e3 : wrap64 (0 + 1) = 1 := by decide +kernel
  have e5 : (([now] : List Int).length : Int) = 1 := rfl
  rw [e5]
  simp only [pulse_within_int64.l0, e1, e3]
  by_cases a0 : now < 0
  · rw [if_pos (by omega), if_pos (by omega), if_pos (by rw [e5]; omega), if_pos a0, decide_eq_false (by omega)]
  · by_cases a1 : now > 4611686018425387904
    · rw [if_pos (by omega), if_pos (by omega), if_pos (by rw [e5]; omega), if_neg a0, if_pos a1, decide_eq_false (by omega)]
    · rw [if_pos (by omega), if_pos (by omega), if_pos (by rw [e5]; omega), if_neg a0, if_neg a1, if_neg (by omega), decide_eq_true (by omega)]
set_option maxHeartbeats 2000000 in
theorem asked1_any (c0 c1 c2 c3 c4 c5 c6 cap : Int) (A : Option Addr) (l : List Pfx) (cc : Nat) (g : Nat) (w : World) (hk : Blk w g 24 #[.int .i64 c0, .int .i64 c1, .int .i64 c2, .int .i64 c3, .int .i64 c4, .int .i64 c5, .int .i64 c6, .int .i64 cap, .slice A l.length cc]) (hr : Kd.C k81 w A l.length l) (hc : l.length ≤ cc) (ha : AdrP l) (hm : l.length ≤ 140737488355328) :
    Calls Try.prog 39 #[.pointer (some ⟨g, 0, none⟩)] w fun e w' => e = .returned (.bool (rightN c0 c1 c2 c3 c4 c5 c6 cap l)) ∧ Below w.heap.size w w' := by
  have HR := Aside0.mk hr
  have HA := Aside0.mk ha
  clear hr ha
  have k0 := hk.cell 0 _ rfl; have k1 := hk.cell 1 _ rfl; have k2 := hk.cell 2 _ rfl; have k3 := hk.cell 3 _ rfl; have k4 := hk.cell 4 _ rfl; have k5 := hk.cell 5 _ rfl; have k6 := hk.cell 6 _ rfl; have k7 := hk.cell 7 _ rfl; have k8 := hk.cell 8 _ rfl
  cases hn : rightN c0 c1 c2 c3 c4 c5 c6 cap l with
  | true =>
    go_enter Try.func39, Try.ntmps39
    go_wp2_with (go_at_call 40; go_loud ((with_reducible refine (check_any c0 c1 c2 c3 c4 c5 c6 cap A l cc _ HR.out hc HA.out hm).mono ?_); rw [hn, if_pos rfl]; rintro e w9 ⟨rfl, hb⟩; have HB := Aside0.mk hb; clear hb))
    go_ret
    exact ⟨rfl, HB.out⟩
  | false =>
    go_enter Try.func39, Try.ntmps39
    go_wp2_with (go_at_call 40; go_loud ((with_reducible refine (check_any c0 c1 c2 c3 c4 c5 c6 cap A l cc _ HR.out hc HA.out hm).mono ?_); rw [hn, if_neg Bool.false_ne_true]; rintro e w9 ⟨rfl, hb⟩; have HB := Aside0.mk hb; clear hb))
    go_ret
    exact ⟨rfl, HB.out⟩
set_option maxRecDepth 20000 in
set_option maxHeartbeats 4000000 in
theorem asked_no1 (c0 c1 c2 c3 c4 c5 c6 cap : Int) (A : Option Addr) (l : List Pfx) (cc : Nat) (u0 u1 : Int) (u2 : Bool) (now : Int) (w : World) (hr : Kd.C k81 w A l.length l) (hc : l.length ≤ cc) (ha : AdrP l) (hm : l.length ≤ 140737488355328) (hp : pulseOk u0 u1 = false) :
    Calls Try.prog 25 #[.agg #[.int .i64 c0, .int .i64 c1, .int .i64 c2, .int .i64 c3, .int .i64 c4, .int .i64 c5, .int .i64 c6, .int .i64 cap, .slice A l.length cc], .agg #[.int .i64 u0, .int .i64 u1, .bool u2], .int .i64 now] w fun e w' => e = .panicked [given 2] ∧ Below w.heap.size w w' := by
  have hmf : ∀ (fn : Fn) (first cap : Array Value) (w : World), (Instr.makeFunc fn first cap).run Try.prog w = .ok (.func fn first cap) w := fun _ _ _ _ => rfl
  have i0 : ∀ W : World, (Instr.index 71 (.agg #[.func (.func 33) #[.agg #[.int .i64 u0, .int .i64 u1, .bool u2]] #[], .func (.func 39) #[] #[.pointer (some ⟨w.heap.size, 0, none⟩)]]) (.int .i64 0)).run Try.prog W = .ok (.func (.func 33) #[.agg #[.int .i64 u0, .int .i64 u1, .bool u2]] #[]) W := fun _ => by kernel_rfl
  have i1 : ∀ W : World, (Instr.index 71 (.agg #[.func (.func 33) #[.agg #[.int .i64 u0, .int .i64 u1, .bool u2]] #[], .func (.func 39) #[] #[.pointer (some ⟨w.heap.size, 0, none⟩)]]) (.int .i64 1)).run Try.prog W = .ok (.func (.func 39) #[] #[.pointer (some ⟨w.heap.size, 0, none⟩)]) W := fun _ => by kernel_rfl
  have HR := Aside0.mk hr
  have HA := Aside0.mk ha
  clear hr ha
  have HP := Aside0.mk (pulse_right_eq u0 u1 u2)
  rw [hp] at HP
  clear hp
  have Hk : Aside0 (Blk (((w.alloc (.cells #[.int .i64 c0, .int .i64 c1, .int .i64 c2, .int .i64 c3, .int .i64 c4, .int .i64 c5, .int .i64 c6, .int .i64 cap, .slice A l.length cc] 24)).alloc (.cells #[.int .i64 u0, .int .i64 u1, .bool u2] 58)).alloc (.cells #[.func (.func 33) #[.agg #[.int .i64 u0, .int .i64 u1, .bool u2]] #[], .func (.func 39) #[] #[.pointer (some ⟨w.heap.size, 0, none⟩)]] 71)) (w.heap.size) 24 #[.int .i64 c0, .int .i64 c1, .int .i64 c2, .int .i64 c3, .int .i64 c4, .int .i64 c5, .int .i64 c6, .int .i64 cap, .slice A l.length cc]) := ⟨Blk.alloc (Blk.alloc (Blk.new' w 24 #[.int .i64 c0, .int .i64 c1, .int .i64 c2, .int .i64 c3, .int .i64 c4, .int .i64 c5, .int .i64 c6, .int .i64 cap, .slice A l.length cc] (w.heap.size) (by simp)) _) _⟩
  have Hp : Aside0 (Blk (((w.alloc (.cells #[.int .i64 c0, .int .i64 c1, .int .i64 c2, .int .i64 c3, .int .i64 c4, .int .i64 c5, .int .i64 c6, .int .i64 cap, .slice A l.length cc] 24)).alloc (.cells #[.int .i64 u0, .int .i64 u1, .bool u2] 58)).alloc (.cells #[.func (.func 33) #[.agg #[.int .i64 u0, .int .i64 u1, .bool u2]] #[], .func (.func 39) #[] #[.pointer (some ⟨w.heap.size, 0, none⟩)]] 71)) (w.heap.size + 1) 58 #[.int .i64 u0, .int .i64 u1, .bool u2]) := ⟨Blk.alloc (Blk.new' (w.alloc (.cells #[.int .i64 c0, .int .i64 c1, .int .i64 c2, .int .i64 c3, .int .i64 c4, .int .i64 c5, .int .i64 c6, .int .i64 cap, .slice A l.length cc] 24)) 58 #[.int .i64 u0, .int .i64 u1, .bool u2] (w.heap.size + 1) (by simp)) _⟩
  have Hq : Aside0 (Blk (((w.alloc (.cells #[.int .i64 c0, .int .i64 c1, .int .i64 c2, .int .i64 c3, .int .i64 c4, .int .i64 c5, .int .i64 c6, .int .i64 cap, .slice A l.length cc] 24)).alloc (.cells #[.int .i64 u0, .int .i64 u1, .bool u2] 58)).alloc (.cells #[.func (.func 33) #[.agg #[.int .i64 u0, .int .i64 u1, .bool u2]] #[], .func (.func 39) #[] #[.pointer (some ⟨w.heap.size, 0, none⟩)]] 71)) (w.heap.size + 1 + 1) 71 #[.func (.func 33) #[.agg #[.int .i64 u0, .int .i64 u1, .bool u2]] #[], .func (.func 39) #[] #[.pointer (some ⟨w.heap.size, 0, none⟩)]]) := ⟨Blk.new' ((w.alloc (.cells #[.int .i64 c0, .int .i64 c1, .int .i64 c2, .int .i64 c3, .int .i64 c4, .int .i64 c5, .int .i64 c6, .int .i64 cap, .slice A l.length cc] 24)).alloc (.cells #[.int .i64 u0, .int .i64 u1, .bool u2] 58)) 71 #[.func (.func 33) #[.agg #[.int .i64 u0, .int .i64 u1, .bool u2]] #[], .func (.func 39) #[] #[.pointer (some ⟨w.heap.size, 0, none⟩)]] (w.heap.size + 1 + 1) (by simp)⟩
  have HT : Aside0 (Below w.heap.size w (((w.alloc (.cells #[.int .i64 c0, .int .i64 c1, .int .i64 c2, .int .i64 c3, .int .i64 c4, .int .i64 c5, .int .i64 c6, .int .i64 cap, .slice A l.length cc] 24)).alloc (.cells #[.int .i64 u0, .int .i64 u1, .bool u2] 58)).alloc (.cells #[.func (.func 33) #[.agg #[.int .i64 u0, .int .i64 u1, .bool u2]] #[], .func (.func 39) #[] #[.pointer (some ⟨w.heap.size, 0, none⟩)]] 71))) := ⟨below_alloc (below_alloc (below_alloc (Below.refl w.heap.size w) _) _) _⟩
  have k0 := Blk.cell Hk.out 0 _ rfl
  have k1 := Blk.cell Hk.out 1 _ rfl
  have k2 := Blk.cell Hk.out 2 _ rfl
  have k3 := Blk.cell Hk.out 3 _ rfl
  have k4 := Blk.cell Hk.out 4 _ rfl
  have k5 := Blk.cell Hk.out 5 _ rfl
  have k6 := Blk.cell Hk.out 6 _ rfl
  have k7 := Blk.cell Hk.out 7 _ rfl
  have k8 := Blk.cell Hk.out 8 _ rfl
  go_enter Try.func25, Try.ntmps25
  go_wp2
  refine wp_loop_rounds 3 ?_
  rw [rounds_succ]
  go_wp2_with (first
    | (go_at_call 33; go_loud ((with_reducible refine (pulse_look_right.calls 3 u0 u1 u2 false _ HP.out).mono ?_); rintro e w9 ⟨rfl, hb⟩; have Hk := Aside0.mk (Blk.later Hk.out hb); have HT := Aside0.mk (thenB HT.out HT.out.size hb); (try clear k0 k1 k2 k3 k4 k5 k6 k7 k8); have k0 := Blk.cell Hk.out 0 _ rfl; have k1 := Blk.cell Hk.out 1 _ rfl; have k2 := Blk.cell Hk.out 2 _ rfl; have k3 := Blk.cell Hk.out 3 _ rfl; have k4 := Blk.cell Hk.out 4 _ rfl; have k5 := Blk.cell Hk.out 5 _ rfl; have k6 := Blk.cell Hk.out 6 _ rfl; have k7 := Blk.cell Hk.out 7 _ rfl; have k8 := Blk.cell Hk.out 8 _ rfl; clear hb))
    | (go_at_call 41; ((with_reducible refine (pulse_must_no 2 _).mono ?_); rintro e w9 ⟨rfl, rfl⟩)))
  exact ⟨rfl, rfl, HT.out⟩
set_option maxRecDepth 20000 in
set_option maxHeartbeats 4000000 in
theorem asked_no2 (c0 c1 c2 c3 c4 c5 c6 cap : Int) (A : Option Addr) (l : List Pfx) (cc : Nat) (u0 u1 : Int) (u2 : Bool) (now : Int) (w : World) (hr : Kd.C k81 w A l.length l) (hc : l.length ≤ cc) (ha : AdrP l) (hm : l.length ≤ 140737488355328) (hp : pulseOk u0 u1 = true) (hn : rightN c0 c1 c2 c3 c4 c5 c6 cap l = false) :
    Calls Try.prog 25 #[.agg #[.int .i64 c0, .int .i64 c1, .int .i64 c2, .int .i64 c3, .int .i64 c4, .int .i64 c5, .int .i64 c6, .int .i64 cap, .slice A l.length cc], .agg #[.int .i64 u0, .int .i64 u1, .bool u2], .int .i64 now] w fun e w' => e = .panicked [given 2] ∧ Below w.heap.size w w' := by
  have hmf : ∀ (fn : Fn) (first cap : Array Value) (w : World), (Instr.makeFunc fn first cap).run Try.prog w = .ok (.func fn first cap) w := fun _ _ _ _ => rfl
  have i0 : ∀ W : World, (Instr.index 71 (.agg #[.func (.func 33) #[.agg #[.int .i64 u0, .int .i64 u1, .bool u2]] #[], .func (.func 39) #[] #[.pointer (some ⟨w.heap.size, 0, none⟩)]]) (.int .i64 0)).run Try.prog W = .ok (.func (.func 33) #[.agg #[.int .i64 u0, .int .i64 u1, .bool u2]] #[]) W := fun _ => by kernel_rfl
  have i1 : ∀ W : World, (Instr.index 71 (.agg #[.func (.func 33) #[.agg #[.int .i64 u0, .int .i64 u1, .bool u2]] #[], .func (.func 39) #[] #[.pointer (some ⟨w.heap.size, 0, none⟩)]]) (.int .i64 1)).run Try.prog W = .ok (.func (.func 39) #[] #[.pointer (some ⟨w.heap.size, 0, none⟩)]) W := fun _ => by kernel_rfl
  have HR := Aside0.mk hr
  have HA := Aside0.mk ha
  clear hr ha
  have HP := Aside0.mk (pulse_right_eq u0 u1 u2)
  rw [hp] at HP
  clear hp
  have HN := Aside0.mk hn
  clear hn
  have Hk : Aside0 (Blk (((w.alloc (.cells #[.int .i64 c0, .int .i64 c1, .int .i64 c2, .int .i64 c3, .int .i64 c4, .int .i64 c5, .int .i64 c6, .int .i64 cap, .slice A l.length cc] 24)).alloc (.cells #[.int .i64 u0, .int .i64 u1, .bool u2] 58)).alloc (.cells #[.func (.func 33) #[.agg #[.int .i64 u0, .int .i64 u1, .bool u2]] #[], .func (.func 39) #[] #[.pointer (some ⟨w.heap.size, 0, none⟩)]] 71)) (w.heap.size) 24 #[.int .i64 c0, .int .i64 c1, .int .i64 c2, .int .i64 c3, .int .i64 c4, .int .i64 c5, .int .i64 c6, .int .i64 cap, .slice A l.length cc]) := ⟨Blk.alloc (Blk.alloc (Blk.new' w 24 #[.int .i64 c0, .int .i64 c1, .int .i64 c2, .int .i64 c3, .int .i64 c4, .int .i64 c5, .int .i64 c6, .int .i64 cap, .slice A l.length cc] (w.heap.size) (by simp)) _) _⟩
  have Hp : Aside0 (Blk (((w.alloc (.cells #[.int .i64 c0, .int .i64 c1, .int .i64 c2, .int .i64 c3, .int .i64 c4, .int .i64 c5, .int .i64 c6, .int .i64 cap, .slice A l.length cc] 24)).alloc (.cells #[.int .i64 u0, .int .i64 u1, .bool u2] 58)).alloc (.cells #[.func (.func 33) #[.agg #[.int .i64 u0, .int .i64 u1, .bool u2]] #[], .func (.func 39) #[] #[.pointer (some ⟨w.heap.size, 0, none⟩)]] 71)) (w.heap.size + 1) 58 #[.int .i64 u0, .int .i64 u1, .bool u2]) := ⟨Blk.alloc (Blk.new' (w.alloc (.cells #[.int .i64 c0, .int .i64 c1, .int .i64 c2, .int .i64 c3, .int .i64 c4, .int .i64 c5, .int .i64 c6, .int .i64 cap, .slice A l.length cc] 24)) 58 #[.int .i64 u0, .int .i64 u1, .bool u2] (w.heap.size + 1) (by simp)) _⟩
  have Hq : Aside0 (Blk (((w.alloc (.cells #[.int .i64 c0, .int .i64 c1, .int .i64 c2, .int .i64 c3, .int .i64 c4, .int .i64 c5, .int .i64 c6, .int .i64 cap, .slice A l.length cc] 24)).alloc (.cells #[.int .i64 u0, .int .i64 u1, .bool u2] 58)).alloc (.cells #[.func (.func 33) #[.agg #[.int .i64 u0, .int .i64 u1, .bool u2]] #[], .func (.func 39) #[] #[.pointer (some ⟨w.heap.size, 0, none⟩)]] 71)) (w.heap.size + 1 + 1) 71 #[.func (.func 33) #[.agg #[.int .i64 u0, .int .i64 u1, .bool u2]] #[], .func (.func 39) #[] #[.pointer (some ⟨w.heap.size, 0, none⟩)]]) := ⟨Blk.new' ((w.alloc (.cells #[.int .i64 c0, .int .i64 c1, .int .i64 c2, .int .i64 c3, .int .i64 c4, .int .i64 c5, .int .i64 c6, .int .i64 cap, .slice A l.length cc] 24)).alloc (.cells #[.int .i64 u0, .int .i64 u1, .bool u2] 58)) 71 #[.func (.func 33) #[.agg #[.int .i64 u0, .int .i64 u1, .bool u2]] #[], .func (.func 39) #[] #[.pointer (some ⟨w.heap.size, 0, none⟩)]] (w.heap.size + 1 + 1) (by simp)⟩
  have HT : Aside0 (Below w.heap.size w (((w.alloc (.cells #[.int .i64 c0, .int .i64 c1, .int .i64 c2, .int .i64 c3, .int .i64 c4, .int .i64 c5, .int .i64 c6, .int .i64 cap, .slice A l.length cc] 24)).alloc (.cells #[.int .i64 u0, .int .i64 u1, .bool u2] 58)).alloc (.cells #[.func (.func 33) #[.agg #[.int .i64 u0, .int .i64 u1, .bool u2]] #[], .func (.func 39) #[] #[.pointer (some ⟨w.heap.size, 0, none⟩)]] 71))) := ⟨below_alloc (below_alloc (below_alloc (Below.refl w.heap.size w) _) _) _⟩
  have k0 := Blk.cell Hk.out 0 _ rfl
  have k1 := Blk.cell Hk.out 1 _ rfl
  have k2 := Blk.cell Hk.out 2 _ rfl
  have k3 := Blk.cell Hk.out 3 _ rfl
  have k4 := Blk.cell Hk.out 4 _ rfl
  have k5 := Blk.cell Hk.out 5 _ rfl
  have k6 := Blk.cell Hk.out 6 _ rfl
  have k7 := Blk.cell Hk.out 7 _ rfl
  have k8 := Blk.cell Hk.out 8 _ rfl
  go_enter Try.func25, Try.ntmps25
  go_wp2
  refine wp_loop_rounds 3 ?_
  rw [rounds_succ]
  go_wp2_with (first
    | (go_at_call 33; go_loud ((with_reducible refine (pulse_look_right.calls 3 u0 u1 u2 true _ HP.out).mono ?_); rintro e w9 ⟨rfl, hb⟩; have Hk := Aside0.mk (Blk.later Hk.out hb); have HT := Aside0.mk (thenB HT.out HT.out.size hb); (try clear k0 k1 k2 k3 k4 k5 k6 k7 k8); have k0 := Blk.cell Hk.out 0 _ rfl; have k1 := Blk.cell Hk.out 1 _ rfl; have k2 := Blk.cell Hk.out 2 _ rfl; have k3 := Blk.cell Hk.out 3 _ rfl; have k4 := Blk.cell Hk.out 4 _ rfl; have k5 := Blk.cell Hk.out 5 _ rfl; have k6 := Blk.cell Hk.out 6 _ rfl; have k7 := Blk.cell Hk.out 7 _ rfl; have k8 := Blk.cell Hk.out 8 _ rfl; clear hb))
    | (go_at_call 41; ((with_reducible refine (pulse_must_ok 2 _).mono ?_); rintro e w9 ⟨rfl, rfl⟩)))
  rw [rounds_succ]
  go_wp2_with (first
    | (go_at_call 39; go_loud ((with_reducible refine (asked1_any c0 c1 c2 c3 c4 c5 c6 cap A l cc w.heap.size _ Hk.out (Kd.C_below HR.out HT.out) hc HA.out hm).mono ?_); rw [HN.out]; rintro e w9 ⟨rfl, hb⟩; have Hk := Aside0.mk (Blk.later Hk.out hb); have HT := Aside0.mk (thenB HT.out HT.out.size hb); (try clear k0 k1 k2 k3 k4 k5 k6 k7 k8); have k0 := Blk.cell Hk.out 0 _ rfl; have k1 := Blk.cell Hk.out 1 _ rfl; have k2 := Blk.cell Hk.out 2 _ rfl; have k3 := Blk.cell Hk.out 3 _ rfl; have k4 := Blk.cell Hk.out 4 _ rfl; have k5 := Blk.cell Hk.out 5 _ rfl; have k6 := Blk.cell Hk.out 6 _ rfl; have k7 := Blk.cell Hk.out 7 _ rfl; have k8 := Blk.cell Hk.out 8 _ rfl; clear hb))
    | (go_at_call 41; ((with_reducible refine (pulse_must_no 2 _).mono ?_); rintro e w9 ⟨rfl, rfl⟩)))
  exact ⟨rfl, rfl, HT.out⟩
set_option maxRecDepth 20000 in
set_option maxHeartbeats 4000000 in
theorem asked_no3 (c0 c1 c2 c3 c4 c5 c6 cap : Int) (A : Option Addr) (l : List Pfx) (cc : Nat) (u0 u1 : Int) (u2 : Bool) (now : Int) (w : World) (hr : Kd.C k81 w A l.length l) (hc : l.length ≤ cc) (ha : AdrP l) (hm : l.length ≤ 140737488355328) (hp : pulseOk u0 u1 = true) (hn : rightN c0 c1 c2 c3 c4 c5 c6 cap l = true) (h0 : ¬ (0 ≤ now ∧ now ≤ 4611686018425387904)) :
    Calls Try.prog 25 #[.agg #[.int .i64 c0, .int .i64 c1, .int .i64 c2, .int .i64 c3, .int .i64 c4, .int .i64 c5, .int .i64 c6, .int .i64 cap, .slice A l.length cc], .agg #[.int .i64 u0, .int .i64 u1, .bool u2], .int .i64 now] w fun e w' => e = .panicked [given 170] ∧ Below w.heap.size w w' := by
  have hmf : ∀ (fn : Fn) (first cap : Array Value) (w : World), (Instr.makeFunc fn first cap).run Try.prog w = .ok (.func fn first cap) w := fun _ _ _ _ => rfl
  have i0 : ∀ W : World, (Instr.index 71 (.agg #[.func (.func 33) #[.agg #[.int .i64 u0, .int .i64 u1, .bool u2]] #[], .func (.func 39) #[] #[.pointer (some ⟨w.heap.size, 0, none⟩)]]) (.int .i64 0)).run Try.prog W = .ok (.func (.func 33) #[.agg #[.int .i64 u0, .int .i64 u1, .bool u2]] #[]) W := fun _ => by kernel_rfl
  have i1 : ∀ W : World, (Instr.index 71 (.agg #[.func (.func 33) #[.agg #[.int .i64 u0, .int .i64 u1, .bool u2]] #[], .func (.func 39) #[] #[.pointer (some ⟨w.heap.size, 0, none⟩)]]) (.int .i64 1)).run Try.prog W = .ok (.func (.func 39) #[] #[.pointer (some ⟨w.heap.size, 0, none⟩)]) W := fun _ => by kernel_rfl
  have HR := Aside0.mk hr
  have HA := Aside0.mk ha
  clear hr ha
  have HP := Aside0.mk (pulse_right_eq u0 u1 u2)
  rw [hp] at HP
  clear hp
  have HN := Aside0.mk hn
  clear hn
  have HW := Aside0.mk (pulse_now_eq now)
  rw [decide_eq_false h0] at HW
  clear h0
  have Hk : Aside0 (Blk (((w.alloc (.cells #[.int .i64 c0, .int .i64 c1, .int .i64 c2, .int .i64 c3, .int .i64 c4, .int .i64 c5, .int .i64 c6, .int .i64 cap, .slice A l.length cc] 24)).alloc (.cells #[.int .i64 u0, .int .i64 u1, .bool u2] 58)).alloc (.cells #[.func (.func 33) #[.agg #[.int .i64 u0, .int .i64 u1, .bool u2]] #[], .func (.func 39) #[] #[.pointer (some ⟨w.heap.size, 0, none⟩)]] 71)) (w.heap.size) 24 #[.int .i64 c0, .int .i64 c1, .int .i64 c2, .int .i64 c3, .int .i64 c4, .int .i64 c5, .int .i64 c6, .int .i64 cap, .slice A l.length cc]) := ⟨Blk.alloc (Blk.alloc (Blk.new' w 24 #[.int .i64 c0, .int .i64 c1, .int .i64 c2, .int .i64 c3, .int .i64 c4, .int .i64 c5, .int .i64 c6, .int .i64 cap, .slice A l.length cc] (w.heap.size) (by simp)) _) _⟩
  have Hp : Aside0 (Blk (((w.alloc (.cells #[.int .i64 c0, .int .i64 c1, .int .i64 c2, .int .i64 c3, .int .i64 c4, .int .i64 c5, .int .i64 c6, .int .i64 cap, .slice A l.length cc] 24)).alloc (.cells #[.int .i64 u0, .int .i64 u1, .bool u2] 58)).alloc (.cells #[.func (.func 33) #[.agg #[.int .i64 u0, .int .i64 u1, .bool u2]] #[], .func (.func 39) #[] #[.pointer (some ⟨w.heap.size, 0, none⟩)]] 71)) (w.heap.size + 1) 58 #[.int .i64 u0, .int .i64 u1, .bool u2]) := ⟨Blk.alloc (Blk.new' (w.alloc (.cells #[.int .i64 c0, .int .i64 c1, .int .i64 c2, .int .i64 c3, .int .i64 c4, .int .i64 c5, .int .i64 c6, .int .i64 cap, .slice A l.length cc] 24)) 58 #[.int .i64 u0, .int .i64 u1, .bool u2] (w.heap.size + 1) (by simp)) _⟩
  have Hq : Aside0 (Blk (((w.alloc (.cells #[.int .i64 c0, .int .i64 c1, .int .i64 c2, .int .i64 c3, .int .i64 c4, .int .i64 c5, .int .i64 c6, .int .i64 cap, .slice A l.length cc] 24)).alloc (.cells #[.int .i64 u0, .int .i64 u1, .bool u2] 58)).alloc (.cells #[.func (.func 33) #[.agg #[.int .i64 u0, .int .i64 u1, .bool u2]] #[], .func (.func 39) #[] #[.pointer (some ⟨w.heap.size, 0, none⟩)]] 71)) (w.heap.size + 1 + 1) 71 #[.func (.func 33) #[.agg #[.int .i64 u0, .int .i64 u1, .bool u2]] #[], .func (.func 39) #[] #[.pointer (some ⟨w.heap.size, 0, none⟩)]]) := ⟨Blk.new' ((w.alloc (.cells #[.int .i64 c0, .int .i64 c1, .int .i64 c2, .int .i64 c3, .int .i64 c4, .int .i64 c5, .int .i64 c6, .int .i64 cap, .slice A l.length cc] 24)).alloc (.cells #[.int .i64 u0, .int .i64 u1, .bool u2] 58)) 71 #[.func (.func 33) #[.agg #[.int .i64 u0, .int .i64 u1, .bool u2]] #[], .func (.func 39) #[] #[.pointer (some ⟨w.heap.size, 0, none⟩)]] (w.heap.size + 1 + 1) (by simp)⟩
  have HT : Aside0 (Below w.heap.size w (((w.alloc (.cells #[.int .i64 c0, .int .i64 c1, .int .i64 c2, .int .i64 c3, .int .i64 c4, .int .i64 c5, .int .i64 c6, .int .i64 cap, .slice A l.length cc] 24)).alloc (.cells #[.int .i64 u0, .int .i64 u1, .bool u2] 58)).alloc (.cells #[.func (.func 33) #[.agg #[.int .i64 u0, .int .i64 u1, .bool u2]] #[], .func (.func 39) #[] #[.pointer (some ⟨w.heap.size, 0, none⟩)]] 71))) := ⟨below_alloc (below_alloc (below_alloc (Below.refl w.heap.size w) _) _) _⟩
  have k0 := Blk.cell Hk.out 0 _ rfl
  have k1 := Blk.cell Hk.out 1 _ rfl
  have k2 := Blk.cell Hk.out 2 _ rfl
  have k3 := Blk.cell Hk.out 3 _ rfl
  have k4 := Blk.cell Hk.out 4 _ rfl
  have k5 := Blk.cell Hk.out 5 _ rfl
  have k6 := Blk.cell Hk.out 6 _ rfl
  have k7 := Blk.cell Hk.out 7 _ rfl
  have k8 := Blk.cell Hk.out 8 _ rfl
  go_enter Try.func25, Try.ntmps25
  go_wp2
  refine wp_loop_rounds 3 ?_
  rw [rounds_succ]
  go_wp2_with (first
    | (go_at_call 33; go_loud ((with_reducible refine (pulse_look_right.calls 3 u0 u1 u2 true _ HP.out).mono ?_); rintro e w9 ⟨rfl, hb⟩; have Hk := Aside0.mk (Blk.later Hk.out hb); have HT := Aside0.mk (thenB HT.out HT.out.size hb); (try clear k0 k1 k2 k3 k4 k5 k6 k7 k8); have k0 := Blk.cell Hk.out 0 _ rfl; have k1 := Blk.cell Hk.out 1 _ rfl; have k2 := Blk.cell Hk.out 2 _ rfl; have k3 := Blk.cell Hk.out 3 _ rfl; have k4 := Blk.cell Hk.out 4 _ rfl; have k5 := Blk.cell Hk.out 5 _ rfl; have k6 := Blk.cell Hk.out 6 _ rfl; have k7 := Blk.cell Hk.out 7 _ rfl; have k8 := Blk.cell Hk.out 8 _ rfl; clear hb))
    | (go_at_call 41; ((with_reducible refine (pulse_must_ok 2 _).mono ?_); rintro e w9 ⟨rfl, rfl⟩)))
  rw [rounds_succ]
  go_wp2_with (first
    | (go_at_call 39; go_loud ((with_reducible refine (asked1_any c0 c1 c2 c3 c4 c5 c6 cap A l cc w.heap.size _ Hk.out (Kd.C_below HR.out HT.out) hc HA.out hm).mono ?_); rw [HN.out]; rintro e w9 ⟨rfl, hb⟩; have Hk := Aside0.mk (Blk.later Hk.out hb); have HT := Aside0.mk (thenB HT.out HT.out.size hb); (try clear k0 k1 k2 k3 k4 k5 k6 k7 k8); have k0 := Blk.cell Hk.out 0 _ rfl; have k1 := Blk.cell Hk.out 1 _ rfl; have k2 := Blk.cell Hk.out 2 _ rfl; have k3 := Blk.cell Hk.out 3 _ rfl; have k4 := Blk.cell Hk.out 4 _ rfl; have k5 := Blk.cell Hk.out 5 _ rfl; have k6 := Blk.cell Hk.out 6 _ rfl; have k7 := Blk.cell Hk.out 7 _ rfl; have k8 := Blk.cell Hk.out 8 _ rfl; clear hb))
    | (go_at_call 41; ((with_reducible refine (pulse_must_ok 2 _).mono ?_); rintro e w9 ⟨rfl, rfl⟩)))
  rw [rounds_succ]
  go_wp2_with (first
    | (go_at_call 42; go_loud (refine (pulse_within_int64.calls 3 0 4611686018425387904 _ 1 [now] false _ (C_new .i64 _ [now] 2 (by simp)) (by simp) HW.out).mono ?_; rintro e w9 ⟨rfl, hd⟩; have hb := hd.below; have HT := Aside0.mk (thenB (below_alloc HT.out _) (by have := HT.out.size; simp; omega) hb); clear hd hb))
    | (go_at_call 41; ((with_reducible refine (pulse_must_no 170 _).mono ?_); rintro e w9 ⟨rfl, rfl⟩)))
  exact ⟨rfl, rfl, HT.out⟩
set_option maxRecDepth 20000 in
set_option maxHeartbeats 4000000 in
theorem asked_ok (c0 c1 c2 c3 c4 c5 c6 cap : Int) (A : Option Addr) (l : List Pfx) (cc : Nat) (u0 u1 : Int) (u2 : Bool) (now : Int) (w : World) (hr : Kd.C k81 w A l.length l) (hc : l.length ≤ cc) (ha : AdrP l) (hm : l.length ≤ 140737488355328) (hp : pulseOk u0 u1 = true) (hn : rightN c0 c1 c2 c3 c4 c5 c6 cap l = true) (h0 : 0 ≤ now ∧ now ≤ 4611686018425387904) :
    Calls Try.prog 25 #[.agg #[.int .i64 c0, .int .i64 c1, .int .i64 c2, .int .i64 c3, .int .i64 c4, .int .i64 c5, .int .i64 c6, .int .i64 cap, .slice A l.length cc], .agg #[.int .i64 u0, .int .i64 u1, .bool u2], .int .i64 now] w fun e w' => e = .returned (.tuple #[]) ∧ Below w.heap.size w w' := by
  have hmf : ∀ (fn : Fn) (first cap : Array Value) (w : World), (Instr.makeFunc fn first cap).run Try.prog w = .ok (.func fn first cap) w := fun _ _ _ _ => rfl
  have i0 : ∀ W : World, (Instr.index 71 (.agg #[.func (.func 33) #[.agg #[.int .i64 u0, .int .i64 u1, .bool u2]] #[], .func (.func 39) #[] #[.pointer (some ⟨w.heap.size, 0, none⟩)]]) (.int .i64 0)).run Try.prog W = .ok (.func (.func 33) #[.agg #[.int .i64 u0, .int .i64 u1, .bool u2]] #[]) W := fun _ => by kernel_rfl
  have i1 : ∀ W : World, (Instr.index 71 (.agg #[.func (.func 33) #[.agg #[.int .i64 u0, .int .i64 u1, .bool u2]] #[], .func (.func 39) #[] #[.pointer (some ⟨w.heap.size, 0, none⟩)]]) (.int .i64 1)).run Try.prog W = .ok (.func (.func 39) #[] #[.pointer (some ⟨w.heap.size, 0, none⟩)]) W := fun _ => by kernel_rfl
  have HR := Aside0.mk hr
  have HA := Aside0.mk ha
  clear hr ha
  have HP := Aside0.mk (pulse_right_eq u0 u1 u2)
  rw [hp] at HP
  clear hp
  have HN := Aside0.mk hn
  clear hn
  have HW := Aside0.mk (pulse_now_eq now)
  rw [decide_eq_true h0] at HW
  clear h0
  have Hk : Aside0 (Blk (((w.alloc (.cells #[.int .i64 c0, .int .i64 c1, .int .i64 c2, .int .i64 c3, .int .i64 c4, .int .i64 c5, .int .i64 c6, .int .i64 cap, .slice A l.length cc] 24)).alloc (.cells #[.int .i64 u0, .int .i64 u1, .bool u2] 58)).alloc (.cells #[.func (.func 33) #[.agg #[.int .i64 u0, .int .i64 u1, .bool u2]] #[], .func (.func 39) #[] #[.pointer (some ⟨w.heap.size, 0, none⟩)]] 71)) (w.heap.size) 24 #[.int .i64 c0, .int .i64 c1, .int .i64 c2, .int .i64 c3, .int .i64 c4, .int .i64 c5, .int .i64 c6, .int .i64 cap, .slice A l.length cc]) := ⟨Blk.alloc (Blk.alloc (Blk.new' w 24 #[.int .i64 c0, .int .i64 c1, .int .i64 c2, .int .i64 c3, .int .i64 c4, .int .i64 c5, .int .i64 c6, .int .i64 cap, .slice A l.length cc] (w.heap.size) (by simp)) _) _⟩
  have Hp : Aside0 (Blk (((w.alloc (.cells #[.int .i64 c0, .int .i64 c1, .int .i64 c2, .int .i64 c3, .int .i64 c4, .int .i64 c5, .int .i64 c6, .int .i64 cap, .slice A l.length cc] 24)).alloc (.cells #[.int .i64 u0, .int .i64 u1, .bool u2] 58)).alloc (.cells #[.func (.func 33) #[.agg #[.int .i64 u0, .int .i64 u1, .bool u2]] #[], .func (.func 39) #[] #[.pointer (some ⟨w.heap.size, 0, none⟩)]] 71)) (w.heap.size + 1) 58 #[.int .i64 u0, .int .i64 u1, .bool u2]) := ⟨Blk.alloc (Blk.new' (w.alloc (.cells #[.int .i64 c0, .int .i64 c1, .int .i64 c2, .int .i64 c3, .int .i64 c4, .int .i64 c5, .int .i64 c6, .int .i64 cap, .slice A l.length cc] 24)) 58 #[.int .i64 u0, .int .i64 u1, .bool u2] (w.heap.size + 1) (by simp)) _⟩
  have Hq : Aside0 (Blk (((w.alloc (.cells #[.int .i64 c0, .int .i64 c1, .int .i64 c2, .int .i64 c3, .int .i64 c4, .int .i64 c5, .int .i64 c6, .int .i64 cap, .slice A l.length cc] 24)).alloc (.cells #[.int .i64 u0, .int .i64 u1, .bool u2] 58)).alloc (.cells #[.func (.func 33) #[.agg #[.int .i64 u0, .int .i64 u1, .bool u2]] #[], .func (.func 39) #[] #[.pointer (some ⟨w.heap.size, 0, none⟩)]] 71)) (w.heap.size + 1 + 1) 71 #[.func (.func 33) #[.agg #[.int .i64 u0, .int .i64 u1, .bool u2]] #[], .func (.func 39) #[] #[.pointer (some ⟨w.heap.size, 0, none⟩)]]) := ⟨Blk.new' ((w.alloc (.cells #[.int .i64 c0, .int .i64 c1, .int .i64 c2, .int .i64 c3, .int .i64 c4, .int .i64 c5, .int .i64 c6, .int .i64 cap, .slice A l.length cc] 24)).alloc (.cells #[.int .i64 u0, .int .i64 u1, .bool u2] 58)) 71 #[.func (.func 33) #[.agg #[.int .i64 u0, .int .i64 u1, .bool u2]] #[], .func (.func 39) #[] #[.pointer (some ⟨w.heap.size, 0, none⟩)]] (w.heap.size + 1 + 1) (by simp)⟩
  have HT : Aside0 (Below w.heap.size w (((w.alloc (.cells #[.int .i64 c0, .int .i64 c1, .int .i64 c2, .int .i64 c3, .int .i64 c4, .int .i64 c5, .int .i64 c6, .int .i64 cap, .slice A l.length cc] 24)).alloc (.cells #[.int .i64 u0, .int .i64 u1, .bool u2] 58)).alloc (.cells #[.func (.func 33) #[.agg #[.int .i64 u0, .int .i64 u1, .bool u2]] #[], .func (.func 39) #[] #[.pointer (some ⟨w.heap.size, 0, none⟩)]] 71))) := ⟨below_alloc (below_alloc (below_alloc (Below.refl w.heap.size w) _) _) _⟩
  have k0 := Blk.cell Hk.out 0 _ rfl
  have k1 := Blk.cell Hk.out 1 _ rfl
  have k2 := Blk.cell Hk.out 2 _ rfl
  have k3 := Blk.cell Hk.out 3 _ rfl
  have k4 := Blk.cell Hk.out 4 _ rfl
  have k5 := Blk.cell Hk.out 5 _ rfl
  have k6 := Blk.cell Hk.out 6 _ rfl
  have k7 := Blk.cell Hk.out 7 _ rfl
  have k8 := Blk.cell Hk.out 8 _ rfl
  go_enter Try.func25, Try.ntmps25
  go_wp2
  refine wp_loop_rounds 3 ?_
  rw [rounds_succ]
  go_wp2_with (first
    | (go_at_call 33; go_loud ((with_reducible refine (pulse_look_right.calls 3 u0 u1 u2 true _ HP.out).mono ?_); rintro e w9 ⟨rfl, hb⟩; have Hk := Aside0.mk (Blk.later Hk.out hb); have HT := Aside0.mk (thenB HT.out HT.out.size hb); (try clear k0 k1 k2 k3 k4 k5 k6 k7 k8); have k0 := Blk.cell Hk.out 0 _ rfl; have k1 := Blk.cell Hk.out 1 _ rfl; have k2 := Blk.cell Hk.out 2 _ rfl; have k3 := Blk.cell Hk.out 3 _ rfl; have k4 := Blk.cell Hk.out 4 _ rfl; have k5 := Blk.cell Hk.out 5 _ rfl; have k6 := Blk.cell Hk.out 6 _ rfl; have k7 := Blk.cell Hk.out 7 _ rfl; have k8 := Blk.cell Hk.out 8 _ rfl; clear hb))
    | (go_at_call 41; ((with_reducible refine (pulse_must_ok 2 _).mono ?_); rintro e w9 ⟨rfl, rfl⟩)))
  rw [rounds_succ]
  go_wp2_with (first
    | (go_at_call 39; go_loud ((with_reducible refine (asked1_any c0 c1 c2 c3 c4 c5 c6 cap A l cc w.heap.size _ Hk.out (Kd.C_below HR.out HT.out) hc HA.out hm).mono ?_); rw [HN.out]; rintro e w9 ⟨rfl, hb⟩; have Hk := Aside0.mk (Blk.later Hk.out hb); have HT := Aside0.mk (thenB HT.out HT.out.size hb); (try clear k0 k1 k2 k3 k4 k5 k6 k7 k8); have k0 := Blk.cell Hk.out 0 _ rfl; have k1 := Blk.cell Hk.out 1 _ rfl; have k2 := Blk.cell Hk.out 2 _ rfl; have k3 := Blk.cell Hk.out 3 _ rfl; have k4 := Blk.cell Hk.out 4 _ rfl; have k5 := Blk.cell Hk.out 5 _ rfl; have k6 := Blk.cell Hk.out 6 _ rfl; have k7 := Blk.cell Hk.out 7 _ rfl; have k8 := Blk.cell Hk.out 8 _ rfl; clear hb))
    | (go_at_call 41; ((with_reducible refine (pulse_must_ok 2 _).mono ?_); rintro e w9 ⟨rfl, rfl⟩)))
  rw [rounds_succ]
  go_wp2_with (first
    | (go_at_call 42; go_loud (refine (pulse_within_int64.calls 3 0 4611686018425387904 _ 1 [now] true _ (C_new .i64 _ [now] 2 (by simp)) (by simp) HW.out).mono ?_; rintro e w9 ⟨rfl, hd⟩; have hb := hd.below; have HT := Aside0.mk (thenB (below_alloc HT.out _) (by have := HT.out.size; simp; omega) hb); clear hd hb))
    | (go_at_call 41; ((with_reducible refine (pulse_must_ok 170 _).mono ?_); rintro e w9 ⟨rfl, rfl⟩)))
  go_end0
  exact ⟨rfl, HT.out⟩
set_option maxHeartbeats 4000000 in
theorem pwait_any (c0 c1 c2 c3 c4 c5 c6 cap : Int) (A : Option Addr) (l : List Pfx) (cc : Nat) (now d : Int) (w : World) (hr : Kd.C k81 w A l.length l) (hc : l.length ≤ cc) (ha : AdrP l) (hm : l.length ≤ 140737488355328) (hn : rightN c0 c1 c2 c3 c4 c5 c6 cap l = true) (h0 : 0 ≤ now) (h1 : now ≤ 4611686018427387904) :
    Calls Try.prog 26 #[.agg #[.int .i64 c0, .int .i64 c1, .int .i64 c2, .int .i64 c3, .int .i64 c4, .int .i64 c5, .int .i64 c6, .int .i64 cap, .slice A l.length cc], .int .i64 now, .int .i64 d] w fun e w' => e = .returned (.int .i64 (now + (c0 + clampN d c1))) ∧ Below w.heap.size w w' := by
  have HR := Aside0.mk hr
  have HA := Aside0.mk ha
  clear hr ha
  have HN := Aside0.mk hn
  have hin := rightN_in c0 c1 c2 c3 c4 c5 c6 cap l hn
  have g0 := hin 0 (by omega)
  have g1 := hin 1 (by omega)
  simp only [spanL, spanV, List.getD_cons_succ, List.getD_cons_zero] at g0 g1
  have g2 := clampN_in d c1 g1.1
  obtain ⟨v, hv⟩ : ∃ v, c0 + clampN d c1 = v := ⟨_, rfl⟩
  have g3 : 0 ≤ v ∧ v ≤ 2000000 := by omega
  obtain ⟨g4, g5⟩ := g3
  have HV := Aside0.mk hv
  rw [hv]
  have gw : IntKind.i64.wrap (now + v) = now + v := by rw [IntKind.wrap_i64]; omega
  have Hk : Aside0 (Blk (w.alloc (.cells #[.int .i64 c0, .int .i64 c1, .int .i64 c2, .int .i64 c3, .int .i64 c4, .int .i64 c5, .int .i64 c6, .int .i64 cap, .slice A l.length cc] 24)) (w.heap.size) 24 #[.int .i64 c0, .int .i64 c1, .int .i64 c2, .int .i64 c3, .int .i64 c4, .int .i64 c5, .int .i64 c6, .int .i64 cap, .slice A l.length cc]) := ⟨Blk.new' w 24 #[.int .i64 c0, .int .i64 c1, .int .i64 c2, .int .i64 c3, .int .i64 c4, .int .i64 c5, .int .i64 c6, .int .i64 cap, .slice A l.length cc] (w.heap.size) (by simp)⟩
  have HT : Aside0 (Below w.heap.size w (w.alloc (.cells #[.int .i64 c0, .int .i64 c1, .int .i64 c2, .int .i64 c3, .int .i64 c4, .int .i64 c5, .int .i64 c6, .int .i64 cap, .slice A l.length cc] 24))) := ⟨below_alloc (Below.refl w.heap.size w) _⟩
  have k0 := Blk.cell Hk.out 0 _ rfl
  have k1 := Blk.cell Hk.out 1 _ rfl
  have k2 := Blk.cell Hk.out 2 _ rfl
  have k3 := Blk.cell Hk.out 3 _ rfl
  have k4 := Blk.cell Hk.out 4 _ rfl
  have k5 := Blk.cell Hk.out 5 _ rfl
  have k6 := Blk.cell Hk.out 6 _ rfl
  have k7 := Blk.cell Hk.out 7 _ rfl
  have k8 := Blk.cell Hk.out 8 _ rfl
  clear hn hin g0 g1 g2 hv
  go_enter Try.func26, Try.ntmps26
  go_wp2_with (go_at_call 43; go_loud ((with_reducible refine (wait_yes c0 c1 c2 c3 c4 c5 c6 cap A l cc d _ (Kd.C_below HR.out HT.out) hc HA.out hm HN.out).mono ?_); rw [HV.out]; rintro e w9 ⟨rfl, hb⟩; have Hk := Aside0.mk (Blk.later Hk.out hb); have HT := Aside0.mk (thenB HT.out HT.out.size hb); (try clear k0 k1 k2 k3 k4 k5 k6 k7 k8); have k0 := Blk.cell Hk.out 0 _ rfl; have k1 := Blk.cell Hk.out 1 _ rfl; have k2 := Blk.cell Hk.out 2 _ rfl; have k3 := Blk.cell Hk.out 3 _ rfl; have k4 := Blk.cell Hk.out 4 _ rfl; have k5 := Blk.cell Hk.out 5 _ rfl; have k6 := Blk.cell Hk.out 6 _ rfl; have k7 := Blk.cell Hk.out 7 _ rfl; have k8 := Blk.cell Hk.out 8 _ rfl; clear hb))
  go_ret
  exact ⟨rfl, HT.out⟩
set_option maxHeartbeats 4000000 in
theorem pquiet_any (c0 c1 c2 c3 c4 c5 c6 cap : Int) (A : Option Addr) (l : List Pfx) (cc : Nat) (now d : Int) (w : World) (hr : Kd.C k81 w A l.length l) (hc : l.length ≤ cc) (ha : AdrP l) (hm : l.length ≤ 140737488355328) (hn : rightN c0 c1 c2 c3 c4 c5 c6 cap l = true) (h0 : 0 ≤ now) (h1 : now ≤ 4611686018427387904) :
    Calls Try.prog 46 #[.agg #[.int .i64 c0, .int .i64 c1, .int .i64 c2, .int .i64 c3, .int .i64 c4, .int .i64 c5, .int .i64 c6, .int .i64 cap, .slice A l.length cc], .int .i64 now, .int .i64 d] w fun e w' => e = .returned (.int .i64 (now + (c5 + clampN d c6))) ∧ Below w.heap.size w w' := by
  have HR := Aside0.mk hr
  have HA := Aside0.mk ha
  clear hr ha
  have HN := Aside0.mk hn
  have hin := rightN_in c0 c1 c2 c3 c4 c5 c6 cap l hn
  have g0 := hin 5 (by omega)
  have g1 := hin 6 (by omega)
  simp only [spanL, spanV, List.getD_cons_succ, List.getD_cons_zero] at g0 g1
  have g2 := clampN_in d c6 g1.1
  obtain ⟨v, hv⟩ : ∃ v, c5 + clampN d c6 = v := ⟨_, rfl⟩
  have g3 : 0 ≤ v ∧ v ≤ 2000000 := by omega
  obtain ⟨g4, g5⟩ := g3
  have HV := Aside0.mk hv
  rw [hv]
  have gw : IntKind.i64.wrap (now + v) = now + v := by rw [IntKind.wrap_i64]; omega
  have Hk : Aside0 (Blk (w.alloc (.cells #[.int .i64 c0, .int .i64 c1, .int .i64 c2, .int .i64 c3, .int .i64 c4, .int .i64 c5, .int .i64 c6, .int .i64 cap, .slice A l.length cc] 24)) (w.heap.size) 24 #[.int .i64 c0, .int .i64 c1, .int .i64 c2, .int .i64 c3, .int .i64 c4, .int .i64 c5, .int .i64 c6, .int .i64 cap, .slice A l.length cc]) := ⟨Blk.new' w 24 #[.int .i64 c0, .int .i64 c1, .int .i64 c2, .int .i64 c3, .int .i64 c4, .int .i64 c5, .int .i64 c6, .int .i64 cap, .slice A l.length cc] (w.heap.size) (by simp)⟩
  have HT : Aside0 (Below w.heap.size w (w.alloc (.cells #[.int .i64 c0, .int .i64 c1, .int .i64 c2, .int .i64 c3, .int .i64 c4, .int .i64 c5, .int .i64 c6, .int .i64 cap, .slice A l.length cc] 24))) := ⟨below_alloc (Below.refl w.heap.size w) _⟩
  have k0 := Blk.cell Hk.out 0 _ rfl
  have k1 := Blk.cell Hk.out 1 _ rfl
  have k2 := Blk.cell Hk.out 2 _ rfl
  have k3 := Blk.cell Hk.out 3 _ rfl
  have k4 := Blk.cell Hk.out 4 _ rfl
  have k5 := Blk.cell Hk.out 5 _ rfl
  have k6 := Blk.cell Hk.out 6 _ rfl
  have k7 := Blk.cell Hk.out 7 _ rfl
  have k8 := Blk.cell Hk.out 8 _ rfl
  clear hn hin g0 g1 g2 hv
  go_enter Try.func46, Try.ntmps46
  go_wp2_with (go_at_call 54; go_loud ((with_reducible refine (quiet_yes c0 c1 c2 c3 c4 c5 c6 cap A l cc d _ (Kd.C_below HR.out HT.out) hc HA.out hm HN.out).mono ?_); rw [HV.out]; rintro e w9 ⟨rfl, hb⟩; have Hk := Aside0.mk (Blk.later Hk.out hb); have HT := Aside0.mk (thenB HT.out HT.out.size hb); (try clear k0 k1 k2 k3 k4 k5 k6 k7 k8); have k0 := Blk.cell Hk.out 0 _ rfl; have k1 := Blk.cell Hk.out 1 _ rfl; have k2 := Blk.cell Hk.out 2 _ rfl; have k3 := Blk.cell Hk.out 3 _ rfl; have k4 := Blk.cell Hk.out 4 _ rfl; have k5 := Blk.cell Hk.out 5 _ rfl; have k6 := Blk.cell Hk.out 6 _ rfl; have k7 := Blk.cell Hk.out 7 _ rfl; have k8 := Blk.cell Hk.out 8 _ rfl; clear hb))
  go_ret
  exact ⟨rfl, HT.out⟩
end Go.Proofs.Ytokjjppfdmkjeaa.A
