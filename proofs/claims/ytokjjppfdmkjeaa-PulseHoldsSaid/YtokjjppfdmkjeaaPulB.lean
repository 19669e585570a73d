import Derived.Test.YtokjjppfdmkjeaaPulA
/- pulse: a pulse behind a change, behind a tick. -/
set_option linter.unusedVariables false
set_option linter.unusedSimpArgs false
namespace Go.Proofs.Ytokjjppfdmkjeaa.A
open Go.RowKit Go.Proofs.YtokjjppfdmkjeaaW.PrintWords Go.Proofs.YtokjjppfdmkjeaaW.PrintLast Go.Proofs.YtokjjppfdmkjeaaW.PrintMore Go.Proofs.Ytokjjppfdmkjeaa.PPulseHolds

set_option maxHeartbeats 4000000 in
theorem chg_lt (u0 u1 : Int) (u2 : Bool) (c0 c1 c2 c3 c4 c5 c6 cap : Int) (A : Option Addr) (l : List Pfx) (cc : Nat) (now d : Int) (w : World) (hr : Kd.C k81 w A l.length l) (hc : l.length ≤ cc) (ha : AdrP l) (hm : l.length ≤ 140737488355328) (hlt : now < u1) :
    Calls Try.prog 30 #[.agg #[.int .i64 u0, .int .i64 u1, .bool u2], .agg #[.int .i64 c0, .int .i64 c1, .int .i64 c2, .int .i64 c3, .int .i64 c4, .int .i64 c5, .int .i64 c6, .int .i64 cap, .slice A l.length cc], .int .i64 now, .int .i64 d] w fun e w' => e = .returned (.tuple #[.agg #[.int .i64 u0, .int .i64 u1, .bool true], .int .i64 0]) ∧ Below w.heap.size w w' := by
  have HR := Aside0.mk hr
  have HA := Aside0.mk ha
  clear hr ha
  have dlt : decide (now < u1) = true := decide_eq_true hlt
  have Hp : Aside0 (Blk (((w.alloc (.cells #[.int .i64 u0, .int .i64 u1, .bool true] 58)).alloc (.cells #[.int .i64 c0, .int .i64 c1, .int .i64 c2, .int .i64 c3, .int .i64 c4, .int .i64 c5, .int .i64 c6, .int .i64 cap, .slice A l.length cc] 24)).alloc (.cells #[.int .i64 0, .int .i64 0, .bool false] 28)) (w.heap.size) 58 #[.int .i64 u0, .int .i64 u1, .bool true]) := ⟨Blk.alloc (Blk.alloc (Blk.new' w 58 #[.int .i64 u0, .int .i64 u1, .bool true] (w.heap.size) (by simp)) _) _⟩
  have Hk : Aside0 (Blk (((w.alloc (.cells #[.int .i64 u0, .int .i64 u1, .bool true] 58)).alloc (.cells #[.int .i64 c0, .int .i64 c1, .int .i64 c2, .int .i64 c3, .int .i64 c4, .int .i64 c5, .int .i64 c6, .int .i64 cap, .slice A l.length cc] 24)).alloc (.cells #[.int .i64 0, .int .i64 0, .bool false] 28)) (w.heap.size + 1) 24 #[.int .i64 c0, .int .i64 c1, .int .i64 c2, .int .i64 c3, .int .i64 c4, .int .i64 c5, .int .i64 c6, .int .i64 cap, .slice A l.length cc]) := ⟨Blk.alloc (Blk.new' (w.alloc (.cells #[.int .i64 u0, .int .i64 u1, .bool true] 58)) 24 #[.int .i64 c0, .int .i64 c1, .int .i64 c2, .int .i64 c3, .int .i64 c4, .int .i64 c5, .int .i64 c6, .int .i64 cap, .slice A l.length cc] (w.heap.size + 1) (by simp)) _⟩
  have Ho : Aside0 (Blk (((w.alloc (.cells #[.int .i64 u0, .int .i64 u1, .bool true] 58)).alloc (.cells #[.int .i64 c0, .int .i64 c1, .int .i64 c2, .int .i64 c3, .int .i64 c4, .int .i64 c5, .int .i64 c6, .int .i64 cap, .slice A l.length cc] 24)).alloc (.cells #[.int .i64 0, .int .i64 0, .bool false] 28)) (w.heap.size + 1 + 1) 28 #[.int .i64 0, .int .i64 0, .bool false]) := ⟨Blk.new' ((w.alloc (.cells #[.int .i64 u0, .int .i64 u1, .bool true] 58)).alloc (.cells #[.int .i64 c0, .int .i64 c1, .int .i64 c2, .int .i64 c3, .int .i64 c4, .int .i64 c5, .int .i64 c6, .int .i64 cap, .slice A l.length cc] 24)) 28 #[.int .i64 0, .int .i64 0, .bool false] (w.heap.size + 1 + 1) (by simp)⟩
  have HT : Aside0 (Below w.heap.size w (((w.alloc (.cells #[.int .i64 u0, .int .i64 u1, .bool true] 58)).alloc (.cells #[.int .i64 c0, .int .i64 c1, .int .i64 c2, .int .i64 c3, .int .i64 c4, .int .i64 c5, .int .i64 c6, .int .i64 cap, .slice A l.length cc] 24)).alloc (.cells #[.int .i64 0, .int .i64 0, .bool false] 28))) := ⟨below_alloc (below_alloc (below_alloc (Below.refl w.heap.size w) _) _) _⟩
  go_enter Try.func30, Try.ntmps30
  go_wp2
  exact bodyPost_ret (v := .tuple #[.agg #[.int .i64 u0, .int .i64 u1, .bool true], .int .i64 0]) (by simp [results, Try.results30, go_sem]) rfl ⟨rfl, (below_alloc (below_alloc (below_alloc (Below.refl _ _) _) _) _)⟩
set_option maxHeartbeats 4000000 in
theorem chg_ge (u0 u1 : Int) (u2 : Bool) (c0 c1 c2 c3 c4 c5 c6 cap : Int) (A : Option Addr) (l : List Pfx) (cc : Nat) (now d : Int) (w : World) (hr : Kd.C k81 w A l.length l) (hc : l.length ≤ cc) (ha : AdrP l) (hm : l.length ≤ 140737488355328) (hn : rightN c0 c1 c2 c3 c4 c5 c6 cap l = true) (h0 : 0 ≤ now) (h1 : now ≤ 4611686018427387904) (hlt : u1 ≤ now) :
    Calls Try.prog 30 #[.agg #[.int .i64 u0, .int .i64 u1, .bool u2], .agg #[.int .i64 c0, .int .i64 c1, .int .i64 c2, .int .i64 c3, .int .i64 c4, .int .i64 c5, .int .i64 c6, .int .i64 cap, .slice A l.length cc], .int .i64 now, .int .i64 d] w fun e w' => e = .returned (.tuple #[.agg #[.int .i64 u0, .int .i64 (now + (c5 + clampN d c6)), .bool false], .int .i64 1]) ∧ Below w.heap.size w w' := by
  have HR := Aside0.mk hr
  have HA := Aside0.mk ha
  clear hr ha
  have HN := Aside0.mk hn
  obtain ⟨V, hV⟩ : ∃ V, now + (c5 + clampN d c6) = V := ⟨_, rfl⟩
  have HV := Aside0.mk hV
  have HH := Aside0.mk h1
  rw [hV]
  clear hn hV
  have dlt : decide (now < u1) = false := decide_eq_false (by omega)
  have Hp : Aside0 (Blk (((w.alloc (.cells #[.int .i64 u0, .int .i64 u1, .bool false] 58)).alloc (.cells #[.int .i64 c0, .int .i64 c1, .int .i64 c2, .int .i64 c3, .int .i64 c4, .int .i64 c5, .int .i64 c6, .int .i64 cap, .slice A l.length cc] 24)).alloc (.cells #[.int .i64 0, .int .i64 0, .bool false] 28)) (w.heap.size) 58 #[.int .i64 u0, .int .i64 u1, .bool false]) := ⟨Blk.alloc (Blk.alloc (Blk.new' w 58 #[.int .i64 u0, .int .i64 u1, .bool false] (w.heap.size) (by simp)) _) _⟩
  have Hk : Aside0 (Blk (((w.alloc (.cells #[.int .i64 u0, .int .i64 u1, .bool false] 58)).alloc (.cells #[.int .i64 c0, .int .i64 c1, .int .i64 c2, .int .i64 c3, .int .i64 c4, .int .i64 c5, .int .i64 c6, .int .i64 cap, .slice A l.length cc] 24)).alloc (.cells #[.int .i64 0, .int .i64 0, .bool false] 28)) (w.heap.size + 1) 24 #[.int .i64 c0, .int .i64 c1, .int .i64 c2, .int .i64 c3, .int .i64 c4, .int .i64 c5, .int .i64 c6, .int .i64 cap, .slice A l.length cc]) := ⟨Blk.alloc (Blk.new' (w.alloc (.cells #[.int .i64 u0, .int .i64 u1, .bool false] 58)) 24 #[.int .i64 c0, .int .i64 c1, .int .i64 c2, .int .i64 c3, .int .i64 c4, .int .i64 c5, .int .i64 c6, .int .i64 cap, .slice A l.length cc] (w.heap.size + 1) (by simp)) _⟩
  have Ho : Aside0 (Blk (((w.alloc (.cells #[.int .i64 u0, .int .i64 u1, .bool false] 58)).alloc (.cells #[.int .i64 c0, .int .i64 c1, .int .i64 c2, .int .i64 c3, .int .i64 c4, .int .i64 c5, .int .i64 c6, .int .i64 cap, .slice A l.length cc] 24)).alloc (.cells #[.int .i64 0, .int .i64 0, .bool false] 28)) (w.heap.size + 1 + 1) 28 #[.int .i64 0, .int .i64 0, .bool false]) := ⟨Blk.new' ((w.alloc (.cells #[.int .i64 u0, .int .i64 u1, .bool false] 58)).alloc (.cells #[.int .i64 c0, .int .i64 c1, .int .i64 c2, .int .i64 c3, .int .i64 c4, .int .i64 c5, .int .i64 c6, .int .i64 cap, .slice A l.length cc] 24)) 28 #[.int .i64 0, .int .i64 0, .bool false] (w.heap.size + 1 + 1) (by simp)⟩
  have HT : Aside0 (Below w.heap.size w (((w.alloc (.cells #[.int .i64 u0, .int .i64 u1, .bool false] 58)).alloc (.cells #[.int .i64 c0, .int .i64 c1, .int .i64 c2, .int .i64 c3, .int .i64 c4, .int .i64 c5, .int .i64 c6, .int .i64 cap, .slice A l.length cc] 24)).alloc (.cells #[.int .i64 0, .int .i64 0, .bool false] 28))) := ⟨below_alloc (below_alloc (below_alloc (Below.refl w.heap.size w) _) _) _⟩
  go_enter Try.func30, Try.ntmps30
  go_wp2_with (go_at_call 46; go_loud ((with_reducible refine (pquiet_any c0 c1 c2 c3 c4 c5 c6 cap A l cc now d _ (Kd.C_below HR.out HT.out) hc HA.out hm HN.out h0 HH.out).mono ?_); rw [HV.out]; rintro e w9 ⟨rfl, hb⟩; have Hp := Aside0.mk (Blk.later Hp.out hb); have Hk := Aside0.mk (Blk.later Hk.out hb); have Ho := Aside0.mk (Blk.later Ho.out hb); have HT := Aside0.mk (thenB HT.out HT.out.size hb); (try clear p0 p1 p2 k0 k1 k2 k3 k4 k5 k6 k7 k8 o0 o1 o2 pf0 pf1 pf2 of0 of1 of2); have p0 := Blk.cell Hp.out 0 _ rfl; have pf0 := Blk.frozen Hp.out 0; have p1 := Blk.cell Hp.out 1 _ rfl; have pf1 := Blk.frozen Hp.out 1; have p2 := Blk.cell Hp.out 2 _ rfl; have pf2 := Blk.frozen Hp.out 2; have k0 := Blk.cell Hk.out 0 _ rfl; have k1 := Blk.cell Hk.out 1 _ rfl; have k2 := Blk.cell Hk.out 2 _ rfl; have k3 := Blk.cell Hk.out 3 _ rfl; have k4 := Blk.cell Hk.out 4 _ rfl; have k5 := Blk.cell Hk.out 5 _ rfl; have k6 := Blk.cell Hk.out 6 _ rfl; have k7 := Blk.cell Hk.out 7 _ rfl; have k8 := Blk.cell Hk.out 8 _ rfl; have o0 := Blk.cell Ho.out 0 _ rfl; have of0 := Blk.frozen Ho.out 0; have o1 := Blk.cell Ho.out 1 _ rfl; have of1 := Blk.frozen Ho.out 1; have o2 := Blk.cell Ho.out 2 _ rfl; have of2 := Blk.frozen Ho.out 2; clear hb))
  have O1 := (OneSet.start Hp.out).set_ 1 (.int .i64 V)
  simp only [List.setIfInBounds_toArray, List.set_cons_zero, List.set_cons_succ] at O1
  have O2 := OneSet.whole (O1.other Ho.out (by omega)) [.int .i64 u0, .int .i64 V, .bool false] rfl
  exact bodyPost_ret (results_ct (p := 8) (u := 9) rfl _ _ ⟨w.heap.size + 1 + 1, 0, none⟩ _ rfl (load_blk O2.blk Try.underlying28 rfl (by kernel_rfl))) rfl ⟨rfl, (HT.out.trans (O1.bel.mono (Nat.le_refl _))).trans (O2.bel.mono (by omega))⟩
set_option maxHeartbeats 4000000 in
theorem tick_due (u0 u1 : Int) (u2 : Bool) (c0 c1 c2 c3 c4 c5 c6 cap : Int) (A : Option Addr) (l : List Pfx) (cc : Nat) (now d : Int) (w : World) (hr : Kd.C k81 w A l.length l) (hc : l.length ≤ cc) (ha : AdrP l) (hm : l.length ≤ 140737488355328) (hn : rightN c0 c1 c2 c3 c4 c5 c6 cap l = true) (h0 : 0 ≤ now) (h1 : now ≤ 4611686018427387904) (hlt : u0 ≤ now) :
    Calls Try.prog 32 #[.agg #[.int .i64 u0, .int .i64 u1, .bool u2], .agg #[.int .i64 c0, .int .i64 c1, .int .i64 c2, .int .i64 c3, .int .i64 c4, .int .i64 c5, .int .i64 c6, .int .i64 cap, .slice A l.length cc], .int .i64 now, .int .i64 d] w fun e w' => e = .returned (.tuple #[.agg #[.int .i64 (now + (c0 + clampN d c1)), .int .i64 u1, .bool false], .int .i64 2]) ∧ Below w.heap.size w w' := by
  have HR := Aside0.mk hr
  have HA := Aside0.mk ha
  clear hr ha
  have HN := Aside0.mk hn
  obtain ⟨V, hV⟩ : ∃ V, now + (c0 + clampN d c1) = V := ⟨_, rfl⟩
  have HV := Aside0.mk hV
  have HH := Aside0.mk h1
  rw [hV]
  clear hn hV
  have Hp : Aside0 (Blk (((w.alloc (.cells #[.int .i64 u0, .int .i64 u1, .bool u2] 58)).alloc (.cells #[.int .i64 c0, .int .i64 c1, .int .i64 c2, .int .i64 c3, .int .i64 c4, .int .i64 c5, .int .i64 c6, .int .i64 cap, .slice A l.length cc] 24)).alloc (.cells #[.int .i64 0, .int .i64 0, .bool false] 28)) (w.heap.size) 58 #[.int .i64 u0, .int .i64 u1, .bool u2]) := ⟨Blk.alloc (Blk.alloc (Blk.new' w 58 #[.int .i64 u0, .int .i64 u1, .bool u2] (w.heap.size) (by simp)) _) _⟩
  have Hk : Aside0 (Blk (((w.alloc (.cells #[.int .i64 u0, .int .i64 u1, .bool u2] 58)).alloc (.cells #[.int .i64 c0, .int .i64 c1, .int .i64 c2, .int .i64 c3, .int .i64 c4, .int .i64 c5, .int .i64 c6, .int .i64 cap, .slice A l.length cc] 24)).alloc (.cells #[.int .i64 0, .int .i64 0, .bool false] 28)) (w.heap.size + 1) 24 #[.int .i64 c0, .int .i64 c1, .int .i64 c2, .int .i64 c3, .int .i64 c4, .int .i64 c5, .int .i64 c6, .int .i64 cap, .slice A l.length cc]) := ⟨Blk.alloc (Blk.new' (w.alloc (.cells #[.int .i64 u0, .int .i64 u1, .bool u2] 58)) 24 #[.int .i64 c0, .int .i64 c1, .int .i64 c2, .int .i64 c3, .int .i64 c4, .int .i64 c5, .int .i64 c6, .int .i64 cap, .slice A l.length cc] (w.heap.size + 1) (by simp)) _⟩
  have Ho : Aside0 (Blk (((w.alloc (.cells #[.int .i64 u0, .int .i64 u1, .bool u2] 58)).alloc (.cells #[.int .i64 c0, .int .i64 c1, .int .i64 c2, .int .i64 c3, .int .i64 c4, .int .i64 c5, .int .i64 c6, .int .i64 cap, .slice A l.length cc] 24)).alloc (.cells #[.int .i64 0, .int .i64 0, .bool false] 28)) (w.heap.size + 1 + 1) 28 #[.int .i64 0, .int .i64 0, .bool false]) := ⟨Blk.new' ((w.alloc (.cells #[.int .i64 u0, .int .i64 u1, .bool u2] 58)).alloc (.cells #[.int .i64 c0, .int .i64 c1, .int .i64 c2, .int .i64 c3, .int .i64 c4, .int .i64 c5, .int .i64 c6, .int .i64 cap, .slice A l.length cc] 24)) 28 #[.int .i64 0, .int .i64 0, .bool false] (w.heap.size + 1 + 1) (by simp)⟩
  have HT : Aside0 (Below w.heap.size w (((w.alloc (.cells #[.int .i64 u0, .int .i64 u1, .bool u2] 58)).alloc (.cells #[.int .i64 c0, .int .i64 c1, .int .i64 c2, .int .i64 c3, .int .i64 c4, .int .i64 c5, .int .i64 c6, .int .i64 cap, .slice A l.length cc] 24)).alloc (.cells #[.int .i64 0, .int .i64 0, .bool false] 28))) := ⟨below_alloc (below_alloc (below_alloc (Below.refl w.heap.size w) _) _) _⟩
  go_enter Try.func32, Try.ntmps32
  go_wp2_with (go_at_call 26; go_loud ((with_reducible refine (pwait_any c0 c1 c2 c3 c4 c5 c6 cap A l cc now d _ (Kd.C_below HR.out HT.out) hc HA.out hm HN.out h0 HH.out).mono ?_); rw [HV.out]; rintro e w9 ⟨rfl, hb⟩; have Hp := Aside0.mk (Blk.later Hp.out hb); have Hk := Aside0.mk (Blk.later Hk.out hb); have Ho := Aside0.mk (Blk.later Ho.out hb); have HT := Aside0.mk (thenB HT.out HT.out.size hb); (try clear p0 p1 p2 k0 k1 k2 k3 k4 k5 k6 k7 k8 o0 o1 o2 pf0 pf1 pf2 of0 of1 of2); have p0 := Blk.cell Hp.out 0 _ rfl; have pf0 := Blk.frozen Hp.out 0; have p1 := Blk.cell Hp.out 1 _ rfl; have pf1 := Blk.frozen Hp.out 1; have p2 := Blk.cell Hp.out 2 _ rfl; have pf2 := Blk.frozen Hp.out 2; have k0 := Blk.cell Hk.out 0 _ rfl; have k1 := Blk.cell Hk.out 1 _ rfl; have k2 := Blk.cell Hk.out 2 _ rfl; have k3 := Blk.cell Hk.out 3 _ rfl; have k4 := Blk.cell Hk.out 4 _ rfl; have k5 := Blk.cell Hk.out 5 _ rfl; have k6 := Blk.cell Hk.out 6 _ rfl; have k7 := Blk.cell Hk.out 7 _ rfl; have k8 := Blk.cell Hk.out 8 _ rfl; have o0 := Blk.cell Ho.out 0 _ rfl; have of0 := Blk.frozen Ho.out 0; have o1 := Blk.cell Ho.out 1 _ rfl; have of1 := Blk.frozen Ho.out 1; have o2 := Blk.cell Ho.out 2 _ rfl; have of2 := Blk.frozen Ho.out 2; clear hb))
  have O1 := ((OneSet.start Hp.out).set_ 0 (.int .i64 V)).set_ 2 (.bool false)
  simp only [List.setIfInBounds_toArray, List.set_cons_zero, List.set_cons_succ] at O1
  have O2 := OneSet.whole (O1.other Ho.out (by omega)) [.int .i64 V, .int .i64 u1, .bool false] rfl
  exact bodyPost_ret (results_ct (p := 8) (u := 9) rfl _ _ ⟨w.heap.size + 1 + 1, 0, none⟩ _ rfl (load_blk O2.blk Try.underlying28 rfl (by kernel_rfl))) rfl ⟨rfl, (HT.out.trans (O1.bel.mono (Nat.le_refl _))).trans (O2.bel.mono (by omega))⟩
end Go.Proofs.Ytokjjppfdmkjeaa.A

/- pulse: a pulse behind a tick, and what is told of both. -/
set_option linter.unusedVariables false
set_option linter.unusedSimpArgs false
namespace Go.Proofs.Ytokjjppfdmkjeaa.A
open Go.RowKit Go.Proofs.YtokjjppfdmkjeaaW.PrintWords Go.Proofs.YtokjjppfdmkjeaaW.PrintLast Go.Proofs.YtokjjppfdmkjeaaW.PrintMore Go.Proofs.Ytokjjppfdmkjeaa.PPulseHolds

set_option maxHeartbeats 4000000 in
theorem tick_idle1 (u0 u1 : Int) (u2 : Bool) (c0 c1 c2 c3 c4 c5 c6 cap : Int) (A : Option Addr) (l : List Pfx) (cc : Nat) (now d : Int) (w : World) (hr : Kd.C k81 w A l.length l) (hc : l.length ≤ cc) (ha : AdrP l) (hm : l.length ≤ 140737488355328) (hw : u2 = false) (hnd : now < u0) :
    Calls Try.prog 32 #[.agg #[.int .i64 u0, .int .i64 u1, .bool u2], .agg #[.int .i64 c0, .int .i64 c1, .int .i64 c2, .int .i64 c3, .int .i64 c4, .int .i64 c5, .int .i64 c6, .int .i64 cap, .slice A l.length cc], .int .i64 now, .int .i64 d] w fun e w' => e = .returned (.tuple #[.agg #[.int .i64 u0, .int .i64 u1, .bool false], .int .i64 0]) ∧ Below w.heap.size w w' := by
  have HR := Aside0.mk hr
  have HA := Aside0.mk ha
  clear hr ha
  subst hw
  have Hp : Aside0 (Blk (((w.alloc (.cells #[.int .i64 u0, .int .i64 u1, .bool false] 58)).alloc (.cells #[.int .i64 c0, .int .i64 c1, .int .i64 c2, .int .i64 c3, .int .i64 c4, .int .i64 c5, .int .i64 c6, .int .i64 cap, .slice A l.length cc] 24)).alloc (.cells #[.int .i64 0, .int .i64 0, .bool false] 28)) (w.heap.size) 58 #[.int .i64 u0, .int .i64 u1, .bool false]) := ⟨Blk.alloc (Blk.alloc (Blk.new' w 58 #[.int .i64 u0, .int .i64 u1, .bool false] (w.heap.size) (by simp)) _) _⟩
  have Hk : Aside0 (Blk (((w.alloc (.cells #[.int .i64 u0, .int .i64 u1, .bool false] 58)).alloc (.cells #[.int .i64 c0, .int .i64 c1, .int .i64 c2, .int .i64 c3, .int .i64 c4, .int .i64 c5, .int .i64 c6, .int .i64 cap, .slice A l.length cc] 24)).alloc (.cells #[.int .i64 0, .int .i64 0, .bool false] 28)) (w.heap.size + 1) 24 #[.int .i64 c0, .int .i64 c1, .int .i64 c2, .int .i64 c3, .int .i64 c4, .int .i64 c5, .int .i64 c6, .int .i64 cap, .slice A l.length cc]) := ⟨Blk.alloc (Blk.new' (w.alloc (.cells #[.int .i64 u0, .int .i64 u1, .bool false] 58)) 24 #[.int .i64 c0, .int .i64 c1, .int .i64 c2, .int .i64 c3, .int .i64 c4, .int .i64 c5, .int .i64 c6, .int .i64 cap, .slice A l.length cc] (w.heap.size + 1) (by simp)) _⟩
  have Ho : Aside0 (Blk (((w.alloc (.cells #[.int .i64 u0, .int .i64 u1, .bool false] 58)).alloc (.cells #[.int .i64 c0, .int .i64 c1, .int .i64 c2, .int .i64 c3, .int .i64 c4, .int .i64 c5, .int .i64 c6, .int .i64 cap, .slice A l.length cc] 24)).alloc (.cells #[.int .i64 0, .int .i64 0, .bool false] 28)) (w.heap.size + 1 + 1) 28 #[.int .i64 0, .int .i64 0, .bool false]) := ⟨Blk.new' ((w.alloc (.cells #[.int .i64 u0, .int .i64 u1, .bool false] 58)).alloc (.cells #[.int .i64 c0, .int .i64 c1, .int .i64 c2, .int .i64 c3, .int .i64 c4, .int .i64 c5, .int .i64 c6, .int .i64 cap, .slice A l.length cc] 24)) 28 #[.int .i64 0, .int .i64 0, .bool false] (w.heap.size + 1 + 1) (by simp)⟩
  have HT : Aside0 (Below w.heap.size w (((w.alloc (.cells #[.int .i64 u0, .int .i64 u1, .bool false] 58)).alloc (.cells #[.int .i64 c0, .int .i64 c1, .int .i64 c2, .int .i64 c3, .int .i64 c4, .int .i64 c5, .int .i64 c6, .int .i64 cap, .slice A l.length cc] 24)).alloc (.cells #[.int .i64 0, .int .i64 0, .bool false] 28))) := ⟨below_alloc (below_alloc (below_alloc (Below.refl w.heap.size w) _) _) _⟩
  go_enter Try.func32, Try.ntmps32
  go_wp2
  exact bodyPost_ret (v := .tuple #[.agg #[.int .i64 u0, .int .i64 u1, .bool false], .int .i64 0]) (by simp [results, Try.results32, go_sem]) rfl ⟨rfl, (below_alloc (below_alloc (below_alloc (Below.refl _ _) _) _) _)⟩
set_option maxHeartbeats 4000000 in
theorem tick_idle2 (u0 u1 : Int) (u2 : Bool) (c0 c1 c2 c3 c4 c5 c6 cap : Int) (A : Option Addr) (l : List Pfx) (cc : Nat) (now d : Int) (w : World) (hr : Kd.C k81 w A l.length l) (hc : l.length ≤ cc) (ha : AdrP l) (hm : l.length ≤ 140737488355328) (hw : u2 = true) (hnd : now < u0) (hlt : now < u1) :
    Calls Try.prog 32 #[.agg #[.int .i64 u0, .int .i64 u1, .bool u2], .agg #[.int .i64 c0, .int .i64 c1, .int .i64 c2, .int .i64 c3, .int .i64 c4, .int .i64 c5, .int .i64 c6, .int .i64 cap, .slice A l.length cc], .int .i64 now, .int .i64 d] w fun e w' => e = .returned (.tuple #[.agg #[.int .i64 u0, .int .i64 u1, .bool true], .int .i64 0]) ∧ Below w.heap.size w w' := by
  have HR := Aside0.mk hr
  have HA := Aside0.mk ha
  clear hr ha
  subst hw
  have Hp : Aside0 (Blk (((w.alloc (.cells #[.int .i64 u0, .int .i64 u1, .bool true] 58)).alloc (.cells #[.int .i64 c0, .int .i64 c1, .int .i64 c2, .int .i64 c3, .int .i64 c4, .int .i64 c5, .int .i64 c6, .int .i64 cap, .slice A l.length cc] 24)).alloc (.cells #[.int .i64 0, .int .i64 0, .bool false] 28)) (w.heap.size) 58 #[.int .i64 u0, .int .i64 u1, .bool true]) := ⟨Blk.alloc (Blk.alloc (Blk.new' w 58 #[.int .i64 u0, .int .i64 u1, .bool true] (w.heap.size) (by simp)) _) _⟩
  have Hk : Aside0 (Blk (((w.alloc (.cells #[.int .i64 u0, .int .i64 u1, .bool true] 58)).alloc (.cells #[.int .i64 c0, .int .i64 c1, .int .i64 c2, .int .i64 c3, .int .i64 c4, .int .i64 c5, .int .i64 c6, .int .i64 cap, .slice A l.length cc] 24)).alloc (.cells #[.int .i64 0, .int .i64 0, .bool false] 28)) (w.heap.size + 1) 24 #[.int .i64 c0, .int .i64 c1, .int .i64 c2, .int .i64 c3, .int .i64 c4, .int .i64 c5, .int .i64 c6, .int .i64 cap, .slice A l.length cc]) := ⟨Blk.alloc (Blk.new' (w.alloc (.cells #[.int .i64 u0, .int .i64 u1, .bool true] 58)) 24 #[.int .i64 c0, .int .i64 c1, .int .i64 c2, .int .i64 c3, .int .i64 c4, .int .i64 c5, .int .i64 c6, .int .i64 cap, .slice A l.length cc] (w.heap.size + 1) (by simp)) _⟩
  have Ho : Aside0 (Blk (((w.alloc (.cells #[.int .i64 u0, .int .i64 u1, .bool true] 58)).alloc (.cells #[.int .i64 c0, .int .i64 c1, .int .i64 c2, .int .i64 c3, .int .i64 c4, .int .i64 c5, .int .i64 c6, .int .i64 cap, .slice A l.length cc] 24)).alloc (.cells #[.int .i64 0, .int .i64 0, .bool false] 28)) (w.heap.size + 1 + 1) 28 #[.int .i64 0, .int .i64 0, .bool false]) := ⟨Blk.new' ((w.alloc (.cells #[.int .i64 u0, .int .i64 u1, .bool true] 58)).alloc (.cells #[.int .i64 c0, .int .i64 c1, .int .i64 c2, .int .i64 c3, .int .i64 c4, .int .i64 c5, .int .i64 c6, .int .i64 cap, .slice A l.length cc] 24)) 28 #[.int .i64 0, .int .i64 0, .bool false] (w.heap.size + 1 + 1) (by simp)⟩
  have HT : Aside0 (Below w.heap.size w (((w.alloc (.cells #[.int .i64 u0, .int .i64 u1, .bool true] 58)).alloc (.cells #[.int .i64 c0, .int .i64 c1, .int .i64 c2, .int .i64 c3, .int .i64 c4, .int .i64 c5, .int .i64 c6, .int .i64 cap, .slice A l.length cc] 24)).alloc (.cells #[.int .i64 0, .int .i64 0, .bool false] 28))) := ⟨below_alloc (below_alloc (below_alloc (Below.refl w.heap.size w) _) _) _⟩
  go_enter Try.func32, Try.ntmps32
  go_wp2
  exact bodyPost_ret (v := .tuple #[.agg #[.int .i64 u0, .int .i64 u1, .bool true], .int .i64 0]) (by simp [results, Try.results32, go_sem]) rfl ⟨rfl, (below_alloc (below_alloc (below_alloc (Below.refl _ _) _) _) _)⟩
set_option maxHeartbeats 4000000 in
theorem tick_chg (u0 u1 : Int) (c0 c1 c2 c3 c4 c5 c6 cap : Int) (A : Option Addr) (l : List Pfx) (cc : Nat) (now d : Int) (w : World) (hr : Kd.C k81 w A l.length l) (hc : l.length ≤ cc) (ha : AdrP l) (hm : l.length ≤ 140737488355328) (hn : rightN c0 c1 c2 c3 c4 c5 c6 cap l = true) (h0 : 0 ≤ now) (h1 : now ≤ 4611686018427387904) (hnd : now < u0) (hlt : u1 ≤ now) :
    Calls Try.prog 32 #[.agg #[.int .i64 u0, .int .i64 u1, .bool true], .agg #[.int .i64 c0, .int .i64 c1, .int .i64 c2, .int .i64 c3, .int .i64 c4, .int .i64 c5, .int .i64 c6, .int .i64 cap, .slice A l.length cc], .int .i64 now, .int .i64 d] w fun e w' => e = .returned (.tuple #[.agg #[.int .i64 u0, .int .i64 (now + (c5 + clampN d c6)), .bool false], .int .i64 1]) ∧ Below w.heap.size w w' := by
  have HR := Aside0.mk hr
  have HA := Aside0.mk ha
  clear hr ha
  have HN := Aside0.mk hn
  obtain ⟨V, hV⟩ : ∃ V, now + (c5 + clampN d c6) = V := ⟨_, rfl⟩
  have HV := Aside0.mk hV
  have HH := Aside0.mk h1
  rw [hV]
  clear hn hV
  have HLT := Aside0.mk hlt
  have Hp : Aside0 (Blk (((w.alloc (.cells #[.int .i64 u0, .int .i64 u1, .bool true] 58)).alloc (.cells #[.int .i64 c0, .int .i64 c1, .int .i64 c2, .int .i64 c3, .int .i64 c4, .int .i64 c5, .int .i64 c6, .int .i64 cap, .slice A l.length cc] 24)).alloc (.cells #[.int .i64 0, .int .i64 0, .bool false] 28)) (w.heap.size) 58 #[.int .i64 u0, .int .i64 u1, .bool true]) := ⟨Blk.alloc (Blk.alloc (Blk.new' w 58 #[.int .i64 u0, .int .i64 u1, .bool true] (w.heap.size) (by simp)) _) _⟩
  have Hk : Aside0 (Blk (((w.alloc (.cells #[.int .i64 u0, .int .i64 u1, .bool true] 58)).alloc (.cells #[.int .i64 c0, .int .i64 c1, .int .i64 c2, .int .i64 c3, .int .i64 c4, .int .i64 c5, .int .i64 c6, .int .i64 cap, .slice A l.length cc] 24)).alloc (.cells #[.int .i64 0, .int .i64 0, .bool false] 28)) (w.heap.size + 1) 24 #[.int .i64 c0, .int .i64 c1, .int .i64 c2, .int .i64 c3, .int .i64 c4, .int .i64 c5, .int .i64 c6, .int .i64 cap, .slice A l.length cc]) := ⟨Blk.alloc (Blk.new' (w.alloc (.cells #[.int .i64 u0, .int .i64 u1, .bool true] 58)) 24 #[.int .i64 c0, .int .i64 c1, .int .i64 c2, .int .i64 c3, .int .i64 c4, .int .i64 c5, .int .i64 c6, .int .i64 cap, .slice A l.length cc] (w.heap.size + 1) (by simp)) _⟩
  have Ho : Aside0 (Blk (((w.alloc (.cells #[.int .i64 u0, .int .i64 u1, .bool true] 58)).alloc (.cells #[.int .i64 c0, .int .i64 c1, .int .i64 c2, .int .i64 c3, .int .i64 c4, .int .i64 c5, .int .i64 c6, .int .i64 cap, .slice A l.length cc] 24)).alloc (.cells #[.int .i64 0, .int .i64 0, .bool false] 28)) (w.heap.size + 1 + 1) 28 #[.int .i64 0, .int .i64 0, .bool false]) := ⟨Blk.new' ((w.alloc (.cells #[.int .i64 u0, .int .i64 u1, .bool true] 58)).alloc (.cells #[.int .i64 c0, .int .i64 c1, .int .i64 c2, .int .i64 c3, .int .i64 c4, .int .i64 c5, .int .i64 c6, .int .i64 cap, .slice A l.length cc] 24)) 28 #[.int .i64 0, .int .i64 0, .bool false] (w.heap.size + 1 + 1) (by simp)⟩
  have HT : Aside0 (Below w.heap.size w (((w.alloc (.cells #[.int .i64 u0, .int .i64 u1, .bool true] 58)).alloc (.cells #[.int .i64 c0, .int .i64 c1, .int .i64 c2, .int .i64 c3, .int .i64 c4, .int .i64 c5, .int .i64 c6, .int .i64 cap, .slice A l.length cc] 24)).alloc (.cells #[.int .i64 0, .int .i64 0, .bool false] 28))) := ⟨below_alloc (below_alloc (below_alloc (Below.refl w.heap.size w) _) _) _⟩
  go_enter Try.func32, Try.ntmps32
  go_wp2_with (go_at_call 30; go_loud ((with_reducible refine (chg_ge u0 u1 true c0 c1 c2 c3 c4 c5 c6 cap A l cc now d _ (Kd.C_below HR.out HT.out) hc HA.out hm HN.out h0 HH.out HLT.out).mono ?_); rw [HV.out]; rintro e w9 ⟨rfl, hb⟩; have Hp := Aside0.mk (Blk.later Hp.out hb); have Hk := Aside0.mk (Blk.later Hk.out hb); have Ho := Aside0.mk (Blk.later Ho.out hb); have HT := Aside0.mk (thenB HT.out HT.out.size hb); (try clear p0 p1 p2 k0 k1 k2 k3 k4 k5 k6 k7 k8 o0 o1 o2 of0 of1 of2); have p0 := Blk.cell Hp.out 0 _ rfl; have p1 := Blk.cell Hp.out 1 _ rfl; have p2 := Blk.cell Hp.out 2 _ rfl; have k0 := Blk.cell Hk.out 0 _ rfl; have k1 := Blk.cell Hk.out 1 _ rfl; have k2 := Blk.cell Hk.out 2 _ rfl; have k3 := Blk.cell Hk.out 3 _ rfl; have k4 := Blk.cell Hk.out 4 _ rfl; have k5 := Blk.cell Hk.out 5 _ rfl; have k6 := Blk.cell Hk.out 6 _ rfl; have k7 := Blk.cell Hk.out 7 _ rfl; have k8 := Blk.cell Hk.out 8 _ rfl; have o0 := Blk.cell Ho.out 0 _ rfl; have of0 := Blk.frozen Ho.out 0; have o1 := Blk.cell Ho.out 1 _ rfl; have of1 := Blk.frozen Ho.out 1; have o2 := Blk.cell Ho.out 2 _ rfl; have of2 := Blk.frozen Ho.out 2; clear hb))
  have O2 := OneSet.whole Ho.out [.int .i64 u0, .int .i64 V, .bool false] rfl
  exact bodyPost_ret (results_ct (p := 8) (u := 9) rfl _ _ ⟨w.heap.size + 1 + 1, 0, none⟩ _ rfl (load_blk O2.blk Try.underlying28 rfl (by kernel_rfl))) rfl ⟨rfl, HT.out.trans (O2.bel.mono (by omega))⟩

/-- what a change makes of a pulse: q ticks is the next one quiet -/
def chU1 (u1 now q : Int) : Int := if now < u1 then u1 else now + q
def chK (u1 now : Int) : Int := if now < u1 then 0 else 1
theorem changes_any (u0 u1 : Int) (u2 : Bool) (c0 c1 c2 c3 c4 c5 c6 cap : Int) (A : Option Addr) (l : List Pfx) (cc : Nat) (now d : Int) (w : World) (hr : Kd.C k81 w A l.length l) (hc : l.length ≤ cc) (ha : AdrP l) (hm : l.length ≤ 140737488355328) (hn : rightN c0 c1 c2 c3 c4 c5 c6 cap l = true) (h0 : 0 ≤ now) (h1 : now ≤ 4611686018427387904) :
    Calls Try.prog 30 #[.agg #[.int .i64 u0, .int .i64 u1, .bool u2], .agg #[.int .i64 c0, .int .i64 c1, .int .i64 c2, .int .i64 c3, .int .i64 c4, .int .i64 c5, .int .i64 c6, .int .i64 cap, .slice A l.length cc], .int .i64 now, .int .i64 d] w fun e w' => e = .returned (.tuple #[.agg #[.int .i64 u0, .int .i64 (chU1 u1 now (c5 + clampN d c6)), .bool (decide (now < u1))], .int .i64 (chK u1 now)]) ∧ Below w.heap.size w w' := by
  unfold chU1 chK
  by_cases h : now < u1
  · rw [if_pos h, if_pos h, decide_eq_true h]
    exact chg_lt u0 u1 u2 c0 c1 c2 c3 c4 c5 c6 cap A l cc now d w hr hc ha hm h
  · rw [if_neg h, if_neg h, decide_eq_false h]
    exact chg_ge u0 u1 u2 c0 c1 c2 c3 c4 c5 c6 cap A l cc now d w hr hc ha hm hn h0 h1 (by omega)
/-- what a tick makes of a pulse: p ticks is the next one due, q quiet -/
def tkU0 (u0 now p : Int) : Int := if u0 ≤ now then now + p else u0
def tkU1 (u0 u1 : Int) (u2 : Bool) (now q : Int) : Int := if u0 ≤ now then u1 else if u2 = true then chU1 u1 now q else u1
def tkU2 (u0 u1 : Int) (u2 : Bool) (now : Int) : Bool := if u0 ≤ now then false else if u2 = true then decide (now < u1) else false
def tkK (u0 u1 : Int) (u2 : Bool) (now : Int) : Int := if u0 ≤ now then 2 else if u2 = true then chK u1 now else 0
theorem ticks_any (u0 u1 : Int) (u2 : Bool) (c0 c1 c2 c3 c4 c5 c6 cap : Int) (A : Option Addr) (l : List Pfx) (cc : Nat) (now d : Int) (w : World) (hr : Kd.C k81 w A l.length l) (hc : l.length ≤ cc) (ha : AdrP l) (hm : l.length ≤ 140737488355328) (hn : rightN c0 c1 c2 c3 c4 c5 c6 cap l = true) (h0 : 0 ≤ now) (h1 : now ≤ 4611686018427387904) :
    Calls Try.prog 32 #[.agg #[.int .i64 u0, .int .i64 u1, .bool u2], .agg #[.int .i64 c0, .int .i64 c1, .int .i64 c2, .int .i64 c3, .int .i64 c4, .int .i64 c5, .int .i64 c6, .int .i64 cap, .slice A l.length cc], .int .i64 now, .int .i64 d] w fun e w' => e = .returned (.tuple #[.agg #[.int .i64 (tkU0 u0 now (c0 + clampN d c1)), .int .i64 (tkU1 u0 u1 u2 now (c5 + clampN d c6)), .bool (tkU2 u0 u1 u2 now)], .int .i64 (tkK u0 u1 u2 now)]) ∧ Below w.heap.size w w' := by
  unfold tkU0 tkU1 tkU2 tkK
  by_cases h : u0 ≤ now
  · simp only [if_pos h]
    exact tick_due u0 u1 u2 c0 c1 c2 c3 c4 c5 c6 cap A l cc now d w hr hc ha hm hn h0 h1 h
  · simp only [if_neg h]
    cases u2 with
    | false =>
      simp only [if_neg Bool.false_ne_true]
      exact tick_idle1 u0 u1 false c0 c1 c2 c3 c4 c5 c6 cap A l cc now d w hr hc ha hm rfl (by omega)
    | true =>
      simp only [if_true]
      unfold chU1 chK
      by_cases h2 : now < u1
      · simp only [if_pos h2, decide_eq_true h2]
        exact tick_idle2 u0 u1 true c0 c1 c2 c3 c4 c5 c6 cap A l cc now d w hr hc ha hm rfl (by omega) h2
      · simp only [if_neg h2, decide_eq_false h2]
        exact tick_chg u0 u1 c0 c1 c2 c3 c4 c5 c6 cap A l cc now d w hr hc ha hm hn h0 h1 (by omega) (by omega)
end Go.Proofs.Ytokjjppfdmkjeaa.A
