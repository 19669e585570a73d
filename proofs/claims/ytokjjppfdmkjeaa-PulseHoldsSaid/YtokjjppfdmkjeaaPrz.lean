import Derived.Test.YtokjjppfdmkjeaaSet
import Derived.Test.YtokjjppfdmkjeaaPulB
import Derived.Test.YtokjjppfdmkjeaaRwt
import Derived.Test.YtokjjppfdmkjeaaWEqStruct
/- Blocks of the call's own, kept together. -/
set_option linter.unusedVariables false
set_option linter.unusedSimpArgs false
namespace Go.Proofs.Ytokjjppfdmkjeaa.A
open Go.RowKit Go.Proofs.YtokjjppfdmkjeaaW.PrintWords Go.Proofs.YtokjjppfdmkjeaaW.PrintLast Go.Proofs.YtokjjppfdmkjeaaW.PrintMore

structure Many (w : World) (bs : List (Nat × TypeId × Array Value)) (w' : World) : Prop where
  blk : ∀ (i : Nat) (g : Nat) (t : TypeId) (cs : Array Value), bs[i]? = some (g, t, cs) → Blk w' g t cs
  bel : Below w.heap.size w w'
section
variable {w w1 w2 : World} {bs : List (Nat × TypeId × Array Value)}
theorem Many.none (w : World) : Many w [] w := ⟨fun i g t cs h => by simp at h, Below.refl _ _⟩
theorem Many.later (h : Many w bs w1) (hb : Below w1.heap.size w1 w2) : Many w bs w2 := ⟨fun i g t cs hi => (h.blk i g t cs hi).later hb, thenB h.bel h.bel.size hb⟩
theorem Many.drew (h : Many w bs w1) : Many w bs w1.drew := ⟨fun i g t cs hi => h.blk i g t cs hi, below_drew h.bel⟩
theorem Many.alloc (h : Many w bs w1) (o : Obj) : Many w bs (w1.alloc o) := h.later (below_alloc (Below.refl _ _) o)
/-- a new block -/
theorem Many.grow (h : Many w bs w1) (t : TypeId) (cs : Array Value) : Many w (bs ++ [(w1.heap.size, t, cs)]) (w1.alloc (.cells cs t)) := by
  refine ⟨fun i g t' cs' hi => ?_, below_alloc h.bel _⟩
  rcases Nat.lt_or_ge i bs.length with hl | hl
  · rw [List.getElem?_append_left hl] at hi
    exact (h.blk i g t' cs' hi).alloc _
  · rw [List.getElem?_append_right hl] at hi
    cases hk : i - bs.length with
    | zero =>
      rw [hk] at hi
      simp at hi
      obtain ⟨rfl, rfl, rfl⟩ := hi
      exact Blk.new w1 _ _
    | succ k =>
      rw [hk] at hi
      simp at hi
/-- a block is written whole -/
theorem Many.set (h : Many w bs w1) (i g : Nat) (t : TypeId) (cs : Array Value) (hi : bs[i]? = some (g, t, cs)) (us : List Value) (hs : cs.size = us.length) (hg : w.heap.size ≤ g) (hd : ∀ (j g' : Nat) (t' : TypeId) (cs' : Array Value), bs[j]? = some (g', t', cs') → j ≠ i → g' ≠ g) :
    Many w (bs.set i (g, t, us.toArray)) (sets w1 g 0 us) := by
  have O := OneSet.whole (h.blk i g t cs hi) us hs
  refine ⟨fun j g' t' cs' hj => ?_, h.bel.trans (O.bel.mono hg)⟩
  rw [List.getElem?_set] at hj
  split at hj
  · split at hj
    · simp at hj
      obtain ⟨rfl, rfl, rfl⟩ := hj
      exact O.blk
    · cases hj
  · rename_i hne
    exact O.other (h.blk j g' t' cs' hj) (hd j g' t' cs' hj (fun e => hne e.symm))
end
end Go.Proofs.Ytokjjppfdmkjeaa.A

/- pulse: the document's answers. -/
set_option linter.unusedVariables false
set_option linter.unusedSimpArgs false
namespace Go.Proofs.Ytokjjppfdmkjeaa.A
open Go.RowKit Go.Proofs.YtokjjppfdmkjeaaW.PrintWords Go.Proofs.YtokjjppfdmkjeaaW.PrintLast Go.Proofs.YtokjjppfdmkjeaaW.PrintMore Go.Proofs.Ytokjjppfdmkjeaa.PPulseHolds

theorem eqA28 (d : Nat) (w : World) (x0 y0 : Int) (x1 y1 : Int) (x2 y2 : Bool) :
    (Op.equalIn (d + 2) 28 (.agg #[.int .i64 x0, .int .i64 x1, .bool x2]) (.agg #[.int .i64 y0, .int .i64 y1, .bool y2])).run Try.prog w = .ok (x0 == y0 && (x1 == y1 && (x2 == y2))) w := by
  refine eqA_of Try.underlying28 (by kernel_rfl) ?_
  refine eqf_cons (by rfl) (by go_simp; rfl) (by go_simp; rfl) (by go_simp) ?_
  refine eqf_cons (by rfl) (by go_simp; rfl) (by go_simp; rfl) (by go_simp) ?_
  exact eqf_last (by rfl) (by go_simp; rfl) (by go_simp; rfl) (by go_simp)
theorem reftime_any (n : Int) (w : World) : Calls Try.prog 44 #[.int .i64 n] w fun e w' => e = .returned (.bool (decide (0 ≤ n ∧ n ≤ 4611686018427387904))) ∧ Below w.heap.size w w' := by
  by_cases h0 : 0 ≤ n
  · by_cases h1 : n ≤ 4611686018427387904
    · rw [decide_eq_true ⟨h0, h1⟩]
      have d1 : decide (n ≤ 4611686018427387904) = true := decide_eq_true h1
      go_enter Try.func44, Try.ntmps44
      go_wp2
      go_ret
      exact ⟨rfl, Below.refl _ _⟩
    · rw [decide_eq_false (fun h => h1 h.2)]
      have d1 : decide (n ≤ 4611686018427387904) = false := decide_eq_false h1
      go_enter Try.func44, Try.ntmps44
      go_wp2
      go_ret
      exact ⟨rfl, Below.refl _ _⟩
  · rw [decide_eq_false (fun h => h0 h.1)]
    have d1 : decide (0 ≤ n) = false := decide_eq_false h0
    go_enter Try.func44, Try.ntmps44
    go_wp2
    go_ret
    exact ⟨rfl, Below.refl _ _⟩
theorem pulseOk_and (u0 u1 : Int) : pulseOk u0 u1 = (decide (0 ≤ u0 ∧ u0 ≤ 4611686018427387904) && decide (0 ≤ u1 ∧ u1 ≤ 4611686018427387904)) := by
  unfold pulseOk
  rw [Bool.eq_iff_iff, Bool.and_eq_true, decide_eq_true_eq, decide_eq_true_eq, decide_eq_true_eq]
  constructor
  · rintro ⟨h1, h2, h3, h4⟩
    exact ⟨⟨h1, h2⟩, ⟨h3, h4⟩⟩
  · rintro ⟨⟨h1, h2⟩, ⟨h3, h4⟩⟩
    exact ⟨h1, h2, h3, h4⟩
set_option maxHeartbeats 2000000 in
theorem refpright_any (u0 u1 : Int) (u2 : Bool) (w : World) : Calls Try.prog 27 #[.agg #[.int .i64 u0, .int .i64 u1, .bool u2]] w fun e w' => e = .returned (.bool (pulseOk u0 u1)) ∧ Below w.heap.size w w' := by
  have T0 := Aside0.mk (reftime_any u0)
  have T1 := Aside0.mk (reftime_any u1)
  rw [pulseOk_and]
  have Hp : Aside0 (Blk (w.alloc (.cells #[.int .i64 u0, .int .i64 u1, .bool u2] 28)) (w.heap.size) 28 #[.int .i64 u0, .int .i64 u1, .bool u2]) := ⟨Blk.new' w 28 #[.int .i64 u0, .int .i64 u1, .bool u2] (w.heap.size) (by simp)⟩
  have HT : Aside0 (Below w.heap.size w (w.alloc (.cells #[.int .i64 u0, .int .i64 u1, .bool u2] 28))) := ⟨below_alloc (Below.refl w.heap.size w) _⟩
  cases b0 : decide (0 ≤ u0 ∧ u0 ≤ 4611686018427387904) with
  | false =>
    rw [b0] at T0
    clear b0
    go_enter Try.func27, Try.ntmps27
    go_wp2_with (go_at_call 44; ((with_reducible refine (T0.out _).mono ?_); rintro e w9 ⟨rfl, hb⟩; have Hp := Aside0.mk (Blk.later Hp.out hb); have HT := Aside0.mk (thenB HT.out HT.out.size hb); (try clear p0 p1 p2); have p0 := Blk.cell Hp.out 0 _ rfl; have p1 := Blk.cell Hp.out 1 _ rfl; have p2 := Blk.cell Hp.out 2 _ rfl; clear hb))
    go_ret
    exact ⟨rfl, HT.out⟩
  | true =>
    rw [b0] at T0
    clear b0
    cases b1 : decide (0 ≤ u1 ∧ u1 ≤ 4611686018427387904) with
    | false =>
      rw [b1] at T1
      clear b1
      go_enter Try.func27, Try.ntmps27
      go_wp2_with (first
        | (go_at_call 44; ((with_reducible refine (T0.out _).mono ?_); rintro e w9 ⟨rfl, hb⟩; have Hp := Aside0.mk (Blk.later Hp.out hb); have HT := Aside0.mk (thenB HT.out HT.out.size hb); (try clear p0 p1 p2); have p0 := Blk.cell Hp.out 0 _ rfl; have p1 := Blk.cell Hp.out 1 _ rfl; have p2 := Blk.cell Hp.out 2 _ rfl; clear hb))
        | (go_at_call 44; ((with_reducible refine (T1.out _).mono ?_); rintro e w9 ⟨rfl, hb⟩; have Hp := Aside0.mk (Blk.later Hp.out hb); have HT := Aside0.mk (thenB HT.out HT.out.size hb); (try clear p0 p1 p2); have p0 := Blk.cell Hp.out 0 _ rfl; have p1 := Blk.cell Hp.out 1 _ rfl; have p2 := Blk.cell Hp.out 2 _ rfl; clear hb)))
      all_goals go_ret
      all_goals exact ⟨rfl, HT.out⟩
    | true =>
      rw [b1] at T1
      clear b1
      go_enter Try.func27, Try.ntmps27
      go_wp2_with (first
        | (go_at_call 44; ((with_reducible refine (T0.out _).mono ?_); rintro e w9 ⟨rfl, hb⟩; have Hp := Aside0.mk (Blk.later Hp.out hb); have HT := Aside0.mk (thenB HT.out HT.out.size hb); (try clear p0 p1 p2); have p0 := Blk.cell Hp.out 0 _ rfl; have p1 := Blk.cell Hp.out 1 _ rfl; have p2 := Blk.cell Hp.out 2 _ rfl; clear hb))
        | (go_at_call 44; ((with_reducible refine (T1.out _).mono ?_); rintro e w9 ⟨rfl, hb⟩; have Hp := Aside0.mk (Blk.later Hp.out hb); have HT := Aside0.mk (thenB HT.out HT.out.size hb); (try clear p0 p1 p2); have p0 := Blk.cell Hp.out 0 _ rfl; have p1 := Blk.cell Hp.out 1 _ rfl; have p2 := Blk.cell Hp.out 2 _ rfl; clear hb)))
      go_ret
      exact ⟨rfl, HT.out⟩
set_option maxHeartbeats 4000000 in
theorem refasked_no1 (c0 c1 c2 c3 c4 c5 c6 cap : Int) (A : Option Addr) (l : List Pfx) (cc : Nat) (u0 u1 : Int) (u2 : Bool) (now : Int) (w : World) (hr : Kd.C k81 w A l.length l) (hc : l.length ≤ cc) (ha : AdrP l) (hm : l.length ≤ 140737488355328) (hn : rightN c0 c1 c2 c3 c4 c5 c6 cap l = false) :
    Calls Try.prog 11 #[.agg #[.int .i64 c0, .int .i64 c1, .int .i64 c2, .int .i64 c3, .int .i64 c4, .int .i64 c5, .int .i64 c6, .int .i64 cap, .slice A l.length cc], .agg #[.int .i64 u0, .int .i64 u1, .bool u2], .int .i64 now] w fun e w' => e = .returned (.int .i64 2) ∧ Below w.heap.size w w' := by
  have HR := Aside0.mk hr
  have HA := Aside0.mk ha
  clear hr ha
  have HN := Aside0.mk hn
  clear hn
  have Hk : Aside0 (Blk ((w.alloc (.cells #[.int .i64 c0, .int .i64 c1, .int .i64 c2, .int .i64 c3, .int .i64 c4, .int .i64 c5, .int .i64 c6, .int .i64 cap, .slice A l.length cc] 24)).alloc (.cells #[.int .i64 u0, .int .i64 u1, .bool u2] 28)) (w.heap.size) 24 #[.int .i64 c0, .int .i64 c1, .int .i64 c2, .int .i64 c3, .int .i64 c4, .int .i64 c5, .int .i64 c6, .int .i64 cap, .slice A l.length cc]) := ⟨Blk.alloc (Blk.new' w 24 #[.int .i64 c0, .int .i64 c1, .int .i64 c2, .int .i64 c3, .int .i64 c4, .int .i64 c5, .int .i64 c6, .int .i64 cap, .slice A l.length cc] (w.heap.size) (by simp)) _⟩
  have Hp : Aside0 (Blk ((w.alloc (.cells #[.int .i64 c0, .int .i64 c1, .int .i64 c2, .int .i64 c3, .int .i64 c4, .int .i64 c5, .int .i64 c6, .int .i64 cap, .slice A l.length cc] 24)).alloc (.cells #[.int .i64 u0, .int .i64 u1, .bool u2] 28)) (w.heap.size + 1) 28 #[.int .i64 u0, .int .i64 u1, .bool u2]) := ⟨Blk.new' (w.alloc (.cells #[.int .i64 c0, .int .i64 c1, .int .i64 c2, .int .i64 c3, .int .i64 c4, .int .i64 c5, .int .i64 c6, .int .i64 cap, .slice A l.length cc] 24)) 28 #[.int .i64 u0, .int .i64 u1, .bool u2] (w.heap.size + 1) (by simp)⟩
  have HT : Aside0 (Below w.heap.size w ((w.alloc (.cells #[.int .i64 c0, .int .i64 c1, .int .i64 c2, .int .i64 c3, .int .i64 c4, .int .i64 c5, .int .i64 c6, .int .i64 cap, .slice A l.length cc] 24)).alloc (.cells #[.int .i64 u0, .int .i64 u1, .bool u2] 28))) := ⟨below_alloc (below_alloc (Below.refl w.heap.size w) _) _⟩
  go_enter Try.func11, Try.ntmps11
  go_wp2_with (first
    | (go_at_call 20; ((with_reducible refine (cfgright_any c0 c1 c2 c3 c4 c5 c6 cap A l cc _ (Kd.C_below HR.out HT.out) hc HA.out hm).mono ?_); rw [HN.out]; rintro e w9 ⟨rfl, hb⟩; have Hk := Aside0.mk (Blk.later Hk.out hb); have Hp := Aside0.mk (Blk.later Hp.out hb); have HT := Aside0.mk (thenB HT.out HT.out.size hb); (try clear k0 k1 k2 k3 k4 k5 k6 k7 k8 p0 p1 p2); have k0 := Blk.cell Hk.out 0 _ rfl; have k1 := Blk.cell Hk.out 1 _ rfl; have k2 := Blk.cell Hk.out 2 _ rfl; have k3 := Blk.cell Hk.out 3 _ rfl; have k4 := Blk.cell Hk.out 4 _ rfl; have k5 := Blk.cell Hk.out 5 _ rfl; have k6 := Blk.cell Hk.out 6 _ rfl; have k7 := Blk.cell Hk.out 7 _ rfl; have k8 := Blk.cell Hk.out 8 _ rfl; have p0 := Blk.cell Hp.out 0 _ rfl; have p1 := Blk.cell Hp.out 1 _ rfl; have p2 := Blk.cell Hp.out 2 _ rfl; clear hb)))
  go_ret
  exact ⟨rfl, HT.out⟩
set_option maxHeartbeats 4000000 in
theorem refasked_no2 (c0 c1 c2 c3 c4 c5 c6 cap : Int) (A : Option Addr) (l : List Pfx) (cc : Nat) (u0 u1 : Int) (u2 : Bool) (now : Int) (w : World) (hr : Kd.C k81 w A l.length l) (hc : l.length ≤ cc) (ha : AdrP l) (hm : l.length ≤ 140737488355328) (hn : rightN c0 c1 c2 c3 c4 c5 c6 cap l = true) (hp : pulseOk u0 u1 = false) :
    Calls Try.prog 11 #[.agg #[.int .i64 c0, .int .i64 c1, .int .i64 c2, .int .i64 c3, .int .i64 c4, .int .i64 c5, .int .i64 c6, .int .i64 cap, .slice A l.length cc], .agg #[.int .i64 u0, .int .i64 u1, .bool u2], .int .i64 now] w fun e w' => e = .returned (.int .i64 2) ∧ Below w.heap.size w w' := by
  have HR := Aside0.mk hr
  have HA := Aside0.mk ha
  clear hr ha
  have HN := Aside0.mk hn
  clear hn
  have HP := Aside0.mk hp
  clear hp
  have Hk : Aside0 (Blk ((w.alloc (.cells #[.int .i64 c0, .int .i64 c1, .int .i64 c2, .int .i64 c3, .int .i64 c4, .int .i64 c5, .int .i64 c6, .int .i64 cap, .slice A l.length cc] 24)).alloc (.cells #[.int .i64 u0, .int .i64 u1, .bool u2] 28)) (w.heap.size) 24 #[.int .i64 c0, .int .i64 c1, .int .i64 c2, .int .i64 c3, .int .i64 c4, .int .i64 c5, .int .i64 c6, .int .i64 cap, .slice A l.length cc]) := ⟨Blk.alloc (Blk.new' w 24 #[.int .i64 c0, .int .i64 c1, .int .i64 c2, .int .i64 c3, .int .i64 c4, .int .i64 c5, .int .i64 c6, .int .i64 cap, .slice A l.length cc] (w.heap.size) (by simp)) _⟩
  have Hp : Aside0 (Blk ((w.alloc (.cells #[.int .i64 c0, .int .i64 c1, .int .i64 c2, .int .i64 c3, .int .i64 c4, .int .i64 c5, .int .i64 c6, .int .i64 cap, .slice A l.length cc] 24)).alloc (.cells #[.int .i64 u0, .int .i64 u1, .bool u2] 28)) (w.heap.size + 1) 28 #[.int .i64 u0, .int .i64 u1, .bool u2]) := ⟨Blk.new' (w.alloc (.cells #[.int .i64 c0, .int .i64 c1, .int .i64 c2, .int .i64 c3, .int .i64 c4, .int .i64 c5, .int .i64 c6, .int .i64 cap, .slice A l.length cc] 24)) 28 #[.int .i64 u0, .int .i64 u1, .bool u2] (w.heap.size + 1) (by simp)⟩
  have HT : Aside0 (Below w.heap.size w ((w.alloc (.cells #[.int .i64 c0, .int .i64 c1, .int .i64 c2, .int .i64 c3, .int .i64 c4, .int .i64 c5, .int .i64 c6, .int .i64 cap, .slice A l.length cc] 24)).alloc (.cells #[.int .i64 u0, .int .i64 u1, .bool u2] 28))) := ⟨below_alloc (below_alloc (Below.refl w.heap.size w) _) _⟩
  go_enter Try.func11, Try.ntmps11
  go_wp2_with (first
    | (go_at_call 20; ((with_reducible refine (cfgright_any c0 c1 c2 c3 c4 c5 c6 cap A l cc _ (Kd.C_below HR.out HT.out) hc HA.out hm).mono ?_); rw [HN.out]; rintro e w9 ⟨rfl, hb⟩; have Hk := Aside0.mk (Blk.later Hk.out hb); have Hp := Aside0.mk (Blk.later Hp.out hb); have HT := Aside0.mk (thenB HT.out HT.out.size hb); (try clear k0 k1 k2 k3 k4 k5 k6 k7 k8 p0 p1 p2); have k0 := Blk.cell Hk.out 0 _ rfl; have k1 := Blk.cell Hk.out 1 _ rfl; have k2 := Blk.cell Hk.out 2 _ rfl; have k3 := Blk.cell Hk.out 3 _ rfl; have k4 := Blk.cell Hk.out 4 _ rfl; have k5 := Blk.cell Hk.out 5 _ rfl; have k6 := Blk.cell Hk.out 6 _ rfl; have k7 := Blk.cell Hk.out 7 _ rfl; have k8 := Blk.cell Hk.out 8 _ rfl; have p0 := Blk.cell Hp.out 0 _ rfl; have p1 := Blk.cell Hp.out 1 _ rfl; have p2 := Blk.cell Hp.out 2 _ rfl; clear hb))
    | (go_at_call 27; ((with_reducible refine (refpright_any u0 u1 u2 _).mono ?_); rw [HP.out]; rintro e w9 ⟨rfl, hb⟩; have Hk := Aside0.mk (Blk.later Hk.out hb); have Hp := Aside0.mk (Blk.later Hp.out hb); have HT := Aside0.mk (thenB HT.out HT.out.size hb); (try clear k0 k1 k2 k3 k4 k5 k6 k7 k8 p0 p1 p2); have k0 := Blk.cell Hk.out 0 _ rfl; have k1 := Blk.cell Hk.out 1 _ rfl; have k2 := Blk.cell Hk.out 2 _ rfl; have k3 := Blk.cell Hk.out 3 _ rfl; have k4 := Blk.cell Hk.out 4 _ rfl; have k5 := Blk.cell Hk.out 5 _ rfl; have k6 := Blk.cell Hk.out 6 _ rfl; have k7 := Blk.cell Hk.out 7 _ rfl; have k8 := Blk.cell Hk.out 8 _ rfl; have p0 := Blk.cell Hp.out 0 _ rfl; have p1 := Blk.cell Hp.out 1 _ rfl; have p2 := Blk.cell Hp.out 2 _ rfl; clear hb)))
  go_ret
  exact ⟨rfl, HT.out⟩
set_option maxHeartbeats 4000000 in
theorem refasked_no3 (c0 c1 c2 c3 c4 c5 c6 cap : Int) (A : Option Addr) (l : List Pfx) (cc : Nat) (u0 u1 : Int) (u2 : Bool) (now : Int) (w : World) (hr : Kd.C k81 w A l.length l) (hc : l.length ≤ cc) (ha : AdrP l) (hm : l.length ≤ 140737488355328) (hn : rightN c0 c1 c2 c3 c4 c5 c6 cap l = true) (hp : pulseOk u0 u1 = true) (h0 : now < 0) :
    Calls Try.prog 11 #[.agg #[.int .i64 c0, .int .i64 c1, .int .i64 c2, .int .i64 c3, .int .i64 c4, .int .i64 c5, .int .i64 c6, .int .i64 cap, .slice A l.length cc], .agg #[.int .i64 u0, .int .i64 u1, .bool u2], .int .i64 now] w fun e w' => e = .returned (.int .i64 170) ∧ Below w.heap.size w w' := by
  have HR := Aside0.mk hr
  have HA := Aside0.mk ha
  clear hr ha
  have HN := Aside0.mk hn
  clear hn
  have HP := Aside0.mk hp
  clear hp
  have Hk : Aside0 (Blk ((w.alloc (.cells #[.int .i64 c0, .int .i64 c1, .int .i64 c2, .int .i64 c3, .int .i64 c4, .int .i64 c5, .int .i64 c6, .int .i64 cap, .slice A l.length cc] 24)).alloc (.cells #[.int .i64 u0, .int .i64 u1, .bool u2] 28)) (w.heap.size) 24 #[.int .i64 c0, .int .i64 c1, .int .i64 c2, .int .i64 c3, .int .i64 c4, .int .i64 c5, .int .i64 c6, .int .i64 cap, .slice A l.length cc]) := ⟨Blk.alloc (Blk.new' w 24 #[.int .i64 c0, .int .i64 c1, .int .i64 c2, .int .i64 c3, .int .i64 c4, .int .i64 c5, .int .i64 c6, .int .i64 cap, .slice A l.length cc] (w.heap.size) (by simp)) _⟩
  have Hp : Aside0 (Blk ((w.alloc (.cells #[.int .i64 c0, .int .i64 c1, .int .i64 c2, .int .i64 c3, .int .i64 c4, .int .i64 c5, .int .i64 c6, .int .i64 cap, .slice A l.length cc] 24)).alloc (.cells #[.int .i64 u0, .int .i64 u1, .bool u2] 28)) (w.heap.size + 1) 28 #[.int .i64 u0, .int .i64 u1, .bool u2]) := ⟨Blk.new' (w.alloc (.cells #[.int .i64 c0, .int .i64 c1, .int .i64 c2, .int .i64 c3, .int .i64 c4, .int .i64 c5, .int .i64 c6, .int .i64 cap, .slice A l.length cc] 24)) 28 #[.int .i64 u0, .int .i64 u1, .bool u2] (w.heap.size + 1) (by simp)⟩
  have HT : Aside0 (Below w.heap.size w ((w.alloc (.cells #[.int .i64 c0, .int .i64 c1, .int .i64 c2, .int .i64 c3, .int .i64 c4, .int .i64 c5, .int .i64 c6, .int .i64 cap, .slice A l.length cc] 24)).alloc (.cells #[.int .i64 u0, .int .i64 u1, .bool u2] 28))) := ⟨below_alloc (below_alloc (Below.refl w.heap.size w) _) _⟩
  go_enter Try.func11, Try.ntmps11
  go_wp2_with (first
    | (go_at_call 20; ((with_reducible refine (cfgright_any c0 c1 c2 c3 c4 c5 c6 cap A l cc _ (Kd.C_below HR.out HT.out) hc HA.out hm).mono ?_); rw [HN.out]; rintro e w9 ⟨rfl, hb⟩; have Hk := Aside0.mk (Blk.later Hk.out hb); have Hp := Aside0.mk (Blk.later Hp.out hb); have HT := Aside0.mk (thenB HT.out HT.out.size hb); (try clear k0 k1 k2 k3 k4 k5 k6 k7 k8 p0 p1 p2); have k0 := Blk.cell Hk.out 0 _ rfl; have k1 := Blk.cell Hk.out 1 _ rfl; have k2 := Blk.cell Hk.out 2 _ rfl; have k3 := Blk.cell Hk.out 3 _ rfl; have k4 := Blk.cell Hk.out 4 _ rfl; have k5 := Blk.cell Hk.out 5 _ rfl; have k6 := Blk.cell Hk.out 6 _ rfl; have k7 := Blk.cell Hk.out 7 _ rfl; have k8 := Blk.cell Hk.out 8 _ rfl; have p0 := Blk.cell Hp.out 0 _ rfl; have p1 := Blk.cell Hp.out 1 _ rfl; have p2 := Blk.cell Hp.out 2 _ rfl; clear hb))
    | (go_at_call 27; ((with_reducible refine (refpright_any u0 u1 u2 _).mono ?_); rw [HP.out]; rintro e w9 ⟨rfl, hb⟩; have Hk := Aside0.mk (Blk.later Hk.out hb); have Hp := Aside0.mk (Blk.later Hp.out hb); have HT := Aside0.mk (thenB HT.out HT.out.size hb); (try clear k0 k1 k2 k3 k4 k5 k6 k7 k8 p0 p1 p2); have k0 := Blk.cell Hk.out 0 _ rfl; have k1 := Blk.cell Hk.out 1 _ rfl; have k2 := Blk.cell Hk.out 2 _ rfl; have k3 := Blk.cell Hk.out 3 _ rfl; have k4 := Blk.cell Hk.out 4 _ rfl; have k5 := Blk.cell Hk.out 5 _ rfl; have k6 := Blk.cell Hk.out 6 _ rfl; have k7 := Blk.cell Hk.out 7 _ rfl; have k8 := Blk.cell Hk.out 8 _ rfl; have p0 := Blk.cell Hp.out 0 _ rfl; have p1 := Blk.cell Hp.out 1 _ rfl; have p2 := Blk.cell Hp.out 2 _ rfl; clear hb)))
  go_ret
  exact ⟨rfl, HT.out⟩
set_option maxHeartbeats 4000000 in
theorem refasked_no4 (c0 c1 c2 c3 c4 c5 c6 cap : Int) (A : Option Addr) (l : List Pfx) (cc : Nat) (u0 u1 : Int) (u2 : Bool) (now : Int) (w : World) (hr : Kd.C k81 w A l.length l) (hc : l.length ≤ cc) (ha : AdrP l) (hm : l.length ≤ 140737488355328) (hn : rightN c0 c1 c2 c3 c4 c5 c6 cap l = true) (hp : pulseOk u0 u1 = true) (h0 : 0 ≤ now) (h1 : 4611686018425387904 < now) :
    Calls Try.prog 11 #[.agg #[.int .i64 c0, .int .i64 c1, .int .i64 c2, .int .i64 c3, .int .i64 c4, .int .i64 c5, .int .i64 c6, .int .i64 cap, .slice A l.length cc], .agg #[.int .i64 u0, .int .i64 u1, .bool u2], .int .i64 now] w fun e w' => e = .returned (.int .i64 170) ∧ Below w.heap.size w w' := by
  have HR := Aside0.mk hr
  have HA := Aside0.mk ha
  clear hr ha
  have HN := Aside0.mk hn
  clear hn
  have HP := Aside0.mk hp
  clear hp
  have Hk : Aside0 (Blk ((w.alloc (.cells #[.int .i64 c0, .int .i64 c1, .int .i64 c2, .int .i64 c3, .int .i64 c4, .int .i64 c5, .int .i64 c6, .int .i64 cap, .slice A l.length cc] 24)).alloc (.cells #[.int .i64 u0, .int .i64 u1, .bool u2] 28)) (w.heap.size) 24 #[.int .i64 c0, .int .i64 c1, .int .i64 c2, .int .i64 c3, .int .i64 c4, .int .i64 c5, .int .i64 c6, .int .i64 cap, .slice A l.length cc]) := ⟨Blk.alloc (Blk.new' w 24 #[.int .i64 c0, .int .i64 c1, .int .i64 c2, .int .i64 c3, .int .i64 c4, .int .i64 c5, .int .i64 c6, .int .i64 cap, .slice A l.length cc] (w.heap.size) (by simp)) _⟩
  have Hp : Aside0 (Blk ((w.alloc (.cells #[.int .i64 c0, .int .i64 c1, .int .i64 c2, .int .i64 c3, .int .i64 c4, .int .i64 c5, .int .i64 c6, .int .i64 cap, .slice A l.length cc] 24)).alloc (.cells #[.int .i64 u0, .int .i64 u1, .bool u2] 28)) (w.heap.size + 1) 28 #[.int .i64 u0, .int .i64 u1, .bool u2]) := ⟨Blk.new' (w.alloc (.cells #[.int .i64 c0, .int .i64 c1, .int .i64 c2, .int .i64 c3, .int .i64 c4, .int .i64 c5, .int .i64 c6, .int .i64 cap, .slice A l.length cc] 24)) 28 #[.int .i64 u0, .int .i64 u1, .bool u2] (w.heap.size + 1) (by simp)⟩
  have HT : Aside0 (Below w.heap.size w ((w.alloc (.cells #[.int .i64 c0, .int .i64 c1, .int .i64 c2, .int .i64 c3, .int .i64 c4, .int .i64 c5, .int .i64 c6, .int .i64 cap, .slice A l.length cc] 24)).alloc (.cells #[.int .i64 u0, .int .i64 u1, .bool u2] 28))) := ⟨below_alloc (below_alloc (Below.refl w.heap.size w) _) _⟩
  go_enter Try.func11, Try.ntmps11
  go_wp2_with (first
    | (go_at_call 20; ((with_reducible refine (cfgright_any c0 c1 c2 c3 c4 c5 c6 cap A l cc _ (Kd.C_below HR.out HT.out) hc HA.out hm).mono ?_); rw [HN.out]; rintro e w9 ⟨rfl, hb⟩; have Hk := Aside0.mk (Blk.later Hk.out hb); have Hp := Aside0.mk (Blk.later Hp.out hb); have HT := Aside0.mk (thenB HT.out HT.out.size hb); (try clear k0 k1 k2 k3 k4 k5 k6 k7 k8 p0 p1 p2); have k0 := Blk.cell Hk.out 0 _ rfl; have k1 := Blk.cell Hk.out 1 _ rfl; have k2 := Blk.cell Hk.out 2 _ rfl; have k3 := Blk.cell Hk.out 3 _ rfl; have k4 := Blk.cell Hk.out 4 _ rfl; have k5 := Blk.cell Hk.out 5 _ rfl; have k6 := Blk.cell Hk.out 6 _ rfl; have k7 := Blk.cell Hk.out 7 _ rfl; have k8 := Blk.cell Hk.out 8 _ rfl; have p0 := Blk.cell Hp.out 0 _ rfl; have p1 := Blk.cell Hp.out 1 _ rfl; have p2 := Blk.cell Hp.out 2 _ rfl; clear hb))
    | (go_at_call 27; ((with_reducible refine (refpright_any u0 u1 u2 _).mono ?_); rw [HP.out]; rintro e w9 ⟨rfl, hb⟩; have Hk := Aside0.mk (Blk.later Hk.out hb); have Hp := Aside0.mk (Blk.later Hp.out hb); have HT := Aside0.mk (thenB HT.out HT.out.size hb); (try clear k0 k1 k2 k3 k4 k5 k6 k7 k8 p0 p1 p2); have k0 := Blk.cell Hk.out 0 _ rfl; have k1 := Blk.cell Hk.out 1 _ rfl; have k2 := Blk.cell Hk.out 2 _ rfl; have k3 := Blk.cell Hk.out 3 _ rfl; have k4 := Blk.cell Hk.out 4 _ rfl; have k5 := Blk.cell Hk.out 5 _ rfl; have k6 := Blk.cell Hk.out 6 _ rfl; have k7 := Blk.cell Hk.out 7 _ rfl; have k8 := Blk.cell Hk.out 8 _ rfl; have p0 := Blk.cell Hp.out 0 _ rfl; have p1 := Blk.cell Hp.out 1 _ rfl; have p2 := Blk.cell Hp.out 2 _ rfl; clear hb)))
  go_ret
  exact ⟨rfl, HT.out⟩
set_option maxHeartbeats 4000000 in
theorem refasked_ok (c0 c1 c2 c3 c4 c5 c6 cap : Int) (A : Option Addr) (l : List Pfx) (cc : Nat) (u0 u1 : Int) (u2 : Bool) (now : Int) (w : World) (hr : Kd.C k81 w A l.length l) (hc : l.length ≤ cc) (ha : AdrP l) (hm : l.length ≤ 140737488355328) (hn : rightN c0 c1 c2 c3 c4 c5 c6 cap l = true) (hp : pulseOk u0 u1 = true) (h0 : 0 ≤ now) (h1 : now ≤ 4611686018425387904) :
    Calls Try.prog 11 #[.agg #[.int .i64 c0, .int .i64 c1, .int .i64 c2, .int .i64 c3, .int .i64 c4, .int .i64 c5, .int .i64 c6, .int .i64 cap, .slice A l.length cc], .agg #[.int .i64 u0, .int .i64 u1, .bool u2], .int .i64 now] w fun e w' => e = .returned (.int .i64 0) ∧ Below w.heap.size w w' := by
  have HR := Aside0.mk hr
  have HA := Aside0.mk ha
  clear hr ha
  have HN := Aside0.mk hn
  clear hn
  have HP := Aside0.mk hp
  clear hp
  have Hk : Aside0 (Blk ((w.alloc (.cells #[.int .i64 c0, .int .i64 c1, .int .i64 c2, .int .i64 c3, .int .i64 c4, .int .i64 c5, .int .i64 c6, .int .i64 cap, .slice A l.length cc] 24)).alloc (.cells #[.int .i64 u0, .int .i64 u1, .bool u2] 28)) (w.heap.size) 24 #[.int .i64 c0, .int .i64 c1, .int .i64 c2, .int .i64 c3, .int .i64 c4, .int .i64 c5, .int .i64 c6, .int .i64 cap, .slice A l.length cc]) := ⟨Blk.alloc (Blk.new' w 24 #[.int .i64 c0, .int .i64 c1, .int .i64 c2, .int .i64 c3, .int .i64 c4, .int .i64 c5, .int .i64 c6, .int .i64 cap, .slice A l.length cc] (w.heap.size) (by simp)) _⟩
  have Hp : Aside0 (Blk ((w.alloc (.cells #[.int .i64 c0, .int .i64 c1, .int .i64 c2, .int .i64 c3, .int .i64 c4, .int .i64 c5, .int .i64 c6, .int .i64 cap, .slice A l.length cc] 24)).alloc (.cells #[.int .i64 u0, .int .i64 u1, .bool u2] 28)) (w.heap.size + 1) 28 #[.int .i64 u0, .int .i64 u1, .bool u2]) := ⟨Blk.new' (w.alloc (.cells #[.int .i64 c0, .int .i64 c1, .int .i64 c2, .int .i64 c3, .int .i64 c4, .int .i64 c5, .int .i64 c6, .int .i64 cap, .slice A l.length cc] 24)) 28 #[.int .i64 u0, .int .i64 u1, .bool u2] (w.heap.size + 1) (by simp)⟩
  have HT : Aside0 (Below w.heap.size w ((w.alloc (.cells #[.int .i64 c0, .int .i64 c1, .int .i64 c2, .int .i64 c3, .int .i64 c4, .int .i64 c5, .int .i64 c6, .int .i64 cap, .slice A l.length cc] 24)).alloc (.cells #[.int .i64 u0, .int .i64 u1, .bool u2] 28))) := ⟨below_alloc (below_alloc (Below.refl w.heap.size w) _) _⟩
  go_enter Try.func11, Try.ntmps11
  go_wp2_with (first
    | (go_at_call 20; ((with_reducible refine (cfgright_any c0 c1 c2 c3 c4 c5 c6 cap A l cc _ (Kd.C_below HR.out HT.out) hc HA.out hm).mono ?_); rw [HN.out]; rintro e w9 ⟨rfl, hb⟩; have Hk := Aside0.mk (Blk.later Hk.out hb); have Hp := Aside0.mk (Blk.later Hp.out hb); have HT := Aside0.mk (thenB HT.out HT.out.size hb); (try clear k0 k1 k2 k3 k4 k5 k6 k7 k8 p0 p1 p2); have k0 := Blk.cell Hk.out 0 _ rfl; have k1 := Blk.cell Hk.out 1 _ rfl; have k2 := Blk.cell Hk.out 2 _ rfl; have k3 := Blk.cell Hk.out 3 _ rfl; have k4 := Blk.cell Hk.out 4 _ rfl; have k5 := Blk.cell Hk.out 5 _ rfl; have k6 := Blk.cell Hk.out 6 _ rfl; have k7 := Blk.cell Hk.out 7 _ rfl; have k8 := Blk.cell Hk.out 8 _ rfl; have p0 := Blk.cell Hp.out 0 _ rfl; have p1 := Blk.cell Hp.out 1 _ rfl; have p2 := Blk.cell Hp.out 2 _ rfl; clear hb))
    | (go_at_call 27; ((with_reducible refine (refpright_any u0 u1 u2 _).mono ?_); rw [HP.out]; rintro e w9 ⟨rfl, hb⟩; have Hk := Aside0.mk (Blk.later Hk.out hb); have Hp := Aside0.mk (Blk.later Hp.out hb); have HT := Aside0.mk (thenB HT.out HT.out.size hb); (try clear k0 k1 k2 k3 k4 k5 k6 k7 k8 p0 p1 p2); have k0 := Blk.cell Hk.out 0 _ rfl; have k1 := Blk.cell Hk.out 1 _ rfl; have k2 := Blk.cell Hk.out 2 _ rfl; have k3 := Blk.cell Hk.out 3 _ rfl; have k4 := Blk.cell Hk.out 4 _ rfl; have k5 := Blk.cell Hk.out 5 _ rfl; have k6 := Blk.cell Hk.out 6 _ rfl; have k7 := Blk.cell Hk.out 7 _ rfl; have k8 := Blk.cell Hk.out 8 _ rfl; have p0 := Blk.cell Hp.out 0 _ rfl; have p1 := Blk.cell Hp.out 1 _ rfl; have p2 := Blk.cell Hp.out 2 _ rfl; clear hb)))
  go_ret
  exact ⟨rfl, HT.out⟩
set_option maxHeartbeats 4000000 in
theorem refbegin_any (c0 c1 c2 c3 c4 c5 c6 cap : Int) (A : Option Addr) (l : List Pfx) (cc : Nat) (now d : Int) (w : World) (hn : rightN c0 c1 c2 c3 c4 c5 c6 cap l = true) (h0 : 0 ≤ now) (h1 : now ≤ 4611686018427387904) :
    Calls Try.prog 13 #[.agg #[.int .i64 c0, .int .i64 c1, .int .i64 c2, .int .i64 c3, .int .i64 c4, .int .i64 c5, .int .i64 c6, .int .i64 cap, .slice A l.length cc], .int .i64 now, .int .i64 d] w fun e w' => e = .returned (.agg #[.int .i64 (now + (c0 + clampN d c1)), .int .i64 now, .bool false]) ∧ Below w.heap.size w w' := by
  have HN := Aside0.mk hn
  have hin := rightN_in c0 c1 c2 c3 c4 c5 c6 cap l hn
  have g0 := hin 0 (by omega)
  have g1 := hin 1 (by omega)
  have g5 := hin 5 (by omega)
  have g6 := hin 6 (by omega)
  simp only [spanL, spanV, List.getD_cons_succ, List.getD_cons_zero] at g0 g1 g5 g6
  clear hin
  have g2 := clampN_in d c1 g1.1
  obtain ⟨V, hV⟩ : ∃ V, now + (c0 + clampN d c1) = V := ⟨_, rfl⟩
  obtain ⟨v, hv⟩ : ∃ v, c0 + clampN d c1 = v := ⟨_, rfl⟩
  have g3 : 0 ≤ v ∧ v ≤ 2000000 := by omega
  obtain ⟨g3a, g3b⟩ := g3
  have Hv := Aside0.mk hv
  rw [hv] at hV ⊢
  have gw : IntKind.i64.wrap (now + v) = now + v := by rw [IntKind.wrap_i64]; omega
  have q1 := g0.1
  have q2 := g0.2
  have q3 := g1.1
  have q4 := g1.2
  have HLI := Aside0.mk (And.intro (show 0 ≤ c0 by omega) (And.intro q2 (And.intro (show 0 ≤ c1 by omega) q4)))
  clear hn hv hV g0 g1 g5 g6 g2 q1 q2 q3 q4
  have Hk : Aside0 (Blk ((w.alloc (.cells #[.int .i64 c0, .int .i64 c1, .int .i64 c2, .int .i64 c3, .int .i64 c4, .int .i64 c5, .int .i64 c6, .int .i64 cap, .slice A l.length cc] 24)).alloc (.cells #[.int .i64 0, .int .i64 0, .bool false] 28)) (w.heap.size) 24 #[.int .i64 c0, .int .i64 c1, .int .i64 c2, .int .i64 c3, .int .i64 c4, .int .i64 c5, .int .i64 c6, .int .i64 cap, .slice A l.length cc]) := ⟨Blk.alloc (Blk.new' w 24 #[.int .i64 c0, .int .i64 c1, .int .i64 c2, .int .i64 c3, .int .i64 c4, .int .i64 c5, .int .i64 c6, .int .i64 cap, .slice A l.length cc] (w.heap.size) (by simp)) _⟩
  have Ho : Aside0 (Blk ((w.alloc (.cells #[.int .i64 c0, .int .i64 c1, .int .i64 c2, .int .i64 c3, .int .i64 c4, .int .i64 c5, .int .i64 c6, .int .i64 cap, .slice A l.length cc] 24)).alloc (.cells #[.int .i64 0, .int .i64 0, .bool false] 28)) (w.heap.size + 1) 28 #[.int .i64 0, .int .i64 0, .bool false]) := ⟨Blk.new' (w.alloc (.cells #[.int .i64 c0, .int .i64 c1, .int .i64 c2, .int .i64 c3, .int .i64 c4, .int .i64 c5, .int .i64 c6, .int .i64 cap, .slice A l.length cc] 24)) 28 #[.int .i64 0, .int .i64 0, .bool false] (w.heap.size + 1) (by simp)⟩
  have HT : Aside0 (Below w.heap.size w ((w.alloc (.cells #[.int .i64 c0, .int .i64 c1, .int .i64 c2, .int .i64 c3, .int .i64 c4, .int .i64 c5, .int .i64 c6, .int .i64 cap, .slice A l.length cc] 24)).alloc (.cells #[.int .i64 0, .int .i64 0, .bool false] 28))) := ⟨below_alloc (below_alloc (Below.refl w.heap.size w) _) _⟩
  go_enter Try.func13, Try.ntmps13
  go_wp2_with (go_at_call 28; go_loud ((with_reducible refine (refwait_any c0 c1 c2 c3 c4 c5 c6 cap A l cc d _ HLI.out.1 HLI.out.2.1 HLI.out.2.2.1 HLI.out.2.2.2).mono ?_); rw [Hv.out]; rintro e w9 ⟨rfl, hb⟩; have Hk := Aside0.mk (Blk.later Hk.out hb); have Ho := Aside0.mk (Blk.later Ho.out hb); have HT := Aside0.mk (thenB HT.out HT.out.size hb); (try clear k0 k1 k2 k3 k4 k5 k6 k7 k8 o0 o1 o2 of0 of1 of2); have k0 := Blk.cell Hk.out 0 _ rfl; have k1 := Blk.cell Hk.out 1 _ rfl; have k2 := Blk.cell Hk.out 2 _ rfl; have k3 := Blk.cell Hk.out 3 _ rfl; have k4 := Blk.cell Hk.out 4 _ rfl; have k5 := Blk.cell Hk.out 5 _ rfl; have k6 := Blk.cell Hk.out 6 _ rfl; have k7 := Blk.cell Hk.out 7 _ rfl; have k8 := Blk.cell Hk.out 8 _ rfl; have o0 := Blk.cell Ho.out 0 _ rfl; have of0 := Blk.frozen Ho.out 0; have o1 := Blk.cell Ho.out 1 _ rfl; have of1 := Blk.frozen Ho.out 1; have o2 := Blk.cell Ho.out 2 _ rfl; have of2 := Blk.frozen Ho.out 2; clear hb))
  have O2 := OneSet.whole Ho.out [.int .i64 (now + v), .int .i64 now, .bool false] rfl
  exact bodyPost_ret (results_c (p := 6) rfl _ _ ⟨w.heap.size + 1, 0, none⟩ _ rfl (load_blk O2.blk Try.underlying28 rfl (by kernel_rfl))) rfl ⟨rfl, HT.out.trans (O2.bel.mono (by omega))⟩
set_option maxHeartbeats 4000000 in
theorem refchg_lt (c0 c1 c2 c3 c4 c5 c6 cap : Int) (A : Option Addr) (l : List Pfx) (cc : Nat) (u0 u1 : Int) (u2 : Bool) (now d : Int) (w : World) (hlt : now < u1) :
    Calls Try.prog 18 #[.agg #[.int .i64 c0, .int .i64 c1, .int .i64 c2, .int .i64 c3, .int .i64 c4, .int .i64 c5, .int .i64 c6, .int .i64 cap, .slice A l.length cc], .agg #[.int .i64 u0, .int .i64 u1, .bool u2], .int .i64 now, .int .i64 d] w fun e w' => e = .returned (.tuple #[.agg #[.int .i64 u0, .int .i64 u1, .bool true], .int .i64 0]) ∧ Below w.heap.size w w' := by
  go_enter Try.func18, Try.ntmps18
  go_wp2
  exact bodyPost_ret (v := .tuple #[.agg #[.int .i64 u0, .int .i64 u1, .bool true], .int .i64 0]) (by simp [results, Try.results18, go_sem]) rfl ⟨rfl, (below_alloc (below_alloc (below_alloc (Below.refl _ _) _) _) _)⟩
set_option maxHeartbeats 4000000 in
theorem refchg_ge (c0 c1 c2 c3 c4 c5 c6 cap : Int) (A : Option Addr) (l : List Pfx) (cc : Nat) (u0 u1 : Int) (u2 : Bool) (now d : Int) (w : World) (hn : rightN c0 c1 c2 c3 c4 c5 c6 cap l = true) (h0 : 0 ≤ now) (h1 : now ≤ 4611686018427387904) (hlt : u1 ≤ now) :
    Calls Try.prog 18 #[.agg #[.int .i64 c0, .int .i64 c1, .int .i64 c2, .int .i64 c3, .int .i64 c4, .int .i64 c5, .int .i64 c6, .int .i64 cap, .slice A l.length cc], .agg #[.int .i64 u0, .int .i64 u1, .bool u2], .int .i64 now, .int .i64 d] w fun e w' => e = .returned (.tuple #[.agg #[.int .i64 u0, .int .i64 (now + (c5 + clampN d c6)), .bool false], .int .i64 1]) ∧ Below w.heap.size w w' := by
  have HN := Aside0.mk hn
  have hin := rightN_in c0 c1 c2 c3 c4 c5 c6 cap l hn
  have g0 := hin 0 (by omega)
  have g1 := hin 1 (by omega)
  have g5 := hin 5 (by omega)
  have g6 := hin 6 (by omega)
  simp only [spanL, spanV, List.getD_cons_succ, List.getD_cons_zero] at g0 g1 g5 g6
  clear hin
  have g2 := clampN_in d c6 g6.1
  obtain ⟨V, hV⟩ : ∃ V, now + (c5 + clampN d c6) = V := ⟨_, rfl⟩
  obtain ⟨v, hv⟩ : ∃ v, c5 + clampN d c6 = v := ⟨_, rfl⟩
  have g3 : 0 ≤ v ∧ v ≤ 2000000 := by omega
  obtain ⟨g3a, g3b⟩ := g3
  have Hv := Aside0.mk hv
  rw [hv] at hV ⊢
  have gw : IntKind.i64.wrap (now + v) = now + v := by rw [IntKind.wrap_i64]; omega
  have q1 := g5.1
  have q2 := g5.2
  have q3 := g6.1
  have q4 := g6.2
  have HLI := Aside0.mk (And.intro (show 0 ≤ c5 by omega) (And.intro q2 (And.intro (show 0 ≤ c6 by omega) q4)))
  clear hn hv hV g0 g1 g5 g6 g2 q1 q2 q3 q4
  have Hk : Aside0 (Blk (((w.alloc (.cells #[.int .i64 c0, .int .i64 c1, .int .i64 c2, .int .i64 c3, .int .i64 c4, .int .i64 c5, .int .i64 c6, .int .i64 cap, .slice A l.length cc] 24)).alloc (.cells #[.int .i64 u0, .int .i64 u1, .bool u2] 28)).alloc (.cells #[.int .i64 0, .int .i64 0, .bool false] 28)) (w.heap.size) 24 #[.int .i64 c0, .int .i64 c1, .int .i64 c2, .int .i64 c3, .int .i64 c4, .int .i64 c5, .int .i64 c6, .int .i64 cap, .slice A l.length cc]) := ⟨Blk.alloc (Blk.alloc (Blk.new' w 24 #[.int .i64 c0, .int .i64 c1, .int .i64 c2, .int .i64 c3, .int .i64 c4, .int .i64 c5, .int .i64 c6, .int .i64 cap, .slice A l.length cc] (w.heap.size) (by simp)) _) _⟩
  have Hp : Aside0 (Blk (((w.alloc (.cells #[.int .i64 c0, .int .i64 c1, .int .i64 c2, .int .i64 c3, .int .i64 c4, .int .i64 c5, .int .i64 c6, .int .i64 cap, .slice A l.length cc] 24)).alloc (.cells #[.int .i64 u0, .int .i64 u1, .bool u2] 28)).alloc (.cells #[.int .i64 0, .int .i64 0, .bool false] 28)) (w.heap.size + 1) 28 #[.int .i64 u0, .int .i64 u1, .bool u2]) := ⟨Blk.alloc (Blk.new' (w.alloc (.cells #[.int .i64 c0, .int .i64 c1, .int .i64 c2, .int .i64 c3, .int .i64 c4, .int .i64 c5, .int .i64 c6, .int .i64 cap, .slice A l.length cc] 24)) 28 #[.int .i64 u0, .int .i64 u1, .bool u2] (w.heap.size + 1) (by simp)) _⟩
  have Ho : Aside0 (Blk (((w.alloc (.cells #[.int .i64 c0, .int .i64 c1, .int .i64 c2, .int .i64 c3, .int .i64 c4, .int .i64 c5, .int .i64 c6, .int .i64 cap, .slice A l.length cc] 24)).alloc (.cells #[.int .i64 u0, .int .i64 u1, .bool u2] 28)).alloc (.cells #[.int .i64 0, .int .i64 0, .bool false] 28)) (w.heap.size + 1 + 1) 28 #[.int .i64 0, .int .i64 0, .bool false]) := ⟨Blk.new' ((w.alloc (.cells #[.int .i64 c0, .int .i64 c1, .int .i64 c2, .int .i64 c3, .int .i64 c4, .int .i64 c5, .int .i64 c6, .int .i64 cap, .slice A l.length cc] 24)).alloc (.cells #[.int .i64 u0, .int .i64 u1, .bool u2] 28)) 28 #[.int .i64 0, .int .i64 0, .bool false] (w.heap.size + 1 + 1) (by simp)⟩
  have HT : Aside0 (Below w.heap.size w (((w.alloc (.cells #[.int .i64 c0, .int .i64 c1, .int .i64 c2, .int .i64 c3, .int .i64 c4, .int .i64 c5, .int .i64 c6, .int .i64 cap, .slice A l.length cc] 24)).alloc (.cells #[.int .i64 u0, .int .i64 u1, .bool u2] 28)).alloc (.cells #[.int .i64 0, .int .i64 0, .bool false] 28))) := ⟨below_alloc (below_alloc (below_alloc (Below.refl w.heap.size w) _) _) _⟩
  go_enter Try.func18, Try.ntmps18
  go_wp2_with (go_at_call 34; go_loud ((with_reducible refine (refquiet_any c0 c1 c2 c3 c4 c5 c6 cap A l cc d _ HLI.out.1 HLI.out.2.1 HLI.out.2.2.1 HLI.out.2.2.2).mono ?_); rw [Hv.out]; rintro e w9 ⟨rfl, hb⟩; have Hk := Aside0.mk (Blk.later Hk.out hb); have Hp := Aside0.mk (Blk.later Hp.out hb); have Ho := Aside0.mk (Blk.later Ho.out hb); have HT := Aside0.mk (thenB HT.out HT.out.size hb); (try clear k0 k1 k2 k3 k4 k5 k6 k7 k8 p0 p1 p2 o0 o1 o2 pf0 pf1 pf2 of0 of1 of2); have k0 := Blk.cell Hk.out 0 _ rfl; have k1 := Blk.cell Hk.out 1 _ rfl; have k2 := Blk.cell Hk.out 2 _ rfl; have k3 := Blk.cell Hk.out 3 _ rfl; have k4 := Blk.cell Hk.out 4 _ rfl; have k5 := Blk.cell Hk.out 5 _ rfl; have k6 := Blk.cell Hk.out 6 _ rfl; have k7 := Blk.cell Hk.out 7 _ rfl; have k8 := Blk.cell Hk.out 8 _ rfl; have p0 := Blk.cell Hp.out 0 _ rfl; have pf0 := Blk.frozen Hp.out 0; have p1 := Blk.cell Hp.out 1 _ rfl; have pf1 := Blk.frozen Hp.out 1; have p2 := Blk.cell Hp.out 2 _ rfl; have pf2 := Blk.frozen Hp.out 2; have o0 := Blk.cell Ho.out 0 _ rfl; have of0 := Blk.frozen Ho.out 0; have o1 := Blk.cell Ho.out 1 _ rfl; have of1 := Blk.frozen Ho.out 1; have o2 := Blk.cell Ho.out 2 _ rfl; have of2 := Blk.frozen Ho.out 2; clear hb))
  have O1 := (((OneSet.start Hp.out).set_ 1 (.int .i64 (now + v))).set_ 2 (.bool false))
  simp only [List.setIfInBounds_toArray, List.set_cons_zero, List.set_cons_succ] at O1
  have O2 := OneSet.whole (O1.other Ho.out (by omega)) [.int .i64 u0, .int .i64 (now + v), .bool false] rfl
  exact bodyPost_ret (results_ct (p := 8) (u := 9) rfl _ _ ⟨w.heap.size + 1 + 1, 0, none⟩ _ rfl (load_blk O2.blk Try.underlying28 rfl (by kernel_rfl))) rfl ⟨rfl, (HT.out.trans (O1.bel.mono (by omega))).trans (O2.bel.mono (by omega))⟩
set_option maxHeartbeats 4000000 in
theorem reftick_due (c0 c1 c2 c3 c4 c5 c6 cap : Int) (A : Option Addr) (l : List Pfx) (cc : Nat) (u0 u1 : Int) (u2 : Bool) (now d : Int) (w : World) (hn : rightN c0 c1 c2 c3 c4 c5 c6 cap l = true) (h0 : 0 ≤ now) (h1 : now ≤ 4611686018427387904) (hlt : u0 ≤ now) :
    Calls Try.prog 19 #[.agg #[.int .i64 c0, .int .i64 c1, .int .i64 c2, .int .i64 c3, .int .i64 c4, .int .i64 c5, .int .i64 c6, .int .i64 cap, .slice A l.length cc], .agg #[.int .i64 u0, .int .i64 u1, .bool u2], .int .i64 now, .int .i64 d] w fun e w' => e = .returned (.tuple #[.agg #[.int .i64 (now + (c0 + clampN d c1)), .int .i64 u1, .bool false], .int .i64 2]) ∧ Below w.heap.size w w' := by
  have HN := Aside0.mk hn
  have hin := rightN_in c0 c1 c2 c3 c4 c5 c6 cap l hn
  have g0 := hin 0 (by omega)
  have g1 := hin 1 (by omega)
  have g5 := hin 5 (by omega)
  have g6 := hin 6 (by omega)
  simp only [spanL, spanV, List.getD_cons_succ, List.getD_cons_zero] at g0 g1 g5 g6
  clear hin
  have g2 := clampN_in d c1 g1.1
  obtain ⟨V, hV⟩ : ∃ V, now + (c0 + clampN d c1) = V := ⟨_, rfl⟩
  obtain ⟨v, hv⟩ : ∃ v, c0 + clampN d c1 = v := ⟨_, rfl⟩
  have g3 : 0 ≤ v ∧ v ≤ 2000000 := by omega
  obtain ⟨g3a, g3b⟩ := g3
  have Hv := Aside0.mk hv
  rw [hv] at hV ⊢
  have gw : IntKind.i64.wrap (now + v) = now + v := by rw [IntKind.wrap_i64]; omega
  have q1 := g0.1
  have q2 := g0.2
  have q3 := g1.1
  have q4 := g1.2
  have HLI := Aside0.mk (And.intro (show 0 ≤ c0 by omega) (And.intro q2 (And.intro (show 0 ≤ c1 by omega) q4)))
  clear hn hv hV g0 g1 g5 g6 g2 q1 q2 q3 q4
  have Hk : Aside0 (Blk (((w.alloc (.cells #[.int .i64 c0, .int .i64 c1, .int .i64 c2, .int .i64 c3, .int .i64 c4, .int .i64 c5, .int .i64 c6, .int .i64 cap, .slice A l.length cc] 24)).alloc (.cells #[.int .i64 u0, .int .i64 u1, .bool u2] 28)).alloc (.cells #[.int .i64 0, .int .i64 0, .bool false] 28)) (w.heap.size) 24 #[.int .i64 c0, .int .i64 c1, .int .i64 c2, .int .i64 c3, .int .i64 c4, .int .i64 c5, .int .i64 c6, .int .i64 cap, .slice A l.length cc]) := ⟨Blk.alloc (Blk.alloc (Blk.new' w 24 #[.int .i64 c0, .int .i64 c1, .int .i64 c2, .int .i64 c3, .int .i64 c4, .int .i64 c5, .int .i64 c6, .int .i64 cap, .slice A l.length cc] (w.heap.size) (by simp)) _) _⟩
  have Hp : Aside0 (Blk (((w.alloc (.cells #[.int .i64 c0, .int .i64 c1, .int .i64 c2, .int .i64 c3, .int .i64 c4, .int .i64 c5, .int .i64 c6, .int .i64 cap, .slice A l.length cc] 24)).alloc (.cells #[.int .i64 u0, .int .i64 u1, .bool u2] 28)).alloc (.cells #[.int .i64 0, .int .i64 0, .bool false] 28)) (w.heap.size + 1) 28 #[.int .i64 u0, .int .i64 u1, .bool u2]) := ⟨Blk.alloc (Blk.new' (w.alloc (.cells #[.int .i64 c0, .int .i64 c1, .int .i64 c2, .int .i64 c3, .int .i64 c4, .int .i64 c5, .int .i64 c6, .int .i64 cap, .slice A l.length cc] 24)) 28 #[.int .i64 u0, .int .i64 u1, .bool u2] (w.heap.size + 1) (by simp)) _⟩
  have Ho : Aside0 (Blk (((w.alloc (.cells #[.int .i64 c0, .int .i64 c1, .int .i64 c2, .int .i64 c3, .int .i64 c4, .int .i64 c5, .int .i64 c6, .int .i64 cap, .slice A l.length cc] 24)).alloc (.cells #[.int .i64 u0, .int .i64 u1, .bool u2] 28)).alloc (.cells #[.int .i64 0, .int .i64 0, .bool false] 28)) (w.heap.size + 1 + 1) 28 #[.int .i64 0, .int .i64 0, .bool false]) := ⟨Blk.new' ((w.alloc (.cells #[.int .i64 c0, .int .i64 c1, .int .i64 c2, .int .i64 c3, .int .i64 c4, .int .i64 c5, .int .i64 c6, .int .i64 cap, .slice A l.length cc] 24)).alloc (.cells #[.int .i64 u0, .int .i64 u1, .bool u2] 28)) 28 #[.int .i64 0, .int .i64 0, .bool false] (w.heap.size + 1 + 1) (by simp)⟩
  have HT : Aside0 (Below w.heap.size w (((w.alloc (.cells #[.int .i64 c0, .int .i64 c1, .int .i64 c2, .int .i64 c3, .int .i64 c4, .int .i64 c5, .int .i64 c6, .int .i64 cap, .slice A l.length cc] 24)).alloc (.cells #[.int .i64 u0, .int .i64 u1, .bool u2] 28)).alloc (.cells #[.int .i64 0, .int .i64 0, .bool false] 28))) := ⟨below_alloc (below_alloc (below_alloc (Below.refl w.heap.size w) _) _) _⟩
  go_enter Try.func19, Try.ntmps19
  go_wp2_with (go_at_call 28; go_loud ((with_reducible refine (refwait_any c0 c1 c2 c3 c4 c5 c6 cap A l cc d _ HLI.out.1 HLI.out.2.1 HLI.out.2.2.1 HLI.out.2.2.2).mono ?_); rw [Hv.out]; rintro e w9 ⟨rfl, hb⟩; have Hk := Aside0.mk (Blk.later Hk.out hb); have Hp := Aside0.mk (Blk.later Hp.out hb); have Ho := Aside0.mk (Blk.later Ho.out hb); have HT := Aside0.mk (thenB HT.out HT.out.size hb); (try clear k0 k1 k2 k3 k4 k5 k6 k7 k8 p0 p1 p2 o0 o1 o2 pf0 pf1 pf2 of0 of1 of2); have k0 := Blk.cell Hk.out 0 _ rfl; have k1 := Blk.cell Hk.out 1 _ rfl; have k2 := Blk.cell Hk.out 2 _ rfl; have k3 := Blk.cell Hk.out 3 _ rfl; have k4 := Blk.cell Hk.out 4 _ rfl; have k5 := Blk.cell Hk.out 5 _ rfl; have k6 := Blk.cell Hk.out 6 _ rfl; have k7 := Blk.cell Hk.out 7 _ rfl; have k8 := Blk.cell Hk.out 8 _ rfl; have p0 := Blk.cell Hp.out 0 _ rfl; have pf0 := Blk.frozen Hp.out 0; have p1 := Blk.cell Hp.out 1 _ rfl; have pf1 := Blk.frozen Hp.out 1; have p2 := Blk.cell Hp.out 2 _ rfl; have pf2 := Blk.frozen Hp.out 2; have o0 := Blk.cell Ho.out 0 _ rfl; have of0 := Blk.frozen Ho.out 0; have o1 := Blk.cell Ho.out 1 _ rfl; have of1 := Blk.frozen Ho.out 1; have o2 := Blk.cell Ho.out 2 _ rfl; have of2 := Blk.frozen Ho.out 2; clear hb))
  have O1 := (((OneSet.start Hp.out).set_ 0 (.int .i64 (now + v))).set_ 2 (.bool false))
  simp only [List.setIfInBounds_toArray, List.set_cons_zero, List.set_cons_succ] at O1
  have O2 := OneSet.whole (O1.other Ho.out (by omega)) [.int .i64 (now + v), .int .i64 u1, .bool false] rfl
  exact bodyPost_ret (results_ct (p := 8) (u := 9) rfl _ _ ⟨w.heap.size + 1 + 1, 0, none⟩ _ rfl (load_blk O2.blk Try.underlying28 rfl (by kernel_rfl))) rfl ⟨rfl, (HT.out.trans (O1.bel.mono (by omega))).trans (O2.bel.mono (by omega))⟩
set_option maxHeartbeats 4000000 in
theorem reftick_idle1 (c0 c1 c2 c3 c4 c5 c6 cap : Int) (A : Option Addr) (l : List Pfx) (cc : Nat) (u0 u1 : Int) (u2 : Bool) (now d : Int) (w : World) (hw : u2 = false) (hnd : now < u0) :
    Calls Try.prog 19 #[.agg #[.int .i64 c0, .int .i64 c1, .int .i64 c2, .int .i64 c3, .int .i64 c4, .int .i64 c5, .int .i64 c6, .int .i64 cap, .slice A l.length cc], .agg #[.int .i64 u0, .int .i64 u1, .bool u2], .int .i64 now, .int .i64 d] w fun e w' => e = .returned (.tuple #[.agg #[.int .i64 u0, .int .i64 u1, .bool false], .int .i64 0]) ∧ Below w.heap.size w w' := by
  subst hw
  go_enter Try.func19, Try.ntmps19
  go_wp2
  exact bodyPost_ret (v := .tuple #[.agg #[.int .i64 u0, .int .i64 u1, .bool false], .int .i64 0]) (by simp [results, Try.results19, go_sem]) rfl ⟨rfl, (below_alloc (below_alloc (below_alloc (Below.refl _ _) _) _) _)⟩
set_option maxHeartbeats 4000000 in
theorem reftick_idle2 (c0 c1 c2 c3 c4 c5 c6 cap : Int) (A : Option Addr) (l : List Pfx) (cc : Nat) (u0 u1 : Int) (u2 : Bool) (now d : Int) (w : World) (hw : u2 = true) (hnd : now < u0) (hlt : now < u1) :
    Calls Try.prog 19 #[.agg #[.int .i64 c0, .int .i64 c1, .int .i64 c2, .int .i64 c3, .int .i64 c4, .int .i64 c5, .int .i64 c6, .int .i64 cap, .slice A l.length cc], .agg #[.int .i64 u0, .int .i64 u1, .bool u2], .int .i64 now, .int .i64 d] w fun e w' => e = .returned (.tuple #[.agg #[.int .i64 u0, .int .i64 u1, .bool true], .int .i64 0]) ∧ Below w.heap.size w w' := by
  subst hw
  go_enter Try.func19, Try.ntmps19
  go_wp2
  exact bodyPost_ret (v := .tuple #[.agg #[.int .i64 u0, .int .i64 u1, .bool true], .int .i64 0]) (by simp [results, Try.results19, go_sem]) rfl ⟨rfl, (below_alloc (below_alloc (below_alloc (Below.refl _ _) _) _) _)⟩
set_option maxHeartbeats 4000000 in
theorem reftick_chg (c0 c1 c2 c3 c4 c5 c6 cap : Int) (A : Option Addr) (l : List Pfx) (cc : Nat) (u0 u1 : Int) (now d : Int) (w : World) (hn : rightN c0 c1 c2 c3 c4 c5 c6 cap l = true) (h0 : 0 ≤ now) (h1 : now ≤ 4611686018427387904) (hnd : now < u0) (hlt : u1 ≤ now) :
    Calls Try.prog 19 #[.agg #[.int .i64 c0, .int .i64 c1, .int .i64 c2, .int .i64 c3, .int .i64 c4, .int .i64 c5, .int .i64 c6, .int .i64 cap, .slice A l.length cc], .agg #[.int .i64 u0, .int .i64 u1, .bool true], .int .i64 now, .int .i64 d] w fun e w' => e = .returned (.tuple #[.agg #[.int .i64 u0, .int .i64 (now + (c5 + clampN d c6)), .bool false], .int .i64 1]) ∧ Below w.heap.size w w' := by
  have HN := Aside0.mk hn
  obtain ⟨V, hV⟩ : ∃ V, now + (c5 + clampN d c6) = V := ⟨_, rfl⟩
  have HV := Aside0.mk hV
  have HH := Aside0.mk h1
  have HLT := Aside0.mk hlt
  rw [hV]
  clear hn hV
  have Hk : Aside0 (Blk (((w.alloc (.cells #[.int .i64 c0, .int .i64 c1, .int .i64 c2, .int .i64 c3, .int .i64 c4, .int .i64 c5, .int .i64 c6, .int .i64 cap, .slice A l.length cc] 24)).alloc (.cells #[.int .i64 u0, .int .i64 u1, .bool true] 28)).alloc (.cells #[.int .i64 0, .int .i64 0, .bool false] 28)) (w.heap.size) 24 #[.int .i64 c0, .int .i64 c1, .int .i64 c2, .int .i64 c3, .int .i64 c4, .int .i64 c5, .int .i64 c6, .int .i64 cap, .slice A l.length cc]) := ⟨Blk.alloc (Blk.alloc (Blk.new' w 24 #[.int .i64 c0, .int .i64 c1, .int .i64 c2, .int .i64 c3, .int .i64 c4, .int .i64 c5, .int .i64 c6, .int .i64 cap, .slice A l.length cc] (w.heap.size) (by simp)) _) _⟩
  have Hp : Aside0 (Blk (((w.alloc (.cells #[.int .i64 c0, .int .i64 c1, .int .i64 c2, .int .i64 c3, .int .i64 c4, .int .i64 c5, .int .i64 c6, .int .i64 cap, .slice A l.length cc] 24)).alloc (.cells #[.int .i64 u0, .int .i64 u1, .bool true] 28)).alloc (.cells #[.int .i64 0, .int .i64 0, .bool false] 28)) (w.heap.size + 1) 28 #[.int .i64 u0, .int .i64 u1, .bool true]) := ⟨Blk.alloc (Blk.new' (w.alloc (.cells #[.int .i64 c0, .int .i64 c1, .int .i64 c2, .int .i64 c3, .int .i64 c4, .int .i64 c5, .int .i64 c6, .int .i64 cap, .slice A l.length cc] 24)) 28 #[.int .i64 u0, .int .i64 u1, .bool true] (w.heap.size + 1) (by simp)) _⟩
  have Ho : Aside0 (Blk (((w.alloc (.cells #[.int .i64 c0, .int .i64 c1, .int .i64 c2, .int .i64 c3, .int .i64 c4, .int .i64 c5, .int .i64 c6, .int .i64 cap, .slice A l.length cc] 24)).alloc (.cells #[.int .i64 u0, .int .i64 u1, .bool true] 28)).alloc (.cells #[.int .i64 0, .int .i64 0, .bool false] 28)) (w.heap.size + 1 + 1) 28 #[.int .i64 0, .int .i64 0, .bool false]) := ⟨Blk.new' ((w.alloc (.cells #[.int .i64 c0, .int .i64 c1, .int .i64 c2, .int .i64 c3, .int .i64 c4, .int .i64 c5, .int .i64 c6, .int .i64 cap, .slice A l.length cc] 24)).alloc (.cells #[.int .i64 u0, .int .i64 u1, .bool true] 28)) 28 #[.int .i64 0, .int .i64 0, .bool false] (w.heap.size + 1 + 1) (by simp)⟩
  have HT : Aside0 (Below w.heap.size w (((w.alloc (.cells #[.int .i64 c0, .int .i64 c1, .int .i64 c2, .int .i64 c3, .int .i64 c4, .int .i64 c5, .int .i64 c6, .int .i64 cap, .slice A l.length cc] 24)).alloc (.cells #[.int .i64 u0, .int .i64 u1, .bool true] 28)).alloc (.cells #[.int .i64 0, .int .i64 0, .bool false] 28))) := ⟨below_alloc (below_alloc (below_alloc (Below.refl w.heap.size w) _) _) _⟩
  go_enter Try.func19, Try.ntmps19
  go_wp2_with (go_at_call 18; go_loud ((with_reducible refine (refchg_ge c0 c1 c2 c3 c4 c5 c6 cap A l cc u0 u1 true now d _ HN.out h0 HH.out HLT.out).mono ?_); rw [HV.out]; rintro e w9 ⟨rfl, hb⟩; have Hk := Aside0.mk (Blk.later Hk.out hb); have Hp := Aside0.mk (Blk.later Hp.out hb); have Ho := Aside0.mk (Blk.later Ho.out hb); have HT := Aside0.mk (thenB HT.out HT.out.size hb); (try clear k0 k1 k2 k3 k4 k5 k6 k7 k8 p0 p1 p2 o0 o1 o2 of0 of1 of2); have k0 := Blk.cell Hk.out 0 _ rfl; have k1 := Blk.cell Hk.out 1 _ rfl; have k2 := Blk.cell Hk.out 2 _ rfl; have k3 := Blk.cell Hk.out 3 _ rfl; have k4 := Blk.cell Hk.out 4 _ rfl; have k5 := Blk.cell Hk.out 5 _ rfl; have k6 := Blk.cell Hk.out 6 _ rfl; have k7 := Blk.cell Hk.out 7 _ rfl; have k8 := Blk.cell Hk.out 8 _ rfl; have p0 := Blk.cell Hp.out 0 _ rfl; have p1 := Blk.cell Hp.out 1 _ rfl; have p2 := Blk.cell Hp.out 2 _ rfl; have o0 := Blk.cell Ho.out 0 _ rfl; have of0 := Blk.frozen Ho.out 0; have o1 := Blk.cell Ho.out 1 _ rfl; have of1 := Blk.frozen Ho.out 1; have o2 := Blk.cell Ho.out 2 _ rfl; have of2 := Blk.frozen Ho.out 2; clear hb))
  have O2 := OneSet.whole Ho.out [.int .i64 u0, .int .i64 V, .bool false] rfl
  exact bodyPost_ret (results_ct (p := 8) (u := 9) rfl _ _ ⟨w.heap.size + 1 + 1, 0, none⟩ _ rfl (load_blk O2.blk Try.underlying28 rfl (by kernel_rfl))) rfl ⟨rfl, HT.out.trans (O2.bel.mono (by omega))⟩
set_option maxHeartbeats 4000000 in
theorem refnext_no (u0 u1 : Int) (u2 : Bool) (w : World) (hp : pulseOk u0 u1 = false) : Calls Try.prog 17 #[.agg #[.int .i64 u0, .int .i64 u1, .bool u2]] w fun e w' => e = .returned (.int .i64 0) ∧ Below w.heap.size w w' := by
  have HP := Aside0.mk hp
  clear hp
  have Hp : Aside0 (Blk (w.alloc (.cells #[.int .i64 u0, .int .i64 u1, .bool u2] 28)) (w.heap.size) 28 #[.int .i64 u0, .int .i64 u1, .bool u2]) := ⟨Blk.new' w 28 #[.int .i64 u0, .int .i64 u1, .bool u2] (w.heap.size) (by simp)⟩
  have HT : Aside0 (Below w.heap.size w (w.alloc (.cells #[.int .i64 u0, .int .i64 u1, .bool u2] 28))) := ⟨below_alloc (Below.refl w.heap.size w) _⟩
  go_enter Try.func17, Try.ntmps17
  go_wp2_with (go_at_call 27; ((with_reducible refine (refpright_any u0 u1 _ _).mono ?_); rw [HP.out]; rintro e w9 ⟨rfl, hb⟩; have Hp := Aside0.mk (Blk.later Hp.out hb); have HT := Aside0.mk (thenB HT.out HT.out.size hb); (try clear p0 p1 p2); have p0 := Blk.cell Hp.out 0 _ rfl; have p1 := Blk.cell Hp.out 1 _ rfl; have p2 := Blk.cell Hp.out 2 _ rfl; clear hb))
  go_ret
  exact ⟨rfl, HT.out⟩
set_option maxHeartbeats 4000000 in
theorem refnext_1 (u0 u1 : Int) (u2 : Bool) (w : World) (hp : pulseOk u0 u1 = true) (hw : u2 = true) (hlt : u1 < u0) : Calls Try.prog 17 #[.agg #[.int .i64 u0, .int .i64 u1, .bool u2]] w fun e w' => e = .returned (.int .i64 u1) ∧ Below w.heap.size w w' := by
  have HP := Aside0.mk hp
  clear hp
  subst hw
  have Hp : Aside0 (Blk (w.alloc (.cells #[.int .i64 u0, .int .i64 u1, .bool true] 28)) (w.heap.size) 28 #[.int .i64 u0, .int .i64 u1, .bool true]) := ⟨Blk.new' w 28 #[.int .i64 u0, .int .i64 u1, .bool true] (w.heap.size) (by simp)⟩
  have HT : Aside0 (Below w.heap.size w (w.alloc (.cells #[.int .i64 u0, .int .i64 u1, .bool true] 28))) := ⟨below_alloc (Below.refl w.heap.size w) _⟩
  go_enter Try.func17, Try.ntmps17
  go_wp2_with (go_at_call 27; ((with_reducible refine (refpright_any u0 u1 _ _).mono ?_); rw [HP.out]; rintro e w9 ⟨rfl, hb⟩; have Hp := Aside0.mk (Blk.later Hp.out hb); have HT := Aside0.mk (thenB HT.out HT.out.size hb); (try clear p0 p1 p2); have p0 := Blk.cell Hp.out 0 _ rfl; have p1 := Blk.cell Hp.out 1 _ rfl; have p2 := Blk.cell Hp.out 2 _ rfl; clear hb))
  go_ret
  exact ⟨rfl, HT.out⟩
set_option maxHeartbeats 4000000 in
theorem refnext_2 (u0 u1 : Int) (u2 : Bool) (w : World) (hp : pulseOk u0 u1 = true) (hw : u2 = true) (hlt : u0 ≤ u1) : Calls Try.prog 17 #[.agg #[.int .i64 u0, .int .i64 u1, .bool u2]] w fun e w' => e = .returned (.int .i64 u0) ∧ Below w.heap.size w w' := by
  have HP := Aside0.mk hp
  clear hp
  subst hw
  have Hp : Aside0 (Blk (w.alloc (.cells #[.int .i64 u0, .int .i64 u1, .bool true] 28)) (w.heap.size) 28 #[.int .i64 u0, .int .i64 u1, .bool true]) := ⟨Blk.new' w 28 #[.int .i64 u0, .int .i64 u1, .bool true] (w.heap.size) (by simp)⟩
  have HT : Aside0 (Below w.heap.size w (w.alloc (.cells #[.int .i64 u0, .int .i64 u1, .bool true] 28))) := ⟨below_alloc (Below.refl w.heap.size w) _⟩
  go_enter Try.func17, Try.ntmps17
  go_wp2_with (go_at_call 27; ((with_reducible refine (refpright_any u0 u1 _ _).mono ?_); rw [HP.out]; rintro e w9 ⟨rfl, hb⟩; have Hp := Aside0.mk (Blk.later Hp.out hb); have HT := Aside0.mk (thenB HT.out HT.out.size hb); (try clear p0 p1 p2); have p0 := Blk.cell Hp.out 0 _ rfl; have p1 := Blk.cell Hp.out 1 _ rfl; have p2 := Blk.cell Hp.out 2 _ rfl; clear hb))
  go_ret
  exact ⟨rfl, HT.out⟩
set_option maxHeartbeats 4000000 in
theorem refnext_3 (u0 u1 : Int) (u2 : Bool) (w : World) (hp : pulseOk u0 u1 = true) (hw : u2 = false) : Calls Try.prog 17 #[.agg #[.int .i64 u0, .int .i64 u1, .bool u2]] w fun e w' => e = .returned (.int .i64 u0) ∧ Below w.heap.size w w' := by
  have HP := Aside0.mk hp
  clear hp
  subst hw
  have Hp : Aside0 (Blk (w.alloc (.cells #[.int .i64 u0, .int .i64 u1, .bool false] 28)) (w.heap.size) 28 #[.int .i64 u0, .int .i64 u1, .bool false]) := ⟨Blk.new' w 28 #[.int .i64 u0, .int .i64 u1, .bool false] (w.heap.size) (by simp)⟩
  have HT : Aside0 (Below w.heap.size w (w.alloc (.cells #[.int .i64 u0, .int .i64 u1, .bool false] 28))) := ⟨below_alloc (Below.refl w.heap.size w) _⟩
  go_enter Try.func17, Try.ntmps17
  go_wp2_with (go_at_call 27; ((with_reducible refine (refpright_any u0 u1 _ _).mono ?_); rw [HP.out]; rintro e w9 ⟨rfl, hb⟩; have Hp := Aside0.mk (Blk.later Hp.out hb); have HT := Aside0.mk (thenB HT.out HT.out.size hb); (try clear p0 p1 p2); have p0 := Blk.cell Hp.out 0 _ rfl; have p1 := Blk.cell Hp.out 1 _ rfl; have p2 := Blk.cell Hp.out 2 _ rfl; clear hb))
  go_ret
  exact ⟨rfl, HT.out⟩
end Go.Proofs.Ytokjjppfdmkjeaa.A
