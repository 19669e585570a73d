import Derived.Test.YtegdcalefpobeaaWait
import Derived.Test.YtegdcalefpobeaaStdZ
import Derived.Test.YtegdcalefpobeaaRngZ
import Derived.Test.YtegdcalefpobeaaRngZ
import Derived.Test.YtegdcalefpobeaaRngZ
/- config: Bound. -/
set_option linter.unusedVariables false
set_option linter.unusedSimpArgs false
namespace Go.Proofs.Ytegdcalefpobeaa.A
open Go.RowKit Go.Shelf Go.Proofs.YtegdcalefpobeaaW.PrintWords Go.Proofs.YtegdcalefpobeaaW.PrintLast Go.Proofs.YtegdcalefpobeaaW.PrintMore Go.Proofs.Ytegdcalefpobeaa.PConfigChecks

theorem call_bnd1 : ∀ (args : Array Value) (w : World), (callFunc 43 args).run Try.prog w = .ok (.enter 43 args) w := fun _ _ => by kernel_rfl
theorem bnd_clear (g : Nat) (v : Value) (w : World) (hg : Blk w g 2 #[v]) :
    Calls Try.prog 43 #[.pointer (some ⟨g, 0, none⟩)] w fun e w' => e = .returned (.tuple #[]) ∧ w' = w.setCell ⟨g, 0, none⟩ (.int .i64 0) := by
  have c0 := hg.cell 0 _ rfl
  have f0 := hg.frozen 0
  go_enter Try.func43, Try.ntmps43
  go_wp2
  go_end0
  exact ⟨rfl, rfl⟩
set_option maxHeartbeats 4000000 in
theorem bound_no1 (c0 c1 c2 c3 c4 c5 c6 cap : Int) (A : Option Addr) (l : List Pfx) (cc : Nat) (d : Int) (w : World) (hr : Kd.C k28 w A l.length l) (hc : l.length ≤ cc) (ha : AdrP l) (hm : l.length ≤ 140737488355328) (hn : rightN c0 c1 c2 c3 c4 c5 c6 cap l = false) :
    Calls Try.prog 22 #[.agg #[.int .i64 c0, .int .i64 c1, .int .i64 c2, .int .i64 c3, .int .i64 c4, .int .i64 c5, .int .i64 c6, .int .i64 cap, .slice A l.length cc], .int .i64 d] w fun e w' => e = .returned (.tuple #[.int .i64 0, .int .i64 2]) ∧ Below w.heap.size w w' := by
  have hmf : ∀ (fn : Fn) (first cap : Array Value) (w : World), (Instr.makeFunc fn first cap).run Try.prog w = .ok (.func fn first cap) w := fun _ _ _ _ => rfl
  have HR := Aside0.mk hr
  have HA := Aside0.mk ha
  clear hr ha
  go_enter_defers Try.func22, Try.ntmps22
  go_wp2_with (go_at_call 32; go_loud ((with_reducible refine (lright_any c0 c1 c2 c3 c4 c5 c6 cap A l cc _ (Kd.C_alloc (Kd.C_alloc (Kd.C_alloc HR.out _) _) _) hc HA.out hm).mono ?_); rintro e w1 ⟨h1, hb1⟩; rw [rightEnd, hn, if_neg Bool.false_ne_true] at h1; cases h1; have HB1 := Aside0.mk hb1; clear hb1))
  have B1 := (blk3_1 w 2 #[.int .i64 0] (.cells #[.int .i64 c0, .int .i64 c1, .int .i64 c2, .int .i64 c3, .int .i64 c4, .int .i64 c5, .int .i64 c6, .int .i64 cap, .slice A l.length cc] 24) (.cells #[.int .i64 0] 32)).later HB1.out
  have B2 := (blk3_2 w 32 #[.int .i64 0] (.cells #[.int .i64 c0, .int .i64 c1, .int .i64 c2, .int .i64 c3, .int .i64 c4, .int .i64 c5, .int .i64 c6, .int .i64 cap, .slice A l.length cc] 24) (.cells #[.int .i64 0] 2)).later HB1.out
  refine leaves_cons (f := 30) (args := #[.pointer (some ⟨w.heap.size + 1 + 1, 0, none⟩), .func (.func 43) #[] #[.pointer (some ⟨w.heap.size + 1, 0, none⟩)]]) (by simp) (by simp [go_sem]) ?_
  refine (caught_any 43 #[.pointer (some ⟨w.heap.size + 1, 0, none⟩)] ⟨w.heap.size + 1 + 1, 0, none⟩ 2 w1 (fun w' => w' = w1.setCell ⟨w.heap.size + 1, 0, none⟩ (.int .i64 0)) call_bnd1 ((bnd_clear (w.heap.size + 1) _ w1 B1).mono ?_)).mono ?_
  · rintro e w2 ⟨rfl, rfl⟩
    exact ⟨rfl, rfl, ⟨_, (B2.far (p := ⟨w.heap.size + 1, 0, none⟩) (by simp) _).cell 0 _ rfl⟩, (B2.far (p := ⟨w.heap.size + 1, 0, none⟩) (by simp) _).frozen 0⟩
  rintro e u' w'' ⟨rfl, rfl, w2, rfl, rfl⟩
  have z1 := ((B1.set_ 0 (.int .i64 0)).far (p := ⟨w.heap.size + 1 + 1, 0, none⟩) (by simp) (.int .i64 2)).cell 0 _ rfl
  have z2 := ((B2.far (p := ⟨w.heap.size + 1, 0, none⟩) (by simp) (.int .i64 0)).set_ 0 (.int .i64 2)).cell 0 _ rfl
  simp [Leaves, settle, results, Try.results22, go_sem, z1, z2]
  exact Below.setCell (p := ⟨w.heap.size + 1 + 1, 0, none⟩) (Below.setCell (p := ⟨w.heap.size + 1, 0, none⟩) (thenB (below_three w _ _ _) (by simp; omega) HB1.out) (Nat.le_succ _) _) (Nat.le_succ_of_le (Nat.le_succ _)) _

set_option maxHeartbeats 4000000 in
theorem bound_no2 (c0 c1 c2 c3 c4 c5 c6 cap : Int) (A : Option Addr) (l : List Pfx) (cc : Nat) (d : Int) (w : World) (hr : Kd.C k28 w A l.length l) (hc : l.length ≤ cc) (ha : AdrP l) (hm : l.length ≤ 140737488355328) (hn : rightN c0 c1 c2 c3 c4 c5 c6 cap l = true) (hd : config_within_int64.f d 0 1000000 = some false) :
    Calls Try.prog 22 #[.agg #[.int .i64 c0, .int .i64 c1, .int .i64 c2, .int .i64 c3, .int .i64 c4, .int .i64 c5, .int .i64 c6, .int .i64 cap, .slice A l.length cc], .int .i64 d] w fun e w' => e = .returned (.tuple #[.int .i64 0, .int .i64 2]) ∧ Below w.heap.size w w' := by
  have hmf : ∀ (fn : Fn) (first cap : Array Value) (w : World), (Instr.makeFunc fn first cap).run Try.prog w = .ok (.func fn first cap) w := fun _ _ _ _ => rfl
  have HR := Aside0.mk hr
  have HA := Aside0.mk ha
  clear hr ha
  have HD := Aside0.mk hd
  clear hd
  go_enter_defers Try.func22, Try.ntmps22
  go_wp2_with (first
    | (go_at_call 32; go_loud ((with_reducible refine (lright_any c0 c1 c2 c3 c4 c5 c6 cap A l cc _ (Kd.C_alloc (Kd.C_alloc (Kd.C_alloc HR.out _) _) _) hc HA.out hm).mono ?_); rintro e w1 ⟨h1, hb1⟩; rw [rightEnd, hn, if_pos rfl] at h1; cases h1; have HB1 := Aside0.mk hb1; clear hb1))
    | (go_at_call 45; go_loud ((with_reducible refine (config_within_int64.calls d 0 1000000 false _ HD.out).mono ?_); rintro e w2 ⟨rfl, hb2⟩; have HB2 := Aside0.mk hb2.below; clear hb2))
    | (go_at_call 44; go_loud ((with_reducible refine (must_no 2 _).mono ?_); rintro e w3 ⟨rfl, rfl⟩)))
  have B1a := (blk3_1 w 2 #[.int .i64 0] (.cells #[.int .i64 c0, .int .i64 c1, .int .i64 c2, .int .i64 c3, .int .i64 c4, .int .i64 c5, .int .i64 c6, .int .i64 cap, .slice A l.length cc] 24) (.cells #[.int .i64 0] 32)).later HB1.out
  have B2a := (blk3_2 w 32 #[.int .i64 0] (.cells #[.int .i64 c0, .int .i64 c1, .int .i64 c2, .int .i64 c3, .int .i64 c4, .int .i64 c5, .int .i64 c6, .int .i64 cap, .slice A l.length cc] 24) (.cells #[.int .i64 0] 2)).later HB1.out
  have B1 := B1a.later HB2.out
  have B2 := B2a.later HB2.out
  refine leaves_cons (f := 30) (args := #[.pointer (some ⟨w.heap.size + 1 + 1, 0, none⟩), .func (.func 43) #[] #[.pointer (some ⟨w.heap.size + 1, 0, none⟩)]]) (by simp) (by simp [go_sem]) ?_
  refine (caught_any 43 #[.pointer (some ⟨w.heap.size + 1, 0, none⟩)] ⟨w.heap.size + 1 + 1, 0, none⟩ 2 w2 (fun w' => w' = w2.setCell ⟨w.heap.size + 1, 0, none⟩ (.int .i64 0)) call_bnd1 ((bnd_clear (w.heap.size + 1) _ w2 B1).mono ?_)).mono ?_
  · rintro e w2 ⟨rfl, rfl⟩
    exact ⟨rfl, rfl, ⟨_, (B2.far (p := ⟨w.heap.size + 1, 0, none⟩) (by simp) _).cell 0 _ rfl⟩, (B2.far (p := ⟨w.heap.size + 1, 0, none⟩) (by simp) _).frozen 0⟩
  rintro e u' w'' ⟨rfl, rfl, w2, rfl, rfl⟩
  have z1 := ((B1.set_ 0 (.int .i64 0)).far (p := ⟨w.heap.size + 1 + 1, 0, none⟩) (by simp) (.int .i64 2)).cell 0 _ rfl
  have z2 := ((B2.far (p := ⟨w.heap.size + 1, 0, none⟩) (by simp) (.int .i64 0)).set_ 0 (.int .i64 2)).cell 0 _ rfl
  simp [Leaves, settle, results, Try.results22, go_sem, z1, z2]
  exact Below.setCell (p := ⟨w.heap.size + 1 + 1, 0, none⟩) (Below.setCell (p := ⟨w.heap.size + 1, 0, none⟩) (thenB (thenB (below_three w _ _ _) (by simp; omega) HB1.out) (Nat.le_trans (by simp; omega) HB1.out.size) HB2.out) (Nat.le_succ _) _) (Nat.le_succ_of_le (Nat.le_succ _)) _

set_option maxHeartbeats 4000000 in
theorem bound_no3 (c0 c1 c2 c3 c4 c5 c6 cap : Int) (A : Option Addr) (l : List Pfx) (cc : Nat) (d : Int) (w : World) (hr : Kd.C k28 w A l.length l) (hc : l.length ≤ cc) (ha : AdrP l) (hm : l.length ≤ 140737488355328) (hn : rightN c0 c1 c2 c3 c4 c5 c6 cap l = true) (hd : config_within_int64.f d 0 1000000 = some true) (hlt : ¬ c0 + c1 + d < c2) :
    Calls Try.prog 22 #[.agg #[.int .i64 c0, .int .i64 c1, .int .i64 c2, .int .i64 c3, .int .i64 c4, .int .i64 c5, .int .i64 c6, .int .i64 cap, .slice A l.length cc], .int .i64 d] w fun e w' => e = .returned (.tuple #[.int .i64 0, .int .i64 180]) ∧ Below w.heap.size w w' := by
  have hmf : ∀ (fn : Fn) (first cap : Array Value) (w : World), (Instr.makeFunc fn first cap).run Try.prog w = .ok (.func fn first cap) w := fun _ _ _ _ => rfl
  have HR := Aside0.mk hr
  have HA := Aside0.mk ha
  clear hr ha
  have HD := Aside0.mk hd
  have hin := rightN_in c0 c1 c2 c3 c4 c5 c6 cap l hn
  have g0 := hin 0 (by omega)
  have g1 := hin 1 (by omega)
  have g2 := hin 2 (by omega)
  simp only [spanL, spanV, List.getD_cons_succ, List.getD_cons_zero] at g0 g1 g2
  rw [within64_eq] at hd
  have hd2 := of_decide_eq_true (Option.some.inj hd)
  obtain ⟨g3, g4⟩ := g0
  obtain ⟨g5, g6⟩ := g1
  obtain ⟨g7, g8⟩ := g2
  obtain ⟨g9, g10⟩ := hd2
  have hlt2 : decide (c0 + c1 + d < c2) = false := decide_eq_false hlt
  clear hd hin
  go_enter_defers Try.func22, Try.ntmps22
  go_wp2_with (first
    | (go_at_call 32; go_loud ((with_reducible refine (lright_any c0 c1 c2 c3 c4 c5 c6 cap A l cc _ (Kd.C_alloc (Kd.C_alloc (Kd.C_alloc HR.out _) _) _) hc HA.out hm).mono ?_); rintro e w1 ⟨h1, hb1⟩; rw [rightEnd, hn, if_pos rfl] at h1; cases h1; have HB1 := Aside0.mk hb1; clear hb1))
    | (go_at_call 45; go_loud ((with_reducible refine (config_within_int64.calls d 0 1000000 true _ HD.out).mono ?_); rintro e w2 ⟨rfl, hb2⟩; have HB2 := Aside0.mk hb2.below; have HC := Aside0.mk (((blk3_0 w 24 #[.int .i64 c0, .int .i64 c1, .int .i64 c2, .int .i64 c3, .int .i64 c4, .int .i64 c5, .int .i64 c6, .int .i64 cap, .slice A l.length cc] (.cells #[.int .i64 0] 2) (.cells #[.int .i64 0] 32)).later HB1.out).later HB2.out); have k0 := HC.out.cell 0 _ rfl; have k1 := HC.out.cell 1 _ rfl; have k2 := HC.out.cell 2 _ rfl; clear hb2))
    | (go_at_call 44; first | ((with_reducible refine (must_ok 2 _).mono ?_); rintro e w3 ⟨rfl, rfl⟩) | ((with_reducible refine (must_no 180 _).mono ?_); rintro e w3 ⟨rfl, rfl⟩)))
  have B1a := (blk3_1 w 2 #[.int .i64 0] (.cells #[.int .i64 c0, .int .i64 c1, .int .i64 c2, .int .i64 c3, .int .i64 c4, .int .i64 c5, .int .i64 c6, .int .i64 cap, .slice A l.length cc] 24) (.cells #[.int .i64 0] 32)).later HB1.out
  have B2a := (blk3_2 w 32 #[.int .i64 0] (.cells #[.int .i64 c0, .int .i64 c1, .int .i64 c2, .int .i64 c3, .int .i64 c4, .int .i64 c5, .int .i64 c6, .int .i64 cap, .slice A l.length cc] 24) (.cells #[.int .i64 0] 2)).later HB1.out
  have B1 := B1a.later HB2.out
  have B2 := B2a.later HB2.out
  refine leaves_cons (f := 30) (args := #[.pointer (some ⟨w.heap.size + 1 + 1, 0, none⟩), .func (.func 43) #[] #[.pointer (some ⟨w.heap.size + 1, 0, none⟩)]]) (by simp) (by simp [go_sem]) ?_
  refine (caught_any 43 #[.pointer (some ⟨w.heap.size + 1, 0, none⟩)] ⟨w.heap.size + 1 + 1, 0, none⟩ 180 w2 (fun w' => w' = w2.setCell ⟨w.heap.size + 1, 0, none⟩ (.int .i64 0)) call_bnd1 ((bnd_clear (w.heap.size + 1) _ w2 B1).mono ?_)).mono ?_
  · rintro e w2 ⟨rfl, rfl⟩
    exact ⟨rfl, rfl, ⟨_, (B2.far (p := ⟨w.heap.size + 1, 0, none⟩) (by simp) _).cell 0 _ rfl⟩, (B2.far (p := ⟨w.heap.size + 1, 0, none⟩) (by simp) _).frozen 0⟩
  rintro e u' w'' ⟨rfl, rfl, w2, rfl, rfl⟩
  have z1 := ((B1.set_ 0 (.int .i64 0)).far (p := ⟨w.heap.size + 1 + 1, 0, none⟩) (by simp) (.int .i64 180)).cell 0 _ rfl
  have z2 := ((B2.far (p := ⟨w.heap.size + 1, 0, none⟩) (by simp) (.int .i64 0)).set_ 0 (.int .i64 180)).cell 0 _ rfl
  simp [Leaves, settle, results, Try.results22, go_sem, z1, z2]
  exact Below.setCell (p := ⟨w.heap.size + 1 + 1, 0, none⟩) (Below.setCell (p := ⟨w.heap.size + 1, 0, none⟩) (thenB (thenB (below_three w _ _ _) (by simp; omega) HB1.out) (Nat.le_trans (by simp; omega) HB1.out.size) HB2.out) (Nat.le_succ _) _) (Nat.le_succ_of_le (Nat.le_succ _)) _

end Go.Proofs.Ytegdcalefpobeaa.A

/- config: Bound, where it is told. -/
set_option linter.unusedVariables false
set_option linter.unusedSimpArgs false
namespace Go.Proofs.Ytegdcalefpobeaa.A
open Go.RowKit Go.Shelf Go.Proofs.YtegdcalefpobeaaW.PrintWords Go.Proofs.YtegdcalefpobeaaW.PrintLast Go.Proofs.YtegdcalefpobeaaW.PrintMore Go.Proofs.Ytegdcalefpobeaa.PConfigChecks
attribute [local go_sem] Oper.semAt_some

/-- does a span count? -/
def cntB (x : Nat) : Bool := decide (x < 5)
theorem counts_at (x : Nat) (h : x < 7) : ∀ w : World, Calls Try.prog 46 #[.string (spanN x)] w fun e w' => e = .returned (.bool (cntB x)) ∧ Below w.heap.size w w' :=
  seven (p := fun x => ∀ w : World, Calls Try.prog 46 #[.string (spanN x)] w fun e w' => e = .returned (.bool (cntB x)) ∧ Below w.heap.size w w') x h
    (fun w => counts_yes _ (by decide) (by decide) (by decide) w) (fun w => counts_yes _ (by decide) (by decide) (by decide) w) (fun w => counts_yes _ (by decide) (by decide) (by decide) w) (fun w => counts_yes _ (by decide) (by decide) (by decide) w) (fun w => counts_yes _ (by decide) (by decide) (by decide) w)
    (fun w => counts_no _ 113 (by decide) (by decide) (by decide) (by decide) w) (fun w => counts_no _ 115 (by decide) (by decide) (by decide) (by decide) w)
/-- the sum of the first spans that count -/
def bsum (c0 c1 c2 c3 c4 c5 c6 : Int) : Nat → Int
  | 0 => 0
  | k + 1 => bsum c0 c1 c2 c3 c4 c5 c6 k + if cntB k then spanV c0 c1 c2 c3 c4 c5 c6 k else 0
theorem bsum7 (c0 c1 c2 c3 c4 c5 c6 : Int) : bsum c0 c1 c2 c3 c4 c5 c6 7 = c0 + c1 + c2 + c3 + c4 := by
  simp [bsum, cntB, spanV]
theorem bsum_in (c0 c1 c2 c3 c4 c5 c6 cap : Int) (l : List Pfx) (hn : rightN c0 c1 c2 c3 c4 c5 c6 cap l = true) : ∀ k, k ≤ 7 → 0 ≤ bsum c0 c1 c2 c3 c4 c5 c6 k ∧ bsum c0 c1 c2 c3 c4 c5 c6 k ≤ 1000000 * k := by
  have hin := rightN_in c0 c1 c2 c3 c4 c5 c6 cap l hn
  have hl : ∀ x, x < 7 → 0 ≤ spanL x := fun x h => seven (p := fun x => 0 ≤ spanL x) x h (by decide) (by decide) (by decide) (by decide) (by decide) (by decide) (by decide)
  intro k
  induction k with
  | zero => intro _; simp [bsum]
  | succ k ih =>
    intro h
    have h1 := ih (by omega)
    have h2 := hin k (by omega)
    have h3 := hl k (by omega)
    simp only [bsum]
    split <;> omega
theorem Boxed.below {W W' : World} {B : Nat} {t : TypeId} {v : Value} (h : Boxed W B t v) {n : Nat} (hb : Below n W W') (hB : B < n) : Boxed W' B t v := (hb.block B hB).trans h
theorem keeps_below {W W' : World} (h : Below W.heap.size W W') : KeepsOthers W W' := ⟨h.size, fun k o hk _ => (h.block k (Array.getElem?_eq_some_iff.1 hk).1).trans hk⟩
set_option maxHeartbeats 4000000 in
theorem bound_yes (c0 c1 c2 c3 c4 c5 c6 cap : Int) (A : Option Addr) (l : List Pfx) (cc : Nat) (d : Int) (w : World) (hr : Kd.C k28 w A l.length l) (hc : l.length ≤ cc) (ha : AdrP l) (hm : l.length ≤ 140737488355328) (hn : rightN c0 c1 c2 c3 c4 c5 c6 cap l = true) (hd : config_within_int64.f d 0 1000000 = some true) (hlt : c0 + c1 + d < c2) :
    Calls Try.prog 22 #[.agg #[.int .i64 c0, .int .i64 c1, .int .i64 c2, .int .i64 c3, .int .i64 c4, .int .i64 c5, .int .i64 c6, .int .i64 cap, .slice A l.length cc], .int .i64 d] w fun e w' => e = .returned (.tuple #[.int .i64 (32 * (c0 + c1 + c2 + c3 + c4 + d)), .int .i64 0]) ∧ Below w.heap.size w w' := by
  have hmf : ∀ (fn : Fn) (first cap : Array Value) (w : World), (Instr.makeFunc fn first cap).run Try.prog w = .ok (.func fn first cap) w := fun _ _ _ _ => rfl
  have HR := Aside0.mk hr
  have HA := Aside0.mk ha
  clear hr ha
  have HD := Aside0.mk hd
  have hin := rightN_in c0 c1 c2 c3 c4 c5 c6 cap l hn
  have g0 := hin 0 (by omega)
  have g1 := hin 1 (by omega)
  have g2 := hin 2 (by omega)
  simp only [spanL, spanV, List.getD_cons_succ, List.getD_cons_zero] at g0 g1 g2
  rw [within64_eq] at hd
  have hd2 := of_decide_eq_true (Option.some.inj hd)
  obtain ⟨g3, g4⟩ := g0
  obtain ⟨g5, g6⟩ := g1
  obtain ⟨g7, g8⟩ := g2
  obtain ⟨g9, g10⟩ := hd2
  have hlt2 : decide (c0 + c1 + d < c2) = true := decide_eq_true hlt
  clear hd hin
  refine calls_of_mark Try.func22 rfl ?_
  simp only [Try.ntmps22, List.size_toArray, List.length_cons, List.length_nil, Nat.reduceAdd, Nat.reduceSub, Array.replicate_succ, Array.replicate_zero, List.push_toArray, List.append_toArray, List.nil_append, List.cons_append]
  go_wp2_with (first
    | (go_at_call 32; go_loud ((with_reducible refine (lright_any c0 c1 c2 c3 c4 c5 c6 cap A l cc _ (Kd.C_alloc (Kd.C_alloc (Kd.C_alloc HR.out _) _) _) hc HA.out hm).mono ?_); rintro e w1 ⟨h1, hb1⟩; rw [rightEnd, hn, if_pos rfl] at h1; cases h1; have HB1 := Aside0.mk hb1; clear hb1))
    | (go_at_call 45; go_loud ((with_reducible refine (config_within_int64.calls d 0 1000000 true _ HD.out).mono ?_); rintro e w2 ⟨rfl, hb2⟩; have HB2 := Aside0.mk hb2.below; have HC := Aside0.mk (((blk3_0 w 24 #[.int .i64 c0, .int .i64 c1, .int .i64 c2, .int .i64 c3, .int .i64 c4, .int .i64 c5, .int .i64 c6, .int .i64 cap, .slice A l.length cc] (.cells #[.int .i64 0] 2) (.cells #[.int .i64 0] 32)).later HB1.out).later HB2.out); have k0 := HC.out.cell 0 _ rfl; have k1 := HC.out.cell 1 _ rfl; have k2 := HC.out.cell 2 _ rfl; have k3 := HC.out.cell 3 _ rfl; have k4 := HC.out.cell 4 _ rfl; have k5 := HC.out.cell 5 _ rfl; have k6 := HC.out.cell 6 _ rfl; have k7 := HC.out.cell 7 _ rfl; have k8 := HC.out.cell 8 _ rfl; clear hb2))
    | (go_at_call 44; ((with_reducible refine (must_ok _ _).mono ?_); rintro e w3 ⟨rfl, rfl⟩))
    | (go_at_call 26; ((with_reducible refine (spansf_any c0 c1 c2 c3 c4 c5 c6 cap A l.length cc _).mono ?_); rintro e w3 ⟨rfl, rfl⟩)))
  have HB12 := Aside0.mk (thenB (thenB (below_three w (.cells #[.int .i64 c0, .int .i64 c1, .int .i64 c2, .int .i64 c3, .int .i64 c4, .int .i64 c5, .int .i64 c6, .int .i64 cap, .slice A l.length cc] 24) (.cells #[.int .i64 0] 2) (.cells #[.int .i64 0] 32)) (by simp; omega) HB1.out) (Nat.le_trans (by simp; omega) HB1.out.size) HB2.out)
  have hz2 : w.heap.size + 3 ≤ w2.heap.size := by have h1 := HB1.out.size; have h2 := HB2.out.size; simp at h1; omega
  have B1a := (blk3_1 w 2 #[.int .i64 0] (.cells #[.int .i64 c0, .int .i64 c1, .int .i64 c2, .int .i64 c3, .int .i64 c4, .int .i64 c5, .int .i64 c6, .int .i64 cap, .slice A l.length cc] 24) (.cells #[.int .i64 0] 32)).later HB1.out
  have B2a := (blk3_2 w 32 #[.int .i64 0] (.cells #[.int .i64 c0, .int .i64 c1, .int .i64 c2, .int .i64 c3, .int .i64 c4, .int .i64 c5, .int .i64 c6, .int .i64 cap, .slice A l.length cc] 24) (.cells #[.int .i64 0] 2)).later HB1.out
  have HBn : Aside0 (Boxed w2 (w.heap.size + 1) 2 (.int .i64 0)) := ⟨B1a.later HB2.out⟩
  have HBe : Aside0 (Boxed w2 (w.heap.size + 1 + 1) 32 (.int .i64 0)) := ⟨B2a.later HB2.out⟩
  clear k0 k1 k2 k3 k4 k5 k6 k7 k8 B1a B2a
  have SQ := Aside0.mk (spans1_seq 3 w2.heap.size c0 c1 c2 c3 c4 c5 c6 cap A l.length cc (by omega) _ (Blk.new w2 24 #[.int .i64 c0, .int .i64 c1, .int .i64 c2, .int .i64 c3, .int .i64 c4, .int .i64 c5, .int .i64 c6, .int .i64 cap, .slice A l.length cc]))
  obtain ⟨Wr, hWr⟩ : ∃ Wr, w2.alloc (.cells #[.int .i64 c0, .int .i64 c1, .int .i64 c2, .int .i64 c3, .int .i64 c4, .int .i64 c5, .int .i64 c6, .int .i64 cap, .slice A l.length cc] 24) = Wr := ⟨_, rfl⟩
  obtain ⟨nb, hnb⟩ : ∃ nb, w.heap.size + 1 = nb := ⟨_, rfl⟩
  have hzr : Wr.heap.size = w2.heap.size + 1 := by rw [← hWr]; simp
  have HNr : Aside0 (Boxed Wr nb 2 (.int .i64 (bsum c0 c1 c2 c3 c4 c5 c6 0))) := ⟨by rw [← hWr, ← hnb]; exact HBn.out.alloc _⟩
  have HEr : Aside0 (Boxed Wr (nb + 1) 32 (.int .i64 0)) := ⟨by rw [← hWr, ← hnb]; exact HBe.out.alloc _⟩
  have HWW : Aside0 (Below w.heap.size w Wr) := ⟨by rw [← hWr]; exact below_alloc HB12.out _⟩
  rw [hWr] at SQ
  have hnb1 : nb < Wr.heap.size := by omega
  have hin7 := bsum_in c0 c1 c2 c3 c4 c5 c6 cap l hn
  have HIN := Aside0.mk hin7
  have HSP := Aside0.mk (rightN_in c0 c1 c2 c3 c4 c5 c6 cap l hn)
  rw [hWr, hnb]
  clear hWr hin7 hn hlt hlt2 HB12 HBn HBe HB2 HB1 HC HD
  refine (wpIn_wide (n := 4)).1 ?_
  refine rangeX_law (n := 4) rfl (enters_of Try.func47 (by kernel_rfl) rfl) SQ.out (Below.refl _ _) (fun k => k = nb) (fun k hk => ⟨by omega, by omega⟩) (fun k hk => by omega) (fun _ => rfl)
    (fun k W => (Boxed W nb 2 (.int .i64 (bsum c0 c1 c2 c3 c4 c5 c6 k)) ∧ Boxed W (nb + 1) 32 (.int .i64 0)) ∧ Below w.heap.size w W)
    (fun c k W => False)
    (OwnFrom.and (OwnFrom.and (Own.from (boxed_own _ _ _) _) (Own.from (boxed_own _ _ _) _)) (ownFrom_below (Nat.le_refl _) HWW.out.size))
    (fun c => fun _ _ _ _ h _ _ => h.elim)
    ⟨⟨HNr.out, HEr.out⟩, HWW.out⟩ ?a1 ?assign ?body ?done ?stop
  case assign =>
    intro L k W K hK
    gi_wp2
    exact hK
  case body =>
    rintro L k W hk ⟨⟨hbn, hbe⟩, hbw⟩
    have HN := Aside0.mk hbn
    have HE := Aside0.mk hbe
    have HW := Aside0.mk hbw
    have hct := counts_at k hk
    have b1 := HIN.out k (by omega)
    have b2 := HIN.out (k + 1) (by omega)
    have b3 := HSP.out k hk
    obtain ⟨s, hs⟩ : ∃ s, bsum c0 c1 c2 c3 c4 c5 c6 k = s := ⟨_, rfl⟩
    obtain ⟨V, hV⟩ : ∃ V, spanV c0 c1 c2 c3 c4 c5 c6 k = V := ⟨_, rfl⟩
    obtain ⟨N, hN⟩ : ∃ N, spanN k = N := ⟨_, rfl⟩
    simp only [bsum] at b2
    rw [hs] at HN b1 b2
    rw [hV] at b2 b3
    rw [hN] at hct
    simp only [hV, hN]
    cases hcb : cntB k with
    | true =>
      rw [hcb] at hct b2
      rw [if_pos rfl] at b2
      have HCT := Aside0.mk hct
      have hsum : bsum c0 c1 c2 c3 c4 c5 c6 (k + 1) = s + V := by simp only [bsum]; rw [hs, hcb, if_pos rfl, hV]
      have HSUM := Aside0.mk hsum
      have HCB := Aside0.mk hcb
      clear hbn hbe hbw hct hcb hsum hs hV hN
      gi_wp2_with (refine ⟨trivial, ?_⟩; gi_at_call 46; go_loud (refine (CallsIn.inRound L (callsIn_wide.2 (HCT.out _))).mono ?_; rintro e w4 ⟨rfl, hb4⟩; have HB4 := Aside0.mk hb4; have HN4 := Aside0.mk (Boxed.below HN.out hb4 (Boxed.lt HN.out)); have n4 := Boxed.cell HN4.out; have f4 := Boxed.frozen HN4.out; clear hb4))
      exact ⟨(keeps_below HB4.out).trans (KeepsOthers.setCell _ _ _), BelowX.setCell (M := fun k => k = nb) (BelowX.of HB4.out) (p := ⟨nb, 0, none⟩) rfl _, ⟨⟨by rw [HSUM.out]; exact Boxed.set (.int .i64 (s + V)) HN4.out, Boxed.other (Boxed.below HE.out HB4.out (Boxed.lt HE.out)) (by omega) _⟩, (thenB HW.out HW.out.size HB4.out).setCell (p := ⟨nb, 0, none⟩) (by simp; omega) _⟩⟩
    | false =>
      rw [hcb] at hct
      have HCT := Aside0.mk hct
      have hsum : bsum c0 c1 c2 c3 c4 c5 c6 (k + 1) = s := by simp only [bsum]; rw [hs, hcb, if_neg Bool.false_ne_true]; omega
      have HSUM := Aside0.mk hsum
      have HCB := Aside0.mk hcb
      clear hbn hbe hbw hct hcb hsum hs hV hN
      gi_wp2_with (refine ⟨trivial, ?_⟩; gi_at_call 46; go_loud (refine (CallsIn.inRound L (callsIn_wide.2 (HCT.out _))).mono ?_; rintro e w4 ⟨rfl, hb4⟩; have HB4 := Aside0.mk hb4; clear hb4))
      exact ⟨keeps_below HB4.out, BelowX.of HB4.out, ⟨⟨by rw [HSUM.out]; exact Boxed.below HN.out HB4.out (Boxed.lt HN.out), Boxed.below HE.out HB4.out (Boxed.lt HE.out)⟩, thenB HW.out HW.out.size HB4.out⟩⟩
  case done =>
    rintro D W hD ⟨⟨hbn, hbe⟩, hbw⟩ hK
    rw [bsum7] at hbn
    have HSS := HIN.out 7 (by omega)
    rw [bsum7] at HSS
    obtain ⟨s, hs⟩ : ∃ s, c0 + c1 + c2 + c3 + c4 = s := ⟨_, rfl⟩
    rw [hs] at hbn HSS
    have HSE := Aside0.mk hs
    have HN := Aside0.mk hbn
    have HE := Aside0.mk hbe
    have HW := Aside0.mk hbw
    have n4 := Boxed.cell HN.out
    have f4 := Boxed.frozen HN.out
    obtain ⟨s1, s2⟩ := HSS
    have n5 := Boxed.cell (Boxed.other (B' := nb) HE.out (by omega) (.int .i64 (32 * (s + d))))
    have n6 := Boxed.frozen (Boxed.other (B' := nb) HE.out (by omega) (.int .i64 (32 * (s + d))))
    have HKK := Aside0.mk hK
    clear hbn hbe hbw hs hK
    go_wp2
    have hz0 := HWW.out.size
    have hDD : ((W.setCell ⟨nb, 0, none⟩ (.int .i64 (32 * (s + d)))).setCell ⟨nb + 1, 0, none⟩ (.int .i64 0)).heap[D]? = some (.deferred (some [])) := by
      rw [Below.heap_setCell _ _ _ _ (by simp; omega), Below.heap_setCell _ _ _ _ (by simp; omega)]
      exact HKK.out
    have X1 := Boxed.kept (Boxed.other (B' := nb + 1) (Boxed.set (.int .i64 (32 * (s + d))) HN.out) (by omega) (.int .i64 0)) (grownBy_putObj' _ D (.deferred none)) (by simp; omega)
    have X2 := Boxed.kept (Boxed.set (.int .i64 0) (Boxed.other (B' := nb) HE.out (by omega) (.int .i64 (32 * (s + d))))) (grownBy_putObj' _ D (.deferred none)) (by simp; omega)
    have hbel := (((HW.out.setCell (p := ⟨nb, 0, none⟩) (by simp; omega) (.int .i64 (32 * (s + d)))).setCell (p := ⟨nb + 1, 0, none⟩) (by simp; omega) (.int .i64 0)).trans (belowK_b (w := w) (Nat.le_refl _) _ D _ (.deferred none) (by omega) hDD rfl rfl))
    refine And.intro (show FrameMode.returning ≠ .run by simp) (Exists.intro _ (And.intro (run_takeDeferred hDD) ?_))
    refine leaves_cons (f := 30) (args := #[.pointer (some ⟨nb + 1, 0, none⟩), .func (.func 43) #[] #[.pointer (some ⟨nb, 0, none⟩)]]) (by simp) (by simp [go_sem]) ?_
    refine (caught_idle _ _ _).mono ?_
    rintro e u' w'' ⟨rfl, rfl, rfl⟩
    have z1 := Boxed.cell X1
    have z2 := Boxed.cell X2
    rw [HSE.out]
    simp [Leaves, settle, results, Try.results22, go_sem, z1, z2]
    exact hbel
  case stop =>
    rintro D cc k W hD hkN h hK
    exact h.elim
end Go.Proofs.Ytegdcalefpobeaa.A
