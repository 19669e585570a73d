/- config: Bound. -/
import Derived.Test.YtegdcalefpobeaaWait
import Derived.Test.YtegdcalefpobeaaStd2
import Derived.Test.YtegdcalefpobeaaCnt
import Derived.Test.YtegdcalefpobeaaSpf
import Derived.Test.YtegdcalefpobeaaLvx
set_option linter.unusedVariables false
set_option linter.unusedSimpArgs false
namespace Go.Proofs.Ytegdcalefpobeaa.A
open Go.RowKit Go.Shelf Go.Proofs.YtegdcalefpobeaaW.PrintWords Go.Proofs.YtegdcalefpobeaaW.PrintLast Go.Proofs.YtegdcalefpobeaaW.PrintMore Go.Proofs.Ytegdcalefpobeaa.PConfigChecks

theorem call_bnd1 : ∀ (args : Array Value) (w : World), (callFunc 43 args).run Try.prog w = .ok (.enter 43 args) w := fun _ _ => by kernel_rfl
theorem bnd_clear (g : Nat) (v : Value) (w : World) (hg : Blk w g 2 #[v]) :
    Calls Try.prog 43 #[.pointer (some ⟨g, 0, none⟩)] w fun e w' => e = .returned (.tuple #[]) ∧ w' = w.setCell ⟨g, 0, none⟩ (.int .i64 0) := by
  have c0 := hg.cell 0 _ rfl
  have f0 := hg.frozen 0
  go_enter Try.func43, Try.ntmps43
  go_wp2
  go_end0
  exact ⟨rfl, rfl⟩
set_option maxHeartbeats 4000000 in
theorem bound_no1 (c0 c1 c2 c3 c4 c5 c6 cap : Int) (A : Option Addr) (l : List Pfx) (cc : Nat) (d : Int) (w : World) (hr : Kd.C k28 w A l.length l) (hc : l.length ≤ cc) (ha : AdrP l) (hm : l.length ≤ 140737488355328) (hn : rightN c0 c1 c2 c3 c4 c5 c6 cap l = false) :
    Calls Try.prog 22 #[.agg #[.int .i64 c0, .int .i64 c1, .int .i64 c2, .int .i64 c3, .int .i64 c4, .int .i64 c5, .int .i64 c6, .int .i64 cap, .slice A l.length cc], .int .i64 d] w fun e w' => e = .returned (.tuple #[.int .i64 0, .int .i64 2]) ∧ Below w.heap.size w w' := by
  have hmf : ∀ (fn : Fn) (first cap : Array Value) (w : World), (Instr.makeFunc fn first cap).run Try.prog w = .ok (.func fn first cap) w := fun _ _ _ _ => rfl
  have HR := Aside0.mk hr
  have HA := Aside0.mk ha
  clear hr ha
  go_enter_defers Try.func22, Try.ntmps22
  go_wp2_with (go_at_call 32; go_loud ((with_reducible refine (lright_any c0 c1 c2 c3 c4 c5 c6 cap A l cc _ (Kd.C_alloc (Kd.C_alloc (Kd.C_alloc HR.out _) _) _) hc HA.out hm).mono ?_); rintro e w1 ⟨h1, hb1⟩; rw [rightEnd, hn, if_neg Bool.false_ne_true] at h1; cases h1; have HB1 := Aside0.mk hb1; clear hb1))
  have B1 := (blk3_1 w 2 #[.int .i64 0] (.cells #[.int .i64 c0, .int .i64 c1, .int .i64 c2, .int .i64 c3, .int .i64 c4, .int .i64 c5, .int .i64 c6, .int .i64 cap, .slice A l.length cc] 24) (.cells #[.int .i64 0] 32)).later HB1.out
  have B2 := (blk3_2 w 32 #[.int .i64 0] (.cells #[.int .i64 c0, .int .i64 c1, .int .i64 c2, .int .i64 c3, .int .i64 c4, .int .i64 c5, .int .i64 c6, .int .i64 cap, .slice A l.length cc] 24) (.cells #[.int .i64 0] 2)).later HB1.out
  refine leaves_cons (f := 30) (args := #[.pointer (some ⟨w.heap.size + 1 + 1, 0, none⟩), .func (.func 43) #[] #[.pointer (some ⟨w.heap.size + 1, 0, none⟩)]]) (by simp) (by simp [go_sem]) ?_
  refine (caught_any 43 #[.pointer (some ⟨w.heap.size + 1, 0, none⟩)] ⟨w.heap.size + 1 + 1, 0, none⟩ 2 w1 (fun w' => w' = w1.setCell ⟨w.heap.size + 1, 0, none⟩ (.int .i64 0)) call_bnd1 ((bnd_clear (w.heap.size + 1) _ w1 B1).mono ?_)).mono ?_
  · rintro e w2 ⟨rfl, rfl⟩
    exact ⟨rfl, rfl, ⟨_, (B2.far (p := ⟨w.heap.size + 1, 0, none⟩) (by simp) _).cell 0 _ rfl⟩, (B2.far (p := ⟨w.heap.size + 1, 0, none⟩) (by simp) _).frozen 0⟩
  rintro e u' w'' ⟨rfl, rfl, w2, rfl, rfl⟩
  have z1 := ((B1.set_ 0 (.int .i64 0)).far (p := ⟨w.heap.size + 1 + 1, 0, none⟩) (by simp) (.int .i64 2)).cell 0 _ rfl
  have z2 := ((B2.far (p := ⟨w.heap.size + 1, 0, none⟩) (by simp) (.int .i64 0)).set_ 0 (.int .i64 2)).cell 0 _ rfl
  simp [Leaves, settle, results, Try.results22, go_sem, z1, z2]
  exact Below.setCell (p := ⟨w.heap.size + 1 + 1, 0, none⟩) (Below.setCell (p := ⟨w.heap.size + 1, 0, none⟩) (thenB (below_three w _ _ _) (by simp; omega) HB1.out) (Nat.le_succ _) _) (Nat.le_succ_of_le (Nat.le_succ _)) _

set_option maxHeartbeats 4000000 in
theorem bound_no2 (c0 c1 c2 c3 c4 c5 c6 cap : Int) (A : Option Addr) (l : List Pfx) (cc : Nat) (d : Int) (w : World) (hr : Kd.C k28 w A l.length l) (hc : l.length ≤ cc) (ha : AdrP l) (hm : l.length ≤ 140737488355328) (hn : rightN c0 c1 c2 c3 c4 c5 c6 cap l = true) (hd : config_within_int64.f d 0 1000000 = some false) :
    Calls Try.prog 22 #[.agg #[.int .i64 c0, .int .i64 c1, .int .i64 c2, .int .i64 c3, .int .i64 c4, .int .i64 c5, .int .i64 c6, .int .i64 cap, .slice A l.length cc], .int .i64 d] w fun e w' => e = .returned (.tuple #[.int .i64 0, .int .i64 2]) ∧ Below w.heap.size w w' := by
  have hmf : ∀ (fn : Fn) (first cap : Array Value) (w : World), (Instr.makeFunc fn first cap).run Try.prog w = .ok (.func fn first cap) w := fun _ _ _ _ => rfl
  have HR := Aside0.mk hr
  have HA := Aside0.mk ha
  clear hr ha
  have HD := Aside0.mk hd
  clear hd
  go_enter_defers Try.func22, Try.ntmps22
  go_wp2_with (first
    | (go_at_call 32; go_loud ((with_reducible refine (lright_any c0 c1 c2 c3 c4 c5 c6 cap A l cc _ (Kd.C_alloc (Kd.C_alloc (Kd.C_alloc HR.out _) _) _) hc HA.out hm).mono ?_); rintro e w1 ⟨h1, hb1⟩; rw [rightEnd, hn, if_pos rfl] at h1; cases h1; have HB1 := Aside0.mk hb1; clear hb1))
    | (go_at_call 45; go_loud ((with_reducible refine (config_within_int64.calls d 0 1000000 false _ HD.out).mono ?_); rintro e w2 ⟨rfl, hb2⟩; have HB2 := Aside0.mk hb2.below; clear hb2))
    | (go_at_call 44; go_loud ((with_reducible refine (must_no 2 _).mono ?_); rintro e w3 ⟨rfl, rfl⟩)))
  have B1a := (blk3_1 w 2 #[.int .i64 0] (.cells #[.int .i64 c0, .int .i64 c1, .int .i64 c2, .int .i64 c3, .int .i64 c4, .int .i64 c5, .int .i64 c6, .int .i64 cap, .slice A l.length cc] 24) (.cells #[.int .i64 0] 32)).later HB1.out
  have B2a := (blk3_2 w 32 #[.int .i64 0] (.cells #[.int .i64 c0, .int .i64 c1, .int .i64 c2, .int .i64 c3, .int .i64 c4, .int .i64 c5, .int .i64 c6, .int .i64 cap, .slice A l.length cc] 24) (.cells #[.int .i64 0] 2)).later HB1.out
  have B1 := B1a.later HB2.out
  have B2 := B2a.later HB2.out
  refine leaves_cons (f := 30) (args := #[.pointer (some ⟨w.heap.size + 1 + 1, 0, none⟩), .func (.func 43) #[] #[.pointer (some ⟨w.heap.size + 1, 0, none⟩)]]) (by simp) (by simp [go_sem]) ?_
  refine (caught_any 43 #[.pointer (some ⟨w.heap.size + 1, 0, none⟩)] ⟨w.heap.size + 1 + 1, 0, none⟩ 2 w2 (fun w' => w' = w2.setCell ⟨w.heap.size + 1, 0, none⟩ (.int .i64 0)) call_bnd1 ((bnd_clear (w.heap.size + 1) _ w2 B1).mono ?_)).mono ?_
  · rintro e w2 ⟨rfl, rfl⟩
    exact ⟨rfl, rfl, ⟨_, (B2.far (p := ⟨w.heap.size + 1, 0, none⟩) (by simp) _).cell 0 _ rfl⟩, (B2.far (p := ⟨w.heap.size + 1, 0, none⟩) (by simp) _).frozen 0⟩
  rintro e u' w'' ⟨rfl, rfl, w2, rfl, rfl⟩
  have z1 := ((B1.set_ 0 (.int .i64 0)).far (p := ⟨w.heap.size + 1 + 1, 0, none⟩) (by simp) (.int .i64 2)).cell 0 _ rfl
  have z2 := ((B2.far (p := ⟨w.heap.size + 1, 0, none⟩) (by simp) (.int .i64 0)).set_ 0 (.int .i64 2)).cell 0 _ rfl
  simp [Leaves, settle, results, Try.results22, go_sem, z1, z2]
  exact Below.setCell (p := ⟨w.heap.size + 1 + 1, 0, none⟩) (Below.setCell (p := ⟨w.heap.size + 1, 0, none⟩) (thenB (thenB (below_three w _ _ _) (by simp; omega) HB1.out) (Nat.le_trans (by simp; omega) HB1.out.size) HB2.out) (Nat.le_succ _) _) (Nat.le_succ_of_le (Nat.le_succ _)) _

set_option maxHeartbeats 4000000 in
theorem bound_no3 (c0 c1 c2 c3 c4 c5 c6 cap : Int) (A : Option Addr) (l : List Pfx) (cc : Nat) (d : Int) (w : World) (hr : Kd.C k28 w A l.length l) (hc : l.length ≤ cc) (ha : AdrP l) (hm : l.length ≤ 140737488355328) (hn : rightN c0 c1 c2 c3 c4 c5 c6 cap l = true) (hd : config_within_int64.f d 0 1000000 = some true) (hlt : ¬ c0 + c1 + d < c2) :
    Calls Try.prog 22 #[.agg #[.int .i64 c0, .int .i64 c1, .int .i64 c2, .int .i64 c3, .int .i64 c4, .int .i64 c5, .int .i64 c6, .int .i64 cap, .slice A l.length cc], .int .i64 d] w fun e w' => e = .returned (.tuple #[.int .i64 0, .int .i64 180]) ∧ Below w.heap.size w w' := by
  have hmf : ∀ (fn : Fn) (first cap : Array Value) (w : World), (Instr.makeFunc fn first cap).run Try.prog w = .ok (.func fn first cap) w := fun _ _ _ _ => rfl
  have HR := Aside0.mk hr
  have HA := Aside0.mk ha
  clear hr ha
  have HD := Aside0.mk hd
  have hin := rightN_in c0 c1 c2 c3 c4 c5 c6 cap l hn
  have g0 := hin 0 (by omega)
  have g1 := hin 1 (by omega)
  have g2 := hin 2 (by omega)
  simp only [spanL, spanV, List.getD_cons_succ, List.getD_cons_zero] at g0 g1 g2
  rw [within64_eq] at hd
  have hd2 := of_decide_eq_true (Option.some.inj hd)
  obtain ⟨g3, g4⟩ := g0
  obtain ⟨g5, g6⟩ := g1
  obtain ⟨g7, g8⟩ := g2
  obtain ⟨g9, g10⟩ := hd2
  have hlt2 : decide (c0 + c1 + d < c2) = false := decide_eq_false hlt
  clear hd hin
  go_enter_defers Try.func22, Try.ntmps22
  go_wp2_with (first
    | (go_at_call 32; go_loud ((with_reducible refine (lright_any c0 c1 c2 c3 c4 c5 c6 cap A l cc _ (Kd.C_alloc (Kd.C_alloc (Kd.C_alloc HR.out _) _) _) hc HA.out hm).mono ?_); rintro e w1 ⟨h1, hb1⟩; rw [rightEnd, hn, if_pos rfl] at h1; cases h1; have HB1 := Aside0.mk hb1; clear hb1))
    | (go_at_call 45; go_loud ((with_reducible refine (config_within_int64.calls d 0 1000000 true _ HD.out).mono ?_); rintro e w2 ⟨rfl, hb2⟩; have HB2 := Aside0.mk hb2.below; have HC := Aside0.mk (((blk3_0 w 24 #[.int .i64 c0, .int .i64 c1, .int .i64 c2, .int .i64 c3, .int .i64 c4, .int .i64 c5, .int .i64 c6, .int .i64 cap, .slice A l.length cc] (.cells #[.int .i64 0] 2) (.cells #[.int .i64 0] 32)).later HB1.out).later HB2.out); have k0 := HC.out.cell 0 _ rfl; have k1 := HC.out.cell 1 _ rfl; have k2 := HC.out.cell 2 _ rfl; clear hb2))
    | (go_at_call 44; first | ((with_reducible refine (must_ok 2 _).mono ?_); rintro e w3 ⟨rfl, rfl⟩) | ((with_reducible refine (must_no 180 _).mono ?_); rintro e w3 ⟨rfl, rfl⟩)))
  have B1a := (blk3_1 w 2 #[.int .i64 0] (.cells #[.int .i64 c0, .int .i64 c1, .int .i64 c2, .int .i64 c3, .int .i64 c4, .int .i64 c5, .int .i64 c6, .int .i64 cap, .slice A l.length cc] 24) (.cells #[.int .i64 0] 32)).later HB1.out
  have B2a := (blk3_2 w 32 #[.int .i64 0] (.cells #[.int .i64 c0, .int .i64 c1, .int .i64 c2, .int .i64 c3, .int .i64 c4, .int .i64 c5, .int .i64 c6, .int .i64 cap, .slice A l.length cc] 24) (.cells #[.int .i64 0] 2)).later HB1.out
  have B1 := B1a.later HB2.out
  have B2 := B2a.later HB2.out
  refine leaves_cons (f := 30) (args := #[.pointer (some ⟨w.heap.size + 1 + 1, 0, none⟩), .func (.func 43) #[] #[.pointer (some ⟨w.heap.size + 1, 0, none⟩)]]) (by simp) (by simp [go_sem]) ?_
  refine (caught_any 43 #[.pointer (some ⟨w.heap.size + 1, 0, none⟩)] ⟨w.heap.size + 1 + 1, 0, none⟩ 180 w2 (fun w' => w' = w2.setCell ⟨w.heap.size + 1, 0, none⟩ (.int .i64 0)) call_bnd1 ((bnd_clear (w.heap.size + 1) _ w2 B1).mono ?_)).mono ?_
  · rintro e w2 ⟨rfl, rfl⟩
    exact ⟨rfl, rfl, ⟨_, (B2.far (p := ⟨w.heap.size + 1, 0, none⟩) (by simp) _).cell 0 _ rfl⟩, (B2.far (p := ⟨w.heap.size + 1, 0, none⟩) (by simp) _).frozen 0⟩
  rintro e u' w'' ⟨rfl, rfl, w2, rfl, rfl⟩
  have z1 := ((B1.set_ 0 (.int .i64 0)).far (p := ⟨w.heap.size + 1 + 1, 0, none⟩) (by simp) (.int .i64 180)).cell 0 _ rfl
  have z2 := ((B2.far (p := ⟨w.heap.size + 1, 0, none⟩) (by simp) (.int .i64 0)).set_ 0 (.int .i64 180)).cell 0 _ rfl
  simp [Leaves, settle, results, Try.results22, go_sem, z1, z2]
  exact Below.setCell (p := ⟨w.heap.size + 1 + 1, 0, none⟩) (Below.setCell (p := ⟨w.heap.size + 1, 0, none⟩) (thenB (thenB (below_three w _ _ _) (by simp; omega) HB1.out) (Nat.le_trans (by simp; omega) HB1.out.size) HB2.out) (Nat.le_succ _) _) (Nat.le_succ_of_le (Nat.le_succ _)) _

end Go.Proofs.Ytegdcalefpobeaa.A
