/- config: Wait, Quiet. -/
import Derived.Test.YtokjjppfdmkjeaaCfg2
import Derived.Deep.RegionHeld3
set_option linter.unusedVariables false
set_option linter.unusedSimpArgs false
namespace Go.Proofs.Ytokjjppfdmkjeaa.A
open Go.RowKit Go.Proofs.YtokjjppfdmkjeaaW.PrintWords Go.Proofs.YtokjjppfdmkjeaaW.PrintLast Go.Proofs.YtokjjppfdmkjeaaW.PrintMore Go.Proofs.Ytokjjppfdmkjeaa.PPulseHolds

/-- a draw, by a span -/
def clampN (d s : Int) : Int := if d < 0 then 0 else if s < d then s else d
theorem clampN_in (d s : Int) (h : 0 ≤ s) : 0 ≤ clampN d s ∧ clampN d s ≤ s := by
  unfold clampN
  repeat' split
  all_goals omega
theorem clamped_eq (d s : Int) (h : 0 ≤ s) : config_clamped_int64.f d 0 s = some (clampN d s) := by
  unfold config_clamped_int64.f clampN
  congr 1
  simp only [mx, mn]
  repeat' split
  all_goals omega
section
variable (w : World) (t : TypeId) (cs : Array Value) (o o' : Obj)
theorem blk3_0 : Blk (((w.alloc (.cells cs t)).alloc o).alloc o') w.heap.size t cs := (blk0 w t cs o).alloc o'
theorem blk3_1 : Blk (((w.alloc o).alloc (.cells cs t)).alloc o') (w.heap.size + 1) t cs := (blk1 w t cs o).alloc o'
theorem blk3_2 : Blk (((w.alloc o).alloc o').alloc (.cells cs t)) (w.heap.size + 1 + 1) t cs := by
  have h := blk1 (w.alloc o) t cs o'
  have e : (w.alloc o).heap.size = w.heap.size + 1 := by simp
  rw [e] at h
  exact h
theorem below_three (o'' : Obj) : Below w.heap.size w (((w.alloc o).alloc o').alloc o'') := below_alloc (below_two w o o') o''
end
attribute [local go_sem] max2_int min2_int max_two min_two
theorem clamped_any (d s : Int) (h : 0 ≤ s) (w : World) : Calls Try.prog 53 #[.int .i64 d, .int .i64 0, .int .i64 s] w fun e w' => e = .returned (.int .i64 (clampN d s)) ∧ w = w' := by
  have hq : mx 0 (mn d s) = clampN d s := by
    unfold clampN
    simp only [mx, mn]
    repeat' split
    all_goals omega
  go_enter Try.func53, Try.ntmps53
  go_wp2
  all_goals go_ret
  all_goals exact ⟨congrArg (fun z => Ending.returned (.int .i64 z)) (by unfold clampN; clear hq; (repeat' split) <;> (repeat' split at *) <;> omega), rfl⟩
theorem rightN_in (c0 c1 c2 c3 c4 c5 c6 cap : Int) (l : List Pfx) (h : rightN c0 c1 c2 c3 c4 c5 c6 cap l = true) : ∀ x, x < 7 → spanL x ≤ spanV c0 c1 c2 c3 c4 c5 c6 x ∧ spanV c0 c1 c2 c3 c4 c5 c6 x ≤ 1000000 := by
  unfold rightN at h
  rw [Bool.and_eq_true, Bool.and_eq_true, List.all_eq_true] at h
  intro x hx
  exact of_decide_eq_true (h.1.1 x (List.mem_range.2 hx))

set_option maxHeartbeats 4000000 in
theorem wait_no (c0 c1 c2 c3 c4 c5 c6 cap : Int) (A : Option Addr) (l : List Pfx) (cc : Nat) (d : Int) (w : World) (hr : Kd.C k81 w A l.length l) (hc : l.length ≤ cc) (ha : AdrP l) (hm : l.length ≤ 140737488355328) (hn : rightN c0 c1 c2 c3 c4 c5 c6 cap l = false) :
    Calls Try.prog 43 #[.agg #[.int .i64 c0, .int .i64 c1, .int .i64 c2, .int .i64 c3, .int .i64 c4, .int .i64 c5, .int .i64 c6, .int .i64 cap, .slice A l.length cc], .int .i64 d] w fun e w' => e = .returned (.tuple #[.int .i64 0, .int .i64 2]) ∧ Below w.heap.size w w' := by
  have hmf : ∀ (fn : Fn) (first cap : Array Value) (w : World), (Instr.makeFunc fn first cap).run Try.prog w = .ok (.func fn first cap) w := fun _ _ _ _ => rfl
  have HR := Aside0.mk hr
  have HA := Aside0.mk ha
  clear hr ha
  go_enter_defers Try.func43, Try.ntmps43
  go_wp2_with (go_at_call 51; go_loud ((with_reducible refine (lright_any c0 c1 c2 c3 c4 c5 c6 cap A l cc _ (Kd.C_alloc (Kd.C_alloc (Kd.C_alloc HR.out _) _) _) hc HA.out hm).mono ?_); rintro e w1 ⟨h1, hb1⟩; rw [rightEnd, hn, if_neg Bool.false_ne_true] at h1; cases h1; have HB1 := Aside0.mk hb1))
  have B1 := (blk3_1 w 2 #[.int .i64 0] _ _).later hb1
  have B2 := (blk3_2 w 29 #[.int .i64 0] _ _).later hb1
  refine leaves_cons (f := 49) (args := #[.pointer (some ⟨w.heap.size + 1 + 1, 0, none⟩), .func (.func 52) #[] #[.pointer (some ⟨w.heap.size + 1, 0, none⟩)]]) (by simp) (by simp [go_sem]) ?_
  refine (caught_wait (w.heap.size + 1) 0 0 2 w1 (B2.cell 0 _ rfl) (B2.frozen 0) (B1.cell 0 _ rfl) (B1.frozen 0)).mono ?_
  rintro e u' w'' ⟨rfl, rfl, rfl⟩
  have z1 := ((B1.set_ 0 (.int .i64 0)).far (p := ⟨w.heap.size + 1 + 1, 0, none⟩) (by simp) (.int .i64 2)).cell 0 _ rfl
  have z2 := ((B2.far (p := ⟨w.heap.size + 1, 0, none⟩) (by simp) (.int .i64 0)).set_ 0 (.int .i64 2)).cell 0 _ rfl
  simp [Leaves, settle, results, Try.results43, go_sem, z1, z2]
  exact Below.setCell (Below.setCell (thenB (below_three w _ _ _) (by simp; omega) hb1) (by simp) _) (by simp; omega) _
set_option maxRecDepth 20000 in
set_option maxHeartbeats 4000000 in
theorem wait_yes (c0 c1 c2 c3 c4 c5 c6 cap : Int) (A : Option Addr) (l : List Pfx) (cc : Nat) (d : Int) (w : World) (hr : Kd.C k81 w A l.length l) (hc : l.length ≤ cc) (ha : AdrP l) (hm : l.length ≤ 140737488355328) (hn : rightN c0 c1 c2 c3 c4 c5 c6 cap l = true) :
    Calls Try.prog 43 #[.agg #[.int .i64 c0, .int .i64 c1, .int .i64 c2, .int .i64 c3, .int .i64 c4, .int .i64 c5, .int .i64 c6, .int .i64 cap, .slice A l.length cc], .int .i64 d] w fun e w' => e = .returned (.tuple #[.int .i64 (c0 + clampN d c1), .int .i64 0]) ∧ Below w.heap.size w w' := by
  have hmf : ∀ (fn : Fn) (first cap : Array Value) (w : World), (Instr.makeFunc fn first cap).run Try.prog w = .ok (.func fn first cap) w := fun _ _ _ _ => rfl
  have HR := Aside0.mk hr
  have HA := Aside0.mk ha
  clear hr ha
  go_enter_defers Try.func43, Try.ntmps43
  go_wp2_with (go_at_call 51; go_loud ((with_reducible refine (lright_any c0 c1 c2 c3 c4 c5 c6 cap A l cc _ (Kd.C_alloc (Kd.C_alloc (Kd.C_alloc HR.out _) _) _) hc HA.out hm).mono ?_); rintro e w1 ⟨h1, hb1⟩; rw [rightEnd, hn, if_pos rfl] at h1; cases h1; have HB1 := Aside0.mk hb1))
  have B0 := Aside0.mk ((blk3_0 w 24 #[.int .i64 c0, .int .i64 c1, .int .i64 c2, .int .i64 c3, .int .i64 c4, .int .i64 c5, .int .i64 c6, .int .i64 cap, .slice A l.length cc] _ _).later HB1.out)
  have B1 := Aside0.mk ((blk3_1 w 2 #[.int .i64 0] _ _).later HB1.out)
  have B2 := Aside0.mk ((blk3_2 w 29 #[.int .i64 0] _ _).later HB1.out)
  have k0 := B0.out.cell 0 _ rfl
  have k1 := B0.out.cell 1 _ rfl
  have hin := rightN_in c0 c1 c2 c3 c4 c5 c6 cap l hn
  have g1 := hin 0 (by omega)
  have g2 := hin 1 (by omega)
  simp only [spanL, spanV, List.getD_cons_succ, List.getD_cons_zero] at g1 g2
  have g3 := clampN_in d c1 g2.1
  obtain ⟨v, hv⟩ : ∃ v, clampN d c1 = v := ⟨_, rfl⟩
  have hcl := clamped_eq d c1 g2.1
  rw [hv] at hcl g3
  have HV := Aside0.mk hv
  have HCL := Aside0.mk hcl
  have gw : IntKind.i64.wrap (c0 + v) = c0 + v := by rw [IntKind.wrap_i64]; omega
  obtain ⟨g4, g5⟩ := g1
  obtain ⟨g6, g7⟩ := g3
  clear hin hcl hv
  have n0 := B1.out.cell 0 _ rfl
  have n1 := B1.out.frozen 0
  have e0 := B2.out.cell 0 _ rfl
  have e1 := B2.out.frozen 0
  have B1d : Blk w1 (w.heap.size + 1) 2 #[.int .i64 0] := B1.out
  have B2d : Blk w1 (w.heap.size + 1 + 1) 29 #[.int .i64 0] := B2.out
  have z1 := ((B1d.set_ 0 (.int .i64 (c0 + v))).far (p := ⟨w.heap.size + 1 + 1, 0, none⟩) (by simp) (.int .i64 0)).cell 0 _ rfl
  have z2 := ((B2d.far (p := ⟨w.heap.size + 1, 0, none⟩) (by simp) (.int .i64 (c0 + v))).set_ 0 (.int .i64 0)).cell 0 _ rfl
  refine wp_region_noPanic ?_
  go_region_with (go_at_call 53; go_loud ((with_reducible refine (clamped_any d c1 (by omega) _).mono ?_); rw [HV.out]; rintro e w2 ⟨rfl, rfl⟩; dsimp only))
  all_goals refine NoPanic.normal ?_
  all_goals go_wp2
  all_goals refine leaves_cons (f := 49) (args := #[.pointer (some ⟨w.heap.size + 1 + 1, 0, none⟩), .func (.func 52) #[] #[.pointer (some ⟨w.heap.size + 1, 0, none⟩)]]) (by simp) (by simp [go_sem]) ?_
  all_goals refine (caught_idle _ _ _).mono ?_
  all_goals rintro e u' w'' ⟨rfl, rfl, rfl⟩
  all_goals simp [Leaves, settle, results, Try.results43, go_sem, z1, z2, HV.out]
  all_goals exact below_drew (Below.setCell (p := ⟨w.heap.size + 1 + 1, 0, none⟩) (Below.setCell (p := ⟨w.heap.size + 1, 0, none⟩) (thenB (below_three w _ _ _) (by simp; omega) HB1.out) (Nat.le_succ _) _) (Nat.le_succ_of_le (Nat.le_succ _)) _)

set_option maxHeartbeats 4000000 in
theorem quiet_no (c0 c1 c2 c3 c4 c5 c6 cap : Int) (A : Option Addr) (l : List Pfx) (cc : Nat) (d : Int) (w : World) (hr : Kd.C k81 w A l.length l) (hc : l.length ≤ cc) (ha : AdrP l) (hm : l.length ≤ 140737488355328) (hn : rightN c0 c1 c2 c3 c4 c5 c6 cap l = false) :
    Calls Try.prog 54 #[.agg #[.int .i64 c0, .int .i64 c1, .int .i64 c2, .int .i64 c3, .int .i64 c4, .int .i64 c5, .int .i64 c6, .int .i64 cap, .slice A l.length cc], .int .i64 d] w fun e w' => e = .returned (.tuple #[.int .i64 0, .int .i64 2]) ∧ Below w.heap.size w w' := by
  have hmf : ∀ (fn : Fn) (first cap : Array Value) (w : World), (Instr.makeFunc fn first cap).run Try.prog w = .ok (.func fn first cap) w := fun _ _ _ _ => rfl
  have HR := Aside0.mk hr
  have HA := Aside0.mk ha
  clear hr ha
  go_enter_defers Try.func54, Try.ntmps54
  go_wp2_with (go_at_call 51; go_loud ((with_reducible refine (lright_any c0 c1 c2 c3 c4 c5 c6 cap A l cc _ (Kd.C_alloc (Kd.C_alloc (Kd.C_alloc HR.out _) _) _) hc HA.out hm).mono ?_); rintro e w1 ⟨h1, hb1⟩; rw [rightEnd, hn, if_neg Bool.false_ne_true] at h1; cases h1; have HB1 := Aside0.mk hb1))
  have B1 := (blk3_1 w 2 #[.int .i64 0] _ _).later hb1
  have B2 := (blk3_2 w 29 #[.int .i64 0] _ _).later hb1
  refine leaves_cons (f := 49) (args := #[.pointer (some ⟨w.heap.size + 1 + 1, 0, none⟩), .func (.func 63) #[] #[.pointer (some ⟨w.heap.size + 1, 0, none⟩)]]) (by simp) (by simp [go_sem]) ?_
  refine (caught_quiet (w.heap.size + 1) 0 0 2 w1 (B2.cell 0 _ rfl) (B2.frozen 0) (B1.cell 0 _ rfl) (B1.frozen 0)).mono ?_
  rintro e u' w'' ⟨rfl, rfl, rfl⟩
  have z1 := ((B1.set_ 0 (.int .i64 0)).far (p := ⟨w.heap.size + 1 + 1, 0, none⟩) (by simp) (.int .i64 2)).cell 0 _ rfl
  have z2 := ((B2.far (p := ⟨w.heap.size + 1, 0, none⟩) (by simp) (.int .i64 0)).set_ 0 (.int .i64 2)).cell 0 _ rfl
  simp [Leaves, settle, results, Try.results54, go_sem, z1, z2]
  exact Below.setCell (Below.setCell (thenB (below_three w _ _ _) (by simp; omega) hb1) (by simp) _) (by simp; omega) _
set_option maxRecDepth 20000 in
set_option maxHeartbeats 4000000 in
theorem quiet_yes (c0 c1 c2 c3 c4 c5 c6 cap : Int) (A : Option Addr) (l : List Pfx) (cc : Nat) (d : Int) (w : World) (hr : Kd.C k81 w A l.length l) (hc : l.length ≤ cc) (ha : AdrP l) (hm : l.length ≤ 140737488355328) (hn : rightN c0 c1 c2 c3 c4 c5 c6 cap l = true) :
    Calls Try.prog 54 #[.agg #[.int .i64 c0, .int .i64 c1, .int .i64 c2, .int .i64 c3, .int .i64 c4, .int .i64 c5, .int .i64 c6, .int .i64 cap, .slice A l.length cc], .int .i64 d] w fun e w' => e = .returned (.tuple #[.int .i64 (c5 + clampN d c6), .int .i64 0]) ∧ Below w.heap.size w w' := by
  have hmf : ∀ (fn : Fn) (first cap : Array Value) (w : World), (Instr.makeFunc fn first cap).run Try.prog w = .ok (.func fn first cap) w := fun _ _ _ _ => rfl
  have HR := Aside0.mk hr
  have HA := Aside0.mk ha
  clear hr ha
  go_enter_defers Try.func54, Try.ntmps54
  go_wp2_with (go_at_call 51; go_loud ((with_reducible refine (lright_any c0 c1 c2 c3 c4 c5 c6 cap A l cc _ (Kd.C_alloc (Kd.C_alloc (Kd.C_alloc HR.out _) _) _) hc HA.out hm).mono ?_); rintro e w1 ⟨h1, hb1⟩; rw [rightEnd, hn, if_pos rfl] at h1; cases h1; have HB1 := Aside0.mk hb1))
  have B0 := Aside0.mk ((blk3_0 w 24 #[.int .i64 c0, .int .i64 c1, .int .i64 c2, .int .i64 c3, .int .i64 c4, .int .i64 c5, .int .i64 c6, .int .i64 cap, .slice A l.length cc] _ _).later HB1.out)
  have B1 := Aside0.mk ((blk3_1 w 2 #[.int .i64 0] _ _).later HB1.out)
  have B2 := Aside0.mk ((blk3_2 w 29 #[.int .i64 0] _ _).later HB1.out)
  have k0 := B0.out.cell 5 _ rfl
  have k1 := B0.out.cell 6 _ rfl
  have hin := rightN_in c0 c1 c2 c3 c4 c5 c6 cap l hn
  have g1 := hin 5 (by omega)
  have g2 := hin 6 (by omega)
  simp only [spanL, spanV, List.getD_cons_succ, List.getD_cons_zero] at g1 g2
  have g3 := clampN_in d c6 g2.1
  obtain ⟨v, hv⟩ : ∃ v, clampN d c6 = v := ⟨_, rfl⟩
  have hcl := clamped_eq d c6 g2.1
  rw [hv] at hcl g3
  have HV := Aside0.mk hv
  have HCL := Aside0.mk hcl
  have gw : IntKind.i64.wrap (c5 + v) = c5 + v := by rw [IntKind.wrap_i64]; omega
  obtain ⟨g4, g5⟩ := g1
  obtain ⟨g6, g7⟩ := g3
  clear hin hcl hv
  have n0 := B1.out.cell 0 _ rfl
  have n1 := B1.out.frozen 0
  have e0 := B2.out.cell 0 _ rfl
  have e1 := B2.out.frozen 0
  have B1d : Blk w1 (w.heap.size + 1) 2 #[.int .i64 0] := B1.out
  have B2d : Blk w1 (w.heap.size + 1 + 1) 29 #[.int .i64 0] := B2.out
  have z1 := ((B1d.set_ 0 (.int .i64 (c5 + v))).far (p := ⟨w.heap.size + 1 + 1, 0, none⟩) (by simp) (.int .i64 0)).cell 0 _ rfl
  have z2 := ((B2d.far (p := ⟨w.heap.size + 1, 0, none⟩) (by simp) (.int .i64 (c5 + v))).set_ 0 (.int .i64 0)).cell 0 _ rfl
  refine wp_region_noPanic ?_
  go_region_with (go_at_call 53; go_loud ((with_reducible refine (clamped_any d c6 (by omega) _).mono ?_); rw [HV.out]; rintro e w2 ⟨rfl, rfl⟩; dsimp only))
  all_goals refine NoPanic.normal ?_
  all_goals go_wp2
  all_goals refine leaves_cons (f := 49) (args := #[.pointer (some ⟨w.heap.size + 1 + 1, 0, none⟩), .func (.func 63) #[] #[.pointer (some ⟨w.heap.size + 1, 0, none⟩)]]) (by simp) (by simp [go_sem]) ?_
  all_goals refine (caught_idle _ _ _).mono ?_
  all_goals rintro e u' w'' ⟨rfl, rfl, rfl⟩
  all_goals simp [Leaves, settle, results, Try.results54, go_sem, z1, z2, HV.out]
  all_goals exact below_drew (Below.setCell (p := ⟨w.heap.size + 1 + 1, 0, none⟩) (Below.setCell (p := ⟨w.heap.size + 1, 0, none⟩) (thenB (below_three w _ _ _) (by simp; omega) HB1.out) (Nat.le_succ _) _) (Nat.le_succ_of_le (Nat.le_succ _)) _)

end Go.Proofs.Ytokjjppfdmkjeaa.A
