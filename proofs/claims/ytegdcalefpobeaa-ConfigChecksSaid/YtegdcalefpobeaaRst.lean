/- config: the document's answer: the usual configuration, which ones are the same. -/
import Derived.Test.YtegdcalefpobeaaStdZ
import Derived.Test.YtegdcalefpobeaaRsp
import Derived.ChangeKeysEq
set_option linter.unusedVariables false
set_option linter.unusedSimpArgs false
namespace Go.Proofs.Ytegdcalefpobeaa.A
open Go.RowKit Go.Proofs.YtegdcalefpobeaaW.PrintWords Go.Proofs.YtegdcalefpobeaaW.PrintLast Go.Proofs.YtegdcalefpobeaaW.PrintMore Go.Proofs.Ytegdcalefpobeaa.PConfigChecks

theorem eqI_cons {P : Program} {w : World} {d : Nat} {e : TypeId} {c i : Nat} {xs ys : Array Value} {is : List Nat} {a b : Value} {r s : Bool} (ha : (part e xs (i * c)).run P w = .ok a w) (hb : (part e ys (i * c)).run P w = .ok b w) (he : (Op.equalIn d e a b).run P w = .ok r w) (hr : (Op.eqItems d e c xs ys is).run P w = .ok s w) : (Op.eqItems d e c xs ys (i :: is)).run P w = .ok (r && s) w := by
  simp only [Op.eqItems, Sem.run_bind, ha, hb, he, Result.andThen_ok]
  cases r
  · simp
  · simpa using hr
theorem eqI_last {P : Program} {w : World} {d : Nat} {e : TypeId} {c i : Nat} {xs ys : Array Value} {a b : Value} {r : Bool} (ha : (part e xs (i * c)).run P w = .ok a w) (hb : (part e ys (i * c)).run P w = .ok b w) (he : (Op.equalIn d e a b).run P w = .ok r w) : (Op.eqItems d e c xs ys [i]).run P w = .ok r w := by
  have h := eqI_cons (is := []) (s := true) ha hb he (by simp [Op.eqItems])
  simpa using h
set_option maxRecDepth 20000 in
theorem eqA47 (d : Nat) (w : World) (x0 y0 x1 y1 x2 y2 x3 y3 x4 y4 x5 y5 x6 y6 : Int) :
    (Op.equalIn (d + 2) 47 (.agg #[.int .i64 x0, .int .i64 x1, .int .i64 x2, .int .i64 x3, .int .i64 x4, .int .i64 x5, .int .i64 x6]) (.agg #[.int .i64 y0, .int .i64 y1, .int .i64 y2, .int .i64 y3, .int .i64 y4, .int .i64 y5, .int .i64 y6])).run Try.prog w = .ok (x0 == y0 && (x1 == y1 && (x2 == y2 && (x3 == y3 && (x4 == y4 && (x5 == y5 && (x6 == y6))))))) w := by
  obtain ⟨inf, hi⟩ : ∃ i, Try.prog.info? 2 = some i := ⟨_, rfl⟩
  rw [run_equalIn_array (P := Try.prog) w (d + 1) _ _ Try.underlying47 hi, show Try.prog.cellsOf 2 = 1 by kernel_rfl, show List.range 7 = [0, 1, 2, 3, 4, 5, 6] from rfl]
  clear hi
  refine eqI_cons (by go_simp; rfl) (by go_simp; rfl) (by go_simp) ?_
  refine eqI_cons (by go_simp; rfl) (by go_simp; rfl) (by go_simp) ?_
  refine eqI_cons (by go_simp; rfl) (by go_simp; rfl) (by go_simp) ?_
  refine eqI_cons (by go_simp; rfl) (by go_simp; rfl) (by go_simp) ?_
  refine eqI_cons (by go_simp; rfl) (by go_simp; rfl) (by go_simp) ?_
  refine eqI_cons (by go_simp; rfl) (by go_simp; rfl) (by go_simp) ?_
  exact eqI_last (by go_simp; rfl) (by go_simp; rfl) (by go_simp)
theorem same_loop (l : List Pfx) (hm : l.length ≤ 140737488355328) : ∀ d i : Nat, i + d = l.length → waywardenref02_Same.l0 (d + 1) l l (i : Int) = some true := by
  intro d
  induction d with
  | zero =>
    intro i h
    rw [waywardenref02_Same.l0, if_neg (by omega)]
  | succ d ih =>
    intro i h
    rw [waywardenref02_Same.l0, if_pos (by omega), if_pos (by omega), if_pos (by omega)]
    rw [if_neg (by simp)]
    have ew : wrap64 ((i : Int) + 1) = ((i + 1 : Nat) : Int) := by rw [wrap_id (by omega) (by omega)]; omega
    rw [ew]
    exact ih (i + 1) (by omega)
theorem same_self (l : List Pfx) (hm : l.length ≤ 140737488355328) : waywardenref02_Same.f (l.length + 1) l l = some true := by
  unfold waywardenref02_Same.f
  rw [if_pos rfl]
  exact same_loop l hm l.length 0 (by omega)
set_option maxRecDepth 100000 in
set_option maxHeartbeats 8000000 in
theorem refstd_no (A : Option Addr) (l : List Pfx) (cc : Nat) (w : World) (hr : Kd.C k28 w A l.length l) (hc : l.length ≤ cc) (ha : AdrP l) (hm : l.length ≤ 140737488355328) (hn : ownN l = false) :
    Calls Try.prog 13 #[.slice A l.length cc] w fun e w' => e = .returned (.tuple #[.agg #[.int .i64 0, .int .i64 0, .int .i64 0, .int .i64 0, .int .i64 0, .int .i64 0, .int .i64 0, .int .i64 0, .slice none 0 0], .int .i64 2]) ∧ Below w.heap.size w w' := by
  have HR := Aside0.mk hr
  have HA := Aside0.mk ha
  clear hr ha
  have HN := Aside0.mk hn
  clear hn
  have HM : Aside0 (Many w [(w.heap.size, 24, #[.int .i64 0, .int .i64 0, .int .i64 0, .int .i64 0, .int .i64 0, .int .i64 0, .int .i64 0, .int .i64 0, .slice none 0 0])] (w.alloc (.cells #[.int .i64 0, .int .i64 0, .int .i64 0, .int .i64 0, .int .i64 0, .int .i64 0, .int .i64 0, .int .i64 0, .slice none 0 0] 24))) := ⟨by have h := Many.grow (Many.none w) 24 #[.int .i64 0, .int .i64 0, .int .i64 0, .int .i64 0, .int .i64 0, .int .i64 0, .int .i64 0, .int .i64 0, .slice none 0 0]; simpa using h⟩
  have k0 := Blk.cell (Many.blk HM.out 0 _ _ _ rfl) 0 _ rfl
  have kf0 := Blk.frozen (Many.blk HM.out 0 _ _ _ rfl) 0
  have k1 := Blk.cell (Many.blk HM.out 0 _ _ _ rfl) 1 _ rfl
  have kf1 := Blk.frozen (Many.blk HM.out 0 _ _ _ rfl) 1
  have k2 := Blk.cell (Many.blk HM.out 0 _ _ _ rfl) 2 _ rfl
  have kf2 := Blk.frozen (Many.blk HM.out 0 _ _ _ rfl) 2
  have k3 := Blk.cell (Many.blk HM.out 0 _ _ _ rfl) 3 _ rfl
  have kf3 := Blk.frozen (Many.blk HM.out 0 _ _ _ rfl) 3
  have k4 := Blk.cell (Many.blk HM.out 0 _ _ _ rfl) 4 _ rfl
  have kf4 := Blk.frozen (Many.blk HM.out 0 _ _ _ rfl) 4
  have k5 := Blk.cell (Many.blk HM.out 0 _ _ _ rfl) 5 _ rfl
  have kf5 := Blk.frozen (Many.blk HM.out 0 _ _ _ rfl) 5
  have k6 := Blk.cell (Many.blk HM.out 0 _ _ _ rfl) 6 _ rfl
  have kf6 := Blk.frozen (Many.blk HM.out 0 _ _ _ rfl) 6
  have k7 := Blk.cell (Many.blk HM.out 0 _ _ _ rfl) 7 _ rfl
  have kf7 := Blk.frozen (Many.blk HM.out 0 _ _ _ rfl) 7
  have k8 := Blk.cell (Many.blk HM.out 0 _ _ _ rfl) 8 _ rfl
  have kf8 := Blk.frozen (Many.blk HM.out 0 _ _ _ rfl) 8
  go_enter Try.func13, Try.ntmps13
  go_wp2_with (go_at_call 36; go_loud ((with_reducible refine (refown_any A l cc _ (Kd.C_below HR.out HM.out.bel) hc HA.out hm).mono ?_); rw [HN.out]; rintro e w9 ⟨rfl, hb⟩; have HM := Aside0.mk (Many.later HM.out hb); (try clear k0 k1 k2 k3 k4 k5 k6 k7 k8 kf0 kf1 kf2 kf3 kf4 kf5 kf6 kf7 kf8); have k0 := Blk.cell (Many.blk HM.out 0 _ _ _ rfl) 0 _ rfl; have kf0 := Blk.frozen (Many.blk HM.out 0 _ _ _ rfl) 0; have k1 := Blk.cell (Many.blk HM.out 0 _ _ _ rfl) 1 _ rfl; have kf1 := Blk.frozen (Many.blk HM.out 0 _ _ _ rfl) 1; have k2 := Blk.cell (Many.blk HM.out 0 _ _ _ rfl) 2 _ rfl; have kf2 := Blk.frozen (Many.blk HM.out 0 _ _ _ rfl) 2; have k3 := Blk.cell (Many.blk HM.out 0 _ _ _ rfl) 3 _ rfl; have kf3 := Blk.frozen (Many.blk HM.out 0 _ _ _ rfl) 3; have k4 := Blk.cell (Many.blk HM.out 0 _ _ _ rfl) 4 _ rfl; have kf4 := Blk.frozen (Many.blk HM.out 0 _ _ _ rfl) 4; have k5 := Blk.cell (Many.blk HM.out 0 _ _ _ rfl) 5 _ rfl; have kf5 := Blk.frozen (Many.blk HM.out 0 _ _ _ rfl) 5; have k6 := Blk.cell (Many.blk HM.out 0 _ _ _ rfl) 6 _ rfl; have kf6 := Blk.frozen (Many.blk HM.out 0 _ _ _ rfl) 6; have k7 := Blk.cell (Many.blk HM.out 0 _ _ _ rfl) 7 _ rfl; have kf7 := Blk.frozen (Many.blk HM.out 0 _ _ _ rfl) 7; have k8 := Blk.cell (Many.blk HM.out 0 _ _ _ rfl) 8 _ rfl; have kf8 := Blk.frozen (Many.blk HM.out 0 _ _ _ rfl) 8; clear hb))
  have O := OneSet.nine (Many.blk HM.out 0 _ _ _ rfl) rfl (.int .i64 0) (.int .i64 0) (.int .i64 0) (.int .i64 0) (.int .i64 0) (.int .i64 0) (.int .i64 0) (.int .i64 0) (.slice none 0 0)
  exact bodyPost_ret (results_ct (p := 2) (u := 3) rfl _ _ ⟨w.heap.size, 0, none⟩ _ rfl (load_blk O.blk Try.underlying24 rfl (by kernel_rfl))) rfl ⟨rfl, HM.out.bel.trans O.bel⟩
set_option maxRecDepth 100000 in
set_option maxHeartbeats 8000000 in
theorem refstd_yes (A : Option Addr) (l : List Pfx) (cc : Nat) (w : World) (hr : Kd.C k28 w A l.length l) (hc : l.length ≤ cc) (ha : AdrP l) (hm : l.length ≤ 140737488355328) (hn : ownN l = true) :
    Calls Try.prog 13 #[.slice A l.length cc] w fun e w' => (∃ B n d, e = .returned (.tuple #[.agg #[.int .i64 25, .int .i64 10, .int .i64 180, .int .i64 120, .int .i64 120, .int .i64 1, .int .i64 4, .int .i64 256, .slice B n d], .int .i64 0]) ∧ n = l.length ∧ n ≤ d ∧ Kd.C k28 w' B l.length l) ∧ Below w.heap.size w w' := by
  have h16 : l.length ≤ 16 := by
    unfold ownN at hn
    simp at hn
    exact hn.1
  have H16 := Aside0.mk h16
  have HR := Aside0.mk hr
  have HA := Aside0.mk ha
  clear hr ha
  have HN := Aside0.mk hn
  clear hn h16
  have HM : Aside0 (Many w [(w.heap.size, 24, #[.int .i64 0, .int .i64 0, .int .i64 0, .int .i64 0, .int .i64 0, .int .i64 0, .int .i64 0, .int .i64 0, .slice none 0 0])] (w.alloc (.cells #[.int .i64 0, .int .i64 0, .int .i64 0, .int .i64 0, .int .i64 0, .int .i64 0, .int .i64 0, .int .i64 0, .slice none 0 0] 24))) := ⟨by have h := Many.grow (Many.none w) 24 #[.int .i64 0, .int .i64 0, .int .i64 0, .int .i64 0, .int .i64 0, .int .i64 0, .int .i64 0, .int .i64 0, .slice none 0 0]; simpa using h⟩
  have k0 := Blk.cell (Many.blk HM.out 0 _ _ _ rfl) 0 _ rfl
  have kf0 := Blk.frozen (Many.blk HM.out 0 _ _ _ rfl) 0
  have k1 := Blk.cell (Many.blk HM.out 0 _ _ _ rfl) 1 _ rfl
  have kf1 := Blk.frozen (Many.blk HM.out 0 _ _ _ rfl) 1
  have k2 := Blk.cell (Many.blk HM.out 0 _ _ _ rfl) 2 _ rfl
  have kf2 := Blk.frozen (Many.blk HM.out 0 _ _ _ rfl) 2
  have k3 := Blk.cell (Many.blk HM.out 0 _ _ _ rfl) 3 _ rfl
  have kf3 := Blk.frozen (Many.blk HM.out 0 _ _ _ rfl) 3
  have k4 := Blk.cell (Many.blk HM.out 0 _ _ _ rfl) 4 _ rfl
  have kf4 := Blk.frozen (Many.blk HM.out 0 _ _ _ rfl) 4
  have k5 := Blk.cell (Many.blk HM.out 0 _ _ _ rfl) 5 _ rfl
  have kf5 := Blk.frozen (Many.blk HM.out 0 _ _ _ rfl) 5
  have k6 := Blk.cell (Many.blk HM.out 0 _ _ _ rfl) 6 _ rfl
  have kf6 := Blk.frozen (Many.blk HM.out 0 _ _ _ rfl) 6
  have k7 := Blk.cell (Many.blk HM.out 0 _ _ _ rfl) 7 _ rfl
  have kf7 := Blk.frozen (Many.blk HM.out 0 _ _ _ rfl) 7
  have k8 := Blk.cell (Many.blk HM.out 0 _ _ _ rfl) 8 _ rfl
  have kf8 := Blk.frozen (Many.blk HM.out 0 _ _ _ rfl) 8
  go_enter Try.func13, Try.ntmps13
  go_wp2_with (first
    | (go_at_call 36; go_loud ((with_reducible refine (refown_any A l cc _ (Kd.C_below HR.out HM.out.bel) hc HA.out hm).mono ?_); rw [HN.out]; rintro e w9 ⟨rfl, hb⟩; have HM := Aside0.mk (Many.later HM.out hb); (try clear k0 k1 k2 k3 k4 k5 k6 k7 k8 kf0 kf1 kf2 kf3 kf4 kf5 kf6 kf7 kf8); have k0 := Blk.cell (Many.blk HM.out 0 _ _ _ rfl) 0 _ rfl; have kf0 := Blk.frozen (Many.blk HM.out 0 _ _ _ rfl) 0; have k1 := Blk.cell (Many.blk HM.out 0 _ _ _ rfl) 1 _ rfl; have kf1 := Blk.frozen (Many.blk HM.out 0 _ _ _ rfl) 1; have k2 := Blk.cell (Many.blk HM.out 0 _ _ _ rfl) 2 _ rfl; have kf2 := Blk.frozen (Many.blk HM.out 0 _ _ _ rfl) 2; have k3 := Blk.cell (Many.blk HM.out 0 _ _ _ rfl) 3 _ rfl; have kf3 := Blk.frozen (Many.blk HM.out 0 _ _ _ rfl) 3; have k4 := Blk.cell (Many.blk HM.out 0 _ _ _ rfl) 4 _ rfl; have kf4 := Blk.frozen (Many.blk HM.out 0 _ _ _ rfl) 4; have k5 := Blk.cell (Many.blk HM.out 0 _ _ _ rfl) 5 _ rfl; have kf5 := Blk.frozen (Many.blk HM.out 0 _ _ _ rfl) 5; have k6 := Blk.cell (Many.blk HM.out 0 _ _ _ rfl) 6 _ rfl; have kf6 := Blk.frozen (Many.blk HM.out 0 _ _ _ rfl) 6; have k7 := Blk.cell (Many.blk HM.out 0 _ _ _ rfl) 7 _ rfl; have kf7 := Blk.frozen (Many.blk HM.out 0 _ _ _ rfl) 7; have k8 := Blk.cell (Many.blk HM.out 0 _ _ _ rfl) 8 _ rfl; have kf8 := Blk.frozen (Many.blk HM.out 0 _ _ _ rfl) 8; clear hb))
    | (at_builtin; go_loud (refine Kd.R_append_rows (w0 := w9) k28 (Rr := k28.K (w9.alloc (.cells #[] 28))) w9.heap.size rfl _ _ 22 28 (.agg #[.int .u32 0, .int .i64 0]) 16 rfl Try.underlying22 info_pfx rfl (by decide) (by decide) _ [] l A l.length cc (fun _ => True) (fun _ => False) rfl rfl (R_lit_none k28 28 w9 w9.heap.size (Nat.le_refl _)) (Kd.C_alloc (Kd.C_below HR.out HM.out.bel) _) pfx_KM (fun _ h => h.elim) (fun _ _ => trivial) (below_alloc (Below.refl _ _) _) (by simp) (by have := H16.out; simp; omega) ?_); intro v1 w1 hR hb hG hO; obtain ⟨B, d, rfl⟩ := Kd.R_slice hR; have HRR := Aside0.mk hR; clear hR hG hO; have Hlt := Aside0.mk (World.block_lt_of_cell? w9 _ k0); have HM := Aside0.mk (Many.later HM.out hb); (try clear k0 k1 k2 k3 k4 k5 k6 k7 k8 kf0 kf1 kf2 kf3 kf4 kf5 kf6 kf7 kf8); have k0 := Blk.cell (Many.blk HM.out 0 _ _ _ rfl) 0 _ rfl; have kf0 := Blk.frozen (Many.blk HM.out 0 _ _ _ rfl) 0; have k1 := Blk.cell (Many.blk HM.out 0 _ _ _ rfl) 1 _ rfl; have kf1 := Blk.frozen (Many.blk HM.out 0 _ _ _ rfl) 1; have k2 := Blk.cell (Many.blk HM.out 0 _ _ _ rfl) 2 _ rfl; have kf2 := Blk.frozen (Many.blk HM.out 0 _ _ _ rfl) 2; have k3 := Blk.cell (Many.blk HM.out 0 _ _ _ rfl) 3 _ rfl; have kf3 := Blk.frozen (Many.blk HM.out 0 _ _ _ rfl) 3; have k4 := Blk.cell (Many.blk HM.out 0 _ _ _ rfl) 4 _ rfl; have kf4 := Blk.frozen (Many.blk HM.out 0 _ _ _ rfl) 4; have k5 := Blk.cell (Many.blk HM.out 0 _ _ _ rfl) 5 _ rfl; have kf5 := Blk.frozen (Many.blk HM.out 0 _ _ _ rfl) 5; have k6 := Blk.cell (Many.blk HM.out 0 _ _ _ rfl) 6 _ rfl; have kf6 := Blk.frozen (Many.blk HM.out 0 _ _ _ rfl) 6; have k7 := Blk.cell (Many.blk HM.out 0 _ _ _ rfl) 7 _ rfl; have kf7 := Blk.frozen (Many.blk HM.out 0 _ _ _ rfl) 7; have k8 := Blk.cell (Many.blk HM.out 0 _ _ _ rfl) 8 _ rfl; have kf8 := Blk.frozen (Many.blk HM.out 0 _ _ _ rfl) 8; clear hb))
  have O := OneSet.nine (Many.blk HM.out 0 _ _ _ rfl) rfl (.int .i64 25) (.int .i64 10) (.int .i64 180) (.int .i64 120) (.int .i64 120) (.int .i64 1) (.int .i64 4) (.int .i64 256) (.slice B l.length d)
  refine bodyPost_ret (results_ct (p := 2) (u := 3) rfl _ _ ⟨w.heap.size, 0, none⟩ _ rfl (load_blk O.blk Try.underlying24 rfl (by kernel_rfl))) rfl ⟨⟨B, _, d, rfl, rfl, (Kd.R_reads' HRR.out).2.1, ?_⟩, HM.out.bel.trans O.bel⟩
  have hlt := Hlt.out
  have r := Kd.R_mono (Kd.R_bound HRR.out) (ok' := fun k => k ≠ w.heap.size) (fun k hk => by have := hk.2.1; omega)
  exact (Kd.R_reads' (Kd.R_step r (fun k hk _ => O.far k hk))).2.2
attribute [local go_sem high] eqA47 in
set_option maxRecDepth 100000 in
set_option maxHeartbeats 8000000 in
theorem refsame_self (c0 c1 c2 c3 c4 c5 c6 cap : Int) (A A2 : Option Addr) (l : List Pfx) (cc cc2 : Nat) (w : World) (hr : Kd.C k28 w A l.length l) (hc : l.length ≤ cc) (hr2 : Kd.C k28 w A2 l.length l) (hc2 : l.length ≤ cc2) (hm : l.length ≤ 140737488355328) :
    Calls Try.prog 17 #[.agg #[.int .i64 c0, .int .i64 c1, .int .i64 c2, .int .i64 c3, .int .i64 c4, .int .i64 c5, .int .i64 c6, .int .i64 cap, .slice A l.length cc], .agg #[.int .i64 c0, .int .i64 c1, .int .i64 c2, .int .i64 c3, .int .i64 c4, .int .i64 c5, .int .i64 c6, .int .i64 cap, .slice A2 l.length cc2]] w fun e w' => e = .returned (.bool true) ∧ Below w.heap.size w w' := by
  have HR := Aside0.mk hr
  have HR2 := Aside0.mk hr2
  have HSS := Aside0.mk (same_self l hm)
  clear hr hr2
  have HM : Aside0 (Many w [(w.heap.size, 24, #[.int .i64 c0, .int .i64 c1, .int .i64 c2, .int .i64 c3, .int .i64 c4, .int .i64 c5, .int .i64 c6, .int .i64 cap, .slice A l.length cc]), ((w.heap.size + 1), 24, #[.int .i64 c0, .int .i64 c1, .int .i64 c2, .int .i64 c3, .int .i64 c4, .int .i64 c5, .int .i64 c6, .int .i64 cap, .slice A2 l.length cc2])] ((w.alloc (.cells #[.int .i64 c0, .int .i64 c1, .int .i64 c2, .int .i64 c3, .int .i64 c4, .int .i64 c5, .int .i64 c6, .int .i64 cap, .slice A l.length cc] 24)).alloc (.cells #[.int .i64 c0, .int .i64 c1, .int .i64 c2, .int .i64 c3, .int .i64 c4, .int .i64 c5, .int .i64 c6, .int .i64 cap, .slice A2 l.length cc2] 24))) := ⟨by have h := Many.grow (Many.grow (Many.none w) 24 #[.int .i64 c0, .int .i64 c1, .int .i64 c2, .int .i64 c3, .int .i64 c4, .int .i64 c5, .int .i64 c6, .int .i64 cap, .slice A l.length cc]) 24 #[.int .i64 c0, .int .i64 c1, .int .i64 c2, .int .i64 c3, .int .i64 c4, .int .i64 c5, .int .i64 c6, .int .i64 cap, .slice A2 l.length cc2]; simpa using h⟩
  have k0 := Blk.cell (Many.blk HM.out 0 _ _ _ rfl) 0 _ rfl
  have k1 := Blk.cell (Many.blk HM.out 0 _ _ _ rfl) 1 _ rfl
  have k2 := Blk.cell (Many.blk HM.out 0 _ _ _ rfl) 2 _ rfl
  have k3 := Blk.cell (Many.blk HM.out 0 _ _ _ rfl) 3 _ rfl
  have k4 := Blk.cell (Many.blk HM.out 0 _ _ _ rfl) 4 _ rfl
  have k5 := Blk.cell (Many.blk HM.out 0 _ _ _ rfl) 5 _ rfl
  have k6 := Blk.cell (Many.blk HM.out 0 _ _ _ rfl) 6 _ rfl
  have k7 := Blk.cell (Many.blk HM.out 0 _ _ _ rfl) 7 _ rfl
  have k8 := Blk.cell (Many.blk HM.out 0 _ _ _ rfl) 8 _ rfl
  have q0 := Blk.cell (Many.blk HM.out 1 _ _ _ rfl) 0 _ rfl
  have q1 := Blk.cell (Many.blk HM.out 1 _ _ _ rfl) 1 _ rfl
  have q2 := Blk.cell (Many.blk HM.out 1 _ _ _ rfl) 2 _ rfl
  have q3 := Blk.cell (Many.blk HM.out 1 _ _ _ rfl) 3 _ rfl
  have q4 := Blk.cell (Many.blk HM.out 1 _ _ _ rfl) 4 _ rfl
  have q5 := Blk.cell (Many.blk HM.out 1 _ _ _ rfl) 5 _ rfl
  have q6 := Blk.cell (Many.blk HM.out 1 _ _ _ rfl) 6 _ rfl
  have q7 := Blk.cell (Many.blk HM.out 1 _ _ _ rfl) 7 _ rfl
  have q8 := Blk.cell (Many.blk HM.out 1 _ _ _ rfl) 8 _ rfl
  go_enter Try.func17, Try.ntmps17
  go_upto_region 1 with fail
  have k0' : ∀ w' : World, Many w [(w.heap.size, 24, #[.int .i64 c0, .int .i64 c1, .int .i64 c2, .int .i64 c3, .int .i64 c4, .int .i64 c5, .int .i64 c6, .int .i64 cap, .slice A l.length cc]), ((w.heap.size + 1), 24, #[.int .i64 c0, .int .i64 c1, .int .i64 c2, .int .i64 c3, .int .i64 c4, .int .i64 c5, .int .i64 c6, .int .i64 cap, .slice A2 l.length cc2])] w' → w'.cell? ⟨w.heap.size, 0, none⟩ = some (.int .i64 c0) := fun w' h => Blk.cell (Many.blk h 0 _ _ _ rfl) 0 _ rfl
  have k1' : ∀ w' : World, Many w [(w.heap.size, 24, #[.int .i64 c0, .int .i64 c1, .int .i64 c2, .int .i64 c3, .int .i64 c4, .int .i64 c5, .int .i64 c6, .int .i64 cap, .slice A l.length cc]), ((w.heap.size + 1), 24, #[.int .i64 c0, .int .i64 c1, .int .i64 c2, .int .i64 c3, .int .i64 c4, .int .i64 c5, .int .i64 c6, .int .i64 cap, .slice A2 l.length cc2])] w' → w'.cell? ⟨w.heap.size, 1, none⟩ = some (.int .i64 c1) := fun w' h => Blk.cell (Many.blk h 0 _ _ _ rfl) 1 _ rfl
  have k2' : ∀ w' : World, Many w [(w.heap.size, 24, #[.int .i64 c0, .int .i64 c1, .int .i64 c2, .int .i64 c3, .int .i64 c4, .int .i64 c5, .int .i64 c6, .int .i64 cap, .slice A l.length cc]), ((w.heap.size + 1), 24, #[.int .i64 c0, .int .i64 c1, .int .i64 c2, .int .i64 c3, .int .i64 c4, .int .i64 c5, .int .i64 c6, .int .i64 cap, .slice A2 l.length cc2])] w' → w'.cell? ⟨w.heap.size, 2, none⟩ = some (.int .i64 c2) := fun w' h => Blk.cell (Many.blk h 0 _ _ _ rfl) 2 _ rfl
  have k3' : ∀ w' : World, Many w [(w.heap.size, 24, #[.int .i64 c0, .int .i64 c1, .int .i64 c2, .int .i64 c3, .int .i64 c4, .int .i64 c5, .int .i64 c6, .int .i64 cap, .slice A l.length cc]), ((w.heap.size + 1), 24, #[.int .i64 c0, .int .i64 c1, .int .i64 c2, .int .i64 c3, .int .i64 c4, .int .i64 c5, .int .i64 c6, .int .i64 cap, .slice A2 l.length cc2])] w' → w'.cell? ⟨w.heap.size, 3, none⟩ = some (.int .i64 c3) := fun w' h => Blk.cell (Many.blk h 0 _ _ _ rfl) 3 _ rfl
  have k4' : ∀ w' : World, Many w [(w.heap.size, 24, #[.int .i64 c0, .int .i64 c1, .int .i64 c2, .int .i64 c3, .int .i64 c4, .int .i64 c5, .int .i64 c6, .int .i64 cap, .slice A l.length cc]), ((w.heap.size + 1), 24, #[.int .i64 c0, .int .i64 c1, .int .i64 c2, .int .i64 c3, .int .i64 c4, .int .i64 c5, .int .i64 c6, .int .i64 cap, .slice A2 l.length cc2])] w' → w'.cell? ⟨w.heap.size, 4, none⟩ = some (.int .i64 c4) := fun w' h => Blk.cell (Many.blk h 0 _ _ _ rfl) 4 _ rfl
  have k5' : ∀ w' : World, Many w [(w.heap.size, 24, #[.int .i64 c0, .int .i64 c1, .int .i64 c2, .int .i64 c3, .int .i64 c4, .int .i64 c5, .int .i64 c6, .int .i64 cap, .slice A l.length cc]), ((w.heap.size + 1), 24, #[.int .i64 c0, .int .i64 c1, .int .i64 c2, .int .i64 c3, .int .i64 c4, .int .i64 c5, .int .i64 c6, .int .i64 cap, .slice A2 l.length cc2])] w' → w'.cell? ⟨w.heap.size, 5, none⟩ = some (.int .i64 c5) := fun w' h => Blk.cell (Many.blk h 0 _ _ _ rfl) 5 _ rfl
  have k6' : ∀ w' : World, Many w [(w.heap.size, 24, #[.int .i64 c0, .int .i64 c1, .int .i64 c2, .int .i64 c3, .int .i64 c4, .int .i64 c5, .int .i64 c6, .int .i64 cap, .slice A l.length cc]), ((w.heap.size + 1), 24, #[.int .i64 c0, .int .i64 c1, .int .i64 c2, .int .i64 c3, .int .i64 c4, .int .i64 c5, .int .i64 c6, .int .i64 cap, .slice A2 l.length cc2])] w' → w'.cell? ⟨w.heap.size, 6, none⟩ = some (.int .i64 c6) := fun w' h => Blk.cell (Many.blk h 0 _ _ _ rfl) 6 _ rfl
  have k7' : ∀ w' : World, Many w [(w.heap.size, 24, #[.int .i64 c0, .int .i64 c1, .int .i64 c2, .int .i64 c3, .int .i64 c4, .int .i64 c5, .int .i64 c6, .int .i64 cap, .slice A l.length cc]), ((w.heap.size + 1), 24, #[.int .i64 c0, .int .i64 c1, .int .i64 c2, .int .i64 c3, .int .i64 c4, .int .i64 c5, .int .i64 c6, .int .i64 cap, .slice A2 l.length cc2])] w' → w'.cell? ⟨w.heap.size, 7, none⟩ = some (.int .i64 cap) := fun w' h => Blk.cell (Many.blk h 0 _ _ _ rfl) 7 _ rfl
  have k8' : ∀ w' : World, Many w [(w.heap.size, 24, #[.int .i64 c0, .int .i64 c1, .int .i64 c2, .int .i64 c3, .int .i64 c4, .int .i64 c5, .int .i64 c6, .int .i64 cap, .slice A l.length cc]), ((w.heap.size + 1), 24, #[.int .i64 c0, .int .i64 c1, .int .i64 c2, .int .i64 c3, .int .i64 c4, .int .i64 c5, .int .i64 c6, .int .i64 cap, .slice A2 l.length cc2])] w' → w'.cell? ⟨w.heap.size, 8, none⟩ = some (.slice A l.length cc) := fun w' h => Blk.cell (Many.blk h 0 _ _ _ rfl) 8 _ rfl
  have q0' : ∀ w' : World, Many w [(w.heap.size, 24, #[.int .i64 c0, .int .i64 c1, .int .i64 c2, .int .i64 c3, .int .i64 c4, .int .i64 c5, .int .i64 c6, .int .i64 cap, .slice A l.length cc]), ((w.heap.size + 1), 24, #[.int .i64 c0, .int .i64 c1, .int .i64 c2, .int .i64 c3, .int .i64 c4, .int .i64 c5, .int .i64 c6, .int .i64 cap, .slice A2 l.length cc2])] w' → w'.cell? ⟨(w.heap.size + 1), 0, none⟩ = some (.int .i64 c0) := fun w' h => Blk.cell (Many.blk h 1 _ _ _ rfl) 0 _ rfl
  have q1' : ∀ w' : World, Many w [(w.heap.size, 24, #[.int .i64 c0, .int .i64 c1, .int .i64 c2, .int .i64 c3, .int .i64 c4, .int .i64 c5, .int .i64 c6, .int .i64 cap, .slice A l.length cc]), ((w.heap.size + 1), 24, #[.int .i64 c0, .int .i64 c1, .int .i64 c2, .int .i64 c3, .int .i64 c4, .int .i64 c5, .int .i64 c6, .int .i64 cap, .slice A2 l.length cc2])] w' → w'.cell? ⟨(w.heap.size + 1), 1, none⟩ = some (.int .i64 c1) := fun w' h => Blk.cell (Many.blk h 1 _ _ _ rfl) 1 _ rfl
  have q2' : ∀ w' : World, Many w [(w.heap.size, 24, #[.int .i64 c0, .int .i64 c1, .int .i64 c2, .int .i64 c3, .int .i64 c4, .int .i64 c5, .int .i64 c6, .int .i64 cap, .slice A l.length cc]), ((w.heap.size + 1), 24, #[.int .i64 c0, .int .i64 c1, .int .i64 c2, .int .i64 c3, .int .i64 c4, .int .i64 c5, .int .i64 c6, .int .i64 cap, .slice A2 l.length cc2])] w' → w'.cell? ⟨(w.heap.size + 1), 2, none⟩ = some (.int .i64 c2) := fun w' h => Blk.cell (Many.blk h 1 _ _ _ rfl) 2 _ rfl
  have q3' : ∀ w' : World, Many w [(w.heap.size, 24, #[.int .i64 c0, .int .i64 c1, .int .i64 c2, .int .i64 c3, .int .i64 c4, .int .i64 c5, .int .i64 c6, .int .i64 cap, .slice A l.length cc]), ((w.heap.size + 1), 24, #[.int .i64 c0, .int .i64 c1, .int .i64 c2, .int .i64 c3, .int .i64 c4, .int .i64 c5, .int .i64 c6, .int .i64 cap, .slice A2 l.length cc2])] w' → w'.cell? ⟨(w.heap.size + 1), 3, none⟩ = some (.int .i64 c3) := fun w' h => Blk.cell (Many.blk h 1 _ _ _ rfl) 3 _ rfl
  have q4' : ∀ w' : World, Many w [(w.heap.size, 24, #[.int .i64 c0, .int .i64 c1, .int .i64 c2, .int .i64 c3, .int .i64 c4, .int .i64 c5, .int .i64 c6, .int .i64 cap, .slice A l.length cc]), ((w.heap.size + 1), 24, #[.int .i64 c0, .int .i64 c1, .int .i64 c2, .int .i64 c3, .int .i64 c4, .int .i64 c5, .int .i64 c6, .int .i64 cap, .slice A2 l.length cc2])] w' → w'.cell? ⟨(w.heap.size + 1), 4, none⟩ = some (.int .i64 c4) := fun w' h => Blk.cell (Many.blk h 1 _ _ _ rfl) 4 _ rfl
  have q5' : ∀ w' : World, Many w [(w.heap.size, 24, #[.int .i64 c0, .int .i64 c1, .int .i64 c2, .int .i64 c3, .int .i64 c4, .int .i64 c5, .int .i64 c6, .int .i64 cap, .slice A l.length cc]), ((w.heap.size + 1), 24, #[.int .i64 c0, .int .i64 c1, .int .i64 c2, .int .i64 c3, .int .i64 c4, .int .i64 c5, .int .i64 c6, .int .i64 cap, .slice A2 l.length cc2])] w' → w'.cell? ⟨(w.heap.size + 1), 5, none⟩ = some (.int .i64 c5) := fun w' h => Blk.cell (Many.blk h 1 _ _ _ rfl) 5 _ rfl
  have q6' : ∀ w' : World, Many w [(w.heap.size, 24, #[.int .i64 c0, .int .i64 c1, .int .i64 c2, .int .i64 c3, .int .i64 c4, .int .i64 c5, .int .i64 c6, .int .i64 cap, .slice A l.length cc]), ((w.heap.size + 1), 24, #[.int .i64 c0, .int .i64 c1, .int .i64 c2, .int .i64 c3, .int .i64 c4, .int .i64 c5, .int .i64 c6, .int .i64 cap, .slice A2 l.length cc2])] w' → w'.cell? ⟨(w.heap.size + 1), 6, none⟩ = some (.int .i64 c6) := fun w' h => Blk.cell (Many.blk h 1 _ _ _ rfl) 6 _ rfl
  have q7' : ∀ w' : World, Many w [(w.heap.size, 24, #[.int .i64 c0, .int .i64 c1, .int .i64 c2, .int .i64 c3, .int .i64 c4, .int .i64 c5, .int .i64 c6, .int .i64 cap, .slice A l.length cc]), ((w.heap.size + 1), 24, #[.int .i64 c0, .int .i64 c1, .int .i64 c2, .int .i64 c3, .int .i64 c4, .int .i64 c5, .int .i64 c6, .int .i64 cap, .slice A2 l.length cc2])] w' → w'.cell? ⟨(w.heap.size + 1), 7, none⟩ = some (.int .i64 cap) := fun w' h => Blk.cell (Many.blk h 1 _ _ _ rfl) 7 _ rfl
  have q8' : ∀ w' : World, Many w [(w.heap.size, 24, #[.int .i64 c0, .int .i64 c1, .int .i64 c2, .int .i64 c3, .int .i64 c4, .int .i64 c5, .int .i64 c6, .int .i64 cap, .slice A l.length cc]), ((w.heap.size + 1), 24, #[.int .i64 c0, .int .i64 c1, .int .i64 c2, .int .i64 c3, .int .i64 c4, .int .i64 c5, .int .i64 c6, .int .i64 cap, .slice A2 l.length cc2])] w' → w'.cell? ⟨(w.heap.size + 1), 8, none⟩ = some (.slice A2 l.length cc2) := fun w' h => Blk.cell (Many.blk h 1 _ _ _ rfl) 8 _ rfl
  clear k0 k1 k2 k3 k4 k5 k6 k7 k8 q0 q1 q2 q3 q4 q5 q6 q7 q8
  refine wp_region_held_drew (S := fun w' => Many w [(w.heap.size, 24, #[.int .i64 c0, .int .i64 c1, .int .i64 c2, .int .i64 c3, .int .i64 c4, .int .i64 c5, .int .i64 c6, .int .i64 cap, .slice A l.length cc]), ((w.heap.size + 1), 24, #[.int .i64 c0, .int .i64 c1, .int .i64 c2, .int .i64 c3, .int .i64 c4, .int .i64 c5, .int .i64 c6, .int .i64 cap, .slice A2 l.length cc2])] w') (by kernel_rfl) ?sA (fun hHeld => ?rA)
  case sA => exact Many.drew HM.out
  refine wpAnyH_take (i := 0) (oi := ?oA_0) (v := ?vA_0) ?iA_0 (by kernel_rfl) (by kernel_rfl) (by kernel_rfl) ?qA_0 ?yA_0 hHeld ?nA_0
  case iA_0 => (simp only [List.getElem?_toArray, List.getElem?_cons_succ, List.getElem?_cons_zero]; rfl)
  case yA_0 => (refine Or.inl ⟨by kernel_rfl, ?_⟩; intro w' hSw; (try dsimp only at hSw); first | (go_simp; done) | (go_simp; with_reducible rfl))
  case qA_0 => exact fun _ _ _ h => h
  try simp only [Act.put, List.setIfInBounds_toArray, List.set_cons_zero, List.set_cons_succ]
  refine wpAnyH_take (i := 2) (oi := ?oA_2) (v := ?vA_2) ?iA_2 (by kernel_rfl) (by kernel_rfl) (by kernel_rfl) ?qA_2 ?yA_2 hHeld ?nA_2
  case iA_2 => (simp only [List.getElem?_toArray, List.getElem?_cons_succ, List.getElem?_cons_zero]; rfl)
  case yA_2 => (refine Or.inl ⟨by kernel_rfl, ?_⟩; intro w' hSw; (try dsimp only at hSw); first | (go_simp; done) | (go_simp; with_reducible rfl))
  case qA_2 => exact fun _ _ _ h => h
  try simp only [Act.put, List.setIfInBounds_toArray, List.set_cons_zero, List.set_cons_succ]
  refine wpAnyH_ready (rs := [1]) (by kernel_rfl) (by simp) ?_
  refine AllReadyH.cons (o := ?oA_1) ?iA_1 (fun K hK => ?kA_1) AllReadyH.nil
  case iA_1 => (simp only [List.getElem?_toArray, List.getElem?_cons_succ, List.getElem?_cons_zero]; rfl)
  go_simp
  ((with_reducible refine (refspans_any _ _ _ _ _ _ _ _ _ _ _ _).mono ?_); rintro e w4 ⟨rfl, hb⟩; dsimp only)
  refine hK.out _ _ ?hA_1 (fun hHeld2 => ?mA_1)
  case hA_1 => exact Many.later hHeld hb
  clear hK K hHeld
  have hHeld := hHeld2
  clear hHeld2
  try simp only [Act.put, List.setIfInBounds_toArray, List.set_cons_zero, List.set_cons_succ]
  refine wpAnyH_ready (rs := [3]) (by kernel_rfl) (by simp) ?_
  refine AllReadyH.cons (o := ?oA_3) ?iA_3 (fun K hK => ?kA_3) AllReadyH.nil
  case iA_3 => (simp only [List.getElem?_toArray, List.getElem?_cons_succ, List.getElem?_cons_zero]; rfl)
  go_simp
  ((with_reducible refine (refspans_any _ _ _ _ _ _ _ _ _ _ _ _).mono ?_); rintro e w4 ⟨rfl, hb⟩; dsimp only)
  refine hK.out _ _ ?hA_3 (fun hHeld2 => ?mA_3)
  case hA_3 => exact Many.later hHeld hb
  clear hK K hHeld
  have hHeld := hHeld2
  clear hHeld2
  try simp only [Act.put, List.setIfInBounds_toArray, List.set_cons_zero, List.set_cons_succ]
  refine wpAnyH_take (i := 4) (oi := ?oA_4) (v := ?vA_4) ?iA_4 (by kernel_rfl) (by kernel_rfl) (by kernel_rfl) ?qA_4 ?yA_4 hHeld ?nA_4
  case iA_4 => (simp only [List.getElem?_toArray, List.getElem?_cons_succ, List.getElem?_cons_zero]; rfl)
  case yA_4 => (refine Or.inl ⟨by kernel_rfl, ?_⟩; intro w' hSw; (try dsimp only at hSw); first | (go_simp; done) | (go_simp; with_reducible rfl))
  case qA_4 => exact fun _ _ _ h => h
  try simp only [Act.put, List.setIfInBounds_toArray, List.set_cons_zero, List.set_cons_succ]
  refine wpAnyH_take (i := 5) (oi := ?oA_5) (v := ?vA_5) ?iA_5 (by kernel_rfl) (by kernel_rfl) (by kernel_rfl) ?qA_5 ?yA_5 hHeld ?nA_5
  case iA_5 => (simp only [List.getElem?_toArray, List.getElem?_cons_succ, List.getElem?_cons_zero]; rfl)
  case yA_5 => (refine Or.inl ⟨by kernel_rfl, ?_⟩; intro w' hSw; (try dsimp only at hSw); first | (go_simp; done) | (go_simp; with_reducible rfl))
  case qA_5 => exact fun _ _ _ h => h
  try simp only [Act.put, List.setIfInBounds_toArray, List.set_cons_zero, List.set_cons_succ]
  refine wpAnyH_take (i := 6) (oi := ?oA_6) (v := ?vA_6) ?iA_6 (by kernel_rfl) (by kernel_rfl) (by kernel_rfl) ?qA_6 ?yA_6 hHeld ?nA_6
  case iA_6 => (simp only [List.getElem?_toArray, List.getElem?_cons_succ, List.getElem?_cons_zero]; rfl)
  case yA_6 => (refine Or.inl ⟨by kernel_rfl, ?_⟩; intro w' hSw; (try dsimp only at hSw); first | (go_simp; done) | (go_simp; with_reducible rfl))
  case qA_6 => exact fun _ _ _ h => h
  try simp only [Act.put, List.setIfInBounds_toArray, List.set_cons_zero, List.set_cons_succ]
  refine wpAnyH_take (i := 7) (oi := ?oA_7) (v := ?vA_7) ?iA_7 (by kernel_rfl) (by kernel_rfl) (by kernel_rfl) ?qA_7 ?yA_7 hHeld ?nA_7
  case iA_7 => (simp only [List.getElem?_toArray, List.getElem?_cons_succ, List.getElem?_cons_zero]; rfl)
  case yA_7 => (refine Or.inl ⟨by kernel_rfl, ?_⟩; intro w' hSw; (try dsimp only at hSw); first | (go_simp; done) | (go_simp; with_reducible rfl))
  case qA_7 => exact fun _ _ _ h => h
  try simp only [Act.put, List.setIfInBounds_toArray, List.set_cons_zero, List.set_cons_succ]
  refine wpAnyH_take (i := 8) (oi := ?oA_8) (v := ?vA_8) ?iA_8 (by kernel_rfl) (by kernel_rfl) (by kernel_rfl) ?qA_8 ?yA_8 hHeld ?nA_8
  case iA_8 => (simp only [List.getElem?_toArray, List.getElem?_cons_succ, List.getElem?_cons_zero]; rfl)
  case yA_8 => (refine Or.inl ⟨by kernel_rfl, ?_⟩; intro w' hSw; (try dsimp only at hSw); first | (go_simp; done) | (go_simp; with_reducible rfl))
  case qA_8 => exact fun _ _ _ h => h
  try simp only [Act.put, List.setIfInBounds_toArray, List.set_cons_zero, List.set_cons_succ]
  refine wpAnyH_take (i := 9) (oi := ?oA_9) (v := ?vA_9) ?iA_9 (by kernel_rfl) (by kernel_rfl) (by kernel_rfl) ?qA_9 ?yA_9 hHeld ?nA_9
  case iA_9 => (simp only [List.getElem?_toArray, List.getElem?_cons_succ, List.getElem?_cons_zero]; rfl)
  case yA_9 => (refine Or.inl ⟨by kernel_rfl, ?_⟩; intro w' hSw; (try dsimp only at hSw); first | (go_simp; done) | (go_simp; with_reducible rfl))
  case qA_9 => exact fun _ _ _ h => h
  try simp only [Act.put, List.setIfInBounds_toArray, List.set_cons_zero, List.set_cons_succ]
  refine wpAnyH_take (i := 10) (oi := ?oA_10) (v := ?vA_10) ?iA_10 (by kernel_rfl) (by kernel_rfl) (by kernel_rfl) ?qA_10 ?yA_10 hHeld ?nA_10
  case iA_10 => (simp only [List.getElem?_toArray, List.getElem?_cons_succ, List.getElem?_cons_zero]; rfl)
  case yA_10 => (refine Or.inl ⟨by kernel_rfl, ?_⟩; intro w' hSw; (try dsimp only at hSw); first | (go_simp; done) | (go_simp; with_reducible rfl))
  case qA_10 => exact fun _ _ _ h => h
  try simp only [Act.put, List.setIfInBounds_toArray, List.set_cons_zero, List.set_cons_succ]
  refine wpAnyH_take (i := 11) (oi := ?oA_11) (v := ?vA_11) ?iA_11 (by kernel_rfl) (by kernel_rfl) (by kernel_rfl) ?qA_11 ?yA_11 hHeld ?nA_11
  case iA_11 => (simp only [List.getElem?_toArray, List.getElem?_cons_succ, List.getElem?_cons_zero]; rfl)
  case yA_11 => (refine Or.inl ⟨by kernel_rfl, ?_⟩; intro w' hSw; (try dsimp only at hSw); first | (go_simp; done) | (go_simp; with_reducible rfl))
  case qA_11 => exact fun _ _ _ h => h
  try simp only [Act.put, List.setIfInBounds_toArray, List.set_cons_zero, List.set_cons_succ]
  refine wpAnyH_take (i := 12) (oi := ?oA_12) (v := ?vA_12) ?iA_12 (by kernel_rfl) (by kernel_rfl) (by kernel_rfl) ?qA_12 ?yA_12 hHeld ?nA_12
  case iA_12 => (simp only [List.getElem?_toArray, List.getElem?_cons_succ, List.getElem?_cons_zero]; rfl)
  case yA_12 => (refine Or.inl ⟨by kernel_rfl, ?_⟩; intro w' hSw; (try dsimp only at hSw); first | (go_simp; done) | (go_simp; with_reducible rfl))
  case qA_12 => exact fun _ _ _ h => h
  try simp only [Act.put, List.setIfInBounds_toArray, List.set_cons_zero, List.set_cons_succ]
  refine wpAnyH_take (i := 13) (oi := ?oA_13) (v := ?vA_13) ?iA_13 (by kernel_rfl) (by kernel_rfl) (by kernel_rfl) ?qA_13 ?yA_13 hHeld ?nA_13
  case iA_13 => (simp only [List.getElem?_toArray, List.getElem?_cons_succ, List.getElem?_cons_zero]; rfl)
  case yA_13 => (refine Or.inl ⟨by kernel_rfl, ?_⟩; intro w' hSw; (try dsimp only at hSw); first | (go_simp; done) | (go_simp; with_reducible rfl))
  case qA_13 => exact fun _ _ _ h => h
  try simp only [Act.put, List.setIfInBounds_toArray, List.set_cons_zero, List.set_cons_succ]
  refine wpAnyH_take (i := 14) (oi := ?oA_14) (v := ?vA_14) ?iA_14 (by kernel_rfl) (by kernel_rfl) (by kernel_rfl) ?qA_14 ?yA_14 hHeld ?nA_14
  case iA_14 => (simp only [List.getElem?_toArray, List.getElem?_cons_succ, List.getElem?_cons_zero]; rfl)
  case yA_14 => (refine Or.inl ⟨by kernel_rfl, ?_⟩; intro w' hSw; (try dsimp only at hSw); first | (go_simp; done) | (go_simp; with_reducible rfl))
  case qA_14 => exact fun _ _ _ h => h
  try simp only [Act.put, List.setIfInBounds_toArray, List.set_cons_zero, List.set_cons_succ]
  refine wpAnyH_take (i := 15) (oi := ?oA_15) (v := ?vA_15) ?iA_15 (by kernel_rfl) (by kernel_rfl) (by kernel_rfl) ?qA_15 ?yA_15 hHeld ?nA_15
  case iA_15 => (simp only [List.getElem?_toArray, List.getElem?_cons_succ, List.getElem?_cons_zero]; rfl)
  case yA_15 => (refine Or.inl ⟨by kernel_rfl, ?_⟩; intro w' hSw; (try dsimp only at hSw); first | (go_simp; done) | (go_simp; with_reducible rfl))
  case qA_15 => exact fun _ _ _ h => h
  try simp only [Act.put, List.setIfInBounds_toArray, List.set_cons_zero, List.set_cons_succ]
  refine wpAnyH_take (i := 16) (oi := ?oA_16) (v := ?vA_16) ?iA_16 (by kernel_rfl) (by kernel_rfl) (by kernel_rfl) ?qA_16 ?yA_16 hHeld ?nA_16
  case iA_16 => (simp only [List.getElem?_toArray, List.getElem?_cons_succ, List.getElem?_cons_zero]; rfl)
  case yA_16 => (refine Or.inl ⟨by kernel_rfl, ?_⟩; intro w' hSw; (try dsimp only at hSw); first | (go_simp; done) | (go_simp; with_reducible rfl))
  case qA_16 => exact fun _ _ _ h => h
  try simp only [Act.put, List.setIfInBounds_toArray, List.set_cons_zero, List.set_cons_succ]
  refine wpAnyH_ready (rs := [17]) (by kernel_rfl) (by simp) ?_
  refine AllReadyH.cons (o := ?oA_17) ?iA_17 (fun K hK => ?kA_17) AllReadyH.nil
  case iA_17 => (simp only [List.getElem?_toArray, List.getElem?_cons_succ, List.getElem?_cons_zero]; rfl)
  go_simp
  ((with_reducible refine (waywardenref02_Same.calls (l.length + 1) A cc l A2 cc2 l true _ (Kd.C_below HR.out hHeld.bel) hc (Kd.C_below HR2.out hHeld.bel) hc2 HSS.out).mono ?_); rintro e w4 ⟨rfl, hd⟩; have hb := hd.below; clear hd; dsimp only)
  refine hK.out _ _ ?hA_17 (fun hHeld2 => ?mA_17)
  case hA_17 => exact Many.later hHeld hb
  clear hK K hHeld
  have hHeld := hHeld2
  clear hHeld2
  try simp only [Act.put, List.setIfInBounds_toArray, List.set_cons_zero, List.set_cons_succ]
  refine wpAnyH_take (i := 18) (oi := ?oA_18) (v := ?vA_18) ?iA_18 (by kernel_rfl) (by kernel_rfl) (by kernel_rfl) ?qA_18 ?yA_18 hHeld ?nA_18
  case iA_18 => (simp only [List.getElem?_toArray, List.getElem?_cons_succ, List.getElem?_cons_zero]; rfl)
  case yA_18 => (refine Or.inl ⟨by kernel_rfl, ?_⟩; intro w' hSw; (try dsimp only at hSw); first | (go_simp; done) | (go_simp; with_reducible rfl))
  case qA_18 => exact fun _ _ _ h => h
  try simp only [Act.put, List.setIfInBounds_toArray, List.set_cons_zero, List.set_cons_succ]
  refine wpAnyH_take (i := 19) (oi := ?oA_19) (v := ?vA_19) ?iA_19 (by kernel_rfl) (by kernel_rfl) (by kernel_rfl) ?qA_19 ?yA_19 hHeld ?nA_19
  case iA_19 => (simp only [List.getElem?_toArray, List.getElem?_cons_succ, List.getElem?_cons_zero]; rfl)
  case yA_19 => (refine Or.inl ⟨by kernel_rfl, ?_⟩; intro w' hSw; (try dsimp only at hSw); first | (go_simp; done) | (go_simp; with_reducible rfl))
  case qA_19 => exact fun _ _ _ h => h
  try simp only [Act.put, List.setIfInBounds_toArray, List.set_cons_zero, List.set_cons_succ]
  refine wpAnyH_done (by kernel_rfl) ?_ _
  have HB9 := Aside0.mk (Many.bel hHeld)
  clear hHeld k0' k1' k2' k3' k4' k5' k6' k7' k8' q0' q1' q2' q3' q4' q5' q6' q7' q8'
  go_wp2
  go_ret
  exact ⟨rfl, HB9.out⟩
end Go.Proofs.Ytegdcalefpobeaa.A
