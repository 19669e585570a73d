/- config: the chapter's rows. -/
import Derived.Test.YtegdcalefpobeaaBndZ
set_option linter.unusedVariables false
set_option linter.unusedSimpArgs false
namespace Go.Proofs.Ytegdcalefpobeaa.A
open Go.RowKit Go.Proofs.YtegdcalefpobeaaW.PrintWords Go.Proofs.YtegdcalefpobeaaW.PrintLast Go.Proofs.YtegdcalefpobeaaW.PrintMore Go.Proofs.Ytegdcalefpobeaa.PConfigChecks

abbrev oneP : List Pfx := [⟨167772160, 8⟩]
/-- a slice literal of one prefix -/
theorem C_one (w : World) (a n : Int) : Kd.C k28 (w.alloc (.cells #[.int .u32 a, .int .i64 n] 28)) (some ⟨w.heap.size, 0, none⟩) 1 [⟨a, n⟩] := by
  refine ⟨rfl, by decide, fun _ => ⟨_, rfl, fun j p hj => ?_⟩⟩
  cases j with
  | succ j => simp at hj
  | zero =>
    obtain rfl : (⟨a, n⟩ : Pfx) = p := by simpa using hj
    refine ⟨[.int .u32 a, .int .i64 n], rfl, k28_mk _ _, fun i u hi => ?_⟩
    have hb := Blk.new w 28 #[.int .u32 a, .int .i64 n]
    rw [Nat.zero_mul, Nat.zero_add, add_plain]
    exact hb.cell i u (by simpa using hi)
/-- what is known of the configuration that all rows ask of -/
structure Wk (w : World) (g : Nat) (B : Option Addr) (dd : Nat) (w' : World) : Prop where
  blk : Blk w' g 24 #[.int .i64 25, .int .i64 10, .int .i64 180, .int .i64 120, .int .i64 120, .int .i64 1, .int .i64 4, .int .i64 256, .slice B 1 dd]
  row : Kd.C k28 w' B 1 oneP
  cap : 1 ≤ dd
  bel : Below w.heap.size w w'
theorem Wk.later {w w1 w2 : World} {g dd : Nat} {B : Option Addr} (h : Wk w g B dd w1) (hb : Below w1.heap.size w1 w2) : Wk w g B dd w2 := ⟨h.blk.later hb, Kd.C_below h.row hb, h.cap, thenB h.bel h.bel.size hb⟩
theorem Wk.alloc {w w1 : World} {g dd : Nat} {B : Option Addr} (h : Wk w g B dd w1) (o : Obj) : Wk w g B dd (w1.alloc o) := h.later (below_alloc (Below.refl _ _) o)
theorem adr_one : AdrP oneP := by
  intro x hx
  obtain rfl : x = ⟨167772160, 8⟩ := by simpa using hx
  exact ⟨by decide, by decide⟩
theorem right_one : rightN 25 10 180 120 120 1 4 256 oneP = true := by decide +kernel
theorem own_one : ownN oneP = true := by decide +kernel
theorem wk_wait (d v e : Int) (w w1 : World) (g : Nat) (B : Option Addr) (dd : Nat) (H : Wk w g B dd w1) (h : 25 + clampN d 10 = v ∧ e = 0) :
    Calls Try.prog 18 #[.agg #[.int .i64 25, .int .i64 10, .int .i64 180, .int .i64 120, .int .i64 120, .int .i64 1, .int .i64 4, .int .i64 256, .slice B 1 dd], .int .i64 d] w1 fun e' w' => e' = .returned (.tuple #[.int .i64 v, .int .i64 e]) ∧ Below w1.heap.size w1 w' := by
  obtain ⟨rfl, rfl⟩ := h
  exact wait_yes 25 10 180 120 120 1 4 256 B oneP dd d w1 H.row H.cap adr_one (by decide) right_one
theorem wk_quiet (d v e : Int) (w w1 : World) (g : Nat) (B : Option Addr) (dd : Nat) (H : Wk w g B dd w1) (h : 1 + clampN d 4 = v ∧ e = 0) :
    Calls Try.prog 19 #[.agg #[.int .i64 25, .int .i64 10, .int .i64 180, .int .i64 120, .int .i64 120, .int .i64 1, .int .i64 4, .int .i64 256, .slice B 1 dd], .int .i64 d] w1 fun e' w' => e' = .returned (.tuple #[.int .i64 v, .int .i64 e]) ∧ Below w1.heap.size w1 w' := by
  obtain ⟨rfl, rfl⟩ := h
  exact quiet_yes 25 10 180 120 120 1 4 256 B oneP dd d w1 H.row H.cap adr_one (by decide) right_one
theorem wk_bound (d v e : Int) (w w1 : World) (g : Nat) (B : Option Addr) (dd : Nat) (H : Wk w g B dd w1) (h : (0 ≤ d ∧ d ≤ 1000000 ∧ 35 + d < 180) ∧ 32 * (455 + d) = v ∧ e = 0) :
    Calls Try.prog 22 #[.agg #[.int .i64 25, .int .i64 10, .int .i64 180, .int .i64 120, .int .i64 120, .int .i64 1, .int .i64 4, .int .i64 256, .slice B 1 dd], .int .i64 d] w1 fun e' w' => e' = .returned (.tuple #[.int .i64 v, .int .i64 e]) ∧ Below w1.heap.size w1 w' := by
  obtain ⟨hd, rfl, rfl⟩ := h
  exact bound_yes 25 10 180 120 120 1 4 256 B oneP dd d w1 H.row H.cap adr_one (by decide) right_one (by rw [within64_eq, decide_eq_true ⟨hd.1, hd.2.1⟩]) (by omega)
theorem wk_bound3 (d v e : Int) (w w1 : World) (g : Nat) (B : Option Addr) (dd : Nat) (H : Wk w g B dd w1) (h : (0 ≤ d ∧ d ≤ 1000000 ∧ ¬ 35 + d < 180) ∧ v = 0 ∧ e = 180) :
    Calls Try.prog 22 #[.agg #[.int .i64 25, .int .i64 10, .int .i64 180, .int .i64 120, .int .i64 120, .int .i64 1, .int .i64 4, .int .i64 256, .slice B 1 dd], .int .i64 d] w1 fun e' w' => e' = .returned (.tuple #[.int .i64 v, .int .i64 e]) ∧ Below w1.heap.size w1 w' := by
  obtain ⟨hd, rfl, rfl⟩ := h
  exact bound_no3 25 10 180 120 120 1 4 256 B oneP dd d w1 H.row H.cap adr_one (by decide) right_one (by rw [within64_eq, decide_eq_true ⟨hd.1, hd.2.1⟩]) (by omega)
theorem wk_bound2 (d v e : Int) (w w1 : World) (g : Nat) (B : Option Addr) (dd : Nat) (H : Wk w g B dd w1) (h : ¬ (0 ≤ d ∧ d ≤ 1000000) ∧ v = 0 ∧ e = 2) :
    Calls Try.prog 22 #[.agg #[.int .i64 25, .int .i64 10, .int .i64 180, .int .i64 120, .int .i64 120, .int .i64 1, .int .i64 4, .int .i64 256, .slice B 1 dd], .int .i64 d] w1 fun e' w' => e' = .returned (.tuple #[.int .i64 v, .int .i64 e]) ∧ Below w1.heap.size w1 w' := by
  obtain ⟨hd, rfl, rfl⟩ := h
  exact bound_no2 25 10 180 120 120 1 4 256 B oneP dd d w1 H.row H.cap adr_one (by decide) right_one (by rw [within64_eq, decide_eq_false hd])
theorem wk_check (w1 : World) : Calls Try.prog 11 #[.agg #[.int .i64 0, .int .i64 0, .int .i64 0, .int .i64 0, .int .i64 0, .int .i64 0, .int .i64 0, .int .i64 0, .slice none 0 0]] w1 fun e' w' => e' = .returned (.int .i64 2) ∧ Below w1.heap.size w1 w' := by
  have h := check_any 0 0 0 0 0 0 0 0 none [] 0 w1 ⟨rfl, by decide, fun h => absurd h (Nat.lt_irrefl 0)⟩ (Nat.le_refl _) (fun x hx => by cases hx) (by decide)
  rw [show rightN 0 0 0 0 0 0 0 0 [] = false by decide +kernel] at h
  exact h
theorem wk_owns (w w1 : World) (g : Nat) (B : Option Addr) (dd : Nat) (H : Wk w g B dd w1) : Calls Try.prog 15 #[.agg #[.int .i64 25, .int .i64 10, .int .i64 180, .int .i64 120, .int .i64 120, .int .i64 1, .int .i64 4, .int .i64 256, .slice B 1 dd], .agg #[.int .u32 167772160, .int .i64 8]] w1 fun e' w' => e' = .returned (.bool true) ∧ Below w1.heap.size w1 w' := by
  have e : config_Owns.f 2 25 10 180 120 120 1 4 256 oneP 167772160 8 = some true := by decide +kernel
  exact config_Owns.calls 2 25 10 180 120 120 1 4 256 B dd oneP 167772160 8 true w1 H.row H.cap e
theorem std_one (A : Option Addr) (w : World) (h : Kd.C k28 w A 1 oneP) : Calls Try.prog 12 #[.slice A 1 1] w fun e w' => (∃ B dd, e = .returned (.tuple #[.agg #[.int .i64 25, .int .i64 10, .int .i64 180, .int .i64 120, .int .i64 120, .int .i64 1, .int .i64 4, .int .i64 256, .slice B 1 dd], .int .i64 0]) ∧ 1 ≤ dd ∧ Kd.C k28 w' B 1 oneP) ∧ Below w.heap.size w w' :=
  (std_yes A oneP 1 w h (by decide) adr_one (by decide) own_one).mono fun _ _ ⟨⟨B, n, dd, he, hn, hd, hC⟩, hb⟩ => by
    subst hn
    exact ⟨⟨B, dd, he, hd, hC⟩, hb⟩
set_option maxRecDepth 100000 in
set_option maxHeartbeats 8000000 in
theorem works_any (w : World) : Calls Try.prog 9 #[] w fun e w' => e = .returned (.bool true) ∧ Below w.heap.size w w' := by
  go_enter Try.func9, Try.ntmps9
  go_upto_region 2 with (go_at_call 12; go_loud ((with_reducible refine (std_one _ _ (C_one w 167772160 8)).mono ?_); rintro e w1 ⟨⟨B, dd, rfl, hdd, hB⟩, hb⟩; have HB := Aside0.mk hB; have HDD := Aside0.mk hdd; have HBB := Aside0.mk hb; clear hB hdd hb))
  have HK : Aside0 (Wk w w1.heap.size B dd _) := ⟨⟨Blk.new w1 24 #[.int .i64 25, .int .i64 10, .int .i64 180, .int .i64 120, .int .i64 120, .int .i64 1, .int .i64 4, .int .i64 256, .slice B 1 dd], Kd.C_alloc HB.out _, HDD.out, below_alloc (thenB (below_alloc (Below.refl _ _) _) (by simp) HBB.out) _⟩⟩
  obtain ⟨g, hg⟩ : ∃ g, w1.heap.size = g := ⟨_, rfl⟩
  obtain ⟨W2, hW2⟩ : ∃ W2, w1.alloc (.cells #[.int .i64 25, .int .i64 10, .int .i64 180, .int .i64 120, .int .i64 120, .int .i64 1, .int .i64 4, .int .i64 256, .slice B 1 dd] 24) = W2 := ⟨_, rfl⟩
  rw [hW2, hg] at HK
  rw [hW2, hg]
  have k0 := HK.out.blk.cell 0 _ rfl; have k1 := HK.out.blk.cell 1 _ rfl; have k2 := HK.out.blk.cell 2 _ rfl; have k3 := HK.out.blk.cell 3 _ rfl; have k4 := HK.out.blk.cell 4 _ rfl; have k5 := HK.out.blk.cell 5 _ rfl; have k6 := HK.out.blk.cell 6 _ rfl; have k7 := HK.out.blk.cell 7 _ rfl; have k8 := HK.out.blk.cell 8 _ rfl
  clear hg hW2 HB HDD HBB
  go_wp2_with (first
    | (go_at_call 18; first
        | ((with_reducible refine (wk_wait 3 28 0 w _ g B dd HK.out (by decide)).mono ?_); rintro e w9 ⟨rfl, hb⟩; have HK := Aside0.mk (HK.out.later hb); (try clear k0 k1 k2 k3 k4 k5 k6 k7 k8); have k0 := HK.out.blk.cell 0 _ rfl; have k1 := HK.out.blk.cell 1 _ rfl; have k2 := HK.out.blk.cell 2 _ rfl; have k3 := HK.out.blk.cell 3 _ rfl; have k4 := HK.out.blk.cell 4 _ rfl; have k5 := HK.out.blk.cell 5 _ rfl; have k6 := HK.out.blk.cell 6 _ rfl; have k7 := HK.out.blk.cell 7 _ rfl; have k8 := HK.out.blk.cell 8 _ rfl; clear hb)
        | ((with_reducible refine (wk_wait 99 35 0 w _ g B dd HK.out (by decide)).mono ?_); rintro e w9 ⟨rfl, hb⟩; have HK := Aside0.mk (HK.out.later hb); (try clear k0 k1 k2 k3 k4 k5 k6 k7 k8); have k0 := HK.out.blk.cell 0 _ rfl; have k1 := HK.out.blk.cell 1 _ rfl; have k2 := HK.out.blk.cell 2 _ rfl; have k3 := HK.out.blk.cell 3 _ rfl; have k4 := HK.out.blk.cell 4 _ rfl; have k5 := HK.out.blk.cell 5 _ rfl; have k6 := HK.out.blk.cell 6 _ rfl; have k7 := HK.out.blk.cell 7 _ rfl; have k8 := HK.out.blk.cell 8 _ rfl; clear hb)
        | ((with_reducible refine (wk_wait (-1) 25 0 w _ g B dd HK.out (by decide)).mono ?_); rintro e w9 ⟨rfl, hb⟩; have HK := Aside0.mk (HK.out.later hb); (try clear k0 k1 k2 k3 k4 k5 k6 k7 k8); have k0 := HK.out.blk.cell 0 _ rfl; have k1 := HK.out.blk.cell 1 _ rfl; have k2 := HK.out.blk.cell 2 _ rfl; have k3 := HK.out.blk.cell 3 _ rfl; have k4 := HK.out.blk.cell 4 _ rfl; have k5 := HK.out.blk.cell 5 _ rfl; have k6 := HK.out.blk.cell 6 _ rfl; have k7 := HK.out.blk.cell 7 _ rfl; have k8 := HK.out.blk.cell 8 _ rfl; clear hb))
    | (go_at_call 19; ((with_reducible refine (wk_quiet 9 5 0 w _ g B dd HK.out (by decide)).mono ?_); rintro e w9 ⟨rfl, hb⟩; have HK := Aside0.mk (HK.out.later hb); (try clear k0 k1 k2 k3 k4 k5 k6 k7 k8); have k0 := HK.out.blk.cell 0 _ rfl; have k1 := HK.out.blk.cell 1 _ rfl; have k2 := HK.out.blk.cell 2 _ rfl; have k3 := HK.out.blk.cell 3 _ rfl; have k4 := HK.out.blk.cell 4 _ rfl; have k5 := HK.out.blk.cell 5 _ rfl; have k6 := HK.out.blk.cell 6 _ rfl; have k7 := HK.out.blk.cell 7 _ rfl; have k8 := HK.out.blk.cell 8 _ rfl; clear hb))
    | (go_at_call 22; first
        | ((with_reducible refine (wk_bound 5 14720 0 w _ g B dd HK.out (by decide)).mono ?_); rintro e w9 ⟨rfl, hb⟩; have HK := Aside0.mk (HK.out.later hb); (try clear k0 k1 k2 k3 k4 k5 k6 k7 k8); have k0 := HK.out.blk.cell 0 _ rfl; have k1 := HK.out.blk.cell 1 _ rfl; have k2 := HK.out.blk.cell 2 _ rfl; have k3 := HK.out.blk.cell 3 _ rfl; have k4 := HK.out.blk.cell 4 _ rfl; have k5 := HK.out.blk.cell 5 _ rfl; have k6 := HK.out.blk.cell 6 _ rfl; have k7 := HK.out.blk.cell 7 _ rfl; have k8 := HK.out.blk.cell 8 _ rfl; clear hb)
        | ((with_reducible refine (wk_bound3 145 0 180 w _ g B dd HK.out (by decide)).mono ?_); rintro e w9 ⟨rfl, hb⟩; have HK := Aside0.mk (HK.out.later hb); (try clear k0 k1 k2 k3 k4 k5 k6 k7 k8); have k0 := HK.out.blk.cell 0 _ rfl; have k1 := HK.out.blk.cell 1 _ rfl; have k2 := HK.out.blk.cell 2 _ rfl; have k3 := HK.out.blk.cell 3 _ rfl; have k4 := HK.out.blk.cell 4 _ rfl; have k5 := HK.out.blk.cell 5 _ rfl; have k6 := HK.out.blk.cell 6 _ rfl; have k7 := HK.out.blk.cell 7 _ rfl; have k8 := HK.out.blk.cell 8 _ rfl; clear hb)
        | ((with_reducible refine (wk_bound 144 19168 0 w _ g B dd HK.out (by decide)).mono ?_); rintro e w9 ⟨rfl, hb⟩; have HK := Aside0.mk (HK.out.later hb); (try clear k0 k1 k2 k3 k4 k5 k6 k7 k8); have k0 := HK.out.blk.cell 0 _ rfl; have k1 := HK.out.blk.cell 1 _ rfl; have k2 := HK.out.blk.cell 2 _ rfl; have k3 := HK.out.blk.cell 3 _ rfl; have k4 := HK.out.blk.cell 4 _ rfl; have k5 := HK.out.blk.cell 5 _ rfl; have k6 := HK.out.blk.cell 6 _ rfl; have k7 := HK.out.blk.cell 7 _ rfl; have k8 := HK.out.blk.cell 8 _ rfl; clear hb)
        | ((with_reducible refine (wk_bound2 (-1) 0 2 w _ g B dd HK.out (by decide)).mono ?_); rintro e w9 ⟨rfl, hb⟩; have HK := Aside0.mk (HK.out.later hb); (try clear k0 k1 k2 k3 k4 k5 k6 k7 k8); have k0 := HK.out.blk.cell 0 _ rfl; have k1 := HK.out.blk.cell 1 _ rfl; have k2 := HK.out.blk.cell 2 _ rfl; have k3 := HK.out.blk.cell 3 _ rfl; have k4 := HK.out.blk.cell 4 _ rfl; have k5 := HK.out.blk.cell 5 _ rfl; have k6 := HK.out.blk.cell 6 _ rfl; have k7 := HK.out.blk.cell 7 _ rfl; have k8 := HK.out.blk.cell 8 _ rfl; clear hb))
    | (go_at_call 10; ((with_reducible refine (waywardenlaw08_num.calls _ _ _ rfl).mono ?_); rintro e w9 ⟨rfl, hd⟩; have hb := hd.below; clear hd; have HK := Aside0.mk (HK.out.later hb); (try clear k0 k1 k2 k3 k4 k5 k6 k7 k8); have k0 := HK.out.blk.cell 0 _ rfl; have k1 := HK.out.blk.cell 1 _ rfl; have k2 := HK.out.blk.cell 2 _ rfl; have k3 := HK.out.blk.cell 3 _ rfl; have k4 := HK.out.blk.cell 4 _ rfl; have k5 := HK.out.blk.cell 5 _ rfl; have k6 := HK.out.blk.cell 6 _ rfl; have k7 := HK.out.blk.cell 7 _ rfl; have k8 := HK.out.blk.cell 8 _ rfl; clear hb))
    | (go_at_call 11; ((with_reducible refine (wk_check _).mono ?_); rintro e w9 ⟨rfl, hb⟩; have HK := Aside0.mk (HK.out.later hb); (try clear k0 k1 k2 k3 k4 k5 k6 k7 k8); have k0 := HK.out.blk.cell 0 _ rfl; have k1 := HK.out.blk.cell 1 _ rfl; have k2 := HK.out.blk.cell 2 _ rfl; have k3 := HK.out.blk.cell 3 _ rfl; have k4 := HK.out.blk.cell 4 _ rfl; have k5 := HK.out.blk.cell 5 _ rfl; have k6 := HK.out.blk.cell 6 _ rfl; have k7 := HK.out.blk.cell 7 _ rfl; have k8 := HK.out.blk.cell 8 _ rfl; clear hb))
    | (go_at_call 15; ((with_reducible refine (wk_owns w _ g B dd HK.out).mono ?_); rintro e w9 ⟨rfl, hb⟩; have HK := Aside0.mk (HK.out.later hb); (try clear k0 k1 k2 k3 k4 k5 k6 k7 k8); have k0 := HK.out.blk.cell 0 _ rfl; have k1 := HK.out.blk.cell 1 _ rfl; have k2 := HK.out.blk.cell 2 _ rfl; have k3 := HK.out.blk.cell 3 _ rfl; have k4 := HK.out.blk.cell 4 _ rfl; have k5 := HK.out.blk.cell 5 _ rfl; have k6 := HK.out.blk.cell 6 _ rfl; have k7 := HK.out.blk.cell 7 _ rfl; have k8 := HK.out.blk.cell 8 _ rfl; clear hb)))
  go_ret
  exact ⟨rfl, HK.out.bel⟩
end Go.Proofs.Ytegdcalefpobeaa.A
