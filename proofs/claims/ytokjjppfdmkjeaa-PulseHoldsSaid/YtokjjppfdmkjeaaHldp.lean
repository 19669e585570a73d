/- pulse: the law PulseHolds. -/
import Derived.Test.YtokjjppfdmkjeaaHldo
import Derived.Deep.DeepCutAuto
import Derived.Deep.LoopGhost
set_option linter.unusedVariables false
set_option linter.unusedSimpArgs false
namespace Go.Proofs.Ytokjjppfdmkjeaa.A
open Go.RowKit Go.Proofs.YtokjjppfdmkjeaaW.PrintWords Go.Proofs.YtokjjppfdmkjeaaW.PrintLast Go.Proofs.YtokjjppfdmkjeaaW.PrintMore Go.Proofs.Ytokjjppfdmkjeaa.PPulseHolds

attribute [local go_sem] max2_int min2_int max_two min_two in
set_option maxRecDepth 100000 in
set_option maxHeartbeats 16000000 in
theorem hld_good (c0 c1 c2 c3 c4 c5 c6 cap : Int) (A : Option Addr) (l : List Pfx) (cc : Nat) (CA : Option Addr) (ch : List Bool) (chc : Nat) (DA : Option Addr) (dr : List Int) (drc : Nat) (w : World) (hr : Kd.C k81 w A l.length l) (hc : l.length ≤ cc) (ha : AdrP l) (hch : Kd.C Kd.bool w CA ch.length ch) (hchc : ch.length ≤ chc) (hdr : Kd.C (Kd.int .i64) w DA dr.length dr) (hdrc : dr.length ≤ drc) (hfew : l.length ≤ 20) (hn : rightN c0 c1 c2 c3 c4 c5 c6 cap l = true) (h2 : ch.length ≤ 120) (h3 : dr.length ≤ 120) (h4 : c0 ≤ 40) (h5 : c1 ≤ 40) (h6 : c5 ≤ 40) (h7 : c6 ≤ 40) :
    Calls Try.prog 6 #[.agg #[.int .i64 c0, .int .i64 c1, .int .i64 c2, .int .i64 c3, .int .i64 c4, .int .i64 c5, .int .i64 c6, .int .i64 cap, .slice A l.length cc], .slice CA ch.length chc, .slice DA dr.length drc] w fun e w' => e = .returned (.bool true) ∧ Below w.heap.size w w' := by
  have hm : l.length ≤ 140737488355328 := by omega
  have hin := rightN_in c0 c1 c2 c3 c4 c5 c6 cap l hn
  have q0 := hin 0 (by omega)
  have q1 := hin 1 (by omega)
  have q5 := hin 5 (by omega)
  have q6 := hin 6 (by omega)
  simp only [spanL, spanV, List.getD_cons_succ, List.getD_cons_zero] at q0 q1 q5 q6
  have HCF : Aside0 (HCfg c0 c1 c5 c6) := ⟨⟨⟨q0.1, h4⟩, ⟨q1.1, h5⟩, ⟨q5.1, h6⟩, ⟨q6.1, h7⟩⟩⟩
  clear hin q0 q1 q5 q6
  obtain ⟨N, hN⟩ : ∃ N : Int, (if (dr.length : Int) < (ch.length : Int) then (dr.length : Int) else (ch.length : Int)) = N := ⟨_, rfl⟩
  have hN2 : (if dr.length < ch.length then (dr.length : Int) else (ch.length : Int)) = N := by rw [← hN]; simp
  have HNB : Aside0 (0 ≤ N ∧ N ≤ 120 ∧ N ≤ ch.length ∧ N ≤ dr.length) := ⟨by rw [← hN]; split <;> omega⟩
  have HCH := Aside0.mk hch
  have HD := Aside0.mk hdr
  clear hch hdr
  obtain ⟨B, hB⟩ : ∃ x, 0 + (c0 + clampN 0 c1) = x := ⟨_, rfl⟩
  have HB := Aside0.mk hB
  have HI0 : Aside0 (HInv c0 c1 c5 c6 0 (-1000) (-1) 0 B 0 false) := ⟨by
    have x1 := clampN_in 0 c1 HCF.out.g1.1
    obtain ⟨g0, g1, g5, g6⟩ := HCF.out
    constructor <;> first | omega | rfl⟩
  clear hB
  have HR := Aside0.mk hr
  have HA := Aside0.mk ha
  clear hr ha
  have HF : Aside0 (waywardenlaw15_few.f c0 c1 c2 c3 c4 c5 c6 cap l = some true) := ⟨by unfold waywardenlaw15_few.f; congr 1; apply decide_eq_true; omega⟩
  have dg2 : decide ((ch.length : Int) > 120) = false := decide_eq_false (by omega)
  have dl2 : decide (120 < (ch.length : Int)) = false := decide_eq_false (by omega)
  have dn2 : decide (120 < ch.length) = false := decide_eq_false (by omega)
  have dg3 : decide ((dr.length : Int) > 120) = false := decide_eq_false (by omega)
  have dl3 : decide (120 < (dr.length : Int)) = false := decide_eq_false (by omega)
  have dn3 : decide (120 < dr.length) = false := decide_eq_false (by omega)
  have dg4 : decide (c0 > 40) = false := decide_eq_false (by omega)
  have dl4 : decide (40 < c0) = false := decide_eq_false (by omega)
  have dg5 : decide (c1 > 40) = false := decide_eq_false (by omega)
  have dl5 : decide (40 < c1) = false := decide_eq_false (by omega)
  have dg6 : decide (c5 > 40) = false := decide_eq_false (by omega)
  have dl6 : decide (40 < c5) = false := decide_eq_false (by omega)
  have dg7 : decide (c6 > 40) = false := decide_eq_false (by omega)
  have dl7 : decide (40 < c6) = false := decide_eq_false (by omega)
  have HN := Aside0.mk hn
  clear hn h2 h3 h4 h5 h6 h7
  have HM : Aside0 (Many w [(w.heap.size, 24, #[.int .i64 c0, .int .i64 c1, .int .i64 c2, .int .i64 c3, .int .i64 c4, .int .i64 c5, .int .i64 c6, .int .i64 cap, .slice A l.length cc])] (w.alloc (.cells #[.int .i64 c0, .int .i64 c1, .int .i64 c2, .int .i64 c3, .int .i64 c4, .int .i64 c5, .int .i64 c6, .int .i64 cap, .slice A l.length cc] 24))) := ⟨by have h := Many.grow (Many.none w) 24 #[.int .i64 c0, .int .i64 c1, .int .i64 c2, .int .i64 c3, .int .i64 c4, .int .i64 c5, .int .i64 c6, .int .i64 cap, .slice A l.length cc]; simpa using h⟩
  have kc0 := Blk.cell (Many.blk HM.out 0 _ _ _ rfl) 0 _ rfl
  have kc1 := Blk.cell (Many.blk HM.out 0 _ _ _ rfl) 1 _ rfl
  have kc2 := Blk.cell (Many.blk HM.out 0 _ _ _ rfl) 2 _ rfl
  have kc3 := Blk.cell (Many.blk HM.out 0 _ _ _ rfl) 3 _ rfl
  have kc4 := Blk.cell (Many.blk HM.out 0 _ _ _ rfl) 4 _ rfl
  have kc5 := Blk.cell (Many.blk HM.out 0 _ _ _ rfl) 5 _ rfl
  have kc6 := Blk.cell (Many.blk HM.out 0 _ _ _ rfl) 6 _ rfl
  have kc7 := Blk.cell (Many.blk HM.out 0 _ _ _ rfl) 7 _ rfl
  have kc8 := Blk.cell (Many.blk HM.out 0 _ _ _ rfl) 8 _ rfl
  go_enter Try.func6, Try.ntmps6
  go_upto_region 4 with (first
    | (go_at_call 8; ((with_reducible refine (waywardenlaw15_few.calls c0 c1 c2 c3 c4 c5 c6 cap A cc l true _ (Kd.C_below HR.out HM.out.bel) hc HF.out).mono ?_); rintro e w9 ⟨rfl, hb⟩; have HM := Aside0.mk (Many.later HM.out hb); (try clear kc0 kc1 kc2 kc3 kc4 kc5 kc6 kc7 kc8); have kc0 := Blk.cell (Many.blk HM.out 0 _ _ _ rfl) 0 _ rfl; have kc1 := Blk.cell (Many.blk HM.out 0 _ _ _ rfl) 1 _ rfl; have kc2 := Blk.cell (Many.blk HM.out 0 _ _ _ rfl) 2 _ rfl; have kc3 := Blk.cell (Many.blk HM.out 0 _ _ _ rfl) 3 _ rfl; have kc4 := Blk.cell (Many.blk HM.out 0 _ _ _ rfl) 4 _ rfl; have kc5 := Blk.cell (Many.blk HM.out 0 _ _ _ rfl) 5 _ rfl; have kc6 := Blk.cell (Many.blk HM.out 0 _ _ _ rfl) 6 _ rfl; have kc7 := Blk.cell (Many.blk HM.out 0 _ _ _ rfl) 7 _ rfl; have kc8 := Blk.cell (Many.blk HM.out 0 _ _ _ rfl) 8 _ rfl; clear hb))
    | (go_at_call 20; go_loud ((with_reducible refine (cfgright_any c0 c1 c2 c3 c4 c5 c6 cap A l cc _ (Kd.C_below HR.out HM.out.bel) hc HA.out (by omega)).mono ?_); rw [HN.out]; rintro e w9 ⟨rfl, hb⟩; have HM := Aside0.mk (Many.later HM.out hb); (try clear kc0 kc1 kc2 kc3 kc4 kc5 kc6 kc7 kc8); have kc0 := Blk.cell (Many.blk HM.out 0 _ _ _ rfl) 0 _ rfl; have kc1 := Blk.cell (Many.blk HM.out 0 _ _ _ rfl) 1 _ rfl; have kc2 := Blk.cell (Many.blk HM.out 0 _ _ _ rfl) 2 _ rfl; have kc3 := Blk.cell (Many.blk HM.out 0 _ _ _ rfl) 3 _ rfl; have kc4 := Blk.cell (Many.blk HM.out 0 _ _ _ rfl) 4 _ rfl; have kc5 := Blk.cell (Many.blk HM.out 0 _ _ _ rfl) 5 _ rfl; have kc6 := Blk.cell (Many.blk HM.out 0 _ _ _ rfl) 6 _ rfl; have kc7 := Blk.cell (Many.blk HM.out 0 _ _ _ rfl) 7 _ rfl; have kc8 := Blk.cell (Many.blk HM.out 0 _ _ _ rfl) 8 _ rfl; clear hb))
    | (go_at_call 9; go_loud ((with_reducible refine (works_any _).mono ?_); rintro e w9 ⟨rfl, hb⟩; have HM := Aside0.mk (Many.later HM.out hb); (try clear kc0 kc1 kc2 kc3 kc4 kc5 kc6 kc7 kc8); have kc0 := Blk.cell (Many.blk HM.out 0 _ _ _ rfl) 0 _ rfl; have kc1 := Blk.cell (Many.blk HM.out 0 _ _ _ rfl) 1 _ rfl; have kc2 := Blk.cell (Many.blk HM.out 0 _ _ _ rfl) 2 _ rfl; have kc3 := Blk.cell (Many.blk HM.out 0 _ _ _ rfl) 3 _ rfl; have kc4 := Blk.cell (Many.blk HM.out 0 _ _ _ rfl) 4 _ rfl; have kc5 := Blk.cell (Many.blk HM.out 0 _ _ _ rfl) 5 _ rfl; have kc6 := Blk.cell (Many.blk HM.out 0 _ _ _ rfl) 6 _ rfl; have kc7 := Blk.cell (Many.blk HM.out 0 _ _ _ rfl) 7 _ rfl; have kc8 := Blk.cell (Many.blk HM.out 0 _ _ _ rfl) 8 _ rfl; clear hb))
    | (go_at_call 10; go_loud ((with_reducible refine (begin_yes c0 c1 c2 c3 c4 c5 c6 cap A l cc 0 0 _ (Kd.C_below HR.out HM.out.bel) hc HA.out hm HN.out ⟨by omega, by omega⟩).mono ?_); rw [HB.out]; rintro e w9 ⟨rfl, hb⟩; have HM := Aside0.mk (Many.later HM.out hb); (try clear kc0 kc1 kc2 kc3 kc4 kc5 kc6 kc7 kc8); have kc0 := Blk.cell (Many.blk HM.out 0 _ _ _ rfl) 0 _ rfl; have kc1 := Blk.cell (Many.blk HM.out 0 _ _ _ rfl) 1 _ rfl; have kc2 := Blk.cell (Many.blk HM.out 0 _ _ _ rfl) 2 _ rfl; have kc3 := Blk.cell (Many.blk HM.out 0 _ _ _ rfl) 3 _ rfl; have kc4 := Blk.cell (Many.blk HM.out 0 _ _ _ rfl) 4 _ rfl; have kc5 := Blk.cell (Many.blk HM.out 0 _ _ _ rfl) 5 _ rfl; have kc6 := Blk.cell (Many.blk HM.out 0 _ _ _ rfl) 6 _ rfl; have kc7 := Blk.cell (Many.blk HM.out 0 _ _ _ rfl) 7 _ rfl; have kc8 := Blk.cell (Many.blk HM.out 0 _ _ _ rfl) 8 _ rfl; clear hb)))
  have HM0 := Aside0.mk (Many.grow HM.out 28 #[.int .i64 B, .int .i64 0, .bool false])
  obtain ⟨gp, hgp⟩ : ∃ g, w9.heap.size = g := ⟨_, rfl⟩
  obtain ⟨Wp, hWp⟩ : ∃ W', w9.alloc (.cells #[.int .i64 B, .int .i64 0, .bool false] 28) = W' := ⟨_, rfl⟩
  have hnp : ∀ p v, w9.cell? p = some v → p.block < gp := fun p v h => by rw [← hgp]; exact World.block_lt_of_cell? w9 p h
  rw [hWp, hgp] at HM0
  rw [hWp, hgp]
  have ltp_kc := hnp _ _ (Blk.cell (Many.blk HM.out 0 _ _ _ rfl) 0 _ rfl)
  clear hnp hgp hWp kc0 kc1 kc2 kc3 kc4 kc5 kc6 kc7 kc8 HM
  have HM : Aside0 (Many w [(w.heap.size, 24, #[.int .i64 c0, .int .i64 c1, .int .i64 c2, .int .i64 c3, .int .i64 c4, .int .i64 c5, .int .i64 c6, .int .i64 cap, .slice A l.length cc]), (gp, 28, #[.int .i64 B, .int .i64 0, .bool false])] Wp) := ⟨HM0.out⟩
  clear HM0
  have kc0 := Blk.cell (Many.blk HM.out 0 _ _ _ rfl) 0 _ rfl
  have kc1 := Blk.cell (Many.blk HM.out 0 _ _ _ rfl) 1 _ rfl
  have kc2 := Blk.cell (Many.blk HM.out 0 _ _ _ rfl) 2 _ rfl
  have kc3 := Blk.cell (Many.blk HM.out 0 _ _ _ rfl) 3 _ rfl
  have kc4 := Blk.cell (Many.blk HM.out 0 _ _ _ rfl) 4 _ rfl
  have kc5 := Blk.cell (Many.blk HM.out 0 _ _ _ rfl) 5 _ rfl
  have kc6 := Blk.cell (Many.blk HM.out 0 _ _ _ rfl) 6 _ rfl
  have kc7 := Blk.cell (Many.blk HM.out 0 _ _ _ rfl) 7 _ rfl
  have kc8 := Blk.cell (Many.blk HM.out 0 _ _ _ rfl) 8 _ rfl
  have pp0 := Blk.cell (Many.blk HM.out 1 _ _ _ rfl) 0 _ rfl
  have pp1 := Blk.cell (Many.blk HM.out 1 _ _ _ rfl) 1 _ rfl
  have pp2 := Blk.cell (Many.blk HM.out 1 _ _ _ rfl) 2 _ rfl
  go_wp2_with (go_at_call 12; ((with_reducible refine (waywardenlaw15_num.calls _ _ _ rfl).mono ?_); rintro e w9 ⟨rfl, hd⟩; have hb := hd.below; clear hd; have HM := Aside0.mk (Many.later HM.out hb); (try clear kc0 kc1 kc2 kc3 kc4 kc5 kc6 kc7 kc8 pp0 pp1 pp2 ppf0 ppf1 ppf2); have kc0 := Blk.cell (Many.blk HM.out 0 _ _ _ rfl) 0 _ rfl; have kc1 := Blk.cell (Many.blk HM.out 0 _ _ _ rfl) 1 _ rfl; have kc2 := Blk.cell (Many.blk HM.out 0 _ _ _ rfl) 2 _ rfl; have kc3 := Blk.cell (Many.blk HM.out 0 _ _ _ rfl) 3 _ rfl; have kc4 := Blk.cell (Many.blk HM.out 0 _ _ _ rfl) 4 _ rfl; have kc5 := Blk.cell (Many.blk HM.out 0 _ _ _ rfl) 5 _ rfl; have kc6 := Blk.cell (Many.blk HM.out 0 _ _ _ rfl) 6 _ rfl; have kc7 := Blk.cell (Many.blk HM.out 0 _ _ _ rfl) 7 _ rfl; have kc8 := Blk.cell (Many.blk HM.out 0 _ _ _ rfl) 8 _ rfl; have pp0 := Blk.cell (Many.blk HM.out 1 _ _ _ rfl) 0 _ rfl; have ppf0 := Blk.frozen (Many.blk HM.out 1 _ _ _ rfl) 0; have pp1 := Blk.cell (Many.blk HM.out 1 _ _ _ rfl) 1 _ rfl; have ppf1 := Blk.frozen (Many.blk HM.out 1 _ _ _ rfl) 1; have pp2 := Blk.cell (Many.blk HM.out 1 _ _ _ rfl) 2 _ rfl; have ppf2 := Blk.frozen (Many.blk HM.out 1 _ _ _ rfl) 2; clear hb))
  have HGP := Aside0.mk ltp_kc
  clear ltp_kc
  go_loopg [9, 10, 11, 12] N.toNat (fun g v9 v10 v11 v12 wr => ∃ (al tl wa t u0 u1 : Int) (u2 : Bool), v9 = .int .i64 al ∧ v10 = .int .i64 tl ∧ v11 = .int .i64 wa ∧ v12 = .int .i64 t ∧ Aside0 ((g : Int) + t = N ∧ 0 ≤ t) ∧ Aside0 (HInv c0 c1 c5 c6 al tl wa t u0 u1 u2) ∧ Aside0 (Many w [(w.heap.size, 24, #[.int .i64 c0, .int .i64 c1, .int .i64 c2, .int .i64 c3, .int .i64 c4, .int .i64 c5, .int .i64 c6, .int .i64 cap, .slice A l.length cc]), (gp, 28, #[.int .i64 u0, .int .i64 u1, .bool u2])] wr))
  case atStart => exact ⟨0, -1000, -1, 0, B, 0, false, rfl, rfl, rfl, rfl, ⟨by have := HNB.out; omega⟩, HI0, HM⟩
  case round =>
    clear HM kc0 kc1 kc2 kc3 kc4 kc5 kc6 kc7 kc8 pp0 pp1 pp2 ppf0 ppf1 ppf2
    obtain ⟨al, tl, wa, t, u0, u1, u2, rfl, rfl, rfl, rfl, HT, HI, HM⟩ := hrel
    have kc0 := Blk.cell (Many.blk HM.out 0 _ _ _ rfl) 0 _ rfl
    have kc1 := Blk.cell (Many.blk HM.out 0 _ _ _ rfl) 1 _ rfl
    have kc2 := Blk.cell (Many.blk HM.out 0 _ _ _ rfl) 2 _ rfl
    have kc3 := Blk.cell (Many.blk HM.out 0 _ _ _ rfl) 3 _ rfl
    have kc4 := Blk.cell (Many.blk HM.out 0 _ _ _ rfl) 4 _ rfl
    have kc5 := Blk.cell (Many.blk HM.out 0 _ _ _ rfl) 5 _ rfl
    have kc6 := Blk.cell (Many.blk HM.out 0 _ _ _ rfl) 6 _ rfl
    have kc7 := Blk.cell (Many.blk HM.out 0 _ _ _ rfl) 7 _ rfl
    have kc8 := Blk.cell (Many.blk HM.out 0 _ _ _ rfl) 8 _ rfl
    have pp0 := Blk.cell (Many.blk HM.out 1 _ _ _ rfl) 0 _ rfl
    have ppf0 := Blk.frozen (Many.blk HM.out 1 _ _ _ rfl) 0
    have pp1 := Blk.cell (Many.blk HM.out 1 _ _ _ rfl) 1 _ rfl
    have ppf1 := Blk.frozen (Many.blk HM.out 1 _ _ _ rfl) 1
    have pp2 := Blk.cell (Many.blk HM.out 1 _ _ _ rfl) 2 _ rfl
    have ppf2 := Blk.frozen (Many.blk HM.out 1 _ _ _ rfl) 2
    by_cases hlt : t < N
    · have HLT := Aside0.mk hlt
      have dd1 : decide (t < N) = true := decide_eq_true (by omega)
      have de1 : decide (N > t) = true := decide_eq_true (by omega)
      clear hlt
      have hT := tick_cases (d := rd dr t) HI.out HCF.out
      have HP1 : Aside0 (pulseOk u0 u1 = true) := ⟨HI.out.ok HCF.out (by have := HNB.out; have := HLT.out; omega)⟩
      have HTB : Aside0 (t ≤ 4611686018425387904) := ⟨by have := HNB.out; have := HLT.out; omega⟩
      obtain ⟨x0, f0⟩ : ∃ x, tkU0 u0 t (c0 + clampN (rd dr t) c1) = x := ⟨_, rfl⟩
      obtain ⟨x1, f1⟩ : ∃ x, tkU1 u0 u1 u2 t (c5 + clampN (rd dr t) c6) = x := ⟨_, rfl⟩
      obtain ⟨x2, f2⟩ : ∃ x, tkU2 u0 u1 u2 t = x := ⟨_, rfl⟩
      obtain ⟨kk, f3⟩ : ∃ x, tkK u0 u1 u2 t = x := ⟨_, rfl⟩
      rw [f0, f1, f2, f3] at hT
      have HTT := Aside0.mk hT
      have E0 := Aside0.mk f0
      have E1 := Aside0.mk f1
      have E2 := Aside0.mk f2
      have E3 := Aside0.mk f3
      clear hT f0 f1 f2 f3
      obtain ⟨ad, ead, hx⟩ := Kd.at_int HD.out t HT.out.2 (by have := HNB.out; have := HLT.out; omega)
      cases ead
      have HX0 := Aside0.mk hx
      have HAD := Aside0.mk (World.block_lt_of_cell? w _ hx)
      clear hx
      have hxr : wr.cell? (ad.add t.toNat) = some (.int .i64 (rd dr t)) := (HM.out.bel.cell HAD.out).trans HX0.out
      have hx' : ∀ w' : World, Below wr.heap.size wr w' → w'.cell? (ad.add t.toNat) = some (.int .i64 (rd dr t)) := fun w' h => (h.cell (World.block_lt_of_cell? wr _ hxr)).trans hxr
      clear hxr
      have p1 := eq_true HT.out.2
      have p2 : (t < (dr.length : Int)) = True := eq_true (by have := HNB.out; have := HLT.out; omega)
      have p3 : (t < (ch.length : Int)) = True := eq_true (by have := HNB.out; have := HLT.out; omega)
      have HGR := Aside0.mk (World.block_lt_of_cell? wr _ pp0)
      go_upto_region 11 with fail
      have kc0' : ∀ w' : World, Below wr.heap.size wr w' → w'.cell? ⟨w.heap.size, 0, none⟩ = some (.int .i64 c0) := fun w' h => Blk.cell (Blk.later (Many.blk HM.out 0 _ _ _ rfl) h) 0 _ rfl
      have kc1' : ∀ w' : World, Below wr.heap.size wr w' → w'.cell? ⟨w.heap.size, 1, none⟩ = some (.int .i64 c1) := fun w' h => Blk.cell (Blk.later (Many.blk HM.out 0 _ _ _ rfl) h) 1 _ rfl
      have kc2' : ∀ w' : World, Below wr.heap.size wr w' → w'.cell? ⟨w.heap.size, 2, none⟩ = some (.int .i64 c2) := fun w' h => Blk.cell (Blk.later (Many.blk HM.out 0 _ _ _ rfl) h) 2 _ rfl
      have kc3' : ∀ w' : World, Below wr.heap.size wr w' → w'.cell? ⟨w.heap.size, 3, none⟩ = some (.int .i64 c3) := fun w' h => Blk.cell (Blk.later (Many.blk HM.out 0 _ _ _ rfl) h) 3 _ rfl
      have kc4' : ∀ w' : World, Below wr.heap.size wr w' → w'.cell? ⟨w.heap.size, 4, none⟩ = some (.int .i64 c4) := fun w' h => Blk.cell (Blk.later (Many.blk HM.out 0 _ _ _ rfl) h) 4 _ rfl
      have kc5' : ∀ w' : World, Below wr.heap.size wr w' → w'.cell? ⟨w.heap.size, 5, none⟩ = some (.int .i64 c5) := fun w' h => Blk.cell (Blk.later (Many.blk HM.out 0 _ _ _ rfl) h) 5 _ rfl
      have kc6' : ∀ w' : World, Below wr.heap.size wr w' → w'.cell? ⟨w.heap.size, 6, none⟩ = some (.int .i64 c6) := fun w' h => Blk.cell (Blk.later (Many.blk HM.out 0 _ _ _ rfl) h) 6 _ rfl
      have kc7' : ∀ w' : World, Below wr.heap.size wr w' → w'.cell? ⟨w.heap.size, 7, none⟩ = some (.int .i64 cap) := fun w' h => Blk.cell (Blk.later (Many.blk HM.out 0 _ _ _ rfl) h) 7 _ rfl
      have kc8' : ∀ w' : World, Below wr.heap.size wr w' → w'.cell? ⟨w.heap.size, 8, none⟩ = some (.slice A l.length cc) := fun w' h => Blk.cell (Blk.later (Many.blk HM.out 0 _ _ _ rfl) h) 8 _ rfl
      have pp0' : ∀ w' : World, Below wr.heap.size wr w' → w'.cell? ⟨gp, 0, none⟩ = some (.int .i64 u0) := fun w' h => Blk.cell (Blk.later (Many.blk HM.out 1 _ _ _ rfl) h) 0 _ rfl
      have pp1' : ∀ w' : World, Below wr.heap.size wr w' → w'.cell? ⟨gp, 1, none⟩ = some (.int .i64 u1) := fun w' h => Blk.cell (Blk.later (Many.blk HM.out 1 _ _ _ rfl) h) 1 _ rfl
      have pp2' : ∀ w' : World, Below wr.heap.size wr w' → w'.cell? ⟨gp, 2, none⟩ = some (.bool u2) := fun w' h => Blk.cell (Blk.later (Many.blk HM.out 1 _ _ _ rfl) h) 2 _ rfl
      have HRr := Aside0.mk (Kd.C_below HR.out HM.out.bel)
      go_cut [14, 15, 16] (fun v14 v15 v16 wx => ∃ go : Nat, v14 = .pointer (some ⟨go, 0, none⟩) ∧ wr.heap.size ≤ go ∧ Blk wx go 28 #[.int .i64 x0, .int .i64 x1, .bool x2] ∧ Below wr.heap.size wr wx ∧ v15 = .int .i64 kk ∧ v16 = .int .i64 0)
      case first =>
        as_aux_lemma =>
          clear kc0 kc1 kc2 kc3 kc4 kc5 kc6 kc7 kc8 pp0 pp1 pp2 ppf0 ppf1 ppf2
          refine wp_region_held_drew (S := fun w' => Below wr.heap.size wr w') (by kernel_rfl) ?sA (fun hHeld => ?rA)
          case sA => exact (below_drew (Below.refl wr.heap.size wr))
          refine wpAnyH_take (i := 0) (oi := ?oA_0_1) (v := ?vA_0_1) ?iA_0_1 (by kernel_rfl) (by kernel_rfl) (by kernel_rfl) ?qA_0_1 ?yA_0_1 hHeld ?nA_0_1
          case iA_0_1 => (simp only [List.getElem?_toArray, List.getElem?_cons_succ, List.getElem?_cons_zero]; rfl)
          case yA_0_1 => (refine Or.inl ⟨by kernel_rfl, ?_⟩; intro w' hSw; (try dsimp only at hSw); first | (go_simp; done) | (go_simp; with_reducible rfl))
          case qA_0_1 => exact fun _ _ _ h => h
          try simp only [Act.put, List.setIfInBounds_toArray, List.set_cons_zero, List.set_cons_succ]
          refine wpAnyH_take (i := 1) (oi := ?oA_1_2) (v := ?vA_1_2) ?iA_1_2 (by kernel_rfl) (by kernel_rfl) (by kernel_rfl) ?qA_1_2 ?yA_1_2 hHeld ?nA_1_2
          case iA_1_2 => (simp only [List.getElem?_toArray, List.getElem?_cons_succ, List.getElem?_cons_zero]; rfl)
          case yA_1_2 => (refine Or.inl ⟨by kernel_rfl, ?_⟩; intro w' hSw; (try dsimp only at hSw); first | (go_simp; done) | (go_simp; with_reducible rfl))
          case qA_1_2 => exact fun _ _ _ h => h
          try simp only [Act.put, List.setIfInBounds_toArray, List.set_cons_zero, List.set_cons_succ]
          refine wpAnyH_take (i := 2) (oi := ?oA_2_3) (v := ?vA_2_3) ?iA_2_3 (by kernel_rfl) (by kernel_rfl) (by kernel_rfl) ?qA_2_3 ?yA_2_3 hHeld ?nA_2_3
          case iA_2_3 => (simp only [List.getElem?_toArray, List.getElem?_cons_succ, List.getElem?_cons_zero]; rfl)
          case yA_2_3 => (refine Or.inl ⟨by kernel_rfl, ?_⟩; intro w' hSw; (try dsimp only at hSw); first | (go_simp; done) | (go_simp; with_reducible rfl))
          case qA_2_3 => exact fun _ _ _ h => h
          try simp only [Act.put, List.setIfInBounds_toArray, List.set_cons_zero, List.set_cons_succ]
          refine wpAnyH_take (i := 3) (oi := ?oA_3_4) (v := ?vA_3_4) ?iA_3_4 (by kernel_rfl) (by kernel_rfl) (by kernel_rfl) ?qA_3_4 ?yA_3_4 hHeld ?nA_3_4
          case iA_3_4 => (simp only [List.getElem?_toArray, List.getElem?_cons_succ, List.getElem?_cons_zero]; rfl)
          case yA_3_4 => (refine Or.inl ⟨by kernel_rfl, ?_⟩; intro w' hSw; (try dsimp only at hSw); first | (go_simp; done) | (go_simp; with_reducible rfl))
          case qA_3_4 => exact fun _ _ _ h => h
          try simp only [Act.put, List.setIfInBounds_toArray, List.set_cons_zero, List.set_cons_succ]
          refine wpAnyH_take (i := 4) (oi := ?oA_4_5) (v := ?vA_4_5) ?iA_4_5 (by kernel_rfl) (by kernel_rfl) (by kernel_rfl) ?qA_4_5 ?yA_4_5 hHeld ?nA_4_5
          case iA_4_5 => (simp only [List.getElem?_toArray, List.getElem?_cons_succ, List.getElem?_cons_zero]; rfl)
          case yA_4_5 => (refine Or.inl ⟨by kernel_rfl, ?_⟩; intro w' hSw; (try dsimp only at hSw); first | (go_simp; done) | (go_simp; with_reducible rfl))
          case qA_4_5 => exact fun _ _ _ h => h
          try simp only [Act.put, List.setIfInBounds_toArray, List.set_cons_zero, List.set_cons_succ]
          refine wpAnyH_take (i := 5) (oi := ?oA_5_6) (v := ?vA_5_6) ?iA_5_6 (by kernel_rfl) (by kernel_rfl) (by kernel_rfl) ?qA_5_6 ?yA_5_6 hHeld ?nA_5_6
          case iA_5_6 => (simp only [List.getElem?_toArray, List.getElem?_cons_succ, List.getElem?_cons_zero]; rfl)
          case yA_5_6 => (refine Or.inl ⟨by kernel_rfl, ?_⟩; intro w' hSw; (try dsimp only at hSw); first | (go_simp; done) | (go_simp; with_reducible rfl))
          case qA_5_6 => exact fun _ _ _ h => h
          try simp only [Act.put, List.setIfInBounds_toArray, List.set_cons_zero, List.set_cons_succ]
          refine wpAnyH_take (i := 6) (oi := ?oA_6_7) (v := ?vA_6_7) ?iA_6_7 (by kernel_rfl) (by kernel_rfl) (by kernel_rfl) ?qA_6_7 ?yA_6_7 hHeld ?nA_6_7
          case iA_6_7 => (simp only [List.getElem?_toArray, List.getElem?_cons_succ, List.getElem?_cons_zero]; rfl)
          case yA_6_7 => (refine Or.inl ⟨by kernel_rfl, ?_⟩; intro w' hSw; (try dsimp only at hSw); first | (go_simp; done) | (go_simp; with_reducible rfl))
          case qA_6_7 => exact fun _ _ _ h => h
          try simp only [Act.put, List.setIfInBounds_toArray, List.set_cons_zero, List.set_cons_succ]
          refine wpAnyH_ready (rs := [7, 12]) (by kernel_rfl) (by simp) ?_
          refine (AllReadyH.cons (o := ?oA_7_8) ?iA_7_8 (fun K hK => ?kA_7_8) (AllReadyH.cons (o := ?oA_12_8) ?iA_12_8 (fun K hK => ?kA_12_8) AllReadyH.nil))
          case iA_7_8 => (simp only [List.getElem?_toArray, List.getElem?_cons_succ, List.getElem?_cons_zero]; rfl)
          case iA_12_8 => (simp only [List.getElem?_toArray, List.getElem?_cons_succ, List.getElem?_cons_zero]; rfl)
          case kA_7_8 =>
            go_simp
            (with_reducible refine (tick_yes c0 c1 c2 c3 c4 c5 c6 cap A l cc u0 u1 u2 t (rd dr t) _ (Kd.C_below HRr.out hHeld) hc HA.out hm HP1.out HN.out ⟨HT.out.2, HTB.out⟩).mono ?_); rw [E0.out, E1.out, E2.out, E3.out]; rintro e w4 ⟨rfl, hb⟩; dsimp only
            refine hK.out _ _ ?hA_7_8 (fun hHeld2 => ?mA_7_8)
            case hA_7_8 => exact thenB hHeld hHeld.size hb
            clear hK K hHeld
            have hHeld := hHeld2
            clear hHeld2
            try simp only [Act.put, List.setIfInBounds_toArray, List.set_cons_zero, List.set_cons_succ]
            refine wpAnyH_take (i := 8) (oi := ?oA_8_9) (v := ?vA_8_9) ?iA_8_9 (by kernel_rfl) (by kernel_rfl) (by kernel_rfl) ?qA_8_9 ?yA_8_9 hHeld ?nA_8_9
            case iA_8_9 => (simp only [List.getElem?_toArray, List.getElem?_cons_succ, List.getElem?_cons_zero]; rfl)
            case yA_8_9 => (refine Or.inl ⟨by kernel_rfl, ?_⟩; intro w' hSw; (try dsimp only at hSw); first | (go_simp; done) | (go_simp; with_reducible rfl))
            case qA_8_9 => exact fun _ _ _ h => h
            try simp only [Act.put, List.setIfInBounds_toArray, List.set_cons_zero, List.set_cons_succ]
            refine wpAnyH_take (i := 9) (oi := ?oA_9_10) (v := ?vA_9_10) ?iA_9_10 (by kernel_rfl) (by kernel_rfl) (by kernel_rfl) ?qA_9_10 ?yA_9_10 hHeld ?nA_9_10
            case iA_9_10 => (simp only [List.getElem?_toArray, List.getElem?_cons_succ, List.getElem?_cons_zero]; rfl)
            case yA_9_10 => (refine Or.inl ⟨by kernel_rfl, ?_⟩; intro w' hSw; (try dsimp only at hSw); first | (go_simp; done) | (go_simp; with_reducible rfl))
            case qA_9_10 => exact fun _ _ _ h => h
            try simp only [Act.put, List.setIfInBounds_toArray, List.set_cons_zero, List.set_cons_succ]
            refine wpAnyH_take (i := 10) (oi := ?oA_10_11) (v := ?vA_10_11) ?iA_10_11 (by kernel_rfl) (by kernel_rfl) (by kernel_rfl) ?qA_10_11 ?yA_10_11 hHeld ?nA_10_11
            case iA_10_11 => (simp only [List.getElem?_toArray, List.getElem?_cons_succ, List.getElem?_cons_zero]; rfl)
            case yA_10_11 => (refine Or.inl ⟨by kernel_rfl, ?_⟩; intro w' hSw; (try dsimp only at hSw); first | (go_simp; done) | (go_simp; with_reducible rfl))
            case qA_10_11 => exact fun _ _ _ h => h
            try simp only [Act.put, List.setIfInBounds_toArray, List.set_cons_zero, List.set_cons_succ]
            refine wpAnyH_take (i := 11) (oi := ?oA_11_12) (v := ?vA_11_12) ?iA_11_12 (by kernel_rfl) (by kernel_rfl) (by kernel_rfl) ?qA_11_12 ?yA_11_12 hHeld ?nA_11_12
            case iA_11_12 => (simp only [List.getElem?_toArray, List.getElem?_cons_succ, List.getElem?_cons_zero]; rfl)
            case yA_11_12 => (refine Or.inl ⟨by kernel_rfl, ?_⟩; intro w' hSw; (try dsimp only at hSw); first | (go_simp; done) | (go_simp; with_reducible rfl))
            case qA_11_12 => exact fun _ _ _ h => h
            try simp only [Act.put, List.setIfInBounds_toArray, List.set_cons_zero, List.set_cons_succ]
            refine wpAnyH_ready (rs := [12]) (by kernel_rfl) (by simp) ?_
            refine (AllReadyH.cons (o := ?oA_12_13) ?iA_12_13 (fun K hK => ?kA_12_13) AllReadyH.nil)
            case iA_12_13 => (simp only [List.getElem?_toArray, List.getElem?_cons_succ, List.getElem?_cons_zero]; rfl)
            case kA_12_13 =>
              go_simp
              have H4 := Aside0.mk hHeld; have HO : Aside0 (Blk (w4.alloc (.cells #[.int .i64 0, .int .i64 0, .bool false] 28)) w4.heap.size 28 #[.int .i64 0, .int .i64 0, .bool false]) := ⟨Blk.new' w4 _ _ _ rfl⟩; have hle : wr.heap.size ≤ w4.heap.size := Below.size hHeld
              refine hK.out _ _ ?hA_12_13 (fun hHeld2 => ?mA_12_13)
              case hA_12_13 => exact below_alloc hHeld _
              clear hK K hHeld
              have hHeld := hHeld2
              clear hHeld2
              try simp only [Act.put, List.setIfInBounds_toArray, List.set_cons_zero, List.set_cons_succ]
              refine wpAnyH_ready (rs := [13]) (by kernel_rfl) (by simp) ?_
              refine (AllReadyH.cons (o := ?oA_13_14) ?iA_13_14 (fun K hK => ?kA_13_14) AllReadyH.nil)
              case iA_13_14 => (simp only [List.getElem?_toArray, List.getElem?_cons_succ, List.getElem?_cons_zero]; rfl)
              case kA_13_14 =>
                have oo0 := Blk.cell HO.out 0 _ rfl; have oo1 := Blk.cell HO.out 1 _ rfl; have oo2 := Blk.cell HO.out 2 _ rfl; have oof0 := Blk.frozen HO.out 0; have oof1 := Blk.frozen HO.out 1; have oof2 := Blk.frozen HO.out 2
                go_simp
                skip
                refine hK.out _ _ ?hA_13_14 (fun hHeld2 => ?mA_13_14)
                case hA_13_14 => exact below_alloc H4.out _
                clear hK K hHeld
                have hHeld := hHeld2
                clear hHeld2
                try simp only [Act.put, List.setIfInBounds_toArray, List.set_cons_zero, List.set_cons_succ]
                refine wpAnyH_take (i := 14) (oi := ?oA_14_15) (v := ?vA_14_15) ?iA_14_15 (by kernel_rfl) (by kernel_rfl) (by kernel_rfl) ?qA_14_15 ?yA_14_15 hHeld ?nA_14_15
                case iA_14_15 => (simp only [List.getElem?_toArray, List.getElem?_cons_succ, List.getElem?_cons_zero]; rfl)
                case yA_14_15 => (refine Or.inl ⟨by kernel_rfl, ?_⟩; intro w' hSw; (try dsimp only at hSw); first | (go_simp; done) | (go_simp; with_reducible rfl))
                case qA_14_15 => exact fun _ _ _ h => h
                try simp only [Act.put, List.setIfInBounds_toArray, List.set_cons_zero, List.set_cons_succ]
                refine wpAnyH_take (i := 15) (oi := ?oA_15_16) (v := ?vA_15_16) ?iA_15_16 (by kernel_rfl) (by kernel_rfl) (by kernel_rfl) ?qA_15_16 ?yA_15_16 hHeld ?nA_15_16
                case iA_15_16 => (simp only [List.getElem?_toArray, List.getElem?_cons_succ, List.getElem?_cons_zero]; rfl)
                case yA_15_16 => (refine Or.inl ⟨by kernel_rfl, ?_⟩; intro w' hSw; (try dsimp only at hSw); first | (go_simp; done) | (go_simp; with_reducible rfl))
                case qA_15_16 => exact fun _ _ _ h => h
                try simp only [Act.put, List.setIfInBounds_toArray, List.set_cons_zero, List.set_cons_succ]
                refine wpAnyH_done (by kernel_rfl) ?_ _
                try go_wp2
                go_meet
                exact ⟨w4.heap.size, rfl, hle, Blk.new' w4 _ _ _ rfl, hHeld, rfl, rfl⟩
          case kA_12_8 =>
            go_simp
            have HO : Aside0 (Blk (wr.drew.alloc (.cells #[.int .i64 0, .int .i64 0, .bool false] 28)) wr.heap.size 28 #[.int .i64 0, .int .i64 0, .bool false]) := ⟨Blk.new' wr.drew _ _ _ rfl⟩; have hle : wr.heap.size ≤ wr.heap.size := Nat.le_refl _
            refine hK.out _ _ ?hA_12_8 (fun hHeld2 => ?mA_12_8)
            case hA_12_8 => exact below_alloc hHeld _
            clear hK K hHeld
            have hHeld := hHeld2
            clear hHeld2
            try simp only [Act.put, List.setIfInBounds_toArray, List.set_cons_zero, List.set_cons_succ]
            refine wpAnyH_ready (rs := [7]) (by kernel_rfl) (by simp) ?_
            refine (AllReadyH.cons (o := ?oA_7_17) ?iA_7_17 (fun K hK => ?kA_7_17) AllReadyH.nil)
            case iA_7_17 => (simp only [List.getElem?_toArray, List.getElem?_cons_succ, List.getElem?_cons_zero]; rfl)
            case kA_7_17 =>
              go_simp
              (with_reducible refine (tick_yes c0 c1 c2 c3 c4 c5 c6 cap A l cc u0 u1 u2 t (rd dr t) _ (Kd.C_below HRr.out hHeld) hc HA.out hm HP1.out HN.out ⟨HT.out.2, HTB.out⟩).mono ?_); rw [E0.out, E1.out, E2.out, E3.out]; rintro e w4 ⟨rfl, hb⟩; dsimp only; have HO := Aside0.mk (Blk.later HO.out hb)
              refine hK.out _ _ ?hA_7_17 (fun hHeld2 => ?mA_7_17)
              case hA_7_17 => exact thenB hHeld hHeld.size hb
              clear hK K hHeld
              have hHeld := hHeld2
              clear hHeld2
              try simp only [Act.put, List.setIfInBounds_toArray, List.set_cons_zero, List.set_cons_succ]
              refine wpAnyH_take (i := 8) (oi := ?oA_8_18) (v := ?vA_8_18) ?iA_8_18 (by kernel_rfl) (by kernel_rfl) (by kernel_rfl) ?qA_8_18 ?yA_8_18 hHeld ?nA_8_18
              case iA_8_18 => (simp only [List.getElem?_toArray, List.getElem?_cons_succ, List.getElem?_cons_zero]; rfl)
              case yA_8_18 => (refine Or.inl ⟨by kernel_rfl, ?_⟩; intro w' hSw; (try dsimp only at hSw); first | (go_simp; done) | (go_simp; with_reducible rfl))
              case qA_8_18 => exact fun _ _ _ h => h
              try simp only [Act.put, List.setIfInBounds_toArray, List.set_cons_zero, List.set_cons_succ]
              refine wpAnyH_take (i := 9) (oi := ?oA_9_19) (v := ?vA_9_19) ?iA_9_19 (by kernel_rfl) (by kernel_rfl) (by kernel_rfl) ?qA_9_19 ?yA_9_19 hHeld ?nA_9_19
              case iA_9_19 => (simp only [List.getElem?_toArray, List.getElem?_cons_succ, List.getElem?_cons_zero]; rfl)
              case yA_9_19 => (refine Or.inl ⟨by kernel_rfl, ?_⟩; intro w' hSw; (try dsimp only at hSw); first | (go_simp; done) | (go_simp; with_reducible rfl))
              case qA_9_19 => exact fun _ _ _ h => h
              try simp only [Act.put, List.setIfInBounds_toArray, List.set_cons_zero, List.set_cons_succ]
              refine wpAnyH_take (i := 10) (oi := ?oA_10_20) (v := ?vA_10_20) ?iA_10_20 (by kernel_rfl) (by kernel_rfl) (by kernel_rfl) ?qA_10_20 ?yA_10_20 hHeld ?nA_10_20
              case iA_10_20 => (simp only [List.getElem?_toArray, List.getElem?_cons_succ, List.getElem?_cons_zero]; rfl)
              case yA_10_20 => (refine Or.inl ⟨by kernel_rfl, ?_⟩; intro w' hSw; (try dsimp only at hSw); first | (go_simp; done) | (go_simp; with_reducible rfl))
              case qA_10_20 => exact fun _ _ _ h => h
              try simp only [Act.put, List.setIfInBounds_toArray, List.set_cons_zero, List.set_cons_succ]
              refine wpAnyH_take (i := 11) (oi := ?oA_11_21) (v := ?vA_11_21) ?iA_11_21 (by kernel_rfl) (by kernel_rfl) (by kernel_rfl) ?qA_11_21 ?yA_11_21 hHeld ?nA_11_21
              case iA_11_21 => (simp only [List.getElem?_toArray, List.getElem?_cons_succ, List.getElem?_cons_zero]; rfl)
              case yA_11_21 => (refine Or.inl ⟨by kernel_rfl, ?_⟩; intro w' hSw; (try dsimp only at hSw); first | (go_simp; done) | (go_simp; with_reducible rfl))
              case qA_11_21 => exact fun _ _ _ h => h
              try simp only [Act.put, List.setIfInBounds_toArray, List.set_cons_zero, List.set_cons_succ]
              refine wpAnyH_ready (rs := [13]) (by kernel_rfl) (by simp) ?_
              refine (AllReadyH.cons (o := ?oA_13_22) ?iA_13_22 (fun K hK => ?kA_13_22) AllReadyH.nil)
              case iA_13_22 => (simp only [List.getElem?_toArray, List.getElem?_cons_succ, List.getElem?_cons_zero]; rfl)
              case kA_13_22 =>
                have oo0 := Blk.cell HO.out 0 _ rfl; have oo1 := Blk.cell HO.out 1 _ rfl; have oo2 := Blk.cell HO.out 2 _ rfl; have oof0 := Blk.frozen HO.out 0; have oof1 := Blk.frozen HO.out 1; have oof2 := Blk.frozen HO.out 2
                go_simp
                skip
                refine hK.out _ _ ?hA_13_22 (fun hHeld2 => ?mA_13_22)
                case hA_13_22 => exact Below.setCell (p := ⟨wr.heap.size, 2, none⟩) (Below.setCell (p := ⟨wr.heap.size, 1, none⟩) (Below.setCell (p := ⟨wr.heap.size, 0, none⟩) hHeld hle _) hle _) hle _
                clear hK K hHeld
                have hHeld := hHeld2
                clear hHeld2
                try simp only [Act.put, List.setIfInBounds_toArray, List.set_cons_zero, List.set_cons_succ]
                refine wpAnyH_take (i := 14) (oi := ?oA_14_23) (v := ?vA_14_23) ?iA_14_23 (by kernel_rfl) (by kernel_rfl) (by kernel_rfl) ?qA_14_23 ?yA_14_23 hHeld ?nA_14_23
                case iA_14_23 => (simp only [List.getElem?_toArray, List.getElem?_cons_succ, List.getElem?_cons_zero]; rfl)
                case yA_14_23 => (refine Or.inl ⟨by kernel_rfl, ?_⟩; intro w' hSw; (try dsimp only at hSw); first | (go_simp; done) | (go_simp; with_reducible rfl))
                case qA_14_23 => exact fun _ _ _ h => h
                try simp only [Act.put, List.setIfInBounds_toArray, List.set_cons_zero, List.set_cons_succ]
                refine wpAnyH_take (i := 15) (oi := ?oA_15_24) (v := ?vA_15_24) ?iA_15_24 (by kernel_rfl) (by kernel_rfl) (by kernel_rfl) ?qA_15_24 ?yA_15_24 hHeld ?nA_15_24
                case iA_15_24 => (simp only [List.getElem?_toArray, List.getElem?_cons_succ, List.getElem?_cons_zero]; rfl)
                case yA_15_24 => (refine Or.inl ⟨by kernel_rfl, ?_⟩; intro w' hSw; (try dsimp only at hSw); first | (go_simp; done) | (go_simp; with_reducible rfl))
                case qA_15_24 => exact fun _ _ _ h => h
                try simp only [Act.put, List.setIfInBounds_toArray, List.set_cons_zero, List.set_cons_succ]
                refine wpAnyH_done (by kernel_rfl) ?_ _
                try go_wp2
                go_meet
                exact ⟨wr.heap.size, rfl, hle, (OneSet.whole HO.out [.int .i64 x0, .int .i64 x1, .bool x2] rfl).blk, hHeld, rfl, rfl⟩
      case rest =>
        obtain ⟨go, rfl, hgo, hbo, hbw, rfl, rfl⟩ := hcut
        have HM0 : Aside0 (Many w [(w.heap.size, 24, #[.int .i64 c0, .int .i64 c1, .int .i64 c2, .int .i64 c3, .int .i64 c4, .int .i64 c5, .int .i64 c6, .int .i64 cap, .slice A l.length cc]), (gp, 28, #[.int .i64 u0, .int .i64 u1, .bool u2]), (go, 28, #[.int .i64 x0, .int .i64 x1, .bool x2])] wc) := ⟨Many.put (Many.later HM.out hbw) hbo⟩
        have HG : Aside0 (w.heap.size < gp ∧ gp < go) := ⟨by have q := HGP.out; have q2 := HGR.out; dsimp only at q2; omega⟩
        clear kc0 kc1 kc2 kc3 kc4 kc5 kc6 kc7 kc8 pp0 pp1 pp2 ppf0 ppf1 ppf2 kc0' kc1' kc2' kc3' kc4' kc5' kc6' kc7' kc8' pp0' pp1' pp2' hx' HM hbw hbo hgo HRr HGR
        have HM := HM0
        clear HM0
        have kc0 := Blk.cell (Many.blk HM.out 0 _ _ _ rfl) 0 _ rfl
        have kc1 := Blk.cell (Many.blk HM.out 0 _ _ _ rfl) 1 _ rfl
        have kc2 := Blk.cell (Many.blk HM.out 0 _ _ _ rfl) 2 _ rfl
        have kc3 := Blk.cell (Many.blk HM.out 0 _ _ _ rfl) 3 _ rfl
        have kc4 := Blk.cell (Many.blk HM.out 0 _ _ _ rfl) 4 _ rfl
        have kc5 := Blk.cell (Many.blk HM.out 0 _ _ _ rfl) 5 _ rfl
        have kc6 := Blk.cell (Many.blk HM.out 0 _ _ _ rfl) 6 _ rfl
        have kc7 := Blk.cell (Many.blk HM.out 0 _ _ _ rfl) 7 _ rfl
        have kc8 := Blk.cell (Many.blk HM.out 0 _ _ _ rfl) 8 _ rfl
        have pp0 := Blk.cell (Many.blk HM.out 1 _ _ _ rfl) 0 _ rfl
        have ppf0 := Blk.frozen (Many.blk HM.out 1 _ _ _ rfl) 0
        have pp1 := Blk.cell (Many.blk HM.out 1 _ _ _ rfl) 1 _ rfl
        have ppf1 := Blk.frozen (Many.blk HM.out 1 _ _ _ rfl) 1
        have pp2 := Blk.cell (Many.blk HM.out 1 _ _ _ rfl) 2 _ rfl
        have ppf2 := Blk.frozen (Many.blk HM.out 1 _ _ _ rfl) 2
        have oo0 := Blk.cell (Many.blk HM.out 2 _ _ _ rfl) 0 _ rfl
        have oof0 := Blk.frozen (Many.blk HM.out 2 _ _ _ rfl) 0
        have oo1 := Blk.cell (Many.blk HM.out 2 _ _ _ rfl) 1 _ rfl
        have oof1 := Blk.frozen (Many.blk HM.out 2 _ _ _ rfl) 1
        have oo2 := Blk.cell (Many.blk HM.out 2 _ _ _ rfl) 2 _ rfl
        have oof2 := Blk.frozen (Many.blk HM.out 2 _ _ _ rfl) 2
        rcases HTT.out with ⟨rfl, rfl, hm1⟩ | ⟨rfl, rfl, hq, hm1⟩ | ⟨rfl, hm1, hq⟩
        · as_aux_lemma =>
            have HF1 := Aside0.mk hm1
            clear hm1
            go_upto_region 20 with (go_at_call 12; ((with_reducible refine (waywardenlaw15_num.calls _ _ _ rfl).mono ?_); rintro e w9 ⟨rfl, hd⟩; have hb := hd.below; clear hd; have HM := Aside0.mk (Many.later HM.out hb); (try clear kc0 kc1 kc2 kc3 kc4 kc5 kc6 kc7 kc8 pp0 pp1 pp2 oo0 oo1 oo2 ppf0 ppf1 ppf2 oof0 oof1 oof2); have kc0 := Blk.cell (Many.blk HM.out 0 _ _ _ rfl) 0 _ rfl; have kc1 := Blk.cell (Many.blk HM.out 0 _ _ _ rfl) 1 _ rfl; have kc2 := Blk.cell (Many.blk HM.out 0 _ _ _ rfl) 2 _ rfl; have kc3 := Blk.cell (Many.blk HM.out 0 _ _ _ rfl) 3 _ rfl; have kc4 := Blk.cell (Many.blk HM.out 0 _ _ _ rfl) 4 _ rfl; have kc5 := Blk.cell (Many.blk HM.out 0 _ _ _ rfl) 5 _ rfl; have kc6 := Blk.cell (Many.blk HM.out 0 _ _ _ rfl) 6 _ rfl; have kc7 := Blk.cell (Many.blk HM.out 0 _ _ _ rfl) 7 _ rfl; have kc8 := Blk.cell (Many.blk HM.out 0 _ _ _ rfl) 8 _ rfl; have pp0 := Blk.cell (Many.blk HM.out 1 _ _ _ rfl) 0 _ rfl; have ppf0 := Blk.frozen (Many.blk HM.out 1 _ _ _ rfl) 0; have pp1 := Blk.cell (Many.blk HM.out 1 _ _ _ rfl) 1 _ rfl; have ppf1 := Blk.frozen (Many.blk HM.out 1 _ _ _ rfl) 1; have pp2 := Blk.cell (Many.blk HM.out 1 _ _ _ rfl) 2 _ rfl; have ppf2 := Blk.frozen (Many.blk HM.out 1 _ _ _ rfl) 2; have oo0 := Blk.cell (Many.blk HM.out 2 _ _ _ rfl) 0 _ rfl; have oof0 := Blk.frozen (Many.blk HM.out 2 _ _ _ rfl) 0; have oo1 := Blk.cell (Many.blk HM.out 2 _ _ _ rfl) 1 _ rfl; have oof1 := Blk.frozen (Many.blk HM.out 2 _ _ _ rfl) 1; have oo2 := Blk.cell (Many.blk HM.out 2 _ _ _ rfl) 2 _ rfl; have oof2 := Blk.frozen (Many.blk HM.out 2 _ _ _ rfl) 2; clear hb))
            obtain ⟨adc, ec, hxc⟩ := Kd.at_bool (Kd.C_below HCH.out HM.out.bel) t HT.out.2 (by have := HNB.out; have := HLT.out; omega)
            cases ec
            cases hb : rdOf false ch t
            · rw [hb] at hxc
              go_upto_region 30 with fail
              obtain ⟨W9, hW9⟩ : ∃ W', (((w9.setCell ⟨gp, 0, none⟩ (.int .i64 x0)).setCell ⟨gp, 1, none⟩ (.int .i64 x1)).setCell ⟨gp, 2, none⟩ (.bool false)) = W' := ⟨_, rfl⟩
              have HM0 : Aside0 (Many w [(w.heap.size, 24, #[.int .i64 c0, .int .i64 c1, .int .i64 c2, .int .i64 c3, .int .i64 c4, .int .i64 c5, .int .i64 c6, .int .i64 cap, .slice A l.length cc]), (gp, 28, #[.int .i64 x0, .int .i64 x1, .bool false]), (go, 28, #[.int .i64 x0, .int .i64 x1, .bool false])] W9) := ⟨by rw [← hW9]; exact Many.set HM.out 1 gp 28 _ rfl [.int .i64 x0, .int .i64 x1, .bool false] rfl (by have q := HG.out; omega) (by intro j g' t' cs' hj hne; match j, hj with | 0, hj => (simp at hj; obtain ⟨rfl, rfl, rfl⟩ := hj; first | exact absurd rfl hne | (have q := HG.out; omega)) | 1, hj => (simp at hj; obtain ⟨rfl, rfl, rfl⟩ := hj; first | exact absurd rfl hne | (have q := HG.out; omega)) | 2, hj => (simp at hj; obtain ⟨rfl, rfl, rfl⟩ := hj; first | exact absurd rfl hne | (have q := HG.out; omega)) | (j + 3), hj => (simp at hj))⟩
              rw [hW9]
              clear hW9 kc0 kc1 kc2 kc3 kc4 kc5 kc6 kc7 kc8 pp0 pp1 pp2 oo0 oo1 oo2 ppf0 ppf1 ppf2 oof0 oof1 oof2 HM
              have HM := HM0
              clear HM0
              have kc0 := Blk.cell (Many.blk HM.out 0 _ _ _ rfl) 0 _ rfl
              have kc1 := Blk.cell (Many.blk HM.out 0 _ _ _ rfl) 1 _ rfl
              have kc2 := Blk.cell (Many.blk HM.out 0 _ _ _ rfl) 2 _ rfl
              have kc3 := Blk.cell (Many.blk HM.out 0 _ _ _ rfl) 3 _ rfl
              have kc4 := Blk.cell (Many.blk HM.out 0 _ _ _ rfl) 4 _ rfl
              have kc5 := Blk.cell (Many.blk HM.out 0 _ _ _ rfl) 5 _ rfl
              have kc6 := Blk.cell (Many.blk HM.out 0 _ _ _ rfl) 6 _ rfl
              have kc7 := Blk.cell (Many.blk HM.out 0 _ _ _ rfl) 7 _ rfl
              have kc8 := Blk.cell (Many.blk HM.out 0 _ _ _ rfl) 8 _ rfl
              have pp0 := Blk.cell (Many.blk HM.out 1 _ _ _ rfl) 0 _ rfl
              have ppf0 := Blk.frozen (Many.blk HM.out 1 _ _ _ rfl) 0
              have pp1 := Blk.cell (Many.blk HM.out 1 _ _ _ rfl) 1 _ rfl
              have ppf1 := Blk.frozen (Many.blk HM.out 1 _ _ _ rfl) 1
              have pp2 := Blk.cell (Many.blk HM.out 1 _ _ _ rfl) 2 _ rfl
              have ppf2 := Blk.frozen (Many.blk HM.out 1 _ _ _ rfl) 2
              have oo0 := Blk.cell (Many.blk HM.out 2 _ _ _ rfl) 0 _ rfl
              have oof0 := Blk.frozen (Many.blk HM.out 2 _ _ _ rfl) 0
              have oo1 := Blk.cell (Many.blk HM.out 2 _ _ _ rfl) 1 _ rfl
              have oof1 := Blk.frozen (Many.blk HM.out 2 _ _ _ rfl) 1
              have oo2 := Blk.cell (Many.blk HM.out 2 _ _ _ rfl) 2 _ rfl
              have oof2 := Blk.frozen (Many.blk HM.out 2 _ _ _ rfl) 2
              have HT0 := HT.out
              obtain ⟨⟨a0, a1, a2, a3, b0, b1, b2, b3, b4, w0, w1, w2, w3⟩, n1, n2, n3⟩ := HF1.out
              obtain ⟨g0, g1, g5, g6⟩ := HCF.out
              have hnb := HNB.out
              have gA : wrap64 (t - t) = t - t := wrap_id (by omega) (by omega)
              have gB : wrap64 (c0 + c1) = c0 + c1 := wrap_id (by omega) (by omega)
              have gC : wrap64 (t - (-1)) = t - (-1) := wrap_id (by omega) (by omega)
              have gD : wrap64 (c5 + c6) = c5 + c6 := wrap_id (by omega) (by omega)
              have gE : wrap64 (t + 1) = t + 1 := wrap_id (by omega) (by omega)
              have dd2 : decide (t - t > c0 + c1) = false := decide_eq_false (by omega)
              have de2 : decide (c0 + c1 < t - t) = false := decide_eq_false (by omega)
              have dd3 : decide ((-1) ≥ 0) = false := decide_eq_false (by omega)
              have de3 : decide (0 ≤ (-1)) = false := decide_eq_false (by omega)
              have dd4 : decide (0 > c0 + c1) = false := decide_eq_false (by omega)
              have de4 : decide (c0 + c1 < 0) = false := decide_eq_false (by omega)
              clear a0 a1 a2 a3 b0 b1 b2 b3 b4 w0 w1 w2 w3 n1 n2 n3 g0 g1 g5 g6 hnb HT0
              go_wp2
              go_roundg (gk - 1)
              case measure => have := HT.out; have := HLT.out; omega
              case rel => exact ⟨_, _, _, t + 1, _, _, _, rfl, rfl, rfl, (by first | rfl | rw [gE]), ⟨by have := HT.out; have := HLT.out; omega⟩, ⟨HF1.out.next⟩, ⟨Many.two HM.out⟩⟩
            · rw [hb] at hxc
              have HP2 : Aside0 (pulseOk x0 x1 = true) := ⟨HF1.out.inv.ok HCF.out (by have := HNB.out; have := HLT.out; omega)⟩
              obtain ⟨y1, f1⟩ : ∃ x, chU1 x1 t (c5 + clampN (rd dr t) c6) = x := ⟨_, rfl⟩
              obtain ⟨y2, f2⟩ : ∃ x, decide (t < x1) = x := ⟨_, rfl⟩
              obtain ⟨m, f3⟩ : ∃ x, chK x1 t = x := ⟨_, rfl⟩
              have hC : (m = 0 ∧ x1 = y1 ∧ y2 = true ∧ ((-1) < 0 → HMid c0 c1 c5 c6 t tl t t x0 x1 true) ∧ (0 ≤ (-1) → HMid c0 c1 c5 c6 t tl (-1) t x0 x1 true)) ∨ (m = 1 ∧ y2 = false ∧ HMid c0 c1 c5 c6 t t (-1) t x0 y1 false ∧ tl + c5 ≤ t) := by
                have ht := HT.out.2
                by_cases hq : t < x1
                · have hh := change_lt HF1.out HCF.out hq ht
                  refine .inl ⟨by rw [← f3]; unfold chK; rw [if_pos hq], by rw [← f1]; unfold chU1; rw [if_pos hq], by rw [← f2]; exact decide_eq_true hq, hh.1, hh.2⟩
                · have hh := change_ge (d := rd dr t) HF1.out HCF.out (by omega)
                  refine .inr ⟨by rw [← f3]; unfold chK; rw [if_neg hq], by rw [← f2]; exact decide_eq_false hq, ?_, hh.2⟩
                  rw [← f1]; unfold chU1; rw [if_neg hq]; exact hh.1
              have F1 := Aside0.mk f1
              have F2 := Aside0.mk f2
              have F3 := Aside0.mk f3
              have HCC := Aside0.mk hC
              clear f1 f2 f3 hC
              go_upto_region 21 with fail
              have kc0' : ∀ w' : World, Below w9.heap.size w9 w' → w'.cell? ⟨w.heap.size, 0, none⟩ = some (.int .i64 c0) := fun w' h => Blk.cell (Blk.later (Many.blk HM.out 0 _ _ _ rfl) h) 0 _ rfl
              have kc1' : ∀ w' : World, Below w9.heap.size w9 w' → w'.cell? ⟨w.heap.size, 1, none⟩ = some (.int .i64 c1) := fun w' h => Blk.cell (Blk.later (Many.blk HM.out 0 _ _ _ rfl) h) 1 _ rfl
              have kc2' : ∀ w' : World, Below w9.heap.size w9 w' → w'.cell? ⟨w.heap.size, 2, none⟩ = some (.int .i64 c2) := fun w' h => Blk.cell (Blk.later (Many.blk HM.out 0 _ _ _ rfl) h) 2 _ rfl
              have kc3' : ∀ w' : World, Below w9.heap.size w9 w' → w'.cell? ⟨w.heap.size, 3, none⟩ = some (.int .i64 c3) := fun w' h => Blk.cell (Blk.later (Many.blk HM.out 0 _ _ _ rfl) h) 3 _ rfl
              have kc4' : ∀ w' : World, Below w9.heap.size w9 w' → w'.cell? ⟨w.heap.size, 4, none⟩ = some (.int .i64 c4) := fun w' h => Blk.cell (Blk.later (Many.blk HM.out 0 _ _ _ rfl) h) 4 _ rfl
              have kc5' : ∀ w' : World, Below w9.heap.size w9 w' → w'.cell? ⟨w.heap.size, 5, none⟩ = some (.int .i64 c5) := fun w' h => Blk.cell (Blk.later (Many.blk HM.out 0 _ _ _ rfl) h) 5 _ rfl
              have kc6' : ∀ w' : World, Below w9.heap.size w9 w' → w'.cell? ⟨w.heap.size, 6, none⟩ = some (.int .i64 c6) := fun w' h => Blk.cell (Blk.later (Many.blk HM.out 0 _ _ _ rfl) h) 6 _ rfl
              have kc7' : ∀ w' : World, Below w9.heap.size w9 w' → w'.cell? ⟨w.heap.size, 7, none⟩ = some (.int .i64 cap) := fun w' h => Blk.cell (Blk.later (Many.blk HM.out 0 _ _ _ rfl) h) 7 _ rfl
              have kc8' : ∀ w' : World, Below w9.heap.size w9 w' → w'.cell? ⟨w.heap.size, 8, none⟩ = some (.slice A l.length cc) := fun w' h => Blk.cell (Blk.later (Many.blk HM.out 0 _ _ _ rfl) h) 8 _ rfl
              have pp0' : ∀ w' : World, Below w9.heap.size w9 w' → w'.cell? ⟨gp, 0, none⟩ = some (.int .i64 u0) := fun w' h => Blk.cell (Blk.later (Many.blk HM.out 1 _ _ _ rfl) h) 0 _ rfl
              have pp1' : ∀ w' : World, Below w9.heap.size w9 w' → w'.cell? ⟨gp, 1, none⟩ = some (.int .i64 u1) := fun w' h => Blk.cell (Blk.later (Many.blk HM.out 1 _ _ _ rfl) h) 1 _ rfl
              have pp2' : ∀ w' : World, Below w9.heap.size w9 w' → w'.cell? ⟨gp, 2, none⟩ = some (.bool u2) := fun w' h => Blk.cell (Blk.later (Many.blk HM.out 1 _ _ _ rfl) h) 2 _ rfl
              have oo0' : ∀ w' : World, Below w9.heap.size w9 w' → w'.cell? ⟨go, 0, none⟩ = some (.int .i64 x0) := fun w' h => Blk.cell (Blk.later (Many.blk HM.out 2 _ _ _ rfl) h) 0 _ rfl
              have oo1' : ∀ w' : World, Below w9.heap.size w9 w' → w'.cell? ⟨go, 1, none⟩ = some (.int .i64 x1) := fun w' h => Blk.cell (Blk.later (Many.blk HM.out 2 _ _ _ rfl) h) 1 _ rfl
              have oo2' : ∀ w' : World, Below w9.heap.size w9 w' → w'.cell? ⟨go, 2, none⟩ = some (.bool false) := fun w' h => Blk.cell (Blk.later (Many.blk HM.out 2 _ _ _ rfl) h) 2 _ rfl
              have hx2 : w9.cell? (ad.add t.toNat) = some (.int .i64 (rd dr t)) := (HM.out.bel.cell (HAD.out)).trans HX0.out
              have hx' : ∀ w' : World, Below w9.heap.size w9 w' → w'.cell? (ad.add t.toNat) = some (.int .i64 (rd dr t)) := fun w' h => (h.cell (World.block_lt_of_cell? w9 _ hx2)).trans hx2
              clear hx2
              have hgw : go < w9.heap.size := World.block_lt_of_cell? w9 _ oo0
              have HGW := Aside0.mk hgw
              clear hgw
              have HRr := Aside0.mk (Kd.C_below HR.out HM.out.bel)
              go_cut [17, 18, 19] (fun v17 v18 v19 wx => ∃ gq : Nat, v17 = .pointer (some ⟨gq, 0, none⟩) ∧ w9.heap.size ≤ gq ∧ Blk wx gq 28 #[.int .i64 x0, .int .i64 y1, .bool y2] ∧ Below w9.heap.size w9 wx ∧ v18 = .int .i64 m ∧ v19 = .int .i64 0)
              case first =>
                as_aux_lemma =>
                  clear kc0 kc1 kc2 kc3 kc4 kc5 kc6 kc7 kc8 pp0 pp1 pp2 oo0 oo1 oo2 ppf0 ppf1 ppf2 oof0 oof1 oof2
                  refine wp_region_held_drew (S := fun w' => Below w9.heap.size w9 w') (by kernel_rfl) ?sB1 (fun hHeld => ?rB1)
                  case sB1 => exact (below_drew (Below.refl w9.heap.size w9))
                  refine wpAnyH_take (i := 0) (oi := ?oB1_0_1) (v := ?vB1_0_1) ?iB1_0_1 (by kernel_rfl) (by kernel_rfl) (by kernel_rfl) ?qB1_0_1 ?yB1_0_1 hHeld ?nB1_0_1
                  case iB1_0_1 => (simp only [List.getElem?_toArray, List.getElem?_cons_succ, List.getElem?_cons_zero]; rfl)
                  case yB1_0_1 => (refine Or.inl ⟨by kernel_rfl, ?_⟩; intro w' hSw; (try dsimp only at hSw); first | (go_simp; done) | (go_simp; with_reducible rfl))
                  case qB1_0_1 => exact fun _ _ _ h => h
                  try simp only [Act.put, List.setIfInBounds_toArray, List.set_cons_zero, List.set_cons_succ]
                  refine wpAnyH_take (i := 1) (oi := ?oB1_1_2) (v := ?vB1_1_2) ?iB1_1_2 (by kernel_rfl) (by kernel_rfl) (by kernel_rfl) ?qB1_1_2 ?yB1_1_2 hHeld ?nB1_1_2
                  case iB1_1_2 => (simp only [List.getElem?_toArray, List.getElem?_cons_succ, List.getElem?_cons_zero]; rfl)
                  case yB1_1_2 => (refine Or.inl ⟨by kernel_rfl, ?_⟩; intro w' hSw; (try dsimp only at hSw); first | (go_simp; done) | (go_simp; with_reducible rfl))
                  case qB1_1_2 => exact fun _ _ _ h => h
                  try simp only [Act.put, List.setIfInBounds_toArray, List.set_cons_zero, List.set_cons_succ]
                  refine wpAnyH_take (i := 2) (oi := ?oB1_2_3) (v := ?vB1_2_3) ?iB1_2_3 (by kernel_rfl) (by kernel_rfl) (by kernel_rfl) ?qB1_2_3 ?yB1_2_3 hHeld ?nB1_2_3
                  case iB1_2_3 => (simp only [List.getElem?_toArray, List.getElem?_cons_succ, List.getElem?_cons_zero]; rfl)
                  case yB1_2_3 => (refine Or.inl ⟨by kernel_rfl, ?_⟩; intro w' hSw; (try dsimp only at hSw); first | (go_simp; done) | (go_simp; with_reducible rfl))
                  case qB1_2_3 => exact fun _ _ _ h => h
                  try simp only [Act.put, List.setIfInBounds_toArray, List.set_cons_zero, List.set_cons_succ]
                  refine wpAnyH_take (i := 3) (oi := ?oB1_3_4) (v := ?vB1_3_4) ?iB1_3_4 (by kernel_rfl) (by kernel_rfl) (by kernel_rfl) ?qB1_3_4 ?yB1_3_4 hHeld ?nB1_3_4
                  case iB1_3_4 => (simp only [List.getElem?_toArray, List.getElem?_cons_succ, List.getElem?_cons_zero]; rfl)
                  case yB1_3_4 => (refine Or.inl ⟨by kernel_rfl, ?_⟩; intro w' hSw; (try dsimp only at hSw); first | (go_simp; done) | (go_simp; with_reducible rfl))
                  case qB1_3_4 => exact fun _ _ _ h => h
                  try simp only [Act.put, List.setIfInBounds_toArray, List.set_cons_zero, List.set_cons_succ]
                  refine wpAnyH_take (i := 4) (oi := ?oB1_4_5) (v := ?vB1_4_5) ?iB1_4_5 (by kernel_rfl) (by kernel_rfl) (by kernel_rfl) ?qB1_4_5 ?yB1_4_5 hHeld ?nB1_4_5
                  case iB1_4_5 => (simp only [List.getElem?_toArray, List.getElem?_cons_succ, List.getElem?_cons_zero]; rfl)
                  case yB1_4_5 => (refine Or.inl ⟨by kernel_rfl, ?_⟩; intro w' hSw; (try dsimp only at hSw); first | (go_simp; done) | (go_simp; with_reducible rfl))
                  case qB1_4_5 => exact fun _ _ _ h => h
                  try simp only [Act.put, List.setIfInBounds_toArray, List.set_cons_zero, List.set_cons_succ]
                  refine wpAnyH_take (i := 5) (oi := ?oB1_5_6) (v := ?vB1_5_6) ?iB1_5_6 (by kernel_rfl) (by kernel_rfl) (by kernel_rfl) ?qB1_5_6 ?yB1_5_6 hHeld ?nB1_5_6
                  case iB1_5_6 => (simp only [List.getElem?_toArray, List.getElem?_cons_succ, List.getElem?_cons_zero]; rfl)
                  case yB1_5_6 => (refine Or.inl ⟨by kernel_rfl, ?_⟩; intro w' hSw; (try dsimp only at hSw); first | (go_simp; done) | (go_simp; with_reducible rfl))
                  case qB1_5_6 => exact fun _ _ _ h => h
                  try simp only [Act.put, List.setIfInBounds_toArray, List.set_cons_zero, List.set_cons_succ]
                  refine wpAnyH_take (i := 6) (oi := ?oB1_6_7) (v := ?vB1_6_7) ?iB1_6_7 (by kernel_rfl) (by kernel_rfl) (by kernel_rfl) ?qB1_6_7 ?yB1_6_7 hHeld ?nB1_6_7
                  case iB1_6_7 => (simp only [List.getElem?_toArray, List.getElem?_cons_succ, List.getElem?_cons_zero]; rfl)
                  case yB1_6_7 => (refine Or.inl ⟨by kernel_rfl, ?_⟩; intro w' hSw; (try dsimp only at hSw); first | (go_simp; done) | (go_simp; with_reducible rfl))
                  case qB1_6_7 => exact fun _ _ _ h => h
                  try simp only [Act.put, List.setIfInBounds_toArray, List.set_cons_zero, List.set_cons_succ]
                  refine wpAnyH_ready (rs := [7, 12]) (by kernel_rfl) (by simp) ?_
                  refine (AllReadyH.cons (o := ?oB1_7_8) ?iB1_7_8 (fun K hK => ?kB1_7_8) (AllReadyH.cons (o := ?oB1_12_8) ?iB1_12_8 (fun K hK => ?kB1_12_8) AllReadyH.nil))
                  case iB1_7_8 => (simp only [List.getElem?_toArray, List.getElem?_cons_succ, List.getElem?_cons_zero]; rfl)
                  case iB1_12_8 => (simp only [List.getElem?_toArray, List.getElem?_cons_succ, List.getElem?_cons_zero]; rfl)
                  case kB1_7_8 =>
                    go_simp
                    (with_reducible refine (change_yes c0 c1 c2 c3 c4 c5 c6 cap A l cc x0 x1 false t (rd dr t) _ (Kd.C_below HRr.out hHeld) hc HA.out hm HP2.out HN.out ⟨HT.out.2, HTB.out⟩).mono ?_); rw [F1.out, F2.out, F3.out]; rintro e w4 ⟨rfl, hb⟩; dsimp only
                    refine hK.out _ _ ?hB1_7_8 (fun hHeld2 => ?mB1_7_8)
                    case hB1_7_8 => exact thenB hHeld hHeld.size hb
                    clear hK K hHeld
                    have hHeld := hHeld2
                    clear hHeld2
                    try simp only [Act.put, List.setIfInBounds_toArray, List.set_cons_zero, List.set_cons_succ]
                    refine wpAnyH_take (i := 8) (oi := ?oB1_8_9) (v := ?vB1_8_9) ?iB1_8_9 (by kernel_rfl) (by kernel_rfl) (by kernel_rfl) ?qB1_8_9 ?yB1_8_9 hHeld ?nB1_8_9
                    case iB1_8_9 => (simp only [List.getElem?_toArray, List.getElem?_cons_succ, List.getElem?_cons_zero]; rfl)
                    case yB1_8_9 => (refine Or.inl ⟨by kernel_rfl, ?_⟩; intro w' hSw; (try dsimp only at hSw); first | (go_simp; done) | (go_simp; with_reducible rfl))
                    case qB1_8_9 => exact fun _ _ _ h => h
                    try simp only [Act.put, List.setIfInBounds_toArray, List.set_cons_zero, List.set_cons_succ]
                    refine wpAnyH_take (i := 9) (oi := ?oB1_9_10) (v := ?vB1_9_10) ?iB1_9_10 (by kernel_rfl) (by kernel_rfl) (by kernel_rfl) ?qB1_9_10 ?yB1_9_10 hHeld ?nB1_9_10
                    case iB1_9_10 => (simp only [List.getElem?_toArray, List.getElem?_cons_succ, List.getElem?_cons_zero]; rfl)
                    case yB1_9_10 => (refine Or.inl ⟨by kernel_rfl, ?_⟩; intro w' hSw; (try dsimp only at hSw); first | (go_simp; done) | (go_simp; with_reducible rfl))
                    case qB1_9_10 => exact fun _ _ _ h => h
                    try simp only [Act.put, List.setIfInBounds_toArray, List.set_cons_zero, List.set_cons_succ]
                    refine wpAnyH_take (i := 10) (oi := ?oB1_10_11) (v := ?vB1_10_11) ?iB1_10_11 (by kernel_rfl) (by kernel_rfl) (by kernel_rfl) ?qB1_10_11 ?yB1_10_11 hHeld ?nB1_10_11
                    case iB1_10_11 => (simp only [List.getElem?_toArray, List.getElem?_cons_succ, List.getElem?_cons_zero]; rfl)
                    case yB1_10_11 => (refine Or.inl ⟨by kernel_rfl, ?_⟩; intro w' hSw; (try dsimp only at hSw); first | (go_simp; done) | (go_simp; with_reducible rfl))
                    case qB1_10_11 => exact fun _ _ _ h => h
                    try simp only [Act.put, List.setIfInBounds_toArray, List.set_cons_zero, List.set_cons_succ]
                    refine wpAnyH_take (i := 11) (oi := ?oB1_11_12) (v := ?vB1_11_12) ?iB1_11_12 (by kernel_rfl) (by kernel_rfl) (by kernel_rfl) ?qB1_11_12 ?yB1_11_12 hHeld ?nB1_11_12
                    case iB1_11_12 => (simp only [List.getElem?_toArray, List.getElem?_cons_succ, List.getElem?_cons_zero]; rfl)
                    case yB1_11_12 => (refine Or.inl ⟨by kernel_rfl, ?_⟩; intro w' hSw; (try dsimp only at hSw); first | (go_simp; done) | (go_simp; with_reducible rfl))
                    case qB1_11_12 => exact fun _ _ _ h => h
                    try simp only [Act.put, List.setIfInBounds_toArray, List.set_cons_zero, List.set_cons_succ]
                    refine wpAnyH_ready (rs := [12]) (by kernel_rfl) (by simp) ?_
                    refine (AllReadyH.cons (o := ?oB1_12_13) ?iB1_12_13 (fun K hK => ?kB1_12_13) AllReadyH.nil)
                    case iB1_12_13 => (simp only [List.getElem?_toArray, List.getElem?_cons_succ, List.getElem?_cons_zero]; rfl)
                    case kB1_12_13 =>
                      go_simp
                      have H4 := Aside0.mk hHeld; have HO : Aside0 (Blk (w4.alloc (.cells #[.int .i64 0, .int .i64 0, .bool false] 28)) w4.heap.size 28 #[.int .i64 0, .int .i64 0, .bool false]) := ⟨Blk.new' w4 _ _ _ rfl⟩; have hle : w9.heap.size ≤ w4.heap.size := Below.size hHeld
                      refine hK.out _ _ ?hB1_12_13 (fun hHeld2 => ?mB1_12_13)
                      case hB1_12_13 => exact below_alloc hHeld _
                      clear hK K hHeld
                      have hHeld := hHeld2
                      clear hHeld2
                      try simp only [Act.put, List.setIfInBounds_toArray, List.set_cons_zero, List.set_cons_succ]
                      refine wpAnyH_ready (rs := [13]) (by kernel_rfl) (by simp) ?_
                      refine (AllReadyH.cons (o := ?oB1_13_14) ?iB1_13_14 (fun K hK => ?kB1_13_14) AllReadyH.nil)
                      case iB1_13_14 => (simp only [List.getElem?_toArray, List.getElem?_cons_succ, List.getElem?_cons_zero]; rfl)
                      case kB1_13_14 =>
                        have oo0 := Blk.cell HO.out 0 _ rfl; have oo1 := Blk.cell HO.out 1 _ rfl; have oo2 := Blk.cell HO.out 2 _ rfl; have oof0 := Blk.frozen HO.out 0; have oof1 := Blk.frozen HO.out 1; have oof2 := Blk.frozen HO.out 2
                        go_simp
                        skip
                        refine hK.out _ _ ?hB1_13_14 (fun hHeld2 => ?mB1_13_14)
                        case hB1_13_14 => exact below_alloc H4.out _
                        clear hK K hHeld
                        have hHeld := hHeld2
                        clear hHeld2
                        try simp only [Act.put, List.setIfInBounds_toArray, List.set_cons_zero, List.set_cons_succ]
                        refine wpAnyH_take (i := 14) (oi := ?oB1_14_15) (v := ?vB1_14_15) ?iB1_14_15 (by kernel_rfl) (by kernel_rfl) (by kernel_rfl) ?qB1_14_15 ?yB1_14_15 hHeld ?nB1_14_15
                        case iB1_14_15 => (simp only [List.getElem?_toArray, List.getElem?_cons_succ, List.getElem?_cons_zero]; rfl)
                        case yB1_14_15 => (refine Or.inl ⟨by kernel_rfl, ?_⟩; intro w' hSw; (try dsimp only at hSw); first | (go_simp; done) | (go_simp; with_reducible rfl))
                        case qB1_14_15 => exact fun _ _ _ h => h
                        try simp only [Act.put, List.setIfInBounds_toArray, List.set_cons_zero, List.set_cons_succ]
                        refine wpAnyH_take (i := 15) (oi := ?oB1_15_16) (v := ?vB1_15_16) ?iB1_15_16 (by kernel_rfl) (by kernel_rfl) (by kernel_rfl) ?qB1_15_16 ?yB1_15_16 hHeld ?nB1_15_16
                        case iB1_15_16 => (simp only [List.getElem?_toArray, List.getElem?_cons_succ, List.getElem?_cons_zero]; rfl)
                        case yB1_15_16 => (refine Or.inl ⟨by kernel_rfl, ?_⟩; intro w' hSw; (try dsimp only at hSw); first | (go_simp; done) | (go_simp; with_reducible rfl))
                        case qB1_15_16 => exact fun _ _ _ h => h
                        try simp only [Act.put, List.setIfInBounds_toArray, List.set_cons_zero, List.set_cons_succ]
                        refine wpAnyH_done (by kernel_rfl) ?_ _
                        try go_wp2
                        go_meet
                        exact ⟨w4.heap.size, rfl, hle, Blk.new' w4 _ _ _ rfl, hHeld, rfl, rfl⟩
                  case kB1_12_8 =>
                    go_simp
                    have HO : Aside0 (Blk (w9.drew.alloc (.cells #[.int .i64 0, .int .i64 0, .bool false] 28)) w9.heap.size 28 #[.int .i64 0, .int .i64 0, .bool false]) := ⟨Blk.new' w9.drew _ _ _ rfl⟩; have hle : w9.heap.size ≤ w9.heap.size := Nat.le_refl _
                    refine hK.out _ _ ?hB1_12_8 (fun hHeld2 => ?mB1_12_8)
                    case hB1_12_8 => exact below_alloc hHeld _
                    clear hK K hHeld
                    have hHeld := hHeld2
                    clear hHeld2
                    try simp only [Act.put, List.setIfInBounds_toArray, List.set_cons_zero, List.set_cons_succ]
                    refine wpAnyH_ready (rs := [7]) (by kernel_rfl) (by simp) ?_
                    refine (AllReadyH.cons (o := ?oB1_7_17) ?iB1_7_17 (fun K hK => ?kB1_7_17) AllReadyH.nil)
                    case iB1_7_17 => (simp only [List.getElem?_toArray, List.getElem?_cons_succ, List.getElem?_cons_zero]; rfl)
                    case kB1_7_17 =>
                      go_simp
                      (with_reducible refine (change_yes c0 c1 c2 c3 c4 c5 c6 cap A l cc x0 x1 false t (rd dr t) _ (Kd.C_below HRr.out hHeld) hc HA.out hm HP2.out HN.out ⟨HT.out.2, HTB.out⟩).mono ?_); rw [F1.out, F2.out, F3.out]; rintro e w4 ⟨rfl, hb⟩; dsimp only; have HO := Aside0.mk (Blk.later HO.out hb)
                      refine hK.out _ _ ?hB1_7_17 (fun hHeld2 => ?mB1_7_17)
                      case hB1_7_17 => exact thenB hHeld hHeld.size hb
                      clear hK K hHeld
                      have hHeld := hHeld2
                      clear hHeld2
                      try simp only [Act.put, List.setIfInBounds_toArray, List.set_cons_zero, List.set_cons_succ]
                      refine wpAnyH_take (i := 8) (oi := ?oB1_8_18) (v := ?vB1_8_18) ?iB1_8_18 (by kernel_rfl) (by kernel_rfl) (by kernel_rfl) ?qB1_8_18 ?yB1_8_18 hHeld ?nB1_8_18
                      case iB1_8_18 => (simp only [List.getElem?_toArray, List.getElem?_cons_succ, List.getElem?_cons_zero]; rfl)
                      case yB1_8_18 => (refine Or.inl ⟨by kernel_rfl, ?_⟩; intro w' hSw; (try dsimp only at hSw); first | (go_simp; done) | (go_simp; with_reducible rfl))
                      case qB1_8_18 => exact fun _ _ _ h => h
                      try simp only [Act.put, List.setIfInBounds_toArray, List.set_cons_zero, List.set_cons_succ]
                      refine wpAnyH_take (i := 9) (oi := ?oB1_9_19) (v := ?vB1_9_19) ?iB1_9_19 (by kernel_rfl) (by kernel_rfl) (by kernel_rfl) ?qB1_9_19 ?yB1_9_19 hHeld ?nB1_9_19
                      case iB1_9_19 => (simp only [List.getElem?_toArray, List.getElem?_cons_succ, List.getElem?_cons_zero]; rfl)
                      case yB1_9_19 => (refine Or.inl ⟨by kernel_rfl, ?_⟩; intro w' hSw; (try dsimp only at hSw); first | (go_simp; done) | (go_simp; with_reducible rfl))
                      case qB1_9_19 => exact fun _ _ _ h => h
                      try simp only [Act.put, List.setIfInBounds_toArray, List.set_cons_zero, List.set_cons_succ]
                      refine wpAnyH_take (i := 10) (oi := ?oB1_10_20) (v := ?vB1_10_20) ?iB1_10_20 (by kernel_rfl) (by kernel_rfl) (by kernel_rfl) ?qB1_10_20 ?yB1_10_20 hHeld ?nB1_10_20
                      case iB1_10_20 => (simp only [List.getElem?_toArray, List.getElem?_cons_succ, List.getElem?_cons_zero]; rfl)
                      case yB1_10_20 => (refine Or.inl ⟨by kernel_rfl, ?_⟩; intro w' hSw; (try dsimp only at hSw); first | (go_simp; done) | (go_simp; with_reducible rfl))
                      case qB1_10_20 => exact fun _ _ _ h => h
                      try simp only [Act.put, List.setIfInBounds_toArray, List.set_cons_zero, List.set_cons_succ]
                      refine wpAnyH_take (i := 11) (oi := ?oB1_11_21) (v := ?vB1_11_21) ?iB1_11_21 (by kernel_rfl) (by kernel_rfl) (by kernel_rfl) ?qB1_11_21 ?yB1_11_21 hHeld ?nB1_11_21
                      case iB1_11_21 => (simp only [List.getElem?_toArray, List.getElem?_cons_succ, List.getElem?_cons_zero]; rfl)
                      case yB1_11_21 => (refine Or.inl ⟨by kernel_rfl, ?_⟩; intro w' hSw; (try dsimp only at hSw); first | (go_simp; done) | (go_simp; with_reducible rfl))
                      case qB1_11_21 => exact fun _ _ _ h => h
                      try simp only [Act.put, List.setIfInBounds_toArray, List.set_cons_zero, List.set_cons_succ]
                      refine wpAnyH_ready (rs := [13]) (by kernel_rfl) (by simp) ?_
                      refine (AllReadyH.cons (o := ?oB1_13_22) ?iB1_13_22 (fun K hK => ?kB1_13_22) AllReadyH.nil)
                      case iB1_13_22 => (simp only [List.getElem?_toArray, List.getElem?_cons_succ, List.getElem?_cons_zero]; rfl)
                      case kB1_13_22 =>
                        have oo0 := Blk.cell HO.out 0 _ rfl; have oo1 := Blk.cell HO.out 1 _ rfl; have oo2 := Blk.cell HO.out 2 _ rfl; have oof0 := Blk.frozen HO.out 0; have oof1 := Blk.frozen HO.out 1; have oof2 := Blk.frozen HO.out 2
                        go_simp
                        skip
                        refine hK.out _ _ ?hB1_13_22 (fun hHeld2 => ?mB1_13_22)
                        case hB1_13_22 => exact Below.setCell (p := ⟨w9.heap.size, 2, none⟩) (Below.setCell (p := ⟨w9.heap.size, 1, none⟩) (Below.setCell (p := ⟨w9.heap.size, 0, none⟩) hHeld hle _) hle _) hle _
                        clear hK K hHeld
                        have hHeld := hHeld2
                        clear hHeld2
                        try simp only [Act.put, List.setIfInBounds_toArray, List.set_cons_zero, List.set_cons_succ]
                        refine wpAnyH_take (i := 14) (oi := ?oB1_14_23) (v := ?vB1_14_23) ?iB1_14_23 (by kernel_rfl) (by kernel_rfl) (by kernel_rfl) ?qB1_14_23 ?yB1_14_23 hHeld ?nB1_14_23
                        case iB1_14_23 => (simp only [List.getElem?_toArray, List.getElem?_cons_succ, List.getElem?_cons_zero]; rfl)
                        case yB1_14_23 => (refine Or.inl ⟨by kernel_rfl, ?_⟩; intro w' hSw; (try dsimp only at hSw); first | (go_simp; done) | (go_simp; with_reducible rfl))
                        case qB1_14_23 => exact fun _ _ _ h => h
                        try simp only [Act.put, List.setIfInBounds_toArray, List.set_cons_zero, List.set_cons_succ]
                        refine wpAnyH_take (i := 15) (oi := ?oB1_15_24) (v := ?vB1_15_24) ?iB1_15_24 (by kernel_rfl) (by kernel_rfl) (by kernel_rfl) ?qB1_15_24 ?yB1_15_24 hHeld ?nB1_15_24
                        case iB1_15_24 => (simp only [List.getElem?_toArray, List.getElem?_cons_succ, List.getElem?_cons_zero]; rfl)
                        case yB1_15_24 => (refine Or.inl ⟨by kernel_rfl, ?_⟩; intro w' hSw; (try dsimp only at hSw); first | (go_simp; done) | (go_simp; with_reducible rfl))
                        case qB1_15_24 => exact fun _ _ _ h => h
                        try simp only [Act.put, List.setIfInBounds_toArray, List.set_cons_zero, List.set_cons_succ]
                        refine wpAnyH_done (by kernel_rfl) ?_ _
                        try go_wp2
                        go_meet
                        exact ⟨w9.heap.size, rfl, hle, (OneSet.whole HO.out [.int .i64 x0, .int .i64 y1, .bool y2] rfl).blk, hHeld, rfl, rfl⟩
              case rest =>
                obtain ⟨gq, rfl, hgq, hbq, hbw, rfl, rfl⟩ := hcut
                have HM0 : Aside0 (Many w [(w.heap.size, 24, #[.int .i64 c0, .int .i64 c1, .int .i64 c2, .int .i64 c3, .int .i64 c4, .int .i64 c5, .int .i64 c6, .int .i64 cap, .slice A l.length cc]), (gp, 28, #[.int .i64 u0, .int .i64 u1, .bool u2]), (go, 28, #[.int .i64 x0, .int .i64 x1, .bool false]), (gq, 28, #[.int .i64 x0, .int .i64 y1, .bool y2])] wc) := ⟨Many.put (Many.later HM.out hbw) hbq⟩
                have HG0 : Aside0 (w.heap.size < gp ∧ gp < go ∧ go < gq) := ⟨by have q := HG.out; have q2 := HGW.out; omega⟩
                clear HG HGW
                have HG := HG0
                clear HG0
                clear kc0 kc1 kc2 kc3 kc4 kc5 kc6 kc7 kc8 pp0 pp1 pp2 oo0 oo1 oo2 ppf0 ppf1 ppf2 oof0 oof1 oof2 kc0' kc1' kc2' kc3' kc4' kc5' kc6' kc7' kc8' pp0' pp1' pp2' oo0' oo1' oo2' hx' HM hbw hbq hgq HRr
                have HM := HM0
                clear HM0
                have kc0 := Blk.cell (Many.blk HM.out 0 _ _ _ rfl) 0 _ rfl
                have kc1 := Blk.cell (Many.blk HM.out 0 _ _ _ rfl) 1 _ rfl
                have kc2 := Blk.cell (Many.blk HM.out 0 _ _ _ rfl) 2 _ rfl
                have kc3 := Blk.cell (Many.blk HM.out 0 _ _ _ rfl) 3 _ rfl
                have kc4 := Blk.cell (Many.blk HM.out 0 _ _ _ rfl) 4 _ rfl
                have kc5 := Blk.cell (Many.blk HM.out 0 _ _ _ rfl) 5 _ rfl
                have kc6 := Blk.cell (Many.blk HM.out 0 _ _ _ rfl) 6 _ rfl
                have kc7 := Blk.cell (Many.blk HM.out 0 _ _ _ rfl) 7 _ rfl
                have kc8 := Blk.cell (Many.blk HM.out 0 _ _ _ rfl) 8 _ rfl
                have pp0 := Blk.cell (Many.blk HM.out 1 _ _ _ rfl) 0 _ rfl
                have ppf0 := Blk.frozen (Many.blk HM.out 1 _ _ _ rfl) 0
                have pp1 := Blk.cell (Many.blk HM.out 1 _ _ _ rfl) 1 _ rfl
                have ppf1 := Blk.frozen (Many.blk HM.out 1 _ _ _ rfl) 1
                have pp2 := Blk.cell (Many.blk HM.out 1 _ _ _ rfl) 2 _ rfl
                have ppf2 := Blk.frozen (Many.blk HM.out 1 _ _ _ rfl) 2
                have oo0 := Blk.cell (Many.blk HM.out 2 _ _ _ rfl) 0 _ rfl
                have oof0 := Blk.frozen (Many.blk HM.out 2 _ _ _ rfl) 0
                have oo1 := Blk.cell (Many.blk HM.out 2 _ _ _ rfl) 1 _ rfl
                have oof1 := Blk.frozen (Many.blk HM.out 2 _ _ _ rfl) 1
                have oo2 := Blk.cell (Many.blk HM.out 2 _ _ _ rfl) 2 _ rfl
                have oof2 := Blk.frozen (Many.blk HM.out 2 _ _ _ rfl) 2
                have qq0 := Blk.cell (Many.blk HM.out 3 _ _ _ rfl) 0 _ rfl
                have qq1 := Blk.cell (Many.blk HM.out 3 _ _ _ rfl) 1 _ rfl
                have qq2 := Blk.cell (Many.blk HM.out 3 _ _ _ rfl) 2 _ rfl
                rcases HCC.out with ⟨rfl, rfl, rfl, hm1, hm2⟩ | ⟨rfl, rfl, hm1, hq⟩
                · have HF2 := Aside0.mk (hm1 (by omega))
                  have dd5 : decide ((-1) < 0) = true := decide_eq_true (by omega)
                  have de5 : decide (0 > (-1)) = true := decide_eq_true (by omega)
                  clear hm1 hm2
                  go_upto_region 29 with (go_at_call 12; ((with_reducible refine (waywardenlaw15_num.calls _ _ _ rfl).mono ?_); rintro e w9 ⟨rfl, hd⟩; have hb := hd.below; clear hd; have HM := Aside0.mk (Many.later HM.out hb); (try clear kc0 kc1 kc2 kc3 kc4 kc5 kc6 kc7 kc8 pp0 pp1 pp2 oo0 oo1 oo2 qq0 qq1 qq2 ppf0 ppf1 ppf2 oof0 oof1 oof2); have kc0 := Blk.cell (Many.blk HM.out 0 _ _ _ rfl) 0 _ rfl; have kc1 := Blk.cell (Many.blk HM.out 0 _ _ _ rfl) 1 _ rfl; have kc2 := Blk.cell (Many.blk HM.out 0 _ _ _ rfl) 2 _ rfl; have kc3 := Blk.cell (Many.blk HM.out 0 _ _ _ rfl) 3 _ rfl; have kc4 := Blk.cell (Many.blk HM.out 0 _ _ _ rfl) 4 _ rfl; have kc5 := Blk.cell (Many.blk HM.out 0 _ _ _ rfl) 5 _ rfl; have kc6 := Blk.cell (Many.blk HM.out 0 _ _ _ rfl) 6 _ rfl; have kc7 := Blk.cell (Many.blk HM.out 0 _ _ _ rfl) 7 _ rfl; have kc8 := Blk.cell (Many.blk HM.out 0 _ _ _ rfl) 8 _ rfl; have pp0 := Blk.cell (Many.blk HM.out 1 _ _ _ rfl) 0 _ rfl; have ppf0 := Blk.frozen (Many.blk HM.out 1 _ _ _ rfl) 0; have pp1 := Blk.cell (Many.blk HM.out 1 _ _ _ rfl) 1 _ rfl; have ppf1 := Blk.frozen (Many.blk HM.out 1 _ _ _ rfl) 1; have pp2 := Blk.cell (Many.blk HM.out 1 _ _ _ rfl) 2 _ rfl; have ppf2 := Blk.frozen (Many.blk HM.out 1 _ _ _ rfl) 2; have oo0 := Blk.cell (Many.blk HM.out 2 _ _ _ rfl) 0 _ rfl; have oof0 := Blk.frozen (Many.blk HM.out 2 _ _ _ rfl) 0; have oo1 := Blk.cell (Many.blk HM.out 2 _ _ _ rfl) 1 _ rfl; have oof1 := Blk.frozen (Many.blk HM.out 2 _ _ _ rfl) 1; have oo2 := Blk.cell (Many.blk HM.out 2 _ _ _ rfl) 2 _ rfl; have oof2 := Blk.frozen (Many.blk HM.out 2 _ _ _ rfl) 2; have qq0 := Blk.cell (Many.blk HM.out 3 _ _ _ rfl) 0 _ rfl; have qq1 := Blk.cell (Many.blk HM.out 3 _ _ _ rfl) 1 _ rfl; have qq2 := Blk.cell (Many.blk HM.out 3 _ _ _ rfl) 2 _ rfl; clear hb))
                  obtain ⟨W8, hW8⟩ : ∃ W', (((w9.setCell ⟨go, 0, none⟩ (.int .i64 x0)).setCell ⟨go, 1, none⟩ (.int .i64 x1)).setCell ⟨go, 2, none⟩ (.bool true)) = W' := ⟨_, rfl⟩
                  have HM0 : Aside0 (Many w [(w.heap.size, 24, #[.int .i64 c0, .int .i64 c1, .int .i64 c2, .int .i64 c3, .int .i64 c4, .int .i64 c5, .int .i64 c6, .int .i64 cap, .slice A l.length cc]), (gp, 28, #[.int .i64 u0, .int .i64 u1, .bool u2]), (go, 28, #[.int .i64 x0, .int .i64 x1, .bool true]), (gq, 28, #[.int .i64 x0, .int .i64 x1, .bool true])] W8) := ⟨by rw [← hW8]; exact Many.set HM.out 2 go 28 _ rfl [.int .i64 x0, .int .i64 x1, .bool true] rfl (by have q := HG.out; omega) (by intro j g' t' cs' hj hne; match j, hj with | 0, hj => (simp at hj; obtain ⟨rfl, rfl, rfl⟩ := hj; first | exact absurd rfl hne | (have q := HG.out; omega)) | 1, hj => (simp at hj; obtain ⟨rfl, rfl, rfl⟩ := hj; first | exact absurd rfl hne | (have q := HG.out; omega)) | 2, hj => (simp at hj; obtain ⟨rfl, rfl, rfl⟩ := hj; first | exact absurd rfl hne | (have q := HG.out; omega)) | 3, hj => (simp at hj; obtain ⟨rfl, rfl, rfl⟩ := hj; first | exact absurd rfl hne | (have q := HG.out; omega)) | (j + 4), hj => (simp at hj))⟩
                  rw [hW8]
                  clear hW8 kc0 kc1 kc2 kc3 kc4 kc5 kc6 kc7 kc8 pp0 pp1 pp2 oo0 oo1 oo2 qq0 qq1 qq2 ppf0 ppf1 ppf2 oof0 oof1 oof2 HM
                  have HM := HM0
                  clear HM0
                  have kc0 := Blk.cell (Many.blk HM.out 0 _ _ _ rfl) 0 _ rfl
                  have kc1 := Blk.cell (Many.blk HM.out 0 _ _ _ rfl) 1 _ rfl
                  have kc2 := Blk.cell (Many.blk HM.out 0 _ _ _ rfl) 2 _ rfl
                  have kc3 := Blk.cell (Many.blk HM.out 0 _ _ _ rfl) 3 _ rfl
                  have kc4 := Blk.cell (Many.blk HM.out 0 _ _ _ rfl) 4 _ rfl
                  have kc5 := Blk.cell (Many.blk HM.out 0 _ _ _ rfl) 5 _ rfl
                  have kc6 := Blk.cell (Many.blk HM.out 0 _ _ _ rfl) 6 _ rfl
                  have kc7 := Blk.cell (Many.blk HM.out 0 _ _ _ rfl) 7 _ rfl
                  have kc8 := Blk.cell (Many.blk HM.out 0 _ _ _ rfl) 8 _ rfl
                  have pp0 := Blk.cell (Many.blk HM.out 1 _ _ _ rfl) 0 _ rfl
                  have ppf0 := Blk.frozen (Many.blk HM.out 1 _ _ _ rfl) 0
                  have pp1 := Blk.cell (Many.blk HM.out 1 _ _ _ rfl) 1 _ rfl
                  have ppf1 := Blk.frozen (Many.blk HM.out 1 _ _ _ rfl) 1
                  have pp2 := Blk.cell (Many.blk HM.out 1 _ _ _ rfl) 2 _ rfl
                  have ppf2 := Blk.frozen (Many.blk HM.out 1 _ _ _ rfl) 2
                  have oo0 := Blk.cell (Many.blk HM.out 2 _ _ _ rfl) 0 _ rfl
                  have oof0 := Blk.frozen (Many.blk HM.out 2 _ _ _ rfl) 0
                  have oo1 := Blk.cell (Many.blk HM.out 2 _ _ _ rfl) 1 _ rfl
                  have oof1 := Blk.frozen (Many.blk HM.out 2 _ _ _ rfl) 1
                  have oo2 := Blk.cell (Many.blk HM.out 2 _ _ _ rfl) 2 _ rfl
                  have oof2 := Blk.frozen (Many.blk HM.out 2 _ _ _ rfl) 2
                  have qq0 := Blk.cell (Many.blk HM.out 3 _ _ _ rfl) 0 _ rfl
                  have qq1 := Blk.cell (Many.blk HM.out 3 _ _ _ rfl) 1 _ rfl
                  have qq2 := Blk.cell (Many.blk HM.out 3 _ _ _ rfl) 2 _ rfl
                  go_upto_region 30 with fail
                  obtain ⟨W9, hW9⟩ : ∃ W', (((W8.setCell ⟨gp, 0, none⟩ (.int .i64 x0)).setCell ⟨gp, 1, none⟩ (.int .i64 x1)).setCell ⟨gp, 2, none⟩ (.bool true)) = W' := ⟨_, rfl⟩
                  have HM0 : Aside0 (Many w [(w.heap.size, 24, #[.int .i64 c0, .int .i64 c1, .int .i64 c2, .int .i64 c3, .int .i64 c4, .int .i64 c5, .int .i64 c6, .int .i64 cap, .slice A l.length cc]), (gp, 28, #[.int .i64 x0, .int .i64 x1, .bool true]), (go, 28, #[.int .i64 x0, .int .i64 x1, .bool true]), (gq, 28, #[.int .i64 x0, .int .i64 x1, .bool true])] W9) := ⟨by rw [← hW9]; exact Many.set HM.out 1 gp 28 _ rfl [.int .i64 x0, .int .i64 x1, .bool true] rfl (by have q := HG.out; omega) (by intro j g' t' cs' hj hne; match j, hj with | 0, hj => (simp at hj; obtain ⟨rfl, rfl, rfl⟩ := hj; first | exact absurd rfl hne | (have q := HG.out; omega)) | 1, hj => (simp at hj; obtain ⟨rfl, rfl, rfl⟩ := hj; first | exact absurd rfl hne | (have q := HG.out; omega)) | 2, hj => (simp at hj; obtain ⟨rfl, rfl, rfl⟩ := hj; first | exact absurd rfl hne | (have q := HG.out; omega)) | 3, hj => (simp at hj; obtain ⟨rfl, rfl, rfl⟩ := hj; first | exact absurd rfl hne | (have q := HG.out; omega)) | (j + 4), hj => (simp at hj))⟩
                  rw [hW9]
                  clear hW9 kc0 kc1 kc2 kc3 kc4 kc5 kc6 kc7 kc8 pp0 pp1 pp2 oo0 oo1 oo2 qq0 qq1 qq2 ppf0 ppf1 ppf2 oof0 oof1 oof2 HM
                  have HM := HM0
                  clear HM0
                  have kc0 := Blk.cell (Many.blk HM.out 0 _ _ _ rfl) 0 _ rfl
                  have kc1 := Blk.cell (Many.blk HM.out 0 _ _ _ rfl) 1 _ rfl
                  have kc2 := Blk.cell (Many.blk HM.out 0 _ _ _ rfl) 2 _ rfl
                  have kc3 := Blk.cell (Many.blk HM.out 0 _ _ _ rfl) 3 _ rfl
                  have kc4 := Blk.cell (Many.blk HM.out 0 _ _ _ rfl) 4 _ rfl
                  have kc5 := Blk.cell (Many.blk HM.out 0 _ _ _ rfl) 5 _ rfl
                  have kc6 := Blk.cell (Many.blk HM.out 0 _ _ _ rfl) 6 _ rfl
                  have kc7 := Blk.cell (Many.blk HM.out 0 _ _ _ rfl) 7 _ rfl
                  have kc8 := Blk.cell (Many.blk HM.out 0 _ _ _ rfl) 8 _ rfl
                  have pp0 := Blk.cell (Many.blk HM.out 1 _ _ _ rfl) 0 _ rfl
                  have ppf0 := Blk.frozen (Many.blk HM.out 1 _ _ _ rfl) 0
                  have pp1 := Blk.cell (Many.blk HM.out 1 _ _ _ rfl) 1 _ rfl
                  have ppf1 := Blk.frozen (Many.blk HM.out 1 _ _ _ rfl) 1
                  have pp2 := Blk.cell (Many.blk HM.out 1 _ _ _ rfl) 2 _ rfl
                  have ppf2 := Blk.frozen (Many.blk HM.out 1 _ _ _ rfl) 2
                  have oo0 := Blk.cell (Many.blk HM.out 2 _ _ _ rfl) 0 _ rfl
                  have oof0 := Blk.frozen (Many.blk HM.out 2 _ _ _ rfl) 0
                  have oo1 := Blk.cell (Many.blk HM.out 2 _ _ _ rfl) 1 _ rfl
                  have oof1 := Blk.frozen (Many.blk HM.out 2 _ _ _ rfl) 1
                  have oo2 := Blk.cell (Many.blk HM.out 2 _ _ _ rfl) 2 _ rfl
                  have oof2 := Blk.frozen (Many.blk HM.out 2 _ _ _ rfl) 2
                  have qq0 := Blk.cell (Many.blk HM.out 3 _ _ _ rfl) 0 _ rfl
                  have qq1 := Blk.cell (Many.blk HM.out 3 _ _ _ rfl) 1 _ rfl
                  have qq2 := Blk.cell (Many.blk HM.out 3 _ _ _ rfl) 2 _ rfl
                  have HT0 := HT.out
                  obtain ⟨⟨a0, a1, a2, a3, b0, b1, b2, b3, b4, w0, w1, w2, w3⟩, n1, n2, n3⟩ := HF2.out
                  obtain ⟨g0, g1, g5, g6⟩ := HCF.out
                  have hnb := HNB.out
                  have gA : wrap64 (t - t) = t - t := wrap_id (by omega) (by omega)
                  have gB : wrap64 (c0 + c1) = c0 + c1 := wrap_id (by omega) (by omega)
                  have gC : wrap64 (t - t) = t - t := wrap_id (by omega) (by omega)
                  have gD : wrap64 (c5 + c6) = c5 + c6 := wrap_id (by omega) (by omega)
                  have gE : wrap64 (t + 1) = t + 1 := wrap_id (by omega) (by omega)
                  have dd6 : decide (t - t > c0 + c1) = false := decide_eq_false (by omega)
                  have de6 : decide (c0 + c1 < t - t) = false := decide_eq_false (by omega)
                  have dd7 : decide (t ≥ 0) = true := decide_eq_true (by omega)
                  have de7 : decide (0 ≤ t) = true := decide_eq_true (by omega)
                  have dd8 : decide (t - t > c5 + c6) = false := decide_eq_false (by omega)
                  have de8 : decide (c5 + c6 < t - t) = false := decide_eq_false (by omega)
                  have dd9 : decide (0 > c0 + c1) = false := decide_eq_false (by omega)
                  have de9 : decide (c0 + c1 < 0) = false := decide_eq_false (by omega)
                  have dd10 : decide (0 > c5 + c6) = false := decide_eq_false (by omega)
                  have de10 : decide (c5 + c6 < 0) = false := decide_eq_false (by omega)
                  clear a0 a1 a2 a3 b0 b1 b2 b3 b4 w0 w1 w2 w3 n1 n2 n3 g0 g1 g5 g6 hnb HT0
                  go_wp2
                  go_roundg (gk - 1)
                  case measure => have := HT.out; have := HLT.out; omega
                  case rel => exact ⟨_, _, _, t + 1, _, _, _, rfl, rfl, rfl, (by first | rfl | rw [gE]), ⟨by have := HT.out; have := HLT.out; omega⟩, ⟨HF2.out.next⟩, ⟨Many.two HM.out⟩⟩
                · have HF2 := Aside0.mk hm1
                  obtain ⟨⟨a0, a1, a2, a3, b0, b1, b2, b3, b4, w0, w1, w2, w3⟩, n1, n2, n3⟩ := HF1.out
                  obtain ⟨g0, g1, g5, g6⟩ := HCF.out
                  have hnb := HNB.out
                  have hlt0 := HLT.out
                  have gH : wrap64 (t - tl) = t - tl := wrap_id (by omega) (by omega)
                  have dd11 : decide (t - tl < c5) = false := decide_eq_false (by omega)
                  have de11 : decide (c5 > t - tl) = false := decide_eq_false (by omega)
                  clear hm1 hq a0 a1 a2 a3 b0 b1 b2 b3 b4 w0 w1 w2 w3 n1 n2 n3 g0 g1 g5 g6 hnb hlt0
                  go_upto_region 29 with (go_at_call 12; ((with_reducible refine (waywardenlaw15_num.calls _ _ _ rfl).mono ?_); rintro e w9 ⟨rfl, hd⟩; have hb := hd.below; clear hd; have HM := Aside0.mk (Many.later HM.out hb); (try clear kc0 kc1 kc2 kc3 kc4 kc5 kc6 kc7 kc8 pp0 pp1 pp2 oo0 oo1 oo2 qq0 qq1 qq2 ppf0 ppf1 ppf2 oof0 oof1 oof2); have kc0 := Blk.cell (Many.blk HM.out 0 _ _ _ rfl) 0 _ rfl; have kc1 := Blk.cell (Many.blk HM.out 0 _ _ _ rfl) 1 _ rfl; have kc2 := Blk.cell (Many.blk HM.out 0 _ _ _ rfl) 2 _ rfl; have kc3 := Blk.cell (Many.blk HM.out 0 _ _ _ rfl) 3 _ rfl; have kc4 := Blk.cell (Many.blk HM.out 0 _ _ _ rfl) 4 _ rfl; have kc5 := Blk.cell (Many.blk HM.out 0 _ _ _ rfl) 5 _ rfl; have kc6 := Blk.cell (Many.blk HM.out 0 _ _ _ rfl) 6 _ rfl; have kc7 := Blk.cell (Many.blk HM.out 0 _ _ _ rfl) 7 _ rfl; have kc8 := Blk.cell (Many.blk HM.out 0 _ _ _ rfl) 8 _ rfl; have pp0 := Blk.cell (Many.blk HM.out 1 _ _ _ rfl) 0 _ rfl; have ppf0 := Blk.frozen (Many.blk HM.out 1 _ _ _ rfl) 0; have pp1 := Blk.cell (Many.blk HM.out 1 _ _ _ rfl) 1 _ rfl; have ppf1 := Blk.frozen (Many.blk HM.out 1 _ _ _ rfl) 1; have pp2 := Blk.cell (Many.blk HM.out 1 _ _ _ rfl) 2 _ rfl; have ppf2 := Blk.frozen (Many.blk HM.out 1 _ _ _ rfl) 2; have oo0 := Blk.cell (Many.blk HM.out 2 _ _ _ rfl) 0 _ rfl; have oof0 := Blk.frozen (Many.blk HM.out 2 _ _ _ rfl) 0; have oo1 := Blk.cell (Many.blk HM.out 2 _ _ _ rfl) 1 _ rfl; have oof1 := Blk.frozen (Many.blk HM.out 2 _ _ _ rfl) 1; have oo2 := Blk.cell (Many.blk HM.out 2 _ _ _ rfl) 2 _ rfl; have oof2 := Blk.frozen (Many.blk HM.out 2 _ _ _ rfl) 2; have qq0 := Blk.cell (Many.blk HM.out 3 _ _ _ rfl) 0 _ rfl; have qq1 := Blk.cell (Many.blk HM.out 3 _ _ _ rfl) 1 _ rfl; have qq2 := Blk.cell (Many.blk HM.out 3 _ _ _ rfl) 2 _ rfl; clear hb))
                  obtain ⟨W8, hW8⟩ : ∃ W', (((w9.setCell ⟨go, 0, none⟩ (.int .i64 x0)).setCell ⟨go, 1, none⟩ (.int .i64 y1)).setCell ⟨go, 2, none⟩ (.bool false)) = W' := ⟨_, rfl⟩
                  have HM0 : Aside0 (Many w [(w.heap.size, 24, #[.int .i64 c0, .int .i64 c1, .int .i64 c2, .int .i64 c3, .int .i64 c4, .int .i64 c5, .int .i64 c6, .int .i64 cap, .slice A l.length cc]), (gp, 28, #[.int .i64 u0, .int .i64 u1, .bool u2]), (go, 28, #[.int .i64 x0, .int .i64 y1, .bool false]), (gq, 28, #[.int .i64 x0, .int .i64 y1, .bool false])] W8) := ⟨by rw [← hW8]; exact Many.set HM.out 2 go 28 _ rfl [.int .i64 x0, .int .i64 y1, .bool false] rfl (by have q := HG.out; omega) (by intro j g' t' cs' hj hne; match j, hj with | 0, hj => (simp at hj; obtain ⟨rfl, rfl, rfl⟩ := hj; first | exact absurd rfl hne | (have q := HG.out; omega)) | 1, hj => (simp at hj; obtain ⟨rfl, rfl, rfl⟩ := hj; first | exact absurd rfl hne | (have q := HG.out; omega)) | 2, hj => (simp at hj; obtain ⟨rfl, rfl, rfl⟩ := hj; first | exact absurd rfl hne | (have q := HG.out; omega)) | 3, hj => (simp at hj; obtain ⟨rfl, rfl, rfl⟩ := hj; first | exact absurd rfl hne | (have q := HG.out; omega)) | (j + 4), hj => (simp at hj))⟩
                  rw [hW8]
                  clear hW8 kc0 kc1 kc2 kc3 kc4 kc5 kc6 kc7 kc8 pp0 pp1 pp2 oo0 oo1 oo2 qq0 qq1 qq2 ppf0 ppf1 ppf2 oof0 oof1 oof2 HM
                  have HM := HM0
                  clear HM0
                  have kc0 := Blk.cell (Many.blk HM.out 0 _ _ _ rfl) 0 _ rfl
                  have kc1 := Blk.cell (Many.blk HM.out 0 _ _ _ rfl) 1 _ rfl
                  have kc2 := Blk.cell (Many.blk HM.out 0 _ _ _ rfl) 2 _ rfl
                  have kc3 := Blk.cell (Many.blk HM.out 0 _ _ _ rfl) 3 _ rfl
                  have kc4 := Blk.cell (Many.blk HM.out 0 _ _ _ rfl) 4 _ rfl
                  have kc5 := Blk.cell (Many.blk HM.out 0 _ _ _ rfl) 5 _ rfl
                  have kc6 := Blk.cell (Many.blk HM.out 0 _ _ _ rfl) 6 _ rfl
                  have kc7 := Blk.cell (Many.blk HM.out 0 _ _ _ rfl) 7 _ rfl
                  have kc8 := Blk.cell (Many.blk HM.out 0 _ _ _ rfl) 8 _ rfl
                  have pp0 := Blk.cell (Many.blk HM.out 1 _ _ _ rfl) 0 _ rfl
                  have ppf0 := Blk.frozen (Many.blk HM.out 1 _ _ _ rfl) 0
                  have pp1 := Blk.cell (Many.blk HM.out 1 _ _ _ rfl) 1 _ rfl
                  have ppf1 := Blk.frozen (Many.blk HM.out 1 _ _ _ rfl) 1
                  have pp2 := Blk.cell (Many.blk HM.out 1 _ _ _ rfl) 2 _ rfl
                  have ppf2 := Blk.frozen (Many.blk HM.out 1 _ _ _ rfl) 2
                  have oo0 := Blk.cell (Many.blk HM.out 2 _ _ _ rfl) 0 _ rfl
                  have oof0 := Blk.frozen (Many.blk HM.out 2 _ _ _ rfl) 0
                  have oo1 := Blk.cell (Many.blk HM.out 2 _ _ _ rfl) 1 _ rfl
                  have oof1 := Blk.frozen (Many.blk HM.out 2 _ _ _ rfl) 1
                  have oo2 := Blk.cell (Many.blk HM.out 2 _ _ _ rfl) 2 _ rfl
                  have oof2 := Blk.frozen (Many.blk HM.out 2 _ _ _ rfl) 2
                  have qq0 := Blk.cell (Many.blk HM.out 3 _ _ _ rfl) 0 _ rfl
                  have qq1 := Blk.cell (Many.blk HM.out 3 _ _ _ rfl) 1 _ rfl
                  have qq2 := Blk.cell (Many.blk HM.out 3 _ _ _ rfl) 2 _ rfl
                  go_upto_region 30 with fail
                  obtain ⟨W9, hW9⟩ : ∃ W', (((W8.setCell ⟨gp, 0, none⟩ (.int .i64 x0)).setCell ⟨gp, 1, none⟩ (.int .i64 y1)).setCell ⟨gp, 2, none⟩ (.bool false)) = W' := ⟨_, rfl⟩
                  have HM0 : Aside0 (Many w [(w.heap.size, 24, #[.int .i64 c0, .int .i64 c1, .int .i64 c2, .int .i64 c3, .int .i64 c4, .int .i64 c5, .int .i64 c6, .int .i64 cap, .slice A l.length cc]), (gp, 28, #[.int .i64 x0, .int .i64 y1, .bool false]), (go, 28, #[.int .i64 x0, .int .i64 y1, .bool false]), (gq, 28, #[.int .i64 x0, .int .i64 y1, .bool false])] W9) := ⟨by rw [← hW9]; exact Many.set HM.out 1 gp 28 _ rfl [.int .i64 x0, .int .i64 y1, .bool false] rfl (by have q := HG.out; omega) (by intro j g' t' cs' hj hne; match j, hj with | 0, hj => (simp at hj; obtain ⟨rfl, rfl, rfl⟩ := hj; first | exact absurd rfl hne | (have q := HG.out; omega)) | 1, hj => (simp at hj; obtain ⟨rfl, rfl, rfl⟩ := hj; first | exact absurd rfl hne | (have q := HG.out; omega)) | 2, hj => (simp at hj; obtain ⟨rfl, rfl, rfl⟩ := hj; first | exact absurd rfl hne | (have q := HG.out; omega)) | 3, hj => (simp at hj; obtain ⟨rfl, rfl, rfl⟩ := hj; first | exact absurd rfl hne | (have q := HG.out; omega)) | (j + 4), hj => (simp at hj))⟩
                  rw [hW9]
                  clear hW9 kc0 kc1 kc2 kc3 kc4 kc5 kc6 kc7 kc8 pp0 pp1 pp2 oo0 oo1 oo2 qq0 qq1 qq2 ppf0 ppf1 ppf2 oof0 oof1 oof2 HM
                  have HM := HM0
                  clear HM0
                  have kc0 := Blk.cell (Many.blk HM.out 0 _ _ _ rfl) 0 _ rfl
                  have kc1 := Blk.cell (Many.blk HM.out 0 _ _ _ rfl) 1 _ rfl
                  have kc2 := Blk.cell (Many.blk HM.out 0 _ _ _ rfl) 2 _ rfl
                  have kc3 := Blk.cell (Many.blk HM.out 0 _ _ _ rfl) 3 _ rfl
                  have kc4 := Blk.cell (Many.blk HM.out 0 _ _ _ rfl) 4 _ rfl
                  have kc5 := Blk.cell (Many.blk HM.out 0 _ _ _ rfl) 5 _ rfl
                  have kc6 := Blk.cell (Many.blk HM.out 0 _ _ _ rfl) 6 _ rfl
                  have kc7 := Blk.cell (Many.blk HM.out 0 _ _ _ rfl) 7 _ rfl
                  have kc8 := Blk.cell (Many.blk HM.out 0 _ _ _ rfl) 8 _ rfl
                  have pp0 := Blk.cell (Many.blk HM.out 1 _ _ _ rfl) 0 _ rfl
                  have ppf0 := Blk.frozen (Many.blk HM.out 1 _ _ _ rfl) 0
                  have pp1 := Blk.cell (Many.blk HM.out 1 _ _ _ rfl) 1 _ rfl
                  have ppf1 := Blk.frozen (Many.blk HM.out 1 _ _ _ rfl) 1
                  have pp2 := Blk.cell (Many.blk HM.out 1 _ _ _ rfl) 2 _ rfl
                  have ppf2 := Blk.frozen (Many.blk HM.out 1 _ _ _ rfl) 2
                  have oo0 := Blk.cell (Many.blk HM.out 2 _ _ _ rfl) 0 _ rfl
                  have oof0 := Blk.frozen (Many.blk HM.out 2 _ _ _ rfl) 0
                  have oo1 := Blk.cell (Many.blk HM.out 2 _ _ _ rfl) 1 _ rfl
                  have oof1 := Blk.frozen (Many.blk HM.out 2 _ _ _ rfl) 1
                  have oo2 := Blk.cell (Many.blk HM.out 2 _ _ _ rfl) 2 _ rfl
                  have oof2 := Blk.frozen (Many.blk HM.out 2 _ _ _ rfl) 2
                  have qq0 := Blk.cell (Many.blk HM.out 3 _ _ _ rfl) 0 _ rfl
                  have qq1 := Blk.cell (Many.blk HM.out 3 _ _ _ rfl) 1 _ rfl
                  have qq2 := Blk.cell (Many.blk HM.out 3 _ _ _ rfl) 2 _ rfl
                  have HT0 := HT.out
                  obtain ⟨⟨a0, a1, a2, a3, b0, b1, b2, b3, b4, w0, w1, w2, w3⟩, n1, n2, n3⟩ := HF2.out
                  obtain ⟨g0, g1, g5, g6⟩ := HCF.out
                  have hnb := HNB.out
                  have gA : wrap64 (t - t) = t - t := wrap_id (by omega) (by omega)
                  have gB : wrap64 (c0 + c1) = c0 + c1 := wrap_id (by omega) (by omega)
                  have gC : wrap64 (t - (-1)) = t - (-1) := wrap_id (by omega) (by omega)
                  have gD : wrap64 (c5 + c6) = c5 + c6 := wrap_id (by omega) (by omega)
                  have gE : wrap64 (t + 1) = t + 1 := wrap_id (by omega) (by omega)
                  have dd12 : decide (t - t > c0 + c1) = false := decide_eq_false (by omega)
                  have de12 : decide (c0 + c1 < t - t) = false := decide_eq_false (by omega)
                  have dd13 : decide ((-1) ≥ 0) = false := decide_eq_false (by omega)
                  have de13 : decide (0 ≤ (-1)) = false := decide_eq_false (by omega)
                  have dd14 : decide (0 > c0 + c1) = false := decide_eq_false (by omega)
                  have de14 : decide (c0 + c1 < 0) = false := decide_eq_false (by omega)
                  clear a0 a1 a2 a3 b0 b1 b2 b3 b4 w0 w1 w2 w3 n1 n2 n3 g0 g1 g5 g6 hnb HT0
                  go_wp2
                  go_roundg (gk - 1)
                  case measure => have := HT.out; have := HLT.out; omega
                  case rel => exact ⟨_, _, _, t + 1, _, _, _, rfl, rfl, rfl, (by first | rfl | rw [gE]), ⟨by have := HT.out; have := HLT.out; omega⟩, ⟨HF2.out.next⟩, ⟨Many.two HM.out⟩⟩
        · as_aux_lemma =>
            have HF1 := Aside0.mk hm1
            obtain ⟨⟨a0, a1, a2, a3, b0, b1, b2, b3, b4, w0, w1, w2, w3⟩, n1, n2, n3⟩ := HF1.out
            obtain ⟨z0, z1, z2, z3, z4, z5, z6, z7, z8, z9, z10, z11, z12⟩ := HI.out
            obtain ⟨g0, g1, g5, g6⟩ := HCF.out
            have hnb := HNB.out
            have hlt0 := HLT.out
            have gH : wrap64 (t - tl) = t - tl := wrap_id (by omega) (by omega)
            have dd15 : decide (t - tl < c5) = false := decide_eq_false (by omega)
            have de15 : decide (c5 > t - tl) = false := decide_eq_false (by omega)
            clear hm1 hq a0 a1 a2 a3 b0 b1 b2 b3 b4 w0 w1 w2 w3 n1 n2 n3 g0 g1 g5 g6 hnb hlt0 z0 z1 z2 z3 z4 z5 z6 z7 z8 z9 z10 z11 z12
            go_upto_region 20 with (go_at_call 12; ((with_reducible refine (waywardenlaw15_num.calls _ _ _ rfl).mono ?_); rintro e w9 ⟨rfl, hd⟩; have hb := hd.below; clear hd; have HM := Aside0.mk (Many.later HM.out hb); (try clear kc0 kc1 kc2 kc3 kc4 kc5 kc6 kc7 kc8 pp0 pp1 pp2 oo0 oo1 oo2 ppf0 ppf1 ppf2 oof0 oof1 oof2); have kc0 := Blk.cell (Many.blk HM.out 0 _ _ _ rfl) 0 _ rfl; have kc1 := Blk.cell (Many.blk HM.out 0 _ _ _ rfl) 1 _ rfl; have kc2 := Blk.cell (Many.blk HM.out 0 _ _ _ rfl) 2 _ rfl; have kc3 := Blk.cell (Many.blk HM.out 0 _ _ _ rfl) 3 _ rfl; have kc4 := Blk.cell (Many.blk HM.out 0 _ _ _ rfl) 4 _ rfl; have kc5 := Blk.cell (Many.blk HM.out 0 _ _ _ rfl) 5 _ rfl; have kc6 := Blk.cell (Many.blk HM.out 0 _ _ _ rfl) 6 _ rfl; have kc7 := Blk.cell (Many.blk HM.out 0 _ _ _ rfl) 7 _ rfl; have kc8 := Blk.cell (Many.blk HM.out 0 _ _ _ rfl) 8 _ rfl; have pp0 := Blk.cell (Many.blk HM.out 1 _ _ _ rfl) 0 _ rfl; have ppf0 := Blk.frozen (Many.blk HM.out 1 _ _ _ rfl) 0; have pp1 := Blk.cell (Many.blk HM.out 1 _ _ _ rfl) 1 _ rfl; have ppf1 := Blk.frozen (Many.blk HM.out 1 _ _ _ rfl) 1; have pp2 := Blk.cell (Many.blk HM.out 1 _ _ _ rfl) 2 _ rfl; have ppf2 := Blk.frozen (Many.blk HM.out 1 _ _ _ rfl) 2; have oo0 := Blk.cell (Many.blk HM.out 2 _ _ _ rfl) 0 _ rfl; have oof0 := Blk.frozen (Many.blk HM.out 2 _ _ _ rfl) 0; have oo1 := Blk.cell (Many.blk HM.out 2 _ _ _ rfl) 1 _ rfl; have oof1 := Blk.frozen (Many.blk HM.out 2 _ _ _ rfl) 1; have oo2 := Blk.cell (Many.blk HM.out 2 _ _ _ rfl) 2 _ rfl; have oof2 := Blk.frozen (Many.blk HM.out 2 _ _ _ rfl) 2; clear hb))
            obtain ⟨adc, ec, hxc⟩ := Kd.at_bool (Kd.C_below HCH.out HM.out.bel) t HT.out.2 (by have := HNB.out; have := HLT.out; omega)
            cases ec
            cases hb : rdOf false ch t
            · rw [hb] at hxc
              go_upto_region 30 with fail
              obtain ⟨W9, hW9⟩ : ∃ W', (((w9.setCell ⟨gp, 0, none⟩ (.int .i64 x0)).setCell ⟨gp, 1, none⟩ (.int .i64 x1)).setCell ⟨gp, 2, none⟩ (.bool false)) = W' := ⟨_, rfl⟩
              have HM0 : Aside0 (Many w [(w.heap.size, 24, #[.int .i64 c0, .int .i64 c1, .int .i64 c2, .int .i64 c3, .int .i64 c4, .int .i64 c5, .int .i64 c6, .int .i64 cap, .slice A l.length cc]), (gp, 28, #[.int .i64 x0, .int .i64 x1, .bool false]), (go, 28, #[.int .i64 x0, .int .i64 x1, .bool false])] W9) := ⟨by rw [← hW9]; exact Many.set HM.out 1 gp 28 _ rfl [.int .i64 x0, .int .i64 x1, .bool false] rfl (by have q := HG.out; omega) (by intro j g' t' cs' hj hne; match j, hj with | 0, hj => (simp at hj; obtain ⟨rfl, rfl, rfl⟩ := hj; first | exact absurd rfl hne | (have q := HG.out; omega)) | 1, hj => (simp at hj; obtain ⟨rfl, rfl, rfl⟩ := hj; first | exact absurd rfl hne | (have q := HG.out; omega)) | 2, hj => (simp at hj; obtain ⟨rfl, rfl, rfl⟩ := hj; first | exact absurd rfl hne | (have q := HG.out; omega)) | (j + 3), hj => (simp at hj))⟩
              rw [hW9]
              clear hW9 kc0 kc1 kc2 kc3 kc4 kc5 kc6 kc7 kc8 pp0 pp1 pp2 oo0 oo1 oo2 ppf0 ppf1 ppf2 oof0 oof1 oof2 HM
              have HM := HM0
              clear HM0
              have kc0 := Blk.cell (Many.blk HM.out 0 _ _ _ rfl) 0 _ rfl
              have kc1 := Blk.cell (Many.blk HM.out 0 _ _ _ rfl) 1 _ rfl
              have kc2 := Blk.cell (Many.blk HM.out 0 _ _ _ rfl) 2 _ rfl
              have kc3 := Blk.cell (Many.blk HM.out 0 _ _ _ rfl) 3 _ rfl
              have kc4 := Blk.cell (Many.blk HM.out 0 _ _ _ rfl) 4 _ rfl
              have kc5 := Blk.cell (Many.blk HM.out 0 _ _ _ rfl) 5 _ rfl
              have kc6 := Blk.cell (Many.blk HM.out 0 _ _ _ rfl) 6 _ rfl
              have kc7 := Blk.cell (Many.blk HM.out 0 _ _ _ rfl) 7 _ rfl
              have kc8 := Blk.cell (Many.blk HM.out 0 _ _ _ rfl) 8 _ rfl
              have pp0 := Blk.cell (Many.blk HM.out 1 _ _ _ rfl) 0 _ rfl
              have ppf0 := Blk.frozen (Many.blk HM.out 1 _ _ _ rfl) 0
              have pp1 := Blk.cell (Many.blk HM.out 1 _ _ _ rfl) 1 _ rfl
              have ppf1 := Blk.frozen (Many.blk HM.out 1 _ _ _ rfl) 1
              have pp2 := Blk.cell (Many.blk HM.out 1 _ _ _ rfl) 2 _ rfl
              have ppf2 := Blk.frozen (Many.blk HM.out 1 _ _ _ rfl) 2
              have oo0 := Blk.cell (Many.blk HM.out 2 _ _ _ rfl) 0 _ rfl
              have oof0 := Blk.frozen (Many.blk HM.out 2 _ _ _ rfl) 0
              have oo1 := Blk.cell (Many.blk HM.out 2 _ _ _ rfl) 1 _ rfl
              have oof1 := Blk.frozen (Many.blk HM.out 2 _ _ _ rfl) 1
              have oo2 := Blk.cell (Many.blk HM.out 2 _ _ _ rfl) 2 _ rfl
              have oof2 := Blk.frozen (Many.blk HM.out 2 _ _ _ rfl) 2
              have HT0 := HT.out
              obtain ⟨⟨a0, a1, a2, a3, b0, b1, b2, b3, b4, w0, w1, w2, w3⟩, n1, n2, n3⟩ := HF1.out
              obtain ⟨g0, g1, g5, g6⟩ := HCF.out
              have hnb := HNB.out
              have gA : wrap64 (t - al) = t - al := wrap_id (by omega) (by omega)
              have gB : wrap64 (c0 + c1) = c0 + c1 := wrap_id (by omega) (by omega)
              have gC : wrap64 (t - (-1)) = t - (-1) := wrap_id (by omega) (by omega)
              have gD : wrap64 (c5 + c6) = c5 + c6 := wrap_id (by omega) (by omega)
              have gE : wrap64 (t + 1) = t + 1 := wrap_id (by omega) (by omega)
              have dd16 : decide (t - al > c0 + c1) = false := decide_eq_false (by omega)
              have de16 : decide (c0 + c1 < t - al) = false := decide_eq_false (by omega)
              have dd17 : decide ((-1) ≥ 0) = false := decide_eq_false (by omega)
              have de17 : decide (0 ≤ (-1)) = false := decide_eq_false (by omega)
              clear a0 a1 a2 a3 b0 b1 b2 b3 b4 w0 w1 w2 w3 n1 n2 n3 g0 g1 g5 g6 hnb HT0
              go_wp2
              go_roundg (gk - 1)
              case measure => have := HT.out; have := HLT.out; omega
              case rel => exact ⟨_, _, _, t + 1, _, _, _, rfl, rfl, rfl, (by first | rfl | rw [gE]), ⟨by have := HT.out; have := HLT.out; omega⟩, ⟨HF1.out.next⟩, ⟨Many.two HM.out⟩⟩
            · rw [hb] at hxc
              have HP2 : Aside0 (pulseOk x0 x1 = true) := ⟨HF1.out.inv.ok HCF.out (by have := HNB.out; have := HLT.out; omega)⟩
              obtain ⟨y1, f1⟩ : ∃ x, chU1 x1 t (c5 + clampN (rd dr t) c6) = x := ⟨_, rfl⟩
              obtain ⟨y2, f2⟩ : ∃ x, decide (t < x1) = x := ⟨_, rfl⟩
              obtain ⟨m, f3⟩ : ∃ x, chK x1 t = x := ⟨_, rfl⟩
              have hC : (m = 0 ∧ x1 = y1 ∧ y2 = true ∧ ((-1) < 0 → HMid c0 c1 c5 c6 al t t t x0 x1 true) ∧ (0 ≤ (-1) → HMid c0 c1 c5 c6 al t (-1) t x0 x1 true)) ∨ (m = 1 ∧ y2 = false ∧ HMid c0 c1 c5 c6 al t (-1) t x0 y1 false ∧ t + c5 ≤ t) := by
                have ht := HT.out.2
                by_cases hq : t < x1
                · have hh := change_lt HF1.out HCF.out hq ht
                  refine .inl ⟨by rw [← f3]; unfold chK; rw [if_pos hq], by rw [← f1]; unfold chU1; rw [if_pos hq], by rw [← f2]; exact decide_eq_true hq, hh.1, hh.2⟩
                · have hh := change_ge (d := rd dr t) HF1.out HCF.out (by omega)
                  refine .inr ⟨by rw [← f3]; unfold chK; rw [if_neg hq], by rw [← f2]; exact decide_eq_false hq, ?_, hh.2⟩
                  rw [← f1]; unfold chU1; rw [if_neg hq]; exact hh.1
              have F1 := Aside0.mk f1
              have F2 := Aside0.mk f2
              have F3 := Aside0.mk f3
              have HCC := Aside0.mk hC
              clear f1 f2 f3 hC
              go_upto_region 21 with fail
              have kc0' : ∀ w' : World, Below w9.heap.size w9 w' → w'.cell? ⟨w.heap.size, 0, none⟩ = some (.int .i64 c0) := fun w' h => Blk.cell (Blk.later (Many.blk HM.out 0 _ _ _ rfl) h) 0 _ rfl
              have kc1' : ∀ w' : World, Below w9.heap.size w9 w' → w'.cell? ⟨w.heap.size, 1, none⟩ = some (.int .i64 c1) := fun w' h => Blk.cell (Blk.later (Many.blk HM.out 0 _ _ _ rfl) h) 1 _ rfl
              have kc2' : ∀ w' : World, Below w9.heap.size w9 w' → w'.cell? ⟨w.heap.size, 2, none⟩ = some (.int .i64 c2) := fun w' h => Blk.cell (Blk.later (Many.blk HM.out 0 _ _ _ rfl) h) 2 _ rfl
              have kc3' : ∀ w' : World, Below w9.heap.size w9 w' → w'.cell? ⟨w.heap.size, 3, none⟩ = some (.int .i64 c3) := fun w' h => Blk.cell (Blk.later (Many.blk HM.out 0 _ _ _ rfl) h) 3 _ rfl
              have kc4' : ∀ w' : World, Below w9.heap.size w9 w' → w'.cell? ⟨w.heap.size, 4, none⟩ = some (.int .i64 c4) := fun w' h => Blk.cell (Blk.later (Many.blk HM.out 0 _ _ _ rfl) h) 4 _ rfl
              have kc5' : ∀ w' : World, Below w9.heap.size w9 w' → w'.cell? ⟨w.heap.size, 5, none⟩ = some (.int .i64 c5) := fun w' h => Blk.cell (Blk.later (Many.blk HM.out 0 _ _ _ rfl) h) 5 _ rfl
              have kc6' : ∀ w' : World, Below w9.heap.size w9 w' → w'.cell? ⟨w.heap.size, 6, none⟩ = some (.int .i64 c6) := fun w' h => Blk.cell (Blk.later (Many.blk HM.out 0 _ _ _ rfl) h) 6 _ rfl
              have kc7' : ∀ w' : World, Below w9.heap.size w9 w' → w'.cell? ⟨w.heap.size, 7, none⟩ = some (.int .i64 cap) := fun w' h => Blk.cell (Blk.later (Many.blk HM.out 0 _ _ _ rfl) h) 7 _ rfl
              have kc8' : ∀ w' : World, Below w9.heap.size w9 w' → w'.cell? ⟨w.heap.size, 8, none⟩ = some (.slice A l.length cc) := fun w' h => Blk.cell (Blk.later (Many.blk HM.out 0 _ _ _ rfl) h) 8 _ rfl
              have pp0' : ∀ w' : World, Below w9.heap.size w9 w' → w'.cell? ⟨gp, 0, none⟩ = some (.int .i64 u0) := fun w' h => Blk.cell (Blk.later (Many.blk HM.out 1 _ _ _ rfl) h) 0 _ rfl
              have pp1' : ∀ w' : World, Below w9.heap.size w9 w' → w'.cell? ⟨gp, 1, none⟩ = some (.int .i64 u1) := fun w' h => Blk.cell (Blk.later (Many.blk HM.out 1 _ _ _ rfl) h) 1 _ rfl
              have pp2' : ∀ w' : World, Below w9.heap.size w9 w' → w'.cell? ⟨gp, 2, none⟩ = some (.bool u2) := fun w' h => Blk.cell (Blk.later (Many.blk HM.out 1 _ _ _ rfl) h) 2 _ rfl
              have oo0' : ∀ w' : World, Below w9.heap.size w9 w' → w'.cell? ⟨go, 0, none⟩ = some (.int .i64 x0) := fun w' h => Blk.cell (Blk.later (Many.blk HM.out 2 _ _ _ rfl) h) 0 _ rfl
              have oo1' : ∀ w' : World, Below w9.heap.size w9 w' → w'.cell? ⟨go, 1, none⟩ = some (.int .i64 x1) := fun w' h => Blk.cell (Blk.later (Many.blk HM.out 2 _ _ _ rfl) h) 1 _ rfl
              have oo2' : ∀ w' : World, Below w9.heap.size w9 w' → w'.cell? ⟨go, 2, none⟩ = some (.bool false) := fun w' h => Blk.cell (Blk.later (Many.blk HM.out 2 _ _ _ rfl) h) 2 _ rfl
              have hx2 : w9.cell? (ad.add t.toNat) = some (.int .i64 (rd dr t)) := (HM.out.bel.cell (HAD.out)).trans HX0.out
              have hx' : ∀ w' : World, Below w9.heap.size w9 w' → w'.cell? (ad.add t.toNat) = some (.int .i64 (rd dr t)) := fun w' h => (h.cell (World.block_lt_of_cell? w9 _ hx2)).trans hx2
              clear hx2
              have hgw : go < w9.heap.size := World.block_lt_of_cell? w9 _ oo0
              have HGW := Aside0.mk hgw
              clear hgw
              have HRr := Aside0.mk (Kd.C_below HR.out HM.out.bel)
              go_cut [17, 18, 19] (fun v17 v18 v19 wx => ∃ gq : Nat, v17 = .pointer (some ⟨gq, 0, none⟩) ∧ w9.heap.size ≤ gq ∧ Blk wx gq 28 #[.int .i64 x0, .int .i64 y1, .bool y2] ∧ Below w9.heap.size w9 wx ∧ v18 = .int .i64 m ∧ v19 = .int .i64 0)
              case first =>
                as_aux_lemma =>
                  clear kc0 kc1 kc2 kc3 kc4 kc5 kc6 kc7 kc8 pp0 pp1 pp2 oo0 oo1 oo2 ppf0 ppf1 ppf2 oof0 oof1 oof2
                  refine wp_region_held_drew (S := fun w' => Below w9.heap.size w9 w') (by kernel_rfl) ?sB2 (fun hHeld => ?rB2)
                  case sB2 => exact (below_drew (Below.refl w9.heap.size w9))
                  refine wpAnyH_take (i := 0) (oi := ?oB2_0_1) (v := ?vB2_0_1) ?iB2_0_1 (by kernel_rfl) (by kernel_rfl) (by kernel_rfl) ?qB2_0_1 ?yB2_0_1 hHeld ?nB2_0_1
                  case iB2_0_1 => (simp only [List.getElem?_toArray, List.getElem?_cons_succ, List.getElem?_cons_zero]; rfl)
                  case yB2_0_1 => (refine Or.inl ⟨by kernel_rfl, ?_⟩; intro w' hSw; (try dsimp only at hSw); first | (go_simp; done) | (go_simp; with_reducible rfl))
                  case qB2_0_1 => exact fun _ _ _ h => h
                  try simp only [Act.put, List.setIfInBounds_toArray, List.set_cons_zero, List.set_cons_succ]
                  refine wpAnyH_take (i := 1) (oi := ?oB2_1_2) (v := ?vB2_1_2) ?iB2_1_2 (by kernel_rfl) (by kernel_rfl) (by kernel_rfl) ?qB2_1_2 ?yB2_1_2 hHeld ?nB2_1_2
                  case iB2_1_2 => (simp only [List.getElem?_toArray, List.getElem?_cons_succ, List.getElem?_cons_zero]; rfl)
                  case yB2_1_2 => (refine Or.inl ⟨by kernel_rfl, ?_⟩; intro w' hSw; (try dsimp only at hSw); first | (go_simp; done) | (go_simp; with_reducible rfl))
                  case qB2_1_2 => exact fun _ _ _ h => h
                  try simp only [Act.put, List.setIfInBounds_toArray, List.set_cons_zero, List.set_cons_succ]
                  refine wpAnyH_take (i := 2) (oi := ?oB2_2_3) (v := ?vB2_2_3) ?iB2_2_3 (by kernel_rfl) (by kernel_rfl) (by kernel_rfl) ?qB2_2_3 ?yB2_2_3 hHeld ?nB2_2_3
                  case iB2_2_3 => (simp only [List.getElem?_toArray, List.getElem?_cons_succ, List.getElem?_cons_zero]; rfl)
                  case yB2_2_3 => (refine Or.inl ⟨by kernel_rfl, ?_⟩; intro w' hSw; (try dsimp only at hSw); first | (go_simp; done) | (go_simp; with_reducible rfl))
                  case qB2_2_3 => exact fun _ _ _ h => h
                  try simp only [Act.put, List.setIfInBounds_toArray, List.set_cons_zero, List.set_cons_succ]
                  refine wpAnyH_take (i := 3) (oi := ?oB2_3_4) (v := ?vB2_3_4) ?iB2_3_4 (by kernel_rfl) (by kernel_rfl) (by kernel_rfl) ?qB2_3_4 ?yB2_3_4 hHeld ?nB2_3_4
                  case iB2_3_4 => (simp only [List.getElem?_toArray, List.getElem?_cons_succ, List.getElem?_cons_zero]; rfl)
                  case yB2_3_4 => (refine Or.inl ⟨by kernel_rfl, ?_⟩; intro w' hSw; (try dsimp only at hSw); first | (go_simp; done) | (go_simp; with_reducible rfl))
                  case qB2_3_4 => exact fun _ _ _ h => h
                  try simp only [Act.put, List.setIfInBounds_toArray, List.set_cons_zero, List.set_cons_succ]
                  refine wpAnyH_take (i := 4) (oi := ?oB2_4_5) (v := ?vB2_4_5) ?iB2_4_5 (by kernel_rfl) (by kernel_rfl) (by kernel_rfl) ?qB2_4_5 ?yB2_4_5 hHeld ?nB2_4_5
                  case iB2_4_5 => (simp only [List.getElem?_toArray, List.getElem?_cons_succ, List.getElem?_cons_zero]; rfl)
                  case yB2_4_5 => (refine Or.inl ⟨by kernel_rfl, ?_⟩; intro w' hSw; (try dsimp only at hSw); first | (go_simp; done) | (go_simp; with_reducible rfl))
                  case qB2_4_5 => exact fun _ _ _ h => h
                  try simp only [Act.put, List.setIfInBounds_toArray, List.set_cons_zero, List.set_cons_succ]
                  refine wpAnyH_take (i := 5) (oi := ?oB2_5_6) (v := ?vB2_5_6) ?iB2_5_6 (by kernel_rfl) (by kernel_rfl) (by kernel_rfl) ?qB2_5_6 ?yB2_5_6 hHeld ?nB2_5_6
                  case iB2_5_6 => (simp only [List.getElem?_toArray, List.getElem?_cons_succ, List.getElem?_cons_zero]; rfl)
                  case yB2_5_6 => (refine Or.inl ⟨by kernel_rfl, ?_⟩; intro w' hSw; (try dsimp only at hSw); first | (go_simp; done) | (go_simp; with_reducible rfl))
                  case qB2_5_6 => exact fun _ _ _ h => h
                  try simp only [Act.put, List.setIfInBounds_toArray, List.set_cons_zero, List.set_cons_succ]
                  refine wpAnyH_take (i := 6) (oi := ?oB2_6_7) (v := ?vB2_6_7) ?iB2_6_7 (by kernel_rfl) (by kernel_rfl) (by kernel_rfl) ?qB2_6_7 ?yB2_6_7 hHeld ?nB2_6_7
                  case iB2_6_7 => (simp only [List.getElem?_toArray, List.getElem?_cons_succ, List.getElem?_cons_zero]; rfl)
                  case yB2_6_7 => (refine Or.inl ⟨by kernel_rfl, ?_⟩; intro w' hSw; (try dsimp only at hSw); first | (go_simp; done) | (go_simp; with_reducible rfl))
                  case qB2_6_7 => exact fun _ _ _ h => h
                  try simp only [Act.put, List.setIfInBounds_toArray, List.set_cons_zero, List.set_cons_succ]
                  refine wpAnyH_ready (rs := [7, 12]) (by kernel_rfl) (by simp) ?_
                  refine (AllReadyH.cons (o := ?oB2_7_8) ?iB2_7_8 (fun K hK => ?kB2_7_8) (AllReadyH.cons (o := ?oB2_12_8) ?iB2_12_8 (fun K hK => ?kB2_12_8) AllReadyH.nil))
                  case iB2_7_8 => (simp only [List.getElem?_toArray, List.getElem?_cons_succ, List.getElem?_cons_zero]; rfl)
                  case iB2_12_8 => (simp only [List.getElem?_toArray, List.getElem?_cons_succ, List.getElem?_cons_zero]; rfl)
                  case kB2_7_8 =>
                    go_simp
                    (with_reducible refine (change_yes c0 c1 c2 c3 c4 c5 c6 cap A l cc x0 x1 false t (rd dr t) _ (Kd.C_below HRr.out hHeld) hc HA.out hm HP2.out HN.out ⟨HT.out.2, HTB.out⟩).mono ?_); rw [F1.out, F2.out, F3.out]; rintro e w4 ⟨rfl, hb⟩; dsimp only
                    refine hK.out _ _ ?hB2_7_8 (fun hHeld2 => ?mB2_7_8)
                    case hB2_7_8 => exact thenB hHeld hHeld.size hb
                    clear hK K hHeld
                    have hHeld := hHeld2
                    clear hHeld2
                    try simp only [Act.put, List.setIfInBounds_toArray, List.set_cons_zero, List.set_cons_succ]
                    refine wpAnyH_take (i := 8) (oi := ?oB2_8_9) (v := ?vB2_8_9) ?iB2_8_9 (by kernel_rfl) (by kernel_rfl) (by kernel_rfl) ?qB2_8_9 ?yB2_8_9 hHeld ?nB2_8_9
                    case iB2_8_9 => (simp only [List.getElem?_toArray, List.getElem?_cons_succ, List.getElem?_cons_zero]; rfl)
                    case yB2_8_9 => (refine Or.inl ⟨by kernel_rfl, ?_⟩; intro w' hSw; (try dsimp only at hSw); first | (go_simp; done) | (go_simp; with_reducible rfl))
                    case qB2_8_9 => exact fun _ _ _ h => h
                    try simp only [Act.put, List.setIfInBounds_toArray, List.set_cons_zero, List.set_cons_succ]
                    refine wpAnyH_take (i := 9) (oi := ?oB2_9_10) (v := ?vB2_9_10) ?iB2_9_10 (by kernel_rfl) (by kernel_rfl) (by kernel_rfl) ?qB2_9_10 ?yB2_9_10 hHeld ?nB2_9_10
                    case iB2_9_10 => (simp only [List.getElem?_toArray, List.getElem?_cons_succ, List.getElem?_cons_zero]; rfl)
                    case yB2_9_10 => (refine Or.inl ⟨by kernel_rfl, ?_⟩; intro w' hSw; (try dsimp only at hSw); first | (go_simp; done) | (go_simp; with_reducible rfl))
                    case qB2_9_10 => exact fun _ _ _ h => h
                    try simp only [Act.put, List.setIfInBounds_toArray, List.set_cons_zero, List.set_cons_succ]
                    refine wpAnyH_take (i := 10) (oi := ?oB2_10_11) (v := ?vB2_10_11) ?iB2_10_11 (by kernel_rfl) (by kernel_rfl) (by kernel_rfl) ?qB2_10_11 ?yB2_10_11 hHeld ?nB2_10_11
                    case iB2_10_11 => (simp only [List.getElem?_toArray, List.getElem?_cons_succ, List.getElem?_cons_zero]; rfl)
                    case yB2_10_11 => (refine Or.inl ⟨by kernel_rfl, ?_⟩; intro w' hSw; (try dsimp only at hSw); first | (go_simp; done) | (go_simp; with_reducible rfl))
                    case qB2_10_11 => exact fun _ _ _ h => h
                    try simp only [Act.put, List.setIfInBounds_toArray, List.set_cons_zero, List.set_cons_succ]
                    refine wpAnyH_take (i := 11) (oi := ?oB2_11_12) (v := ?vB2_11_12) ?iB2_11_12 (by kernel_rfl) (by kernel_rfl) (by kernel_rfl) ?qB2_11_12 ?yB2_11_12 hHeld ?nB2_11_12
                    case iB2_11_12 => (simp only [List.getElem?_toArray, List.getElem?_cons_succ, List.getElem?_cons_zero]; rfl)
                    case yB2_11_12 => (refine Or.inl ⟨by kernel_rfl, ?_⟩; intro w' hSw; (try dsimp only at hSw); first | (go_simp; done) | (go_simp; with_reducible rfl))
                    case qB2_11_12 => exact fun _ _ _ h => h
                    try simp only [Act.put, List.setIfInBounds_toArray, List.set_cons_zero, List.set_cons_succ]
                    refine wpAnyH_ready (rs := [12]) (by kernel_rfl) (by simp) ?_
                    refine (AllReadyH.cons (o := ?oB2_12_13) ?iB2_12_13 (fun K hK => ?kB2_12_13) AllReadyH.nil)
                    case iB2_12_13 => (simp only [List.getElem?_toArray, List.getElem?_cons_succ, List.getElem?_cons_zero]; rfl)
                    case kB2_12_13 =>
                      go_simp
                      have H4 := Aside0.mk hHeld; have HO : Aside0 (Blk (w4.alloc (.cells #[.int .i64 0, .int .i64 0, .bool false] 28)) w4.heap.size 28 #[.int .i64 0, .int .i64 0, .bool false]) := ⟨Blk.new' w4 _ _ _ rfl⟩; have hle : w9.heap.size ≤ w4.heap.size := Below.size hHeld
                      refine hK.out _ _ ?hB2_12_13 (fun hHeld2 => ?mB2_12_13)
                      case hB2_12_13 => exact below_alloc hHeld _
                      clear hK K hHeld
                      have hHeld := hHeld2
                      clear hHeld2
                      try simp only [Act.put, List.setIfInBounds_toArray, List.set_cons_zero, List.set_cons_succ]
                      refine wpAnyH_ready (rs := [13]) (by kernel_rfl) (by simp) ?_
                      refine (AllReadyH.cons (o := ?oB2_13_14) ?iB2_13_14 (fun K hK => ?kB2_13_14) AllReadyH.nil)
                      case iB2_13_14 => (simp only [List.getElem?_toArray, List.getElem?_cons_succ, List.getElem?_cons_zero]; rfl)
                      case kB2_13_14 =>
                        have oo0 := Blk.cell HO.out 0 _ rfl; have oo1 := Blk.cell HO.out 1 _ rfl; have oo2 := Blk.cell HO.out 2 _ rfl; have oof0 := Blk.frozen HO.out 0; have oof1 := Blk.frozen HO.out 1; have oof2 := Blk.frozen HO.out 2
                        go_simp
                        skip
                        refine hK.out _ _ ?hB2_13_14 (fun hHeld2 => ?mB2_13_14)
                        case hB2_13_14 => exact below_alloc H4.out _
                        clear hK K hHeld
                        have hHeld := hHeld2
                        clear hHeld2
                        try simp only [Act.put, List.setIfInBounds_toArray, List.set_cons_zero, List.set_cons_succ]
                        refine wpAnyH_take (i := 14) (oi := ?oB2_14_15) (v := ?vB2_14_15) ?iB2_14_15 (by kernel_rfl) (by kernel_rfl) (by kernel_rfl) ?qB2_14_15 ?yB2_14_15 hHeld ?nB2_14_15
                        case iB2_14_15 => (simp only [List.getElem?_toArray, List.getElem?_cons_succ, List.getElem?_cons_zero]; rfl)
                        case yB2_14_15 => (refine Or.inl ⟨by kernel_rfl, ?_⟩; intro w' hSw; (try dsimp only at hSw); first | (go_simp; done) | (go_simp; with_reducible rfl))
                        case qB2_14_15 => exact fun _ _ _ h => h
                        try simp only [Act.put, List.setIfInBounds_toArray, List.set_cons_zero, List.set_cons_succ]
                        refine wpAnyH_take (i := 15) (oi := ?oB2_15_16) (v := ?vB2_15_16) ?iB2_15_16 (by kernel_rfl) (by kernel_rfl) (by kernel_rfl) ?qB2_15_16 ?yB2_15_16 hHeld ?nB2_15_16
                        case iB2_15_16 => (simp only [List.getElem?_toArray, List.getElem?_cons_succ, List.getElem?_cons_zero]; rfl)
                        case yB2_15_16 => (refine Or.inl ⟨by kernel_rfl, ?_⟩; intro w' hSw; (try dsimp only at hSw); first | (go_simp; done) | (go_simp; with_reducible rfl))
                        case qB2_15_16 => exact fun _ _ _ h => h
                        try simp only [Act.put, List.setIfInBounds_toArray, List.set_cons_zero, List.set_cons_succ]
                        refine wpAnyH_done (by kernel_rfl) ?_ _
                        try go_wp2
                        go_meet
                        exact ⟨w4.heap.size, rfl, hle, Blk.new' w4 _ _ _ rfl, hHeld, rfl, rfl⟩
                  case kB2_12_8 =>
                    go_simp
                    have HO : Aside0 (Blk (w9.drew.alloc (.cells #[.int .i64 0, .int .i64 0, .bool false] 28)) w9.heap.size 28 #[.int .i64 0, .int .i64 0, .bool false]) := ⟨Blk.new' w9.drew _ _ _ rfl⟩; have hle : w9.heap.size ≤ w9.heap.size := Nat.le_refl _
                    refine hK.out _ _ ?hB2_12_8 (fun hHeld2 => ?mB2_12_8)
                    case hB2_12_8 => exact below_alloc hHeld _
                    clear hK K hHeld
                    have hHeld := hHeld2
                    clear hHeld2
                    try simp only [Act.put, List.setIfInBounds_toArray, List.set_cons_zero, List.set_cons_succ]
                    refine wpAnyH_ready (rs := [7]) (by kernel_rfl) (by simp) ?_
                    refine (AllReadyH.cons (o := ?oB2_7_17) ?iB2_7_17 (fun K hK => ?kB2_7_17) AllReadyH.nil)
                    case iB2_7_17 => (simp only [List.getElem?_toArray, List.getElem?_cons_succ, List.getElem?_cons_zero]; rfl)
                    case kB2_7_17 =>
                      go_simp
                      (with_reducible refine (change_yes c0 c1 c2 c3 c4 c5 c6 cap A l cc x0 x1 false t (rd dr t) _ (Kd.C_below HRr.out hHeld) hc HA.out hm HP2.out HN.out ⟨HT.out.2, HTB.out⟩).mono ?_); rw [F1.out, F2.out, F3.out]; rintro e w4 ⟨rfl, hb⟩; dsimp only; have HO := Aside0.mk (Blk.later HO.out hb)
                      refine hK.out _ _ ?hB2_7_17 (fun hHeld2 => ?mB2_7_17)
                      case hB2_7_17 => exact thenB hHeld hHeld.size hb
                      clear hK K hHeld
                      have hHeld := hHeld2
                      clear hHeld2
                      try simp only [Act.put, List.setIfInBounds_toArray, List.set_cons_zero, List.set_cons_succ]
                      refine wpAnyH_take (i := 8) (oi := ?oB2_8_18) (v := ?vB2_8_18) ?iB2_8_18 (by kernel_rfl) (by kernel_rfl) (by kernel_rfl) ?qB2_8_18 ?yB2_8_18 hHeld ?nB2_8_18
                      case iB2_8_18 => (simp only [List.getElem?_toArray, List.getElem?_cons_succ, List.getElem?_cons_zero]; rfl)
                      case yB2_8_18 => (refine Or.inl ⟨by kernel_rfl, ?_⟩; intro w' hSw; (try dsimp only at hSw); first | (go_simp; done) | (go_simp; with_reducible rfl))
                      case qB2_8_18 => exact fun _ _ _ h => h
                      try simp only [Act.put, List.setIfInBounds_toArray, List.set_cons_zero, List.set_cons_succ]
                      refine wpAnyH_take (i := 9) (oi := ?oB2_9_19) (v := ?vB2_9_19) ?iB2_9_19 (by kernel_rfl) (by kernel_rfl) (by kernel_rfl) ?qB2_9_19 ?yB2_9_19 hHeld ?nB2_9_19
                      case iB2_9_19 => (simp only [List.getElem?_toArray, List.getElem?_cons_succ, List.getElem?_cons_zero]; rfl)
                      case yB2_9_19 => (refine Or.inl ⟨by kernel_rfl, ?_⟩; intro w' hSw; (try dsimp only at hSw); first | (go_simp; done) | (go_simp; with_reducible rfl))
                      case qB2_9_19 => exact fun _ _ _ h => h
                      try simp only [Act.put, List.setIfInBounds_toArray, List.set_cons_zero, List.set_cons_succ]
                      refine wpAnyH_take (i := 10) (oi := ?oB2_10_20) (v := ?vB2_10_20) ?iB2_10_20 (by kernel_rfl) (by kernel_rfl) (by kernel_rfl) ?qB2_10_20 ?yB2_10_20 hHeld ?nB2_10_20
                      case iB2_10_20 => (simp only [List.getElem?_toArray, List.getElem?_cons_succ, List.getElem?_cons_zero]; rfl)
                      case yB2_10_20 => (refine Or.inl ⟨by kernel_rfl, ?_⟩; intro w' hSw; (try dsimp only at hSw); first | (go_simp; done) | (go_simp; with_reducible rfl))
                      case qB2_10_20 => exact fun _ _ _ h => h
                      try simp only [Act.put, List.setIfInBounds_toArray, List.set_cons_zero, List.set_cons_succ]
                      refine wpAnyH_take (i := 11) (oi := ?oB2_11_21) (v := ?vB2_11_21) ?iB2_11_21 (by kernel_rfl) (by kernel_rfl) (by kernel_rfl) ?qB2_11_21 ?yB2_11_21 hHeld ?nB2_11_21
                      case iB2_11_21 => (simp only [List.getElem?_toArray, List.getElem?_cons_succ, List.getElem?_cons_zero]; rfl)
                      case yB2_11_21 => (refine Or.inl ⟨by kernel_rfl, ?_⟩; intro w' hSw; (try dsimp only at hSw); first | (go_simp; done) | (go_simp; with_reducible rfl))
                      case qB2_11_21 => exact fun _ _ _ h => h
                      try simp only [Act.put, List.setIfInBounds_toArray, List.set_cons_zero, List.set_cons_succ]
                      refine wpAnyH_ready (rs := [13]) (by kernel_rfl) (by simp) ?_
                      refine (AllReadyH.cons (o := ?oB2_13_22) ?iB2_13_22 (fun K hK => ?kB2_13_22) AllReadyH.nil)
                      case iB2_13_22 => (simp only [List.getElem?_toArray, List.getElem?_cons_succ, List.getElem?_cons_zero]; rfl)
                      case kB2_13_22 =>
                        have oo0 := Blk.cell HO.out 0 _ rfl; have oo1 := Blk.cell HO.out 1 _ rfl; have oo2 := Blk.cell HO.out 2 _ rfl; have oof0 := Blk.frozen HO.out 0; have oof1 := Blk.frozen HO.out 1; have oof2 := Blk.frozen HO.out 2
                        go_simp
                        skip
                        refine hK.out _ _ ?hB2_13_22 (fun hHeld2 => ?mB2_13_22)
                        case hB2_13_22 => exact Below.setCell (p := ⟨w9.heap.size, 2, none⟩) (Below.setCell (p := ⟨w9.heap.size, 1, none⟩) (Below.setCell (p := ⟨w9.heap.size, 0, none⟩) hHeld hle _) hle _) hle _
                        clear hK K hHeld
                        have hHeld := hHeld2
                        clear hHeld2
                        try simp only [Act.put, List.setIfInBounds_toArray, List.set_cons_zero, List.set_cons_succ]
                        refine wpAnyH_take (i := 14) (oi := ?oB2_14_23) (v := ?vB2_14_23) ?iB2_14_23 (by kernel_rfl) (by kernel_rfl) (by kernel_rfl) ?qB2_14_23 ?yB2_14_23 hHeld ?nB2_14_23
                        case iB2_14_23 => (simp only [List.getElem?_toArray, List.getElem?_cons_succ, List.getElem?_cons_zero]; rfl)
                        case yB2_14_23 => (refine Or.inl ⟨by kernel_rfl, ?_⟩; intro w' hSw; (try dsimp only at hSw); first | (go_simp; done) | (go_simp; with_reducible rfl))
                        case qB2_14_23 => exact fun _ _ _ h => h
                        try simp only [Act.put, List.setIfInBounds_toArray, List.set_cons_zero, List.set_cons_succ]
                        refine wpAnyH_take (i := 15) (oi := ?oB2_15_24) (v := ?vB2_15_24) ?iB2_15_24 (by kernel_rfl) (by kernel_rfl) (by kernel_rfl) ?qB2_15_24 ?yB2_15_24 hHeld ?nB2_15_24
                        case iB2_15_24 => (simp only [List.getElem?_toArray, List.getElem?_cons_succ, List.getElem?_cons_zero]; rfl)
                        case yB2_15_24 => (refine Or.inl ⟨by kernel_rfl, ?_⟩; intro w' hSw; (try dsimp only at hSw); first | (go_simp; done) | (go_simp; with_reducible rfl))
                        case qB2_15_24 => exact fun _ _ _ h => h
                        try simp only [Act.put, List.setIfInBounds_toArray, List.set_cons_zero, List.set_cons_succ]
                        refine wpAnyH_done (by kernel_rfl) ?_ _
                        try go_wp2
                        go_meet
                        exact ⟨w9.heap.size, rfl, hle, (OneSet.whole HO.out [.int .i64 x0, .int .i64 y1, .bool y2] rfl).blk, hHeld, rfl, rfl⟩
              case rest =>
                obtain ⟨gq, rfl, hgq, hbq, hbw, rfl, rfl⟩ := hcut
                have HM0 : Aside0 (Many w [(w.heap.size, 24, #[.int .i64 c0, .int .i64 c1, .int .i64 c2, .int .i64 c3, .int .i64 c4, .int .i64 c5, .int .i64 c6, .int .i64 cap, .slice A l.length cc]), (gp, 28, #[.int .i64 u0, .int .i64 u1, .bool u2]), (go, 28, #[.int .i64 x0, .int .i64 x1, .bool false]), (gq, 28, #[.int .i64 x0, .int .i64 y1, .bool y2])] wc) := ⟨Many.put (Many.later HM.out hbw) hbq⟩
                have HG0 : Aside0 (w.heap.size < gp ∧ gp < go ∧ go < gq) := ⟨by have q := HG.out; have q2 := HGW.out; omega⟩
                clear HG HGW
                have HG := HG0
                clear HG0
                clear kc0 kc1 kc2 kc3 kc4 kc5 kc6 kc7 kc8 pp0 pp1 pp2 oo0 oo1 oo2 ppf0 ppf1 ppf2 oof0 oof1 oof2 kc0' kc1' kc2' kc3' kc4' kc5' kc6' kc7' kc8' pp0' pp1' pp2' oo0' oo1' oo2' hx' HM hbw hbq hgq HRr
                have HM := HM0
                clear HM0
                have kc0 := Blk.cell (Many.blk HM.out 0 _ _ _ rfl) 0 _ rfl
                have kc1 := Blk.cell (Many.blk HM.out 0 _ _ _ rfl) 1 _ rfl
                have kc2 := Blk.cell (Many.blk HM.out 0 _ _ _ rfl) 2 _ rfl
                have kc3 := Blk.cell (Many.blk HM.out 0 _ _ _ rfl) 3 _ rfl
                have kc4 := Blk.cell (Many.blk HM.out 0 _ _ _ rfl) 4 _ rfl
                have kc5 := Blk.cell (Many.blk HM.out 0 _ _ _ rfl) 5 _ rfl
                have kc6 := Blk.cell (Many.blk HM.out 0 _ _ _ rfl) 6 _ rfl
                have kc7 := Blk.cell (Many.blk HM.out 0 _ _ _ rfl) 7 _ rfl
                have kc8 := Blk.cell (Many.blk HM.out 0 _ _ _ rfl) 8 _ rfl
                have pp0 := Blk.cell (Many.blk HM.out 1 _ _ _ rfl) 0 _ rfl
                have ppf0 := Blk.frozen (Many.blk HM.out 1 _ _ _ rfl) 0
                have pp1 := Blk.cell (Many.blk HM.out 1 _ _ _ rfl) 1 _ rfl
                have ppf1 := Blk.frozen (Many.blk HM.out 1 _ _ _ rfl) 1
                have pp2 := Blk.cell (Many.blk HM.out 1 _ _ _ rfl) 2 _ rfl
                have ppf2 := Blk.frozen (Many.blk HM.out 1 _ _ _ rfl) 2
                have oo0 := Blk.cell (Many.blk HM.out 2 _ _ _ rfl) 0 _ rfl
                have oof0 := Blk.frozen (Many.blk HM.out 2 _ _ _ rfl) 0
                have oo1 := Blk.cell (Many.blk HM.out 2 _ _ _ rfl) 1 _ rfl
                have oof1 := Blk.frozen (Many.blk HM.out 2 _ _ _ rfl) 1
                have oo2 := Blk.cell (Many.blk HM.out 2 _ _ _ rfl) 2 _ rfl
                have oof2 := Blk.frozen (Many.blk HM.out 2 _ _ _ rfl) 2
                have qq0 := Blk.cell (Many.blk HM.out 3 _ _ _ rfl) 0 _ rfl
                have qq1 := Blk.cell (Many.blk HM.out 3 _ _ _ rfl) 1 _ rfl
                have qq2 := Blk.cell (Many.blk HM.out 3 _ _ _ rfl) 2 _ rfl
                rcases HCC.out with ⟨rfl, rfl, rfl, hm1, hm2⟩ | ⟨rfl, rfl, hm1, hq⟩
                · have HF2 := Aside0.mk (hm1 (by omega))
                  have dd18 : decide ((-1) < 0) = true := decide_eq_true (by omega)
                  have de18 : decide (0 > (-1)) = true := decide_eq_true (by omega)
                  clear hm1 hm2
                  go_upto_region 29 with (go_at_call 12; ((with_reducible refine (waywardenlaw15_num.calls _ _ _ rfl).mono ?_); rintro e w9 ⟨rfl, hd⟩; have hb := hd.below; clear hd; have HM := Aside0.mk (Many.later HM.out hb); (try clear kc0 kc1 kc2 kc3 kc4 kc5 kc6 kc7 kc8 pp0 pp1 pp2 oo0 oo1 oo2 qq0 qq1 qq2 ppf0 ppf1 ppf2 oof0 oof1 oof2); have kc0 := Blk.cell (Many.blk HM.out 0 _ _ _ rfl) 0 _ rfl; have kc1 := Blk.cell (Many.blk HM.out 0 _ _ _ rfl) 1 _ rfl; have kc2 := Blk.cell (Many.blk HM.out 0 _ _ _ rfl) 2 _ rfl; have kc3 := Blk.cell (Many.blk HM.out 0 _ _ _ rfl) 3 _ rfl; have kc4 := Blk.cell (Many.blk HM.out 0 _ _ _ rfl) 4 _ rfl; have kc5 := Blk.cell (Many.blk HM.out 0 _ _ _ rfl) 5 _ rfl; have kc6 := Blk.cell (Many.blk HM.out 0 _ _ _ rfl) 6 _ rfl; have kc7 := Blk.cell (Many.blk HM.out 0 _ _ _ rfl) 7 _ rfl; have kc8 := Blk.cell (Many.blk HM.out 0 _ _ _ rfl) 8 _ rfl; have pp0 := Blk.cell (Many.blk HM.out 1 _ _ _ rfl) 0 _ rfl; have ppf0 := Blk.frozen (Many.blk HM.out 1 _ _ _ rfl) 0; have pp1 := Blk.cell (Many.blk HM.out 1 _ _ _ rfl) 1 _ rfl; have ppf1 := Blk.frozen (Many.blk HM.out 1 _ _ _ rfl) 1; have pp2 := Blk.cell (Many.blk HM.out 1 _ _ _ rfl) 2 _ rfl; have ppf2 := Blk.frozen (Many.blk HM.out 1 _ _ _ rfl) 2; have oo0 := Blk.cell (Many.blk HM.out 2 _ _ _ rfl) 0 _ rfl; have oof0 := Blk.frozen (Many.blk HM.out 2 _ _ _ rfl) 0; have oo1 := Blk.cell (Many.blk HM.out 2 _ _ _ rfl) 1 _ rfl; have oof1 := Blk.frozen (Many.blk HM.out 2 _ _ _ rfl) 1; have oo2 := Blk.cell (Many.blk HM.out 2 _ _ _ rfl) 2 _ rfl; have oof2 := Blk.frozen (Many.blk HM.out 2 _ _ _ rfl) 2; have qq0 := Blk.cell (Many.blk HM.out 3 _ _ _ rfl) 0 _ rfl; have qq1 := Blk.cell (Many.blk HM.out 3 _ _ _ rfl) 1 _ rfl; have qq2 := Blk.cell (Many.blk HM.out 3 _ _ _ rfl) 2 _ rfl; clear hb))
                  obtain ⟨W8, hW8⟩ : ∃ W', (((w9.setCell ⟨go, 0, none⟩ (.int .i64 x0)).setCell ⟨go, 1, none⟩ (.int .i64 x1)).setCell ⟨go, 2, none⟩ (.bool true)) = W' := ⟨_, rfl⟩
                  have HM0 : Aside0 (Many w [(w.heap.size, 24, #[.int .i64 c0, .int .i64 c1, .int .i64 c2, .int .i64 c3, .int .i64 c4, .int .i64 c5, .int .i64 c6, .int .i64 cap, .slice A l.length cc]), (gp, 28, #[.int .i64 u0, .int .i64 u1, .bool u2]), (go, 28, #[.int .i64 x0, .int .i64 x1, .bool true]), (gq, 28, #[.int .i64 x0, .int .i64 x1, .bool true])] W8) := ⟨by rw [← hW8]; exact Many.set HM.out 2 go 28 _ rfl [.int .i64 x0, .int .i64 x1, .bool true] rfl (by have q := HG.out; omega) (by intro j g' t' cs' hj hne; match j, hj with | 0, hj => (simp at hj; obtain ⟨rfl, rfl, rfl⟩ := hj; first | exact absurd rfl hne | (have q := HG.out; omega)) | 1, hj => (simp at hj; obtain ⟨rfl, rfl, rfl⟩ := hj; first | exact absurd rfl hne | (have q := HG.out; omega)) | 2, hj => (simp at hj; obtain ⟨rfl, rfl, rfl⟩ := hj; first | exact absurd rfl hne | (have q := HG.out; omega)) | 3, hj => (simp at hj; obtain ⟨rfl, rfl, rfl⟩ := hj; first | exact absurd rfl hne | (have q := HG.out; omega)) | (j + 4), hj => (simp at hj))⟩
                  rw [hW8]
                  clear hW8 kc0 kc1 kc2 kc3 kc4 kc5 kc6 kc7 kc8 pp0 pp1 pp2 oo0 oo1 oo2 qq0 qq1 qq2 ppf0 ppf1 ppf2 oof0 oof1 oof2 HM
                  have HM := HM0
                  clear HM0
                  have kc0 := Blk.cell (Many.blk HM.out 0 _ _ _ rfl) 0 _ rfl
                  have kc1 := Blk.cell (Many.blk HM.out 0 _ _ _ rfl) 1 _ rfl
                  have kc2 := Blk.cell (Many.blk HM.out 0 _ _ _ rfl) 2 _ rfl
                  have kc3 := Blk.cell (Many.blk HM.out 0 _ _ _ rfl) 3 _ rfl
                  have kc4 := Blk.cell (Many.blk HM.out 0 _ _ _ rfl) 4 _ rfl
                  have kc5 := Blk.cell (Many.blk HM.out 0 _ _ _ rfl) 5 _ rfl
                  have kc6 := Blk.cell (Many.blk HM.out 0 _ _ _ rfl) 6 _ rfl
                  have kc7 := Blk.cell (Many.blk HM.out 0 _ _ _ rfl) 7 _ rfl
                  have kc8 := Blk.cell (Many.blk HM.out 0 _ _ _ rfl) 8 _ rfl
                  have pp0 := Blk.cell (Many.blk HM.out 1 _ _ _ rfl) 0 _ rfl
                  have ppf0 := Blk.frozen (Many.blk HM.out 1 _ _ _ rfl) 0
                  have pp1 := Blk.cell (Many.blk HM.out 1 _ _ _ rfl) 1 _ rfl
                  have ppf1 := Blk.frozen (Many.blk HM.out 1 _ _ _ rfl) 1
                  have pp2 := Blk.cell (Many.blk HM.out 1 _ _ _ rfl) 2 _ rfl
                  have ppf2 := Blk.frozen (Many.blk HM.out 1 _ _ _ rfl) 2
                  have oo0 := Blk.cell (Many.blk HM.out 2 _ _ _ rfl) 0 _ rfl
                  have oof0 := Blk.frozen (Many.blk HM.out 2 _ _ _ rfl) 0
                  have oo1 := Blk.cell (Many.blk HM.out 2 _ _ _ rfl) 1 _ rfl
                  have oof1 := Blk.frozen (Many.blk HM.out 2 _ _ _ rfl) 1
                  have oo2 := Blk.cell (Many.blk HM.out 2 _ _ _ rfl) 2 _ rfl
                  have oof2 := Blk.frozen (Many.blk HM.out 2 _ _ _ rfl) 2
                  have qq0 := Blk.cell (Many.blk HM.out 3 _ _ _ rfl) 0 _ rfl
                  have qq1 := Blk.cell (Many.blk HM.out 3 _ _ _ rfl) 1 _ rfl
                  have qq2 := Blk.cell (Many.blk HM.out 3 _ _ _ rfl) 2 _ rfl
                  go_upto_region 30 with fail
                  obtain ⟨W9, hW9⟩ : ∃ W', (((W8.setCell ⟨gp, 0, none⟩ (.int .i64 x0)).setCell ⟨gp, 1, none⟩ (.int .i64 x1)).setCell ⟨gp, 2, none⟩ (.bool true)) = W' := ⟨_, rfl⟩
                  have HM0 : Aside0 (Many w [(w.heap.size, 24, #[.int .i64 c0, .int .i64 c1, .int .i64 c2, .int .i64 c3, .int .i64 c4, .int .i64 c5, .int .i64 c6, .int .i64 cap, .slice A l.length cc]), (gp, 28, #[.int .i64 x0, .int .i64 x1, .bool true]), (go, 28, #[.int .i64 x0, .int .i64 x1, .bool true]), (gq, 28, #[.int .i64 x0, .int .i64 x1, .bool true])] W9) := ⟨by rw [← hW9]; exact Many.set HM.out 1 gp 28 _ rfl [.int .i64 x0, .int .i64 x1, .bool true] rfl (by have q := HG.out; omega) (by intro j g' t' cs' hj hne; match j, hj with | 0, hj => (simp at hj; obtain ⟨rfl, rfl, rfl⟩ := hj; first | exact absurd rfl hne | (have q := HG.out; omega)) | 1, hj => (simp at hj; obtain ⟨rfl, rfl, rfl⟩ := hj; first | exact absurd rfl hne | (have q := HG.out; omega)) | 2, hj => (simp at hj; obtain ⟨rfl, rfl, rfl⟩ := hj; first | exact absurd rfl hne | (have q := HG.out; omega)) | 3, hj => (simp at hj; obtain ⟨rfl, rfl, rfl⟩ := hj; first | exact absurd rfl hne | (have q := HG.out; omega)) | (j + 4), hj => (simp at hj))⟩
                  rw [hW9]
                  clear hW9 kc0 kc1 kc2 kc3 kc4 kc5 kc6 kc7 kc8 pp0 pp1 pp2 oo0 oo1 oo2 qq0 qq1 qq2 ppf0 ppf1 ppf2 oof0 oof1 oof2 HM
                  have HM := HM0
                  clear HM0
                  have kc0 := Blk.cell (Many.blk HM.out 0 _ _ _ rfl) 0 _ rfl
                  have kc1 := Blk.cell (Many.blk HM.out 0 _ _ _ rfl) 1 _ rfl
                  have kc2 := Blk.cell (Many.blk HM.out 0 _ _ _ rfl) 2 _ rfl
                  have kc3 := Blk.cell (Many.blk HM.out 0 _ _ _ rfl) 3 _ rfl
                  have kc4 := Blk.cell (Many.blk HM.out 0 _ _ _ rfl) 4 _ rfl
                  have kc5 := Blk.cell (Many.blk HM.out 0 _ _ _ rfl) 5 _ rfl
                  have kc6 := Blk.cell (Many.blk HM.out 0 _ _ _ rfl) 6 _ rfl
                  have kc7 := Blk.cell (Many.blk HM.out 0 _ _ _ rfl) 7 _ rfl
                  have kc8 := Blk.cell (Many.blk HM.out 0 _ _ _ rfl) 8 _ rfl
                  have pp0 := Blk.cell (Many.blk HM.out 1 _ _ _ rfl) 0 _ rfl
                  have ppf0 := Blk.frozen (Many.blk HM.out 1 _ _ _ rfl) 0
                  have pp1 := Blk.cell (Many.blk HM.out 1 _ _ _ rfl) 1 _ rfl
                  have ppf1 := Blk.frozen (Many.blk HM.out 1 _ _ _ rfl) 1
                  have pp2 := Blk.cell (Many.blk HM.out 1 _ _ _ rfl) 2 _ rfl
                  have ppf2 := Blk.frozen (Many.blk HM.out 1 _ _ _ rfl) 2
                  have oo0 := Blk.cell (Many.blk HM.out 2 _ _ _ rfl) 0 _ rfl
                  have oof0 := Blk.frozen (Many.blk HM.out 2 _ _ _ rfl) 0
                  have oo1 := Blk.cell (Many.blk HM.out 2 _ _ _ rfl) 1 _ rfl
                  have oof1 := Blk.frozen (Many.blk HM.out 2 _ _ _ rfl) 1
                  have oo2 := Blk.cell (Many.blk HM.out 2 _ _ _ rfl) 2 _ rfl
                  have oof2 := Blk.frozen (Many.blk HM.out 2 _ _ _ rfl) 2
                  have qq0 := Blk.cell (Many.blk HM.out 3 _ _ _ rfl) 0 _ rfl
                  have qq1 := Blk.cell (Many.blk HM.out 3 _ _ _ rfl) 1 _ rfl
                  have qq2 := Blk.cell (Many.blk HM.out 3 _ _ _ rfl) 2 _ rfl
                  have HT0 := HT.out
                  obtain ⟨⟨a0, a1, a2, a3, b0, b1, b2, b3, b4, w0, w1, w2, w3⟩, n1, n2, n3⟩ := HF2.out
                  obtain ⟨g0, g1, g5, g6⟩ := HCF.out
                  have hnb := HNB.out
                  have gA : wrap64 (t - al) = t - al := wrap_id (by omega) (by omega)
                  have gB : wrap64 (c0 + c1) = c0 + c1 := wrap_id (by omega) (by omega)
                  have gC : wrap64 (t - t) = t - t := wrap_id (by omega) (by omega)
                  have gD : wrap64 (c5 + c6) = c5 + c6 := wrap_id (by omega) (by omega)
                  have gE : wrap64 (t + 1) = t + 1 := wrap_id (by omega) (by omega)
                  have dd19 : decide (t - al > c0 + c1) = false := decide_eq_false (by omega)
                  have de19 : decide (c0 + c1 < t - al) = false := decide_eq_false (by omega)
                  have dd20 : decide (t ≥ 0) = true := decide_eq_true (by omega)
                  have de20 : decide (0 ≤ t) = true := decide_eq_true (by omega)
                  have dd21 : decide (t - t > c5 + c6) = false := decide_eq_false (by omega)
                  have de21 : decide (c5 + c6 < t - t) = false := decide_eq_false (by omega)
                  have dd22 : decide (0 > c5 + c6) = false := decide_eq_false (by omega)
                  have de22 : decide (c5 + c6 < 0) = false := decide_eq_false (by omega)
                  clear a0 a1 a2 a3 b0 b1 b2 b3 b4 w0 w1 w2 w3 n1 n2 n3 g0 g1 g5 g6 hnb HT0
                  go_wp2
                  go_roundg (gk - 1)
                  case measure => have := HT.out; have := HLT.out; omega
                  case rel => exact ⟨_, _, _, t + 1, _, _, _, rfl, rfl, rfl, (by first | rfl | rw [gE]), ⟨by have := HT.out; have := HLT.out; omega⟩, ⟨HF2.out.next⟩, ⟨Many.two HM.out⟩⟩
                · have HF2 := Aside0.mk hm1
                  obtain ⟨⟨a0, a1, a2, a3, b0, b1, b2, b3, b4, w0, w1, w2, w3⟩, n1, n2, n3⟩ := HF1.out
                  obtain ⟨g0, g1, g5, g6⟩ := HCF.out
                  have hnb := HNB.out
                  have hlt0 := HLT.out
                  have gH : wrap64 (t - t) = t - t := wrap_id (by omega) (by omega)
                  have dd23 : decide (t - t < c5) = false := decide_eq_false (by omega)
                  have de23 : decide (c5 > t - t) = false := decide_eq_false (by omega)
                  have dd24 : decide (0 < c5) = false := decide_eq_false (by omega)
                  have de24 : decide (c5 > 0) = false := decide_eq_false (by omega)
                  clear hm1 hq a0 a1 a2 a3 b0 b1 b2 b3 b4 w0 w1 w2 w3 n1 n2 n3 g0 g1 g5 g6 hnb hlt0
                  go_upto_region 29 with (go_at_call 12; ((with_reducible refine (waywardenlaw15_num.calls _ _ _ rfl).mono ?_); rintro e w9 ⟨rfl, hd⟩; have hb := hd.below; clear hd; have HM := Aside0.mk (Many.later HM.out hb); (try clear kc0 kc1 kc2 kc3 kc4 kc5 kc6 kc7 kc8 pp0 pp1 pp2 oo0 oo1 oo2 qq0 qq1 qq2 ppf0 ppf1 ppf2 oof0 oof1 oof2); have kc0 := Blk.cell (Many.blk HM.out 0 _ _ _ rfl) 0 _ rfl; have kc1 := Blk.cell (Many.blk HM.out 0 _ _ _ rfl) 1 _ rfl; have kc2 := Blk.cell (Many.blk HM.out 0 _ _ _ rfl) 2 _ rfl; have kc3 := Blk.cell (Many.blk HM.out 0 _ _ _ rfl) 3 _ rfl; have kc4 := Blk.cell (Many.blk HM.out 0 _ _ _ rfl) 4 _ rfl; have kc5 := Blk.cell (Many.blk HM.out 0 _ _ _ rfl) 5 _ rfl; have kc6 := Blk.cell (Many.blk HM.out 0 _ _ _ rfl) 6 _ rfl; have kc7 := Blk.cell (Many.blk HM.out 0 _ _ _ rfl) 7 _ rfl; have kc8 := Blk.cell (Many.blk HM.out 0 _ _ _ rfl) 8 _ rfl; have pp0 := Blk.cell (Many.blk HM.out 1 _ _ _ rfl) 0 _ rfl; have ppf0 := Blk.frozen (Many.blk HM.out 1 _ _ _ rfl) 0; have pp1 := Blk.cell (Many.blk HM.out 1 _ _ _ rfl) 1 _ rfl; have ppf1 := Blk.frozen (Many.blk HM.out 1 _ _ _ rfl) 1; have pp2 := Blk.cell (Many.blk HM.out 1 _ _ _ rfl) 2 _ rfl; have ppf2 := Blk.frozen (Many.blk HM.out 1 _ _ _ rfl) 2; have oo0 := Blk.cell (Many.blk HM.out 2 _ _ _ rfl) 0 _ rfl; have oof0 := Blk.frozen (Many.blk HM.out 2 _ _ _ rfl) 0; have oo1 := Blk.cell (Many.blk HM.out 2 _ _ _ rfl) 1 _ rfl; have oof1 := Blk.frozen (Many.blk HM.out 2 _ _ _ rfl) 1; have oo2 := Blk.cell (Many.blk HM.out 2 _ _ _ rfl) 2 _ rfl; have oof2 := Blk.frozen (Many.blk HM.out 2 _ _ _ rfl) 2; have qq0 := Blk.cell (Many.blk HM.out 3 _ _ _ rfl) 0 _ rfl; have qq1 := Blk.cell (Many.blk HM.out 3 _ _ _ rfl) 1 _ rfl; have qq2 := Blk.cell (Many.blk HM.out 3 _ _ _ rfl) 2 _ rfl; clear hb))
                  obtain ⟨W8, hW8⟩ : ∃ W', (((w9.setCell ⟨go, 0, none⟩ (.int .i64 x0)).setCell ⟨go, 1, none⟩ (.int .i64 y1)).setCell ⟨go, 2, none⟩ (.bool false)) = W' := ⟨_, rfl⟩
                  have HM0 : Aside0 (Many w [(w.heap.size, 24, #[.int .i64 c0, .int .i64 c1, .int .i64 c2, .int .i64 c3, .int .i64 c4, .int .i64 c5, .int .i64 c6, .int .i64 cap, .slice A l.length cc]), (gp, 28, #[.int .i64 u0, .int .i64 u1, .bool u2]), (go, 28, #[.int .i64 x0, .int .i64 y1, .bool false]), (gq, 28, #[.int .i64 x0, .int .i64 y1, .bool false])] W8) := ⟨by rw [← hW8]; exact Many.set HM.out 2 go 28 _ rfl [.int .i64 x0, .int .i64 y1, .bool false] rfl (by have q := HG.out; omega) (by intro j g' t' cs' hj hne; match j, hj with | 0, hj => (simp at hj; obtain ⟨rfl, rfl, rfl⟩ := hj; first | exact absurd rfl hne | (have q := HG.out; omega)) | 1, hj => (simp at hj; obtain ⟨rfl, rfl, rfl⟩ := hj; first | exact absurd rfl hne | (have q := HG.out; omega)) | 2, hj => (simp at hj; obtain ⟨rfl, rfl, rfl⟩ := hj; first | exact absurd rfl hne | (have q := HG.out; omega)) | 3, hj => (simp at hj; obtain ⟨rfl, rfl, rfl⟩ := hj; first | exact absurd rfl hne | (have q := HG.out; omega)) | (j + 4), hj => (simp at hj))⟩
                  rw [hW8]
                  clear hW8 kc0 kc1 kc2 kc3 kc4 kc5 kc6 kc7 kc8 pp0 pp1 pp2 oo0 oo1 oo2 qq0 qq1 qq2 ppf0 ppf1 ppf2 oof0 oof1 oof2 HM
                  have HM := HM0
                  clear HM0
                  have kc0 := Blk.cell (Many.blk HM.out 0 _ _ _ rfl) 0 _ rfl
                  have kc1 := Blk.cell (Many.blk HM.out 0 _ _ _ rfl) 1 _ rfl
                  have kc2 := Blk.cell (Many.blk HM.out 0 _ _ _ rfl) 2 _ rfl
                  have kc3 := Blk.cell (Many.blk HM.out 0 _ _ _ rfl) 3 _ rfl
                  have kc4 := Blk.cell (Many.blk HM.out 0 _ _ _ rfl) 4 _ rfl
                  have kc5 := Blk.cell (Many.blk HM.out 0 _ _ _ rfl) 5 _ rfl
                  have kc6 := Blk.cell (Many.blk HM.out 0 _ _ _ rfl) 6 _ rfl
                  have kc7 := Blk.cell (Many.blk HM.out 0 _ _ _ rfl) 7 _ rfl
                  have kc8 := Blk.cell (Many.blk HM.out 0 _ _ _ rfl) 8 _ rfl
                  have pp0 := Blk.cell (Many.blk HM.out 1 _ _ _ rfl) 0 _ rfl
                  have ppf0 := Blk.frozen (Many.blk HM.out 1 _ _ _ rfl) 0
                  have pp1 := Blk.cell (Many.blk HM.out 1 _ _ _ rfl) 1 _ rfl
                  have ppf1 := Blk.frozen (Many.blk HM.out 1 _ _ _ rfl) 1
                  have pp2 := Blk.cell (Many.blk HM.out 1 _ _ _ rfl) 2 _ rfl
                  have ppf2 := Blk.frozen (Many.blk HM.out 1 _ _ _ rfl) 2
                  have oo0 := Blk.cell (Many.blk HM.out 2 _ _ _ rfl) 0 _ rfl
                  have oof0 := Blk.frozen (Many.blk HM.out 2 _ _ _ rfl) 0
                  have oo1 := Blk.cell (Many.blk HM.out 2 _ _ _ rfl) 1 _ rfl
                  have oof1 := Blk.frozen (Many.blk HM.out 2 _ _ _ rfl) 1
                  have oo2 := Blk.cell (Many.blk HM.out 2 _ _ _ rfl) 2 _ rfl
                  have oof2 := Blk.frozen (Many.blk HM.out 2 _ _ _ rfl) 2
                  have qq0 := Blk.cell (Many.blk HM.out 3 _ _ _ rfl) 0 _ rfl
                  have qq1 := Blk.cell (Many.blk HM.out 3 _ _ _ rfl) 1 _ rfl
                  have qq2 := Blk.cell (Many.blk HM.out 3 _ _ _ rfl) 2 _ rfl
                  go_upto_region 30 with fail
                  obtain ⟨W9, hW9⟩ : ∃ W', (((W8.setCell ⟨gp, 0, none⟩ (.int .i64 x0)).setCell ⟨gp, 1, none⟩ (.int .i64 y1)).setCell ⟨gp, 2, none⟩ (.bool false)) = W' := ⟨_, rfl⟩
                  have HM0 : Aside0 (Many w [(w.heap.size, 24, #[.int .i64 c0, .int .i64 c1, .int .i64 c2, .int .i64 c3, .int .i64 c4, .int .i64 c5, .int .i64 c6, .int .i64 cap, .slice A l.length cc]), (gp, 28, #[.int .i64 x0, .int .i64 y1, .bool false]), (go, 28, #[.int .i64 x0, .int .i64 y1, .bool false]), (gq, 28, #[.int .i64 x0, .int .i64 y1, .bool false])] W9) := ⟨by rw [← hW9]; exact Many.set HM.out 1 gp 28 _ rfl [.int .i64 x0, .int .i64 y1, .bool false] rfl (by have q := HG.out; omega) (by intro j g' t' cs' hj hne; match j, hj with | 0, hj => (simp at hj; obtain ⟨rfl, rfl, rfl⟩ := hj; first | exact absurd rfl hne | (have q := HG.out; omega)) | 1, hj => (simp at hj; obtain ⟨rfl, rfl, rfl⟩ := hj; first | exact absurd rfl hne | (have q := HG.out; omega)) | 2, hj => (simp at hj; obtain ⟨rfl, rfl, rfl⟩ := hj; first | exact absurd rfl hne | (have q := HG.out; omega)) | 3, hj => (simp at hj; obtain ⟨rfl, rfl, rfl⟩ := hj; first | exact absurd rfl hne | (have q := HG.out; omega)) | (j + 4), hj => (simp at hj))⟩
                  rw [hW9]
                  clear hW9 kc0 kc1 kc2 kc3 kc4 kc5 kc6 kc7 kc8 pp0 pp1 pp2 oo0 oo1 oo2 qq0 qq1 qq2 ppf0 ppf1 ppf2 oof0 oof1 oof2 HM
                  have HM := HM0
                  clear HM0
                  have kc0 := Blk.cell (Many.blk HM.out 0 _ _ _ rfl) 0 _ rfl
                  have kc1 := Blk.cell (Many.blk HM.out 0 _ _ _ rfl) 1 _ rfl
                  have kc2 := Blk.cell (Many.blk HM.out 0 _ _ _ rfl) 2 _ rfl
                  have kc3 := Blk.cell (Many.blk HM.out 0 _ _ _ rfl) 3 _ rfl
                  have kc4 := Blk.cell (Many.blk HM.out 0 _ _ _ rfl) 4 _ rfl
                  have kc5 := Blk.cell (Many.blk HM.out 0 _ _ _ rfl) 5 _ rfl
                  have kc6 := Blk.cell (Many.blk HM.out 0 _ _ _ rfl) 6 _ rfl
                  have kc7 := Blk.cell (Many.blk HM.out 0 _ _ _ rfl) 7 _ rfl
                  have kc8 := Blk.cell (Many.blk HM.out 0 _ _ _ rfl) 8 _ rfl
                  have pp0 := Blk.cell (Many.blk HM.out 1 _ _ _ rfl) 0 _ rfl
                  have ppf0 := Blk.frozen (Many.blk HM.out 1 _ _ _ rfl) 0
                  have pp1 := Blk.cell (Many.blk HM.out 1 _ _ _ rfl) 1 _ rfl
                  have ppf1 := Blk.frozen (Many.blk HM.out 1 _ _ _ rfl) 1
                  have pp2 := Blk.cell (Many.blk HM.out 1 _ _ _ rfl) 2 _ rfl
                  have ppf2 := Blk.frozen (Many.blk HM.out 1 _ _ _ rfl) 2
                  have oo0 := Blk.cell (Many.blk HM.out 2 _ _ _ rfl) 0 _ rfl
                  have oof0 := Blk.frozen (Many.blk HM.out 2 _ _ _ rfl) 0
                  have oo1 := Blk.cell (Many.blk HM.out 2 _ _ _ rfl) 1 _ rfl
                  have oof1 := Blk.frozen (Many.blk HM.out 2 _ _ _ rfl) 1
                  have oo2 := Blk.cell (Many.blk HM.out 2 _ _ _ rfl) 2 _ rfl
                  have oof2 := Blk.frozen (Many.blk HM.out 2 _ _ _ rfl) 2
                  have qq0 := Blk.cell (Many.blk HM.out 3 _ _ _ rfl) 0 _ rfl
                  have qq1 := Blk.cell (Many.blk HM.out 3 _ _ _ rfl) 1 _ rfl
                  have qq2 := Blk.cell (Many.blk HM.out 3 _ _ _ rfl) 2 _ rfl
                  have HT0 := HT.out
                  obtain ⟨⟨a0, a1, a2, a3, b0, b1, b2, b3, b4, w0, w1, w2, w3⟩, n1, n2, n3⟩ := HF2.out
                  obtain ⟨g0, g1, g5, g6⟩ := HCF.out
                  have hnb := HNB.out
                  have gA : wrap64 (t - al) = t - al := wrap_id (by omega) (by omega)
                  have gB : wrap64 (c0 + c1) = c0 + c1 := wrap_id (by omega) (by omega)
                  have gC : wrap64 (t - (-1)) = t - (-1) := wrap_id (by omega) (by omega)
                  have gD : wrap64 (c5 + c6) = c5 + c6 := wrap_id (by omega) (by omega)
                  have gE : wrap64 (t + 1) = t + 1 := wrap_id (by omega) (by omega)
                  have dd25 : decide (t - al > c0 + c1) = false := decide_eq_false (by omega)
                  have de25 : decide (c0 + c1 < t - al) = false := decide_eq_false (by omega)
                  have dd26 : decide ((-1) ≥ 0) = false := decide_eq_false (by omega)
                  have de26 : decide (0 ≤ (-1)) = false := decide_eq_false (by omega)
                  clear a0 a1 a2 a3 b0 b1 b2 b3 b4 w0 w1 w2 w3 n1 n2 n3 g0 g1 g5 g6 hnb HT0
                  go_wp2
                  go_roundg (gk - 1)
                  case measure => have := HT.out; have := HLT.out; omega
                  case rel => exact ⟨_, _, _, t + 1, _, _, _, rfl, rfl, rfl, (by first | rfl | rw [gE]), ⟨by have := HT.out; have := HLT.out; omega⟩, ⟨HF2.out.next⟩, ⟨Many.two HM.out⟩⟩
        · by_cases hw0 : 0 ≤ wa
          · as_aux_lemma =>
              have hx2 := hm1.inv.w3
              rw [decide_eq_true hw0] at hx2
              subst hx2
              have HF1 := Aside0.mk hm1
              have HW0 := Aside0.mk hw0
              clear hm1 hq
              go_upto_region 20 with (go_at_call 12; ((with_reducible refine (waywardenlaw15_num.calls _ _ _ rfl).mono ?_); rintro e w9 ⟨rfl, hd⟩; have hb := hd.below; clear hd; have HM := Aside0.mk (Many.later HM.out hb); (try clear kc0 kc1 kc2 kc3 kc4 kc5 kc6 kc7 kc8 pp0 pp1 pp2 oo0 oo1 oo2 ppf0 ppf1 ppf2 oof0 oof1 oof2); have kc0 := Blk.cell (Many.blk HM.out 0 _ _ _ rfl) 0 _ rfl; have kc1 := Blk.cell (Many.blk HM.out 0 _ _ _ rfl) 1 _ rfl; have kc2 := Blk.cell (Many.blk HM.out 0 _ _ _ rfl) 2 _ rfl; have kc3 := Blk.cell (Many.blk HM.out 0 _ _ _ rfl) 3 _ rfl; have kc4 := Blk.cell (Many.blk HM.out 0 _ _ _ rfl) 4 _ rfl; have kc5 := Blk.cell (Many.blk HM.out 0 _ _ _ rfl) 5 _ rfl; have kc6 := Blk.cell (Many.blk HM.out 0 _ _ _ rfl) 6 _ rfl; have kc7 := Blk.cell (Many.blk HM.out 0 _ _ _ rfl) 7 _ rfl; have kc8 := Blk.cell (Many.blk HM.out 0 _ _ _ rfl) 8 _ rfl; have pp0 := Blk.cell (Many.blk HM.out 1 _ _ _ rfl) 0 _ rfl; have ppf0 := Blk.frozen (Many.blk HM.out 1 _ _ _ rfl) 0; have pp1 := Blk.cell (Many.blk HM.out 1 _ _ _ rfl) 1 _ rfl; have ppf1 := Blk.frozen (Many.blk HM.out 1 _ _ _ rfl) 1; have pp2 := Blk.cell (Many.blk HM.out 1 _ _ _ rfl) 2 _ rfl; have ppf2 := Blk.frozen (Many.blk HM.out 1 _ _ _ rfl) 2; have oo0 := Blk.cell (Many.blk HM.out 2 _ _ _ rfl) 0 _ rfl; have oof0 := Blk.frozen (Many.blk HM.out 2 _ _ _ rfl) 0; have oo1 := Blk.cell (Many.blk HM.out 2 _ _ _ rfl) 1 _ rfl; have oof1 := Blk.frozen (Many.blk HM.out 2 _ _ _ rfl) 1; have oo2 := Blk.cell (Many.blk HM.out 2 _ _ _ rfl) 2 _ rfl; have oof2 := Blk.frozen (Many.blk HM.out 2 _ _ _ rfl) 2; clear hb))
              obtain ⟨adc, ec, hxc⟩ := Kd.at_bool (Kd.C_below HCH.out HM.out.bel) t HT.out.2 (by have := HNB.out; have := HLT.out; omega)
              cases ec
              cases hb : rdOf false ch t
              · rw [hb] at hxc
                go_upto_region 30 with fail
                obtain ⟨W9, hW9⟩ : ∃ W', (((w9.setCell ⟨gp, 0, none⟩ (.int .i64 x0)).setCell ⟨gp, 1, none⟩ (.int .i64 x1)).setCell ⟨gp, 2, none⟩ (.bool true)) = W' := ⟨_, rfl⟩
                have HM0 : Aside0 (Many w [(w.heap.size, 24, #[.int .i64 c0, .int .i64 c1, .int .i64 c2, .int .i64 c3, .int .i64 c4, .int .i64 c5, .int .i64 c6, .int .i64 cap, .slice A l.length cc]), (gp, 28, #[.int .i64 x0, .int .i64 x1, .bool true]), (go, 28, #[.int .i64 x0, .int .i64 x1, .bool true])] W9) := ⟨by rw [← hW9]; exact Many.set HM.out 1 gp 28 _ rfl [.int .i64 x0, .int .i64 x1, .bool true] rfl (by have q := HG.out; omega) (by intro j g' t' cs' hj hne; match j, hj with | 0, hj => (simp at hj; obtain ⟨rfl, rfl, rfl⟩ := hj; first | exact absurd rfl hne | (have q := HG.out; omega)) | 1, hj => (simp at hj; obtain ⟨rfl, rfl, rfl⟩ := hj; first | exact absurd rfl hne | (have q := HG.out; omega)) | 2, hj => (simp at hj; obtain ⟨rfl, rfl, rfl⟩ := hj; first | exact absurd rfl hne | (have q := HG.out; omega)) | (j + 3), hj => (simp at hj))⟩
                rw [hW9]
                clear hW9 kc0 kc1 kc2 kc3 kc4 kc5 kc6 kc7 kc8 pp0 pp1 pp2 oo0 oo1 oo2 ppf0 ppf1 ppf2 oof0 oof1 oof2 HM
                have HM := HM0
                clear HM0
                have kc0 := Blk.cell (Many.blk HM.out 0 _ _ _ rfl) 0 _ rfl
                have kc1 := Blk.cell (Many.blk HM.out 0 _ _ _ rfl) 1 _ rfl
                have kc2 := Blk.cell (Many.blk HM.out 0 _ _ _ rfl) 2 _ rfl
                have kc3 := Blk.cell (Many.blk HM.out 0 _ _ _ rfl) 3 _ rfl
                have kc4 := Blk.cell (Many.blk HM.out 0 _ _ _ rfl) 4 _ rfl
                have kc5 := Blk.cell (Many.blk HM.out 0 _ _ _ rfl) 5 _ rfl
                have kc6 := Blk.cell (Many.blk HM.out 0 _ _ _ rfl) 6 _ rfl
                have kc7 := Blk.cell (Many.blk HM.out 0 _ _ _ rfl) 7 _ rfl
                have kc8 := Blk.cell (Many.blk HM.out 0 _ _ _ rfl) 8 _ rfl
                have pp0 := Blk.cell (Many.blk HM.out 1 _ _ _ rfl) 0 _ rfl
                have ppf0 := Blk.frozen (Many.blk HM.out 1 _ _ _ rfl) 0
                have pp1 := Blk.cell (Many.blk HM.out 1 _ _ _ rfl) 1 _ rfl
                have ppf1 := Blk.frozen (Many.blk HM.out 1 _ _ _ rfl) 1
                have pp2 := Blk.cell (Many.blk HM.out 1 _ _ _ rfl) 2 _ rfl
                have ppf2 := Blk.frozen (Many.blk HM.out 1 _ _ _ rfl) 2
                have oo0 := Blk.cell (Many.blk HM.out 2 _ _ _ rfl) 0 _ rfl
                have oof0 := Blk.frozen (Many.blk HM.out 2 _ _ _ rfl) 0
                have oo1 := Blk.cell (Many.blk HM.out 2 _ _ _ rfl) 1 _ rfl
                have oof1 := Blk.frozen (Many.blk HM.out 2 _ _ _ rfl) 1
                have oo2 := Blk.cell (Many.blk HM.out 2 _ _ _ rfl) 2 _ rfl
                have oof2 := Blk.frozen (Many.blk HM.out 2 _ _ _ rfl) 2
                have HT0 := HT.out
                obtain ⟨⟨a0, a1, a2, a3, b0, b1, b2, b3, b4, w0, w1, w2, w3⟩, n1, n2, n3⟩ := HF1.out
                obtain ⟨g0, g1, g5, g6⟩ := HCF.out
                have hnb := HNB.out
                have gA : wrap64 (t - al) = t - al := wrap_id (by omega) (by omega)
                have gB : wrap64 (c0 + c1) = c0 + c1 := wrap_id (by omega) (by omega)
                have gC : wrap64 (t - wa) = t - wa := wrap_id (by omega) (by omega)
                have gD : wrap64 (c5 + c6) = c5 + c6 := wrap_id (by omega) (by omega)
                have gE : wrap64 (t + 1) = t + 1 := wrap_id (by omega) (by omega)
                have dd27 : decide (t - al > c0 + c1) = false := decide_eq_false (by omega)
                have de27 : decide (c0 + c1 < t - al) = false := decide_eq_false (by omega)
                have dd28 : decide (wa ≥ 0) = true := decide_eq_true (by omega)
                have de28 : decide (0 ≤ wa) = true := decide_eq_true (by omega)
                have dd29 : decide (t - wa > c5 + c6) = false := decide_eq_false (by omega)
                have de29 : decide (c5 + c6 < t - wa) = false := decide_eq_false (by omega)
                clear a0 a1 a2 a3 b0 b1 b2 b3 b4 w0 w1 w2 w3 n1 n2 n3 g0 g1 g5 g6 hnb HT0
                go_wp2
                go_roundg (gk - 1)
                case measure => have := HT.out; have := HLT.out; omega
                case rel => exact ⟨_, _, _, t + 1, _, _, _, rfl, rfl, rfl, (by first | rfl | rw [gE]), ⟨by have := HT.out; have := HLT.out; omega⟩, ⟨HF1.out.next⟩, ⟨Many.two HM.out⟩⟩
              · rw [hb] at hxc
                have HP2 : Aside0 (pulseOk x0 x1 = true) := ⟨HF1.out.inv.ok HCF.out (by have := HNB.out; have := HLT.out; omega)⟩
                obtain ⟨y1, f1⟩ : ∃ x, chU1 x1 t (c5 + clampN (rd dr t) c6) = x := ⟨_, rfl⟩
                obtain ⟨y2, f2⟩ : ∃ x, decide (t < x1) = x := ⟨_, rfl⟩
                obtain ⟨m, f3⟩ : ∃ x, chK x1 t = x := ⟨_, rfl⟩
                have hC : (m = 0 ∧ x1 = y1 ∧ y2 = true ∧ (wa < 0 → HMid c0 c1 c5 c6 al tl t t x0 x1 true) ∧ (0 ≤ wa → HMid c0 c1 c5 c6 al tl wa t x0 x1 true)) ∨ (m = 1 ∧ y2 = false ∧ HMid c0 c1 c5 c6 al t (-1) t x0 y1 false ∧ tl + c5 ≤ t) := by
                  have ht := HT.out.2
                  by_cases hq : t < x1
                  · have hh := change_lt HF1.out HCF.out hq ht
                    refine .inl ⟨by rw [← f3]; unfold chK; rw [if_pos hq], by rw [← f1]; unfold chU1; rw [if_pos hq], by rw [← f2]; exact decide_eq_true hq, hh.1, hh.2⟩
                  · have hh := change_ge (d := rd dr t) HF1.out HCF.out (by omega)
                    refine .inr ⟨by rw [← f3]; unfold chK; rw [if_neg hq], by rw [← f2]; exact decide_eq_false hq, ?_, hh.2⟩
                    rw [← f1]; unfold chU1; rw [if_neg hq]; exact hh.1
                have F1 := Aside0.mk f1
                have F2 := Aside0.mk f2
                have F3 := Aside0.mk f3
                have HCC := Aside0.mk hC
                clear f1 f2 f3 hC
                go_upto_region 21 with fail
                have kc0' : ∀ w' : World, Below w9.heap.size w9 w' → w'.cell? ⟨w.heap.size, 0, none⟩ = some (.int .i64 c0) := fun w' h => Blk.cell (Blk.later (Many.blk HM.out 0 _ _ _ rfl) h) 0 _ rfl
                have kc1' : ∀ w' : World, Below w9.heap.size w9 w' → w'.cell? ⟨w.heap.size, 1, none⟩ = some (.int .i64 c1) := fun w' h => Blk.cell (Blk.later (Many.blk HM.out 0 _ _ _ rfl) h) 1 _ rfl
                have kc2' : ∀ w' : World, Below w9.heap.size w9 w' → w'.cell? ⟨w.heap.size, 2, none⟩ = some (.int .i64 c2) := fun w' h => Blk.cell (Blk.later (Many.blk HM.out 0 _ _ _ rfl) h) 2 _ rfl
                have kc3' : ∀ w' : World, Below w9.heap.size w9 w' → w'.cell? ⟨w.heap.size, 3, none⟩ = some (.int .i64 c3) := fun w' h => Blk.cell (Blk.later (Many.blk HM.out 0 _ _ _ rfl) h) 3 _ rfl
                have kc4' : ∀ w' : World, Below w9.heap.size w9 w' → w'.cell? ⟨w.heap.size, 4, none⟩ = some (.int .i64 c4) := fun w' h => Blk.cell (Blk.later (Many.blk HM.out 0 _ _ _ rfl) h) 4 _ rfl
                have kc5' : ∀ w' : World, Below w9.heap.size w9 w' → w'.cell? ⟨w.heap.size, 5, none⟩ = some (.int .i64 c5) := fun w' h => Blk.cell (Blk.later (Many.blk HM.out 0 _ _ _ rfl) h) 5 _ rfl
                have kc6' : ∀ w' : World, Below w9.heap.size w9 w' → w'.cell? ⟨w.heap.size, 6, none⟩ = some (.int .i64 c6) := fun w' h => Blk.cell (Blk.later (Many.blk HM.out 0 _ _ _ rfl) h) 6 _ rfl
                have kc7' : ∀ w' : World, Below w9.heap.size w9 w' → w'.cell? ⟨w.heap.size, 7, none⟩ = some (.int .i64 cap) := fun w' h => Blk.cell (Blk.later (Many.blk HM.out 0 _ _ _ rfl) h) 7 _ rfl
                have kc8' : ∀ w' : World, Below w9.heap.size w9 w' → w'.cell? ⟨w.heap.size, 8, none⟩ = some (.slice A l.length cc) := fun w' h => Blk.cell (Blk.later (Many.blk HM.out 0 _ _ _ rfl) h) 8 _ rfl
                have pp0' : ∀ w' : World, Below w9.heap.size w9 w' → w'.cell? ⟨gp, 0, none⟩ = some (.int .i64 u0) := fun w' h => Blk.cell (Blk.later (Many.blk HM.out 1 _ _ _ rfl) h) 0 _ rfl
                have pp1' : ∀ w' : World, Below w9.heap.size w9 w' → w'.cell? ⟨gp, 1, none⟩ = some (.int .i64 u1) := fun w' h => Blk.cell (Blk.later (Many.blk HM.out 1 _ _ _ rfl) h) 1 _ rfl
                have pp2' : ∀ w' : World, Below w9.heap.size w9 w' → w'.cell? ⟨gp, 2, none⟩ = some (.bool u2) := fun w' h => Blk.cell (Blk.later (Many.blk HM.out 1 _ _ _ rfl) h) 2 _ rfl
                have oo0' : ∀ w' : World, Below w9.heap.size w9 w' → w'.cell? ⟨go, 0, none⟩ = some (.int .i64 x0) := fun w' h => Blk.cell (Blk.later (Many.blk HM.out 2 _ _ _ rfl) h) 0 _ rfl
                have oo1' : ∀ w' : World, Below w9.heap.size w9 w' → w'.cell? ⟨go, 1, none⟩ = some (.int .i64 x1) := fun w' h => Blk.cell (Blk.later (Many.blk HM.out 2 _ _ _ rfl) h) 1 _ rfl
                have oo2' : ∀ w' : World, Below w9.heap.size w9 w' → w'.cell? ⟨go, 2, none⟩ = some (.bool true) := fun w' h => Blk.cell (Blk.later (Many.blk HM.out 2 _ _ _ rfl) h) 2 _ rfl
                have hx2 : w9.cell? (ad.add t.toNat) = some (.int .i64 (rd dr t)) := (HM.out.bel.cell (HAD.out)).trans HX0.out
                have hx' : ∀ w' : World, Below w9.heap.size w9 w' → w'.cell? (ad.add t.toNat) = some (.int .i64 (rd dr t)) := fun w' h => (h.cell (World.block_lt_of_cell? w9 _ hx2)).trans hx2
                clear hx2
                have hgw : go < w9.heap.size := World.block_lt_of_cell? w9 _ oo0
                have HGW := Aside0.mk hgw
                clear hgw
                have HRr := Aside0.mk (Kd.C_below HR.out HM.out.bel)
                go_cut [17, 18, 19] (fun v17 v18 v19 wx => ∃ gq : Nat, v17 = .pointer (some ⟨gq, 0, none⟩) ∧ w9.heap.size ≤ gq ∧ Blk wx gq 28 #[.int .i64 x0, .int .i64 y1, .bool y2] ∧ Below w9.heap.size w9 wx ∧ v18 = .int .i64 m ∧ v19 = .int .i64 0)
                case first =>
                  as_aux_lemma =>
                    clear kc0 kc1 kc2 kc3 kc4 kc5 kc6 kc7 kc8 pp0 pp1 pp2 oo0 oo1 oo2 ppf0 ppf1 ppf2 oof0 oof1 oof2
                    refine wp_region_held_drew (S := fun w' => Below w9.heap.size w9 w') (by kernel_rfl) ?sB3 (fun hHeld => ?rB3)
                    case sB3 => exact (below_drew (Below.refl w9.heap.size w9))
                    refine wpAnyH_take (i := 0) (oi := ?oB3_0_1) (v := ?vB3_0_1) ?iB3_0_1 (by kernel_rfl) (by kernel_rfl) (by kernel_rfl) ?qB3_0_1 ?yB3_0_1 hHeld ?nB3_0_1
                    case iB3_0_1 => (simp only [List.getElem?_toArray, List.getElem?_cons_succ, List.getElem?_cons_zero]; rfl)
                    case yB3_0_1 => (refine Or.inl ⟨by kernel_rfl, ?_⟩; intro w' hSw; (try dsimp only at hSw); first | (go_simp; done) | (go_simp; with_reducible rfl))
                    case qB3_0_1 => exact fun _ _ _ h => h
                    try simp only [Act.put, List.setIfInBounds_toArray, List.set_cons_zero, List.set_cons_succ]
                    refine wpAnyH_take (i := 1) (oi := ?oB3_1_2) (v := ?vB3_1_2) ?iB3_1_2 (by kernel_rfl) (by kernel_rfl) (by kernel_rfl) ?qB3_1_2 ?yB3_1_2 hHeld ?nB3_1_2
                    case iB3_1_2 => (simp only [List.getElem?_toArray, List.getElem?_cons_succ, List.getElem?_cons_zero]; rfl)
                    case yB3_1_2 => (refine Or.inl ⟨by kernel_rfl, ?_⟩; intro w' hSw; (try dsimp only at hSw); first | (go_simp; done) | (go_simp; with_reducible rfl))
                    case qB3_1_2 => exact fun _ _ _ h => h
                    try simp only [Act.put, List.setIfInBounds_toArray, List.set_cons_zero, List.set_cons_succ]
                    refine wpAnyH_take (i := 2) (oi := ?oB3_2_3) (v := ?vB3_2_3) ?iB3_2_3 (by kernel_rfl) (by kernel_rfl) (by kernel_rfl) ?qB3_2_3 ?yB3_2_3 hHeld ?nB3_2_3
                    case iB3_2_3 => (simp only [List.getElem?_toArray, List.getElem?_cons_succ, List.getElem?_cons_zero]; rfl)
                    case yB3_2_3 => (refine Or.inl ⟨by kernel_rfl, ?_⟩; intro w' hSw; (try dsimp only at hSw); first | (go_simp; done) | (go_simp; with_reducible rfl))
                    case qB3_2_3 => exact fun _ _ _ h => h
                    try simp only [Act.put, List.setIfInBounds_toArray, List.set_cons_zero, List.set_cons_succ]
                    refine wpAnyH_take (i := 3) (oi := ?oB3_3_4) (v := ?vB3_3_4) ?iB3_3_4 (by kernel_rfl) (by kernel_rfl) (by kernel_rfl) ?qB3_3_4 ?yB3_3_4 hHeld ?nB3_3_4
                    case iB3_3_4 => (simp only [List.getElem?_toArray, List.getElem?_cons_succ, List.getElem?_cons_zero]; rfl)
                    case yB3_3_4 => (refine Or.inl ⟨by kernel_rfl, ?_⟩; intro w' hSw; (try dsimp only at hSw); first | (go_simp; done) | (go_simp; with_reducible rfl))
                    case qB3_3_4 => exact fun _ _ _ h => h
                    try simp only [Act.put, List.setIfInBounds_toArray, List.set_cons_zero, List.set_cons_succ]
                    refine wpAnyH_take (i := 4) (oi := ?oB3_4_5) (v := ?vB3_4_5) ?iB3_4_5 (by kernel_rfl) (by kernel_rfl) (by kernel_rfl) ?qB3_4_5 ?yB3_4_5 hHeld ?nB3_4_5
                    case iB3_4_5 => (simp only [List.getElem?_toArray, List.getElem?_cons_succ, List.getElem?_cons_zero]; rfl)
                    case yB3_4_5 => (refine Or.inl ⟨by kernel_rfl, ?_⟩; intro w' hSw; (try dsimp only at hSw); first | (go_simp; done) | (go_simp; with_reducible rfl))
                    case qB3_4_5 => exact fun _ _ _ h => h
                    try simp only [Act.put, List.setIfInBounds_toArray, List.set_cons_zero, List.set_cons_succ]
                    refine wpAnyH_take (i := 5) (oi := ?oB3_5_6) (v := ?vB3_5_6) ?iB3_5_6 (by kernel_rfl) (by kernel_rfl) (by kernel_rfl) ?qB3_5_6 ?yB3_5_6 hHeld ?nB3_5_6
                    case iB3_5_6 => (simp only [List.getElem?_toArray, List.getElem?_cons_succ, List.getElem?_cons_zero]; rfl)
                    case yB3_5_6 => (refine Or.inl ⟨by kernel_rfl, ?_⟩; intro w' hSw; (try dsimp only at hSw); first | (go_simp; done) | (go_simp; with_reducible rfl))
                    case qB3_5_6 => exact fun _ _ _ h => h
                    try simp only [Act.put, List.setIfInBounds_toArray, List.set_cons_zero, List.set_cons_succ]
                    refine wpAnyH_take (i := 6) (oi := ?oB3_6_7) (v := ?vB3_6_7) ?iB3_6_7 (by kernel_rfl) (by kernel_rfl) (by kernel_rfl) ?qB3_6_7 ?yB3_6_7 hHeld ?nB3_6_7
                    case iB3_6_7 => (simp only [List.getElem?_toArray, List.getElem?_cons_succ, List.getElem?_cons_zero]; rfl)
                    case yB3_6_7 => (refine Or.inl ⟨by kernel_rfl, ?_⟩; intro w' hSw; (try dsimp only at hSw); first | (go_simp; done) | (go_simp; with_reducible rfl))
                    case qB3_6_7 => exact fun _ _ _ h => h
                    try simp only [Act.put, List.setIfInBounds_toArray, List.set_cons_zero, List.set_cons_succ]
                    refine wpAnyH_ready (rs := [7, 12]) (by kernel_rfl) (by simp) ?_
                    refine (AllReadyH.cons (o := ?oB3_7_8) ?iB3_7_8 (fun K hK => ?kB3_7_8) (AllReadyH.cons (o := ?oB3_12_8) ?iB3_12_8 (fun K hK => ?kB3_12_8) AllReadyH.nil))
                    case iB3_7_8 => (simp only [List.getElem?_toArray, List.getElem?_cons_succ, List.getElem?_cons_zero]; rfl)
                    case iB3_12_8 => (simp only [List.getElem?_toArray, List.getElem?_cons_succ, List.getElem?_cons_zero]; rfl)
                    case kB3_7_8 =>
                      go_simp
                      (with_reducible refine (change_yes c0 c1 c2 c3 c4 c5 c6 cap A l cc x0 x1 true t (rd dr t) _ (Kd.C_below HRr.out hHeld) hc HA.out hm HP2.out HN.out ⟨HT.out.2, HTB.out⟩).mono ?_); rw [F1.out, F2.out, F3.out]; rintro e w4 ⟨rfl, hb⟩; dsimp only
                      refine hK.out _ _ ?hB3_7_8 (fun hHeld2 => ?mB3_7_8)
                      case hB3_7_8 => exact thenB hHeld hHeld.size hb
                      clear hK K hHeld
                      have hHeld := hHeld2
                      clear hHeld2
                      try simp only [Act.put, List.setIfInBounds_toArray, List.set_cons_zero, List.set_cons_succ]
                      refine wpAnyH_take (i := 8) (oi := ?oB3_8_9) (v := ?vB3_8_9) ?iB3_8_9 (by kernel_rfl) (by kernel_rfl) (by kernel_rfl) ?qB3_8_9 ?yB3_8_9 hHeld ?nB3_8_9
                      case iB3_8_9 => (simp only [List.getElem?_toArray, List.getElem?_cons_succ, List.getElem?_cons_zero]; rfl)
                      case yB3_8_9 => (refine Or.inl ⟨by kernel_rfl, ?_⟩; intro w' hSw; (try dsimp only at hSw); first | (go_simp; done) | (go_simp; with_reducible rfl))
                      case qB3_8_9 => exact fun _ _ _ h => h
                      try simp only [Act.put, List.setIfInBounds_toArray, List.set_cons_zero, List.set_cons_succ]
                      refine wpAnyH_take (i := 9) (oi := ?oB3_9_10) (v := ?vB3_9_10) ?iB3_9_10 (by kernel_rfl) (by kernel_rfl) (by kernel_rfl) ?qB3_9_10 ?yB3_9_10 hHeld ?nB3_9_10
                      case iB3_9_10 => (simp only [List.getElem?_toArray, List.getElem?_cons_succ, List.getElem?_cons_zero]; rfl)
                      case yB3_9_10 => (refine Or.inl ⟨by kernel_rfl, ?_⟩; intro w' hSw; (try dsimp only at hSw); first | (go_simp; done) | (go_simp; with_reducible rfl))
                      case qB3_9_10 => exact fun _ _ _ h => h
                      try simp only [Act.put, List.setIfInBounds_toArray, List.set_cons_zero, List.set_cons_succ]
                      refine wpAnyH_take (i := 10) (oi := ?oB3_10_11) (v := ?vB3_10_11) ?iB3_10_11 (by kernel_rfl) (by kernel_rfl) (by kernel_rfl) ?qB3_10_11 ?yB3_10_11 hHeld ?nB3_10_11
                      case iB3_10_11 => (simp only [List.getElem?_toArray, List.getElem?_cons_succ, List.getElem?_cons_zero]; rfl)
                      case yB3_10_11 => (refine Or.inl ⟨by kernel_rfl, ?_⟩; intro w' hSw; (try dsimp only at hSw); first | (go_simp; done) | (go_simp; with_reducible rfl))
                      case qB3_10_11 => exact fun _ _ _ h => h
                      try simp only [Act.put, List.setIfInBounds_toArray, List.set_cons_zero, List.set_cons_succ]
                      refine wpAnyH_take (i := 11) (oi := ?oB3_11_12) (v := ?vB3_11_12) ?iB3_11_12 (by kernel_rfl) (by kernel_rfl) (by kernel_rfl) ?qB3_11_12 ?yB3_11_12 hHeld ?nB3_11_12
                      case iB3_11_12 => (simp only [List.getElem?_toArray, List.getElem?_cons_succ, List.getElem?_cons_zero]; rfl)
                      case yB3_11_12 => (refine Or.inl ⟨by kernel_rfl, ?_⟩; intro w' hSw; (try dsimp only at hSw); first | (go_simp; done) | (go_simp; with_reducible rfl))
                      case qB3_11_12 => exact fun _ _ _ h => h
                      try simp only [Act.put, List.setIfInBounds_toArray, List.set_cons_zero, List.set_cons_succ]
                      refine wpAnyH_ready (rs := [12]) (by kernel_rfl) (by simp) ?_
                      refine (AllReadyH.cons (o := ?oB3_12_13) ?iB3_12_13 (fun K hK => ?kB3_12_13) AllReadyH.nil)
                      case iB3_12_13 => (simp only [List.getElem?_toArray, List.getElem?_cons_succ, List.getElem?_cons_zero]; rfl)
                      case kB3_12_13 =>
                        go_simp
                        have H4 := Aside0.mk hHeld; have HO : Aside0 (Blk (w4.alloc (.cells #[.int .i64 0, .int .i64 0, .bool false] 28)) w4.heap.size 28 #[.int .i64 0, .int .i64 0, .bool false]) := ⟨Blk.new' w4 _ _ _ rfl⟩; have hle : w9.heap.size ≤ w4.heap.size := Below.size hHeld
                        refine hK.out _ _ ?hB3_12_13 (fun hHeld2 => ?mB3_12_13)
                        case hB3_12_13 => exact below_alloc hHeld _
                        clear hK K hHeld
                        have hHeld := hHeld2
                        clear hHeld2
                        try simp only [Act.put, List.setIfInBounds_toArray, List.set_cons_zero, List.set_cons_succ]
                        refine wpAnyH_ready (rs := [13]) (by kernel_rfl) (by simp) ?_
                        refine (AllReadyH.cons (o := ?oB3_13_14) ?iB3_13_14 (fun K hK => ?kB3_13_14) AllReadyH.nil)
                        case iB3_13_14 => (simp only [List.getElem?_toArray, List.getElem?_cons_succ, List.getElem?_cons_zero]; rfl)
                        case kB3_13_14 =>
                          have oo0 := Blk.cell HO.out 0 _ rfl; have oo1 := Blk.cell HO.out 1 _ rfl; have oo2 := Blk.cell HO.out 2 _ rfl; have oof0 := Blk.frozen HO.out 0; have oof1 := Blk.frozen HO.out 1; have oof2 := Blk.frozen HO.out 2
                          go_simp
                          skip
                          refine hK.out _ _ ?hB3_13_14 (fun hHeld2 => ?mB3_13_14)
                          case hB3_13_14 => exact below_alloc H4.out _
                          clear hK K hHeld
                          have hHeld := hHeld2
                          clear hHeld2
                          try simp only [Act.put, List.setIfInBounds_toArray, List.set_cons_zero, List.set_cons_succ]
                          refine wpAnyH_take (i := 14) (oi := ?oB3_14_15) (v := ?vB3_14_15) ?iB3_14_15 (by kernel_rfl) (by kernel_rfl) (by kernel_rfl) ?qB3_14_15 ?yB3_14_15 hHeld ?nB3_14_15
                          case iB3_14_15 => (simp only [List.getElem?_toArray, List.getElem?_cons_succ, List.getElem?_cons_zero]; rfl)
                          case yB3_14_15 => (refine Or.inl ⟨by kernel_rfl, ?_⟩; intro w' hSw; (try dsimp only at hSw); first | (go_simp; done) | (go_simp; with_reducible rfl))
                          case qB3_14_15 => exact fun _ _ _ h => h
                          try simp only [Act.put, List.setIfInBounds_toArray, List.set_cons_zero, List.set_cons_succ]
                          refine wpAnyH_take (i := 15) (oi := ?oB3_15_16) (v := ?vB3_15_16) ?iB3_15_16 (by kernel_rfl) (by kernel_rfl) (by kernel_rfl) ?qB3_15_16 ?yB3_15_16 hHeld ?nB3_15_16
                          case iB3_15_16 => (simp only [List.getElem?_toArray, List.getElem?_cons_succ, List.getElem?_cons_zero]; rfl)
                          case yB3_15_16 => (refine Or.inl ⟨by kernel_rfl, ?_⟩; intro w' hSw; (try dsimp only at hSw); first | (go_simp; done) | (go_simp; with_reducible rfl))
                          case qB3_15_16 => exact fun _ _ _ h => h
                          try simp only [Act.put, List.setIfInBounds_toArray, List.set_cons_zero, List.set_cons_succ]
                          refine wpAnyH_done (by kernel_rfl) ?_ _
                          try go_wp2
                          go_meet
                          exact ⟨w4.heap.size, rfl, hle, Blk.new' w4 _ _ _ rfl, hHeld, rfl, rfl⟩
                    case kB3_12_8 =>
                      go_simp
                      have HO : Aside0 (Blk (w9.drew.alloc (.cells #[.int .i64 0, .int .i64 0, .bool false] 28)) w9.heap.size 28 #[.int .i64 0, .int .i64 0, .bool false]) := ⟨Blk.new' w9.drew _ _ _ rfl⟩; have hle : w9.heap.size ≤ w9.heap.size := Nat.le_refl _
                      refine hK.out _ _ ?hB3_12_8 (fun hHeld2 => ?mB3_12_8)
                      case hB3_12_8 => exact below_alloc hHeld _
                      clear hK K hHeld
                      have hHeld := hHeld2
                      clear hHeld2
                      try simp only [Act.put, List.setIfInBounds_toArray, List.set_cons_zero, List.set_cons_succ]
                      refine wpAnyH_ready (rs := [7]) (by kernel_rfl) (by simp) ?_
                      refine (AllReadyH.cons (o := ?oB3_7_17) ?iB3_7_17 (fun K hK => ?kB3_7_17) AllReadyH.nil)
                      case iB3_7_17 => (simp only [List.getElem?_toArray, List.getElem?_cons_succ, List.getElem?_cons_zero]; rfl)
                      case kB3_7_17 =>
                        go_simp
                        (with_reducible refine (change_yes c0 c1 c2 c3 c4 c5 c6 cap A l cc x0 x1 true t (rd dr t) _ (Kd.C_below HRr.out hHeld) hc HA.out hm HP2.out HN.out ⟨HT.out.2, HTB.out⟩).mono ?_); rw [F1.out, F2.out, F3.out]; rintro e w4 ⟨rfl, hb⟩; dsimp only; have HO := Aside0.mk (Blk.later HO.out hb)
                        refine hK.out _ _ ?hB3_7_17 (fun hHeld2 => ?mB3_7_17)
                        case hB3_7_17 => exact thenB hHeld hHeld.size hb
                        clear hK K hHeld
                        have hHeld := hHeld2
                        clear hHeld2
                        try simp only [Act.put, List.setIfInBounds_toArray, List.set_cons_zero, List.set_cons_succ]
                        refine wpAnyH_take (i := 8) (oi := ?oB3_8_18) (v := ?vB3_8_18) ?iB3_8_18 (by kernel_rfl) (by kernel_rfl) (by kernel_rfl) ?qB3_8_18 ?yB3_8_18 hHeld ?nB3_8_18
                        case iB3_8_18 => (simp only [List.getElem?_toArray, List.getElem?_cons_succ, List.getElem?_cons_zero]; rfl)
                        case yB3_8_18 => (refine Or.inl ⟨by kernel_rfl, ?_⟩; intro w' hSw; (try dsimp only at hSw); first | (go_simp; done) | (go_simp; with_reducible rfl))
                        case qB3_8_18 => exact fun _ _ _ h => h
                        try simp only [Act.put, List.setIfInBounds_toArray, List.set_cons_zero, List.set_cons_succ]
                        refine wpAnyH_take (i := 9) (oi := ?oB3_9_19) (v := ?vB3_9_19) ?iB3_9_19 (by kernel_rfl) (by kernel_rfl) (by kernel_rfl) ?qB3_9_19 ?yB3_9_19 hHeld ?nB3_9_19
                        case iB3_9_19 => (simp only [List.getElem?_toArray, List.getElem?_cons_succ, List.getElem?_cons_zero]; rfl)
                        case yB3_9_19 => (refine Or.inl ⟨by kernel_rfl, ?_⟩; intro w' hSw; (try dsimp only at hSw); first | (go_simp; done) | (go_simp; with_reducible rfl))
                        case qB3_9_19 => exact fun _ _ _ h => h
                        try simp only [Act.put, List.setIfInBounds_toArray, List.set_cons_zero, List.set_cons_succ]
                        refine wpAnyH_take (i := 10) (oi := ?oB3_10_20) (v := ?vB3_10_20) ?iB3_10_20 (by kernel_rfl) (by kernel_rfl) (by kernel_rfl) ?qB3_10_20 ?yB3_10_20 hHeld ?nB3_10_20
                        case iB3_10_20 => (simp only [List.getElem?_toArray, List.getElem?_cons_succ, List.getElem?_cons_zero]; rfl)
                        case yB3_10_20 => (refine Or.inl ⟨by kernel_rfl, ?_⟩; intro w' hSw; (try dsimp only at hSw); first | (go_simp; done) | (go_simp; with_reducible rfl))
                        case qB3_10_20 => exact fun _ _ _ h => h
                        try simp only [Act.put, List.setIfInBounds_toArray, List.set_cons_zero, List.set_cons_succ]
                        refine wpAnyH_take (i := 11) (oi := ?oB3_11_21) (v := ?vB3_11_21) ?iB3_11_21 (by kernel_rfl) (by kernel_rfl) (by kernel_rfl) ?qB3_11_21 ?yB3_11_21 hHeld ?nB3_11_21
                        case iB3_11_21 => (simp only [List.getElem?_toArray, List.getElem?_cons_succ, List.getElem?_cons_zero]; rfl)
                        case yB3_11_21 => (refine Or.inl ⟨by kernel_rfl, ?_⟩; intro w' hSw; (try dsimp only at hSw); first | (go_simp; done) | (go_simp; with_reducible rfl))
                        case qB3_11_21 => exact fun _ _ _ h => h
                        try simp only [Act.put, List.setIfInBounds_toArray, List.set_cons_zero, List.set_cons_succ]
                        refine wpAnyH_ready (rs := [13]) (by kernel_rfl) (by simp) ?_
                        refine (AllReadyH.cons (o := ?oB3_13_22) ?iB3_13_22 (fun K hK => ?kB3_13_22) AllReadyH.nil)
                        case iB3_13_22 => (simp only [List.getElem?_toArray, List.getElem?_cons_succ, List.getElem?_cons_zero]; rfl)
                        case kB3_13_22 =>
                          have oo0 := Blk.cell HO.out 0 _ rfl; have oo1 := Blk.cell HO.out 1 _ rfl; have oo2 := Blk.cell HO.out 2 _ rfl; have oof0 := Blk.frozen HO.out 0; have oof1 := Blk.frozen HO.out 1; have oof2 := Blk.frozen HO.out 2
                          go_simp
                          skip
                          refine hK.out _ _ ?hB3_13_22 (fun hHeld2 => ?mB3_13_22)
                          case hB3_13_22 => exact Below.setCell (p := ⟨w9.heap.size, 2, none⟩) (Below.setCell (p := ⟨w9.heap.size, 1, none⟩) (Below.setCell (p := ⟨w9.heap.size, 0, none⟩) hHeld hle _) hle _) hle _
                          clear hK K hHeld
                          have hHeld := hHeld2
                          clear hHeld2
                          try simp only [Act.put, List.setIfInBounds_toArray, List.set_cons_zero, List.set_cons_succ]
                          refine wpAnyH_take (i := 14) (oi := ?oB3_14_23) (v := ?vB3_14_23) ?iB3_14_23 (by kernel_rfl) (by kernel_rfl) (by kernel_rfl) ?qB3_14_23 ?yB3_14_23 hHeld ?nB3_14_23
                          case iB3_14_23 => (simp only [List.getElem?_toArray, List.getElem?_cons_succ, List.getElem?_cons_zero]; rfl)
                          case yB3_14_23 => (refine Or.inl ⟨by kernel_rfl, ?_⟩; intro w' hSw; (try dsimp only at hSw); first | (go_simp; done) | (go_simp; with_reducible rfl))
                          case qB3_14_23 => exact fun _ _ _ h => h
                          try simp only [Act.put, List.setIfInBounds_toArray, List.set_cons_zero, List.set_cons_succ]
                          refine wpAnyH_take (i := 15) (oi := ?oB3_15_24) (v := ?vB3_15_24) ?iB3_15_24 (by kernel_rfl) (by kernel_rfl) (by kernel_rfl) ?qB3_15_24 ?yB3_15_24 hHeld ?nB3_15_24
                          case iB3_15_24 => (simp only [List.getElem?_toArray, List.getElem?_cons_succ, List.getElem?_cons_zero]; rfl)
                          case yB3_15_24 => (refine Or.inl ⟨by kernel_rfl, ?_⟩; intro w' hSw; (try dsimp only at hSw); first | (go_simp; done) | (go_simp; with_reducible rfl))
                          case qB3_15_24 => exact fun _ _ _ h => h
                          try simp only [Act.put, List.setIfInBounds_toArray, List.set_cons_zero, List.set_cons_succ]
                          refine wpAnyH_done (by kernel_rfl) ?_ _
                          try go_wp2
                          go_meet
                          exact ⟨w9.heap.size, rfl, hle, (OneSet.whole HO.out [.int .i64 x0, .int .i64 y1, .bool y2] rfl).blk, hHeld, rfl, rfl⟩
                case rest =>
                  obtain ⟨gq, rfl, hgq, hbq, hbw, rfl, rfl⟩ := hcut
                  have HM0 : Aside0 (Many w [(w.heap.size, 24, #[.int .i64 c0, .int .i64 c1, .int .i64 c2, .int .i64 c3, .int .i64 c4, .int .i64 c5, .int .i64 c6, .int .i64 cap, .slice A l.length cc]), (gp, 28, #[.int .i64 u0, .int .i64 u1, .bool u2]), (go, 28, #[.int .i64 x0, .int .i64 x1, .bool true]), (gq, 28, #[.int .i64 x0, .int .i64 y1, .bool y2])] wc) := ⟨Many.put (Many.later HM.out hbw) hbq⟩
                  have HG0 : Aside0 (w.heap.size < gp ∧ gp < go ∧ go < gq) := ⟨by have q := HG.out; have q2 := HGW.out; omega⟩
                  clear HG HGW
                  have HG := HG0
                  clear HG0
                  clear kc0 kc1 kc2 kc3 kc4 kc5 kc6 kc7 kc8 pp0 pp1 pp2 oo0 oo1 oo2 ppf0 ppf1 ppf2 oof0 oof1 oof2 kc0' kc1' kc2' kc3' kc4' kc5' kc6' kc7' kc8' pp0' pp1' pp2' oo0' oo1' oo2' hx' HM hbw hbq hgq HRr
                  have HM := HM0
                  clear HM0
                  have kc0 := Blk.cell (Many.blk HM.out 0 _ _ _ rfl) 0 _ rfl
                  have kc1 := Blk.cell (Many.blk HM.out 0 _ _ _ rfl) 1 _ rfl
                  have kc2 := Blk.cell (Many.blk HM.out 0 _ _ _ rfl) 2 _ rfl
                  have kc3 := Blk.cell (Many.blk HM.out 0 _ _ _ rfl) 3 _ rfl
                  have kc4 := Blk.cell (Many.blk HM.out 0 _ _ _ rfl) 4 _ rfl
                  have kc5 := Blk.cell (Many.blk HM.out 0 _ _ _ rfl) 5 _ rfl
                  have kc6 := Blk.cell (Many.blk HM.out 0 _ _ _ rfl) 6 _ rfl
                  have kc7 := Blk.cell (Many.blk HM.out 0 _ _ _ rfl) 7 _ rfl
                  have kc8 := Blk.cell (Many.blk HM.out 0 _ _ _ rfl) 8 _ rfl
                  have pp0 := Blk.cell (Many.blk HM.out 1 _ _ _ rfl) 0 _ rfl
                  have ppf0 := Blk.frozen (Many.blk HM.out 1 _ _ _ rfl) 0
                  have pp1 := Blk.cell (Many.blk HM.out 1 _ _ _ rfl) 1 _ rfl
                  have ppf1 := Blk.frozen (Many.blk HM.out 1 _ _ _ rfl) 1
                  have pp2 := Blk.cell (Many.blk HM.out 1 _ _ _ rfl) 2 _ rfl
                  have ppf2 := Blk.frozen (Many.blk HM.out 1 _ _ _ rfl) 2
                  have oo0 := Blk.cell (Many.blk HM.out 2 _ _ _ rfl) 0 _ rfl
                  have oof0 := Blk.frozen (Many.blk HM.out 2 _ _ _ rfl) 0
                  have oo1 := Blk.cell (Many.blk HM.out 2 _ _ _ rfl) 1 _ rfl
                  have oof1 := Blk.frozen (Many.blk HM.out 2 _ _ _ rfl) 1
                  have oo2 := Blk.cell (Many.blk HM.out 2 _ _ _ rfl) 2 _ rfl
                  have oof2 := Blk.frozen (Many.blk HM.out 2 _ _ _ rfl) 2
                  have qq0 := Blk.cell (Many.blk HM.out 3 _ _ _ rfl) 0 _ rfl
                  have qq1 := Blk.cell (Many.blk HM.out 3 _ _ _ rfl) 1 _ rfl
                  have qq2 := Blk.cell (Many.blk HM.out 3 _ _ _ rfl) 2 _ rfl
                  rcases HCC.out with ⟨rfl, rfl, rfl, hm1, hm2⟩ | ⟨rfl, rfl, hm1, hq⟩
                  · have hw0 := HW0.out
                    have HF2 := Aside0.mk (hm2 (by omega))
                    have dd30 : decide (wa < 0) = false := decide_eq_false (by omega)
                    have de30 : decide (0 > wa) = false := decide_eq_false (by omega)
                    clear hm1 hm2
                    go_upto_region 29 with (go_at_call 12; ((with_reducible refine (waywardenlaw15_num.calls _ _ _ rfl).mono ?_); rintro e w9 ⟨rfl, hd⟩; have hb := hd.below; clear hd; have HM := Aside0.mk (Many.later HM.out hb); (try clear kc0 kc1 kc2 kc3 kc4 kc5 kc6 kc7 kc8 pp0 pp1 pp2 oo0 oo1 oo2 qq0 qq1 qq2 ppf0 ppf1 ppf2 oof0 oof1 oof2); have kc0 := Blk.cell (Many.blk HM.out 0 _ _ _ rfl) 0 _ rfl; have kc1 := Blk.cell (Many.blk HM.out 0 _ _ _ rfl) 1 _ rfl; have kc2 := Blk.cell (Many.blk HM.out 0 _ _ _ rfl) 2 _ rfl; have kc3 := Blk.cell (Many.blk HM.out 0 _ _ _ rfl) 3 _ rfl; have kc4 := Blk.cell (Many.blk HM.out 0 _ _ _ rfl) 4 _ rfl; have kc5 := Blk.cell (Many.blk HM.out 0 _ _ _ rfl) 5 _ rfl; have kc6 := Blk.cell (Many.blk HM.out 0 _ _ _ rfl) 6 _ rfl; have kc7 := Blk.cell (Many.blk HM.out 0 _ _ _ rfl) 7 _ rfl; have kc8 := Blk.cell (Many.blk HM.out 0 _ _ _ rfl) 8 _ rfl; have pp0 := Blk.cell (Many.blk HM.out 1 _ _ _ rfl) 0 _ rfl; have ppf0 := Blk.frozen (Many.blk HM.out 1 _ _ _ rfl) 0; have pp1 := Blk.cell (Many.blk HM.out 1 _ _ _ rfl) 1 _ rfl; have ppf1 := Blk.frozen (Many.blk HM.out 1 _ _ _ rfl) 1; have pp2 := Blk.cell (Many.blk HM.out 1 _ _ _ rfl) 2 _ rfl; have ppf2 := Blk.frozen (Many.blk HM.out 1 _ _ _ rfl) 2; have oo0 := Blk.cell (Many.blk HM.out 2 _ _ _ rfl) 0 _ rfl; have oof0 := Blk.frozen (Many.blk HM.out 2 _ _ _ rfl) 0; have oo1 := Blk.cell (Many.blk HM.out 2 _ _ _ rfl) 1 _ rfl; have oof1 := Blk.frozen (Many.blk HM.out 2 _ _ _ rfl) 1; have oo2 := Blk.cell (Many.blk HM.out 2 _ _ _ rfl) 2 _ rfl; have oof2 := Blk.frozen (Many.blk HM.out 2 _ _ _ rfl) 2; have qq0 := Blk.cell (Many.blk HM.out 3 _ _ _ rfl) 0 _ rfl; have qq1 := Blk.cell (Many.blk HM.out 3 _ _ _ rfl) 1 _ rfl; have qq2 := Blk.cell (Many.blk HM.out 3 _ _ _ rfl) 2 _ rfl; clear hb))
                    obtain ⟨W8, hW8⟩ : ∃ W', (((w9.setCell ⟨go, 0, none⟩ (.int .i64 x0)).setCell ⟨go, 1, none⟩ (.int .i64 x1)).setCell ⟨go, 2, none⟩ (.bool true)) = W' := ⟨_, rfl⟩
                    have HM0 : Aside0 (Many w [(w.heap.size, 24, #[.int .i64 c0, .int .i64 c1, .int .i64 c2, .int .i64 c3, .int .i64 c4, .int .i64 c5, .int .i64 c6, .int .i64 cap, .slice A l.length cc]), (gp, 28, #[.int .i64 u0, .int .i64 u1, .bool u2]), (go, 28, #[.int .i64 x0, .int .i64 x1, .bool true]), (gq, 28, #[.int .i64 x0, .int .i64 x1, .bool true])] W8) := ⟨by rw [← hW8]; exact Many.set HM.out 2 go 28 _ rfl [.int .i64 x0, .int .i64 x1, .bool true] rfl (by have q := HG.out; omega) (by intro j g' t' cs' hj hne; match j, hj with | 0, hj => (simp at hj; obtain ⟨rfl, rfl, rfl⟩ := hj; first | exact absurd rfl hne | (have q := HG.out; omega)) | 1, hj => (simp at hj; obtain ⟨rfl, rfl, rfl⟩ := hj; first | exact absurd rfl hne | (have q := HG.out; omega)) | 2, hj => (simp at hj; obtain ⟨rfl, rfl, rfl⟩ := hj; first | exact absurd rfl hne | (have q := HG.out; omega)) | 3, hj => (simp at hj; obtain ⟨rfl, rfl, rfl⟩ := hj; first | exact absurd rfl hne | (have q := HG.out; omega)) | (j + 4), hj => (simp at hj))⟩
                    rw [hW8]
                    clear hW8 kc0 kc1 kc2 kc3 kc4 kc5 kc6 kc7 kc8 pp0 pp1 pp2 oo0 oo1 oo2 qq0 qq1 qq2 ppf0 ppf1 ppf2 oof0 oof1 oof2 HM
                    have HM := HM0
                    clear HM0
                    have kc0 := Blk.cell (Many.blk HM.out 0 _ _ _ rfl) 0 _ rfl
                    have kc1 := Blk.cell (Many.blk HM.out 0 _ _ _ rfl) 1 _ rfl
                    have kc2 := Blk.cell (Many.blk HM.out 0 _ _ _ rfl) 2 _ rfl
                    have kc3 := Blk.cell (Many.blk HM.out 0 _ _ _ rfl) 3 _ rfl
                    have kc4 := Blk.cell (Many.blk HM.out 0 _ _ _ rfl) 4 _ rfl
                    have kc5 := Blk.cell (Many.blk HM.out 0 _ _ _ rfl) 5 _ rfl
                    have kc6 := Blk.cell (Many.blk HM.out 0 _ _ _ rfl) 6 _ rfl
                    have kc7 := Blk.cell (Many.blk HM.out 0 _ _ _ rfl) 7 _ rfl
                    have kc8 := Blk.cell (Many.blk HM.out 0 _ _ _ rfl) 8 _ rfl
                    have pp0 := Blk.cell (Many.blk HM.out 1 _ _ _ rfl) 0 _ rfl
                    have ppf0 := Blk.frozen (Many.blk HM.out 1 _ _ _ rfl) 0
                    have pp1 := Blk.cell (Many.blk HM.out 1 _ _ _ rfl) 1 _ rfl
                    have ppf1 := Blk.frozen (Many.blk HM.out 1 _ _ _ rfl) 1
                    have pp2 := Blk.cell (Many.blk HM.out 1 _ _ _ rfl) 2 _ rfl
                    have ppf2 := Blk.frozen (Many.blk HM.out 1 _ _ _ rfl) 2
                    have oo0 := Blk.cell (Many.blk HM.out 2 _ _ _ rfl) 0 _ rfl
                    have oof0 := Blk.frozen (Many.blk HM.out 2 _ _ _ rfl) 0
                    have oo1 := Blk.cell (Many.blk HM.out 2 _ _ _ rfl) 1 _ rfl
                    have oof1 := Blk.frozen (Many.blk HM.out 2 _ _ _ rfl) 1
                    have oo2 := Blk.cell (Many.blk HM.out 2 _ _ _ rfl) 2 _ rfl
                    have oof2 := Blk.frozen (Many.blk HM.out 2 _ _ _ rfl) 2
                    have qq0 := Blk.cell (Many.blk HM.out 3 _ _ _ rfl) 0 _ rfl
                    have qq1 := Blk.cell (Many.blk HM.out 3 _ _ _ rfl) 1 _ rfl
                    have qq2 := Blk.cell (Many.blk HM.out 3 _ _ _ rfl) 2 _ rfl
                    go_upto_region 30 with fail
                    obtain ⟨W9, hW9⟩ : ∃ W', (((W8.setCell ⟨gp, 0, none⟩ (.int .i64 x0)).setCell ⟨gp, 1, none⟩ (.int .i64 x1)).setCell ⟨gp, 2, none⟩ (.bool true)) = W' := ⟨_, rfl⟩
                    have HM0 : Aside0 (Many w [(w.heap.size, 24, #[.int .i64 c0, .int .i64 c1, .int .i64 c2, .int .i64 c3, .int .i64 c4, .int .i64 c5, .int .i64 c6, .int .i64 cap, .slice A l.length cc]), (gp, 28, #[.int .i64 x0, .int .i64 x1, .bool true]), (go, 28, #[.int .i64 x0, .int .i64 x1, .bool true]), (gq, 28, #[.int .i64 x0, .int .i64 x1, .bool true])] W9) := ⟨by rw [← hW9]; exact Many.set HM.out 1 gp 28 _ rfl [.int .i64 x0, .int .i64 x1, .bool true] rfl (by have q := HG.out; omega) (by intro j g' t' cs' hj hne; match j, hj with | 0, hj => (simp at hj; obtain ⟨rfl, rfl, rfl⟩ := hj; first | exact absurd rfl hne | (have q := HG.out; omega)) | 1, hj => (simp at hj; obtain ⟨rfl, rfl, rfl⟩ := hj; first | exact absurd rfl hne | (have q := HG.out; omega)) | 2, hj => (simp at hj; obtain ⟨rfl, rfl, rfl⟩ := hj; first | exact absurd rfl hne | (have q := HG.out; omega)) | 3, hj => (simp at hj; obtain ⟨rfl, rfl, rfl⟩ := hj; first | exact absurd rfl hne | (have q := HG.out; omega)) | (j + 4), hj => (simp at hj))⟩
                    rw [hW9]
                    clear hW9 kc0 kc1 kc2 kc3 kc4 kc5 kc6 kc7 kc8 pp0 pp1 pp2 oo0 oo1 oo2 qq0 qq1 qq2 ppf0 ppf1 ppf2 oof0 oof1 oof2 HM
                    have HM := HM0
                    clear HM0
                    have kc0 := Blk.cell (Many.blk HM.out 0 _ _ _ rfl) 0 _ rfl
                    have kc1 := Blk.cell (Many.blk HM.out 0 _ _ _ rfl) 1 _ rfl
                    have kc2 := Blk.cell (Many.blk HM.out 0 _ _ _ rfl) 2 _ rfl
                    have kc3 := Blk.cell (Many.blk HM.out 0 _ _ _ rfl) 3 _ rfl
                    have kc4 := Blk.cell (Many.blk HM.out 0 _ _ _ rfl) 4 _ rfl
                    have kc5 := Blk.cell (Many.blk HM.out 0 _ _ _ rfl) 5 _ rfl
                    have kc6 := Blk.cell (Many.blk HM.out 0 _ _ _ rfl) 6 _ rfl
                    have kc7 := Blk.cell (Many.blk HM.out 0 _ _ _ rfl) 7 _ rfl
                    have kc8 := Blk.cell (Many.blk HM.out 0 _ _ _ rfl) 8 _ rfl
                    have pp0 := Blk.cell (Many.blk HM.out 1 _ _ _ rfl) 0 _ rfl
                    have ppf0 := Blk.frozen (Many.blk HM.out 1 _ _ _ rfl) 0
                    have pp1 := Blk.cell (Many.blk HM.out 1 _ _ _ rfl) 1 _ rfl
                    have ppf1 := Blk.frozen (Many.blk HM.out 1 _ _ _ rfl) 1
                    have pp2 := Blk.cell (Many.blk HM.out 1 _ _ _ rfl) 2 _ rfl
                    have ppf2 := Blk.frozen (Many.blk HM.out 1 _ _ _ rfl) 2
                    have oo0 := Blk.cell (Many.blk HM.out 2 _ _ _ rfl) 0 _ rfl
                    have oof0 := Blk.frozen (Many.blk HM.out 2 _ _ _ rfl) 0
                    have oo1 := Blk.cell (Many.blk HM.out 2 _ _ _ rfl) 1 _ rfl
                    have oof1 := Blk.frozen (Many.blk HM.out 2 _ _ _ rfl) 1
                    have oo2 := Blk.cell (Many.blk HM.out 2 _ _ _ rfl) 2 _ rfl
                    have oof2 := Blk.frozen (Many.blk HM.out 2 _ _ _ rfl) 2
                    have qq0 := Blk.cell (Many.blk HM.out 3 _ _ _ rfl) 0 _ rfl
                    have qq1 := Blk.cell (Many.blk HM.out 3 _ _ _ rfl) 1 _ rfl
                    have qq2 := Blk.cell (Many.blk HM.out 3 _ _ _ rfl) 2 _ rfl
                    have HT0 := HT.out
                    obtain ⟨⟨a0, a1, a2, a3, b0, b1, b2, b3, b4, w0, w1, w2, w3⟩, n1, n2, n3⟩ := HF2.out
                    obtain ⟨g0, g1, g5, g6⟩ := HCF.out
                    have hnb := HNB.out
                    have gA : wrap64 (t - al) = t - al := wrap_id (by omega) (by omega)
                    have gB : wrap64 (c0 + c1) = c0 + c1 := wrap_id (by omega) (by omega)
                    have gC : wrap64 (t - wa) = t - wa := wrap_id (by omega) (by omega)
                    have gD : wrap64 (c5 + c6) = c5 + c6 := wrap_id (by omega) (by omega)
                    have gE : wrap64 (t + 1) = t + 1 := wrap_id (by omega) (by omega)
                    have dd31 : decide (t - al > c0 + c1) = false := decide_eq_false (by omega)
                    have de31 : decide (c0 + c1 < t - al) = false := decide_eq_false (by omega)
                    have dd32 : decide (wa ≥ 0) = true := decide_eq_true (by omega)
                    have de32 : decide (0 ≤ wa) = true := decide_eq_true (by omega)
                    have dd33 : decide (t - wa > c5 + c6) = false := decide_eq_false (by omega)
                    have de33 : decide (c5 + c6 < t - wa) = false := decide_eq_false (by omega)
                    clear a0 a1 a2 a3 b0 b1 b2 b3 b4 w0 w1 w2 w3 n1 n2 n3 g0 g1 g5 g6 hnb HT0
                    go_wp2
                    go_roundg (gk - 1)
                    case measure => have := HT.out; have := HLT.out; omega
                    case rel => exact ⟨_, _, _, t + 1, _, _, _, rfl, rfl, rfl, (by first | rfl | rw [gE]), ⟨by have := HT.out; have := HLT.out; omega⟩, ⟨HF2.out.next⟩, ⟨Many.two HM.out⟩⟩
                  · have HF2 := Aside0.mk hm1
                    obtain ⟨⟨a0, a1, a2, a3, b0, b1, b2, b3, b4, w0, w1, w2, w3⟩, n1, n2, n3⟩ := HF1.out
                    obtain ⟨g0, g1, g5, g6⟩ := HCF.out
                    have hnb := HNB.out
                    have hlt0 := HLT.out
                    have gH : wrap64 (t - tl) = t - tl := wrap_id (by omega) (by omega)
                    have dd34 : decide (t - tl < c5) = false := decide_eq_false (by omega)
                    have de34 : decide (c5 > t - tl) = false := decide_eq_false (by omega)
                    clear hm1 hq a0 a1 a2 a3 b0 b1 b2 b3 b4 w0 w1 w2 w3 n1 n2 n3 g0 g1 g5 g6 hnb hlt0
                    go_upto_region 29 with (go_at_call 12; ((with_reducible refine (waywardenlaw15_num.calls _ _ _ rfl).mono ?_); rintro e w9 ⟨rfl, hd⟩; have hb := hd.below; clear hd; have HM := Aside0.mk (Many.later HM.out hb); (try clear kc0 kc1 kc2 kc3 kc4 kc5 kc6 kc7 kc8 pp0 pp1 pp2 oo0 oo1 oo2 qq0 qq1 qq2 ppf0 ppf1 ppf2 oof0 oof1 oof2); have kc0 := Blk.cell (Many.blk HM.out 0 _ _ _ rfl) 0 _ rfl; have kc1 := Blk.cell (Many.blk HM.out 0 _ _ _ rfl) 1 _ rfl; have kc2 := Blk.cell (Many.blk HM.out 0 _ _ _ rfl) 2 _ rfl; have kc3 := Blk.cell (Many.blk HM.out 0 _ _ _ rfl) 3 _ rfl; have kc4 := Blk.cell (Many.blk HM.out 0 _ _ _ rfl) 4 _ rfl; have kc5 := Blk.cell (Many.blk HM.out 0 _ _ _ rfl) 5 _ rfl; have kc6 := Blk.cell (Many.blk HM.out 0 _ _ _ rfl) 6 _ rfl; have kc7 := Blk.cell (Many.blk HM.out 0 _ _ _ rfl) 7 _ rfl; have kc8 := Blk.cell (Many.blk HM.out 0 _ _ _ rfl) 8 _ rfl; have pp0 := Blk.cell (Many.blk HM.out 1 _ _ _ rfl) 0 _ rfl; have ppf0 := Blk.frozen (Many.blk HM.out 1 _ _ _ rfl) 0; have pp1 := Blk.cell (Many.blk HM.out 1 _ _ _ rfl) 1 _ rfl; have ppf1 := Blk.frozen (Many.blk HM.out 1 _ _ _ rfl) 1; have pp2 := Blk.cell (Many.blk HM.out 1 _ _ _ rfl) 2 _ rfl; have ppf2 := Blk.frozen (Many.blk HM.out 1 _ _ _ rfl) 2; have oo0 := Blk.cell (Many.blk HM.out 2 _ _ _ rfl) 0 _ rfl; have oof0 := Blk.frozen (Many.blk HM.out 2 _ _ _ rfl) 0; have oo1 := Blk.cell (Many.blk HM.out 2 _ _ _ rfl) 1 _ rfl; have oof1 := Blk.frozen (Many.blk HM.out 2 _ _ _ rfl) 1; have oo2 := Blk.cell (Many.blk HM.out 2 _ _ _ rfl) 2 _ rfl; have oof2 := Blk.frozen (Many.blk HM.out 2 _ _ _ rfl) 2; have qq0 := Blk.cell (Many.blk HM.out 3 _ _ _ rfl) 0 _ rfl; have qq1 := Blk.cell (Many.blk HM.out 3 _ _ _ rfl) 1 _ rfl; have qq2 := Blk.cell (Many.blk HM.out 3 _ _ _ rfl) 2 _ rfl; clear hb))
                    obtain ⟨W8, hW8⟩ : ∃ W', (((w9.setCell ⟨go, 0, none⟩ (.int .i64 x0)).setCell ⟨go, 1, none⟩ (.int .i64 y1)).setCell ⟨go, 2, none⟩ (.bool false)) = W' := ⟨_, rfl⟩
                    have HM0 : Aside0 (Many w [(w.heap.size, 24, #[.int .i64 c0, .int .i64 c1, .int .i64 c2, .int .i64 c3, .int .i64 c4, .int .i64 c5, .int .i64 c6, .int .i64 cap, .slice A l.length cc]), (gp, 28, #[.int .i64 u0, .int .i64 u1, .bool u2]), (go, 28, #[.int .i64 x0, .int .i64 y1, .bool false]), (gq, 28, #[.int .i64 x0, .int .i64 y1, .bool false])] W8) := ⟨by rw [← hW8]; exact Many.set HM.out 2 go 28 _ rfl [.int .i64 x0, .int .i64 y1, .bool false] rfl (by have q := HG.out; omega) (by intro j g' t' cs' hj hne; match j, hj with | 0, hj => (simp at hj; obtain ⟨rfl, rfl, rfl⟩ := hj; first | exact absurd rfl hne | (have q := HG.out; omega)) | 1, hj => (simp at hj; obtain ⟨rfl, rfl, rfl⟩ := hj; first | exact absurd rfl hne | (have q := HG.out; omega)) | 2, hj => (simp at hj; obtain ⟨rfl, rfl, rfl⟩ := hj; first | exact absurd rfl hne | (have q := HG.out; omega)) | 3, hj => (simp at hj; obtain ⟨rfl, rfl, rfl⟩ := hj; first | exact absurd rfl hne | (have q := HG.out; omega)) | (j + 4), hj => (simp at hj))⟩
                    rw [hW8]
                    clear hW8 kc0 kc1 kc2 kc3 kc4 kc5 kc6 kc7 kc8 pp0 pp1 pp2 oo0 oo1 oo2 qq0 qq1 qq2 ppf0 ppf1 ppf2 oof0 oof1 oof2 HM
                    have HM := HM0
                    clear HM0
                    have kc0 := Blk.cell (Many.blk HM.out 0 _ _ _ rfl) 0 _ rfl
                    have kc1 := Blk.cell (Many.blk HM.out 0 _ _ _ rfl) 1 _ rfl
                    have kc2 := Blk.cell (Many.blk HM.out 0 _ _ _ rfl) 2 _ rfl
                    have kc3 := Blk.cell (Many.blk HM.out 0 _ _ _ rfl) 3 _ rfl
                    have kc4 := Blk.cell (Many.blk HM.out 0 _ _ _ rfl) 4 _ rfl
                    have kc5 := Blk.cell (Many.blk HM.out 0 _ _ _ rfl) 5 _ rfl
                    have kc6 := Blk.cell (Many.blk HM.out 0 _ _ _ rfl) 6 _ rfl
                    have kc7 := Blk.cell (Many.blk HM.out 0 _ _ _ rfl) 7 _ rfl
                    have kc8 := Blk.cell (Many.blk HM.out 0 _ _ _ rfl) 8 _ rfl
                    have pp0 := Blk.cell (Many.blk HM.out 1 _ _ _ rfl) 0 _ rfl
                    have ppf0 := Blk.frozen (Many.blk HM.out 1 _ _ _ rfl) 0
                    have pp1 := Blk.cell (Many.blk HM.out 1 _ _ _ rfl) 1 _ rfl
                    have ppf1 := Blk.frozen (Many.blk HM.out 1 _ _ _ rfl) 1
                    have pp2 := Blk.cell (Many.blk HM.out 1 _ _ _ rfl) 2 _ rfl
                    have ppf2 := Blk.frozen (Many.blk HM.out 1 _ _ _ rfl) 2
                    have oo0 := Blk.cell (Many.blk HM.out 2 _ _ _ rfl) 0 _ rfl
                    have oof0 := Blk.frozen (Many.blk HM.out 2 _ _ _ rfl) 0
                    have oo1 := Blk.cell (Many.blk HM.out 2 _ _ _ rfl) 1 _ rfl
                    have oof1 := Blk.frozen (Many.blk HM.out 2 _ _ _ rfl) 1
                    have oo2 := Blk.cell (Many.blk HM.out 2 _ _ _ rfl) 2 _ rfl
                    have oof2 := Blk.frozen (Many.blk HM.out 2 _ _ _ rfl) 2
                    have qq0 := Blk.cell (Many.blk HM.out 3 _ _ _ rfl) 0 _ rfl
                    have qq1 := Blk.cell (Many.blk HM.out 3 _ _ _ rfl) 1 _ rfl
                    have qq2 := Blk.cell (Many.blk HM.out 3 _ _ _ rfl) 2 _ rfl
                    go_upto_region 30 with fail
                    obtain ⟨W9, hW9⟩ : ∃ W', (((W8.setCell ⟨gp, 0, none⟩ (.int .i64 x0)).setCell ⟨gp, 1, none⟩ (.int .i64 y1)).setCell ⟨gp, 2, none⟩ (.bool false)) = W' := ⟨_, rfl⟩
                    have HM0 : Aside0 (Many w [(w.heap.size, 24, #[.int .i64 c0, .int .i64 c1, .int .i64 c2, .int .i64 c3, .int .i64 c4, .int .i64 c5, .int .i64 c6, .int .i64 cap, .slice A l.length cc]), (gp, 28, #[.int .i64 x0, .int .i64 y1, .bool false]), (go, 28, #[.int .i64 x0, .int .i64 y1, .bool false]), (gq, 28, #[.int .i64 x0, .int .i64 y1, .bool false])] W9) := ⟨by rw [← hW9]; exact Many.set HM.out 1 gp 28 _ rfl [.int .i64 x0, .int .i64 y1, .bool false] rfl (by have q := HG.out; omega) (by intro j g' t' cs' hj hne; match j, hj with | 0, hj => (simp at hj; obtain ⟨rfl, rfl, rfl⟩ := hj; first | exact absurd rfl hne | (have q := HG.out; omega)) | 1, hj => (simp at hj; obtain ⟨rfl, rfl, rfl⟩ := hj; first | exact absurd rfl hne | (have q := HG.out; omega)) | 2, hj => (simp at hj; obtain ⟨rfl, rfl, rfl⟩ := hj; first | exact absurd rfl hne | (have q := HG.out; omega)) | 3, hj => (simp at hj; obtain ⟨rfl, rfl, rfl⟩ := hj; first | exact absurd rfl hne | (have q := HG.out; omega)) | (j + 4), hj => (simp at hj))⟩
                    rw [hW9]
                    clear hW9 kc0 kc1 kc2 kc3 kc4 kc5 kc6 kc7 kc8 pp0 pp1 pp2 oo0 oo1 oo2 qq0 qq1 qq2 ppf0 ppf1 ppf2 oof0 oof1 oof2 HM
                    have HM := HM0
                    clear HM0
                    have kc0 := Blk.cell (Many.blk HM.out 0 _ _ _ rfl) 0 _ rfl
                    have kc1 := Blk.cell (Many.blk HM.out 0 _ _ _ rfl) 1 _ rfl
                    have kc2 := Blk.cell (Many.blk HM.out 0 _ _ _ rfl) 2 _ rfl
                    have kc3 := Blk.cell (Many.blk HM.out 0 _ _ _ rfl) 3 _ rfl
                    have kc4 := Blk.cell (Many.blk HM.out 0 _ _ _ rfl) 4 _ rfl
                    have kc5 := Blk.cell (Many.blk HM.out 0 _ _ _ rfl) 5 _ rfl
                    have kc6 := Blk.cell (Many.blk HM.out 0 _ _ _ rfl) 6 _ rfl
                    have kc7 := Blk.cell (Many.blk HM.out 0 _ _ _ rfl) 7 _ rfl
                    have kc8 := Blk.cell (Many.blk HM.out 0 _ _ _ rfl) 8 _ rfl
                    have pp0 := Blk.cell (Many.blk HM.out 1 _ _ _ rfl) 0 _ rfl
                    have ppf0 := Blk.frozen (Many.blk HM.out 1 _ _ _ rfl) 0
                    have pp1 := Blk.cell (Many.blk HM.out 1 _ _ _ rfl) 1 _ rfl
                    have ppf1 := Blk.frozen (Many.blk HM.out 1 _ _ _ rfl) 1
                    have pp2 := Blk.cell (Many.blk HM.out 1 _ _ _ rfl) 2 _ rfl
                    have ppf2 := Blk.frozen (Many.blk HM.out 1 _ _ _ rfl) 2
                    have oo0 := Blk.cell (Many.blk HM.out 2 _ _ _ rfl) 0 _ rfl
                    have oof0 := Blk.frozen (Many.blk HM.out 2 _ _ _ rfl) 0
                    have oo1 := Blk.cell (Many.blk HM.out 2 _ _ _ rfl) 1 _ rfl
                    have oof1 := Blk.frozen (Many.blk HM.out 2 _ _ _ rfl) 1
                    have oo2 := Blk.cell (Many.blk HM.out 2 _ _ _ rfl) 2 _ rfl
                    have oof2 := Blk.frozen (Many.blk HM.out 2 _ _ _ rfl) 2
                    have qq0 := Blk.cell (Many.blk HM.out 3 _ _ _ rfl) 0 _ rfl
                    have qq1 := Blk.cell (Many.blk HM.out 3 _ _ _ rfl) 1 _ rfl
                    have qq2 := Blk.cell (Many.blk HM.out 3 _ _ _ rfl) 2 _ rfl
                    have HT0 := HT.out
                    obtain ⟨⟨a0, a1, a2, a3, b0, b1, b2, b3, b4, w0, w1, w2, w3⟩, n1, n2, n3⟩ := HF2.out
                    obtain ⟨g0, g1, g5, g6⟩ := HCF.out
                    have hnb := HNB.out
                    have gA : wrap64 (t - al) = t - al := wrap_id (by omega) (by omega)
                    have gB : wrap64 (c0 + c1) = c0 + c1 := wrap_id (by omega) (by omega)
                    have gC : wrap64 (t - (-1)) = t - (-1) := wrap_id (by omega) (by omega)
                    have gD : wrap64 (c5 + c6) = c5 + c6 := wrap_id (by omega) (by omega)
                    have gE : wrap64 (t + 1) = t + 1 := wrap_id (by omega) (by omega)
                    have dd35 : decide (t - al > c0 + c1) = false := decide_eq_false (by omega)
                    have de35 : decide (c0 + c1 < t - al) = false := decide_eq_false (by omega)
                    have dd36 : decide ((-1) ≥ 0) = false := decide_eq_false (by omega)
                    have de36 : decide (0 ≤ (-1)) = false := decide_eq_false (by omega)
                    clear a0 a1 a2 a3 b0 b1 b2 b3 b4 w0 w1 w2 w3 n1 n2 n3 g0 g1 g5 g6 hnb HT0
                    go_wp2
                    go_roundg (gk - 1)
                    case measure => have := HT.out; have := HLT.out; omega
                    case rel => exact ⟨_, _, _, t + 1, _, _, _, rfl, rfl, rfl, (by first | rfl | rw [gE]), ⟨by have := HT.out; have := HLT.out; omega⟩, ⟨HF2.out.next⟩, ⟨Many.two HM.out⟩⟩
          · as_aux_lemma =>
              have hx2 := hm1.inv.w3
              rw [decide_eq_false hw0] at hx2
              subst hx2
              have HF1 := Aside0.mk hm1
              have HW0 := Aside0.mk hw0
              clear hm1 hq
              go_upto_region 20 with (go_at_call 12; ((with_reducible refine (waywardenlaw15_num.calls _ _ _ rfl).mono ?_); rintro e w9 ⟨rfl, hd⟩; have hb := hd.below; clear hd; have HM := Aside0.mk (Many.later HM.out hb); (try clear kc0 kc1 kc2 kc3 kc4 kc5 kc6 kc7 kc8 pp0 pp1 pp2 oo0 oo1 oo2 ppf0 ppf1 ppf2 oof0 oof1 oof2); have kc0 := Blk.cell (Many.blk HM.out 0 _ _ _ rfl) 0 _ rfl; have kc1 := Blk.cell (Many.blk HM.out 0 _ _ _ rfl) 1 _ rfl; have kc2 := Blk.cell (Many.blk HM.out 0 _ _ _ rfl) 2 _ rfl; have kc3 := Blk.cell (Many.blk HM.out 0 _ _ _ rfl) 3 _ rfl; have kc4 := Blk.cell (Many.blk HM.out 0 _ _ _ rfl) 4 _ rfl; have kc5 := Blk.cell (Many.blk HM.out 0 _ _ _ rfl) 5 _ rfl; have kc6 := Blk.cell (Many.blk HM.out 0 _ _ _ rfl) 6 _ rfl; have kc7 := Blk.cell (Many.blk HM.out 0 _ _ _ rfl) 7 _ rfl; have kc8 := Blk.cell (Many.blk HM.out 0 _ _ _ rfl) 8 _ rfl; have pp0 := Blk.cell (Many.blk HM.out 1 _ _ _ rfl) 0 _ rfl; have ppf0 := Blk.frozen (Many.blk HM.out 1 _ _ _ rfl) 0; have pp1 := Blk.cell (Many.blk HM.out 1 _ _ _ rfl) 1 _ rfl; have ppf1 := Blk.frozen (Many.blk HM.out 1 _ _ _ rfl) 1; have pp2 := Blk.cell (Many.blk HM.out 1 _ _ _ rfl) 2 _ rfl; have ppf2 := Blk.frozen (Many.blk HM.out 1 _ _ _ rfl) 2; have oo0 := Blk.cell (Many.blk HM.out 2 _ _ _ rfl) 0 _ rfl; have oof0 := Blk.frozen (Many.blk HM.out 2 _ _ _ rfl) 0; have oo1 := Blk.cell (Many.blk HM.out 2 _ _ _ rfl) 1 _ rfl; have oof1 := Blk.frozen (Many.blk HM.out 2 _ _ _ rfl) 1; have oo2 := Blk.cell (Many.blk HM.out 2 _ _ _ rfl) 2 _ rfl; have oof2 := Blk.frozen (Many.blk HM.out 2 _ _ _ rfl) 2; clear hb))
              obtain ⟨adc, ec, hxc⟩ := Kd.at_bool (Kd.C_below HCH.out HM.out.bel) t HT.out.2 (by have := HNB.out; have := HLT.out; omega)
              cases ec
              cases hb : rdOf false ch t
              · rw [hb] at hxc
                go_upto_region 30 with fail
                obtain ⟨W9, hW9⟩ : ∃ W', (((w9.setCell ⟨gp, 0, none⟩ (.int .i64 x0)).setCell ⟨gp, 1, none⟩ (.int .i64 x1)).setCell ⟨gp, 2, none⟩ (.bool false)) = W' := ⟨_, rfl⟩
                have HM0 : Aside0 (Many w [(w.heap.size, 24, #[.int .i64 c0, .int .i64 c1, .int .i64 c2, .int .i64 c3, .int .i64 c4, .int .i64 c5, .int .i64 c6, .int .i64 cap, .slice A l.length cc]), (gp, 28, #[.int .i64 x0, .int .i64 x1, .bool false]), (go, 28, #[.int .i64 x0, .int .i64 x1, .bool false])] W9) := ⟨by rw [← hW9]; exact Many.set HM.out 1 gp 28 _ rfl [.int .i64 x0, .int .i64 x1, .bool false] rfl (by have q := HG.out; omega) (by intro j g' t' cs' hj hne; match j, hj with | 0, hj => (simp at hj; obtain ⟨rfl, rfl, rfl⟩ := hj; first | exact absurd rfl hne | (have q := HG.out; omega)) | 1, hj => (simp at hj; obtain ⟨rfl, rfl, rfl⟩ := hj; first | exact absurd rfl hne | (have q := HG.out; omega)) | 2, hj => (simp at hj; obtain ⟨rfl, rfl, rfl⟩ := hj; first | exact absurd rfl hne | (have q := HG.out; omega)) | (j + 3), hj => (simp at hj))⟩
                rw [hW9]
                clear hW9 kc0 kc1 kc2 kc3 kc4 kc5 kc6 kc7 kc8 pp0 pp1 pp2 oo0 oo1 oo2 ppf0 ppf1 ppf2 oof0 oof1 oof2 HM
                have HM := HM0
                clear HM0
                have kc0 := Blk.cell (Many.blk HM.out 0 _ _ _ rfl) 0 _ rfl
                have kc1 := Blk.cell (Many.blk HM.out 0 _ _ _ rfl) 1 _ rfl
                have kc2 := Blk.cell (Many.blk HM.out 0 _ _ _ rfl) 2 _ rfl
                have kc3 := Blk.cell (Many.blk HM.out 0 _ _ _ rfl) 3 _ rfl
                have kc4 := Blk.cell (Many.blk HM.out 0 _ _ _ rfl) 4 _ rfl
                have kc5 := Blk.cell (Many.blk HM.out 0 _ _ _ rfl) 5 _ rfl
                have kc6 := Blk.cell (Many.blk HM.out 0 _ _ _ rfl) 6 _ rfl
                have kc7 := Blk.cell (Many.blk HM.out 0 _ _ _ rfl) 7 _ rfl
                have kc8 := Blk.cell (Many.blk HM.out 0 _ _ _ rfl) 8 _ rfl
                have pp0 := Blk.cell (Many.blk HM.out 1 _ _ _ rfl) 0 _ rfl
                have ppf0 := Blk.frozen (Many.blk HM.out 1 _ _ _ rfl) 0
                have pp1 := Blk.cell (Many.blk HM.out 1 _ _ _ rfl) 1 _ rfl
                have ppf1 := Blk.frozen (Many.blk HM.out 1 _ _ _ rfl) 1
                have pp2 := Blk.cell (Many.blk HM.out 1 _ _ _ rfl) 2 _ rfl
                have ppf2 := Blk.frozen (Many.blk HM.out 1 _ _ _ rfl) 2
                have oo0 := Blk.cell (Many.blk HM.out 2 _ _ _ rfl) 0 _ rfl
                have oof0 := Blk.frozen (Many.blk HM.out 2 _ _ _ rfl) 0
                have oo1 := Blk.cell (Many.blk HM.out 2 _ _ _ rfl) 1 _ rfl
                have oof1 := Blk.frozen (Many.blk HM.out 2 _ _ _ rfl) 1
                have oo2 := Blk.cell (Many.blk HM.out 2 _ _ _ rfl) 2 _ rfl
                have oof2 := Blk.frozen (Many.blk HM.out 2 _ _ _ rfl) 2
                have HT0 := HT.out
                obtain ⟨⟨a0, a1, a2, a3, b0, b1, b2, b3, b4, w0, w1, w2, w3⟩, n1, n2, n3⟩ := HF1.out
                obtain ⟨g0, g1, g5, g6⟩ := HCF.out
                have hnb := HNB.out
                have gA : wrap64 (t - al) = t - al := wrap_id (by omega) (by omega)
                have gB : wrap64 (c0 + c1) = c0 + c1 := wrap_id (by omega) (by omega)
                have gC : wrap64 (t - wa) = t - wa := wrap_id (by omega) (by omega)
                have gD : wrap64 (c5 + c6) = c5 + c6 := wrap_id (by omega) (by omega)
                have gE : wrap64 (t + 1) = t + 1 := wrap_id (by omega) (by omega)
                have dd37 : decide (t - al > c0 + c1) = false := decide_eq_false (by omega)
                have de37 : decide (c0 + c1 < t - al) = false := decide_eq_false (by omega)
                have dd38 : decide (wa ≥ 0) = false := decide_eq_false (by omega)
                have de38 : decide (0 ≤ wa) = false := decide_eq_false (by omega)
                clear a0 a1 a2 a3 b0 b1 b2 b3 b4 w0 w1 w2 w3 n1 n2 n3 g0 g1 g5 g6 hnb HT0
                go_wp2
                go_roundg (gk - 1)
                case measure => have := HT.out; have := HLT.out; omega
                case rel => exact ⟨_, _, _, t + 1, _, _, _, rfl, rfl, rfl, (by first | rfl | rw [gE]), ⟨by have := HT.out; have := HLT.out; omega⟩, ⟨HF1.out.next⟩, ⟨Many.two HM.out⟩⟩
              · rw [hb] at hxc
                have HP2 : Aside0 (pulseOk x0 x1 = true) := ⟨HF1.out.inv.ok HCF.out (by have := HNB.out; have := HLT.out; omega)⟩
                obtain ⟨y1, f1⟩ : ∃ x, chU1 x1 t (c5 + clampN (rd dr t) c6) = x := ⟨_, rfl⟩
                obtain ⟨y2, f2⟩ : ∃ x, decide (t < x1) = x := ⟨_, rfl⟩
                obtain ⟨m, f3⟩ : ∃ x, chK x1 t = x := ⟨_, rfl⟩
                have hC : (m = 0 ∧ x1 = y1 ∧ y2 = true ∧ (wa < 0 → HMid c0 c1 c5 c6 al tl t t x0 x1 true) ∧ (0 ≤ wa → HMid c0 c1 c5 c6 al tl wa t x0 x1 true)) ∨ (m = 1 ∧ y2 = false ∧ HMid c0 c1 c5 c6 al t (-1) t x0 y1 false ∧ tl + c5 ≤ t) := by
                  have ht := HT.out.2
                  by_cases hq : t < x1
                  · have hh := change_lt HF1.out HCF.out hq ht
                    refine .inl ⟨by rw [← f3]; unfold chK; rw [if_pos hq], by rw [← f1]; unfold chU1; rw [if_pos hq], by rw [← f2]; exact decide_eq_true hq, hh.1, hh.2⟩
                  · have hh := change_ge (d := rd dr t) HF1.out HCF.out (by omega)
                    refine .inr ⟨by rw [← f3]; unfold chK; rw [if_neg hq], by rw [← f2]; exact decide_eq_false hq, ?_, hh.2⟩
                    rw [← f1]; unfold chU1; rw [if_neg hq]; exact hh.1
                have F1 := Aside0.mk f1
                have F2 := Aside0.mk f2
                have F3 := Aside0.mk f3
                have HCC := Aside0.mk hC
                clear f1 f2 f3 hC
                go_upto_region 21 with fail
                have kc0' : ∀ w' : World, Below w9.heap.size w9 w' → w'.cell? ⟨w.heap.size, 0, none⟩ = some (.int .i64 c0) := fun w' h => Blk.cell (Blk.later (Many.blk HM.out 0 _ _ _ rfl) h) 0 _ rfl
                have kc1' : ∀ w' : World, Below w9.heap.size w9 w' → w'.cell? ⟨w.heap.size, 1, none⟩ = some (.int .i64 c1) := fun w' h => Blk.cell (Blk.later (Many.blk HM.out 0 _ _ _ rfl) h) 1 _ rfl
                have kc2' : ∀ w' : World, Below w9.heap.size w9 w' → w'.cell? ⟨w.heap.size, 2, none⟩ = some (.int .i64 c2) := fun w' h => Blk.cell (Blk.later (Many.blk HM.out 0 _ _ _ rfl) h) 2 _ rfl
                have kc3' : ∀ w' : World, Below w9.heap.size w9 w' → w'.cell? ⟨w.heap.size, 3, none⟩ = some (.int .i64 c3) := fun w' h => Blk.cell (Blk.later (Many.blk HM.out 0 _ _ _ rfl) h) 3 _ rfl
                have kc4' : ∀ w' : World, Below w9.heap.size w9 w' → w'.cell? ⟨w.heap.size, 4, none⟩ = some (.int .i64 c4) := fun w' h => Blk.cell (Blk.later (Many.blk HM.out 0 _ _ _ rfl) h) 4 _ rfl
                have kc5' : ∀ w' : World, Below w9.heap.size w9 w' → w'.cell? ⟨w.heap.size, 5, none⟩ = some (.int .i64 c5) := fun w' h => Blk.cell (Blk.later (Many.blk HM.out 0 _ _ _ rfl) h) 5 _ rfl
                have kc6' : ∀ w' : World, Below w9.heap.size w9 w' → w'.cell? ⟨w.heap.size, 6, none⟩ = some (.int .i64 c6) := fun w' h => Blk.cell (Blk.later (Many.blk HM.out 0 _ _ _ rfl) h) 6 _ rfl
                have kc7' : ∀ w' : World, Below w9.heap.size w9 w' → w'.cell? ⟨w.heap.size, 7, none⟩ = some (.int .i64 cap) := fun w' h => Blk.cell (Blk.later (Many.blk HM.out 0 _ _ _ rfl) h) 7 _ rfl
                have kc8' : ∀ w' : World, Below w9.heap.size w9 w' → w'.cell? ⟨w.heap.size, 8, none⟩ = some (.slice A l.length cc) := fun w' h => Blk.cell (Blk.later (Many.blk HM.out 0 _ _ _ rfl) h) 8 _ rfl
                have pp0' : ∀ w' : World, Below w9.heap.size w9 w' → w'.cell? ⟨gp, 0, none⟩ = some (.int .i64 u0) := fun w' h => Blk.cell (Blk.later (Many.blk HM.out 1 _ _ _ rfl) h) 0 _ rfl
                have pp1' : ∀ w' : World, Below w9.heap.size w9 w' → w'.cell? ⟨gp, 1, none⟩ = some (.int .i64 u1) := fun w' h => Blk.cell (Blk.later (Many.blk HM.out 1 _ _ _ rfl) h) 1 _ rfl
                have pp2' : ∀ w' : World, Below w9.heap.size w9 w' → w'.cell? ⟨gp, 2, none⟩ = some (.bool u2) := fun w' h => Blk.cell (Blk.later (Many.blk HM.out 1 _ _ _ rfl) h) 2 _ rfl
                have oo0' : ∀ w' : World, Below w9.heap.size w9 w' → w'.cell? ⟨go, 0, none⟩ = some (.int .i64 x0) := fun w' h => Blk.cell (Blk.later (Many.blk HM.out 2 _ _ _ rfl) h) 0 _ rfl
                have oo1' : ∀ w' : World, Below w9.heap.size w9 w' → w'.cell? ⟨go, 1, none⟩ = some (.int .i64 x1) := fun w' h => Blk.cell (Blk.later (Many.blk HM.out 2 _ _ _ rfl) h) 1 _ rfl
                have oo2' : ∀ w' : World, Below w9.heap.size w9 w' → w'.cell? ⟨go, 2, none⟩ = some (.bool false) := fun w' h => Blk.cell (Blk.later (Many.blk HM.out 2 _ _ _ rfl) h) 2 _ rfl
                have hx2 : w9.cell? (ad.add t.toNat) = some (.int .i64 (rd dr t)) := (HM.out.bel.cell (HAD.out)).trans HX0.out
                have hx' : ∀ w' : World, Below w9.heap.size w9 w' → w'.cell? (ad.add t.toNat) = some (.int .i64 (rd dr t)) := fun w' h => (h.cell (World.block_lt_of_cell? w9 _ hx2)).trans hx2
                clear hx2
                have hgw : go < w9.heap.size := World.block_lt_of_cell? w9 _ oo0
                have HGW := Aside0.mk hgw
                clear hgw
                have HRr := Aside0.mk (Kd.C_below HR.out HM.out.bel)
                go_cut [17, 18, 19] (fun v17 v18 v19 wx => ∃ gq : Nat, v17 = .pointer (some ⟨gq, 0, none⟩) ∧ w9.heap.size ≤ gq ∧ Blk wx gq 28 #[.int .i64 x0, .int .i64 y1, .bool y2] ∧ Below w9.heap.size w9 wx ∧ v18 = .int .i64 m ∧ v19 = .int .i64 0)
                case first =>
                  as_aux_lemma =>
                    clear kc0 kc1 kc2 kc3 kc4 kc5 kc6 kc7 kc8 pp0 pp1 pp2 oo0 oo1 oo2 ppf0 ppf1 ppf2 oof0 oof1 oof2
                    refine wp_region_held_drew (S := fun w' => Below w9.heap.size w9 w') (by kernel_rfl) ?sB4 (fun hHeld => ?rB4)
                    case sB4 => exact (below_drew (Below.refl w9.heap.size w9))
                    refine wpAnyH_take (i := 0) (oi := ?oB4_0_1) (v := ?vB4_0_1) ?iB4_0_1 (by kernel_rfl) (by kernel_rfl) (by kernel_rfl) ?qB4_0_1 ?yB4_0_1 hHeld ?nB4_0_1
                    case iB4_0_1 => (simp only [List.getElem?_toArray, List.getElem?_cons_succ, List.getElem?_cons_zero]; rfl)
                    case yB4_0_1 => (refine Or.inl ⟨by kernel_rfl, ?_⟩; intro w' hSw; (try dsimp only at hSw); first | (go_simp; done) | (go_simp; with_reducible rfl))
                    case qB4_0_1 => exact fun _ _ _ h => h
                    try simp only [Act.put, List.setIfInBounds_toArray, List.set_cons_zero, List.set_cons_succ]
                    refine wpAnyH_take (i := 1) (oi := ?oB4_1_2) (v := ?vB4_1_2) ?iB4_1_2 (by kernel_rfl) (by kernel_rfl) (by kernel_rfl) ?qB4_1_2 ?yB4_1_2 hHeld ?nB4_1_2
                    case iB4_1_2 => (simp only [List.getElem?_toArray, List.getElem?_cons_succ, List.getElem?_cons_zero]; rfl)
                    case yB4_1_2 => (refine Or.inl ⟨by kernel_rfl, ?_⟩; intro w' hSw; (try dsimp only at hSw); first | (go_simp; done) | (go_simp; with_reducible rfl))
                    case qB4_1_2 => exact fun _ _ _ h => h
                    try simp only [Act.put, List.setIfInBounds_toArray, List.set_cons_zero, List.set_cons_succ]
                    refine wpAnyH_take (i := 2) (oi := ?oB4_2_3) (v := ?vB4_2_3) ?iB4_2_3 (by kernel_rfl) (by kernel_rfl) (by kernel_rfl) ?qB4_2_3 ?yB4_2_3 hHeld ?nB4_2_3
                    case iB4_2_3 => (simp only [List.getElem?_toArray, List.getElem?_cons_succ, List.getElem?_cons_zero]; rfl)
                    case yB4_2_3 => (refine Or.inl ⟨by kernel_rfl, ?_⟩; intro w' hSw; (try dsimp only at hSw); first | (go_simp; done) | (go_simp; with_reducible rfl))
                    case qB4_2_3 => exact fun _ _ _ h => h
                    try simp only [Act.put, List.setIfInBounds_toArray, List.set_cons_zero, List.set_cons_succ]
                    refine wpAnyH_take (i := 3) (oi := ?oB4_3_4) (v := ?vB4_3_4) ?iB4_3_4 (by kernel_rfl) (by kernel_rfl) (by kernel_rfl) ?qB4_3_4 ?yB4_3_4 hHeld ?nB4_3_4
                    case iB4_3_4 => (simp only [List.getElem?_toArray, List.getElem?_cons_succ, List.getElem?_cons_zero]; rfl)
                    case yB4_3_4 => (refine Or.inl ⟨by kernel_rfl, ?_⟩; intro w' hSw; (try dsimp only at hSw); first | (go_simp; done) | (go_simp; with_reducible rfl))
                    case qB4_3_4 => exact fun _ _ _ h => h
                    try simp only [Act.put, List.setIfInBounds_toArray, List.set_cons_zero, List.set_cons_succ]
                    refine wpAnyH_take (i := 4) (oi := ?oB4_4_5) (v := ?vB4_4_5) ?iB4_4_5 (by kernel_rfl) (by kernel_rfl) (by kernel_rfl) ?qB4_4_5 ?yB4_4_5 hHeld ?nB4_4_5
                    case iB4_4_5 => (simp only [List.getElem?_toArray, List.getElem?_cons_succ, List.getElem?_cons_zero]; rfl)
                    case yB4_4_5 => (refine Or.inl ⟨by kernel_rfl, ?_⟩; intro w' hSw; (try dsimp only at hSw); first | (go_simp; done) | (go_simp; with_reducible rfl))
                    case qB4_4_5 => exact fun _ _ _ h => h
                    try simp only [Act.put, List.setIfInBounds_toArray, List.set_cons_zero, List.set_cons_succ]
                    refine wpAnyH_take (i := 5) (oi := ?oB4_5_6) (v := ?vB4_5_6) ?iB4_5_6 (by kernel_rfl) (by kernel_rfl) (by kernel_rfl) ?qB4_5_6 ?yB4_5_6 hHeld ?nB4_5_6
                    case iB4_5_6 => (simp only [List.getElem?_toArray, List.getElem?_cons_succ, List.getElem?_cons_zero]; rfl)
                    case yB4_5_6 => (refine Or.inl ⟨by kernel_rfl, ?_⟩; intro w' hSw; (try dsimp only at hSw); first | (go_simp; done) | (go_simp; with_reducible rfl))
                    case qB4_5_6 => exact fun _ _ _ h => h
                    try simp only [Act.put, List.setIfInBounds_toArray, List.set_cons_zero, List.set_cons_succ]
                    refine wpAnyH_take (i := 6) (oi := ?oB4_6_7) (v := ?vB4_6_7) ?iB4_6_7 (by kernel_rfl) (by kernel_rfl) (by kernel_rfl) ?qB4_6_7 ?yB4_6_7 hHeld ?nB4_6_7
                    case iB4_6_7 => (simp only [List.getElem?_toArray, List.getElem?_cons_succ, List.getElem?_cons_zero]; rfl)
                    case yB4_6_7 => (refine Or.inl ⟨by kernel_rfl, ?_⟩; intro w' hSw; (try dsimp only at hSw); first | (go_simp; done) | (go_simp; with_reducible rfl))
                    case qB4_6_7 => exact fun _ _ _ h => h
                    try simp only [Act.put, List.setIfInBounds_toArray, List.set_cons_zero, List.set_cons_succ]
                    refine wpAnyH_ready (rs := [7, 12]) (by kernel_rfl) (by simp) ?_
                    refine (AllReadyH.cons (o := ?oB4_7_8) ?iB4_7_8 (fun K hK => ?kB4_7_8) (AllReadyH.cons (o := ?oB4_12_8) ?iB4_12_8 (fun K hK => ?kB4_12_8) AllReadyH.nil))
                    case iB4_7_8 => (simp only [List.getElem?_toArray, List.getElem?_cons_succ, List.getElem?_cons_zero]; rfl)
                    case iB4_12_8 => (simp only [List.getElem?_toArray, List.getElem?_cons_succ, List.getElem?_cons_zero]; rfl)
                    case kB4_7_8 =>
                      go_simp
                      (with_reducible refine (change_yes c0 c1 c2 c3 c4 c5 c6 cap A l cc x0 x1 false t (rd dr t) _ (Kd.C_below HRr.out hHeld) hc HA.out hm HP2.out HN.out ⟨HT.out.2, HTB.out⟩).mono ?_); rw [F1.out, F2.out, F3.out]; rintro e w4 ⟨rfl, hb⟩; dsimp only
                      refine hK.out _ _ ?hB4_7_8 (fun hHeld2 => ?mB4_7_8)
                      case hB4_7_8 => exact thenB hHeld hHeld.size hb
                      clear hK K hHeld
                      have hHeld := hHeld2
                      clear hHeld2
                      try simp only [Act.put, List.setIfInBounds_toArray, List.set_cons_zero, List.set_cons_succ]
                      refine wpAnyH_take (i := 8) (oi := ?oB4_8_9) (v := ?vB4_8_9) ?iB4_8_9 (by kernel_rfl) (by kernel_rfl) (by kernel_rfl) ?qB4_8_9 ?yB4_8_9 hHeld ?nB4_8_9
                      case iB4_8_9 => (simp only [List.getElem?_toArray, List.getElem?_cons_succ, List.getElem?_cons_zero]; rfl)
                      case yB4_8_9 => (refine Or.inl ⟨by kernel_rfl, ?_⟩; intro w' hSw; (try dsimp only at hSw); first | (go_simp; done) | (go_simp; with_reducible rfl))
                      case qB4_8_9 => exact fun _ _ _ h => h
                      try simp only [Act.put, List.setIfInBounds_toArray, List.set_cons_zero, List.set_cons_succ]
                      refine wpAnyH_take (i := 9) (oi := ?oB4_9_10) (v := ?vB4_9_10) ?iB4_9_10 (by kernel_rfl) (by kernel_rfl) (by kernel_rfl) ?qB4_9_10 ?yB4_9_10 hHeld ?nB4_9_10
                      case iB4_9_10 => (simp only [List.getElem?_toArray, List.getElem?_cons_succ, List.getElem?_cons_zero]; rfl)
                      case yB4_9_10 => (refine Or.inl ⟨by kernel_rfl, ?_⟩; intro w' hSw; (try dsimp only at hSw); first | (go_simp; done) | (go_simp; with_reducible rfl))
                      case qB4_9_10 => exact fun _ _ _ h => h
                      try simp only [Act.put, List.setIfInBounds_toArray, List.set_cons_zero, List.set_cons_succ]
                      refine wpAnyH_take (i := 10) (oi := ?oB4_10_11) (v := ?vB4_10_11) ?iB4_10_11 (by kernel_rfl) (by kernel_rfl) (by kernel_rfl) ?qB4_10_11 ?yB4_10_11 hHeld ?nB4_10_11
                      case iB4_10_11 => (simp only [List.getElem?_toArray, List.getElem?_cons_succ, List.getElem?_cons_zero]; rfl)
                      case yB4_10_11 => (refine Or.inl ⟨by kernel_rfl, ?_⟩; intro w' hSw; (try dsimp only at hSw); first | (go_simp; done) | (go_simp; with_reducible rfl))
                      case qB4_10_11 => exact fun _ _ _ h => h
                      try simp only [Act.put, List.setIfInBounds_toArray, List.set_cons_zero, List.set_cons_succ]
                      refine wpAnyH_take (i := 11) (oi := ?oB4_11_12) (v := ?vB4_11_12) ?iB4_11_12 (by kernel_rfl) (by kernel_rfl) (by kernel_rfl) ?qB4_11_12 ?yB4_11_12 hHeld ?nB4_11_12
                      case iB4_11_12 => (simp only [List.getElem?_toArray, List.getElem?_cons_succ, List.getElem?_cons_zero]; rfl)
                      case yB4_11_12 => (refine Or.inl ⟨by kernel_rfl, ?_⟩; intro w' hSw; (try dsimp only at hSw); first | (go_simp; done) | (go_simp; with_reducible rfl))
                      case qB4_11_12 => exact fun _ _ _ h => h
                      try simp only [Act.put, List.setIfInBounds_toArray, List.set_cons_zero, List.set_cons_succ]
                      refine wpAnyH_ready (rs := [12]) (by kernel_rfl) (by simp) ?_
                      refine (AllReadyH.cons (o := ?oB4_12_13) ?iB4_12_13 (fun K hK => ?kB4_12_13) AllReadyH.nil)
                      case iB4_12_13 => (simp only [List.getElem?_toArray, List.getElem?_cons_succ, List.getElem?_cons_zero]; rfl)
                      case kB4_12_13 =>
                        go_simp
                        have H4 := Aside0.mk hHeld; have HO : Aside0 (Blk (w4.alloc (.cells #[.int .i64 0, .int .i64 0, .bool false] 28)) w4.heap.size 28 #[.int .i64 0, .int .i64 0, .bool false]) := ⟨Blk.new' w4 _ _ _ rfl⟩; have hle : w9.heap.size ≤ w4.heap.size := Below.size hHeld
                        refine hK.out _ _ ?hB4_12_13 (fun hHeld2 => ?mB4_12_13)
                        case hB4_12_13 => exact below_alloc hHeld _
                        clear hK K hHeld
                        have hHeld := hHeld2
                        clear hHeld2
                        try simp only [Act.put, List.setIfInBounds_toArray, List.set_cons_zero, List.set_cons_succ]
                        refine wpAnyH_ready (rs := [13]) (by kernel_rfl) (by simp) ?_
                        refine (AllReadyH.cons (o := ?oB4_13_14) ?iB4_13_14 (fun K hK => ?kB4_13_14) AllReadyH.nil)
                        case iB4_13_14 => (simp only [List.getElem?_toArray, List.getElem?_cons_succ, List.getElem?_cons_zero]; rfl)
                        case kB4_13_14 =>
                          have oo0 := Blk.cell HO.out 0 _ rfl; have oo1 := Blk.cell HO.out 1 _ rfl; have oo2 := Blk.cell HO.out 2 _ rfl; have oof0 := Blk.frozen HO.out 0; have oof1 := Blk.frozen HO.out 1; have oof2 := Blk.frozen HO.out 2
                          go_simp
                          skip
                          refine hK.out _ _ ?hB4_13_14 (fun hHeld2 => ?mB4_13_14)
                          case hB4_13_14 => exact below_alloc H4.out _
                          clear hK K hHeld
                          have hHeld := hHeld2
                          clear hHeld2
                          try simp only [Act.put, List.setIfInBounds_toArray, List.set_cons_zero, List.set_cons_succ]
                          refine wpAnyH_take (i := 14) (oi := ?oB4_14_15) (v := ?vB4_14_15) ?iB4_14_15 (by kernel_rfl) (by kernel_rfl) (by kernel_rfl) ?qB4_14_15 ?yB4_14_15 hHeld ?nB4_14_15
                          case iB4_14_15 => (simp only [List.getElem?_toArray, List.getElem?_cons_succ, List.getElem?_cons_zero]; rfl)
                          case yB4_14_15 => (refine Or.inl ⟨by kernel_rfl, ?_⟩; intro w' hSw; (try dsimp only at hSw); first | (go_simp; done) | (go_simp; with_reducible rfl))
                          case qB4_14_15 => exact fun _ _ _ h => h
                          try simp only [Act.put, List.setIfInBounds_toArray, List.set_cons_zero, List.set_cons_succ]
                          refine wpAnyH_take (i := 15) (oi := ?oB4_15_16) (v := ?vB4_15_16) ?iB4_15_16 (by kernel_rfl) (by kernel_rfl) (by kernel_rfl) ?qB4_15_16 ?yB4_15_16 hHeld ?nB4_15_16
                          case iB4_15_16 => (simp only [List.getElem?_toArray, List.getElem?_cons_succ, List.getElem?_cons_zero]; rfl)
                          case yB4_15_16 => (refine Or.inl ⟨by kernel_rfl, ?_⟩; intro w' hSw; (try dsimp only at hSw); first | (go_simp; done) | (go_simp; with_reducible rfl))
                          case qB4_15_16 => exact fun _ _ _ h => h
                          try simp only [Act.put, List.setIfInBounds_toArray, List.set_cons_zero, List.set_cons_succ]
                          refine wpAnyH_done (by kernel_rfl) ?_ _
                          try go_wp2
                          go_meet
                          exact ⟨w4.heap.size, rfl, hle, Blk.new' w4 _ _ _ rfl, hHeld, rfl, rfl⟩
                    case kB4_12_8 =>
                      go_simp
                      have HO : Aside0 (Blk (w9.drew.alloc (.cells #[.int .i64 0, .int .i64 0, .bool false] 28)) w9.heap.size 28 #[.int .i64 0, .int .i64 0, .bool false]) := ⟨Blk.new' w9.drew _ _ _ rfl⟩; have hle : w9.heap.size ≤ w9.heap.size := Nat.le_refl _
                      refine hK.out _ _ ?hB4_12_8 (fun hHeld2 => ?mB4_12_8)
                      case hB4_12_8 => exact below_alloc hHeld _
                      clear hK K hHeld
                      have hHeld := hHeld2
                      clear hHeld2
                      try simp only [Act.put, List.setIfInBounds_toArray, List.set_cons_zero, List.set_cons_succ]
                      refine wpAnyH_ready (rs := [7]) (by kernel_rfl) (by simp) ?_
                      refine (AllReadyH.cons (o := ?oB4_7_17) ?iB4_7_17 (fun K hK => ?kB4_7_17) AllReadyH.nil)
                      case iB4_7_17 => (simp only [List.getElem?_toArray, List.getElem?_cons_succ, List.getElem?_cons_zero]; rfl)
                      case kB4_7_17 =>
                        go_simp
                        (with_reducible refine (change_yes c0 c1 c2 c3 c4 c5 c6 cap A l cc x0 x1 false t (rd dr t) _ (Kd.C_below HRr.out hHeld) hc HA.out hm HP2.out HN.out ⟨HT.out.2, HTB.out⟩).mono ?_); rw [F1.out, F2.out, F3.out]; rintro e w4 ⟨rfl, hb⟩; dsimp only; have HO := Aside0.mk (Blk.later HO.out hb)
                        refine hK.out _ _ ?hB4_7_17 (fun hHeld2 => ?mB4_7_17)
                        case hB4_7_17 => exact thenB hHeld hHeld.size hb
                        clear hK K hHeld
                        have hHeld := hHeld2
                        clear hHeld2
                        try simp only [Act.put, List.setIfInBounds_toArray, List.set_cons_zero, List.set_cons_succ]
                        refine wpAnyH_take (i := 8) (oi := ?oB4_8_18) (v := ?vB4_8_18) ?iB4_8_18 (by kernel_rfl) (by kernel_rfl) (by kernel_rfl) ?qB4_8_18 ?yB4_8_18 hHeld ?nB4_8_18
                        case iB4_8_18 => (simp only [List.getElem?_toArray, List.getElem?_cons_succ, List.getElem?_cons_zero]; rfl)
                        case yB4_8_18 => (refine Or.inl ⟨by kernel_rfl, ?_⟩; intro w' hSw; (try dsimp only at hSw); first | (go_simp; done) | (go_simp; with_reducible rfl))
                        case qB4_8_18 => exact fun _ _ _ h => h
                        try simp only [Act.put, List.setIfInBounds_toArray, List.set_cons_zero, List.set_cons_succ]
                        refine wpAnyH_take (i := 9) (oi := ?oB4_9_19) (v := ?vB4_9_19) ?iB4_9_19 (by kernel_rfl) (by kernel_rfl) (by kernel_rfl) ?qB4_9_19 ?yB4_9_19 hHeld ?nB4_9_19
                        case iB4_9_19 => (simp only [List.getElem?_toArray, List.getElem?_cons_succ, List.getElem?_cons_zero]; rfl)
                        case yB4_9_19 => (refine Or.inl ⟨by kernel_rfl, ?_⟩; intro w' hSw; (try dsimp only at hSw); first | (go_simp; done) | (go_simp; with_reducible rfl))
                        case qB4_9_19 => exact fun _ _ _ h => h
                        try simp only [Act.put, List.setIfInBounds_toArray, List.set_cons_zero, List.set_cons_succ]
                        refine wpAnyH_take (i := 10) (oi := ?oB4_10_20) (v := ?vB4_10_20) ?iB4_10_20 (by kernel_rfl) (by kernel_rfl) (by kernel_rfl) ?qB4_10_20 ?yB4_10_20 hHeld ?nB4_10_20
                        case iB4_10_20 => (simp only [List.getElem?_toArray, List.getElem?_cons_succ, List.getElem?_cons_zero]; rfl)
                        case yB4_10_20 => (refine Or.inl ⟨by kernel_rfl, ?_⟩; intro w' hSw; (try dsimp only at hSw); first | (go_simp; done) | (go_simp; with_reducible rfl))
                        case qB4_10_20 => exact fun _ _ _ h => h
                        try simp only [Act.put, List.setIfInBounds_toArray, List.set_cons_zero, List.set_cons_succ]
                        refine wpAnyH_take (i := 11) (oi := ?oB4_11_21) (v := ?vB4_11_21) ?iB4_11_21 (by kernel_rfl) (by kernel_rfl) (by kernel_rfl) ?qB4_11_21 ?yB4_11_21 hHeld ?nB4_11_21
                        case iB4_11_21 => (simp only [List.getElem?_toArray, List.getElem?_cons_succ, List.getElem?_cons_zero]; rfl)
                        case yB4_11_21 => (refine Or.inl ⟨by kernel_rfl, ?_⟩; intro w' hSw; (try dsimp only at hSw); first | (go_simp; done) | (go_simp; with_reducible rfl))
                        case qB4_11_21 => exact fun _ _ _ h => h
                        try simp only [Act.put, List.setIfInBounds_toArray, List.set_cons_zero, List.set_cons_succ]
                        refine wpAnyH_ready (rs := [13]) (by kernel_rfl) (by simp) ?_
                        refine (AllReadyH.cons (o := ?oB4_13_22) ?iB4_13_22 (fun K hK => ?kB4_13_22) AllReadyH.nil)
                        case iB4_13_22 => (simp only [List.getElem?_toArray, List.getElem?_cons_succ, List.getElem?_cons_zero]; rfl)
                        case kB4_13_22 =>
                          have oo0 := Blk.cell HO.out 0 _ rfl; have oo1 := Blk.cell HO.out 1 _ rfl; have oo2 := Blk.cell HO.out 2 _ rfl; have oof0 := Blk.frozen HO.out 0; have oof1 := Blk.frozen HO.out 1; have oof2 := Blk.frozen HO.out 2
                          go_simp
                          skip
                          refine hK.out _ _ ?hB4_13_22 (fun hHeld2 => ?mB4_13_22)
                          case hB4_13_22 => exact Below.setCell (p := ⟨w9.heap.size, 2, none⟩) (Below.setCell (p := ⟨w9.heap.size, 1, none⟩) (Below.setCell (p := ⟨w9.heap.size, 0, none⟩) hHeld hle _) hle _) hle _
                          clear hK K hHeld
                          have hHeld := hHeld2
                          clear hHeld2
                          try simp only [Act.put, List.setIfInBounds_toArray, List.set_cons_zero, List.set_cons_succ]
                          refine wpAnyH_take (i := 14) (oi := ?oB4_14_23) (v := ?vB4_14_23) ?iB4_14_23 (by kernel_rfl) (by kernel_rfl) (by kernel_rfl) ?qB4_14_23 ?yB4_14_23 hHeld ?nB4_14_23
                          case iB4_14_23 => (simp only [List.getElem?_toArray, List.getElem?_cons_succ, List.getElem?_cons_zero]; rfl)
                          case yB4_14_23 => (refine Or.inl ⟨by kernel_rfl, ?_⟩; intro w' hSw; (try dsimp only at hSw); first | (go_simp; done) | (go_simp; with_reducible rfl))
                          case qB4_14_23 => exact fun _ _ _ h => h
                          try simp only [Act.put, List.setIfInBounds_toArray, List.set_cons_zero, List.set_cons_succ]
                          refine wpAnyH_take (i := 15) (oi := ?oB4_15_24) (v := ?vB4_15_24) ?iB4_15_24 (by kernel_rfl) (by kernel_rfl) (by kernel_rfl) ?qB4_15_24 ?yB4_15_24 hHeld ?nB4_15_24
                          case iB4_15_24 => (simp only [List.getElem?_toArray, List.getElem?_cons_succ, List.getElem?_cons_zero]; rfl)
                          case yB4_15_24 => (refine Or.inl ⟨by kernel_rfl, ?_⟩; intro w' hSw; (try dsimp only at hSw); first | (go_simp; done) | (go_simp; with_reducible rfl))
                          case qB4_15_24 => exact fun _ _ _ h => h
                          try simp only [Act.put, List.setIfInBounds_toArray, List.set_cons_zero, List.set_cons_succ]
                          refine wpAnyH_done (by kernel_rfl) ?_ _
                          try go_wp2
                          go_meet
                          exact ⟨w9.heap.size, rfl, hle, (OneSet.whole HO.out [.int .i64 x0, .int .i64 y1, .bool y2] rfl).blk, hHeld, rfl, rfl⟩
                case rest =>
                  obtain ⟨gq, rfl, hgq, hbq, hbw, rfl, rfl⟩ := hcut
                  have HM0 : Aside0 (Many w [(w.heap.size, 24, #[.int .i64 c0, .int .i64 c1, .int .i64 c2, .int .i64 c3, .int .i64 c4, .int .i64 c5, .int .i64 c6, .int .i64 cap, .slice A l.length cc]), (gp, 28, #[.int .i64 u0, .int .i64 u1, .bool u2]), (go, 28, #[.int .i64 x0, .int .i64 x1, .bool false]), (gq, 28, #[.int .i64 x0, .int .i64 y1, .bool y2])] wc) := ⟨Many.put (Many.later HM.out hbw) hbq⟩
                  have HG0 : Aside0 (w.heap.size < gp ∧ gp < go ∧ go < gq) := ⟨by have q := HG.out; have q2 := HGW.out; omega⟩
                  clear HG HGW
                  have HG := HG0
                  clear HG0
                  clear kc0 kc1 kc2 kc3 kc4 kc5 kc6 kc7 kc8 pp0 pp1 pp2 oo0 oo1 oo2 ppf0 ppf1 ppf2 oof0 oof1 oof2 kc0' kc1' kc2' kc3' kc4' kc5' kc6' kc7' kc8' pp0' pp1' pp2' oo0' oo1' oo2' hx' HM hbw hbq hgq HRr
                  have HM := HM0
                  clear HM0
                  have kc0 := Blk.cell (Many.blk HM.out 0 _ _ _ rfl) 0 _ rfl
                  have kc1 := Blk.cell (Many.blk HM.out 0 _ _ _ rfl) 1 _ rfl
                  have kc2 := Blk.cell (Many.blk HM.out 0 _ _ _ rfl) 2 _ rfl
                  have kc3 := Blk.cell (Many.blk HM.out 0 _ _ _ rfl) 3 _ rfl
                  have kc4 := Blk.cell (Many.blk HM.out 0 _ _ _ rfl) 4 _ rfl
                  have kc5 := Blk.cell (Many.blk HM.out 0 _ _ _ rfl) 5 _ rfl
                  have kc6 := Blk.cell (Many.blk HM.out 0 _ _ _ rfl) 6 _ rfl
                  have kc7 := Blk.cell (Many.blk HM.out 0 _ _ _ rfl) 7 _ rfl
                  have kc8 := Blk.cell (Many.blk HM.out 0 _ _ _ rfl) 8 _ rfl
                  have pp0 := Blk.cell (Many.blk HM.out 1 _ _ _ rfl) 0 _ rfl
                  have ppf0 := Blk.frozen (Many.blk HM.out 1 _ _ _ rfl) 0
                  have pp1 := Blk.cell (Many.blk HM.out 1 _ _ _ rfl) 1 _ rfl
                  have ppf1 := Blk.frozen (Many.blk HM.out 1 _ _ _ rfl) 1
                  have pp2 := Blk.cell (Many.blk HM.out 1 _ _ _ rfl) 2 _ rfl
                  have ppf2 := Blk.frozen (Many.blk HM.out 1 _ _ _ rfl) 2
                  have oo0 := Blk.cell (Many.blk HM.out 2 _ _ _ rfl) 0 _ rfl
                  have oof0 := Blk.frozen (Many.blk HM.out 2 _ _ _ rfl) 0
                  have oo1 := Blk.cell (Many.blk HM.out 2 _ _ _ rfl) 1 _ rfl
                  have oof1 := Blk.frozen (Many.blk HM.out 2 _ _ _ rfl) 1
                  have oo2 := Blk.cell (Many.blk HM.out 2 _ _ _ rfl) 2 _ rfl
                  have oof2 := Blk.frozen (Many.blk HM.out 2 _ _ _ rfl) 2
                  have qq0 := Blk.cell (Many.blk HM.out 3 _ _ _ rfl) 0 _ rfl
                  have qq1 := Blk.cell (Many.blk HM.out 3 _ _ _ rfl) 1 _ rfl
                  have qq2 := Blk.cell (Many.blk HM.out 3 _ _ _ rfl) 2 _ rfl
                  rcases HCC.out with ⟨rfl, rfl, rfl, hm1, hm2⟩ | ⟨rfl, rfl, hm1, hq⟩
                  · have hw0 := HW0.out
                    have HF2 := Aside0.mk (hm1 (by omega))
                    have dd39 : decide (wa < 0) = true := decide_eq_true (by omega)
                    have de39 : decide (0 > wa) = true := decide_eq_true (by omega)
                    clear hm1 hm2
                    go_upto_region 29 with (go_at_call 12; ((with_reducible refine (waywardenlaw15_num.calls _ _ _ rfl).mono ?_); rintro e w9 ⟨rfl, hd⟩; have hb := hd.below; clear hd; have HM := Aside0.mk (Many.later HM.out hb); (try clear kc0 kc1 kc2 kc3 kc4 kc5 kc6 kc7 kc8 pp0 pp1 pp2 oo0 oo1 oo2 qq0 qq1 qq2 ppf0 ppf1 ppf2 oof0 oof1 oof2); have kc0 := Blk.cell (Many.blk HM.out 0 _ _ _ rfl) 0 _ rfl; have kc1 := Blk.cell (Many.blk HM.out 0 _ _ _ rfl) 1 _ rfl; have kc2 := Blk.cell (Many.blk HM.out 0 _ _ _ rfl) 2 _ rfl; have kc3 := Blk.cell (Many.blk HM.out 0 _ _ _ rfl) 3 _ rfl; have kc4 := Blk.cell (Many.blk HM.out 0 _ _ _ rfl) 4 _ rfl; have kc5 := Blk.cell (Many.blk HM.out 0 _ _ _ rfl) 5 _ rfl; have kc6 := Blk.cell (Many.blk HM.out 0 _ _ _ rfl) 6 _ rfl; have kc7 := Blk.cell (Many.blk HM.out 0 _ _ _ rfl) 7 _ rfl; have kc8 := Blk.cell (Many.blk HM.out 0 _ _ _ rfl) 8 _ rfl; have pp0 := Blk.cell (Many.blk HM.out 1 _ _ _ rfl) 0 _ rfl; have ppf0 := Blk.frozen (Many.blk HM.out 1 _ _ _ rfl) 0; have pp1 := Blk.cell (Many.blk HM.out 1 _ _ _ rfl) 1 _ rfl; have ppf1 := Blk.frozen (Many.blk HM.out 1 _ _ _ rfl) 1; have pp2 := Blk.cell (Many.blk HM.out 1 _ _ _ rfl) 2 _ rfl; have ppf2 := Blk.frozen (Many.blk HM.out 1 _ _ _ rfl) 2; have oo0 := Blk.cell (Many.blk HM.out 2 _ _ _ rfl) 0 _ rfl; have oof0 := Blk.frozen (Many.blk HM.out 2 _ _ _ rfl) 0; have oo1 := Blk.cell (Many.blk HM.out 2 _ _ _ rfl) 1 _ rfl; have oof1 := Blk.frozen (Many.blk HM.out 2 _ _ _ rfl) 1; have oo2 := Blk.cell (Many.blk HM.out 2 _ _ _ rfl) 2 _ rfl; have oof2 := Blk.frozen (Many.blk HM.out 2 _ _ _ rfl) 2; have qq0 := Blk.cell (Many.blk HM.out 3 _ _ _ rfl) 0 _ rfl; have qq1 := Blk.cell (Many.blk HM.out 3 _ _ _ rfl) 1 _ rfl; have qq2 := Blk.cell (Many.blk HM.out 3 _ _ _ rfl) 2 _ rfl; clear hb))
                    obtain ⟨W8, hW8⟩ : ∃ W', (((w9.setCell ⟨go, 0, none⟩ (.int .i64 x0)).setCell ⟨go, 1, none⟩ (.int .i64 x1)).setCell ⟨go, 2, none⟩ (.bool true)) = W' := ⟨_, rfl⟩
                    have HM0 : Aside0 (Many w [(w.heap.size, 24, #[.int .i64 c0, .int .i64 c1, .int .i64 c2, .int .i64 c3, .int .i64 c4, .int .i64 c5, .int .i64 c6, .int .i64 cap, .slice A l.length cc]), (gp, 28, #[.int .i64 u0, .int .i64 u1, .bool u2]), (go, 28, #[.int .i64 x0, .int .i64 x1, .bool true]), (gq, 28, #[.int .i64 x0, .int .i64 x1, .bool true])] W8) := ⟨by rw [← hW8]; exact Many.set HM.out 2 go 28 _ rfl [.int .i64 x0, .int .i64 x1, .bool true] rfl (by have q := HG.out; omega) (by intro j g' t' cs' hj hne; match j, hj with | 0, hj => (simp at hj; obtain ⟨rfl, rfl, rfl⟩ := hj; first | exact absurd rfl hne | (have q := HG.out; omega)) | 1, hj => (simp at hj; obtain ⟨rfl, rfl, rfl⟩ := hj; first | exact absurd rfl hne | (have q := HG.out; omega)) | 2, hj => (simp at hj; obtain ⟨rfl, rfl, rfl⟩ := hj; first | exact absurd rfl hne | (have q := HG.out; omega)) | 3, hj => (simp at hj; obtain ⟨rfl, rfl, rfl⟩ := hj; first | exact absurd rfl hne | (have q := HG.out; omega)) | (j + 4), hj => (simp at hj))⟩
                    rw [hW8]
                    clear hW8 kc0 kc1 kc2 kc3 kc4 kc5 kc6 kc7 kc8 pp0 pp1 pp2 oo0 oo1 oo2 qq0 qq1 qq2 ppf0 ppf1 ppf2 oof0 oof1 oof2 HM
                    have HM := HM0
                    clear HM0
                    have kc0 := Blk.cell (Many.blk HM.out 0 _ _ _ rfl) 0 _ rfl
                    have kc1 := Blk.cell (Many.blk HM.out 0 _ _ _ rfl) 1 _ rfl
                    have kc2 := Blk.cell (Many.blk HM.out 0 _ _ _ rfl) 2 _ rfl
                    have kc3 := Blk.cell (Many.blk HM.out 0 _ _ _ rfl) 3 _ rfl
                    have kc4 := Blk.cell (Many.blk HM.out 0 _ _ _ rfl) 4 _ rfl
                    have kc5 := Blk.cell (Many.blk HM.out 0 _ _ _ rfl) 5 _ rfl
                    have kc6 := Blk.cell (Many.blk HM.out 0 _ _ _ rfl) 6 _ rfl
                    have kc7 := Blk.cell (Many.blk HM.out 0 _ _ _ rfl) 7 _ rfl
                    have kc8 := Blk.cell (Many.blk HM.out 0 _ _ _ rfl) 8 _ rfl
                    have pp0 := Blk.cell (Many.blk HM.out 1 _ _ _ rfl) 0 _ rfl
                    have ppf0 := Blk.frozen (Many.blk HM.out 1 _ _ _ rfl) 0
                    have pp1 := Blk.cell (Many.blk HM.out 1 _ _ _ rfl) 1 _ rfl
                    have ppf1 := Blk.frozen (Many.blk HM.out 1 _ _ _ rfl) 1
                    have pp2 := Blk.cell (Many.blk HM.out 1 _ _ _ rfl) 2 _ rfl
                    have ppf2 := Blk.frozen (Many.blk HM.out 1 _ _ _ rfl) 2
                    have oo0 := Blk.cell (Many.blk HM.out 2 _ _ _ rfl) 0 _ rfl
                    have oof0 := Blk.frozen (Many.blk HM.out 2 _ _ _ rfl) 0
                    have oo1 := Blk.cell (Many.blk HM.out 2 _ _ _ rfl) 1 _ rfl
                    have oof1 := Blk.frozen (Many.blk HM.out 2 _ _ _ rfl) 1
                    have oo2 := Blk.cell (Many.blk HM.out 2 _ _ _ rfl) 2 _ rfl
                    have oof2 := Blk.frozen (Many.blk HM.out 2 _ _ _ rfl) 2
                    have qq0 := Blk.cell (Many.blk HM.out 3 _ _ _ rfl) 0 _ rfl
                    have qq1 := Blk.cell (Many.blk HM.out 3 _ _ _ rfl) 1 _ rfl
                    have qq2 := Blk.cell (Many.blk HM.out 3 _ _ _ rfl) 2 _ rfl
                    go_upto_region 30 with fail
                    obtain ⟨W9, hW9⟩ : ∃ W', (((W8.setCell ⟨gp, 0, none⟩ (.int .i64 x0)).setCell ⟨gp, 1, none⟩ (.int .i64 x1)).setCell ⟨gp, 2, none⟩ (.bool true)) = W' := ⟨_, rfl⟩
                    have HM0 : Aside0 (Many w [(w.heap.size, 24, #[.int .i64 c0, .int .i64 c1, .int .i64 c2, .int .i64 c3, .int .i64 c4, .int .i64 c5, .int .i64 c6, .int .i64 cap, .slice A l.length cc]), (gp, 28, #[.int .i64 x0, .int .i64 x1, .bool true]), (go, 28, #[.int .i64 x0, .int .i64 x1, .bool true]), (gq, 28, #[.int .i64 x0, .int .i64 x1, .bool true])] W9) := ⟨by rw [← hW9]; exact Many.set HM.out 1 gp 28 _ rfl [.int .i64 x0, .int .i64 x1, .bool true] rfl (by have q := HG.out; omega) (by intro j g' t' cs' hj hne; match j, hj with | 0, hj => (simp at hj; obtain ⟨rfl, rfl, rfl⟩ := hj; first | exact absurd rfl hne | (have q := HG.out; omega)) | 1, hj => (simp at hj; obtain ⟨rfl, rfl, rfl⟩ := hj; first | exact absurd rfl hne | (have q := HG.out; omega)) | 2, hj => (simp at hj; obtain ⟨rfl, rfl, rfl⟩ := hj; first | exact absurd rfl hne | (have q := HG.out; omega)) | 3, hj => (simp at hj; obtain ⟨rfl, rfl, rfl⟩ := hj; first | exact absurd rfl hne | (have q := HG.out; omega)) | (j + 4), hj => (simp at hj))⟩
                    rw [hW9]
                    clear hW9 kc0 kc1 kc2 kc3 kc4 kc5 kc6 kc7 kc8 pp0 pp1 pp2 oo0 oo1 oo2 qq0 qq1 qq2 ppf0 ppf1 ppf2 oof0 oof1 oof2 HM
                    have HM := HM0
                    clear HM0
                    have kc0 := Blk.cell (Many.blk HM.out 0 _ _ _ rfl) 0 _ rfl
                    have kc1 := Blk.cell (Many.blk HM.out 0 _ _ _ rfl) 1 _ rfl
                    have kc2 := Blk.cell (Many.blk HM.out 0 _ _ _ rfl) 2 _ rfl
                    have kc3 := Blk.cell (Many.blk HM.out 0 _ _ _ rfl) 3 _ rfl
                    have kc4 := Blk.cell (Many.blk HM.out 0 _ _ _ rfl) 4 _ rfl
                    have kc5 := Blk.cell (Many.blk HM.out 0 _ _ _ rfl) 5 _ rfl
                    have kc6 := Blk.cell (Many.blk HM.out 0 _ _ _ rfl) 6 _ rfl
                    have kc7 := Blk.cell (Many.blk HM.out 0 _ _ _ rfl) 7 _ rfl
                    have kc8 := Blk.cell (Many.blk HM.out 0 _ _ _ rfl) 8 _ rfl
                    have pp0 := Blk.cell (Many.blk HM.out 1 _ _ _ rfl) 0 _ rfl
                    have ppf0 := Blk.frozen (Many.blk HM.out 1 _ _ _ rfl) 0
                    have pp1 := Blk.cell (Many.blk HM.out 1 _ _ _ rfl) 1 _ rfl
                    have ppf1 := Blk.frozen (Many.blk HM.out 1 _ _ _ rfl) 1
                    have pp2 := Blk.cell (Many.blk HM.out 1 _ _ _ rfl) 2 _ rfl
                    have ppf2 := Blk.frozen (Many.blk HM.out 1 _ _ _ rfl) 2
                    have oo0 := Blk.cell (Many.blk HM.out 2 _ _ _ rfl) 0 _ rfl
                    have oof0 := Blk.frozen (Many.blk HM.out 2 _ _ _ rfl) 0
                    have oo1 := Blk.cell (Many.blk HM.out 2 _ _ _ rfl) 1 _ rfl
                    have oof1 := Blk.frozen (Many.blk HM.out 2 _ _ _ rfl) 1
                    have oo2 := Blk.cell (Many.blk HM.out 2 _ _ _ rfl) 2 _ rfl
                    have oof2 := Blk.frozen (Many.blk HM.out 2 _ _ _ rfl) 2
                    have qq0 := Blk.cell (Many.blk HM.out 3 _ _ _ rfl) 0 _ rfl
                    have qq1 := Blk.cell (Many.blk HM.out 3 _ _ _ rfl) 1 _ rfl
                    have qq2 := Blk.cell (Many.blk HM.out 3 _ _ _ rfl) 2 _ rfl
                    have HT0 := HT.out
                    obtain ⟨⟨a0, a1, a2, a3, b0, b1, b2, b3, b4, w0, w1, w2, w3⟩, n1, n2, n3⟩ := HF2.out
                    obtain ⟨g0, g1, g5, g6⟩ := HCF.out
                    have hnb := HNB.out
                    have gA : wrap64 (t - al) = t - al := wrap_id (by omega) (by omega)
                    have gB : wrap64 (c0 + c1) = c0 + c1 := wrap_id (by omega) (by omega)
                    have gC : wrap64 (t - t) = t - t := wrap_id (by omega) (by omega)
                    have gD : wrap64 (c5 + c6) = c5 + c6 := wrap_id (by omega) (by omega)
                    have gE : wrap64 (t + 1) = t + 1 := wrap_id (by omega) (by omega)
                    have dd40 : decide (t - al > c0 + c1) = false := decide_eq_false (by omega)
                    have de40 : decide (c0 + c1 < t - al) = false := decide_eq_false (by omega)
                    have dd41 : decide (t ≥ 0) = true := decide_eq_true (by omega)
                    have de41 : decide (0 ≤ t) = true := decide_eq_true (by omega)
                    have dd42 : decide (t - t > c5 + c6) = false := decide_eq_false (by omega)
                    have de42 : decide (c5 + c6 < t - t) = false := decide_eq_false (by omega)
                    have dd43 : decide (0 > c5 + c6) = false := decide_eq_false (by omega)
                    have de43 : decide (c5 + c6 < 0) = false := decide_eq_false (by omega)
                    clear a0 a1 a2 a3 b0 b1 b2 b3 b4 w0 w1 w2 w3 n1 n2 n3 g0 g1 g5 g6 hnb HT0
                    go_wp2
                    go_roundg (gk - 1)
                    case measure => have := HT.out; have := HLT.out; omega
                    case rel => exact ⟨_, _, _, t + 1, _, _, _, rfl, rfl, rfl, (by first | rfl | rw [gE]), ⟨by have := HT.out; have := HLT.out; omega⟩, ⟨HF2.out.next⟩, ⟨Many.two HM.out⟩⟩
                  · have HF2 := Aside0.mk hm1
                    obtain ⟨⟨a0, a1, a2, a3, b0, b1, b2, b3, b4, w0, w1, w2, w3⟩, n1, n2, n3⟩ := HF1.out
                    obtain ⟨g0, g1, g5, g6⟩ := HCF.out
                    have hnb := HNB.out
                    have hlt0 := HLT.out
                    have gH : wrap64 (t - tl) = t - tl := wrap_id (by omega) (by omega)
                    have dd44 : decide (t - tl < c5) = false := decide_eq_false (by omega)
                    have de44 : decide (c5 > t - tl) = false := decide_eq_false (by omega)
                    clear hm1 hq a0 a1 a2 a3 b0 b1 b2 b3 b4 w0 w1 w2 w3 n1 n2 n3 g0 g1 g5 g6 hnb hlt0
                    go_upto_region 29 with (go_at_call 12; ((with_reducible refine (waywardenlaw15_num.calls _ _ _ rfl).mono ?_); rintro e w9 ⟨rfl, hd⟩; have hb := hd.below; clear hd; have HM := Aside0.mk (Many.later HM.out hb); (try clear kc0 kc1 kc2 kc3 kc4 kc5 kc6 kc7 kc8 pp0 pp1 pp2 oo0 oo1 oo2 qq0 qq1 qq2 ppf0 ppf1 ppf2 oof0 oof1 oof2); have kc0 := Blk.cell (Many.blk HM.out 0 _ _ _ rfl) 0 _ rfl; have kc1 := Blk.cell (Many.blk HM.out 0 _ _ _ rfl) 1 _ rfl; have kc2 := Blk.cell (Many.blk HM.out 0 _ _ _ rfl) 2 _ rfl; have kc3 := Blk.cell (Many.blk HM.out 0 _ _ _ rfl) 3 _ rfl; have kc4 := Blk.cell (Many.blk HM.out 0 _ _ _ rfl) 4 _ rfl; have kc5 := Blk.cell (Many.blk HM.out 0 _ _ _ rfl) 5 _ rfl; have kc6 := Blk.cell (Many.blk HM.out 0 _ _ _ rfl) 6 _ rfl; have kc7 := Blk.cell (Many.blk HM.out 0 _ _ _ rfl) 7 _ rfl; have kc8 := Blk.cell (Many.blk HM.out 0 _ _ _ rfl) 8 _ rfl; have pp0 := Blk.cell (Many.blk HM.out 1 _ _ _ rfl) 0 _ rfl; have ppf0 := Blk.frozen (Many.blk HM.out 1 _ _ _ rfl) 0; have pp1 := Blk.cell (Many.blk HM.out 1 _ _ _ rfl) 1 _ rfl; have ppf1 := Blk.frozen (Many.blk HM.out 1 _ _ _ rfl) 1; have pp2 := Blk.cell (Many.blk HM.out 1 _ _ _ rfl) 2 _ rfl; have ppf2 := Blk.frozen (Many.blk HM.out 1 _ _ _ rfl) 2; have oo0 := Blk.cell (Many.blk HM.out 2 _ _ _ rfl) 0 _ rfl; have oof0 := Blk.frozen (Many.blk HM.out 2 _ _ _ rfl) 0; have oo1 := Blk.cell (Many.blk HM.out 2 _ _ _ rfl) 1 _ rfl; have oof1 := Blk.frozen (Many.blk HM.out 2 _ _ _ rfl) 1; have oo2 := Blk.cell (Many.blk HM.out 2 _ _ _ rfl) 2 _ rfl; have oof2 := Blk.frozen (Many.blk HM.out 2 _ _ _ rfl) 2; have qq0 := Blk.cell (Many.blk HM.out 3 _ _ _ rfl) 0 _ rfl; have qq1 := Blk.cell (Many.blk HM.out 3 _ _ _ rfl) 1 _ rfl; have qq2 := Blk.cell (Many.blk HM.out 3 _ _ _ rfl) 2 _ rfl; clear hb))
                    obtain ⟨W8, hW8⟩ : ∃ W', (((w9.setCell ⟨go, 0, none⟩ (.int .i64 x0)).setCell ⟨go, 1, none⟩ (.int .i64 y1)).setCell ⟨go, 2, none⟩ (.bool false)) = W' := ⟨_, rfl⟩
                    have HM0 : Aside0 (Many w [(w.heap.size, 24, #[.int .i64 c0, .int .i64 c1, .int .i64 c2, .int .i64 c3, .int .i64 c4, .int .i64 c5, .int .i64 c6, .int .i64 cap, .slice A l.length cc]), (gp, 28, #[.int .i64 u0, .int .i64 u1, .bool u2]), (go, 28, #[.int .i64 x0, .int .i64 y1, .bool false]), (gq, 28, #[.int .i64 x0, .int .i64 y1, .bool false])] W8) := ⟨by rw [← hW8]; exact Many.set HM.out 2 go 28 _ rfl [.int .i64 x0, .int .i64 y1, .bool false] rfl (by have q := HG.out; omega) (by intro j g' t' cs' hj hne; match j, hj with | 0, hj => (simp at hj; obtain ⟨rfl, rfl, rfl⟩ := hj; first | exact absurd rfl hne | (have q := HG.out; omega)) | 1, hj => (simp at hj; obtain ⟨rfl, rfl, rfl⟩ := hj; first | exact absurd rfl hne | (have q := HG.out; omega)) | 2, hj => (simp at hj; obtain ⟨rfl, rfl, rfl⟩ := hj; first | exact absurd rfl hne | (have q := HG.out; omega)) | 3, hj => (simp at hj; obtain ⟨rfl, rfl, rfl⟩ := hj; first | exact absurd rfl hne | (have q := HG.out; omega)) | (j + 4), hj => (simp at hj))⟩
                    rw [hW8]
                    clear hW8 kc0 kc1 kc2 kc3 kc4 kc5 kc6 kc7 kc8 pp0 pp1 pp2 oo0 oo1 oo2 qq0 qq1 qq2 ppf0 ppf1 ppf2 oof0 oof1 oof2 HM
                    have HM := HM0
                    clear HM0
                    have kc0 := Blk.cell (Many.blk HM.out 0 _ _ _ rfl) 0 _ rfl
                    have kc1 := Blk.cell (Many.blk HM.out 0 _ _ _ rfl) 1 _ rfl
                    have kc2 := Blk.cell (Many.blk HM.out 0 _ _ _ rfl) 2 _ rfl
                    have kc3 := Blk.cell (Many.blk HM.out 0 _ _ _ rfl) 3 _ rfl
                    have kc4 := Blk.cell (Many.blk HM.out 0 _ _ _ rfl) 4 _ rfl
                    have kc5 := Blk.cell (Many.blk HM.out 0 _ _ _ rfl) 5 _ rfl
                    have kc6 := Blk.cell (Many.blk HM.out 0 _ _ _ rfl) 6 _ rfl
                    have kc7 := Blk.cell (Many.blk HM.out 0 _ _ _ rfl) 7 _ rfl
                    have kc8 := Blk.cell (Many.blk HM.out 0 _ _ _ rfl) 8 _ rfl
                    have pp0 := Blk.cell (Many.blk HM.out 1 _ _ _ rfl) 0 _ rfl
                    have ppf0 := Blk.frozen (Many.blk HM.out 1 _ _ _ rfl) 0
                    have pp1 := Blk.cell (Many.blk HM.out 1 _ _ _ rfl) 1 _ rfl
                    have ppf1 := Blk.frozen (Many.blk HM.out 1 _ _ _ rfl) 1
                    have pp2 := Blk.cell (Many.blk HM.out 1 _ _ _ rfl) 2 _ rfl
                    have ppf2 := Blk.frozen (Many.blk HM.out 1 _ _ _ rfl) 2
                    have oo0 := Blk.cell (Many.blk HM.out 2 _ _ _ rfl) 0 _ rfl
                    have oof0 := Blk.frozen (Many.blk HM.out 2 _ _ _ rfl) 0
                    have oo1 := Blk.cell (Many.blk HM.out 2 _ _ _ rfl) 1 _ rfl
                    have oof1 := Blk.frozen (Many.blk HM.out 2 _ _ _ rfl) 1
                    have oo2 := Blk.cell (Many.blk HM.out 2 _ _ _ rfl) 2 _ rfl
                    have oof2 := Blk.frozen (Many.blk HM.out 2 _ _ _ rfl) 2
                    have qq0 := Blk.cell (Many.blk HM.out 3 _ _ _ rfl) 0 _ rfl
                    have qq1 := Blk.cell (Many.blk HM.out 3 _ _ _ rfl) 1 _ rfl
                    have qq2 := Blk.cell (Many.blk HM.out 3 _ _ _ rfl) 2 _ rfl
                    go_upto_region 30 with fail
                    obtain ⟨W9, hW9⟩ : ∃ W', (((W8.setCell ⟨gp, 0, none⟩ (.int .i64 x0)).setCell ⟨gp, 1, none⟩ (.int .i64 y1)).setCell ⟨gp, 2, none⟩ (.bool false)) = W' := ⟨_, rfl⟩
                    have HM0 : Aside0 (Many w [(w.heap.size, 24, #[.int .i64 c0, .int .i64 c1, .int .i64 c2, .int .i64 c3, .int .i64 c4, .int .i64 c5, .int .i64 c6, .int .i64 cap, .slice A l.length cc]), (gp, 28, #[.int .i64 x0, .int .i64 y1, .bool false]), (go, 28, #[.int .i64 x0, .int .i64 y1, .bool false]), (gq, 28, #[.int .i64 x0, .int .i64 y1, .bool false])] W9) := ⟨by rw [← hW9]; exact Many.set HM.out 1 gp 28 _ rfl [.int .i64 x0, .int .i64 y1, .bool false] rfl (by have q := HG.out; omega) (by intro j g' t' cs' hj hne; match j, hj with | 0, hj => (simp at hj; obtain ⟨rfl, rfl, rfl⟩ := hj; first | exact absurd rfl hne | (have q := HG.out; omega)) | 1, hj => (simp at hj; obtain ⟨rfl, rfl, rfl⟩ := hj; first | exact absurd rfl hne | (have q := HG.out; omega)) | 2, hj => (simp at hj; obtain ⟨rfl, rfl, rfl⟩ := hj; first | exact absurd rfl hne | (have q := HG.out; omega)) | 3, hj => (simp at hj; obtain ⟨rfl, rfl, rfl⟩ := hj; first | exact absurd rfl hne | (have q := HG.out; omega)) | (j + 4), hj => (simp at hj))⟩
                    rw [hW9]
                    clear hW9 kc0 kc1 kc2 kc3 kc4 kc5 kc6 kc7 kc8 pp0 pp1 pp2 oo0 oo1 oo2 qq0 qq1 qq2 ppf0 ppf1 ppf2 oof0 oof1 oof2 HM
                    have HM := HM0
                    clear HM0
                    have kc0 := Blk.cell (Many.blk HM.out 0 _ _ _ rfl) 0 _ rfl
                    have kc1 := Blk.cell (Many.blk HM.out 0 _ _ _ rfl) 1 _ rfl
                    have kc2 := Blk.cell (Many.blk HM.out 0 _ _ _ rfl) 2 _ rfl
                    have kc3 := Blk.cell (Many.blk HM.out 0 _ _ _ rfl) 3 _ rfl
                    have kc4 := Blk.cell (Many.blk HM.out 0 _ _ _ rfl) 4 _ rfl
                    have kc5 := Blk.cell (Many.blk HM.out 0 _ _ _ rfl) 5 _ rfl
                    have kc6 := Blk.cell (Many.blk HM.out 0 _ _ _ rfl) 6 _ rfl
                    have kc7 := Blk.cell (Many.blk HM.out 0 _ _ _ rfl) 7 _ rfl
                    have kc8 := Blk.cell (Many.blk HM.out 0 _ _ _ rfl) 8 _ rfl
                    have pp0 := Blk.cell (Many.blk HM.out 1 _ _ _ rfl) 0 _ rfl
                    have ppf0 := Blk.frozen (Many.blk HM.out 1 _ _ _ rfl) 0
                    have pp1 := Blk.cell (Many.blk HM.out 1 _ _ _ rfl) 1 _ rfl
                    have ppf1 := Blk.frozen (Many.blk HM.out 1 _ _ _ rfl) 1
                    have pp2 := Blk.cell (Many.blk HM.out 1 _ _ _ rfl) 2 _ rfl
                    have ppf2 := Blk.frozen (Many.blk HM.out 1 _ _ _ rfl) 2
                    have oo0 := Blk.cell (Many.blk HM.out 2 _ _ _ rfl) 0 _ rfl
                    have oof0 := Blk.frozen (Many.blk HM.out 2 _ _ _ rfl) 0
                    have oo1 := Blk.cell (Many.blk HM.out 2 _ _ _ rfl) 1 _ rfl
                    have oof1 := Blk.frozen (Many.blk HM.out 2 _ _ _ rfl) 1
                    have oo2 := Blk.cell (Many.blk HM.out 2 _ _ _ rfl) 2 _ rfl
                    have oof2 := Blk.frozen (Many.blk HM.out 2 _ _ _ rfl) 2
                    have qq0 := Blk.cell (Many.blk HM.out 3 _ _ _ rfl) 0 _ rfl
                    have qq1 := Blk.cell (Many.blk HM.out 3 _ _ _ rfl) 1 _ rfl
                    have qq2 := Blk.cell (Many.blk HM.out 3 _ _ _ rfl) 2 _ rfl
                    have HT0 := HT.out
                    obtain ⟨⟨a0, a1, a2, a3, b0, b1, b2, b3, b4, w0, w1, w2, w3⟩, n1, n2, n3⟩ := HF2.out
                    obtain ⟨g0, g1, g5, g6⟩ := HCF.out
                    have hnb := HNB.out
                    have gA : wrap64 (t - al) = t - al := wrap_id (by omega) (by omega)
                    have gB : wrap64 (c0 + c1) = c0 + c1 := wrap_id (by omega) (by omega)
                    have gC : wrap64 (t - (-1)) = t - (-1) := wrap_id (by omega) (by omega)
                    have gD : wrap64 (c5 + c6) = c5 + c6 := wrap_id (by omega) (by omega)
                    have gE : wrap64 (t + 1) = t + 1 := wrap_id (by omega) (by omega)
                    have dd45 : decide (t - al > c0 + c1) = false := decide_eq_false (by omega)
                    have de45 : decide (c0 + c1 < t - al) = false := decide_eq_false (by omega)
                    have dd46 : decide ((-1) ≥ 0) = false := decide_eq_false (by omega)
                    have de46 : decide (0 ≤ (-1)) = false := decide_eq_false (by omega)
                    clear a0 a1 a2 a3 b0 b1 b2 b3 b4 w0 w1 w2 w3 n1 n2 n3 g0 g1 g5 g6 hnb HT0
                    go_wp2
                    go_roundg (gk - 1)
                    case measure => have := HT.out; have := HLT.out; omega
                    case rel => exact ⟨_, _, _, t + 1, _, _, _, rfl, rfl, rfl, (by first | rfl | rw [gE]), ⟨by have := HT.out; have := HLT.out; omega⟩, ⟨HF2.out.next⟩, ⟨Many.two HM.out⟩⟩
    · have dd47 : decide (t < N) = false := decide_eq_false (by omega)
      have de47 : decide (N > t) = false := decide_eq_false (by omega)
      clear hlt
      go_wp2_with (go_at_call 9; go_loud ((with_reducible refine (works_any _).mono ?_); rintro e w9 ⟨rfl, hb⟩; have HM := Aside0.mk (Many.later HM.out hb); (try clear kc0 kc1 kc2 kc3 kc4 kc5 kc6 kc7 kc8 pp0 pp1 pp2 ppf0 ppf1 ppf2); have kc0 := Blk.cell (Many.blk HM.out 0 _ _ _ rfl) 0 _ rfl; have kc1 := Blk.cell (Many.blk HM.out 0 _ _ _ rfl) 1 _ rfl; have kc2 := Blk.cell (Many.blk HM.out 0 _ _ _ rfl) 2 _ rfl; have kc3 := Blk.cell (Many.blk HM.out 0 _ _ _ rfl) 3 _ rfl; have kc4 := Blk.cell (Many.blk HM.out 0 _ _ _ rfl) 4 _ rfl; have kc5 := Blk.cell (Many.blk HM.out 0 _ _ _ rfl) 5 _ rfl; have kc6 := Blk.cell (Many.blk HM.out 0 _ _ _ rfl) 6 _ rfl; have kc7 := Blk.cell (Many.blk HM.out 0 _ _ _ rfl) 7 _ rfl; have kc8 := Blk.cell (Many.blk HM.out 0 _ _ _ rfl) 8 _ rfl; have pp0 := Blk.cell (Many.blk HM.out 1 _ _ _ rfl) 0 _ rfl; have ppf0 := Blk.frozen (Many.blk HM.out 1 _ _ _ rfl) 0; have pp1 := Blk.cell (Many.blk HM.out 1 _ _ _ rfl) 1 _ rfl; have ppf1 := Blk.frozen (Many.blk HM.out 1 _ _ _ rfl) 1; have pp2 := Blk.cell (Many.blk HM.out 1 _ _ _ rfl) 2 _ rfl; have ppf2 := Blk.frozen (Many.blk HM.out 1 _ _ _ rfl) 2; clear hb))
      go_ret
      exact ⟨rfl, HM.out.bel⟩
end Go.Proofs.Ytokjjppfdmkjeaa.A
