/- config: the document's answer: the spans, which configurations may be. -/
import Derived.Test.YtokjjppfdmkjeaaRown
import Derived.Test.YtokjjppfdmkjeaaWait
set_option linter.unusedVariables false
set_option linter.unusedSimpArgs false
namespace Go.Proofs.Ytokjjppfdmkjeaa.A
open Go.RowKit Go.Proofs.YtokjjppfdmkjeaaW.PrintWords Go.Proofs.YtokjjppfdmkjeaaW.PrintLast Go.Proofs.YtokjjppfdmkjeaaW.PrintMore Go.Proofs.Ytokjjppfdmkjeaa.PPulseHolds

theorem refspans_any (c0 c1 c2 c3 c4 c5 c6 cap : Int) (A : Option Addr) (n cc : Nat) (w : World) : Calls Try.prog 35 #[.agg #[.int .i64 c0, .int .i64 c1, .int .i64 c2, .int .i64 c3, .int .i64 c4, .int .i64 c5, .int .i64 c6, .int .i64 cap, .slice A n cc]] w fun e w' => e = .returned (.agg #[.int .i64 c0, .int .i64 c1, .int .i64 c2, .int .i64 c3, .int .i64 c4, .int .i64 c5, .int .i64 c6]) ∧ Below w.heap.size w w' := by
  go_enter Try.func35, Try.ntmps35
  go_wp2
  exact bodyPost_ret (v := .agg #[.int .i64 c0, .int .i64 c1, .int .i64 c2, .int .i64 c3, .int .i64 c4, .int .i64 c5, .int .i64 c6]) (by simp [results, Try.results35, go_sem]) rfl ⟨rfl, below_two _ _ _⟩
def refOk (c0 c1 c2 c3 c4 c5 c6 : Int) (x : Nat) : Bool := decide (0 ≤ spanV c0 c1 c2 c3 c4 c5 c6 x ∧ spanV c0 c1 c2 c3 c4 c5 c6 x ≤ 1000000)
theorem refspan_eq (a : Int) : waywardenref08_Span.f a = some (decide (0 ≤ a ∧ a ≤ 1000000)) := by
  unfold waywardenref08_Span.f
  by_cases h : a ≥ 0
  · rw [if_pos h]
    simp [show 0 ≤ a from h]
  · rw [if_neg h]
    simp [show ¬ 0 ≤ a from h]
theorem spanOk_refOk (c0 c1 c2 c3 c4 c5 c6 : Int) (x : Nat) (h : x < 7) (ho : spanOk c0 c1 c2 c3 c4 c5 c6 x = true) : refOk c0 c1 c2 c3 c4 c5 c6 x = true := by
  have hl : 0 ≤ spanL x := seven (p := fun x => 0 ≤ spanL x) x h (by decide) (by decide) (by decide) (by decide) (by decide) (by decide) (by decide)
  unfold spanOk at ho
  have := of_decide_eq_true ho
  exact decide_eq_true ⟨by omega, this.2⟩
theorem cfgright_no (c0 c1 c2 c3 c4 c5 c6 cap : Int) (l : List Pfx) (x : Nat) (hx : x < 7) (h : refOk c0 c1 c2 c3 c4 c5 c6 x = false) : rightN c0 c1 c2 c3 c4 c5 c6 cap l = false := by
  cases hn : rightN c0 c1 c2 c3 c4 c5 c6 cap l with
  | false => rfl
  | true =>
    have hin := rightN_in c0 c1 c2 c3 c4 c5 c6 cap l hn x hx
    have hl : 0 ≤ spanL x := seven (p := fun x => 0 ≤ spanL x) x hx (by decide) (by decide) (by decide) (by decide) (by decide) (by decide) (by decide)
    have : refOk c0 c1 c2 c3 c4 c5 c6 x = true := decide_eq_true ⟨by omega, hin.2⟩
    rw [this] at h
    cases h
theorem cfgright_eq (c0 c1 c2 c3 c4 c5 c6 cap : Int) (l : List Pfx) (h : ∀ j, j < 7 → refOk c0 c1 c2 c3 c4 c5 c6 j = true) :
    rightN c0 c1 c2 c3 c4 c5 c6 cap l = (decide (1 ≤ c0 ∧ 1 ≤ c2 ∧ 1 ≤ c4 ∧ 1 ≤ cap ∧ cap ≤ 256 ∧ (l.length : Int) ≤ cap) && ownN l) := by
  have e : (List.range 7).all (spanOk c0 c1 c2 c3 c4 c5 c6) = decide (1 ≤ c0 ∧ 1 ≤ c2 ∧ 1 ≤ c4) := by
    have h0 := of_decide_eq_true (h 0 (by omega)); have h1 := of_decide_eq_true (h 1 (by omega)); have h2 := of_decide_eq_true (h 2 (by omega)); have h3 := of_decide_eq_true (h 3 (by omega)); have h4 := of_decide_eq_true (h 4 (by omega)); have h5 := of_decide_eq_true (h 5 (by omega)); have h6 := of_decide_eq_true (h 6 (by omega))
    simp only [spanV, List.getD_cons_succ, List.getD_cons_zero] at h0 h1 h2 h3 h4 h5 h6
    have r7 : List.range 7 = [0, 1, 2, 3, 4, 5, 6] := rfl
    rw [r7, Bool.eq_iff_iff]
    simp [spanOk, spanL, spanV]
    omega
  unfold rightN
  rw [e, Bool.eq_iff_iff]
  simp only [Bool.and_eq_true, decide_eq_true_eq]
  constructor
  · rintro ⟨⟨h1, h2⟩, h3⟩
    exact ⟨⟨h1.1, h1.2.1, h1.2.2, h2.1, h2.2.1, h2.2.2⟩, h3⟩
  · rintro ⟨h1, h3⟩
    exact ⟨⟨⟨h1.1, h1.2.1, h1.2.2.1⟩, h1.2.2.2.1, h1.2.2.2.2.1, h1.2.2.2.2.2⟩, h3⟩
theorem spanV_at (c0 c1 c2 c3 c4 c5 c6 : Int) (x : Nat) (h : x < 7) : (#[.int .i64 c0, .int .i64 c1, .int .i64 c2, .int .i64 c3, .int .i64 c4, .int .i64 c5, .int .i64 c6] : Array Value)[x]? = some (.int .i64 (spanV c0 c1 c2 c3 c4 c5 c6 x)) :=
  seven (p := fun x => (#[.int .i64 c0, .int .i64 c1, .int .i64 c2, .int .i64 c3, .int .i64 c4, .int .i64 c5, .int .i64 c6] : Array Value)[x]? = some (.int .i64 (spanV c0 c1 c2 c3 c4 c5 c6 x))) x h rfl rfl rfl rfl rfl rfl rfl
set_option maxHeartbeats 8000000 in
set_option maxRecDepth 20000 in
theorem cfgright_any (c0 c1 c2 c3 c4 c5 c6 cap : Int) (A : Option Addr) (l : List Pfx) (cc : Nat) (w : World) (hr : Kd.C k81 w A l.length l) (hc : l.length ≤ cc) (ha : AdrP l) (hm : l.length ≤ 140737488355328) :
    Calls Try.prog 20 #[.agg #[.int .i64 c0, .int .i64 c1, .int .i64 c2, .int .i64 c3, .int .i64 c4, .int .i64 c5, .int .i64 c6, .int .i64 cap, .slice A l.length cc]] w fun e w' => e = .returned (.bool (rightN c0 c1 c2 c3 c4 c5 c6 cap l)) ∧ Below w.heap.size w w' := by
  have HR := Aside0.mk hr
  have HA := Aside0.mk ha
  clear hr ha
  have HK := Aside0.mk (Held.new w 24 #[.int .i64 c0, .int .i64 c1, .int .i64 c2, .int .i64 c3, .int .i64 c4, .int .i64 c5, .int .i64 c6, .int .i64 cap, .slice A l.length cc])
  have k0 := HK.out.blk.cell 0 _ rfl; have k1 := HK.out.blk.cell 1 _ rfl; have k2 := HK.out.blk.cell 2 _ rfl; have k3 := HK.out.blk.cell 3 _ rfl; have k4 := HK.out.blk.cell 4 _ rfl; have k5 := HK.out.blk.cell 5 _ rfl; have k6 := HK.out.blk.cell 6 _ rfl; have k7 := HK.out.blk.cell 7 _ rfl; have k8 := HK.out.blk.cell 8 _ rfl
  go_enter Try.func20, Try.ntmps20
  go_wp2_with (go_at_call 35; go_loud ((with_reducible refine (refspans_any c0 c1 c2 c3 c4 c5 c6 cap A l.length cc _).mono ?_); rintro e w1 ⟨rfl, hb⟩; have HK := Aside0.mk (HK.out.later hb); (try clear k0 k1 k2 k3 k4 k5 k6 k7 k8); have k0 := HK.out.blk.cell 0 _ rfl; have k1 := HK.out.blk.cell 1 _ rfl; have k2 := HK.out.blk.cell 2 _ rfl; have k3 := HK.out.blk.cell 3 _ rfl; have k4 := HK.out.blk.cell 4 _ rfl; have k5 := HK.out.blk.cell 5 _ rfl; have k6 := HK.out.blk.cell 6 _ rfl; have k7 := HK.out.blk.cell 7 _ rfl; have k8 := HK.out.blk.cell 8 _ rfl; have HB1 := Aside0.mk hb; clear hb))
  have HKS : Aside0 (Held w w.heap.size 24 #[.int .i64 c0, .int .i64 c1, .int .i64 c2, .int .i64 c3, .int .i64 c4, .int .i64 c5, .int .i64 c6, .int .i64 cap, .slice A l.length cc] (w1.alloc (.cells #[.int .i64 c0, .int .i64 c1, .int .i64 c2, .int .i64 c3, .int .i64 c4, .int .i64 c5, .int .i64 c6] 64))) := ⟨HK.out.later (below_alloc (Below.refl _ _) _)⟩
  have HSS : Aside0 (Held w w1.heap.size 64 #[.int .i64 c0, .int .i64 c1, .int .i64 c2, .int .i64 c3, .int .i64 c4, .int .i64 c5, .int .i64 c6] (w1.alloc (.cells #[.int .i64 c0, .int .i64 c1, .int .i64 c2, .int .i64 c3, .int .i64 c4, .int .i64 c5, .int .i64 c6] 64))) := ⟨⟨Blk.new w1 64 #[.int .i64 c0, .int .i64 c1, .int .i64 c2, .int .i64 c3, .int .i64 c4, .int .i64 c5, .int .i64 c6], HKS.out.bel⟩⟩
  have HW1 := Aside0.mk HK.out.bel.size
  clear HK k0 k1 k2 k3 k4 k5 k6 k7 k8
  go_loopg [4] 7 (fun kq v4 w' => ∃ x : Nat, v4 = .int .i64 x ∧ Aside0 (x + kq = 7) ∧ Aside0 (∀ j, j < x → refOk c0 c1 c2 c3 c4 c5 c6 j = true) ∧ Aside0 (Held w w.heap.size 24 #[.int .i64 c0, .int .i64 c1, .int .i64 c2, .int .i64 c3, .int .i64 c4, .int .i64 c5, .int .i64 c6, .int .i64 cap, .slice A l.length cc] w') ∧ Aside0 (Held w w1.heap.size 64 #[.int .i64 c0, .int .i64 c1, .int .i64 c2, .int .i64 c3, .int .i64 c4, .int .i64 c5, .int .i64 c6] w'))
  case atStart => exact ⟨0, rfl, ⟨by omega⟩, ⟨fun j hj => absurd hj (by omega)⟩, HKS, HSS⟩
  case round =>
    obtain ⟨x, rfl, HX, HK7, HK, HS⟩ := hrel
    have hx := HX.out
    clear HKS HSS
    by_cases hlt : x < 7
    · obtain ⟨k1', rfl⟩ : ∃ k1, gk = k1 + 1 := ⟨gk - 1, by omega⟩
      have p1 : (0 : Int) ≤ (x : Int) := by omega
      have p2 : (x : Int) < 7 := by omega
      have z := HS.out.blk.cell _ _ (spanV_at c0 c1 c2 c3 c4 c5 c6 x hlt)
      obtain ⟨V, hV⟩ : ∃ V, spanV c0 c1 c2 c3 c4 c5 c6 x = V := ⟨_, rfl⟩
      obtain ⟨b, hb⟩ : ∃ b, refOk c0 c1 c2 c3 c4 c5 c6 x = b := ⟨_, rfl⟩
      have hsp := refspan_eq V
      rw [show decide (0 ≤ V ∧ V ≤ 1000000) = b by rw [← hb, ← hV]; rfl] at hsp
      rw [hV] at z
      have HB := Aside0.mk hb
      have HSP := Aside0.mk hsp
      clear hV hb hsp
      cases b with
      | true =>
        go_wp2_with (go_at_call 36; ((with_reducible refine (waywardenref08_Span.calls V true _ HSP.out).mono ?_); rintro e w5 ⟨rfl, hd5⟩; have hb5 := hd5.below; have HK5 := Aside0.mk (HK.out.later hb5); have HS5 := Aside0.mk (HS.out.later hb5); clear hd5 hb5))
        go_roundg k1'
        case measure => omega
        case rel => exact ⟨x + 1, by simp, ⟨by omega⟩, ⟨fun j hj => by rcases Nat.lt_succ_iff_lt_or_eq.1 hj with h | rfl; exact HK7.out j h; exact HB.out⟩, HK5, HS5⟩
      | false =>
        go_wp2_with (go_at_call 36; ((with_reducible refine (waywardenref08_Span.calls V false _ HSP.out).mono ?_); rintro e w5 ⟨rfl, hd5⟩; have hb5 := hd5.below; have HK5 := Aside0.mk (HK.out.later hb5); clear hd5 hb5))
        go_ret
        exact ⟨by rw [cfgright_no c0 c1 c2 c3 c4 c5 c6 cap l x hlt HB.out]; rfl, HK5.out.bel⟩
    · obtain rfl : x = 7 := by omega
      have k0 := HK.out.blk.cell 0 _ rfl; have k1 := HK.out.blk.cell 1 _ rfl; have k2 := HK.out.blk.cell 2 _ rfl; have k3 := HK.out.blk.cell 3 _ rfl; have k4 := HK.out.blk.cell 4 _ rfl; have k5 := HK.out.blk.cell 5 _ rfl; have k6 := HK.out.blk.cell 6 _ rfl; have k7 := HK.out.blk.cell 7 _ rfl; have k8 := HK.out.blk.cell 8 _ rfl
      by_cases t0 : 1 ≤ c0
      · have d0 : decide (1 ≤ c0) = true := decide_eq_true t0
        by_cases t1 : 1 ≤ c2
        · have d1 : decide (1 ≤ c2) = true := decide_eq_true t1
          by_cases t2 : 1 ≤ c4
          · have d2 : decide (1 ≤ c4) = true := decide_eq_true t2
            by_cases t3 : 1 ≤ cap
            · have d3 : decide (1 ≤ cap) = true := decide_eq_true t3
              by_cases t4 : cap ≤ 256
              · have d4 : decide (cap ≤ 256) = true := decide_eq_true t4
                by_cases t5 : (l.length : Int) ≤ cap
                · have d5 : decide ((l.length : Int) ≤ cap) = true := decide_eq_true t5
                  have hall : rightN c0 c1 c2 c3 c4 c5 c6 cap l = ownN l := by
                    rw [cfgright_eq c0 c1 c2 c3 c4 c5 c6 cap l HK7.out]
                    rw [decide_eq_true (by exact ⟨by omega, by omega, by omega, by omega, by omega, by omega⟩), Bool.true_and]
                  go_wp2_with (go_at_call 37; ((with_reducible refine (refown_any A l cc _ (Kd.C_below HR.out HK.out.bel) hc HA.out (by omega)).mono ?_); rintro e w9 ⟨rfl, hb⟩; have HK := Aside0.mk (HK.out.later hb); have HS := Aside0.mk (HS.out.later hb); (try clear k0 k1 k2 k3 k4 k5 k6 k7 k8); have k0 := HK.out.blk.cell 0 _ rfl; have k1 := HK.out.blk.cell 1 _ rfl; have k2 := HK.out.blk.cell 2 _ rfl; have k3 := HK.out.blk.cell 3 _ rfl; have k4 := HK.out.blk.cell 4 _ rfl; have k5 := HK.out.blk.cell 5 _ rfl; have k6 := HK.out.blk.cell 6 _ rfl; have k7 := HK.out.blk.cell 7 _ rfl; have k8 := HK.out.blk.cell 8 _ rfl; clear hb))
                  go_ret
                  exact ⟨by first | rfl | (rw [hall]; rfl), HK.out.bel⟩
                · have d5 : decide ((l.length : Int) ≤ cap) = false := decide_eq_false t5
                  have hall : rightN c0 c1 c2 c3 c4 c5 c6 cap l = false := by
                    rw [cfgright_eq c0 c1 c2 c3 c4 c5 c6 cap l HK7.out, decide_eq_false (by omega), Bool.false_and]
                  go_wp2
                  go_ret
                  exact ⟨by first | rfl | (rw [hall]; rfl), HK.out.bel⟩
              · have d4 : decide (cap ≤ 256) = false := decide_eq_false t4
                have hall : rightN c0 c1 c2 c3 c4 c5 c6 cap l = false := by
                  rw [cfgright_eq c0 c1 c2 c3 c4 c5 c6 cap l HK7.out, decide_eq_false (by omega), Bool.false_and]
                go_wp2
                go_ret
                exact ⟨by first | rfl | (rw [hall]; rfl), HK.out.bel⟩
            · have d3 : decide (1 ≤ cap) = false := decide_eq_false t3
              have hall : rightN c0 c1 c2 c3 c4 c5 c6 cap l = false := by
                rw [cfgright_eq c0 c1 c2 c3 c4 c5 c6 cap l HK7.out, decide_eq_false (by omega), Bool.false_and]
              go_wp2
              go_ret
              exact ⟨by first | rfl | (rw [hall]; rfl), HK.out.bel⟩
          · have d2 : decide (1 ≤ c4) = false := decide_eq_false t2
            have hall : rightN c0 c1 c2 c3 c4 c5 c6 cap l = false := by
              rw [cfgright_eq c0 c1 c2 c3 c4 c5 c6 cap l HK7.out, decide_eq_false (by omega), Bool.false_and]
            go_wp2
            go_ret
            exact ⟨by first | rfl | (rw [hall]; rfl), HK.out.bel⟩
        · have d1 : decide (1 ≤ c2) = false := decide_eq_false t1
          have hall : rightN c0 c1 c2 c3 c4 c5 c6 cap l = false := by
            rw [cfgright_eq c0 c1 c2 c3 c4 c5 c6 cap l HK7.out, decide_eq_false (by omega), Bool.false_and]
          go_wp2
          go_ret
          exact ⟨by first | rfl | (rw [hall]; rfl), HK.out.bel⟩
      · have d0 : decide (1 ≤ c0) = false := decide_eq_false t0
        have hall : rightN c0 c1 c2 c3 c4 c5 c6 cap l = false := by
          rw [cfgright_eq c0 c1 c2 c3 c4 c5 c6 cap l HK7.out, decide_eq_false (by omega), Bool.false_and]
        go_wp2
        go_ret
        exact ⟨by first | rfl | (rw [hall]; rfl), HK.out.bel⟩
end Go.Proofs.Ytokjjppfdmkjeaa.A
