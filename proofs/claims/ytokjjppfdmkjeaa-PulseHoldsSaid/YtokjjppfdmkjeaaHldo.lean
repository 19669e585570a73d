/- pulse: the law PulseHolds. -/
import Derived.Test.YtokjjppfdmkjeaaPul6
import Derived.Test.YtokjjppfdmkjeaaPrz
import Derived.Deep.DeepCutAuto
import Derived.Deep.LoopGhost
set_option linter.unusedVariables false
set_option linter.unusedSimpArgs false
namespace Go.Proofs.Ytokjjppfdmkjeaa.A
open Go.RowKit Go.Proofs.YtokjjppfdmkjeaaW.PrintWords Go.Proofs.YtokjjppfdmkjeaaW.PrintLast Go.Proofs.YtokjjppfdmkjeaaW.PrintMore Go.Proofs.Ytokjjppfdmkjeaa.PPulseHolds

/-- what holds ahead of a tick -/
structure HInv (c0 c1 c5 c6 al tl wa t u0 u1 : Int) (u2 : Bool) : Prop where
  a0 : 0 ≤ al
  a1 : al ≤ t
  a2 : u0 ≤ al + c0 + c1
  a3 : 0 ≤ u0
  b0 : -1000 ≤ tl
  b1 : tl ≤ t
  b2 : tl + c5 ≤ u1
  b3 : 0 ≤ u1
  b4 : u1 ≤ t + c5 + c6
  w0 : -1 ≤ wa
  w1 : wa ≤ t
  w2 : 0 ≤ wa → u1 ≤ wa + c5 + c6
  w3 : u2 = decide (0 ≤ wa)
/-- what holds behind a tick; and behind a change -/
structure HMid (c0 c1 c5 c6 al tl wa t u0 u1 : Int) (u2 : Bool) : Prop where
  inv : HInv c0 c1 c5 c6 al tl wa t u0 u1 u2
  now : t ≤ al + c0 + c1
  lat : 0 ≤ wa → t ≤ wa + c5 + c6
  ahead : 0 ≤ wa → t < u1 ∨ wa = t
structure HCfg (c0 c1 c5 c6 : Int) : Prop where
  g0 : 1 ≤ c0 ∧ c0 ≤ 40
  g1 : 0 ≤ c1 ∧ c1 ≤ 40
  g5 : 0 ≤ c5 ∧ c5 ≤ 40
  g6 : 0 ≤ c6 ∧ c6 ≤ 40
theorem HMid.next {c0 c1 c5 c6 al tl wa t u0 u1 : Int} {u2 : Bool} (h : HMid c0 c1 c5 c6 al tl wa t u0 u1 u2) : HInv c0 c1 c5 c6 al tl wa (t + 1) u0 u1 u2 := by
  obtain ⟨⟨⟩, _, _, _⟩ := h
  constructor <;> first | assumption | omega
theorem HInv.ok {c0 c1 c5 c6 al tl wa t u0 u1 : Int} {u2 : Bool} (h : HInv c0 c1 c5 c6 al tl wa t u0 u1 u2) (hc : HCfg c0 c1 c5 c6) (ht : t ≤ 120) : pulseOk u0 u1 = true := by
  obtain ⟨⟩ := h
  obtain ⟨_, _, _, _⟩ := hc
  rw [pulseOk_and, Bool.and_eq_true, decide_eq_true_eq, decide_eq_true_eq]
  omega
theorem tick_cases {c0 c1 c5 c6 al tl wa t u0 u1 d : Int} {u2 : Bool} (h : HInv c0 c1 c5 c6 al tl wa t u0 u1 u2) (hc : HCfg c0 c1 c5 c6) :
    (tkK u0 u1 u2 t = 2 ∧ tkU2 u0 u1 u2 t = false ∧ HMid c0 c1 c5 c6 t tl (-1) t (tkU0 u0 t (c0 + clampN d c1)) (tkU1 u0 u1 u2 t (c5 + clampN d c6)) false) ∨
    (tkK u0 u1 u2 t = 1 ∧ tkU2 u0 u1 u2 t = false ∧ tl + c5 ≤ t ∧ HMid c0 c1 c5 c6 al t (-1) t (tkU0 u0 t (c0 + clampN d c1)) (tkU1 u0 u1 u2 t (c5 + clampN d c6)) false) ∨
    (tkK u0 u1 u2 t = 0 ∧ HMid c0 c1 c5 c6 al tl wa t (tkU0 u0 t (c0 + clampN d c1)) (tkU1 u0 u1 u2 t (c5 + clampN d c6)) (tkU2 u0 u1 u2 t) ∧ (0 ≤ wa → t < tkU1 u0 u1 u2 t (c5 + clampN d c6))) := by
  have x1 := clampN_in d c1 hc.g1.1
  have x6 := clampN_in d c6 hc.g6.1
  obtain ⟨a0, a1, a2, a3, b0, b1, b2, b3, b4, w0, w1, w2, w3⟩ := h
  obtain ⟨g0, g1, g5, g6⟩ := hc
  unfold tkK tkU0 tkU1 tkU2 chK chU1
  by_cases h0 : u0 ≤ t
  · simp only [if_pos h0]
    refine .inl ⟨(by first | rfl | trivial | simp), (by first | rfl | trivial | simp), ⟨⟨?_, ?_, ?_, ?_, ?_, ?_, ?_, ?_, ?_, ?_, ?_, ?_, ?_⟩, ?_, ?_, ?_⟩⟩ <;> first | omega | rfl
  · simp only [if_neg h0]
    by_cases hw : 0 ≤ wa
    · rw [decide_eq_true hw] at w3
      subst w3
      simp only [if_true]
      by_cases h1 : t < u1
      · simp only [if_pos h1]
        refine .inr (.inr ⟨(by first | rfl | trivial | simp), ⟨⟨?_, ?_, ?_, ?_, ?_, ?_, ?_, ?_, ?_, ?_, ?_, ?_, ?_⟩, ?_, ?_, ?_⟩, ?_⟩) <;> first | omega | (simp [h1, hw]; done)
      · simp only [if_neg h1]
        refine .inr (.inl ⟨(by first | rfl | trivial | simp), by simp [h1], by omega, ⟨⟨?_, ?_, ?_, ?_, ?_, ?_, ?_, ?_, ?_, ?_, ?_, ?_, ?_⟩, ?_, ?_, ?_⟩⟩) <;> first | omega | rfl
    · rw [decide_eq_false hw] at w3
      subst w3
      simp only [if_neg Bool.false_ne_true]
      refine .inr (.inr ⟨(by first | rfl | trivial | simp), ⟨⟨?_, ?_, ?_, ?_, ?_, ?_, ?_, ?_, ?_, ?_, ?_, ?_, ?_⟩, ?_, ?_, ?_⟩, ?_⟩) <;> first | omega | (simp [hw]; done)
theorem change_lt {c0 c1 c5 c6 al tl wa t u0 u1 : Int} {u2 : Bool} (h : HMid c0 c1 c5 c6 al tl wa t u0 u1 u2) (hc : HCfg c0 c1 c5 c6) (hlt : t < u1) (ht : 0 ≤ t) :
    (wa < 0 → HMid c0 c1 c5 c6 al tl t t u0 u1 true) ∧ (0 ≤ wa → HMid c0 c1 c5 c6 al tl wa t u0 u1 true) := by
  obtain ⟨⟨a0, a1, a2, a3, b0, b1, b2, b3, b4, w0, w1, w2, w3⟩, n1, n2, n3⟩ := h
  obtain ⟨g0, g1, g5, g6⟩ := hc
  constructor <;> intro hw <;> refine ⟨⟨?_, ?_, ?_, ?_, ?_, ?_, ?_, ?_, ?_, ?_, ?_, ?_, ?_⟩, ?_, ?_, ?_⟩ <;> first | omega | (simp [hw, ht]; done)
theorem change_ge {c0 c1 c5 c6 al tl wa t u0 u1 d : Int} {u2 : Bool} (h : HMid c0 c1 c5 c6 al tl wa t u0 u1 u2) (hc : HCfg c0 c1 c5 c6) (hlt : u1 ≤ t) :
    HMid c0 c1 c5 c6 al t (-1) t u0 (t + (c5 + clampN d c6)) false ∧ tl + c5 ≤ t := by
  have x6 := clampN_in d c6 hc.g6.1
  obtain ⟨⟨a0, a1, a2, a3, b0, b1, b2, b3, b4, w0, w1, w2, w3⟩, n1, n2, n3⟩ := h
  obtain ⟨g0, g1, g5, g6⟩ := hc
  refine ⟨⟨⟨?_, ?_, ?_, ?_, ?_, ?_, ?_, ?_, ?_, ?_, ?_, ?_, ?_⟩, ?_, ?_, ?_⟩, ?_⟩ <;> first | omega | rfl
theorem Many.put {w w1 : World} {bs : List (Nat × TypeId × Array Value)} (h : Many w bs w1) {g : Nat} {t : TypeId} {cs : Array Value} (hb : Blk w1 g t cs) : Many w (bs ++ [(g, t, cs)]) w1 := by
  refine ⟨fun i g' t' cs' hi => ?_, h.bel⟩
  rcases Nat.lt_or_ge i bs.length with hl | hl
  · rw [List.getElem?_append_left hl] at hi
    exact h.blk i g' t' cs' hi
  · rw [List.getElem?_append_right hl] at hi
    cases hk : i - bs.length with
    | zero =>
      rw [hk] at hi
      simp at hi
      obtain ⟨rfl, rfl, rfl⟩ := hi
      exact hb
    | succ k =>
      rw [hk] at hi
      simp at hi
theorem Many.two {w w1 : World} {a b : Nat × TypeId × Array Value} {rest : List (Nat × TypeId × Array Value)} (h : Many w (a :: b :: rest) w1) : Many w [a, b] w1 :=
  ⟨fun i g t cs hi => by
    match i, hi with
    | 0, hi => exact h.blk 0 g t cs hi
    | 1, hi => exact h.blk 1 g t cs hi
    | (i + 2), hi => simp at hi, h.bel⟩
set_option maxRecDepth 100000 in
set_option maxHeartbeats 16000000 in
theorem hld_out0 (c0 c1 c2 c3 c4 c5 c6 cap : Int) (A : Option Addr) (l : List Pfx) (cc : Nat) (CA : Option Addr) (ch : List Bool) (chc : Nat) (DA : Option Addr) (dr : List Int) (drc : Nat) (w : World) (hr : Kd.C k81 w A l.length l) (hc : l.length ≤ cc) (ha : AdrP l)  (hnot : ¬ l.length ≤ 20) :
    Calls Try.prog 6 #[.agg #[.int .i64 c0, .int .i64 c1, .int .i64 c2, .int .i64 c3, .int .i64 c4, .int .i64 c5, .int .i64 c6, .int .i64 cap, .slice A l.length cc], .slice CA ch.length chc, .slice DA dr.length drc] w fun e w' => e = .returned (.bool true) ∧ Below w.heap.size w w' := by
  have HR := Aside0.mk hr
  have HA := Aside0.mk ha
  clear hr ha
  have HF : Aside0 (waywardenlaw15_few.f c0 c1 c2 c3 c4 c5 c6 cap l = some false) := ⟨by unfold waywardenlaw15_few.f; congr 1; apply decide_eq_false; omega⟩
  have HM : Aside0 (Many w [(w.heap.size, 24, #[.int .i64 c0, .int .i64 c1, .int .i64 c2, .int .i64 c3, .int .i64 c4, .int .i64 c5, .int .i64 c6, .int .i64 cap, .slice A l.length cc])] (w.alloc (.cells #[.int .i64 c0, .int .i64 c1, .int .i64 c2, .int .i64 c3, .int .i64 c4, .int .i64 c5, .int .i64 c6, .int .i64 cap, .slice A l.length cc] 24))) := ⟨by have h := Many.grow (Many.none w) 24 #[.int .i64 c0, .int .i64 c1, .int .i64 c2, .int .i64 c3, .int .i64 c4, .int .i64 c5, .int .i64 c6, .int .i64 cap, .slice A l.length cc]; simpa using h⟩
  have kc0 := Blk.cell (Many.blk HM.out 0 _ _ _ rfl) 0 _ rfl
  have kc1 := Blk.cell (Many.blk HM.out 0 _ _ _ rfl) 1 _ rfl
  have kc2 := Blk.cell (Many.blk HM.out 0 _ _ _ rfl) 2 _ rfl
  have kc3 := Blk.cell (Many.blk HM.out 0 _ _ _ rfl) 3 _ rfl
  have kc4 := Blk.cell (Many.blk HM.out 0 _ _ _ rfl) 4 _ rfl
  have kc5 := Blk.cell (Many.blk HM.out 0 _ _ _ rfl) 5 _ rfl
  have kc6 := Blk.cell (Many.blk HM.out 0 _ _ _ rfl) 6 _ rfl
  have kc7 := Blk.cell (Many.blk HM.out 0 _ _ _ rfl) 7 _ rfl
  have kc8 := Blk.cell (Many.blk HM.out 0 _ _ _ rfl) 8 _ rfl
  go_enter Try.func6, Try.ntmps6
  go_wp2_with (first
    | (go_at_call 8; ((with_reducible refine (waywardenlaw15_few.calls c0 c1 c2 c3 c4 c5 c6 cap A cc l false _ (Kd.C_below HR.out HM.out.bel) hc HF.out).mono ?_); rintro e w9 ⟨rfl, hb⟩; have HM := Aside0.mk (Many.later HM.out hb); (try clear kc0 kc1 kc2 kc3 kc4 kc5 kc6 kc7 kc8); have kc0 := Blk.cell (Many.blk HM.out 0 _ _ _ rfl) 0 _ rfl; have kc1 := Blk.cell (Many.blk HM.out 0 _ _ _ rfl) 1 _ rfl; have kc2 := Blk.cell (Many.blk HM.out 0 _ _ _ rfl) 2 _ rfl; have kc3 := Blk.cell (Many.blk HM.out 0 _ _ _ rfl) 3 _ rfl; have kc4 := Blk.cell (Many.blk HM.out 0 _ _ _ rfl) 4 _ rfl; have kc5 := Blk.cell (Many.blk HM.out 0 _ _ _ rfl) 5 _ rfl; have kc6 := Blk.cell (Many.blk HM.out 0 _ _ _ rfl) 6 _ rfl; have kc7 := Blk.cell (Many.blk HM.out 0 _ _ _ rfl) 7 _ rfl; have kc8 := Blk.cell (Many.blk HM.out 0 _ _ _ rfl) 8 _ rfl; clear hb))
    | (go_at_call 9; go_loud ((with_reducible refine (works_any _).mono ?_); rintro e w9 ⟨rfl, hb⟩; have HM := Aside0.mk (Many.later HM.out hb); (try clear kc0 kc1 kc2 kc3 kc4 kc5 kc6 kc7 kc8); have kc0 := Blk.cell (Many.blk HM.out 0 _ _ _ rfl) 0 _ rfl; have kc1 := Blk.cell (Many.blk HM.out 0 _ _ _ rfl) 1 _ rfl; have kc2 := Blk.cell (Many.blk HM.out 0 _ _ _ rfl) 2 _ rfl; have kc3 := Blk.cell (Many.blk HM.out 0 _ _ _ rfl) 3 _ rfl; have kc4 := Blk.cell (Many.blk HM.out 0 _ _ _ rfl) 4 _ rfl; have kc5 := Blk.cell (Many.blk HM.out 0 _ _ _ rfl) 5 _ rfl; have kc6 := Blk.cell (Many.blk HM.out 0 _ _ _ rfl) 6 _ rfl; have kc7 := Blk.cell (Many.blk HM.out 0 _ _ _ rfl) 7 _ rfl; have kc8 := Blk.cell (Many.blk HM.out 0 _ _ _ rfl) 8 _ rfl; clear hb)))
  go_ret
  exact ⟨rfl, HM.out.bel⟩
set_option maxRecDepth 100000 in
set_option maxHeartbeats 16000000 in
theorem hld_out1 (c0 c1 c2 c3 c4 c5 c6 cap : Int) (A : Option Addr) (l : List Pfx) (cc : Nat) (CA : Option Addr) (ch : List Bool) (chc : Nat) (DA : Option Addr) (dr : List Int) (drc : Nat) (w : World) (hr : Kd.C k81 w A l.length l) (hc : l.length ≤ cc) (ha : AdrP l) (h0 : l.length ≤ 20) (hn : rightN c0 c1 c2 c3 c4 c5 c6 cap l = false) :
    Calls Try.prog 6 #[.agg #[.int .i64 c0, .int .i64 c1, .int .i64 c2, .int .i64 c3, .int .i64 c4, .int .i64 c5, .int .i64 c6, .int .i64 cap, .slice A l.length cc], .slice CA ch.length chc, .slice DA dr.length drc] w fun e w' => e = .returned (.bool true) ∧ Below w.heap.size w w' := by
  have HR := Aside0.mk hr
  have HA := Aside0.mk ha
  clear hr ha
  have HF : Aside0 (waywardenlaw15_few.f c0 c1 c2 c3 c4 c5 c6 cap l = some true) := ⟨by unfold waywardenlaw15_few.f; congr 1; apply decide_eq_true; omega⟩
  have HN := Aside0.mk hn
  clear hn
  have HM : Aside0 (Many w [(w.heap.size, 24, #[.int .i64 c0, .int .i64 c1, .int .i64 c2, .int .i64 c3, .int .i64 c4, .int .i64 c5, .int .i64 c6, .int .i64 cap, .slice A l.length cc])] (w.alloc (.cells #[.int .i64 c0, .int .i64 c1, .int .i64 c2, .int .i64 c3, .int .i64 c4, .int .i64 c5, .int .i64 c6, .int .i64 cap, .slice A l.length cc] 24))) := ⟨by have h := Many.grow (Many.none w) 24 #[.int .i64 c0, .int .i64 c1, .int .i64 c2, .int .i64 c3, .int .i64 c4, .int .i64 c5, .int .i64 c6, .int .i64 cap, .slice A l.length cc]; simpa using h⟩
  have kc0 := Blk.cell (Many.blk HM.out 0 _ _ _ rfl) 0 _ rfl
  have kc1 := Blk.cell (Many.blk HM.out 0 _ _ _ rfl) 1 _ rfl
  have kc2 := Blk.cell (Many.blk HM.out 0 _ _ _ rfl) 2 _ rfl
  have kc3 := Blk.cell (Many.blk HM.out 0 _ _ _ rfl) 3 _ rfl
  have kc4 := Blk.cell (Many.blk HM.out 0 _ _ _ rfl) 4 _ rfl
  have kc5 := Blk.cell (Many.blk HM.out 0 _ _ _ rfl) 5 _ rfl
  have kc6 := Blk.cell (Many.blk HM.out 0 _ _ _ rfl) 6 _ rfl
  have kc7 := Blk.cell (Many.blk HM.out 0 _ _ _ rfl) 7 _ rfl
  have kc8 := Blk.cell (Many.blk HM.out 0 _ _ _ rfl) 8 _ rfl
  go_enter Try.func6, Try.ntmps6
  go_wp2_with (first
    | (go_at_call 8; ((with_reducible refine (waywardenlaw15_few.calls c0 c1 c2 c3 c4 c5 c6 cap A cc l true _ (Kd.C_below HR.out HM.out.bel) hc HF.out).mono ?_); rintro e w9 ⟨rfl, hb⟩; have HM := Aside0.mk (Many.later HM.out hb); (try clear kc0 kc1 kc2 kc3 kc4 kc5 kc6 kc7 kc8); have kc0 := Blk.cell (Many.blk HM.out 0 _ _ _ rfl) 0 _ rfl; have kc1 := Blk.cell (Many.blk HM.out 0 _ _ _ rfl) 1 _ rfl; have kc2 := Blk.cell (Many.blk HM.out 0 _ _ _ rfl) 2 _ rfl; have kc3 := Blk.cell (Many.blk HM.out 0 _ _ _ rfl) 3 _ rfl; have kc4 := Blk.cell (Many.blk HM.out 0 _ _ _ rfl) 4 _ rfl; have kc5 := Blk.cell (Many.blk HM.out 0 _ _ _ rfl) 5 _ rfl; have kc6 := Blk.cell (Many.blk HM.out 0 _ _ _ rfl) 6 _ rfl; have kc7 := Blk.cell (Many.blk HM.out 0 _ _ _ rfl) 7 _ rfl; have kc8 := Blk.cell (Many.blk HM.out 0 _ _ _ rfl) 8 _ rfl; clear hb))
    | (go_at_call 20; go_loud ((with_reducible refine (cfgright_any c0 c1 c2 c3 c4 c5 c6 cap A l cc _ (Kd.C_below HR.out HM.out.bel) hc HA.out (by omega)).mono ?_); rw [HN.out]; rintro e w9 ⟨rfl, hb⟩; have HM := Aside0.mk (Many.later HM.out hb); (try clear kc0 kc1 kc2 kc3 kc4 kc5 kc6 kc7 kc8); have kc0 := Blk.cell (Many.blk HM.out 0 _ _ _ rfl) 0 _ rfl; have kc1 := Blk.cell (Many.blk HM.out 0 _ _ _ rfl) 1 _ rfl; have kc2 := Blk.cell (Many.blk HM.out 0 _ _ _ rfl) 2 _ rfl; have kc3 := Blk.cell (Many.blk HM.out 0 _ _ _ rfl) 3 _ rfl; have kc4 := Blk.cell (Many.blk HM.out 0 _ _ _ rfl) 4 _ rfl; have kc5 := Blk.cell (Many.blk HM.out 0 _ _ _ rfl) 5 _ rfl; have kc6 := Blk.cell (Many.blk HM.out 0 _ _ _ rfl) 6 _ rfl; have kc7 := Blk.cell (Many.blk HM.out 0 _ _ _ rfl) 7 _ rfl; have kc8 := Blk.cell (Many.blk HM.out 0 _ _ _ rfl) 8 _ rfl; clear hb))
    | (go_at_call 9; go_loud ((with_reducible refine (works_any _).mono ?_); rintro e w9 ⟨rfl, hb⟩; have HM := Aside0.mk (Many.later HM.out hb); (try clear kc0 kc1 kc2 kc3 kc4 kc5 kc6 kc7 kc8); have kc0 := Blk.cell (Many.blk HM.out 0 _ _ _ rfl) 0 _ rfl; have kc1 := Blk.cell (Many.blk HM.out 0 _ _ _ rfl) 1 _ rfl; have kc2 := Blk.cell (Many.blk HM.out 0 _ _ _ rfl) 2 _ rfl; have kc3 := Blk.cell (Many.blk HM.out 0 _ _ _ rfl) 3 _ rfl; have kc4 := Blk.cell (Many.blk HM.out 0 _ _ _ rfl) 4 _ rfl; have kc5 := Blk.cell (Many.blk HM.out 0 _ _ _ rfl) 5 _ rfl; have kc6 := Blk.cell (Many.blk HM.out 0 _ _ _ rfl) 6 _ rfl; have kc7 := Blk.cell (Many.blk HM.out 0 _ _ _ rfl) 7 _ rfl; have kc8 := Blk.cell (Many.blk HM.out 0 _ _ _ rfl) 8 _ rfl; clear hb)))
  go_ret
  exact ⟨rfl, HM.out.bel⟩
set_option maxRecDepth 100000 in
set_option maxHeartbeats 16000000 in
theorem hld_out2 (c0 c1 c2 c3 c4 c5 c6 cap : Int) (A : Option Addr) (l : List Pfx) (cc : Nat) (CA : Option Addr) (ch : List Bool) (chc : Nat) (DA : Option Addr) (dr : List Int) (drc : Nat) (w : World) (hr : Kd.C k81 w A l.length l) (hc : l.length ≤ cc) (ha : AdrP l) (h0 : l.length ≤ 20) (hn : rightN c0 c1 c2 c3 c4 c5 c6 cap l = true) (hnot : ¬ ch.length ≤ 120) :
    Calls Try.prog 6 #[.agg #[.int .i64 c0, .int .i64 c1, .int .i64 c2, .int .i64 c3, .int .i64 c4, .int .i64 c5, .int .i64 c6, .int .i64 cap, .slice A l.length cc], .slice CA ch.length chc, .slice DA dr.length drc] w fun e w' => e = .returned (.bool true) ∧ Below w.heap.size w w' := by
  have HR := Aside0.mk hr
  have HA := Aside0.mk ha
  clear hr ha
  have HF : Aside0 (waywardenlaw15_few.f c0 c1 c2 c3 c4 c5 c6 cap l = some true) := ⟨by unfold waywardenlaw15_few.f; congr 1; apply decide_eq_true; omega⟩
  have dg2 : decide ((ch.length : Int) > 120) = true := decide_eq_true (by omega)
  have dl2 : decide (120 < (ch.length : Int)) = true := decide_eq_true (by omega)
  have dn2 : decide (120 < ch.length) = true := decide_eq_true (by omega)
  have HN := Aside0.mk hn
  clear hn
  have HM : Aside0 (Many w [(w.heap.size, 24, #[.int .i64 c0, .int .i64 c1, .int .i64 c2, .int .i64 c3, .int .i64 c4, .int .i64 c5, .int .i64 c6, .int .i64 cap, .slice A l.length cc])] (w.alloc (.cells #[.int .i64 c0, .int .i64 c1, .int .i64 c2, .int .i64 c3, .int .i64 c4, .int .i64 c5, .int .i64 c6, .int .i64 cap, .slice A l.length cc] 24))) := ⟨by have h := Many.grow (Many.none w) 24 #[.int .i64 c0, .int .i64 c1, .int .i64 c2, .int .i64 c3, .int .i64 c4, .int .i64 c5, .int .i64 c6, .int .i64 cap, .slice A l.length cc]; simpa using h⟩
  have kc0 := Blk.cell (Many.blk HM.out 0 _ _ _ rfl) 0 _ rfl
  have kc1 := Blk.cell (Many.blk HM.out 0 _ _ _ rfl) 1 _ rfl
  have kc2 := Blk.cell (Many.blk HM.out 0 _ _ _ rfl) 2 _ rfl
  have kc3 := Blk.cell (Many.blk HM.out 0 _ _ _ rfl) 3 _ rfl
  have kc4 := Blk.cell (Many.blk HM.out 0 _ _ _ rfl) 4 _ rfl
  have kc5 := Blk.cell (Many.blk HM.out 0 _ _ _ rfl) 5 _ rfl
  have kc6 := Blk.cell (Many.blk HM.out 0 _ _ _ rfl) 6 _ rfl
  have kc7 := Blk.cell (Many.blk HM.out 0 _ _ _ rfl) 7 _ rfl
  have kc8 := Blk.cell (Many.blk HM.out 0 _ _ _ rfl) 8 _ rfl
  go_enter Try.func6, Try.ntmps6
  go_wp2_with (first
    | (go_at_call 8; ((with_reducible refine (waywardenlaw15_few.calls c0 c1 c2 c3 c4 c5 c6 cap A cc l true _ (Kd.C_below HR.out HM.out.bel) hc HF.out).mono ?_); rintro e w9 ⟨rfl, hb⟩; have HM := Aside0.mk (Many.later HM.out hb); (try clear kc0 kc1 kc2 kc3 kc4 kc5 kc6 kc7 kc8); have kc0 := Blk.cell (Many.blk HM.out 0 _ _ _ rfl) 0 _ rfl; have kc1 := Blk.cell (Many.blk HM.out 0 _ _ _ rfl) 1 _ rfl; have kc2 := Blk.cell (Many.blk HM.out 0 _ _ _ rfl) 2 _ rfl; have kc3 := Blk.cell (Many.blk HM.out 0 _ _ _ rfl) 3 _ rfl; have kc4 := Blk.cell (Many.blk HM.out 0 _ _ _ rfl) 4 _ rfl; have kc5 := Blk.cell (Many.blk HM.out 0 _ _ _ rfl) 5 _ rfl; have kc6 := Blk.cell (Many.blk HM.out 0 _ _ _ rfl) 6 _ rfl; have kc7 := Blk.cell (Many.blk HM.out 0 _ _ _ rfl) 7 _ rfl; have kc8 := Blk.cell (Many.blk HM.out 0 _ _ _ rfl) 8 _ rfl; clear hb))
    | (go_at_call 20; go_loud ((with_reducible refine (cfgright_any c0 c1 c2 c3 c4 c5 c6 cap A l cc _ (Kd.C_below HR.out HM.out.bel) hc HA.out (by omega)).mono ?_); rw [HN.out]; rintro e w9 ⟨rfl, hb⟩; have HM := Aside0.mk (Many.later HM.out hb); (try clear kc0 kc1 kc2 kc3 kc4 kc5 kc6 kc7 kc8); have kc0 := Blk.cell (Many.blk HM.out 0 _ _ _ rfl) 0 _ rfl; have kc1 := Blk.cell (Many.blk HM.out 0 _ _ _ rfl) 1 _ rfl; have kc2 := Blk.cell (Many.blk HM.out 0 _ _ _ rfl) 2 _ rfl; have kc3 := Blk.cell (Many.blk HM.out 0 _ _ _ rfl) 3 _ rfl; have kc4 := Blk.cell (Many.blk HM.out 0 _ _ _ rfl) 4 _ rfl; have kc5 := Blk.cell (Many.blk HM.out 0 _ _ _ rfl) 5 _ rfl; have kc6 := Blk.cell (Many.blk HM.out 0 _ _ _ rfl) 6 _ rfl; have kc7 := Blk.cell (Many.blk HM.out 0 _ _ _ rfl) 7 _ rfl; have kc8 := Blk.cell (Many.blk HM.out 0 _ _ _ rfl) 8 _ rfl; clear hb))
    | (go_at_call 9; go_loud ((with_reducible refine (works_any _).mono ?_); rintro e w9 ⟨rfl, hb⟩; have HM := Aside0.mk (Many.later HM.out hb); (try clear kc0 kc1 kc2 kc3 kc4 kc5 kc6 kc7 kc8); have kc0 := Blk.cell (Many.blk HM.out 0 _ _ _ rfl) 0 _ rfl; have kc1 := Blk.cell (Many.blk HM.out 0 _ _ _ rfl) 1 _ rfl; have kc2 := Blk.cell (Many.blk HM.out 0 _ _ _ rfl) 2 _ rfl; have kc3 := Blk.cell (Many.blk HM.out 0 _ _ _ rfl) 3 _ rfl; have kc4 := Blk.cell (Many.blk HM.out 0 _ _ _ rfl) 4 _ rfl; have kc5 := Blk.cell (Many.blk HM.out 0 _ _ _ rfl) 5 _ rfl; have kc6 := Blk.cell (Many.blk HM.out 0 _ _ _ rfl) 6 _ rfl; have kc7 := Blk.cell (Many.blk HM.out 0 _ _ _ rfl) 7 _ rfl; have kc8 := Blk.cell (Many.blk HM.out 0 _ _ _ rfl) 8 _ rfl; clear hb)))
  go_ret
  exact ⟨rfl, HM.out.bel⟩
set_option maxRecDepth 100000 in
set_option maxHeartbeats 16000000 in
theorem hld_out3 (c0 c1 c2 c3 c4 c5 c6 cap : Int) (A : Option Addr) (l : List Pfx) (cc : Nat) (CA : Option Addr) (ch : List Bool) (chc : Nat) (DA : Option Addr) (dr : List Int) (drc : Nat) (w : World) (hr : Kd.C k81 w A l.length l) (hc : l.length ≤ cc) (ha : AdrP l) (h0 : l.length ≤ 20) (h2 : ch.length ≤ 120) (hn : rightN c0 c1 c2 c3 c4 c5 c6 cap l = true) (hnot : ¬ dr.length ≤ 120) :
    Calls Try.prog 6 #[.agg #[.int .i64 c0, .int .i64 c1, .int .i64 c2, .int .i64 c3, .int .i64 c4, .int .i64 c5, .int .i64 c6, .int .i64 cap, .slice A l.length cc], .slice CA ch.length chc, .slice DA dr.length drc] w fun e w' => e = .returned (.bool true) ∧ Below w.heap.size w w' := by
  have HR := Aside0.mk hr
  have HA := Aside0.mk ha
  clear hr ha
  have HF : Aside0 (waywardenlaw15_few.f c0 c1 c2 c3 c4 c5 c6 cap l = some true) := ⟨by unfold waywardenlaw15_few.f; congr 1; apply decide_eq_true; omega⟩
  have dg2 : decide ((ch.length : Int) > 120) = false := decide_eq_false (by omega)
  have dl2 : decide (120 < (ch.length : Int)) = false := decide_eq_false (by omega)
  have dn2 : decide (120 < ch.length) = false := decide_eq_false (by omega)
  have dg3 : decide ((dr.length : Int) > 120) = true := decide_eq_true (by omega)
  have dl3 : decide (120 < (dr.length : Int)) = true := decide_eq_true (by omega)
  have dn3 : decide (120 < dr.length) = true := decide_eq_true (by omega)
  have HN := Aside0.mk hn
  clear hn
  have HM : Aside0 (Many w [(w.heap.size, 24, #[.int .i64 c0, .int .i64 c1, .int .i64 c2, .int .i64 c3, .int .i64 c4, .int .i64 c5, .int .i64 c6, .int .i64 cap, .slice A l.length cc])] (w.alloc (.cells #[.int .i64 c0, .int .i64 c1, .int .i64 c2, .int .i64 c3, .int .i64 c4, .int .i64 c5, .int .i64 c6, .int .i64 cap, .slice A l.length cc] 24))) := ⟨by have h := Many.grow (Many.none w) 24 #[.int .i64 c0, .int .i64 c1, .int .i64 c2, .int .i64 c3, .int .i64 c4, .int .i64 c5, .int .i64 c6, .int .i64 cap, .slice A l.length cc]; simpa using h⟩
  have kc0 := Blk.cell (Many.blk HM.out 0 _ _ _ rfl) 0 _ rfl
  have kc1 := Blk.cell (Many.blk HM.out 0 _ _ _ rfl) 1 _ rfl
  have kc2 := Blk.cell (Many.blk HM.out 0 _ _ _ rfl) 2 _ rfl
  have kc3 := Blk.cell (Many.blk HM.out 0 _ _ _ rfl) 3 _ rfl
  have kc4 := Blk.cell (Many.blk HM.out 0 _ _ _ rfl) 4 _ rfl
  have kc5 := Blk.cell (Many.blk HM.out 0 _ _ _ rfl) 5 _ rfl
  have kc6 := Blk.cell (Many.blk HM.out 0 _ _ _ rfl) 6 _ rfl
  have kc7 := Blk.cell (Many.blk HM.out 0 _ _ _ rfl) 7 _ rfl
  have kc8 := Blk.cell (Many.blk HM.out 0 _ _ _ rfl) 8 _ rfl
  go_enter Try.func6, Try.ntmps6
  go_wp2_with (first
    | (go_at_call 8; ((with_reducible refine (waywardenlaw15_few.calls c0 c1 c2 c3 c4 c5 c6 cap A cc l true _ (Kd.C_below HR.out HM.out.bel) hc HF.out).mono ?_); rintro e w9 ⟨rfl, hb⟩; have HM := Aside0.mk (Many.later HM.out hb); (try clear kc0 kc1 kc2 kc3 kc4 kc5 kc6 kc7 kc8); have kc0 := Blk.cell (Many.blk HM.out 0 _ _ _ rfl) 0 _ rfl; have kc1 := Blk.cell (Many.blk HM.out 0 _ _ _ rfl) 1 _ rfl; have kc2 := Blk.cell (Many.blk HM.out 0 _ _ _ rfl) 2 _ rfl; have kc3 := Blk.cell (Many.blk HM.out 0 _ _ _ rfl) 3 _ rfl; have kc4 := Blk.cell (Many.blk HM.out 0 _ _ _ rfl) 4 _ rfl; have kc5 := Blk.cell (Many.blk HM.out 0 _ _ _ rfl) 5 _ rfl; have kc6 := Blk.cell (Many.blk HM.out 0 _ _ _ rfl) 6 _ rfl; have kc7 := Blk.cell (Many.blk HM.out 0 _ _ _ rfl) 7 _ rfl; have kc8 := Blk.cell (Many.blk HM.out 0 _ _ _ rfl) 8 _ rfl; clear hb))
    | (go_at_call 20; go_loud ((with_reducible refine (cfgright_any c0 c1 c2 c3 c4 c5 c6 cap A l cc _ (Kd.C_below HR.out HM.out.bel) hc HA.out (by omega)).mono ?_); rw [HN.out]; rintro e w9 ⟨rfl, hb⟩; have HM := Aside0.mk (Many.later HM.out hb); (try clear kc0 kc1 kc2 kc3 kc4 kc5 kc6 kc7 kc8); have kc0 := Blk.cell (Many.blk HM.out 0 _ _ _ rfl) 0 _ rfl; have kc1 := Blk.cell (Many.blk HM.out 0 _ _ _ rfl) 1 _ rfl; have kc2 := Blk.cell (Many.blk HM.out 0 _ _ _ rfl) 2 _ rfl; have kc3 := Blk.cell (Many.blk HM.out 0 _ _ _ rfl) 3 _ rfl; have kc4 := Blk.cell (Many.blk HM.out 0 _ _ _ rfl) 4 _ rfl; have kc5 := Blk.cell (Many.blk HM.out 0 _ _ _ rfl) 5 _ rfl; have kc6 := Blk.cell (Many.blk HM.out 0 _ _ _ rfl) 6 _ rfl; have kc7 := Blk.cell (Many.blk HM.out 0 _ _ _ rfl) 7 _ rfl; have kc8 := Blk.cell (Many.blk HM.out 0 _ _ _ rfl) 8 _ rfl; clear hb))
    | (go_at_call 9; go_loud ((with_reducible refine (works_any _).mono ?_); rintro e w9 ⟨rfl, hb⟩; have HM := Aside0.mk (Many.later HM.out hb); (try clear kc0 kc1 kc2 kc3 kc4 kc5 kc6 kc7 kc8); have kc0 := Blk.cell (Many.blk HM.out 0 _ _ _ rfl) 0 _ rfl; have kc1 := Blk.cell (Many.blk HM.out 0 _ _ _ rfl) 1 _ rfl; have kc2 := Blk.cell (Many.blk HM.out 0 _ _ _ rfl) 2 _ rfl; have kc3 := Blk.cell (Many.blk HM.out 0 _ _ _ rfl) 3 _ rfl; have kc4 := Blk.cell (Many.blk HM.out 0 _ _ _ rfl) 4 _ rfl; have kc5 := Blk.cell (Many.blk HM.out 0 _ _ _ rfl) 5 _ rfl; have kc6 := Blk.cell (Many.blk HM.out 0 _ _ _ rfl) 6 _ rfl; have kc7 := Blk.cell (Many.blk HM.out 0 _ _ _ rfl) 7 _ rfl; have kc8 := Blk.cell (Many.blk HM.out 0 _ _ _ rfl) 8 _ rfl; clear hb)))
  go_ret
  exact ⟨rfl, HM.out.bel⟩
set_option maxRecDepth 100000 in
set_option maxHeartbeats 16000000 in
theorem hld_out4 (c0 c1 c2 c3 c4 c5 c6 cap : Int) (A : Option Addr) (l : List Pfx) (cc : Nat) (CA : Option Addr) (ch : List Bool) (chc : Nat) (DA : Option Addr) (dr : List Int) (drc : Nat) (w : World) (hr : Kd.C k81 w A l.length l) (hc : l.length ≤ cc) (ha : AdrP l) (h0 : l.length ≤ 20) (h2 : ch.length ≤ 120) (h3 : dr.length ≤ 120) (hn : rightN c0 c1 c2 c3 c4 c5 c6 cap l = true) (hnot : ¬ c0 ≤ 40) :
    Calls Try.prog 6 #[.agg #[.int .i64 c0, .int .i64 c1, .int .i64 c2, .int .i64 c3, .int .i64 c4, .int .i64 c5, .int .i64 c6, .int .i64 cap, .slice A l.length cc], .slice CA ch.length chc, .slice DA dr.length drc] w fun e w' => e = .returned (.bool true) ∧ Below w.heap.size w w' := by
  have HR := Aside0.mk hr
  have HA := Aside0.mk ha
  clear hr ha
  have HF : Aside0 (waywardenlaw15_few.f c0 c1 c2 c3 c4 c5 c6 cap l = some true) := ⟨by unfold waywardenlaw15_few.f; congr 1; apply decide_eq_true; omega⟩
  have dg2 : decide ((ch.length : Int) > 120) = false := decide_eq_false (by omega)
  have dl2 : decide (120 < (ch.length : Int)) = false := decide_eq_false (by omega)
  have dn2 : decide (120 < ch.length) = false := decide_eq_false (by omega)
  have dg3 : decide ((dr.length : Int) > 120) = false := decide_eq_false (by omega)
  have dl3 : decide (120 < (dr.length : Int)) = false := decide_eq_false (by omega)
  have dn3 : decide (120 < dr.length) = false := decide_eq_false (by omega)
  have dg4 : decide (c0 > 40) = true := decide_eq_true (by omega)
  have dl4 : decide (40 < c0) = true := decide_eq_true (by omega)
  have HN := Aside0.mk hn
  clear hn
  have HM : Aside0 (Many w [(w.heap.size, 24, #[.int .i64 c0, .int .i64 c1, .int .i64 c2, .int .i64 c3, .int .i64 c4, .int .i64 c5, .int .i64 c6, .int .i64 cap, .slice A l.length cc])] (w.alloc (.cells #[.int .i64 c0, .int .i64 c1, .int .i64 c2, .int .i64 c3, .int .i64 c4, .int .i64 c5, .int .i64 c6, .int .i64 cap, .slice A l.length cc] 24))) := ⟨by have h := Many.grow (Many.none w) 24 #[.int .i64 c0, .int .i64 c1, .int .i64 c2, .int .i64 c3, .int .i64 c4, .int .i64 c5, .int .i64 c6, .int .i64 cap, .slice A l.length cc]; simpa using h⟩
  have kc0 := Blk.cell (Many.blk HM.out 0 _ _ _ rfl) 0 _ rfl
  have kc1 := Blk.cell (Many.blk HM.out 0 _ _ _ rfl) 1 _ rfl
  have kc2 := Blk.cell (Many.blk HM.out 0 _ _ _ rfl) 2 _ rfl
  have kc3 := Blk.cell (Many.blk HM.out 0 _ _ _ rfl) 3 _ rfl
  have kc4 := Blk.cell (Many.blk HM.out 0 _ _ _ rfl) 4 _ rfl
  have kc5 := Blk.cell (Many.blk HM.out 0 _ _ _ rfl) 5 _ rfl
  have kc6 := Blk.cell (Many.blk HM.out 0 _ _ _ rfl) 6 _ rfl
  have kc7 := Blk.cell (Many.blk HM.out 0 _ _ _ rfl) 7 _ rfl
  have kc8 := Blk.cell (Many.blk HM.out 0 _ _ _ rfl) 8 _ rfl
  go_enter Try.func6, Try.ntmps6
  go_wp2_with (first
    | (go_at_call 8; ((with_reducible refine (waywardenlaw15_few.calls c0 c1 c2 c3 c4 c5 c6 cap A cc l true _ (Kd.C_below HR.out HM.out.bel) hc HF.out).mono ?_); rintro e w9 ⟨rfl, hb⟩; have HM := Aside0.mk (Many.later HM.out hb); (try clear kc0 kc1 kc2 kc3 kc4 kc5 kc6 kc7 kc8); have kc0 := Blk.cell (Many.blk HM.out 0 _ _ _ rfl) 0 _ rfl; have kc1 := Blk.cell (Many.blk HM.out 0 _ _ _ rfl) 1 _ rfl; have kc2 := Blk.cell (Many.blk HM.out 0 _ _ _ rfl) 2 _ rfl; have kc3 := Blk.cell (Many.blk HM.out 0 _ _ _ rfl) 3 _ rfl; have kc4 := Blk.cell (Many.blk HM.out 0 _ _ _ rfl) 4 _ rfl; have kc5 := Blk.cell (Many.blk HM.out 0 _ _ _ rfl) 5 _ rfl; have kc6 := Blk.cell (Many.blk HM.out 0 _ _ _ rfl) 6 _ rfl; have kc7 := Blk.cell (Many.blk HM.out 0 _ _ _ rfl) 7 _ rfl; have kc8 := Blk.cell (Many.blk HM.out 0 _ _ _ rfl) 8 _ rfl; clear hb))
    | (go_at_call 20; go_loud ((with_reducible refine (cfgright_any c0 c1 c2 c3 c4 c5 c6 cap A l cc _ (Kd.C_below HR.out HM.out.bel) hc HA.out (by omega)).mono ?_); rw [HN.out]; rintro e w9 ⟨rfl, hb⟩; have HM := Aside0.mk (Many.later HM.out hb); (try clear kc0 kc1 kc2 kc3 kc4 kc5 kc6 kc7 kc8); have kc0 := Blk.cell (Many.blk HM.out 0 _ _ _ rfl) 0 _ rfl; have kc1 := Blk.cell (Many.blk HM.out 0 _ _ _ rfl) 1 _ rfl; have kc2 := Blk.cell (Many.blk HM.out 0 _ _ _ rfl) 2 _ rfl; have kc3 := Blk.cell (Many.blk HM.out 0 _ _ _ rfl) 3 _ rfl; have kc4 := Blk.cell (Many.blk HM.out 0 _ _ _ rfl) 4 _ rfl; have kc5 := Blk.cell (Many.blk HM.out 0 _ _ _ rfl) 5 _ rfl; have kc6 := Blk.cell (Many.blk HM.out 0 _ _ _ rfl) 6 _ rfl; have kc7 := Blk.cell (Many.blk HM.out 0 _ _ _ rfl) 7 _ rfl; have kc8 := Blk.cell (Many.blk HM.out 0 _ _ _ rfl) 8 _ rfl; clear hb))
    | (go_at_call 9; go_loud ((with_reducible refine (works_any _).mono ?_); rintro e w9 ⟨rfl, hb⟩; have HM := Aside0.mk (Many.later HM.out hb); (try clear kc0 kc1 kc2 kc3 kc4 kc5 kc6 kc7 kc8); have kc0 := Blk.cell (Many.blk HM.out 0 _ _ _ rfl) 0 _ rfl; have kc1 := Blk.cell (Many.blk HM.out 0 _ _ _ rfl) 1 _ rfl; have kc2 := Blk.cell (Many.blk HM.out 0 _ _ _ rfl) 2 _ rfl; have kc3 := Blk.cell (Many.blk HM.out 0 _ _ _ rfl) 3 _ rfl; have kc4 := Blk.cell (Many.blk HM.out 0 _ _ _ rfl) 4 _ rfl; have kc5 := Blk.cell (Many.blk HM.out 0 _ _ _ rfl) 5 _ rfl; have kc6 := Blk.cell (Many.blk HM.out 0 _ _ _ rfl) 6 _ rfl; have kc7 := Blk.cell (Many.blk HM.out 0 _ _ _ rfl) 7 _ rfl; have kc8 := Blk.cell (Many.blk HM.out 0 _ _ _ rfl) 8 _ rfl; clear hb)))
  go_ret
  exact ⟨rfl, HM.out.bel⟩
set_option maxRecDepth 100000 in
set_option maxHeartbeats 16000000 in
theorem hld_out5 (c0 c1 c2 c3 c4 c5 c6 cap : Int) (A : Option Addr) (l : List Pfx) (cc : Nat) (CA : Option Addr) (ch : List Bool) (chc : Nat) (DA : Option Addr) (dr : List Int) (drc : Nat) (w : World) (hr : Kd.C k81 w A l.length l) (hc : l.length ≤ cc) (ha : AdrP l) (h0 : l.length ≤ 20) (h2 : ch.length ≤ 120) (h3 : dr.length ≤ 120) (h4 : c0 ≤ 40) (hn : rightN c0 c1 c2 c3 c4 c5 c6 cap l = true) (hnot : ¬ c1 ≤ 40) :
    Calls Try.prog 6 #[.agg #[.int .i64 c0, .int .i64 c1, .int .i64 c2, .int .i64 c3, .int .i64 c4, .int .i64 c5, .int .i64 c6, .int .i64 cap, .slice A l.length cc], .slice CA ch.length chc, .slice DA dr.length drc] w fun e w' => e = .returned (.bool true) ∧ Below w.heap.size w w' := by
  have HR := Aside0.mk hr
  have HA := Aside0.mk ha
  clear hr ha
  have HF : Aside0 (waywardenlaw15_few.f c0 c1 c2 c3 c4 c5 c6 cap l = some true) := ⟨by unfold waywardenlaw15_few.f; congr 1; apply decide_eq_true; omega⟩
  have dg2 : decide ((ch.length : Int) > 120) = false := decide_eq_false (by omega)
  have dl2 : decide (120 < (ch.length : Int)) = false := decide_eq_false (by omega)
  have dn2 : decide (120 < ch.length) = false := decide_eq_false (by omega)
  have dg3 : decide ((dr.length : Int) > 120) = false := decide_eq_false (by omega)
  have dl3 : decide (120 < (dr.length : Int)) = false := decide_eq_false (by omega)
  have dn3 : decide (120 < dr.length) = false := decide_eq_false (by omega)
  have dg4 : decide (c0 > 40) = false := decide_eq_false (by omega)
  have dl4 : decide (40 < c0) = false := decide_eq_false (by omega)
  have dg5 : decide (c1 > 40) = true := decide_eq_true (by omega)
  have dl5 : decide (40 < c1) = true := decide_eq_true (by omega)
  have HN := Aside0.mk hn
  clear hn
  have HM : Aside0 (Many w [(w.heap.size, 24, #[.int .i64 c0, .int .i64 c1, .int .i64 c2, .int .i64 c3, .int .i64 c4, .int .i64 c5, .int .i64 c6, .int .i64 cap, .slice A l.length cc])] (w.alloc (.cells #[.int .i64 c0, .int .i64 c1, .int .i64 c2, .int .i64 c3, .int .i64 c4, .int .i64 c5, .int .i64 c6, .int .i64 cap, .slice A l.length cc] 24))) := ⟨by have h := Many.grow (Many.none w) 24 #[.int .i64 c0, .int .i64 c1, .int .i64 c2, .int .i64 c3, .int .i64 c4, .int .i64 c5, .int .i64 c6, .int .i64 cap, .slice A l.length cc]; simpa using h⟩
  have kc0 := Blk.cell (Many.blk HM.out 0 _ _ _ rfl) 0 _ rfl
  have kc1 := Blk.cell (Many.blk HM.out 0 _ _ _ rfl) 1 _ rfl
  have kc2 := Blk.cell (Many.blk HM.out 0 _ _ _ rfl) 2 _ rfl
  have kc3 := Blk.cell (Many.blk HM.out 0 _ _ _ rfl) 3 _ rfl
  have kc4 := Blk.cell (Many.blk HM.out 0 _ _ _ rfl) 4 _ rfl
  have kc5 := Blk.cell (Many.blk HM.out 0 _ _ _ rfl) 5 _ rfl
  have kc6 := Blk.cell (Many.blk HM.out 0 _ _ _ rfl) 6 _ rfl
  have kc7 := Blk.cell (Many.blk HM.out 0 _ _ _ rfl) 7 _ rfl
  have kc8 := Blk.cell (Many.blk HM.out 0 _ _ _ rfl) 8 _ rfl
  go_enter Try.func6, Try.ntmps6
  go_wp2_with (first
    | (go_at_call 8; ((with_reducible refine (waywardenlaw15_few.calls c0 c1 c2 c3 c4 c5 c6 cap A cc l true _ (Kd.C_below HR.out HM.out.bel) hc HF.out).mono ?_); rintro e w9 ⟨rfl, hb⟩; have HM := Aside0.mk (Many.later HM.out hb); (try clear kc0 kc1 kc2 kc3 kc4 kc5 kc6 kc7 kc8); have kc0 := Blk.cell (Many.blk HM.out 0 _ _ _ rfl) 0 _ rfl; have kc1 := Blk.cell (Many.blk HM.out 0 _ _ _ rfl) 1 _ rfl; have kc2 := Blk.cell (Many.blk HM.out 0 _ _ _ rfl) 2 _ rfl; have kc3 := Blk.cell (Many.blk HM.out 0 _ _ _ rfl) 3 _ rfl; have kc4 := Blk.cell (Many.blk HM.out 0 _ _ _ rfl) 4 _ rfl; have kc5 := Blk.cell (Many.blk HM.out 0 _ _ _ rfl) 5 _ rfl; have kc6 := Blk.cell (Many.blk HM.out 0 _ _ _ rfl) 6 _ rfl; have kc7 := Blk.cell (Many.blk HM.out 0 _ _ _ rfl) 7 _ rfl; have kc8 := Blk.cell (Many.blk HM.out 0 _ _ _ rfl) 8 _ rfl; clear hb))
    | (go_at_call 20; go_loud ((with_reducible refine (cfgright_any c0 c1 c2 c3 c4 c5 c6 cap A l cc _ (Kd.C_below HR.out HM.out.bel) hc HA.out (by omega)).mono ?_); rw [HN.out]; rintro e w9 ⟨rfl, hb⟩; have HM := Aside0.mk (Many.later HM.out hb); (try clear kc0 kc1 kc2 kc3 kc4 kc5 kc6 kc7 kc8); have kc0 := Blk.cell (Many.blk HM.out 0 _ _ _ rfl) 0 _ rfl; have kc1 := Blk.cell (Many.blk HM.out 0 _ _ _ rfl) 1 _ rfl; have kc2 := Blk.cell (Many.blk HM.out 0 _ _ _ rfl) 2 _ rfl; have kc3 := Blk.cell (Many.blk HM.out 0 _ _ _ rfl) 3 _ rfl; have kc4 := Blk.cell (Many.blk HM.out 0 _ _ _ rfl) 4 _ rfl; have kc5 := Blk.cell (Many.blk HM.out 0 _ _ _ rfl) 5 _ rfl; have kc6 := Blk.cell (Many.blk HM.out 0 _ _ _ rfl) 6 _ rfl; have kc7 := Blk.cell (Many.blk HM.out 0 _ _ _ rfl) 7 _ rfl; have kc8 := Blk.cell (Many.blk HM.out 0 _ _ _ rfl) 8 _ rfl; clear hb))
    | (go_at_call 9; go_loud ((with_reducible refine (works_any _).mono ?_); rintro e w9 ⟨rfl, hb⟩; have HM := Aside0.mk (Many.later HM.out hb); (try clear kc0 kc1 kc2 kc3 kc4 kc5 kc6 kc7 kc8); have kc0 := Blk.cell (Many.blk HM.out 0 _ _ _ rfl) 0 _ rfl; have kc1 := Blk.cell (Many.blk HM.out 0 _ _ _ rfl) 1 _ rfl; have kc2 := Blk.cell (Many.blk HM.out 0 _ _ _ rfl) 2 _ rfl; have kc3 := Blk.cell (Many.blk HM.out 0 _ _ _ rfl) 3 _ rfl; have kc4 := Blk.cell (Many.blk HM.out 0 _ _ _ rfl) 4 _ rfl; have kc5 := Blk.cell (Many.blk HM.out 0 _ _ _ rfl) 5 _ rfl; have kc6 := Blk.cell (Many.blk HM.out 0 _ _ _ rfl) 6 _ rfl; have kc7 := Blk.cell (Many.blk HM.out 0 _ _ _ rfl) 7 _ rfl; have kc8 := Blk.cell (Many.blk HM.out 0 _ _ _ rfl) 8 _ rfl; clear hb)))
  go_ret
  exact ⟨rfl, HM.out.bel⟩
set_option maxRecDepth 100000 in
set_option maxHeartbeats 16000000 in
theorem hld_out6 (c0 c1 c2 c3 c4 c5 c6 cap : Int) (A : Option Addr) (l : List Pfx) (cc : Nat) (CA : Option Addr) (ch : List Bool) (chc : Nat) (DA : Option Addr) (dr : List Int) (drc : Nat) (w : World) (hr : Kd.C k81 w A l.length l) (hc : l.length ≤ cc) (ha : AdrP l) (h0 : l.length ≤ 20) (h2 : ch.length ≤ 120) (h3 : dr.length ≤ 120) (h4 : c0 ≤ 40) (h5 : c1 ≤ 40) (hn : rightN c0 c1 c2 c3 c4 c5 c6 cap l = true) (hnot : ¬ c5 ≤ 40) :
    Calls Try.prog 6 #[.agg #[.int .i64 c0, .int .i64 c1, .int .i64 c2, .int .i64 c3, .int .i64 c4, .int .i64 c5, .int .i64 c6, .int .i64 cap, .slice A l.length cc], .slice CA ch.length chc, .slice DA dr.length drc] w fun e w' => e = .returned (.bool true) ∧ Below w.heap.size w w' := by
  have HR := Aside0.mk hr
  have HA := Aside0.mk ha
  clear hr ha
  have HF : Aside0 (waywardenlaw15_few.f c0 c1 c2 c3 c4 c5 c6 cap l = some true) := ⟨by unfold waywardenlaw15_few.f; congr 1; apply decide_eq_true; omega⟩
  have dg2 : decide ((ch.length : Int) > 120) = false := decide_eq_false (by omega)
  have dl2 : decide (120 < (ch.length : Int)) = false := decide_eq_false (by omega)
  have dn2 : decide (120 < ch.length) = false := decide_eq_false (by omega)
  have dg3 : decide ((dr.length : Int) > 120) = false := decide_eq_false (by omega)
  have dl3 : decide (120 < (dr.length : Int)) = false := decide_eq_false (by omega)
  have dn3 : decide (120 < dr.length) = false := decide_eq_false (by omega)
  have dg4 : decide (c0 > 40) = false := decide_eq_false (by omega)
  have dl4 : decide (40 < c0) = false := decide_eq_false (by omega)
  have dg5 : decide (c1 > 40) = false := decide_eq_false (by omega)
  have dl5 : decide (40 < c1) = false := decide_eq_false (by omega)
  have dg6 : decide (c5 > 40) = true := decide_eq_true (by omega)
  have dl6 : decide (40 < c5) = true := decide_eq_true (by omega)
  have HN := Aside0.mk hn
  clear hn
  have HM : Aside0 (Many w [(w.heap.size, 24, #[.int .i64 c0, .int .i64 c1, .int .i64 c2, .int .i64 c3, .int .i64 c4, .int .i64 c5, .int .i64 c6, .int .i64 cap, .slice A l.length cc])] (w.alloc (.cells #[.int .i64 c0, .int .i64 c1, .int .i64 c2, .int .i64 c3, .int .i64 c4, .int .i64 c5, .int .i64 c6, .int .i64 cap, .slice A l.length cc] 24))) := ⟨by have h := Many.grow (Many.none w) 24 #[.int .i64 c0, .int .i64 c1, .int .i64 c2, .int .i64 c3, .int .i64 c4, .int .i64 c5, .int .i64 c6, .int .i64 cap, .slice A l.length cc]; simpa using h⟩
  have kc0 := Blk.cell (Many.blk HM.out 0 _ _ _ rfl) 0 _ rfl
  have kc1 := Blk.cell (Many.blk HM.out 0 _ _ _ rfl) 1 _ rfl
  have kc2 := Blk.cell (Many.blk HM.out 0 _ _ _ rfl) 2 _ rfl
  have kc3 := Blk.cell (Many.blk HM.out 0 _ _ _ rfl) 3 _ rfl
  have kc4 := Blk.cell (Many.blk HM.out 0 _ _ _ rfl) 4 _ rfl
  have kc5 := Blk.cell (Many.blk HM.out 0 _ _ _ rfl) 5 _ rfl
  have kc6 := Blk.cell (Many.blk HM.out 0 _ _ _ rfl) 6 _ rfl
  have kc7 := Blk.cell (Many.blk HM.out 0 _ _ _ rfl) 7 _ rfl
  have kc8 := Blk.cell (Many.blk HM.out 0 _ _ _ rfl) 8 _ rfl
  go_enter Try.func6, Try.ntmps6
  go_wp2_with (first
    | (go_at_call 8; ((with_reducible refine (waywardenlaw15_few.calls c0 c1 c2 c3 c4 c5 c6 cap A cc l true _ (Kd.C_below HR.out HM.out.bel) hc HF.out).mono ?_); rintro e w9 ⟨rfl, hb⟩; have HM := Aside0.mk (Many.later HM.out hb); (try clear kc0 kc1 kc2 kc3 kc4 kc5 kc6 kc7 kc8); have kc0 := Blk.cell (Many.blk HM.out 0 _ _ _ rfl) 0 _ rfl; have kc1 := Blk.cell (Many.blk HM.out 0 _ _ _ rfl) 1 _ rfl; have kc2 := Blk.cell (Many.blk HM.out 0 _ _ _ rfl) 2 _ rfl; have kc3 := Blk.cell (Many.blk HM.out 0 _ _ _ rfl) 3 _ rfl; have kc4 := Blk.cell (Many.blk HM.out 0 _ _ _ rfl) 4 _ rfl; have kc5 := Blk.cell (Many.blk HM.out 0 _ _ _ rfl) 5 _ rfl; have kc6 := Blk.cell (Many.blk HM.out 0 _ _ _ rfl) 6 _ rfl; have kc7 := Blk.cell (Many.blk HM.out 0 _ _ _ rfl) 7 _ rfl; have kc8 := Blk.cell (Many.blk HM.out 0 _ _ _ rfl) 8 _ rfl; clear hb))
    | (go_at_call 20; go_loud ((with_reducible refine (cfgright_any c0 c1 c2 c3 c4 c5 c6 cap A l cc _ (Kd.C_below HR.out HM.out.bel) hc HA.out (by omega)).mono ?_); rw [HN.out]; rintro e w9 ⟨rfl, hb⟩; have HM := Aside0.mk (Many.later HM.out hb); (try clear kc0 kc1 kc2 kc3 kc4 kc5 kc6 kc7 kc8); have kc0 := Blk.cell (Many.blk HM.out 0 _ _ _ rfl) 0 _ rfl; have kc1 := Blk.cell (Many.blk HM.out 0 _ _ _ rfl) 1 _ rfl; have kc2 := Blk.cell (Many.blk HM.out 0 _ _ _ rfl) 2 _ rfl; have kc3 := Blk.cell (Many.blk HM.out 0 _ _ _ rfl) 3 _ rfl; have kc4 := Blk.cell (Many.blk HM.out 0 _ _ _ rfl) 4 _ rfl; have kc5 := Blk.cell (Many.blk HM.out 0 _ _ _ rfl) 5 _ rfl; have kc6 := Blk.cell (Many.blk HM.out 0 _ _ _ rfl) 6 _ rfl; have kc7 := Blk.cell (Many.blk HM.out 0 _ _ _ rfl) 7 _ rfl; have kc8 := Blk.cell (Many.blk HM.out 0 _ _ _ rfl) 8 _ rfl; clear hb))
    | (go_at_call 9; go_loud ((with_reducible refine (works_any _).mono ?_); rintro e w9 ⟨rfl, hb⟩; have HM := Aside0.mk (Many.later HM.out hb); (try clear kc0 kc1 kc2 kc3 kc4 kc5 kc6 kc7 kc8); have kc0 := Blk.cell (Many.blk HM.out 0 _ _ _ rfl) 0 _ rfl; have kc1 := Blk.cell (Many.blk HM.out 0 _ _ _ rfl) 1 _ rfl; have kc2 := Blk.cell (Many.blk HM.out 0 _ _ _ rfl) 2 _ rfl; have kc3 := Blk.cell (Many.blk HM.out 0 _ _ _ rfl) 3 _ rfl; have kc4 := Blk.cell (Many.blk HM.out 0 _ _ _ rfl) 4 _ rfl; have kc5 := Blk.cell (Many.blk HM.out 0 _ _ _ rfl) 5 _ rfl; have kc6 := Blk.cell (Many.blk HM.out 0 _ _ _ rfl) 6 _ rfl; have kc7 := Blk.cell (Many.blk HM.out 0 _ _ _ rfl) 7 _ rfl; have kc8 := Blk.cell (Many.blk HM.out 0 _ _ _ rfl) 8 _ rfl; clear hb)))
  go_ret
  exact ⟨rfl, HM.out.bel⟩
set_option maxRecDepth 100000 in
set_option maxHeartbeats 16000000 in
theorem hld_out7 (c0 c1 c2 c3 c4 c5 c6 cap : Int) (A : Option Addr) (l : List Pfx) (cc : Nat) (CA : Option Addr) (ch : List Bool) (chc : Nat) (DA : Option Addr) (dr : List Int) (drc : Nat) (w : World) (hr : Kd.C k81 w A l.length l) (hc : l.length ≤ cc) (ha : AdrP l) (h0 : l.length ≤ 20) (h2 : ch.length ≤ 120) (h3 : dr.length ≤ 120) (h4 : c0 ≤ 40) (h5 : c1 ≤ 40) (h6 : c5 ≤ 40) (hn : rightN c0 c1 c2 c3 c4 c5 c6 cap l = true) (hnot : ¬ c6 ≤ 40) :
    Calls Try.prog 6 #[.agg #[.int .i64 c0, .int .i64 c1, .int .i64 c2, .int .i64 c3, .int .i64 c4, .int .i64 c5, .int .i64 c6, .int .i64 cap, .slice A l.length cc], .slice CA ch.length chc, .slice DA dr.length drc] w fun e w' => e = .returned (.bool true) ∧ Below w.heap.size w w' := by
  have HR := Aside0.mk hr
  have HA := Aside0.mk ha
  clear hr ha
  have HF : Aside0 (waywardenlaw15_few.f c0 c1 c2 c3 c4 c5 c6 cap l = some true) := ⟨by unfold waywardenlaw15_few.f; congr 1; apply decide_eq_true; omega⟩
  have dg2 : decide ((ch.length : Int) > 120) = false := decide_eq_false (by omega)
  have dl2 : decide (120 < (ch.length : Int)) = false := decide_eq_false (by omega)
  have dn2 : decide (120 < ch.length) = false := decide_eq_false (by omega)
  have dg3 : decide ((dr.length : Int) > 120) = false := decide_eq_false (by omega)
  have dl3 : decide (120 < (dr.length : Int)) = false := decide_eq_false (by omega)
  have dn3 : decide (120 < dr.length) = false := decide_eq_false (by omega)
  have dg4 : decide (c0 > 40) = false := decide_eq_false (by omega)
  have dl4 : decide (40 < c0) = false := decide_eq_false (by omega)
  have dg5 : decide (c1 > 40) = false := decide_eq_false (by omega)
  have dl5 : decide (40 < c1) = false := decide_eq_false (by omega)
  have dg6 : decide (c5 > 40) = false := decide_eq_false (by omega)
  have dl6 : decide (40 < c5) = false := decide_eq_false (by omega)
  have dg7 : decide (c6 > 40) = true := decide_eq_true (by omega)
  have dl7 : decide (40 < c6) = true := decide_eq_true (by omega)
  have HN := Aside0.mk hn
  clear hn
  have HM : Aside0 (Many w [(w.heap.size, 24, #[.int .i64 c0, .int .i64 c1, .int .i64 c2, .int .i64 c3, .int .i64 c4, .int .i64 c5, .int .i64 c6, .int .i64 cap, .slice A l.length cc])] (w.alloc (.cells #[.int .i64 c0, .int .i64 c1, .int .i64 c2, .int .i64 c3, .int .i64 c4, .int .i64 c5, .int .i64 c6, .int .i64 cap, .slice A l.length cc] 24))) := ⟨by have h := Many.grow (Many.none w) 24 #[.int .i64 c0, .int .i64 c1, .int .i64 c2, .int .i64 c3, .int .i64 c4, .int .i64 c5, .int .i64 c6, .int .i64 cap, .slice A l.length cc]; simpa using h⟩
  have kc0 := Blk.cell (Many.blk HM.out 0 _ _ _ rfl) 0 _ rfl
  have kc1 := Blk.cell (Many.blk HM.out 0 _ _ _ rfl) 1 _ rfl
  have kc2 := Blk.cell (Many.blk HM.out 0 _ _ _ rfl) 2 _ rfl
  have kc3 := Blk.cell (Many.blk HM.out 0 _ _ _ rfl) 3 _ rfl
  have kc4 := Blk.cell (Many.blk HM.out 0 _ _ _ rfl) 4 _ rfl
  have kc5 := Blk.cell (Many.blk HM.out 0 _ _ _ rfl) 5 _ rfl
  have kc6 := Blk.cell (Many.blk HM.out 0 _ _ _ rfl) 6 _ rfl
  have kc7 := Blk.cell (Many.blk HM.out 0 _ _ _ rfl) 7 _ rfl
  have kc8 := Blk.cell (Many.blk HM.out 0 _ _ _ rfl) 8 _ rfl
  go_enter Try.func6, Try.ntmps6
  go_wp2_with (first
    | (go_at_call 8; ((with_reducible refine (waywardenlaw15_few.calls c0 c1 c2 c3 c4 c5 c6 cap A cc l true _ (Kd.C_below HR.out HM.out.bel) hc HF.out).mono ?_); rintro e w9 ⟨rfl, hb⟩; have HM := Aside0.mk (Many.later HM.out hb); (try clear kc0 kc1 kc2 kc3 kc4 kc5 kc6 kc7 kc8); have kc0 := Blk.cell (Many.blk HM.out 0 _ _ _ rfl) 0 _ rfl; have kc1 := Blk.cell (Many.blk HM.out 0 _ _ _ rfl) 1 _ rfl; have kc2 := Blk.cell (Many.blk HM.out 0 _ _ _ rfl) 2 _ rfl; have kc3 := Blk.cell (Many.blk HM.out 0 _ _ _ rfl) 3 _ rfl; have kc4 := Blk.cell (Many.blk HM.out 0 _ _ _ rfl) 4 _ rfl; have kc5 := Blk.cell (Many.blk HM.out 0 _ _ _ rfl) 5 _ rfl; have kc6 := Blk.cell (Many.blk HM.out 0 _ _ _ rfl) 6 _ rfl; have kc7 := Blk.cell (Many.blk HM.out 0 _ _ _ rfl) 7 _ rfl; have kc8 := Blk.cell (Many.blk HM.out 0 _ _ _ rfl) 8 _ rfl; clear hb))
    | (go_at_call 20; go_loud ((with_reducible refine (cfgright_any c0 c1 c2 c3 c4 c5 c6 cap A l cc _ (Kd.C_below HR.out HM.out.bel) hc HA.out (by omega)).mono ?_); rw [HN.out]; rintro e w9 ⟨rfl, hb⟩; have HM := Aside0.mk (Many.later HM.out hb); (try clear kc0 kc1 kc2 kc3 kc4 kc5 kc6 kc7 kc8); have kc0 := Blk.cell (Many.blk HM.out 0 _ _ _ rfl) 0 _ rfl; have kc1 := Blk.cell (Many.blk HM.out 0 _ _ _ rfl) 1 _ rfl; have kc2 := Blk.cell (Many.blk HM.out 0 _ _ _ rfl) 2 _ rfl; have kc3 := Blk.cell (Many.blk HM.out 0 _ _ _ rfl) 3 _ rfl; have kc4 := Blk.cell (Many.blk HM.out 0 _ _ _ rfl) 4 _ rfl; have kc5 := Blk.cell (Many.blk HM.out 0 _ _ _ rfl) 5 _ rfl; have kc6 := Blk.cell (Many.blk HM.out 0 _ _ _ rfl) 6 _ rfl; have kc7 := Blk.cell (Many.blk HM.out 0 _ _ _ rfl) 7 _ rfl; have kc8 := Blk.cell (Many.blk HM.out 0 _ _ _ rfl) 8 _ rfl; clear hb))
    | (go_at_call 9; go_loud ((with_reducible refine (works_any _).mono ?_); rintro e w9 ⟨rfl, hb⟩; have HM := Aside0.mk (Many.later HM.out hb); (try clear kc0 kc1 kc2 kc3 kc4 kc5 kc6 kc7 kc8); have kc0 := Blk.cell (Many.blk HM.out 0 _ _ _ rfl) 0 _ rfl; have kc1 := Blk.cell (Many.blk HM.out 0 _ _ _ rfl) 1 _ rfl; have kc2 := Blk.cell (Many.blk HM.out 0 _ _ _ rfl) 2 _ rfl; have kc3 := Blk.cell (Many.blk HM.out 0 _ _ _ rfl) 3 _ rfl; have kc4 := Blk.cell (Many.blk HM.out 0 _ _ _ rfl) 4 _ rfl; have kc5 := Blk.cell (Many.blk HM.out 0 _ _ _ rfl) 5 _ rfl; have kc6 := Blk.cell (Many.blk HM.out 0 _ _ _ rfl) 6 _ rfl; have kc7 := Blk.cell (Many.blk HM.out 0 _ _ _ rfl) 7 _ rfl; have kc8 := Blk.cell (Many.blk HM.out 0 _ _ _ rfl) 8 _ rfl; clear hb)))
  go_ret
  exact ⟨rfl, HM.out.bel⟩
end Go.Proofs.Ytokjjppfdmkjeaa.A
