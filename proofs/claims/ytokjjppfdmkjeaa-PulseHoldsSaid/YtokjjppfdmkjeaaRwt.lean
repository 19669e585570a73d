/- config: the document's answer: waits. -/
import Derived.Test.YtokjjppfdmkjeaaRsp
set_option linter.unusedVariables false
set_option linter.unusedSimpArgs false
namespace Go.Proofs.Ytokjjppfdmkjeaa.A
open Go.RowKit Go.Proofs.YtokjjppfdmkjeaaW.PrintWords Go.Proofs.YtokjjppfdmkjeaaW.PrintLast Go.Proofs.YtokjjppfdmkjeaaW.PrintMore Go.Proofs.Ytokjjppfdmkjeaa.PPulseHolds

theorem refclamped_any (d s : Int) (hs : 0 ≤ s) (w : World) : Calls Try.prog 45 #[.int .i64 d, .int .i64 s] w fun e w' => e = .returned (.int .i64 (clampN d s)) ∧ Below w.heap.size w w' := by
  unfold clampN
  by_cases h1 : d < 0
  · rw [if_pos h1]
    go_enter Try.func45, Try.ntmps45
    go_wp2
    go_ret
    exact ⟨rfl, Below.refl _ _⟩
  · rw [if_neg h1]
    have h3 : ¬ d < 0 := h1
    by_cases h2 : s < d
    · rw [if_pos h2]
      go_enter Try.func45, Try.ntmps45
      go_wp2
      go_ret
      exact ⟨rfl, Below.refl _ _⟩
    · rw [if_neg h2]
      go_enter Try.func45, Try.ntmps45
      go_wp2
      go_ret
      exact ⟨rfl, Below.refl _ _⟩

set_option maxHeartbeats 2000000 in
theorem refwait_any (c0 c1 c2 c3 c4 c5 c6 cap : Int) (A : Option Addr) (l : List Pfx) (cc : Nat) (d : Int) (w : World) (h1 : 0 ≤ c0) (h2 : c0 ≤ 1000000) (h4 : 0 ≤ c1) (h5 : c1 ≤ 1000000) :
    Calls Try.prog 28 #[.agg #[.int .i64 c0, .int .i64 c1, .int .i64 c2, .int .i64 c3, .int .i64 c4, .int .i64 c5, .int .i64 c6, .int .i64 cap, .slice A l.length cc], .int .i64 d] w fun e w' => e = .returned (.int .i64 (c0 + clampN d c1)) ∧ Below w.heap.size w w' := by
  have hin := clampN_in d c1 h4
  obtain ⟨v, hv⟩ : ∃ v, clampN d c1 = v := ⟨_, rfl⟩
  rw [hv] at hin
  obtain ⟨g1, g2⟩ := hin
  have HV := Aside0.mk hv
  rw [hv]
  have gw : IntKind.i64.wrap (c0 + v) = c0 + v := by rw [IntKind.wrap_i64]; omega
  have k0 : ∀ w' : World, Held w w.heap.size 24 #[.int .i64 c0, .int .i64 c1, .int .i64 c2, .int .i64 c3, .int .i64 c4, .int .i64 c5, .int .i64 c6, .int .i64 cap, .slice A l.length cc] w' → w'.cell? ⟨w.heap.size, 0, none⟩ = some (.int .i64 c0) := fun w' h => h.blk.cell 0 _ rfl
  have k1 : ∀ w' : World, Held w w.heap.size 24 #[.int .i64 c0, .int .i64 c1, .int .i64 c2, .int .i64 c3, .int .i64 c4, .int .i64 c5, .int .i64 c6, .int .i64 cap, .slice A l.length cc] w' → w'.cell? ⟨w.heap.size, 1, none⟩ = some (.int .i64 c1) := fun w' h => h.blk.cell 1 _ rfl
  clear hv
  go_enter Try.func28, Try.ntmps28
  go_upto_region 1 with (fail)
  refine wp_region_held_drew (S := Held w w.heap.size 24 #[.int .i64 c0, .int .i64 c1, .int .i64 c2, .int .i64 c3, .int .i64 c4, .int .i64 c5, .int .i64 c6, .int .i64 cap, .slice A l.length cc]) (by kernel_rfl) ?sA (fun hHeld => ?rA)
  case sA => exact Held.drew (Held.new w _ _)
  refine wpAnyH_take (i := 0) (oi := ?oA_0) (v := ?vA_0) ?iA_0 (by kernel_rfl) (by kernel_rfl) (by kernel_rfl) ?qA_0 ?yA_0 hHeld ?nA_0
  case iA_0 => (simp only [List.getElem?_toArray, List.getElem?_cons_succ, List.getElem?_cons_zero]; rfl)
  case yA_0 => (refine Or.inl ⟨by kernel_rfl, ?_⟩; intro w' hSw; (try dsimp only at hSw); first | (go_simp; done) | (go_simp; with_reducible rfl))
  case qA_0 => exact fun _ _ _ h => h
  try simp only [Act.put, List.setIfInBounds_toArray, List.set_cons_zero, List.set_cons_succ]
  refine wpAnyH_take (i := 1) (oi := ?oA_1) (v := ?vA_1) ?iA_1 (by kernel_rfl) (by kernel_rfl) (by kernel_rfl) ?qA_1 ?yA_1 hHeld ?nA_1
  case iA_1 => (simp only [List.getElem?_toArray, List.getElem?_cons_succ, List.getElem?_cons_zero]; rfl)
  case yA_1 => (refine Or.inl ⟨by kernel_rfl, ?_⟩; intro w' hSw; (try dsimp only at hSw); first | (go_simp; done) | (go_simp; with_reducible rfl))
  case qA_1 => exact fun _ _ _ h => h
  try simp only [Act.put, List.setIfInBounds_toArray, List.set_cons_zero, List.set_cons_succ]
  refine wpAnyH_take (i := 2) (oi := ?oA_2) (v := ?vA_2) ?iA_2 (by kernel_rfl) (by kernel_rfl) (by kernel_rfl) ?qA_2 ?yA_2 hHeld ?nA_2
  case iA_2 => (simp only [List.getElem?_toArray, List.getElem?_cons_succ, List.getElem?_cons_zero]; rfl)
  case yA_2 => (refine Or.inl ⟨by kernel_rfl, ?_⟩; intro w' hSw; (try dsimp only at hSw); first | (go_simp; done) | (go_simp; with_reducible rfl))
  case qA_2 => exact fun _ _ _ h => h
  try simp only [Act.put, List.setIfInBounds_toArray, List.set_cons_zero, List.set_cons_succ]
  refine wpAnyH_take (i := 3) (oi := ?oA_3) (v := ?vA_3) ?iA_3 (by kernel_rfl) (by kernel_rfl) (by kernel_rfl) ?qA_3 ?yA_3 hHeld ?nA_3
  case iA_3 => (simp only [List.getElem?_toArray, List.getElem?_cons_succ, List.getElem?_cons_zero]; rfl)
  case yA_3 => (refine Or.inl ⟨by kernel_rfl, ?_⟩; intro w' hSw; (try dsimp only at hSw); first | (go_simp; done) | (go_simp; with_reducible rfl))
  case qA_3 => exact fun _ _ _ h => h
  try simp only [Act.put, List.setIfInBounds_toArray, List.set_cons_zero, List.set_cons_succ]
  refine wpAnyH_take (i := 4) (oi := ?oA_4) (v := ?vA_4) ?iA_4 (by kernel_rfl) (by kernel_rfl) (by kernel_rfl) ?qA_4 ?yA_4 hHeld ?nA_4
  case iA_4 => (simp only [List.getElem?_toArray, List.getElem?_cons_succ, List.getElem?_cons_zero]; rfl)
  case yA_4 => (refine Or.inl ⟨by kernel_rfl, ?_⟩; intro w' hSw; (try dsimp only at hSw); first | (go_simp; done) | (go_simp; with_reducible rfl))
  case qA_4 => exact fun _ _ _ h => h
  try simp only [Act.put, List.setIfInBounds_toArray, List.set_cons_zero, List.set_cons_succ]
  refine wpAnyH_ready (rs := [5]) (by kernel_rfl) (by simp) ?_
  refine AllReadyH.cons (o := ?oA_5) ?iA_5 (fun K hK => ?kA_5) AllReadyH.nil
  case iA_5 => (simp only [List.getElem?_toArray, List.getElem?_cons_succ, List.getElem?_cons_zero]; rfl)
  go_simp
  ((with_reducible refine (refclamped_any d c1 h4 _).mono ?_); rw [HV.out]; rintro e w1 ⟨rfl, hb⟩; dsimp only)
  refine hK.out _ _ ?hA_5 (fun hHeld2 => ?mA_5)
  case hA_5 => exact Held.later hHeld hb
  clear hK K hHeld
  have hHeld := hHeld2
  clear hHeld2
  try simp only [Act.put, List.setIfInBounds_toArray, List.set_cons_zero, List.set_cons_succ]
  refine wpAnyH_take (i := 6) (oi := ?oA_6) (v := ?vA_6) ?iA_6 (by kernel_rfl) (by kernel_rfl) (by kernel_rfl) ?qA_6 ?yA_6 hHeld ?nA_6
  case iA_6 => (simp only [List.getElem?_toArray, List.getElem?_cons_succ, List.getElem?_cons_zero]; rfl)
  case yA_6 => (refine Or.inl ⟨by kernel_rfl, ?_⟩; intro w' hSw; (try dsimp only at hSw); first | (go_simp; done) | (go_simp; with_reducible rfl))
  case qA_6 => exact fun _ _ _ h => h
  try simp only [Act.put, List.setIfInBounds_toArray, List.set_cons_zero, List.set_cons_succ]
  refine wpAnyH_take (i := 7) (oi := ?oA_7) (v := ?vA_7) ?iA_7 (by kernel_rfl) (by kernel_rfl) (by kernel_rfl) ?qA_7 ?yA_7 hHeld ?nA_7
  case iA_7 => (simp only [List.getElem?_toArray, List.getElem?_cons_succ, List.getElem?_cons_zero]; rfl)
  case yA_7 => (refine Or.inl ⟨by kernel_rfl, ?_⟩; intro w' hSw; (try dsimp only at hSw); first | (go_simp; done) | (go_simp; with_reducible rfl))
  case qA_7 => exact fun _ _ _ h => h
  try simp only [Act.put, List.setIfInBounds_toArray, List.set_cons_zero, List.set_cons_succ]
  refine wpAnyH_done (by kernel_rfl) ?_ _
  have HS := Aside0.mk hHeld
  clear hHeld k0 k1
  go_wp2
  go_ret
  exact ⟨rfl, HS.out.bel⟩

set_option maxHeartbeats 2000000 in
theorem refquiet_any (c0 c1 c2 c3 c4 c5 c6 cap : Int) (A : Option Addr) (l : List Pfx) (cc : Nat) (d : Int) (w : World) (h1 : 0 ≤ c5) (h2 : c5 ≤ 1000000) (h4 : 0 ≤ c6) (h5 : c6 ≤ 1000000) :
    Calls Try.prog 34 #[.agg #[.int .i64 c0, .int .i64 c1, .int .i64 c2, .int .i64 c3, .int .i64 c4, .int .i64 c5, .int .i64 c6, .int .i64 cap, .slice A l.length cc], .int .i64 d] w fun e w' => e = .returned (.int .i64 (c5 + clampN d c6)) ∧ Below w.heap.size w w' := by
  have hin := clampN_in d c6 h4
  obtain ⟨v, hv⟩ : ∃ v, clampN d c6 = v := ⟨_, rfl⟩
  rw [hv] at hin
  obtain ⟨g1, g2⟩ := hin
  have HV := Aside0.mk hv
  rw [hv]
  have gw : IntKind.i64.wrap (c5 + v) = c5 + v := by rw [IntKind.wrap_i64]; omega
  have k0 : ∀ w' : World, Held w w.heap.size 24 #[.int .i64 c0, .int .i64 c1, .int .i64 c2, .int .i64 c3, .int .i64 c4, .int .i64 c5, .int .i64 c6, .int .i64 cap, .slice A l.length cc] w' → w'.cell? ⟨w.heap.size, 5, none⟩ = some (.int .i64 c5) := fun w' h => h.blk.cell 5 _ rfl
  have k1 : ∀ w' : World, Held w w.heap.size 24 #[.int .i64 c0, .int .i64 c1, .int .i64 c2, .int .i64 c3, .int .i64 c4, .int .i64 c5, .int .i64 c6, .int .i64 cap, .slice A l.length cc] w' → w'.cell? ⟨w.heap.size, 6, none⟩ = some (.int .i64 c6) := fun w' h => h.blk.cell 6 _ rfl
  clear hv
  go_enter Try.func34, Try.ntmps34
  go_upto_region 1 with (fail)
  refine wp_region_held_drew (S := Held w w.heap.size 24 #[.int .i64 c0, .int .i64 c1, .int .i64 c2, .int .i64 c3, .int .i64 c4, .int .i64 c5, .int .i64 c6, .int .i64 cap, .slice A l.length cc]) (by kernel_rfl) ?sA (fun hHeld => ?rA)
  case sA => exact Held.drew (Held.new w _ _)
  refine wpAnyH_take (i := 0) (oi := ?oA_0) (v := ?vA_0) ?iA_0 (by kernel_rfl) (by kernel_rfl) (by kernel_rfl) ?qA_0 ?yA_0 hHeld ?nA_0
  case iA_0 => (simp only [List.getElem?_toArray, List.getElem?_cons_succ, List.getElem?_cons_zero]; rfl)
  case yA_0 => (refine Or.inl ⟨by kernel_rfl, ?_⟩; intro w' hSw; (try dsimp only at hSw); first | (go_simp; done) | (go_simp; with_reducible rfl))
  case qA_0 => exact fun _ _ _ h => h
  try simp only [Act.put, List.setIfInBounds_toArray, List.set_cons_zero, List.set_cons_succ]
  refine wpAnyH_take (i := 1) (oi := ?oA_1) (v := ?vA_1) ?iA_1 (by kernel_rfl) (by kernel_rfl) (by kernel_rfl) ?qA_1 ?yA_1 hHeld ?nA_1
  case iA_1 => (simp only [List.getElem?_toArray, List.getElem?_cons_succ, List.getElem?_cons_zero]; rfl)
  case yA_1 => (refine Or.inl ⟨by kernel_rfl, ?_⟩; intro w' hSw; (try dsimp only at hSw); first | (go_simp; done) | (go_simp; with_reducible rfl))
  case qA_1 => exact fun _ _ _ h => h
  try simp only [Act.put, List.setIfInBounds_toArray, List.set_cons_zero, List.set_cons_succ]
  refine wpAnyH_take (i := 2) (oi := ?oA_2) (v := ?vA_2) ?iA_2 (by kernel_rfl) (by kernel_rfl) (by kernel_rfl) ?qA_2 ?yA_2 hHeld ?nA_2
  case iA_2 => (simp only [List.getElem?_toArray, List.getElem?_cons_succ, List.getElem?_cons_zero]; rfl)
  case yA_2 => (refine Or.inl ⟨by kernel_rfl, ?_⟩; intro w' hSw; (try dsimp only at hSw); first | (go_simp; done) | (go_simp; with_reducible rfl))
  case qA_2 => exact fun _ _ _ h => h
  try simp only [Act.put, List.setIfInBounds_toArray, List.set_cons_zero, List.set_cons_succ]
  refine wpAnyH_take (i := 3) (oi := ?oA_3) (v := ?vA_3) ?iA_3 (by kernel_rfl) (by kernel_rfl) (by kernel_rfl) ?qA_3 ?yA_3 hHeld ?nA_3
  case iA_3 => (simp only [List.getElem?_toArray, List.getElem?_cons_succ, List.getElem?_cons_zero]; rfl)
  case yA_3 => (refine Or.inl ⟨by kernel_rfl, ?_⟩; intro w' hSw; (try dsimp only at hSw); first | (go_simp; done) | (go_simp; with_reducible rfl))
  case qA_3 => exact fun _ _ _ h => h
  try simp only [Act.put, List.setIfInBounds_toArray, List.set_cons_zero, List.set_cons_succ]
  refine wpAnyH_take (i := 4) (oi := ?oA_4) (v := ?vA_4) ?iA_4 (by kernel_rfl) (by kernel_rfl) (by kernel_rfl) ?qA_4 ?yA_4 hHeld ?nA_4
  case iA_4 => (simp only [List.getElem?_toArray, List.getElem?_cons_succ, List.getElem?_cons_zero]; rfl)
  case yA_4 => (refine Or.inl ⟨by kernel_rfl, ?_⟩; intro w' hSw; (try dsimp only at hSw); first | (go_simp; done) | (go_simp; with_reducible rfl))
  case qA_4 => exact fun _ _ _ h => h
  try simp only [Act.put, List.setIfInBounds_toArray, List.set_cons_zero, List.set_cons_succ]
  refine wpAnyH_ready (rs := [5]) (by kernel_rfl) (by simp) ?_
  refine AllReadyH.cons (o := ?oA_5) ?iA_5 (fun K hK => ?kA_5) AllReadyH.nil
  case iA_5 => (simp only [List.getElem?_toArray, List.getElem?_cons_succ, List.getElem?_cons_zero]; rfl)
  go_simp
  ((with_reducible refine (refclamped_any d c6 h4 _).mono ?_); rw [HV.out]; rintro e w1 ⟨rfl, hb⟩; dsimp only)
  refine hK.out _ _ ?hA_5 (fun hHeld2 => ?mA_5)
  case hA_5 => exact Held.later hHeld hb
  clear hK K hHeld
  have hHeld := hHeld2
  clear hHeld2
  try simp only [Act.put, List.setIfInBounds_toArray, List.set_cons_zero, List.set_cons_succ]
  refine wpAnyH_take (i := 6) (oi := ?oA_6) (v := ?vA_6) ?iA_6 (by kernel_rfl) (by kernel_rfl) (by kernel_rfl) ?qA_6 ?yA_6 hHeld ?nA_6
  case iA_6 => (simp only [List.getElem?_toArray, List.getElem?_cons_succ, List.getElem?_cons_zero]; rfl)
  case yA_6 => (refine Or.inl ⟨by kernel_rfl, ?_⟩; intro w' hSw; (try dsimp only at hSw); first | (go_simp; done) | (go_simp; with_reducible rfl))
  case qA_6 => exact fun _ _ _ h => h
  try simp only [Act.put, List.setIfInBounds_toArray, List.set_cons_zero, List.set_cons_succ]
  refine wpAnyH_take (i := 7) (oi := ?oA_7) (v := ?vA_7) ?iA_7 (by kernel_rfl) (by kernel_rfl) (by kernel_rfl) ?qA_7 ?yA_7 hHeld ?nA_7
  case iA_7 => (simp only [List.getElem?_toArray, List.getElem?_cons_succ, List.getElem?_cons_zero]; rfl)
  case yA_7 => (refine Or.inl ⟨by kernel_rfl, ?_⟩; intro w' hSw; (try dsimp only at hSw); first | (go_simp; done) | (go_simp; with_reducible rfl))
  case qA_7 => exact fun _ _ _ h => h
  try simp only [Act.put, List.setIfInBounds_toArray, List.set_cons_zero, List.set_cons_succ]
  refine wpAnyH_done (by kernel_rfl) ?_ _
  have HS := Aside0.mk hHeld
  clear hHeld k0 k1
  go_wp2
  go_ret
  exact ⟨rfl, HS.out.bel⟩
end Go.Proofs.Ytokjjppfdmkjeaa.A
