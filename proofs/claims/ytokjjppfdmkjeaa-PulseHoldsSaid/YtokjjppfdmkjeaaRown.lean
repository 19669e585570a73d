/- config: the document's answer: which prefixes may be owned. -/
import Derived.Test.YtokjjppfdmkjeaaOwn2
set_option linter.unusedVariables false
set_option linter.unusedSimpArgs false
namespace Go.Proofs.Ytokjjppfdmkjeaa.A
open Go.RowKit Go.Proofs.YtokjjppfdmkjeaaW.PrintWords Go.Proofs.YtokjjppfdmkjeaaW.PrintLast Go.Proofs.YtokjjppfdmkjeaaW.PrintMore Go.Proofs.Ytokjjppfdmkjeaa.PPulseHolds

theorem owns_head (ad : Addr) (l : List Pfx) (c x : Nat) (hx : x < l.length) (w : World) (hc : l.length ≤ c) (hm : l.length ≤ 140737488355328) (hr : Kd.C k81 w (some ad) l.length l) (a n : Int) (b : Bool) (hb : hasP (l.take x) a n = b) :
    Calls Try.prog 48 #[.agg #[.int .i64 0, .int .i64 0, .int .i64 0, .int .i64 0, .int .i64 0, .int .i64 0, .int .i64 0, .int .i64 0, .slice (some ad) x c], .agg #[.int .u32 a, .int .i64 n]] w fun e w' => e = .returned (.bool b) ∧ Below w.heap.size w w' := by
  have e := take_len l x (by omega)
  have h := waywardenref08_Owns.calls _ 0 0 0 0 0 0 0 0 (some ad) c (l.take x) a n _ w (C_head ad l c x hx w hc hr) (by omega) (refowns_eq (l.take x) a n (by omega) 0 0 0 0 0 0 0 0)
  rw [e, hb] at h
  exact h
theorem two_later {w w1 : World} {p q : Addr} {a b : Value} (hb : Below w.heap.size w w1) (h0 : w.cell? p = some a) (h1 : w.cell? q = some b) : w1.cell? p = some a ∧ w1.cell? q = some b ∧ Aside0 (Below w.heap.size w w1) :=
  ⟨cell_later hb h0, cell_later hb h1, ⟨hb⟩⟩
set_option maxHeartbeats 4000000 in
theorem refown_any (A : Option Addr) (l : List Pfx) (c : Nat) (w : World) (hr : Kd.C k81 w A l.length l) (hc : l.length ≤ c) (ha : AdrP l) (hm : l.length ≤ 140737488355328) :
    Calls Try.prog 37 #[.slice A l.length c] w fun e w' => e = .returned (.bool (ownN l)) ∧ Below w.heap.size w w' := by
  have HR := Aside0.mk hr
  have HA := Aside0.mk ha
  clear hr ha
  by_cases h16 : l.length ≤ 16
  · have i1 : ¬ 16 < (l.length : Int) := by omega
    go_enter Try.func37, Try.ntmps37
    go_wp2
    go_loopg [3] l.length (fun kq v3 w' => ∃ x : Nat, v3 = .int .i64 x ∧ Aside0 (x + kq = l.length) ∧ Aside0 (∀ j, j < x → okAt l j = true) ∧ Aside0 (Below w.heap.size w w'))
    case atStart => exact ⟨0, rfl, ⟨by omega⟩, ⟨fun j hj => absurd hj (by omega)⟩, ⟨Below.refl _ _⟩⟩
    case round =>
      obtain ⟨x, rfl, HX, HK, HB⟩ := hrel
      have hx := HX.out
      by_cases hlt : x < l.length
      · obtain ⟨k1, rfl⟩ : ∃ k1, gk = k1 + 1 := ⟨gk - 1, by omega⟩
        have p103 : (0 : Int) ≤ (x : Int) := by omega
        have q103 : (x : Int) < (l.length : Int) := by omega
        have q104 : (x : Int) ≤ (c : Int) := by omega
        obtain ⟨ad, ead, hx0, hx1⟩ := at_T81 HR.out (x : Int) p103 q103
        subst ead
        rw [Int.toNat_natCast] at hx0 hx1
        have had := atP_adr l HA.out x hlt
        change w.cell? _ = some (.int .u32 (atP l x).f0) at hx0
        change w.cell? _ = some (.int .i64 (atP l x).f1) at hx1
        obtain ⟨pa, hpa⟩ : ∃ pa, (atP l x).f0 = pa := ⟨_, rfl⟩
        obtain ⟨pn, hpn⟩ : ∃ pn, (atP l x).f1 = pn := ⟨_, rfl⟩
        rw [hpa] at hx0 had
        rw [hpn] at hx1
        obtain ⟨b1, hb1⟩ : ∃ b, hasP (l.take x) pa pn = b := ⟨_, rfl⟩
        obtain ⟨b2, hb2⟩ : ∃ b, goodN pa pn = b := ⟨_, rfl⟩
        have hG := good_any pa pn had
        rw [hb2] at hG
        have HG := Aside0.mk hG
        have H1 := Aside0.mk hb1
        have H0 := Aside0.mk hx0
        have H0' := Aside0.mk hx1
        have hok : okAt l x = (b2 && !b1) := by
          unfold okAt
          rw [hpa, hpn, hb2, hb1]
        have HOK := Aside0.mk hok
        clear hG hb1 hb2 hok hx0 hx1
        have hw : wrap64 ((x : Int) + 1) = ((x + 1 : Nat) : Int) := by rw [wrap_id (by omega) (by omega)]; omega
        have hc0 : ∀ w' : World, Below w.heap.size w w' → w'.cell? (ad.add (x * 2)) = some (.int .u32 pa) := fun w' h => (h.cell (World.block_lt_of_cell? w _ H0.out)).trans H0.out
        have hc1 : ∀ w' : World, Below w.heap.size w w' → w'.cell? ⟨(ad.add (x * 2)).block, (ad.add (x * 2)).off + 1, none⟩ = some (.int .i64 pn) := fun w' h => (h.cell (World.block_lt_of_cell? w _ H0'.out)).trans H0'.out
        cases b2 with
        | false =>
          go_upto_region 6 with (fail)
          refine wp_region_held_drew (S := fun w' => Below w.heap.size w w') (by kernel_rfl) ?sA (fun hHeld => ?rA)
          case sA => exact below_drew HB.out
          refine wpAnyH_take (i := 0) (oi := ?oA_0) (v := ?vA_0) ?iA_0 (by kernel_rfl) (by kernel_rfl) (by kernel_rfl) ?qA_0 ?yA_0 hHeld ?nA_0
          case iA_0 => (simp only [List.getElem?_toArray, List.getElem?_cons_succ, List.getElem?_cons_zero]; rfl)
          case yA_0 => (refine Or.inl ⟨by kernel_rfl, ?_⟩; intro w' hSw; (try dsimp only at hSw); first | (go_simp; done) | (go_simp; with_reducible rfl))
          case qA_0 => exact fun _ _ _ h => h
          try simp only [Act.put, List.setIfInBounds_toArray, List.set_cons_zero, List.set_cons_succ]
          refine wpAnyH_take (i := 1) (oi := ?oA_1) (v := ?vA_1) ?iA_1 (by kernel_rfl) (by kernel_rfl) (by kernel_rfl) ?qA_1 ?yA_1 hHeld ?nA_1
          case iA_1 => (simp only [List.getElem?_toArray, List.getElem?_cons_succ, List.getElem?_cons_zero]; rfl)
          case yA_1 => (refine Or.inl ⟨by kernel_rfl, ?_⟩; intro w' hSw; (try dsimp only at hSw); first | (go_simp; done) | (go_simp; with_reducible rfl))
          case qA_1 => exact fun _ _ _ h => h
          try simp only [Act.put, List.setIfInBounds_toArray, List.set_cons_zero, List.set_cons_succ]
          refine wpAnyH_take (i := 2) (oi := ?oA_2) (v := ?vA_2) ?iA_2 (by kernel_rfl) (by kernel_rfl) (by kernel_rfl) ?qA_2 ?yA_2 hHeld ?nA_2
          case iA_2 => (simp only [List.getElem?_toArray, List.getElem?_cons_succ, List.getElem?_cons_zero]; rfl)
          case yA_2 => (refine Or.inl ⟨by kernel_rfl, ?_⟩; intro w' hSw; (try dsimp only at hSw); first | (go_simp; done) | (go_simp; with_reducible rfl))
          case qA_2 => exact fun _ _ _ h => h
          try simp only [Act.put, List.setIfInBounds_toArray, List.set_cons_zero, List.set_cons_succ]
          refine wpAnyH_take (i := 3) (oi := ?oA_3) (v := ?vA_3) ?iA_3 (by kernel_rfl) (by kernel_rfl) (by kernel_rfl) ?qA_3 ?yA_3 hHeld ?nA_3
          case iA_3 => (simp only [List.getElem?_toArray, List.getElem?_cons_succ, List.getElem?_cons_zero]; rfl)
          case yA_3 => (refine Or.inl ⟨by kernel_rfl, ?_⟩; intro w' hSw; (try dsimp only at hSw); first | (go_simp; done) | (go_simp; with_reducible rfl))
          case qA_3 => exact fun _ _ _ h => h
          try simp only [Act.put, List.setIfInBounds_toArray, List.set_cons_zero, List.set_cons_succ]
          refine wpAnyH_ready (rs := [4]) (by kernel_rfl) (by simp) ?_
          refine AllReadyH.cons (o := ?oA_4) ?iA_4 (fun K hK => ?kA_4) AllReadyH.nil
          case iA_4 => (simp only [List.getElem?_toArray, List.getElem?_cons_succ, List.getElem?_cons_zero]; rfl)
          go_simp
          ((with_reducible refine (HG.out _).mono ?_); rintro e w4 ⟨rfl, hb4⟩; dsimp only)
          refine hK.out _ _ ?hA_4 (fun hHeld2 => ?mA_4)
          case hA_4 => exact thenB hHeld (Below.size hHeld) hb4
          clear hK K hHeld
          have hHeld := hHeld2
          clear hHeld2
          try simp only [Act.put, List.setIfInBounds_toArray, List.set_cons_zero, List.set_cons_succ]
          refine wpAnyH_take (i := 5) (oi := ?oA_5) (v := ?vA_5) ?iA_5 (by kernel_rfl) (by kernel_rfl) (by kernel_rfl) ?qA_5 ?yA_5 hHeld ?nA_5
          case iA_5 => (simp only [List.getElem?_toArray, List.getElem?_cons_succ, List.getElem?_cons_zero]; rfl)
          case yA_5 => (refine Or.inl ⟨by kernel_rfl, ?_⟩; intro w' hSw; (try dsimp only at hSw); first | (go_simp; done) | (go_simp; with_reducible rfl))
          case qA_5 => exact fun _ _ _ h => h
          try simp only [Act.put, List.setIfInBounds_toArray, List.set_cons_zero, List.set_cons_succ]
          refine wpAnyH_take (i := 6) (oi := ?oA_6) (v := ?vA_6) ?iA_6 (by kernel_rfl) (by kernel_rfl) (by kernel_rfl) ?qA_6 ?yA_6 hHeld ?nA_6
          case iA_6 => (simp only [List.getElem?_toArray, List.getElem?_cons_succ, List.getElem?_cons_zero]; rfl)
          case yA_6 => (refine Or.inl ⟨by kernel_rfl, ?_⟩; intro w' hSw; (try dsimp only at hSw); first | (go_simp; done) | (go_simp; with_reducible rfl))
          case qA_6 => exact fun _ _ _ h => h
          try simp only [Act.put, List.setIfInBounds_toArray, List.set_cons_zero, List.set_cons_succ]
          refine wpAnyH_take (i := 7) (oi := ?oA_7) (v := undef) ?iA_7 (by kernel_rfl) (by kernel_rfl) (by kernel_rfl) ?qA_7 ?yA_7 hHeld ?nA_7
          case iA_7 => (simp only [List.getElem?_toArray, List.getElem?_cons_succ, List.getElem?_cons_zero]; rfl)
          case yA_7 => exact Or.inr ⟨by kernel_rfl, rfl⟩
          case qA_7 => exact fun _ _ _ h => h
          try simp only [Act.put, List.setIfInBounds_toArray, List.set_cons_zero, List.set_cons_succ]
          refine wpAnyH_take (i := 8) (oi := ?oA_8) (v := undef) ?iA_8 (by kernel_rfl) (by kernel_rfl) (by kernel_rfl) ?qA_8 ?yA_8 hHeld ?nA_8
          case iA_8 => (simp only [List.getElem?_toArray, List.getElem?_cons_succ, List.getElem?_cons_zero]; rfl)
          case yA_8 => exact Or.inr ⟨by kernel_rfl, rfl⟩
          case qA_8 => exact fun _ _ _ h => h
          try simp only [Act.put, List.setIfInBounds_toArray, List.set_cons_zero, List.set_cons_succ]
          refine wpAnyH_take (i := 9) (oi := ?oA_9) (v := undef) ?iA_9 (by kernel_rfl) (by kernel_rfl) (by kernel_rfl) ?qA_9 ?yA_9 hHeld ?nA_9
          case iA_9 => (simp only [List.getElem?_toArray, List.getElem?_cons_succ, List.getElem?_cons_zero]; rfl)
          case yA_9 => exact Or.inr ⟨by kernel_rfl, rfl⟩
          case qA_9 => exact fun _ _ _ h => h
          try simp only [Act.put, List.setIfInBounds_toArray, List.set_cons_zero, List.set_cons_succ]
          refine wpAnyH_take (i := 10) (oi := ?oA_10) (v := undef) ?iA_10 (by kernel_rfl) (by kernel_rfl) (by kernel_rfl) ?qA_10 ?yA_10 hHeld ?nA_10
          case iA_10 => (simp only [List.getElem?_toArray, List.getElem?_cons_succ, List.getElem?_cons_zero]; rfl)
          case yA_10 => exact Or.inr ⟨by kernel_rfl, rfl⟩
          case qA_10 => exact fun _ _ _ h => h
          try simp only [Act.put, List.setIfInBounds_toArray, List.set_cons_zero, List.set_cons_succ]
          refine wpAnyH_take (i := 11) (oi := ?oA_11) (v := undef) ?iA_11 (by kernel_rfl) (by kernel_rfl) (by kernel_rfl) ?qA_11 ?yA_11 hHeld ?nA_11
          case iA_11 => (simp only [List.getElem?_toArray, List.getElem?_cons_succ, List.getElem?_cons_zero]; rfl)
          case yA_11 => exact Or.inr ⟨by kernel_rfl, rfl⟩
          case qA_11 => exact fun _ _ _ h => h
          try simp only [Act.put, List.setIfInBounds_toArray, List.set_cons_zero, List.set_cons_succ]
          refine wpAnyH_take (i := 12) (oi := ?oA_12) (v := undef) ?iA_12 (by kernel_rfl) (by kernel_rfl) (by kernel_rfl) ?qA_12 ?yA_12 hHeld ?nA_12
          case iA_12 => (simp only [List.getElem?_toArray, List.getElem?_cons_succ, List.getElem?_cons_zero]; rfl)
          case yA_12 => exact Or.inr ⟨by kernel_rfl, rfl⟩
          case qA_12 => exact fun _ _ _ h => h
          try simp only [Act.put, List.setIfInBounds_toArray, List.set_cons_zero, List.set_cons_succ]
          refine wpAnyH_take (i := 13) (oi := ?oA_13) (v := undef) ?iA_13 (by kernel_rfl) (by kernel_rfl) (by kernel_rfl) ?qA_13 ?yA_13 hHeld ?nA_13
          case iA_13 => (simp only [List.getElem?_toArray, List.getElem?_cons_succ, List.getElem?_cons_zero]; rfl)
          case yA_13 => exact Or.inr ⟨by kernel_rfl, rfl⟩
          case qA_13 => exact fun _ _ _ h => h
          try simp only [Act.put, List.setIfInBounds_toArray, List.set_cons_zero, List.set_cons_succ]
          refine wpAnyH_take (i := 14) (oi := ?oA_14) (v := undef) ?iA_14 (by kernel_rfl) (by kernel_rfl) (by kernel_rfl) ?qA_14 ?yA_14 hHeld ?nA_14
          case iA_14 => (simp only [List.getElem?_toArray, List.getElem?_cons_succ, List.getElem?_cons_zero]; rfl)
          case yA_14 => exact Or.inr ⟨by kernel_rfl, rfl⟩
          case qA_14 => exact fun _ _ _ h => h
          try simp only [Act.put, List.setIfInBounds_toArray, List.set_cons_zero, List.set_cons_succ]
          refine wpAnyH_take (i := 15) (oi := ?oA_15) (v := undef) ?iA_15 (by kernel_rfl) (by kernel_rfl) (by kernel_rfl) ?qA_15 ?yA_15 hHeld ?nA_15
          case iA_15 => (simp only [List.getElem?_toArray, List.getElem?_cons_succ, List.getElem?_cons_zero]; rfl)
          case yA_15 => exact Or.inr ⟨by kernel_rfl, rfl⟩
          case qA_15 => exact fun _ _ _ h => h
          try simp only [Act.put, List.setIfInBounds_toArray, List.set_cons_zero, List.set_cons_succ]
          refine wpAnyH_take (i := 16) (oi := ?oA_16) (v := ?vA_16) ?iA_16 (by kernel_rfl) (by kernel_rfl) (by kernel_rfl) ?qA_16 ?yA_16 hHeld ?nA_16
          case iA_16 => (simp only [List.getElem?_toArray, List.getElem?_cons_succ, List.getElem?_cons_zero]; rfl)
          case yA_16 => (refine Or.inl ⟨by kernel_rfl, ?_⟩; intro w' hSw; (try dsimp only at hSw); first | (go_simp; done) | (go_simp; with_reducible rfl))
          case qA_16 => exact fun _ _ _ h => h
          try simp only [Act.put, List.setIfInBounds_toArray, List.set_cons_zero, List.set_cons_succ]
          refine wpAnyH_done (by kernel_rfl) ?_ _
          have HS := Aside0.mk hHeld
          clear hHeld hc0 hc1
          go_wp2
          go_ret
          exact ⟨by rw [ownN_false l x hlt (by simpa using HOK.out)]; rfl, HS.out⟩
        | true =>
          go_upto_region 6 with (fail)
          refine wp_region_held_drew (S := fun w' => Below w.heap.size w w') (by kernel_rfl) ?sB (fun hHeld => ?rB)
          case sB => exact below_drew HB.out
          refine wpAnyH_take (i := 0) (oi := ?oB_0) (v := ?vB_0) ?iB_0 (by kernel_rfl) (by kernel_rfl) (by kernel_rfl) ?qB_0 ?yB_0 hHeld ?nB_0
          case iB_0 => (simp only [List.getElem?_toArray, List.getElem?_cons_succ, List.getElem?_cons_zero]; rfl)
          case yB_0 => (refine Or.inl ⟨by kernel_rfl, ?_⟩; intro w' hSw; (try dsimp only at hSw); first | (go_simp; done) | (go_simp; with_reducible rfl))
          case qB_0 => exact fun _ _ _ h => h
          try simp only [Act.put, List.setIfInBounds_toArray, List.set_cons_zero, List.set_cons_succ]
          refine wpAnyH_take (i := 1) (oi := ?oB_1) (v := ?vB_1) ?iB_1 (by kernel_rfl) (by kernel_rfl) (by kernel_rfl) ?qB_1 ?yB_1 hHeld ?nB_1
          case iB_1 => (simp only [List.getElem?_toArray, List.getElem?_cons_succ, List.getElem?_cons_zero]; rfl)
          case yB_1 => (refine Or.inl ⟨by kernel_rfl, ?_⟩; intro w' hSw; (try dsimp only at hSw); first | (go_simp; done) | (go_simp; with_reducible rfl))
          case qB_1 => exact fun _ _ _ h => h
          try simp only [Act.put, List.setIfInBounds_toArray, List.set_cons_zero, List.set_cons_succ]
          refine wpAnyH_take (i := 2) (oi := ?oB_2) (v := ?vB_2) ?iB_2 (by kernel_rfl) (by kernel_rfl) (by kernel_rfl) ?qB_2 ?yB_2 hHeld ?nB_2
          case iB_2 => (simp only [List.getElem?_toArray, List.getElem?_cons_succ, List.getElem?_cons_zero]; rfl)
          case yB_2 => (refine Or.inl ⟨by kernel_rfl, ?_⟩; intro w' hSw; (try dsimp only at hSw); first | (go_simp; done) | (go_simp; with_reducible rfl))
          case qB_2 => exact fun _ _ _ h => h
          try simp only [Act.put, List.setIfInBounds_toArray, List.set_cons_zero, List.set_cons_succ]
          refine wpAnyH_take (i := 3) (oi := ?oB_3) (v := ?vB_3) ?iB_3 (by kernel_rfl) (by kernel_rfl) (by kernel_rfl) ?qB_3 ?yB_3 hHeld ?nB_3
          case iB_3 => (simp only [List.getElem?_toArray, List.getElem?_cons_succ, List.getElem?_cons_zero]; rfl)
          case yB_3 => (refine Or.inl ⟨by kernel_rfl, ?_⟩; intro w' hSw; (try dsimp only at hSw); first | (go_simp; done) | (go_simp; with_reducible rfl))
          case qB_3 => exact fun _ _ _ h => h
          try simp only [Act.put, List.setIfInBounds_toArray, List.set_cons_zero, List.set_cons_succ]
          refine wpAnyH_ready (rs := [4]) (by kernel_rfl) (by simp) ?_
          refine AllReadyH.cons (o := ?oB_4) ?iB_4 (fun K hK => ?kB_4) AllReadyH.nil
          case iB_4 => (simp only [List.getElem?_toArray, List.getElem?_cons_succ, List.getElem?_cons_zero]; rfl)
          go_simp
          ((with_reducible refine (HG.out _).mono ?_); rintro e w4 ⟨rfl, hb4⟩; dsimp only)
          refine hK.out _ _ ?hB_4 (fun hHeld2 => ?mB_4)
          case hB_4 => exact thenB hHeld (Below.size hHeld) hb4
          clear hK K hHeld
          have hHeld := hHeld2
          clear hHeld2
          try simp only [Act.put, List.setIfInBounds_toArray, List.set_cons_zero, List.set_cons_succ]
          refine wpAnyH_take (i := 5) (oi := ?oB_5) (v := ?vB_5) ?iB_5 (by kernel_rfl) (by kernel_rfl) (by kernel_rfl) ?qB_5 ?yB_5 hHeld ?nB_5
          case iB_5 => (simp only [List.getElem?_toArray, List.getElem?_cons_succ, List.getElem?_cons_zero]; rfl)
          case yB_5 => (refine Or.inl ⟨by kernel_rfl, ?_⟩; intro w' hSw; (try dsimp only at hSw); first | (go_simp; done) | (go_simp; with_reducible rfl))
          case qB_5 => exact fun _ _ _ h => h
          try simp only [Act.put, List.setIfInBounds_toArray, List.set_cons_zero, List.set_cons_succ]
          refine wpAnyH_take (i := 6) (oi := ?oB_6) (v := ?vB_6) ?iB_6 (by kernel_rfl) (by kernel_rfl) (by kernel_rfl) ?qB_6 ?yB_6 hHeld ?nB_6
          case iB_6 => (simp only [List.getElem?_toArray, List.getElem?_cons_succ, List.getElem?_cons_zero]; rfl)
          case yB_6 => (refine Or.inl ⟨by kernel_rfl, ?_⟩; intro w' hSw; (try dsimp only at hSw); first | (go_simp; done) | (go_simp; with_reducible rfl))
          case qB_6 => exact fun _ _ _ h => h
          try simp only [Act.put, List.setIfInBounds_toArray, List.set_cons_zero, List.set_cons_succ]
          refine wpAnyH_take (i := 7) (oi := ?oB_7) (v := ?vB_7) ?iB_7 (by kernel_rfl) (by kernel_rfl) (by kernel_rfl) ?qB_7 ?yB_7 hHeld ?nB_7
          case iB_7 => (simp only [List.getElem?_toArray, List.getElem?_cons_succ, List.getElem?_cons_zero]; rfl)
          case yB_7 => (refine Or.inl ⟨by kernel_rfl, ?_⟩; intro w' hSw; (try dsimp only at hSw); first | (go_simp; done) | (go_simp; with_reducible rfl))
          case qB_7 => exact fun _ _ _ h => h
          try simp only [Act.put, List.setIfInBounds_toArray, List.set_cons_zero, List.set_cons_succ]
          refine wpAnyH_take (i := 8) (oi := ?oB_8) (v := ?vB_8) ?iB_8 (by kernel_rfl) (by kernel_rfl) (by kernel_rfl) ?qB_8 ?yB_8 hHeld ?nB_8
          case iB_8 => (simp only [List.getElem?_toArray, List.getElem?_cons_succ, List.getElem?_cons_zero]; rfl)
          case yB_8 => (refine Or.inl ⟨by kernel_rfl, ?_⟩; intro w' hSw; (try dsimp only at hSw); first | (go_simp; done) | (go_simp; with_reducible rfl))
          case qB_8 => exact fun _ _ _ h => h
          try simp only [Act.put, List.setIfInBounds_toArray, List.set_cons_zero, List.set_cons_succ]
          refine wpAnyH_take (i := 9) (oi := ?oB_9) (v := ?vB_9) ?iB_9 (by kernel_rfl) (by kernel_rfl) (by kernel_rfl) ?qB_9 ?yB_9 hHeld ?nB_9
          case iB_9 => (simp only [List.getElem?_toArray, List.getElem?_cons_succ, List.getElem?_cons_zero]; rfl)
          case yB_9 => (refine Or.inl ⟨by kernel_rfl, ?_⟩; intro w' hSw; (try dsimp only at hSw); first | (go_simp; done) | (go_simp; with_reducible rfl))
          case qB_9 => exact fun _ _ _ h => h
          try simp only [Act.put, List.setIfInBounds_toArray, List.set_cons_zero, List.set_cons_succ]
          refine wpAnyH_take (i := 10) (oi := ?oB_10) (v := ?vB_10) ?iB_10 (by kernel_rfl) (by kernel_rfl) (by kernel_rfl) ?qB_10 ?yB_10 hHeld ?nB_10
          case iB_10 => (simp only [List.getElem?_toArray, List.getElem?_cons_succ, List.getElem?_cons_zero]; rfl)
          case yB_10 => (refine Or.inl ⟨by kernel_rfl, ?_⟩; intro w' hSw; (try dsimp only at hSw); first | (go_simp; done) | (go_simp; with_reducible rfl))
          case qB_10 => exact fun _ _ _ h => h
          try simp only [Act.put, List.setIfInBounds_toArray, List.set_cons_zero, List.set_cons_succ]
          refine wpAnyH_take (i := 11) (oi := ?oB_11) (v := ?vB_11) ?iB_11 (by kernel_rfl) (by kernel_rfl) (by kernel_rfl) ?qB_11 ?yB_11 hHeld ?nB_11
          case iB_11 => (simp only [List.getElem?_toArray, List.getElem?_cons_succ, List.getElem?_cons_zero]; rfl)
          case yB_11 => (refine Or.inl ⟨by kernel_rfl, ?_⟩; intro w' hSw; (try dsimp only at hSw); first | (go_simp; done) | (go_simp; with_reducible rfl))
          case qB_11 => exact fun _ _ _ h => h
          try simp only [Act.put, List.setIfInBounds_toArray, List.set_cons_zero, List.set_cons_succ]
          refine wpAnyH_take (i := 12) (oi := ?oB_12) (v := ?vB_12) ?iB_12 (by kernel_rfl) (by kernel_rfl) (by kernel_rfl) ?qB_12 ?yB_12 hHeld ?nB_12
          case iB_12 => (simp only [List.getElem?_toArray, List.getElem?_cons_succ, List.getElem?_cons_zero]; rfl)
          case yB_12 => (refine Or.inl ⟨by kernel_rfl, ?_⟩; intro w' hSw; (try dsimp only at hSw); first | (go_simp; done) | (go_simp; with_reducible rfl))
          case qB_12 => exact fun _ _ _ h => h
          try simp only [Act.put, List.setIfInBounds_toArray, List.set_cons_zero, List.set_cons_succ]
          refine wpAnyH_take (i := 13) (oi := ?oB_13) (v := ?vB_13) ?iB_13 (by kernel_rfl) (by kernel_rfl) (by kernel_rfl) ?qB_13 ?yB_13 hHeld ?nB_13
          case iB_13 => (simp only [List.getElem?_toArray, List.getElem?_cons_succ, List.getElem?_cons_zero]; rfl)
          case yB_13 => (refine Or.inl ⟨by kernel_rfl, ?_⟩; intro w' hSw; (try dsimp only at hSw); first | (go_simp; done) | (go_simp; with_reducible rfl))
          case qB_13 => exact fun _ _ _ h => h
          try simp only [Act.put, List.setIfInBounds_toArray, List.set_cons_zero, List.set_cons_succ]
          refine wpAnyH_take (i := 14) (oi := ?oB_14) (v := ?vB_14) ?iB_14 (by kernel_rfl) (by kernel_rfl) (by kernel_rfl) ?qB_14 ?yB_14 hHeld ?nB_14
          case iB_14 => (simp only [List.getElem?_toArray, List.getElem?_cons_succ, List.getElem?_cons_zero]; rfl)
          case yB_14 => (refine Or.inl ⟨by kernel_rfl, ?_⟩; intro w' hSw; (try dsimp only at hSw); first | (go_simp; done) | (go_simp; with_reducible rfl))
          case qB_14 => exact fun _ _ _ h => h
          try simp only [Act.put, List.setIfInBounds_toArray, List.set_cons_zero, List.set_cons_succ]
          refine wpAnyH_ready (rs := [15]) (by kernel_rfl) (by simp) ?_
          refine AllReadyH.cons (o := ?oB_15) ?iB_15 (fun K hK => ?kB_15) AllReadyH.nil
          case iB_15 => (simp only [List.getElem?_toArray, List.getElem?_cons_succ, List.getElem?_cons_zero]; rfl)
          go_simp
          ((with_reducible refine (owns_head ad l c x hlt _ hc hm (Kd.C_below HR.out hHeld) pa pn b1 H1.out).mono ?_); rintro e w4 ⟨rfl, hb4⟩; dsimp only)
          refine hK.out _ _ ?hB_15 (fun hHeld2 => ?mB_15)
          case hB_15 => exact thenB hHeld (Below.size hHeld) hb4
          clear hK K hHeld
          have hHeld := hHeld2
          clear hHeld2
          try simp only [Act.put, List.setIfInBounds_toArray, List.set_cons_zero, List.set_cons_succ]
          refine wpAnyH_take (i := 16) (oi := ?oB_16) (v := ?vB_16) ?iB_16 (by kernel_rfl) (by kernel_rfl) (by kernel_rfl) ?qB_16 ?yB_16 hHeld ?nB_16
          case iB_16 => (simp only [List.getElem?_toArray, List.getElem?_cons_succ, List.getElem?_cons_zero]; rfl)
          case yB_16 => (refine Or.inl ⟨by kernel_rfl, ?_⟩; intro w' hSw; (try dsimp only at hSw); first | (go_simp; done) | (go_simp; with_reducible rfl))
          case qB_16 => exact fun _ _ _ h => h
          try simp only [Act.put, List.setIfInBounds_toArray, List.set_cons_zero, List.set_cons_succ]
          refine wpAnyH_done (by kernel_rfl) ?_ _
          have HS := Aside0.mk hHeld
          clear hHeld hc0 hc1
          cases b1 with
          | true =>
            go_wp2
            go_ret
            exact ⟨by rw [ownN_false l x hlt (by simpa using HOK.out)]; rfl, HS.out⟩
          | false =>
            go_wp2
            go_roundg k1
            case measure => omega
            case rel => exact ⟨x + 1, by simp, ⟨by omega⟩, ⟨fun j hj => by rcases Nat.lt_succ_iff_lt_or_eq.1 hj with h | rfl; exact HK.out j h; simpa using HOK.out⟩, HS⟩
      · obtain rfl : x = l.length := by omega
        go_wp2
        go_ret
        exact ⟨by rw [ownN_true l h16 HK.out]; rfl, HB.out⟩
  · have i1 : 16 < (l.length : Int) := by omega
    go_enter Try.func37, Try.ntmps37
    go_wp2
    go_ret
    exact ⟨by rw [ownN_long l h16]; rfl, Below.refl _ _⟩
end Go.Proofs.Ytokjjppfdmkjeaa.A

