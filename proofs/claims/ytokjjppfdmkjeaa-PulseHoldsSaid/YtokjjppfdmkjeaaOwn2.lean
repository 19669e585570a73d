/- config: which prefixes may be owned: the walk. -/
import Derived.Test.YtokjjppfdmkjeaaOwn1
set_option linter.unusedVariables false
set_option linter.unusedSimpArgs false
namespace Go.Proofs.Ytokjjppfdmkjeaa.A
open Go.RowKit Go.Proofs.YtokjjppfdmkjeaaW.PrintWords Go.Proofs.YtokjjppfdmkjeaaW.PrintLast Go.Proofs.YtokjjppfdmkjeaaW.PrintMore Go.Proofs.Ytokjjppfdmkjeaa.PPulseHolds

/-- a head of a row -/
theorem C_head (ad : Addr) (l : List Pfx) (c x : Nat) (hx : x < l.length) (w : World) (hc : l.length ≤ c) (hr : Kd.C k81 w (some ad) l.length l) : Kd.C k81 w (some ad) (l.take x).length (l.take x) := by
  have h := Kd.C_mid (c := c) (lo := 0) (hi := x) hr (by omega) (by omega) hc
  rw [if_neg (by omega)] at h
  simpa [Addr.add] using h
theorem take_len (l : List Pfx) (x : Nat) (hx : x ≤ l.length) : (l.take x).length = x := by
  rw [List.length_take]; omega
theorem contains_head (ad : Addr) (l : List Pfx) (c x : Nat) (hx : x < l.length) (w : World) (hc : l.length ≤ c) (hm : l.length ≤ 140737488355328) (hr : Kd.C k81 w (some ad) l.length l) (a n : Int) (b : Bool) (hb : hasP (l.take x) a n = b) :
    Calls Try.prog 74 #[.slice (some ad) x c, .agg #[.int .u32 a, .int .i64 n]] w fun e w' => e = .returned (.bool b) ∧ Below w.heap.size w w' := by
  have e := take_len l x (by omega)
  have h := api_Prefix_74.calls _ (some ad) c (l.take x) a n _ w (C_head ad l c x hx w hc hr) (by omega) (contains_eq (l.take x) a n (by omega))
  rw [e, hb] at h
  exact h
def ownEnd (l : List Pfx) (e : Ending) : Prop := e = if ownN l then .returned (.tuple #[]) else .panicked [given 2]
theorem ownEnd_no (l : List Pfx) (h : ownN l = false) : ownEnd l (.panicked [given 2]) := by
  unfold ownEnd
  rw [h]
  rfl
theorem ownEnd_yes (l : List Pfx) (h : ownN l = true) : ownEnd l (.returned (.tuple #[])) := by
  unfold ownEnd
  rw [h]
  rfl
set_option maxHeartbeats 4000000 in
theorem owned_any (A : Option Addr) (l : List Pfx) (c : Nat) (w : World) (hr : Kd.C k81 w A l.length l) (hc : l.length ≤ c) (ha : AdrP l) (hm : l.length ≤ 140737488355328) :
    Calls Try.prog 62 #[.slice A l.length c] w fun e w' => ownEnd l e ∧ Below w.heap.size w w' := by
  have HR := Aside0.mk hr
  have HA := Aside0.mk ha
  clear hr ha
  by_cases h16 : l.length ≤ 16
  · have i1 : (0 : Int) ≤ (l.length : Int) := by omega
    have i2 : (l.length : Int) ≤ 16 := by omega
    go_enter Try.func62, Try.ntmps62
    go_wp2_with (first
      | (go_at_call 61; go_loud ((with_reducible refine (config_within_int.calls (l.length : Int) 0 16 true _ (by simp [config_within_int.f, i1, i2])).mono ?_); rintro e w1 ⟨rfl, hd1⟩; have hb1 := hd1.below; clear hd1))
      | (go_at_call 59; go_loud ((with_reducible refine (must_ok 2 _).mono ?_); rintro e w2 ⟨rfl, rfl⟩)))
    have HB0 := Aside0.mk (thenB (below_alloc (Below.refl w.heap.size w) _) (by simp) hb1)
    clear hb1
    go_loopg [18] l.length (fun kq v18 w' => ∃ x : Nat, v18 = .int .i64 x ∧ Aside0 (x + kq = l.length) ∧ Aside0 (∀ j, j < x → okAt l j = true) ∧ Aside0 (Below w.heap.size w w'))
    case atStart => exact ⟨0, rfl, ⟨by omega⟩, ⟨fun j hj => absurd hj (by omega)⟩, HB0⟩
    case round =>
      obtain ⟨x, rfl, HX, HK, HB⟩ := hrel
      have hx := HX.out
      clear HB0
      by_cases hlt : x < l.length
      · obtain ⟨k1, rfl⟩ : ∃ k1, gk = k1 + 1 := ⟨gk - 1, by omega⟩
        have p103 : (0 : Int) ≤ (x : Int) := by omega
        have q103 : (x : Int) < (l.length : Int) := by omega
        obtain ⟨ad, ead, hx0, hx1⟩ := at_T81 HR.out (x : Int) p103 q103
        subst ead
        rw [Int.toNat_natCast] at hx0 hx1
        replace hx0 := (HB.out.cell (World.block_lt_of_cell? w _ hx0)).trans hx0
        replace hx1 := (HB.out.cell (World.block_lt_of_cell? w _ hx1)).trans hx1
        have had := atP_adr l HA.out x hlt
        have HOK := Aside0.mk (rfl : okAt l x = okAt l x)
        unfold okAt at HOK
        change wr.cell? _ = some (.int .u32 (atP l x).f0) at hx0
        change wr.cell? _ = some (.int .i64 (atP l x).f1) at hx1
        obtain ⟨pa, hpa⟩ : ∃ pa, (atP l x).f0 = pa := ⟨_, rfl⟩
        obtain ⟨pn, hpn⟩ : ∃ pn, (atP l x).f1 = pn := ⟨_, rfl⟩
        rw [hpa] at hx0 had
        rw [hpn] at hx1
        have q104 : (x : Int) ≤ (c : Int) := by omega
        go_upto_region 5 with (fail)
        obtain ⟨b1, hb1⟩ : ∃ b, hasP (l.take x) pa pn = b := ⟨_, rfl⟩
        obtain ⟨b2, hb2⟩ : ∃ b, goodN pa pn = b := ⟨_, rfl⟩
        have hOf := Of_any pa pn had
        rw [hb2] at hOf
        have HOF := Aside0.mk hOf
        have H1 := Aside0.mk hb1
        clear hOf hb1
        go_upto_region 6 with (go_at_call 73; go_loud ((with_reducible refine (HOF.out _).mono ?_); rintro e w2 ⟨⟨v0, v1, v2, v3, v4, v5, rfl⟩, hb3⟩; have HH := Aside0.mk (Held.mk (w := w) (g := wr.heap.size) ((Blk.new wr 81 #[.int .u32 pa, .int .i64 pn]).later hb3) (thenB (below_alloc HB.out _) (by have := HB.out.size; simp; omega) hb3)); have c0 := HH.out.blk.cell 0 _ rfl; have c1 := HH.out.blk.cell 1 _ rfl; clear hb3))
        first
        | go_region_held3 (fun w' => w'.cell? ⟨wr.heap.size, 0, none⟩ = some (.int .u32 pa) ∧ w'.cell? ⟨wr.heap.size, 1, none⟩ = some (.int .i64 pn) ∧ Aside0 (Held w wr.heap.size 81 #[.int .u32 pa, .int .i64 pn] w'))
            (first
              | assumption
              | (exact held2 (Held.drew ⟨HH.out.blk.alloc _, below_alloc HH.out.bel _⟩))
              | (exact held2 (Held.later (Aside0.out (And.right (And.right (by assumption)))) (by assumption)))
              | skip)
            (first
              | (go_at_call 74; go_loud (have hS := (by assumption : _ ∧ _ ∧ Aside0 (Held w wr.heap.size 81 #[.int .u32 pa, .int .i64 pn] _)); (with_reducible refine (contains_head ad l c x hlt _ hc hm (Kd.C_below HR.out hS.2.2.out.bel) pa pn b1 H1.out).mono ?_); rintro e w4 ⟨rfl, hb4⟩; dsimp only)))
        | fail "the region"
        have HS : Aside0 (Held w wr.heap.size 81 #[.int .u32 pa, .int .i64 pn] _) := (by assumption : _ ∧ _ ∧ Aside0 (Held w wr.heap.size 81 #[.int .u32 pa, .int .i64 pn] _)).2.2
        have hok : okAt l x = (b2 && !b1) := by
          unfold okAt
          rw [hpa, hpn, hb2, H1.out]
        have HOK2 := Aside0.mk hok
        clear hok hx0 hx1 c0 c1 H1 HOF HOK hb2
        cases b1 with
        | true =>
          cases b2 with
          | false =>
            go_wp2_with (go_at_call 59; go_loud ((with_reducible refine (must_no 2 _).mono ?_); rintro e w5 ⟨rfl, rfl⟩))
            exact ⟨rfl, ownEnd_no l (ownN_false l x hlt (by simpa using HOK2.out)), HS.out.bel⟩
          | true =>
            go_wp2_with (go_at_call 59; go_loud ((with_reducible refine (must_no 2 _).mono ?_); rintro e w5 ⟨rfl, rfl⟩))
            exact ⟨rfl, ownEnd_no l (ownN_false l x hlt (by simpa using HOK2.out)), HS.out.bel⟩
        | false =>
          cases b2 with
          | false =>
            go_wp2_with (go_at_call 59; go_loud ((with_reducible refine (must_no 2 _).mono ?_); rintro e w5 ⟨rfl, rfl⟩))
            exact ⟨rfl, ownEnd_no l (ownN_false l x hlt (by simpa using HOK2.out)), HS.out.bel⟩
          | true =>
            go_wp2
            go_roundg k1
            case measure => omega
            case rel => exact ⟨x + 1, by simp, ⟨by omega⟩, ⟨fun j hj => by rcases Nat.lt_succ_iff_lt_or_eq.1 hj with h | rfl; exact HK.out j h; simpa using HOK2.out⟩, ⟨HS.out.bel⟩⟩
      · obtain rfl : x = l.length := by omega
        go_wp2
        go_end0
        exact ⟨ownEnd_yes l (ownN_true l h16 HK.out), HB.out⟩
  · have i1 : (0 : Int) ≤ (l.length : Int) := by omega
    have i2 : ¬ (l.length : Int) ≤ 16 := by omega
    go_enter Try.func62, Try.ntmps62
    go_wp2_with (first
      | (go_at_call 61; go_loud ((with_reducible refine (config_within_int.calls (l.length : Int) 0 16 false _ (by simp [config_within_int.f, i1, i2])).mono ?_); rintro e w1 ⟨rfl, hd1⟩; have hb1 := hd1.below; clear hd1))
      | (go_at_call 59; go_loud ((with_reducible refine (must_no 2 _).mono ?_); rintro e w2 ⟨rfl, rfl⟩)))
    exact ⟨rfl, ownEnd_no l (ownN_long l h16), thenB (below_alloc (Below.refl w.heap.size w) _) (by simp) hb1⟩
end Go.Proofs.Ytokjjppfdmkjeaa.A

