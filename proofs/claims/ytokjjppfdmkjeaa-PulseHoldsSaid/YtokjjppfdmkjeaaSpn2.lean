/- config: which configurations may be. -/
import Derived.Test.YtokjjppfdmkjeaaSpn1
set_option linter.unusedVariables false
set_option linter.unusedSimpArgs false
namespace Go.Proofs.Ytokjjppfdmkjeaa.A
open Go.RowKit Go.Proofs.YtokjjppfdmkjeaaW.PrintWords Go.Proofs.YtokjjppfdmkjeaaW.PrintLast Go.Proofs.YtokjjppfdmkjeaaW.PrintMore Go.Proofs.Ytokjjppfdmkjeaa.PPulseHolds

def rightEnd (c0 c1 c2 c3 c4 c5 c6 cap : Int) (l : List Pfx) (e : Ending) : Prop := e = if rightN c0 c1 c2 c3 c4 c5 c6 cap l then .returned (.tuple #[]) else .panicked [given 2]
/-- what is known in look.right's loop -/
structure Lk (w : World) (cv : Array Value) (w' : World) : Prop where
  b0 : Blk w' w.heap.size 84 cv
  b1 : Blk w' (w.heap.size + 1) 92 spanCells
  bel : Below w.heap.size w w'
theorem Lk.later {w : World} {cv : Array Value} {w1 w2 : World} (h : Lk w cv w1) (hb : Below w1.heap.size w1 w2) : Lk w cv w2 := ⟨h.b0.later hb, h.b1.later hb, thenB h.bel h.bel.size hb⟩
theorem Lk.alloc {w : World} {cv : Array Value} {w1 : World} (h : Lk w cv w1) (o : Obj) : Lk w cv (w1.alloc o) := ⟨h.b0.alloc o, h.b1.alloc o, below_alloc h.bel o⟩
theorem Lk.drew {w : World} {cv : Array Value} {w1 : World} (h : Lk w cv w1) : Lk w cv w1.drew := ⟨h.b0, h.b1, below_drew h.bel⟩
/-- and the span at hand -/
structure Lks (w : World) (cv : Array Value) (g : Nat) (N : ByteArray) (F : FuncId) (L : Int) (w' : World) : Prop where
  lk : Lk w cv w'
  bs : Blk w' g 92 #[.string N, .func (.func F) #[] #[], .int .i64 L]
theorem Lks.later {w : World} {cv : Array Value} {g : Nat} {N : ByteArray} {F : FuncId} {L : Int} {w1 w2 : World} (h : Lks w cv g N F L w1) (hb : Below w1.heap.size w1 w2) : Lks w cv g N F L w2 := ⟨h.lk.later hb, h.bs.later hb⟩
def Lkf (w : World) (c0 c1 c2 c3 c4 c5 c6 cap : Int) (A : Option Addr) (n cc : Nat) (g : Nat) (N : ByteArray) (F : FuncId) (L : Int) (w' : World) : Prop :=
  w'.cell? ⟨g, 1, none⟩ = some (.func (.func F) #[] #[]) ∧ w'.cell? ⟨g, 2, none⟩ = some (.int .i64 L) ∧
  w'.cell? ⟨w.heap.size, 0, none⟩ = some (.int .i64 c0) ∧ w'.cell? ⟨w.heap.size, 1, none⟩ = some (.int .i64 c1) ∧ w'.cell? ⟨w.heap.size, 2, none⟩ = some (.int .i64 c2) ∧ w'.cell? ⟨w.heap.size, 3, none⟩ = some (.int .i64 c3) ∧ w'.cell? ⟨w.heap.size, 4, none⟩ = some (.int .i64 c4) ∧ w'.cell? ⟨w.heap.size, 5, none⟩ = some (.int .i64 c5) ∧ w'.cell? ⟨w.heap.size, 6, none⟩ = some (.int .i64 c6) ∧ w'.cell? ⟨w.heap.size, 7, none⟩ = some (.int .i64 cap) ∧ w'.cell? ⟨w.heap.size, 8, none⟩ = some (.slice A n cc) ∧ Aside0 (Lks w #[.int .i64 c0, .int .i64 c1, .int .i64 c2, .int .i64 c3, .int .i64 c4, .int .i64 c5, .int .i64 c6, .int .i64 cap, .slice A n cc] g N F L w')
theorem lkf {w : World} {c0 c1 c2 c3 c4 c5 c6 cap : Int} {A : Option Addr} {n cc : Nat} {g : Nat} {N : ByteArray} {F : FuncId} {L : Int} {w1 : World} (h : Lks w #[.int .i64 c0, .int .i64 c1, .int .i64 c2, .int .i64 c3, .int .i64 c4, .int .i64 c5, .int .i64 c6, .int .i64 cap, .slice A n cc] g N F L w1) : Lkf w c0 c1 c2 c3 c4 c5 c6 cap A n cc g N F L w1 :=
  ⟨h.bs.cell 1 _ rfl, h.bs.cell 2 _ rfl, h.lk.b0.cell 0 _ rfl, h.lk.b0.cell 1 _ rfl, h.lk.b0.cell 2 _ rfl, h.lk.b0.cell 3 _ rfl, h.lk.b0.cell 4 _ rfl, h.lk.b0.cell 5 _ rfl, h.lk.b0.cell 6 _ rfl, h.lk.b0.cell 7 _ rfl, h.lk.b0.cell 8 _ rfl, ⟨h⟩⟩
theorem lkf_out {w : World} {c0 c1 c2 c3 c4 c5 c6 cap : Int} {A : Option Addr} {n cc : Nat} {g : Nat} {N : ByteArray} {F : FuncId} {L : Int} {w1 : World} (h : Lkf w c0 c1 c2 c3 c4 c5 c6 cap A n cc g N F L w1) : Lks w #[.int .i64 c0, .int .i64 c1, .int .i64 c2, .int .i64 c3, .int .i64 c4, .int .i64 c5, .int .i64 c6, .int .i64 cap, .slice A n cc] g N F L w1 := h.2.2.2.2.2.2.2.2.2.2.2.out
theorem rightEnd_no {c0 c1 c2 c3 c4 c5 c6 cap : Int} {l : List Pfx} (h : rightN c0 c1 c2 c3 c4 c5 c6 cap l = false) : rightEnd c0 c1 c2 c3 c4 c5 c6 cap l (.panicked [given 2]) := by
  unfold rightEnd
  rw [h]
  rfl
theorem rightEnd_yes {c0 c1 c2 c3 c4 c5 c6 cap : Int} {l : List Pfx} (h : rightN c0 c1 c2 c3 c4 c5 c6 cap l = true) : rightEnd c0 c1 c2 c3 c4 c5 c6 cap l (.returned (.tuple #[])) := by
  unfold rightEnd
  rw [h]
  rfl
theorem rightN_span (c0 c1 c2 c3 c4 c5 c6 cap : Int) (l : List Pfx) (x : Nat) (hx : x < 7) (h : spanOk c0 c1 c2 c3 c4 c5 c6 x = false) : rightN c0 c1 c2 c3 c4 c5 c6 cap l = false := by
  unfold rightN
  cases hc : (List.range 7).all (spanOk c0 c1 c2 c3 c4 c5 c6) with
  | false => simp
  | true =>
    rw [List.all_eq_true] at hc
    rw [hc x (List.mem_range.2 hx)] at h
    cases h
theorem rightN_all (c0 c1 c2 c3 c4 c5 c6 cap : Int) (l : List Pfx) (h : ∀ j, j < 7 → spanOk c0 c1 c2 c3 c4 c5 c6 j = true) : rightN c0 c1 c2 c3 c4 c5 c6 cap l = (decide (1 ≤ cap ∧ cap ≤ 256 ∧ l.length ≤ cap) && ownN l) := by
  unfold rightN
  have e : (List.range 7).all (spanOk c0 c1 c2 c3 c4 c5 c6) = true := by
    rw [List.all_eq_true]
    intro x hx
    exact h x (List.mem_range.1 hx)
  rw [e, Bool.true_and]
set_option maxHeartbeats 4000000 in
theorem lright_any (c0 c1 c2 c3 c4 c5 c6 cap : Int) (A : Option Addr) (l : List Pfx) (cc : Nat) (w : World) (hr : Kd.C k81 w A l.length l) (hc : l.length ≤ cc) (ha : AdrP l) (hm : l.length ≤ 140737488355328) :
    Calls Try.prog 51 #[.agg #[.int .i64 c0, .int .i64 c1, .int .i64 c2, .int .i64 c3, .int .i64 c4, .int .i64 c5, .int .i64 c6, .int .i64 cap, .slice A l.length cc]] w fun e w' => rightEnd c0 c1 c2 c3 c4 c5 c6 cap l e ∧ Below w.heap.size w w' := by
  have HR := Aside0.mk hr
  have HA := Aside0.mk ha
  clear hr ha
  go_enter Try.func51, Try.ntmps51
  go_upto_region 2 with (go_at_call 58; go_loud ((with_reducible refine (spans_any _).mono ?_); rintro e w1 ⟨rfl, rfl⟩))
  have HL0 := Aside0.mk (Lk.mk (cv := #[.int .i64 c0, .int .i64 c1, .int .i64 c2, .int .i64 c3, .int .i64 c4, .int .i64 c5, .int .i64 c6, .int .i64 cap, .slice A l.length cc]) (blk0 w 84 #[.int .i64 c0, .int .i64 c1, .int .i64 c2, .int .i64 c3, .int .i64 c4, .int .i64 c5, .int .i64 c6, .int .i64 cap, .slice A l.length cc] (.cells spanCells 92)) (blk1 w 92 spanCells (.cells #[.int .i64 c0, .int .i64 c1, .int .i64 c2, .int .i64 c3, .int .i64 c4, .int .i64 c5, .int .i64 c6, .int .i64 cap, .slice A l.length cc] 84)) (below_two w _ _))
  go_loopg [6] 7 (fun kq v6 w' => ∃ x : Nat, v6 = .int .i64 x ∧ Aside0 (x + kq = 7) ∧ Aside0 (∀ j, j < x → spanOk c0 c1 c2 c3 c4 c5 c6 j = true) ∧ Aside0 (Lk w #[.int .i64 c0, .int .i64 c1, .int .i64 c2, .int .i64 c3, .int .i64 c4, .int .i64 c5, .int .i64 c6, .int .i64 cap, .slice A l.length cc] w'))
  case atStart => exact ⟨0, rfl, ⟨by omega⟩, ⟨fun j hj => absurd hj (by omega)⟩, HL0⟩
  case round =>
    obtain ⟨x, rfl, HX, HK, HL⟩ := hrel
    have hx := HX.out
    clear HL0
    by_cases hlt : x < 7
    · obtain ⟨k1, rfl⟩ : ∃ k1, gk = k1 + 1 := ⟨gk - 1, by omega⟩
      have p1 : (0 : Int) ≤ (x : Int) := by omega
      have p2 : (x : Int) < 7 := by omega
      obtain ⟨s0, s1, s2⟩ := spanC x hlt
      have hcf := spanF_call x hlt
      have hF := spanF_any c0 c1 c2 c3 c4 c5 c6 cap A l.length cc x hlt
      have hok : decide (spanL x ≤ spanV c0 c1 c2 c3 c4 c5 c6 x ∧ spanV c0 c1 c2 c3 c4 c5 c6 x ≤ 1000000) = spanOk c0 c1 c2 c3 c4 c5 c6 x := rfl
      obtain ⟨N, hN⟩ : ∃ N, spanN x = N := ⟨_, rfl⟩
      obtain ⟨F, hFF⟩ : ∃ F, spanF x = F := ⟨_, rfl⟩
      obtain ⟨L, hLL⟩ : ∃ L, spanL x = L := ⟨_, rfl⟩
      obtain ⟨V, hV⟩ : ∃ V, spanV c0 c1 c2 c3 c4 c5 c6 x = V := ⟨_, rfl⟩
      obtain ⟨b, hb⟩ : ∃ b, spanOk c0 c1 c2 c3 c4 c5 c6 x = b := ⟨_, rfl⟩
      rw [hN] at s0
      rw [hFF] at s1 hF hcf
      rw [hLL] at s2 hok
      rw [hV] at hF hok
      rw [hb] at hok
      have z0 := HL.out.b1.cell _ _ s0
      have z1 := HL.out.b1.cell _ _ s1
      have z2 := HL.out.b1.cell _ _ s2
      have HF := Aside0.mk hF
      have HO := Aside0.mk hok
      clear hF hok s0 s1 s2
      go_upto_region 4 with (fail)
      have HBS := Aside0.mk (Blk.new wr 92 #[.string N, .func (.func F) #[] #[], .int .i64 L])
      cases b with
      | true =>
        first
        | go_region_held3 (fun w' => w'.cell? ⟨wr.heap.size, 1, none⟩ = some (.func (.func F) #[] #[]) ∧ w'.cell? ⟨wr.heap.size, 2, none⟩ = some (.int .i64 L) ∧ w'.cell? ⟨w.heap.size, 0, none⟩ = some (.int .i64 c0) ∧ w'.cell? ⟨w.heap.size, 1, none⟩ = some (.int .i64 c1) ∧ w'.cell? ⟨w.heap.size, 2, none⟩ = some (.int .i64 c2) ∧ w'.cell? ⟨w.heap.size, 3, none⟩ = some (.int .i64 c3) ∧ w'.cell? ⟨w.heap.size, 4, none⟩ = some (.int .i64 c4) ∧ w'.cell? ⟨w.heap.size, 5, none⟩ = some (.int .i64 c5) ∧ w'.cell? ⟨w.heap.size, 6, none⟩ = some (.int .i64 c6) ∧ w'.cell? ⟨w.heap.size, 7, none⟩ = some (.int .i64 cap) ∧ w'.cell? ⟨w.heap.size, 8, none⟩ = some (.slice A l.length cc) ∧ Aside0 (Lks w #[.int .i64 c0, .int .i64 c1, .int .i64 c2, .int .i64 c3, .int .i64 c4, .int .i64 c5, .int .i64 c6, .int .i64 cap, .slice A l.length cc] wr.heap.size N F L w'))
            (first
              | assumption
              | (exact lkf ⟨(HL.out.alloc _).drew, HBS.out⟩)
              | (exact lkf (Lks.later (lkf_out (by assumption)) (by assumption)))
              | skip)
            (first
              | (go_at_call 60; go_loud ((with_reducible refine (config_within_int64.calls V L 1000000 true _ (by rw [within64_eq, HO.out])).mono ?_); rintro e w5 ⟨rfl, hb5⟩; (try have hb5 := hb5.below); dsimp only))
              | (go_at_call 59; go_loud ((with_reducible refine (must_ok 2 _).mono ?_); rintro e w6 ⟨rfl, rfl⟩; dsimp only))
              | ((with_reducible refine (HF.out _).mono ?_); rintro e w4 ⟨rfl, hb4⟩; dsimp only))
        | fail "the region"
        have HS := Aside0.mk (lkf_out (w := w) (A := A) (n := l.length) (cc := cc) (g := wr.heap.size) (N := N) (F := F) (L := L) (by assumption)).lk
        go_wp2
        go_roundg k1
        case measure => omega
        case rel => exact ⟨x + 1, by simp, ⟨by omega⟩, ⟨fun j hj => by rcases Nat.lt_succ_iff_lt_or_eq.1 hj with h | rfl; exact HK.out j h; exact hb⟩, ⟨HS.out⟩⟩
      | false =>
        have d1 := HBS.out.cell 1 _ rfl
        have d2 := HBS.out.cell 2 _ rfl
        have HLA := Aside0.mk (HL.out.alloc (.cells #[.string N, .func (.func F) #[] #[], .int .i64 L] 92))
        have e0 := HLA.out.b0.cell 0 _ rfl; have e1 := HLA.out.b0.cell 1 _ rfl; have e2 := HLA.out.b0.cell 2 _ rfl; have e3 := HLA.out.b0.cell 3 _ rfl; have e4 := HLA.out.b0.cell 4 _ rfl; have e5 := HLA.out.b0.cell 5 _ rfl; have e6 := HLA.out.b0.cell 6 _ rfl; have e7 := HLA.out.b0.cell 7 _ rfl; have e8 := HLA.out.b0.cell 8 _ rfl
        have HBD : Aside0 (Blk (wr.alloc (.cells #[.string N, .func (.func F) #[] #[], .int .i64 L] 92)).drew wr.heap.size 92 #[.string N, .func (.func F) #[] #[], .int .i64 L]) := ⟨HBS.out⟩
        have HLD := Aside0.mk HLA.out.drew
        go_region_with (first
              | (go_at_call 60; go_loud ((with_reducible refine (config_within_int64.calls V L 1000000 false _ (by rw [within64_eq, HO.out])).mono ?_); rintro e w5 ⟨rfl, hb5⟩; (try have hb5 := hb5.below); have HL5 := Aside0.mk (HL4.out.later hb5); dsimp only))
              | (go_at_call 59; go_loud ((with_reducible refine (must_no 2 _).mono ?_); rintro (v6 | c6 | _) w6 ⟨h6, h7⟩; rotate_left; (cases h6; cases h7; exact ⟨rfl, rightEnd_no (rightN_span c0 c1 c2 c3 c4 c5 c6 cap l x hlt hb), HL5.out.bel⟩); (cases h6); dsimp only))
              | go_loud ((with_reducible refine (HF.out _).mono ?_); rintro e w4 ⟨rfl, hb4⟩; have f2 := (HBD.out.later hb4).cell 2 _ rfl; have HL4 := Aside0.mk (HLD.out.later hb4); dsimp only))
        all_goals (cases h6)
    · obtain rfl : x = 7 := by omega
      have hall := rightN_all c0 c1 c2 c3 c4 c5 c6 cap l HK.out
      have HALL := Aside0.mk hall
      clear hall
      have b0 := HL.out.b0.cell 0 _ rfl; have b1 := HL.out.b0.cell 1 _ rfl; have b2 := HL.out.b0.cell 2 _ rfl; have b3 := HL.out.b0.cell 3 _ rfl; have b4 := HL.out.b0.cell 4 _ rfl; have b5 := HL.out.b0.cell 5 _ rfl; have b6 := HL.out.b0.cell 6 _ rfl; have b7 := HL.out.b0.cell 7 _ rfl; have b8 := HL.out.b0.cell 8 _ rfl
      by_cases h1 : 1 ≤ cap
      · by_cases h2 : cap ≤ 256
        · by_cases h3 : (l.length : Int) ≤ cap
          · have hr3 : rightN c0 c1 c2 c3 c4 c5 c6 cap l = ownN l := by
              rw [HALL.out, decide_eq_true ⟨h1, h2, h3⟩, Bool.true_and]
            cases ho : ownN l with
            | true =>
              go_wp2_with (first
                | (go_at_call 61; go_loud ((with_reducible refine (config_within_int.calls cap 1 256 true _ (by simp [config_within_int.f, h1, h2])).mono ?_); rintro e w5 ⟨rfl, hb5⟩; (try have hb5 := hb5.below); have HL5 := Aside0.mk (HL.out.later hb5); have e0 := HL5.out.b0.cell 0 _ rfl; have e1 := HL5.out.b0.cell 1 _ rfl; have e2 := HL5.out.b0.cell 2 _ rfl; have e3 := HL5.out.b0.cell 3 _ rfl; have e4 := HL5.out.b0.cell 4 _ rfl; have e5 := HL5.out.b0.cell 5 _ rfl; have e6 := HL5.out.b0.cell 6 _ rfl; have e7 := HL5.out.b0.cell 7 _ rfl; have e8 := HL5.out.b0.cell 8 _ rfl))
                | (go_at_call 59; go_loud ((with_reducible refine (must_ok 2 _).mono ?_); rintro e w6 ⟨rfl, rfl⟩))
                | (go_at_call 62; go_loud ((with_reducible refine (owned_any A l cc _ (Kd.C_below HR.out HL5.out.bel) hc HA.out hm).mono ?_); rintro e w7 ⟨h7, hb7⟩; rw [ownEnd, ho, if_pos rfl] at h7; cases h7)))
              go_end0
              exact ⟨rightEnd_yes (hr3.trans ho), thenB HL5.out.bel HL5.out.bel.size hb7⟩
            | false =>
              go_wp2_with (first
                | (go_at_call 61; go_loud ((with_reducible refine (config_within_int.calls cap 1 256 true _ (by simp [config_within_int.f, h1, h2])).mono ?_); rintro e w5 ⟨rfl, hb5⟩; (try have hb5 := hb5.below); have HL5 := Aside0.mk (HL.out.later hb5); have e0 := HL5.out.b0.cell 0 _ rfl; have e1 := HL5.out.b0.cell 1 _ rfl; have e2 := HL5.out.b0.cell 2 _ rfl; have e3 := HL5.out.b0.cell 3 _ rfl; have e4 := HL5.out.b0.cell 4 _ rfl; have e5 := HL5.out.b0.cell 5 _ rfl; have e6 := HL5.out.b0.cell 6 _ rfl; have e7 := HL5.out.b0.cell 7 _ rfl; have e8 := HL5.out.b0.cell 8 _ rfl))
                | (go_at_call 59; go_loud ((with_reducible refine (must_ok 2 _).mono ?_); rintro e w6 ⟨rfl, rfl⟩))
                | (go_at_call 62; go_loud ((with_reducible refine (owned_any A l cc _ (Kd.C_below HR.out HL5.out.bel) hc HA.out hm).mono ?_); rintro e w7 ⟨h7, hb7⟩; rw [ownEnd, ho, if_neg Bool.false_ne_true] at h7; cases h7)))
              exact ⟨rfl, rightEnd_no (hr3.trans ho), thenB HL5.out.bel HL5.out.bel.size hb7⟩
          · have hr3 : rightN c0 c1 c2 c3 c4 c5 c6 cap l = false := by
              rw [HALL.out, decide_eq_false (fun h => h3 h.2.2), Bool.false_and]
            have d3 : decide ((l.length : Int) ≤ cap) = false := decide_eq_false h3
            go_wp2_with (first
              | (go_at_call 61; go_loud ((with_reducible refine (config_within_int.calls cap 1 256 true _ (by simp [config_within_int.f, h1, h2])).mono ?_); rintro e w5 ⟨rfl, hb5⟩; (try have hb5 := hb5.below); have HL5 := Aside0.mk (HL.out.later hb5); have e0 := HL5.out.b0.cell 0 _ rfl; have e1 := HL5.out.b0.cell 1 _ rfl; have e2 := HL5.out.b0.cell 2 _ rfl; have e3 := HL5.out.b0.cell 3 _ rfl; have e4 := HL5.out.b0.cell 4 _ rfl; have e5 := HL5.out.b0.cell 5 _ rfl; have e6 := HL5.out.b0.cell 6 _ rfl; have e7 := HL5.out.b0.cell 7 _ rfl; have e8 := HL5.out.b0.cell 8 _ rfl))
              | (go_at_call 59; go_loud ((with_reducible refine (must_no 2 _).mono ?_); rintro e w6 ⟨rfl, rfl⟩)))
            exact ⟨rfl, rightEnd_no hr3, HL5.out.bel⟩
        · have hr3 : rightN c0 c1 c2 c3 c4 c5 c6 cap l = false := by
            rw [HALL.out, decide_eq_false (fun h => h2 h.2.1), Bool.false_and]
          go_wp2_with (first
            | (go_at_call 61; go_loud ((with_reducible refine (config_within_int.calls cap 1 256 false _ (by simp [config_within_int.f, h1, h2])).mono ?_); rintro e w5 ⟨rfl, hb5⟩; (try have hb5 := hb5.below); have HL5 := Aside0.mk (HL.out.later hb5); have e0 := HL5.out.b0.cell 0 _ rfl; have e1 := HL5.out.b0.cell 1 _ rfl; have e2 := HL5.out.b0.cell 2 _ rfl; have e3 := HL5.out.b0.cell 3 _ rfl; have e4 := HL5.out.b0.cell 4 _ rfl; have e5 := HL5.out.b0.cell 5 _ rfl; have e6 := HL5.out.b0.cell 6 _ rfl; have e7 := HL5.out.b0.cell 7 _ rfl; have e8 := HL5.out.b0.cell 8 _ rfl))
            | (go_at_call 59; go_loud ((with_reducible refine (must_no 2 _).mono ?_); rintro e w6 ⟨rfl, rfl⟩)))
          exact ⟨rfl, rightEnd_no hr3, HL5.out.bel⟩
      · have hr3 : rightN c0 c1 c2 c3 c4 c5 c6 cap l = false := by
          rw [HALL.out, decide_eq_false (fun h => h1 h.1), Bool.false_and]
        go_wp2_with (first
          | (go_at_call 61; go_loud ((with_reducible refine (config_within_int.calls cap 1 256 false _ (by simp [config_within_int.f, h1])).mono ?_); rintro e w5 ⟨rfl, hb5⟩; (try have hb5 := hb5.below); have HL5 := Aside0.mk (HL.out.later hb5); have e0 := HL5.out.b0.cell 0 _ rfl; have e1 := HL5.out.b0.cell 1 _ rfl; have e2 := HL5.out.b0.cell 2 _ rfl; have e3 := HL5.out.b0.cell 3 _ rfl; have e4 := HL5.out.b0.cell 4 _ rfl; have e5 := HL5.out.b0.cell 5 _ rfl; have e6 := HL5.out.b0.cell 6 _ rfl; have e7 := HL5.out.b0.cell 7 _ rfl; have e8 := HL5.out.b0.cell 8 _ rfl))
          | (go_at_call 59; go_loud ((with_reducible refine (must_no 2 _).mono ?_); rintro e w6 ⟨rfl, rfl⟩)))
        exact ⟨rfl, rightEnd_no hr3, HL5.out.bel⟩
end Go.Proofs.Ytokjjppfdmkjeaa.A

