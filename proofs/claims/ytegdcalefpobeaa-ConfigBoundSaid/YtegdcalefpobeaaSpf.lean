/- config: Spans and its iterator. -/
import Derived.Test.YtegdcalefpobeaaSpn1
import Derived.Test.YtegdcalefpobeaaRngx
import Derived.Sort.CutIn
import Derived.Stop.RegionWithIn
set_option linter.unusedVariables false
set_option linter.unusedSimpArgs false
namespace Go.Proofs.Ytegdcalefpobeaa.A
open Go.RowKit Go.Shelf Go.Proofs.YtegdcalefpobeaaW.PrintWords Go.Proofs.YtegdcalefpobeaaW.PrintLast Go.Proofs.YtegdcalefpobeaaW.PrintMore Go.Proofs.Ytegdcalefpobeaa.PConfigChecks
attribute [local go_sem] Oper.semAt_some

theorem spansf_any (c0 c1 c2 c3 c4 c5 c6 cap : Int) (A : Option Addr) (nn cc : Nat) (w : World) : Calls Try.prog 26 #[.agg #[.int .i64 c0, .int .i64 c1, .int .i64 c2, .int .i64 c3, .int .i64 c4, .int .i64 c5, .int .i64 c6, .int .i64 cap, .slice A nn cc]] w fun e w' => e = .returned (.func (.func 47) #[] #[.pointer (some ⟨w.heap.size, 0, none⟩)]) ∧ w' = w.alloc (.cells #[.int .i64 c0, .int .i64 c1, .int .i64 c2, .int .i64 c3, .int .i64 c4, .int .i64 c5, .int .i64 c6, .int .i64 cap, .slice A nn cc] 24) := by
  go_enter Try.func26, Try.ntmps26
  go_wp2
  go_ret
  exact ⟨rfl, rfl⟩
/-- how a round ends -/
def YEnd (M : Nat → Prop) (J Jx : Nat → World → Prop) (x : Nat) (W1 : World) (b : Bool) (W' : World) : Prop := (b = true ∧ J (x + 1) W' ∧ BelowX M W1 W') ∨ (b = false ∧ Jx (x + 1) W')
theorem yieldAt_end {P : Program} {n L : Nat} {args : Array Value} {M : Nat → Prop} {J Jx : Nat → World → Prop} {x : Nat} {W1 : World} (h : YieldAt Fence.wide n P L args W1 fun e W' => (e = .returned (.bool true) ∧ J (x + 1) W' ∧ BelowX M W1 W') ∨ (e = .returned (.bool false) ∧ Jx (x + 1) W')) :
    ∃ fn tmps assign body, (Instr.yield L args).run P W1 = .ok (.round L fn tmps assign body) W1 ∧ RoundIn Fence.wide n P L fn tmps assign body W1 (fun e W' => ∃ b, e = .returned (.bool b) ∧ YEnd M J Jx x W1 b W') := by
  obtain ⟨fn, tmps, assign, body, hy, hR⟩ := h
  refine ⟨fn, tmps, assign, body, hy, hR.mono ?_⟩
  rintro e W' (⟨rfl, h1, h2⟩ | ⟨rfl, h1⟩)
  · exact ⟨true, rfl, .inl ⟨rfl, h1, h2⟩⟩
  · exact ⟨false, rfl, .inr ⟨rfl, h1⟩⟩
set_option maxHeartbeats 4000000 in
theorem spans1_seq (n g : Nat) (c0 c1 c2 c3 c4 c5 c6 cap : Int) (A : Option Addr) (nn cc : Nat) (hn : 2 ≤ n) (w : World) (hg : Blk w g 24 #[.int .i64 c0, .int .i64 c1, .int .i64 c2, .int .i64 c3, .int .i64 c4, .int .i64 c5, .int .i64 c6, .int .i64 cap, .slice A nn cc]) :
    SeqX n Try.prog 47 #[.pointer (some ⟨g, 0, none⟩)] (fun k => #[.string (spanN k), .int .i64 (spanV c0 c1 c2 c3 c4 c5 c6 k)]) (fun k => k = g) 7 w := by
  intro M L J Jx W hW hM hJ hJx hY h0
  have HG := Aside0.mk (hg.later hW)
  have HM := Aside0.mk hM
  have HJ := Aside0.mk hJ
  have HY := Aside0.mk hY
  have H0 := Aside0.mk h0
  clear hg hW hM hJ hJx hY h0
  have hro : Fence.wide.round = none := rfl
  have h1 : 1 ≤ n := by omega
  refine callsIn_of_wp Try.func47 rfl trivial ?_ rfl
  simp only [Try.ntmps47, List.size_toArray, List.length_cons, List.length_nil, Nat.reduceAdd, Nat.reduceSub, Array.replicate_succ, Array.replicate_zero, List.push_toArray, List.append_toArray, List.nil_append, List.cons_append]
  refine wpIn_wide.2 (wp_scope_straight ((wpIn_wide (n := n)).1 ?_))
  gi_wp2
  refine wpIn_label ?_
  gi_wp2_with (refine ⟨trivial, ?_⟩; gi_at_call 48; go_loud (refine (callsIn_wide.2 (spans_any _)).mono ?_); rintro e1 w1 ⟨rfl, rfl⟩)
  have HJ1 := Aside0.mk (HJ.out _ _ _ none H0.out (grown_of_below (below_alloc (Below.refl _ W) (.cells spanCells 76)) none) (fun r h => by cases h))
  have HG1 := Aside0.mk (HG.out.alloc (.cells spanCells 76))
  have HS1 := Aside0.mk (Blk.new W 76 spanCells)
  gi_loopw [7] (fun v wr => ∃ x : Nat, x ≤ 7 ∧ v = .int .i64 (x : Int) ∧ Aside0 (J x wr) ∧ Aside0 (Blk wr g 24 #[.int .i64 c0, .int .i64 c1, .int .i64 c2, .int .i64 c3, .int .i64 c4, .int .i64 c5, .int .i64 c6, .int .i64 cap, .slice A nn cc]) ∧ Aside0 (Blk wr W.heap.size 76 spanCells)) (fun v _ => 7 - (intOf v).toNat)
  case atStart => exact ⟨0, by omega, rfl, HJ1, HG1, HS1⟩
  case round =>
    have HJ0 := HJ
    obtain ⟨x, hx, rfl, HJ, HG, HS⟩ := hrel
    by_cases hlt : x < 7
    · have p1 : (0 : Int) ≤ (x : Int) := by omega
      have p2 : (x : Int) < 7 := by omega
      obtain ⟨s0, s1, s2⟩ := spanC x hlt
      have hcf := spanF_call x hlt
      have hF := spanF_any c0 c1 c2 c3 c4 c5 c6 cap A nn cc x hlt
      have hYx : ∀ W1, J x W1 → _ := fun W1 h => yieldAt_end (HY.out x W1 hlt h)
      obtain ⟨N, hN⟩ : ∃ N, spanN x = N := ⟨_, rfl⟩
      obtain ⟨F, hFF⟩ : ∃ F, spanF x = F := ⟨_, rfl⟩
      obtain ⟨Ls, hLL⟩ : ∃ L, spanL x = L := ⟨_, rfl⟩
      obtain ⟨V, hV⟩ : ∃ V, spanV c0 c1 c2 c3 c4 c5 c6 x = V := ⟨_, rfl⟩
      rw [hN] at s0
      rw [hFF] at s1 hF hcf
      rw [hLL] at s2
      rw [hV] at hF
      simp only [hN, hV] at hYx
      have z0 := HS.out.cell _ _ s0
      have z1 := HS.out.cell _ _ s1
      have z2 := HS.out.cell _ _ s2
      have HF := Aside0.mk hF
      have HYX := Aside0.mk hYx
      clear hF hYx hN hFF hLL hV s0 s1 s2
      gi_upto_region 3 with (fail)
      have HBS := Aside0.mk (Blk.new wr 76 #[.string N, .func (.func F) #[] #[], .int .i64 Ls])
      have HGA := Aside0.mk (HG.out.alloc (.cells #[.string N, .func (.func F) #[] #[], .int .i64 Ls] 76))
      have d0 := HBS.out.cell 0 _ rfl
      have d1 := HBS.out.cell 1 _ rfl
      have d2 := HBS.out.cell 2 _ rfl
      have e0 := HGA.out.cell 0 _ rfl; have e1 := HGA.out.cell 1 _ rfl; have e2 := HGA.out.cell 2 _ rfl; have e3 := HGA.out.cell 3 _ rfl; have e4 := HGA.out.cell 4 _ rfl; have e5 := HGA.out.cell 5 _ rfl; have e6 := HGA.out.cell 6 _ rfl; have e7 := HGA.out.cell 7 _ rfl; have e8 := HGA.out.cell 8 _ rfl
      have HBD : Aside0 (Blk (wr.alloc (.cells #[.string N, .func (.func F) #[] #[], .int .i64 Ls] 76)).drew wr.heap.size 76 #[.string N, .func (.func F) #[] #[], .int .i64 Ls]) := ⟨HBS.out⟩
      have HWD : Aside0 (Below wr.heap.size wr (wr.alloc (.cells #[.string N, .func (.func F) #[] #[], .int .i64 Ls] 76)).drew) := ⟨below_drew (below_alloc (Below.refl wr.heap.size wr) _)⟩
      clear z0 z1 z2
      gi_region_with (first
        | (refine ⟨trivial, ?_⟩; go_loud ((with_reducible refine (callsIn_wide.2 (HF.out _)).mono ?_); rintro e w4 ⟨rfl, hb4⟩; have f0 := (HBD.out.later hb4).cell 0 _ rfl; have HB4 := Aside0.mk (thenB HWD.out HWD.out.size hb4); obtain ⟨fn, tm, asg, bd, hy, hRR⟩ := HYX.out w4 (HJ0.out _ _ _ none HJ.out (grown_of_below HB4.out none) (fun r h => by cases h)); have HRR := Aside0.mk hRR; clear hRR hb4; dsimp only))
        | (refine HRR.out.mono ?_; rintro e W' ⟨b, rfl, hYE⟩; have HYE := Aside0.mk hYE; clear hYE; dsimp only))
      all_goals
        clear hy HRR HYX HF d0 d1 d2 e0 e1 e2 e3 e4 e5 e6 e7 e8 HBD HWD HBS HGA hcf f0
        cases b with
        | true =>
          have HT : Aside0 (J (x + 1) W' ∧ BelowX M w4 W') := ⟨by rcases HYE.out with ⟨_, h1, h2⟩ | ⟨h, _⟩; exact ⟨h1, h2⟩; cases h⟩
          have HG2 := Aside0.mk ((HG.out.later HB4.out).keepX HT.out.2 (fun h => (HM.out g h).1 rfl))
          have HS2 := Aside0.mk ((HS.out.later HB4.out).keepX HT.out.2 (fun h => by have := (HM.out _ h).2; omega))
          gi_wp2
          go_roundw
          case rel => exact ⟨x + 1, by omega, by simp, ⟨HT.out.1⟩, HG2, HS2⟩
          case measure => simp [intOf]; omega
        | false =>
          have HT : Aside0 (Jx (x + 1) W') := ⟨by rcases HYE.out with ⟨h, _⟩ | ⟨_, h1⟩; cases h; exact h1⟩
          gi_wp2
          simp only [Exit.noGoto]
          go_end0
          exact ⟨⟨_, rfl⟩, .inr ⟨x + 1, hlt, HT.out⟩⟩
    · obtain rfl : x = 7 := by omega
      gi_wp2
      simp only [Exit.noGoto]
      go_end0
      exact ⟨⟨_, rfl⟩, .inl HJ.out⟩
end Go.Proofs.Ytegdcalefpobeaa.A
