/- octet: the walk of the law on the numbers that stand one behind the other. -/
import Derived.Test.YtheocodbceidlaaEch1
import Derived.Test.YtheocodbceidlaaHld1
set_option linter.unusedVariables false
set_option linter.unusedSimpArgs false
namespace Go.Proofs.Ytheocodbceidlaa.A
open Go.RowKit Go.Shelf Go.Proofs.YtheocodbceidlaaW.PrintWords Go.Proofs.YtheocodbceidlaaW.PrintLast Go.Proofs.YtheocodbceidlaaW.PrintMore
open Go.Proofs.Ytheocodbceidlaa.POctetReads (waywardenref03_Read.f waywardenref03_Read.l0 waywardenref03_Read.j0 waywardenref03_Read.calls)
attribute [local go_sem] Oper.semAt_some max2_int min2_int max_two min_two

theorem Boxed.below {W W' : World} {B : Nat} {t : TypeId} {v : Value} (h : Boxed W B t v) {n : Nat} (hb : Below n W W') (hB : B < n) : Boxed W' B t v := (hb.block B hB).trans h
/-- the values that stand one behind the other -/
def eachV (l : List Int) (x : Int) (k : Nat) : List Int := (List.range k).map fun i => (eachF l x i).2
theorem eachV_len (l : List Int) (x : Int) (k : Nat) : (eachV l x k).length = k := by simp [eachV]
theorem eachV_succ (l : List Int) (x : Int) (k : Nat) : eachV l x (k + 1) = eachV l x k ++ [(eachF l x k).2] := by simp [eachV, List.range_succ]
theorem eachV_at (l : List Int) (x : Int) (n k : Nat) (h : k < n) (h' : k < (eachV l x n).length) : (eachV l x n)[k] = (eachF l x k).2 := by simp [eachV]

theorem info_u32 : (Try.prog.info? 22).map (fun i => (i.zero, i.size, i.bytes)) = some (some (.int .u32 0), 1, 4) := by kernel_rfl

theorem eachN_le2 (l : List Int) (x : Int) : eachN l x ≤ l.length := by
  unfold eachN
  split
  · exact Nat.div_le_self _ _
  · omega
theorem equalIn_func_nil (W : World) (d : Nat) (f : Fn) (first caps : Array Value) : (Op.equalIn (d + 1) 56 (.func f first caps) .nilFunc).run Try.prog W = .ok false W := by
  simp [Op.equalIn, run_underlying Try.underlying56]
theorem eq_func_nil (W : World) (f : Fn) (first caps : Array Value) : (binOp .eql 56 (.func f first caps) .nilFunc).run Try.prog W = .ok (.bool false) W := by
  simp only [binOp]
  simp [Op.equal, Op.maxDepth, equalIn_func_nil W 9999 f first caps]
/-- what lies while the wanted numbers are collected -/
structure Est (w wr : World) (x many : Int) (v : Value) (xs : List Int) : Prop where
  b0 : Boxed wr w.heap.size 3 (.int .i64 x)
  b1 : Boxed wr (w.heap.size + 1) 3 (.int .i64 many)
  b2 : Boxed wr (w.heap.size + 2) 4 (.bool false)
  b3 : Boxed wr (w.heap.size + 3) 37 v
  row : Kd.R (Kd.int .u32) 22 wr (w.heap.size + 4) (fun _ => True) v xs
  bel : Below w.heap.size w wr
theorem Est.start (w : World) (x many : Int) : Est w ((((w.alloc (.cells #[.int .i64 x] 3)).alloc (.cells #[.int .i64 many] 3)).alloc (.cells #[.bool false] 4)).alloc (.cells #[.slice none 0 0] 37)) x many (.slice none 0 0) [] := by
  refine ⟨?_, ?_, ?_, ?_, Kd.R_nil _ _ _ _ _, below_alloc (below_alloc (below_two w _ _) _) _⟩
  · exact (Boxed.alloc (Boxed.alloc (Boxed.alloc (Boxed.new w _ _) _) _) _)
  · have := Boxed.alloc (Boxed.alloc (Boxed.new (w.alloc (.cells #[.int .i64 x] 3)) 3 (.int .i64 many)) (.cells #[.bool false] 4)) (.cells #[.slice none 0 0] 37)
    simpa using this
  · have := Boxed.alloc (Boxed.new ((w.alloc (.cells #[.int .i64 x] 3)).alloc (.cells #[.int .i64 many] 3)) 4 (.bool false)) (.cells #[.slice none 0 0] 37)
    simpa using this
  · have := Boxed.new (((w.alloc (.cells #[.int .i64 x] 3)).alloc (.cells #[.int .i64 many] 3)).alloc (.cells #[.bool false] 4)) 37 (.slice none 0 0)
    simpa using this
theorem Est.below {w wr wr' : World} {x many : Int} {v : Value} {xs : List Int} (h : Est w wr x many v xs) (hb : Below wr.heap.size wr wr') : Est w wr' x many v xs :=
  ⟨Boxed.below h.b0 hb h.b0.lt, Boxed.below h.b1 hb h.b1.lt, Boxed.below h.b2 hb h.b2.lt, Boxed.below h.b3 hb h.b3.lt, Kd.R_below h.row hb, below_then h.bel h.bel.size hb⟩
theorem Est.store {w wr w1 : World} {x many : Int} {v v1 : Value} {xs ys : List Int} (h : Est w wr x many v xs) (hR : Kd.R (Kd.int .u32) 22 w1 (w.heap.size + 4) (fun _ => True) v1 ys) (hb : Below (w.heap.size + 4) wr w1) :
    Est w (w1.setCell ⟨w.heap.size + 3, 0, none⟩ v1) x many v1 ys := by
  refine ⟨?_, ?_, ?_, Boxed.set v1 (Boxed.below h.b3 hb (by omega)), Kd.R_far (Kd.R_mono (Kd.R_bound hR) (fun k hk => (show k ≠ w.heap.size + 3 by have := hk.2.1; omega))) (fun k hk => hk) _ |> fun h => Kd.R_mono h (fun _ _ => trivial), (h.bel.trans (hb.mono (by omega))).setCell (by simp) _⟩
  · exact Boxed.other (Boxed.below h.b0 hb (by omega)) (by omega) _
  · exact Boxed.other (Boxed.below h.b1 hb (by omega)) (by omega) _
  · exact Boxed.other (Boxed.below h.b2 hb (by omega)) (by omega) _

set_option maxHeartbeats 4000000 in
set_option maxRecDepth 100000 in
theorem each_short (A : Option Addr) (l : List Int) (c : Nat) (x many : Int) (w : World) (h100 : l.length ≤ 100) (hx : -9223372036854775808 ≤ x ∧ x ≤ 9223372036854775807) (hmn : -9223372036854775808 ≤ many ∧ many ≤ 9223372036854775807)
    (hr : Kd.C (Kd.int .u8) w A l.length l) (hc : l.length ≤ c) (hby : Byt l) :
    Calls Try.prog 7 #[.slice A l.length c, .int .i64 x, .int .i64 many] w fun e w' => e = .returned (.bool true) ∧ Below w.heap.size w w' := by
  have ha' : decide ((100 : Int) < (l.length : Int)) = false := by simp; omega
  have HR := Aside0.mk hr
  have HBY := Aside0.mk hby
  have hro : Fence.wide.round = none := rfl
  have hnf := eq_func_nil
  clear hr hby
  refine (callsIn_wide (n := 4)).1 ?_
  refine callsIn_of_wp_marks Try.func7 rfl trivial ?_ rfl
  simp only [Try.ntmps7, List.size_toArray, List.length_cons, List.length_nil, Nat.reduceAdd, Nat.reduceSub, Array.replicate_succ, Array.replicate_zero, List.push_toArray, List.append_toArray, List.nil_append, List.cons_append]
  refine wpIn_wide.2 ?_
  go_wp2
  have hE := Est.start w x many
  obtain ⟨W0, hW0⟩ : ∃ W0, ((((w.alloc (.cells #[.int .i64 x] 3)).alloc (.cells #[.int .i64 many] 3)).alloc (.cells #[.bool false] 4)).alloc (.cells #[.slice none 0 0] 37)) = W0 := ⟨_, rfl⟩
  rw [hW0] at hE ⊢
  have E0 := Aside0.mk hE
  clear hE hW0
  go_loopw [8] (fun t wr => ∃ k : Nat, k ≤ eachN l x ∧ t = .int .i64 ((k : Int) * x) ∧ ∃ v, Aside0 (Est w wr x many v (eachV l x k))) (fun t _ => l.length + 1 - (intOf t).toNat)
  case atStart => exact ⟨0, by omega, by simp, _, E0⟩
  case round =>
    obtain ⟨k, hk, rfl, v, hE⟩ := hrel
    have cw := hE.out.b0.cell
    have cv := hE.out.b3.cell
    have fv := hE.out.b3.frozen
    have hp9 := eachN_le l x
    have hp8 := eachN_le2 l x
    by_cases hlt : k < eachN l x
    · obtain ⟨hs, hle, hge, hwd⟩ := rdS_in l x k hlt
      have HS := Aside0.mk hs
      have hx1 : 1 ≤ x := by rcases wd_cases hwd with h | h | h <;> omega
      have hle2 : (k : Int) * x ≤ l.length := by omega
      have hN := eachV_succ l x k
      have HN := Aside0.mk hN
      clear hs hN
      go_wp2_with (first
        | (go_at_call 13; go_loud (refine (waywardenref03_Read.calls 6 A c l ((k : Int) * x) x _ 0 _ (Kd.C_below HR.out hE.out.bel) hc (by rw [refread l HBY.out (by omega) _ x (by omega), HS.out])).mono ?_); rintro e2 w4 ⟨rfl, hd4⟩; have hE4 := Aside0.mk (hE.out.below hd4.below); have cw4 := hE4.out.b0.cell; have cv4 := hE4.out.b3.cell; have fv4 := hE4.out.b3.frozen; clear hd4)
        | (at_builtin; go_loud (refine Kd.R_append_row (w0 := w4) (Value.int .u32) (0:Int) (h1 := fun _ => rfl) (w.heap.size + 4) rfl (.tmp 36) (.tmp 38) 37 22 (.int .u32 0) 4 rfl Try.underlying37 info_u32 rfl (by decide) v (eachV l x k) [(eachF l x k).2] (some ⟨w4.heap.size, 0, none⟩) 1 1 (fun _ => True) rfl rfl (fun _ _ => trivial) (Kd.R_alloc hE4.out.row _) (C_new .u32 w4 [(eachF l x k).2] 22 (by simp)) ((Below.refl _ _).alloc (by have := hE4.out.b3.lt; omega) _) (by have := hE4.out.b3.lt; simp; omega) (by rw [eachV_len]; omega) ?_); intro v5 w5 hR5 hB5 _ _; obtain ⟨N5, A5, k5, hN5, rfl, hk5, _, _⟩ := R_any hR5; clear hN5; have hE5 := Aside0.mk (hE4.out.store (ys := eachV l x (k + 1)) (by rw [HN.out]; exact hR5) hB5); have cv5 := (Boxed.below hE4.out.b3 hB5 (by omega)).cell; have fv5 := (Boxed.below hE4.out.b3 hB5 (by omega)).frozen; have cw5 := (Boxed.other (Boxed.below hE4.out.b0 hB5 (by omega)) (show w.heap.size ≠ w.heap.size + 3 by omega) (.slice A5 N5 k5)).cell; clear hR5 hB5))
      go_roundw
      case rel => exact ⟨k + 1, by omega, by rw [Int.natCast_add, Int.add_mul]; simp, _, hE5⟩
      case measure => simp [intOf]; omega
    · obtain rfl : k = eachN l x := by omega
      obtain ⟨e, hs, he⟩ := rdS_out l x
      have HS := Aside0.mk hs
      have hle2 := hp9.2
      clear hs
      go_wp2_with (first
        | (go_at_call 13; go_loud (refine (waywardenref03_Read.calls 6 A c l ((eachN l x : Int) * x) x _ e _ (Kd.C_below HR.out hE.out.bel) hc (by rw [refread l HBY.out (by omega) _ x (by omega), HS.out])).mono ?_); rintro e2 w4 ⟨rfl, hd4⟩; have hE4 := Aside0.mk (hE.out.below hd4.below); have cw4 := hE4.out.b0.cell; have cv4 := hE4.out.b3.cell; have fv4 := hE4.out.b3.frozen; clear hd4)
        | (go_at_call 22; go_loud (refine (each_any A c l x _ (Kd.C_below HR.out hE4.out.bel) hc (by omega)).mono ?_); rintro e5 w5 ⟨Bb, Bw, B, d, rfl, hc1, hc2, hC5, hd5, hb5⟩; have hE5 := Aside0.mk (hE4.out.below hb5); have X1 := Aside0.mk hc1; have X2 := Aside0.mk hc2; have X3 := Aside0.mk hC5; have hz5 := Aside0.mk hb5.size; clear hc1 hc2 hC5 hb5))
      obtain ⟨NN, AA, kk, hNN, rfl, hkk, hCC, _⟩ := R_any hE5.out.row
      obtain rfl : NN = eachN l x := by rw [← hNN, eachV_len]
      have HCC := Aside0.mk hCC
      have SQ := Aside0.mk (each1_seq 3 Bb Bw B d l x (by omega) w5 X1.out X2.out X3.out hd5 HBY.out (by omega) hx)
      clear hNN hCC cw cv fv cw4 cv4 fv4 hp9 hk hlt hle2
      have hEn := Aside0.mk (show eachN l x ≤ 100 by omega)
      refine wp_loop_rounds 3 ?_
      rw [rounds_succ]
      have bt := Boxed.new w5 3 (.int .i64 0)
      have ct := bt.cell
      go_wp2
      obtain ⟨Ws, hWs⟩ : ∃ Ws, (w5.alloc (.cells #[.int .i64 0] 3)).alloc (.cells #[.int .i64 0] 3) = Ws := ⟨_, rfl⟩
      obtain ⟨Bn, hBnn⟩ : ∃ Bn, w5.heap.size + 1 = Bn := ⟨_, rfl⟩
      have hsz : Ws.heap.size = Bn + 1 := by rw [← hWs, ← hBnn]; simp
      have hBn5 : w5.heap.size ≤ Bn := by omega
      have bn : Boxed Ws Bn 3 (.int .i64 0) := by
        have := Boxed.new (w5.alloc (.cells #[.int .i64 0] 3)) 3 (.int .i64 0)
        rw [hWs] at this; rw [← hBnn]; simpa using this
      replace bt : Boxed Ws w5.heap.size 3 (.int .i64 0) := by
        have := bt.alloc (.cells #[.int .i64 0] 3)
        rwa [hWs] at this
      have hBs : Below w5.heap.size w5 Ws := by rw [← hWs]; exact below_two w5 _ _
      have hEs := Aside0.mk (hE5.out.below hBs)
      have hbt5 : w5.heap.size < Bn := by omega
      rw [hWs, hBnn]
      clear hWs ct
      refine (wpIn_wide (n := 4)).1 ?_
      refine rangeN_law (n := 4) rfl (enters_of Try.func29 (by kernel_rfl) rfl) SQ.out hBs (by omega) (fun _ => rfl)
        (fun k W => (Boxed W Bn 3 (.int .i64 k) ∧ Below Bn Ws W) ∧ (k = 0 ∨ (k : Int) < many))
        (fun c k W => (Boxed W Bn 3 (.int .i64 k) ∧ Below Bn Ws W) ∧ (c = .exit 4 ∧ (k : Int) = max 1 many))
        (OwnFrom.and (OwnFrom.and (Own.from (boxed_own _ _ _) _) (ownFrom_below (by omega) (by omega))) (ownFrom_pure _ _))
        (fun c => OwnFrom.and (OwnFrom.and (Own.from (boxed_own _ _ _) _) (ownFrom_below (by omega) (by omega))) (ownFrom_pure _ _))
        ⟨⟨bn, Below.refl _ _⟩, .inl rfl⟩ ?a1 ?assign ?body ?done ?stop
      case assign =>
        intro L k W K hK
        gi_wp2
        exact hK
      case body =>
        rintro L k W hkN ⟨⟨hbn, hbw⟩, hcond⟩
        have hz := hE5.out.b3.lt
        have cx := (Boxed.below hEs.out.b0 hbw (by omega)).cell
        have cm := (Boxed.below hEs.out.b1 hbw (by omega)).cell
        have cv := (Boxed.below hEs.out.b3 hbw (by omega)).cell
        have cr := (Boxed.below hEs.out.b2 hbw (by omega)).cell
        have fr := (Boxed.below hEs.out.b2 hbw (by omega)).frozen
        have ct := (Boxed.below bt hbw (by omega)).cell
        have ft := (Boxed.below bt hbw (by omega)).frozen
        have cn := hbn.cell
        have fn := hbn.frozen
        obtain ⟨ad, rfl, hcell⟩ := C_at (l := eachV l x (eachN l x)) (Kd.C_below HCC.out (hBs.trans (hbw.mono (by omega)))) k (by rw [eachV_len]; exact hkN)
        rw [eachV_at l x _ k hkN] at hcell
        obtain ⟨hs, hle, hge, hwd⟩ := rdS_in l x k hkN
        have hx1 : 1 ≤ x := by rcases wd_cases hwd with h | h | h <;> omega
        have hkk : (k : Int) < (eachN l x : Int) := by omega
        have g1 : IntKind.i64.wrap ((k : Int) * x) = (k : Int) * x := IntWalk.i64_in _ (by omega)
        have g2 : wrap64 ((k : Int) * x) = (k : Int) * x := wrap_id (by omega) (by omega)
        have HB := Aside0.mk hbn
        have HW := Aside0.mk hbw
        have HC := Aside0.mk hcond
        clear hs hbn hbw hwd hcond
        gi_wp2
        all_goals
          have h9 := HC.out
          first
          | (have hm : (k : Int) + 1 < many := by assumption
             exact ⟨KeepsOthers.setCell _ _ _, (Below.refl _ W).setCell (p := ⟨Bn, 0, none⟩) hBn5 _, ⟨by have := Boxed.set (.int .i64 ((k : Int) + 1)) HB.out; simpa using this, HW.out.setCell (p := ⟨Bn, 0, none⟩) (Nat.le_refl _) _⟩, .inr (by simpa using hm)⟩)
          | (have hm : many ≤ (k : Int) + 1 := by assumption
             exact ⟨KeepsOthers.setCell _ _ _, ⟨by have := Boxed.set (.int .i64 ((k : Int) + 1)) HB.out; simpa using this, HW.out.setCell (p := ⟨Bn, 0, none⟩) (Nat.le_refl _) _⟩, rfl, by rw [Int.natCast_add]; rcases h9 with h9 | h9 <;> omega⟩)
      case done =>
        rintro D W hD ⟨⟨hbn, hbw⟩, hcond⟩ hK
        obtain ⟨M, hM⟩ : ∃ M : Int, (if (1 : Int) < many then many else 1) = M := ⟨_, rfl⟩
        have hq : (if M < (eachN l x : Int) then M else (eachN l x : Int)) = (eachN l x : Int) := by
          rw [← hM]
          split <;> split <;> omega
        have hz := hE5.out.b3.lt
        have cx := (Boxed.below hEs.out.b0 hbw (by omega)).cell
        have cm := (Boxed.below hEs.out.b1 hbw (by omega)).cell
        have cv := (Boxed.below hEs.out.b3 hbw (by omega)).cell
        have cr := (Boxed.below hEs.out.b2 hbw (by omega)).cell
        have fr := (Boxed.below hEs.out.b2 hbw (by omega)).frozen
        have ct := (Boxed.below bt hbw (by omega)).cell
        have ft := (Boxed.below bt hbw (by omega)).frozen
        have cn := hbn.cell
        have fn := hbn.frozen
        have HB := Aside0.mk hbn
        have HW := Aside0.mk hbw
        have HK := Aside0.mk hK
        have HD := Aside0.mk hD
        have HZ := Aside0.mk hz
        clear hbn hbw hK hD hz
        clear hcond
        go_wp2
        rw [rounds_succ]
        go_wp2
        clear hM hq cx cm cv cr fr ct ft cn fn
        have hWz : Bn < W.heap.size := HB.out.lt
        obtain ⟨Ws2, hWs2⟩ : ∃ Ws2, (W.alloc (.cells #[.int .i64 1] 3)).alloc (.cells #[.int .i64 0] 3) = Ws2 := ⟨_, rfl⟩
        obtain ⟨Bn2, hBnn2⟩ : ∃ Bn2, W.heap.size + 1 = Bn2 := ⟨_, rfl⟩
        obtain ⟨Bt2, hBt2⟩ : ∃ Bt2, W.heap.size = Bt2 := ⟨_, rfl⟩
        have hsz2 : Ws2.heap.size = Bn2 + 1 := by rw [← hWs2, ← hBnn2]; simp
        have bn2 : Boxed Ws2 Bn2 3 (.int .i64 0) := by
          rw [← hWs2, ← hBnn2]; exact blk_two1 W _ _
        have bt2 : Boxed Ws2 Bt2 3 (.int .i64 1) := by
          rw [← hWs2, ← hBt2]; exact blk_two0 W _ _
        have hWW : Below W.heap.size W Ws2 := by rw [← hWs2]; exact below_two W _ _
        have hB5W : Below w5.heap.size w5 W := hBs.trans (HW.out.mono (by omega))
        have hBs2 : Below w5.heap.size w5 Ws2 := below_then hB5W hB5W.size hWW
        have hEs2 := Aside0.mk (hE5.out.below hBs2)
        have HK2 : Aside0 (Ws2.heap[D]? = some (.deferred (some [])) ∧ D < Bt2 ∧ w.heap.size ≤ D) := ⟨(hWW.block _ (blk_lt HK.out)).trans HK.out, by have := blk_lt HK.out; omega, by have := HD.out; have := HZ.out; omega⟩
        have hBn52 : w5.heap.size ≤ Bn2 := by omega
        have hDn : D < Bn2 := by have := HK2.out.2.1; omega
        rw [hWs2, hBnn2, hBt2]
        clear hWs2
        refine (wpIn_wide (n := 4)).1 ?_
        refine rangeN_law (n := 4) rfl (enters_of Try.func29 (by kernel_rfl) rfl) SQ.out hBs2 (by omega) (fun _ => rfl)
          (fun k W => (Boxed W Bn2 3 (.int .i64 k) ∧ Below Bn2 Ws2 W) ∧ True)
          (fun c k W => (Boxed W Bn2 3 (.int .i64 k) ∧ Below Bn2 Ws2 W) ∧ False)
          (OwnFrom.and (OwnFrom.and (Own.from (boxed_own _ _ _) _) (ownFrom_below (by omega) (by omega))) (ownFrom_pure _ _))
          (fun c => OwnFrom.and (OwnFrom.and (Own.from (boxed_own _ _ _) _) (ownFrom_below (by omega) (by omega))) (ownFrom_pure _ _))
          ⟨⟨bn2, Below.refl _ _⟩, trivial⟩ ?a1d ?assignd ?bodyd ?doned ?stopd
        case assignd =>
          intro L k W K hK
          gi_wp2
          exact hK
        case bodyd =>
          rintro L k W2 hkN ⟨⟨hbn, hbw⟩, hcond⟩
          have hz := hE5.out.b3.lt
          have cx := (Boxed.below hEs2.out.b0 hbw (by omega)).cell
          have cm := (Boxed.below hEs2.out.b1 hbw (by omega)).cell
          have cv := (Boxed.below hEs2.out.b3 hbw (by omega)).cell
          have cr := (Boxed.below hEs2.out.b2 hbw (by omega)).cell
          have fr := (Boxed.below hEs2.out.b2 hbw (by omega)).frozen
          have ct := (Boxed.below bt2 hbw (by omega)).cell
          have ft := (Boxed.below bt2 hbw (by omega)).frozen
          have cn := hbn.cell
          have fn := hbn.frozen
          obtain ⟨ad, rfl, hcell⟩ := C_at (l := eachV l x (eachN l x)) (Kd.C_below HCC.out (hBs2.trans (hbw.mono (by omega)))) k (by rw [eachV_len]; exact hkN)
          rw [eachV_at l x _ k hkN] at hcell
          obtain ⟨hs, hle, hge, hwd⟩ := rdS_in l x k hkN
          have hx1 : 1 ≤ x := by rcases wd_cases hwd with h | h | h <;> omega
          have hkk : (k : Int) < (eachN l x : Int) := by omega
          have g1 : IntKind.i64.wrap ((k : Int) * x) = (k : Int) * x := IntWalk.i64_in _ (by omega)
          have g2 : wrap64 ((k : Int) * x) = (k : Int) * x := wrap_id (by omega) (by omega)
          have HB := Aside0.mk hbn
          have HW := Aside0.mk hbw
          have HC := Aside0.mk hcond
          clear hs hbn hbw hwd hcond
          gi_wp2
          exact ⟨KeepsOthers.setCell _ _ _, (Below.refl _ W2).setCell (p := ⟨Bn2, 0, none⟩) hBn52 _, ⟨by have := Boxed.set (.int .i64 ((k : Int) + 1)) HB.out; simpa using this, HW.out.setCell (p := ⟨Bn2, 0, none⟩) (Nat.le_refl _) _⟩, trivial⟩
        case doned =>
          rintro D2 W2 hD ⟨⟨hbn, hbw⟩, hcond⟩ hK
          have hz := hE5.out.b3.lt
          have cx := (Boxed.below hEs2.out.b0 hbw (by omega)).cell
          have cm := (Boxed.below hEs2.out.b1 hbw (by omega)).cell
          have cv := (Boxed.below hEs2.out.b3 hbw (by omega)).cell
          have cr := (Boxed.below hEs2.out.b2 hbw (by omega)).cell
          have fr := (Boxed.below hEs2.out.b2 hbw (by omega)).frozen
          have ct := (Boxed.below bt2 hbw (by omega)).cell
          have ft := (Boxed.below bt2 hbw (by omega)).frozen
          have cn := hbn.cell
          have fn := hbn.frozen
          have HB2 := Aside0.mk hbn
          have HW2 := Aside0.mk hbw
          have HKK := Aside0.mk hK
          have HD2 := Aside0.mk hD
          clear hbn hbw hK hD hz
          go_wp2
          rw [rounds_succ]
          go_wp2_with (go_at_call 8; (with_reducible refine (works_any _).mono ?_); rintro e9 w9 ⟨rfl, hb9⟩; have hR9 := Boxed.below ((Boxed.below hEs2.out.b2 HW2.out (by have := HZ.out; omega)).alloc (.cells #[.int .i64 2] 3)) hb9 (Nat.lt_of_lt_of_le (Boxed.below hEs2.out.b2 HW2.out (by have := HZ.out; omega)).lt (by simp)); have cr9 := hR9.cell; have fr9 := hR9.frozen; have H9 := Aside0.mk hR9; have HB9 := Aside0.mk hb9; clear hR9 hb9)
          have d2 : (w9.setCell ⟨w.heap.size + 2, 0, none⟩ (.bool true)).heap[D2]? = some (.deferred (some [])) := by
            rw [Below.heap_setCell _ _ _ _ (by have := HD2.out; have := HZ.out; simp; omega)]
            rw [HB9.out.block D2 (Nat.lt_of_lt_of_le (blk_lt HKK.out) (by simp)), Below.heap_alloc _ _ _ (blk_lt HKK.out)]
            exact HKK.out
          have hDW2 : W2.heap[D]? = some (.deferred (some [])) := (HW2.out.block _ hDn).trans HK2.out.1
          have d1 : (w9.setCell ⟨w.heap.size + 2, 0, none⟩ (.bool true)).heap[D]? = some (.deferred (some [])) := by
            rw [Below.heap_setCell _ _ _ _ (by have := HD.out; have := HZ.out; simp; omega)]
            rw [HB9.out.block D (Nat.lt_of_lt_of_le (blk_lt hDW2) (by simp)), Below.heap_alloc _ _ _ (blk_lt hDW2)]
            exact hDW2
          have hD12 : D ≠ D2 := by have := HD2.out; omega
          refine ⟨by simp, .inl ⟨_, _, rfl, run_takeDeferred d2, ?_⟩⟩
          refine ⟨by simp, .inl ⟨_, _, rfl, run_takeDeferred ((World.putObj_heap_other hD12).trans d1), ?_⟩⟩
          have hw0 := HK2.out.2.2
          have hD2w : w.heap.size ≤ D2 := by have := HD2.out; have := HZ.out; omega
          have x1 := Boxed.set (.bool true) H9.out
          have x2 := (x1.kept (grownBy_putObj' _ D2 (.deferred none)) (by have := HD2.out; have := HZ.out; simp; omega)).kept (grownBy_putObj' _ D (.deferred none)) (by have := HD.out; have := HZ.out; simp; omega)
          have x3 := x2.cell
          have b1 : Below w.heap.size w W2 := hEs2.out.bel.trans (HW2.out.mono (by have := HZ.out; omega))
          have b2 : Below w.heap.size w w9 := below_then b1 b1.size (below_then (below_alloc (Below.refl _ _) _) (by simp) HB9.out)
          have b3 := b2.setCell (p := ⟨w.heap.size + 2, 0, none⟩) (by simp) (.bool true)
          have b4 := b3.trans (belowK_b (w := w) (Nat.le_refl _) _ D2 _ (.deferred none) hD2w d2 rfl rfl)
          have b5 := b4.trans (belowK_b (w := w) (Nat.le_refl _) _ D _ (.deferred none) hw0 ((World.putObj_heap_other hD12).trans d1) rfl rfl)
          refine ⟨.bool true, ?_, rfl, b5⟩
          clear b1 b2 b3 b4 b5 x1 x2 d1 d2 hDW2
          simp [results, Try.results7, go_sem, x3]
        case stopd =>
          rintro D2 cc k W2 hD hkN ⟨⟨hbn, hbw⟩, hcond⟩ hK
          exact hcond.elim
      case stop =>
        rintro D cc k W hD hkN ⟨⟨hbn, hbw⟩, hcond⟩ hK
        obtain ⟨rfl, hk⟩ := hcond
        obtain ⟨M, hM⟩ : ∃ M : Int, (if (1 : Int) < many then many else 1) = M := ⟨_, rfl⟩
        have hq : (if M < (eachN l x : Int) then M else (eachN l x : Int)) = (k : Int) := by
          rw [← hM]
          split <;> split <;> omega
        refine wpIn_wide.2 ?_
        have hz := hE5.out.b3.lt
        have cx := (Boxed.below hEs.out.b0 hbw (by omega)).cell
        have cm := (Boxed.below hEs.out.b1 hbw (by omega)).cell
        have cv := (Boxed.below hEs.out.b3 hbw (by omega)).cell
        have cr := (Boxed.below hEs.out.b2 hbw (by omega)).cell
        have fr := (Boxed.below hEs.out.b2 hbw (by omega)).frozen
        have ct := (Boxed.below bt hbw (by omega)).cell
        have ft := (Boxed.below bt hbw (by omega)).frozen
        have cn := hbn.cell
        have fn := hbn.frozen
        have HB := Aside0.mk hbn
        have HW := Aside0.mk hbw
        have HK := Aside0.mk hK
        have HD := Aside0.mk hD
        have HZ := Aside0.mk hz
        clear hbn hbw hK hD hz
        clear hk
        go_wp2
        rw [rounds_succ]
        go_wp2
        clear hM hq cx cm cv cr fr ct ft cn fn
        have hWz : Bn < W.heap.size := HB.out.lt
        obtain ⟨Ws2, hWs2⟩ : ∃ Ws2, (W.alloc (.cells #[.int .i64 1] 3)).alloc (.cells #[.int .i64 0] 3) = Ws2 := ⟨_, rfl⟩
        obtain ⟨Bn2, hBnn2⟩ : ∃ Bn2, W.heap.size + 1 = Bn2 := ⟨_, rfl⟩
        obtain ⟨Bt2, hBt2⟩ : ∃ Bt2, W.heap.size = Bt2 := ⟨_, rfl⟩
        have hsz2 : Ws2.heap.size = Bn2 + 1 := by rw [← hWs2, ← hBnn2]; simp
        have bn2 : Boxed Ws2 Bn2 3 (.int .i64 0) := by
          rw [← hWs2, ← hBnn2]; exact blk_two1 W _ _
        have bt2 : Boxed Ws2 Bt2 3 (.int .i64 1) := by
          rw [← hWs2, ← hBt2]; exact blk_two0 W _ _
        have hWW : Below W.heap.size W Ws2 := by rw [← hWs2]; exact below_two W _ _
        have hB5W : Below w5.heap.size w5 W := hBs.trans (HW.out.mono (by omega))
        have hBs2 : Below w5.heap.size w5 Ws2 := below_then hB5W hB5W.size hWW
        have hEs2 := Aside0.mk (hE5.out.below hBs2)
        have HK2 : Aside0 (Ws2.heap[D]? = some (.deferred (some [])) ∧ D < Bt2 ∧ w.heap.size ≤ D) := ⟨(hWW.block _ (blk_lt HK.out)).trans HK.out, by have := blk_lt HK.out; omega, by have := HD.out; have := HZ.out; omega⟩
        have hBn52 : w5.heap.size ≤ Bn2 := by omega
        have hDn : D < Bn2 := by have := HK2.out.2.1; omega
        rw [hWs2, hBnn2, hBt2]
        clear hWs2
        refine (wpIn_wide (n := 4)).1 ?_
        refine rangeN_law (n := 4) rfl (enters_of Try.func29 (by kernel_rfl) rfl) SQ.out hBs2 (by omega) (fun _ => rfl)
          (fun k W => (Boxed W Bn2 3 (.int .i64 k) ∧ Below Bn2 Ws2 W) ∧ True)
          (fun c k W => (Boxed W Bn2 3 (.int .i64 k) ∧ Below Bn2 Ws2 W) ∧ False)
          (OwnFrom.and (OwnFrom.and (Own.from (boxed_own _ _ _) _) (ownFrom_below (by omega) (by omega))) (ownFrom_pure _ _))
          (fun c => OwnFrom.and (OwnFrom.and (Own.from (boxed_own _ _ _) _) (ownFrom_below (by omega) (by omega))) (ownFrom_pure _ _))
          ⟨⟨bn2, Below.refl _ _⟩, trivial⟩ ?a1s ?assigns ?bodys ?dones ?stops
        case assigns =>
          intro L k W K hK
          gi_wp2
          exact hK
        case bodys =>
          rintro L k W2 hkN ⟨⟨hbn, hbw⟩, hcond⟩
          have hz := hE5.out.b3.lt
          have cx := (Boxed.below hEs2.out.b0 hbw (by omega)).cell
          have cm := (Boxed.below hEs2.out.b1 hbw (by omega)).cell
          have cv := (Boxed.below hEs2.out.b3 hbw (by omega)).cell
          have cr := (Boxed.below hEs2.out.b2 hbw (by omega)).cell
          have fr := (Boxed.below hEs2.out.b2 hbw (by omega)).frozen
          have ct := (Boxed.below bt2 hbw (by omega)).cell
          have ft := (Boxed.below bt2 hbw (by omega)).frozen
          have cn := hbn.cell
          have fn := hbn.frozen
          obtain ⟨ad, rfl, hcell⟩ := C_at (l := eachV l x (eachN l x)) (Kd.C_below HCC.out (hBs2.trans (hbw.mono (by omega)))) k (by rw [eachV_len]; exact hkN)
          rw [eachV_at l x _ k hkN] at hcell
          obtain ⟨hs, hle, hge, hwd⟩ := rdS_in l x k hkN
          have hx1 : 1 ≤ x := by rcases wd_cases hwd with h | h | h <;> omega
          have hkk : (k : Int) < (eachN l x : Int) := by omega
          have g1 : IntKind.i64.wrap ((k : Int) * x) = (k : Int) * x := IntWalk.i64_in _ (by omega)
          have g2 : wrap64 ((k : Int) * x) = (k : Int) * x := wrap_id (by omega) (by omega)
          have HB := Aside0.mk hbn
          have HW := Aside0.mk hbw
          have HC := Aside0.mk hcond
          clear hs hbn hbw hwd hcond
          gi_wp2
          exact ⟨KeepsOthers.setCell _ _ _, (Below.refl _ W2).setCell (p := ⟨Bn2, 0, none⟩) hBn52 _, ⟨by have := Boxed.set (.int .i64 ((k : Int) + 1)) HB.out; simpa using this, HW.out.setCell (p := ⟨Bn2, 0, none⟩) (Nat.le_refl _) _⟩, trivial⟩
        case dones =>
          rintro D2 W2 hD ⟨⟨hbn, hbw⟩, hcond⟩ hK
          have hz := hE5.out.b3.lt
          have cx := (Boxed.below hEs2.out.b0 hbw (by omega)).cell
          have cm := (Boxed.below hEs2.out.b1 hbw (by omega)).cell
          have cv := (Boxed.below hEs2.out.b3 hbw (by omega)).cell
          have cr := (Boxed.below hEs2.out.b2 hbw (by omega)).cell
          have fr := (Boxed.below hEs2.out.b2 hbw (by omega)).frozen
          have ct := (Boxed.below bt2 hbw (by omega)).cell
          have ft := (Boxed.below bt2 hbw (by omega)).frozen
          have cn := hbn.cell
          have fn := hbn.frozen
          have HB2 := Aside0.mk hbn
          have HW2 := Aside0.mk hbw
          have HKK := Aside0.mk hK
          have HD2 := Aside0.mk hD
          clear hbn hbw hK hD hz
          go_wp2
          rw [rounds_succ]
          go_wp2_with (go_at_call 8; (with_reducible refine (works_any _).mono ?_); rintro e9 w9 ⟨rfl, hb9⟩; have hR9 := Boxed.below ((Boxed.below hEs2.out.b2 HW2.out (by have := HZ.out; omega)).alloc (.cells #[.int .i64 2] 3)) hb9 (Nat.lt_of_lt_of_le (Boxed.below hEs2.out.b2 HW2.out (by have := HZ.out; omega)).lt (by simp)); have cr9 := hR9.cell; have fr9 := hR9.frozen; have H9 := Aside0.mk hR9; have HB9 := Aside0.mk hb9; clear hR9 hb9)
          have d2 : (w9.setCell ⟨w.heap.size + 2, 0, none⟩ (.bool true)).heap[D2]? = some (.deferred (some [])) := by
            rw [Below.heap_setCell _ _ _ _ (by have := HD2.out; have := HZ.out; simp; omega)]
            rw [HB9.out.block D2 (Nat.lt_of_lt_of_le (blk_lt HKK.out) (by simp)), Below.heap_alloc _ _ _ (blk_lt HKK.out)]
            exact HKK.out
          have hDW2 : W2.heap[D]? = some (.deferred (some [])) := (HW2.out.block _ hDn).trans HK2.out.1
          have d1 : (w9.setCell ⟨w.heap.size + 2, 0, none⟩ (.bool true)).heap[D]? = some (.deferred (some [])) := by
            rw [Below.heap_setCell _ _ _ _ (by have := HD.out; have := HZ.out; simp; omega)]
            rw [HB9.out.block D (Nat.lt_of_lt_of_le (blk_lt hDW2) (by simp)), Below.heap_alloc _ _ _ (blk_lt hDW2)]
            exact hDW2
          have hD12 : D ≠ D2 := by have := HD2.out; omega
          refine ⟨by simp, .inl ⟨_, _, rfl, run_takeDeferred d2, ?_⟩⟩
          refine ⟨by simp, .inl ⟨_, _, rfl, run_takeDeferred ((World.putObj_heap_other hD12).trans d1), ?_⟩⟩
          have hw0 := HK2.out.2.2
          have hD2w : w.heap.size ≤ D2 := by have := HD2.out; have := HZ.out; omega
          have x1 := Boxed.set (.bool true) H9.out
          have x2 := (x1.kept (grownBy_putObj' _ D2 (.deferred none)) (by have := HD2.out; have := HZ.out; simp; omega)).kept (grownBy_putObj' _ D (.deferred none)) (by have := HD.out; have := HZ.out; simp; omega)
          have x3 := x2.cell
          have b1 : Below w.heap.size w W2 := hEs2.out.bel.trans (HW2.out.mono (by have := HZ.out; omega))
          have b2 : Below w.heap.size w w9 := below_then b1 b1.size (below_then (below_alloc (Below.refl _ _) _) (by simp) HB9.out)
          have b3 := b2.setCell (p := ⟨w.heap.size + 2, 0, none⟩) (by simp) (.bool true)
          have b4 := b3.trans (belowK_b (w := w) (Nat.le_refl _) _ D2 _ (.deferred none) hD2w d2 rfl rfl)
          have b5 := b4.trans (belowK_b (w := w) (Nat.le_refl _) _ D _ (.deferred none) hw0 ((World.putObj_heap_other hD12).trans d1) rfl rfl)
          refine ⟨.bool true, ?_, rfl, b5⟩
          clear b1 b2 b3 b4 b5 x1 x2 d1 d2 hDW2
          simp [results, Try.results7, go_sem, x3]
        case stops =>
          rintro D2 cc k W2 hD hkN ⟨⟨hbn, hbw⟩, hcond⟩ hK
          exact hcond.elim
end Go.Proofs.Ytheocodbceidlaa.A
