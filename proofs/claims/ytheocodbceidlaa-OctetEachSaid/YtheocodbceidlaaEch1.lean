/- octet: the numbers that stand one behind the other: the iterator. -/
import Derived.Test.YtheocodbceidlaaRds1
import Derived.Test.YtheocodbceidlaaRange
set_option linter.unusedVariables false
set_option linter.unusedSimpArgs false
namespace Go.Proofs.Ytheocodbceidlaa.A
open Go.RowKit Go.Shelf Go.Proofs.YtheocodbceidlaaW.PrintWords Go.Proofs.YtheocodbceidlaaW.PrintLast Go.Proofs.YtheocodbceidlaaW.PrintMore
attribute [local go_sem] Oper.semAt_some

/-- how many numbers there are -/
def eachN (l : List Int) (x : Int) : Nat := if wd x = true then l.length / x.toNat else 0
def eachF (l : List Int) (x : Int) (k : Nat) : Int × Int := ((k : Int) * x, (rdS l ((k : Int) * x) x).1)
def eachL (l : List Int) (x : Int) : List (Int × Int) := (List.range (eachN l x)).map (eachF l x)
theorem eachL_take (l : List Int) (x : Int) (k : Nat) (h : k < eachN l x) : (eachL l x).take (k + 1) = (eachL l x).take k ++ [eachF l x k] := by
  have hl : k < (eachL l x).length := by simpa [eachL] using h
  rw [List.take_succ_eq_append_getElem hl]
  simp [eachL]
theorem eachL_len (l : List Int) (x : Int) : (eachL l x).length = eachN l x := by simp [eachL]
theorem rdS_in (l : List Int) (x : Int) (k : Nat) (h : k < eachN l x) : rdS l ((k : Int) * x) x = ((eachF l x k).2, 0) ∧ (k : Int) * x + x ≤ l.length ∧ 0 ≤ (k : Int) * x ∧ wd x = true := by
  unfold eachN at h
  by_cases hw : wd x = true
  · rw [if_pos hw] at h
    have h2 : (k + 1) * x.toNat ≤ l.length := Nat.le_trans (Nat.mul_le_mul_right _ h) (Nat.div_mul_le_self _ _)
    have hx := wd_cases hw
    obtain ⟨y, rfl⟩ := Int.eq_ofNat_of_zero_le (show 0 ≤ x by omega)
    rw [Int.toNat_natCast] at h2
    have h3 : ((k + 1 : Nat) : Int) * (y : Int) ≤ l.length := by exact_mod_cast h2
    have h4 : ((k + 1 : Nat) : Int) * (y : Int) = (k : Int) * y + y := by rw [Int.natCast_add, Int.add_mul]; simp
    have h5 : 0 ≤ (k : Int) * (y : Int) := Int.mul_nonneg (by omega) (by omega)
    rw [h4] at h3
    refine ⟨?_, h3, h5, hw⟩
    unfold eachF rdS
    rw [if_neg (by simp [hw]), if_neg (by omega), if_neg (by omega)]
  · rw [if_neg hw] at h; omega
theorem rdS_out (l : List Int) (x : Int) : ∃ e, rdS l ((eachN l x : Int) * x) x = (0, e) ∧ (e != 0) = true := by
  unfold eachN
  by_cases hw : wd x = true
  · rw [if_pos hw]
    have hx := wd_cases hw
    obtain ⟨y, rfl⟩ := Int.eq_ofNat_of_zero_le (show 0 ≤ x by omega)
    rw [Int.toNat_natCast]
    have h2 : l.length < (l.length / y + 1) * y := by
      have := Nat.lt_div_mul_add (a := l.length) (b := y) (by omega)
      rw [Nat.add_mul]; omega
    have h3 : (l.length : Int) < ((l.length / y : Nat) : Int) * y + y := by
      have : ((l.length : Nat) : Int) < (((l.length / y + 1) * y : Nat) : Int) := by exact_mod_cast h2
      rw [Int.natCast_mul, Int.natCast_add, Int.add_mul, Int.natCast_one, Int.one_mul] at this
      exact this
    have h5 : 0 ≤ ((l.length / y : Nat) : Int) * (y : Int) := Int.mul_nonneg (Int.natCast_nonneg _) (Int.natCast_nonneg _)
    refine ⟨130, ?_, rfl⟩
    unfold rdS
    rw [if_neg (by simp [hw]), if_neg (by simpa using h5), if_pos h3]
  · refine ⟨2, ?_, rfl⟩
    unfold rdS
    rw [if_pos (by simpa using hw)]

theorem eachN_le (l : List Int) (x : Int) : 0 ≤ (eachN l x : Int) * x ∧ (eachN l x : Int) * x ≤ l.length := by
  unfold eachN
  by_cases hw : wd x = true
  · rw [if_pos hw]
    have hx := wd_cases hw
    obtain ⟨y, rfl⟩ := Int.eq_ofNat_of_zero_le (show 0 ≤ x by omega)
    rw [Int.toNat_natCast]
    have h2 := Nat.div_mul_le_self l.length y
    have h3 : (((l.length / y * y : Nat)) : Int) ≤ ((l.length : Nat) : Int) := by exact_mod_cast h2
    rw [Int.natCast_mul] at h3
    exact ⟨Int.mul_nonneg (Int.natCast_nonneg _) (Int.natCast_nonneg _), h3⟩
  · rw [if_neg hw]
    simp
theorem each1_seq (n Bb Bw : Nat) (A : Option Addr) (c : Nat) (l : List Int) (x : Int) (hn : 2 ≤ n) (w : World) (hb : w.cell? ⟨Bb, 0, none⟩ = some (.slice A l.length c)) (hw : w.cell? ⟨Bw, 0, none⟩ = some (.int .i64 x))
    (hr : Kd.C (Kd.int .u8) w A l.length l) (hc : l.length ≤ c) (hby : Byt l) (hm : l.length ≤ 140737488355328) (hx : -9223372036854775808 ≤ x ∧ x ≤ 9223372036854775807) :
    SeqN n Try.prog 29 #[.pointer (some ⟨Bb, 0, none⟩), .pointer (some ⟨Bw, 0, none⟩)] (fun k => #[.int .i64 ((k : Int) * x), .int .u32 (eachF l x k).2]) w.heap.size (eachN l x) w := by
  intro L J Jx W hW hJ hJx hY h0
  have HB := Aside0.mk hb
  have HWd := Aside0.mk hw
  have HR := Aside0.mk hr
  have HBY := Aside0.mk hby
  have HW := Aside0.mk hW
  have HJ := Aside0.mk hJ
  have HJx := Aside0.mk hJx
  have HY := Aside0.mk hY
  have H0 := Aside0.mk h0
  clear hb hw hr hby hW hJ hJx hY h0
  have hro : Fence.wide.round = none := rfl
  have h1 : 1 ≤ n := by omega
  refine callsIn_of_wp Try.func29 rfl trivial ?_ rfl
  simp only [Try.ntmps29, List.size_toArray, List.length_cons, List.length_nil, Nat.reduceAdd, Nat.reduceSub, Array.replicate_succ, Array.replicate_zero, List.push_toArray, List.append_toArray, List.nil_append, List.cons_append]
  refine wpIn_wide.2 (wp_scope_straight ((wpIn_wide (n := n)).1 ?_))
  gi_wp2
  refine wpIn_label ?_
  gi_wp2
  gi_loopw [4] (fun v wr => ∃ k : Nat, k ≤ eachN l x ∧ v = .int .i64 ((k : Int) * x) ∧ Aside0 (J k wr) ∧ Aside0 (Below w.heap.size w wr) ∧ Aside0 (W.heap.size ≤ wr.heap.size)) (fun v _ => l.length + 1 - (intOf v).toNat)
  case atStart => exact ⟨0, by omega, by simp, H0, HW, ⟨Nat.le_refl _⟩⟩
  case round =>
    obtain ⟨k, hk, rfl, hJk, hBk, hzk⟩ := hrel
    have hb1 : wr.cell? ⟨Bb, 0, none⟩ = some (.slice A l.length c) := pw_cell_below hBk.out HB.out
    have hw1 : wr.cell? ⟨Bw, 0, none⟩ = some (.int .i64 x) := pw_cell_below hBk.out HWd.out
    by_cases hlt : k < eachN l x
    · obtain ⟨hs, hle, hge, hwd⟩ := rdS_in l x k hlt
      have HS := Aside0.mk hs
      have hx1 : 1 ≤ x := by rcases wd_cases hwd with h | h | h <;> omega
      have hp9 : (k : Int) * x < 9223372036854775808 := by omega
      clear hs
      gi_wp2_with (refine ⟨trivial, ?_⟩; gi_at_call 27; go_loud (refine (callsIn_wide.2 (num_spec A l c ((k : Int) * x) x _ 0 hp9 HS.out HBY.out hm hc _ (Kd.C_below HR.out hBk.out))).mono ?_); rintro e' w1 ⟨rfl, hb9⟩)
      have hJ1 : J k w1 := HJ.out _ _ _ none hJk.out (grown_of_below hb9 none) (fun r h => by cases h)
      have hw2 : w1.cell? ⟨Bw, 0, none⟩ = some (.int .i64 x) := pw_cell_below hb9 hw1
      have hz2 := Aside0.mk (Nat.le_trans hzk.out hb9.size)
      have hB2 := Aside0.mk (below_then hBk.out hBk.out.size hb9)
      obtain ⟨fn, tmps, assign, body, hy, hR⟩ := HY.out k w1 hlt hJ1
      have hRR := Aside0.mk hR
      clear hJ1 hb9 hR
      gi_wp2
      rw [hy]
      go_simp
      clear hy
      first | refine hRR.out.mono ?_ | refine ⟨fun h => (by cases h), hRR.out.mono ?_⟩
      rintro e W' (⟨rfl, hJ', hk'⟩ | ⟨rfl, hJx'⟩)
      · have hw3 : W'.cell? ⟨Bw, 0, none⟩ = some (.int .i64 x) := pw_cell_below (hB2.out.trans hk') HWd.out
        gi_wp2
        go_roundw
        case rel => exact ⟨k + 1, by omega, by rw [Int.natCast_add, Int.add_mul]; simp, ⟨hJ'⟩, ⟨hB2.out.trans hk'⟩, ⟨Nat.le_trans hz2.out hk'.size⟩⟩
        case measure => simp [intOf]; omega
      · gi_wp2
        simp only [Exit.noGoto]
        go_end0
        exact ⟨⟨_, rfl⟩, .inr ⟨k + 1, hlt, hJx'⟩⟩
    · obtain rfl : k = eachN l x := by omega
      obtain ⟨e, hs, he⟩ := rdS_out l x
      have HS := Aside0.mk hs
      have hp9 := eachN_le l x
      clear hs
      gi_wp2_with (refine ⟨trivial, ?_⟩; gi_at_call 27; go_loud (refine (callsIn_wide.2 (num_spec A l c ((eachN l x : Int) * x) x _ e (by omega) HS.out HBY.out hm hc _ (Kd.C_below HR.out hBk.out))).mono ?_); rintro e' w1 ⟨rfl, hb9⟩)
      have HJ1 := Aside0.mk (HJ.out _ _ _ none hJk.out (grown_of_below hb9 none) (fun r h => by cases h))
      refine ⟨fun _ h => (by cases h), ?_⟩
      gi_wp2
      simp only [Exit.noGoto]
      go_end0
      exact ⟨⟨_, rfl⟩, .inl HJ1.out⟩

theorem each_any (A : Option Addr) (c : Nat) (l : List Int) (x : Int) (w : World) (hr : Kd.C (Kd.int .u8) w A l.length l) (hc : l.length ≤ c) (hm : l.length ≤ 140737488355328) :
    Calls Try.prog 22 #[.slice A l.length c, .int .i64 x] w fun e w' => ∃ Bb Bw B d, e = .returned (.func (.func 29) #[] #[.pointer (some ⟨Bb, 0, none⟩), .pointer (some ⟨Bw, 0, none⟩)]) ∧
      w'.cell? ⟨Bb, 0, none⟩ = some (.slice B l.length d) ∧ w'.cell? ⟨Bw, 0, none⟩ = some (.int .i64 x) ∧ Kd.C (Kd.int .u8) w' B l.length l ∧ l.length ≤ d ∧ Below w.heap.size w w' := by
  have HR := Aside0.mk hr
  clear hr
  go_enter Try.func22, Try.ntmps22
  go_wp2_with (go_at_call 25; go_loud (refine (clone_sl A l c _ (Kd.C_alloc (Kd.C_alloc HR.out _) _) hc hm).mono ?_); rintro e w1 ⟨B, d, rfl, hR, hB⟩; have hx1 := (hB.block _ (by simp; omega)).trans (blk_two0 w (.cells #[.slice A l.length c] 23) (.cells #[.int .i64 x] 3)); have hx2 := (hB.block _ (by simp)).trans (blk_two1 w (.cells #[.slice A l.length c] 23) (.cells #[.int .i64 x] 3)); have c1 := blk_cell hx1 0; have f1 := blk_frozen hx1 0; have X1 := Aside0.mk hx1; have X2 := Aside0.mk hx2; clear hx1 hx2; simp only [List.getElem?_toArray, List.getElem?_cons_zero] at c1)
  go_ret
  have g1 := blk_set X1.out 0 (.slice B l.length d)
  have hr1 := Kd.R_reads' (Kd.R_far (p := ⟨w.heap.size, 0, none⟩) (Kd.R_mono (Kd.R_bound hR) (fun k hk => (show k ≠ w.heap.size by have := hk.2.1; simp at this; omega))) (fun k hk => hk) (.slice B l.length d))
  refine ⟨w.heap.size, w.heap.size + 1, B, d, rfl, ?_, ?_, hr1.2.2, hr1.2.1, ((below_then (below_two w _ _) (by simp; omega) hB).setCell (p := ⟨w.heap.size, 0, none⟩) (Nat.le_refl _) _)⟩
  · rw [blk_cell g1]; rfl
  · rw [blk_cell (blk_far X2.out (p := ⟨w.heap.size, 0, none⟩) (by simp) _)]; rfl
end Go.Proofs.Ytheocodbceidlaa.A
