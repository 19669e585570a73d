/- octet: the walk of the law on the number at a place. -/
import Derived.Test.YtheocodbceidlaaOct8
import Derived.Test.YtheocodbceidlaaPOctetReadsx1
set_option linter.unusedVariables false
set_option linter.unusedSimpArgs false
namespace Go.Proofs.Ytheocodbceidlaa.A
open Go.RowKit Go.Proofs.YtheocodbceidlaaW.PrintWords Go.Proofs.YtheocodbceidlaaW.PrintLast Go.Proofs.YtheocodbceidlaaW.PrintMore
open Go.Proofs.Ytheocodbceidlaa.POctetReads (waywardenref03_right.f waywardenref03_Read.f waywardenref03_Read.l0 waywardenref03_Read.j0 waywardenref03_Read.calls)

theorem step_eq (a b : Int) (ha : 0 ≤ a) (h : (a + 1) * 256 ≤ 4294967296) (hb : 0 ≤ b ∧ b < 256) : ((256 * a % 4294967296 + b % 4294967296) % 4294967296) = a * 256 + b := by omega
theorem read_l0 (l : List Int) (h : Byt l) (hm : l.length ≤ 140737488355328) (p x : Nat) (hpx : p + x ≤ l.length) (hx : x ≤ 4) : ∀ (d k i : Nat) (a : Int), x - i = d → i ≤ x → d < k → 0 ≤ a → (a + 1) * 256 ^ d ≤ 4294967296 →
    waywardenref03_Read.l0 k l p x a i = some (valf a ((l.take (p + x)).drop (p + i)), 0) := by
  intro d
  induction d with
  | zero =>
    intro k i a hd hi hk ha hb
    obtain ⟨k, rfl⟩ : ∃ m, k = m + 1 := ⟨k - 1, by omega⟩
    simp only [waywardenref03_Read.l0]
    rw [if_neg (by omega), List.drop_eq_nil_of_le (by rw [List.length_take]; omega)]
    rfl
  | succ d ih =>
    intro k i a hd hi hk ha hb0
    have hb := Aside0.mk hb0
    clear hb0
    obtain ⟨k, rfl⟩ : ∃ m, k = m + 1 := ⟨k - 1, by omega⟩
    have e0 : wrap64 ((p : Int) + (i : Int)) = ((p + i : Nat) : Int) := by rw [wrap_id (by omega) (by omega)]; omega
    have e1 : wrap64 ((i : Int) + 1) = ((i + 1 : Nat) : Int) := by rw [wrap_id (by omega) (by omega)]; omega
    have hlt : p + i < l.length := by omega
    have hbx := h (l[p + i]) (List.getElem_mem hlt)
    have er : rd l ((p + i : Nat) : Int) = l[p + i] := by unfold rd; rw [Int.toNat_natCast, List.getD_eq_getElem?_getD, List.getElem?_eq_getElem hlt]; rfl
    have hlt2 : p + i < (l.take (p + x)).length := by rw [List.length_take]; omega
    rw [List.drop_eq_getElem_cons hlt2]
    have e3 : (l.take (p + x))[p + i] = l[p + i] := by simp
    rw [e3]
    have hp : (1 : Int) ≤ 256 ^ d := Int.pow_pos (by decide)
    have hb' : ((a + 1) * 256) * 256 ^ d ≤ 4294967296 := by
      have hb1 := hb.out
      rw [Int.pow_succ, Int.mul_comm (256 ^ d) 256, ← Int.mul_assoc] at hb1; exact hb1
    have hb2 : (a + 1) * 256 ≤ 4294967296 := by
      have := Int.mul_le_mul_of_nonneg_left hp (show 0 ≤ (a + 1) * 256 by omega)
      rw [Int.mul_one] at this
      exact Int.le_trans this hb'
    have hb3 : (a * 256 + l[p + i] + 1) * 256 ^ d ≤ 4294967296 :=
      Int.le_trans (Int.mul_le_mul_of_nonneg_right (by clear hp hb' hb2; omega) (Int.le_trans (by decide) hp)) hb'
    clear hb hb' hp
    replace hb3 := Aside0.mk hb3
    have e4 := step_eq a (l[p + i]) ha hb2 hbx
    simp only [waywardenref03_Read.l0]
    rw [if_pos (by omega), e0, if_pos (by omega), if_pos (by omega), er, e1, e4]
    exact ih k (i + 1) (a * 256 + l[p + i]) (by omega) (by omega) (by omega) (by omega) hb3.out
theorem refread (l : List Int) (h : Byt l) (hm : l.length ≤ 140737488355328) (p x : Int) (hp : p < 9223372036854775808) : waywardenref03_Read.f 6 l p x = some (rdS l p x) := by
  have hr : waywardenref03_right.f x = some (wd x) := by
    unfold waywardenref03_right.f wd
    by_cases h1 : x = 1
    · simp [h1]
    · by_cases h2 : x = 2
      · simp [h2]
      · by_cases h4 : x = 4 <;> simp [h1, h2, h4]
  unfold waywardenref03_Read.f rdS
  rw [hr, Option.bind_some]
  cases hw : wd x with
  | false => rfl
  | true =>
    simp only [if_true, Bool.true_eq_false, if_false]
    have hx := wd_cases hw
    by_cases h1 : p < 0
    · rw [if_pos h1, if_pos h1]
    · rw [if_neg h1, if_neg h1]
      by_cases h2 : p > (l.length : Int)
      · rw [if_pos h2, if_pos (by omega)]
        simp [waywardenref03_Read.j0]
      · rw [if_neg h2]
        have e : wrap64 ((l.length : Int) - p) = (l.length : Int) - p := by unfold wrap64; omega
        rw [e]
        by_cases h3 : (l.length : Int) < p + x
        · rw [if_pos h3, decide_eq_true (by omega)]
          simp [waywardenref03_Read.j0]
        · rw [if_neg h3, decide_eq_false (by omega)]
          obtain ⟨q, rfl⟩ := Int.eq_ofNat_of_zero_le (show 0 ≤ p by omega)
          obtain ⟨y, rfl⟩ := Int.eq_ofNat_of_zero_le (show 0 ≤ x by omega)
          have := read_l0 l h hm q y (by omega) (by omega) y 5 0 0 (by omega) (by omega) (by omega) (by omega) (by rw [Int.zero_add, Int.one_mul]; exact pow_le4 _ (by omega))
          simp only [waywardenref03_Read.j0]
          simpa [val] using this
/-- the bytes of the number that bytes are -/
theorem putS_val (m : List Int) (x : Int) (hx : wd x = true) (hm : (m.length : Int) = x) (hb : Byt m) : putS (val m) x = (m, 0) := by
  unfold putS
  rw [if_neg (by simp [hx])]
  rcases wd_cases hx with rfl | rfl | rfl
  · match m, hm, hb with
    | [a], _, hb =>
      have ha := hb a (by simp)
      rw [if_neg (by simp [val, valf, two]; omega)]
      simp [val, valf, b4]; omega
  · match m, hm, hb with
    | [a, b], _, hb =>
      have ha := hb a (by simp)
      have hb' := hb b (by simp)
      rw [if_neg (by simp [val, valf, two]; omega)]
      simp [val, valf, b4]; omega
  · match m, hm, hb with
    | [a, b, c, d], _, hb =>
      have ha := hb a (by simp)
      have hb' := hb b (by simp)
      have hc := hb c (by simp)
      have hd := hb d (by simp)
      rw [if_neg (by simp [val, valf, two]; omega)]
      simp [val, valf, b4]; omega

theorem reads_long (A : Option Addr) (n c : Nat) (p x : Int) (w : World) (h1 : n ≤ 140737488351232) (h : 100 < n) :
    Calls Try.prog 4 #[.slice A n c, .int .i64 p, .int .i64 x] w fun e w' => e = .returned (.bool true) ∧ Below w.heap.size w w' := by
  have ha' : decide ((100 : Int) < (n : Int)) = true := by simp; omega
  clear h
  go_enter Try.func4, Try.ntmps4
  go_wp2_with (go_at_call 8; (with_reducible refine (works_any _).mono ?_); rintro e w1 ⟨rfl, hb⟩)
  go_ret
  exact ⟨rfl, hb⟩

theorem C_front (l0 l l1 : List Int) {A : Option Addr} {w : World} (h : Kd.C (Kd.int .u8) w A (l0 ++ l ++ l1).length (l0 ++ l ++ l1)) (h0 : l0 = [] := by rfl) : Kd.C (Kd.int .u8) w A l.length l := by
  subst h0
  have := Kd.C_take (m := l.length) h (by simp)
  simpa using this

set_option maxHeartbeats 1000000 in
theorem reads_err (A : Option Addr) (l : List Int) (c : Nat) (p x : Int) (v e : Int) (hp : (p : Int) < 9223372036854775808) (hs : rdS l p x = (v, e)) (he : (e != 0) = true) (w : World) (h100 : l.length ≤ 100)
    (hr : Kd.C (Kd.int .u8) w A l.length l) (hc : l.length ≤ c) (hby : Byt l) :
    Calls Try.prog 4 #[.slice A l.length c, .int .i64 p, .int .i64 x] w fun e w' => e = .returned (.bool true) ∧ Below w.heap.size w w' := by
  have ha' : decide ((100 : Int) < (l.length : Int)) = false := by simp; omega
  have HS := Aside0.mk hs
  have HR := Aside0.mk hr
  have HBY := Aside0.mk hby
  clear hs hr hby
  go_enter Try.func4, Try.ntmps4
  go_wp2_with (first
    | (at_builtin; refine Kd.R_append_row (w0 := w) (Value.int .u8) (0:Int) (h1 := fun _ => rfl) w.heap.size rfl (.tmp 18) (.tmp 19) 23 5 (.int .u8 0) 1 rfl Try.underlying23 rfl rfl (by decide) _ [] l A l.length c (fun _ => True) rfl rfl (fun _ _ => trivial) (R_lit0 .u8 5 [] w w.heap.size (Nat.le_refl _) (by decide)) (Kd.C_alloc HR.out _) (below_alloc (Below.refl _ _) _) (by simp) (by simp; omega) ?_; intro v1 w1 hR1 hB1 _ _; have R1 := Aside0.mk hR1; have K1 := Aside0.mk hB1; clear hR1 hB1)
    | (at_builtin; refine Kd.R_append_row (w0 := w) (Value.int .u8) (0:Int) (h1 := fun _ => rfl) w.heap.size rfl (.tmp 20) (.tmp 21) 23 5 (.int .u8 0) 1 rfl Try.underlying23 rfl rfl (by decide) _ ([] ++ l) [77] (some ⟨w1.heap.size, 0, none⟩) 1 1 (fun _ => True) rfl rfl (fun _ _ => trivial) (Kd.R_alloc R1.out _) (C_new .u8 w1 [77] 5 (by decide)) (below_alloc K1.out _ |> fun h => h) (by have := K1.out.size; simp; omega) (by simp; omega) ?_; intro v2 w2 hR1 hB1 _ _; obtain ⟨N2, C2, k2, hN2, rfl, hk2, hC2, _⟩ := R_any hR1; have R2 := Aside0.mk (C_front [] l [77] hC2); have hN2' : N2 = l.length + 1 := (by simpa using hN2.symm); subst hN2'; have K2 := Aside0.mk hB1; have hk2' : l.length ≤ k2 := (by omega); clear hR1 hB1 hN2 hC2))
  refine (read_at C2 l k2 p x v e l.length rfl hp HS.out HBY.out (by omega) hk2' _ R2.out).mono ?_
  rintro e1 w3 ⟨rfl, hb3⟩
  have HS3 := Aside0.mk (below_then K2.out K2.out.size hb3)
  have R3 := Aside0.mk (Kd.C_below R2.out hb3)
  clear hb3
  go_wp2_with fail
  refine (waywardenref03_Read.calls 6 A c l p x v e _ (Kd.C_below HR.out HS3.out) hc (by rw [refread l HBY.out (by omega) p x hp, HS.out])).mono ?_
  rintro e2 w4 ⟨rfl, hd4⟩
  have K4 := Aside0.mk (below_then HS3.out HS3.out.size hd4.below)
  have hcv : (convert 23 9 (.slice C2 l.length k2)).run Try.prog w4 = .ok (.string (strOfNums l)) w4 := Kd.C_string Try.underlying23 Try.underlying5 Try.underlying9 (Kd.C_below R3.out hd4.below)
  have hcv2 : (convert 23 9 (.slice A l.length c)).run Try.prog w4 = .ok (.string (strOfNums l)) w4 := Kd.C_string Try.underlying23 Try.underlying5 Try.underlying9 (Kd.C_below HR.out K4.out)
  clear hd4
  go_wp2_with (first | (go_at_call 11; (with_reducible refine (num_any _ _).mono ?_); rintro e w' ⟨rfl, rfl⟩) | (go_at_call 8; (with_reducible refine (works_any _).mono ?_); rintro e w5 ⟨rfl, hb5⟩))
  go_ret
  exact ⟨rfl, below_then K4.out K4.out.size hb5⟩

set_option maxHeartbeats 1000000 in
theorem reads_ok (A : Option Addr) (l : List Int) (c : Nat) (p x : Nat) (v : Int) (hp : (p : Int) < 9223372036854775808) (hs : rdS l p x = (v, 0)) (hv : 0 ≤ v ∧ v < 4294967296) (m : List Int) (hme : (l.take (p + x)).drop p = m) (hml : m.length = x) (hput : putS v x = (m, 0)) (hpx : p + x ≤ l.length) (hx0 : ¬ x = 0) (hx4 : x ≤ 4) (w : World) (h100 : l.length ≤ 100)
    (hr : Kd.C (Kd.int .u8) w A l.length l) (hc : l.length ≤ c) (hby : Byt l) :
    Calls Try.prog 4 #[.slice A l.length c, .int .i64 p, .int .i64 x] w fun e w' => e = .returned (.bool true) ∧ Below w.heap.size w w' := by
  have ha' : decide ((100 : Int) < (l.length : Int)) = false := by simp; omega
  have HS := Aside0.mk hs
  have HR := Aside0.mk hr
  have HBY := Aside0.mk hby
  clear hs hr hby
  have HME := Aside0.mk hme
  have HML := Aside0.mk hml
  have HPUT := Aside0.mk hput
  have HV := Aside0.mk hv
  have hpx' : (p : Int) + (x : Int) ≤ (l.length : Int) := by omega
  have hpc : p + x ≤ c := by omega
  clear hme hml hput hv
  go_enter Try.func4, Try.ntmps4
  go_wp2_with (first
    | (at_builtin; refine Kd.R_append_row (w0 := w) (Value.int .u8) (0:Int) (h1 := fun _ => rfl) w.heap.size rfl (.tmp 18) (.tmp 19) 23 5 (.int .u8 0) 1 rfl Try.underlying23 rfl rfl (by decide) _ [] l A l.length c (fun _ => True) rfl rfl (fun _ _ => trivial) (R_lit0 .u8 5 [] w w.heap.size (Nat.le_refl _) (by decide)) (Kd.C_alloc HR.out _) (below_alloc (Below.refl _ _) _) (by simp) (by simp; omega) ?_; intro v1 w1 hR1 hB1 _ _; have R1 := Aside0.mk hR1; have K1 := Aside0.mk hB1; clear hR1 hB1)
    | (at_builtin; refine Kd.R_append_row (w0 := w) (Value.int .u8) (0:Int) (h1 := fun _ => rfl) w.heap.size rfl (.tmp 20) (.tmp 21) 23 5 (.int .u8 0) 1 rfl Try.underlying23 rfl rfl (by decide) _ ([] ++ l) [77] (some ⟨w1.heap.size, 0, none⟩) 1 1 (fun _ => True) rfl rfl (fun _ _ => trivial) (Kd.R_alloc R1.out _) (C_new .u8 w1 [77] 5 (by decide)) (below_alloc K1.out _ |> fun h => h) (by have := K1.out.size; simp; omega) (by simp; omega) ?_; intro v2 w2 hR1 hB1 _ _; obtain ⟨N2, C2, k2, hN2, rfl, hk2, hC2, _⟩ := R_any hR1; have R2 := Aside0.mk (C_front [] l [77] hC2); have hN2' : N2 = l.length + 1 := (by simpa using hN2.symm); subst hN2'; have K2 := Aside0.mk hB1; have hk2' : l.length ≤ k2 := (by omega); clear hR1 hB1 hN2 hC2))
  refine (read_at C2 l k2 p x v 0 l.length rfl hp HS.out HBY.out (by omega) hk2' _ R2.out).mono ?_
  rintro e1 w3 ⟨rfl, hb3⟩
  have HS3 := Aside0.mk (below_then K2.out K2.out.size hb3)
  have R3 := Aside0.mk (Kd.C_below R2.out hb3)
  clear hb3
  go_wp2_with fail
  refine (waywardenref03_Read.calls 6 A c l p x v 0 _ (Kd.C_below HR.out HS3.out) hc (by rw [refread l HBY.out (by omega) p x hp, HS.out])).mono ?_
  rintro e2 w4 ⟨rfl, hd4⟩
  have K4 := Aside0.mk (below_then HS3.out HS3.out.size hd4.below)
  have hcv : (convert 23 9 (.slice C2 l.length k2)).run Try.prog w4 = .ok (.string (strOfNums l)) w4 := Kd.C_string Try.underlying23 Try.underlying5 Try.underlying9 (Kd.C_below R3.out hd4.below)
  have hcv2 : (convert 23 9 (.slice A l.length c)).run Try.prog w4 = .ok (.string (strOfNums l)) w4 := Kd.C_string Try.underlying23 Try.underlying5 Try.underlying9 (Kd.C_below HR.out K4.out)
  clear hd4
  go_wp2_with (first | (go_at_call 11; (with_reducible refine (num_any _ _).mono ?_); rintro e w' ⟨rfl, rfl⟩) | (go_at_call 9; refine (put_spec v x m 0 HV.out HPUT.out _).mono ?_; rintro e5 w5 ⟨B, d, rfl, hR5, hb5⟩; have R5 := Aside0.mk hR5; have K5 := Aside0.mk hb5; clear hR5 hb5 hcv hcv2))
  have hA5 := Kd.C_below HR.out (below_then K4.out K4.out.size K5.out)
  have hS : Aside0 (∀ W, Below w5.heap.size w5 W → (convert 23 9 (.slice B m.length d)).run Try.prog W = .ok (.string (strOfNums m)) W ∧ (convert 23 9 (.slice (Option.map (fun q => q.add p) A) x (c - p))).run Try.prog W = .ok (.string (strOfNums m)) W) := by
    refine ⟨fun W hW => ⟨Kd.C_string Try.underlying23 Try.underlying5 Try.underlying9 (Kd.C_below (Kd.R_reads' R5.out).2.2 hW), ?_⟩⟩
    have h1 := C_win A l c p x hx0 hpx w5 hc hA5
    rw [HME.out, HML.out] at h1
    exact Kd.C_string Try.underlying23 Try.underlying5 Try.underlying9 (Kd.C_below h1 hW)
  clear hA5
  have g1 : IntKind.i64.wrap ((p : Int) + (x : Int)) = (p : Int) + (x : Int) := IntWalk.i64_in _ (by omega)
  have g2 : (0 : Int) ≤ (p : Int) := by omega
  have g3 : (p : Int) ≤ (p : Int) + (x : Int) := by omega
  have g4 : (p : Int) + (x : Int) ≤ (c : Int) := by omega
  have g5 : ((p : Int) + (x : Int)).toNat = p + x := by omega
  have g6 : (0 : Int) ≤ (p : Int) + (x : Int) := by omega
  have g7 : ¬ c = p := by omega
  have g8 : p + x - p = x := by omega
  go_region_held3 (fun w' => (convert 23 9 (.slice B m.length d)).run Try.prog w' = .ok (.string (strOfNums m)) w' ∧ (convert 23 9 (.slice (Option.map (fun q => q.add p) A) x (c - p))).run Try.prog w' = .ok (.string (strOfNums m)) w')
    (first | (exact hS.out _ (below_drew (Below.refl _ _))) | (exact hS.out _ (below_then (below_drew (Below.refl _ _)) (by simp) hb6)) | skip)
    (first | (go_at_call 11; (with_reducible refine (num_any _ _).mono ?_); rintro e w' ⟨rfl, rfl⟩) | (go_at_call 8; (with_reducible refine (works_any _).mono ?_); rintro e w6 ⟨rfl, hb6⟩))
  clear g1 g2 g3 g4 g5 g6 g7 g8
  go_wp2
  go_ret
  exact ⟨rfl, below_then (below_then K4.out K4.out.size K5.out) (Nat.le_trans K4.out.size K5.out.size) (below_then (below_drew (Below.refl _ _)) (by simp) hb6)⟩

theorem reads_walk (A : Option Addr) (l : List Int) (c : Nat) {w : World} (hr : Kd.C (Kd.int .u8) w A l.length l) (hc : l.length ≤ c) (hw : ∀ y ∈ l, (Lit.int .u8 y).wf = true) (hm : l.length * 1 ≤ 140737488351232)
    (p : Int) (hp : (Lit.int .i64 p).wf = true) (x : Int) (hx : (Lit.int .i64 x).wf = true) (w' : World) (hw' : w' = w) :
    Calls Try.prog 4 #[.slice A l.length c, .int .i64 p, .int .i64 x] w' fun e w' => e = .returned (.bool true) ∧ Below w.heap.size w w' := by
  subst hw'
  have hp' := bounds_i64 hp
  have hby := byt_of_wf hw
  by_cases h : 100 < l.length
  · exact reads_long A _ c p x _ (by omega) h
  · obtain ⟨v, e, hs⟩ : ∃ v e, rdS l p x = (v, e) := ⟨_, _, rfl⟩
    by_cases he : e = 0
    · subst he
      have hs2 := hs
      unfold rdS at hs2
      by_cases h0 : wd x = false
      · rw [if_pos h0] at hs2; injection hs2 with _ e; cases e
      · rw [if_neg h0] at hs2
        have h0' : wd x = true := by simpa using h0
        have hx4 := wd_cases h0'
        by_cases h1 : p < 0
        · rw [if_pos h1] at hs2; injection hs2 with _ e; cases e
        · rw [if_neg h1] at hs2
          by_cases h2 : (l.length : Int) < p + x
          · rw [if_pos h2] at hs2; injection hs2 with _ e; cases e
          · rw [if_neg h2] at hs2
            injection hs2 with hv _
            obtain ⟨q, rfl⟩ := Int.eq_ofNat_of_zero_le (show 0 ≤ p by omega)
            obtain ⟨y, rfl⟩ := Int.eq_ofNat_of_zero_le (show 0 ≤ x by omega)
            rw [Int.toNat_natCast, Int.toNat_natCast] at hv
            have hml := win_len l q y (by omega)
            have hbm : Byt ((l.take (q + y)).drop q) := (hby.take _).drop _
            have hr4 := val_range _ hbm (by omega)
            refine reads_ok A l c q y v (by omega) hs (by rw [← hv]; exact hr4) _ rfl hml ?_ (by omega) (by omega) (by omega) _ (by omega) hr hc hby
            rw [← hv]
            exact putS_val _ y h0' (by rw [hml]) hbm
    · exact reads_err A l c p x v e (by omega) hs (by simpa using he) _ (by omega) hr hc hby
end Go.Proofs.Ytheocodbceidlaa.A
