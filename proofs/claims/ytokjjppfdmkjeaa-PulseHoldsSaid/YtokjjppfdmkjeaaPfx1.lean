/- prefixes: masks, bits: what the functions compute, and their contracts. -/
import Derived.Test.YtokjjppfdmkjeaaAk
import Derived.Test.YtokjjppfdmkjeaaPrt
set_option linter.unusedVariables false
set_option linter.unusedSimpArgs false
namespace Go.Proofs.Ytokjjppfdmkjeaa.A
open Go.RowKit Go.Proofs.YtokjjppfdmkjeaaW.PrintWords Go.Proofs.YtokjjppfdmkjeaaW.PrintLast Go.Proofs.YtokjjppfdmkjeaaW.PrintMore Go.Proofs.Ytokjjppfdmkjeaa.PPulseHolds

def pw (n : Int) : Int := 2 ^ (32 - n).toNat
def rightP (a n : Int) : Bool := decide (0 ≤ n ∧ n ≤ 32 ∧ a % pw n = 0)
def maskN (n : Int) : Int := 4294967296 - pw n
def Adr (a : Int) : Prop := 0 ≤ a ∧ a < 4294967296
theorem maskN_adr (n : Int) (h : 0 ≤ n ∧ n ≤ 32) : Adr (maskN n) := by
  obtain ⟨m, rfl⟩ := Int.eq_ofNat_of_zero_le h.1
  have key : ∀ m : Nat, m < 33 → 0 ≤ maskN (m : Int) ∧ maskN (m : Int) < 4294967296 := by decide +kernel
  exact key m (by omega)
theorem mask_eq (n : Int) (h : 0 ≤ n ∧ n ≤ 32) : prefix_mask.f n = some (maskN n) := by
  obtain ⟨m, rfl⟩ := Int.eq_ofNat_of_zero_le h.1
  have key : ∀ m : Nat, m < 33 → prefix_mask.f (m : Int) = some (maskN (m : Int)) := by decide +kernel
  exact key m (by omega)
theorem refmask_eq (n : Int) (h : 0 ≤ n ∧ n ≤ 32) : waywardenref02_Mask.f 40 n = some (maskN n) := by
  obtain ⟨m, rfl⟩ := Int.eq_ofNat_of_zero_le h.1
  have key : ∀ m : Nat, m < 33 → waywardenref02_Mask.f 40 (m : Int) = some (maskN (m : Int)) := by decide +kernel
  exact key m (by omega)
theorem andNot_mask (a n : Int) (ha : Adr a) (h : 0 ≤ n ∧ n ≤ 32) : Go.bits .andNot .u32 a (maskN n) = a % pw n := by
  have hm := maskN_adr n h
  rw [Go.u32_andNot a (maskN n) ha.1 ha.2 hm.1 hm.2]
  obtain ⟨x, rfl⟩ := Int.eq_ofNat_of_zero_le ha.1
  obtain ⟨m, rfl⟩ := Int.eq_ofNat_of_zero_le h.1
  have e1 : 4294967295 - (maskN (m : Int)).toNat = 2 ^ (32 - m) - 1 := by
    have key : ∀ m : Nat, m < 33 → 4294967295 - (maskN (m : Int)).toNat = 2 ^ (32 - m) - 1 := by decide +kernel
    exact key m (by omega)
  have e2 : pw (m : Int) = ((2 ^ (32 - m) : Nat) : Int) := by
    have e : ((32 : Int) - m).toNat = 32 - m := by omega
    rw [pw, e]
    simp
  rw [e1, e2, Int.toNat_natCast, Nat.and_two_pow_sub_one_eq_mod]
  simp
theorem look_right_eq (a n : Int) (ha : Adr a) : prefix_look_right.f a n = some (rightP a n) := by
  unfold prefix_look_right.f rightP
  by_cases h0 : 0 ≤ n
  · by_cases h1 : n ≤ 32
    · rw [if_pos (by omega), if_pos h1, mask_eq n ⟨h0, h1⟩]
      simp only [Option.bind_some]
      rw [andNot_mask a n ha ⟨h0, h1⟩]
      congr 1
      simp [h0, h1]
      rfl
    · rw [if_pos (by omega), if_neg h1]
      simp [h1]
  · rw [if_neg (by omega)]
    simp [h0]
theorem bit_loop (i : Int) (h0 : -1 ≤ i) : ∀ (d j x : Nat), x < 4294967296 → i + d ≤ 31 → waywardenref02_Bit.l0 (d + 1 + j) i (x : Int) (i + d) = some (((x / 2 ^ d % 2 : Nat) : Int)) := by
  intro d
  induction d with
  | zero =>
    intro j x hx hi
    rw [show 0 + 1 + j = j + 1 by omega, waywardenref02_Bit.l0, if_neg (by omega)]
    congr 1
    rw [Int.tmod_eq_emod_of_nonneg (by omega)]
    simp
  | succ d ih =>
    intro j x hx hi
    rw [show d + 1 + 1 + j = (d + 1 + j) + 1 by omega, waywardenref02_Bit.l0, if_pos (by omega)]
    have e1 : wrap64 (Int.tdiv (x : Int) 2) = ((x / 2 : Nat) : Int) := by
      rw [Int.tdiv_eq_ediv_of_nonneg (by omega), wrap_id (by omega) (by omega)]
      simp
    have e2 : wrap64 (i + ((d + 1 : Nat) : Int) - 1) = i + (d : Int) := by rw [wrap_id (by omega) (by omega)]; omega
    rw [e1, e2, ih j (x / 2) (by omega) (by omega), Nat.div_div_eq_div_mul, Nat.pow_succ, Nat.mul_comm (2 ^ d) 2]
theorem bit_eq (k : Nat) (hk : 34 ≤ k) (x i : Nat) (hx : x < 4294967296) (hi : i < 32) : waywardenref02_Bit.f k (x : Int) (i : Int) = some (((x / 2 ^ (31 - i) % 2 : Nat) : Int)) := by
  obtain ⟨j, rfl⟩ : ∃ j, k = j + 1 := ⟨k - 1, by omega⟩
  unfold waywardenref02_Bit.f
  rw [if_neg (by omega), decide_eq_false (by omega), waywardenref02_Bit.j0, if_neg (by simp), wrap_id (by omega) (by omega)]
  have h := bit_loop (i : Int) (by omega) (31 - i) (j - (31 - i) - 1) x hx (by omega)
  have e1 : 31 - i + 1 + (j - (31 - i) - 1) = j := by omega
  have e2 : (i : Int) + ((31 - i : Nat) : Int) = 31 := by omega
  rw [e1, e2] at h
  exact h
theorem right_loop (x : Nat) (hx : x < 4294967296) (n : Int) : ∀ d, d ≤ 32 → waywardenref02_Right.l0 (d + 40) (32 - (d : Int)) (x : Int) n = some (decide (x % 2 ^ d = 0)) := by
  intro d
  induction d with
  | zero =>
    intro _
    rw [show 0 + 40 = 39 + 1 by omega, waywardenref02_Right.l0, if_neg (by omega)]
    simp [Nat.mod_one]
  | succ d ih =>
    intro hd
    rw [show d + 1 + 40 = (d + 40) + 1 by omega, waywardenref02_Right.l0, if_pos (by omega)]
    have e1 : (32 : Int) - ((d + 1 : Nat) : Int) = ((31 - d : Nat) : Int) := by omega
    rw [e1, bit_eq (d + 40) (by omega) x (31 - d) hx (by omega), Option.bind_some]
    have e2 : 31 - (31 - d) = d := by omega
    have e3 : wrap64 (((31 - d : Nat) : Int) + 1) = 32 - (d : Int) := by rw [wrap_id (by omega) (by omega)]; omega
    have e4 := Nat.mod_pow_succ (x := x) (b := 2) (k := d)
    rw [e2, e3, ih (by omega), e4]
    have hp : 0 < 2 ^ d := Nat.two_pow_pos d
    by_cases hb : x / 2 ^ d % 2 = 0
    · rw [if_pos (by omega), hb]
      simp
    · rw [if_neg (by omega)]
      have hb1 : x / 2 ^ d % 2 = 1 := by omega
      rw [hb1]
      congr 1
      symm
      apply decide_eq_false
      omega
theorem refright_eq (a n : Int) (ha : Adr a) : waywardenref02_Right.f 80 a n = some (rightP a n) := by
  unfold waywardenref02_Right.f rightP
  obtain ⟨x, rfl⟩ := Int.eq_ofNat_of_zero_le ha.1
  by_cases h0 : n < 0
  · rw [if_pos h0, show (80 : Nat) = 79 + 1 from rfl, waywardenref02_Right.j0, if_pos rfl]
    congr 1
    symm
    apply decide_eq_false
    omega
  · rw [if_neg h0]
    by_cases h1 : n > 32
    · rw [decide_eq_true h1, show (80 : Nat) = 79 + 1 from rfl, waywardenref02_Right.j0, if_pos rfl]
      congr 1
      symm
      apply decide_eq_false
      omega
    · rw [decide_eq_false h1, show (80 : Nat) = 79 + 1 from rfl, waywardenref02_Right.j0, if_neg (by simp)]
      obtain ⟨m, rfl⟩ := Int.eq_ofNat_of_zero_le (by omega : 0 ≤ n)
      have h := right_loop x (by have := ha.2; omega) (m : Int) (32 - m) (by omega)
      have e2 : (32 : Int) - ((32 - m : Nat) : Int) = (m : Int) := by omega
      have hmono : ∀ j k, waywardenref02_Right.l0 k (m : Int) (x : Int) (m : Int) = some (decide (x % 2 ^ (32 - m) = 0)) → waywardenref02_Right.l0 (k + j) (m : Int) (x : Int) (m : Int) = some (decide (x % 2 ^ (32 - m) = 0)) := by
        intro j
        induction j with
        | zero => intro k h; exact h
        | succ j ih =>
          intro k h
          exact (waywardenref02_Right.mono_l (k + j)).2 _ _ _ _ (ih k h)
      rw [e2] at h
      have h' := hmono (79 - (32 - m + 40)) _ h
      rw [show 32 - m + 40 + (79 - (32 - m + 40)) = 79 by omega] at h'
      rw [h']
      congr 1
      have e3 : pw (m : Int) = ((2 ^ (32 - m) : Nat) : Int) := by
        have e : ((32 : Int) - m).toNat = 32 - m := by omega
        rw [pw, e]
        simp
      rw [e3]
      apply decide_eq_decide.2
      constructor
      · intro h
        refine ⟨by omega, by omega, ?_⟩
        have := congrArg (fun t : Nat => (t : Int)) h
        simpa using this
      · intro h
        have := h.2.2
        exact_mod_cast this
theorem check_eq (a n : Int) (ha : Adr a) : prefix_Check.f a n = some (if rightP a n then 0 else 2) := by
  unfold prefix_Check.f
  rw [look_right_eq a n ha, Option.bind_some]
  cases rightP a n <;> rfl
end Go.Proofs.Ytokjjppfdmkjeaa.A
