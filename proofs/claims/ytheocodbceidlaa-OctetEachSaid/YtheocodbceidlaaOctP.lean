/- octet: what the functions compute, on lists of numbers: no program here. -/
import Derived.Test.YtheocodbceidlaaOct4
set_option linter.unusedVariables false
set_option linter.unusedSimpArgs false
namespace Go.Proofs.Ytheocodbceidlaa.A
open Go.RowKit Go.Proofs.YtheocodbceidlaaW.PrintWords Go.Proofs.YtheocodbceidlaaW.PrintLast Go.Proofs.YtheocodbceidlaaW.PrintMore Go.Proofs.Ytheocodbceidlaa.POctetPuts

def Byt (l : List Int) : Prop := ∀ x ∈ l, 0 ≤ x ∧ x < 256
def valf (a : Int) (l : List Int) : Int := l.foldl (fun n x => n * 256 + x) a
def val (l : List Int) : Int := valf 0 l

theorem or_byte (a b : Int) (ha : 0 ≤ a) (ha' : a * 256 < 4294967296) (hb : 0 ≤ b) (hb' : b < 256) :
    Go.bits .or .u32 ((a * 256) % 4294967296) (b % 4294967296) = a * 256 + b := by
  rw [Int.emod_eq_of_lt (by omega) ha', Int.emod_eq_of_lt hb (by omega), Go.u32_or _ _ (by omega) ha' hb (by omega)]
  obtain ⟨m, rfl⟩ := Int.eq_ofNat_of_zero_le ha
  obtain ⟨k, rfl⟩ := Int.eq_ofNat_of_zero_le hb
  have h := Nat.two_pow_add_eq_or_of_lt (i := 8) (b := k) (by omega) m
  have e1 : (((m : Nat) : Int) * 256).toNat = 2 ^ 8 * m := by omega
  rw [e1, Int.toNat_natCast, ← h]
  omega

theorem valf_nonneg (l : List Int) (h : Byt l) : ∀ a, 0 ≤ a → 0 ≤ valf a l := by
  induction l with
  | nil => intro a ha; exact ha
  | cons x l ih =>
    intro a ha
    have := h x (by simp)
    exact ih (fun y hy => h y (by simp [hy])) (a * 256 + x) (by omega)
theorem valf_lt (l : List Int) (h : Byt l) : ∀ a, 0 ≤ a → valf a l < (a + 1) * 256 ^ l.length := by
  induction l with
  | nil => intro a ha; simp [valf]; omega
  | cons x l ih =>
    intro a ha
    have hx := h x (by simp)
    have h1 := ih (fun y hy => h y (by simp [hy])) (a * 256 + x) (by omega)
    have e : valf a (x :: l) = valf (a * 256 + x) l := rfl
    rw [e, List.length_cons, Int.pow_succ]
    have hp : (0 : Int) < 256 ^ l.length := Int.pow_pos (by decide)
    have h2 : (a * 256 + x + 1) * 256 ^ l.length ≤ ((a + 1) * 256) * 256 ^ l.length := Int.mul_le_mul_of_nonneg_right (by omega) (Int.le_of_lt hp)
    have e2 : (a + 1) * (256 ^ l.length * 256) = ((a + 1) * 256) * 256 ^ l.length := by
      rw [Int.mul_comm (256 ^ l.length) 256, ← Int.mul_assoc]
    omega
theorem pow_le4 (n : Nat) (h : n ≤ 4) : (256 : Int) ^ n ≤ 4294967296 := by
  have h2 : (256 : Nat) ^ n ≤ 256 ^ 4 := Nat.pow_le_pow_right (by decide) h
  have h3 : ((256 ^ n : Nat) : Int) ≤ ((256 ^ 4 : Nat) : Int) := Int.ofNat_le.2 h2
  rw [Int.natCast_pow] at h3
  exact h3
theorem val_range (l : List Int) (h : Byt l) (hl : l.length ≤ 4) : 0 ≤ val l ∧ val l < 4294967296 := by
  refine ⟨valf_nonneg l h 0 (by omega), ?_⟩
  have h1 := valf_lt l h 0 (by omega)
  have h2 := pow_le4 l.length hl
  rw [Int.zero_add, Int.one_mul] at h1
  exact Int.lt_of_lt_of_le h1 h2

theorem rd_at {l : List Int} {i : Nat} {x : Int} {r : List Int} (h : l.drop i = x :: r) : rd l (i : Int) = x ∧ i < l.length ∧ l.drop (i + 1) = r := by
  have hi : i < l.length := by
    by_cases hh : i < l.length
    · exact hh
    · rw [List.drop_eq_nil_of_le (by omega)] at h; cases h
  refine ⟨?_, hi, ?_⟩
  · unfold rd
    rw [List.drop_eq_getElem_cons hi] at h
    injection h with h1 _
    simp [List.getElem?_eq_getElem hi, h1]
  · rw [List.drop_eq_getElem_cons hi] at h
    injection h

theorem folded_l0 (l : List Int) (hm : l.length ≤ 4) (h : Byt l) (r : List Int) : ∀ (k i : Nat) (a : Int), l.drop i = r → i ≤ l.length → r.length < k → 0 ≤ a → (a + 1) * 256 ^ r.length ≤ 4294967296 →
    octet_folded_byte.l0 k a l (l.length : Int) (i : Int) = some (valf a r) := by
  induction r with
  | nil =>
    intro k i a hd hi hk ha hb
    obtain ⟨k, rfl⟩ : ∃ m, k = m + 1 := ⟨k - 1, by simp at hk; omega⟩
    have : l.length ≤ i := by simpa using hd
    simp only [octet_folded_byte.l0]
    rw [if_neg (by omega)]
    rfl
  | cons x r ih =>
    intro k i a hd hi hk ha hb
    obtain ⟨k, rfl⟩ : ∃ m, k = m + 1 := ⟨k - 1, by simp at hk; omega⟩
    obtain ⟨e1, hlt, hr⟩ := rd_at hd
    have hx := h x (by have : x ∈ l.drop i := by rw [hd]; simp
                       exact List.mem_of_mem_drop this)
    have hp : (1 : Int) ≤ 256 ^ r.length := Int.pow_pos (by decide)
    have hb' : ((a + 1) * 256) * 256 ^ r.length ≤ 4294967296 := by
      rw [List.length_cons, Int.pow_succ, Int.mul_comm (256 ^ r.length) 256, ← Int.mul_assoc] at hb; exact hb
    have hb2 : (a + 1) * 256 ≤ 4294967296 := by
      have := Int.mul_le_mul_of_nonneg_left hp (show 0 ≤ (a + 1) * 256 by omega)
      rw [Int.mul_one] at this
      exact Int.le_trans this hb'
    have hb3 : (a * 256 + x + 1) * 256 ^ r.length ≤ 4294967296 :=
      Int.le_trans (Int.mul_le_mul_of_nonneg_right (by omega) (by exact Int.le_trans (by decide) hp)) hb'
    clear hb hb' hp
    simp only [octet_folded_byte.l0]
    rw [if_pos (by omega), if_pos (by omega), if_pos (by omega), e1, or_byte a x ha (by omega) hx.1 hx.2]
    have e2 : wrap64 ((i : Int) + 1) = ((i + 1 : Nat) : Int) := by unfold wrap64; omega
    rw [e2]
    exact ih k (i + 1) (a * 256 + x) hr (by omega) (by simp at hk; omega) (by omega) hb3
theorem folded_val (l : List Int) (hm : l.length ≤ 4) (h : Byt l) : octet_folded_byte.f 5 l = some (val l) := by
  have := folded_l0 l hm h l 5 0 0 rfl (by omega) (by omega) (by omega) (by rw [Int.zero_add, Int.one_mul]; exact pow_le4 _ hm)
  exact this

theorem Byt.drop {l : List Int} (h : Byt l) (n : Nat) : Byt (l.drop n) := fun x hx => h x (List.mem_of_mem_drop hx)
theorem Byt.take {l : List Int} (h : Byt l) (n : Nat) : Byt (l.take n) := fun x hx => h x (List.mem_of_mem_take hx)

/-- the number at a place -/
def rdS (l : List Int) (p x : Int) : Int × Int :=
  if wd x = false then (0, 2) else if p < 0 then (0, 4) else if (l.length : Int) < p + x then (0, 130) else (val ((l.take (p.toNat + x.toNat)).drop p.toNat), 0)

theorem wd_cases {x : Int} (h : wd x = true) : x = 1 ∨ x = 2 ∨ x = 4 := by simpa [wd] using h

theorem num_spec (A : Option Addr) (l : List Int) (c : Nat) (p x v e : Int) (hp : p < 9223372036854775808) (hs : rdS l p x = (v, e)) (hB : Byt l) (hm : l.length ≤ 140737488355328) (hc : l.length ≤ c) (w : World) (hr : Kd.C (Kd.int .u8) w A l.length l) :
    Calls Try.prog 27 #[.slice A l.length c, .int .i64 p, .int .i64 x] w fun e' w' => e' = .returned (.tuple #[.int .u32 v, .int .i64 e]) ∧ Below w.heap.size w w' := by
  unfold rdS at hs
  by_cases h0 : wd x = false
  · rw [if_pos h0] at hs
    injection hs with h1 h2; subst h1 h2
    exact num_arg A l c p x w h0
  · rw [if_neg h0] at hs
    have h0' : wd x = true := by simpa using h0
    have hx := wd_cases h0'
    by_cases h1 : p < 0
    · rw [if_pos h1] at hs
      injection hs with e1 e2; subst e1 e2
      exact num_neg A l c p x w h0' (by simpa using h1)
    · rw [if_neg h1] at hs
      by_cases h2 : (l.length : Int) < p + x
      · rw [if_pos h2] at hs
        injection hs with e1 e2; subst e1 e2
        by_cases h3 : (l.length : Int) < p
        · exact num_far A l c p x w h0' (by omega) (by simpa using h3)
        · exact num_end A l c p x w h0' (by omega) (by omega) (by simp; omega) hm
      · rw [if_neg h2] at hs
        injection hs with e1 e2; subst e1 e2
        obtain ⟨q, rfl⟩ := Int.eq_ofNat_of_zero_le (show 0 ≤ p by omega)
        obtain ⟨y, rfl⟩ := Int.eq_ofNat_of_zero_le (show 0 ≤ x by omega)
        rw [Int.toNat_natCast, Int.toNat_natCast]
        exact num_ok A l c q y w h0' (by omega) (by omega) (by omega) hm hc hr 5 _ (folded_val _ (by rw [List.length_drop, List.length_take]; omega) ((hB.take _).drop _))
theorem read_spec (A : Option Addr) (l : List Int) (c : Nat) (p x v e : Int) (hp : p < 9223372036854775808) (hs : rdS l p x = (v, e)) (hB : Byt l) (hm : l.length ≤ 140737488355328) (hc : l.length ≤ c) (w : World) (hr : Kd.C (Kd.int .u8) w A l.length l) :
    Calls Try.prog 12 #[.slice A l.length c, .int .i64 p, .int .i64 x] w fun e' w' => e' = .returned (.tuple #[.int .u32 v, .int .i64 e]) ∧ Below w.heap.size w w' := by
  have HR := Aside0.mk hr
  have HS := Aside0.mk hs
  have HB := Aside0.mk hB
  clear hr hs hB
  go_enter Try.func12, Try.ntmps12
  go_wp2_with (go_at_call 27; go_loud (refine (num_spec A l c p x v e hp HS.out HB.out hm hc _ HR.out).mono ?_); rintro e' w1 ⟨rfl, hb⟩)
  go_ret2
  exact ⟨rfl, hb⟩

def two (x : Int) : Int := if x = 1 then 256 else if x = 2 then 65536 else 4294967296
def putS (n x : Int) : List Int × Int :=
  if wd x = false then ([], 2) else if two x ≤ n then ([], 4) else ((b4 n).drop (4 - x.toNat), 0)

theorem b4_byt (n : Int) (h0 : 0 ≤ n) (h1 : n < 4294967296) : Byt (b4 n) := by
  intro x hx
  simp [b4] at hx
  omega
theorem put_spec (n x : Int) (m : List Int) (e : Int) (hn : 0 ≤ n ∧ n < 4294967296) (hs : putS n x = (m, e)) (w : World) :
    Calls Try.prog 9 #[.int .u32 n, .int .i64 x] w fun e' w' => ∃ B d, e' = .returned (.tuple #[.slice B m.length d, .int .i64 e]) ∧ Kd.R (Kd.int .u8) 5 w' w.heap.size (fun _ => True) (.slice B m.length d) m ∧ Below w.heap.size w w' := by
  have hby := b4_byt n hn.1 hn.2
  unfold putS at hs
  by_cases h0 : wd x = false
  · rw [if_pos h0] at hs
    injection hs with h1 h2; subst h1 h2
    exact (put_arg n x w h0).mono fun _ _ ⟨h, hb⟩ => ⟨none, 0, h, Kd.R_nil _ _ _ _ _, hb⟩
  · rw [if_neg h0] at hs
    have h0' : wd x = true := by simpa using h0
    by_cases h1 : two x ≤ n
    · rw [if_pos h1] at hs
      injection hs with e1 e2; subst e1 e2
      rcases wd_cases h0' with rfl | rfl | rfl
      · have := put1_big n w hn _ (folded_val _ (by simp [b4]) (hby.take _)) (by simp [two] at h1; simp [val, valf, b4]; omega)
        exact this.mono fun _ _ ⟨h, hb⟩ => ⟨none, 0, h, Kd.R_nil _ _ _ _ _, hb⟩
      · have := put2_big n w hn _ (folded_val _ (by simp [b4]) (hby.take _)) (by simp [two] at h1; simp [val, valf, b4]; omega)
        exact this.mono fun _ _ ⟨h, hb⟩ => ⟨none, 0, h, Kd.R_nil _ _ _ _ _, hb⟩
      · simp [two] at h1; omega
    · rw [if_neg h1] at hs
      injection hs with e1 e2; subst e1 e2
      rcases wd_cases h0' with rfl | rfl | rfl
      · have := put1_ok n w hn _ (folded_val _ (by simp [b4]) (hby.take _)) (by simp [two] at h1; simp [val, valf, b4]; omega)
        exact this.mono fun _ _ ⟨v, h, hR, hb⟩ => by
          obtain ⟨B, d, rfl⟩ := Kd.R_slice hR
          exact ⟨B, d, h, hR, hb⟩
      · have := put2_ok n w hn _ (folded_val _ (by simp [b4]) (hby.take _)) (by simp [two] at h1; simp [val, valf, b4]; omega)
        exact this.mono fun _ _ ⟨v, h, hR, hb⟩ => by
          obtain ⟨B, d, rfl⟩ := Kd.R_slice hR
          exact ⟨B, d, h, hR, hb⟩
      · have := put4_ok n w hn _ (folded_val _ (by simp [b4]) (hby.take _)) (by simp [val, valf, b4])
        exact this.mono fun _ _ ⟨v, h, hR, hb⟩ => by
          obtain ⟨B, d, rfl⟩ := Kd.R_slice hR
          exact ⟨B, d, h, hR, hb⟩
end Go.Proofs.Ytheocodbceidlaa.A
