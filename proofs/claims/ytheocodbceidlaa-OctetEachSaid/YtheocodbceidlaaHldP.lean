/- octet: numbers of one width stand in the order of their bytes: no program here. -/
import Derived.Test.YtheocodbceidlaaOct8
import Derived.WalkLawsBesides
set_option linter.unusedVariables false
set_option linter.unusedSimpArgs false
namespace Go.Proofs.Ytheocodbceidlaa.A
open Go.RowKit Go.Proofs.YtheocodbceidlaaW.PrintWords Go.Proofs.YtheocodbceidlaaW.PrintLast Go.Proofs.YtheocodbceidlaaW.PrintMore

theorem valf_ge (l : List Int) (h : Byt l) : ∀ a, a * 256 ^ l.length ≤ valf a l := by
  induction l with
  | nil => intro a; simp [valf]
  | cons x l ih =>
    intro a
    have hx := h x (by simp)
    have h1 := ih (fun y hy => h y (by simp [hy])) (a * 256 + x)
    have hp : (0 : Int) < 256 ^ l.length := Int.pow_pos (by decide)
    have h2 : (a * 256) * 256 ^ l.length ≤ (a * 256 + x) * 256 ^ l.length := Int.mul_le_mul_of_nonneg_right (by clear h1 hp; omega) (Int.le_of_lt hp)
    have e : valf a (x :: l) = valf (a * 256 + x) l := rfl
    rw [e, List.length_cons, Int.pow_succ, Int.mul_comm (256 ^ l.length) 256, ← Int.mul_assoc]
    exact Int.le_trans h2 h1
theorem valf_mono (a b : List Int) (ha : Byt a) (hb : Byt b) (hl : a.length = b.length) (p q : Int) (hp : 0 ≤ p) (hpq : p < q) : valf p a < valf q b := by
  have h1 := valf_lt a ha p hp
  have h2 := valf_ge b hb q
  have hpw : (0 : Int) < 256 ^ b.length := Int.pow_pos (by decide)
  rw [hl] at h1
  have h3 : (p + 1) * 256 ^ b.length ≤ q * 256 ^ b.length := Int.mul_le_mul_of_nonneg_right (by clear h1 h2 hpw; omega) (Int.le_of_lt hpw)
  exact Int.lt_of_lt_of_le h1 (Int.le_trans h3 h2)
def u8s (l : List Int) : List UInt8 := l.map fun n => UInt8.ofNat n.toNat
theorem u8_lt (x y : Int) (hx : 0 ≤ x ∧ x < 256) (hy : 0 ≤ y ∧ y < 256) : (UInt8.ofNat x.toNat < UInt8.ofNat y.toNat ↔ x < y) ∧ (UInt8.ofNat x.toNat = UInt8.ofNat y.toNat ↔ x = y) := by
  constructor
  · rw [UInt8.lt_iff_toNat_lt, UInt8.toNat_ofNat', UInt8.toNat_ofNat']
    omega
  · rw [← UInt8.toNat_inj, UInt8.toNat_ofNat', UInt8.toNat_ofNat']
    omega
theorem less_val (a : List Int) : ∀ (b : List Int), Byt a → Byt b → a.length = b.length → ∀ p, 0 ≤ p → Op.bytesLess (u8s a) (u8s b) = decide (valf p a < valf p b) := by
  induction a with
  | nil =>
    intro b ha hb hl p hp
    cases b with
    | nil => simp [u8s, Op.bytesLess, valf]
    | cons y b => simp at hl
  | cons x a ih =>
    intro b ha hb hl p hp
    cases b with
    | nil => simp at hl
    | cons y b =>
      have hx := ha x (by simp)
      have hy := hb y (by simp)
      have ha' : Byt a := fun z hz => ha z (by simp [hz])
      have hb' : Byt b := fun z hz => hb z (by simp [hz])
      have hl' : a.length = b.length := by simpa using hl
      have e1 : valf p (x :: a) = valf (p * 256 + x) a := rfl
      have e2 : valf p (y :: b) = valf (p * 256 + y) b := rfl
      have u := u8_lt x y hx hy
      simp only [u8s, List.map_cons, Op.bytesLess]
      rw [e1, e2]
      rcases Int.lt_trichotomy x y with h | h | h
      · have := valf_mono a b ha' hb' hl' (p * 256 + x) (p * 256 + y) (by omega) (by omega)
        simp [u.1.2 h, this]
      · subst h
        have := ih b ha' hb' hl' (p * 256 + x) (by omega)
        simp only [u8s] at this
        rw [this]
        simp
      · have := valf_mono b a hb' ha' hl'.symm (p * 256 + y) (p * 256 + x) (by omega) (by omega)
        have n1 : ¬ UInt8.ofNat x.toNat < UInt8.ofNat y.toNat := fun hh => by have := u.1.1 hh; omega
        have n2 : ¬ UInt8.ofNat x.toNat = UInt8.ofNat y.toNat := fun hh => by have := u.2.1 hh; omega
        have n3 : ¬ valf (p * 256 + x) a < valf (p * 256 + y) b := by omega
        simp [n1, n2, n3]
theorem toList_data (s : ByteArray) : s.toList = s.data.toList := by
  exact ByteArray.toList_eq s
theorem str_less (a b : List Int) (ha : Byt a) (hb : Byt b) (hl : a.length = b.length) : Op.bytesLess (strOfNums a).toList (strOfNums b).toList = decide (val a < val b) := by
  rw [toList_data, toList_data, strOfNums_data, strOfNums_data]
  exact less_val a b ha hb hl 0 (by omega)
end Go.Proofs.Ytheocodbceidlaa.A
