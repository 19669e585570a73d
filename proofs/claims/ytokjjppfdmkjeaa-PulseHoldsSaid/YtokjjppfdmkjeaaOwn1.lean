/- config: which prefixes may be owned: the plain law. -/
import Derived.Test.YtokjjppfdmkjeaaCfg1
set_option linter.unusedVariables false
set_option linter.unusedSimpArgs false
namespace Go.Proofs.Ytokjjppfdmkjeaa.A
open Go.RowKit Go.Proofs.YtokjjppfdmkjeaaW.PrintWords Go.Proofs.YtokjjppfdmkjeaaW.PrintLast Go.Proofs.YtokjjppfdmkjeaaW.PrintMore Go.Proofs.Ytokjjppfdmkjeaa.PPulseHolds

abbrev Pfx := S81
abbrev atP (l : List Pfx) (i : Int) : Pfx := rd_T81 l i
/-- is one in a list? -/
def hasP (l : List Pfx) (a n : Int) : Bool := l.any (fun x => x.f0 == a && x.f1 == n)
def AdrP (l : List Pfx) : Prop := ∀ x ∈ l, Adr x.f0
/-- may the one at a place be owned, behind those ahead of it? -/
def okAt (l : List Pfx) (i : Nat) : Bool := goodN (atP l i).f0 (atP l i).f1 && !(hasP (l.take i) (atP l i).f0 (atP l i).f1)
/-- may prefixes be owned? -/
def ownN (l : List Pfx) : Bool := decide (l.length ≤ 16) && (List.range l.length).all (okAt l)
theorem atP_get (l : List Pfx) (i : Nat) (h : i < l.length) : atP l (i : Int) = l[i] := by
  unfold atP rd_T81
  rw [Int.toNat_natCast, List.getD_eq_getElem?_getD, List.getElem?_eq_getElem h]
  rfl
theorem atP_adr (l : List Pfx) (ha : AdrP l) (i : Nat) (h : i < l.length) : Adr (atP l (i : Int)).f0 := by
  rw [atP_get l i h]
  exact ha _ (List.getElem_mem h)
theorem ownN_true (l : List Pfx) (h : l.length ≤ 16) (hk : ∀ j, j < l.length → okAt l j = true) : ownN l = true := by
  unfold ownN
  rw [decide_eq_true h, Bool.true_and, List.all_eq_true]
  intro x hx
  exact hk x (List.mem_range.1 hx)
theorem ownN_false (l : List Pfx) (i : Nat) (h : i < l.length) (hk : okAt l i = false) : ownN l = false := by
  unfold ownN
  cases hc : (List.range l.length).all (okAt l) with
  | false => simp
  | true =>
    rw [List.all_eq_true] at hc
    rw [hc i (List.mem_range.2 h)] at hk
    cases hk
theorem ownN_long (l : List Pfx) (h : ¬ l.length ≤ 16) : ownN l = false := by
  unfold ownN
  rw [decide_eq_false h, Bool.false_and]
theorem index_loop (l : List Pfx) (a n : Int) (hm : l.length ≤ 140737488355328) : ∀ (d i j : Nat), i + d = l.length → ∃ r : Int, api_Prefix_78.l0 (d + 1 + j) l (l.length : Int) (i : Int) a n = some r ∧ decide (r ≥ 0) = (l.drop i).any (fun x => x.f0 == a && x.f1 == n) := by
  intro d
  induction d with
  | zero =>
    intro i j h
    rw [show 0 + 1 + j = j + 1 by omega, api_Prefix_78.l0, if_neg (by omega), List.drop_of_length_le (by omega)]
    exact ⟨-1, rfl, rfl⟩
  | succ d ih =>
    intro i j h
    have hi : i < l.length := by omega
    rw [show d + 1 + 1 + j = (d + 1 + j) + 1 by omega, api_Prefix_78.l0, if_pos (by omega), if_pos (by omega), if_pos (by omega)]
    have e := atP_get l i hi
    unfold atP at e
    rw [e, List.drop_eq_getElem_cons hi, List.any_cons]
    by_cases hc : (a == l[i].f0 && n == l[i].f1) = true
    · rw [if_pos hc]
      have hc' : (l[i].f0 == a && l[i].f1 == n) = true := by
        simp only [Bool.and_eq_true, beq_iff_eq] at hc ⊢
        exact ⟨hc.1.symm, hc.2.symm⟩
      exact ⟨i, rfl, by rw [hc']; simp⟩
    · rw [if_neg hc]
      have hc' : (l[i].f0 == a && l[i].f1 == n) = false := by
        rw [Bool.eq_false_iff]
        intro h
        simp only [Bool.and_eq_true, beq_iff_eq] at hc h
        exact hc ⟨h.1.symm, h.2.symm⟩
      have ew : wrap64 ((i : Int) + 1) = ((i + 1 : Nat) : Int) := by rw [wrap_id (by omega) (by omega)]; omega
      rw [hc', Bool.false_or, ew]
      exact ih (i + 1) j (by omega)
theorem contains_eq (l : List Pfx) (a n : Int) (hm : l.length ≤ 140737488355328) : api_Prefix_74.f (l.length + 1) l a n = some (hasP l a n) := by
  unfold api_Prefix_74.f api_Prefix_78.f hasP
  obtain ⟨r, h1, h2⟩ := index_loop l a n hm l.length 0 0 (by omega)
  rw [Nat.add_zero] at h1
  rw [List.drop_zero] at h2
  have e : ((0 : Nat) : Int) = 0 := rfl
  rw [e] at h1
  rw [h1, Option.bind_some, h2]
theorem refowns_loop (l : List Pfx) (a n : Int) (hm : l.length ≤ 140737488355328) (y0 y1 y2 y3 y4 y5 y6 y7 : Int) : ∀ (d i j : Nat), i + d = l.length → waywardenref08_Owns.l0 (d + 1 + j) (i : Int) y0 y1 y2 y3 y4 y5 y6 y7 l a n = some ((l.drop i).any (fun x => x.f0 == a && x.f1 == n)) := by
  intro d
  induction d with
  | zero =>
    intro i j h
    rw [show 0 + 1 + j = j + 1 by omega, waywardenref08_Owns.l0, if_neg (by omega), List.drop_of_length_le (by omega)]
    rfl
  | succ d ih =>
    intro i j h
    have hi : i < l.length := by omega
    rw [show d + 1 + 1 + j = (d + 1 + j) + 1 by omega, waywardenref08_Owns.l0, if_pos (by omega), if_pos (by omega)]
    have e := atP_get l i hi
    unfold atP at e
    rw [e, List.drop_eq_getElem_cons hi, List.any_cons]
    by_cases hc : (l[i].f0 == a && l[i].f1 == n) = true
    · rw [if_pos hc, hc, Bool.true_or]
    · rw [if_neg hc]
      have ew : wrap64 ((i : Int) + 1) = ((i + 1 : Nat) : Int) := by rw [wrap_id (by omega) (by omega)]; omega
      rw [Bool.eq_false_iff.2 hc, Bool.false_or, ew]
      exact ih (i + 1) j (by omega)
theorem refowns_eq (l : List Pfx) (a n : Int) (hm : l.length ≤ 140737488355328) (y0 y1 y2 y3 y4 y5 y6 y7 : Int) : waywardenref08_Owns.f (l.length + 1) y0 y1 y2 y3 y4 y5 y6 y7 l a n = some (hasP l a n) := by
  unfold waywardenref08_Owns.f hasP
  have h := refowns_loop l a n hm y0 y1 y2 y3 y4 y5 y6 y7 l.length 0 0 (by omega)
  rw [Nat.add_zero, List.drop_zero] at h
  exact h
theorem tell_good (a n : Int) : tellN a n 1 = goodN a n := by
  unfold tellN goodN
  simp
/-- an entry of a prefix, and an error -/
theorem Of_any (a n : Int) (ha : Adr a) (w : World) : Calls Try.prog 73 #[.agg #[.int .u32 a, .int .i64 n], .int .i64 1] w fun e w' => (∃ v0 v1 v2 v3 v4 v5 : Int, e = .returned (.tuple #[.agg #[.int .i64 v0, .int .i64 v1, .int .u32 v2, .int .u32 v3, .int .u32 v4, .int .u32 v5], .int .i64 (if goodN a n then 0 else 2)])) ∧ Below w.heap.size w w' := by
  have hR := right_any a n 1 ha
  rw [tell_good] at hR
  cases h : goodN a n with
  | false =>
    rw [h] at hR
    refine (Of_no a n 1 hR w).mono ?_
    rintro e w' ⟨rfl, hb⟩
    exact ⟨⟨0, 0, 0, 0, 0, 0, rfl⟩, hb⟩
  | true =>
    rw [h] at hR
    have hr : rightP a n = true := by
      unfold goodN at h
      rw [Bool.and_eq_true] at h
      exact h.1
    refine (Of_yes a n 1 hR (Mask_in n (rightP_in a n hr)) (by omega) (by omega) w).mono ?_
    rintro e w' ⟨rfl, hb⟩
    exact ⟨⟨2, 0, a, maskN n, 0, 1, rfl⟩, hb⟩
end Go.Proofs.Ytokjjppfdmkjeaa.A
