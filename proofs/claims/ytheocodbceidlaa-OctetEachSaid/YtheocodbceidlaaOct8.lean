/- octet: the law on a number's bytes, all its ways together. -/
import Derived.Test.YtheocodbceidlaaOct7
set_option linter.unusedVariables false
set_option linter.unusedSimpArgs false
namespace Go.Proofs.Ytheocodbceidlaa.A
open Go.RowKit Go.Proofs.YtheocodbceidlaaW.PrintWords Go.Proofs.YtheocodbceidlaaW.PrintLast Go.Proofs.YtheocodbceidlaaW.PrintMore Go.Proofs.Ytheocodbceidlaa.POctetPuts

theorem putS_ok {n x : Int} {m : List Int} (hn : 0 ≤ n ∧ n < 4294967296) (h : putS n x = (m, 0)) : wd x = true ∧ (m.length : Int) = x ∧ val m = n ∧ Byt m := by
  have hb := b4_byt n hn.1 hn.2
  unfold putS at h
  by_cases h0 : wd x = false
  · rw [if_pos h0] at h; injection h with _ e; cases e
  · rw [if_neg h0] at h
    have h0' : wd x = true := by simpa using h0
    by_cases h1 : two x ≤ n
    · rw [if_pos h1] at h; injection h with _ e; cases e
    · rw [if_neg h1] at h
      injection h with e _
      subst e
      refine ⟨h0', ?_, ?_, hb.drop _⟩
      · rcases wd_cases h0' with rfl | rfl | rfl <;> simp [b4]
      · rcases wd_cases h0' with rfl | rfl | rfl <;> simp [b4, val, valf, two] at h1 ⊢ <;> omega
theorem mid_of (l2 m l3 : List Int) : ((l2 ++ m ++ l3).take (l2.length + m.length)).drop l2.length = m := by
  rw [List.append_assoc, List.take_length_add_append, List.drop_append_of_le_length (Nat.le_refl _)]
  simp
theorem rdS_mid {x v : Int} (l2 m l3 : List Int) (hx : wd x = true) (hm : (m.length : Int) = x) (hv : val m = v) : rdS (l2 ++ m ++ l3) l2.length x = (v, 0) := by
  unfold rdS
  rw [if_neg (by simp [hx]), if_neg (by omega), if_neg (by simp; omega)]
  have e1 : (l2.length : Int).toNat = l2.length := by omega
  have e2 : x.toNat = m.length := by omega
  rw [e1, e2, mid_of, hv]
theorem putS_err {n x : Int} {m : List Int} {e : Int} (h : putS n x = (m, e)) (he : e ≠ 0) : (e != 0) = true := by simpa using he

theorem puts_walk (n : Int) (hn : (Lit.int .u32 n).wf = true) (x : Int) (hx : (Lit.int .i64 x).wf = true)
    (A2 : Option Addr) (l2 : List Int) (c2 : Nat) {w : World} (hr2 : Kd.C (Kd.int .u8) w A2 l2.length l2) (hc2 : l2.length ≤ c2) (hw2 : ∀ y ∈ l2, (Lit.int .u8 y).wf = true) (hm2 : l2.length * 1 ≤ 140737488351232)
    (A3 : Option Addr) (l3 : List Int) (c3 : Nat) (hr3 : Kd.C (Kd.int .u8) w A3 l3.length l3) (hc3 : l3.length ≤ c3) (hw3 : ∀ y ∈ l3, (Lit.int .u8 y).wf = true) (hm3 : l3.length * 1 ≤ 140737488351232) (w' : World) (hw : w' = w) :
    Calls Try.prog 3 #[.int .u32 n, .int .i64 x, .slice A2 l2.length c2, .slice A3 l3.length c3] w' fun e w' => e = .returned (.bool true) ∧ Below w.heap.size w w' := by
  subst hw
  have hn' := bounds_u32 hn
  have hn2 : 0 ≤ n ∧ n < 4294967296 := by omega
  by_cases h40 : 40 < l2.length ∨ 40 < l3.length
  · exact puts_long n x A2 A3 _ c2 _ c3 _ (by omega) (by omega) h40
  · obtain ⟨m, e, hs⟩ : ∃ m e, putS n x = (m, e) := ⟨_, _, rfl⟩
    by_cases he : e = 0
    · subst he
      obtain ⟨hx1, hml, hv, hby⟩ := putS_ok hn2 hs
      have hx4 := wd_cases hx1
      refine puts_ok n x hn2 m hs A2 A3 l2 l3 c2 c3 _ (by omega) (by omega) hr2 hc2 hr3 hc3 ?_ (by omega) (rdS_mid l2 m l3 hx1 hml hv)
      intro y hy
      simp only [List.mem_append] at hy
      rcases hy with (hy | hy) | hy
      · exact byt_of_wf hw2 y hy
      · exact hby y hy
      · exact byt_of_wf hw3 y hy
    · exact puts_err n x hn2 m e hs (putS_err hs he) A2 A3 _ c2 _ c3 _ (by omega) (by omega)
end Go.Proofs.Ytheocodbceidlaa.A
