/- octet: the law on a number's bytes. -/
import Derived.Test.YtheocodbceidlaaOct5
import Derived.OpenShut
set_option linter.unusedVariables false
set_option linter.unusedSimpArgs false
namespace Go.Proofs.Ytheocodbceidlaa.A
open Go.RowKit Go.Proofs.YtheocodbceidlaaW.PrintWords Go.Proofs.YtheocodbceidlaaW.PrintLast Go.Proofs.YtheocodbceidlaaW.PrintMore Go.Proofs.Ytheocodbceidlaa.POctetPuts

theorem tdm (n : Int) (h : 0 ≤ n) (h2 : n < 4294967296) : Int.tdiv n 256 % 4294967296 = n / 256 ∧ Int.tmod n 256 % 256 = n % 256 := by
  rw [Int.tdiv_eq_ediv_of_nonneg h, Int.tmod_eq_emod_of_nonneg h]
  omega
theorem refput (n x : Int) (hn : 0 ≤ n ∧ n < 4294967296) : waywardenref03_Put.f 6 n x = some (putS n x) := by
  have t0 := tdm n hn.1 hn.2
  have t1 := tdm (n / 256) (by omega) (by omega)
  have t2 := tdm (n / 256 / 256) (by omega) (by omega)
  have t3 := tdm (n / 256 / 256 / 256) (by omega) (by omega)
  have w1 : wrap64 0 = 0 := by unfold wrap64; omega
  have w2 : wrap64 1 = 1 := by unfold wrap64; omega
  have w4 : wrap64 3 = 3 := by unfold wrap64; omega
  have v0 : wrap64 (-1) = -1 := by unfold wrap64; omega
  have v2 : wrap64 2 = 2 := by unfold wrap64; omega
  unfold waywardenref03_Put.f waywardenref03_right.f putS
  by_cases h1 : x = 1
  · subst h1
    simp [wd, two, w1, v0, waywardenref03_Put.l0, t0.1, t0.2, b4]
    by_cases h : 256 ≤ n
    · rw [if_pos (by omega), if_pos h]
    · rw [if_neg (by omega), if_neg h]
  · by_cases h2 : x = 2
    · subst h2
      simp [wd, two, w1, w2, v0, waywardenref03_Put.l0, t0.1, t0.2, t1.1, t1.2, b4]
      by_cases h : 65536 ≤ n
      · rw [if_pos (by omega), if_pos h]
      · rw [if_neg (by omega), if_neg h]
    · by_cases h4 : x = 4
      · subst h4
        simp [wd, two, w1, w2, w4, v0, v2, waywardenref03_Put.l0, t0.1, t0.2, t1.1, t1.2, t2.1, t2.2, t3.1, t3.2, b4]
        rw [if_neg (by omega), if_neg (by omega)]
        simp
        omega
      · simp [wd, h1, h2, h4]
theorem byt_of_wf {l : List Int} (h : ∀ x ∈ l, (Lit.int .u8 x).wf = true) : Byt l := by
  intro x hx
  have := bounds_u8 (h x hx)
  omega
end Go.Proofs.Ytheocodbceidlaa.A
