/- octet: the law on the numbers that stand one behind the other, its ways together. -/
import Derived.Test.YtheocodbceidlaaEch2
set_option linter.unusedVariables false
set_option linter.unusedSimpArgs false
namespace Go.Proofs.Ytheocodbceidlaa.A
open Go.RowKit Go.Shelf Go.Proofs.YtheocodbceidlaaW.PrintWords Go.Proofs.YtheocodbceidlaaW.PrintLast Go.Proofs.YtheocodbceidlaaW.PrintMore

set_option maxRecDepth 100000 in
theorem each_long (A : Option Addr) (n c : Nat) (x many : Int) (w : World) (h1 : n ≤ 140737488351232) (h : 100 < n) :
    Calls Try.prog 7 #[.slice A n c, .int .i64 x, .int .i64 many] w fun e w' => e = .returned (.bool true) ∧ Below w.heap.size w w' := by
  have ha' : decide ((100 : Int) < (n : Int)) = true := by simp; omega
  clear h
  go_enter Try.func7, Try.ntmps7
  go_wp2_with (go_at_call 8; (with_reducible refine (works_any _).mono ?_); rintro e w1 ⟨rfl, hb⟩; have b0 := Boxed.new ((w.alloc (.cells #[.int .i64 x] 3)).alloc (.cells #[.int .i64 many] 3)) 4 (.bool false); have b1 := Boxed.below b0 hb b0.lt; simp only [World.size_alloc] at b1; have cr := b1.cell; have fr := b1.frozen; have B1 := Aside0.mk b1; have HB := Aside0.mk hb; clear b0 b1 hb)
  have x1 := (Boxed.set (.bool true) B1.out).cell
  have hz := HB.out.size
  refine bodyPost_ret (v := .bool true) (by simp [results, Try.results7, go_sem, x1]) rfl ⟨rfl, ?_⟩
  exact (below_then (below_alloc (below_two w _ _) _) (by simp; omega) HB.out).setCell (p := ⟨w.heap.size + 1 + 1, 0, none⟩) (by simp; omega) _
theorem each_walk (A : Option Addr) (l : List Int) (c : Nat) {w : World} (hr : Kd.C (Kd.int .u8) w A l.length l) (hc : l.length ≤ c) (hw : ∀ y ∈ l, (Lit.int .u8 y).wf = true) (hm : l.length * 1 ≤ 140737488351232)
    (x : Int) (hx : (Lit.int .i64 x).wf = true) (many : Int) (hmn : (Lit.int .i64 many).wf = true) (w' : World) (hw' : w' = w) :
    Calls Try.prog 7 #[.slice A l.length c, .int .i64 x, .int .i64 many] w' fun e w' => e = .returned (.bool true) ∧ Below w.heap.size w w' := by
  subst hw'
  by_cases h : 100 < l.length
  · exact each_long A _ c x many _ (by omega) h
  · exact each_short A l c x many _ (by omega) (bounds_i64 hx) (bounds_i64 hmn) hr hc (byt_of_wf hw)
end Go.Proofs.Ytheocodbceidlaa.A
