/- octet: the walk of the law on a number's bytes. -/
import Derived.Test.YtheocodbceidlaaOct6
set_option linter.unusedVariables false
set_option linter.unusedSimpArgs false
namespace Go.Proofs.Ytheocodbceidlaa.A
open Go.RowKit Go.Proofs.YtheocodbceidlaaW.PrintWords Go.Proofs.YtheocodbceidlaaW.PrintLast Go.Proofs.YtheocodbceidlaaW.PrintMore Go.Proofs.Ytheocodbceidlaa.POctetPuts

theorem read_at (A : Option Addr) (l : List Int) (c : Nat) (p x v e : Int) (n : Nat) (hn : l.length = n) (hp : p < 9223372036854775808) (hs : rdS l p x = (v, e)) (hB : Byt l) (hm : n ≤ 140737488355328) (hc : n ≤ c) (w : World) (hr : Kd.C (Kd.int .u8) w A l.length l) :
    Calls Try.prog 12 #[.slice A n c, .int .i64 p, .int .i64 x] w fun e' w' => e' = .returned (.tuple #[.int .u32 v, .int .i64 e]) ∧ Below w.heap.size w w' := by
  subst hn
  exact read_spec A l c p x v e hp hs hB hm hc w hr

theorem puts_long (n x : Int) (A2 A3 : Option Addr) (n2 c2 n3 c3 : Nat) (w : World) (h2 : n2 ≤ 140737488351232) (h3 : n3 ≤ 140737488351232) (h : 40 < n2 ∨ 40 < n3) :
    Calls Try.prog 3 #[.int .u32 n, .int .i64 x, .slice A2 n2 c2, .slice A3 n3 c3] w fun e w' => e = .returned (.bool true) ∧ Below w.heap.size w w' := by
  by_cases ha : 40 < n2
  · have ha' : decide ((40 : Int) < (n2 : Int)) = true := by simp; omega
    clear h
    go_enter Try.func3, Try.ntmps3
    go_wp2_with (go_at_call 8; (with_reducible refine (works_any _).mono ?_); rintro e w1 ⟨rfl, hb⟩)
    go_ret
    exact ⟨rfl, hb⟩
  · have ha' : decide ((40 : Int) < (n2 : Int)) = false := by simp; omega
    have hb' : decide ((40 : Int) < (n3 : Int)) = true := by simp; omega
    clear h
    go_enter Try.func3, Try.ntmps3
    go_wp2_with (go_at_call 8; (with_reducible refine (works_any _).mono ?_); rintro e w1 ⟨rfl, hb⟩)
    go_ret
    exact ⟨rfl, hb⟩
set_option maxHeartbeats 1000000 in
theorem puts_err (n x : Int) (hn : 0 ≤ n ∧ n < 4294967296) (m : List Int) (e : Int) (hs : putS n x = (m, e)) (he : (e != 0) = true) (A2 A3 : Option Addr) (n2 c2 n3 c3 : Nat) (w : World) (h2 : n2 ≤ 40) (h3 : n3 ≤ 40) :
    Calls Try.prog 3 #[.int .u32 n, .int .i64 x, .slice A2 n2 c2, .slice A3 n3 c3] w fun e w' => e = .returned (.bool true) ∧ Below w.heap.size w w' := by
  have ha' : decide ((40 : Int) < (n2 : Int)) = false := by simp; omega
  have hb' : decide ((40 : Int) < (n3 : Int)) = false := by simp; omega
  have HS := Aside0.mk hs
  have HN := Aside0.mk hn
  clear hs hn
  go_enter Try.func3, Try.ntmps3
  go_wp2_with fail
  refine (put_spec n x m e HN.out HS.out _).mono ?_
  rintro e1 w1 ⟨B, d, rfl, hR, hb⟩
  have HR1 := Aside0.mk hR; clear hR
  have K := Aside0.mk hb; clear hb
  go_wp2_with fail
  refine (waywardenref03_Put.calls 6 n x m e _ (by rw [refput n x HN.out, HS.out])).mono ?_
  rintro e2 w2 ⟨v, rfl, hR2, hb2⟩
  obtain ⟨B2, d2, rfl⟩ := Kd.R_slice hR2
  have hcv : (convert 23 9 (.slice B m.length d)).run Try.prog w2 = .ok (.string (strOfNums m)) w2 := Kd.C_string Try.underlying23 Try.underlying5 Try.underlying9 (Kd.C_below (Kd.R_reads' HR1.out).2.2 hb2)
  have hcv2 : (convert 23 9 (.slice B2 m.length d2)).run Try.prog w2 = .ok (.string (strOfNums m)) w2 := Kd.C_string Try.underlying23 Try.underlying5 Try.underlying9 (Kd.R_reads' hR2).2.2
  have HR2 := Aside0.mk hR2; clear hR2
  replace K := Aside0.mk (below_then K.out K.out.size hb2); clear hb2
  go_wp2_with (first | (go_at_call 11; (with_reducible refine (num_any _ _).mono ?_); rintro e w' ⟨rfl, rfl⟩) | (go_at_call 8; (with_reducible refine (works_any _).mono ?_); rintro e w3 ⟨rfl, hb3⟩))
  go_ret
  exact ⟨rfl, below_then K.out K.out.size hb3⟩
set_option maxHeartbeats 1000000 in
theorem puts_ok (n x : Int) (hn : 0 ≤ n ∧ n < 4294967296) (m : List Int) (hs : putS n x = (m, 0)) (A2 A3 : Option Addr) (l2 l3 : List Int) (c2 c3 : Nat) (w : World) (h2 : l2.length ≤ 40) (h3 : l3.length ≤ 40)
    (hr2 : Kd.C (Kd.int .u8) w A2 l2.length l2) (hc2 : l2.length ≤ c2) (hr3 : Kd.C (Kd.int .u8) w A3 l3.length l3) (hc3 : l3.length ≤ c3) (hby : Byt (l2 ++ m ++ l3)) (hml : m.length ≤ 4) (hrd : rdS (l2 ++ m ++ l3) l2.length x = (n, 0)) :
    Calls Try.prog 3 #[.int .u32 n, .int .i64 x, .slice A2 l2.length c2, .slice A3 l3.length c3] w fun e w' => e = .returned (.bool true) ∧ Below w.heap.size w w' := by
  have ha' : decide ((40 : Int) < (l2.length : Int)) = false := by simp; omega
  have hb' : decide ((40 : Int) < (l3.length : Int)) = false := by simp; omega
  have HS := Aside0.mk hs
  have HN := Aside0.mk hn
  have HR2 := Aside0.mk hr2
  have HR3 := Aside0.mk hr3
  have HBY := Aside0.mk hby
  have HRD := Aside0.mk hrd
  clear hs hn hr2 hr3 hby hrd
  go_enter Try.func3, Try.ntmps3
  go_wp2_with fail
  refine (put_spec n x m 0 HN.out HS.out _).mono ?_
  rintro e1 w1 ⟨B, d, rfl, hR, hb⟩
  have HM := Aside0.mk hR; clear hR
  have K := Aside0.mk hb; clear hb
  go_wp2_with fail
  refine (waywardenref03_Put.calls 6 n x m 0 _ (by rw [refput n x HN.out, HS.out])).mono ?_
  rintro e2 w2 ⟨v, rfl, hR2, hb2⟩
  obtain ⟨B2, d2, rfl⟩ := Kd.R_slice hR2
  have HM2 := Aside0.mk (Kd.C_below (Kd.R_reads' HM.out).2.2 hb2)
  have hcv : (convert 23 9 (.slice B m.length d)).run Try.prog w2 = .ok (.string (strOfNums m)) w2 := Kd.C_string Try.underlying23 Try.underlying5 Try.underlying9 HM2.out
  have hcv2 : (convert 23 9 (.slice B2 m.length d2)).run Try.prog w2 = .ok (.string (strOfNums m)) w2 := Kd.C_string Try.underlying23 Try.underlying5 Try.underlying9 (Kd.R_reads' hR2).2.2
  clear hR2
  replace K := Aside0.mk (below_then K.out K.out.size hb2); clear hb2
  replace HR2 := Aside0.mk (Kd.C_below HR2.out K.out)
  replace HR3 := Aside0.mk (Kd.C_below HR3.out K.out)
  go_wp2_with (first
    | (go_at_call 11; (with_reducible refine (num_any _ _).mono ?_); rintro e w' ⟨rfl, rfl⟩)
    | (at_builtin; refine Kd.R_append_row (w0 := w2) (Value.int .u8) (0:Int) (h1 := fun _ => rfl) w2.heap.size rfl (.tmp 51) (.tmp 52) 23 5 (.int .u8 0) 1 rfl Try.underlying23 rfl rfl (by decide) _ [] l2 A2 l2.length c2 (fun _ => True) rfl rfl (fun _ _ => trivial) (R_lit0 .u8 5 [] w2 w2.heap.size (Nat.le_refl _) (by decide)) (Kd.C_alloc HR2.out _) (below_alloc (Below.refl _ _) _) (by simp) (by simp; omega) ?_; intro v1 w3 hR1 hB1 _ _; have R1 := Aside0.mk hR1; have K1 := Aside0.mk hB1; clear hR1 hB1)
    | (at_builtin; refine Kd.R_append_row (w0 := w2) (Value.int .u8) (0:Int) (h1 := fun _ => rfl) w2.heap.size rfl (.tmp 53) (.tmp 54) 23 5 (.int .u8 0) 1 rfl Try.underlying23 rfl rfl (by decide) _ ([] ++ l2) m B m.length d (fun _ => True) rfl rfl (fun _ _ => trivial) R1.out (Kd.C_below HM2.out K1.out) K1.out K1.out.size (by simp; omega) ?_; intro v2 w4 hR1 hB1 _ _; have R2 := Aside0.mk hR1; have K2 := Aside0.mk hB1; clear hR1 hB1)
    | (at_builtin; go_loud (refine Kd.R_append_row (w0 := w2) (Value.int .u8) (0:Int) (h1 := fun _ => rfl) w2.heap.size rfl (.tmp 55) (.tmp 56) 23 5 (.int .u8 0) 1 rfl Try.underlying23 rfl rfl (by decide) _ ([] ++ l2 ++ m) l3 A3 l3.length c3 (fun _ => True) rfl rfl (fun _ _ => trivial) R2.out (Kd.C_below HR3.out K2.out) K2.out K2.out.size (by simp; omega) ?_); intro v3 w5 hR1 hB1 _ _; obtain ⟨N3, C3, k3, hN3, rfl, hk3, hC3, _⟩ := R_any hR1; have R3 := Aside0.mk hC3; have H3 := Aside0.mk hN3; clear hN3 hC3; have K3 := Aside0.mk hB1; clear hR1 hB1)
    | (go_at_call 12; go_loud (refine (read_at _ (l2 ++ m ++ l3) _ l2.length x n 0 _ (by have := H3.out; rwa [List.nil_append] at this) (by omega) HRD.out HBY.out (by have := H3.out; simp at this; omega) hk3 _ (by have := R3.out; rwa [List.nil_append] at this)).mono ?_); rintro e w6 ⟨rfl, hb6⟩)
    | (go_at_call 8; (with_reducible refine (works_any _).mono ?_); rintro e w7 ⟨rfl, hb7⟩))
  go_ret
  exact ⟨rfl, below_then (below_then (below_then K.out K.out.size K3.out) (Nat.le_trans K.out.size K3.out.size) hb6) (Nat.le_trans (Nat.le_trans K.out.size K3.out.size) hb6.size) hb7⟩
end Go.Proofs.Ytheocodbceidlaa.A
