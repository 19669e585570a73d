/- config: which spans count. -/
import Derived.Test.YtegdcalefpobeaaSpn1
import Derived.Laws.RangeAny
set_option linter.unusedVariables false
set_option linter.unusedSimpArgs false
namespace Go.Proofs.Ytegdcalefpobeaa.A
open Go.RowKit Go.Proofs.YtegdcalefpobeaaW.PrintWords Go.Proofs.YtegdcalefpobeaaW.PrintLast Go.Proofs.YtegdcalefpobeaaW.PrintMore Go.Proofs.Ytegdcalefpobeaa.PConfigChecks
set_option maxHeartbeats 1000000 in
theorem counts_no (s : ByteArray) (c : Int) (hs : s.size ≤ 1000) (h0 : 0 < s.size) (hc : ((s[0]'h0).toNat : Int) = c) (hq : c = 113 ∨ c = 115) (w : World) : Calls Try.prog 46 #[.string s] w fun e w' => e = .returned (.bool false) ∧ Below w.heap.size w w' := by
  have hnx : ∀ ty, (Instr.next (.pointer (some ⟨w.heap.size, 0, none⟩)) true ty).run Try.prog (w.iter s 0) = .ok (.tuple #[.bool true, .int .i64 0, .int .i32 c]) (w.iter s (0 + 1)) := by
    intro ty
    rw [← hc]
    exact run_next_ascii w s 0 ty h0 (by omega)
  clear hc h0
  rcases hq with rfl | rfl
  all_goals
    go_enter Try.func46, Try.ntmps46
    go_wp2
    refine wp_loop_rounds 1 ?_
    rw [rounds_succ]
    go_wp2
    go_ret
    exact ⟨rfl, below_alloc (Below.refl _ _) _⟩
set_option maxHeartbeats 1000000 in
theorem counts_yes (s : ByteArray) (hs : s.size ≤ 1000) (ha : ∀ i (h : i < s.size), (s[i]'h).toNat < 128) (hq : ∀ h : 0 < s.size, (s[0]'h).toNat ≠ 113 ∧ (s[0]'h).toNat ≠ 115) (w : World) : Calls Try.prog 46 #[.string s] w fun e w' => e = .returned (.bool true) ∧ Below w.heap.size w w' := by
  have HA := Aside0.mk ha
  have HQ := Aside0.mk hq
  clear ha hq
  go_enter Try.func46, Try.ntmps46
  go_wp2
  go_loopw [3] (fun v3 wr => ∃ pos : Nat, wr = w.iter s pos ∧ pos ≤ s.size) (fun _ wr => s.size - wr.iterPos w.heap.size)
  case atStart => exact ⟨0, rfl, Nat.zero_le _⟩
  case round =>
    obtain ⟨pos, rfl, hp⟩ := hrel
    by_cases hlt : pos < s.size
    · have hnx := fun ty => run_next_ascii (P := Try.prog) w s pos ty hlt (HA.out pos hlt)
      by_cases h0 : pos = 0
      · subst h0
        obtain ⟨q1, q2⟩ := HQ.out hlt
        obtain ⟨c, hc⟩ : ∃ c : Int, ((s[0]'hlt).toNat : Int) = c := ⟨_, rfl⟩
        rw [hc] at hnx
        have q3 : (c == 113) = false := by rw [← hc, beq_eq_false_iff_ne]; omega
        have q4 : (c == 115) = false := by rw [← hc, beq_eq_false_iff_ne]; omega
        clear hc q1 q2
        go_wp2
        go_roundw
        case rel => exact ⟨_, rfl, by omega⟩
        case measure => simp; omega
      · have h1 : ((pos : Int) == 0) = false := by rw [beq_eq_false_iff_ne]; omega
        go_wp2
        go_roundw
        case rel => exact ⟨_, rfl, by omega⟩
        case measure => simp; omega
    · have hnx := fun ty => run_next_end (P := Try.prog) w s pos ty hlt
      go_wp2
      go_ret
      exact ⟨rfl, below_alloc (Below.refl _ _) _⟩
end Go.Proofs.Ytegdcalefpobeaa.A
