/- addr: an address's kind. No conditions but that it is one. -/
import Derived.Test.YtokjjppfdmkjeaaBase
import Derived.Laws.EntriesVeiled
set_option linter.unusedVariables false
set_option linter.unusedSimpArgs false
namespace Go.Proofs.Ytokjjppfdmkjeaa.A
open Go.RowKit Go.Proofs.YtokjjppfdmkjeaaW.PrintWords Go.Proofs.YtokjjppfdmkjeaaW.PrintLast Go.Proofs.YtokjjppfdmkjeaaW.PrintMore

/-- an address's kind, by its number -/
def kindN (a : Int) : Int :=
  if a = 0 then 1 else if a / 16777216 = 0 then 2 else if a / 16777216 = 127 then 3 else if 224 ≤ a / 16777216 ∧ a / 16777216 ≤ 239 then 4 else if 240 ≤ a / 16777216 then 5 else 6
theorem kindN_range (a : Int) : 1 ≤ kindN a ∧ kindN a ≤ 6 := by
  unfold kindN
  repeat' split
  all_goals omega
set_option maxRecDepth 20000 in
theorem and240 (f : Int) (h : 0 ≤ f ∧ f < 256) : (Go.bits .and .u8 f 240 == 224) = decide (224 ≤ f ∧ f ≤ 239) := by
  rw [Go.u8_and f 240 h.1 h.2 (by decide) (by decide)]
  obtain ⟨m, rfl⟩ := Int.eq_ofNat_of_zero_le h.1
  have hm : m < 256 := by omega
  have key : ∀ k : Nat, k < 256 → ((k &&& 240 = 224) ↔ (224 ≤ k ∧ k ≤ 239)) := by decide
  have := key m hm
  have e : ((m : Int).toNat &&& (240 : Int).toNat) = m &&& 240 := rfl
  rw [e]
  by_cases hc : m &&& 240 = 224
  · rw [hc]
    have := this.1 hc
    symm
    simpa using (by omega : (224 : Int) ≤ m ∧ (m : Int) ≤ 239)
  · have h2 : ¬ (224 ≤ m ∧ m ≤ 239) := fun h => hc (this.2 h)
    have h3 : ¬ ((224 : Int) ≤ m ∧ (m : Int) ≤ 239) := by omega
    have h4 : ¬ (((m &&& 240 : Nat) : Int) = 224) := by omega
    rw [decide_eq_false h3]
    simpa using h4

theorem kinds_any (w : World) : Calls Try.prog 84 #[] w fun e w' => e = .returned (.slice (some ⟨w.heap.size, 0, none⟩) 6 6) ∧ w' = w.alloc (.cells #[.int .i64 1, .func (.func 85) #[] #[], .int .i64 2, .func (.func 86) #[] #[], .int .i64 3, .func (.func 87) #[] #[], .int .i64 4, .func (.func 88) #[] #[], .int .i64 5, .func (.func 89) #[] #[], .int .i64 6, .func (.func 90) #[] #[]] 119) := by
  go_enter Try.func84, Try.ntmps84
  go_wp2
  go_ret
  exact ⟨rfl, rfl⟩

theorem kind1_any (a f : Int) (b : Bool) (h : (a == 0) = b) (w : World) : Calls Try.prog 85 #[.int .u32 a, .int .u8 f] w fun e w' => e = .returned (.bool b) ∧ w = w' := by
  subst h
  go_enter Try.func85, Try.ntmps85
  go_wp2
  go_ret
  exact ⟨rfl, rfl⟩

theorem kind2_any (a f : Int) (b : Bool) (h : (f == 0) = b) (w : World) : Calls Try.prog 86 #[.int .u32 a, .int .u8 f] w fun e w' => e = .returned (.bool b) ∧ w = w' := by
  subst h
  go_enter Try.func86, Try.ntmps86
  go_wp2
  go_ret
  exact ⟨rfl, rfl⟩

theorem kind3_any (a f : Int) (b : Bool) (h : (f == 127) = b) (w : World) : Calls Try.prog 87 #[.int .u32 a, .int .u8 f] w fun e w' => e = .returned (.bool b) ∧ w = w' := by
  subst h
  go_enter Try.func87, Try.ntmps87
  go_wp2
  go_ret
  exact ⟨rfl, rfl⟩

theorem kind4_any (a f : Int) (b : Bool) (h : (Go.bits .and .u8 f 240 == 224) = b) (w : World) : Calls Try.prog 88 #[.int .u32 a, .int .u8 f] w fun e w' => e = .returned (.bool b) ∧ w = w' := by
  subst h
  go_enter Try.func88, Try.ntmps88
  go_wp2
  go_ret
  exact ⟨rfl, rfl⟩

theorem kind5_any (a f : Int) (b : Bool) (h : (decide (240 ≤ f)) = b) (w : World) : Calls Try.prog 89 #[.int .u32 a, .int .u8 f] w fun e w' => e = .returned (.bool b) ∧ w = w' := by
  subst h
  go_enter Try.func89, Try.ntmps89
  go_wp2
  go_ret
  exact ⟨rfl, rfl⟩

theorem kind6_any (a f : Int) (b : Bool) (h : true = b) (w : World) : Calls Try.prog 90 #[.int .u32 a, .int .u8 f] w fun e w' => e = .returned (.bool b) ∧ w = w' := by
  subst h
  go_enter Try.func90, Try.ntmps90
  go_wp2
  go_ret
  exact ⟨rfl, rfl⟩

set_option maxHeartbeats 2000000 in
theorem Kind_1 (a : Int) (ha : 0 ≤ a ∧ a < 4294967296) (h1 : (a == 0) = true) (w : World) : Calls Try.prog 83 #[.int .u32 a] w fun e w' => e = .returned (.int .i64 1) ∧ Below w.heap.size w w' := by
  obtain ⟨ha1, ha2⟩ := ha
  go_enter Try.func83, Try.ntmps83
  go_wp2_with (go_at_call 84; (with_reducible refine (kinds_any _).mono ?_); rintro e w1 ⟨rfl, rfl⟩)
  refine wp_loop_rounds 7 ?_
  rw [rounds_succ]
  go_wp2_with (first | (go_at_call 85; (with_reducible refine (kind1_any _ _ _ h1 _).mono ?_); rintro e w' ⟨rfl, rfl⟩))
  go_ret
  refine ⟨rfl, ?_⟩
  repeat (refine below_alloc ?_ _)
  exact Below.refl _ _

set_option maxHeartbeats 2000000 in
theorem Kind_2 (a : Int) (ha : 0 ≤ a ∧ a < 4294967296) (h1 : (a == 0) = false) (h2 : (a / 16777216 == 0) = true) (w : World) : Calls Try.prog 83 #[.int .u32 a] w fun e w' => e = .returned (.int .i64 2) ∧ Below w.heap.size w w' := by
  obtain ⟨ha1, ha2⟩ := ha
  go_enter Try.func83, Try.ntmps83
  go_wp2_with (go_at_call 84; (with_reducible refine (kinds_any _).mono ?_); rintro e w1 ⟨rfl, rfl⟩)
  refine wp_loop_rounds 7 ?_
  rw [rounds_succ]
  go_wp2_with (first | (go_at_call 85; (with_reducible refine (kind1_any _ _ _ h1 _).mono ?_); rintro e w' ⟨rfl, rfl⟩) | (go_at_call 86; (with_reducible refine (kind2_any _ _ _ h2 _).mono ?_); rintro e w' ⟨rfl, rfl⟩))
  rw [rounds_succ]
  go_wp2_with (first | (go_at_call 85; (with_reducible refine (kind1_any _ _ _ h1 _).mono ?_); rintro e w' ⟨rfl, rfl⟩) | (go_at_call 86; (with_reducible refine (kind2_any _ _ _ h2 _).mono ?_); rintro e w' ⟨rfl, rfl⟩))
  go_ret
  refine ⟨rfl, ?_⟩
  repeat (refine below_alloc ?_ _)
  exact Below.refl _ _

set_option maxHeartbeats 2000000 in
theorem Kind_3 (a : Int) (ha : 0 ≤ a ∧ a < 4294967296) (h1 : (a == 0) = false) (h2 : (a / 16777216 == 0) = false) (h3 : (a / 16777216 == 127) = true) (w : World) : Calls Try.prog 83 #[.int .u32 a] w fun e w' => e = .returned (.int .i64 3) ∧ Below w.heap.size w w' := by
  obtain ⟨ha1, ha2⟩ := ha
  go_enter Try.func83, Try.ntmps83
  go_wp2_with (go_at_call 84; (with_reducible refine (kinds_any _).mono ?_); rintro e w1 ⟨rfl, rfl⟩)
  refine wp_loop_rounds 7 ?_
  rw [rounds_succ]
  go_wp2_with (first | (go_at_call 85; (with_reducible refine (kind1_any _ _ _ h1 _).mono ?_); rintro e w' ⟨rfl, rfl⟩) | (go_at_call 86; (with_reducible refine (kind2_any _ _ _ h2 _).mono ?_); rintro e w' ⟨rfl, rfl⟩) | (go_at_call 87; (with_reducible refine (kind3_any _ _ _ h3 _).mono ?_); rintro e w' ⟨rfl, rfl⟩))
  rw [rounds_succ]
  go_wp2_with (first | (go_at_call 85; (with_reducible refine (kind1_any _ _ _ h1 _).mono ?_); rintro e w' ⟨rfl, rfl⟩) | (go_at_call 86; (with_reducible refine (kind2_any _ _ _ h2 _).mono ?_); rintro e w' ⟨rfl, rfl⟩) | (go_at_call 87; (with_reducible refine (kind3_any _ _ _ h3 _).mono ?_); rintro e w' ⟨rfl, rfl⟩))
  rw [rounds_succ]
  go_wp2_with (first | (go_at_call 85; (with_reducible refine (kind1_any _ _ _ h1 _).mono ?_); rintro e w' ⟨rfl, rfl⟩) | (go_at_call 86; (with_reducible refine (kind2_any _ _ _ h2 _).mono ?_); rintro e w' ⟨rfl, rfl⟩) | (go_at_call 87; (with_reducible refine (kind3_any _ _ _ h3 _).mono ?_); rintro e w' ⟨rfl, rfl⟩))
  go_ret
  refine ⟨rfl, ?_⟩
  repeat (refine below_alloc ?_ _)
  exact Below.refl _ _

set_option maxHeartbeats 2000000 in
theorem Kind_4 (a : Int) (ha : 0 ≤ a ∧ a < 4294967296) (h1 : (a == 0) = false) (h2 : (a / 16777216 == 0) = false) (h3 : (a / 16777216 == 127) = false) (h4 : (Go.bits .and .u8 (a / 16777216) 240 == 224) = true) (w : World) : Calls Try.prog 83 #[.int .u32 a] w fun e w' => e = .returned (.int .i64 4) ∧ Below w.heap.size w w' := by
  obtain ⟨ha1, ha2⟩ := ha
  go_enter Try.func83, Try.ntmps83
  go_wp2_with (go_at_call 84; (with_reducible refine (kinds_any _).mono ?_); rintro e w1 ⟨rfl, rfl⟩)
  refine wp_loop_rounds 7 ?_
  rw [rounds_succ]
  go_wp2_with (first | (go_at_call 85; (with_reducible refine (kind1_any _ _ _ h1 _).mono ?_); rintro e w' ⟨rfl, rfl⟩) | (go_at_call 86; (with_reducible refine (kind2_any _ _ _ h2 _).mono ?_); rintro e w' ⟨rfl, rfl⟩) | (go_at_call 87; (with_reducible refine (kind3_any _ _ _ h3 _).mono ?_); rintro e w' ⟨rfl, rfl⟩) | (go_at_call 88; (with_reducible refine (kind4_any _ _ _ h4 _).mono ?_); rintro e w' ⟨rfl, rfl⟩))
  rw [rounds_succ]
  go_wp2_with (first | (go_at_call 85; (with_reducible refine (kind1_any _ _ _ h1 _).mono ?_); rintro e w' ⟨rfl, rfl⟩) | (go_at_call 86; (with_reducible refine (kind2_any _ _ _ h2 _).mono ?_); rintro e w' ⟨rfl, rfl⟩) | (go_at_call 87; (with_reducible refine (kind3_any _ _ _ h3 _).mono ?_); rintro e w' ⟨rfl, rfl⟩) | (go_at_call 88; (with_reducible refine (kind4_any _ _ _ h4 _).mono ?_); rintro e w' ⟨rfl, rfl⟩))
  rw [rounds_succ]
  go_wp2_with (first | (go_at_call 85; (with_reducible refine (kind1_any _ _ _ h1 _).mono ?_); rintro e w' ⟨rfl, rfl⟩) | (go_at_call 86; (with_reducible refine (kind2_any _ _ _ h2 _).mono ?_); rintro e w' ⟨rfl, rfl⟩) | (go_at_call 87; (with_reducible refine (kind3_any _ _ _ h3 _).mono ?_); rintro e w' ⟨rfl, rfl⟩) | (go_at_call 88; (with_reducible refine (kind4_any _ _ _ h4 _).mono ?_); rintro e w' ⟨rfl, rfl⟩))
  rw [rounds_succ]
  go_wp2_with (first | (go_at_call 85; (with_reducible refine (kind1_any _ _ _ h1 _).mono ?_); rintro e w' ⟨rfl, rfl⟩) | (go_at_call 86; (with_reducible refine (kind2_any _ _ _ h2 _).mono ?_); rintro e w' ⟨rfl, rfl⟩) | (go_at_call 87; (with_reducible refine (kind3_any _ _ _ h3 _).mono ?_); rintro e w' ⟨rfl, rfl⟩) | (go_at_call 88; (with_reducible refine (kind4_any _ _ _ h4 _).mono ?_); rintro e w' ⟨rfl, rfl⟩))
  go_ret
  refine ⟨rfl, ?_⟩
  repeat (refine below_alloc ?_ _)
  exact Below.refl _ _

set_option maxHeartbeats 2000000 in
theorem Kind_5 (a : Int) (ha : 0 ≤ a ∧ a < 4294967296) (h1 : (a == 0) = false) (h2 : (a / 16777216 == 0) = false) (h3 : (a / 16777216 == 127) = false) (h4 : (Go.bits .and .u8 (a / 16777216) 240 == 224) = false) (h5 : decide (240 ≤ a / 16777216) = true) (w : World) : Calls Try.prog 83 #[.int .u32 a] w fun e w' => e = .returned (.int .i64 5) ∧ Below w.heap.size w w' := by
  obtain ⟨ha1, ha2⟩ := ha
  go_enter Try.func83, Try.ntmps83
  go_wp2_with (go_at_call 84; (with_reducible refine (kinds_any _).mono ?_); rintro e w1 ⟨rfl, rfl⟩)
  refine wp_loop_rounds 7 ?_
  rw [rounds_succ]
  go_wp2_with (first | (go_at_call 85; (with_reducible refine (kind1_any _ _ _ h1 _).mono ?_); rintro e w' ⟨rfl, rfl⟩) | (go_at_call 86; (with_reducible refine (kind2_any _ _ _ h2 _).mono ?_); rintro e w' ⟨rfl, rfl⟩) | (go_at_call 87; (with_reducible refine (kind3_any _ _ _ h3 _).mono ?_); rintro e w' ⟨rfl, rfl⟩) | (go_at_call 88; (with_reducible refine (kind4_any _ _ _ h4 _).mono ?_); rintro e w' ⟨rfl, rfl⟩) | (go_at_call 89; (with_reducible refine (kind5_any _ _ _ h5 _).mono ?_); rintro e w' ⟨rfl, rfl⟩))
  rw [rounds_succ]
  go_wp2_with (first | (go_at_call 85; (with_reducible refine (kind1_any _ _ _ h1 _).mono ?_); rintro e w' ⟨rfl, rfl⟩) | (go_at_call 86; (with_reducible refine (kind2_any _ _ _ h2 _).mono ?_); rintro e w' ⟨rfl, rfl⟩) | (go_at_call 87; (with_reducible refine (kind3_any _ _ _ h3 _).mono ?_); rintro e w' ⟨rfl, rfl⟩) | (go_at_call 88; (with_reducible refine (kind4_any _ _ _ h4 _).mono ?_); rintro e w' ⟨rfl, rfl⟩) | (go_at_call 89; (with_reducible refine (kind5_any _ _ _ h5 _).mono ?_); rintro e w' ⟨rfl, rfl⟩))
  rw [rounds_succ]
  go_wp2_with (first | (go_at_call 85; (with_reducible refine (kind1_any _ _ _ h1 _).mono ?_); rintro e w' ⟨rfl, rfl⟩) | (go_at_call 86; (with_reducible refine (kind2_any _ _ _ h2 _).mono ?_); rintro e w' ⟨rfl, rfl⟩) | (go_at_call 87; (with_reducible refine (kind3_any _ _ _ h3 _).mono ?_); rintro e w' ⟨rfl, rfl⟩) | (go_at_call 88; (with_reducible refine (kind4_any _ _ _ h4 _).mono ?_); rintro e w' ⟨rfl, rfl⟩) | (go_at_call 89; (with_reducible refine (kind5_any _ _ _ h5 _).mono ?_); rintro e w' ⟨rfl, rfl⟩))
  rw [rounds_succ]
  go_wp2_with (first | (go_at_call 85; (with_reducible refine (kind1_any _ _ _ h1 _).mono ?_); rintro e w' ⟨rfl, rfl⟩) | (go_at_call 86; (with_reducible refine (kind2_any _ _ _ h2 _).mono ?_); rintro e w' ⟨rfl, rfl⟩) | (go_at_call 87; (with_reducible refine (kind3_any _ _ _ h3 _).mono ?_); rintro e w' ⟨rfl, rfl⟩) | (go_at_call 88; (with_reducible refine (kind4_any _ _ _ h4 _).mono ?_); rintro e w' ⟨rfl, rfl⟩) | (go_at_call 89; (with_reducible refine (kind5_any _ _ _ h5 _).mono ?_); rintro e w' ⟨rfl, rfl⟩))
  rw [rounds_succ]
  go_wp2_with (first | (go_at_call 85; (with_reducible refine (kind1_any _ _ _ h1 _).mono ?_); rintro e w' ⟨rfl, rfl⟩) | (go_at_call 86; (with_reducible refine (kind2_any _ _ _ h2 _).mono ?_); rintro e w' ⟨rfl, rfl⟩) | (go_at_call 87; (with_reducible refine (kind3_any _ _ _ h3 _).mono ?_); rintro e w' ⟨rfl, rfl⟩) | (go_at_call 88; (with_reducible refine (kind4_any _ _ _ h4 _).mono ?_); rintro e w' ⟨rfl, rfl⟩) | (go_at_call 89; (with_reducible refine (kind5_any _ _ _ h5 _).mono ?_); rintro e w' ⟨rfl, rfl⟩))
  go_ret
  refine ⟨rfl, ?_⟩
  repeat (refine below_alloc ?_ _)
  exact Below.refl _ _

set_option maxHeartbeats 2000000 in
theorem Kind_6 (a : Int) (ha : 0 ≤ a ∧ a < 4294967296) (h1 : (a == 0) = false) (h2 : (a / 16777216 == 0) = false) (h3 : (a / 16777216 == 127) = false) (h4 : (Go.bits .and .u8 (a / 16777216) 240 == 224) = false) (h5 : decide (240 ≤ a / 16777216) = false) (w : World) : Calls Try.prog 83 #[.int .u32 a] w fun e w' => e = .returned (.int .i64 6) ∧ Below w.heap.size w w' := by
  obtain ⟨ha1, ha2⟩ := ha
  go_enter Try.func83, Try.ntmps83
  go_wp2_with (go_at_call 84; (with_reducible refine (kinds_any _).mono ?_); rintro e w1 ⟨rfl, rfl⟩)
  refine wp_loop_rounds 7 ?_
  rw [rounds_succ]
  go_wp2_with (first | (go_at_call 85; (with_reducible refine (kind1_any _ _ _ h1 _).mono ?_); rintro e w' ⟨rfl, rfl⟩) | (go_at_call 86; (with_reducible refine (kind2_any _ _ _ h2 _).mono ?_); rintro e w' ⟨rfl, rfl⟩) | (go_at_call 87; (with_reducible refine (kind3_any _ _ _ h3 _).mono ?_); rintro e w' ⟨rfl, rfl⟩) | (go_at_call 88; (with_reducible refine (kind4_any _ _ _ h4 _).mono ?_); rintro e w' ⟨rfl, rfl⟩) | (go_at_call 89; (with_reducible refine (kind5_any _ _ _ h5 _).mono ?_); rintro e w' ⟨rfl, rfl⟩) | (go_at_call 90; (with_reducible refine (kind6_any _ _ _ rfl _).mono ?_); rintro e w' ⟨rfl, rfl⟩))
  rw [rounds_succ]
  go_wp2_with (first | (go_at_call 85; (with_reducible refine (kind1_any _ _ _ h1 _).mono ?_); rintro e w' ⟨rfl, rfl⟩) | (go_at_call 86; (with_reducible refine (kind2_any _ _ _ h2 _).mono ?_); rintro e w' ⟨rfl, rfl⟩) | (go_at_call 87; (with_reducible refine (kind3_any _ _ _ h3 _).mono ?_); rintro e w' ⟨rfl, rfl⟩) | (go_at_call 88; (with_reducible refine (kind4_any _ _ _ h4 _).mono ?_); rintro e w' ⟨rfl, rfl⟩) | (go_at_call 89; (with_reducible refine (kind5_any _ _ _ h5 _).mono ?_); rintro e w' ⟨rfl, rfl⟩) | (go_at_call 90; (with_reducible refine (kind6_any _ _ _ rfl _).mono ?_); rintro e w' ⟨rfl, rfl⟩))
  rw [rounds_succ]
  go_wp2_with (first | (go_at_call 85; (with_reducible refine (kind1_any _ _ _ h1 _).mono ?_); rintro e w' ⟨rfl, rfl⟩) | (go_at_call 86; (with_reducible refine (kind2_any _ _ _ h2 _).mono ?_); rintro e w' ⟨rfl, rfl⟩) | (go_at_call 87; (with_reducible refine (kind3_any _ _ _ h3 _).mono ?_); rintro e w' ⟨rfl, rfl⟩) | (go_at_call 88; (with_reducible refine (kind4_any _ _ _ h4 _).mono ?_); rintro e w' ⟨rfl, rfl⟩) | (go_at_call 89; (with_reducible refine (kind5_any _ _ _ h5 _).mono ?_); rintro e w' ⟨rfl, rfl⟩) | (go_at_call 90; (with_reducible refine (kind6_any _ _ _ rfl _).mono ?_); rintro e w' ⟨rfl, rfl⟩))
  rw [rounds_succ]
  go_wp2_with (first | (go_at_call 85; (with_reducible refine (kind1_any _ _ _ h1 _).mono ?_); rintro e w' ⟨rfl, rfl⟩) | (go_at_call 86; (with_reducible refine (kind2_any _ _ _ h2 _).mono ?_); rintro e w' ⟨rfl, rfl⟩) | (go_at_call 87; (with_reducible refine (kind3_any _ _ _ h3 _).mono ?_); rintro e w' ⟨rfl, rfl⟩) | (go_at_call 88; (with_reducible refine (kind4_any _ _ _ h4 _).mono ?_); rintro e w' ⟨rfl, rfl⟩) | (go_at_call 89; (with_reducible refine (kind5_any _ _ _ h5 _).mono ?_); rintro e w' ⟨rfl, rfl⟩) | (go_at_call 90; (with_reducible refine (kind6_any _ _ _ rfl _).mono ?_); rintro e w' ⟨rfl, rfl⟩))
  rw [rounds_succ]
  go_wp2_with (first | (go_at_call 85; (with_reducible refine (kind1_any _ _ _ h1 _).mono ?_); rintro e w' ⟨rfl, rfl⟩) | (go_at_call 86; (with_reducible refine (kind2_any _ _ _ h2 _).mono ?_); rintro e w' ⟨rfl, rfl⟩) | (go_at_call 87; (with_reducible refine (kind3_any _ _ _ h3 _).mono ?_); rintro e w' ⟨rfl, rfl⟩) | (go_at_call 88; (with_reducible refine (kind4_any _ _ _ h4 _).mono ?_); rintro e w' ⟨rfl, rfl⟩) | (go_at_call 89; (with_reducible refine (kind5_any _ _ _ h5 _).mono ?_); rintro e w' ⟨rfl, rfl⟩) | (go_at_call 90; (with_reducible refine (kind6_any _ _ _ rfl _).mono ?_); rintro e w' ⟨rfl, rfl⟩))
  rw [rounds_succ]
  go_wp2_with (first | (go_at_call 85; (with_reducible refine (kind1_any _ _ _ h1 _).mono ?_); rintro e w' ⟨rfl, rfl⟩) | (go_at_call 86; (with_reducible refine (kind2_any _ _ _ h2 _).mono ?_); rintro e w' ⟨rfl, rfl⟩) | (go_at_call 87; (with_reducible refine (kind3_any _ _ _ h3 _).mono ?_); rintro e w' ⟨rfl, rfl⟩) | (go_at_call 88; (with_reducible refine (kind4_any _ _ _ h4 _).mono ?_); rintro e w' ⟨rfl, rfl⟩) | (go_at_call 89; (with_reducible refine (kind5_any _ _ _ h5 _).mono ?_); rintro e w' ⟨rfl, rfl⟩) | (go_at_call 90; (with_reducible refine (kind6_any _ _ _ rfl _).mono ?_); rintro e w' ⟨rfl, rfl⟩))
  go_ret
  refine ⟨rfl, ?_⟩
  repeat (refine below_alloc ?_ _)
  exact Below.refl _ _

theorem Kind_any (a : Int) (ha : 0 ≤ a ∧ a < 4294967296) (w : World) : Calls Try.prog 83 #[.int .u32 a] w fun e w' => e = .returned (.int .i64 (kindN a)) ∧ Below w.heap.size w w' := by
  have hf : 0 ≤ a / 16777216 ∧ a / 16777216 < 256 := by omega
  have h4 := and240 (a / 16777216) hf
  unfold kindN
  by_cases c1 : a = 0
  · rw [if_pos c1]; exact Kind_1 a ha (by simpa using c1) w
  · rw [if_neg c1]
    by_cases c2 : a / 16777216 = 0
    · rw [if_pos c2]; exact Kind_2 a ha (by simpa using c1) (by simpa using c2) w
    · rw [if_neg c2]
      by_cases c3 : a / 16777216 = 127
      · rw [if_pos c3]; exact Kind_3 a ha (by simpa using c1) (by simpa using c2) (by simpa using c3) w
      · rw [if_neg c3]
        by_cases c4 : 224 ≤ a / 16777216 ∧ a / 16777216 ≤ 239
        · rw [if_pos c4]; exact Kind_4 a ha (by simpa using c1) (by simpa using c2) (by simpa using c3) (by rw [h4]; exact decide_eq_true c4) w
        · rw [if_neg c4]
          have h4' : (Go.bits .and .u8 (a / 16777216) 240 == 224) = false := by rw [h4]; exact decide_eq_false c4
          by_cases c5 : 240 ≤ a / 16777216
          · rw [if_pos c5]; exact Kind_5 a ha (by simpa using c1) (by simpa using c2) (by simpa using c3) h4' (decide_eq_true c5) w
          · rw [if_neg c5]; exact Kind_6 a ha (by simpa using c1) (by simpa using c2) (by simpa using c3) h4' (decide_eq_false c5) w
end Go.Proofs.Ytokjjppfdmkjeaa.A
