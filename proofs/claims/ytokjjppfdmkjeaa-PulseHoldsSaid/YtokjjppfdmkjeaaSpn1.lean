/- config: the spans. -/
import Derived.Test.YtokjjppfdmkjeaaOwn2
import Derived.Laws.EntriesVeiled
set_option linter.unusedVariables false
set_option linter.unusedSimpArgs false
namespace Go.Proofs.Ytokjjppfdmkjeaa.A
open Go.RowKit Go.Proofs.YtokjjppfdmkjeaaW.PrintWords Go.Proofs.YtokjjppfdmkjeaaW.PrintLast Go.Proofs.YtokjjppfdmkjeaaW.PrintMore Go.Proofs.Ytokjjppfdmkjeaa.PPulseHolds

def spanCells : Array Value := #[.string ⟨#[112, 101, 114, 105, 111, 100]⟩, .func (.func 66) #[] #[], .int .i64 1, .string ⟨#[106, 105, 116, 116, 101, 114]⟩, .func (.func 67) #[] #[], .int .i64 0, .string ⟨#[116, 105, 109, 101, 111, 117, 116]⟩, .func (.func 68) #[] #[], .int .i64 1, .string ⟨#[104, 111, 108, 100]⟩, .func (.func 69) #[] #[], .int .i64 0, .string ⟨#[103, 97, 114, 98, 97, 103, 101]⟩, .func (.func 70) #[] #[], .int .i64 1, .string ⟨#[113, 117, 105, 101, 116]⟩, .func (.func 71) #[] #[], .int .i64 0, .string ⟨#[115, 112, 114, 101, 97, 100]⟩, .func (.func 72) #[] #[], .int .i64 0]
theorem spans_any (w : World) : Calls Try.prog 58 #[] w fun e w' => e = .returned (.slice (some ⟨w.heap.size, 0, none⟩) 7 7) ∧ w' = w.alloc (.cells spanCells 92) := by
  go_enter Try.func58, Try.ntmps58
  go_wp2
  go_ret
  exact ⟨rfl, rfl⟩

theorem span0_any (c0 c1 c2 c3 c4 c5 c6 cap : Int) (A : Option Addr) (n cc : Nat) (w : World) : Calls Try.prog 66 #[.agg #[.int .i64 c0, .int .i64 c1, .int .i64 c2, .int .i64 c3, .int .i64 c4, .int .i64 c5, .int .i64 c6, .int .i64 cap, .slice A n cc]] w fun e w' => e = .returned (.int .i64 c0) ∧ Below w.heap.size w w' := by
  go_enter Try.func66, Try.ntmps66
  go_wp2
  go_ret
  exact ⟨rfl, below_alloc (Below.refl _ _) _⟩

theorem span1_any (c0 c1 c2 c3 c4 c5 c6 cap : Int) (A : Option Addr) (n cc : Nat) (w : World) : Calls Try.prog 67 #[.agg #[.int .i64 c0, .int .i64 c1, .int .i64 c2, .int .i64 c3, .int .i64 c4, .int .i64 c5, .int .i64 c6, .int .i64 cap, .slice A n cc]] w fun e w' => e = .returned (.int .i64 c1) ∧ Below w.heap.size w w' := by
  go_enter Try.func67, Try.ntmps67
  go_wp2
  go_ret
  exact ⟨rfl, below_alloc (Below.refl _ _) _⟩

theorem span2_any (c0 c1 c2 c3 c4 c5 c6 cap : Int) (A : Option Addr) (n cc : Nat) (w : World) : Calls Try.prog 68 #[.agg #[.int .i64 c0, .int .i64 c1, .int .i64 c2, .int .i64 c3, .int .i64 c4, .int .i64 c5, .int .i64 c6, .int .i64 cap, .slice A n cc]] w fun e w' => e = .returned (.int .i64 c2) ∧ Below w.heap.size w w' := by
  go_enter Try.func68, Try.ntmps68
  go_wp2
  go_ret
  exact ⟨rfl, below_alloc (Below.refl _ _) _⟩

theorem span3_any (c0 c1 c2 c3 c4 c5 c6 cap : Int) (A : Option Addr) (n cc : Nat) (w : World) : Calls Try.prog 69 #[.agg #[.int .i64 c0, .int .i64 c1, .int .i64 c2, .int .i64 c3, .int .i64 c4, .int .i64 c5, .int .i64 c6, .int .i64 cap, .slice A n cc]] w fun e w' => e = .returned (.int .i64 c3) ∧ Below w.heap.size w w' := by
  go_enter Try.func69, Try.ntmps69
  go_wp2
  go_ret
  exact ⟨rfl, below_alloc (Below.refl _ _) _⟩

theorem span4_any (c0 c1 c2 c3 c4 c5 c6 cap : Int) (A : Option Addr) (n cc : Nat) (w : World) : Calls Try.prog 70 #[.agg #[.int .i64 c0, .int .i64 c1, .int .i64 c2, .int .i64 c3, .int .i64 c4, .int .i64 c5, .int .i64 c6, .int .i64 cap, .slice A n cc]] w fun e w' => e = .returned (.int .i64 c4) ∧ Below w.heap.size w w' := by
  go_enter Try.func70, Try.ntmps70
  go_wp2
  go_ret
  exact ⟨rfl, below_alloc (Below.refl _ _) _⟩

theorem span5_any (c0 c1 c2 c3 c4 c5 c6 cap : Int) (A : Option Addr) (n cc : Nat) (w : World) : Calls Try.prog 71 #[.agg #[.int .i64 c0, .int .i64 c1, .int .i64 c2, .int .i64 c3, .int .i64 c4, .int .i64 c5, .int .i64 c6, .int .i64 cap, .slice A n cc]] w fun e w' => e = .returned (.int .i64 c5) ∧ Below w.heap.size w w' := by
  go_enter Try.func71, Try.ntmps71
  go_wp2
  go_ret
  exact ⟨rfl, below_alloc (Below.refl _ _) _⟩

theorem span6_any (c0 c1 c2 c3 c4 c5 c6 cap : Int) (A : Option Addr) (n cc : Nat) (w : World) : Calls Try.prog 72 #[.agg #[.int .i64 c0, .int .i64 c1, .int .i64 c2, .int .i64 c3, .int .i64 c4, .int .i64 c5, .int .i64 c6, .int .i64 cap, .slice A n cc]] w fun e w' => e = .returned (.int .i64 c6) ∧ Below w.heap.size w w' := by
  go_enter Try.func72, Try.ntmps72
  go_wp2
  go_ret
  exact ⟨rfl, below_alloc (Below.refl _ _) _⟩

def spanF (x : Nat) : FuncId := [66, 67, 68, 69, 70, 71, 72].getD x 0
def spanL (x : Nat) : Int := [1, 0, 1, 0, 1, 0, 0].getD x 0
def spanN (x : Nat) : ByteArray := [(⟨#[112, 101, 114, 105, 111, 100]⟩ : ByteArray), (⟨#[106, 105, 116, 116, 101, 114]⟩ : ByteArray), (⟨#[116, 105, 109, 101, 111, 117, 116]⟩ : ByteArray), (⟨#[104, 111, 108, 100]⟩ : ByteArray), (⟨#[103, 97, 114, 98, 97, 103, 101]⟩ : ByteArray), (⟨#[113, 117, 105, 101, 116]⟩ : ByteArray), (⟨#[115, 112, 114, 101, 97, 100]⟩ : ByteArray)].getD x ByteArray.empty
def spanV (c0 c1 c2 c3 c4 c5 c6 : Int) (x : Nat) : Int := [c0, c1, c2, c3, c4, c5, c6].getD x 0
theorem seven {p : Nat → Prop} (x : Nat) (h : x < 7) (h0 : p 0) (h1 : p 1) (h2 : p 2) (h3 : p 3) (h4 : p 4) (h5 : p 5) (h6 : p 6) : p x := by
  obtain rfl | rfl | rfl | rfl | rfl | rfl | rfl : x = 0 ∨ x = 1 ∨ x = 2 ∨ x = 3 ∨ x = 4 ∨ x = 5 ∨ x = 6 := by omega
  all_goals assumption
theorem spanF_any (c0 c1 c2 c3 c4 c5 c6 cap : Int) (A : Option Addr) (n cc : Nat) (x : Nat) (h : x < 7) : ∀ w : World, Calls Try.prog (spanF x) #[.agg #[.int .i64 c0, .int .i64 c1, .int .i64 c2, .int .i64 c3, .int .i64 c4, .int .i64 c5, .int .i64 c6, .int .i64 cap, .slice A n cc]] w fun e w' => e = .returned (.int .i64 (spanV c0 c1 c2 c3 c4 c5 c6 x)) ∧ Below w.heap.size w w' :=
  seven (p := fun x => ∀ w : World, Calls Try.prog (spanF x) #[.agg #[.int .i64 c0, .int .i64 c1, .int .i64 c2, .int .i64 c3, .int .i64 c4, .int .i64 c5, .int .i64 c6, .int .i64 cap, .slice A n cc]] w fun e w' => e = .returned (.int .i64 (spanV c0 c1 c2 c3 c4 c5 c6 x)) ∧ Below w.heap.size w w') x h
    (span0_any c0 c1 c2 c3 c4 c5 c6 cap A n cc) (span1_any c0 c1 c2 c3 c4 c5 c6 cap A n cc) (span2_any c0 c1 c2 c3 c4 c5 c6 cap A n cc) (span3_any c0 c1 c2 c3 c4 c5 c6 cap A n cc) (span4_any c0 c1 c2 c3 c4 c5 c6 cap A n cc) (span5_any c0 c1 c2 c3 c4 c5 c6 cap A n cc) (span6_any c0 c1 c2 c3 c4 c5 c6 cap A n cc)
theorem spanF_call (x : Nat) (h : x < 7) : ∀ (args : Array Value) (w : World), (callFunc (spanF x) args).run Try.prog w = .ok (.enter (spanF x) args) w :=
  seven (p := fun x => ∀ (args : Array Value) (w : World), (callFunc (spanF x) args).run Try.prog w = .ok (.enter (spanF x) args) w) x h
    (fun _ _ => by kernel_rfl) (fun _ _ => by kernel_rfl) (fun _ _ => by kernel_rfl) (fun _ _ => by kernel_rfl) (fun _ _ => by kernel_rfl) (fun _ _ => by kernel_rfl) (fun _ _ => by kernel_rfl)
theorem spanC (x : Nat) (h : x < 7) : spanCells[x * 3]? = some (.string (spanN x)) ∧ spanCells[x * 3 + 1]? = some (.func (.func (spanF x)) #[] #[]) ∧ spanCells[x * 3 + 2]? = some (.int .i64 (spanL x)) :=
  seven (p := fun x => spanCells[x * 3]? = some (.string (spanN x)) ∧ spanCells[x * 3 + 1]? = some (.func (.func (spanF x)) #[] #[]) ∧ spanCells[x * 3 + 2]? = some (.int .i64 (spanL x))) x h
    ⟨rfl, rfl, rfl⟩ ⟨rfl, rfl, rfl⟩ ⟨rfl, rfl, rfl⟩ ⟨rfl, rfl, rfl⟩ ⟨rfl, rfl, rfl⟩ ⟨rfl, rfl, rfl⟩ ⟨rfl, rfl, rfl⟩
/-- is a span within its bounds? -/
def spanOk (c0 c1 c2 c3 c4 c5 c6 : Int) (x : Nat) : Bool := decide (spanL x ≤ spanV c0 c1 c2 c3 c4 c5 c6 x ∧ spanV c0 c1 c2 c3 c4 c5 c6 x ≤ 1000000)
/-- may a configuration be? -/
def rightN (c0 c1 c2 c3 c4 c5 c6 cap : Int) (l : List Pfx) : Bool := (List.range 7).all (spanOk c0 c1 c2 c3 c4 c5 c6) && decide (1 ≤ cap ∧ cap ≤ 256 ∧ l.length ≤ cap) && ownN l
theorem within64_eq (a b m : Int) : config_within_int64.f a b m = some (decide (b ≤ a ∧ a ≤ m)) := by
  unfold config_within_int64.f
  by_cases h : a ≥ b
  · rw [if_pos h]
    simp [show b ≤ a from h]
  · rw [if_neg h]
    simp [show ¬ b ≤ a from h]
end Go.Proofs.Ytokjjppfdmkjeaa.A

