/-
  No cell of these rows narrows 'for every input' (looked for: loops, veiled, ifaces, maps, wideKeys, modest, calm, conditions, laid).
  DERIVED. THE GIVEN ROWS OF THIS SEAT. 5 by the template 'for every input the law returns true; each argument reads behind the call as it read before'; 0 by the template 'total and deterministic' (their statements: YtokjjppfdmkjeaaTotals.lean).
  GIVEN WITH THE SEED: the statements are not yours to turn. If you find one false, say at which input.
  Laid BY PROGRAM, IN A SANDBOX (cutbox-rows.mjs): the forced cells as the released guide's own fill.sh prints them over the translation 6b3b6c7409b88323… (all of the seat's roots in one cut). By AI agents, Wed Nov 11 2026. No macro, syntax, notation, axiom, sorry.
-/
import Derived.Test.YtokjjppfdmkjeaaChecked
import GoSem.Claim
import GoSem.ClaimJoined
import GoSem.ClaimMapViews
import Derived.JoinedTies
import Derived.KernelRfl
namespace Go.Proofs.Ytokjjppfdmkjeaa
/- THE CELL 'sum', in the pinned program and in every row, IS THE sha256 OF THE DUMP (.gsa) THAT YtokjjppfdmkjeaaProg.lean LOADS. Nothing in Lean hashes anything: it is a label: what it is worth is what the hold of that sum in a sandbox is worth. -/
noncomputable def Try.pinned : Pinned := { name := "ytokjjppfdmkjeaa", sum := "6b3b6c7409b88323f6feab9793e8d991c93ff45a1f5408753eae2111b52907e4", checked := Try.checked }
namespace Rows
def none {H : Type} : Left H := { results := [], args := [] }

/-- 'waywardenlaw15.PulseBegins': WHATEVER THE INPUT: true; the input reads as it did. -/
def pulseBeginsSpec : ChangeSpec := { name := "pulseBegins", fn := fun _ => fun
  | [d1, d2, d3] => { results := [.lit (.bool true)], args := [d1, d2, d3] }
  | _ => none }
def pulseBeginsRow : OpenClaim := { program := "ytokjjppfdmkjeaa", sum := "6b3b6c7409b88323f6feab9793e8d991c93ff45a1f5408753eae2111b52907e4", func := "waywarden/waywardenlaw15.PulseBegins", spec := "pulseBegins", unfollowed := true, recurses := true, apart := false }
def PulseBeginsSaid : Prop := pulseBeginsRow.holds Try.pinned (OpenSpec.ofChange pulseBeginsSpec)

/-- ITS FALSE NEIGHBOUR: 'it returns false'. Refute it at one input. -/
def pulseBeginsWrong : ChangeSpec := { name := "pulseBegins", fn := fun _ => fun
  | [d1, d2, d3] => { results := [.lit (.bool false)], args := [d1, d2, d3] }
  | _ => none }
def PulseBeginsWrongFalsely : Prop := pulseBeginsRow.holds Try.pinned (OpenSpec.ofChange pulseBeginsWrong)

/-- 'waywardenlaw15.PulseBeats': WHATEVER THE INPUT: true; the input reads as it did. -/
def pulseBeatsSpec : ChangeSpec := { name := "pulseBeats", fn := fun _ => fun
  | [d1, d2, d3, d4] => { results := [.lit (.bool true)], args := [d1, d2, d3, d4] }
  | _ => none }
def pulseBeatsRow : OpenClaim := { program := "ytokjjppfdmkjeaa", sum := "6b3b6c7409b88323f6feab9793e8d991c93ff45a1f5408753eae2111b52907e4", func := "waywarden/waywardenlaw15.PulseBeats", spec := "pulseBeats", unfollowed := true, recurses := true, apart := false }
def PulseBeatsSaid : Prop := pulseBeatsRow.holds Try.pinned (OpenSpec.ofChange pulseBeatsSpec)

/-- ITS FALSE NEIGHBOUR: 'it returns false'. Refute it at one input. -/
def pulseBeatsWrong : ChangeSpec := { name := "pulseBeats", fn := fun _ => fun
  | [d1, d2, d3, d4] => { results := [.lit (.bool false)], args := [d1, d2, d3, d4] }
  | _ => none }
def PulseBeatsWrongFalsely : Prop := pulseBeatsRow.holds Try.pinned (OpenSpec.ofChange pulseBeatsWrong)

/-- 'waywardenlaw15.PulseNext': WHATEVER THE INPUT: true; the input reads as it did. -/
def pulseNextSpec : ChangeSpec := { name := "pulseNext", fn := fun _ => fun
  | [d1, d2, d3, d4] => { results := [.lit (.bool true)], args := [d1, d2, d3, d4] }
  | _ => none }
def pulseNextRow : OpenClaim := { program := "ytokjjppfdmkjeaa", sum := "6b3b6c7409b88323f6feab9793e8d991c93ff45a1f5408753eae2111b52907e4", func := "waywarden/waywardenlaw15.PulseNext", spec := "pulseNext", unfollowed := true, recurses := true, apart := false }
def PulseNextSaid : Prop := pulseNextRow.holds Try.pinned (OpenSpec.ofChange pulseNextSpec)

/-- ITS FALSE NEIGHBOUR: 'it returns false'. Refute it at one input. -/
def pulseNextWrong : ChangeSpec := { name := "pulseNext", fn := fun _ => fun
  | [d1, d2, d3, d4] => { results := [.lit (.bool false)], args := [d1, d2, d3, d4] }
  | _ => none }
def PulseNextWrongFalsely : Prop := pulseNextRow.holds Try.pinned (OpenSpec.ofChange pulseNextWrong)

/-- 'waywardenlaw15.PulseHolds': WHATEVER THE INPUT: true; the input reads as it did. -/
def pulseHoldsSpec : ChangeSpec := { name := "pulseHolds", fn := fun _ => fun
  | [d1, d2, d3] => { results := [.lit (.bool true)], args := [d1, d2, d3] }
  | _ => none }
def pulseHoldsRow : OpenClaim := { program := "ytokjjppfdmkjeaa", sum := "6b3b6c7409b88323f6feab9793e8d991c93ff45a1f5408753eae2111b52907e4", func := "waywarden/waywardenlaw15.PulseHolds", spec := "pulseHolds", unfollowed := true, recurses := true, apart := false }
def PulseHoldsSaid : Prop := pulseHoldsRow.holds Try.pinned (OpenSpec.ofChange pulseHoldsSpec)

/-- ITS FALSE NEIGHBOUR: 'it returns false'. Refute it at one input. -/
def pulseHoldsWrong : ChangeSpec := { name := "pulseHolds", fn := fun _ => fun
  | [d1, d2, d3] => { results := [.lit (.bool false)], args := [d1, d2, d3] }
  | _ => none }
def PulseHoldsWrongFalsely : Prop := pulseHoldsRow.holds Try.pinned (OpenSpec.ofChange pulseHoldsWrong)

/-- 'waywardenlaw15.PulseRuns': WHATEVER THE INPUT: true; the input reads as it did. -/
def pulseRunsSpec : ChangeSpec := { name := "pulseRuns", fn := fun _ => fun
  | [d1, d2, d3, d4] => { results := [.lit (.bool true)], args := [d1, d2, d3, d4] }
  | _ => none }
def pulseRunsRow : OpenClaim := { program := "ytokjjppfdmkjeaa", sum := "6b3b6c7409b88323f6feab9793e8d991c93ff45a1f5408753eae2111b52907e4", func := "waywarden/waywardenlaw15.PulseRuns", spec := "pulseRuns", unfollowed := true, recurses := true, apart := false }
def PulseRunsSaid : Prop := pulseRunsRow.holds Try.pinned (OpenSpec.ofChange pulseRunsSpec)

/-- ITS FALSE NEIGHBOUR: 'it returns false'. Refute it at one input. -/
def pulseRunsWrong : ChangeSpec := { name := "pulseRuns", fn := fun _ => fun
  | [d1, d2, d3, d4] => { results := [.lit (.bool false)], args := [d1, d2, d3, d4] }
  | _ => none }
def PulseRunsWrongFalsely : Prop := pulseRunsRow.holds Try.pinned (OpenSpec.ofChange pulseRunsWrong)

/- THE SECOND FORM. 'bulk': how many values and letters a reading holds, each counted each time it is reached (what is shared counts as often as it is met; a slice's spare places count too). A statement '..UptoSaid' is the law's where the arguments, and the package variables that the reading takes, are together of bulk at most 1048576: NARROWER than '..Said'. Prove '..Said' where nothing that the law and all that it calls make is longer than what came in: it says more and counts as full. Else prove '..UptoSaid'. A law counts once. -/
mutual
def uptoBulk {H : Type} : DataW H → Nat
  | .lit (.string bytes) => bytes.length + 1
  | .lit _ => 1
  | .nil => 1
  | .ptr d => uptoBulk d + 1
  | .slice elems spare => uptoBulkAll elems + uptoBulkAll spare + 1
  | .agg parts => uptoBulkAll parts + 1
  | .iface _ d => uptoBulk d + 1
  | .map entries => uptoBulkEntries entries + 1
  | .held _ => 1
def uptoBulkAll {H : Type} : List (DataW H) → Nat
  | [] => 0
  | d :: r => uptoBulk d + uptoBulkAll r
def uptoBulkEntries {H : Type} : List (Lit × DataW H) → Nat
  | [] => 0
  | x :: r => uptoBulkEntry x + uptoBulkEntries r
def uptoBulkEntry {H : Type} : Lit × DataW H → Nat
  | (.string bytes, d) => bytes.length + uptoBulk d + 1
  | (_, d) => uptoBulk d + 1
 end
def uptoSmall : (H : Type) → List (DataW H) → Bool := fun _ ds => decide (uptoBulkAll ds ≤ 1048576)
def OpenSpec.upto (s : _root_.Go.ChangeSpec) : _root_.Go.OpenSpec := { _root_.Go.OpenSpec.ofChange s with cond := some uptoSmall }

/-- 'waywardenlaw15.PulseBegins', WHERE WHAT IT READS IS OF BULK AT MOST 1048576: true; the input reads as it did. -/
def pulseBeginsUptoRow : OpenClaim := { program := "ytokjjppfdmkjeaa", sum := "6b3b6c7409b88323f6feab9793e8d991c93ff45a1f5408753eae2111b52907e4", func := "waywarden/waywardenlaw15.PulseBegins", spec := "pulseBegins", unfollowed := true, recurses := true, apart := false, narrowed := true }
def PulseBeginsUptoSaid : Prop := pulseBeginsUptoRow.holds Try.pinned (OpenSpec.upto pulseBeginsSpec)

/-- 'waywardenlaw15.PulseBeats', WHERE WHAT IT READS IS OF BULK AT MOST 1048576: true; the input reads as it did. -/
def pulseBeatsUptoRow : OpenClaim := { program := "ytokjjppfdmkjeaa", sum := "6b3b6c7409b88323f6feab9793e8d991c93ff45a1f5408753eae2111b52907e4", func := "waywarden/waywardenlaw15.PulseBeats", spec := "pulseBeats", unfollowed := true, recurses := true, apart := false, narrowed := true }
def PulseBeatsUptoSaid : Prop := pulseBeatsUptoRow.holds Try.pinned (OpenSpec.upto pulseBeatsSpec)

/-- 'waywardenlaw15.PulseNext', WHERE WHAT IT READS IS OF BULK AT MOST 1048576: true; the input reads as it did. -/
def pulseNextUptoRow : OpenClaim := { program := "ytokjjppfdmkjeaa", sum := "6b3b6c7409b88323f6feab9793e8d991c93ff45a1f5408753eae2111b52907e4", func := "waywarden/waywardenlaw15.PulseNext", spec := "pulseNext", unfollowed := true, recurses := true, apart := false, narrowed := true }
def PulseNextUptoSaid : Prop := pulseNextUptoRow.holds Try.pinned (OpenSpec.upto pulseNextSpec)

/-- 'waywardenlaw15.PulseHolds', WHERE WHAT IT READS IS OF BULK AT MOST 1048576: true; the input reads as it did. -/
def pulseHoldsUptoRow : OpenClaim := { program := "ytokjjppfdmkjeaa", sum := "6b3b6c7409b88323f6feab9793e8d991c93ff45a1f5408753eae2111b52907e4", func := "waywarden/waywardenlaw15.PulseHolds", spec := "pulseHolds", unfollowed := true, recurses := true, apart := false, narrowed := true }
def PulseHoldsUptoSaid : Prop := pulseHoldsUptoRow.holds Try.pinned (OpenSpec.upto pulseHoldsSpec)

/-- 'waywardenlaw15.PulseRuns', WHERE WHAT IT READS IS OF BULK AT MOST 1048576: true; the input reads as it did. -/
def pulseRunsUptoRow : OpenClaim := { program := "ytokjjppfdmkjeaa", sum := "6b3b6c7409b88323f6feab9793e8d991c93ff45a1f5408753eae2111b52907e4", func := "waywarden/waywardenlaw15.PulseRuns", spec := "pulseRuns", unfollowed := true, recurses := true, apart := false, narrowed := true }
def PulseRunsUptoSaid : Prop := pulseRunsUptoRow.holds Try.pinned (OpenSpec.upto pulseRunsSpec)

end Rows
end Go.Proofs.Ytokjjppfdmkjeaa
