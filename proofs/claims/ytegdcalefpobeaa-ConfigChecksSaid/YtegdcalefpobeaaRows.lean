/-
  No cell of these rows narrows 'for every input' (looked for: loops, veiled, ifaces, maps, wideKeys, modest, calm, conditions, laid).
  DERIVED. THE GIVEN ROWS OF THIS SEAT. 5 by the template 'for every input the law returns true; each argument reads behind the call as it read before'; 0 by the template 'total and deterministic' (their statements: YtegdcalefpobeaaTotals.lean).
  GIVEN WITH THE SEED: the statements are not yours to turn. If you find one false, say at which input.
  Laid BY PROGRAM, IN A SANDBOX (cutbox-rows.mjs): the forced cells as the released guide's own fill.sh prints them over the translation 2bdd12626800c742… (all of the seat's roots in one cut). By AI agents, Wed Nov 11 2026. No macro, syntax, notation, axiom, sorry.
-/
import Derived.Test.YtegdcalefpobeaaChecked
import GoSem.Claim
import GoSem.ClaimJoined
import GoSem.ClaimMapViews
import Derived.JoinedTies
import Derived.KernelRfl
namespace Go.Proofs.Ytegdcalefpobeaa
/- THE CELL 'sum', in the pinned program and in every row, IS THE sha256 OF THE DUMP (.gsa) THAT YtegdcalefpobeaaProg.lean LOADS. Nothing in Lean hashes anything: it is a label: what it is worth is what the hold of that sum in a sandbox is worth. -/
noncomputable def Try.pinned : Pinned := { name := "ytegdcalefpobeaa", sum := "2bdd12626800c7421b5c1dbb4726321c8d8f9564c94996b3e94757686c5282ff", checked := Try.checked }
namespace Rows
def none {H : Type} : Left H := { results := [], args := [] }

/-- 'waywardenlaw08.ConfigChecks': WHATEVER THE INPUT: true; the input reads as it did. -/
def configChecksSpec : ChangeSpec := { name := "configChecks", fn := fun _ => fun
  | [d1, d2] => { results := [.lit (.bool true)], args := [d1, d2] }
  | _ => none }
def configChecksRow : OpenClaim := { program := "ytegdcalefpobeaa", sum := "2bdd12626800c7421b5c1dbb4726321c8d8f9564c94996b3e94757686c5282ff", func := "waywarden/waywardenlaw08.ConfigChecks", spec := "configChecks", unfollowed := true, recurses := true, apart := false }
def ConfigChecksSaid : Prop := configChecksRow.holds Try.pinned (OpenSpec.ofChange configChecksSpec)

/-- ITS FALSE NEIGHBOUR: 'it returns false'. Refute it at one input. -/
def configChecksWrong : ChangeSpec := { name := "configChecks", fn := fun _ => fun
  | [d1, d2] => { results := [.lit (.bool false)], args := [d1, d2] }
  | _ => none }
def ConfigChecksWrongFalsely : Prop := configChecksRow.holds Try.pinned (OpenSpec.ofChange configChecksWrong)

/-- 'waywardenlaw08.ConfigWaits': WHATEVER THE INPUT: true; the input reads as it did. -/
def configWaitsSpec : ChangeSpec := { name := "configWaits", fn := fun _ => fun
  | [d1, d2, d3] => { results := [.lit (.bool true)], args := [d1, d2, d3] }
  | _ => none }
def configWaitsRow : OpenClaim := { program := "ytegdcalefpobeaa", sum := "2bdd12626800c7421b5c1dbb4726321c8d8f9564c94996b3e94757686c5282ff", func := "waywarden/waywardenlaw08.ConfigWaits", spec := "configWaits", unfollowed := true, recurses := true, apart := false }
def ConfigWaitsSaid : Prop := configWaitsRow.holds Try.pinned (OpenSpec.ofChange configWaitsSpec)

/-- ITS FALSE NEIGHBOUR: 'it returns false'. Refute it at one input. -/
def configWaitsWrong : ChangeSpec := { name := "configWaits", fn := fun _ => fun
  | [d1, d2, d3] => { results := [.lit (.bool false)], args := [d1, d2, d3] }
  | _ => none }
def ConfigWaitsWrongFalsely : Prop := configWaitsRow.holds Try.pinned (OpenSpec.ofChange configWaitsWrong)

/-- 'waywardenlaw08.ConfigBound': WHATEVER THE INPUT: true; the input reads as it did. -/
def configBoundSpec : ChangeSpec := { name := "configBound", fn := fun _ => fun
  | [d1, d2] => { results := [.lit (.bool true)], args := [d1, d2] }
  | _ => none }
def configBoundRow : OpenClaim := { program := "ytegdcalefpobeaa", sum := "2bdd12626800c7421b5c1dbb4726321c8d8f9564c94996b3e94757686c5282ff", func := "waywarden/waywardenlaw08.ConfigBound", spec := "configBound", unfollowed := true, recurses := true, apart := false }
def ConfigBoundSaid : Prop := configBoundRow.holds Try.pinned (OpenSpec.ofChange configBoundSpec)

/-- ITS FALSE NEIGHBOUR: 'it returns false'. Refute it at one input. -/
def configBoundWrong : ChangeSpec := { name := "configBound", fn := fun _ => fun
  | [d1, d2] => { results := [.lit (.bool false)], args := [d1, d2] }
  | _ => none }
def ConfigBoundWrongFalsely : Prop := configBoundRow.holds Try.pinned (OpenSpec.ofChange configBoundWrong)

/-- 'waywardenlaw08.ConfigHolds': WHATEVER THE INPUT: true; the input reads as it did. -/
def configHoldsSpec : ChangeSpec := { name := "configHolds", fn := fun _ => fun
  | [d1, d2, d3] => { results := [.lit (.bool true)], args := [d1, d2, d3] }
  | _ => none }
def configHoldsRow : OpenClaim := { program := "ytegdcalefpobeaa", sum := "2bdd12626800c7421b5c1dbb4726321c8d8f9564c94996b3e94757686c5282ff", func := "waywarden/waywardenlaw08.ConfigHolds", spec := "configHolds", unfollowed := true, recurses := true, apart := false }
def ConfigHoldsSaid : Prop := configHoldsRow.holds Try.pinned (OpenSpec.ofChange configHoldsSpec)

/-- ITS FALSE NEIGHBOUR: 'it returns false'. Refute it at one input. -/
def configHoldsWrong : ChangeSpec := { name := "configHolds", fn := fun _ => fun
  | [d1, d2, d3] => { results := [.lit (.bool false)], args := [d1, d2, d3] }
  | _ => none }
def ConfigHoldsWrongFalsely : Prop := configHoldsRow.holds Try.pinned (OpenSpec.ofChange configHoldsWrong)

/-- 'waywardenlaw08.ConfigSpans': WHATEVER THE INPUT: true; the input reads as it did. -/
def configSpansSpec : ChangeSpec := { name := "configSpans", fn := fun _ => fun
  | [d1, d2, d3] => { results := [.lit (.bool true)], args := [d1, d2, d3] }
  | _ => none }
def configSpansRow : OpenClaim := { program := "ytegdcalefpobeaa", sum := "2bdd12626800c7421b5c1dbb4726321c8d8f9564c94996b3e94757686c5282ff", func := "waywarden/waywardenlaw08.ConfigSpans", spec := "configSpans", unfollowed := true, recurses := true, apart := false }
def ConfigSpansSaid : Prop := configSpansRow.holds Try.pinned (OpenSpec.ofChange configSpansSpec)

/-- ITS FALSE NEIGHBOUR: 'it returns false'. Refute it at one input. -/
def configSpansWrong : ChangeSpec := { name := "configSpans", fn := fun _ => fun
  | [d1, d2, d3] => { results := [.lit (.bool false)], args := [d1, d2, d3] }
  | _ => none }
def ConfigSpansWrongFalsely : Prop := configSpansRow.holds Try.pinned (OpenSpec.ofChange configSpansWrong)

/- THE SECOND FORM. 'bulk': how many values and letters a reading holds, each counted each time it is reached (what is shared counts as often as it is met; a slice's spare places count too). A statement '..UptoSaid' is the law's where the arguments, and the package variables that the reading takes, are together of bulk at most 1048576: NARROWER than '..Said'. Prove '..Said' where nothing that the law and all that it calls make is longer than what came in: it says more and counts as full. Else prove '..UptoSaid'. A law counts once. -/
mutual
def uptoBulk {H : Type} : DataW H → Nat
  | .lit (.string bytes) => bytes.length + 1
  | .lit _ => 1
  | .nil => 1
  | .ptr d => uptoBulk d + 1
  | .slice elems spare => uptoBulkAll elems + uptoBulkAll spare + 1
  | .agg parts => uptoBulkAll parts + 1
  | .iface _ d => uptoBulk d + 1
  | .map entries => uptoBulkEntries entries + 1
  | .held _ => 1
def uptoBulkAll {H : Type} : List (DataW H) → Nat
  | [] => 0
  | d :: r => uptoBulk d + uptoBulkAll r
def uptoBulkEntries {H : Type} : List (Lit × DataW H) → Nat
  | [] => 0
  | x :: r => uptoBulkEntry x + uptoBulkEntries r
def uptoBulkEntry {H : Type} : Lit × DataW H → Nat
  | (.string bytes, d) => bytes.length + uptoBulk d + 1
  | (_, d) => uptoBulk d + 1
 end
def uptoSmall : (H : Type) → List (DataW H) → Bool := fun _ ds => decide (uptoBulkAll ds ≤ 1048576)
def OpenSpec.upto (s : _root_.Go.ChangeSpec) : _root_.Go.OpenSpec := { _root_.Go.OpenSpec.ofChange s with cond := some uptoSmall }

/-- 'waywardenlaw08.ConfigChecks', WHERE WHAT IT READS IS OF BULK AT MOST 1048576: true; the input reads as it did. -/
def configChecksUptoRow : OpenClaim := { program := "ytegdcalefpobeaa", sum := "2bdd12626800c7421b5c1dbb4726321c8d8f9564c94996b3e94757686c5282ff", func := "waywarden/waywardenlaw08.ConfigChecks", spec := "configChecks", unfollowed := true, recurses := true, apart := false, narrowed := true }
def ConfigChecksUptoSaid : Prop := configChecksUptoRow.holds Try.pinned (OpenSpec.upto configChecksSpec)

/-- 'waywardenlaw08.ConfigWaits', WHERE WHAT IT READS IS OF BULK AT MOST 1048576: true; the input reads as it did. -/
def configWaitsUptoRow : OpenClaim := { program := "ytegdcalefpobeaa", sum := "2bdd12626800c7421b5c1dbb4726321c8d8f9564c94996b3e94757686c5282ff", func := "waywarden/waywardenlaw08.ConfigWaits", spec := "configWaits", unfollowed := true, recurses := true, apart := false, narrowed := true }
def ConfigWaitsUptoSaid : Prop := configWaitsUptoRow.holds Try.pinned (OpenSpec.upto configWaitsSpec)

/-- 'waywardenlaw08.ConfigBound', WHERE WHAT IT READS IS OF BULK AT MOST 1048576: true; the input reads as it did. -/
def configBoundUptoRow : OpenClaim := { program := "ytegdcalefpobeaa", sum := "2bdd12626800c7421b5c1dbb4726321c8d8f9564c94996b3e94757686c5282ff", func := "waywarden/waywardenlaw08.ConfigBound", spec := "configBound", unfollowed := true, recurses := true, apart := false, narrowed := true }
def ConfigBoundUptoSaid : Prop := configBoundUptoRow.holds Try.pinned (OpenSpec.upto configBoundSpec)

/-- 'waywardenlaw08.ConfigHolds', WHERE WHAT IT READS IS OF BULK AT MOST 1048576: true; the input reads as it did. -/
def configHoldsUptoRow : OpenClaim := { program := "ytegdcalefpobeaa", sum := "2bdd12626800c7421b5c1dbb4726321c8d8f9564c94996b3e94757686c5282ff", func := "waywarden/waywardenlaw08.ConfigHolds", spec := "configHolds", unfollowed := true, recurses := true, apart := false, narrowed := true }
def ConfigHoldsUptoSaid : Prop := configHoldsUptoRow.holds Try.pinned (OpenSpec.upto configHoldsSpec)

/-- 'waywardenlaw08.ConfigSpans', WHERE WHAT IT READS IS OF BULK AT MOST 1048576: true; the input reads as it did. -/
def configSpansUptoRow : OpenClaim := { program := "ytegdcalefpobeaa", sum := "2bdd12626800c7421b5c1dbb4726321c8d8f9564c94996b3e94757686c5282ff", func := "waywarden/waywardenlaw08.ConfigSpans", spec := "configSpans", unfollowed := true, recurses := true, apart := false, narrowed := true }
def ConfigSpansUptoSaid : Prop := configSpansUptoRow.holds Try.pinned (OpenSpec.upto configSpansSpec)

end Rows
end Go.Proofs.Ytegdcalefpobeaa
