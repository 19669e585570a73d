/-
  No cell of these rows narrows 'for every input' (looked for: loops, veiled, ifaces, maps, wideKeys, modest, calm, conditions, laid).
  DERIVED. THE GIVEN ROWS OF THIS SEAT. 5 by the template 'for every input the law returns true; each argument reads behind the call as it read before'; 0 by the template 'total and deterministic' (their statements: YtheocodbceidlaaTotals.lean).
  GIVEN WITH THE SEED: the statements are not yours to turn. If you find one false, say at which input.
  Laid BY PROGRAM, IN A SANDBOX (cutbox-rows.mjs): the forced cells as the released guide's own fill.sh prints them over the translation 794eeed8c2f3cfc0… (all of the seat's roots in one cut). By AI agents, Wed Nov 11 2026. No macro, syntax, notation, axiom, sorry.
-/
import Derived.Test.YtheocodbceidlaaChecked
import GoSem.Claim
import GoSem.ClaimJoined
import GoSem.ClaimMapViews
import Derived.JoinedTies
import Derived.KernelRfl
namespace Go.Proofs.Ytheocodbceidlaa
/- THE CELL 'sum', in the pinned program and in every row, IS THE sha256 OF THE DUMP (.gsa) THAT YtheocodbceidlaaProg.lean LOADS. Nothing in Lean hashes anything: it is a label: what it is worth is what the hold of that sum in a sandbox is worth. -/
noncomputable def Try.pinned : Pinned := { name := "ytheocodbceidlaa", sum := "794eeed8c2f3cfc05d0e6a0431930a888c29b145dadad18c8945283e2f85e861", checked := Try.checked }
namespace Rows
def none {H : Type} : Left H := { results := [], args := [] }

/-- 'waywardenlaw03.OctetPuts': WHATEVER THE INPUT: true; the input reads as it did. -/
def octetPutsSpec : ChangeSpec := { name := "octetPuts", fn := fun _ => fun
  | [d1, d2, d3, d4] => { results := [.lit (.bool true)], args := [d1, d2, d3, d4] }
  | _ => none }
def octetPutsRow : OpenClaim := { program := "ytheocodbceidlaa", sum := "794eeed8c2f3cfc05d0e6a0431930a888c29b145dadad18c8945283e2f85e861", func := "waywarden/waywardenlaw03.OctetPuts", spec := "octetPuts", apart := false }
def OctetPutsSaid : Prop := octetPutsRow.holds Try.pinned (OpenSpec.ofChange octetPutsSpec)

/-- ITS FALSE NEIGHBOUR: 'it returns false'. Refute it at one input. -/
def octetPutsWrong : ChangeSpec := { name := "octetPuts", fn := fun _ => fun
  | [d1, d2, d3, d4] => { results := [.lit (.bool false)], args := [d1, d2, d3, d4] }
  | _ => none }
def OctetPutsWrongFalsely : Prop := octetPutsRow.holds Try.pinned (OpenSpec.ofChange octetPutsWrong)

/-- 'waywardenlaw03.OctetReads': WHATEVER THE INPUT: true; the input reads as it did. -/
def octetReadsSpec : ChangeSpec := { name := "octetReads", fn := fun _ => fun
  | [d1, d2, d3] => { results := [.lit (.bool true)], args := [d1, d2, d3] }
  | _ => none }
def octetReadsRow : OpenClaim := { program := "ytheocodbceidlaa", sum := "794eeed8c2f3cfc05d0e6a0431930a888c29b145dadad18c8945283e2f85e861", func := "waywarden/waywardenlaw03.OctetReads", spec := "octetReads", apart := false }
def OctetReadsSaid : Prop := octetReadsRow.holds Try.pinned (OpenSpec.ofChange octetReadsSpec)

/-- ITS FALSE NEIGHBOUR: 'it returns false'. Refute it at one input. -/
def octetReadsWrong : ChangeSpec := { name := "octetReads", fn := fun _ => fun
  | [d1, d2, d3] => { results := [.lit (.bool false)], args := [d1, d2, d3] }
  | _ => none }
def OctetReadsWrongFalsely : Prop := octetReadsRow.holds Try.pinned (OpenSpec.ofChange octetReadsWrong)

/-- 'waywardenlaw03.OctetHolds': WHATEVER THE INPUT: true; the input reads as it did. -/
def octetHoldsSpec : ChangeSpec := { name := "octetHolds", fn := fun _ => fun
  | [d1, d2, d3, d4] => { results := [.lit (.bool true)], args := [d1, d2, d3, d4] }
  | _ => none }
def octetHoldsRow : OpenClaim := { program := "ytheocodbceidlaa", sum := "794eeed8c2f3cfc05d0e6a0431930a888c29b145dadad18c8945283e2f85e861", func := "waywarden/waywardenlaw03.OctetHolds", spec := "octetHolds", apart := false }
def OctetHoldsSaid : Prop := octetHoldsRow.holds Try.pinned (OpenSpec.ofChange octetHoldsSpec)

/-- ITS FALSE NEIGHBOUR: 'it returns false'. Refute it at one input. -/
def octetHoldsWrong : ChangeSpec := { name := "octetHolds", fn := fun _ => fun
  | [d1, d2, d3, d4] => { results := [.lit (.bool false)], args := [d1, d2, d3, d4] }
  | _ => none }
def OctetHoldsWrongFalsely : Prop := octetHoldsRow.holds Try.pinned (OpenSpec.ofChange octetHoldsWrong)

/-- 'waywardenlaw03.OctetPlays': WHATEVER THE INPUT: true; the input reads as it did. -/
def octetPlaysSpec : ChangeSpec := { name := "octetPlays", fn := fun _ => fun
  | [d1, d2] => { results := [.lit (.bool true)], args := [d1, d2] }
  | _ => none }
def octetPlaysRow : OpenClaim := { program := "ytheocodbceidlaa", sum := "794eeed8c2f3cfc05d0e6a0431930a888c29b145dadad18c8945283e2f85e861", func := "waywarden/waywardenlaw03.OctetPlays", spec := "octetPlays", apart := false }
def OctetPlaysSaid : Prop := octetPlaysRow.holds Try.pinned (OpenSpec.ofChange octetPlaysSpec)

/-- ITS FALSE NEIGHBOUR: 'it returns false'. Refute it at one input. -/
def octetPlaysWrong : ChangeSpec := { name := "octetPlays", fn := fun _ => fun
  | [d1, d2] => { results := [.lit (.bool false)], args := [d1, d2] }
  | _ => none }
def OctetPlaysWrongFalsely : Prop := octetPlaysRow.holds Try.pinned (OpenSpec.ofChange octetPlaysWrong)

/-- 'waywardenlaw03.OctetEach': WHATEVER THE INPUT: true; the input reads as it did. -/
def octetEachSpec : ChangeSpec := { name := "octetEach", fn := fun _ => fun
  | [d1, d2, d3] => { results := [.lit (.bool true)], args := [d1, d2, d3] }
  | _ => none }
def octetEachRow : OpenClaim := { program := "ytheocodbceidlaa", sum := "794eeed8c2f3cfc05d0e6a0431930a888c29b145dadad18c8945283e2f85e861", func := "waywarden/waywardenlaw03.OctetEach", spec := "octetEach", unfollowed := true, recurses := true, apart := false }
def OctetEachSaid : Prop := octetEachRow.holds Try.pinned (OpenSpec.ofChange octetEachSpec)

/-- ITS FALSE NEIGHBOUR: 'it returns false'. Refute it at one input. -/
def octetEachWrong : ChangeSpec := { name := "octetEach", fn := fun _ => fun
  | [d1, d2, d3] => { results := [.lit (.bool false)], args := [d1, d2, d3] }
  | _ => none }
def OctetEachWrongFalsely : Prop := octetEachRow.holds Try.pinned (OpenSpec.ofChange octetEachWrong)

/- THE SECOND FORM. 'bulk': how many values and letters a reading holds, each counted each time it is reached (what is shared counts as often as it is met; a slice's spare places count too). A statement '..UptoSaid' is the law's where the arguments, and the package variables that the reading takes, are together of bulk at most 1048576: NARROWER than '..Said'. Prove '..Said' where nothing that the law and all that it calls make is longer than what came in: it says more and counts as full. Else prove '..UptoSaid'. A law counts once. -/
mutual
def uptoBulk {H : Type} : DataW H → Nat
  | .lit (.string bytes) => bytes.length + 1
  | .lit _ => 1
  | .nil => 1
  | .ptr d => uptoBulk d + 1
  | .slice elems spare => uptoBulkAll elems + uptoBulkAll spare + 1
  | .agg parts => uptoBulkAll parts + 1
  | .iface _ d => uptoBulk d + 1
  | .map entries => uptoBulkEntries entries + 1
  | .held _ => 1
def uptoBulkAll {H : Type} : List (DataW H) → Nat
  | [] => 0
  | d :: r => uptoBulk d + uptoBulkAll r
def uptoBulkEntries {H : Type} : List (Lit × DataW H) → Nat
  | [] => 0
  | x :: r => uptoBulkEntry x + uptoBulkEntries r
def uptoBulkEntry {H : Type} : Lit × DataW H → Nat
  | (.string bytes, d) => bytes.length + uptoBulk d + 1
  | (_, d) => uptoBulk d + 1
 end
def uptoSmall : (H : Type) → List (DataW H) → Bool := fun _ ds => decide (uptoBulkAll ds ≤ 1048576)
def OpenSpec.upto (s : _root_.Go.ChangeSpec) : _root_.Go.OpenSpec := { _root_.Go.OpenSpec.ofChange s with cond := some uptoSmall }

/-- 'waywardenlaw03.OctetPuts', WHERE WHAT IT READS IS OF BULK AT MOST 1048576: true; the input reads as it did. -/
def octetPutsUptoRow : OpenClaim := { program := "ytheocodbceidlaa", sum := "794eeed8c2f3cfc05d0e6a0431930a888c29b145dadad18c8945283e2f85e861", func := "waywarden/waywardenlaw03.OctetPuts", spec := "octetPuts", apart := false, narrowed := true }
def OctetPutsUptoSaid : Prop := octetPutsUptoRow.holds Try.pinned (OpenSpec.upto octetPutsSpec)

/-- 'waywardenlaw03.OctetReads', WHERE WHAT IT READS IS OF BULK AT MOST 1048576: true; the input reads as it did. -/
def octetReadsUptoRow : OpenClaim := { program := "ytheocodbceidlaa", sum := "794eeed8c2f3cfc05d0e6a0431930a888c29b145dadad18c8945283e2f85e861", func := "waywarden/waywardenlaw03.OctetReads", spec := "octetReads", apart := false, narrowed := true }
def OctetReadsUptoSaid : Prop := octetReadsUptoRow.holds Try.pinned (OpenSpec.upto octetReadsSpec)

/-- 'waywardenlaw03.OctetHolds', WHERE WHAT IT READS IS OF BULK AT MOST 1048576: true; the input reads as it did. -/
def octetHoldsUptoRow : OpenClaim := { program := "ytheocodbceidlaa", sum := "794eeed8c2f3cfc05d0e6a0431930a888c29b145dadad18c8945283e2f85e861", func := "waywarden/waywardenlaw03.OctetHolds", spec := "octetHolds", apart := false, narrowed := true }
def OctetHoldsUptoSaid : Prop := octetHoldsUptoRow.holds Try.pinned (OpenSpec.upto octetHoldsSpec)

/-- 'waywardenlaw03.OctetPlays', WHERE WHAT IT READS IS OF BULK AT MOST 1048576: true; the input reads as it did. -/
def octetPlaysUptoRow : OpenClaim := { program := "ytheocodbceidlaa", sum := "794eeed8c2f3cfc05d0e6a0431930a888c29b145dadad18c8945283e2f85e861", func := "waywarden/waywardenlaw03.OctetPlays", spec := "octetPlays", apart := false, narrowed := true }
def OctetPlaysUptoSaid : Prop := octetPlaysUptoRow.holds Try.pinned (OpenSpec.upto octetPlaysSpec)

/-- 'waywardenlaw03.OctetEach', WHERE WHAT IT READS IS OF BULK AT MOST 1048576: true; the input reads as it did. -/
def octetEachUptoRow : OpenClaim := { program := "ytheocodbceidlaa", sum := "794eeed8c2f3cfc05d0e6a0431930a888c29b145dadad18c8945283e2f85e861", func := "waywarden/waywardenlaw03.OctetEach", spec := "octetEach", unfollowed := true, recurses := true, apart := false, narrowed := true }
def OctetEachUptoSaid : Prop := octetEachUptoRow.holds Try.pinned (OpenSpec.upto octetEachSpec)

end Rows
end Go.Proofs.Ytheocodbceidlaa
