/-
  No cell of these rows narrows 'for every input' (looked for: loops, veiled, ifaces, maps, wideKeys, modest, calm, conditions, laid).
  DERIVED. THE GIVEN ROWS OF THIS SEAT. 4 by the template 'for every input the law returns true; each argument reads behind the call as it read before'; 0 by the template 'total and deterministic' (their statements: YtamjndlkompeeaaTotals.lean).
  GIVEN WITH THE SEED: the statements are not yours to turn. If you find one false, say at which input.
  Laid BY PROGRAM, IN A SANDBOX (cutbox-rows.mjs): the forced cells as the released guide's own fill.sh prints them over the translation cfeb21d0dc51d8bc… (all of the seat's roots in one cut). By AI agents, Wed Nov 11 2026. No macro, syntax, notation, axiom, sorry.
-/
import Derived.Test.YtamjndlkompeeaaChecked
import GoSem.Claim
import GoSem.ClaimJoined
import GoSem.ClaimMapViews
import Derived.JoinedTies
import Derived.KernelRfl
namespace Go.Proofs.Ytamjndlkompeeaa
/- THE CELL 'sum', in the pinned program and in every row, IS THE sha256 OF THE DUMP (.gsa) THAT YtamjndlkompeeaaProg.lean LOADS. Nothing in Lean hashes anything: it is a label: what it is worth is what the hold of that sum in a sandbox is worth. -/
noncomputable def Try.pinned : Pinned := { name := "ytamjndlkompeeaa", sum := "cfeb21d0dc51d8bce979b4b8b28def2e19ef63d8a486edf232e6dd1ad886662d", checked := Try.checked }
namespace Rows
def none {H : Type} : Left H := { results := [], args := [] }

/-- 'laws.FnTaskRoundTrip': WHATEVER THE INPUT: true; the input reads as it did. -/
def fnTaskRoundTripSpec : ChangeSpec := { name := "fnTaskRoundTrip", fn := fun _ => fun
  | [d] => { results := [.lit (.bool true)], args := [d] }
  | _ => none }
def fnTaskRoundTripRow : OpenClaim := { program := "ytamjndlkompeeaa", sum := "cfeb21d0dc51d8bce979b4b8b28def2e19ef63d8a486edf232e6dd1ad886662d", func := "loop.example/g01920/laws.FnTaskRoundTrip", spec := "fnTaskRoundTrip", recurses := true, apart := false }
def FnTaskRoundTripSaid : Prop := fnTaskRoundTripRow.holds Try.pinned (OpenSpec.ofChange fnTaskRoundTripSpec)

/-- ITS FALSE NEIGHBOUR: 'it returns false'. Refute it at one input. -/
def fnTaskRoundTripWrong : ChangeSpec := { name := "fnTaskRoundTrip", fn := fun _ => fun
  | [d] => { results := [.lit (.bool false)], args := [d] }
  | _ => none }
def FnTaskRoundTripWrongFalsely : Prop := fnTaskRoundTripRow.holds Try.pinned (OpenSpec.ofChange fnTaskRoundTripWrong)

/-- 'laws.FnAggregatorRoundTrip': WHATEVER THE INPUT: true; the input reads as it did. -/
def fnAggregatorRoundTripSpec : ChangeSpec := { name := "fnAggregatorRoundTrip", fn := fun _ => fun
  | [d] => { results := [.lit (.bool true)], args := [d] }
  | _ => none }
def fnAggregatorRoundTripRow : OpenClaim := { program := "ytamjndlkompeeaa", sum := "cfeb21d0dc51d8bce979b4b8b28def2e19ef63d8a486edf232e6dd1ad886662d", func := "loop.example/g01920/laws.FnAggregatorRoundTrip", spec := "fnAggregatorRoundTrip", recurses := true, apart := false }
def FnAggregatorRoundTripSaid : Prop := fnAggregatorRoundTripRow.holds Try.pinned (OpenSpec.ofChange fnAggregatorRoundTripSpec)

/-- ITS FALSE NEIGHBOUR: 'it returns false'. Refute it at one input. -/
def fnAggregatorRoundTripWrong : ChangeSpec := { name := "fnAggregatorRoundTrip", fn := fun _ => fun
  | [d] => { results := [.lit (.bool false)], args := [d] }
  | _ => none }
def FnAggregatorRoundTripWrongFalsely : Prop := fnAggregatorRoundTripRow.holds Try.pinned (OpenSpec.ofChange fnAggregatorRoundTripWrong)

/-- 'laws.FnJoinerTermination': WHATEVER THE INPUT: true; the input reads as it did. -/
def fnJoinerTerminationSpec : ChangeSpec := { name := "fnJoinerTermination", fn := fun _ => fun
  | [d] => { results := [.lit (.bool true)], args := [d] }
  | _ => none }
def fnJoinerTerminationRow : OpenClaim := { program := "ytamjndlkompeeaa", sum := "cfeb21d0dc51d8bce979b4b8b28def2e19ef63d8a486edf232e6dd1ad886662d", func := "loop.example/g01920/laws.FnJoinerTermination", spec := "fnJoinerTermination", recurses := true, apart := false }
def FnJoinerTerminationSaid : Prop := fnJoinerTerminationRow.holds Try.pinned (OpenSpec.ofChange fnJoinerTerminationSpec)

/-- ITS FALSE NEIGHBOUR: 'it returns false'. Refute it at one input. -/
def fnJoinerTerminationWrong : ChangeSpec := { name := "fnJoinerTermination", fn := fun _ => fun
  | [d] => { results := [.lit (.bool false)], args := [d] }
  | _ => none }
def FnJoinerTerminationWrongFalsely : Prop := fnJoinerTerminationRow.holds Try.pinned (OpenSpec.ofChange fnJoinerTerminationWrong)

/-- 'laws.FnJoinerRoundTrip': WHATEVER THE INPUT: true; the input reads as it did. -/
def fnJoinerRoundTripSpec : ChangeSpec := { name := "fnJoinerRoundTrip", fn := fun _ => fun
  | [d] => { results := [.lit (.bool true)], args := [d] }
  | _ => none }
def fnJoinerRoundTripRow : OpenClaim := { program := "ytamjndlkompeeaa", sum := "cfeb21d0dc51d8bce979b4b8b28def2e19ef63d8a486edf232e6dd1ad886662d", func := "loop.example/g01920/laws.FnJoinerRoundTrip", spec := "fnJoinerRoundTrip", recurses := true, apart := false }
def FnJoinerRoundTripSaid : Prop := fnJoinerRoundTripRow.holds Try.pinned (OpenSpec.ofChange fnJoinerRoundTripSpec)

/-- ITS FALSE NEIGHBOUR: 'it returns false'. Refute it at one input. -/
def fnJoinerRoundTripWrong : ChangeSpec := { name := "fnJoinerRoundTrip", fn := fun _ => fun
  | [d] => { results := [.lit (.bool false)], args := [d] }
  | _ => none }
def FnJoinerRoundTripWrongFalsely : Prop := fnJoinerRoundTripRow.holds Try.pinned (OpenSpec.ofChange fnJoinerRoundTripWrong)

/- THE SECOND FORM. 'bulk': how many values and letters a reading holds, each counted each time it is reached (what is shared counts as often as it is met; a slice's spare places count too). A statement '..UptoSaid' is the law's where the arguments, and the package variables that the reading takes, are together of bulk at most 1048576: NARROWER than '..Said'. Prove '..Said' where nothing that the law and all that it calls make is longer than what came in: it says more and counts as full. Else prove '..UptoSaid'. A law counts once. -/
mutual
def uptoBulk {H : Type} : DataW H → Nat
  | .lit (.string bytes) => bytes.length + 1
  | .lit _ => 1
  | .nil => 1
  | .ptr d => uptoBulk d + 1
  | .slice elems spare => uptoBulkAll elems + uptoBulkAll spare + 1
  | .agg parts => uptoBulkAll parts + 1
  | .iface _ d => uptoBulk d + 1
  | .map entries => uptoBulkEntries entries + 1
  | .held _ => 1
def uptoBulkAll {H : Type} : List (DataW H) → Nat
  | [] => 0
  | d :: r => uptoBulk d + uptoBulkAll r
def uptoBulkEntries {H : Type} : List (Lit × DataW H) → Nat
  | [] => 0
  | x :: r => uptoBulkEntry x + uptoBulkEntries r
def uptoBulkEntry {H : Type} : Lit × DataW H → Nat
  | (.string bytes, d) => bytes.length + uptoBulk d + 1
  | (_, d) => uptoBulk d + 1
 end
def uptoSmall : (H : Type) → List (DataW H) → Bool := fun _ ds => decide (uptoBulkAll ds ≤ 1048576)
def OpenSpec.upto (s : _root_.Go.ChangeSpec) : _root_.Go.OpenSpec := { _root_.Go.OpenSpec.ofChange s with cond := some uptoSmall }

/-- 'laws.FnTaskRoundTrip', WHERE WHAT IT READS IS OF BULK AT MOST 1048576: true; the input reads as it did. -/
def fnTaskRoundTripUptoRow : OpenClaim := { program := "ytamjndlkompeeaa", sum := "cfeb21d0dc51d8bce979b4b8b28def2e19ef63d8a486edf232e6dd1ad886662d", func := "loop.example/g01920/laws.FnTaskRoundTrip", spec := "fnTaskRoundTrip", recurses := true, apart := false, narrowed := true }
def FnTaskRoundTripUptoSaid : Prop := fnTaskRoundTripUptoRow.holds Try.pinned (OpenSpec.upto fnTaskRoundTripSpec)

/-- 'laws.FnAggregatorRoundTrip', WHERE WHAT IT READS IS OF BULK AT MOST 1048576: true; the input reads as it did. -/
def fnAggregatorRoundTripUptoRow : OpenClaim := { program := "ytamjndlkompeeaa", sum := "cfeb21d0dc51d8bce979b4b8b28def2e19ef63d8a486edf232e6dd1ad886662d", func := "loop.example/g01920/laws.FnAggregatorRoundTrip", spec := "fnAggregatorRoundTrip", recurses := true, apart := false, narrowed := true }
def FnAggregatorRoundTripUptoSaid : Prop := fnAggregatorRoundTripUptoRow.holds Try.pinned (OpenSpec.upto fnAggregatorRoundTripSpec)

/-- 'laws.FnJoinerTermination', WHERE WHAT IT READS IS OF BULK AT MOST 1048576: true; the input reads as it did. -/
def fnJoinerTerminationUptoRow : OpenClaim := { program := "ytamjndlkompeeaa", sum := "cfeb21d0dc51d8bce979b4b8b28def2e19ef63d8a486edf232e6dd1ad886662d", func := "loop.example/g01920/laws.FnJoinerTermination", spec := "fnJoinerTermination", recurses := true, apart := false, narrowed := true }
def FnJoinerTerminationUptoSaid : Prop := fnJoinerTerminationUptoRow.holds Try.pinned (OpenSpec.upto fnJoinerTerminationSpec)

/-- 'laws.FnJoinerRoundTrip', WHERE WHAT IT READS IS OF BULK AT MOST 1048576: true; the input reads as it did. -/
def fnJoinerRoundTripUptoRow : OpenClaim := { program := "ytamjndlkompeeaa", sum := "cfeb21d0dc51d8bce979b4b8b28def2e19ef63d8a486edf232e6dd1ad886662d", func := "loop.example/g01920/laws.FnJoinerRoundTrip", spec := "fnJoinerRoundTrip", recurses := true, apart := false, narrowed := true }
def FnJoinerRoundTripUptoSaid : Prop := fnJoinerRoundTripUptoRow.holds Try.pinned (OpenSpec.upto fnJoinerRoundTripSpec)

end Rows
end Go.Proofs.Ytamjndlkompeeaa
