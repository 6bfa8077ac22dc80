/-
  No cell of these rows narrows 'for every input' (looked for: loops, veiled, ifaces, maps, wideKeys, modest, calm, conditions, laid).
  DERIVED. THE GIVEN ROWS OF THIS SEAT. 8 by the template 'for every input the law returns true; each argument reads behind the call as it read before'; 0 by the template 'total and deterministic' (their statements: YtoncjohnkiilcaaTotals.lean).
  GIVEN WITH THE SEED: the statements are not yours to turn. If you find one false, say at which input.
  Laid BY PROGRAM, IN A SANDBOX (cutbox-rows.mjs): the forced cells as the released guide's own fill.sh prints them over the translation 463052ef9dcea05b… (all of the seat's roots in one cut). By AI agents, Wed Nov 11 2026. No macro, syntax, notation, axiom, sorry.
-/
import Derived.Test.YtoncjohnkiilcaaChecked
import GoSem.Claim
import GoSem.ClaimJoined
import GoSem.ClaimMapViews
import Derived.JoinedTies
import Derived.KernelRfl
namespace Go.Proofs.Ytoncjohnkiilcaa
/- THE CELL 'sum', in the pinned program and in every row, IS THE sha256 OF THE DUMP (.gsa) THAT YtoncjohnkiilcaaProg.lean LOADS. Nothing in Lean hashes anything: it is a label: what it is worth is what the hold of that sum in a sandbox is worth. -/
noncomputable def Try.pinned : Pinned := { name := "ytoncjohnkiilcaa", sum := "463052ef9dcea05b3d5e0227318bc2162b4a5a5b15c3f7af84de9017ae9339d1", checked := Try.checked }
namespace Rows
def none {H : Type} : Left H := { results := [], args := [] }

/-- 'laws.FnExactDistinctKeys': WHATEVER THE INPUT: true; the input reads as it did. -/
def fnExactDistinctKeysSpec : ChangeSpec := { name := "fnExactDistinctKeys", fn := fun _ => fun
  | [d] => { results := [.lit (.bool true)], args := [d] }
  | _ => none }
def fnExactDistinctKeysRow : OpenClaim := { program := "ytoncjohnkiilcaa", sum := "463052ef9dcea05b3d5e0227318bc2162b4a5a5b15c3f7af84de9017ae9339d1", func := "loop.example/g01920/laws.FnExactDistinctKeys", spec := "fnExactDistinctKeys", apart := false }
def FnExactDistinctKeysSaid : Prop := fnExactDistinctKeysRow.holds Try.pinned (OpenSpec.ofChange fnExactDistinctKeysSpec)

/-- ITS FALSE NEIGHBOUR: 'it returns false'. Refute it at one input. -/
def fnExactDistinctKeysWrong : ChangeSpec := { name := "fnExactDistinctKeys", fn := fun _ => fun
  | [d] => { results := [.lit (.bool false)], args := [d] }
  | _ => none }
def FnExactDistinctKeysWrongFalsely : Prop := fnExactDistinctKeysRow.holds Try.pinned (OpenSpec.ofChange fnExactDistinctKeysWrong)

/-- 'laws.FnExactEqualAggregators': WHATEVER THE INPUT: true; the input reads as it did. -/
def fnExactEqualAggregatorsSpec : ChangeSpec := { name := "fnExactEqualAggregators", fn := fun _ => fun
  | [d1, d2] => { results := [.lit (.bool true)], args := [d1, d2] }
  | _ => none }
def fnExactEqualAggregatorsRow : OpenClaim := { program := "ytoncjohnkiilcaa", sum := "463052ef9dcea05b3d5e0227318bc2162b4a5a5b15c3f7af84de9017ae9339d1", func := "loop.example/g01920/laws.FnExactEqualAggregators", spec := "fnExactEqualAggregators", apart := false }
def FnExactEqualAggregatorsSaid : Prop := fnExactEqualAggregatorsRow.holds Try.pinned (OpenSpec.ofChange fnExactEqualAggregatorsSpec)

/-- ITS FALSE NEIGHBOUR: 'it returns false'. Refute it at one input. -/
def fnExactEqualAggregatorsWrong : ChangeSpec := { name := "fnExactEqualAggregators", fn := fun _ => fun
  | [d1, d2] => { results := [.lit (.bool false)], args := [d1, d2] }
  | _ => none }
def FnExactEqualAggregatorsWrongFalsely : Prop := fnExactEqualAggregatorsRow.holds Try.pinned (OpenSpec.ofChange fnExactEqualAggregatorsWrong)

/-- 'laws.FnExactIsValidAggregator': WHATEVER THE INPUT: true; the input reads as it did. -/
def fnExactIsValidAggregatorSpec : ChangeSpec := { name := "fnExactIsValidAggregator", fn := fun _ => fun
  | [d] => { results := [.lit (.bool true)], args := [d] }
  | _ => none }
def fnExactIsValidAggregatorRow : OpenClaim := { program := "ytoncjohnkiilcaa", sum := "463052ef9dcea05b3d5e0227318bc2162b4a5a5b15c3f7af84de9017ae9339d1", func := "loop.example/g01920/laws.FnExactIsValidAggregator", spec := "fnExactIsValidAggregator", apart := false }
def FnExactIsValidAggregatorSaid : Prop := fnExactIsValidAggregatorRow.holds Try.pinned (OpenSpec.ofChange fnExactIsValidAggregatorSpec)

/-- ITS FALSE NEIGHBOUR: 'it returns false'. Refute it at one input. -/
def fnExactIsValidAggregatorWrong : ChangeSpec := { name := "fnExactIsValidAggregator", fn := fun _ => fun
  | [d] => { results := [.lit (.bool false)], args := [d] }
  | _ => none }
def FnExactIsValidAggregatorWrongFalsely : Prop := fnExactIsValidAggregatorRow.holds Try.pinned (OpenSpec.ofChange fnExactIsValidAggregatorWrong)

/-- 'laws.FnExactNewAggregator': WHATEVER THE INPUT: true; the input reads as it did. -/
def fnExactNewAggregatorSpec : ChangeSpec := { name := "fnExactNewAggregator", fn := fun _ => fun
  | [d1, d2] => { results := [.lit (.bool true)], args := [d1, d2] }
  | _ => none }
def fnExactNewAggregatorRow : OpenClaim := { program := "ytoncjohnkiilcaa", sum := "463052ef9dcea05b3d5e0227318bc2162b4a5a5b15c3f7af84de9017ae9339d1", func := "loop.example/g01920/laws.FnExactNewAggregator", spec := "fnExactNewAggregator", apart := false }
def FnExactNewAggregatorSaid : Prop := fnExactNewAggregatorRow.holds Try.pinned (OpenSpec.ofChange fnExactNewAggregatorSpec)

/-- ITS FALSE NEIGHBOUR: 'it returns false'. Refute it at one input. -/
def fnExactNewAggregatorWrong : ChangeSpec := { name := "fnExactNewAggregator", fn := fun _ => fun
  | [d1, d2] => { results := [.lit (.bool false)], args := [d1, d2] }
  | _ => none }
def FnExactNewAggregatorWrongFalsely : Prop := fnExactNewAggregatorRow.holds Try.pinned (OpenSpec.ofChange fnExactNewAggregatorWrong)

/-- 'laws.FnExactRollupGroups': WHATEVER THE INPUT: true; the input reads as it did. -/
def fnExactRollupGroupsSpec : ChangeSpec := { name := "fnExactRollupGroups", fn := fun _ => fun
  | [d] => { results := [.lit (.bool true)], args := [d] }
  | _ => none }
def fnExactRollupGroupsRow : OpenClaim := { program := "ytoncjohnkiilcaa", sum := "463052ef9dcea05b3d5e0227318bc2162b4a5a5b15c3f7af84de9017ae9339d1", func := "loop.example/g01920/laws.FnExactRollupGroups", spec := "fnExactRollupGroups", unfollowed := true, recurses := true, apart := false }
def FnExactRollupGroupsSaid : Prop := fnExactRollupGroupsRow.holds Try.pinned (OpenSpec.ofChange fnExactRollupGroupsSpec)

/-- ITS FALSE NEIGHBOUR: 'it returns false'. Refute it at one input. -/
def fnExactRollupGroupsWrong : ChangeSpec := { name := "fnExactRollupGroups", fn := fun _ => fun
  | [d] => { results := [.lit (.bool false)], args := [d] }
  | _ => none }
def FnExactRollupGroupsWrongFalsely : Prop := fnExactRollupGroupsRow.holds Try.pinned (OpenSpec.ofChange fnExactRollupGroupsWrong)

/-- 'laws.FnExactRollupRows': WHATEVER THE INPUT: true; the input reads as it did. -/
def fnExactRollupRowsSpec : ChangeSpec := { name := "fnExactRollupRows", fn := fun _ => fun
  | [d] => { results := [.lit (.bool true)], args := [d] }
  | _ => none }
def fnExactRollupRowsRow : OpenClaim := { program := "ytoncjohnkiilcaa", sum := "463052ef9dcea05b3d5e0227318bc2162b4a5a5b15c3f7af84de9017ae9339d1", func := "loop.example/g01920/laws.FnExactRollupRows", spec := "fnExactRollupRows", unfollowed := true, recurses := true, apart := false }
def FnExactRollupRowsSaid : Prop := fnExactRollupRowsRow.holds Try.pinned (OpenSpec.ofChange fnExactRollupRowsSpec)

/-- ITS FALSE NEIGHBOUR: 'it returns false'. Refute it at one input. -/
def fnExactRollupRowsWrong : ChangeSpec := { name := "fnExactRollupRows", fn := fun _ => fun
  | [d] => { results := [.lit (.bool false)], args := [d] }
  | _ => none }
def FnExactRollupRowsWrongFalsely : Prop := fnExactRollupRowsRow.holds Try.pinned (OpenSpec.ofChange fnExactRollupRowsWrong)

/-- 'laws.FnExactRunGroup': WHATEVER THE INPUT: true; the input reads as it did. -/
def fnExactRunGroupSpec : ChangeSpec := { name := "fnExactRunGroup", fn := fun _ => fun
  | [d1, d2, d3] => { results := [.lit (.bool true)], args := [d1, d2, d3] }
  | _ => none }
def fnExactRunGroupRow : OpenClaim := { program := "ytoncjohnkiilcaa", sum := "463052ef9dcea05b3d5e0227318bc2162b4a5a5b15c3f7af84de9017ae9339d1", func := "loop.example/g01920/laws.FnExactRunGroup", spec := "fnExactRunGroup", unfollowed := true, recurses := true, apart := false }
def FnExactRunGroupSaid : Prop := fnExactRunGroupRow.holds Try.pinned (OpenSpec.ofChange fnExactRunGroupSpec)

/-- ITS FALSE NEIGHBOUR: 'it returns false'. Refute it at one input. -/
def fnExactRunGroupWrong : ChangeSpec := { name := "fnExactRunGroup", fn := fun _ => fun
  | [d1, d2, d3] => { results := [.lit (.bool false)], args := [d1, d2, d3] }
  | _ => none }
def FnExactRunGroupWrongFalsely : Prop := fnExactRunGroupRow.holds Try.pinned (OpenSpec.ofChange fnExactRunGroupWrong)

/-- 'laws.FnExactStepAggregator': WHATEVER THE INPUT: true; the input reads as it did. -/
def fnExactStepAggregatorSpec : ChangeSpec := { name := "fnExactStepAggregator", fn := fun _ => fun
  | [d1, d2] => { results := [.lit (.bool true)], args := [d1, d2] }
  | _ => none }
def fnExactStepAggregatorRow : OpenClaim := { program := "ytoncjohnkiilcaa", sum := "463052ef9dcea05b3d5e0227318bc2162b4a5a5b15c3f7af84de9017ae9339d1", func := "loop.example/g01920/laws.FnExactStepAggregator", spec := "fnExactStepAggregator", unfollowed := true, recurses := true, apart := false }
def FnExactStepAggregatorSaid : Prop := fnExactStepAggregatorRow.holds Try.pinned (OpenSpec.ofChange fnExactStepAggregatorSpec)

/-- ITS FALSE NEIGHBOUR: 'it returns false'. Refute it at one input. -/
def fnExactStepAggregatorWrong : ChangeSpec := { name := "fnExactStepAggregator", fn := fun _ => fun
  | [d1, d2] => { results := [.lit (.bool false)], args := [d1, d2] }
  | _ => none }
def FnExactStepAggregatorWrongFalsely : Prop := fnExactStepAggregatorRow.holds Try.pinned (OpenSpec.ofChange fnExactStepAggregatorWrong)

/- THE SECOND FORM. 'bulk': how many values and letters a reading holds, each counted each time it is reached (what is shared counts as often as it is met; a slice's spare places count too). A statement '..UptoSaid' is the law's where the arguments, and the package variables that the reading takes, are together of bulk at most 1048576: NARROWER than '..Said'. Prove '..Said' where nothing that the law and all that it calls make is longer than what came in: it says more and counts as full. Else prove '..UptoSaid'. A law counts once. -/
mutual
def uptoBulk {H : Type} : DataW H → Nat
  | .lit (.string bytes) => bytes.length + 1
  | .lit _ => 1
  | .nil => 1
  | .ptr d => uptoBulk d + 1
  | .slice elems spare => uptoBulkAll elems + uptoBulkAll spare + 1
  | .agg parts => uptoBulkAll parts + 1
  | .iface _ d => uptoBulk d + 1
  | .map entries => uptoBulkEntries entries + 1
  | .held _ => 1
def uptoBulkAll {H : Type} : List (DataW H) → Nat
  | [] => 0
  | d :: r => uptoBulk d + uptoBulkAll r
def uptoBulkEntries {H : Type} : List (Lit × DataW H) → Nat
  | [] => 0
  | x :: r => uptoBulkEntry x + uptoBulkEntries r
def uptoBulkEntry {H : Type} : Lit × DataW H → Nat
  | (.string bytes, d) => bytes.length + uptoBulk d + 1
  | (_, d) => uptoBulk d + 1
 end
def uptoSmall : (H : Type) → List (DataW H) → Bool := fun _ ds => decide (uptoBulkAll ds ≤ 1048576)
def OpenSpec.upto (s : _root_.Go.ChangeSpec) : _root_.Go.OpenSpec := { _root_.Go.OpenSpec.ofChange s with cond := some uptoSmall }

/-- 'laws.FnExactDistinctKeys', WHERE WHAT IT READS IS OF BULK AT MOST 1048576: true; the input reads as it did. -/
def fnExactDistinctKeysUptoRow : OpenClaim := { program := "ytoncjohnkiilcaa", sum := "463052ef9dcea05b3d5e0227318bc2162b4a5a5b15c3f7af84de9017ae9339d1", func := "loop.example/g01920/laws.FnExactDistinctKeys", spec := "fnExactDistinctKeys", apart := false, narrowed := true }
def FnExactDistinctKeysUptoSaid : Prop := fnExactDistinctKeysUptoRow.holds Try.pinned (OpenSpec.upto fnExactDistinctKeysSpec)

/-- 'laws.FnExactEqualAggregators', WHERE WHAT IT READS IS OF BULK AT MOST 1048576: true; the input reads as it did. -/
def fnExactEqualAggregatorsUptoRow : OpenClaim := { program := "ytoncjohnkiilcaa", sum := "463052ef9dcea05b3d5e0227318bc2162b4a5a5b15c3f7af84de9017ae9339d1", func := "loop.example/g01920/laws.FnExactEqualAggregators", spec := "fnExactEqualAggregators", apart := false, narrowed := true }
def FnExactEqualAggregatorsUptoSaid : Prop := fnExactEqualAggregatorsUptoRow.holds Try.pinned (OpenSpec.upto fnExactEqualAggregatorsSpec)

/-- 'laws.FnExactIsValidAggregator', WHERE WHAT IT READS IS OF BULK AT MOST 1048576: true; the input reads as it did. -/
def fnExactIsValidAggregatorUptoRow : OpenClaim := { program := "ytoncjohnkiilcaa", sum := "463052ef9dcea05b3d5e0227318bc2162b4a5a5b15c3f7af84de9017ae9339d1", func := "loop.example/g01920/laws.FnExactIsValidAggregator", spec := "fnExactIsValidAggregator", apart := false, narrowed := true }
def FnExactIsValidAggregatorUptoSaid : Prop := fnExactIsValidAggregatorUptoRow.holds Try.pinned (OpenSpec.upto fnExactIsValidAggregatorSpec)

/-- 'laws.FnExactNewAggregator', WHERE WHAT IT READS IS OF BULK AT MOST 1048576: true; the input reads as it did. -/
def fnExactNewAggregatorUptoRow : OpenClaim := { program := "ytoncjohnkiilcaa", sum := "463052ef9dcea05b3d5e0227318bc2162b4a5a5b15c3f7af84de9017ae9339d1", func := "loop.example/g01920/laws.FnExactNewAggregator", spec := "fnExactNewAggregator", apart := false, narrowed := true }
def FnExactNewAggregatorUptoSaid : Prop := fnExactNewAggregatorUptoRow.holds Try.pinned (OpenSpec.upto fnExactNewAggregatorSpec)

/-- 'laws.FnExactRollupGroups', WHERE WHAT IT READS IS OF BULK AT MOST 1048576: true; the input reads as it did. -/
def fnExactRollupGroupsUptoRow : OpenClaim := { program := "ytoncjohnkiilcaa", sum := "463052ef9dcea05b3d5e0227318bc2162b4a5a5b15c3f7af84de9017ae9339d1", func := "loop.example/g01920/laws.FnExactRollupGroups", spec := "fnExactRollupGroups", unfollowed := true, recurses := true, apart := false, narrowed := true }
def FnExactRollupGroupsUptoSaid : Prop := fnExactRollupGroupsUptoRow.holds Try.pinned (OpenSpec.upto fnExactRollupGroupsSpec)

/-- 'laws.FnExactRollupRows', WHERE WHAT IT READS IS OF BULK AT MOST 1048576: true; the input reads as it did. -/
def fnExactRollupRowsUptoRow : OpenClaim := { program := "ytoncjohnkiilcaa", sum := "463052ef9dcea05b3d5e0227318bc2162b4a5a5b15c3f7af84de9017ae9339d1", func := "loop.example/g01920/laws.FnExactRollupRows", spec := "fnExactRollupRows", unfollowed := true, recurses := true, apart := false, narrowed := true }
def FnExactRollupRowsUptoSaid : Prop := fnExactRollupRowsUptoRow.holds Try.pinned (OpenSpec.upto fnExactRollupRowsSpec)

/-- 'laws.FnExactRunGroup', WHERE WHAT IT READS IS OF BULK AT MOST 1048576: true; the input reads as it did. -/
def fnExactRunGroupUptoRow : OpenClaim := { program := "ytoncjohnkiilcaa", sum := "463052ef9dcea05b3d5e0227318bc2162b4a5a5b15c3f7af84de9017ae9339d1", func := "loop.example/g01920/laws.FnExactRunGroup", spec := "fnExactRunGroup", unfollowed := true, recurses := true, apart := false, narrowed := true }
def FnExactRunGroupUptoSaid : Prop := fnExactRunGroupUptoRow.holds Try.pinned (OpenSpec.upto fnExactRunGroupSpec)

/-- 'laws.FnExactStepAggregator', WHERE WHAT IT READS IS OF BULK AT MOST 1048576: true; the input reads as it did. -/
def fnExactStepAggregatorUptoRow : OpenClaim := { program := "ytoncjohnkiilcaa", sum := "463052ef9dcea05b3d5e0227318bc2162b4a5a5b15c3f7af84de9017ae9339d1", func := "loop.example/g01920/laws.FnExactStepAggregator", spec := "fnExactStepAggregator", unfollowed := true, recurses := true, apart := false, narrowed := true }
def FnExactStepAggregatorUptoSaid : Prop := fnExactStepAggregatorUptoRow.holds Try.pinned (OpenSpec.upto fnExactStepAggregatorSpec)

end Rows
end Go.Proofs.Ytoncjohnkiilcaa
