/-
  No cell of these rows narrows 'for every input' (looked for: loops, veiled, ifaces, maps, wideKeys, modest, calm, conditions, laid).
  DERIVED. THE GIVEN ROWS OF THIS SEAT. 7 by the template 'for every input the law returns true; each argument reads behind the call as it read before'; 0 by the template 'total and deterministic' (their statements: YtfcebaplphpajaaTotals.lean).
  GIVEN WITH THE SEED: the statements are not yours to turn. If you find one false, say at which input.
  Laid BY PROGRAM, IN A SANDBOX (cutbox-rows.mjs): the forced cells as the released guide's own fill.sh prints them over the translation 140bc9d26732a84d… (all of the seat's roots in one cut). By AI agents, Wed Nov 11 2026. No macro, syntax, notation, axiom, sorry.
-/
import Derived.Test.YtfcebaplphpajaaChecked
import GoSem.Claim
import GoSem.ClaimJoined
import GoSem.ClaimMapViews
import Derived.JoinedTies
import Derived.KernelRfl
namespace Go.Proofs.Ytfcebaplphpajaa
/- THE CELL 'sum', in the pinned program and in every row, IS THE sha256 OF THE DUMP (.gsa) THAT YtfcebaplphpajaaProg.lean LOADS. Nothing in Lean hashes anything: it is a label: what it is worth is what the hold of that sum in a sandbox is worth. -/
noncomputable def Try.pinned : Pinned := { name := "ytfcebaplphpajaa", sum := "140bc9d26732a84d8862f72ea24f9d3f97a646e36b7760e8dc890fce765510b4", checked := Try.checked }
namespace Rows
def none {H : Type} : Left H := { results := [], args := [] }

/-- 'laws.FnExactPendingRows': WHATEVER THE INPUT: true; the input reads as it did. -/
def fnExactPendingRowsSpec : ChangeSpec := { name := "fnExactPendingRows", fn := fun _ => fun
  | [d] => { results := [.lit (.bool true)], args := [d] }
  | _ => none }
def fnExactPendingRowsRow : OpenClaim := { program := "ytfcebaplphpajaa", sum := "140bc9d26732a84d8862f72ea24f9d3f97a646e36b7760e8dc890fce765510b4", func := "loop.example/g01920/laws.FnExactPendingRows", spec := "fnExactPendingRows", apart := false }
def FnExactPendingRowsSaid : Prop := fnExactPendingRowsRow.holds Try.pinned (OpenSpec.ofChange fnExactPendingRowsSpec)

/-- ITS FALSE NEIGHBOUR: 'it returns false'. Refute it at one input. -/
def fnExactPendingRowsWrong : ChangeSpec := { name := "fnExactPendingRows", fn := fun _ => fun
  | [d] => { results := [.lit (.bool false)], args := [d] }
  | _ => none }
def FnExactPendingRowsWrongFalsely : Prop := fnExactPendingRowsRow.holds Try.pinned (OpenSpec.ofChange fnExactPendingRowsWrong)

/-- 'laws.FnExactIsValidJoiner': WHATEVER THE INPUT: true; the input reads as it did. -/
def fnExactIsValidJoinerSpec : ChangeSpec := { name := "fnExactIsValidJoiner", fn := fun _ => fun
  | [d] => { results := [.lit (.bool true)], args := [d] }
  | _ => none }
def fnExactIsValidJoinerRow : OpenClaim := { program := "ytfcebaplphpajaa", sum := "140bc9d26732a84d8862f72ea24f9d3f97a646e36b7760e8dc890fce765510b4", func := "loop.example/g01920/laws.FnExactIsValidJoiner", spec := "fnExactIsValidJoiner", apart := false }
def FnExactIsValidJoinerSaid : Prop := fnExactIsValidJoinerRow.holds Try.pinned (OpenSpec.ofChange fnExactIsValidJoinerSpec)

/-- ITS FALSE NEIGHBOUR: 'it returns false'. Refute it at one input. -/
def fnExactIsValidJoinerWrong : ChangeSpec := { name := "fnExactIsValidJoiner", fn := fun _ => fun
  | [d] => { results := [.lit (.bool false)], args := [d] }
  | _ => none }
def FnExactIsValidJoinerWrongFalsely : Prop := fnExactIsValidJoinerRow.holds Try.pinned (OpenSpec.ofChange fnExactIsValidJoinerWrong)

/-- 'laws.FnExactEqualJoiners': WHATEVER THE INPUT: true; the input reads as it did. -/
def fnExactEqualJoinersSpec : ChangeSpec := { name := "fnExactEqualJoiners", fn := fun _ => fun
  | [d1, d2] => { results := [.lit (.bool true)], args := [d1, d2] }
  | _ => none }
def fnExactEqualJoinersRow : OpenClaim := { program := "ytfcebaplphpajaa", sum := "140bc9d26732a84d8862f72ea24f9d3f97a646e36b7760e8dc890fce765510b4", func := "loop.example/g01920/laws.FnExactEqualJoiners", spec := "fnExactEqualJoiners", apart := false }
def FnExactEqualJoinersSaid : Prop := fnExactEqualJoinersRow.holds Try.pinned (OpenSpec.ofChange fnExactEqualJoinersSpec)

/-- ITS FALSE NEIGHBOUR: 'it returns false'. Refute it at one input. -/
def fnExactEqualJoinersWrong : ChangeSpec := { name := "fnExactEqualJoiners", fn := fun _ => fun
  | [d1, d2] => { results := [.lit (.bool false)], args := [d1, d2] }
  | _ => none }
def FnExactEqualJoinersWrongFalsely : Prop := fnExactEqualJoinersRow.holds Try.pinned (OpenSpec.ofChange fnExactEqualJoinersWrong)

/-- 'laws.FnExactNewJoiner': WHATEVER THE INPUT: true; the input reads as it did. -/
def fnExactNewJoinerSpec : ChangeSpec := { name := "fnExactNewJoiner", fn := fun _ => fun
  | [d1, d2, d3] => { results := [.lit (.bool true)], args := [d1, d2, d3] }
  | _ => none }
def fnExactNewJoinerRow : OpenClaim := { program := "ytfcebaplphpajaa", sum := "140bc9d26732a84d8862f72ea24f9d3f97a646e36b7760e8dc890fce765510b4", func := "loop.example/g01920/laws.FnExactNewJoiner", spec := "fnExactNewJoiner", apart := false }
def FnExactNewJoinerSaid : Prop := fnExactNewJoinerRow.holds Try.pinned (OpenSpec.ofChange fnExactNewJoinerSpec)

/-- ITS FALSE NEIGHBOUR: 'it returns false'. Refute it at one input. -/
def fnExactNewJoinerWrong : ChangeSpec := { name := "fnExactNewJoiner", fn := fun _ => fun
  | [d1, d2, d3] => { results := [.lit (.bool false)], args := [d1, d2, d3] }
  | _ => none }
def FnExactNewJoinerWrongFalsely : Prop := fnExactNewJoinerRow.holds Try.pinned (OpenSpec.ofChange fnExactNewJoinerWrong)

/-- 'laws.FnExactStepsToFinish': WHATEVER THE INPUT: true; the input reads as it did. -/
def fnExactStepsToFinishSpec : ChangeSpec := { name := "fnExactStepsToFinish", fn := fun _ => fun
  | [d1, d2] => { results := [.lit (.bool true)], args := [d1, d2] }
  | _ => none }
def fnExactStepsToFinishRow : OpenClaim := { program := "ytfcebaplphpajaa", sum := "140bc9d26732a84d8862f72ea24f9d3f97a646e36b7760e8dc890fce765510b4", func := "loop.example/g01920/laws.FnExactStepsToFinish", spec := "fnExactStepsToFinish", apart := false }
def FnExactStepsToFinishSaid : Prop := fnExactStepsToFinishRow.holds Try.pinned (OpenSpec.ofChange fnExactStepsToFinishSpec)

/-- ITS FALSE NEIGHBOUR: 'it returns false'. Refute it at one input. -/
def fnExactStepsToFinishWrong : ChangeSpec := { name := "fnExactStepsToFinish", fn := fun _ => fun
  | [d1, d2] => { results := [.lit (.bool false)], args := [d1, d2] }
  | _ => none }
def FnExactStepsToFinishWrongFalsely : Prop := fnExactStepsToFinishRow.holds Try.pinned (OpenSpec.ofChange fnExactStepsToFinishWrong)

/-- 'laws.FnExactRunJoin': WHATEVER THE INPUT: true; the input reads as it did. -/
def fnExactRunJoinSpec : ChangeSpec := { name := "fnExactRunJoin", fn := fun _ => fun
  | [d1, d2, d3, d4] => { results := [.lit (.bool true)], args := [d1, d2, d3, d4] }
  | _ => none }
def fnExactRunJoinRow : OpenClaim := { program := "ytfcebaplphpajaa", sum := "140bc9d26732a84d8862f72ea24f9d3f97a646e36b7760e8dc890fce765510b4", func := "loop.example/g01920/laws.FnExactRunJoin", spec := "fnExactRunJoin", apart := false }
def FnExactRunJoinSaid : Prop := fnExactRunJoinRow.holds Try.pinned (OpenSpec.ofChange fnExactRunJoinSpec)

/-- ITS FALSE NEIGHBOUR: 'it returns false'. Refute it at one input. -/
def fnExactRunJoinWrong : ChangeSpec := { name := "fnExactRunJoin", fn := fun _ => fun
  | [d1, d2, d3, d4] => { results := [.lit (.bool false)], args := [d1, d2, d3, d4] }
  | _ => none }
def FnExactRunJoinWrongFalsely : Prop := fnExactRunJoinRow.holds Try.pinned (OpenSpec.ofChange fnExactRunJoinWrong)

/-- 'laws.FnExactStepJoiner': WHATEVER THE INPUT: true; the input reads as it did. -/
def fnExactStepJoinerSpec : ChangeSpec := { name := "fnExactStepJoiner", fn := fun _ => fun
  | [d1, d2] => { results := [.lit (.bool true)], args := [d1, d2] }
  | _ => none }
def fnExactStepJoinerRow : OpenClaim := { program := "ytfcebaplphpajaa", sum := "140bc9d26732a84d8862f72ea24f9d3f97a646e36b7760e8dc890fce765510b4", func := "loop.example/g01920/laws.FnExactStepJoiner", spec := "fnExactStepJoiner", apart := false }
def FnExactStepJoinerSaid : Prop := fnExactStepJoinerRow.holds Try.pinned (OpenSpec.ofChange fnExactStepJoinerSpec)

/-- ITS FALSE NEIGHBOUR: 'it returns false'. Refute it at one input. -/
def fnExactStepJoinerWrong : ChangeSpec := { name := "fnExactStepJoiner", fn := fun _ => fun
  | [d1, d2] => { results := [.lit (.bool false)], args := [d1, d2] }
  | _ => none }
def FnExactStepJoinerWrongFalsely : Prop := fnExactStepJoinerRow.holds Try.pinned (OpenSpec.ofChange fnExactStepJoinerWrong)

/- THE SECOND FORM. 'bulk': how many values and letters a reading holds, each counted each time it is reached (what is shared counts as often as it is met; a slice's spare places count too). A statement '..UptoSaid' is the law's where the arguments, and the package variables that the reading takes, are together of bulk at most 1048576: NARROWER than '..Said'. Prove '..Said' where nothing that the law and all that it calls make is longer than what came in: it says more and counts as full. Else prove '..UptoSaid'. A law counts once. -/
mutual
def uptoBulk {H : Type} : DataW H → Nat
  | .lit (.string bytes) => bytes.length + 1
  | .lit _ => 1
  | .nil => 1
  | .ptr d => uptoBulk d + 1
  | .slice elems spare => uptoBulkAll elems + uptoBulkAll spare + 1
  | .agg parts => uptoBulkAll parts + 1
  | .iface _ d => uptoBulk d + 1
  | .map entries => uptoBulkEntries entries + 1
  | .held _ => 1
def uptoBulkAll {H : Type} : List (DataW H) → Nat
  | [] => 0
  | d :: r => uptoBulk d + uptoBulkAll r
def uptoBulkEntries {H : Type} : List (Lit × DataW H) → Nat
  | [] => 0
  | x :: r => uptoBulkEntry x + uptoBulkEntries r
def uptoBulkEntry {H : Type} : Lit × DataW H → Nat
  | (.string bytes, d) => bytes.length + uptoBulk d + 1
  | (_, d) => uptoBulk d + 1
 end
def uptoSmall : (H : Type) → List (DataW H) → Bool := fun _ ds => decide (uptoBulkAll ds ≤ 1048576)
def OpenSpec.upto (s : _root_.Go.ChangeSpec) : _root_.Go.OpenSpec := { _root_.Go.OpenSpec.ofChange s with cond := some uptoSmall }

/-- 'laws.FnExactPendingRows', WHERE WHAT IT READS IS OF BULK AT MOST 1048576: true; the input reads as it did. -/
def fnExactPendingRowsUptoRow : OpenClaim := { program := "ytfcebaplphpajaa", sum := "140bc9d26732a84d8862f72ea24f9d3f97a646e36b7760e8dc890fce765510b4", func := "loop.example/g01920/laws.FnExactPendingRows", spec := "fnExactPendingRows", apart := false, narrowed := true }
def FnExactPendingRowsUptoSaid : Prop := fnExactPendingRowsUptoRow.holds Try.pinned (OpenSpec.upto fnExactPendingRowsSpec)

/-- 'laws.FnExactIsValidJoiner', WHERE WHAT IT READS IS OF BULK AT MOST 1048576: true; the input reads as it did. -/
def fnExactIsValidJoinerUptoRow : OpenClaim := { program := "ytfcebaplphpajaa", sum := "140bc9d26732a84d8862f72ea24f9d3f97a646e36b7760e8dc890fce765510b4", func := "loop.example/g01920/laws.FnExactIsValidJoiner", spec := "fnExactIsValidJoiner", apart := false, narrowed := true }
def FnExactIsValidJoinerUptoSaid : Prop := fnExactIsValidJoinerUptoRow.holds Try.pinned (OpenSpec.upto fnExactIsValidJoinerSpec)

/-- 'laws.FnExactEqualJoiners', WHERE WHAT IT READS IS OF BULK AT MOST 1048576: true; the input reads as it did. -/
def fnExactEqualJoinersUptoRow : OpenClaim := { program := "ytfcebaplphpajaa", sum := "140bc9d26732a84d8862f72ea24f9d3f97a646e36b7760e8dc890fce765510b4", func := "loop.example/g01920/laws.FnExactEqualJoiners", spec := "fnExactEqualJoiners", apart := false, narrowed := true }
def FnExactEqualJoinersUptoSaid : Prop := fnExactEqualJoinersUptoRow.holds Try.pinned (OpenSpec.upto fnExactEqualJoinersSpec)

/-- 'laws.FnExactNewJoiner', WHERE WHAT IT READS IS OF BULK AT MOST 1048576: true; the input reads as it did. -/
def fnExactNewJoinerUptoRow : OpenClaim := { program := "ytfcebaplphpajaa", sum := "140bc9d26732a84d8862f72ea24f9d3f97a646e36b7760e8dc890fce765510b4", func := "loop.example/g01920/laws.FnExactNewJoiner", spec := "fnExactNewJoiner", apart := false, narrowed := true }
def FnExactNewJoinerUptoSaid : Prop := fnExactNewJoinerUptoRow.holds Try.pinned (OpenSpec.upto fnExactNewJoinerSpec)

/-- 'laws.FnExactStepsToFinish', WHERE WHAT IT READS IS OF BULK AT MOST 1048576: true; the input reads as it did. -/
def fnExactStepsToFinishUptoRow : OpenClaim := { program := "ytfcebaplphpajaa", sum := "140bc9d26732a84d8862f72ea24f9d3f97a646e36b7760e8dc890fce765510b4", func := "loop.example/g01920/laws.FnExactStepsToFinish", spec := "fnExactStepsToFinish", apart := false, narrowed := true }
def FnExactStepsToFinishUptoSaid : Prop := fnExactStepsToFinishUptoRow.holds Try.pinned (OpenSpec.upto fnExactStepsToFinishSpec)

/-- 'laws.FnExactRunJoin', WHERE WHAT IT READS IS OF BULK AT MOST 1048576: true; the input reads as it did. -/
def fnExactRunJoinUptoRow : OpenClaim := { program := "ytfcebaplphpajaa", sum := "140bc9d26732a84d8862f72ea24f9d3f97a646e36b7760e8dc890fce765510b4", func := "loop.example/g01920/laws.FnExactRunJoin", spec := "fnExactRunJoin", apart := false, narrowed := true }
def FnExactRunJoinUptoSaid : Prop := fnExactRunJoinUptoRow.holds Try.pinned (OpenSpec.upto fnExactRunJoinSpec)

/-- 'laws.FnExactStepJoiner', WHERE WHAT IT READS IS OF BULK AT MOST 1048576: true; the input reads as it did. -/
def fnExactStepJoinerUptoRow : OpenClaim := { program := "ytfcebaplphpajaa", sum := "140bc9d26732a84d8862f72ea24f9d3f97a646e36b7760e8dc890fce765510b4", func := "loop.example/g01920/laws.FnExactStepJoiner", spec := "fnExactStepJoiner", apart := false, narrowed := true }
def FnExactStepJoinerUptoSaid : Prop := fnExactStepJoinerUptoRow.holds Try.pinned (OpenSpec.upto fnExactStepJoinerSpec)

end Rows
end Go.Proofs.Ytfcebaplphpajaa
