/-
  No cell of these rows narrows 'for every input' (looked for: loops, veiled, ifaces, maps, wideKeys, modest, calm, conditions, laid).
  DERIVED. THE GIVEN ROWS OF THIS SEAT. 12 by the template 'for every input the law returns true; each argument reads behind the call as it read before'; 0 by the template 'total and deterministic' (their statements: YthciieopabndcaaTotals.lean).
  GIVEN WITH THE SEED: the statements are not yours to turn. If you find one false, say at which input.
  Laid BY PROGRAM, IN A SANDBOX (cutbox-rows.mjs): the forced cells as the released guide's own fill.sh prints them over the translation 680c1cf80f763ab2… (all of the seat's roots in one cut). By AI agents, Wed Nov 11 2026. No macro, syntax, notation, axiom, sorry.
-/
import Derived.Test.YthciieopabndcaaChecked
import GoSem.Claim
import GoSem.ClaimJoined
import GoSem.ClaimMapViews
import Derived.JoinedTies
import Derived.KernelRfl
namespace Go.Proofs.Ythciieopabndcaa
/- THE CELL 'sum', in the pinned program and in every row, IS THE sha256 OF THE DUMP (.gsa) THAT YthciieopabndcaaProg.lean LOADS. Nothing in Lean hashes anything: it is a label: what it is worth is what the hold of that sum in a sandbox is worth. -/
noncomputable def Try.pinned : Pinned := { name := "ythciieopabndcaa", sum := "680c1cf80f763ab21aabbba75fe99a8b4bc4c8496f5613c8983570a7915709c9", checked := Try.checked }
namespace Rows
def none {H : Type} : Left H := { results := [], args := [] }

/-- 'laws.FnExactNextChunk': WHATEVER THE INPUT: true; the input reads as it did. -/
def fnExactNextChunkSpec : ChangeSpec := { name := "fnExactNextChunk", fn := fun _ => fun
  | [d1, d2] => { results := [.lit (.bool true)], args := [d1, d2] }
  | _ => none }
def fnExactNextChunkRow : OpenClaim := { program := "ythciieopabndcaa", sum := "680c1cf80f763ab21aabbba75fe99a8b4bc4c8496f5613c8983570a7915709c9", func := "loop.example/g01920/laws.FnExactNextChunk", spec := "fnExactNextChunk", apart := false }
def FnExactNextChunkSaid : Prop := fnExactNextChunkRow.holds Try.pinned (OpenSpec.ofChange fnExactNextChunkSpec)

/-- ITS FALSE NEIGHBOUR: 'it returns false'. Refute it at one input. -/
def fnExactNextChunkWrong : ChangeSpec := { name := "fnExactNextChunk", fn := fun _ => fun
  | [d1, d2] => { results := [.lit (.bool false)], args := [d1, d2] }
  | _ => none }
def FnExactNextChunkWrongFalsely : Prop := fnExactNextChunkRow.holds Try.pinned (OpenSpec.ofChange fnExactNextChunkWrong)

/-- 'laws.FnExactNeedsNestedLoop': WHATEVER THE INPUT: true; the input reads as it did. -/
def fnExactNeedsNestedLoopSpec : ChangeSpec := { name := "fnExactNeedsNestedLoop", fn := fun _ => fun
  | [d] => { results := [.lit (.bool true)], args := [d] }
  | _ => none }
def fnExactNeedsNestedLoopRow : OpenClaim := { program := "ythciieopabndcaa", sum := "680c1cf80f763ab21aabbba75fe99a8b4bc4c8496f5613c8983570a7915709c9", func := "loop.example/g01920/laws.FnExactNeedsNestedLoop", spec := "fnExactNeedsNestedLoop", apart := false }
def FnExactNeedsNestedLoopSaid : Prop := fnExactNeedsNestedLoopRow.holds Try.pinned (OpenSpec.ofChange fnExactNeedsNestedLoopSpec)

/-- ITS FALSE NEIGHBOUR: 'it returns false'. Refute it at one input. -/
def fnExactNeedsNestedLoopWrong : ChangeSpec := { name := "fnExactNeedsNestedLoop", fn := fun _ => fun
  | [d] => { results := [.lit (.bool false)], args := [d] }
  | _ => none }
def FnExactNeedsNestedLoopWrongFalsely : Prop := fnExactNeedsNestedLoopRow.holds Try.pinned (OpenSpec.ofChange fnExactNeedsNestedLoopWrong)

/-- 'laws.FnExactIsValidTask': WHATEVER THE INPUT: true; the input reads as it did. -/
def fnExactIsValidTaskSpec : ChangeSpec := { name := "fnExactIsValidTask", fn := fun _ => fun
  | [d] => { results := [.lit (.bool true)], args := [d] }
  | _ => none }
def fnExactIsValidTaskRow : OpenClaim := { program := "ythciieopabndcaa", sum := "680c1cf80f763ab21aabbba75fe99a8b4bc4c8496f5613c8983570a7915709c9", func := "loop.example/g01920/laws.FnExactIsValidTask", spec := "fnExactIsValidTask", apart := false }
def FnExactIsValidTaskSaid : Prop := fnExactIsValidTaskRow.holds Try.pinned (OpenSpec.ofChange fnExactIsValidTaskSpec)

/-- ITS FALSE NEIGHBOUR: 'it returns false'. Refute it at one input. -/
def fnExactIsValidTaskWrong : ChangeSpec := { name := "fnExactIsValidTask", fn := fun _ => fun
  | [d] => { results := [.lit (.bool false)], args := [d] }
  | _ => none }
def FnExactIsValidTaskWrongFalsely : Prop := fnExactIsValidTaskRow.holds Try.pinned (OpenSpec.ofChange fnExactIsValidTaskWrong)

/-- 'laws.FnExactTaskCost': WHATEVER THE INPUT: true; the input reads as it did. -/
def fnExactTaskCostSpec : ChangeSpec := { name := "fnExactTaskCost", fn := fun _ => fun
  | [d] => { results := [.lit (.bool true)], args := [d] }
  | _ => none }
def fnExactTaskCostRow : OpenClaim := { program := "ythciieopabndcaa", sum := "680c1cf80f763ab21aabbba75fe99a8b4bc4c8496f5613c8983570a7915709c9", func := "loop.example/g01920/laws.FnExactTaskCost", spec := "fnExactTaskCost", apart := false }
def FnExactTaskCostSaid : Prop := fnExactTaskCostRow.holds Try.pinned (OpenSpec.ofChange fnExactTaskCostSpec)

/-- ITS FALSE NEIGHBOUR: 'it returns false'. Refute it at one input. -/
def fnExactTaskCostWrong : ChangeSpec := { name := "fnExactTaskCost", fn := fun _ => fun
  | [d] => { results := [.lit (.bool false)], args := [d] }
  | _ => none }
def FnExactTaskCostWrongFalsely : Prop := fnExactTaskCostRow.holds Try.pinned (OpenSpec.ofChange fnExactTaskCostWrong)

/-- 'laws.FnExactEqualTasks': WHATEVER THE INPUT: true; the input reads as it did. -/
def fnExactEqualTasksSpec : ChangeSpec := { name := "fnExactEqualTasks", fn := fun _ => fun
  | [d1, d2] => { results := [.lit (.bool true)], args := [d1, d2] }
  | _ => none }
def fnExactEqualTasksRow : OpenClaim := { program := "ythciieopabndcaa", sum := "680c1cf80f763ab21aabbba75fe99a8b4bc4c8496f5613c8983570a7915709c9", func := "loop.example/g01920/laws.FnExactEqualTasks", spec := "fnExactEqualTasks", apart := false }
def FnExactEqualTasksSaid : Prop := fnExactEqualTasksRow.holds Try.pinned (OpenSpec.ofChange fnExactEqualTasksSpec)

/-- ITS FALSE NEIGHBOUR: 'it returns false'. Refute it at one input. -/
def fnExactEqualTasksWrong : ChangeSpec := { name := "fnExactEqualTasks", fn := fun _ => fun
  | [d1, d2] => { results := [.lit (.bool false)], args := [d1, d2] }
  | _ => none }
def FnExactEqualTasksWrongFalsely : Prop := fnExactEqualTasksRow.holds Try.pinned (OpenSpec.ofChange fnExactEqualTasksWrong)

/-- 'laws.FnExactNewTask': WHATEVER THE INPUT: true; the input reads as it did. -/
def fnExactNewTaskSpec : ChangeSpec := { name := "fnExactNewTask", fn := fun _ => fun
  | [d1, d2, d3] => { results := [.lit (.bool true)], args := [d1, d2, d3] }
  | _ => none }
def fnExactNewTaskRow : OpenClaim := { program := "ythciieopabndcaa", sum := "680c1cf80f763ab21aabbba75fe99a8b4bc4c8496f5613c8983570a7915709c9", func := "loop.example/g01920/laws.FnExactNewTask", spec := "fnExactNewTask", apart := false }
def FnExactNewTaskSaid : Prop := fnExactNewTaskRow.holds Try.pinned (OpenSpec.ofChange fnExactNewTaskSpec)

/-- ITS FALSE NEIGHBOUR: 'it returns false'. Refute it at one input. -/
def fnExactNewTaskWrong : ChangeSpec := { name := "fnExactNewTask", fn := fun _ => fun
  | [d1, d2, d3] => { results := [.lit (.bool false)], args := [d1, d2, d3] }
  | _ => none }
def FnExactNewTaskWrongFalsely : Prop := fnExactNewTaskRow.holds Try.pinned (OpenSpec.ofChange fnExactNewTaskWrong)

/-- 'laws.FnExactBuildSide': WHATEVER THE INPUT: true; the input reads as it did. -/
def fnExactBuildSideSpec : ChangeSpec := { name := "fnExactBuildSide", fn := fun _ => fun
  | [d1, d2] => { results := [.lit (.bool true)], args := [d1, d2] }
  | _ => none }
def fnExactBuildSideRow : OpenClaim := { program := "ythciieopabndcaa", sum := "680c1cf80f763ab21aabbba75fe99a8b4bc4c8496f5613c8983570a7915709c9", func := "loop.example/g01920/laws.FnExactBuildSide", spec := "fnExactBuildSide", apart := false }
def FnExactBuildSideSaid : Prop := fnExactBuildSideRow.holds Try.pinned (OpenSpec.ofChange fnExactBuildSideSpec)

/-- ITS FALSE NEIGHBOUR: 'it returns false'. Refute it at one input. -/
def fnExactBuildSideWrong : ChangeSpec := { name := "fnExactBuildSide", fn := fun _ => fun
  | [d1, d2] => { results := [.lit (.bool false)], args := [d1, d2] }
  | _ => none }
def FnExactBuildSideWrongFalsely : Prop := fnExactBuildSideRow.holds Try.pinned (OpenSpec.ofChange fnExactBuildSideWrong)

/-- 'laws.FnExactUnmatchedRows': WHATEVER THE INPUT: true; the input reads as it did. -/
def fnExactUnmatchedRowsSpec : ChangeSpec := { name := "fnExactUnmatchedRows", fn := fun _ => fun
  | [d] => { results := [.lit (.bool true)], args := [d] }
  | _ => none }
def fnExactUnmatchedRowsRow : OpenClaim := { program := "ythciieopabndcaa", sum := "680c1cf80f763ab21aabbba75fe99a8b4bc4c8496f5613c8983570a7915709c9", func := "loop.example/g01920/laws.FnExactUnmatchedRows", spec := "fnExactUnmatchedRows", apart := false }
def FnExactUnmatchedRowsSaid : Prop := fnExactUnmatchedRowsRow.holds Try.pinned (OpenSpec.ofChange fnExactUnmatchedRowsSpec)

/-- ITS FALSE NEIGHBOUR: 'it returns false'. Refute it at one input. -/
def fnExactUnmatchedRowsWrong : ChangeSpec := { name := "fnExactUnmatchedRows", fn := fun _ => fun
  | [d] => { results := [.lit (.bool false)], args := [d] }
  | _ => none }
def FnExactUnmatchedRowsWrongFalsely : Prop := fnExactUnmatchedRowsRow.holds Try.pinned (OpenSpec.ofChange fnExactUnmatchedRowsWrong)

/-- 'laws.FnExactPartitionTask': WHATEVER THE INPUT: true; the input reads as it did. -/
def fnExactPartitionTaskSpec : ChangeSpec := { name := "fnExactPartitionTask", fn := fun _ => fun
  | [d] => { results := [.lit (.bool true)], args := [d] }
  | _ => none }
def fnExactPartitionTaskRow : OpenClaim := { program := "ythciieopabndcaa", sum := "680c1cf80f763ab21aabbba75fe99a8b4bc4c8496f5613c8983570a7915709c9", func := "loop.example/g01920/laws.FnExactPartitionTask", spec := "fnExactPartitionTask", apart := false }
def FnExactPartitionTaskSaid : Prop := fnExactPartitionTaskRow.holds Try.pinned (OpenSpec.ofChange fnExactPartitionTaskSpec)

/-- ITS FALSE NEIGHBOUR: 'it returns false'. Refute it at one input. -/
def fnExactPartitionTaskWrong : ChangeSpec := { name := "fnExactPartitionTask", fn := fun _ => fun
  | [d] => { results := [.lit (.bool false)], args := [d] }
  | _ => none }
def FnExactPartitionTaskWrongFalsely : Prop := fnExactPartitionTaskRow.holds Try.pinned (OpenSpec.ofChange fnExactPartitionTaskWrong)

/-- 'laws.FnExactPartitionDepth': WHATEVER THE INPUT: true; the input reads as it did. -/
def fnExactPartitionDepthSpec : ChangeSpec := { name := "fnExactPartitionDepth", fn := fun _ => fun
  | [d1, d2] => { results := [.lit (.bool true)], args := [d1, d2] }
  | _ => none }
def fnExactPartitionDepthRow : OpenClaim := { program := "ythciieopabndcaa", sum := "680c1cf80f763ab21aabbba75fe99a8b4bc4c8496f5613c8983570a7915709c9", func := "loop.example/g01920/laws.FnExactPartitionDepth", spec := "fnExactPartitionDepth", recurses := true, apart := false }
def FnExactPartitionDepthSaid : Prop := fnExactPartitionDepthRow.holds Try.pinned (OpenSpec.ofChange fnExactPartitionDepthSpec)

/-- ITS FALSE NEIGHBOUR: 'it returns false'. Refute it at one input. -/
def fnExactPartitionDepthWrong : ChangeSpec := { name := "fnExactPartitionDepth", fn := fun _ => fun
  | [d1, d2] => { results := [.lit (.bool false)], args := [d1, d2] }
  | _ => none }
def FnExactPartitionDepthWrongFalsely : Prop := fnExactPartitionDepthRow.holds Try.pinned (OpenSpec.ofChange fnExactPartitionDepthWrong)

/-- 'laws.FnExactBlockNestedLoopJoin': WHATEVER THE INPUT: true; the input reads as it did. -/
def fnExactBlockNestedLoopJoinSpec : ChangeSpec := { name := "fnExactBlockNestedLoopJoin", fn := fun _ => fun
  | [d1, d2, d3, d4] => { results := [.lit (.bool true)], args := [d1, d2, d3, d4] }
  | _ => none }
def fnExactBlockNestedLoopJoinRow : OpenClaim := { program := "ythciieopabndcaa", sum := "680c1cf80f763ab21aabbba75fe99a8b4bc4c8496f5613c8983570a7915709c9", func := "loop.example/g01920/laws.FnExactBlockNestedLoopJoin", spec := "fnExactBlockNestedLoopJoin", apart := false }
def FnExactBlockNestedLoopJoinSaid : Prop := fnExactBlockNestedLoopJoinRow.holds Try.pinned (OpenSpec.ofChange fnExactBlockNestedLoopJoinSpec)

/-- ITS FALSE NEIGHBOUR: 'it returns false'. Refute it at one input. -/
def fnExactBlockNestedLoopJoinWrong : ChangeSpec := { name := "fnExactBlockNestedLoopJoin", fn := fun _ => fun
  | [d1, d2, d3, d4] => { results := [.lit (.bool false)], args := [d1, d2, d3, d4] }
  | _ => none }
def FnExactBlockNestedLoopJoinWrongFalsely : Prop := fnExactBlockNestedLoopJoinRow.holds Try.pinned (OpenSpec.ofChange fnExactBlockNestedLoopJoinWrong)

/-- 'laws.FnExactJoinChunk': WHATEVER THE INPUT: true; the input reads as it did. -/
def fnExactJoinChunkSpec : ChangeSpec := { name := "fnExactJoinChunk", fn := fun _ => fun
  | [d1, d2] => { results := [.lit (.bool true)], args := [d1, d2] }
  | _ => none }
def fnExactJoinChunkRow : OpenClaim := { program := "ythciieopabndcaa", sum := "680c1cf80f763ab21aabbba75fe99a8b4bc4c8496f5613c8983570a7915709c9", func := "loop.example/g01920/laws.FnExactJoinChunk", spec := "fnExactJoinChunk", apart := false }
def FnExactJoinChunkSaid : Prop := fnExactJoinChunkRow.holds Try.pinned (OpenSpec.ofChange fnExactJoinChunkSpec)

/-- ITS FALSE NEIGHBOUR: 'it returns false'. Refute it at one input. -/
def fnExactJoinChunkWrong : ChangeSpec := { name := "fnExactJoinChunk", fn := fun _ => fun
  | [d1, d2] => { results := [.lit (.bool false)], args := [d1, d2] }
  | _ => none }
def FnExactJoinChunkWrongFalsely : Prop := fnExactJoinChunkRow.holds Try.pinned (OpenSpec.ofChange fnExactJoinChunkWrong)

/- THE SECOND FORM. 'bulk': how many values and letters a reading holds, each counted each time it is reached (what is shared counts as often as it is met; a slice's spare places count too). A statement '..UptoSaid' is the law's where the arguments, and the package variables that the reading takes, are together of bulk at most 1048576: NARROWER than '..Said'. Prove '..Said' where nothing that the law and all that it calls make is longer than what came in: it says more and counts as full. Else prove '..UptoSaid'. A law counts once. -/
mutual
def uptoBulk {H : Type} : DataW H → Nat
  | .lit (.string bytes) => bytes.length + 1
  | .lit _ => 1
  | .nil => 1
  | .ptr d => uptoBulk d + 1
  | .slice elems spare => uptoBulkAll elems + uptoBulkAll spare + 1
  | .agg parts => uptoBulkAll parts + 1
  | .iface _ d => uptoBulk d + 1
  | .map entries => uptoBulkEntries entries + 1
  | .held _ => 1
def uptoBulkAll {H : Type} : List (DataW H) → Nat
  | [] => 0
  | d :: r => uptoBulk d + uptoBulkAll r
def uptoBulkEntries {H : Type} : List (Lit × DataW H) → Nat
  | [] => 0
  | x :: r => uptoBulkEntry x + uptoBulkEntries r
def uptoBulkEntry {H : Type} : Lit × DataW H → Nat
  | (.string bytes, d) => bytes.length + uptoBulk d + 1
  | (_, d) => uptoBulk d + 1
 end
def uptoSmall : (H : Type) → List (DataW H) → Bool := fun _ ds => decide (uptoBulkAll ds ≤ 1048576)
def OpenSpec.upto (s : _root_.Go.ChangeSpec) : _root_.Go.OpenSpec := { _root_.Go.OpenSpec.ofChange s with cond := some uptoSmall }

/-- 'laws.FnExactNextChunk', WHERE WHAT IT READS IS OF BULK AT MOST 1048576: true; the input reads as it did. -/
def fnExactNextChunkUptoRow : OpenClaim := { program := "ythciieopabndcaa", sum := "680c1cf80f763ab21aabbba75fe99a8b4bc4c8496f5613c8983570a7915709c9", func := "loop.example/g01920/laws.FnExactNextChunk", spec := "fnExactNextChunk", apart := false, narrowed := true }
def FnExactNextChunkUptoSaid : Prop := fnExactNextChunkUptoRow.holds Try.pinned (OpenSpec.upto fnExactNextChunkSpec)

/-- 'laws.FnExactNeedsNestedLoop', WHERE WHAT IT READS IS OF BULK AT MOST 1048576: true; the input reads as it did. -/
def fnExactNeedsNestedLoopUptoRow : OpenClaim := { program := "ythciieopabndcaa", sum := "680c1cf80f763ab21aabbba75fe99a8b4bc4c8496f5613c8983570a7915709c9", func := "loop.example/g01920/laws.FnExactNeedsNestedLoop", spec := "fnExactNeedsNestedLoop", apart := false, narrowed := true }
def FnExactNeedsNestedLoopUptoSaid : Prop := fnExactNeedsNestedLoopUptoRow.holds Try.pinned (OpenSpec.upto fnExactNeedsNestedLoopSpec)

/-- 'laws.FnExactIsValidTask', WHERE WHAT IT READS IS OF BULK AT MOST 1048576: true; the input reads as it did. -/
def fnExactIsValidTaskUptoRow : OpenClaim := { program := "ythciieopabndcaa", sum := "680c1cf80f763ab21aabbba75fe99a8b4bc4c8496f5613c8983570a7915709c9", func := "loop.example/g01920/laws.FnExactIsValidTask", spec := "fnExactIsValidTask", apart := false, narrowed := true }
def FnExactIsValidTaskUptoSaid : Prop := fnExactIsValidTaskUptoRow.holds Try.pinned (OpenSpec.upto fnExactIsValidTaskSpec)

/-- 'laws.FnExactTaskCost', WHERE WHAT IT READS IS OF BULK AT MOST 1048576: true; the input reads as it did. -/
def fnExactTaskCostUptoRow : OpenClaim := { program := "ythciieopabndcaa", sum := "680c1cf80f763ab21aabbba75fe99a8b4bc4c8496f5613c8983570a7915709c9", func := "loop.example/g01920/laws.FnExactTaskCost", spec := "fnExactTaskCost", apart := false, narrowed := true }
def FnExactTaskCostUptoSaid : Prop := fnExactTaskCostUptoRow.holds Try.pinned (OpenSpec.upto fnExactTaskCostSpec)

/-- 'laws.FnExactEqualTasks', WHERE WHAT IT READS IS OF BULK AT MOST 1048576: true; the input reads as it did. -/
def fnExactEqualTasksUptoRow : OpenClaim := { program := "ythciieopabndcaa", sum := "680c1cf80f763ab21aabbba75fe99a8b4bc4c8496f5613c8983570a7915709c9", func := "loop.example/g01920/laws.FnExactEqualTasks", spec := "fnExactEqualTasks", apart := false, narrowed := true }
def FnExactEqualTasksUptoSaid : Prop := fnExactEqualTasksUptoRow.holds Try.pinned (OpenSpec.upto fnExactEqualTasksSpec)

/-- 'laws.FnExactNewTask', WHERE WHAT IT READS IS OF BULK AT MOST 1048576: true; the input reads as it did. -/
def fnExactNewTaskUptoRow : OpenClaim := { program := "ythciieopabndcaa", sum := "680c1cf80f763ab21aabbba75fe99a8b4bc4c8496f5613c8983570a7915709c9", func := "loop.example/g01920/laws.FnExactNewTask", spec := "fnExactNewTask", apart := false, narrowed := true }
def FnExactNewTaskUptoSaid : Prop := fnExactNewTaskUptoRow.holds Try.pinned (OpenSpec.upto fnExactNewTaskSpec)

/-- 'laws.FnExactBuildSide', WHERE WHAT IT READS IS OF BULK AT MOST 1048576: true; the input reads as it did. -/
def fnExactBuildSideUptoRow : OpenClaim := { program := "ythciieopabndcaa", sum := "680c1cf80f763ab21aabbba75fe99a8b4bc4c8496f5613c8983570a7915709c9", func := "loop.example/g01920/laws.FnExactBuildSide", spec := "fnExactBuildSide", apart := false, narrowed := true }
def FnExactBuildSideUptoSaid : Prop := fnExactBuildSideUptoRow.holds Try.pinned (OpenSpec.upto fnExactBuildSideSpec)

/-- 'laws.FnExactUnmatchedRows', WHERE WHAT IT READS IS OF BULK AT MOST 1048576: true; the input reads as it did. -/
def fnExactUnmatchedRowsUptoRow : OpenClaim := { program := "ythciieopabndcaa", sum := "680c1cf80f763ab21aabbba75fe99a8b4bc4c8496f5613c8983570a7915709c9", func := "loop.example/g01920/laws.FnExactUnmatchedRows", spec := "fnExactUnmatchedRows", apart := false, narrowed := true }
def FnExactUnmatchedRowsUptoSaid : Prop := fnExactUnmatchedRowsUptoRow.holds Try.pinned (OpenSpec.upto fnExactUnmatchedRowsSpec)

/-- 'laws.FnExactPartitionTask', WHERE WHAT IT READS IS OF BULK AT MOST 1048576: true; the input reads as it did. -/
def fnExactPartitionTaskUptoRow : OpenClaim := { program := "ythciieopabndcaa", sum := "680c1cf80f763ab21aabbba75fe99a8b4bc4c8496f5613c8983570a7915709c9", func := "loop.example/g01920/laws.FnExactPartitionTask", spec := "fnExactPartitionTask", apart := false, narrowed := true }
def FnExactPartitionTaskUptoSaid : Prop := fnExactPartitionTaskUptoRow.holds Try.pinned (OpenSpec.upto fnExactPartitionTaskSpec)

/-- 'laws.FnExactPartitionDepth', WHERE WHAT IT READS IS OF BULK AT MOST 1048576: true; the input reads as it did. -/
def fnExactPartitionDepthUptoRow : OpenClaim := { program := "ythciieopabndcaa", sum := "680c1cf80f763ab21aabbba75fe99a8b4bc4c8496f5613c8983570a7915709c9", func := "loop.example/g01920/laws.FnExactPartitionDepth", spec := "fnExactPartitionDepth", recurses := true, apart := false, narrowed := true }
def FnExactPartitionDepthUptoSaid : Prop := fnExactPartitionDepthUptoRow.holds Try.pinned (OpenSpec.upto fnExactPartitionDepthSpec)

/-- 'laws.FnExactBlockNestedLoopJoin', WHERE WHAT IT READS IS OF BULK AT MOST 1048576: true; the input reads as it did. -/
def fnExactBlockNestedLoopJoinUptoRow : OpenClaim := { program := "ythciieopabndcaa", sum := "680c1cf80f763ab21aabbba75fe99a8b4bc4c8496f5613c8983570a7915709c9", func := "loop.example/g01920/laws.FnExactBlockNestedLoopJoin", spec := "fnExactBlockNestedLoopJoin", apart := false, narrowed := true }
def FnExactBlockNestedLoopJoinUptoSaid : Prop := fnExactBlockNestedLoopJoinUptoRow.holds Try.pinned (OpenSpec.upto fnExactBlockNestedLoopJoinSpec)

/-- 'laws.FnExactJoinChunk', WHERE WHAT IT READS IS OF BULK AT MOST 1048576: true; the input reads as it did. -/
def fnExactJoinChunkUptoRow : OpenClaim := { program := "ythciieopabndcaa", sum := "680c1cf80f763ab21aabbba75fe99a8b4bc4c8496f5613c8983570a7915709c9", func := "loop.example/g01920/laws.FnExactJoinChunk", spec := "fnExactJoinChunk", apart := false, narrowed := true }
def FnExactJoinChunkUptoSaid : Prop := fnExactJoinChunkUptoRow.holds Try.pinned (OpenSpec.upto fnExactJoinChunkSpec)

end Rows
end Go.Proofs.Ythciieopabndcaa
