/-
  No cell of these rows narrows 'for every input' (looked for: loops, veiled, ifaces, maps, wideKeys, modest, calm, conditions, laid).
  DERIVED. THE GIVEN ROWS OF THIS SEAT. 6 by the template 'for every input the law returns true; each argument reads behind the call as it read before'; 0 by the template 'total and deterministic' (their statements: YtajjeemkdjfilaaTotals.lean).
  GIVEN WITH THE SEED: the statements are not yours to turn. If you find one false, say at which input.
  Laid BY PROGRAM, IN A SANDBOX (cutbox-rows.mjs): the forced cells as the released guide's own fill.sh prints them over the translation 076aabdec646a166… (all of the seat's roots in one cut). By AI agents, Wed Nov 11 2026. No macro, syntax, notation, axiom, sorry.
-/
import Derived.Test.YtajjeemkdjfilaaChecked
import GoSem.Claim
import GoSem.ClaimJoined
import GoSem.ClaimMapViews
import Derived.JoinedTies
import Derived.KernelRfl
namespace Go.Proofs.Ytajjeemkdjfilaa
/- THE CELL 'sum', in the pinned program and in every row, IS THE sha256 OF THE DUMP (.gsa) THAT YtajjeemkdjfilaaProg.lean LOADS. Nothing in Lean hashes anything: it is a label: what it is worth is what the hold of that sum in a sandbox is worth. -/
noncomputable def Try.pinned : Pinned := { name := "ytajjeemkdjfilaa", sum := "076aabdec646a1664de03e0e8d528b988f3a7ca0faf98afd04557d6982d325d3", checked := Try.checked }
namespace Rows
def none {H : Type} : Left H := { results := [], args := [] }

/-- 'laws.FnJoinUnderGrants': WHATEVER THE INPUT: true; the input reads as it did. -/
def fnJoinUnderGrantsSpec : ChangeSpec := { name := "fnJoinUnderGrants", fn := fun _ => fun
  | [d] => { results := [.lit (.bool true)], args := [d] }
  | _ => none }
def fnJoinUnderGrantsRow : OpenClaim := { program := "ytajjeemkdjfilaa", sum := "076aabdec646a1664de03e0e8d528b988f3a7ca0faf98afd04557d6982d325d3", func := "loop.example/g01920/laws.FnJoinUnderGrants", spec := "fnJoinUnderGrants", apart := false }
def FnJoinUnderGrantsSaid : Prop := fnJoinUnderGrantsRow.holds Try.pinned (OpenSpec.ofChange fnJoinUnderGrantsSpec)

/-- ITS FALSE NEIGHBOUR: 'it returns false'. Refute it at one input. -/
def fnJoinUnderGrantsWrong : ChangeSpec := { name := "fnJoinUnderGrants", fn := fun _ => fun
  | [d] => { results := [.lit (.bool false)], args := [d] }
  | _ => none }
def FnJoinUnderGrantsWrongFalsely : Prop := fnJoinUnderGrantsRow.holds Try.pinned (OpenSpec.ofChange fnJoinUnderGrantsWrong)

/-- 'laws.FnChunkedJoin': WHATEVER THE INPUT: true; the input reads as it did. -/
def fnChunkedJoinSpec : ChangeSpec := { name := "fnChunkedJoin", fn := fun _ => fun
  | [d] => { results := [.lit (.bool true)], args := [d] }
  | _ => none }
def fnChunkedJoinRow : OpenClaim := { program := "ytajjeemkdjfilaa", sum := "076aabdec646a1664de03e0e8d528b988f3a7ca0faf98afd04557d6982d325d3", func := "loop.example/g01920/laws.FnChunkedJoin", spec := "fnChunkedJoin", apart := false }
def FnChunkedJoinSaid : Prop := fnChunkedJoinRow.holds Try.pinned (OpenSpec.ofChange fnChunkedJoinSpec)

/-- ITS FALSE NEIGHBOUR: 'it returns false'. Refute it at one input. -/
def fnChunkedJoinWrong : ChangeSpec := { name := "fnChunkedJoin", fn := fun _ => fun
  | [d] => { results := [.lit (.bool false)], args := [d] }
  | _ => none }
def FnChunkedJoinWrongFalsely : Prop := fnChunkedJoinRow.holds Try.pinned (OpenSpec.ofChange fnChunkedJoinWrong)

/-- 'laws.FnBlockNestedLoop': WHATEVER THE INPUT: true; the input reads as it did. -/
def fnBlockNestedLoopSpec : ChangeSpec := { name := "fnBlockNestedLoop", fn := fun _ => fun
  | [d] => { results := [.lit (.bool true)], args := [d] }
  | _ => none }
def fnBlockNestedLoopRow : OpenClaim := { program := "ytajjeemkdjfilaa", sum := "076aabdec646a1664de03e0e8d528b988f3a7ca0faf98afd04557d6982d325d3", func := "loop.example/g01920/laws.FnBlockNestedLoop", spec := "fnBlockNestedLoop", apart := false }
def FnBlockNestedLoopSaid : Prop := fnBlockNestedLoopRow.holds Try.pinned (OpenSpec.ofChange fnBlockNestedLoopSpec)

/-- ITS FALSE NEIGHBOUR: 'it returns false'. Refute it at one input. -/
def fnBlockNestedLoopWrong : ChangeSpec := { name := "fnBlockNestedLoop", fn := fun _ => fun
  | [d] => { results := [.lit (.bool false)], args := [d] }
  | _ => none }
def FnBlockNestedLoopWrongFalsely : Prop := fnBlockNestedLoopRow.holds Try.pinned (OpenSpec.ofChange fnBlockNestedLoopWrong)

/-- 'laws.FnPartitioning': WHATEVER THE INPUT: true; the input reads as it did. -/
def fnPartitioningSpec : ChangeSpec := { name := "fnPartitioning", fn := fun _ => fun
  | [d] => { results := [.lit (.bool true)], args := [d] }
  | _ => none }
def fnPartitioningRow : OpenClaim := { program := "ytajjeemkdjfilaa", sum := "076aabdec646a1664de03e0e8d528b988f3a7ca0faf98afd04557d6982d325d3", func := "loop.example/g01920/laws.FnPartitioning", spec := "fnPartitioning", recurses := true, apart := false }
def FnPartitioningSaid : Prop := fnPartitioningRow.holds Try.pinned (OpenSpec.ofChange fnPartitioningSpec)

/-- ITS FALSE NEIGHBOUR: 'it returns false'. Refute it at one input. -/
def fnPartitioningWrong : ChangeSpec := { name := "fnPartitioning", fn := fun _ => fun
  | [d] => { results := [.lit (.bool false)], args := [d] }
  | _ => none }
def FnPartitioningWrongFalsely : Prop := fnPartitioningRow.holds Try.pinned (OpenSpec.ofChange fnPartitioningWrong)

/-- 'laws.FnSkewedJoin': WHATEVER THE INPUT: true; the input reads as it did. -/
def fnSkewedJoinSpec : ChangeSpec := { name := "fnSkewedJoin", fn := fun _ => fun
  | [d] => { results := [.lit (.bool true)], args := [d] }
  | _ => none }
def fnSkewedJoinRow : OpenClaim := { program := "ytajjeemkdjfilaa", sum := "076aabdec646a1664de03e0e8d528b988f3a7ca0faf98afd04557d6982d325d3", func := "loop.example/g01920/laws.FnSkewedJoin", spec := "fnSkewedJoin", apart := false }
def FnSkewedJoinSaid : Prop := fnSkewedJoinRow.holds Try.pinned (OpenSpec.ofChange fnSkewedJoinSpec)

/-- ITS FALSE NEIGHBOUR: 'it returns false'. Refute it at one input. -/
def fnSkewedJoinWrong : ChangeSpec := { name := "fnSkewedJoin", fn := fun _ => fun
  | [d] => { results := [.lit (.bool false)], args := [d] }
  | _ => none }
def FnSkewedJoinWrongFalsely : Prop := fnSkewedJoinRow.holds Try.pinned (OpenSpec.ofChange fnSkewedJoinWrong)

/-- 'laws.FnJoinerMemory': WHATEVER THE INPUT: true; the input reads as it did. -/
def fnJoinerMemorySpec : ChangeSpec := { name := "fnJoinerMemory", fn := fun _ => fun
  | [d] => { results := [.lit (.bool true)], args := [d] }
  | _ => none }
def fnJoinerMemoryRow : OpenClaim := { program := "ytajjeemkdjfilaa", sum := "076aabdec646a1664de03e0e8d528b988f3a7ca0faf98afd04557d6982d325d3", func := "loop.example/g01920/laws.FnJoinerMemory", spec := "fnJoinerMemory", apart := false }
def FnJoinerMemorySaid : Prop := fnJoinerMemoryRow.holds Try.pinned (OpenSpec.ofChange fnJoinerMemorySpec)

/-- ITS FALSE NEIGHBOUR: 'it returns false'. Refute it at one input. -/
def fnJoinerMemoryWrong : ChangeSpec := { name := "fnJoinerMemory", fn := fun _ => fun
  | [d] => { results := [.lit (.bool false)], args := [d] }
  | _ => none }
def FnJoinerMemoryWrongFalsely : Prop := fnJoinerMemoryRow.holds Try.pinned (OpenSpec.ofChange fnJoinerMemoryWrong)

/- THE SECOND FORM. 'bulk': how many values and letters a reading holds, each counted each time it is reached (what is shared counts as often as it is met; a slice's spare places count too). A statement '..UptoSaid' is the law's where the arguments, and the package variables that the reading takes, are together of bulk at most 1048576: NARROWER than '..Said'. Prove '..Said' where nothing that the law and all that it calls make is longer than what came in: it says more and counts as full. Else prove '..UptoSaid'. A law counts once. -/
mutual
def uptoBulk {H : Type} : DataW H → Nat
  | .lit (.string bytes) => bytes.length + 1
  | .lit _ => 1
  | .nil => 1
  | .ptr d => uptoBulk d + 1
  | .slice elems spare => uptoBulkAll elems + uptoBulkAll spare + 1
  | .agg parts => uptoBulkAll parts + 1
  | .iface _ d => uptoBulk d + 1
  | .map entries => uptoBulkEntries entries + 1
  | .held _ => 1
def uptoBulkAll {H : Type} : List (DataW H) → Nat
  | [] => 0
  | d :: r => uptoBulk d + uptoBulkAll r
def uptoBulkEntries {H : Type} : List (Lit × DataW H) → Nat
  | [] => 0
  | x :: r => uptoBulkEntry x + uptoBulkEntries r
def uptoBulkEntry {H : Type} : Lit × DataW H → Nat
  | (.string bytes, d) => bytes.length + uptoBulk d + 1
  | (_, d) => uptoBulk d + 1
 end
def uptoSmall : (H : Type) → List (DataW H) → Bool := fun _ ds => decide (uptoBulkAll ds ≤ 1048576)
def OpenSpec.upto (s : _root_.Go.ChangeSpec) : _root_.Go.OpenSpec := { _root_.Go.OpenSpec.ofChange s with cond := some uptoSmall }

/-- 'laws.FnJoinUnderGrants', WHERE WHAT IT READS IS OF BULK AT MOST 1048576: true; the input reads as it did. -/
def fnJoinUnderGrantsUptoRow : OpenClaim := { program := "ytajjeemkdjfilaa", sum := "076aabdec646a1664de03e0e8d528b988f3a7ca0faf98afd04557d6982d325d3", func := "loop.example/g01920/laws.FnJoinUnderGrants", spec := "fnJoinUnderGrants", apart := false, narrowed := true }
def FnJoinUnderGrantsUptoSaid : Prop := fnJoinUnderGrantsUptoRow.holds Try.pinned (OpenSpec.upto fnJoinUnderGrantsSpec)

/-- 'laws.FnChunkedJoin', WHERE WHAT IT READS IS OF BULK AT MOST 1048576: true; the input reads as it did. -/
def fnChunkedJoinUptoRow : OpenClaim := { program := "ytajjeemkdjfilaa", sum := "076aabdec646a1664de03e0e8d528b988f3a7ca0faf98afd04557d6982d325d3", func := "loop.example/g01920/laws.FnChunkedJoin", spec := "fnChunkedJoin", apart := false, narrowed := true }
def FnChunkedJoinUptoSaid : Prop := fnChunkedJoinUptoRow.holds Try.pinned (OpenSpec.upto fnChunkedJoinSpec)

/-- 'laws.FnBlockNestedLoop', WHERE WHAT IT READS IS OF BULK AT MOST 1048576: true; the input reads as it did. -/
def fnBlockNestedLoopUptoRow : OpenClaim := { program := "ytajjeemkdjfilaa", sum := "076aabdec646a1664de03e0e8d528b988f3a7ca0faf98afd04557d6982d325d3", func := "loop.example/g01920/laws.FnBlockNestedLoop", spec := "fnBlockNestedLoop", apart := false, narrowed := true }
def FnBlockNestedLoopUptoSaid : Prop := fnBlockNestedLoopUptoRow.holds Try.pinned (OpenSpec.upto fnBlockNestedLoopSpec)

/-- 'laws.FnPartitioning', WHERE WHAT IT READS IS OF BULK AT MOST 1048576: true; the input reads as it did. -/
def fnPartitioningUptoRow : OpenClaim := { program := "ytajjeemkdjfilaa", sum := "076aabdec646a1664de03e0e8d528b988f3a7ca0faf98afd04557d6982d325d3", func := "loop.example/g01920/laws.FnPartitioning", spec := "fnPartitioning", recurses := true, apart := false, narrowed := true }
def FnPartitioningUptoSaid : Prop := fnPartitioningUptoRow.holds Try.pinned (OpenSpec.upto fnPartitioningSpec)

/-- 'laws.FnSkewedJoin', WHERE WHAT IT READS IS OF BULK AT MOST 1048576: true; the input reads as it did. -/
def fnSkewedJoinUptoRow : OpenClaim := { program := "ytajjeemkdjfilaa", sum := "076aabdec646a1664de03e0e8d528b988f3a7ca0faf98afd04557d6982d325d3", func := "loop.example/g01920/laws.FnSkewedJoin", spec := "fnSkewedJoin", apart := false, narrowed := true }
def FnSkewedJoinUptoSaid : Prop := fnSkewedJoinUptoRow.holds Try.pinned (OpenSpec.upto fnSkewedJoinSpec)

/-- 'laws.FnJoinerMemory', WHERE WHAT IT READS IS OF BULK AT MOST 1048576: true; the input reads as it did. -/
def fnJoinerMemoryUptoRow : OpenClaim := { program := "ytajjeemkdjfilaa", sum := "076aabdec646a1664de03e0e8d528b988f3a7ca0faf98afd04557d6982d325d3", func := "loop.example/g01920/laws.FnJoinerMemory", spec := "fnJoinerMemory", apart := false, narrowed := true }
def FnJoinerMemoryUptoSaid : Prop := fnJoinerMemoryUptoRow.holds Try.pinned (OpenSpec.upto fnJoinerMemorySpec)

end Rows
end Go.Proofs.Ytajjeemkdjfilaa
