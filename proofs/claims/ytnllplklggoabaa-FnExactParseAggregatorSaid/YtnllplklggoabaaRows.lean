/-
  No cell of these rows narrows 'for every input' (looked for: loops, veiled, ifaces, maps, wideKeys, modest, calm, conditions, laid).
  DERIVED. THE GIVEN ROWS OF THIS SEAT. 7 by the template 'for every input the law returns true; each argument reads behind the call as it read before'; 0 by the template 'total and deterministic' (their statements: YtnllplklggoabaaTotals.lean).
  GIVEN WITH THE SEED: the statements are not yours to turn. If you find one false, say at which input.
  Laid BY PROGRAM, IN A SANDBOX (cutbox-rows.mjs): the forced cells as the released guide's own fill.sh prints them over the translation 0794284d153b75fd… (all of the seat's roots in one cut). By AI agents, Wed Nov 11 2026. No macro, syntax, notation, axiom, sorry.
-/
import Derived.Test.YtnllplklggoabaaChecked
import GoSem.Claim
import GoSem.ClaimJoined
import GoSem.ClaimMapViews
import Derived.JoinedTies
import Derived.KernelRfl
namespace Go.Proofs.Ytnllplklggoabaa
/- THE CELL 'sum', in the pinned program and in every row, IS THE sha256 OF THE DUMP (.gsa) THAT YtnllplklggoabaaProg.lean LOADS. Nothing in Lean hashes anything: it is a label: what it is worth is what the hold of that sum in a sandbox is worth. -/
noncomputable def Try.pinned : Pinned := { name := "ytnllplklggoabaa", sum := "0794284d153b75fd505ed641d9e193a7558d05169af9642c98fae692a6c1e1ba", checked := Try.checked }
namespace Rows
def none {H : Type} : Left H := { results := [], args := [] }

/-- 'laws.FnExactFormatRollup': WHATEVER THE INPUT: true; the input reads as it did. -/
def fnExactFormatRollupSpec : ChangeSpec := { name := "fnExactFormatRollup", fn := fun _ => fun
  | [d] => { results := [.lit (.bool true)], args := [d] }
  | _ => none }
def fnExactFormatRollupRow : OpenClaim := { program := "ytnllplklggoabaa", sum := "0794284d153b75fd505ed641d9e193a7558d05169af9642c98fae692a6c1e1ba", func := "loop.example/g01920/laws.FnExactFormatRollup", spec := "fnExactFormatRollup", recurses := true, apart := false }
def FnExactFormatRollupSaid : Prop := fnExactFormatRollupRow.holds Try.pinned (OpenSpec.ofChange fnExactFormatRollupSpec)

/-- ITS FALSE NEIGHBOUR: 'it returns false'. Refute it at one input. -/
def fnExactFormatRollupWrong : ChangeSpec := { name := "fnExactFormatRollup", fn := fun _ => fun
  | [d] => { results := [.lit (.bool false)], args := [d] }
  | _ => none }
def FnExactFormatRollupWrongFalsely : Prop := fnExactFormatRollupRow.holds Try.pinned (OpenSpec.ofChange fnExactFormatRollupWrong)

/-- 'laws.FnExactFormatTask': WHATEVER THE INPUT: true; the input reads as it did. -/
def fnExactFormatTaskSpec : ChangeSpec := { name := "fnExactFormatTask", fn := fun _ => fun
  | [d] => { results := [.lit (.bool true)], args := [d] }
  | _ => none }
def fnExactFormatTaskRow : OpenClaim := { program := "ytnllplklggoabaa", sum := "0794284d153b75fd505ed641d9e193a7558d05169af9642c98fae692a6c1e1ba", func := "loop.example/g01920/laws.FnExactFormatTask", spec := "fnExactFormatTask", recurses := true, apart := false }
def FnExactFormatTaskSaid : Prop := fnExactFormatTaskRow.holds Try.pinned (OpenSpec.ofChange fnExactFormatTaskSpec)

/-- ITS FALSE NEIGHBOUR: 'it returns false'. Refute it at one input. -/
def fnExactFormatTaskWrong : ChangeSpec := { name := "fnExactFormatTask", fn := fun _ => fun
  | [d] => { results := [.lit (.bool false)], args := [d] }
  | _ => none }
def FnExactFormatTaskWrongFalsely : Prop := fnExactFormatTaskRow.holds Try.pinned (OpenSpec.ofChange fnExactFormatTaskWrong)

/-- 'laws.FnExactFormatAggregator': WHATEVER THE INPUT: true; the input reads as it did. -/
def fnExactFormatAggregatorSpec : ChangeSpec := { name := "fnExactFormatAggregator", fn := fun _ => fun
  | [d] => { results := [.lit (.bool true)], args := [d] }
  | _ => none }
def fnExactFormatAggregatorRow : OpenClaim := { program := "ytnllplklggoabaa", sum := "0794284d153b75fd505ed641d9e193a7558d05169af9642c98fae692a6c1e1ba", func := "loop.example/g01920/laws.FnExactFormatAggregator", spec := "fnExactFormatAggregator", recurses := true, apart := false }
def FnExactFormatAggregatorSaid : Prop := fnExactFormatAggregatorRow.holds Try.pinned (OpenSpec.ofChange fnExactFormatAggregatorSpec)

/-- ITS FALSE NEIGHBOUR: 'it returns false'. Refute it at one input. -/
def fnExactFormatAggregatorWrong : ChangeSpec := { name := "fnExactFormatAggregator", fn := fun _ => fun
  | [d] => { results := [.lit (.bool false)], args := [d] }
  | _ => none }
def FnExactFormatAggregatorWrongFalsely : Prop := fnExactFormatAggregatorRow.holds Try.pinned (OpenSpec.ofChange fnExactFormatAggregatorWrong)

/-- 'laws.FnExactFormatJoiner': WHATEVER THE INPUT: true; the input reads as it did. -/
def fnExactFormatJoinerSpec : ChangeSpec := { name := "fnExactFormatJoiner", fn := fun _ => fun
  | [d] => { results := [.lit (.bool true)], args := [d] }
  | _ => none }
def fnExactFormatJoinerRow : OpenClaim := { program := "ytnllplklggoabaa", sum := "0794284d153b75fd505ed641d9e193a7558d05169af9642c98fae692a6c1e1ba", func := "loop.example/g01920/laws.FnExactFormatJoiner", spec := "fnExactFormatJoiner", recurses := true, apart := false }
def FnExactFormatJoinerSaid : Prop := fnExactFormatJoinerRow.holds Try.pinned (OpenSpec.ofChange fnExactFormatJoinerSpec)

/-- ITS FALSE NEIGHBOUR: 'it returns false'. Refute it at one input. -/
def fnExactFormatJoinerWrong : ChangeSpec := { name := "fnExactFormatJoiner", fn := fun _ => fun
  | [d] => { results := [.lit (.bool false)], args := [d] }
  | _ => none }
def FnExactFormatJoinerWrongFalsely : Prop := fnExactFormatJoinerRow.holds Try.pinned (OpenSpec.ofChange fnExactFormatJoinerWrong)

/-- 'laws.FnExactParseAggregator': WHATEVER THE INPUT: true; the input reads as it did. -/
def fnExactParseAggregatorSpec : ChangeSpec := { name := "fnExactParseAggregator", fn := fun _ => fun
  | [d] => { results := [.lit (.bool true)], args := [d] }
  | _ => none }
def fnExactParseAggregatorRow : OpenClaim := { program := "ytnllplklggoabaa", sum := "0794284d153b75fd505ed641d9e193a7558d05169af9642c98fae692a6c1e1ba", func := "loop.example/g01920/laws.FnExactParseAggregator", spec := "fnExactParseAggregator", recurses := true, apart := false }
def FnExactParseAggregatorSaid : Prop := fnExactParseAggregatorRow.holds Try.pinned (OpenSpec.ofChange fnExactParseAggregatorSpec)

/-- ITS FALSE NEIGHBOUR: 'it returns false'. Refute it at one input. -/
def fnExactParseAggregatorWrong : ChangeSpec := { name := "fnExactParseAggregator", fn := fun _ => fun
  | [d] => { results := [.lit (.bool false)], args := [d] }
  | _ => none }
def FnExactParseAggregatorWrongFalsely : Prop := fnExactParseAggregatorRow.holds Try.pinned (OpenSpec.ofChange fnExactParseAggregatorWrong)

/-- 'laws.FnExactParseTask': WHATEVER THE INPUT: true; the input reads as it did. -/
def fnExactParseTaskSpec : ChangeSpec := { name := "fnExactParseTask", fn := fun _ => fun
  | [d] => { results := [.lit (.bool true)], args := [d] }
  | _ => none }
def fnExactParseTaskRow : OpenClaim := { program := "ytnllplklggoabaa", sum := "0794284d153b75fd505ed641d9e193a7558d05169af9642c98fae692a6c1e1ba", func := "loop.example/g01920/laws.FnExactParseTask", spec := "fnExactParseTask", recurses := true, apart := false }
def FnExactParseTaskSaid : Prop := fnExactParseTaskRow.holds Try.pinned (OpenSpec.ofChange fnExactParseTaskSpec)

/-- ITS FALSE NEIGHBOUR: 'it returns false'. Refute it at one input. -/
def fnExactParseTaskWrong : ChangeSpec := { name := "fnExactParseTask", fn := fun _ => fun
  | [d] => { results := [.lit (.bool false)], args := [d] }
  | _ => none }
def FnExactParseTaskWrongFalsely : Prop := fnExactParseTaskRow.holds Try.pinned (OpenSpec.ofChange fnExactParseTaskWrong)

/-- 'laws.FnExactParseJoiner': WHATEVER THE INPUT: true; the input reads as it did. -/
def fnExactParseJoinerSpec : ChangeSpec := { name := "fnExactParseJoiner", fn := fun _ => fun
  | [d] => { results := [.lit (.bool true)], args := [d] }
  | _ => none }
def fnExactParseJoinerRow : OpenClaim := { program := "ytnllplklggoabaa", sum := "0794284d153b75fd505ed641d9e193a7558d05169af9642c98fae692a6c1e1ba", func := "loop.example/g01920/laws.FnExactParseJoiner", spec := "fnExactParseJoiner", recurses := true, apart := false }
def FnExactParseJoinerSaid : Prop := fnExactParseJoinerRow.holds Try.pinned (OpenSpec.ofChange fnExactParseJoinerSpec)

/-- ITS FALSE NEIGHBOUR: 'it returns false'. Refute it at one input. -/
def fnExactParseJoinerWrong : ChangeSpec := { name := "fnExactParseJoiner", fn := fun _ => fun
  | [d] => { results := [.lit (.bool false)], args := [d] }
  | _ => none }
def FnExactParseJoinerWrongFalsely : Prop := fnExactParseJoinerRow.holds Try.pinned (OpenSpec.ofChange fnExactParseJoinerWrong)

/- THE SECOND FORM. 'bulk': how many values and letters a reading holds, each counted each time it is reached (what is shared counts as often as it is met; a slice's spare places count too). A statement '..UptoSaid' is the law's where the arguments, and the package variables that the reading takes, are together of bulk at most 1048576: NARROWER than '..Said'. Prove '..Said' where nothing that the law and all that it calls make is longer than what came in: it says more and counts as full. Else prove '..UptoSaid'. A law counts once. -/
mutual
def uptoBulk {H : Type} : DataW H → Nat
  | .lit (.string bytes) => bytes.length + 1
  | .lit _ => 1
  | .nil => 1
  | .ptr d => uptoBulk d + 1
  | .slice elems spare => uptoBulkAll elems + uptoBulkAll spare + 1
  | .agg parts => uptoBulkAll parts + 1
  | .iface _ d => uptoBulk d + 1
  | .map entries => uptoBulkEntries entries + 1
  | .held _ => 1
def uptoBulkAll {H : Type} : List (DataW H) → Nat
  | [] => 0
  | d :: r => uptoBulk d + uptoBulkAll r
def uptoBulkEntries {H : Type} : List (Lit × DataW H) → Nat
  | [] => 0
  | x :: r => uptoBulkEntry x + uptoBulkEntries r
def uptoBulkEntry {H : Type} : Lit × DataW H → Nat
  | (.string bytes, d) => bytes.length + uptoBulk d + 1
  | (_, d) => uptoBulk d + 1
 end
def uptoSmall : (H : Type) → List (DataW H) → Bool := fun _ ds => decide (uptoBulkAll ds ≤ 1048576)
def OpenSpec.upto (s : _root_.Go.ChangeSpec) : _root_.Go.OpenSpec := { _root_.Go.OpenSpec.ofChange s with cond := some uptoSmall }

/-- 'laws.FnExactFormatRollup', WHERE WHAT IT READS IS OF BULK AT MOST 1048576: true; the input reads as it did. -/
def fnExactFormatRollupUptoRow : OpenClaim := { program := "ytnllplklggoabaa", sum := "0794284d153b75fd505ed641d9e193a7558d05169af9642c98fae692a6c1e1ba", func := "loop.example/g01920/laws.FnExactFormatRollup", spec := "fnExactFormatRollup", recurses := true, apart := false, narrowed := true }
def FnExactFormatRollupUptoSaid : Prop := fnExactFormatRollupUptoRow.holds Try.pinned (OpenSpec.upto fnExactFormatRollupSpec)

/-- 'laws.FnExactFormatTask', WHERE WHAT IT READS IS OF BULK AT MOST 1048576: true; the input reads as it did. -/
def fnExactFormatTaskUptoRow : OpenClaim := { program := "ytnllplklggoabaa", sum := "0794284d153b75fd505ed641d9e193a7558d05169af9642c98fae692a6c1e1ba", func := "loop.example/g01920/laws.FnExactFormatTask", spec := "fnExactFormatTask", recurses := true, apart := false, narrowed := true }
def FnExactFormatTaskUptoSaid : Prop := fnExactFormatTaskUptoRow.holds Try.pinned (OpenSpec.upto fnExactFormatTaskSpec)

/-- 'laws.FnExactFormatAggregator', WHERE WHAT IT READS IS OF BULK AT MOST 1048576: true; the input reads as it did. -/
def fnExactFormatAggregatorUptoRow : OpenClaim := { program := "ytnllplklggoabaa", sum := "0794284d153b75fd505ed641d9e193a7558d05169af9642c98fae692a6c1e1ba", func := "loop.example/g01920/laws.FnExactFormatAggregator", spec := "fnExactFormatAggregator", recurses := true, apart := false, narrowed := true }
def FnExactFormatAggregatorUptoSaid : Prop := fnExactFormatAggregatorUptoRow.holds Try.pinned (OpenSpec.upto fnExactFormatAggregatorSpec)

/-- 'laws.FnExactFormatJoiner', WHERE WHAT IT READS IS OF BULK AT MOST 1048576: true; the input reads as it did. -/
def fnExactFormatJoinerUptoRow : OpenClaim := { program := "ytnllplklggoabaa", sum := "0794284d153b75fd505ed641d9e193a7558d05169af9642c98fae692a6c1e1ba", func := "loop.example/g01920/laws.FnExactFormatJoiner", spec := "fnExactFormatJoiner", recurses := true, apart := false, narrowed := true }
def FnExactFormatJoinerUptoSaid : Prop := fnExactFormatJoinerUptoRow.holds Try.pinned (OpenSpec.upto fnExactFormatJoinerSpec)

/-- 'laws.FnExactParseAggregator', WHERE WHAT IT READS IS OF BULK AT MOST 1048576: true; the input reads as it did. -/
def fnExactParseAggregatorUptoRow : OpenClaim := { program := "ytnllplklggoabaa", sum := "0794284d153b75fd505ed641d9e193a7558d05169af9642c98fae692a6c1e1ba", func := "loop.example/g01920/laws.FnExactParseAggregator", spec := "fnExactParseAggregator", recurses := true, apart := false, narrowed := true }
def FnExactParseAggregatorUptoSaid : Prop := fnExactParseAggregatorUptoRow.holds Try.pinned (OpenSpec.upto fnExactParseAggregatorSpec)

/-- 'laws.FnExactParseTask', WHERE WHAT IT READS IS OF BULK AT MOST 1048576: true; the input reads as it did. -/
def fnExactParseTaskUptoRow : OpenClaim := { program := "ytnllplklggoabaa", sum := "0794284d153b75fd505ed641d9e193a7558d05169af9642c98fae692a6c1e1ba", func := "loop.example/g01920/laws.FnExactParseTask", spec := "fnExactParseTask", recurses := true, apart := false, narrowed := true }
def FnExactParseTaskUptoSaid : Prop := fnExactParseTaskUptoRow.holds Try.pinned (OpenSpec.upto fnExactParseTaskSpec)

/-- 'laws.FnExactParseJoiner', WHERE WHAT IT READS IS OF BULK AT MOST 1048576: true; the input reads as it did. -/
def fnExactParseJoinerUptoRow : OpenClaim := { program := "ytnllplklggoabaa", sum := "0794284d153b75fd505ed641d9e193a7558d05169af9642c98fae692a6c1e1ba", func := "loop.example/g01920/laws.FnExactParseJoiner", spec := "fnExactParseJoiner", recurses := true, apart := false, narrowed := true }
def FnExactParseJoinerUptoSaid : Prop := fnExactParseJoinerUptoRow.holds Try.pinned (OpenSpec.upto fnExactParseJoinerSpec)

end Rows
end Go.Proofs.Ytnllplklggoabaa
