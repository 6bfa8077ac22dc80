/-
  No cell of these rows narrows 'for every input' (looked for: loops, veiled, ifaces, maps, wideKeys, modest, calm, conditions, laid).
  DERIVED. THE GIVEN ROWS OF THIS SEAT. 6 by the template 'for every input the law returns true; each argument reads behind the call as it read before'; 0 by the template 'total and deterministic' (their statements: YtpjejhgpnnclfaaTotals.lean).
  GIVEN WITH THE SEED: the statements are not yours to turn. If you find one false, say at which input.
  Laid BY PROGRAM, IN A SANDBOX (cutbox-rows.mjs): the forced cells as the released guide's own fill.sh prints them over the translation 72cbe9c0e4007442… (all of the seat's roots in one cut). By AI agents, Wed Nov 11 2026. No macro, syntax, notation, axiom, sorry.
-/
import Derived.Test.YtpjejhgpnnclfaaChecked
import GoSem.Claim
import GoSem.ClaimJoined
import GoSem.ClaimMapViews
import Derived.JoinedTies
import Derived.KernelRfl
namespace Go.Proofs.Ytpjejhgpnnclfaa
/- THE CELL 'sum', in the pinned program and in every row, IS THE sha256 OF THE DUMP (.gsa) THAT YtpjejhgpnnclfaaProg.lean LOADS. Nothing in Lean hashes anything: it is a label: what it is worth is what the hold of that sum in a sandbox is worth. -/
noncomputable def Try.pinned : Pinned := { name := "ytpjejhgpnnclfaa", sum := "72cbe9c0e40074423fa8d1be1f38e0fa4341fdf39f0c139e1bd80eedbb140632", checked := Try.checked }
namespace Rows
def none {H : Type} : Left H := { results := [], args := [] }

/-- 'laws.FnExactRollupKey': WHATEVER THE INPUT: true; the input reads as it did. -/
def fnExactRollupKeySpec : ChangeSpec := { name := "fnExactRollupKey", fn := fun _ => fun
  | [d1, d2] => { results := [.lit (.bool true)], args := [d1, d2] }
  | _ => none }
def fnExactRollupKeyRow : OpenClaim := { program := "ytpjejhgpnnclfaa", sum := "72cbe9c0e40074423fa8d1be1f38e0fa4341fdf39f0c139e1bd80eedbb140632", func := "loop.example/g01920/laws.FnExactRollupKey", spec := "fnExactRollupKey", apart := false }
def FnExactRollupKeySaid : Prop := fnExactRollupKeyRow.holds Try.pinned (OpenSpec.ofChange fnExactRollupKeySpec)

/-- ITS FALSE NEIGHBOUR: 'it returns false'. Refute it at one input. -/
def fnExactRollupKeyWrong : ChangeSpec := { name := "fnExactRollupKey", fn := fun _ => fun
  | [d1, d2] => { results := [.lit (.bool false)], args := [d1, d2] }
  | _ => none }
def FnExactRollupKeyWrongFalsely : Prop := fnExactRollupKeyRow.holds Try.pinned (OpenSpec.ofChange fnExactRollupKeyWrong)

/-- 'laws.FnExactSplitField': WHATEVER THE INPUT: true; the input reads as it did. -/
def fnExactSplitFieldSpec : ChangeSpec := { name := "fnExactSplitField", fn := fun _ => fun
  | [d1, d2] => { results := [.lit (.bool true)], args := [d1, d2] }
  | _ => none }
def fnExactSplitFieldRow : OpenClaim := { program := "ytpjejhgpnnclfaa", sum := "72cbe9c0e40074423fa8d1be1f38e0fa4341fdf39f0c139e1bd80eedbb140632", func := "loop.example/g01920/laws.FnExactSplitField", spec := "fnExactSplitField", apart := false }
def FnExactSplitFieldSaid : Prop := fnExactSplitFieldRow.holds Try.pinned (OpenSpec.ofChange fnExactSplitFieldSpec)

/-- ITS FALSE NEIGHBOUR: 'it returns false'. Refute it at one input. -/
def fnExactSplitFieldWrong : ChangeSpec := { name := "fnExactSplitField", fn := fun _ => fun
  | [d1, d2] => { results := [.lit (.bool false)], args := [d1, d2] }
  | _ => none }
def FnExactSplitFieldWrongFalsely : Prop := fnExactSplitFieldRow.holds Try.pinned (OpenSpec.ofChange fnExactSplitFieldWrong)

/-- 'laws.FnExactGroupStepBound': WHATEVER THE INPUT: true; the input reads as it did. -/
def fnExactGroupStepBoundSpec : ChangeSpec := { name := "fnExactGroupStepBound", fn := fun _ => fun
  | [d] => { results := [.lit (.bool true)], args := [d] }
  | _ => none }
def fnExactGroupStepBoundRow : OpenClaim := { program := "ytpjejhgpnnclfaa", sum := "72cbe9c0e40074423fa8d1be1f38e0fa4341fdf39f0c139e1bd80eedbb140632", func := "loop.example/g01920/laws.FnExactGroupStepBound", spec := "fnExactGroupStepBound", apart := false }
def FnExactGroupStepBoundSaid : Prop := fnExactGroupStepBoundRow.holds Try.pinned (OpenSpec.ofChange fnExactGroupStepBoundSpec)

/-- ITS FALSE NEIGHBOUR: 'it returns false'. Refute it at one input. -/
def fnExactGroupStepBoundWrong : ChangeSpec := { name := "fnExactGroupStepBound", fn := fun _ => fun
  | [d] => { results := [.lit (.bool false)], args := [d] }
  | _ => none }
def FnExactGroupStepBoundWrongFalsely : Prop := fnExactGroupStepBoundRow.holds Try.pinned (OpenSpec.ofChange fnExactGroupStepBoundWrong)

/-- 'laws.FnExactJoinStepBound': WHATEVER THE INPUT: true; the input reads as it did. -/
def fnExactJoinStepBoundSpec : ChangeSpec := { name := "fnExactJoinStepBound", fn := fun _ => fun
  | [d1, d2] => { results := [.lit (.bool true)], args := [d1, d2] }
  | _ => none }
def fnExactJoinStepBoundRow : OpenClaim := { program := "ytpjejhgpnnclfaa", sum := "72cbe9c0e40074423fa8d1be1f38e0fa4341fdf39f0c139e1bd80eedbb140632", func := "loop.example/g01920/laws.FnExactJoinStepBound", spec := "fnExactJoinStepBound", apart := false }
def FnExactJoinStepBoundSaid : Prop := fnExactJoinStepBoundRow.holds Try.pinned (OpenSpec.ofChange fnExactJoinStepBoundSpec)

/-- ITS FALSE NEIGHBOUR: 'it returns false'. Refute it at one input. -/
def fnExactJoinStepBoundWrong : ChangeSpec := { name := "fnExactJoinStepBound", fn := fun _ => fun
  | [d1, d2] => { results := [.lit (.bool false)], args := [d1, d2] }
  | _ => none }
def FnExactJoinStepBoundWrongFalsely : Prop := fnExactJoinStepBoundRow.holds Try.pinned (OpenSpec.ofChange fnExactJoinStepBoundWrong)

/-- 'laws.FnExactJoinWriteBound': WHATEVER THE INPUT: true; the input reads as it did. -/
def fnExactJoinWriteBoundSpec : ChangeSpec := { name := "fnExactJoinWriteBound", fn := fun _ => fun
  | [d1, d2] => { results := [.lit (.bool true)], args := [d1, d2] }
  | _ => none }
def fnExactJoinWriteBoundRow : OpenClaim := { program := "ytpjejhgpnnclfaa", sum := "72cbe9c0e40074423fa8d1be1f38e0fa4341fdf39f0c139e1bd80eedbb140632", func := "loop.example/g01920/laws.FnExactJoinWriteBound", spec := "fnExactJoinWriteBound", apart := false }
def FnExactJoinWriteBoundSaid : Prop := fnExactJoinWriteBoundRow.holds Try.pinned (OpenSpec.ofChange fnExactJoinWriteBoundSpec)

/-- ITS FALSE NEIGHBOUR: 'it returns false'. Refute it at one input. -/
def fnExactJoinWriteBoundWrong : ChangeSpec := { name := "fnExactJoinWriteBound", fn := fun _ => fun
  | [d1, d2] => { results := [.lit (.bool false)], args := [d1, d2] }
  | _ => none }
def FnExactJoinWriteBoundWrongFalsely : Prop := fnExactJoinWriteBoundRow.holds Try.pinned (OpenSpec.ofChange fnExactJoinWriteBoundWrong)

/-- 'laws.FnExactGroupWriteBound': WHATEVER THE INPUT: true; the input reads as it did. -/
def fnExactGroupWriteBoundSpec : ChangeSpec := { name := "fnExactGroupWriteBound", fn := fun _ => fun
  | [d] => { results := [.lit (.bool true)], args := [d] }
  | _ => none }
def fnExactGroupWriteBoundRow : OpenClaim := { program := "ytpjejhgpnnclfaa", sum := "72cbe9c0e40074423fa8d1be1f38e0fa4341fdf39f0c139e1bd80eedbb140632", func := "loop.example/g01920/laws.FnExactGroupWriteBound", spec := "fnExactGroupWriteBound", apart := false }
def FnExactGroupWriteBoundSaid : Prop := fnExactGroupWriteBoundRow.holds Try.pinned (OpenSpec.ofChange fnExactGroupWriteBoundSpec)

/-- ITS FALSE NEIGHBOUR: 'it returns false'. Refute it at one input. -/
def fnExactGroupWriteBoundWrong : ChangeSpec := { name := "fnExactGroupWriteBound", fn := fun _ => fun
  | [d] => { results := [.lit (.bool false)], args := [d] }
  | _ => none }
def FnExactGroupWriteBoundWrongFalsely : Prop := fnExactGroupWriteBoundRow.holds Try.pinned (OpenSpec.ofChange fnExactGroupWriteBoundWrong)

/- THE SECOND FORM. 'bulk': how many values and letters a reading holds, each counted each time it is reached (what is shared counts as often as it is met; a slice's spare places count too). A statement '..UptoSaid' is the law's where the arguments, and the package variables that the reading takes, are together of bulk at most 1048576: NARROWER than '..Said'. Prove '..Said' where nothing that the law and all that it calls make is longer than what came in: it says more and counts as full. Else prove '..UptoSaid'. A law counts once. -/
mutual
def uptoBulk {H : Type} : DataW H → Nat
  | .lit (.string bytes) => bytes.length + 1
  | .lit _ => 1
  | .nil => 1
  | .ptr d => uptoBulk d + 1
  | .slice elems spare => uptoBulkAll elems + uptoBulkAll spare + 1
  | .agg parts => uptoBulkAll parts + 1
  | .iface _ d => uptoBulk d + 1
  | .map entries => uptoBulkEntries entries + 1
  | .held _ => 1
def uptoBulkAll {H : Type} : List (DataW H) → Nat
  | [] => 0
  | d :: r => uptoBulk d + uptoBulkAll r
def uptoBulkEntries {H : Type} : List (Lit × DataW H) → Nat
  | [] => 0
  | x :: r => uptoBulkEntry x + uptoBulkEntries r
def uptoBulkEntry {H : Type} : Lit × DataW H → Nat
  | (.string bytes, d) => bytes.length + uptoBulk d + 1
  | (_, d) => uptoBulk d + 1
 end
def uptoSmall : (H : Type) → List (DataW H) → Bool := fun _ ds => decide (uptoBulkAll ds ≤ 1048576)
def OpenSpec.upto (s : _root_.Go.ChangeSpec) : _root_.Go.OpenSpec := { _root_.Go.OpenSpec.ofChange s with cond := some uptoSmall }

/-- 'laws.FnExactRollupKey', WHERE WHAT IT READS IS OF BULK AT MOST 1048576: true; the input reads as it did. -/
def fnExactRollupKeyUptoRow : OpenClaim := { program := "ytpjejhgpnnclfaa", sum := "72cbe9c0e40074423fa8d1be1f38e0fa4341fdf39f0c139e1bd80eedbb140632", func := "loop.example/g01920/laws.FnExactRollupKey", spec := "fnExactRollupKey", apart := false, narrowed := true }
def FnExactRollupKeyUptoSaid : Prop := fnExactRollupKeyUptoRow.holds Try.pinned (OpenSpec.upto fnExactRollupKeySpec)

/-- 'laws.FnExactSplitField', WHERE WHAT IT READS IS OF BULK AT MOST 1048576: true; the input reads as it did. -/
def fnExactSplitFieldUptoRow : OpenClaim := { program := "ytpjejhgpnnclfaa", sum := "72cbe9c0e40074423fa8d1be1f38e0fa4341fdf39f0c139e1bd80eedbb140632", func := "loop.example/g01920/laws.FnExactSplitField", spec := "fnExactSplitField", apart := false, narrowed := true }
def FnExactSplitFieldUptoSaid : Prop := fnExactSplitFieldUptoRow.holds Try.pinned (OpenSpec.upto fnExactSplitFieldSpec)

/-- 'laws.FnExactGroupStepBound', WHERE WHAT IT READS IS OF BULK AT MOST 1048576: true; the input reads as it did. -/
def fnExactGroupStepBoundUptoRow : OpenClaim := { program := "ytpjejhgpnnclfaa", sum := "72cbe9c0e40074423fa8d1be1f38e0fa4341fdf39f0c139e1bd80eedbb140632", func := "loop.example/g01920/laws.FnExactGroupStepBound", spec := "fnExactGroupStepBound", apart := false, narrowed := true }
def FnExactGroupStepBoundUptoSaid : Prop := fnExactGroupStepBoundUptoRow.holds Try.pinned (OpenSpec.upto fnExactGroupStepBoundSpec)

/-- 'laws.FnExactJoinStepBound', WHERE WHAT IT READS IS OF BULK AT MOST 1048576: true; the input reads as it did. -/
def fnExactJoinStepBoundUptoRow : OpenClaim := { program := "ytpjejhgpnnclfaa", sum := "72cbe9c0e40074423fa8d1be1f38e0fa4341fdf39f0c139e1bd80eedbb140632", func := "loop.example/g01920/laws.FnExactJoinStepBound", spec := "fnExactJoinStepBound", apart := false, narrowed := true }
def FnExactJoinStepBoundUptoSaid : Prop := fnExactJoinStepBoundUptoRow.holds Try.pinned (OpenSpec.upto fnExactJoinStepBoundSpec)

/-- 'laws.FnExactJoinWriteBound', WHERE WHAT IT READS IS OF BULK AT MOST 1048576: true; the input reads as it did. -/
def fnExactJoinWriteBoundUptoRow : OpenClaim := { program := "ytpjejhgpnnclfaa", sum := "72cbe9c0e40074423fa8d1be1f38e0fa4341fdf39f0c139e1bd80eedbb140632", func := "loop.example/g01920/laws.FnExactJoinWriteBound", spec := "fnExactJoinWriteBound", apart := false, narrowed := true }
def FnExactJoinWriteBoundUptoSaid : Prop := fnExactJoinWriteBoundUptoRow.holds Try.pinned (OpenSpec.upto fnExactJoinWriteBoundSpec)

/-- 'laws.FnExactGroupWriteBound', WHERE WHAT IT READS IS OF BULK AT MOST 1048576: true; the input reads as it did. -/
def fnExactGroupWriteBoundUptoRow : OpenClaim := { program := "ytpjejhgpnnclfaa", sum := "72cbe9c0e40074423fa8d1be1f38e0fa4341fdf39f0c139e1bd80eedbb140632", func := "loop.example/g01920/laws.FnExactGroupWriteBound", spec := "fnExactGroupWriteBound", apart := false, narrowed := true }
def FnExactGroupWriteBoundUptoSaid : Prop := fnExactGroupWriteBoundUptoRow.holds Try.pinned (OpenSpec.upto fnExactGroupWriteBoundSpec)

end Rows
end Go.Proofs.Ytpjejhgpnnclfaa
