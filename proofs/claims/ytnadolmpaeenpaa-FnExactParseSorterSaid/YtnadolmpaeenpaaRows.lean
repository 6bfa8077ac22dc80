/-
  No cell of these rows narrows 'for every input' (looked for: loops, veiled, ifaces, maps, wideKeys, modest, calm, conditions, laid).
  DERIVED. THE GIVEN ROWS OF THIS SEAT. 2 by the template 'for every input the law returns true; each argument reads behind the call as it read before'; 0 by the template 'total and deterministic' (their statements: YtnadolmpaeenpaaTotals.lean).
  GIVEN WITH THE SEED: the statements are not yours to turn. If you find one false, say at which input.
  Laid BY PROGRAM, IN A SANDBOX (cutbox-rows.mjs): the forced cells as the released guide's own fill.sh prints them over the translation 2af95a09a8d7b94b… (all of the seat's roots in one cut). By AI agents, Wed Nov 11 2026. No macro, syntax, notation, axiom, sorry.
-/
import Derived.Test.YtnadolmpaeenpaaChecked
import GoSem.Claim
import GoSem.ClaimJoined
import GoSem.ClaimMapViews
import Derived.JoinedTies
import Derived.KernelRfl
namespace Go.Proofs.Ytnadolmpaeenpaa
/- THE CELL 'sum', in the pinned program and in every row, IS THE sha256 OF THE DUMP (.gsa) THAT YtnadolmpaeenpaaProg.lean LOADS. Nothing in Lean hashes anything: it is a label: what it is worth is what the hold of that sum in a sandbox is worth. -/
noncomputable def Try.pinned : Pinned := { name := "ytnadolmpaeenpaa", sum := "2af95a09a8d7b94b7793eef4047a22c19491e873f7bfed57e213a3ada7fa2dda", checked := Try.checked }
namespace Rows
def none {H : Type} : Left H := { results := [], args := [] }

/-- 'laws.FnExactFormatSorter': WHATEVER THE INPUT: true; the input reads as it did. -/
def fnExactFormatSorterSpec : ChangeSpec := { name := "fnExactFormatSorter", fn := fun _ => fun
  | [d] => { results := [.lit (.bool true)], args := [d] }
  | _ => none }
def fnExactFormatSorterRow : OpenClaim := { program := "ytnadolmpaeenpaa", sum := "2af95a09a8d7b94b7793eef4047a22c19491e873f7bfed57e213a3ada7fa2dda", func := "loop.example/g01920/laws.FnExactFormatSorter", spec := "fnExactFormatSorter", unfollowed := true, recurses := true, apart := false }
def FnExactFormatSorterSaid : Prop := fnExactFormatSorterRow.holds Try.pinned (OpenSpec.ofChange fnExactFormatSorterSpec)

/-- ITS FALSE NEIGHBOUR: 'it returns false'. Refute it at one input. -/
def fnExactFormatSorterWrong : ChangeSpec := { name := "fnExactFormatSorter", fn := fun _ => fun
  | [d] => { results := [.lit (.bool false)], args := [d] }
  | _ => none }
def FnExactFormatSorterWrongFalsely : Prop := fnExactFormatSorterRow.holds Try.pinned (OpenSpec.ofChange fnExactFormatSorterWrong)

/-- 'laws.FnExactParseSorter': WHATEVER THE INPUT: true; the input reads as it did. -/
def fnExactParseSorterSpec : ChangeSpec := { name := "fnExactParseSorter", fn := fun _ => fun
  | [d] => { results := [.lit (.bool true)], args := [d] }
  | _ => none }
def fnExactParseSorterRow : OpenClaim := { program := "ytnadolmpaeenpaa", sum := "2af95a09a8d7b94b7793eef4047a22c19491e873f7bfed57e213a3ada7fa2dda", func := "loop.example/g01920/laws.FnExactParseSorter", spec := "fnExactParseSorter", unfollowed := true, recurses := true, apart := false }
def FnExactParseSorterSaid : Prop := fnExactParseSorterRow.holds Try.pinned (OpenSpec.ofChange fnExactParseSorterSpec)

/-- ITS FALSE NEIGHBOUR: 'it returns false'. Refute it at one input. -/
def fnExactParseSorterWrong : ChangeSpec := { name := "fnExactParseSorter", fn := fun _ => fun
  | [d] => { results := [.lit (.bool false)], args := [d] }
  | _ => none }
def FnExactParseSorterWrongFalsely : Prop := fnExactParseSorterRow.holds Try.pinned (OpenSpec.ofChange fnExactParseSorterWrong)

/- THE SECOND FORM. 'bulk': how many values and letters a reading holds, each counted each time it is reached (what is shared counts as often as it is met; a slice's spare places count too). A statement '..UptoSaid' is the law's where the arguments, and the package variables that the reading takes, are together of bulk at most 1048576: NARROWER than '..Said'. Prove '..Said' where nothing that the law and all that it calls make is longer than what came in: it says more and counts as full. Else prove '..UptoSaid'. A law counts once. -/
mutual
def uptoBulk {H : Type} : DataW H → Nat
  | .lit (.string bytes) => bytes.length + 1
  | .lit _ => 1
  | .nil => 1
  | .ptr d => uptoBulk d + 1
  | .slice elems spare => uptoBulkAll elems + uptoBulkAll spare + 1
  | .agg parts => uptoBulkAll parts + 1
  | .iface _ d => uptoBulk d + 1
  | .map entries => uptoBulkEntries entries + 1
  | .held _ => 1
def uptoBulkAll {H : Type} : List (DataW H) → Nat
  | [] => 0
  | d :: r => uptoBulk d + uptoBulkAll r
def uptoBulkEntries {H : Type} : List (Lit × DataW H) → Nat
  | [] => 0
  | x :: r => uptoBulkEntry x + uptoBulkEntries r
def uptoBulkEntry {H : Type} : Lit × DataW H → Nat
  | (.string bytes, d) => bytes.length + uptoBulk d + 1
  | (_, d) => uptoBulk d + 1
 end
def uptoSmall : (H : Type) → List (DataW H) → Bool := fun _ ds => decide (uptoBulkAll ds ≤ 1048576)
def OpenSpec.upto (s : _root_.Go.ChangeSpec) : _root_.Go.OpenSpec := { _root_.Go.OpenSpec.ofChange s with cond := some uptoSmall }

/-- 'laws.FnExactFormatSorter', WHERE WHAT IT READS IS OF BULK AT MOST 1048576: true; the input reads as it did. -/
def fnExactFormatSorterUptoRow : OpenClaim := { program := "ytnadolmpaeenpaa", sum := "2af95a09a8d7b94b7793eef4047a22c19491e873f7bfed57e213a3ada7fa2dda", func := "loop.example/g01920/laws.FnExactFormatSorter", spec := "fnExactFormatSorter", unfollowed := true, recurses := true, apart := false, narrowed := true }
def FnExactFormatSorterUptoSaid : Prop := fnExactFormatSorterUptoRow.holds Try.pinned (OpenSpec.upto fnExactFormatSorterSpec)

/-- 'laws.FnExactParseSorter', WHERE WHAT IT READS IS OF BULK AT MOST 1048576: true; the input reads as it did. -/
def fnExactParseSorterUptoRow : OpenClaim := { program := "ytnadolmpaeenpaa", sum := "2af95a09a8d7b94b7793eef4047a22c19491e873f7bfed57e213a3ada7fa2dda", func := "loop.example/g01920/laws.FnExactParseSorter", spec := "fnExactParseSorter", unfollowed := true, recurses := true, apart := false, narrowed := true }
def FnExactParseSorterUptoSaid : Prop := fnExactParseSorterUptoRow.holds Try.pinned (OpenSpec.upto fnExactParseSorterSpec)

end Rows
end Go.Proofs.Ytnadolmpaeenpaa
