/- Written by tools/seatprint.py over the translation. Lean checks it. -/
import Derived.Test.YthciieopabndcaaP80c0
import Derived.Test.YthciieopabndcaaOpnt
namespace Go.Proofs.Ythciieopabndcaa.P
open Go.RowKit Go.Proofs.YthciieopabndcaaW.PrintWords Go.Proofs.YthciieopabndcaaW.PrintLast Go.Proofs.YthciieopabndcaaW.PrintMore
attribute [local go_sem] max2_int min2_int max_two min_two max_three min_three max_four min_four
set_option linter.unusedVariables false
set_option linter.unusedSimpArgs false

def laws_FnExactNextChunk.Pure : Prop := ∀ (l0 : List (S64)) (a1 : Int), (l0.length ≤ maxLen ∧ ∀ x ∈ l0, good64 x) → ((Lit.int .i64 a1).wf = true) → ∃ k, laws_FnExactNextChunk.f k l0 a1 = some true
end Go.Proofs.Ythciieopabndcaa.P
