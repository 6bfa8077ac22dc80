/- Written by tools/seatprint.py over the translation. Lean checks it. -/
import Derived.Test.YthciieopabndcaaP800c0
import Derived.Test.YthciieopabndcaaOpnt
namespace Go.Proofs.Ythciieopabndcaa.P
open Go.RowKit Go.Proofs.YthciieopabndcaaW.PrintWords Go.Proofs.YthciieopabndcaaW.PrintLast Go.Proofs.YthciieopabndcaaW.PrintMore
attribute [local go_sem] max2_int min2_int max_two min_two max_three min_three max_four min_four
set_option linter.unusedVariables false
set_option linter.unusedSimpArgs false

def laws_FnExactUnmatchedRows.Pure : Prop := ∀ (x0 : S33), (good33 x0) → ∃ k, laws_FnExactUnmatchedRows.f k x0.f0 x0.f1 x0.f2 x0.f3 x0.f4 = some true
end Go.Proofs.Ythciieopabndcaa.P
