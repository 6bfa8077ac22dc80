/- Written by tools/seatprint.py over the translation. Lean checks it. -/
import Derived.Test.YtnllplklggoabaaP2c0
import Derived.Test.YtnllplklggoabaaOpnt
namespace Go.Proofs.Ytnllplklggoabaa.P
open Go.RowKit Go.Proofs.YtnllplklggoabaaW.PrintWords Go.Proofs.YtnllplklggoabaaW.PrintLast Go.Proofs.YtnllplklggoabaaW.PrintMore
attribute [local go_sem] max2_int min2_int max_two min_two max_three min_three max_four min_four
set_option linter.unusedVariables false
set_option linter.unusedSimpArgs false

def laws_FnExactFormatJoiner.Pure : Prop := ∀ (x0 : S54), (good54 x0) → ∃ k, laws_FnExactFormatJoiner.f k x0.f0 x0.f1 x0.f2 = some true
end Go.Proofs.Ytnllplklggoabaa.P
