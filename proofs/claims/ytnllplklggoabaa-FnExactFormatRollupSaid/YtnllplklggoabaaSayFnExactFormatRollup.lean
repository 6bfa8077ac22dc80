/- Written by tools/seatprint.py over the translation. Lean checks it. -/
import Derived.Test.YtnllplklggoabaaP4c0
import Derived.Test.YtnllplklggoabaaOpnt
namespace Go.Proofs.Ytnllplklggoabaa.P
open Go.RowKit Go.Proofs.YtnllplklggoabaaW.PrintWords Go.Proofs.YtnllplklggoabaaW.PrintLast Go.Proofs.YtnllplklggoabaaW.PrintMore
attribute [local go_sem] max2_int min2_int max_two min_two max_three min_three max_four min_four
set_option linter.unusedVariables false
set_option linter.unusedSimpArgs false

def laws_FnExactFormatRollup.Pure : Prop := ∀ (l0 : List (S83)), (l0.length ≤ maxLen ∧ ∀ x ∈ l0, good83 x) → ∃ k, laws_FnExactFormatRollup.f k l0 = some true
end Go.Proofs.Ytnllplklggoabaa.P
