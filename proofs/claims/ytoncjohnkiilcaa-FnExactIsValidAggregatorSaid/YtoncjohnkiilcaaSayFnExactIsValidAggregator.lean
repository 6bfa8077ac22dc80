/- Written by tools/seatprint.py over the translation. Lean checks it. -/
import Derived.Test.YtoncjohnkiilcaaP4c0
import Derived.Test.YtoncjohnkiilcaaOpnt
namespace Go.Proofs.Ytoncjohnkiilcaa.P
open Go.RowKit Go.Proofs.YtoncjohnkiilcaaW.PrintWords Go.Proofs.YtoncjohnkiilcaaW.PrintLast Go.Proofs.YtoncjohnkiilcaaW.PrintMore
attribute [local go_sem] max2_int min2_int max_two min_two max_three min_three max_four min_four
set_option linter.unusedVariables false
set_option linter.unusedSimpArgs false

def laws_FnExactIsValidAggregator.Pure : Prop := ∀ (x0 : S35), (good35 x0) → ∃ k, laws_FnExactIsValidAggregator.f k x0.f0 x0.f1 x0.f2 = some true
end Go.Proofs.Ytoncjohnkiilcaa.P
