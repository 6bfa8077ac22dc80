/- Written by tools/seatprint.py over the translation. Lean checks it. -/
import Derived.Test.YtpjejhgpnnclfaaP4c0
import Derived.Test.YtpjejhgpnnclfaaOpnt
namespace Go.Proofs.Ytpjejhgpnnclfaa.P
open Go.RowKit Go.Proofs.YtpjejhgpnnclfaaW.PrintWords Go.Proofs.YtpjejhgpnnclfaaW.PrintLast Go.Proofs.YtpjejhgpnnclfaaW.PrintMore
attribute [local go_sem] max2_int min2_int max_two min_two max_three min_three max_four min_four
set_option linter.unusedVariables false
set_option linter.unusedSimpArgs false

def laws_FnExactJoinStepBound.Pure : Prop := ∀ (l0 : List (S42)) (l1 : List (S42)), (l0.length ≤ maxLen ∧ ∀ x ∈ l0, good42 x) → (l1.length ≤ maxLen ∧ ∀ x ∈ l1, good42 x) → ∃ k, laws_FnExactJoinStepBound.f k l0 l1 = some true
end Go.Proofs.Ytpjejhgpnnclfaa.P
