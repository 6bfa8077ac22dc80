/- RollupKey of the program returns what the reference's returns, for all arguments (the pure statement). No condition. -/
import Derived.Test.YtpjejhgpnnclfaaP10c0
import Derived.Test.YtpjejhgpnnclfaaSayFnExactRollupKey
import Derived.Test.YtpjejhgpnnclfaaQ0
namespace Go.Proofs.Ytpjejhgpnnclfaa.Pure
open Go.RowKit Go.Proofs.YtpjejhgpnnclfaaW.PrintWords Go.Proofs.YtpjejhgpnnclfaaW.PrintLast Go.Proofs.Ytpjejhgpnnclfaa.P
set_option linter.unusedVariables false
set_option linter.unusedSimpArgs false

theorem FnExactRollupKey : laws_FnExactRollupKey.Pure := by
  intro a0 a1 _ _
  have e : spec_RollupKey.f a0 a1 = impl_RollupKey.f a0 a1 := rfl
  unfold laws_FnExactRollupKey.f
  rw [e]
  unfold impl_RollupKey.f
  split
  · simp
  · split <;> simp

end Go.Proofs.Ytpjejhgpnnclfaa.Pure
