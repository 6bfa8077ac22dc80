/- GroupStepBound of the program returns what the reference's returns, for all arguments (the pure statement). No condition. -/
import Derived.Test.YtpjejhgpnnclfaaP1c0
import Derived.Test.YtpjejhgpnnclfaaSayFnExactGroupStepBound
import Derived.Test.YtpjejhgpnnclfaaQ1
namespace Go.Proofs.Ytpjejhgpnnclfaa.Pure
open Go.RowKit Go.Proofs.YtpjejhgpnnclfaaW.PrintWords Go.Proofs.YtpjejhgpnnclfaaW.PrintLast Go.Proofs.Ytpjejhgpnnclfaa.P
set_option linter.unusedVariables false
set_option linter.unusedSimpArgs false

theorem FnExactGroupStepBound : laws_FnExactGroupStepBound.Pure := by
  intro l0 ⟨h0, g0⟩
  refine big_k _ (fun k hk => ?_)
  unfold laws_FnExactGroupStepBound.f
  by_cases c0 : (1048576 : Int) - l0.length < 0
  · rw [szRowS_neg l0 _ (by omega) (by omega) h0 c0, Option.bind_some, if_pos (by omega)]
  rw [szRowS_pos l0 _ (by omega) (by omega) c0, Option.bind_some, if_neg c0]
  have e0 := toRowS_eq l0 (by omega) k (by omega)
  have m0 : (l0.map cvRow).length = l0.length := List.length_map ..
  obtain ⟨X, hX⟩ : ∃ X, spec_GroupStepBound.f (l0.map cvRow) = some X := ⟨_, rfl⟩
  have hX' : impl_GroupStepBound.f (l0.map cvRow) = some X := hX
  simp only [ob e0, ob hX, ob hX', if_true, ob (eqRowS_refl (l0.map cvRow) (by omega) k (by omega))]

end Go.Proofs.Ytpjejhgpnnclfaa.Pure
