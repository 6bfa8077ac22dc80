/- JoinStepBound of the program returns what the reference's returns, for all arguments (the pure statement). No condition. -/
import Derived.Test.YtpjejhgpnnclfaaP4c0
import Derived.Test.YtpjejhgpnnclfaaSayFnExactJoinStepBound
import Derived.Test.YtpjejhgpnnclfaaQ1
namespace Go.Proofs.Ytpjejhgpnnclfaa.Pure
open Go.RowKit Go.Proofs.YtpjejhgpnnclfaaW.PrintWords Go.Proofs.YtpjejhgpnnclfaaW.PrintLast Go.Proofs.Ytpjejhgpnnclfaa.P
set_option linter.unusedVariables false
set_option linter.unusedSimpArgs false

theorem FnExactJoinStepBound : laws_FnExactJoinStepBound.Pure := by
  intro l0 l1 ⟨h0, g0⟩ ⟨h1, g1⟩
  refine big_k _ (fun k hk => ?_)
  unfold laws_FnExactJoinStepBound.f
  by_cases c0 : (1048576 : Int) - l0.length < 0
  · rw [szRowS_neg l0 _ (by omega) (by omega) h0 c0, Option.bind_some, if_pos (by omega)]
  rw [szRowS_pos l0 _ (by omega) (by omega) c0, Option.bind_some, if_neg c0]
  by_cases c1 : (1048576 : Int) - l0.length - l1.length < 0
  · rw [szRowS_neg l1 _ (by omega) (by omega) h1 c1, Option.bind_some, if_pos (by omega)]
  rw [szRowS_pos l1 _ (by omega) (by omega) c1, Option.bind_some, if_neg c1]
  have e0 := toRowS_eq l0 (by omega) k (by omega)
  have e1 := toRowS_eq l1 (by omega) k (by omega)
  have m0 : (l0.map cvRow).length = l0.length := List.length_map ..
  have m1 : (l1.map cvRow).length = l1.length := List.length_map ..
  obtain ⟨X, hX⟩ : ∃ X, spec_JoinStepBound.f (l0.map cvRow) (l1.map cvRow) = some X := ⟨_, rfl⟩
  have hX' : impl_JoinStepBound.f (l0.map cvRow) (l1.map cvRow) = some X := hX
  simp only [ob e0, ob e1, ob hX, ob hX', if_true, ob (eqRowS_refl (l0.map cvRow) (by omega) k (by omega)), ob (eqRowS_refl (l1.map cvRow) (by omega) k (by omega))]

end Go.Proofs.Ytpjejhgpnnclfaa.Pure
