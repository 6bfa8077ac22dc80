/- SplitField of the program returns what the reference's returns, for all arguments (the pure statement). No condition. -/
import Derived.Test.YtpjejhgpnnclfaaP20c0
import Derived.Test.YtpjejhgpnnclfaaSayFnExactSplitField
import Derived.Test.YtpjejhgpnnclfaaQ1
import Derived.Test.YtpjejhgpnnclfaaQ2
namespace Go.Proofs.Ytpjejhgpnnclfaa.Pure
open Go.RowKit Go.Proofs.YtpjejhgpnnclfaaW.PrintWords Go.Proofs.YtpjejhgpnnclfaaW.PrintLast Go.Proofs.Ytpjejhgpnnclfaa.P
set_option linter.unusedVariables false
set_option linter.unusedSimpArgs false

theorem FnExactSplitField : laws_FnExactSplitField.Pure := by
  intro s i hs hi
  refine big_k _ (fun k hk => ?_)
  unfold laws_FnExactSplitField.f
  by_cases c : (s.size : Int) > 1048576
  · rw [if_pos c]
  rw [if_neg c]
  have e1 := spec_l2Cut_eq s 47 (by omega) k (by omega)
  have e2 := impl_cut_eq s 47 (by omega) k (by omega)
  have hc := cuts_length s 47
  have hw : (-9223372036854775808 : Int) ≤ i ∧ i ≤ 9223372036854775807 := wf64 hi
  have e : spec_SplitField.f k s i = impl_SplitField.f k s i := by
    unfold spec_SplitField.f impl_SplitField.f
    rw [e1, e2]
    simp only [Option.bind_some, spec_l1In_eq, impl_within_eq]
  rw [e]
  have hr : ∃ r, impl_SplitField.f k s i = some r := by
    unfold impl_SplitField.f
    rw [e2]
    simp only [Option.bind_some, impl_within_eq]
    split
    · rename_i h
      simp only [decide_eq_true_eq] at h
      rw [w64 (by omega) (by omega)] at h
      rw [if_pos (by omega), if_pos (by omega)]
      exact ⟨_, rfl⟩
    · exact ⟨_, rfl⟩
  obtain ⟨r, hr⟩ := hr
  rw [hr]
  simp

end Go.Proofs.Ytpjejhgpnnclfaa.Pure
