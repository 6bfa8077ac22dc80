/- BuildSide of the program returns what the reference's returns, for all arguments (the pure statement). No condition. -/
import Derived.Test.YthciieopabndcaaP2c0
import Derived.Test.YthciieopabndcaaSayFnExactBuildSide
import Derived.Test.YthciieopabndcaaQ5
namespace Go.Proofs.Ythciieopabndcaa.Pure
open Go.RowKit Go.Proofs.YthciieopabndcaaW.PrintWords Go.Proofs.YthciieopabndcaaW.PrintLast Go.Proofs.Ythciieopabndcaa.P
set_option linter.unusedVariables false
set_option linter.unusedSimpArgs false

theorem FnExactBuildSide : laws_FnExactBuildSide.Pure := by
  intro ⟨a, l1, l2, l3, b⟩ g ⟨_, ⟨h1, _⟩, ⟨h2, _⟩, ⟨h3, _⟩, _⟩ _
  refine big_k _ (fun k hk => ?_)
  unfold laws_FnExactBuildSide.f
  rcases szTask_eq a l1 l2 l3 b 1048576 (by omega) (by omega) h1 h2 h3 with e | ⟨e, h⟩
  · simp only [ob e, if_pos (show (-1 : Int) < 0 by omega)]
  have m1 : (l1.map cvRow).length = l1.length := List.length_map ..
  have m2 : (l2.map cvRow).length = l2.length := List.length_map ..
  rw [ob e, if_neg (by omega)]
  simp only [ob (toTask_eq a l1 l2 l3 b k (by omega) (by omega) (by omega) (by omega)), ob (spec_BuildSide_eq a (l1.map cvRow) (l2.map cvRow) l3 b g k (by omega) (by omega) (by omega)), ob (impl_BuildSide_eq a (l1.map cvRow) (l2.map cvRow) l3 b g k (by omega) (by omega) (by omega)), ob (eqTask_refl a (l1.map cvRow) (l2.map cvRow) l3 b k (by omega) (by omega) (by omega) (by omega)), if_true]

end Go.Proofs.Ythciieopabndcaa.Pure
