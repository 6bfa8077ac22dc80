/- EqualTasks of the program returns what the reference's returns, for all arguments (the pure statement). No condition. -/
import Derived.Test.YthciieopabndcaaP4c0
import Derived.Test.YthciieopabndcaaSayFnExactEqualTasks
import Derived.Test.YthciieopabndcaaQ5
namespace Go.Proofs.Ythciieopabndcaa.Pure
open Go.RowKit Go.Proofs.YthciieopabndcaaW.PrintWords Go.Proofs.YthciieopabndcaaW.PrintLast Go.Proofs.Ythciieopabndcaa.P
set_option linter.unusedVariables false
set_option linter.unusedSimpArgs false

theorem FnExactEqualTasks : laws_FnExactEqualTasks.Pure := by
  intro ⟨a, l1, l2, l3, b⟩ ⟨c, n1, n2, n3, d⟩ ⟨_, ⟨h1, _⟩, ⟨h2, _⟩, ⟨h3, _⟩, _⟩ ⟨_, ⟨g1, _⟩, ⟨g2, _⟩, ⟨g3, _⟩, _⟩
  refine big_k _ (fun k hk => ?_)
  unfold laws_FnExactEqualTasks.f
  rcases szTask_eq a l1 l2 l3 b 1048576 (by omega) (by omega) h1 h2 h3 with e | ⟨e, h⟩
  · simp only [ob e, if_pos (show (-1 : Int) < 0 by omega)]
  rw [ob e, if_neg (by omega)]
  rcases szTask_eq c n1 n2 n3 d (1048576 - l1.length - l2.length - l3.length) (by omega) (by omega) g1 g2 g3 with e' | ⟨e', h'⟩
  · simp only [ob e', if_pos (show (-1 : Int) < 0 by omega)]
  rw [ob e', if_neg (by omega)]
  have m1 : (l1.map cvRow).length = l1.length := List.length_map ..
  have m2 : (l2.map cvRow).length = l2.length := List.length_map ..
  have m3 : (n1.map cvRow).length = n1.length := List.length_map ..
  have m4 : (n2.map cvRow).length = n2.length := List.length_map ..
  simp only [ob (toTask_eq a l1 l2 l3 b k (by omega) (by omega) (by omega) (by omega)), ob (toTask_eq c n1 n2 n3 d k (by omega) (by omega) (by omega) (by omega)), ob (spec_EqualTasks_eq a (l1.map cvRow) (l2.map cvRow) l3 b c (n1.map cvRow) (n2.map cvRow) n3 d k (by omega) (by omega) (by omega) (by omega)), ob (impl_EqualTasks_eq a (l1.map cvRow) (l2.map cvRow) l3 b c (n1.map cvRow) (n2.map cvRow) n3 d k (by omega) (by omega) (by omega) (by omega)), ob (eqTask_refl a (l1.map cvRow) (l2.map cvRow) l3 b k (by omega) (by omega) (by omega) (by omega)), ob (eqTask_refl c (n1.map cvRow) (n2.map cvRow) n3 d k (by omega) (by omega) (by omega) (by omega)), bne_self_eq_false, Bool.false_eq_true, if_false, if_true]

end Go.Proofs.Ythciieopabndcaa.Pure
