/- Written by tools/seatprint.py over the translation. Lean checks it. -/
import Derived.Test.YthciieopabndcaaP40c0
import Derived.Test.YthciieopabndcaaOpnt
namespace Go.Proofs.Ythciieopabndcaa.P
open Go.RowKit Go.Proofs.YthciieopabndcaaW.PrintWords Go.Proofs.YthciieopabndcaaW.PrintLast Go.Proofs.YthciieopabndcaaW.PrintMore
attribute [local go_sem] max2_int min2_int max_two min_two max_three min_three max_four min_four
set_option linter.unusedVariables false
set_option linter.unusedSimpArgs false

def laws_FnExactNewTask.Pure : Prop := ∀ (a0 : Int) (l1 : List (S64)) (l2 : List (S64)), ((Lit.int .i64 a0).wf = true) → (l1.length ≤ maxLen ∧ ∀ x ∈ l1, good64 x) → (l2.length ≤ maxLen ∧ ∀ x ∈ l2, good64 x) → ∃ k, laws_FnExactNewTask.f k a0 l1 l2 = some true
end Go.Proofs.Ythciieopabndcaa.P
