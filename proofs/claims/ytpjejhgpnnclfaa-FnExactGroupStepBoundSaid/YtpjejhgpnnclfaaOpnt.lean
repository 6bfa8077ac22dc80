/- Written by tools/seatprint.py over the translation. Lean checks it. -/
import Derived.Test.YtpjejhgpnnclfaaOpn
import Derived.Test.YtpjejhgpnnclfaaChecked
namespace Go.Proofs.Ytpjejhgpnnclfaa.P
open Go.RowKit Go.Proofs.YtpjejhgpnnclfaaW.PrintWords Go.Proofs.YtpjejhgpnnclfaaW.PrintLast Go.Proofs.YtpjejhgpnnclfaaW.PrintMore
attribute [local go_sem] max2_int min2_int max_two min_two max_three min_three max_four min_four
set_option linter.unusedVariables false
set_option linter.unusedSimpArgs false

open Go.Proofs.Ytpjejhgpnnclfaa.Opn
def good42 (x : S42) : Prop := (((fun n : Int => (Lit.int .i64 n).wf = true) x.f0) ∧ (((fun n : Int => (Lit.int .i64 n).wf = true) x.f1) ∧ ((fun n : Int => (Lit.int .i64 n).wf = true) x.f2)))
theorem open42 : Opens Try.prog 42 k42 good42 := opens_struct (d := (Kd.pair (Kd.int .i64) (Kd.pair (Kd.int .i64) (Kd.int .i64)))) (f := fun x : S42 => (x.f0, x.f1, x.f2)) Try.underlying42 (by kernel_rfl) (.cons rfl (opens_int Try.underlying3 (by kernel_rfl)) (.cons rfl (opens_int Try.underlying3 (by kernel_rfl)) (.one rfl (opens_int Try.underlying3 (by kernel_rfl))))) (fun p => ⟨p.1, p.2.1, p.2.2⟩) (fun _ => rfl) (fun _ h => h)
end Go.Proofs.Ytpjejhgpnnclfaa.P
