/- Plain lemmas on cutting strings. No condition. -/
import Derived.Test.YtpjejhgpnnclfaaP20c0
import Derived.Test.YtpjejhgpnnclfaaQ0
namespace Go.Proofs.Ytpjejhgpnnclfaa.P
open Go.RowKit Go.Proofs.YtpjejhgpnnclfaaW.PrintWords Go.Proofs.YtpjejhgpnnclfaaW.PrintLast Go.Proofs.Ytpjejhgpnnclfaa.P
set_option linter.unusedVariables false
set_option linter.unusedSimpArgs false

def cutsFrom (s : ByteArray) (c : Int) : Nat → Nat → Nat → List ByteArray
  | 0, _, from_ => [s.extract from_ s.size]
  | d + 1, i, from_ => if bt s i = c then s.extract from_ i :: cutsFrom s c d (i + 1) (i + 1) else cutsFrom s c d (i + 1) from_
/-- s cut at each byte c. -/
def cuts (s : ByteArray) (c : Int) : List ByteArray := cutsFrom s c s.size 0 0
theorem cutsFrom_length (s : ByteArray) (c : Int) : ∀ d i f, 1 ≤ (cutsFrom s c d i f).length ∧ (cutsFrom s c d i f).length ≤ d + 1 := by
  intro d
  induction d with
  | zero => intro i f; simp [cutsFrom]
  | succ d ih =>
    intro i f
    unfold cutsFrom
    split
    · have := ih (i + 1) (i + 1); simp only [List.length_cons]; omega
    · have := ih (i + 1) f; omega
theorem cuts_length (s : ByteArray) (c : Int) : 1 ≤ (cuts s c).length ∧ (cuts s c).length ≤ s.size + 1 := cutsFrom_length s c _ _ _
theorem spec_l2Cut_l0 (s : ByteArray) (c : Int) (hs : s.size ≤ 1000000000) : ∀ (d k i f : Nat) (acc : List ByteArray), i + d = s.size → f ≤ i → d < k → acc.length ≤ i → spec_l2Cut.l0 k s c acc (f : Int) (i : Int) = some (acc ++ cutsFrom s c d i f) := by
  intro d
  induction d with
  | zero =>
    intro k i f acc hi hf hk ha
    obtain ⟨k, rfl, -⟩ := succ_of hk
    simp only [spec_l2Cut.l0]
    rw [if_neg (by omega), if_pos (by omega), if_pos (by omega), if_pos (by omega)]
    simp [cutsFrom]
  | succ d ih =>
    intro k i f acc hi hf hk ha
    obtain ⟨k, rfl, hk'⟩ := succ_of hk
    simp only [spec_l2Cut.l0]
    rw [if_pos (by omega), if_pos (by omega), w64s (i := i) (n := s.size) (by omega) (by omega)]
    by_cases e : bt s i = c
    · rw [if_pos e, if_pos (by omega), if_pos (by omega), if_pos (by omega), if_pos (by omega), ih _ _ _ _ (by omega) (by omega) (by omega) (by simp; omega)]
      simp [cutsFrom, e]
    · rw [if_neg e, ih _ _ _ _ (by omega) (by omega) (by omega) (by omega)]
      simp [cutsFrom, e]
theorem spec_l2Cut_eq (s : ByteArray) (c : Int) (hs : s.size ≤ 1000000000) (k : Nat) (hk : 2000000000 ≤ k) : spec_l2Cut.f k s c = some (cuts s c) := by
  have := spec_l2Cut_l0 s c hs s.size k 0 0 [] (by omega) (by omega) (by omega) (by simp)
  unfold spec_l2Cut.f
  simpa [cuts] using this
theorem impl_cut_l0 (s : ByteArray) (c : Int) (hs : s.size ≤ 1000000000) : ∀ (d k i f : Nat) (acc : List ByteArray), i + d = s.size → f ≤ i → d < k → acc.length ≤ i → impl_cut.l0 k s c acc (f : Int) (s.size : Int) (i : Int) = some (acc ++ cutsFrom s c d i f) := by
  intro d
  induction d with
  | zero =>
    intro k i f acc hi hf hk ha
    obtain ⟨k, rfl, -⟩ := succ_of hk
    simp only [impl_cut.l0]
    rw [if_neg (by omega), if_pos (by omega), if_pos (by omega), if_pos (by omega)]
    simp [cutsFrom]
  | succ d ih =>
    intro k i f acc hi hf hk ha
    obtain ⟨k, rfl, hk'⟩ := succ_of hk
    simp only [impl_cut.l0]
    rw [if_pos (by omega), if_pos (by omega), if_pos (by omega), w64s (i := i) (n := s.size) (by omega) (by omega)]
    by_cases e : bt s i = c
    · rw [if_pos e, if_pos (by omega), if_pos (by omega), if_pos (by omega), if_pos (by omega), ih _ _ _ _ (by omega) (by omega) (by omega) (by simp; omega)]
      simp [cutsFrom, e]
    · rw [if_neg e, ih _ _ _ _ (by omega) (by omega) (by omega) (by omega)]
      simp [cutsFrom, e]
theorem impl_cut_eq (s : ByteArray) (c : Int) (hs : s.size ≤ 1000000000) (k : Nat) (hk : 2000000000 ≤ k) : impl_cut.f k s c = some (cuts s c) := by
  have := impl_cut_l0 s c hs s.size k 0 0 [] (by omega) (by omega) (by omega) (by simp)
  unfold impl_cut.f
  simpa [cuts] using this

end Go.Proofs.Ytpjejhgpnnclfaa.P
