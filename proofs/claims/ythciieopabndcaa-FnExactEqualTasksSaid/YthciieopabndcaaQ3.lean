/- Plain lemmas on rows, marks and tasks: what the law's own words and the two readings of a task's functions compute. No condition. -/
import Derived.Test.YthciieopabndcaaPb1bc0
import Derived.Test.YthciieopabndcaaPb5bc0
import Derived.Test.YthciieopabndcaaPf3ec0
import Derived.Test.YthciieopabndcaaPf7ec0
import Derived.Test.YthciieopabndcaaPfffc0
import Derived.Test.YthciieopabndcaaQ0
import Derived.Test.YthciieopabndcaaQ1
namespace Go.Proofs.Ythciieopabndcaa.P
open Go.RowKit Go.Proofs.YthciieopabndcaaW.PrintWords Go.Proofs.YthciieopabndcaaW.PrintLast Go.Proofs.Ythciieopabndcaa.P
set_option linter.unusedVariables false
set_option linter.unusedSimpArgs false

def vRows (l : List S62) : Bool := decide (l.length ≤ 24) && l.all validR
theorem spec_AreValidRows_l0 (l : List S62) (hl : l.length ≤ 1000000000) : ∀ (s : List S62) (k i : Nat), l.drop i = s → s.length < k → spec_AreValidRows.l0 k l (i : Int) = some (s.all validR && decide (l.length ≤ 24)) := by
  intro s
  induction s with
  | nil =>
    intro k i hd hk
    obtain ⟨k, rfl, -⟩ := succ_of hk
    have := drop_nil' hd
    simp only [spec_AreValidRows.l0]
    rw [if_neg (by omega)]
    simp
    omega
  | cons x t ih =>
    intro k i hd hk
    obtain ⟨k, rfl, hk'⟩ := succ_of hk
    obtain ⟨hi, hd', hx, -⟩ := drop_cons' hd
    simp only [List.length_cons] at hk'
    simp only [spec_AreValidRows.l0]
    rw [if_pos (by omega), if_pos (by omega), rdR, hx, ob (spec_IsValidRow_eq' x), w64s hi (by omega), ih _ _ hd' (by omega)]
    cases h : validR x <;> simp [h]
theorem spec_AreValidRows_eq (l : List S62) (k : Nat) (hl : l.length ≤ 1000000000) (hk : 2000000000 ≤ k) : spec_AreValidRows.f k l = some (vRows l) := by
  have := spec_AreValidRows_l0 l hl l k 0 rfl (by omega)
  unfold spec_AreValidRows.f vRows
  rw [Bool.and_comm]
  simpa using this
theorem impl_allValid_l0 (l : List S62) (hl : l.length ≤ 1000000000) : ∀ (s : List S62) (k i : Nat), l.drop i = s → s.length < k → impl_allValid.l0 k l (l.length : Int) (i : Int) = some (s.all validR) := by
  intro s
  induction s with
  | nil =>
    intro k i hd hk
    obtain ⟨k, rfl, -⟩ := succ_of hk
    have := drop_nil' hd
    simp only [impl_allValid.l0]
    rw [if_neg (by omega)]
    simp
  | cons x t ih =>
    intro k i hd hk
    obtain ⟨k, rfl, hk'⟩ := succ_of hk
    obtain ⟨hi, hd', hx, -⟩ := drop_cons' hd
    simp only [List.length_cons] at hk'
    simp only [impl_allValid.l0]
    rw [if_pos (by omega), if_pos (by omega), if_pos (by omega), rdR, hx, ob (impl_IsValidRow_eq' x), w64s hi (by omega), ih _ _ hd' (by omega)]
    cases h : validR x <;> simp [h]
theorem impl_AreValidRows_eq (l : List S62) (k : Nat) (hl : l.length ≤ 1000000000) (hk : 2000000000 ≤ k) : impl_AreValidRows.f k l = some (vRows l) := by
  have := impl_allValid_l0 l hl l k 0 rfl (by omega)
  unfold impl_AreValidRows.f vRows
  by_cases h : l.length ≤ 24
  · rw [if_pos (by omega)]
    have e : impl_allValid.f k l = some (l.all validR) := by unfold impl_allValid.f; simpa using this
    rw [ob e]
    simp [h]
  · rw [if_neg (by omega)]
    simp [h]
theorem toBoolS_l0 (l : List Bool) (hl : l.length ≤ 1048576) : ∀ (s : List Bool) (k i : Nat) (acc : List Bool), l.drop i = s → acc.length = l.length → s.length < k → laws_toBoolS.l0 k l acc (i : Int) = some (acc.take i ++ s) := by
  intro s
  induction s with
  | nil =>
    intro k i acc hd ha hk
    obtain ⟨k, rfl, -⟩ := succ_of hk
    have := drop_nil' hd
    simp only [laws_toBoolS.l0]
    rw [if_neg (by omega), List.take_of_length_le (by omega)]
    simp
  | cons x t ih =>
    intro k i acc hd ha hk
    obtain ⟨k, rfl, hk'⟩ := succ_of hk
    obtain ⟨hi, hd', hx, -⟩ := drop_cons' hd
    simp only [List.length_cons] at hk'
    have hr : rdOf false l (i : Int) = x := hx false
    simp only [laws_toBoolS.l0]
    rw [if_pos (by omega), if_pos (by omega), if_pos (by omega), w64s hi (by omega), hr, ih _ _ _ hd' (by simp [ha]) (by omega)]
    congr 1
    simp only [Int.toNat_natCast]
    rw [List.take_succ_eq_append_getElem (by simp; omega), List.take_set_of_le (Nat.le_refl _)]
    simp
theorem toBoolS_eq (l : List Bool) (k : Nat) (hl : l.length ≤ 1048576) (hk : 2000000000 ≤ k) : laws_toBoolS.f k l = some l := by
  unfold laws_toBoolS.f
  rw [if_pos (by omega), if_pos (by simp; omega)]
  have := toBoolS_l0 l hl l k 0 (List.replicate l.length false) rfl (by simp) (by omega)
  simpa using this
theorem szBoolS_neg (l : List Bool) (n : Int) (h0 : 0 ≤ n) (h1 : n ≤ 1048576) (hl : l.length ≤ maxLen) (h : n - l.length < 0) : laws_szBoolS.f l n = some (-1) := by
  have hl' : l.length ≤ 9223372036854775807 := hl
  unfold laws_szBoolS.f
  rw [w64 (by omega) (by omega), if_pos h]
theorem szBoolS_pos (l : List Bool) (n : Int) (h0 : 0 ≤ n) (h1 : n ≤ 1048576) (h : ¬ n - l.length < 0) : laws_szBoolS.f l n = some (n - l.length) := by
  unfold laws_szBoolS.f
  rw [w64 (by omega) (by omega), if_neg h]
theorem toRowS_eq' (l : List S64) (k : Nat) (hl : l.length ≤ 1048576) (hk : 2000000000 ≤ k) : laws_toRowS.f k l = some (l.map cvRow) := toRowS_eq l hl k (by omega)
theorem eqRowS_refl' (l : List S62) (k : Nat) (hl : l.length ≤ 1048576) (hk : 2000000000 ≤ k) : laws_eqRowS.f k l l = some true := eqRowS_refl l hl k (by omega)
/-- The law's count of a task: too much, or what is left. -/
theorem szTask_eq (a : Int) (l1 l2 : List S64) (l3 : List Bool) (b n : Int) (h0 : 0 ≤ n) (h1 : n ≤ 1048576) (g1 : l1.length ≤ maxLen) (g2 : l2.length ≤ maxLen) (g3 : l3.length ≤ maxLen) :
    laws_szTask.f a l1 l2 l3 b n = some (-1) ∨ (laws_szTask.f a l1 l2 l3 b n = some (n - l1.length - l2.length - l3.length) ∧ (l1.length : Int) + l2.length + l3.length ≤ n) := by
  unfold laws_szTask.f
  by_cases c1 : n - l1.length < 0
  · left; rw [ob (szRowS_neg l1 n h0 h1 g1 c1), if_pos (by omega)]
  rw [ob (szRowS_pos l1 n h0 h1 c1), if_neg c1]
  by_cases c2 : n - l1.length - l2.length < 0
  · left; rw [ob (szRowS_neg l2 _ (by omega) (by omega) g2 c2), if_pos (by omega)]
  rw [ob (szRowS_pos l2 _ (by omega) (by omega) c2), if_neg c2]
  by_cases c3 : n - l1.length - l2.length - l3.length < 0
  · left; rw [ob (szBoolS_neg l3 _ (by omega) (by omega) g3 c3), if_pos (by omega)]
  right
  rw [ob (szBoolS_pos l3 _ (by omega) (by omega) c3), if_neg c3]
  exact ⟨rfl, by omega⟩
theorem toTask_eq (a : Int) (l1 l2 : List S64) (l3 : List Bool) (b : Int) (k : Nat) (h1 : l1.length ≤ 1048576) (h2 : l2.length ≤ 1048576) (h3 : l3.length ≤ 1048576) (hk : 2000000000 ≤ k) :
    laws_toTask.f k a l1 l2 l3 b = some (a, l1.map cvRow, l2.map cvRow, l3, b) := by
  unfold laws_toTask.f
  rw [ob (toRowS_eq' l1 k h1 hk), ob (toRowS_eq' l2 k h2 hk), ob (toBoolS_eq l3 k h3 hk)]
theorem eqBoolS_l0 (l : List Bool) (hl : l.length ≤ 9223372036854775807) : ∀ (s : List Bool) (k i : Nat), l.drop i = s → s.length < k → laws_eqBoolS.l0 k l l (i : Int) = some true := by
  intro s
  induction s with
  | nil =>
    intro k i hd hk
    obtain ⟨k, rfl, -⟩ := succ_of hk
    have := drop_nil' hd
    simp only [laws_eqBoolS.l0]
    rw [if_neg (by omega)]
  | cons x t ih =>
    intro k i hd hk
    obtain ⟨k, rfl, hk'⟩ := succ_of hk
    obtain ⟨hi, hd', hx, -⟩ := drop_cons' hd
    simp only [List.length_cons] at hk'
    simp only [laws_eqBoolS.l0]
    rw [if_pos (by omega), if_pos (by omega), if_pos (by omega), if_neg (by simp), w64s hi (by omega), ih _ _ hd' (by omega)]
theorem eqBoolS_refl (l : List Bool) (k : Nat) (hl : l.length ≤ 1048576) (hk : 2000000000 ≤ k) : laws_eqBoolS.f k l l = some true := by
  unfold laws_eqBoolS.f
  rw [if_pos rfl]
  exact eqBoolS_l0 l (by omega) l k 0 rfl (by omega)
theorem eqTask_refl (a : Int) (l1 l2 : List S62) (l3 : List Bool) (b : Int) (k : Nat) (h1 : l1.length ≤ 1048576) (h2 : l2.length ≤ 1048576) (h3 : l3.length ≤ 1048576) (hk : 2000000000 ≤ k) :
    laws_eqTask.f k a l1 l2 l3 b a l1 l2 l3 b = some true := by
  unfold laws_eqTask.f
  rw [if_pos rfl, ob (eqRowS_refl' l1 k h1 hk), if_pos rfl, ob (eqRowS_refl' l2 k h2 hk), if_pos rfl, ob (eqBoolS_refl l3 k h3 hk), if_pos rfl, if_pos rfl]
def vTask (a : Int) (l1 l2 : List S62) (l3 : List Bool) (b : Int) : Bool := decide (1 ≤ a ∧ a ≤ 4) && (vRows l1 && (vRows l2 && (decide (l3.length = l1.length) && decide (0 ≤ b ∧ b ≤ 4))))
theorem spec_IsValidTask_eq (a : Int) (l1 l2 : List S62) (l3 : List Bool) (b : Int) (k : Nat) (h1 : l1.length ≤ 1000000000) (h2 : l2.length ≤ 1000000000) (hk : 2000000000 ≤ k) : spec_IsValidTask.f k a l1 l2 l3 b = some (vTask a l1 l2 l3 b) := by
  unfold spec_IsValidTask.f vTask spec_IsValidJoinKind.f
  rw [ob (spec_l1In_eq a 1 4), ob rfl, ob (spec_AreValidRows_eq l1 k h1 hk), ob (spec_AreValidRows_eq l2 k h2 hk), ob (spec_l1In_eq b 0 4)]
  generalize decide (1 ≤ a ∧ a ≤ 4) = p
  generalize decide (0 ≤ b ∧ b ≤ 4) = q
  by_cases c4 : l3.length = l1.length
  · have c5 : (l3.length : Int) = l1.length := by omega
    cases p <;> cases vRows l1 <;> cases vRows l2 <;> simp [c4]
  · have c5 : ¬ (l3.length : Int) = l1.length := by omega
    cases p <;> cases vRows l1 <;> cases vRows l2 <;> simp [c4, c5]
theorem impl_IsValidTask_eq (a : Int) (l1 l2 : List S62) (l3 : List Bool) (b : Int) (k : Nat) (h1 : l1.length ≤ 1000000000) (h2 : l2.length ≤ 1000000000) (hk : 2000000000 ≤ k) : impl_IsValidTask.f k a l1 l2 l3 b = some (vTask a l1 l2 l3 b) := by
  unfold impl_IsValidTask.f vTask impl_IsValidJoinKind.f
  rw [ob (impl_within_eq a 1 4), ob rfl, ob (impl_AreValidRows_eq l1 k h1 hk), ob (impl_AreValidRows_eq l2 k h2 hk), ob (impl_within_eq b 0 4)]
  generalize decide (1 ≤ a ∧ a ≤ 4) = p
  generalize decide (0 ≤ b ∧ b ≤ 4) = q
  by_cases c4 : l3.length = l1.length
  · have c5 : (l3.length : Int) = l1.length := by omega
    cases p <;> cases vRows l1 <;> cases vRows l2 <;> simp [c4]
  · have c5 : ¬ (l3.length : Int) = l1.length := by omega
    cases p <;> cases vRows l1 <;> cases vRows l2 <;> simp [c4, c5]

end Go.Proofs.Ythciieopabndcaa.P
