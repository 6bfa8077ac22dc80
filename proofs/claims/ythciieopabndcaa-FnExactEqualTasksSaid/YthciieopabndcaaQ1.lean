/- Plain lemmas on the printed functions. No condition. -/
import Derived.Test.YthciieopabndcaaP502c0
import Derived.Test.YthciieopabndcaaP583c0
import Derived.Test.YthciieopabndcaaPfdbc0
import Derived.Test.YthciieopabndcaaPfffc0
import Derived.Test.YthciieopabndcaaQ0
namespace Go.Proofs.Ythciieopabndcaa.P
open Go.RowKit Go.Proofs.YthciieopabndcaaW.PrintWords Go.Proofs.YthciieopabndcaaW.PrintLast Go.Proofs.Ythciieopabndcaa.P
set_option linter.unusedVariables false
set_option linter.unusedSimpArgs false

theorem rdR (l : List S62) (i : Nat) : rd_T62 l (i : Int) = l.getD i z62 := rfl
theorem rdLR (l : List S64) (i : Nat) : rd_T64 l (i : Int) = l.getD i z64 := rfl
def cvRow (x : S64) : S62 := ⟨x.f0, x.f1, x.f2⟩
theorem szRowS_neg (l : List S64) (n : Int) (h0 : 0 ≤ n) (h1 : n ≤ 1048576) (hl : l.length ≤ maxLen) (h : n - l.length < 0) : laws_szRowS.f l n = some (-1) := by
  have hl' : l.length ≤ 9223372036854775807 := hl
  unfold laws_szRowS.f
  rw [w64 (by omega) (by omega), if_pos h]
theorem szRowS_pos (l : List S64) (n : Int) (h0 : 0 ≤ n) (h1 : n ≤ 1048576) (h : ¬ n - l.length < 0) : laws_szRowS.f l n = some (n - l.length) := by
  unfold laws_szRowS.f
  rw [w64 (by omega) (by omega), if_neg h]
theorem toRowS_l0 (l : List S64) (hl : l.length ≤ 1048576) : ∀ (s : List S64) (k i : Nat) (acc : List S62), l.drop i = s → acc.length = l.length → s.length < k → laws_toRowS.l0 k l acc (i : Int) = some (acc.take i ++ s.map cvRow) := by
  intro s
  induction s with
  | nil =>
    intro k i acc hd ha hk
    obtain ⟨k, rfl, -⟩ := succ_of hk
    have := drop_nil' hd
    simp only [laws_toRowS.l0]
    rw [if_neg (by omega), List.take_of_length_le (by omega)]
    simp
  | cons x t ih =>
    intro k i acc hd ha hk
    obtain ⟨k, rfl, hk'⟩ := succ_of hk
    obtain ⟨hi, hd', hx, -⟩ := drop_cons' hd
    simp only [List.length_cons] at hk'
    simp only [laws_toRowS.l0, laws_toRow.f, Option.bind_some]
    rw [if_pos (by omega), if_pos (by omega), if_pos (by omega), w64s hi (by omega), rdLR, hx, ih _ _ _ hd' (by simp [ha]) (by omega)]
    congr 1
    simp only [Int.toNat_natCast, List.map_cons]
    rw [List.take_succ_eq_append_getElem (by simp; omega), List.take_set_of_le (Nat.le_refl _)]
    simp [cvRow]
theorem toRowS_eq (l : List S64) (hl : l.length ≤ 1048576) (k : Nat) (hk : 2000000 ≤ k) : laws_toRowS.f k l = some (l.map cvRow) := by
  unfold laws_toRowS.f
  rw [if_pos (by omega), if_pos (by simp; omega)]
  have := toRowS_l0 l hl l k 0 (List.replicate l.length z62) rfl (by simp) (by omega)
  simpa using this
theorem eqRowS_l0 (l : List S62) (hl : l.length ≤ 9223372036854775807) : ∀ (s : List S62) (k i : Nat), l.drop i = s → s.length < k → laws_eqRowS.l0 k l l (i : Int) = some true := by
  intro s
  induction s with
  | nil =>
    intro k i hd hk
    obtain ⟨k, rfl, -⟩ := succ_of hk
    have := drop_nil' hd
    simp only [laws_eqRowS.l0]
    rw [if_neg (by omega)]
  | cons x t ih =>
    intro k i hd hk
    obtain ⟨k, rfl, hk'⟩ := succ_of hk
    obtain ⟨hi, hd', hx, -⟩ := drop_cons' hd
    simp only [List.length_cons] at hk'
    simp only [laws_eqRowS.l0, laws_eqRow.f, if_true, Option.bind_some]
    rw [if_pos (by omega), if_pos (by omega), if_pos (by omega), w64s hi (by omega), ih _ _ hd' (by omega)]
theorem eqRowS_refl (l : List S62) (hl : l.length ≤ 1048576) (k : Nat) (hk : 2000000 ≤ k) : laws_eqRowS.f k l l = some true := by
  unfold laws_eqRowS.f
  rw [if_pos rfl]
  exact eqRowS_l0 l (by omega) l k 0 rfl (by omega)
def costR (x : S62) : Int := if (0 ≤ x.f0 ∧ x.f0 ≤ 9) ∧ (0 ≤ x.f1 ∧ x.f1 ≤ 99) ∧ (0 ≤ x.f2 ∧ x.f2 ≤ 3) then 1 + x.f2 else 0
def validR (x : S62) : Bool := decide ((0 ≤ x.f0 ∧ x.f0 ≤ 9) ∧ (0 ≤ x.f1 ∧ x.f1 ≤ 99) ∧ (0 ≤ x.f2 ∧ x.f2 ≤ 3))
theorem costR_bd (x : S62) : 0 ≤ costR x ∧ costR x ≤ 4 := by unfold costR; split <;> omega
def costs (l : List S62) : Int := (l.map costR).foldr (· + ·) 0
theorem costs_nil : costs [] = 0 := rfl
theorem costs_cons (x : S62) (l : List S62) : costs (x :: l) = costR x + costs l := rfl
theorem costs_bd (l : List S62) : 0 ≤ costs l ∧ costs l ≤ 4 * l.length := by
  induction l with
  | nil => simp [costs]
  | cons x t ih => have := costR_bd x; rw [costs_cons, List.length_cons]; omega
theorem impl_within_eq (a b c : Int) : impl_within.f a b c = some (decide (b ≤ a ∧ a ≤ c)) := by
  unfold impl_within.f
  by_cases h : a ≥ b
  · rw [if_pos h]; congr 1; simp only [decide_eq_decide]; constructor <;> intro h2 <;> omega
  · rw [if_neg h]; congr 1; symm; simp only [decide_eq_false_iff_not]; omega
theorem spec_l1In_eq (a b c : Int) : spec_l1In.f a b c = some (decide (b ≤ a ∧ a ≤ c)) := by
  unfold spec_l1In.f
  by_cases h : a ≥ b
  · rw [if_pos h]; congr 1; simp only [decide_eq_decide]; constructor <;> intro h2 <;> omega
  · rw [if_neg h]; congr 1; symm; simp only [decide_eq_false_iff_not]; omega
theorem validR_of (x y z : Int) : (if decide (0 ≤ x ∧ x ≤ 9) = true then (if decide (0 ≤ y ∧ y ≤ 99) = true then (some (decide (0 ≤ z ∧ z ≤ 3))) else some false) else some false) = some (validR ⟨x, y, z⟩) := by
  unfold validR
  by_cases h1 : 0 ≤ x ∧ x ≤ 9 <;> by_cases h2 : 0 ≤ y ∧ y ≤ 99 <;> simp [h1, h2]
theorem impl_IsValidRow_eq (x y z : Int) : impl_IsValidRow.f x y z = some (validR ⟨x, y, z⟩) := by
  unfold impl_IsValidRow.f
  simp only [impl_within_eq, Option.bind_some]
  exact validR_of x y z
theorem impl_RowCost_eq (x y z : Int) : impl_RowCost.f x y z = some (costR ⟨x, y, z⟩) := by
  unfold impl_RowCost.f
  rw [impl_IsValidRow_eq, Option.bind_some]
  unfold validR costR
  simp only [decide_eq_true_eq]
  split
  · rw [w64 (by omega) (by omega)]
  · rfl
theorem impl_IsValidRow_eq' (x : S62) : impl_IsValidRow.f x.f0 x.f1 x.f2 = some (validR x) := impl_IsValidRow_eq _ _ _
theorem impl_RowCost_eq' (x : S62) : impl_RowCost.f x.f0 x.f1 x.f2 = some (costR x) := impl_RowCost_eq _ _ _
theorem spec_IsValidRow_eq (x y z : Int) : spec_IsValidRow.f x y z = some (validR ⟨x, y, z⟩) := by
  unfold spec_IsValidRow.f
  simp only [spec_l1In_eq, Option.bind_some]
  exact validR_of x y z
theorem spec_RowCost_eq (x y z : Int) : spec_RowCost.f x y z = some (costR ⟨x, y, z⟩) := by
  unfold spec_RowCost.f
  rw [spec_IsValidRow_eq, Option.bind_some]
  unfold validR costR
  simp only [decide_eq_true_eq]
  split
  · rw [w64 (by omega) (by omega)]
  · rfl
theorem spec_IsValidRow_eq' (x : S62) : spec_IsValidRow.f x.f0 x.f1 x.f2 = some (validR x) := spec_IsValidRow_eq _ _ _
theorem spec_RowCost_eq' (x : S62) : spec_RowCost.f x.f0 x.f1 x.f2 = some (costR x) := spec_RowCost_eq _ _ _
theorem impl_TotalCost_l0 (l : List S62) (hl : l.length ≤ 1000000000) : ∀ (s : List S62) (k i : Nat) (n : Int), l.drop i = s → s.length < k → 0 ≤ n → n ≤ 4 * i → impl_TotalCost.l0 k n l (l.length : Int) (i : Int) = some (n + costs s) := by
  intro s
  induction s with
  | nil =>
    intro k i n hd hk h0 h1
    obtain ⟨k, rfl, -⟩ := succ_of hk
    have := drop_nil' hd
    simp only [impl_TotalCost.l0]
    rw [if_neg (by omega), costs_nil, Int.add_zero]
  | cons x t ih =>
    intro k i n hd hk h0 h1
    obtain ⟨k, rfl, hk'⟩ := succ_of hk
    obtain ⟨hi, hd', hx, -⟩ := drop_cons' hd
    simp only [List.length_cons] at hk'
    have hb := costR_bd x
    simp only [impl_TotalCost.l0]
    rw [if_pos (by omega), if_pos (by omega), if_pos (by omega), rdR, hx, impl_RowCost_eq', Option.bind_some, w64s hi (by omega), w64 (by omega) (by omega), ih _ _ _ hd' (by omega) (by omega) (by omega), costs_cons]
    congr 1
    omega
theorem impl_TotalCost_eq (l : List S62) (hl : l.length ≤ 1000000000) (k : Nat) (hk : 2000000000 ≤ k) : impl_TotalCost.f k l = some (costs l) := by
  unfold impl_TotalCost.f
  have := impl_TotalCost_l0 l hl l k 0 0 rfl (by omega) (by omega) (by omega)
  simpa using this
theorem spec_TotalCost_l0 (l : List S62) (hl : l.length ≤ 1000000000) : ∀ (s : List S62) (k i : Nat) (n : Int), l.drop i = s → s.length < k → 0 ≤ n → n ≤ 4 * i → spec_TotalCost.l0 k l n (i : Int) = some (n + costs s) := by
  intro s
  induction s with
  | nil =>
    intro k i n hd hk h0 h1
    obtain ⟨k, rfl, -⟩ := succ_of hk
    have := drop_nil' hd
    simp only [spec_TotalCost.l0]
    rw [if_neg (by omega), costs_nil, Int.add_zero]
  | cons x t ih =>
    intro k i n hd hk h0 h1
    obtain ⟨k, rfl, hk'⟩ := succ_of hk
    obtain ⟨hi, hd', hx, -⟩ := drop_cons' hd
    simp only [List.length_cons] at hk'
    have hb := costR_bd x
    simp only [spec_TotalCost.l0]
    rw [if_pos (by omega), if_pos (by omega), rdR, hx, spec_RowCost_eq', Option.bind_some, w64s hi (by omega), w64 (by omega) (by omega), ih _ _ _ hd' (by omega) (by omega) (by omega), costs_cons]
    congr 1
    omega
theorem spec_TotalCost_eq (l : List S62) (hl : l.length ≤ 1000000000) (k : Nat) (hk : 2000000000 ≤ k) : spec_TotalCost.f k l = some (costs l) := by
  unfold spec_TotalCost.f
  have := spec_TotalCost_l0 l hl l k 0 0 rfl (by omega) (by omega) (by omega)
  simpa using this

end Go.Proofs.Ythciieopabndcaa.P
