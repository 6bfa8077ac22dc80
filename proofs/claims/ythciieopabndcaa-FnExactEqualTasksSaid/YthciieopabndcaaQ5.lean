/- Plain lemmas on tasks: cost, build side, one key, equality, a new task, the next chunk, the rows without a match: what both readings compute. No condition. -/
import Derived.Test.YthciieopabndcaaP102c0
import Derived.Test.YthciieopabndcaaP120c0
import Derived.Test.YthciieopabndcaaP400c0
import Derived.Test.YthciieopabndcaaP4c0
import Derived.Test.YthciieopabndcaaQ3
namespace Go.Proofs.Ythciieopabndcaa.P
open Go.RowKit Go.Proofs.YthciieopabndcaaW.PrintWords Go.Proofs.YthciieopabndcaaW.PrintLast Go.Proofs.Ythciieopabndcaa.P
set_option linter.unusedVariables false
set_option linter.unusedSimpArgs false

theorem spec_TaskCost_eq (a : Int) (l1 l2 : List S62) (l3 : List Bool) (b : Int) (k : Nat) (h1 : l1.length ≤ 1000000000) (h2 : l2.length ≤ 1000000000) (hk : 2000000000 ≤ k) : spec_TaskCost.f k a l1 l2 l3 b = some (costs l1 + costs l2) := by
  have b1 := costs_bd l1
  have b2 := costs_bd l2
  unfold spec_TaskCost.f
  rw [ob (spec_TotalCost_eq l1 h1 k hk), ob (spec_TotalCost_eq l2 h2 k hk), w64 (by omega) (by omega)]
theorem impl_TaskCost_eq (a : Int) (l1 l2 : List S62) (l3 : List Bool) (b : Int) (k : Nat) (h1 : l1.length ≤ 1000000000) (h2 : l2.length ≤ 1000000000) (hk : 2000000000 ≤ k) : impl_TaskCost.f k a l1 l2 l3 b = some (costs l1 + costs l2) := by
  have b1 := costs_bd l1
  have b2 := costs_bd l2
  unfold impl_TaskCost.f
  rw [ob (impl_TotalCost_eq l1 h1 k hk), ob (impl_TotalCost_eq l2 h2 k hk), w64 (by omega) (by omega)]
def side (a : Int) (l1 l2 : List S62) (l3 : List Bool) (b g : Int) : Int :=
  if vTask a l1 l2 l3 b = true then (if a = 1 ∧ costs l1 < costs l2 ∧ costs l1 ≤ g then 1 else if costs l2 ≤ g then 2 else 0) else 0
theorem spec_BuildSide_eq (a : Int) (l1 l2 : List S62) (l3 : List Bool) (b g : Int) (k : Nat) (h1 : l1.length ≤ 1000000000) (h2 : l2.length ≤ 1000000000) (hk : 3000000000 ≤ k) : spec_BuildSide.f k a l1 l2 l3 b g = some (side a l1 l2 l3 b g) := by
  obtain ⟨k, rfl, hk'⟩ := succ_of (n := 2999999999) (k := k) (by omega)
  unfold spec_BuildSide.f side
  rw [ob (spec_IsValidTask_eq a l1 l2 l3 b (k + 1) h1 h2 (by omega))]
  simp only [ob (spec_TotalCost_eq l1 h1 (k + 1) (by omega)), ob (spec_TotalCost_eq l2 h2 (k + 1) (by omega)), spec_BuildSide.j0, ob (spec_TotalCost_eq l2 h2 k (by omega))]
  by_cases c : vTask a l1 l2 l3 b = true
  · rw [if_pos c, if_pos c]
    by_cases c1 : a = 1 <;> by_cases c2 : costs l1 < costs l2 <;> by_cases c3 : costs l1 ≤ g <;> by_cases c4 : costs l2 ≤ g <;> simp [c1, c2, c3, c4]
  · rw [if_neg c, if_neg c]
theorem impl_BuildSide_eq (a : Int) (l1 l2 : List S62) (l3 : List Bool) (b g : Int) (k : Nat) (h1 : l1.length ≤ 1000000000) (h2 : l2.length ≤ 1000000000) (hk : 3000000000 ≤ k) : impl_BuildSide.f k a l1 l2 l3 b g = some (side a l1 l2 l3 b g) := by
  obtain ⟨k, rfl, hk'⟩ := succ_of (n := 2999999999) (k := k) (by omega)
  unfold impl_BuildSide.f side
  rw [ob (impl_IsValidTask_eq a l1 l2 l3 b (k + 1) h1 h2 (by omega))]
  simp only [ob (impl_TotalCost_eq l1 h1 (k + 1) (by omega)), ob (impl_TotalCost_eq l2 h2 (k + 1) (by omega)), impl_BuildSide.j0]
  by_cases c : vTask a l1 l2 l3 b = true
  · rw [if_pos c, if_pos c]
    by_cases c1 : a = 1 <;> by_cases c2 : costs l1 < costs l2 <;> by_cases c3 : costs l1 ≤ g <;> by_cases c4 : costs l2 ≤ g <;> simp [c1, c2, c3, c4]
  · rw [if_neg c, if_neg c]
def oneKey (l : List S62) : Bool := l.all fun x => decide (x.f0 = (l.getD 0 z62).f0)
theorem spec_AllSameKey_l0 (l : List S62) (hl : l.length ≤ 1000000000) : ∀ (s : List S62) (k i : Nat), l.drop i = s → s.length < k → spec_AllSameKey.l0 k l (i : Int) = some (s.all fun x => decide (x.f0 = (l.getD 0 z62).f0)) := by
  intro s
  induction s with
  | nil =>
    intro k i hd hk
    obtain ⟨k, rfl, -⟩ := succ_of hk
    have := drop_nil' hd
    simp only [spec_AllSameKey.l0]
    rw [if_neg (by omega)]
    simp
  | cons x t ih =>
    intro k i hd hk
    obtain ⟨k, rfl, hk'⟩ := succ_of hk
    obtain ⟨hi, hd', hx, -⟩ := drop_cons' hd
    simp only [List.length_cons] at hk'
    simp only [spec_AllSameKey.l0]
    rw [if_pos (by omega), if_pos (by omega), if_pos (by omega), rdR, hx, w64s hi (by omega), ih _ _ hd' (by omega)]
    have e : rd_T62 l 0 = l.getD 0 z62 := rfl
    rw [e]
    generalize (l.getD 0 z62).f0 = K
    by_cases h : x.f0 = K <;> simp [h]
theorem spec_AllSameKey_eq (l : List S62) (k : Nat) (hl : l.length ≤ 1000000000) (hk : 2000000000 ≤ k) : spec_AllSameKey.f k l = some (oneKey l) := by
  unfold spec_AllSameKey.f oneKey
  have := spec_AllSameKey_l0 l hl (l.drop 1) k 1 rfl (by simp; omega)
  rw [show (1 : Int) = ((1 : Nat) : Int) by rfl, this]
  cases l with
  | nil => rfl
  | cons x t => simp
theorem impl_AllSameKey_l0 (l : List S62) (hl : l.length ≤ 1000000000) : ∀ (s : List S62) (k i : Nat), l.drop i = s → s.length < k → impl_AllSameKey.l0 k l l (l.length : Int) (i : Int) = some (s.all fun x => decide (x.f0 = (l.getD 0 z62).f0)) := by
  intro s
  induction s with
  | nil =>
    intro k i hd hk
    obtain ⟨k, rfl, -⟩ := succ_of hk
    have := drop_nil' hd
    simp only [impl_AllSameKey.l0]
    rw [if_neg (by omega)]
    simp
  | cons x t ih =>
    intro k i hd hk
    obtain ⟨k, rfl, hk'⟩ := succ_of hk
    obtain ⟨hi, hd', hx, -⟩ := drop_cons' hd
    simp only [List.length_cons] at hk'
    simp only [impl_AllSameKey.l0]
    rw [if_pos (by omega), if_pos (by omega), if_pos (by omega), if_pos (by omega), rdR, hx, w64s hi (by omega), ih _ _ hd' (by omega)]
    have e : rd_T62 l 0 = l.getD 0 z62 := rfl
    rw [e]
    generalize (l.getD 0 z62).f0 = K
    by_cases h : x.f0 = K <;> simp [h]
theorem impl_AllSameKey_eq (l : List S62) (k : Nat) (hl : l.length ≤ 1000000000) (hk : 2000000000 ≤ k) : impl_AllSameKey.f k l = some (oneKey l) := by
  unfold impl_AllSameKey.f oneKey
  exact impl_AllSameKey_l0 l hl l k 0 rfl (by omega)
theorem needs_eq (a : Int) (l1 l2 : List S62) (l3 : List Bool) (b : Int) (k : Nat) (h2 : l2.length ≤ 1000000000) (hk : 2000000000 ≤ k) : spec_NeedsNestedLoop.f k a l1 l2 l3 b = some (decide (4 ≤ b) || oneKey l2) ∧ impl_NeedsNestedLoop.f k a l1 l2 l3 b = some (decide (4 ≤ b) || oneKey l2) := by
  unfold spec_NeedsNestedLoop.f impl_NeedsNestedLoop.f
  rw [ob (spec_AllSameKey_eq l2 k h2 hk), ob (impl_AllSameKey_eq l2 k h2 hk)]
  by_cases h : b ≥ 4
  · simp only [if_pos h]
    have : 4 ≤ b := h
    simp [this]
  · simp only [if_neg h]
    have : ¬ 4 ≤ b := h
    simp [this]
def rowB (x y : S62) : Bool := (x.f0 == y.f0) && ((x.f1 == y.f1) && (x.f2 == y.f2))
def rowsB : List S62 → List S62 → Bool
  | [], [] => true
  | x :: a, y :: b => rowB x y && rowsB a b
  | _, _ => false
theorem rowsB_ne : ∀ (a b : List S62), a.length ≠ b.length → rowsB a b = false
  | [], [], h => absurd rfl h
  | [], _ :: _, _ => rfl
  | _ :: _, [], _ => rfl
  | x :: a, y :: b, h => by simp only [rowsB]; rw [rowsB_ne a b (by simpa using h)]; simp
theorem rowB_neq (x y : S62) : (!(x.f0 == y.f0) || (!(x.f1 == y.f1) || (!(x.f2 == y.f2)))) = !(rowB x y) := by unfold rowB; cases (x.f0 == y.f0) <;> cases (x.f1 == y.f1) <;> cases (x.f2 == y.f2) <;> rfl
theorem spec_l6Rows_l0 (l m : List S62) (hl : l.length ≤ 1000000000) (he : l.length = m.length) : ∀ (s t : List S62) (k i : Nat), l.drop i = s → m.drop i = t → s.length < k → spec_l6Rows.l0 k l m (i : Int) = some (rowsB s t) := by
  intro s
  induction s with
  | nil =>
    intro t k i hd hm hk
    obtain ⟨k, rfl, -⟩ := succ_of hk
    have := drop_nil' hd
    have ht : t = [] := by rw [← hm]; exact List.drop_eq_nil_of_le (by omega)
    subst ht
    simp only [spec_l6Rows.l0]
    rw [if_neg (by omega)]
    rfl
  | cons x s ih =>
    intro t k i hd hm hk
    obtain ⟨k, rfl, hk'⟩ := succ_of hk
    obtain ⟨hi, hd', hx, -⟩ := drop_cons' hd
    cases t with
    | nil => have := drop_nil' hm; omega
    | cons y t =>
      obtain ⟨_, hm', hy, -⟩ := drop_cons' hm
      simp only [List.length_cons] at hk'
      simp only [spec_l6Rows.l0]
      rw [if_pos (by omega), if_pos (by omega), if_pos (by omega), rdR, hx, rdR, hy, rowB_neq, w64s hi (by omega), ih t k _ hd' hm' (by omega)]
      cases h : rowB x y <;> simp [rowsB, h]
theorem spec_l6Rows_eq (l m : List S62) (k : Nat) (hl : l.length ≤ 1000000000) (hk : 2000000000 ≤ k) : spec_l6Rows.f k l m = some (rowsB l m) := by
  unfold spec_l6Rows.f
  by_cases h : l.length = m.length
  · rw [if_pos (by omega)]
    exact spec_l6Rows_l0 l m hl h l m k 0 rfl rfl (by omega)
  · rw [if_neg (by omega), rowsB_ne l m h]
theorem impl_equal_l0 (l m : List S62) (hl : l.length ≤ 1000000000) (he : l.length = m.length) : ∀ (s t : List S62) (k i : Nat), l.drop i = s → m.drop i = t → s.length < k → impl_equal.l0 k l m (l.length : Int) (i : Int) = some (rowsB s t) := by
  intro s
  induction s with
  | nil =>
    intro t k i hd hm hk
    obtain ⟨k, rfl, -⟩ := succ_of hk
    have := drop_nil' hd
    have ht : t = [] := by rw [← hm]; exact List.drop_eq_nil_of_le (by omega)
    subst ht
    simp only [impl_equal.l0]
    rw [if_neg (by omega)]
    rfl
  | cons x s ih =>
    intro t k i hd hm hk
    obtain ⟨k, rfl, hk'⟩ := succ_of hk
    obtain ⟨hi, hd', hx, -⟩ := drop_cons' hd
    cases t with
    | nil => have := drop_nil' hm; omega
    | cons y t =>
      obtain ⟨_, hm', hy, -⟩ := drop_cons' hm
      simp only [List.length_cons] at hk'
      simp only [impl_equal.l0]
      rw [if_pos (by omega), if_pos (by omega), if_pos (by omega), if_pos (by omega), rdR, hx, rdR, hy, rowB_neq, w64s hi (by omega), ih t k _ hd' hm' (by omega)]
      cases h : rowB x y <;> simp [rowsB, h]
theorem impl_equal_eq (l m : List S62) (k : Nat) (hl : l.length ≤ 1000000000) (hk : 2000000000 ≤ k) : impl_equal.f k l m = some (rowsB l m) := by
  unfold impl_equal.f
  by_cases h : l.length = m.length
  · rw [if_pos (by omega)]
    exact impl_equal_l0 l m hl h l m k 0 rfl rfl (by omega)
  · rw [if_neg (by omega), rowsB_ne l m h]
def boolsB : List Bool → List Bool → Bool
  | [], [] => true
  | x :: a, y :: b => (x == y) && boolsB a b
  | _, _ => false
theorem boolsB_ne : ∀ (a b : List Bool), a.length ≠ b.length → boolsB a b = false
  | [], [], h => absurd rfl h
  | [], _ :: _, _ => rfl
  | _ :: _, [], _ => rfl
  | x :: a, y :: b, h => by simp only [boolsB]; rw [boolsB_ne a b (by simpa using h)]; simp
theorem slices_Equal_l0 (l m : List Bool) (hl : l.length ≤ 1000000000) (he : l.length = m.length) : ∀ (s t : List Bool) (k i : Nat), l.drop i = s → m.drop i = t → s.length < k → slices_Equal_bool_bool.l0 k l m (l.length : Int) (i : Int) = some (boolsB s t) := by
  intro s
  induction s with
  | nil =>
    intro t k i hd hm hk
    obtain ⟨k, rfl, -⟩ := succ_of hk
    have := drop_nil' hd
    have ht : t = [] := by rw [← hm]; exact List.drop_eq_nil_of_le (by omega)
    subst ht
    simp only [slices_Equal_bool_bool.l0]
    rw [if_neg (by omega)]
    rfl
  | cons x s ih =>
    intro t k i hd hm hk
    obtain ⟨k, rfl, hk'⟩ := succ_of hk
    obtain ⟨hi, hd', hx, -⟩ := drop_cons' hd
    cases t with
    | nil => have := drop_nil' hm; omega
    | cons y t =>
      obtain ⟨_, hm', hy, -⟩ := drop_cons' hm
      simp only [List.length_cons] at hk'
      have e1 : rdOf false l (i : Int) = x := hx false
      have e2 : rdOf false m (i : Int) = y := hy false
      simp only [slices_Equal_bool_bool.l0]
      rw [if_pos (by omega), if_pos (by omega), if_pos (by omega), if_pos (by omega), e1, e2, w64s hi (by omega), ih t k _ hd' hm' (by omega)]
      cases x <;> cases y <;> simp [boolsB]
theorem slices_Equal_eq (l m : List Bool) (k : Nat) (hl : l.length ≤ 1000000000) (hk : 2000000000 ≤ k) : slices_Equal_bool_bool.f k l m = some (boolsB l m) := by
  unfold slices_Equal_bool_bool.f
  by_cases h : l.length = m.length
  · rw [if_pos (by omega)]
    exact slices_Equal_l0 l m hl h l m k 0 rfl rfl (by omega)
  · rw [if_neg (by omega), boolsB_ne l m h]
def taskB (a : Int) (l1 l2 : List S62) (l3 : List Bool) (b : Int) (c : Int) (m1 m2 : List S62) (m3 : List Bool) (d : Int) : Bool := (a == c) && (rowsB l1 m1 && (rowsB l2 m2 && (boolsB l3 m3 && (b == d))))
theorem spec_EqualTasks_l0 (a : Int) (l1 l2 : List S62) (l : List Bool) (b : Int) (c : Int) (m1 m2 : List S62) (m : List Bool) (d : Int) (hl : l.length ≤ 1000000000) (he : l.length = m.length) : ∀ (s t : List Bool) (k i : Nat), l.drop i = s → m.drop i = t → s.length < k → spec_EqualTasks.l0 k (i : Int) a l1 l2 l b c m1 m2 m d = some (boolsB s t) := by
  intro s
  induction s with
  | nil =>
    intro t k i hd hm hk
    obtain ⟨k, rfl, -⟩ := succ_of hk
    have := drop_nil' hd
    have ht : t = [] := by rw [← hm]; exact List.drop_eq_nil_of_le (by omega)
    subst ht
    simp only [spec_EqualTasks.l0]
    rw [if_neg (by omega)]
    rfl
  | cons x s ih =>
    intro t k i hd hm hk
    obtain ⟨k, rfl, hk'⟩ := succ_of hk
    obtain ⟨hi, hd', hx, -⟩ := drop_cons' hd
    cases t with
    | nil => have := drop_nil' hm; omega
    | cons y t =>
      obtain ⟨_, hm', hy, -⟩ := drop_cons' hm
      simp only [List.length_cons] at hk'
      have e1 : rdOf false l (i : Int) = x := hx false
      have e2 : rdOf false m (i : Int) = y := hy false
      simp only [spec_EqualTasks.l0]
      rw [if_pos (by omega), if_pos (by omega), if_pos (by omega), e1, e2, w64s hi (by omega), ih t k _ hd' hm' (by omega)]
      cases x <;> cases y <;> simp [boolsB]
theorem spec_EqualTasks_eq (a : Int) (l1 l2 : List S62) (l3 : List Bool) (b : Int) (c : Int) (m1 m2 : List S62) (m3 : List Bool) (d : Int) (k : Nat) (h1 : l1.length ≤ 1000000000) (h2 : l2.length ≤ 1000000000) (h3 : l3.length ≤ 1000000000) (hk : 3000000000 ≤ k) :
    spec_EqualTasks.f k a l1 l2 l3 b c m1 m2 m3 d = some (taskB a l1 l2 l3 b c m1 m2 m3 d) := by
  obtain ⟨k, rfl, hk'⟩ := succ_of (n := 2999999999) (k := k) (by omega)
  have hl0 : l3.length = m3.length → spec_EqualTasks.l0 k 0 a l1 l2 l3 b c m1 m2 m3 d = some (boolsB l3 m3) := fun he => spec_EqualTasks_l0 a l1 l2 l3 b c m1 m2 m3 d h3 he l3 m3 k 0 rfl rfl (by omega)
  unfold spec_EqualTasks.f taskB
  rw [ob (spec_l6Rows_eq l1 m1 (k + 1) h1 (by omega)), ob (spec_l6Rows_eq l2 m2 (k + 1) h2 (by omega))]
  simp only [spec_EqualTasks.j0]
  by_cases c1 : a = c
  · subst c1
    cases h4 : rowsB l1 m1
    · simp
    · cases h5 : rowsB l2 m2
      · simp
      · by_cases c2 : b = d
        · subst c2
          by_cases c3 : l3.length = m3.length
          · simp [c3, hl0 c3]
          · have c3' : ¬ ((l3.length : Int) = m3.length) := by omega
            simp [c3', boolsB_ne l3 m3 c3]
        · have : (b == d) = false := by simp [c2]
          simp [c2]
  · simp [c1]
theorem impl_EqualTasks_eq (a : Int) (l1 l2 : List S62) (l3 : List Bool) (b : Int) (c : Int) (m1 m2 : List S62) (m3 : List Bool) (d : Int) (k : Nat) (h1 : l1.length ≤ 1000000000) (h2 : l2.length ≤ 1000000000) (h3 : l3.length ≤ 1000000000) (hk : 3000000000 ≤ k) :
    impl_EqualTasks.f k a l1 l2 l3 b c m1 m2 m3 d = some (taskB a l1 l2 l3 b c m1 m2 m3 d) := by
  unfold impl_EqualTasks.f taskB
  rw [ob (impl_equal_eq l1 m1 k h1 (by omega)), ob (impl_equal_eq l2 m2 k h2 (by omega)), ob (slices_Equal_eq l3 m3 k h3 (by omega))]
  by_cases c1 : a = c
  · subst c1
    cases h4 : rowsB l1 m1 <;> cases h5 : rowsB l2 m2 <;> cases h6 : boolsB l3 m3 <;> simp
  · simp [c1]

end Go.Proofs.Ythciieopabndcaa.P
