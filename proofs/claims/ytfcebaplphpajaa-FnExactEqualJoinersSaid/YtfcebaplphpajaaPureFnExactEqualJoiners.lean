/- EqualJoiners of the program returns what the reference's returns, for all arguments (the pure statement). No condition. -/
import Derived.Test.YtfcebaplphpajaaP1c0
import Derived.Test.YtfcebaplphpajaaP6bc0
import Derived.Test.YtfcebaplphpajaaP6fc0
import Derived.Test.YtfcebaplphpajaaP7fc0
import Derived.Test.YtfcebaplphpajaaSayFnExactEqualJoiners
namespace Go.Proofs.Ytfcebaplphpajaa.Pure
open Go.RowKit Go.Proofs.YtfcebaplphpajaaW.PrintWords Go.Proofs.YtfcebaplphpajaaW.PrintLast Go.Proofs.Ytfcebaplphpajaa.P
set_option linter.unusedVariables false
set_option linter.unusedSimpArgs false

theorem succ_of {k n : Nat} (h : n < k) : ∃ m, k = m + 1 ∧ n ≤ m := ⟨k - 1, by omega, by omega⟩
theorem drop_nil' {α : Type} {l : List α} {i : Nat} (h : l.drop i = []) : l.length ≤ i := List.drop_eq_nil_iff.1 h
theorem drop_cons' {α : Type} {l : List α} {i : Nat} {x : α} {t : List α} (h : l.drop i = x :: t) : i < l.length ∧ l.drop (i + 1) = t ∧ (∀ d, l.getD i d = x) ∧ l.length = i + 1 + t.length := by
  have hl := congrArg List.length h
  rw [List.length_drop, List.length_cons] at hl
  refine ⟨by omega, ?_, fun d => ?_, by omega⟩
  · rw [← List.drop_drop, h]; rfl
  · have : l[i]? = some x := by rw [← List.head?_drop, h]; rfl
    rw [List.getD_eq_getElem?_getD, this]; rfl
theorem w64 {x : Int} (h0 : -9223372036854775808 ≤ x) (h1 : x ≤ 9223372036854775807) : wrap64 x = x := by unfold wrap64; omega
theorem w64s {i n : Nat} (h : i < n) (hn : n ≤ 9223372036854775807) : wrap64 ((i : Int) + 1) = ((i + 1 : Nat) : Int) := by rw [w64 (by omega) (by omega)]; rfl
theorem big_k (P : Nat → Prop) (h : ∀ k, 1099511627776 ≤ k → P k) : ∃ k, P k := ⟨1099511627776, h _ (Nat.le_refl _)⟩
/-- A step of a chain, by an equation (never by unfolding: the kernel would compute). -/
theorem ob {α β : Type} {o : Option α} {a : α} {f : α → Option β} (h : o = some a) : o.bind f = f a := by subst h; rfl
theorem rdR (l : List S77) (i : Nat) : rd_T77 l (i : Int) = l.getD i z77 := rfl
theorem rdLR (l : List S79) (i : Nat) : rd_T79 l (i : Int) = l.getD i z79 := rfl
def cvRow (x : S79) : S77 := ⟨x.f0, x.f1, x.f2⟩
theorem szRowS_neg (l : List S79) (n : Int) (h0 : 0 ≤ n) (h1 : n ≤ 1048576) (hl : l.length ≤ maxLen) (h : n - l.length < 0) : laws_szRowS.f l n = some (-1) := by
  have hl' : l.length ≤ 9223372036854775807 := hl
  unfold laws_szRowS.f
  rw [w64 (by omega) (by omega), if_pos h]
theorem szRowS_pos (l : List S79) (n : Int) (h0 : 0 ≤ n) (h1 : n ≤ 1048576) (h : ¬ n - l.length < 0) : laws_szRowS.f l n = some (n - l.length) := by
  unfold laws_szRowS.f
  rw [w64 (by omega) (by omega), if_neg h]
theorem toRowS_l0 (l : List S79) (hl : l.length ≤ 1048576) : ∀ (s : List S79) (k i : Nat) (acc : List S77), l.drop i = s → acc.length = l.length → s.length < k → laws_toRowS.l0 k l acc (i : Int) = some (acc.take i ++ s.map cvRow) := by
  intro s
  induction s with
  | nil =>
    intro k i acc hd ha hk
    obtain ⟨k, rfl, -⟩ := succ_of hk
    have := drop_nil' hd
    simp only [laws_toRowS.l0]
    rw [if_neg (by omega), List.take_of_length_le (by omega)]
    simp
  | cons x t ih =>
    intro k i acc hd ha hk
    obtain ⟨k, rfl, hk'⟩ := succ_of hk
    obtain ⟨hi, hd', hx, -⟩ := drop_cons' hd
    simp only [List.length_cons] at hk'
    simp only [laws_toRowS.l0, laws_toRow.f, Option.bind_some]
    rw [if_pos (by omega), if_pos (by omega), if_pos (by omega), w64s hi (by omega), rdLR, hx, ih _ _ _ hd' (by simp [ha]) (by omega)]
    congr 1
    simp only [Int.toNat_natCast, List.map_cons]
    rw [List.take_succ_eq_append_getElem (by simp; omega), List.take_set_of_le (Nat.le_refl _)]
    simp [cvRow]
theorem toRowS_eq (l : List S79) (hl : l.length ≤ 1048576) (k : Nat) (hk : 2000000 ≤ k) : laws_toRowS.f k l = some (l.map cvRow) := by
  unfold laws_toRowS.f
  rw [if_pos (by omega), if_pos (by simp; omega)]
  have := toRowS_l0 l hl l k 0 (List.replicate l.length z77) rfl (by simp) (by omega)
  simpa using this
theorem eqRowS_l0 (l : List S77) (hl : l.length ≤ 9223372036854775807) : ∀ (s : List S77) (k i : Nat), l.drop i = s → s.length < k → laws_eqRowS.l0 k l l (i : Int) = some true := by
  intro s
  induction s with
  | nil =>
    intro k i hd hk
    obtain ⟨k, rfl, -⟩ := succ_of hk
    have := drop_nil' hd
    simp only [laws_eqRowS.l0]
    rw [if_neg (by omega)]
  | cons x t ih =>
    intro k i hd hk
    obtain ⟨k, rfl, hk'⟩ := succ_of hk
    obtain ⟨hi, hd', hx, -⟩ := drop_cons' hd
    simp only [List.length_cons] at hk'
    simp only [laws_eqRowS.l0, laws_eqRow.f, if_true, Option.bind_some]
    rw [if_pos (by omega), if_pos (by omega), if_pos (by omega), w64s hi (by omega), ih _ _ hd' (by omega)]
theorem eqRowS_refl (l : List S77) (hl : l.length ≤ 1048576) (k : Nat) (hk : 2000000 ≤ k) : laws_eqRowS.f k l l = some true := by
  unfold laws_eqRowS.f
  rw [if_pos rfl]
  exact eqRowS_l0 l (by omega) l k 0 rfl (by omega)
theorem toBoolS_l0 (l : List Bool) (hl : l.length ≤ 1048576) : ∀ (s : List Bool) (k i : Nat) (acc : List Bool), l.drop i = s → acc.length = l.length → s.length < k → laws_toBoolS.l0 k l acc (i : Int) = some (acc.take i ++ s) := by
  intro s
  induction s with
  | nil =>
    intro k i acc hd ha hk
    obtain ⟨k, rfl, -⟩ := succ_of hk
    have := drop_nil' hd
    simp only [laws_toBoolS.l0]
    rw [if_neg (by omega), List.take_of_length_le (by omega)]
    simp
  | cons x t ih =>
    intro k i acc hd ha hk
    obtain ⟨k, rfl, hk'⟩ := succ_of hk
    obtain ⟨hi, hd', hx, -⟩ := drop_cons' hd
    simp only [List.length_cons] at hk'
    have hr : rdOf false l (i : Int) = x := hx false
    simp only [laws_toBoolS.l0]
    rw [if_pos (by omega), if_pos (by omega), if_pos (by omega), w64s hi (by omega), hr, ih _ _ _ hd' (by simp [ha]) (by omega)]
    congr 1
    simp only [Int.toNat_natCast]
    rw [List.take_succ_eq_append_getElem (by simp; omega), List.take_set_of_le (Nat.le_refl _)]
    simp
theorem toBoolS_eq (l : List Bool) (k : Nat) (hl : l.length ≤ 1048576) (hk : 2000000000 ≤ k) : laws_toBoolS.f k l = some l := by
  unfold laws_toBoolS.f
  rw [if_pos (by omega), if_pos (by simp; omega)]
  have := toBoolS_l0 l hl l k 0 (List.replicate l.length false) rfl (by simp) (by omega)
  simpa using this
theorem szBoolS_neg (l : List Bool) (n : Int) (h0 : 0 ≤ n) (h1 : n ≤ 1048576) (hl : l.length ≤ maxLen) (h : n - l.length < 0) : laws_szBoolS.f l n = some (-1) := by
  have hl' : l.length ≤ 9223372036854775807 := hl
  unfold laws_szBoolS.f
  rw [w64 (by omega) (by omega), if_pos h]
theorem szBoolS_pos (l : List Bool) (n : Int) (h0 : 0 ≤ n) (h1 : n ≤ 1048576) (h : ¬ n - l.length < 0) : laws_szBoolS.f l n = some (n - l.length) := by
  unfold laws_szBoolS.f
  rw [w64 (by omega) (by omega), if_neg h]
theorem toRowS_eq' (l : List S79) (k : Nat) (hl : l.length ≤ 1048576) (hk : 2000000000 ≤ k) : laws_toRowS.f k l = some (l.map cvRow) := toRowS_eq l hl k (by omega)
theorem eqRowS_refl' (l : List S77) (k : Nat) (hl : l.length ≤ 1048576) (hk : 2000000000 ≤ k) : laws_eqRowS.f k l l = some true := eqRowS_refl l hl k (by omega)
/-- The law's count of a task: too much, or what is left. -/
theorem szTask_eq (a : Int) (l1 l2 : List S79) (l3 : List Bool) (b n : Int) (h0 : 0 ≤ n) (h1 : n ≤ 1048576) (g1 : l1.length ≤ maxLen) (g2 : l2.length ≤ maxLen) (g3 : l3.length ≤ maxLen) :
    laws_szTask.f a l1 l2 l3 b n = some (-1) ∨ (laws_szTask.f a l1 l2 l3 b n = some (n - l1.length - l2.length - l3.length) ∧ (l1.length : Int) + l2.length + l3.length ≤ n) := by
  unfold laws_szTask.f
  by_cases c1 : n - l1.length < 0
  · left; rw [ob (szRowS_neg l1 n h0 h1 g1 c1), if_pos (by omega)]
  rw [ob (szRowS_pos l1 n h0 h1 c1), if_neg c1]
  by_cases c2 : n - l1.length - l2.length < 0
  · left; rw [ob (szRowS_neg l2 _ (by omega) (by omega) g2 c2), if_pos (by omega)]
  rw [ob (szRowS_pos l2 _ (by omega) (by omega) c2), if_neg c2]
  by_cases c3 : n - l1.length - l2.length - l3.length < 0
  · left; rw [ob (szBoolS_neg l3 _ (by omega) (by omega) g3 c3), if_pos (by omega)]
  right
  rw [ob (szBoolS_pos l3 _ (by omega) (by omega) c3), if_neg c3]
  exact ⟨rfl, by omega⟩
theorem toTask_eq (a : Int) (l1 l2 : List S79) (l3 : List Bool) (b : Int) (k : Nat) (h1 : l1.length ≤ 1048576) (h2 : l2.length ≤ 1048576) (h3 : l3.length ≤ 1048576) (hk : 2000000000 ≤ k) :
    laws_toTask.f k a l1 l2 l3 b = some (a, l1.map cvRow, l2.map cvRow, l3, b) := by
  unfold laws_toTask.f
  rw [ob (toRowS_eq' l1 k h1 hk), ob (toRowS_eq' l2 k h2 hk), ob (toBoolS_eq l3 k h3 hk)]
theorem eqBoolS_l0 (l : List Bool) (hl : l.length ≤ 9223372036854775807) : ∀ (s : List Bool) (k i : Nat), l.drop i = s → s.length < k → laws_eqBoolS.l0 k l l (i : Int) = some true := by
  intro s
  induction s with
  | nil =>
    intro k i hd hk
    obtain ⟨k, rfl, -⟩ := succ_of hk
    have := drop_nil' hd
    simp only [laws_eqBoolS.l0]
    rw [if_neg (by omega)]
  | cons x t ih =>
    intro k i hd hk
    obtain ⟨k, rfl, hk'⟩ := succ_of hk
    obtain ⟨hi, hd', hx, -⟩ := drop_cons' hd
    simp only [List.length_cons] at hk'
    simp only [laws_eqBoolS.l0]
    rw [if_pos (by omega), if_pos (by omega), if_pos (by omega), if_neg (by simp), w64s hi (by omega), ih _ _ hd' (by omega)]
theorem eqBoolS_refl (l : List Bool) (k : Nat) (hl : l.length ≤ 1048576) (hk : 2000000000 ≤ k) : laws_eqBoolS.f k l l = some true := by
  unfold laws_eqBoolS.f
  rw [if_pos rfl]
  exact eqBoolS_l0 l (by omega) l k 0 rfl (by omega)
theorem eqTask_refl (a : Int) (l1 l2 : List S77) (l3 : List Bool) (b : Int) (k : Nat) (h1 : l1.length ≤ 1048576) (h2 : l2.length ≤ 1048576) (h3 : l3.length ≤ 1048576) (hk : 2000000000 ≤ k) :
    laws_eqTask.f k a l1 l2 l3 b a l1 l2 l3 b = some true := by
  unfold laws_eqTask.f
  rw [if_pos rfl, ob (eqRowS_refl' l1 k h1 hk), if_pos rfl, ob (eqRowS_refl' l2 k h2 hk), if_pos rfl, ob (eqBoolS_refl l3 k h3 hk), if_pos rfl, if_pos rfl]
def rowB (x y : S77) : Bool := (x.f0 == y.f0) && ((x.f1 == y.f1) && (x.f2 == y.f2))
def rowsB : List S77 → List S77 → Bool
  | [], [] => true
  | x :: a, y :: b => rowB x y && rowsB a b
  | _, _ => false
theorem rowsB_ne : ∀ (a b : List S77), a.length ≠ b.length → rowsB a b = false
  | [], [], h => absurd rfl h
  | [], _ :: _, _ => rfl
  | _ :: _, [], _ => rfl
  | x :: a, y :: b, h => by simp only [rowsB]; rw [rowsB_ne a b (by simpa using h)]; simp
theorem rowB_neq (x y : S77) : (!(x.f0 == y.f0) || (!(x.f1 == y.f1) || (!(x.f2 == y.f2)))) = !(rowB x y) := by unfold rowB; cases (x.f0 == y.f0) <;> cases (x.f1 == y.f1) <;> cases (x.f2 == y.f2) <;> rfl
theorem spec_l6Rows_l0 (l m : List S77) (hl : l.length ≤ 1000000000) (he : l.length = m.length) : ∀ (s t : List S77) (k i : Nat), l.drop i = s → m.drop i = t → s.length < k → spec_l6Rows.l0 k l m (i : Int) = some (rowsB s t) := by
  intro s
  induction s with
  | nil =>
    intro t k i hd hm hk
    obtain ⟨k, rfl, -⟩ := succ_of hk
    have := drop_nil' hd
    have ht : t = [] := by rw [← hm]; exact List.drop_eq_nil_of_le (by omega)
    subst ht
    simp only [spec_l6Rows.l0]
    rw [if_neg (by omega)]
    rfl
  | cons x s ih =>
    intro t k i hd hm hk
    obtain ⟨k, rfl, hk'⟩ := succ_of hk
    obtain ⟨hi, hd', hx, -⟩ := drop_cons' hd
    cases t with
    | nil => have := drop_nil' hm; omega
    | cons y t =>
      obtain ⟨_, hm', hy, -⟩ := drop_cons' hm
      simp only [List.length_cons] at hk'
      simp only [spec_l6Rows.l0]
      rw [if_pos (by omega), if_pos (by omega), if_pos (by omega), rdR, hx, rdR, hy, rowB_neq, w64s hi (by omega), ih t k _ hd' hm' (by omega)]
      cases h : rowB x y <;> simp [rowsB, h]
theorem spec_l6Rows_eq (l m : List S77) (k : Nat) (hl : l.length ≤ 1000000000) (hk : 2000000000 ≤ k) : spec_l6Rows.f k l m = some (rowsB l m) := by
  unfold spec_l6Rows.f
  by_cases h : l.length = m.length
  · rw [if_pos (by omega)]
    exact spec_l6Rows_l0 l m hl h l m k 0 rfl rfl (by omega)
  · rw [if_neg (by omega), rowsB_ne l m h]
theorem impl_equal_l0 (l m : List S77) (hl : l.length ≤ 1000000000) (he : l.length = m.length) : ∀ (s t : List S77) (k i : Nat), l.drop i = s → m.drop i = t → s.length < k → impl_equal.l0 k l m (l.length : Int) (i : Int) = some (rowsB s t) := by
  intro s
  induction s with
  | nil =>
    intro t k i hd hm hk
    obtain ⟨k, rfl, -⟩ := succ_of hk
    have := drop_nil' hd
    have ht : t = [] := by rw [← hm]; exact List.drop_eq_nil_of_le (by omega)
    subst ht
    simp only [impl_equal.l0]
    rw [if_neg (by omega)]
    rfl
  | cons x s ih =>
    intro t k i hd hm hk
    obtain ⟨k, rfl, hk'⟩ := succ_of hk
    obtain ⟨hi, hd', hx, -⟩ := drop_cons' hd
    cases t with
    | nil => have := drop_nil' hm; omega
    | cons y t =>
      obtain ⟨_, hm', hy, -⟩ := drop_cons' hm
      simp only [List.length_cons] at hk'
      simp only [impl_equal.l0]
      rw [if_pos (by omega), if_pos (by omega), if_pos (by omega), if_pos (by omega), rdR, hx, rdR, hy, rowB_neq, w64s hi (by omega), ih t k _ hd' hm' (by omega)]
      cases h : rowB x y <;> simp [rowsB, h]
theorem impl_equal_eq (l m : List S77) (k : Nat) (hl : l.length ≤ 1000000000) (hk : 2000000000 ≤ k) : impl_equal.f k l m = some (rowsB l m) := by
  unfold impl_equal.f
  by_cases h : l.length = m.length
  · rw [if_pos (by omega)]
    exact impl_equal_l0 l m hl h l m k 0 rfl rfl (by omega)
  · rw [if_neg (by omega), rowsB_ne l m h]
def boolsB : List Bool → List Bool → Bool
  | [], [] => true
  | x :: a, y :: b => (x == y) && boolsB a b
  | _, _ => false
theorem boolsB_ne : ∀ (a b : List Bool), a.length ≠ b.length → boolsB a b = false
  | [], [], h => absurd rfl h
  | [], _ :: _, _ => rfl
  | _ :: _, [], _ => rfl
  | x :: a, y :: b, h => by simp only [boolsB]; rw [boolsB_ne a b (by simpa using h)]; simp
theorem slices_Equal_l0 (l m : List Bool) (hl : l.length ≤ 1000000000) (he : l.length = m.length) : ∀ (s t : List Bool) (k i : Nat), l.drop i = s → m.drop i = t → s.length < k → slices_Equal_bool_bool.l0 k l m (l.length : Int) (i : Int) = some (boolsB s t) := by
  intro s
  induction s with
  | nil =>
    intro t k i hd hm hk
    obtain ⟨k, rfl, -⟩ := succ_of hk
    have := drop_nil' hd
    have ht : t = [] := by rw [← hm]; exact List.drop_eq_nil_of_le (by omega)
    subst ht
    simp only [slices_Equal_bool_bool.l0]
    rw [if_neg (by omega)]
    rfl
  | cons x s ih =>
    intro t k i hd hm hk
    obtain ⟨k, rfl, hk'⟩ := succ_of hk
    obtain ⟨hi, hd', hx, -⟩ := drop_cons' hd
    cases t with
    | nil => have := drop_nil' hm; omega
    | cons y t =>
      obtain ⟨_, hm', hy, -⟩ := drop_cons' hm
      simp only [List.length_cons] at hk'
      have e1 : rdOf false l (i : Int) = x := hx false
      have e2 : rdOf false m (i : Int) = y := hy false
      simp only [slices_Equal_bool_bool.l0]
      rw [if_pos (by omega), if_pos (by omega), if_pos (by omega), if_pos (by omega), e1, e2, w64s hi (by omega), ih t k _ hd' hm' (by omega)]
      cases x <;> cases y <;> simp [boolsB]
theorem slices_Equal_eq (l m : List Bool) (k : Nat) (hl : l.length ≤ 1000000000) (hk : 2000000000 ≤ k) : slices_Equal_bool_bool.f k l m = some (boolsB l m) := by
  unfold slices_Equal_bool_bool.f
  by_cases h : l.length = m.length
  · rw [if_pos (by omega)]
    exact slices_Equal_l0 l m hl h l m k 0 rfl rfl (by omega)
  · rw [if_neg (by omega), boolsB_ne l m h]
def taskB (a : Int) (l1 l2 : List S77) (l3 : List Bool) (b : Int) (c : Int) (m1 m2 : List S77) (m3 : List Bool) (d : Int) : Bool := (a == c) && (rowsB l1 m1 && (rowsB l2 m2 && (boolsB l3 m3 && (b == d))))
theorem spec_EqualTasks_l0 (a : Int) (l1 l2 : List S77) (l : List Bool) (b : Int) (c : Int) (m1 m2 : List S77) (m : List Bool) (d : Int) (hl : l.length ≤ 1000000000) (he : l.length = m.length) : ∀ (s t : List Bool) (k i : Nat), l.drop i = s → m.drop i = t → s.length < k → spec_EqualTasks.l0 k (i : Int) a l1 l2 l b c m1 m2 m d = some (boolsB s t) := by
  intro s
  induction s with
  | nil =>
    intro t k i hd hm hk
    obtain ⟨k, rfl, -⟩ := succ_of hk
    have := drop_nil' hd
    have ht : t = [] := by rw [← hm]; exact List.drop_eq_nil_of_le (by omega)
    subst ht
    simp only [spec_EqualTasks.l0]
    rw [if_neg (by omega)]
    rfl
  | cons x s ih =>
    intro t k i hd hm hk
    obtain ⟨k, rfl, hk'⟩ := succ_of hk
    obtain ⟨hi, hd', hx, -⟩ := drop_cons' hd
    cases t with
    | nil => have := drop_nil' hm; omega
    | cons y t =>
      obtain ⟨_, hm', hy, -⟩ := drop_cons' hm
      simp only [List.length_cons] at hk'
      have e1 : rdOf false l (i : Int) = x := hx false
      have e2 : rdOf false m (i : Int) = y := hy false
      simp only [spec_EqualTasks.l0]
      rw [if_pos (by omega), if_pos (by omega), if_pos (by omega), e1, e2, w64s hi (by omega), ih t k _ hd' hm' (by omega)]
      cases x <;> cases y <;> simp [boolsB]
theorem spec_EqualTasks_eq (a : Int) (l1 l2 : List S77) (l3 : List Bool) (b : Int) (c : Int) (m1 m2 : List S77) (m3 : List Bool) (d : Int) (k : Nat) (h1 : l1.length ≤ 1000000000) (h2 : l2.length ≤ 1000000000) (h3 : l3.length ≤ 1000000000) (hk : 3000000000 ≤ k) :
    spec_EqualTasks.f k a l1 l2 l3 b c m1 m2 m3 d = some (taskB a l1 l2 l3 b c m1 m2 m3 d) := by
  obtain ⟨k, rfl, hk'⟩ := succ_of (n := 2999999999) (k := k) (by omega)
  have hl0 : l3.length = m3.length → spec_EqualTasks.l0 k 0 a l1 l2 l3 b c m1 m2 m3 d = some (boolsB l3 m3) := fun he => spec_EqualTasks_l0 a l1 l2 l3 b c m1 m2 m3 d h3 he l3 m3 k 0 rfl rfl (by omega)
  unfold spec_EqualTasks.f taskB
  rw [ob (spec_l6Rows_eq l1 m1 (k + 1) h1 (by omega)), ob (spec_l6Rows_eq l2 m2 (k + 1) h2 (by omega))]
  simp only [spec_EqualTasks.j0]
  by_cases c1 : a = c
  · subst c1
    cases h4 : rowsB l1 m1
    · simp
    · cases h5 : rowsB l2 m2
      · simp
      · by_cases c2 : b = d
        · subst c2
          by_cases c3 : l3.length = m3.length
          · simp [c3, hl0 c3]
          · have c3' : ¬ ((l3.length : Int) = m3.length) := by omega
            simp [c3', boolsB_ne l3 m3 c3]
        · have : (b == d) = false := by simp [c2]
          simp [c2]
  · simp [c1]
theorem impl_EqualTasks_eq (a : Int) (l1 l2 : List S77) (l3 : List Bool) (b : Int) (c : Int) (m1 m2 : List S77) (m3 : List Bool) (d : Int) (k : Nat) (h1 : l1.length ≤ 1000000000) (h2 : l2.length ≤ 1000000000) (h3 : l3.length ≤ 1000000000) (hk : 3000000000 ≤ k) :
    impl_EqualTasks.f k a l1 l2 l3 b c m1 m2 m3 d = some (taskB a l1 l2 l3 b c m1 m2 m3 d) := by
  unfold impl_EqualTasks.f taskB
  rw [ob (impl_equal_eq l1 m1 k h1 (by omega)), ob (impl_equal_eq l2 m2 k h2 (by omega)), ob (slices_Equal_eq l3 m3 k h3 (by omega))]
  by_cases c1 : a = c
  · subst c1
    cases h4 : rowsB l1 m1 <;> cases h5 : rowsB l2 m2 <;> cases h6 : boolsB l3 m3 <;> simp
  · simp [c1]

def cvTask (x : S102) : S68 := ⟨x.f0, x.f1.map cvRow, x.f2.map cvRow, x.f3, x.f4⟩
def szT (x : S102) : Nat := x.f1.length + x.f2.length + x.f3.length
def szTs : List S102 → Nat
  | [] => 0
  | x :: t => szT x + szTs t
def fineT (x : S102) : Prop := x.f1.length ≤ maxLen ∧ x.f2.length ≤ maxLen ∧ x.f3.length ≤ maxLen
def smallT (n : Nat) (x : S68) : Prop := x.f1.length ≤ n ∧ x.f2.length ≤ n ∧ x.f3.length ≤ n
def smallL (n : Nat) (x : S102) : Prop := x.f1.length ≤ n ∧ x.f2.length ≤ n ∧ x.f3.length ≤ n
theorem rdT (l : List S68) (i : Nat) : rd_T68 l (i : Int) = l.getD i z68 := rfl
theorem rdLT (l : List S102) (i : Nat) : rd_T102 l (i : Int) = l.getD i z102 := rfl
theorem szTs_small : ∀ (l : List S102) (n : Nat), szTs l ≤ n → ∀ x ∈ l, smallL n x
  | [], _, _, _, h => by cases h
  | y :: t, n, hn, x, h => by
    simp only [szTs, szT] at hn
    rcases List.mem_cons.1 h with rfl | h
    · exact ⟨by omega, by omega, by omega⟩
    · exact szTs_small t n (by omega) x h
theorem cv_small {n : Nat} {l : List S102} (h : ∀ x ∈ l, smallL n x) : ∀ x ∈ l.map cvTask, smallT n x := by
  intro x hx
  obtain ⟨y, hy, rfl⟩ := List.mem_map.1 hx
  obtain ⟨a, b, c⟩ := h y hy
  exact ⟨by simpa [cvTask] using a, by simpa [cvTask] using b, c⟩
theorem szTaskS_l0 (l : List S102) (hl : l.length ≤ 1048576) : ∀ (s : List S102) (k i : Nat) (n : Int), l.drop i = s → (∀ x ∈ s, fineT x) → s.length < k → 0 ≤ n → n ≤ 1048576 → laws_szTaskS.l0 k l n (i : Int) = some (-1) ∨ (laws_szTaskS.l0 k l n (i : Int) = some (n - szTs s) ∧ (szTs s : Int) ≤ n) := by
  intro s
  induction s with
  | nil =>
    intro k i n hd hf hk h0 h1
    obtain ⟨k, rfl, -⟩ := succ_of hk
    have := drop_nil' hd
    right
    simp only [laws_szTaskS.l0, szTs]
    rw [if_neg (by omega)]
    exact ⟨by simp, by omega⟩
  | cons x t ih =>
    intro k i n hd hf hk h0 h1
    obtain ⟨k, rfl, hk'⟩ := succ_of hk
    obtain ⟨hi, hd', hx, -⟩ := drop_cons' hd
    simp only [List.length_cons] at hk'
    obtain ⟨f1, f2, f3⟩ := hf x (List.mem_cons_self ..)
    simp only [laws_szTaskS.l0]
    rw [if_pos (by omega), if_pos (by omega), rdLT, hx, w64s hi (by omega)]
    rcases szTask_eq x.f0 x.f1 x.f2 x.f3 x.f4 n h0 h1 f1 f2 f3 with e | ⟨e, h⟩
    · left; rw [ob e, if_pos (by omega)]
    · rw [ob e, if_neg (by omega)]
      rcases ih k (i + 1) (n - x.f1.length - x.f2.length - x.f3.length) hd' (fun y hy => hf y (List.mem_cons_of_mem _ hy)) (by omega) (by omega) (by omega) with e' | ⟨e', h'⟩
      · exact .inl e'
      · right
        refine ⟨e'.trans (congrArg some ?_), ?_⟩ <;> simp only [szTs, szT] <;> omega
theorem szTaskS_eq (l : List S102) (n : Int) (k : Nat) (hg : l.length ≤ maxLen) (hf : ∀ x ∈ l, fineT x) (h0 : 0 ≤ n) (h1 : n ≤ 1048576) (hk : 2000000000 ≤ k) : laws_szTaskS.f k l n = some (-1) ∨ (laws_szTaskS.f k l n = some (n - l.length - szTs l) ∧ (l.length : Int) + szTs l ≤ n) := by
  have hg' : l.length ≤ 9223372036854775807 := hg
  unfold laws_szTaskS.f
  rw [w64 (by omega) (by omega)]
  by_cases c : n - l.length < 0
  · left; rw [if_pos c]
  · rw [if_neg c]
    rcases szTaskS_l0 l (by omega) l k 0 (n - l.length) rfl hf (by omega) (by omega) (by omega) with e | ⟨e, h⟩
    · exact .inl e
    · exact .inr ⟨e, by omega⟩
theorem szJoiner_eq (l : List S102) (a b n : Int) (k : Nat) (hg : l.length ≤ maxLen) (hf : ∀ x ∈ l, fineT x) (h0 : 0 ≤ n) (h1 : n ≤ 1048576) (hk : 2000000000 ≤ k) : laws_szJoiner.f k l a b n = some (-1) ∨ (laws_szJoiner.f k l a b n = some (n - l.length - szTs l) ∧ (l.length : Int) + szTs l ≤ n) := by
  unfold laws_szJoiner.f
  rcases szTaskS_eq l n k hg hf h0 h1 hk with e | ⟨e, h⟩
  · left; rw [ob e, if_pos (by omega)]
  · right; rw [ob e, if_neg (by omega)]; exact ⟨rfl, h⟩
theorem toTaskS_l0 (l : List S102) (hl : l.length ≤ 1048576) : ∀ (s : List S102) (k i : Nat) (acc : List S68), l.drop i = s → (∀ x ∈ s, smallL 1048576 x) → acc.length = l.length → 2000000000 + s.length < k → laws_toTaskS.l0 k l acc (i : Int) = some (acc.take i ++ s.map cvTask) := by
  intro s
  induction s with
  | nil =>
    intro k i acc hd hf ha hk
    obtain ⟨k, rfl, -⟩ := succ_of hk
    have := drop_nil' hd
    simp only [laws_toTaskS.l0]
    rw [if_neg (by omega), List.take_of_length_le (by omega)]
    simp
  | cons x t ih =>
    intro k i acc hd hf ha hk
    obtain ⟨k, rfl, hk'⟩ := succ_of hk
    obtain ⟨hi, hd', hx, -⟩ := drop_cons' hd
    simp only [List.length_cons] at hk'
    obtain ⟨f1, f2, f3⟩ := hf x (List.mem_cons_self ..)
    simp only [laws_toTaskS.l0]
    rw [if_pos (by omega), if_pos (by omega), rdLT, hx, ob (toTask_eq x.f0 x.f1 x.f2 x.f3 x.f4 k f1 f2 f3 (by omega)), if_pos (by omega), w64s hi (by omega), ih _ _ _ hd' (fun y hy => hf y (List.mem_cons_of_mem _ hy)) (by simp [ha]) (by omega)]
    congr 1
    simp only [Int.toNat_natCast, List.map_cons]
    rw [List.take_succ_eq_append_getElem (by simp; omega), List.take_set_of_le (Nat.le_refl _)]
    simp [cvTask]
theorem toTaskS_eq (l : List S102) (k : Nat) (hl : l.length ≤ 1048576) (hf : ∀ x ∈ l, smallL 1048576 x) (hk : 3000000000 ≤ k) : laws_toTaskS.f k l = some (l.map cvTask) := by
  unfold laws_toTaskS.f
  rw [if_pos (by omega), if_pos (by simp; omega)]
  have := toTaskS_l0 l hl l k 0 (List.replicate l.length z68) rfl hf (by simp) (by omega)
  simpa using this
theorem toJoiner_eq (l : List S102) (a b : Int) (k : Nat) (hl : l.length ≤ 1048576) (hf : ∀ x ∈ l, smallL 1048576 x) (hk : 3000000000 ≤ k) : laws_toJoiner.f k l a b = some (l.map cvTask, a, b) := by
  unfold laws_toJoiner.f
  rw [ob (toTaskS_eq l k hl hf hk)]
theorem eqTaskS_l0 (l : List S68) (hl : l.length ≤ 1000000000) : ∀ (s : List S68) (k i : Nat), l.drop i = s → (∀ x ∈ s, smallT 1048576 x) → 2000000000 + s.length < k → laws_eqTaskS.l0 k l l (i : Int) = some true := by
  intro s
  induction s with
  | nil =>
    intro k i hd hf hk
    obtain ⟨k, rfl, -⟩ := succ_of hk
    have := drop_nil' hd
    simp only [laws_eqTaskS.l0]
    rw [if_neg (by omega)]
  | cons x t ih =>
    intro k i hd hf hk
    obtain ⟨k, rfl, hk'⟩ := succ_of hk
    obtain ⟨hi, hd', hx, -⟩ := drop_cons' hd
    simp only [List.length_cons] at hk'
    obtain ⟨f1, f2, f3⟩ := hf x (List.mem_cons_self ..)
    simp only [laws_eqTaskS.l0]
    rw [if_pos (by omega), if_pos (by omega), if_pos (by omega), rdT, hx, ob (eqTask_refl x.f0 x.f1 x.f2 x.f3 x.f4 k f1 f2 f3 (by omega)), if_pos rfl, w64s hi (by omega), ih _ _ hd' (fun y hy => hf y (List.mem_cons_of_mem _ hy)) (by omega)]
theorem eqTaskS_refl' (l : List S68) (k : Nat) (hl : l.length ≤ 1048576) (hf : ∀ x ∈ l, smallT 1048576 x) (hk : 3000000000 ≤ k) : laws_eqTaskS.f k l l = some true := by
  unfold laws_eqTaskS.f
  rw [if_pos rfl]
  exact eqTaskS_l0 l (by omega) l k 0 rfl hf (by omega)
theorem eqJoiner_refl (l : List S68) (a b : Int) (k : Nat) (hl : l.length ≤ 1048576) (hf : ∀ x ∈ l, smallT 1048576 x) (hk : 3000000000 ≤ k) : laws_eqJoiner.f k l a b l a b = some true := by
  unfold laws_eqJoiner.f
  rw [ob (eqTaskS_refl' l k hl hf hk), if_pos rfl, if_pos rfl, if_pos rfl]
def taskB' (x y : S68) : Bool := taskB x.f0 x.f1 x.f2 x.f3 x.f4 y.f0 y.f1 y.f2 y.f3 y.f4
def tasksB : List S68 → List S68 → Bool
  | [], [] => true
  | x :: s, y :: t => taskB' x y && tasksB s t
  | _, _ => false
theorem tasksB_ne : ∀ (a b : List S68), a.length ≠ b.length → tasksB a b = false
  | [], [], h => absurd rfl h
  | [], _ :: _, _ => rfl
  | _ :: _, [], _ => rfl
  | x :: s, y :: t, h => by unfold tasksB; rw [tasksB_ne s t (by simpa using h), Bool.and_false]
theorem spec_EqualJoiners_l0 (l m : List S68) (a b c d : Int) (hl : l.length ≤ 1000000000) (he : l.length = m.length) : ∀ (s t : List S68) (k i : Nat), l.drop i = s → m.drop i = t → (∀ x ∈ s, smallT 1048576 x) → 3000000000 + s.length < k → spec_EqualJoiners.l0 k (i : Int) l a b m c d = some (tasksB s t) := by
  intro s
  induction s with
  | nil =>
    intro t k i hd hm hf hk
    obtain ⟨k, rfl, -⟩ := succ_of hk
    have := drop_nil' hd
    have ht : t = [] := by rw [← hm, List.drop_eq_nil_iff]; omega
    subst ht
    simp only [spec_EqualJoiners.l0]
    rw [if_neg (by omega)]
    rfl
  | cons x s ih =>
    intro t k i hd hm hf hk
    obtain ⟨k, rfl, hk'⟩ := succ_of hk
    obtain ⟨hi, hd', hx, -⟩ := drop_cons' hd
    cases t with
    | nil => have := drop_nil' hm; omega
    | cons y t =>
      obtain ⟨hi2, hm', hy, -⟩ := drop_cons' hm
      simp only [List.length_cons] at hk'
      obtain ⟨f1, f2, f3⟩ := hf x (List.mem_cons_self ..)
      simp only [spec_EqualJoiners.l0]
      rw [if_pos (by omega), if_pos (by omega), if_pos (by omega), rdT, rdT, hx, hy, ob (spec_EqualTasks_eq x.f0 x.f1 x.f2 x.f3 x.f4 y.f0 y.f1 y.f2 y.f3 y.f4 k (by omega) (by omega) (by omega) (by omega)), w64s hi (by omega), ih t _ _ hd' hm' (fun y hy => hf y (List.mem_cons_of_mem _ hy)) (by omega)]
      rw [show tasksB (x :: s) (y :: t) = (taskB x.f0 x.f1 x.f2 x.f3 x.f4 y.f0 y.f1 y.f2 y.f3 y.f4 && tasksB s t) from rfl]
      cases taskB x.f0 x.f1 x.f2 x.f3 x.f4 y.f0 y.f1 y.f2 y.f3 y.f4 <;> simp
theorem impl_EqualJoiners_l0 (l m : List S68) (a b c d : Int) (hl : l.length ≤ 1000000000) (he : l.length = m.length) : ∀ (s t : List S68) (k i : Nat), l.drop i = s → m.drop i = t → (∀ x ∈ s, smallT 1048576 x) → 3000000000 + s.length < k → impl_EqualJoiners.l0 k (l.length : Int) (i : Int) l a b m c d = some (tasksB s t) := by
  intro s
  induction s with
  | nil =>
    intro t k i hd hm hf hk
    obtain ⟨k, rfl, -⟩ := succ_of hk
    have := drop_nil' hd
    have ht : t = [] := by rw [← hm, List.drop_eq_nil_iff]; omega
    subst ht
    simp only [impl_EqualJoiners.l0]
    rw [if_neg (by omega)]
    rfl
  | cons x s ih =>
    intro t k i hd hm hf hk
    obtain ⟨k, rfl, hk'⟩ := succ_of hk
    obtain ⟨hi, hd', hx, -⟩ := drop_cons' hd
    cases t with
    | nil => have := drop_nil' hm; omega
    | cons y t =>
      obtain ⟨hi2, hm', hy, -⟩ := drop_cons' hm
      simp only [List.length_cons] at hk'
      obtain ⟨f1, f2, f3⟩ := hf x (List.mem_cons_self ..)
      simp only [impl_EqualJoiners.l0]
      rw [if_pos (by omega), if_pos (by omega), if_pos (by omega), if_pos (by omega), rdT, rdT, hx, hy, ob (impl_EqualTasks_eq x.f0 x.f1 x.f2 x.f3 x.f4 y.f0 y.f1 y.f2 y.f3 y.f4 k (by omega) (by omega) (by omega) (by omega)), w64s hi (by omega), ih t _ _ hd' hm' (fun y hy => hf y (List.mem_cons_of_mem _ hy)) (by omega)]
      rw [show tasksB (x :: s) (y :: t) = (taskB x.f0 x.f1 x.f2 x.f3 x.f4 y.f0 y.f1 y.f2 y.f3 y.f4 && tasksB s t) from rfl]
      cases taskB x.f0 x.f1 x.f2 x.f3 x.f4 y.f0 y.f1 y.f2 y.f3 y.f4 <;> simp
def joinB (l : List S68) (a b : Int) (m : List S68) (c d : Int) : Bool := (a == c) && ((b == d) && tasksB l m)
theorem spec_EqualJoiners_eq (l m : List S68) (a b c d : Int) (k : Nat) (hl : l.length ≤ 100000000) (hf : ∀ x ∈ l, smallT 1048576 x) (hk : 4000000000 ≤ k) : spec_EqualJoiners.f k l a b m c d = some (joinB l a b m c d) := by
  obtain ⟨k, rfl⟩ : ∃ m, k = m + 1 := ⟨k - 1, by omega⟩
  unfold spec_EqualJoiners.f joinB
  simp only [spec_EqualJoiners.j0]
  by_cases c1 : a = c
  · by_cases c2 : b = d
    · by_cases c3 : l.length = m.length
      · have := spec_EqualJoiners_l0 l m a b c d (by omega) c3 l m k 0 rfl rfl hf (by omega)
        have e : ((l.length : Int) != (m.length : Int)) = false := by simp; omega
        rw [if_pos c1, if_pos c2, e, if_neg (by simp), beq_iff_eq.2 c1, beq_iff_eq.2 c2]
        simpa using this
      · have e : ((l.length : Int) != (m.length : Int)) = true := by simp; omega
        rw [if_pos c1, if_pos c2, e, if_pos rfl, tasksB_ne l m c3]
        simp
    · simp [c1, c2]
  · simp [c1]
theorem impl_EqualJoiners_eq (l m : List S68) (a b c d : Int) (k : Nat) (hl : l.length ≤ 100000000) (hf : ∀ x ∈ l, smallT 1048576 x) (hk : 4000000000 ≤ k) : impl_EqualJoiners.f k l a b m c d = some (joinB l a b m c d) := by
  obtain ⟨k, rfl⟩ : ∃ m, k = m + 1 := ⟨k - 1, by omega⟩
  unfold impl_EqualJoiners.f joinB
  simp only [impl_EqualJoiners.j0]
  by_cases c1 : a = c
  · by_cases c2 : b = d
    · by_cases c3 : l.length = m.length
      · have := impl_EqualJoiners_l0 l m a b c d (by omega) c3 l m k 0 rfl rfl hf (by omega)
        have e : ((l.length : Int) != (m.length : Int)) = false := by simp; omega
        rw [if_pos c1, if_pos c2, e, if_neg (by simp), beq_iff_eq.2 c1, beq_iff_eq.2 c2]
        simpa using this
      · have e : ((l.length : Int) != (m.length : Int)) = true := by simp; omega
        rw [if_pos c1, if_pos c2, e, if_pos rfl, tasksB_ne l m c3]
        simp
    · simp [c1, c2]
  · simp [c1]

theorem FnExactEqualJoiners : laws_FnExactEqualJoiners.Pure := by
  intro ⟨l, a, b⟩ ⟨m, c, d⟩ ⟨⟨hg, hf⟩, _, _⟩ ⟨⟨hg2, hf2⟩, _, _⟩
  refine big_k _ (fun k hk => ?_)
  unfold laws_FnExactEqualJoiners.f
  have hf' : ∀ x ∈ l, fineT x := fun x hx => ⟨(hf x hx).2.1.1, (hf x hx).2.2.1.1, (hf x hx).2.2.2.1.1⟩
  have hf2' : ∀ x ∈ m, fineT x := fun x hx => ⟨(hf2 x hx).2.1.1, (hf2 x hx).2.2.1.1, (hf2 x hx).2.2.2.1.1⟩
  rcases szJoiner_eq l a b 1048576 k hg hf' (by omega) (by omega) (by omega) with e | ⟨e, h⟩
  · simp only [ob e, if_pos (show (-1 : Int) < 0 by omega)]
  rw [ob e, if_neg (by omega)]
  rcases szJoiner_eq m c d (1048576 - l.length - szTs l) k hg2 hf2' (by omega) (by omega) (by omega) with e' | ⟨e', h'⟩
  · simp only [ob e', if_pos (show (-1 : Int) < 0 by omega)]
  rw [ob e', if_neg (by omega)]
  have hs := szTs_small l 1048576 (by omega)
  have hc := cv_small hs
  have hs2 := szTs_small m 1048576 (by omega)
  have hc2 := cv_small hs2
  have hm : (l.map cvTask).length = l.length := List.length_map ..
  have hm2 : (m.map cvTask).length = m.length := List.length_map ..
  simp only [ob (toJoiner_eq l a b k (by omega) hs (by omega)), ob (toJoiner_eq m c d k (by omega) hs2 (by omega)), ob (spec_EqualJoiners_eq (l.map cvTask) (m.map cvTask) a b c d k (by omega) hc (by omega)), ob (impl_EqualJoiners_eq (l.map cvTask) (m.map cvTask) a b c d k (by omega) hc (by omega)), ob (eqJoiner_refl (l.map cvTask) a b k (by omega) hc (by omega)), ob (eqJoiner_refl (m.map cvTask) c d k (by omega) hc2 (by omega)), bne_self_eq_false, Bool.false_eq_true, if_false, if_true]

end Go.Proofs.Ytfcebaplphpajaa.Pure
