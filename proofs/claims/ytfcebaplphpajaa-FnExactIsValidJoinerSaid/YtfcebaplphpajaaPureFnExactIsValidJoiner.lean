/- IsValidJoiner of the program returns what the reference's returns, for all arguments (the pure statement). No condition. -/
import Derived.Test.YtfcebaplphpajaaP2c0
import Derived.Test.YtfcebaplphpajaaP6bc0
import Derived.Test.YtfcebaplphpajaaP6fc0
import Derived.Test.YtfcebaplphpajaaP72c0
import Derived.Test.YtfcebaplphpajaaP76c0
import Derived.Test.YtfcebaplphpajaaP7fc0
import Derived.Test.YtfcebaplphpajaaSayFnExactIsValidJoiner
namespace Go.Proofs.Ytfcebaplphpajaa.Pure
open Go.RowKit Go.Proofs.YtfcebaplphpajaaW.PrintWords Go.Proofs.YtfcebaplphpajaaW.PrintLast Go.Proofs.Ytfcebaplphpajaa.P
set_option linter.unusedVariables false
set_option linter.unusedSimpArgs false

theorem succ_of {k n : Nat} (h : n < k) : ∃ m, k = m + 1 ∧ n ≤ m := ⟨k - 1, by omega, by omega⟩
theorem drop_nil' {α : Type} {l : List α} {i : Nat} (h : l.drop i = []) : l.length ≤ i := List.drop_eq_nil_iff.1 h
theorem drop_cons' {α : Type} {l : List α} {i : Nat} {x : α} {t : List α} (h : l.drop i = x :: t) : i < l.length ∧ l.drop (i + 1) = t ∧ (∀ d, l.getD i d = x) ∧ l.length = i + 1 + t.length := by
  have hl := congrArg List.length h
  rw [List.length_drop, List.length_cons] at hl
  refine ⟨by omega, ?_, fun d => ?_, by omega⟩
  · rw [← List.drop_drop, h]; rfl
  · have : l[i]? = some x := by rw [← List.head?_drop, h]; rfl
    rw [List.getD_eq_getElem?_getD, this]; rfl
theorem w64 {x : Int} (h0 : -9223372036854775808 ≤ x) (h1 : x ≤ 9223372036854775807) : wrap64 x = x := by unfold wrap64; omega
theorem w64s {i n : Nat} (h : i < n) (hn : n ≤ 9223372036854775807) : wrap64 ((i : Int) + 1) = ((i + 1 : Nat) : Int) := by rw [w64 (by omega) (by omega)]; rfl
theorem big_k (P : Nat → Prop) (h : ∀ k, 1099511627776 ≤ k → P k) : ∃ k, P k := ⟨1099511627776, h _ (Nat.le_refl _)⟩
/-- A step of a chain, by an equation (never by unfolding: the kernel would compute). -/
theorem ob {α β : Type} {o : Option α} {a : α} {f : α → Option β} (h : o = some a) : o.bind f = f a := by subst h; rfl
theorem rdR (l : List S77) (i : Nat) : rd_T77 l (i : Int) = l.getD i z77 := rfl
theorem rdLR (l : List S79) (i : Nat) : rd_T79 l (i : Int) = l.getD i z79 := rfl
def cvRow (x : S79) : S77 := ⟨x.f0, x.f1, x.f2⟩
theorem szRowS_neg (l : List S79) (n : Int) (h0 : 0 ≤ n) (h1 : n ≤ 1048576) (hl : l.length ≤ maxLen) (h : n - l.length < 0) : laws_szRowS.f l n = some (-1) := by
  have hl' : l.length ≤ 9223372036854775807 := hl
  unfold laws_szRowS.f
  rw [w64 (by omega) (by omega), if_pos h]
theorem szRowS_pos (l : List S79) (n : Int) (h0 : 0 ≤ n) (h1 : n ≤ 1048576) (h : ¬ n - l.length < 0) : laws_szRowS.f l n = some (n - l.length) := by
  unfold laws_szRowS.f
  rw [w64 (by omega) (by omega), if_neg h]
theorem toRowS_l0 (l : List S79) (hl : l.length ≤ 1048576) : ∀ (s : List S79) (k i : Nat) (acc : List S77), l.drop i = s → acc.length = l.length → s.length < k → laws_toRowS.l0 k l acc (i : Int) = some (acc.take i ++ s.map cvRow) := by
  intro s
  induction s with
  | nil =>
    intro k i acc hd ha hk
    obtain ⟨k, rfl, -⟩ := succ_of hk
    have := drop_nil' hd
    simp only [laws_toRowS.l0]
    rw [if_neg (by omega), List.take_of_length_le (by omega)]
    simp
  | cons x t ih =>
    intro k i acc hd ha hk
    obtain ⟨k, rfl, hk'⟩ := succ_of hk
    obtain ⟨hi, hd', hx, -⟩ := drop_cons' hd
    simp only [List.length_cons] at hk'
    simp only [laws_toRowS.l0, laws_toRow.f, Option.bind_some]
    rw [if_pos (by omega), if_pos (by omega), if_pos (by omega), w64s hi (by omega), rdLR, hx, ih _ _ _ hd' (by simp [ha]) (by omega)]
    congr 1
    simp only [Int.toNat_natCast, List.map_cons]
    rw [List.take_succ_eq_append_getElem (by simp; omega), List.take_set_of_le (Nat.le_refl _)]
    simp [cvRow]
theorem toRowS_eq (l : List S79) (hl : l.length ≤ 1048576) (k : Nat) (hk : 2000000 ≤ k) : laws_toRowS.f k l = some (l.map cvRow) := by
  unfold laws_toRowS.f
  rw [if_pos (by omega), if_pos (by simp; omega)]
  have := toRowS_l0 l hl l k 0 (List.replicate l.length z77) rfl (by simp) (by omega)
  simpa using this
theorem eqRowS_l0 (l : List S77) (hl : l.length ≤ 9223372036854775807) : ∀ (s : List S77) (k i : Nat), l.drop i = s → s.length < k → laws_eqRowS.l0 k l l (i : Int) = some true := by
  intro s
  induction s with
  | nil =>
    intro k i hd hk
    obtain ⟨k, rfl, -⟩ := succ_of hk
    have := drop_nil' hd
    simp only [laws_eqRowS.l0]
    rw [if_neg (by omega)]
  | cons x t ih =>
    intro k i hd hk
    obtain ⟨k, rfl, hk'⟩ := succ_of hk
    obtain ⟨hi, hd', hx, -⟩ := drop_cons' hd
    simp only [List.length_cons] at hk'
    simp only [laws_eqRowS.l0, laws_eqRow.f, if_true, Option.bind_some]
    rw [if_pos (by omega), if_pos (by omega), if_pos (by omega), w64s hi (by omega), ih _ _ hd' (by omega)]
theorem eqRowS_refl (l : List S77) (hl : l.length ≤ 1048576) (k : Nat) (hk : 2000000 ≤ k) : laws_eqRowS.f k l l = some true := by
  unfold laws_eqRowS.f
  rw [if_pos rfl]
  exact eqRowS_l0 l (by omega) l k 0 rfl (by omega)
def validR (x : S77) : Bool := decide ((0 ≤ x.f0 ∧ x.f0 ≤ 9) ∧ (0 ≤ x.f1 ∧ x.f1 ≤ 99) ∧ (0 ≤ x.f2 ∧ x.f2 ≤ 3))
theorem impl_within_eq (a b c : Int) : impl_within.f a b c = some (decide (b ≤ a ∧ a ≤ c)) := by
  unfold impl_within.f
  by_cases h : a ≥ b
  · rw [if_pos h]; congr 1; simp only [decide_eq_decide]; constructor <;> intro h2 <;> omega
  · rw [if_neg h]; congr 1; symm; simp only [decide_eq_false_iff_not]; omega
theorem spec_l1In_eq (a b c : Int) : spec_l1In.f a b c = some (decide (b ≤ a ∧ a ≤ c)) := by
  unfold spec_l1In.f
  by_cases h : a ≥ b
  · rw [if_pos h]; congr 1; simp only [decide_eq_decide]; constructor <;> intro h2 <;> omega
  · rw [if_neg h]; congr 1; symm; simp only [decide_eq_false_iff_not]; omega
theorem validR_of (x y z : Int) : (if decide (0 ≤ x ∧ x ≤ 9) = true then (if decide (0 ≤ y ∧ y ≤ 99) = true then (some (decide (0 ≤ z ∧ z ≤ 3))) else some false) else some false) = some (validR ⟨x, y, z⟩) := by
  unfold validR
  by_cases h1 : 0 ≤ x ∧ x ≤ 9 <;> by_cases h2 : 0 ≤ y ∧ y ≤ 99 <;> simp [h1, h2]
theorem impl_IsValidRow_eq (x y z : Int) : impl_IsValidRow.f x y z = some (validR ⟨x, y, z⟩) := by
  unfold impl_IsValidRow.f
  simp only [impl_within_eq, Option.bind_some]
  exact validR_of x y z
theorem impl_IsValidRow_eq' (x : S77) : impl_IsValidRow.f x.f0 x.f1 x.f2 = some (validR x) := impl_IsValidRow_eq _ _ _
theorem spec_IsValidRow_eq (x y z : Int) : spec_IsValidRow.f x y z = some (validR ⟨x, y, z⟩) := by
  unfold spec_IsValidRow.f
  simp only [spec_l1In_eq, Option.bind_some]
  exact validR_of x y z
theorem spec_IsValidRow_eq' (x : S77) : spec_IsValidRow.f x.f0 x.f1 x.f2 = some (validR x) := spec_IsValidRow_eq _ _ _
def vRows (l : List S77) : Bool := decide (l.length ≤ 24) && l.all validR
theorem spec_AreValidRows_l0 (l : List S77) (hl : l.length ≤ 1000000000) : ∀ (s : List S77) (k i : Nat), l.drop i = s → s.length < k → spec_AreValidRows.l0 k l (i : Int) = some (s.all validR && decide (l.length ≤ 24)) := by
  intro s
  induction s with
  | nil =>
    intro k i hd hk
    obtain ⟨k, rfl, -⟩ := succ_of hk
    have := drop_nil' hd
    simp only [spec_AreValidRows.l0]
    rw [if_neg (by omega)]
    simp
    omega
  | cons x t ih =>
    intro k i hd hk
    obtain ⟨k, rfl, hk'⟩ := succ_of hk
    obtain ⟨hi, hd', hx, -⟩ := drop_cons' hd
    simp only [List.length_cons] at hk'
    simp only [spec_AreValidRows.l0]
    rw [if_pos (by omega), if_pos (by omega), rdR, hx, ob (spec_IsValidRow_eq' x), w64s hi (by omega), ih _ _ hd' (by omega)]
    cases h : validR x <;> simp [h]
theorem spec_AreValidRows_eq (l : List S77) (k : Nat) (hl : l.length ≤ 1000000000) (hk : 2000000000 ≤ k) : spec_AreValidRows.f k l = some (vRows l) := by
  have := spec_AreValidRows_l0 l hl l k 0 rfl (by omega)
  unfold spec_AreValidRows.f vRows
  rw [Bool.and_comm]
  simpa using this
theorem impl_allValid_l0 (l : List S77) (hl : l.length ≤ 1000000000) : ∀ (s : List S77) (k i : Nat), l.drop i = s → s.length < k → impl_allValid.l0 k l (l.length : Int) (i : Int) = some (s.all validR) := by
  intro s
  induction s with
  | nil =>
    intro k i hd hk
    obtain ⟨k, rfl, -⟩ := succ_of hk
    have := drop_nil' hd
    simp only [impl_allValid.l0]
    rw [if_neg (by omega)]
    simp
  | cons x t ih =>
    intro k i hd hk
    obtain ⟨k, rfl, hk'⟩ := succ_of hk
    obtain ⟨hi, hd', hx, -⟩ := drop_cons' hd
    simp only [List.length_cons] at hk'
    simp only [impl_allValid.l0]
    rw [if_pos (by omega), if_pos (by omega), if_pos (by omega), rdR, hx, ob (impl_IsValidRow_eq' x), w64s hi (by omega), ih _ _ hd' (by omega)]
    cases h : validR x <;> simp [h]
theorem impl_AreValidRows_eq (l : List S77) (k : Nat) (hl : l.length ≤ 1000000000) (hk : 2000000000 ≤ k) : impl_AreValidRows.f k l = some (vRows l) := by
  have := impl_allValid_l0 l hl l k 0 rfl (by omega)
  unfold impl_AreValidRows.f vRows
  by_cases h : l.length ≤ 24
  · rw [if_pos (by omega)]
    have e : impl_allValid.f k l = some (l.all validR) := by unfold impl_allValid.f; simpa using this
    rw [ob e]
    simp [h]
  · rw [if_neg (by omega)]
    simp [h]
theorem toBoolS_l0 (l : List Bool) (hl : l.length ≤ 1048576) : ∀ (s : List Bool) (k i : Nat) (acc : List Bool), l.drop i = s → acc.length = l.length → s.length < k → laws_toBoolS.l0 k l acc (i : Int) = some (acc.take i ++ s) := by
  intro s
  induction s with
  | nil =>
    intro k i acc hd ha hk
    obtain ⟨k, rfl, -⟩ := succ_of hk
    have := drop_nil' hd
    simp only [laws_toBoolS.l0]
    rw [if_neg (by omega), List.take_of_length_le (by omega)]
    simp
  | cons x t ih =>
    intro k i acc hd ha hk
    obtain ⟨k, rfl, hk'⟩ := succ_of hk
    obtain ⟨hi, hd', hx, -⟩ := drop_cons' hd
    simp only [List.length_cons] at hk'
    have hr : rdOf false l (i : Int) = x := hx false
    simp only [laws_toBoolS.l0]
    rw [if_pos (by omega), if_pos (by omega), if_pos (by omega), w64s hi (by omega), hr, ih _ _ _ hd' (by simp [ha]) (by omega)]
    congr 1
    simp only [Int.toNat_natCast]
    rw [List.take_succ_eq_append_getElem (by simp; omega), List.take_set_of_le (Nat.le_refl _)]
    simp
theorem toBoolS_eq (l : List Bool) (k : Nat) (hl : l.length ≤ 1048576) (hk : 2000000000 ≤ k) : laws_toBoolS.f k l = some l := by
  unfold laws_toBoolS.f
  rw [if_pos (by omega), if_pos (by simp; omega)]
  have := toBoolS_l0 l hl l k 0 (List.replicate l.length false) rfl (by simp) (by omega)
  simpa using this
theorem szBoolS_neg (l : List Bool) (n : Int) (h0 : 0 ≤ n) (h1 : n ≤ 1048576) (hl : l.length ≤ maxLen) (h : n - l.length < 0) : laws_szBoolS.f l n = some (-1) := by
  have hl' : l.length ≤ 9223372036854775807 := hl
  unfold laws_szBoolS.f
  rw [w64 (by omega) (by omega), if_pos h]
theorem szBoolS_pos (l : List Bool) (n : Int) (h0 : 0 ≤ n) (h1 : n ≤ 1048576) (h : ¬ n - l.length < 0) : laws_szBoolS.f l n = some (n - l.length) := by
  unfold laws_szBoolS.f
  rw [w64 (by omega) (by omega), if_neg h]
theorem toRowS_eq' (l : List S79) (k : Nat) (hl : l.length ≤ 1048576) (hk : 2000000000 ≤ k) : laws_toRowS.f k l = some (l.map cvRow) := toRowS_eq l hl k (by omega)
theorem eqRowS_refl' (l : List S77) (k : Nat) (hl : l.length ≤ 1048576) (hk : 2000000000 ≤ k) : laws_eqRowS.f k l l = some true := eqRowS_refl l hl k (by omega)
/-- The law's count of a task: too much, or what is left. -/
theorem szTask_eq (a : Int) (l1 l2 : List S79) (l3 : List Bool) (b n : Int) (h0 : 0 ≤ n) (h1 : n ≤ 1048576) (g1 : l1.length ≤ maxLen) (g2 : l2.length ≤ maxLen) (g3 : l3.length ≤ maxLen) :
    laws_szTask.f a l1 l2 l3 b n = some (-1) ∨ (laws_szTask.f a l1 l2 l3 b n = some (n - l1.length - l2.length - l3.length) ∧ (l1.length : Int) + l2.length + l3.length ≤ n) := by
  unfold laws_szTask.f
  by_cases c1 : n - l1.length < 0
  · left; rw [ob (szRowS_neg l1 n h0 h1 g1 c1), if_pos (by omega)]
  rw [ob (szRowS_pos l1 n h0 h1 c1), if_neg c1]
  by_cases c2 : n - l1.length - l2.length < 0
  · left; rw [ob (szRowS_neg l2 _ (by omega) (by omega) g2 c2), if_pos (by omega)]
  rw [ob (szRowS_pos l2 _ (by omega) (by omega) c2), if_neg c2]
  by_cases c3 : n - l1.length - l2.length - l3.length < 0
  · left; rw [ob (szBoolS_neg l3 _ (by omega) (by omega) g3 c3), if_pos (by omega)]
  right
  rw [ob (szBoolS_pos l3 _ (by omega) (by omega) c3), if_neg c3]
  exact ⟨rfl, by omega⟩
theorem toTask_eq (a : Int) (l1 l2 : List S79) (l3 : List Bool) (b : Int) (k : Nat) (h1 : l1.length ≤ 1048576) (h2 : l2.length ≤ 1048576) (h3 : l3.length ≤ 1048576) (hk : 2000000000 ≤ k) :
    laws_toTask.f k a l1 l2 l3 b = some (a, l1.map cvRow, l2.map cvRow, l3, b) := by
  unfold laws_toTask.f
  rw [ob (toRowS_eq' l1 k h1 hk), ob (toRowS_eq' l2 k h2 hk), ob (toBoolS_eq l3 k h3 hk)]
theorem eqBoolS_l0 (l : List Bool) (hl : l.length ≤ 9223372036854775807) : ∀ (s : List Bool) (k i : Nat), l.drop i = s → s.length < k → laws_eqBoolS.l0 k l l (i : Int) = some true := by
  intro s
  induction s with
  | nil =>
    intro k i hd hk
    obtain ⟨k, rfl, -⟩ := succ_of hk
    have := drop_nil' hd
    simp only [laws_eqBoolS.l0]
    rw [if_neg (by omega)]
  | cons x t ih =>
    intro k i hd hk
    obtain ⟨k, rfl, hk'⟩ := succ_of hk
    obtain ⟨hi, hd', hx, -⟩ := drop_cons' hd
    simp only [List.length_cons] at hk'
    simp only [laws_eqBoolS.l0]
    rw [if_pos (by omega), if_pos (by omega), if_pos (by omega), if_neg (by simp), w64s hi (by omega), ih _ _ hd' (by omega)]
theorem eqBoolS_refl (l : List Bool) (k : Nat) (hl : l.length ≤ 1048576) (hk : 2000000000 ≤ k) : laws_eqBoolS.f k l l = some true := by
  unfold laws_eqBoolS.f
  rw [if_pos rfl]
  exact eqBoolS_l0 l (by omega) l k 0 rfl (by omega)
theorem eqTask_refl (a : Int) (l1 l2 : List S77) (l3 : List Bool) (b : Int) (k : Nat) (h1 : l1.length ≤ 1048576) (h2 : l2.length ≤ 1048576) (h3 : l3.length ≤ 1048576) (hk : 2000000000 ≤ k) :
    laws_eqTask.f k a l1 l2 l3 b a l1 l2 l3 b = some true := by
  unfold laws_eqTask.f
  rw [if_pos rfl, ob (eqRowS_refl' l1 k h1 hk), if_pos rfl, ob (eqRowS_refl' l2 k h2 hk), if_pos rfl, ob (eqBoolS_refl l3 k h3 hk), if_pos rfl, if_pos rfl]
def vTask (a : Int) (l1 l2 : List S77) (l3 : List Bool) (b : Int) : Bool := decide (1 ≤ a ∧ a ≤ 4) && (vRows l1 && (vRows l2 && (decide (l3.length = l1.length) && decide (0 ≤ b ∧ b ≤ 4))))
theorem spec_IsValidTask_eq (a : Int) (l1 l2 : List S77) (l3 : List Bool) (b : Int) (k : Nat) (h1 : l1.length ≤ 1000000000) (h2 : l2.length ≤ 1000000000) (hk : 2000000000 ≤ k) : spec_IsValidTask.f k a l1 l2 l3 b = some (vTask a l1 l2 l3 b) := by
  unfold spec_IsValidTask.f vTask spec_IsValidJoinKind.f
  rw [ob (spec_l1In_eq a 1 4), ob rfl, ob (spec_AreValidRows_eq l1 k h1 hk), ob (spec_AreValidRows_eq l2 k h2 hk), ob (spec_l1In_eq b 0 4)]
  generalize decide (1 ≤ a ∧ a ≤ 4) = p
  generalize decide (0 ≤ b ∧ b ≤ 4) = q
  by_cases c4 : l3.length = l1.length
  · have c5 : (l3.length : Int) = l1.length := by omega
    cases p <;> cases vRows l1 <;> cases vRows l2 <;> simp [c4]
  · have c5 : ¬ (l3.length : Int) = l1.length := by omega
    cases p <;> cases vRows l1 <;> cases vRows l2 <;> simp [c4, c5]
theorem impl_IsValidTask_eq (a : Int) (l1 l2 : List S77) (l3 : List Bool) (b : Int) (k : Nat) (h1 : l1.length ≤ 1000000000) (h2 : l2.length ≤ 1000000000) (hk : 2000000000 ≤ k) : impl_IsValidTask.f k a l1 l2 l3 b = some (vTask a l1 l2 l3 b) := by
  unfold impl_IsValidTask.f vTask impl_IsValidJoinKind.f
  rw [ob (impl_within_eq a 1 4), ob rfl, ob (impl_AreValidRows_eq l1 k h1 hk), ob (impl_AreValidRows_eq l2 k h2 hk), ob (impl_within_eq b 0 4)]
  generalize decide (1 ≤ a ∧ a ≤ 4) = p
  generalize decide (0 ≤ b ∧ b ≤ 4) = q
  by_cases c4 : l3.length = l1.length
  · have c5 : (l3.length : Int) = l1.length := by omega
    cases p <;> cases vRows l1 <;> cases vRows l2 <;> simp [c4]
  · have c5 : ¬ (l3.length : Int) = l1.length := by omega
    cases p <;> cases vRows l1 <;> cases vRows l2 <;> simp [c4, c5]

def cvTask (x : S102) : S68 := ⟨x.f0, x.f1.map cvRow, x.f2.map cvRow, x.f3, x.f4⟩
def szT (x : S102) : Nat := x.f1.length + x.f2.length + x.f3.length
def szTs : List S102 → Nat
  | [] => 0
  | x :: t => szT x + szTs t
def fineT (x : S102) : Prop := x.f1.length ≤ maxLen ∧ x.f2.length ≤ maxLen ∧ x.f3.length ≤ maxLen
def smallT (n : Nat) (x : S68) : Prop := x.f1.length ≤ n ∧ x.f2.length ≤ n ∧ x.f3.length ≤ n
def smallL (n : Nat) (x : S102) : Prop := x.f1.length ≤ n ∧ x.f2.length ≤ n ∧ x.f3.length ≤ n
theorem rdT (l : List S68) (i : Nat) : rd_T68 l (i : Int) = l.getD i z68 := rfl
theorem rdLT (l : List S102) (i : Nat) : rd_T102 l (i : Int) = l.getD i z102 := rfl
theorem szTs_small : ∀ (l : List S102) (n : Nat), szTs l ≤ n → ∀ x ∈ l, smallL n x
  | [], _, _, _, h => by cases h
  | y :: t, n, hn, x, h => by
    simp only [szTs, szT] at hn
    rcases List.mem_cons.1 h with rfl | h
    · exact ⟨by omega, by omega, by omega⟩
    · exact szTs_small t n (by omega) x h
theorem cv_small {n : Nat} {l : List S102} (h : ∀ x ∈ l, smallL n x) : ∀ x ∈ l.map cvTask, smallT n x := by
  intro x hx
  obtain ⟨y, hy, rfl⟩ := List.mem_map.1 hx
  obtain ⟨a, b, c⟩ := h y hy
  exact ⟨by simpa [cvTask] using a, by simpa [cvTask] using b, c⟩
theorem szTaskS_l0 (l : List S102) (hl : l.length ≤ 1048576) : ∀ (s : List S102) (k i : Nat) (n : Int), l.drop i = s → (∀ x ∈ s, fineT x) → s.length < k → 0 ≤ n → n ≤ 1048576 → laws_szTaskS.l0 k l n (i : Int) = some (-1) ∨ (laws_szTaskS.l0 k l n (i : Int) = some (n - szTs s) ∧ (szTs s : Int) ≤ n) := by
  intro s
  induction s with
  | nil =>
    intro k i n hd hf hk h0 h1
    obtain ⟨k, rfl, -⟩ := succ_of hk
    have := drop_nil' hd
    right
    simp only [laws_szTaskS.l0, szTs]
    rw [if_neg (by omega)]
    exact ⟨by simp, by omega⟩
  | cons x t ih =>
    intro k i n hd hf hk h0 h1
    obtain ⟨k, rfl, hk'⟩ := succ_of hk
    obtain ⟨hi, hd', hx, -⟩ := drop_cons' hd
    simp only [List.length_cons] at hk'
    obtain ⟨f1, f2, f3⟩ := hf x (List.mem_cons_self ..)
    simp only [laws_szTaskS.l0]
    rw [if_pos (by omega), if_pos (by omega), rdLT, hx, w64s hi (by omega)]
    rcases szTask_eq x.f0 x.f1 x.f2 x.f3 x.f4 n h0 h1 f1 f2 f3 with e | ⟨e, h⟩
    · left; rw [ob e, if_pos (by omega)]
    · rw [ob e, if_neg (by omega)]
      rcases ih k (i + 1) (n - x.f1.length - x.f2.length - x.f3.length) hd' (fun y hy => hf y (List.mem_cons_of_mem _ hy)) (by omega) (by omega) (by omega) with e' | ⟨e', h'⟩
      · exact .inl e'
      · right
        refine ⟨e'.trans (congrArg some ?_), ?_⟩ <;> simp only [szTs, szT] <;> omega
theorem szTaskS_eq (l : List S102) (n : Int) (k : Nat) (hg : l.length ≤ maxLen) (hf : ∀ x ∈ l, fineT x) (h0 : 0 ≤ n) (h1 : n ≤ 1048576) (hk : 2000000000 ≤ k) : laws_szTaskS.f k l n = some (-1) ∨ (laws_szTaskS.f k l n = some (n - l.length - szTs l) ∧ (l.length : Int) + szTs l ≤ n) := by
  have hg' : l.length ≤ 9223372036854775807 := hg
  unfold laws_szTaskS.f
  rw [w64 (by omega) (by omega)]
  by_cases c : n - l.length < 0
  · left; rw [if_pos c]
  · rw [if_neg c]
    rcases szTaskS_l0 l (by omega) l k 0 (n - l.length) rfl hf (by omega) (by omega) (by omega) with e | ⟨e, h⟩
    · exact .inl e
    · exact .inr ⟨e, by omega⟩
theorem szJoiner_eq (l : List S102) (a b n : Int) (k : Nat) (hg : l.length ≤ maxLen) (hf : ∀ x ∈ l, fineT x) (h0 : 0 ≤ n) (h1 : n ≤ 1048576) (hk : 2000000000 ≤ k) : laws_szJoiner.f k l a b n = some (-1) ∨ (laws_szJoiner.f k l a b n = some (n - l.length - szTs l) ∧ (l.length : Int) + szTs l ≤ n) := by
  unfold laws_szJoiner.f
  rcases szTaskS_eq l n k hg hf h0 h1 hk with e | ⟨e, h⟩
  · left; rw [ob e, if_pos (by omega)]
  · right; rw [ob e, if_neg (by omega)]; exact ⟨rfl, h⟩
theorem toTaskS_l0 (l : List S102) (hl : l.length ≤ 1048576) : ∀ (s : List S102) (k i : Nat) (acc : List S68), l.drop i = s → (∀ x ∈ s, smallL 1048576 x) → acc.length = l.length → 2000000000 + s.length < k → laws_toTaskS.l0 k l acc (i : Int) = some (acc.take i ++ s.map cvTask) := by
  intro s
  induction s with
  | nil =>
    intro k i acc hd hf ha hk
    obtain ⟨k, rfl, -⟩ := succ_of hk
    have := drop_nil' hd
    simp only [laws_toTaskS.l0]
    rw [if_neg (by omega), List.take_of_length_le (by omega)]
    simp
  | cons x t ih =>
    intro k i acc hd hf ha hk
    obtain ⟨k, rfl, hk'⟩ := succ_of hk
    obtain ⟨hi, hd', hx, -⟩ := drop_cons' hd
    simp only [List.length_cons] at hk'
    obtain ⟨f1, f2, f3⟩ := hf x (List.mem_cons_self ..)
    simp only [laws_toTaskS.l0]
    rw [if_pos (by omega), if_pos (by omega), rdLT, hx, ob (toTask_eq x.f0 x.f1 x.f2 x.f3 x.f4 k f1 f2 f3 (by omega)), if_pos (by omega), w64s hi (by omega), ih _ _ _ hd' (fun y hy => hf y (List.mem_cons_of_mem _ hy)) (by simp [ha]) (by omega)]
    congr 1
    simp only [Int.toNat_natCast, List.map_cons]
    rw [List.take_succ_eq_append_getElem (by simp; omega), List.take_set_of_le (Nat.le_refl _)]
    simp [cvTask]
theorem toTaskS_eq (l : List S102) (k : Nat) (hl : l.length ≤ 1048576) (hf : ∀ x ∈ l, smallL 1048576 x) (hk : 3000000000 ≤ k) : laws_toTaskS.f k l = some (l.map cvTask) := by
  unfold laws_toTaskS.f
  rw [if_pos (by omega), if_pos (by simp; omega)]
  have := toTaskS_l0 l hl l k 0 (List.replicate l.length z68) rfl hf (by simp) (by omega)
  simpa using this
theorem toJoiner_eq (l : List S102) (a b : Int) (k : Nat) (hl : l.length ≤ 1048576) (hf : ∀ x ∈ l, smallL 1048576 x) (hk : 3000000000 ≤ k) : laws_toJoiner.f k l a b = some (l.map cvTask, a, b) := by
  unfold laws_toJoiner.f
  rw [ob (toTaskS_eq l k hl hf hk)]
theorem eqTaskS_l0 (l : List S68) (hl : l.length ≤ 1000000000) : ∀ (s : List S68) (k i : Nat), l.drop i = s → (∀ x ∈ s, smallT 1048576 x) → 2000000000 + s.length < k → laws_eqTaskS.l0 k l l (i : Int) = some true := by
  intro s
  induction s with
  | nil =>
    intro k i hd hf hk
    obtain ⟨k, rfl, -⟩ := succ_of hk
    have := drop_nil' hd
    simp only [laws_eqTaskS.l0]
    rw [if_neg (by omega)]
  | cons x t ih =>
    intro k i hd hf hk
    obtain ⟨k, rfl, hk'⟩ := succ_of hk
    obtain ⟨hi, hd', hx, -⟩ := drop_cons' hd
    simp only [List.length_cons] at hk'
    obtain ⟨f1, f2, f3⟩ := hf x (List.mem_cons_self ..)
    simp only [laws_eqTaskS.l0]
    rw [if_pos (by omega), if_pos (by omega), if_pos (by omega), rdT, hx, ob (eqTask_refl x.f0 x.f1 x.f2 x.f3 x.f4 k f1 f2 f3 (by omega)), if_pos rfl, w64s hi (by omega), ih _ _ hd' (fun y hy => hf y (List.mem_cons_of_mem _ hy)) (by omega)]
theorem eqTaskS_refl' (l : List S68) (k : Nat) (hl : l.length ≤ 1048576) (hf : ∀ x ∈ l, smallT 1048576 x) (hk : 3000000000 ≤ k) : laws_eqTaskS.f k l l = some true := by
  unfold laws_eqTaskS.f
  rw [if_pos rfl]
  exact eqTaskS_l0 l (by omega) l k 0 rfl hf (by omega)
theorem eqJoiner_refl (l : List S68) (a b : Int) (k : Nat) (hl : l.length ≤ 1048576) (hf : ∀ x ∈ l, smallT 1048576 x) (hk : 3000000000 ≤ k) : laws_eqJoiner.f k l a b l a b = some true := by
  unfold laws_eqJoiner.f
  rw [ob (eqTaskS_refl' l k hl hf hk), if_pos rfl, if_pos rfl, if_pos rfl]
def lefts : List S68 → Nat
  | [] => 0
  | x :: t => x.f1.length + lefts t
def rights : List S68 → Nat
  | [] => 0
  | x :: t => x.f2.length + rights t
theorem lefts_cons (x : S68) (t : List S68) : lefts (x :: t) = x.f1.length + lefts t := rfl
theorem rights_cons (x : S68) (t : List S68) : rights (x :: t) = x.f2.length + rights t := rfl
theorem lr_sz : ∀ (l : List S102), lefts (l.map cvTask) + rights (l.map cvTask) ≤ szTs l
  | [] => Nat.le_refl _
  | x :: t => by
    have := lr_sz t
    have e1 : (cvTask x).f1.length = x.f1.length := List.length_map ..
    have e2 : (cvTask x).f2.length = x.f2.length := List.length_map ..
    rw [List.map_cons, lefts_cons, rights_cons, e1, e2]
    simp only [szTs, szT]
    omega
def vT (x : S68) : Bool := vTask x.f0 x.f1 x.f2 x.f3 x.f4
def oneK (y x : S68) : Bool := vT x && decide (x.f0 = y.f0)
def vJ (l : List S68) (a b : Int) : Bool := l.all (oneK (l.getD 0 z68)) && (decide ((lefts l : Int) ≤ 24) && (decide ((rights l : Int) ≤ 24) && (decide ((l.length : Int) ≤ 40) && (decide (0 ≤ a ∧ a ≤ 100000) && decide (0 ≤ b ∧ b ≤ 1000)))))
theorem spec_IsValidJoiner_l0 (l : List S68) (a b : Int) (hl : l.length ≤ 1000000000) : ∀ (s : List S68) (k i : Nat) (n m : Int), l.drop i = s → (∀ x ∈ s, smallT 1048576 x) → 2000000000 + s.length < k → 0 ≤ n → 0 ≤ m → n + lefts s ≤ 1000000000000 → m + rights s ≤ 1000000000000 →
    spec_IsValidJoiner.l0 k n m (i : Int) l a b = some (s.all (oneK (l.getD 0 z68)) && (decide (n + lefts s ≤ 24) && (decide (m + rights s ≤ 24) && (decide ((l.length : Int) ≤ 40) && (decide (0 ≤ a ∧ a ≤ 100000) && decide (0 ≤ b ∧ b ≤ 1000)))))) := by
  intro s
  induction s with
  | nil =>
    intro k i n m hd hf hk h0 h1 h2 h3
    obtain ⟨k, rfl, -⟩ := succ_of hk
    have := drop_nil' hd
    simp only [spec_IsValidJoiner.l0]
    rw [if_neg (by omega), ob (spec_l1In_eq a 0 100000), ob (spec_l1In_eq b 0 1000)]
    simp only [List.all_nil, Bool.true_and]
    rw [show lefts [] = 0 from rfl, show rights [] = 0 from rfl]
    by_cases c1 : n ≤ 24
    · rw [if_pos c1, decide_eq_true (p := n + ((0 : Nat) : Int) ≤ 24) (by omega)]
      by_cases c2 : m ≤ 24
      · rw [if_pos c2, decide_eq_true (p := m + ((0 : Nat) : Int) ≤ 24) (by omega)]
        by_cases c3 : (l.length : Int) ≤ 40
        · rw [if_pos c3, decide_eq_true c3]
          cases decide (0 ≤ a ∧ a ≤ 100000) <;> simp
        · rw [if_neg c3, decide_eq_false c3]; simp
      · rw [if_neg c2, decide_eq_false (p := m + ((0 : Nat) : Int) ≤ 24) (by omega)]; simp
    · rw [if_neg c1, decide_eq_false (p := n + ((0 : Nat) : Int) ≤ 24) (by omega)]; simp
  | cons x t ih =>
    intro k i n m hd hf hk h0 h1 h2 h3
    obtain ⟨k, rfl, hk'⟩ := succ_of hk
    obtain ⟨hi, hd', hx, -⟩ := drop_cons' hd
    simp only [List.length_cons, lefts_cons, rights_cons] at hk' h2 h3
    obtain ⟨f1, f2, f3⟩ := hf x (List.mem_cons_self ..)
    have he : rd_T68 l 0 = l.getD 0 z68 := rfl
    simp only [spec_IsValidJoiner.l0]
    rw [if_pos (by omega), if_pos (by omega), rdT, hx, ob (spec_IsValidTask_eq x.f0 x.f1 x.f2 x.f3 x.f4 k (by omega) (by omega) (by omega)), if_pos (show (0 : Int) < l.length by omega), w64s hi (by omega), w64 (by omega) (by omega), w64 (by omega) (by omega), ih _ _ _ _ hd' (fun y hy => hf y (List.mem_cons_of_mem _ hy)) (by omega) (by omega) (by omega) (by omega) (by omega), he, List.all_cons, lefts_cons, rights_cons]
    rw [show n + x.f1.length + lefts t = n + ((x.f1.length + lefts t : Nat) : Int) by omega, show m + x.f2.length + rights t = m + ((x.f2.length + rights t : Nat) : Int) by omega]
    unfold oneK vT
    cases vTask x.f0 x.f1 x.f2 x.f3 x.f4
    · simp
    · by_cases c : x.f0 = (l.getD 0 z68).f0
      · rw [if_pos rfl, if_pos c, decide_eq_true c]; simp
      · rw [if_pos rfl, if_neg c, decide_eq_false c]; simp
theorem spec_IsValidJoiner_eq (l : List S68) (a b : Int) (k : Nat) (hl : l.length ≤ 100000000) (hf : ∀ x ∈ l, smallT 1048576 x) (h1 : lefts l ≤ 100000000) (h2 : rights l ≤ 100000000) (hk : 3000000000 ≤ k) : spec_IsValidJoiner.f k l a b = some (vJ l a b) := by
  have := spec_IsValidJoiner_l0 l a b (by omega) l k 0 0 0 rfl hf (by omega) (by omega) (by omega) (by omega) (by omega)
  unfold spec_IsValidJoiner.f vJ
  rw [Int.natCast_zero] at this
  simpa only [Int.zero_add] using this
theorem impl_IsValidJoiner_l0 (l : List S68) (a b : Int) (hl : l.length ≤ 1000000000) : ∀ (s : List S68) (k i : Nat) (n m : Int), l.drop i = s → (∀ x ∈ s, smallT 1048576 x) → 2000000000 + s.length < k → 0 ≤ n → 0 ≤ m → n + lefts s ≤ 1000000000000 → m + rights s ≤ 1000000000000 →
    impl_IsValidJoiner.l0 k n m l (l.length : Int) (i : Int) l a b = some (s.all (oneK (l.getD 0 z68)) && (decide (n + lefts s ≤ 24) && decide (m + rights s ≤ 24))) := by
  intro s
  induction s with
  | nil =>
    intro k i n m hd hf hk h0 h1 h2 h3
    obtain ⟨k, rfl, -⟩ := succ_of hk
    have := drop_nil' hd
    simp only [impl_IsValidJoiner.l0]
    rw [if_neg (by omega)]
    simp only [List.all_nil, Bool.true_and]
    rw [show lefts [] = 0 from rfl, show rights [] = 0 from rfl]
    by_cases c1 : n ≤ 24
    · rw [if_pos c1, decide_eq_true (p := n + ((0 : Nat) : Int) ≤ 24) (by omega)]
      simp
    · rw [if_neg c1, decide_eq_false (p := n + ((0 : Nat) : Int) ≤ 24) (by omega)]; simp
  | cons x t ih =>
    intro k i n m hd hf hk h0 h1 h2 h3
    obtain ⟨k, rfl, hk'⟩ := succ_of hk
    obtain ⟨hi, hd', hx, -⟩ := drop_cons' hd
    simp only [List.length_cons, lefts_cons, rights_cons] at hk' h2 h3
    obtain ⟨f1, f2, f3⟩ := hf x (List.mem_cons_self ..)
    have he : rd_T68 l 0 = l.getD 0 z68 := rfl
    simp only [impl_IsValidJoiner.l0]
    rw [if_pos (by omega), if_pos (by omega), if_pos (by omega), rdT, hx, ob (impl_IsValidTask_eq x.f0 x.f1 x.f2 x.f3 x.f4 k (by omega) (by omega) (by omega)), if_pos (show (0 : Int) < l.length by omega), w64s hi (by omega), w64 (by omega) (by omega), w64 (by omega) (by omega), ih _ _ _ _ hd' (fun y hy => hf y (List.mem_cons_of_mem _ hy)) (by omega) (by omega) (by omega) (by omega) (by omega), he, List.all_cons, lefts_cons, rights_cons]
    rw [show n + x.f1.length + lefts t = n + ((x.f1.length + lefts t : Nat) : Int) by omega, show m + x.f2.length + rights t = m + ((x.f2.length + rights t : Nat) : Int) by omega]
    unfold oneK vT
    cases vTask x.f0 x.f1 x.f2 x.f3 x.f4
    · simp
    · by_cases c : x.f0 = (l.getD 0 z68).f0
      · rw [if_pos rfl, if_pos c, decide_eq_true c]; simp
      · rw [if_pos rfl, if_neg c, decide_eq_false c]; simp
theorem impl_IsValidJoiner_eq (l : List S68) (a b : Int) (k : Nat) (hl : l.length ≤ 100000000) (hf : ∀ x ∈ l, smallT 1048576 x) (h1 : lefts l ≤ 100000000) (h2 : rights l ≤ 100000000) (hk : 4000000000 ≤ k) : impl_IsValidJoiner.f k l a b = some (vJ l a b) := by
  obtain ⟨k, rfl⟩ : ∃ m, k = m + 1 := ⟨k - 1, by omega⟩
  have := impl_IsValidJoiner_l0 l a b (by omega) l k 0 0 0 rfl hf (by omega) (by omega) (by omega) (by omega) (by omega)
  unfold impl_IsValidJoiner.f vJ
  rw [ob (impl_within_eq a 0 100000), ob (impl_within_eq b 0 1000)]
  simp only [impl_IsValidJoiner.j0]
  rw [Int.natCast_zero] at this
  rw [this]
  simp only [Int.zero_add]
  by_cases c : (l.length : Int) > 40
  · rw [if_pos c, decide_eq_false (p := (l.length : Int) ≤ 40) (by omega)]
    simp
  · rw [if_neg c, decide_eq_true (p := (l.length : Int) ≤ 40) (by omega)]
    cases decide (0 ≤ a ∧ a ≤ 100000) <;> cases decide (0 ≤ b ∧ b ≤ 1000) <;> simp

theorem FnExactIsValidJoiner : laws_FnExactIsValidJoiner.Pure := by
  intro ⟨l, a, b⟩ ⟨⟨hg, hf⟩, _, _⟩
  refine big_k _ (fun k hk => ?_)
  unfold laws_FnExactIsValidJoiner.f
  have hf' : ∀ x ∈ l, fineT x := fun x hx => ⟨(hf x hx).2.1.1, (hf x hx).2.2.1.1, (hf x hx).2.2.2.1.1⟩
  rcases szJoiner_eq l a b 1048576 k hg hf' (by omega) (by omega) (by omega) with e | ⟨e, h⟩
  · simp only [ob e, if_pos (show (-1 : Int) < 0 by omega)]
  rw [ob e, if_neg (by omega)]
  have hs := szTs_small l 1048576 (by omega)
  have hc := cv_small hs
  have hr := lr_sz l
  have hm : (l.map cvTask).length = l.length := List.length_map ..
  simp only [ob (toJoiner_eq l a b k (by omega) hs (by omega)), ob (spec_IsValidJoiner_eq (l.map cvTask) a b k (by omega) hc (by omega) (by omega) (by omega)), ob (impl_IsValidJoiner_eq (l.map cvTask) a b k (by omega) hc (by omega) (by omega) (by omega)), ob (eqJoiner_refl (l.map cvTask) a b k (by omega) hc (by omega)), bne_self_eq_false, Bool.false_eq_true, if_false, if_true]

end Go.Proofs.Ytfcebaplphpajaa.Pure
