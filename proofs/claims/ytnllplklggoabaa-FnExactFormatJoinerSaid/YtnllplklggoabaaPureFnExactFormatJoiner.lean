/- FormatJoiner of the program returns what the reference's returns, for all arguments (the pure statement). No condition. -/
import Derived.Test.YtnllplklggoabaaP22c0
import Derived.Test.YtnllplklggoabaaP2c0
import Derived.Test.YtnllplklggoabaaP6ac0
import Derived.Test.YtnllplklggoabaaP6bc0
import Derived.Test.YtnllplklggoabaaP6fc0
import Derived.Test.YtnllplklggoabaaP7bc0
import Derived.Test.YtnllplklggoabaaP7fc0
import Derived.Test.YtnllplklggoabaaPac0
import Derived.Test.YtnllplklggoabaaPbc0
import Derived.Test.YtnllplklggoabaaSayFnExactFormatJoiner
namespace Go.Proofs.Ytnllplklggoabaa.Pure
open Go.RowKit Go.Proofs.YtnllplklggoabaaW.PrintWords Go.Proofs.YtnllplklggoabaaW.PrintLast Go.Proofs.Ytnllplklggoabaa.P
set_option linter.unusedVariables false
set_option linter.unusedSimpArgs false

theorem succ_of {k n : Nat} (h : n < k) : ∃ m, k = m + 1 ∧ n ≤ m := ⟨k - 1, by omega, by omega⟩
theorem drop_nil' {α : Type} {l : List α} {i : Nat} (h : l.drop i = []) : l.length ≤ i := List.drop_eq_nil_iff.1 h
theorem drop_cons' {α : Type} {l : List α} {i : Nat} {x : α} {t : List α} (h : l.drop i = x :: t) : i < l.length ∧ l.drop (i + 1) = t ∧ (∀ d, l.getD i d = x) ∧ l.length = i + 1 + t.length := by
  have hl := congrArg List.length h
  rw [List.length_drop, List.length_cons] at hl
  refine ⟨by omega, ?_, fun d => ?_, by omega⟩
  · rw [← List.drop_drop, h]; rfl
  · have : l[i]? = some x := by rw [← List.head?_drop, h]; rfl
    rw [List.getD_eq_getElem?_getD, this]; rfl
theorem w64 {x : Int} (h0 : -9223372036854775808 ≤ x) (h1 : x ≤ 9223372036854775807) : wrap64 x = x := by unfold wrap64; omega
theorem w64s {i n : Nat} (h : i < n) (hn : n ≤ 9223372036854775807) : wrap64 ((i : Int) + 1) = ((i + 1 : Nat) : Int) := by rw [w64 (by omega) (by omega)]; rfl
theorem big_k (P : Nat → Prop) (h : ∀ k, 1099511627776 ≤ k → P k) : ∃ k, P k := ⟨1099511627776, h _ (Nat.le_refl _)⟩
/-- A step of a chain, by an equation (never by unfolding: the kernel would compute). -/
theorem ob {α β : Type} {o : Option α} {a : α} {f : α → Option β} (h : o = some a) : o.bind f = f a := by subst h; rfl
theorem obs {α β : Type} {a : α} {f : α → Option β} : (some a).bind f = f a := ob (o := some a) (a := a) (f := f) rfl
theorem rdR (l : List S124) (i : Nat) : rd_T124 l (i : Int) = l.getD i z124 := rfl
theorem rdLR (l : List S126) (i : Nat) : rd_T126 l (i : Int) = l.getD i z126 := rfl
def cvRow (x : S126) : S124 := ⟨x.f0, x.f1, x.f2⟩
theorem szRowS_neg (l : List S126) (n : Int) (h0 : 0 ≤ n) (h1 : n ≤ 1048576) (hl : l.length ≤ maxLen) (h : n - l.length < 0) : laws_szRowS.f l n = some (-1) := by
  have hl' : l.length ≤ 9223372036854775807 := hl
  unfold laws_szRowS.f
  rw [w64 (by omega) (by omega), if_pos h]
theorem szRowS_pos (l : List S126) (n : Int) (h0 : 0 ≤ n) (h1 : n ≤ 1048576) (h : ¬ n - l.length < 0) : laws_szRowS.f l n = some (n - l.length) := by
  unfold laws_szRowS.f
  rw [w64 (by omega) (by omega), if_neg h]
theorem toRowS_l0 (l : List S126) (hl : l.length ≤ 1048576) : ∀ (s : List S126) (k i : Nat) (acc : List S124), l.drop i = s → acc.length = l.length → s.length < k → laws_toRowS.l0 k l acc (i : Int) = some (acc.take i ++ s.map cvRow) := by
  intro s
  induction s with
  | nil =>
    intro k i acc hd ha hk
    obtain ⟨k, rfl, -⟩ := succ_of hk
    have := drop_nil' hd
    simp only [laws_toRowS.l0]
    rw [if_neg (by omega), List.take_of_length_le (by omega)]
    simp
  | cons x t ih =>
    intro k i acc hd ha hk
    obtain ⟨k, rfl, hk'⟩ := succ_of hk
    obtain ⟨hi, hd', hx, -⟩ := drop_cons' hd
    simp only [List.length_cons] at hk'
    simp only [laws_toRowS.l0, laws_toRow.f, Option.bind_some]
    rw [if_pos (by omega), if_pos (by omega), if_pos (by omega), w64s hi (by omega), rdLR, hx, ih _ _ _ hd' (by simp [ha]) (by omega)]
    congr 1
    simp only [Int.toNat_natCast, List.map_cons]
    rw [List.take_succ_eq_append_getElem (by simp; omega), List.take_set_of_le (Nat.le_refl _)]
    simp [cvRow]
theorem toRowS_eq (l : List S126) (hl : l.length ≤ 1048576) (k : Nat) (hk : 2000000 ≤ k) : laws_toRowS.f k l = some (l.map cvRow) := by
  unfold laws_toRowS.f
  rw [if_pos (by omega), if_pos (by simp; omega)]
  have := toRowS_l0 l hl l k 0 (List.replicate l.length z124) rfl (by simp) (by omega)
  simpa using this
theorem eqRowS_l0 (l : List S124) (hl : l.length ≤ 9223372036854775807) : ∀ (s : List S124) (k i : Nat), l.drop i = s → s.length < k → laws_eqRowS.l0 k l l (i : Int) = some true := by
  intro s
  induction s with
  | nil =>
    intro k i hd hk
    obtain ⟨k, rfl, -⟩ := succ_of hk
    have := drop_nil' hd
    simp only [laws_eqRowS.l0]
    rw [if_neg (by omega)]
  | cons x t ih =>
    intro k i hd hk
    obtain ⟨k, rfl, hk'⟩ := succ_of hk
    obtain ⟨hi, hd', hx, -⟩ := drop_cons' hd
    simp only [List.length_cons] at hk'
    simp only [laws_eqRowS.l0, laws_eqRow.f, if_true, Option.bind_some]
    rw [if_pos (by omega), if_pos (by omega), if_pos (by omega), w64s hi (by omega), ih _ _ hd' (by omega)]
theorem eqRowS_refl (l : List S124) (hl : l.length ≤ 1048576) (k : Nat) (hk : 2000000 ≤ k) : laws_eqRowS.f k l l = some true := by
  unfold laws_eqRowS.f
  rw [if_pos rfl]
  exact eqRowS_l0 l (by omega) l k 0 rfl (by omega)
def validR (x : S124) : Bool := decide ((0 ≤ x.f0 ∧ x.f0 ≤ 9) ∧ (0 ≤ x.f1 ∧ x.f1 ≤ 99) ∧ (0 ≤ x.f2 ∧ x.f2 ≤ 3))
theorem impl_within_eq (a b c : Int) : impl_within.f a b c = some (decide (b ≤ a ∧ a ≤ c)) := by
  unfold impl_within.f
  by_cases h : a ≥ b
  · rw [if_pos h]; congr 1; simp only [decide_eq_decide]; constructor <;> intro h2 <;> omega
  · rw [if_neg h]; congr 1; symm; simp only [decide_eq_false_iff_not]; omega
theorem spec_l1In_eq (a b c : Int) : spec_l1In.f a b c = some (decide (b ≤ a ∧ a ≤ c)) := by
  unfold spec_l1In.f
  by_cases h : a ≥ b
  · rw [if_pos h]; congr 1; simp only [decide_eq_decide]; constructor <;> intro h2 <;> omega
  · rw [if_neg h]; congr 1; symm; simp only [decide_eq_false_iff_not]; omega
theorem validR_of (x y z : Int) : (if decide (0 ≤ x ∧ x ≤ 9) = true then (if decide (0 ≤ y ∧ y ≤ 99) = true then (some (decide (0 ≤ z ∧ z ≤ 3))) else some false) else some false) = some (validR ⟨x, y, z⟩) := by
  unfold validR
  by_cases h1 : 0 ≤ x ∧ x ≤ 9 <;> by_cases h2 : 0 ≤ y ∧ y ≤ 99 <;> simp [h1, h2]
theorem impl_IsValidRow_eq (x y z : Int) : impl_IsValidRow.f x y z = some (validR ⟨x, y, z⟩) := by
  unfold impl_IsValidRow.f
  simp only [impl_within_eq, Option.bind_some]
  exact validR_of x y z
theorem impl_IsValidRow_eq' (x : S124) : impl_IsValidRow.f x.f0 x.f1 x.f2 = some (validR x) := impl_IsValidRow_eq _ _ _
theorem spec_IsValidRow_eq (x y z : Int) : spec_IsValidRow.f x y z = some (validR ⟨x, y, z⟩) := by
  unfold spec_IsValidRow.f
  simp only [spec_l1In_eq, Option.bind_some]
  exact validR_of x y z
theorem spec_IsValidRow_eq' (x : S124) : spec_IsValidRow.f x.f0 x.f1 x.f2 = some (validR x) := spec_IsValidRow_eq _ _ _
def vRows (l : List S124) : Bool := decide (l.length ≤ 24) && l.all validR
theorem spec_AreValidRows_l0 (l : List S124) (hl : l.length ≤ 1000000000) : ∀ (s : List S124) (k i : Nat), l.drop i = s → s.length < k → spec_AreValidRows.l0 k l (i : Int) = some (s.all validR && decide (l.length ≤ 24)) := by
  intro s
  induction s with
  | nil =>
    intro k i hd hk
    obtain ⟨k, rfl, -⟩ := succ_of hk
    have := drop_nil' hd
    simp only [spec_AreValidRows.l0]
    rw [if_neg (by omega)]
    simp
    omega
  | cons x t ih =>
    intro k i hd hk
    obtain ⟨k, rfl, hk'⟩ := succ_of hk
    obtain ⟨hi, hd', hx, -⟩ := drop_cons' hd
    simp only [List.length_cons] at hk'
    simp only [spec_AreValidRows.l0]
    rw [if_pos (by omega), if_pos (by omega), rdR, hx, ob (spec_IsValidRow_eq' x), w64s hi (by omega), ih _ _ hd' (by omega)]
    cases h : validR x <;> simp [h]
theorem spec_AreValidRows_eq (l : List S124) (k : Nat) (hl : l.length ≤ 1000000000) (hk : 2000000000 ≤ k) : spec_AreValidRows.f k l = some (vRows l) := by
  have := spec_AreValidRows_l0 l hl l k 0 rfl (by omega)
  unfold spec_AreValidRows.f vRows
  rw [Bool.and_comm]
  simpa using this
theorem impl_allValid_l0 (l : List S124) (hl : l.length ≤ 1000000000) : ∀ (s : List S124) (k i : Nat), l.drop i = s → s.length < k → impl_allValid.l0 k l (l.length : Int) (i : Int) = some (s.all validR) := by
  intro s
  induction s with
  | nil =>
    intro k i hd hk
    obtain ⟨k, rfl, -⟩ := succ_of hk
    have := drop_nil' hd
    simp only [impl_allValid.l0]
    rw [if_neg (by omega)]
    simp
  | cons x t ih =>
    intro k i hd hk
    obtain ⟨k, rfl, hk'⟩ := succ_of hk
    obtain ⟨hi, hd', hx, -⟩ := drop_cons' hd
    simp only [List.length_cons] at hk'
    simp only [impl_allValid.l0]
    rw [if_pos (by omega), if_pos (by omega), if_pos (by omega), rdR, hx, ob (impl_IsValidRow_eq' x), w64s hi (by omega), ih _ _ hd' (by omega)]
    cases h : validR x <;> simp [h]
theorem impl_AreValidRows_eq (l : List S124) (k : Nat) (hl : l.length ≤ 1000000000) (hk : 2000000000 ≤ k) : impl_AreValidRows.f k l = some (vRows l) := by
  have := impl_allValid_l0 l hl l k 0 rfl (by omega)
  unfold impl_AreValidRows.f vRows
  by_cases h : l.length ≤ 24
  · rw [if_pos (by omega)]
    have e : impl_allValid.f k l = some (l.all validR) := by unfold impl_allValid.f; simpa using this
    rw [ob e]
    simp [h]
  · rw [if_neg (by omega)]
    simp [h]
theorem toBoolS_l0 (l : List Bool) (hl : l.length ≤ 1048576) : ∀ (s : List Bool) (k i : Nat) (acc : List Bool), l.drop i = s → acc.length = l.length → s.length < k → laws_toBoolS.l0 k l acc (i : Int) = some (acc.take i ++ s) := by
  intro s
  induction s with
  | nil =>
    intro k i acc hd ha hk
    obtain ⟨k, rfl, -⟩ := succ_of hk
    have := drop_nil' hd
    simp only [laws_toBoolS.l0]
    rw [if_neg (by omega), List.take_of_length_le (by omega)]
    simp
  | cons x t ih =>
    intro k i acc hd ha hk
    obtain ⟨k, rfl, hk'⟩ := succ_of hk
    obtain ⟨hi, hd', hx, -⟩ := drop_cons' hd
    simp only [List.length_cons] at hk'
    have hr : rdOf false l (i : Int) = x := hx false
    simp only [laws_toBoolS.l0]
    rw [if_pos (by omega), if_pos (by omega), if_pos (by omega), w64s hi (by omega), hr, ih _ _ _ hd' (by simp [ha]) (by omega)]
    congr 1
    simp only [Int.toNat_natCast]
    rw [List.take_succ_eq_append_getElem (by simp; omega), List.take_set_of_le (Nat.le_refl _)]
    simp
theorem toBoolS_eq (l : List Bool) (k : Nat) (hl : l.length ≤ 1048576) (hk : 2000000000 ≤ k) : laws_toBoolS.f k l = some l := by
  unfold laws_toBoolS.f
  rw [if_pos (by omega), if_pos (by simp; omega)]
  have := toBoolS_l0 l hl l k 0 (List.replicate l.length false) rfl (by simp) (by omega)
  simpa using this
theorem szBoolS_neg (l : List Bool) (n : Int) (h0 : 0 ≤ n) (h1 : n ≤ 1048576) (hl : l.length ≤ maxLen) (h : n - l.length < 0) : laws_szBoolS.f l n = some (-1) := by
  have hl' : l.length ≤ 9223372036854775807 := hl
  unfold laws_szBoolS.f
  rw [w64 (by omega) (by omega), if_pos h]
theorem szBoolS_pos (l : List Bool) (n : Int) (h0 : 0 ≤ n) (h1 : n ≤ 1048576) (h : ¬ n - l.length < 0) : laws_szBoolS.f l n = some (n - l.length) := by
  unfold laws_szBoolS.f
  rw [w64 (by omega) (by omega), if_neg h]
theorem toRowS_eq' (l : List S126) (k : Nat) (hl : l.length ≤ 1048576) (hk : 2000000000 ≤ k) : laws_toRowS.f k l = some (l.map cvRow) := toRowS_eq l hl k (by omega)
theorem eqRowS_refl' (l : List S124) (k : Nat) (hl : l.length ≤ 1048576) (hk : 2000000000 ≤ k) : laws_eqRowS.f k l l = some true := eqRowS_refl l hl k (by omega)
/-- The law's count of a task: too much, or what is left. -/
theorem szTask_eq (a : Int) (l1 l2 : List S126) (l3 : List Bool) (b n : Int) (h0 : 0 ≤ n) (h1 : n ≤ 1048576) (g1 : l1.length ≤ maxLen) (g2 : l2.length ≤ maxLen) (g3 : l3.length ≤ maxLen) :
    laws_szTask.f a l1 l2 l3 b n = some (-1) ∨ (laws_szTask.f a l1 l2 l3 b n = some (n - l1.length - l2.length - l3.length) ∧ (l1.length : Int) + l2.length + l3.length ≤ n) := by
  unfold laws_szTask.f
  by_cases c1 : n - l1.length < 0
  · left; rw [ob (szRowS_neg l1 n h0 h1 g1 c1), if_pos (by omega)]
  rw [ob (szRowS_pos l1 n h0 h1 c1), if_neg c1]
  by_cases c2 : n - l1.length - l2.length < 0
  · left; rw [ob (szRowS_neg l2 _ (by omega) (by omega) g2 c2), if_pos (by omega)]
  rw [ob (szRowS_pos l2 _ (by omega) (by omega) c2), if_neg c2]
  by_cases c3 : n - l1.length - l2.length - l3.length < 0
  · left; rw [ob (szBoolS_neg l3 _ (by omega) (by omega) g3 c3), if_pos (by omega)]
  right
  rw [ob (szBoolS_pos l3 _ (by omega) (by omega) c3), if_neg c3]
  exact ⟨rfl, by omega⟩
theorem toTask_eq (a : Int) (l1 l2 : List S126) (l3 : List Bool) (b : Int) (k : Nat) (h1 : l1.length ≤ 1048576) (h2 : l2.length ≤ 1048576) (h3 : l3.length ≤ 1048576) (hk : 2000000000 ≤ k) :
    laws_toTask.f k a l1 l2 l3 b = some (a, l1.map cvRow, l2.map cvRow, l3, b) := by
  unfold laws_toTask.f
  rw [ob (toRowS_eq' l1 k h1 hk), ob (toRowS_eq' l2 k h2 hk), ob (toBoolS_eq l3 k h3 hk)]
theorem eqBoolS_l0 (l : List Bool) (hl : l.length ≤ 9223372036854775807) : ∀ (s : List Bool) (k i : Nat), l.drop i = s → s.length < k → laws_eqBoolS.l0 k l l (i : Int) = some true := by
  intro s
  induction s with
  | nil =>
    intro k i hd hk
    obtain ⟨k, rfl, -⟩ := succ_of hk
    have := drop_nil' hd
    simp only [laws_eqBoolS.l0]
    rw [if_neg (by omega)]
  | cons x t ih =>
    intro k i hd hk
    obtain ⟨k, rfl, hk'⟩ := succ_of hk
    obtain ⟨hi, hd', hx, -⟩ := drop_cons' hd
    simp only [List.length_cons] at hk'
    simp only [laws_eqBoolS.l0]
    rw [if_pos (by omega), if_pos (by omega), if_pos (by omega), if_neg (by simp), w64s hi (by omega), ih _ _ hd' (by omega)]
theorem eqBoolS_refl (l : List Bool) (k : Nat) (hl : l.length ≤ 1048576) (hk : 2000000000 ≤ k) : laws_eqBoolS.f k l l = some true := by
  unfold laws_eqBoolS.f
  rw [if_pos rfl]
  exact eqBoolS_l0 l (by omega) l k 0 rfl (by omega)
theorem eqTask_refl (a : Int) (l1 l2 : List S124) (l3 : List Bool) (b : Int) (k : Nat) (h1 : l1.length ≤ 1048576) (h2 : l2.length ≤ 1048576) (h3 : l3.length ≤ 1048576) (hk : 2000000000 ≤ k) :
    laws_eqTask.f k a l1 l2 l3 b a l1 l2 l3 b = some true := by
  unfold laws_eqTask.f
  rw [if_pos rfl, ob (eqRowS_refl' l1 k h1 hk), if_pos rfl, ob (eqRowS_refl' l2 k h2 hk), if_pos rfl, ob (eqBoolS_refl l3 k h3 hk), if_pos rfl, if_pos rfl]
def vTask (a : Int) (l1 l2 : List S124) (l3 : List Bool) (b : Int) : Bool := decide (1 ≤ a ∧ a ≤ 4) && (vRows l1 && (vRows l2 && (decide (l3.length = l1.length) && decide (0 ≤ b ∧ b ≤ 4))))
theorem spec_IsValidTask_eq (a : Int) (l1 l2 : List S124) (l3 : List Bool) (b : Int) (k : Nat) (h1 : l1.length ≤ 1000000000) (h2 : l2.length ≤ 1000000000) (hk : 2000000000 ≤ k) : spec_IsValidTask.f k a l1 l2 l3 b = some (vTask a l1 l2 l3 b) := by
  unfold spec_IsValidTask.f vTask spec_IsValidJoinKind.f
  rw [ob (spec_l1In_eq a 1 4), ob rfl, ob (spec_AreValidRows_eq l1 k h1 hk), ob (spec_AreValidRows_eq l2 k h2 hk), ob (spec_l1In_eq b 0 4)]
  generalize decide (1 ≤ a ∧ a ≤ 4) = p
  generalize decide (0 ≤ b ∧ b ≤ 4) = q
  by_cases c4 : l3.length = l1.length
  · have c5 : (l3.length : Int) = l1.length := by omega
    cases p <;> cases vRows l1 <;> cases vRows l2 <;> simp [c4]
  · have c5 : ¬ (l3.length : Int) = l1.length := by omega
    cases p <;> cases vRows l1 <;> cases vRows l2 <;> simp [c4, c5]
theorem impl_IsValidTask_eq (a : Int) (l1 l2 : List S124) (l3 : List Bool) (b : Int) (k : Nat) (h1 : l1.length ≤ 1000000000) (h2 : l2.length ≤ 1000000000) (hk : 2000000000 ≤ k) : impl_IsValidTask.f k a l1 l2 l3 b = some (vTask a l1 l2 l3 b) := by
  unfold impl_IsValidTask.f vTask impl_IsValidJoinKind.f
  rw [ob (impl_within_eq a 1 4), ob rfl, ob (impl_AreValidRows_eq l1 k h1 hk), ob (impl_AreValidRows_eq l2 k h2 hk), ob (impl_within_eq b 0 4)]
  generalize decide (1 ≤ a ∧ a ≤ 4) = p
  generalize decide (0 ≤ b ∧ b ≤ 4) = q
  by_cases c4 : l3.length = l1.length
  · have c5 : (l3.length : Int) = l1.length := by omega
    cases p <;> cases vRows l1 <;> cases vRows l2 <;> simp [c4]
  · have c5 : ¬ (l3.length : Int) = l1.length := by omega
    cases p <;> cases vRows l1 <;> cases vRows l2 <;> simp [c4, c5]

def cvTask (x : S32) : S37 := ⟨x.f0, x.f1.map cvRow, x.f2.map cvRow, x.f3, x.f4⟩
def szT (x : S32) : Nat := x.f1.length + x.f2.length + x.f3.length
def szTs : List S32 → Nat
  | [] => 0
  | x :: t => szT x + szTs t
def fineT (x : S32) : Prop := x.f1.length ≤ maxLen ∧ x.f2.length ≤ maxLen ∧ x.f3.length ≤ maxLen
def smallT (n : Nat) (x : S37) : Prop := x.f1.length ≤ n ∧ x.f2.length ≤ n ∧ x.f3.length ≤ n
def smallL (n : Nat) (x : S32) : Prop := x.f1.length ≤ n ∧ x.f2.length ≤ n ∧ x.f3.length ≤ n
theorem rdT (l : List S37) (i : Nat) : rd_T37 l (i : Int) = l.getD i z37 := rfl
theorem rdLT (l : List S32) (i : Nat) : rd_T32 l (i : Int) = l.getD i z32 := rfl
theorem szTs_small : ∀ (l : List S32) (n : Nat), szTs l ≤ n → ∀ x ∈ l, smallL n x
  | [], _, _, _, h => by cases h
  | y :: t, n, hn, x, h => by
    simp only [szTs, szT] at hn
    rcases List.mem_cons.1 h with rfl | h
    · exact ⟨by omega, by omega, by omega⟩
    · exact szTs_small t n (by omega) x h
theorem cv_small {n : Nat} {l : List S32} (h : ∀ x ∈ l, smallL n x) : ∀ x ∈ l.map cvTask, smallT n x := by
  intro x hx
  obtain ⟨y, hy, rfl⟩ := List.mem_map.1 hx
  obtain ⟨a, b, c⟩ := h y hy
  exact ⟨by simpa [cvTask] using a, by simpa [cvTask] using b, c⟩
theorem szTaskS_l0 (l : List S32) (hl : l.length ≤ 1048576) : ∀ (s : List S32) (k i : Nat) (n : Int), l.drop i = s → (∀ x ∈ s, fineT x) → s.length < k → 0 ≤ n → n ≤ 1048576 → laws_szTaskS.l0 k l n (i : Int) = some (-1) ∨ (laws_szTaskS.l0 k l n (i : Int) = some (n - szTs s) ∧ (szTs s : Int) ≤ n) := by
  intro s
  induction s with
  | nil =>
    intro k i n hd hf hk h0 h1
    obtain ⟨k, rfl, -⟩ := succ_of hk
    have := drop_nil' hd
    right
    simp only [laws_szTaskS.l0, szTs]
    rw [if_neg (by omega)]
    exact ⟨by simp, by omega⟩
  | cons x t ih =>
    intro k i n hd hf hk h0 h1
    obtain ⟨k, rfl, hk'⟩ := succ_of hk
    obtain ⟨hi, hd', hx, -⟩ := drop_cons' hd
    simp only [List.length_cons] at hk'
    obtain ⟨f1, f2, f3⟩ := hf x (List.mem_cons_self ..)
    simp only [laws_szTaskS.l0]
    rw [if_pos (by omega), if_pos (by omega), rdLT, hx, w64s hi (by omega)]
    rcases szTask_eq x.f0 x.f1 x.f2 x.f3 x.f4 n h0 h1 f1 f2 f3 with e | ⟨e, h⟩
    · left; rw [ob e, if_pos (by omega)]
    · rw [ob e, if_neg (by omega)]
      rcases ih k (i + 1) (n - x.f1.length - x.f2.length - x.f3.length) hd' (fun y hy => hf y (List.mem_cons_of_mem _ hy)) (by omega) (by omega) (by omega) with e' | ⟨e', h'⟩
      · exact .inl e'
      · right
        refine ⟨e'.trans (congrArg some ?_), ?_⟩ <;> simp only [szTs, szT] <;> omega
theorem szTaskS_eq (l : List S32) (n : Int) (k : Nat) (hg : l.length ≤ maxLen) (hf : ∀ x ∈ l, fineT x) (h0 : 0 ≤ n) (h1 : n ≤ 1048576) (hk : 2000000000 ≤ k) : laws_szTaskS.f k l n = some (-1) ∨ (laws_szTaskS.f k l n = some (n - l.length - szTs l) ∧ (l.length : Int) + szTs l ≤ n) := by
  have hg' : l.length ≤ 9223372036854775807 := hg
  unfold laws_szTaskS.f
  rw [w64 (by omega) (by omega)]
  by_cases c : n - l.length < 0
  · left; rw [if_pos c]
  · rw [if_neg c]
    rcases szTaskS_l0 l (by omega) l k 0 (n - l.length) rfl hf (by omega) (by omega) (by omega) with e | ⟨e, h⟩
    · exact .inl e
    · exact .inr ⟨e, by omega⟩
theorem szJoiner_eq (l : List S32) (a b n : Int) (k : Nat) (hg : l.length ≤ maxLen) (hf : ∀ x ∈ l, fineT x) (h0 : 0 ≤ n) (h1 : n ≤ 1048576) (hk : 2000000000 ≤ k) : laws_szJoiner.f k l a b n = some (-1) ∨ (laws_szJoiner.f k l a b n = some (n - l.length - szTs l) ∧ (l.length : Int) + szTs l ≤ n) := by
  unfold laws_szJoiner.f
  rcases szTaskS_eq l n k hg hf h0 h1 hk with e | ⟨e, h⟩
  · left; rw [ob e, if_pos (by omega)]
  · right; rw [ob e, if_neg (by omega)]; exact ⟨rfl, h⟩
theorem toTaskS_l0 (l : List S32) (hl : l.length ≤ 1048576) : ∀ (s : List S32) (k i : Nat) (acc : List S37), l.drop i = s → (∀ x ∈ s, smallL 1048576 x) → acc.length = l.length → 2000000000 + s.length < k → laws_toTaskS.l0 k l acc (i : Int) = some (acc.take i ++ s.map cvTask) := by
  intro s
  induction s with
  | nil =>
    intro k i acc hd hf ha hk
    obtain ⟨k, rfl, -⟩ := succ_of hk
    have := drop_nil' hd
    simp only [laws_toTaskS.l0]
    rw [if_neg (by omega), List.take_of_length_le (by omega)]
    simp
  | cons x t ih =>
    intro k i acc hd hf ha hk
    obtain ⟨k, rfl, hk'⟩ := succ_of hk
    obtain ⟨hi, hd', hx, -⟩ := drop_cons' hd
    simp only [List.length_cons] at hk'
    obtain ⟨f1, f2, f3⟩ := hf x (List.mem_cons_self ..)
    simp only [laws_toTaskS.l0]
    rw [if_pos (by omega), if_pos (by omega), rdLT, hx, ob (toTask_eq x.f0 x.f1 x.f2 x.f3 x.f4 k f1 f2 f3 (by omega)), if_pos (by omega), w64s hi (by omega), ih _ _ _ hd' (fun y hy => hf y (List.mem_cons_of_mem _ hy)) (by simp [ha]) (by omega)]
    congr 1
    simp only [Int.toNat_natCast, List.map_cons]
    rw [List.take_succ_eq_append_getElem (by simp; omega), List.take_set_of_le (Nat.le_refl _)]
    simp [cvTask]
theorem toTaskS_eq (l : List S32) (k : Nat) (hl : l.length ≤ 1048576) (hf : ∀ x ∈ l, smallL 1048576 x) (hk : 3000000000 ≤ k) : laws_toTaskS.f k l = some (l.map cvTask) := by
  unfold laws_toTaskS.f
  rw [if_pos (by omega), if_pos (by simp; omega)]
  have := toTaskS_l0 l hl l k 0 (List.replicate l.length z37) rfl hf (by simp) (by omega)
  simpa using this
theorem toJoiner_eq (l : List S32) (a b : Int) (k : Nat) (hl : l.length ≤ 1048576) (hf : ∀ x ∈ l, smallL 1048576 x) (hk : 3000000000 ≤ k) : laws_toJoiner.f k l a b = some (l.map cvTask, a, b) := by
  unfold laws_toJoiner.f
  rw [ob (toTaskS_eq l k hl hf hk)]
theorem eqTaskS_l0 (l : List S37) (hl : l.length ≤ 1000000000) : ∀ (s : List S37) (k i : Nat), l.drop i = s → (∀ x ∈ s, smallT 1048576 x) → 2000000000 + s.length < k → laws_eqTaskS.l0 k l l (i : Int) = some true := by
  intro s
  induction s with
  | nil =>
    intro k i hd hf hk
    obtain ⟨k, rfl, -⟩ := succ_of hk
    have := drop_nil' hd
    simp only [laws_eqTaskS.l0]
    rw [if_neg (by omega)]
  | cons x t ih =>
    intro k i hd hf hk
    obtain ⟨k, rfl, hk'⟩ := succ_of hk
    obtain ⟨hi, hd', hx, -⟩ := drop_cons' hd
    simp only [List.length_cons] at hk'
    obtain ⟨f1, f2, f3⟩ := hf x (List.mem_cons_self ..)
    simp only [laws_eqTaskS.l0]
    rw [if_pos (by omega), if_pos (by omega), if_pos (by omega), rdT, hx, ob (eqTask_refl x.f0 x.f1 x.f2 x.f3 x.f4 k f1 f2 f3 (by omega)), if_pos rfl, w64s hi (by omega), ih _ _ hd' (fun y hy => hf y (List.mem_cons_of_mem _ hy)) (by omega)]
theorem eqTaskS_refl' (l : List S37) (k : Nat) (hl : l.length ≤ 1048576) (hf : ∀ x ∈ l, smallT 1048576 x) (hk : 3000000000 ≤ k) : laws_eqTaskS.f k l l = some true := by
  unfold laws_eqTaskS.f
  rw [if_pos rfl]
  exact eqTaskS_l0 l (by omega) l k 0 rfl hf (by omega)
theorem eqJoiner_refl (l : List S37) (a b : Int) (k : Nat) (hl : l.length ≤ 1048576) (hf : ∀ x ∈ l, smallT 1048576 x) (hk : 3000000000 ≤ k) : laws_eqJoiner.f k l a b l a b = some true := by
  unfold laws_eqJoiner.f
  rw [ob (eqTaskS_refl' l k hl hf hk), if_pos rfl, if_pos rfl, if_pos rfl]
def lefts : List S37 → Nat
  | [] => 0
  | x :: t => x.f1.length + lefts t
def rights : List S37 → Nat
  | [] => 0
  | x :: t => x.f2.length + rights t
theorem lefts_cons (x : S37) (t : List S37) : lefts (x :: t) = x.f1.length + lefts t := rfl
theorem rights_cons (x : S37) (t : List S37) : rights (x :: t) = x.f2.length + rights t := rfl
theorem lr_sz : ∀ (l : List S32), lefts (l.map cvTask) + rights (l.map cvTask) ≤ szTs l
  | [] => Nat.le_refl _
  | x :: t => by
    have := lr_sz t
    have e1 : (cvTask x).f1.length = x.f1.length := List.length_map ..
    have e2 : (cvTask x).f2.length = x.f2.length := List.length_map ..
    rw [List.map_cons, lefts_cons, rights_cons, e1, e2]
    simp only [szTs, szT]
    omega
def vT (x : S37) : Bool := vTask x.f0 x.f1 x.f2 x.f3 x.f4
def oneK (y x : S37) : Bool := vT x && decide (x.f0 = y.f0)
def vJ (l : List S37) (a b : Int) : Bool := l.all (oneK (l.getD 0 z37)) && (decide ((lefts l : Int) ≤ 24) && (decide ((rights l : Int) ≤ 24) && (decide ((l.length : Int) ≤ 40) && (decide (0 ≤ a ∧ a ≤ 100000) && decide (0 ≤ b ∧ b ≤ 1000)))))
theorem spec_IsValidJoiner_l0 (l : List S37) (a b : Int) (hl : l.length ≤ 1000000000) : ∀ (s : List S37) (k i : Nat) (n m : Int), l.drop i = s → (∀ x ∈ s, smallT 1048576 x) → 2000000000 + s.length < k → 0 ≤ n → 0 ≤ m → n + lefts s ≤ 1000000000000 → m + rights s ≤ 1000000000000 →
    spec_IsValidJoiner.l0 k n m (i : Int) l a b = some (s.all (oneK (l.getD 0 z37)) && (decide (n + lefts s ≤ 24) && (decide (m + rights s ≤ 24) && (decide ((l.length : Int) ≤ 40) && (decide (0 ≤ a ∧ a ≤ 100000) && decide (0 ≤ b ∧ b ≤ 1000)))))) := by
  intro s
  induction s with
  | nil =>
    intro k i n m hd hf hk h0 h1 h2 h3
    obtain ⟨k, rfl, -⟩ := succ_of hk
    have := drop_nil' hd
    simp only [spec_IsValidJoiner.l0]
    rw [if_neg (by omega), ob (spec_l1In_eq a 0 100000), ob (spec_l1In_eq b 0 1000)]
    simp only [List.all_nil, Bool.true_and]
    rw [show lefts [] = 0 from rfl, show rights [] = 0 from rfl]
    by_cases c1 : n ≤ 24
    · rw [if_pos c1, decide_eq_true (p := n + ((0 : Nat) : Int) ≤ 24) (by omega)]
      by_cases c2 : m ≤ 24
      · rw [if_pos c2, decide_eq_true (p := m + ((0 : Nat) : Int) ≤ 24) (by omega)]
        by_cases c3 : (l.length : Int) ≤ 40
        · rw [if_pos c3, decide_eq_true c3]
          cases decide (0 ≤ a ∧ a ≤ 100000) <;> simp
        · rw [if_neg c3, decide_eq_false c3]; simp
      · rw [if_neg c2, decide_eq_false (p := m + ((0 : Nat) : Int) ≤ 24) (by omega)]; simp
    · rw [if_neg c1, decide_eq_false (p := n + ((0 : Nat) : Int) ≤ 24) (by omega)]; simp
  | cons x t ih =>
    intro k i n m hd hf hk h0 h1 h2 h3
    obtain ⟨k, rfl, hk'⟩ := succ_of hk
    obtain ⟨hi, hd', hx, -⟩ := drop_cons' hd
    simp only [List.length_cons, lefts_cons, rights_cons] at hk' h2 h3
    obtain ⟨f1, f2, f3⟩ := hf x (List.mem_cons_self ..)
    have he : rd_T37 l 0 = l.getD 0 z37 := rfl
    simp only [spec_IsValidJoiner.l0]
    rw [if_pos (by omega), if_pos (by omega), rdT, hx, ob (spec_IsValidTask_eq x.f0 x.f1 x.f2 x.f3 x.f4 k (by omega) (by omega) (by omega)), if_pos (show (0 : Int) < l.length by omega), w64s hi (by omega), w64 (by omega) (by omega), w64 (by omega) (by omega), ih _ _ _ _ hd' (fun y hy => hf y (List.mem_cons_of_mem _ hy)) (by omega) (by omega) (by omega) (by omega) (by omega), he, List.all_cons, lefts_cons, rights_cons]
    rw [show n + x.f1.length + lefts t = n + ((x.f1.length + lefts t : Nat) : Int) by omega, show m + x.f2.length + rights t = m + ((x.f2.length + rights t : Nat) : Int) by omega]
    unfold oneK vT
    cases vTask x.f0 x.f1 x.f2 x.f3 x.f4
    · simp
    · by_cases c : x.f0 = (l.getD 0 z37).f0
      · rw [if_pos rfl, if_pos c, decide_eq_true c]; simp
      · rw [if_pos rfl, if_neg c, decide_eq_false c]; simp
theorem spec_IsValidJoiner_eq (l : List S37) (a b : Int) (k : Nat) (hl : l.length ≤ 100000000) (hf : ∀ x ∈ l, smallT 1048576 x) (h1 : lefts l ≤ 100000000) (h2 : rights l ≤ 100000000) (hk : 3000000000 ≤ k) : spec_IsValidJoiner.f k l a b = some (vJ l a b) := by
  have := spec_IsValidJoiner_l0 l a b (by omega) l k 0 0 0 rfl hf (by omega) (by omega) (by omega) (by omega) (by omega)
  unfold spec_IsValidJoiner.f vJ
  rw [Int.natCast_zero] at this
  simpa only [Int.zero_add] using this
theorem impl_IsValidJoiner_l0 (l : List S37) (a b : Int) (hl : l.length ≤ 1000000000) : ∀ (s : List S37) (k i : Nat) (n m : Int), l.drop i = s → (∀ x ∈ s, smallT 1048576 x) → 2000000000 + s.length < k → 0 ≤ n → 0 ≤ m → n + lefts s ≤ 1000000000000 → m + rights s ≤ 1000000000000 →
    impl_IsValidJoiner.l0 k n m l (l.length : Int) (i : Int) l a b = some (s.all (oneK (l.getD 0 z37)) && (decide (n + lefts s ≤ 24) && decide (m + rights s ≤ 24))) := by
  intro s
  induction s with
  | nil =>
    intro k i n m hd hf hk h0 h1 h2 h3
    obtain ⟨k, rfl, -⟩ := succ_of hk
    have := drop_nil' hd
    simp only [impl_IsValidJoiner.l0]
    rw [if_neg (by omega)]
    simp only [List.all_nil, Bool.true_and]
    rw [show lefts [] = 0 from rfl, show rights [] = 0 from rfl]
    by_cases c1 : n ≤ 24
    · rw [if_pos c1, decide_eq_true (p := n + ((0 : Nat) : Int) ≤ 24) (by omega)]
      simp
    · rw [if_neg c1, decide_eq_false (p := n + ((0 : Nat) : Int) ≤ 24) (by omega)]; simp
  | cons x t ih =>
    intro k i n m hd hf hk h0 h1 h2 h3
    obtain ⟨k, rfl, hk'⟩ := succ_of hk
    obtain ⟨hi, hd', hx, -⟩ := drop_cons' hd
    simp only [List.length_cons, lefts_cons, rights_cons] at hk' h2 h3
    obtain ⟨f1, f2, f3⟩ := hf x (List.mem_cons_self ..)
    have he : rd_T37 l 0 = l.getD 0 z37 := rfl
    simp only [impl_IsValidJoiner.l0]
    rw [if_pos (by omega), if_pos (by omega), if_pos (by omega), rdT, hx, ob (impl_IsValidTask_eq x.f0 x.f1 x.f2 x.f3 x.f4 k (by omega) (by omega) (by omega)), if_pos (show (0 : Int) < l.length by omega), w64s hi (by omega), w64 (by omega) (by omega), w64 (by omega) (by omega), ih _ _ _ _ hd' (fun y hy => hf y (List.mem_cons_of_mem _ hy)) (by omega) (by omega) (by omega) (by omega) (by omega), he, List.all_cons, lefts_cons, rights_cons]
    rw [show n + x.f1.length + lefts t = n + ((x.f1.length + lefts t : Nat) : Int) by omega, show m + x.f2.length + rights t = m + ((x.f2.length + rights t : Nat) : Int) by omega]
    unfold oneK vT
    cases vTask x.f0 x.f1 x.f2 x.f3 x.f4
    · simp
    · by_cases c : x.f0 = (l.getD 0 z37).f0
      · rw [if_pos rfl, if_pos c, decide_eq_true c]; simp
      · rw [if_pos rfl, if_neg c, decide_eq_false c]; simp
theorem impl_IsValidJoiner_eq (l : List S37) (a b : Int) (k : Nat) (hl : l.length ≤ 100000000) (hf : ∀ x ∈ l, smallT 1048576 x) (h1 : lefts l ≤ 100000000) (h2 : rights l ≤ 100000000) (hk : 4000000000 ≤ k) : impl_IsValidJoiner.f k l a b = some (vJ l a b) := by
  obtain ⟨k, rfl⟩ : ∃ m, k = m + 1 := ⟨k - 1, by omega⟩
  have := impl_IsValidJoiner_l0 l a b (by omega) l k 0 0 0 rfl hf (by omega) (by omega) (by omega) (by omega) (by omega)
  unfold impl_IsValidJoiner.f vJ
  rw [ob (impl_within_eq a 0 100000), ob (impl_within_eq b 0 1000)]
  simp only [impl_IsValidJoiner.j0]
  rw [Int.natCast_zero] at this
  rw [this]
  simp only [Int.zero_add]
  by_cases c : (l.length : Int) > 40
  · rw [if_pos c, decide_eq_false (p := (l.length : Int) ≤ 40) (by omega)]
    simp
  · rw [if_neg c, decide_eq_true (p := (l.length : Int) ≤ 40) (by omega)]
    cases decide (0 ≤ a ∧ a ≤ 100000) <;> cases decide (0 ≤ b ∧ b ≤ 1000) <;> simp

theorem w64u {x : Int} (h0 : 0 ≤ x) (h1 : x < 18446744073709551616) : IntKind.u64.wrap x = x := by
  simp only [IntKind.wrap, IntKind.signed, IntKind.bits, Bool.false_and, Bool.false_eq_true, if_false]
  omega
theorem w64n {x : Int} (h0 : -9223372036854775808 ≤ x) (h1 : x < 0) : IntKind.u64.wrap (-(IntKind.u64.wrap x)) = -x := by
  simp only [IntKind.wrap, IntKind.signed, IntKind.bits, Bool.false_and, Bool.false_eq_true, if_false]
  omega
def dig (n : Nat) : ByteArray := ⟨#[UInt8.ofNat (48 + n)]⟩
theorem dig_size (n : Nat) : (dig n).size = 1 := rfl
def dec (n : Nat) : ByteArray := if h : n < 10 then dig n else dec (n / 10) ++ dig (n % 10)
  termination_by n
theorem dec_lt {n : Nat} (h : n < 10) : dec n = dig n := by rw [dec]; exact dif_pos h
theorem dec_ge {n : Nat} (h : ¬ n < 10) : dec n = dec (n / 10) ++ dig (n % 10) := by rw [dec]; exact dif_neg h
theorem dec_size : ∀ (d n : Nat), n < 10 ^ (d + 1) → (dec n).size ≤ d + 1 ∧ 1 ≤ (dec n).size
  | 0, n, h => by rw [dec_lt (by omega), dig_size]; omega
  | d + 1, n, h => by
    by_cases c : n < 10
    · rw [dec_lt c, dig_size]; omega
    · have := dec_size d (n / 10) (by rw [Nat.pow_succ] at h; omega)
      rw [dec_ge c, ByteArray.size_append, dig_size]
      omega
theorem strDig (n : Nat) (h : n < 10) : strOfNums [wrap64 (48 + (n : Int)) % 256] = dig n := by
  rw [w64 (by omega) (by omega), show (48 + (n : Int)) % 256 = ((48 + n : Nat) : Int) by omega]
  rfl
theorem strDigU (n : Nat) (h : n < 10) : strOfNums [IntKind.u64.wrap (48 + (n : Int)) % 256] = dig n := by
  rw [w64u (by omega) (by omega), show (48 + (n : Int)) % 256 = ((48 + n : Nat) : Int) by omega]
  rfl
theorem impl_decimal_eq : ∀ (d n k : Nat), n < 10 ^ (d + 1) → n < 18446744073709551616 → d ≤ 30 → d < k → impl_decimal.f k (n : Int) = some (dec n) := by
  intro d
  induction d with
  | zero =>
    intro n k h h2 h3 hk
    obtain ⟨k, rfl, -⟩ := succ_of hk
    simp only [impl_decimal.f]
    rw [if_pos (by omega), strDigU n (by omega), dec_lt (by omega)]
  | succ d ih =>
    intro n k h h2 h3 hk
    obtain ⟨k, rfl, hk'⟩ := succ_of hk
    simp only [impl_decimal.f]
    by_cases c : n < 10
    · rw [if_pos (by omega), strDigU n c, dec_lt c]
    · have hp : n / 10 < 10 ^ (d + 1) := by rw [Nat.pow_succ] at h; omega
      have hs := dec_size d (n / 10) hp
      rw [if_neg (by omega), show Int.tdiv (n : Int) 10 = ((n / 10 : Nat) : Int) from rfl, w64u (x := ((n / 10 : Nat) : Int)) (by omega) (by omega), ob (ih (n / 10) k hp (by omega) (by omega) (by omega)), show Int.tmod (n : Int) 10 = ((n % 10 : Nat) : Int) from rfl, obs, strDigU (n % 10) (by omega), dig_size, if_pos (by omega), dec_ge c]
def neg1 (b : Bool) : ByteArray := if b = true then ⟨#[45]⟩ else ⟨#[]⟩
def fmtI (a : Int) : ByteArray := if a < 0 then (⟨#[45]⟩ : ByteArray) ++ dec (-a).toNat else dec a.toNat
theorem pow20 : 10 ^ (19 + 1) = 100000000000000000000 := by decide
theorem fmtI_size (a : Int) (h0 : -9223372036854775808 ≤ a) (h1 : a ≤ 9223372036854775807) : (fmtI a).size ≤ 21 ∧ 1 ≤ (fmtI a).size := by
  unfold fmtI
  split
  · have := dec_size 19 (-a).toNat (by rw [pow20]; omega)
    rw [ByteArray.size_append, show (⟨#[45]⟩ : ByteArray).size = 1 from rfl]; omega
  · have := dec_size 19 a.toNat (by rw [pow20]; omega)
    omega
theorem impl_FormatInt_eq (a : Int) (k : Nat) (h0 : -9223372036854775808 ≤ a) (h1 : a ≤ 9223372036854775807) (hk : 100 ≤ k) : impl_FormatInt.f k a = some (fmtI a) := by
  unfold impl_FormatInt.f fmtI
  by_cases c : a < 0
  · have e : -a = (((-a).toNat : Nat) : Int) := by omega
    have hp : (-a).toNat < 10 ^ (19 + 1) := by rw [pow20]; omega
    have hs := dec_size 19 (-a).toNat hp
    have hd := impl_decimal_eq 19 (-a).toNat k hp (by omega) (by omega) (by omega)
    rw [← e] at hd
    rw [if_pos c, if_pos c, w64n h0 c, ob hd, if_pos (by omega)]
  · have e : a = ((a.toNat : Nat) : Int) := by omega
    have hp : a.toNat < 10 ^ (19 + 1) := by rw [pow20]; omega
    have hd := impl_decimal_eq 19 a.toNat k hp (by omega) (by omega) (by omega)
    rw [← e] at hd
    rw [if_neg c, if_neg c, w64u (by omega) (by omega), ob hd]
def decz (n : Nat) : ByteArray := if n = 0 then ⟨#[]⟩ else dec n
theorem decz_pos {n : Nat} (h : n ≠ 0) : decz n = dec n := if_neg h
theorem decz_step (n : Nat) (h : n ≠ 0) (acc : ByteArray) : decz (n / 10) ++ (dig (n % 10) ++ acc) = decz n ++ acc := by
  unfold decz
  rw [if_neg h]
  by_cases c : n < 10
  · rw [if_pos (by omega), show n % 10 = n by omega, dec_lt c]
    exact ByteArray.empty_append
  · rw [if_neg (by omega), dec_ge c, ByteArray.append_assoc]
theorem spec_FormatInt_l0 : ∀ (d n k : Nat) (x : Int) (acc : ByteArray) (b : Bool), (x = (n : Int) ∨ x = -(n : Int)) → n < 10 ^ d → n ≤ 9223372036854775808 → d ≤ 30 → d < k → acc.size + d ≤ 1000 → spec_FormatInt.l0 k x acc b = some (neg1 b ++ (decz n ++ acc)) := by
  intro d
  induction d with
  | zero =>
    intro n k x acc b hx h h2 h3 hk ha
    obtain ⟨k, rfl, -⟩ := succ_of hk
    have hn : n = 0 := by simpa using h
    subst hn
    simp only [spec_FormatInt.l0, decz, neg1, if_true]
    rw [if_pos (by omega)]
    cases b
    · rw [if_neg (by simp), if_neg (by simp)]; exact congrArg some (ByteArray.empty_append.trans ByteArray.empty_append).symm
    · simp only [if_true]; rw [if_pos (by omega)]; exact congrArg some (congrArg _ ByteArray.empty_append.symm)
  | succ d ih =>
    intro n k x acc b hx h h2 h3 hk ha
    obtain ⟨k, rfl, hk'⟩ := succ_of hk
    simp only [spec_FormatInt.l0]
    by_cases hn : n = 0
    · subst hn
      rw [if_pos (by omega)]
      simp only [decz, neg1, if_true]
      cases b
      · rw [if_neg (by simp), if_neg (by simp)]; exact congrArg some (ByteArray.empty_append.trans ByteArray.empty_append).symm
      · simp only [if_true]; rw [if_pos (by omega)]; exact congrArg some (congrArg _ ByteArray.empty_append.symm)
    · have hp : n / 10 < 10 ^ d := by rw [Nat.pow_succ] at h; omega
      rw [if_neg (by omega)]
      rcases hx with rfl | rfl
      · rw [show Int.tdiv (n : Int) 10 = ((n / 10 : Nat) : Int) from rfl, show Int.tmod (n : Int) 10 = ((n % 10 : Nat) : Int) from rfl, if_neg (by omega), obs, strDig (n % 10) (by omega), dig_size, if_pos (by omega), w64 (by omega) (by omega), ih (n / 10) k _ _ b (.inl rfl) hp (by omega) (by omega) (by omega) (by rw [ByteArray.size_append, dig_size]; omega), decz_step n hn]
      · rw [Int.neg_tdiv, Int.neg_tmod, show Int.tdiv (n : Int) 10 = ((n / 10 : Nat) : Int) from rfl, show Int.tmod (n : Int) 10 = ((n % 10 : Nat) : Int) from rfl, Int.neg_neg, w64 (x := ((n % 10 : Nat) : Int)) (by omega) (by omega), obs, obs]
        have e0 : ∀ m : Nat, m = 0 → -((m : Nat) : Int) = ((m : Nat) : Int) := by omega
        by_cases c : n % 10 = 0
        · rw [if_neg (by omega), e0 _ c, strDig (n % 10) (by omega), dig_size, if_pos (by omega), w64 (by omega) (by omega), ih (n / 10) k _ _ b (.inr rfl) hp (by omega) (by omega) (by omega) (by rw [ByteArray.size_append, dig_size]; omega), decz_step n hn]
        · rw [if_pos (by omega), strDig (n % 10) (by omega), dig_size, if_pos (by omega), w64 (by omega) (by omega), ih (n / 10) k _ _ b (.inr rfl) hp (by omega) (by omega) (by omega) (by rw [ByteArray.size_append, dig_size]; omega), decz_step n hn]
theorem spec_FormatInt_eq (a : Int) (k : Nat) (h0 : -9223372036854775808 ≤ a) (h1 : a ≤ 9223372036854775807) (hk : 100 ≤ k) : spec_FormatInt.f k a = some (fmtI a) := by
  unfold spec_FormatInt.f fmtI
  by_cases z : a = 0
  · subst z
    rw [if_pos rfl, if_neg (by omega), show (0 : Int).toNat = 0 from rfl, dec_lt (by omega)]
    rfl
  · rw [if_neg z]
    by_cases c : a < 0
    · have e : a = -((-a).toNat : Int) := by omega
      rw [if_pos c, spec_FormatInt_l0 20 (-a).toNat k a ⟨#[]⟩ (decide (a < 0)) (.inr e) (by rw [pow20]; omega) (by omega) (by omega) (by omega) (by decide), decide_eq_true c]
      rw [decz_pos (by omega)]
      exact congrArg some (congrArg (fun z : ByteArray => (⟨#[45]⟩ : ByteArray) ++ z) ByteArray.append_empty)
    · have e : a = (a.toNat : Int) := by omega
      rw [if_neg c, spec_FormatInt_l0 20 a.toNat k a ⟨#[]⟩ (decide (a < 0)) (.inl e) (by rw [pow20]; omega) (by omega) (by omega) (by omega) (by decide), decide_eq_false c]
      rw [decz_pos (by omega)]
      exact congrArg some (ByteArray.empty_append.trans ByteArray.append_empty)
/-- The texts, each behind the separator. -/
def jl (sep acc : ByteArray) : List ByteArray → ByteArray
  | [] => acc
  | x :: t => jl sep ((acc ++ sep) ++ x) t
def jn (sep : ByteArray) : List ByteArray → ByteArray
  | [] => ⟨#[]⟩
  | x :: t => jl sep ((⟨#[]⟩ : ByteArray) ++ x) t
def sz1 : List ByteArray → Nat
  | [] => 0
  | x :: t => x.size + 1 + sz1 t
theorem sz1_append : ∀ (a b : List ByteArray), sz1 (a ++ b) = sz1 a + sz1 b
  | [], b => by simp [sz1]
  | x :: t, b => by rw [List.cons_append]; simp only [sz1]; rw [sz1_append t b]; omega
theorem rdB (l : List ByteArray) (i : Nat) : rdOf ByteArray.empty l (i : Int) = l.getD i ByteArray.empty := rfl
theorem impl_joined_l0 (sep : ByteArray) (hsep : sep.size = 1) (l : List ByteArray) (hl : l.length ≤ 1000000000) : ∀ (s : List ByteArray) (k i : Nat) (acc : ByteArray), l.drop i = s → 0 < i → s.length < k → acc.size + sz1 s ≤ 9000000000000000 → impl_joined.l0 k sep acc l (l.length : Int) (i : Int) = some (jl sep acc s) := by
  intro s
  induction s with
  | nil =>
    intro k i acc hd h0 hk ha
    obtain ⟨k, rfl, -⟩ := succ_of hk
    have := drop_nil' hd
    simp only [impl_joined.l0]
    rw [if_neg (by omega)]
    rfl
  | cons x t ih =>
    intro k i acc hd h0 hk ha
    obtain ⟨k, rfl, hk'⟩ := succ_of hk
    obtain ⟨hi, hd', hx, -⟩ := drop_cons' hd
    simp only [List.length_cons, sz1] at hk' ha
    have e : (acc ++ sep).size = acc.size + 1 := by rw [ByteArray.size_append, hsep]
    simp only [impl_joined.l0]
    rw [if_pos (by omega), if_pos (by omega), if_pos (by omega), if_pos (by omega), rdB, hx, if_pos (by omega), if_pos (by omega), w64s hi (by omega), ih _ _ _ hd' (by omega) (by omega) (by rw [ByteArray.size_append, e]; omega)]
    rfl
theorem impl_joined_eq (sep : ByteArray) (hsep : sep.size = 1) (l : List ByteArray) (k : Nat) (hl : l.length ≤ 1000000000) (hs : sz1 l ≤ 1000000000000000) (hk : 2000000000 ≤ k) : impl_joined.f k l sep = some (jn sep l) := by
  unfold impl_joined.f
  obtain ⟨k, rfl⟩ : ∃ m, k = m + 1 := ⟨k - 1, by omega⟩
  cases l with
  | nil => simp only [impl_joined.l0]; rw [if_neg (by simp)]; rfl
  | cons x t =>
    have hl' : t.length + 1 ≤ 1000000000 := by simpa using hl
    have := impl_joined_l0 sep hsep (x :: t) hl t k 1 ((⟨#[]⟩ : ByteArray) ++ x) rfl (by omega) (by omega) (by rw [ByteArray.size_append, show (⟨#[]⟩ : ByteArray).size = 0 from rfl]; simp only [sz1] at hs; omega)
    have e : rdOf ByteArray.empty (x :: t) 0 = x := rfl
    simp only [impl_joined.l0]
    rw [if_pos (by simp <;> omega), if_pos (by omega), if_pos (by simp <;> omega), if_neg (by omega), e, if_pos (by rw [show (⟨#[]⟩ : ByteArray).size = 0 from rfl]; simp only [sz1] at hs; omega), w64 (by omega) (by omega)]
    exact this
def fRow (x : S124) : ByteArray := if validR x = true then ((((fmtI x.f0 ++ (⟨#[46]⟩ : ByteArray)) ++ fmtI x.f1) ++ (⟨#[46]⟩ : ByteArray)) ++ fmtI x.f2) else ⟨#[]⟩
theorem validR_bd {x : S124} (h : validR x = true) : (0 ≤ x.f0 ∧ x.f0 ≤ 9) ∧ (0 ≤ x.f1 ∧ x.f1 ≤ 99) ∧ (0 ≤ x.f2 ∧ x.f2 ≤ 3) := by unfold validR at h; exact of_decide_eq_true h
theorem fRow_size (x : S124) : (fRow x).size ≤ 65 := by
  unfold fRow
  split
  · rename_i h
    obtain ⟨h0, h1, h2⟩ := validR_bd h
    have a := fmtI_size x.f0 (by omega) (by omega)
    have b := fmtI_size x.f1 (by omega) (by omega)
    have c := fmtI_size x.f2 (by omega) (by omega)
    simp only [ByteArray.size_append, show (⟨#[46]⟩ : ByteArray).size = 1 from rfl]
    omega
  · exact Nat.zero_le _
theorem spec_FormatRow_eq (x : S124) (k : Nat) (hk : 100 ≤ k) : spec_FormatRow.f k x.f0 x.f1 x.f2 = some (fRow x) := by
  unfold spec_FormatRow.f fRow
  rw [ob (spec_IsValidRow_eq' x)]
  by_cases h : validR x = true
  · obtain ⟨h0, h1, h2⟩ := validR_bd h
    have a := fmtI_size x.f0 (by omega) (by omega)
    have b := fmtI_size x.f1 (by omega) (by omega)
    have c := fmtI_size x.f2 (by omega) (by omega)
    rw [if_pos h, if_pos h, ob (spec_FormatInt_eq x.f0 k (by omega) (by omega) hk), if_pos (by omega), ob (spec_FormatInt_eq x.f1 k (by omega) (by omega) hk), ob (spec_FormatInt_eq x.f2 k (by omega) (by omega) hk)]
    simp only [ByteArray.size_append, show (⟨#[46]⟩ : ByteArray).size = 1 from rfl]
    rw [if_pos (by omega), if_pos (by omega), if_pos (by omega)]
  · rw [if_neg h, if_neg h]
theorem impl_FormatRow_eq (x : S124) (k : Nat) (hk : 100 ≤ k) : impl_FormatRow.f k x.f0 x.f1 x.f2 = some (fRow x) := by
  unfold impl_FormatRow.f fRow
  rw [ob (impl_IsValidRow_eq' x)]
  by_cases h : validR x = true
  · obtain ⟨h0, h1, h2⟩ := validR_bd h
    have a := fmtI_size x.f0 (by omega) (by omega)
    have b := fmtI_size x.f1 (by omega) (by omega)
    have c := fmtI_size x.f2 (by omega) (by omega)
    rw [if_pos h, if_pos h, ob (impl_FormatInt_eq x.f0 k (by omega) (by omega) hk), if_pos (by omega), ob (impl_FormatInt_eq x.f1 k (by omega) (by omega) hk), ob (impl_FormatInt_eq x.f2 k (by omega) (by omega) hk)]
    simp only [ByteArray.size_append, show (⟨#[46]⟩ : ByteArray).size = 1 from rfl]
    rw [if_pos (by omega), if_pos (by omega), if_pos (by omega)]
  · rw [if_neg h, if_neg h]
def fRows (l : List S124) : ByteArray := if vRows l = true then jn ⟨#[32]⟩ (l.map fRow) else ⟨#[]⟩
theorem sz1_rows : ∀ (l : List S124), sz1 (l.map fRow) ≤ 66 * l.length
  | [] => Nat.zero_le _
  | x :: t => by have := sz1_rows t; have := fRow_size x; simp only [List.map_cons, sz1, List.length_cons]; omega
theorem jl_size (sep : ByteArray) (hsep : sep.size = 1) : ∀ (l : List ByteArray) (acc : ByteArray), (jl sep acc l).size = acc.size + sz1 l
  | [], acc => by simp [jl, sz1]
  | x :: t, acc => by rw [jl, jl_size sep hsep t]; simp only [ByteArray.size_append, hsep, sz1]; omega
theorem jn_size (sep : ByteArray) (hsep : sep.size = 1) (l : List ByteArray) : (jn sep l).size ≤ sz1 l := by
  cases l with
  | nil => exact Nat.zero_le _
  | cons x t => rw [jn, jl_size sep hsep, ByteArray.size_append, show (⟨#[]⟩ : ByteArray).size = 0 from rfl]; simp only [sz1]; omega
theorem vRows_len {l : List S124} (h : vRows l = true) : l.length ≤ 24 := by unfold vRows at h; simp at h; exact h.1
theorem fRows_size (l : List S124) : (fRows l).size ≤ 1600 := by
  unfold fRows
  split
  · rename_i h
    have := vRows_len h
    have := jn_size ⟨#[32]⟩ rfl (l.map fRow)
    have := sz1_rows l
    omega
  · exact Nat.zero_le _
theorem impl_rowTexts_l0 (l : List S124) (hl : l.length ≤ 1000000) : ∀ (s : List S124) (k i : Nat) (acc : List ByteArray), l.drop i = s → 2000000000 + s.length < k → acc.length ≤ i → i ≤ l.length → sz1 acc ≤ 66 * i → impl_rowTexts.l0 k acc l (l.length : Int) (i : Int) = some (jn ⟨#[32]⟩ (acc ++ s.map fRow)) := by
  intro s
  induction s with
  | nil =>
    intro k i acc hd hk ha hi hz
    obtain ⟨k, rfl, -⟩ := succ_of hk
    have := drop_nil' hd
    simp only [impl_rowTexts.l0]
    rw [if_neg (by omega), ob (impl_joined_eq ⟨#[32]⟩ rfl acc k (by omega) (by omega) (by simp at hk; omega))]
    simp
  | cons x t ih =>
    intro k i acc hd hk ha hi hz
    obtain ⟨k, rfl, hk'⟩ := succ_of hk
    obtain ⟨hi', hd', hx, -⟩ := drop_cons' hd
    simp only [List.length_cons] at hk'
    have hf := fRow_size x
    simp only [impl_rowTexts.l0]
    rw [if_pos (by omega), if_pos (by omega), if_pos (by omega), rdR, hx, ob (impl_FormatRow_eq x k (by omega)), if_pos (by omega), w64s hi' (by omega), ih _ _ _ hd' (by omega) (by simp; omega) (by omega) (by rw [sz1_append]; simp only [sz1]; omega)]
    simp
theorem impl_FormatRows_eq (l : List S124) (k : Nat) (hl : l.length ≤ 1000000000) (hk : 3000000000 ≤ k) : impl_FormatRows.f k l = some (fRows l) := by
  unfold impl_FormatRows.f fRows
  rw [ob (impl_AreValidRows_eq l k hl (by omega))]
  by_cases h : vRows l = true
  · have := vRows_len h
    have e : impl_rowTexts.f k l = some (jn ⟨#[32]⟩ (l.map fRow)) := by
      have := impl_rowTexts_l0 l (by omega) l k 0 [] rfl (by omega) (by simp) (by omega) (by simp [sz1])
      unfold impl_rowTexts.f
      simpa using this
    rw [if_pos h, if_pos h, ob e]
  · rw [if_neg h, if_neg h]
theorem spec_FormatRows_l0 (l : List S124) (hl : l.length ≤ 24) (hv : vRows l = true) : ∀ (s : List S124) (k i : Nat) (acc : ByteArray), l.drop i = s → 0 < i → 2000000000 + 2 * s.length + 1 < k → acc.size + 66 * s.length ≤ 1000000 → spec_FormatRows.l0 k l acc (i : Int) = some (jl ⟨#[32]⟩ acc (s.map fRow)) := by
  intro s
  induction s with
  | nil =>
    intro k i acc hd h0 hk ha
    obtain ⟨k, rfl⟩ : ∃ m, k = m + 2 := ⟨k - 2, by simp at hk; omega⟩
    have := drop_nil' hd
    simp only [spec_FormatRows.l0]
    rw [if_neg (by omega)]
    simp only [spec_FormatRows.j1]
    rw [if_neg (by simp)]
    rfl
  | cons x t ih =>
    intro k i acc hd h0 hk ha
    obtain ⟨hi', hd', hx, -⟩ := drop_cons' hd
    simp only [List.length_cons] at hk ha
    obtain ⟨k, rfl⟩ : ∃ m, k = m + 2 := ⟨k - 2, by omega⟩
    have hf := fRow_size x
    have e : (acc ++ (⟨#[32]⟩ : ByteArray)).size = acc.size + 1 := by rw [ByteArray.size_append]; rfl
    simp only [spec_FormatRows.l0]
    rw [if_pos (by omega), ob (spec_AreValidRows_eq l (k + 1) (by omega) (by omega)), hv]
    simp only [spec_FormatRows.j1, if_true]
    rw [if_pos (by omega), if_pos (by omega), if_pos (by omega), if_pos (by omega), rdR, hx, ob (spec_FormatRow_eq x k (by omega)), if_pos (by omega), w64s hi' (by omega), ih _ _ _ hd' (by omega) (by omega) (by rw [ByteArray.size_append, e]; omega)]
    rfl
theorem spec_FormatRows_eq (l : List S124) (k : Nat) (hl : l.length ≤ 1000000000) (hk : 3000000000 ≤ k) : spec_FormatRows.f k l = some (fRows l) := by
  unfold spec_FormatRows.f fRows
  obtain ⟨k, rfl⟩ : ∃ m, k = m + 2 := ⟨k - 2, by omega⟩
  cases l with
  | nil =>
    simp only [spec_FormatRows.l0]
    rw [if_neg (by simp)]
    simp only [spec_FormatRows.j1]
    rw [if_neg (by simp)]
    split <;> rfl
  | cons x t =>
    simp only [spec_FormatRows.l0]
    rw [if_pos (by simp <;> omega), ob (spec_AreValidRows_eq (x :: t) (k + 1) hl (by omega))]
    by_cases h : vRows (x :: t) = true
    · have hl' := vRows_len h
      have hf := fRow_size x
      have e : rd_T124 (x :: t) 0 = x := rfl
      have := spec_FormatRows_l0 (x :: t) hl' h t k 1 ((⟨#[]⟩ : ByteArray) ++ fRow x) rfl (by omega) (by simp at hl'; omega) (by rw [ByteArray.size_append, show (⟨#[]⟩ : ByteArray).size = 0 from rfl]; simp at hl'; omega)
      rw [h, if_pos rfl]
      simp only [spec_FormatRows.j1, if_true]
      rw [if_neg (by omega), if_pos (by omega), if_pos (by simp <;> omega), e, ob (spec_FormatRow_eq x k (by omega)), if_pos (by rw [show (⟨#[]⟩ : ByteArray).size = 0 from rfl]; omega), w64 (by omega) (by omega)]
      exact this
    · simp only [spec_FormatRows.j1]
      rw [if_neg h, if_neg h]
theorem rdBool (l : List Bool) (i : Nat) : rdOf false l (i : Int) = l.getD i false := rfl
def marks (acc : ByteArray) : List Bool → ByteArray
  | [] => acc
  | b :: t => marks (acc ++ (if b = true then ⟨#[49]⟩ else ⟨#[48]⟩)) t
theorem marks_size : ∀ (l : List Bool) (acc : ByteArray), (marks acc l).size = acc.size + l.length
  | [], acc => rfl
  | b :: t, acc => by
    rw [marks, marks_size t, ByteArray.size_append, List.length_cons]
    have : (if b = true then (⟨#[49]⟩ : ByteArray) else ⟨#[48]⟩).size = 1 := by cases b <;> rfl
    omega
def semi : ByteArray := ⟨#[59]⟩
def fTask' (a : Int) (l1 l2 : List S124) (m : ByteArray) (b : Int) : ByteArray := (((((((fmtI a ++ semi) ++ fRows l1) ++ semi) ++ fRows l2) ++ semi) ++ m) ++ semi) ++ fmtI b
def fTask (a : Int) (l1 l2 : List S124) (l3 : List Bool) (b : Int) : ByteArray := if vTask a l1 l2 l3 b = true then fTask' a l1 l2 (marks ⟨#[]⟩ l3) b else ⟨#[]⟩
theorem vTask_bd {a : Int} {l1 l2 : List S124} {l3 : List Bool} {b : Int} (h : vTask a l1 l2 l3 b = true) : (1 ≤ a ∧ a ≤ 4) ∧ l1.length ≤ 24 ∧ l2.length ≤ 24 ∧ l3.length = l1.length ∧ (0 ≤ b ∧ b ≤ 4) := by
  unfold vTask at h
  simp only [Bool.and_eq_true, decide_eq_true_eq] at h
  exact ⟨h.1, vRows_len h.2.1, vRows_len h.2.2.1, h.2.2.2.1, h.2.2.2.2⟩
theorem fTask_size (a : Int) (l1 l2 : List S124) (l3 : List Bool) (b : Int) : (fTask a l1 l2 l3 b).size ≤ 4000 := by
  unfold fTask fTask'
  split
  · rename_i h
    obtain ⟨h1, h2, h3, h4, h5⟩ := vTask_bd h
    have s1 := fmtI_size a (by omega) (by omega)
    have s2 := fmtI_size b (by omega) (by omega)
    have s3 := fRows_size l1
    have s4 := fRows_size l2
    have s5 := marks_size l3 ⟨#[]⟩
    have s6 : (⟨#[]⟩ : ByteArray).size = 0 := rfl
    simp only [ByteArray.size_append, show semi.size = 1 from rfl]
    omega
  · exact Nat.zero_le _
theorem spec_FormatTask_l0 (a : Int) (l1 l2 : List S124) (l3 : List Bool) (b : Int) (hv : vTask a l1 l2 l3 b = true) : ∀ (s : List Bool) (k i : Nat) (acc : ByteArray), l3.drop i = s → 3000000000 + s.length < k → acc.size + s.length ≤ 100 → spec_FormatTask.l0 k acc (i : Int) a l1 l2 l3 b = some (fTask' a l1 l2 (marks acc s) b) := by
  obtain ⟨h1, h2, h3, h4, h5⟩ := vTask_bd hv
  intro s
  induction s with
  | nil =>
    intro k i acc hd hk ha
    obtain ⟨k, rfl, -⟩ := succ_of hk
    have := drop_nil' hd
    have s1 := fmtI_size a (by omega) (by omega)
    have s2 := fmtI_size b (by omega) (by omega)
    have s3 := fRows_size l1
    have s4 := fRows_size l2
    simp only [List.length_nil, Nat.add_zero] at hk ha
    simp only [spec_FormatTask.l0]
    rw [if_neg (by omega), ob (spec_FormatInt_eq a k (by omega) (by omega) (by omega)), if_pos (by omega), ob (spec_FormatRows_eq l1 k (by omega) (by omega)), ob (spec_FormatRows_eq l2 k (by omega) (by omega)), ob (spec_FormatInt_eq b k (by omega) (by omega) (by omega))]
    simp only [ByteArray.size_append, show (⟨#[59]⟩ : ByteArray).size = 1 from rfl]
    rw [if_pos (by omega), if_pos (by omega), if_pos (by omega), if_pos (by omega), if_pos (by omega), if_pos (by omega), if_pos (by omega)]
    rfl
  | cons x t ih =>
    intro k i acc hd hk ha
    obtain ⟨k, rfl, hk'⟩ := succ_of hk
    obtain ⟨hi, hd', hx, -⟩ := drop_cons' hd
    simp only [List.length_cons] at hk' ha
    simp only [spec_FormatTask.l0]
    rw [if_pos (by omega), if_pos (by omega), rdBool, hx, w64s (n := l3.length) hi (by omega)]
    cases x
    · rw [if_neg (by simp), if_pos (by omega), ih _ _ _ hd' (by omega) (by rw [ByteArray.size_append, show (⟨#[48]⟩ : ByteArray).size = 1 from rfl]; omega)]; rfl
    · rw [if_pos rfl, if_pos (by omega), ih _ _ _ hd' (by omega) (by rw [ByteArray.size_append, show (⟨#[49]⟩ : ByteArray).size = 1 from rfl]; omega)]; rfl
theorem spec_FormatTask_eq (a : Int) (l1 l2 : List S124) (l3 : List Bool) (b : Int) (k : Nat) (h1 : l1.length ≤ 1000000000) (h2 : l2.length ≤ 1000000000) (hk : 4000000000 ≤ k) : spec_FormatTask.f k a l1 l2 l3 b = some (fTask a l1 l2 l3 b) := by
  unfold spec_FormatTask.f fTask
  rw [ob (spec_IsValidTask_eq a l1 l2 l3 b k h1 h2 (by omega))]
  by_cases h : vTask a l1 l2 l3 b = true
  · obtain ⟨g1, g2, g3, g4, g5⟩ := vTask_bd h
    rw [if_pos h, if_pos h]
    exact spec_FormatTask_l0 a l1 l2 l3 b h l3 k 0 ⟨#[]⟩ rfl (by omega) (by rw [show (⟨#[]⟩ : ByteArray).size = 0 from rfl]; omega)
  · rw [if_neg h, if_neg h]
theorem impl_FormatTask_l0 (a : Int) (l1 l2 : List S124) (l3 : List Bool) (b : Int) (hv : vTask a l1 l2 l3 b = true) : ∀ (s : List Bool) (k i : Nat) (acc : ByteArray), l3.drop i = s → 3000000000 + s.length < k → acc.size + s.length ≤ 100 → impl_FormatTask.l0 k acc l3 (l3.length : Int) (i : Int) a l1 l2 l3 b = some (fTask' a l1 l2 (marks acc s) b) := by
  obtain ⟨h1, h2, h3, h4, h5⟩ := vTask_bd hv
  intro s
  induction s with
  | nil =>
    intro k i acc hd hk ha
    obtain ⟨k, rfl, -⟩ := succ_of hk
    have := drop_nil' hd
    have s1 := fmtI_size a (by omega) (by omega)
    have s2 := fmtI_size b (by omega) (by omega)
    have s3 := fRows_size l1
    have s4 := fRows_size l2
    simp only [List.length_nil, Nat.add_zero] at hk ha
    have e := impl_joined_eq ⟨#[59]⟩ rfl [fmtI a, fRows l1, fRows l2, acc, fmtI b] k (by simp) (by simp only [sz1]; omega) (by omega)
    simp only [impl_FormatTask.l0]
    rw [if_neg (by omega), ob (impl_FormatInt_eq a k (by omega) (by omega) (by omega)), ob (impl_FormatRows_eq l1 k (by omega) (by omega)), ob (impl_FormatRows_eq l2 k (by omega) (by omega)), ob (impl_FormatInt_eq b k (by omega) (by omega) (by omega)), ob e]
    have e0 : (⟨#[]⟩ : ByteArray) ++ fmtI a = fmtI a := ByteArray.empty_append
    rw [show jn ⟨#[59]⟩ [fmtI a, fRows l1, fRows l2, acc, fmtI b] = ((((((((((⟨#[]⟩ : ByteArray) ++ fmtI a) ++ semi) ++ fRows l1) ++ semi) ++ fRows l2) ++ semi) ++ acc) ++ semi) ++ fmtI b) from rfl, e0]
    rfl
  | cons x t ih =>
    intro k i acc hd hk ha
    obtain ⟨k, rfl, hk'⟩ := succ_of hk
    obtain ⟨hi, hd', hx, -⟩ := drop_cons' hd
    simp only [List.length_cons] at hk' ha
    simp only [impl_FormatTask.l0]
    rw [if_pos (by omega), if_pos (by omega), if_pos (by omega), rdBool, hx, w64s (n := l3.length) hi (by omega)]
    cases x
    · rw [if_neg (by simp), if_pos (by omega), ih _ _ _ hd' (by omega) (by rw [ByteArray.size_append, show (⟨#[48]⟩ : ByteArray).size = 1 from rfl]; omega)]; rfl
    · rw [if_pos rfl, if_pos (by omega), ih _ _ _ hd' (by omega) (by rw [ByteArray.size_append, show (⟨#[49]⟩ : ByteArray).size = 1 from rfl]; omega)]; rfl
theorem impl_FormatTask_eq (a : Int) (l1 l2 : List S124) (l3 : List Bool) (b : Int) (k : Nat) (h1 : l1.length ≤ 1000000000) (h2 : l2.length ≤ 1000000000) (hk : 4000000000 ≤ k) : impl_FormatTask.f k a l1 l2 l3 b = some (fTask a l1 l2 l3 b) := by
  unfold impl_FormatTask.f fTask
  rw [ob (impl_IsValidTask_eq a l1 l2 l3 b k h1 h2 (by omega))]
  by_cases h : vTask a l1 l2 l3 b = true
  · obtain ⟨g1, g2, g3, g4, g5⟩ := vTask_bd h
    rw [if_pos h, if_pos h]
    exact impl_FormatTask_l0 a l1 l2 l3 b h l3 k 0 ⟨#[]⟩ rfl (by omega) (by rw [show (⟨#[]⟩ : ByteArray).size = 0 from rfl]; omega)
  · rw [if_neg h, if_neg h]
def slash : ByteArray := ⟨#[47]⟩
/-- A joiner's text: two numbers, then each task behind a slash. -/
def fJ (l : List S37) (a b : Int) : ByteArray := if vJ l a b = true then jl slash ((fmtI a ++ slash) ++ fmtI b) (l.map fun x => fTask x.f0 x.f1 x.f2 x.f3 x.f4) else ⟨#[]⟩
theorem vJ_bd {l : List S37} {a b : Int} (h : vJ l a b = true) : l.length ≤ 40 ∧ (0 ≤ a ∧ a ≤ 100000) ∧ (0 ≤ b ∧ b ≤ 1000) := by
  unfold vJ at h
  simp only [Bool.and_eq_true, decide_eq_true_eq] at h
  exact ⟨by omega, h.2.2.2.2.1, h.2.2.2.2.2⟩
theorem spec_FormatJoiner_l0 (l : List S37) (a b : Int) (hl : l.length ≤ 1000000) : ∀ (s : List S37) (k i : Nat) (acc : ByteArray), l.drop i = s → (∀ x ∈ s, smallT 1048576 x) → 4000000000 + s.length < k → acc.size + 4001 * s.length ≤ 9000000000000000 → spec_FormatJoiner.l0 k acc (i : Int) l a b = some (jl slash acc (s.map fun x => fTask x.f0 x.f1 x.f2 x.f3 x.f4)) := by
  intro s
  induction s with
  | nil =>
    intro k i acc hd hf hk ha
    obtain ⟨k, rfl, -⟩ := succ_of hk
    have := drop_nil' hd
    simp only [spec_FormatJoiner.l0]
    rw [if_neg (by omega)]
    rfl
  | cons x t ih =>
    intro k i acc hd hf hk ha
    obtain ⟨k, rfl, hk'⟩ := succ_of hk
    obtain ⟨hi, hd', hx, -⟩ := drop_cons' hd
    simp only [List.length_cons] at hk' ha
    obtain ⟨f1, f2, f3⟩ := hf x (List.mem_cons_self ..)
    have b1 : (i : Int) < (l.length : Int) := by omega
    have b2 : (0 : Int) ≤ (i : Int) := by omega
    have b3 : l.length ≤ 9223372036854775807 := Nat.le_trans hl (by decide)
    have b4 : 4000000000 ≤ k := Nat.le_trans (Nat.le_add_right _ _) hk'
    have b5 : 4000000000 + t.length < k := hk'
    have c1 : x.f1.length ≤ 1000000000 := Nat.le_trans f1 (by decide)
    have c2 : x.f2.length ≤ 1000000000 := Nat.le_trans f2 (by decide)
    have key : ∀ n : Nat, n ≤ 4000 → acc.size + 1 ≤ 9223372036854775807 ∧ acc.size + 1 + n ≤ 9223372036854775807 ∧ acc.size + 1 + n + 4001 * t.length ≤ 9000000000000000 := by intro n hn; omega
    obtain ⟨s1, s2, s3⟩ := key _ (fTask_size x.f0 x.f1 x.f2 x.f3 x.f4)
    have e1 : (acc ++ (⟨#[47]⟩ : ByteArray)).size = acc.size + 1 := ByteArray.size_append
    rw [← e1] at s2 s3
    rw [← ByteArray.size_append] at s3
    simp only [spec_FormatJoiner.l0]
    rw [if_pos b1, if_pos s1, if_pos b2, rdT, hx, ob (spec_FormatTask_eq x.f0 x.f1 x.f2 x.f3 x.f4 k c1 c2 b4), if_pos s2, w64s hi b3, ih _ _ _ hd' (fun y hy => hf y (List.mem_cons_of_mem _ hy)) b5 s3]
    rfl
theorem spec_FormatJoiner_eq (l : List S37) (a b : Int) (k : Nat) (hl : l.length ≤ 100000000) (hf : ∀ x ∈ l, smallT 1048576 x) (h1 : lefts l ≤ 100000000) (h2 : rights l ≤ 100000000) (hk : 5000000000 ≤ k) : spec_FormatJoiner.f k l a b = some (fJ l a b) := by
  unfold spec_FormatJoiner.f fJ
  rw [ob (spec_IsValidJoiner_eq l a b k hl hf h1 h2 (by omega))]
  by_cases h : vJ l a b = true
  · obtain ⟨g1, g2, g3⟩ := vJ_bd h
    have s1 := fmtI_size a (by omega) (by omega)
    have s2 := fmtI_size b (by omega) (by omega)
    have e1 : (fmtI a ++ (⟨#[47]⟩ : ByteArray)).size = (fmtI a).size + 1 := by rw [ByteArray.size_append]; rfl
    rw [if_pos h, if_pos h, ob (spec_FormatInt_eq a k (by omega) (by omega) (by omega)), if_pos (by omega), ob (spec_FormatInt_eq b k (by omega) (by omega) (by omega)), if_pos (by omega)]
    exact spec_FormatJoiner_l0 l a b (by omega) l k 0 _ rfl hf (by omega) (by rw [ByteArray.size_append, e1]; omega)
  · rw [if_neg h, if_neg h]
theorem impl_FormatJoiner_l0 (l : List S37) (hl : l.length ≤ 1000000) : ∀ (s : List S37) (k i : Nat) (acc : List ByteArray), l.drop i = s → (∀ x ∈ s, smallT 1048576 x) → 4000000000 + s.length < k → i ≤ l.length → acc.length ≤ i + 2 → sz1 acc ≤ 100 + 4001 * i → impl_FormatJoiner.l0 k acc l (l.length : Int) (i : Int) = some (jn slash (acc ++ s.map fun x => fTask x.f0 x.f1 x.f2 x.f3 x.f4)) := by
  intro s
  induction s with
  | nil =>
    intro k i acc hd hf hk hi0 hn ha
    obtain ⟨k, rfl, -⟩ := succ_of hk
    have := drop_nil' hd
    simp only [impl_FormatJoiner.l0]
    rw [if_neg (by omega), ob (impl_joined_eq ⟨#[47]⟩ rfl acc k (by omega) (by omega) (by simp at hk; omega)), List.map_nil, List.append_nil]
    rfl
  | cons x t ih =>
    intro k i acc hd hf hk hi0 hn ha
    obtain ⟨k, rfl, hk'⟩ := succ_of hk
    obtain ⟨hi, hd', hx, -⟩ := drop_cons' hd
    simp only [List.length_cons] at hk' ha
    obtain ⟨f1, f2, f3⟩ := hf x (List.mem_cons_self ..)
    have b1 : (i : Int) < (l.length : Int) := by omega
    have b2 : (0 : Int) ≤ (i : Int) := by omega
    have b3 : l.length ≤ 9223372036854775807 := Nat.le_trans hl (by decide)
    have b4 : 4000000000 ≤ k := Nat.le_trans (Nat.le_add_right _ _) hk'
    have b5 : 4000000000 + t.length < k := hk'
    have b6 : acc.length < 8796093022208 := by omega
    have c1 : x.f1.length ≤ 1000000000 := Nat.le_trans f1 (by decide)
    have c2 : x.f2.length ≤ 1000000000 := Nat.le_trans f2 (by decide)
    have key : ∀ n : Nat, n ≤ 4000 → sz1 acc + (n + 1 + 0) ≤ 100 + 4001 * (i + 1) := by intro n hn; omega
    have s1 := key _ (fTask_size x.f0 x.f1 x.f2 x.f3 x.f4)
    simp only [impl_FormatJoiner.l0]
    rw [if_pos b1, if_pos b2, if_pos b1, rdT, hx, ob (impl_FormatTask_eq x.f0 x.f1 x.f2 x.f3 x.f4 k c1 c2 b4), if_pos b6, w64s hi b3, ih _ _ _ hd' (fun y hy => hf y (List.mem_cons_of_mem _ hy)) b5 hi (by rw [List.length_append, List.length_singleton, Nat.add_right_comm]; exact Nat.add_le_add hn (Nat.le_refl 1)) (by rw [sz1_append]; exact s1)]
    rw [List.append_assoc, List.map_cons]
    rfl
theorem impl_FormatJoiner_eq (l : List S37) (a b : Int) (k : Nat) (hl : l.length ≤ 100000000) (hf : ∀ x ∈ l, smallT 1048576 x) (h1 : lefts l ≤ 100000000) (h2 : rights l ≤ 100000000) (hk : 5000000000 ≤ k) : impl_FormatJoiner.f k l a b = some (fJ l a b) := by
  unfold impl_FormatJoiner.f fJ
  rw [ob (impl_IsValidJoiner_eq l a b k hl hf h1 h2 (by omega))]
  by_cases h : vJ l a b = true
  · obtain ⟨g1, g2, g3⟩ := vJ_bd h
    have s1 := fmtI_size a (by omega) (by omega)
    have s2 := fmtI_size b (by omega) (by omega)
    have e0 : (⟨#[]⟩ : ByteArray) ++ fmtI a = fmtI a := ByteArray.empty_append
    have := impl_FormatJoiner_l0 l (by omega) l k 0 [fmtI a, fmtI b] rfl hf (by omega) (by omega) (by simp) (by simp only [sz1]; omega)
    rw [if_pos h, if_pos h, ob (impl_FormatInt_eq a k (by omega) (by omega) (by omega)), ob (impl_FormatInt_eq b k (by omega) (by omega) (by omega))]
    rw [show jn slash ([fmtI a, fmtI b] ++ l.map fun x => fTask x.f0 x.f1 x.f2 x.f3 x.f4) = jl slash ((((⟨#[]⟩ : ByteArray) ++ fmtI a) ++ slash) ++ fmtI b) (l.map fun x => fTask x.f0 x.f1 x.f2 x.f3 x.f4) from rfl, e0] at this
    exact this
  · rw [if_neg h, if_neg h]
theorem FnExactFormatJoiner : laws_FnExactFormatJoiner.Pure := by
  intro ⟨l, a, b⟩ ⟨⟨hg, hf⟩, _, _⟩
  refine big_k _ (fun k hk => ?_)
  unfold laws_FnExactFormatJoiner.f
  have hf' : ∀ x ∈ l, fineT x := fun x hx => ⟨(hf x hx).2.1.1, (hf x hx).2.2.1.1, (hf x hx).2.2.2.1.1⟩
  rcases szJoiner_eq l a b 1048576 k hg hf' (by omega) (by omega) (by omega) with e | ⟨e, h⟩
  · simp only [ob e, if_pos (show (-1 : Int) < 0 by omega)]
  rw [ob e, if_neg (by omega)]
  have hs := szTs_small l 1048576 (by omega)
  have hc := cv_small hs
  have hr := lr_sz l
  have hm : (l.map cvTask).length = l.length := List.length_map ..
  simp only [ob (toJoiner_eq l a b k (by omega) hs (by omega)), ob (spec_FormatJoiner_eq (l.map cvTask) a b k (by omega) hc (by omega) (by omega) (by omega)), ob (impl_FormatJoiner_eq (l.map cvTask) a b k (by omega) hc (by omega) (by omega) (by omega)), ob (eqJoiner_refl (l.map cvTask) a b k (by omega) hc (by omega)), if_true]

end Go.Proofs.Ytnllplklggoabaa.Pure
