/- UnmatchedRows of the program returns what the reference's returns, for all arguments (the pure statement). No condition. -/
import Derived.Test.YthciieopabndcaaP800c0
import Derived.Test.YthciieopabndcaaP801c0
import Derived.Test.YthciieopabndcaaP811c0
import Derived.Test.YthciieopabndcaaPa50c0
import Derived.Test.YthciieopabndcaaPad1c0
import Derived.Test.YthciieopabndcaaPb1bc0
import Derived.Test.YthciieopabndcaaPb5bc0
import Derived.Test.YthciieopabndcaaPf3ec0
import Derived.Test.YthciieopabndcaaPf7ec0
import Derived.Test.YthciieopabndcaaPfdbc0
import Derived.Test.YthciieopabndcaaPfffc0
import Derived.Test.YthciieopabndcaaSayFnExactUnmatchedRows
namespace Go.Proofs.Ythciieopabndcaa.Pure
open Go.RowKit Go.Proofs.YthciieopabndcaaW.PrintWords Go.Proofs.YthciieopabndcaaW.PrintLast Go.Proofs.Ythciieopabndcaa.P
set_option linter.unusedVariables false
set_option linter.unusedSimpArgs false

theorem succ_of {k n : Nat} (h : n < k) : ∃ m, k = m + 1 ∧ n ≤ m := ⟨k - 1, by omega, by omega⟩
theorem drop_nil' {α : Type} {l : List α} {i : Nat} (h : l.drop i = []) : l.length ≤ i := List.drop_eq_nil_iff.1 h
theorem drop_cons' {α : Type} {l : List α} {i : Nat} {x : α} {t : List α} (h : l.drop i = x :: t) : i < l.length ∧ l.drop (i + 1) = t ∧ (∀ d, l.getD i d = x) ∧ l.length = i + 1 + t.length := by
  have hl := congrArg List.length h
  rw [List.length_drop, List.length_cons] at hl
  refine ⟨by omega, ?_, fun d => ?_, by omega⟩
  · rw [← List.drop_drop, h]; rfl
  · have : l[i]? = some x := by rw [← List.head?_drop, h]; rfl
    rw [List.getD_eq_getElem?_getD, this]; rfl
theorem w64 {x : Int} (h0 : -9223372036854775808 ≤ x) (h1 : x ≤ 9223372036854775807) : wrap64 x = x := by unfold wrap64; omega
theorem w64s {i n : Nat} (h : i < n) (hn : n ≤ 9223372036854775807) : wrap64 ((i : Int) + 1) = ((i + 1 : Nat) : Int) := by rw [w64 (by omega) (by omega)]; rfl
theorem big_k (P : Nat → Prop) (h : ∀ k, 1099511627776 ≤ k → P k) : ∃ k, P k := ⟨1099511627776, h _ (Nat.le_refl _)⟩
/-- A step of a chain, by an equation (never by unfolding: the kernel would compute). -/
theorem ob {α β : Type} {o : Option α} {a : α} {f : α → Option β} (h : o = some a) : o.bind f = f a := by subst h; rfl
theorem obs {α β : Type} {a : α} {f : α → Option β} : (some a).bind f = f a := ob (o := some a) (a := a) (f := f) rfl
theorem rdR (l : List S62) (i : Nat) : rd_T62 l (i : Int) = l.getD i z62 := rfl
theorem rdLR (l : List S64) (i : Nat) : rd_T64 l (i : Int) = l.getD i z64 := rfl
def cvRow (x : S64) : S62 := ⟨x.f0, x.f1, x.f2⟩
theorem szRowS_neg (l : List S64) (n : Int) (h0 : 0 ≤ n) (h1 : n ≤ 1048576) (hl : l.length ≤ maxLen) (h : n - l.length < 0) : laws_szRowS.f l n = some (-1) := by
  have hl' : l.length ≤ 9223372036854775807 := hl
  unfold laws_szRowS.f
  rw [w64 (by omega) (by omega), if_pos h]
theorem szRowS_pos (l : List S64) (n : Int) (h0 : 0 ≤ n) (h1 : n ≤ 1048576) (h : ¬ n - l.length < 0) : laws_szRowS.f l n = some (n - l.length) := by
  unfold laws_szRowS.f
  rw [w64 (by omega) (by omega), if_neg h]
theorem toRowS_l0 (l : List S64) (hl : l.length ≤ 1048576) : ∀ (s : List S64) (k i : Nat) (acc : List S62), l.drop i = s → acc.length = l.length → s.length < k → laws_toRowS.l0 k l acc (i : Int) = some (acc.take i ++ s.map cvRow) := by
  intro s
  induction s with
  | nil =>
    intro k i acc hd ha hk
    obtain ⟨k, rfl, -⟩ := succ_of hk
    have := drop_nil' hd
    simp only [laws_toRowS.l0]
    rw [if_neg (by omega), List.take_of_length_le (by omega)]
    simp
  | cons x t ih =>
    intro k i acc hd ha hk
    obtain ⟨k, rfl, hk'⟩ := succ_of hk
    obtain ⟨hi, hd', hx, -⟩ := drop_cons' hd
    simp only [List.length_cons] at hk'
    simp only [laws_toRowS.l0, laws_toRow.f, Option.bind_some]
    rw [if_pos (by omega), if_pos (by omega), if_pos (by omega), w64s hi (by omega), rdLR, hx, ih _ _ _ hd' (by simp [ha]) (by omega)]
    congr 1
    simp only [Int.toNat_natCast, List.map_cons]
    rw [List.take_succ_eq_append_getElem (by simp; omega), List.take_set_of_le (Nat.le_refl _)]
    simp [cvRow]
theorem toRowS_eq (l : List S64) (hl : l.length ≤ 1048576) (k : Nat) (hk : 2000000 ≤ k) : laws_toRowS.f k l = some (l.map cvRow) := by
  unfold laws_toRowS.f
  rw [if_pos (by omega), if_pos (by simp; omega)]
  have := toRowS_l0 l hl l k 0 (List.replicate l.length z62) rfl (by simp) (by omega)
  simpa using this
theorem eqRowS_l0 (l : List S62) (hl : l.length ≤ 9223372036854775807) : ∀ (s : List S62) (k i : Nat), l.drop i = s → s.length < k → laws_eqRowS.l0 k l l (i : Int) = some true := by
  intro s
  induction s with
  | nil =>
    intro k i hd hk
    obtain ⟨k, rfl, -⟩ := succ_of hk
    have := drop_nil' hd
    simp only [laws_eqRowS.l0]
    rw [if_neg (by omega)]
  | cons x t ih =>
    intro k i hd hk
    obtain ⟨k, rfl, hk'⟩ := succ_of hk
    obtain ⟨hi, hd', hx, -⟩ := drop_cons' hd
    simp only [List.length_cons] at hk'
    simp only [laws_eqRowS.l0, laws_eqRow.f, if_true, Option.bind_some]
    rw [if_pos (by omega), if_pos (by omega), if_pos (by omega), w64s hi (by omega), ih _ _ hd' (by omega)]
theorem eqRowS_refl (l : List S62) (hl : l.length ≤ 1048576) (k : Nat) (hk : 2000000 ≤ k) : laws_eqRowS.f k l l = some true := by
  unfold laws_eqRowS.f
  rw [if_pos rfl]
  exact eqRowS_l0 l (by omega) l k 0 rfl (by omega)
def validR (x : S62) : Bool := decide ((0 ≤ x.f0 ∧ x.f0 ≤ 9) ∧ (0 ≤ x.f1 ∧ x.f1 ≤ 99) ∧ (0 ≤ x.f2 ∧ x.f2 ≤ 3))
theorem impl_within_eq (a b c : Int) : impl_within.f a b c = some (decide (b ≤ a ∧ a ≤ c)) := by
  unfold impl_within.f
  by_cases h : a ≥ b
  · rw [if_pos h]; congr 1; simp only [decide_eq_decide]; constructor <;> intro h2 <;> omega
  · rw [if_neg h]; congr 1; symm; simp only [decide_eq_false_iff_not]; omega
theorem spec_l1In_eq (a b c : Int) : spec_l1In.f a b c = some (decide (b ≤ a ∧ a ≤ c)) := by
  unfold spec_l1In.f
  by_cases h : a ≥ b
  · rw [if_pos h]; congr 1; simp only [decide_eq_decide]; constructor <;> intro h2 <;> omega
  · rw [if_neg h]; congr 1; symm; simp only [decide_eq_false_iff_not]; omega
theorem validR_of (x y z : Int) : (if decide (0 ≤ x ∧ x ≤ 9) = true then (if decide (0 ≤ y ∧ y ≤ 99) = true then (some (decide (0 ≤ z ∧ z ≤ 3))) else some false) else some false) = some (validR ⟨x, y, z⟩) := by
  unfold validR
  by_cases h1 : 0 ≤ x ∧ x ≤ 9 <;> by_cases h2 : 0 ≤ y ∧ y ≤ 99 <;> simp [h1, h2]
theorem impl_IsValidRow_eq (x y z : Int) : impl_IsValidRow.f x y z = some (validR ⟨x, y, z⟩) := by
  unfold impl_IsValidRow.f
  simp only [impl_within_eq, Option.bind_some]
  exact validR_of x y z
theorem impl_IsValidRow_eq' (x : S62) : impl_IsValidRow.f x.f0 x.f1 x.f2 = some (validR x) := impl_IsValidRow_eq _ _ _
theorem spec_IsValidRow_eq (x y z : Int) : spec_IsValidRow.f x y z = some (validR ⟨x, y, z⟩) := by
  unfold spec_IsValidRow.f
  simp only [spec_l1In_eq, Option.bind_some]
  exact validR_of x y z
theorem spec_IsValidRow_eq' (x : S62) : spec_IsValidRow.f x.f0 x.f1 x.f2 = some (validR x) := spec_IsValidRow_eq _ _ _
def vRows (l : List S62) : Bool := decide (l.length ≤ 24) && l.all validR
theorem spec_AreValidRows_l0 (l : List S62) (hl : l.length ≤ 1000000000) : ∀ (s : List S62) (k i : Nat), l.drop i = s → s.length < k → spec_AreValidRows.l0 k l (i : Int) = some (s.all validR && decide (l.length ≤ 24)) := by
  intro s
  induction s with
  | nil =>
    intro k i hd hk
    obtain ⟨k, rfl, -⟩ := succ_of hk
    have := drop_nil' hd
    simp only [spec_AreValidRows.l0]
    rw [if_neg (by omega)]
    simp
    omega
  | cons x t ih =>
    intro k i hd hk
    obtain ⟨k, rfl, hk'⟩ := succ_of hk
    obtain ⟨hi, hd', hx, -⟩ := drop_cons' hd
    simp only [List.length_cons] at hk'
    simp only [spec_AreValidRows.l0]
    rw [if_pos (by omega), if_pos (by omega), rdR, hx, ob (spec_IsValidRow_eq' x), w64s hi (by omega), ih _ _ hd' (by omega)]
    cases h : validR x <;> simp [h]
theorem spec_AreValidRows_eq (l : List S62) (k : Nat) (hl : l.length ≤ 1000000000) (hk : 2000000000 ≤ k) : spec_AreValidRows.f k l = some (vRows l) := by
  have := spec_AreValidRows_l0 l hl l k 0 rfl (by omega)
  unfold spec_AreValidRows.f vRows
  rw [Bool.and_comm]
  simpa using this
theorem impl_allValid_l0 (l : List S62) (hl : l.length ≤ 1000000000) : ∀ (s : List S62) (k i : Nat), l.drop i = s → s.length < k → impl_allValid.l0 k l (l.length : Int) (i : Int) = some (s.all validR) := by
  intro s
  induction s with
  | nil =>
    intro k i hd hk
    obtain ⟨k, rfl, -⟩ := succ_of hk
    have := drop_nil' hd
    simp only [impl_allValid.l0]
    rw [if_neg (by omega)]
    simp
  | cons x t ih =>
    intro k i hd hk
    obtain ⟨k, rfl, hk'⟩ := succ_of hk
    obtain ⟨hi, hd', hx, -⟩ := drop_cons' hd
    simp only [List.length_cons] at hk'
    simp only [impl_allValid.l0]
    rw [if_pos (by omega), if_pos (by omega), if_pos (by omega), rdR, hx, ob (impl_IsValidRow_eq' x), w64s hi (by omega), ih _ _ hd' (by omega)]
    cases h : validR x <;> simp [h]
theorem impl_AreValidRows_eq (l : List S62) (k : Nat) (hl : l.length ≤ 1000000000) (hk : 2000000000 ≤ k) : impl_AreValidRows.f k l = some (vRows l) := by
  have := impl_allValid_l0 l hl l k 0 rfl (by omega)
  unfold impl_AreValidRows.f vRows
  by_cases h : l.length ≤ 24
  · rw [if_pos (by omega)]
    have e : impl_allValid.f k l = some (l.all validR) := by unfold impl_allValid.f; simpa using this
    rw [ob e]
    simp [h]
  · rw [if_neg (by omega)]
    simp [h]
theorem toBoolS_l0 (l : List Bool) (hl : l.length ≤ 1048576) : ∀ (s : List Bool) (k i : Nat) (acc : List Bool), l.drop i = s → acc.length = l.length → s.length < k → laws_toBoolS.l0 k l acc (i : Int) = some (acc.take i ++ s) := by
  intro s
  induction s with
  | nil =>
    intro k i acc hd ha hk
    obtain ⟨k, rfl, -⟩ := succ_of hk
    have := drop_nil' hd
    simp only [laws_toBoolS.l0]
    rw [if_neg (by omega), List.take_of_length_le (by omega)]
    simp
  | cons x t ih =>
    intro k i acc hd ha hk
    obtain ⟨k, rfl, hk'⟩ := succ_of hk
    obtain ⟨hi, hd', hx, -⟩ := drop_cons' hd
    simp only [List.length_cons] at hk'
    have hr : rdOf false l (i : Int) = x := hx false
    simp only [laws_toBoolS.l0]
    rw [if_pos (by omega), if_pos (by omega), if_pos (by omega), w64s hi (by omega), hr, ih _ _ _ hd' (by simp [ha]) (by omega)]
    congr 1
    simp only [Int.toNat_natCast]
    rw [List.take_succ_eq_append_getElem (by simp; omega), List.take_set_of_le (Nat.le_refl _)]
    simp
theorem toBoolS_eq (l : List Bool) (k : Nat) (hl : l.length ≤ 1048576) (hk : 2000000000 ≤ k) : laws_toBoolS.f k l = some l := by
  unfold laws_toBoolS.f
  rw [if_pos (by omega), if_pos (by simp; omega)]
  have := toBoolS_l0 l hl l k 0 (List.replicate l.length false) rfl (by simp) (by omega)
  simpa using this
theorem szBoolS_neg (l : List Bool) (n : Int) (h0 : 0 ≤ n) (h1 : n ≤ 1048576) (hl : l.length ≤ maxLen) (h : n - l.length < 0) : laws_szBoolS.f l n = some (-1) := by
  have hl' : l.length ≤ 9223372036854775807 := hl
  unfold laws_szBoolS.f
  rw [w64 (by omega) (by omega), if_pos h]
theorem szBoolS_pos (l : List Bool) (n : Int) (h0 : 0 ≤ n) (h1 : n ≤ 1048576) (h : ¬ n - l.length < 0) : laws_szBoolS.f l n = some (n - l.length) := by
  unfold laws_szBoolS.f
  rw [w64 (by omega) (by omega), if_neg h]
theorem toRowS_eq' (l : List S64) (k : Nat) (hl : l.length ≤ 1048576) (hk : 2000000000 ≤ k) : laws_toRowS.f k l = some (l.map cvRow) := toRowS_eq l hl k (by omega)
theorem eqRowS_refl' (l : List S62) (k : Nat) (hl : l.length ≤ 1048576) (hk : 2000000000 ≤ k) : laws_eqRowS.f k l l = some true := eqRowS_refl l hl k (by omega)
/-- The law's count of a task: too much, or what is left. -/
theorem szTask_eq (a : Int) (l1 l2 : List S64) (l3 : List Bool) (b n : Int) (h0 : 0 ≤ n) (h1 : n ≤ 1048576) (g1 : l1.length ≤ maxLen) (g2 : l2.length ≤ maxLen) (g3 : l3.length ≤ maxLen) :
    laws_szTask.f a l1 l2 l3 b n = some (-1) ∨ (laws_szTask.f a l1 l2 l3 b n = some (n - l1.length - l2.length - l3.length) ∧ (l1.length : Int) + l2.length + l3.length ≤ n) := by
  unfold laws_szTask.f
  by_cases c1 : n - l1.length < 0
  · left; rw [ob (szRowS_neg l1 n h0 h1 g1 c1), if_pos (by omega)]
  rw [ob (szRowS_pos l1 n h0 h1 c1), if_neg c1]
  by_cases c2 : n - l1.length - l2.length < 0
  · left; rw [ob (szRowS_neg l2 _ (by omega) (by omega) g2 c2), if_pos (by omega)]
  rw [ob (szRowS_pos l2 _ (by omega) (by omega) c2), if_neg c2]
  by_cases c3 : n - l1.length - l2.length - l3.length < 0
  · left; rw [ob (szBoolS_neg l3 _ (by omega) (by omega) g3 c3), if_pos (by omega)]
  right
  rw [ob (szBoolS_pos l3 _ (by omega) (by omega) c3), if_neg c3]
  exact ⟨rfl, by omega⟩
theorem toTask_eq (a : Int) (l1 l2 : List S64) (l3 : List Bool) (b : Int) (k : Nat) (h1 : l1.length ≤ 1048576) (h2 : l2.length ≤ 1048576) (h3 : l3.length ≤ 1048576) (hk : 2000000000 ≤ k) :
    laws_toTask.f k a l1 l2 l3 b = some (a, l1.map cvRow, l2.map cvRow, l3, b) := by
  unfold laws_toTask.f
  rw [ob (toRowS_eq' l1 k h1 hk), ob (toRowS_eq' l2 k h2 hk), ob (toBoolS_eq l3 k h3 hk)]
theorem eqBoolS_l0 (l : List Bool) (hl : l.length ≤ 9223372036854775807) : ∀ (s : List Bool) (k i : Nat), l.drop i = s → s.length < k → laws_eqBoolS.l0 k l l (i : Int) = some true := by
  intro s
  induction s with
  | nil =>
    intro k i hd hk
    obtain ⟨k, rfl, -⟩ := succ_of hk
    have := drop_nil' hd
    simp only [laws_eqBoolS.l0]
    rw [if_neg (by omega)]
  | cons x t ih =>
    intro k i hd hk
    obtain ⟨k, rfl, hk'⟩ := succ_of hk
    obtain ⟨hi, hd', hx, -⟩ := drop_cons' hd
    simp only [List.length_cons] at hk'
    simp only [laws_eqBoolS.l0]
    rw [if_pos (by omega), if_pos (by omega), if_pos (by omega), if_neg (by simp), w64s hi (by omega), ih _ _ hd' (by omega)]
theorem eqBoolS_refl (l : List Bool) (k : Nat) (hl : l.length ≤ 1048576) (hk : 2000000000 ≤ k) : laws_eqBoolS.f k l l = some true := by
  unfold laws_eqBoolS.f
  rw [if_pos rfl]
  exact eqBoolS_l0 l (by omega) l k 0 rfl (by omega)
theorem eqTask_refl (a : Int) (l1 l2 : List S62) (l3 : List Bool) (b : Int) (k : Nat) (h1 : l1.length ≤ 1048576) (h2 : l2.length ≤ 1048576) (h3 : l3.length ≤ 1048576) (hk : 2000000000 ≤ k) :
    laws_eqTask.f k a l1 l2 l3 b a l1 l2 l3 b = some true := by
  unfold laws_eqTask.f
  rw [if_pos rfl, ob (eqRowS_refl' l1 k h1 hk), if_pos rfl, ob (eqRowS_refl' l2 k h2 hk), if_pos rfl, ob (eqBoolS_refl l3 k h3 hk), if_pos rfl, if_pos rfl]
def vTask (a : Int) (l1 l2 : List S62) (l3 : List Bool) (b : Int) : Bool := decide (1 ≤ a ∧ a ≤ 4) && (vRows l1 && (vRows l2 && (decide (l3.length = l1.length) && decide (0 ≤ b ∧ b ≤ 4))))
theorem spec_IsValidTask_eq (a : Int) (l1 l2 : List S62) (l3 : List Bool) (b : Int) (k : Nat) (h1 : l1.length ≤ 1000000000) (h2 : l2.length ≤ 1000000000) (hk : 2000000000 ≤ k) : spec_IsValidTask.f k a l1 l2 l3 b = some (vTask a l1 l2 l3 b) := by
  unfold spec_IsValidTask.f vTask spec_IsValidJoinKind.f
  rw [ob (spec_l1In_eq a 1 4), ob rfl, ob (spec_AreValidRows_eq l1 k h1 hk), ob (spec_AreValidRows_eq l2 k h2 hk), ob (spec_l1In_eq b 0 4)]
  generalize decide (1 ≤ a ∧ a ≤ 4) = p
  generalize decide (0 ≤ b ∧ b ≤ 4) = q
  by_cases c4 : l3.length = l1.length
  · have c5 : (l3.length : Int) = l1.length := by omega
    cases p <;> cases vRows l1 <;> cases vRows l2 <;> simp [c4]
  · have c5 : ¬ (l3.length : Int) = l1.length := by omega
    cases p <;> cases vRows l1 <;> cases vRows l2 <;> simp [c4, c5]
theorem impl_IsValidTask_eq (a : Int) (l1 l2 : List S62) (l3 : List Bool) (b : Int) (k : Nat) (h1 : l1.length ≤ 1000000000) (h2 : l2.length ≤ 1000000000) (hk : 2000000000 ≤ k) : impl_IsValidTask.f k a l1 l2 l3 b = some (vTask a l1 l2 l3 b) := by
  unfold impl_IsValidTask.f vTask impl_IsValidJoinKind.f
  rw [ob (impl_within_eq a 1 4), ob rfl, ob (impl_AreValidRows_eq l1 k h1 hk), ob (impl_AreValidRows_eq l2 k h2 hk), ob (impl_within_eq b 0 4)]
  generalize decide (1 ≤ a ∧ a ≤ 4) = p
  generalize decide (0 ≤ b ∧ b ≤ 4) = q
  by_cases c4 : l3.length = l1.length
  · have c5 : (l3.length : Int) = l1.length := by omega
    cases p <;> cases vRows l1 <;> cases vRows l2 <;> simp [c4]
  · have c5 : ¬ (l3.length : Int) = l1.length := by omega
    cases p <;> cases vRows l1 <;> cases vRows l2 <;> simp [c4, c5]

def markR : List S62 → Int → List S62
  | [], _ => []
  | _ :: t, n => ⟨n, n + 1, n + 2⟩ :: markR t (n + 3)
theorem getD_pre {α : Type} (p : List α) (x : α) (t : List α) (d : α) : (p ++ x :: t).getD p.length d = x := by simp
theorem set_pre {α : Type} (p : List α) (x y : α) (t : List α) : (p ++ x :: t).set p.length y = p ++ y :: t := by simp
theorem markRowS_l0 : ∀ (s p : List S62) (k : Nat) (n : Int), s.length < k → 0 ≤ n → n + 3 * s.length ≤ 1000000000000 → (p ++ s).length ≤ 1000000000 → laws_markRowS.l0 k (p ++ s) n (p.length : Int) = some (n + 3 * s.length, p ++ markR s n) := by
  intro s
  induction s with
  | nil =>
    intro p k n hk h0 h1 hl
    obtain ⟨k, rfl, -⟩ := succ_of hk
    simp only [laws_markRowS.l0]
    rw [if_neg (by simp)]
    simp [markR]
  | cons x t ih =>
    intro p k n hk h0 h1 hl
    obtain ⟨k, rfl, hk'⟩ := succ_of hk
    simp only [List.length_cons, List.length_append] at hk' h1 hl
    have w1 : wrap64 (n + 1) = n + 1 := w64 (by omega) (by omega)
    have w2 : wrap64 (n + 1 + 1) = n + 2 := by rw [w64 (by omega) (by omega)]; omega
    have w3 : wrap64 (n + 2 + 1) = n + 3 := by rw [w64 (by omega) (by omega)]; omega
    simp only [laws_markRowS.l0]
    rw [if_pos (by simp <;> omega), if_pos (by omega)]
    simp only [rdR, getD_pre, Int.toNat_natCast, set_pre, obs, w1, w2, w3]
    rw [w64s (n := 1000000001) (by omega) (by omega)]
    have := ih (p ++ [⟨n, n + 1, n + 2⟩]) k (n + 3) (by omega) (by omega) (by omega) (by simp; omega)
    simp only [List.append_assoc, List.singleton_append, List.length_append, List.length_singleton] at this
    rw [this]
    simp only [markR, List.length_cons]
    congr 2
    omega
theorem markRowS_eq (l : List S62) (n : Int) (k : Nat) (h0 : 0 ≤ n) (h1 : n ≤ 100000000) (hl : l.length ≤ 100000000) (hk : 2000000000 ≤ k) : laws_markRowS.f k l n = some (n + 3 * l.length, markR l n) := by
  have := markRowS_l0 l [] k n (by omega) h0 (by omega) (by simp; omega)
  unfold laws_markRowS.f
  simpa using this
def markB : List Bool → Int → List Bool
  | [], _ => []
  | _ :: t, n => (Int.tmod n 3 == 0) :: markB t (n + 1)
theorem markBoolS_l0 : ∀ (s p : List Bool) (k : Nat) (n : Int), s.length < k → 0 ≤ n → n + s.length ≤ 1000000000000 → (p ++ s).length ≤ 1000000000 → laws_markBoolS.l0 k (p ++ s) n (p.length : Int) = some (n + s.length, p ++ markB s n) := by
  intro s
  induction s with
  | nil =>
    intro p k n hk h0 h1 hl
    obtain ⟨k, rfl, -⟩ := succ_of hk
    simp only [laws_markBoolS.l0]
    rw [if_neg (by simp)]
    simp [markB]
  | cons x t ih =>
    intro p k n hk h0 h1 hl
    obtain ⟨k, rfl, hk'⟩ := succ_of hk
    simp only [List.length_cons, List.length_append] at hk' h1 hl
    have w1 : wrap64 (n + 1) = n + 1 := w64 (by omega) (by omega)
    simp only [laws_markBoolS.l0]
    rw [if_pos (by simp <;> omega), if_pos (by omega)]
    simp only [Int.toNat_natCast, set_pre, w1]
    rw [w64s (n := 1000000001) (by omega) (by omega)]
    have := ih (p ++ [Int.tmod n 3 == 0]) k (n + 1) (by omega) (by omega) (by omega) (by simp; omega)
    simp only [List.append_assoc, List.singleton_append, List.length_append, List.length_singleton] at this
    rw [this]
    simp only [markB, List.length_cons]
    congr 2
    omega
theorem markBoolS_eq (l : List Bool) (n : Int) (k : Nat) (h0 : 0 ≤ n) (h1 : n ≤ 1000000000) (hl : l.length ≤ 100000000) (hk : 2000000000 ≤ k) : laws_markBoolS.f k l n = some (n + l.length, markB l n) := by
  have := markBoolS_l0 l [] k n (by omega) h0 (by omega) (by simp; omega)
  unfold laws_markBoolS.f
  simpa using this
theorem markTask_eq (a : Int) (l1 l2 : List S62) (l3 : List Bool) (b n : Int) (k : Nat) (h0 : 0 ≤ n) (hn : n ≤ 10000000) (h1 : l1.length ≤ 10000000) (h2 : l2.length ≤ 10000000) (h3 : l3.length ≤ 10000000) (hk : 2000000000 ≤ k) :
    laws_markTask.f k a l1 l2 l3 b n = some (n + 3 * l1.length + 3 * l2.length + l3.length, markR l1 n, markR l2 (n + 3 * l1.length), markB l3 (n + 3 * l1.length + 3 * l2.length)) := by
  unfold laws_markTask.f
  simp only [ob (markRowS_eq l1 n k h0 (by omega) (by omega) hk), ob (markRowS_eq l2 (n + 3 * l1.length) k (by omega) (by omega) (by omega) hk), ob (markBoolS_eq l3 (n + 3 * l1.length + 3 * l2.length) k (by omega) (by omega) (by omega) hk)]
theorem rdP (l : List S75) (i : Nat) : rd_T75 l (i : Int) = l.getD i z75 := rfl
def unm : List S62 → List Bool → List S75
  | x :: s, m :: t => (if m = true then [] else [⟨x, ⟨0, 0, 0⟩, false⟩]) ++ unm s t
  | _, _ => []
theorem unm_length : ∀ (s : List S62) (t : List Bool), (unm s t).length ≤ s.length
  | [], _ => by simp [unm]
  | _ :: _, [] => by simp [unm]
  | x :: s, m :: t => by
    have := unm_length s t
    simp only [unm, List.length_append, List.length_cons]
    split <;> simp <;> omega
def unmT (a : Int) (l1 l2 : List S62) (l3 : List Bool) (b : Int) : List S75 := if vTask a l1 l2 l3 b = true ∧ (a = 3 ∨ a = 4) then unm l1 l3 else []
theorem unmT_length (a : Int) (l1 l2 : List S62) (l3 : List Bool) (b : Int) : (unmT a l1 l2 l3 b).length ≤ l1.length := by
  unfold unmT
  split
  · exact unm_length _ _
  · simp
theorem spec_UnmatchedRows_l0 (a : Int) (l1 l2 : List S62) (l3 : List Bool) (b : Int) (h1 : l1.length ≤ 1000000000) (h2 : l2.length ≤ 1000000000) (h3 : l3.length = l1.length) (hv : vTask a l1 l2 l3 b = true) : ∀ (s : List S62) (t : List Bool) (k i : Nat) (acc : List S75), l1.drop i = s → l3.drop i = t → i ≤ l1.length → 2000000000 + 2 * s.length + 2 ≤ k → acc.length ≤ i → spec_UnmatchedRows.l0 k acc (i : Int) a l1 l2 l3 b = some (acc ++ if a = 3 ∨ a = 4 then unm s t else []) := by
  intro s
  induction s with
  | nil =>
    intro t k i acc hd hm hi hk ha
    obtain ⟨k, rfl⟩ : ∃ m, k = m + 2 := ⟨k - 2, by omega⟩
    have := drop_nil' hd
    simp only [spec_UnmatchedRows.l0]
    rw [if_neg (by omega)]
    simp only [spec_UnmatchedRows.j1, Bool.false_eq_true, if_false]
    simp [unm]
  | cons x s ih =>
    intro t k i acc hd hm hi hk ha
    simp only [List.length_cons] at hk
    obtain ⟨k, rfl⟩ : ∃ m, k = m + 2 := ⟨k - 2, by omega⟩
    obtain ⟨hi', hd', hx, -⟩ := drop_cons' hd
    cases t with
    | nil => have := drop_nil' hm; omega
    | cons m t =>
      obtain ⟨_, hm', hy, -⟩ := drop_cons' hm
      have e2 : rdOf false l3 (i : Int) = m := hy false
      have ex : (⟨(rd_T62 l1 (i : Int)).f0, (rd_T62 l1 (i : Int)).f1, (rd_T62 l1 (i : Int)).f2⟩ : S62) = x := hx z62
      simp only [spec_UnmatchedRows.l0]
      rw [if_pos (by omega), ob (spec_IsValidTask_eq a l1 l2 l3 b (k + 1) h1 h2 (by omega)), hv]
      simp only [spec_UnmatchedRows.j1, if_true]
      rw [if_pos (by omega), if_pos (by omega), e2, ex, w64s hi' (by omega)]
      cases m with
      | true =>
        rw [if_pos rfl, ih t k (i + 1) acc hd' hm' (by omega) (by omega) (by omega)]
        simp [unm]
      | false =>
        rw [if_neg (by simp)]
        by_cases c3 : a = 3
        · rw [if_pos c3, if_pos (by omega), if_pos (by omega), ih t k (i + 1) _ hd' hm' (by omega) (by omega) (by simp; omega)]
          simp [unm, c3]
        · rw [if_neg c3]
          by_cases c4 : a = 4
          · rw [if_pos c4, if_pos (by omega), if_pos (by omega), ih t k (i + 1) _ hd' hm' (by omega) (by omega) (by simp; omega)]
            simp [unm, c4]
          · rw [if_neg c4, ih t k (i + 1) _ hd' hm' (by omega) (by omega) (by omega)]
            simp [c3, c4]
theorem vTask_len {a : Int} {l1 l2 : List S62} {l3 : List Bool} {b : Int} (h : vTask a l1 l2 l3 b = true) : l3.length = l1.length ∧ l1.length ≤ 24 ∧ l2.length ≤ 24 ∧ (1 ≤ a ∧ a ≤ 4) ∧ (0 ≤ b ∧ b ≤ 4) := by
  unfold vTask vRows at h
  simp only [Bool.and_eq_true, decide_eq_true_eq] at h
  exact ⟨h.2.2.2.1, h.2.1.1, h.2.2.1.1, h.1, h.2.2.2.2⟩
theorem spec_UnmatchedRows_eq (a : Int) (l1 l2 : List S62) (l3 : List Bool) (b : Int) (k : Nat) (h1 : l1.length ≤ 1000000000) (h2 : l2.length ≤ 1000000000) (hk : 5000000000 ≤ k) : spec_UnmatchedRows.f k a l1 l2 l3 b = some (unmT a l1 l2 l3 b) := by
  unfold spec_UnmatchedRows.f unmT
  cases hv : vTask a l1 l2 l3 b with
  | true =>
    have := spec_UnmatchedRows_l0 a l1 l2 l3 b h1 h2 (vTask_len hv).1 hv l1 l3 k 0 [] rfl rfl (by omega) (by omega) (by simp)
    simpa using this
  | false =>
    obtain ⟨k, rfl⟩ : ∃ m, k = m + 2 := ⟨k - 2, by omega⟩
    simp only [spec_UnmatchedRows.l0]
    by_cases c : (0 : Int) < l1.length
    · rw [if_pos c, ob (spec_IsValidTask_eq a l1 l2 l3 b (k + 1) h1 h2 (by omega)), hv]
      simp [spec_UnmatchedRows.j1]
    · rw [if_neg c]
      simp [spec_UnmatchedRows.j1]
theorem impl_UnmatchedRows_l0 (a : Int) (l1 l2 : List S62) (l3 : List Bool) (b : Int) (h1 : l1.length ≤ 1000000000) (h3 : l3.length = l1.length) : ∀ (s : List S62) (t : List Bool) (k i : Nat) (acc : List S75), l1.drop i = s → l3.drop i = t → s.length < k → acc.length ≤ i → impl_UnmatchedRows.l0 k acc l1 (l1.length : Int) (i : Int) a l1 l2 l3 b = some (acc ++ unm s t) := by
  intro s
  induction s with
  | nil =>
    intro t k i acc hd hm hk ha
    obtain ⟨k, rfl, -⟩ := succ_of hk
    have := drop_nil' hd
    simp only [impl_UnmatchedRows.l0]
    rw [if_neg (by omega)]
    simp [unm]
  | cons x s ih =>
    intro t k i acc hd hm hk ha
    obtain ⟨k, rfl, hk'⟩ := succ_of hk
    simp only [List.length_cons] at hk'
    obtain ⟨hi', hd', hx, -⟩ := drop_cons' hd
    cases t with
    | nil => have := drop_nil' hm; omega
    | cons m t =>
      obtain ⟨_, hm', hy, -⟩ := drop_cons' hm
      have e2 : rdOf false l3 (i : Int) = m := hy false
      have ex : (⟨(rd_T62 l1 (i : Int)).f0, (rd_T62 l1 (i : Int)).f1, (rd_T62 l1 (i : Int)).f2⟩ : S62) = x := hx z62
      simp only [impl_UnmatchedRows.l0]
      rw [if_pos (by omega), if_pos (by omega), if_pos (by omega), if_pos (by omega), e2, ex, w64s hi' (by omega)]
      cases m with
      | true =>
        rw [if_pos rfl, ih t k (i + 1) acc hd' hm' (by omega) (by omega)]
        simp [unm]
      | false =>
        rw [if_neg (by simp), if_pos (by omega), ih t k (i + 1) _ hd' hm' (by omega) (by simp; omega)]
        simp [unm]
theorem impl_UnmatchedRows_eq (a : Int) (l1 l2 : List S62) (l3 : List Bool) (b : Int) (k : Nat) (h1 : l1.length ≤ 1000000000) (h2 : l2.length ≤ 1000000000) (hk : 5000000000 ≤ k) : impl_UnmatchedRows.f k a l1 l2 l3 b = some (unmT a l1 l2 l3 b) := by
  obtain ⟨k, rfl, hk'⟩ := succ_of (n := 4999999999) (k := k) (by omega)
  unfold impl_UnmatchedRows.f unmT
  rw [ob (impl_IsValidTask_eq a l1 l2 l3 b (k + 1) h1 h2 (by omega))]
  simp only [impl_UnmatchedRows.j0]
  cases hv : vTask a l1 l2 l3 b with
  | false => simp
  | true =>
    have := impl_UnmatchedRows_l0 a l1 l2 l3 b h1 (vTask_len hv).1 l1 l3 k 0 [] rfl rfl (by omega) (by simp)
    simp only [List.nil_append] at this
    by_cases c3 : a = 3
    · subst c3
      simpa using this
    · by_cases c4 : a = 4
      · subst c4
        simpa using this
      · simp [c3, c4]
theorem eqPairS_l0 (l : List S75) (hl : l.length ≤ 9223372036854775807) : ∀ (s : List S75) (k i : Nat), l.drop i = s → s.length < k → laws_eqPairS.l0 k l l (i : Int) = some true := by
  intro s
  induction s with
  | nil =>
    intro k i hd hk
    obtain ⟨k, rfl, -⟩ := succ_of hk
    have := drop_nil' hd
    simp only [laws_eqPairS.l0]
    rw [if_neg (by omega)]
  | cons x t ih =>
    intro k i hd hk
    obtain ⟨k, rfl, hk'⟩ := succ_of hk
    obtain ⟨hi, hd', hx, -⟩ := drop_cons' hd
    simp only [List.length_cons] at hk'
    simp only [laws_eqPairS.l0, laws_eqPair.f, laws_eqRow.f, if_true, obs, bne_self_eq_false, Bool.false_eq_true, if_false]
    rw [if_pos (by omega), if_pos (by omega), if_pos (by omega), w64s hi (by omega), ih _ _ hd' (by omega)]
theorem eqPairS_refl (l : List S75) (k : Nat) (hl : l.length ≤ 1000000000) (hk : 2000000000 ≤ k) : laws_eqPairS.f k l l = some true := by
  unfold laws_eqPairS.f
  rw [if_pos rfl]
  exact eqPairS_l0 l (by omega) l k 0 rfl (by omega)
def markP : List S75 → Int → List S75
  | [], _ => []
  | _ :: t, n => ⟨⟨n, n + 1, n + 2⟩, ⟨n + 3, n + 4, n + 5⟩, Int.tmod (n + 6) 3 == 0⟩ :: markP t (n + 7)
theorem markPairS_l0 : ∀ (s p : List S75) (k : Nat) (n : Int), s.length < k → 0 ≤ n → n + 7 * s.length ≤ 1000000000000 → (p ++ s).length ≤ 1000000000 → laws_markPairS.l0 k (p ++ s) n (p.length : Int) = some (n + 7 * s.length, p ++ markP s n) := by
  intro s
  induction s with
  | nil =>
    intro p k n hk h0 h1 hl
    obtain ⟨k, rfl, -⟩ := succ_of hk
    simp only [laws_markPairS.l0]
    rw [if_neg (by simp)]
    simp [markP]
  | cons x t ih =>
    intro p k n hk h0 h1 hl
    obtain ⟨k, rfl, hk'⟩ := succ_of hk
    simp only [List.length_cons, List.length_append] at hk' h1 hl
    have w1 : wrap64 (n + 1) = n + 1 := w64 (by omega) (by omega)
    have w2 : wrap64 (n + 1 + 1) = n + 2 := by rw [w64 (by omega) (by omega)]; omega
    have w3 : wrap64 (n + 2 + 1) = n + 3 := by rw [w64 (by omega) (by omega)]; omega
    have w4 : wrap64 (n + 3 + 1) = n + 4 := by rw [w64 (by omega) (by omega)]; omega
    have w5 : wrap64 (n + 4 + 1) = n + 5 := by rw [w64 (by omega) (by omega)]; omega
    have w6 : wrap64 (n + 5 + 1) = n + 6 := by rw [w64 (by omega) (by omega)]; omega
    have w7 : wrap64 (n + 6 + 1) = n + 7 := by rw [w64 (by omega) (by omega)]; omega
    simp only [laws_markPairS.l0]
    rw [if_pos (by simp <;> omega), if_pos (by omega)]
    simp only [rdP, getD_pre, Int.toNat_natCast, set_pre, obs, w1, w2, w3, w4, w5, w6, w7]
    rw [w64s (n := 1000000001) (by omega) (by omega)]
    have := ih (p ++ [⟨⟨n, n + 1, n + 2⟩, ⟨n + 3, n + 4, n + 5⟩, Int.tmod (n + 6) 3 == 0⟩]) k (n + 7) (by omega) (by omega) (by omega) (by simp; omega)
    simp only [List.append_assoc, List.singleton_append, List.length_append, List.length_singleton] at this
    rw [this]
    simp only [markP, List.length_cons]
    congr 2
    omega
theorem markPairS_eq (l : List S75) (n : Int) (k : Nat) (h0 : 0 ≤ n) (h1 : n ≤ 100000000) (hl : l.length ≤ 100000000) (hk : 2000000000 ≤ k) : laws_markPairS.f k l n = some (n + 7 * l.length, markP l n) := by
  have := markPairS_l0 l [] k n (by omega) h0 (by omega) (by simp; omega)
  unfold laws_markPairS.f
  simpa using this
theorem heldPairS_l0 : ∀ (s p : List S75) (k : Nat) (n : Int), s.length < k → 0 ≤ n → n + 7 * s.length ≤ 1000000000000 → (p ++ s).length ≤ 1000000000 → laws_heldPairS.l0 k (p ++ markP s n) n (p.length : Int) = some (n + 7 * s.length) := by
  intro s
  induction s with
  | nil =>
    intro p k n hk h0 h1 hl
    obtain ⟨k, rfl, -⟩ := succ_of hk
    simp only [laws_heldPairS.l0, markP, List.append_nil]
    rw [if_neg (by omega)]
    simp
  | cons x t ih =>
    intro p k n hk h0 h1 hl
    obtain ⟨k, rfl, hk'⟩ := succ_of hk
    simp only [List.length_cons, List.length_append] at hk' h1 hl
    have w1 : wrap64 (n + 1) = n + 1 := w64 (by omega) (by omega)
    have w2 : wrap64 (n + 1 + 1) = n + 2 := by rw [w64 (by omega) (by omega)]; omega
    have w3 : wrap64 (n + 2 + 1) = n + 3 := by rw [w64 (by omega) (by omega)]; omega
    have w4 : wrap64 (n + 3 + 1) = n + 4 := by rw [w64 (by omega) (by omega)]; omega
    have w5 : wrap64 (n + 4 + 1) = n + 5 := by rw [w64 (by omega) (by omega)]; omega
    have w6 : wrap64 (n + 5 + 1) = n + 6 := by rw [w64 (by omega) (by omega)]; omega
    have w7 : wrap64 (n + 6 + 1) = n + 7 := by rw [w64 (by omega) (by omega)]; omega
    rw [show markP (x :: t) n = (⟨⟨n, n + 1, n + 2⟩, ⟨n + 3, n + 4, n + 5⟩, Int.tmod (n + 6) 3 == 0⟩ : S75) :: markP t (n + 7) from rfl]
    simp only [laws_heldPairS.l0]
    rw [if_pos (by simp <;> omega), if_pos (by simp <;> omega)]
    simp only [rdP, getD_pre, w1, w2, w3, w4, w5, w6, w7, if_true, bne_self_eq_false, Bool.false_eq_true, if_false]
    rw [w64s (n := 1000000001) (by omega) (by omega)]
    have := ih (p ++ [⟨⟨n, n + 1, n + 2⟩, ⟨n + 3, n + 4, n + 5⟩, Int.tmod (n + 6) 3 == 0⟩]) k (n + 7) (by omega) (by omega) (by omega) (by simp; omega)
    simp only [List.append_assoc, List.singleton_append, List.length_append, List.length_singleton] at this
    rw [this]
    simp only [List.length_cons]
    congr 1
    omega
theorem heldPairS_eq (l : List S75) (n : Int) (k : Nat) (h0 : 0 ≤ n) (h1 : n ≤ 100000000) (hl : l.length ≤ 100000000) (hk : 2000000000 ≤ k) : laws_heldPairS.f k (markP l n) n = some (n + 7 * l.length) := by
  have := heldPairS_l0 l [] k n (by omega) h0 (by omega) (by simp; omega)
  unfold laws_heldPairS.f
  simpa using this

theorem FnExactUnmatchedRows : laws_FnExactUnmatchedRows.Pure := by
  intro ⟨a, l1, l2, l3, b⟩ ⟨_, ⟨h1, _⟩, ⟨h2, _⟩, ⟨h3, _⟩, _⟩
  refine big_k _ (fun k hk => ?_)
  obtain ⟨k, rfl⟩ : ∃ m, k = m + 3 := ⟨k - 3, by omega⟩
  unfold laws_FnExactUnmatchedRows.f
  rcases szTask_eq a l1 l2 l3 b 1048576 (by omega) (by omega) h1 h2 h3 with e | ⟨e, h⟩
  · simp only [ob e, if_pos (show (-1 : Int) < 0 by omega)]
  have m1 : (l1.map cvRow).length = l1.length := List.length_map ..
  have m2 : (l2.map cvRow).length = l2.length := List.length_map ..
  rw [ob e, if_neg (by omega)]
  have d := unmT_length a (l1.map cvRow) (l2.map cvRow) l3 b
  generalize hX : unmT a (l1.map cvRow) (l2.map cvRow) l3 b = X at d
  have t := fun q (hq : 2000000000 ≤ q) => toTask_eq a l1 l2 l3 b q (by omega) (by omega) (by omega) hq
  have s := fun q (hq : 5000000000 ≤ q) => (spec_UnmatchedRows_eq a (l1.map cvRow) (l2.map cvRow) l3 b q (by omega) (by omega) hq).trans (congrArg some hX)
  have i := fun q (hq : 5000000000 ≤ q) => (impl_UnmatchedRows_eq a (l1.map cvRow) (l2.map cvRow) l3 b q (by omega) (by omega) hq).trans (congrArg some hX)
  have r := fun q (hq : 2000000000 ≤ q) => eqPairS_refl X q (by omega) hq
  have rt := fun q (hq : 2000000000 ≤ q) => eqTask_refl a (l1.map cvRow) (l2.map cvRow) l3 b q (by omega) (by omega) (by omega) hq
  have km := fun q (hq : 2000000000 ≤ q) => markTask_eq a (l1.map cvRow) (l2.map cvRow) l3 b 1 q (by omega) (by omega) (by omega) (by omega) (by omega) hq
  have p1 : ¬ ((1 : Int) + 3 * (l1.map cvRow).length + 3 * (l2.map cvRow).length + l3.length < 0) := by omega
  have kp := fun q (hq : 2000000000 ≤ q) => markPairS_eq X 1 q (by omega) (by omega) (by omega) hq
  have kh := fun q (hq : 2000000000 ≤ q) => heldPairS_eq X 1 q (by omega) (by omega) (by omega) hq
  have p2 : ¬ ((1 : Int) + 7 * X.length < 0) := by omega
  simp only [ob (t (k + 3) (by omega)), ob (s (k + 3) (by omega)), ob (i (k + 3) (by omega)), ob (r (k + 3) (by omega)), ob (rt (k + 3) (by omega)), ob (km (k + 3) (by omega)), if_neg p1, eq_self, bne_self_eq_false, Bool.not_true, Bool.false_eq_true, if_false, if_true]
  simp only [laws_FnExactUnmatchedRows.j0, ob (kp (k + 2) (by omega)), ob (kh (k + 2) (by omega)), if_neg p2, ob (t (k + 2) (by omega)), ob (i (k + 2) (by omega)), ob (r (k + 2) (by omega)), eq_self, bne_self_eq_false, Bool.not_true, Bool.false_eq_true, if_false, if_true]

end Go.Proofs.Ythciieopabndcaa.Pure
