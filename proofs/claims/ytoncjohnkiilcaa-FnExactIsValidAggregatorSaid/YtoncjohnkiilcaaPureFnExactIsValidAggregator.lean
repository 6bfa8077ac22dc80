/- IsValidAggregator of the program returns what the reference's returns, for all arguments (the pure statement). No condition. -/
import Derived.Test.YtoncjohnkiilcaaP4c0
import Derived.Test.YtoncjohnkiilcaaP86c0
import Derived.Test.YtoncjohnkiilcaaP8ec0
import Derived.Test.YtoncjohnkiilcaaPc4c0
import Derived.Test.YtoncjohnkiilcaaPccc0
import Derived.Test.YtoncjohnkiilcaaPefc0
import Derived.Test.YtoncjohnkiilcaaSayFnExactIsValidAggregator
namespace Go.Proofs.Ytoncjohnkiilcaa.Pure
open Go.RowKit Go.Proofs.YtoncjohnkiilcaaW.PrintWords Go.Proofs.YtoncjohnkiilcaaW.PrintLast Go.Proofs.Ytoncjohnkiilcaa.P
set_option linter.unusedVariables false
set_option linter.unusedSimpArgs false

theorem succ_of {k n : Nat} (h : n < k) : ∃ m, k = m + 1 ∧ n ≤ m := ⟨k - 1, by omega, by omega⟩
theorem drop_nil' {α : Type} {l : List α} {i : Nat} (h : l.drop i = []) : l.length ≤ i := List.drop_eq_nil_iff.1 h
theorem drop_cons' {α : Type} {l : List α} {i : Nat} {x : α} {t : List α} (h : l.drop i = x :: t) : i < l.length ∧ l.drop (i + 1) = t ∧ (∀ d, l.getD i d = x) ∧ l.length = i + 1 + t.length := by
  have hl := congrArg List.length h
  rw [List.length_drop, List.length_cons] at hl
  refine ⟨by omega, ?_, fun d => ?_, by omega⟩
  · rw [← List.drop_drop, h]; rfl
  · have : l[i]? = some x := by rw [← List.head?_drop, h]; rfl
    rw [List.getD_eq_getElem?_getD, this]; rfl
theorem w64 {x : Int} (h0 : -9223372036854775808 ≤ x) (h1 : x ≤ 9223372036854775807) : wrap64 x = x := by unfold wrap64; omega
theorem w64s {i n : Nat} (h : i < n) (hn : n ≤ 9223372036854775807) : wrap64 ((i : Int) + 1) = ((i + 1 : Nat) : Int) := by rw [w64 (by omega) (by omega)]; rfl
theorem big_k (P : Nat → Prop) (h : ∀ k, 1099511627776 ≤ k → P k) : ∃ k, P k := ⟨1099511627776, h _ (Nat.le_refl _)⟩
/-- A step of a chain, by an equation (never by unfolding: the kernel would compute). -/
theorem ob {α β : Type} {o : Option α} {a : α} {f : α → Option β} (h : o = some a) : o.bind f = f a := by subst h; rfl
theorem rdR (l : List S73) (i : Nat) : rd_T73 l (i : Int) = l.getD i z73 := rfl
theorem rdLR (l : List S75) (i : Nat) : rd_T75 l (i : Int) = l.getD i z75 := rfl
def cvRow (x : S75) : S73 := ⟨x.f0, x.f1, x.f2⟩
theorem szRowS_neg (l : List S75) (n : Int) (h0 : 0 ≤ n) (h1 : n ≤ 1048576) (hl : l.length ≤ maxLen) (h : n - l.length < 0) : laws_szRowS.f l n = some (-1) := by
  have hl' : l.length ≤ 9223372036854775807 := hl
  unfold laws_szRowS.f
  rw [w64 (by omega) (by omega), if_pos h]
theorem szRowS_pos (l : List S75) (n : Int) (h0 : 0 ≤ n) (h1 : n ≤ 1048576) (h : ¬ n - l.length < 0) : laws_szRowS.f l n = some (n - l.length) := by
  unfold laws_szRowS.f
  rw [w64 (by omega) (by omega), if_neg h]
theorem toRowS_l0 (l : List S75) (hl : l.length ≤ 1048576) : ∀ (s : List S75) (k i : Nat) (acc : List S73), l.drop i = s → acc.length = l.length → s.length < k → laws_toRowS.l0 k l acc (i : Int) = some (acc.take i ++ s.map cvRow) := by
  intro s
  induction s with
  | nil =>
    intro k i acc hd ha hk
    obtain ⟨k, rfl, -⟩ := succ_of hk
    have := drop_nil' hd
    simp only [laws_toRowS.l0]
    rw [if_neg (by omega), List.take_of_length_le (by omega)]
    simp
  | cons x t ih =>
    intro k i acc hd ha hk
    obtain ⟨k, rfl, hk'⟩ := succ_of hk
    obtain ⟨hi, hd', hx, -⟩ := drop_cons' hd
    simp only [List.length_cons] at hk'
    simp only [laws_toRowS.l0, laws_toRow.f, Option.bind_some]
    rw [if_pos (by omega), if_pos (by omega), if_pos (by omega), w64s hi (by omega), rdLR, hx, ih _ _ _ hd' (by simp [ha]) (by omega)]
    congr 1
    simp only [Int.toNat_natCast, List.map_cons]
    rw [List.take_succ_eq_append_getElem (by simp; omega), List.take_set_of_le (Nat.le_refl _)]
    simp [cvRow]
theorem toRowS_eq (l : List S75) (hl : l.length ≤ 1048576) (k : Nat) (hk : 2000000 ≤ k) : laws_toRowS.f k l = some (l.map cvRow) := by
  unfold laws_toRowS.f
  rw [if_pos (by omega), if_pos (by simp; omega)]
  have := toRowS_l0 l hl l k 0 (List.replicate l.length z73) rfl (by simp) (by omega)
  simpa using this
theorem eqRowS_l0 (l : List S73) (hl : l.length ≤ 9223372036854775807) : ∀ (s : List S73) (k i : Nat), l.drop i = s → s.length < k → laws_eqRowS.l0 k l l (i : Int) = some true := by
  intro s
  induction s with
  | nil =>
    intro k i hd hk
    obtain ⟨k, rfl, -⟩ := succ_of hk
    have := drop_nil' hd
    simp only [laws_eqRowS.l0]
    rw [if_neg (by omega)]
  | cons x t ih =>
    intro k i hd hk
    obtain ⟨k, rfl, hk'⟩ := succ_of hk
    obtain ⟨hi, hd', hx, -⟩ := drop_cons' hd
    simp only [List.length_cons] at hk'
    simp only [laws_eqRowS.l0, laws_eqRow.f, if_true, Option.bind_some]
    rw [if_pos (by omega), if_pos (by omega), if_pos (by omega), w64s hi (by omega), ih _ _ hd' (by omega)]
theorem eqRowS_refl (l : List S73) (hl : l.length ≤ 1048576) (k : Nat) (hk : 2000000 ≤ k) : laws_eqRowS.f k l l = some true := by
  unfold laws_eqRowS.f
  rw [if_pos rfl]
  exact eqRowS_l0 l (by omega) l k 0 rfl (by omega)
def validR (x : S73) : Bool := decide ((0 ≤ x.f0 ∧ x.f0 ≤ 9) ∧ (0 ≤ x.f1 ∧ x.f1 ≤ 99) ∧ (0 ≤ x.f2 ∧ x.f2 ≤ 3))
theorem impl_within_eq (a b c : Int) : impl_within.f a b c = some (decide (b ≤ a ∧ a ≤ c)) := by
  unfold impl_within.f
  by_cases h : a ≥ b
  · rw [if_pos h]; congr 1; simp only [decide_eq_decide]; constructor <;> intro h2 <;> omega
  · rw [if_neg h]; congr 1; symm; simp only [decide_eq_false_iff_not]; omega
theorem spec_l1In_eq (a b c : Int) : spec_l1In.f a b c = some (decide (b ≤ a ∧ a ≤ c)) := by
  unfold spec_l1In.f
  by_cases h : a ≥ b
  · rw [if_pos h]; congr 1; simp only [decide_eq_decide]; constructor <;> intro h2 <;> omega
  · rw [if_neg h]; congr 1; symm; simp only [decide_eq_false_iff_not]; omega
theorem validR_of (x y z : Int) : (if decide (0 ≤ x ∧ x ≤ 9) = true then (if decide (0 ≤ y ∧ y ≤ 99) = true then (some (decide (0 ≤ z ∧ z ≤ 3))) else some false) else some false) = some (validR ⟨x, y, z⟩) := by
  unfold validR
  by_cases h1 : 0 ≤ x ∧ x ≤ 9 <;> by_cases h2 : 0 ≤ y ∧ y ≤ 99 <;> simp [h1, h2]
theorem impl_IsValidRow_eq (x y z : Int) : impl_IsValidRow.f x y z = some (validR ⟨x, y, z⟩) := by
  unfold impl_IsValidRow.f
  simp only [impl_within_eq, Option.bind_some]
  exact validR_of x y z
theorem impl_IsValidRow_eq' (x : S73) : impl_IsValidRow.f x.f0 x.f1 x.f2 = some (validR x) := impl_IsValidRow_eq _ _ _
theorem spec_IsValidRow_eq (x y z : Int) : spec_IsValidRow.f x y z = some (validR ⟨x, y, z⟩) := by
  unfold spec_IsValidRow.f
  simp only [spec_l1In_eq, Option.bind_some]
  exact validR_of x y z
theorem spec_IsValidRow_eq' (x : S73) : spec_IsValidRow.f x.f0 x.f1 x.f2 = some (validR x) := spec_IsValidRow_eq _ _ _
def vRows (l : List S73) : Bool := decide (l.length ≤ 24) && l.all validR
theorem spec_AreValidRows_l0 (l : List S73) (hl : l.length ≤ 1000000000) : ∀ (s : List S73) (k i : Nat), l.drop i = s → s.length < k → spec_AreValidRows.l0 k l (i : Int) = some (s.all validR && decide (l.length ≤ 24)) := by
  intro s
  induction s with
  | nil =>
    intro k i hd hk
    obtain ⟨k, rfl, -⟩ := succ_of hk
    have := drop_nil' hd
    simp only [spec_AreValidRows.l0]
    rw [if_neg (by omega)]
    simp
    omega
  | cons x t ih =>
    intro k i hd hk
    obtain ⟨k, rfl, hk'⟩ := succ_of hk
    obtain ⟨hi, hd', hx, -⟩ := drop_cons' hd
    simp only [List.length_cons] at hk'
    simp only [spec_AreValidRows.l0]
    rw [if_pos (by omega), if_pos (by omega), rdR, hx, ob (spec_IsValidRow_eq' x), w64s hi (by omega), ih _ _ hd' (by omega)]
    cases h : validR x <;> simp [h]
theorem spec_AreValidRows_eq (l : List S73) (k : Nat) (hl : l.length ≤ 1000000000) (hk : 2000000000 ≤ k) : spec_AreValidRows.f k l = some (vRows l) := by
  have := spec_AreValidRows_l0 l hl l k 0 rfl (by omega)
  unfold spec_AreValidRows.f vRows
  rw [Bool.and_comm]
  simpa using this
theorem impl_allValid_l0 (l : List S73) (hl : l.length ≤ 1000000000) : ∀ (s : List S73) (k i : Nat), l.drop i = s → s.length < k → impl_allValid.l0 k l (l.length : Int) (i : Int) = some (s.all validR) := by
  intro s
  induction s with
  | nil =>
    intro k i hd hk
    obtain ⟨k, rfl, -⟩ := succ_of hk
    have := drop_nil' hd
    simp only [impl_allValid.l0]
    rw [if_neg (by omega)]
    simp
  | cons x t ih =>
    intro k i hd hk
    obtain ⟨k, rfl, hk'⟩ := succ_of hk
    obtain ⟨hi, hd', hx, -⟩ := drop_cons' hd
    simp only [List.length_cons] at hk'
    simp only [impl_allValid.l0]
    rw [if_pos (by omega), if_pos (by omega), if_pos (by omega), rdR, hx, ob (impl_IsValidRow_eq' x), w64s hi (by omega), ih _ _ hd' (by omega)]
    cases h : validR x <;> simp [h]
theorem impl_AreValidRows_eq (l : List S73) (k : Nat) (hl : l.length ≤ 1000000000) (hk : 2000000000 ≤ k) : impl_AreValidRows.f k l = some (vRows l) := by
  have := impl_allValid_l0 l hl l k 0 rfl (by omega)
  unfold impl_AreValidRows.f vRows
  by_cases h : l.length ≤ 24
  · rw [if_pos (by omega)]
    have e : impl_allValid.f k l = some (l.all validR) := by unfold impl_allValid.f; simpa using this
    rw [ob e]
    simp [h]
  · rw [if_neg (by omega)]
    simp [h]
theorem toRowS_eq' (l : List S75) (k : Nat) (hl : l.length ≤ 1048576) (hk : 2000000000 ≤ k) : laws_toRowS.f k l = some (l.map cvRow) := toRowS_eq l hl k (by omega)
theorem eqRowS_refl' (l : List S73) (k : Nat) (hl : l.length ≤ 1048576) (hk : 2000000000 ≤ k) : laws_eqRowS.f k l l = some true := eqRowS_refl l hl k (by omega)
theorem szGRow (l : List S75) (n : Int) (h0 : 0 ≤ n) (h1 : n ≤ 1048576) (hl : l.length ≤ maxLen) (b : Int) : laws_szGroupTask.f l b n = some (-1) ∨ (laws_szGroupTask.f l b n = some (n - l.length) ∧ (l.length : Int) ≤ n) := by
  unfold laws_szGroupTask.f
  by_cases c1 : n - l.length < 0
  · left; rw [ob (szRowS_neg l n h0 h1 hl c1), if_pos (by omega)]
  · right; rw [ob (szRowS_pos l n h0 h1 c1), if_neg c1]; exact ⟨rfl, by omega⟩
def cvG (x : S107) : S80 := ⟨x.f0.map cvRow, x.f1⟩
def szGs : List S107 → Nat
  | [] => 0
  | x :: t => x.f0.length + szGs t
def smallG (n : Nat) (x : S80) : Prop := x.f0.length ≤ n
theorem rdG (l : List S80) (i : Nat) : rd_T80 l (i : Int) = l.getD i z80 := rfl
theorem rdLG (l : List S107) (i : Nat) : rd_T107 l (i : Int) = l.getD i z107 := rfl
theorem szGs_small : ∀ (l : List S107) (n : Nat), szGs l ≤ n → ∀ x ∈ l, x.f0.length ≤ n
  | [], _, _, _, h => by cases h
  | y :: t, n, hn, x, h => by
    simp only [szGs] at hn
    rcases List.mem_cons.1 h with rfl | h
    · omega
    · exact szGs_small t n (by omega) x h
theorem cvG_small {n : Nat} {l : List S107} (h : ∀ x ∈ l, x.f0.length ≤ n) : ∀ x ∈ l.map cvG, smallG n x := by
  intro x hx
  obtain ⟨y, hy, rfl⟩ := List.mem_map.1 hx
  have := h y hy
  simpa [cvG, smallG] using this
theorem szGroupTaskS_l0 (l : List S107) (hl : l.length ≤ 1048576) : ∀ (s : List S107) (k i : Nat) (n : Int), l.drop i = s → (∀ x ∈ s, x.f0.length ≤ maxLen) → s.length < k → 0 ≤ n → n ≤ 1048576 → laws_szGroupTaskS.l0 k l n (i : Int) = some (-1) ∨ (laws_szGroupTaskS.l0 k l n (i : Int) = some (n - szGs s) ∧ (szGs s : Int) ≤ n) := by
  intro s
  induction s with
  | nil =>
    intro k i n hd hf hk h0 h1
    obtain ⟨k, rfl, -⟩ := succ_of hk
    have := drop_nil' hd
    right
    simp only [laws_szGroupTaskS.l0, szGs]
    rw [if_neg (by omega)]
    exact ⟨by simp, by omega⟩
  | cons x t ih =>
    intro k i n hd hf hk h0 h1
    obtain ⟨k, rfl, hk'⟩ := succ_of hk
    obtain ⟨hi, hd', hx, -⟩ := drop_cons' hd
    simp only [List.length_cons] at hk'
    have f1 := hf x (List.mem_cons_self ..)
    simp only [laws_szGroupTaskS.l0]
    rw [if_pos (by omega), if_pos (by omega), rdLG, hx, w64s hi (by omega)]
    rcases szGRow x.f0 n h0 h1 f1 x.f1 with e | ⟨e, h⟩
    · left; rw [ob e, if_pos (by omega)]
    · rw [ob e, if_neg (by omega)]
      rcases ih k (i + 1) (n - x.f0.length) hd' (fun y hy => hf y (List.mem_cons_of_mem _ hy)) (by omega) (by omega) (by omega) with e' | ⟨e', h'⟩
      · exact .inl e'
      · right
        refine ⟨e'.trans (congrArg some ?_), ?_⟩ <;> simp only [szGs] <;> omega
theorem szAggregator_eq (l : List S107) (a : Int) (b : Bool) (n : Int) (k : Nat) (hg : l.length ≤ maxLen) (hf : ∀ x ∈ l, x.f0.length ≤ maxLen) (h0 : 0 ≤ n) (h1 : n ≤ 1048576) (hk : 2000000000 ≤ k) : laws_szAggregator.f k l a b n = some (-1) ∨ (laws_szAggregator.f k l a b n = some (n - l.length - szGs l) ∧ (l.length : Int) + szGs l ≤ n) := by
  have hg' : l.length ≤ 9223372036854775807 := hg
  unfold laws_szAggregator.f laws_szGroupTaskS.f
  rw [w64 (by omega) (by omega)]
  by_cases c : n - l.length < 0
  · left; rw [if_pos c, ob rfl, if_pos (by omega)]
  · rw [if_neg c]
    rcases szGroupTaskS_l0 l (by omega) l k 0 (n - l.length) rfl hf (by omega) (by omega) (by omega) with e | ⟨e, h⟩
    · rw [Int.natCast_zero] at e
      left; rw [ob e, if_pos (by omega)]
    · rw [Int.natCast_zero] at e
      right; rw [ob e, if_neg (by omega)]; exact ⟨rfl, by omega⟩
theorem toGroupTaskS_l0 (l : List S107) (hl : l.length ≤ 1048576) : ∀ (s : List S107) (k i : Nat) (acc : List S80), l.drop i = s → (∀ x ∈ s, x.f0.length ≤ 1048576) → acc.length = l.length → 2000000000 + s.length < k → laws_toGroupTaskS.l0 k l acc (i : Int) = some (acc.take i ++ s.map cvG) := by
  intro s
  induction s with
  | nil =>
    intro k i acc hd hf ha hk
    obtain ⟨k, rfl, -⟩ := succ_of hk
    have := drop_nil' hd
    simp only [laws_toGroupTaskS.l0]
    rw [if_neg (by omega), List.take_of_length_le (by omega)]
    simp
  | cons x t ih =>
    intro k i acc hd hf ha hk
    obtain ⟨k, rfl, hk'⟩ := succ_of hk
    obtain ⟨hi, hd', hx, -⟩ := drop_cons' hd
    simp only [List.length_cons] at hk'
    have f1 := hf x (List.mem_cons_self ..)
    have e : laws_toGroupTask.f k x.f0 x.f1 = some (x.f0.map cvRow, x.f1) := by unfold laws_toGroupTask.f; rw [ob (toRowS_eq' x.f0 k f1 (by omega))]
    simp only [laws_toGroupTaskS.l0]
    rw [if_pos (by omega), if_pos (by omega), rdLG, hx, ob e, if_pos (by omega), w64s hi (by omega), ih _ _ _ hd' (fun y hy => hf y (List.mem_cons_of_mem _ hy)) (by simp [ha]) (by omega)]
    congr 1
    simp only [Int.toNat_natCast, List.map_cons]
    rw [List.take_succ_eq_append_getElem (by simp; omega), List.take_set_of_le (Nat.le_refl _)]
    simp [cvG]
theorem toAggregator_eq (l : List S107) (a : Int) (b : Bool) (k : Nat) (hl : l.length ≤ 1048576) (hf : ∀ x ∈ l, x.f0.length ≤ 1048576) (hk : 3000000000 ≤ k) : laws_toAggregator.f k l a b = some (l.map cvG, a, b) := by
  have e : laws_toGroupTaskS.f k l = some (l.map cvG) := by
    unfold laws_toGroupTaskS.f
    rw [if_pos (by omega), if_pos (by simp; omega)]
    have := toGroupTaskS_l0 l hl l k 0 (List.replicate l.length z80) rfl hf (by simp) (by omega)
    simpa using this
  unfold laws_toAggregator.f
  rw [ob e]
theorem eqGroupTaskS_l0 (l : List S80) (hl : l.length ≤ 1000000000) : ∀ (s : List S80) (k i : Nat), l.drop i = s → (∀ x ∈ s, smallG 1048576 x) → 2000000000 + s.length < k → laws_eqGroupTaskS.l0 k l l (i : Int) = some true := by
  intro s
  induction s with
  | nil =>
    intro k i hd hf hk
    obtain ⟨k, rfl, -⟩ := succ_of hk
    have := drop_nil' hd
    simp only [laws_eqGroupTaskS.l0]
    rw [if_neg (by omega)]
  | cons x t ih =>
    intro k i hd hf hk
    obtain ⟨k, rfl, hk'⟩ := succ_of hk
    obtain ⟨hi, hd', hx, -⟩ := drop_cons' hd
    simp only [List.length_cons] at hk'
    have f1 : x.f0.length ≤ 1048576 := hf x (List.mem_cons_self ..)
    have e : laws_eqGroupTask.f k x.f0 x.f1 x.f0 x.f1 = some true := by unfold laws_eqGroupTask.f; rw [ob (eqRowS_refl' x.f0 k f1 (by omega)), if_pos rfl, if_pos rfl]
    simp only [laws_eqGroupTaskS.l0]
    rw [if_pos (by omega), if_pos (by omega), if_pos (by omega), rdG, hx, ob e, if_pos rfl, w64s hi (by omega), ih _ _ hd' (fun y hy => hf y (List.mem_cons_of_mem _ hy)) (by omega)]
theorem eqGroupTaskS_refl (l : List S80) (k : Nat) (hl : l.length ≤ 1048576) (hf : ∀ x ∈ l, smallG 1048576 x) (hk : 3000000000 ≤ k) : laws_eqGroupTaskS.f k l l = some true := by
  unfold laws_eqGroupTaskS.f
  rw [if_pos rfl]
  exact eqGroupTaskS_l0 l (by omega) l k 0 rfl hf (by omega)
theorem eqAggregator_refl (l : List S80) (a : Int) (b : Bool) (k : Nat) (hl : l.length ≤ 1048576) (hf : ∀ x ∈ l, smallG 1048576 x) (hk : 3000000000 ≤ k) : laws_eqAggregator.f k l a b l a b = some true := by
  unfold laws_eqAggregator.f
  rw [ob (eqGroupTaskS_refl l k hl hf hk), if_pos rfl, if_pos rfl, if_neg (by simp)]
def rowsG : List S80 → Nat
  | [] => 0
  | x :: t => x.f0.length + rowsG t
theorem rowsG_cons (x : S80) (t : List S80) : rowsG (x :: t) = x.f0.length + rowsG t := rfl
theorem rowsG_sz : ∀ (l : List S107), rowsG (l.map cvG) = szGs l
  | [] => rfl
  | x :: t => by
    have e1 : (cvG x).f0.length = x.f0.length := List.length_map ..
    rw [List.map_cons, rowsG_cons, e1, rowsG_sz t]
    rfl
def vG (x : S80) : Bool := vRows x.f0 && decide (0 ≤ x.f1 ∧ x.f1 ≤ 4)
def vA (l : List S80) (a : Int) : Bool := l.all vG && (decide ((rowsG l : Int) ≤ 24) && (decide ((l.length : Int) ≤ 40) && decide (0 ≤ a ∧ a ≤ 100000)))
theorem spec_IsValidAggregator_l0 (l : List S80) (a : Int) (b : Bool) (hl : l.length ≤ 1000000000) : ∀ (s : List S80) (k i : Nat) (n : Int), l.drop i = s → (∀ x ∈ s, smallG 1048576 x) → 2000000000 + s.length < k → 0 ≤ n → n + rowsG s ≤ 1000000000000 →
    spec_IsValidAggregator.l0 k n (i : Int) l a b = some (s.all vG && (decide (n + rowsG s ≤ 24) && (decide ((l.length : Int) ≤ 40) && decide (0 ≤ a ∧ a ≤ 100000)))) := by
  intro s
  induction s with
  | nil =>
    intro k i n hd hf hk h0 h2
    obtain ⟨k, rfl, -⟩ := succ_of hk
    have := drop_nil' hd
    simp only [spec_IsValidAggregator.l0]
    rw [if_neg (by omega), ob (spec_l1In_eq a 0 100000)]
    simp only [List.all_nil, Bool.true_and]
    rw [show rowsG [] = 0 from rfl]
    by_cases c1 : n ≤ 24
    · rw [if_pos c1, decide_eq_true (p := n + ((0 : Nat) : Int) ≤ 24) (by omega)]
      by_cases c3 : (l.length : Int) ≤ 40
      · rw [if_pos c3, decide_eq_true c3]; simp
      · rw [if_neg c3, decide_eq_false c3]; simp
    · rw [if_neg c1, decide_eq_false (p := n + ((0 : Nat) : Int) ≤ 24) (by omega)]; simp
  | cons x t ih =>
    intro k i n hd hf hk h0 h2
    obtain ⟨k, rfl, hk'⟩ := succ_of hk
    obtain ⟨hi, hd', hx, -⟩ := drop_cons' hd
    simp only [List.length_cons, rowsG_cons] at hk' h2
    have f1 : x.f0.length ≤ 1048576 := hf x (List.mem_cons_self ..)
    simp only [spec_IsValidAggregator.l0]
    rw [if_pos (by omega), if_pos (by omega), rdG, hx, ob (spec_AreValidRows_eq x.f0 k (by omega) (by omega)), ob (spec_l1In_eq x.f1 0 4), w64s hi (by omega), w64 (by omega) (by omega), ih _ _ _ hd' (fun y hy => hf y (List.mem_cons_of_mem _ hy)) (by omega) (by omega) (by omega), List.all_cons, rowsG_cons]
    rw [show n + x.f0.length + rowsG t = n + ((x.f0.length + rowsG t : Nat) : Int) by omega]
    unfold vG
    cases vRows x.f0 <;> cases decide (0 ≤ x.f1 ∧ x.f1 ≤ 4) <;> simp
theorem spec_IsValidAggregator_eq (l : List S80) (a : Int) (b : Bool) (k : Nat) (hl : l.length ≤ 100000000) (hf : ∀ x ∈ l, smallG 1048576 x) (h1 : rowsG l ≤ 100000000) (hk : 3000000000 ≤ k) : spec_IsValidAggregator.f k l a b = some (vA l a) := by
  have := spec_IsValidAggregator_l0 l a b (by omega) l k 0 0 rfl hf (by omega) (by omega) (by omega)
  unfold spec_IsValidAggregator.f vA
  rw [Int.natCast_zero] at this
  simpa only [Int.zero_add] using this
theorem impl_IsValidAggregator_l0 (l : List S80) (a : Int) (b : Bool) (hl : l.length ≤ 1000000000) : ∀ (s : List S80) (k i : Nat) (n : Int), l.drop i = s → (∀ x ∈ s, smallG 1048576 x) → 2000000000 + s.length < k → 0 ≤ n → n + rowsG s ≤ 1000000000000 →
    impl_IsValidAggregator.l0 k n l (l.length : Int) (i : Int) l a b = some (s.all vG && (decide (n + rowsG s ≤ 24) && (decide ((l.length : Int) ≤ 40) && decide (0 ≤ a ∧ a ≤ 100000)))) := by
  intro s
  induction s with
  | nil =>
    intro k i n hd hf hk h0 h2
    obtain ⟨k, rfl, -⟩ := succ_of hk
    have := drop_nil' hd
    simp only [impl_IsValidAggregator.l0]
    rw [if_neg (by omega), ob (impl_within_eq a 0 100000)]
    simp only [List.all_nil, Bool.true_and]
    rw [show rowsG [] = 0 from rfl]
    by_cases c1 : n ≤ 24
    · rw [if_pos c1, decide_eq_true (p := n + ((0 : Nat) : Int) ≤ 24) (by omega)]
      by_cases c3 : (l.length : Int) ≤ 40
      · rw [if_pos c3, decide_eq_true c3]; simp
      · rw [if_neg c3, decide_eq_false c3]; simp
    · rw [if_neg c1, decide_eq_false (p := n + ((0 : Nat) : Int) ≤ 24) (by omega)]; simp
  | cons x t ih =>
    intro k i n hd hf hk h0 h2
    obtain ⟨k, rfl, hk'⟩ := succ_of hk
    obtain ⟨hi, hd', hx, -⟩ := drop_cons' hd
    simp only [List.length_cons, rowsG_cons] at hk' h2
    have f1 : x.f0.length ≤ 1048576 := hf x (List.mem_cons_self ..)
    simp only [impl_IsValidAggregator.l0]
    rw [if_pos (by omega), if_pos (by omega), if_pos (by omega), rdG, hx, ob (impl_AreValidRows_eq x.f0 k (by omega) (by omega)), ob (impl_within_eq x.f1 0 4), w64s hi (by omega), w64 (by omega) (by omega), ih _ _ _ hd' (fun y hy => hf y (List.mem_cons_of_mem _ hy)) (by omega) (by omega) (by omega), List.all_cons, rowsG_cons]
    rw [show n + x.f0.length + rowsG t = n + ((x.f0.length + rowsG t : Nat) : Int) by omega]
    unfold vG
    cases vRows x.f0 <;> cases decide (0 ≤ x.f1 ∧ x.f1 ≤ 4) <;> simp
theorem impl_IsValidAggregator_eq (l : List S80) (a : Int) (b : Bool) (k : Nat) (hl : l.length ≤ 100000000) (hf : ∀ x ∈ l, smallG 1048576 x) (h1 : rowsG l ≤ 100000000) (hk : 3000000000 ≤ k) : impl_IsValidAggregator.f k l a b = some (vA l a) := by
  have := impl_IsValidAggregator_l0 l a b (by omega) l k 0 0 rfl hf (by omega) (by omega) (by omega)
  unfold impl_IsValidAggregator.f vA
  rw [Int.natCast_zero] at this
  simpa only [Int.zero_add] using this
theorem FnExactIsValidAggregator : laws_FnExactIsValidAggregator.Pure := by
  intro ⟨l, a, b⟩ ⟨⟨hg, hf⟩, _, _⟩
  refine big_k _ (fun k hk => ?_)
  unfold laws_FnExactIsValidAggregator.f
  have hf' : ∀ x ∈ l, x.f0.length ≤ maxLen := fun x hx => (hf x hx).1.1
  rcases szAggregator_eq l a b 1048576 k hg hf' (by omega) (by omega) (by omega) with e | ⟨e, h⟩
  · simp only [ob e, if_pos (show (-1 : Int) < 0 by omega)]
  rw [ob e, if_neg (by omega)]
  have hs := szGs_small l 1048576 (by omega)
  have hc := cvG_small hs
  have hr := rowsG_sz l
  have hm : (l.map cvG).length = l.length := List.length_map ..
  simp only [ob (toAggregator_eq l a b k (by omega) hs (by omega)), ob (spec_IsValidAggregator_eq (l.map cvG) a b k (by omega) hc (by omega) (by omega)), ob (impl_IsValidAggregator_eq (l.map cvG) a b k (by omega) hc (by omega) (by omega)), ob (eqAggregator_refl (l.map cvG) a b k (by omega) hc (by omega)), bne_self_eq_false, Bool.false_eq_true, if_false, if_true]

end Go.Proofs.Ytoncjohnkiilcaa.Pure
