/- EqualAggregators of the program returns what the reference's returns, for all arguments (the pure statement). No condition. -/
import Derived.Test.YtoncjohnkiilcaaP2c0
import Derived.Test.YtoncjohnkiilcaaP86c0
import Derived.Test.YtoncjohnkiilcaaP8ec0
import Derived.Test.YtoncjohnkiilcaaPefc0
import Derived.Test.YtoncjohnkiilcaaSayFnExactEqualAggregators
namespace Go.Proofs.Ytoncjohnkiilcaa.Pure
open Go.RowKit Go.Proofs.YtoncjohnkiilcaaW.PrintWords Go.Proofs.YtoncjohnkiilcaaW.PrintLast Go.Proofs.Ytoncjohnkiilcaa.P
set_option linter.unusedVariables false
set_option linter.unusedSimpArgs false

theorem succ_of {k n : Nat} (h : n < k) : ∃ m, k = m + 1 ∧ n ≤ m := ⟨k - 1, by omega, by omega⟩
theorem drop_nil' {α : Type} {l : List α} {i : Nat} (h : l.drop i = []) : l.length ≤ i := List.drop_eq_nil_iff.1 h
theorem drop_cons' {α : Type} {l : List α} {i : Nat} {x : α} {t : List α} (h : l.drop i = x :: t) : i < l.length ∧ l.drop (i + 1) = t ∧ (∀ d, l.getD i d = x) ∧ l.length = i + 1 + t.length := by
  have hl := congrArg List.length h
  rw [List.length_drop, List.length_cons] at hl
  refine ⟨by omega, ?_, fun d => ?_, by omega⟩
  · rw [← List.drop_drop, h]; rfl
  · have : l[i]? = some x := by rw [← List.head?_drop, h]; rfl
    rw [List.getD_eq_getElem?_getD, this]; rfl
theorem w64 {x : Int} (h0 : -9223372036854775808 ≤ x) (h1 : x ≤ 9223372036854775807) : wrap64 x = x := by unfold wrap64; omega
theorem w64s {i n : Nat} (h : i < n) (hn : n ≤ 9223372036854775807) : wrap64 ((i : Int) + 1) = ((i + 1 : Nat) : Int) := by rw [w64 (by omega) (by omega)]; rfl
theorem big_k (P : Nat → Prop) (h : ∀ k, 1099511627776 ≤ k → P k) : ∃ k, P k := ⟨1099511627776, h _ (Nat.le_refl _)⟩
/-- A step of a chain, by an equation (never by unfolding: the kernel would compute). -/
theorem ob {α β : Type} {o : Option α} {a : α} {f : α → Option β} (h : o = some a) : o.bind f = f a := by subst h; rfl
theorem rdR (l : List S73) (i : Nat) : rd_T73 l (i : Int) = l.getD i z73 := rfl
theorem rdLR (l : List S75) (i : Nat) : rd_T75 l (i : Int) = l.getD i z75 := rfl
def cvRow (x : S75) : S73 := ⟨x.f0, x.f1, x.f2⟩
theorem szRowS_neg (l : List S75) (n : Int) (h0 : 0 ≤ n) (h1 : n ≤ 1048576) (hl : l.length ≤ maxLen) (h : n - l.length < 0) : laws_szRowS.f l n = some (-1) := by
  have hl' : l.length ≤ 9223372036854775807 := hl
  unfold laws_szRowS.f
  rw [w64 (by omega) (by omega), if_pos h]
theorem szRowS_pos (l : List S75) (n : Int) (h0 : 0 ≤ n) (h1 : n ≤ 1048576) (h : ¬ n - l.length < 0) : laws_szRowS.f l n = some (n - l.length) := by
  unfold laws_szRowS.f
  rw [w64 (by omega) (by omega), if_neg h]
theorem toRowS_l0 (l : List S75) (hl : l.length ≤ 1048576) : ∀ (s : List S75) (k i : Nat) (acc : List S73), l.drop i = s → acc.length = l.length → s.length < k → laws_toRowS.l0 k l acc (i : Int) = some (acc.take i ++ s.map cvRow) := by
  intro s
  induction s with
  | nil =>
    intro k i acc hd ha hk
    obtain ⟨k, rfl, -⟩ := succ_of hk
    have := drop_nil' hd
    simp only [laws_toRowS.l0]
    rw [if_neg (by omega), List.take_of_length_le (by omega)]
    simp
  | cons x t ih =>
    intro k i acc hd ha hk
    obtain ⟨k, rfl, hk'⟩ := succ_of hk
    obtain ⟨hi, hd', hx, -⟩ := drop_cons' hd
    simp only [List.length_cons] at hk'
    simp only [laws_toRowS.l0, laws_toRow.f, Option.bind_some]
    rw [if_pos (by omega), if_pos (by omega), if_pos (by omega), w64s hi (by omega), rdLR, hx, ih _ _ _ hd' (by simp [ha]) (by omega)]
    congr 1
    simp only [Int.toNat_natCast, List.map_cons]
    rw [List.take_succ_eq_append_getElem (by simp; omega), List.take_set_of_le (Nat.le_refl _)]
    simp [cvRow]
theorem toRowS_eq (l : List S75) (hl : l.length ≤ 1048576) (k : Nat) (hk : 2000000 ≤ k) : laws_toRowS.f k l = some (l.map cvRow) := by
  unfold laws_toRowS.f
  rw [if_pos (by omega), if_pos (by simp; omega)]
  have := toRowS_l0 l hl l k 0 (List.replicate l.length z73) rfl (by simp) (by omega)
  simpa using this
theorem eqRowS_l0 (l : List S73) (hl : l.length ≤ 9223372036854775807) : ∀ (s : List S73) (k i : Nat), l.drop i = s → s.length < k → laws_eqRowS.l0 k l l (i : Int) = some true := by
  intro s
  induction s with
  | nil =>
    intro k i hd hk
    obtain ⟨k, rfl, -⟩ := succ_of hk
    have := drop_nil' hd
    simp only [laws_eqRowS.l0]
    rw [if_neg (by omega)]
  | cons x t ih =>
    intro k i hd hk
    obtain ⟨k, rfl, hk'⟩ := succ_of hk
    obtain ⟨hi, hd', hx, -⟩ := drop_cons' hd
    simp only [List.length_cons] at hk'
    simp only [laws_eqRowS.l0, laws_eqRow.f, if_true, Option.bind_some]
    rw [if_pos (by omega), if_pos (by omega), if_pos (by omega), w64s hi (by omega), ih _ _ hd' (by omega)]
theorem eqRowS_refl (l : List S73) (hl : l.length ≤ 1048576) (k : Nat) (hk : 2000000 ≤ k) : laws_eqRowS.f k l l = some true := by
  unfold laws_eqRowS.f
  rw [if_pos rfl]
  exact eqRowS_l0 l (by omega) l k 0 rfl (by omega)
theorem toRowS_eq' (l : List S75) (k : Nat) (hl : l.length ≤ 1048576) (hk : 2000000000 ≤ k) : laws_toRowS.f k l = some (l.map cvRow) := toRowS_eq l hl k (by omega)
theorem eqRowS_refl' (l : List S73) (k : Nat) (hl : l.length ≤ 1048576) (hk : 2000000000 ≤ k) : laws_eqRowS.f k l l = some true := eqRowS_refl l hl k (by omega)
def rowB (x y : S73) : Bool := (x.f0 == y.f0) && ((x.f1 == y.f1) && (x.f2 == y.f2))
def rowsB : List S73 → List S73 → Bool
  | [], [] => true
  | x :: a, y :: b => rowB x y && rowsB a b
  | _, _ => false
theorem rowsB_ne : ∀ (a b : List S73), a.length ≠ b.length → rowsB a b = false
  | [], [], h => absurd rfl h
  | [], _ :: _, _ => rfl
  | _ :: _, [], _ => rfl
  | x :: a, y :: b, h => by simp only [rowsB]; rw [rowsB_ne a b (by simpa using h)]; simp
theorem rowB_neq (x y : S73) : (!(x.f0 == y.f0) || (!(x.f1 == y.f1) || (!(x.f2 == y.f2)))) = !(rowB x y) := by unfold rowB; cases (x.f0 == y.f0) <;> cases (x.f1 == y.f1) <;> cases (x.f2 == y.f2) <;> rfl
theorem spec_l6Rows_l0 (l m : List S73) (hl : l.length ≤ 1000000000) (he : l.length = m.length) : ∀ (s t : List S73) (k i : Nat), l.drop i = s → m.drop i = t → s.length < k → spec_l6Rows.l0 k l m (i : Int) = some (rowsB s t) := by
  intro s
  induction s with
  | nil =>
    intro t k i hd hm hk
    obtain ⟨k, rfl, -⟩ := succ_of hk
    have := drop_nil' hd
    have ht : t = [] := by rw [← hm]; exact List.drop_eq_nil_of_le (by omega)
    subst ht
    simp only [spec_l6Rows.l0]
    rw [if_neg (by omega)]
    rfl
  | cons x s ih =>
    intro t k i hd hm hk
    obtain ⟨k, rfl, hk'⟩ := succ_of hk
    obtain ⟨hi, hd', hx, -⟩ := drop_cons' hd
    cases t with
    | nil => have := drop_nil' hm; omega
    | cons y t =>
      obtain ⟨_, hm', hy, -⟩ := drop_cons' hm
      simp only [List.length_cons] at hk'
      simp only [spec_l6Rows.l0]
      rw [if_pos (by omega), if_pos (by omega), if_pos (by omega), rdR, hx, rdR, hy, rowB_neq, w64s hi (by omega), ih t k _ hd' hm' (by omega)]
      cases h : rowB x y <;> simp [rowsB, h]
theorem spec_l6Rows_eq (l m : List S73) (k : Nat) (hl : l.length ≤ 1000000000) (hk : 2000000000 ≤ k) : spec_l6Rows.f k l m = some (rowsB l m) := by
  unfold spec_l6Rows.f
  by_cases h : l.length = m.length
  · rw [if_pos (by omega)]
    exact spec_l6Rows_l0 l m hl h l m k 0 rfl rfl (by omega)
  · rw [if_neg (by omega), rowsB_ne l m h]
theorem impl_equal_l0 (l m : List S73) (hl : l.length ≤ 1000000000) (he : l.length = m.length) : ∀ (s t : List S73) (k i : Nat), l.drop i = s → m.drop i = t → s.length < k → impl_equal.l0 k l m (l.length : Int) (i : Int) = some (rowsB s t) := by
  intro s
  induction s with
  | nil =>
    intro t k i hd hm hk
    obtain ⟨k, rfl, -⟩ := succ_of hk
    have := drop_nil' hd
    have ht : t = [] := by rw [← hm]; exact List.drop_eq_nil_of_le (by omega)
    subst ht
    simp only [impl_equal.l0]
    rw [if_neg (by omega)]
    rfl
  | cons x s ih =>
    intro t k i hd hm hk
    obtain ⟨k, rfl, hk'⟩ := succ_of hk
    obtain ⟨hi, hd', hx, -⟩ := drop_cons' hd
    cases t with
    | nil => have := drop_nil' hm; omega
    | cons y t =>
      obtain ⟨_, hm', hy, -⟩ := drop_cons' hm
      simp only [List.length_cons] at hk'
      simp only [impl_equal.l0]
      rw [if_pos (by omega), if_pos (by omega), if_pos (by omega), if_pos (by omega), rdR, hx, rdR, hy, rowB_neq, w64s hi (by omega), ih t k _ hd' hm' (by omega)]
      cases h : rowB x y <;> simp [rowsB, h]
theorem impl_equal_eq (l m : List S73) (k : Nat) (hl : l.length ≤ 1000000000) (hk : 2000000000 ≤ k) : impl_equal.f k l m = some (rowsB l m) := by
  unfold impl_equal.f
  by_cases h : l.length = m.length
  · rw [if_pos (by omega)]
    exact impl_equal_l0 l m hl h l m k 0 rfl rfl (by omega)
  · rw [if_neg (by omega), rowsB_ne l m h]
theorem szGRow (l : List S75) (n : Int) (h0 : 0 ≤ n) (h1 : n ≤ 1048576) (hl : l.length ≤ maxLen) (b : Int) : laws_szGroupTask.f l b n = some (-1) ∨ (laws_szGroupTask.f l b n = some (n - l.length) ∧ (l.length : Int) ≤ n) := by
  unfold laws_szGroupTask.f
  by_cases c1 : n - l.length < 0
  · left; rw [ob (szRowS_neg l n h0 h1 hl c1), if_pos (by omega)]
  · right; rw [ob (szRowS_pos l n h0 h1 c1), if_neg c1]; exact ⟨rfl, by omega⟩
def cvG (x : S107) : S80 := ⟨x.f0.map cvRow, x.f1⟩
def szGs : List S107 → Nat
  | [] => 0
  | x :: t => x.f0.length + szGs t
def smallG (n : Nat) (x : S80) : Prop := x.f0.length ≤ n
theorem rdG (l : List S80) (i : Nat) : rd_T80 l (i : Int) = l.getD i z80 := rfl
theorem rdLG (l : List S107) (i : Nat) : rd_T107 l (i : Int) = l.getD i z107 := rfl
theorem szGs_small : ∀ (l : List S107) (n : Nat), szGs l ≤ n → ∀ x ∈ l, x.f0.length ≤ n
  | [], _, _, _, h => by cases h
  | y :: t, n, hn, x, h => by
    simp only [szGs] at hn
    rcases List.mem_cons.1 h with rfl | h
    · omega
    · exact szGs_small t n (by omega) x h
theorem cvG_small {n : Nat} {l : List S107} (h : ∀ x ∈ l, x.f0.length ≤ n) : ∀ x ∈ l.map cvG, smallG n x := by
  intro x hx
  obtain ⟨y, hy, rfl⟩ := List.mem_map.1 hx
  have := h y hy
  simpa [cvG, smallG] using this
theorem szGroupTaskS_l0 (l : List S107) (hl : l.length ≤ 1048576) : ∀ (s : List S107) (k i : Nat) (n : Int), l.drop i = s → (∀ x ∈ s, x.f0.length ≤ maxLen) → s.length < k → 0 ≤ n → n ≤ 1048576 → laws_szGroupTaskS.l0 k l n (i : Int) = some (-1) ∨ (laws_szGroupTaskS.l0 k l n (i : Int) = some (n - szGs s) ∧ (szGs s : Int) ≤ n) := by
  intro s
  induction s with
  | nil =>
    intro k i n hd hf hk h0 h1
    obtain ⟨k, rfl, -⟩ := succ_of hk
    have := drop_nil' hd
    right
    simp only [laws_szGroupTaskS.l0, szGs]
    rw [if_neg (by omega)]
    exact ⟨by simp, by omega⟩
  | cons x t ih =>
    intro k i n hd hf hk h0 h1
    obtain ⟨k, rfl, hk'⟩ := succ_of hk
    obtain ⟨hi, hd', hx, -⟩ := drop_cons' hd
    simp only [List.length_cons] at hk'
    have f1 := hf x (List.mem_cons_self ..)
    simp only [laws_szGroupTaskS.l0]
    rw [if_pos (by omega), if_pos (by omega), rdLG, hx, w64s hi (by omega)]
    rcases szGRow x.f0 n h0 h1 f1 x.f1 with e | ⟨e, h⟩
    · left; rw [ob e, if_pos (by omega)]
    · rw [ob e, if_neg (by omega)]
      rcases ih k (i + 1) (n - x.f0.length) hd' (fun y hy => hf y (List.mem_cons_of_mem _ hy)) (by omega) (by omega) (by omega) with e' | ⟨e', h'⟩
      · exact .inl e'
      · right
        refine ⟨e'.trans (congrArg some ?_), ?_⟩ <;> simp only [szGs] <;> omega
theorem szAggregator_eq (l : List S107) (a : Int) (b : Bool) (n : Int) (k : Nat) (hg : l.length ≤ maxLen) (hf : ∀ x ∈ l, x.f0.length ≤ maxLen) (h0 : 0 ≤ n) (h1 : n ≤ 1048576) (hk : 2000000000 ≤ k) : laws_szAggregator.f k l a b n = some (-1) ∨ (laws_szAggregator.f k l a b n = some (n - l.length - szGs l) ∧ (l.length : Int) + szGs l ≤ n) := by
  have hg' : l.length ≤ 9223372036854775807 := hg
  unfold laws_szAggregator.f laws_szGroupTaskS.f
  rw [w64 (by omega) (by omega)]
  by_cases c : n - l.length < 0
  · left; rw [if_pos c, ob rfl, if_pos (by omega)]
  · rw [if_neg c]
    rcases szGroupTaskS_l0 l (by omega) l k 0 (n - l.length) rfl hf (by omega) (by omega) (by omega) with e | ⟨e, h⟩
    · rw [Int.natCast_zero] at e
      left; rw [ob e, if_pos (by omega)]
    · rw [Int.natCast_zero] at e
      right; rw [ob e, if_neg (by omega)]; exact ⟨rfl, by omega⟩
theorem toGroupTaskS_l0 (l : List S107) (hl : l.length ≤ 1048576) : ∀ (s : List S107) (k i : Nat) (acc : List S80), l.drop i = s → (∀ x ∈ s, x.f0.length ≤ 1048576) → acc.length = l.length → 2000000000 + s.length < k → laws_toGroupTaskS.l0 k l acc (i : Int) = some (acc.take i ++ s.map cvG) := by
  intro s
  induction s with
  | nil =>
    intro k i acc hd hf ha hk
    obtain ⟨k, rfl, -⟩ := succ_of hk
    have := drop_nil' hd
    simp only [laws_toGroupTaskS.l0]
    rw [if_neg (by omega), List.take_of_length_le (by omega)]
    simp
  | cons x t ih =>
    intro k i acc hd hf ha hk
    obtain ⟨k, rfl, hk'⟩ := succ_of hk
    obtain ⟨hi, hd', hx, -⟩ := drop_cons' hd
    simp only [List.length_cons] at hk'
    have f1 := hf x (List.mem_cons_self ..)
    have e : laws_toGroupTask.f k x.f0 x.f1 = some (x.f0.map cvRow, x.f1) := by unfold laws_toGroupTask.f; rw [ob (toRowS_eq' x.f0 k f1 (by omega))]
    simp only [laws_toGroupTaskS.l0]
    rw [if_pos (by omega), if_pos (by omega), rdLG, hx, ob e, if_pos (by omega), w64s hi (by omega), ih _ _ _ hd' (fun y hy => hf y (List.mem_cons_of_mem _ hy)) (by simp [ha]) (by omega)]
    congr 1
    simp only [Int.toNat_natCast, List.map_cons]
    rw [List.take_succ_eq_append_getElem (by simp; omega), List.take_set_of_le (Nat.le_refl _)]
    simp [cvG]
theorem toAggregator_eq (l : List S107) (a : Int) (b : Bool) (k : Nat) (hl : l.length ≤ 1048576) (hf : ∀ x ∈ l, x.f0.length ≤ 1048576) (hk : 3000000000 ≤ k) : laws_toAggregator.f k l a b = some (l.map cvG, a, b) := by
  have e : laws_toGroupTaskS.f k l = some (l.map cvG) := by
    unfold laws_toGroupTaskS.f
    rw [if_pos (by omega), if_pos (by simp; omega)]
    have := toGroupTaskS_l0 l hl l k 0 (List.replicate l.length z80) rfl hf (by simp) (by omega)
    simpa using this
  unfold laws_toAggregator.f
  rw [ob e]
theorem eqGroupTaskS_l0 (l : List S80) (hl : l.length ≤ 1000000000) : ∀ (s : List S80) (k i : Nat), l.drop i = s → (∀ x ∈ s, smallG 1048576 x) → 2000000000 + s.length < k → laws_eqGroupTaskS.l0 k l l (i : Int) = some true := by
  intro s
  induction s with
  | nil =>
    intro k i hd hf hk
    obtain ⟨k, rfl, -⟩ := succ_of hk
    have := drop_nil' hd
    simp only [laws_eqGroupTaskS.l0]
    rw [if_neg (by omega)]
  | cons x t ih =>
    intro k i hd hf hk
    obtain ⟨k, rfl, hk'⟩ := succ_of hk
    obtain ⟨hi, hd', hx, -⟩ := drop_cons' hd
    simp only [List.length_cons] at hk'
    have f1 : x.f0.length ≤ 1048576 := hf x (List.mem_cons_self ..)
    have e : laws_eqGroupTask.f k x.f0 x.f1 x.f0 x.f1 = some true := by unfold laws_eqGroupTask.f; rw [ob (eqRowS_refl' x.f0 k f1 (by omega)), if_pos rfl, if_pos rfl]
    simp only [laws_eqGroupTaskS.l0]
    rw [if_pos (by omega), if_pos (by omega), if_pos (by omega), rdG, hx, ob e, if_pos rfl, w64s hi (by omega), ih _ _ hd' (fun y hy => hf y (List.mem_cons_of_mem _ hy)) (by omega)]
theorem eqGroupTaskS_refl (l : List S80) (k : Nat) (hl : l.length ≤ 1048576) (hf : ∀ x ∈ l, smallG 1048576 x) (hk : 3000000000 ≤ k) : laws_eqGroupTaskS.f k l l = some true := by
  unfold laws_eqGroupTaskS.f
  rw [if_pos rfl]
  exact eqGroupTaskS_l0 l (by omega) l k 0 rfl hf (by omega)
theorem eqAggregator_refl (l : List S80) (a : Int) (b : Bool) (k : Nat) (hl : l.length ≤ 1048576) (hf : ∀ x ∈ l, smallG 1048576 x) (hk : 3000000000 ≤ k) : laws_eqAggregator.f k l a b l a b = some true := by
  unfold laws_eqAggregator.f
  rw [ob (eqGroupTaskS_refl l k hl hf hk), if_pos rfl, if_pos rfl, if_neg (by simp)]
def gB (x y : S80) : Bool := (x.f1 == y.f1) && rowsB x.f0 y.f0
def gsB : List S80 → List S80 → Bool
  | [], [] => true
  | x :: s, y :: t => gB x y && gsB s t
  | _, _ => false
theorem gsB_ne : ∀ (a b : List S80), a.length ≠ b.length → gsB a b = false
  | [], [], h => absurd rfl h
  | [], _ :: _, _ => rfl
  | _ :: _, [], _ => rfl
  | x :: s, y :: t, h => by unfold gsB; rw [gsB_ne s t (by simpa using h), Bool.and_false]
theorem spec_EqualAggregators_l0 (l m : List S80) (a : Int) (b : Bool) (c : Int) (d : Bool) (hl : l.length ≤ 1000000000) (he : l.length = m.length) : ∀ (s t : List S80) (k i : Nat), l.drop i = s → m.drop i = t → (∀ x ∈ s, smallG 1048576 x) → 3000000000 + s.length < k → spec_EqualAggregators.l0 k (i : Int) l a b m c d = some (gsB s t) := by
  intro s
  induction s with
  | nil =>
    intro t k i hd hm hf hk
    obtain ⟨k, rfl, -⟩ := succ_of hk
    have := drop_nil' hd
    have ht : t = [] := by rw [← hm, List.drop_eq_nil_iff]; omega
    subst ht
    simp only [spec_EqualAggregators.l0]
    rw [if_neg (by omega)]
    rfl
  | cons x s ih =>
    intro t k i hd hm hf hk
    obtain ⟨k, rfl, hk'⟩ := succ_of hk
    obtain ⟨hi, hd', hx, -⟩ := drop_cons' hd
    cases t with
    | nil => have := drop_nil' hm; omega
    | cons y t =>
      obtain ⟨hi2, hm', hy, -⟩ := drop_cons' hm
      simp only [List.length_cons] at hk'
      have f1 : x.f0.length ≤ 1048576 := hf x (List.mem_cons_self ..)
      simp only [spec_EqualAggregators.l0]
      rw [if_pos (by omega), if_pos (by omega), if_pos (by omega), rdG, rdG, hx, hy, ob (spec_l6Rows_eq x.f0 y.f0 k (by omega) (by omega)), w64s hi (by omega), ih t _ _ hd' hm' (fun y hy => hf y (List.mem_cons_of_mem _ hy)) (by omega)]
      rw [show gsB (x :: s) (y :: t) = (((x.f1 == y.f1) && rowsB x.f0 y.f0) && gsB s t) from rfl]
      by_cases c : x.f1 = y.f1
      · rw [if_pos c, beq_iff_eq.2 c]; cases rowsB x.f0 y.f0 <;> simp
      · rw [if_neg c]; simp [c]
theorem impl_EqualAggregators_l0 (l m : List S80) (a : Int) (b : Bool) (c : Int) (d : Bool) (hl : l.length ≤ 1000000000) (he : l.length = m.length) : ∀ (s t : List S80) (k i : Nat), l.drop i = s → m.drop i = t → (∀ x ∈ s, smallG 1048576 x) → 3000000000 + s.length < k → impl_EqualAggregators.l0 k (l.length : Int) (i : Int) l a b m c d = some (gsB s t) := by
  intro s
  induction s with
  | nil =>
    intro t k i hd hm hf hk
    obtain ⟨k, rfl, -⟩ := succ_of hk
    have := drop_nil' hd
    have ht : t = [] := by rw [← hm, List.drop_eq_nil_iff]; omega
    subst ht
    simp only [impl_EqualAggregators.l0]
    rw [if_neg (by omega)]
    rfl
  | cons x s ih =>
    intro t k i hd hm hf hk
    obtain ⟨k, rfl, hk'⟩ := succ_of hk
    obtain ⟨hi, hd', hx, -⟩ := drop_cons' hd
    cases t with
    | nil => have := drop_nil' hm; omega
    | cons y t =>
      obtain ⟨hi2, hm', hy, -⟩ := drop_cons' hm
      simp only [List.length_cons] at hk'
      have f1 : x.f0.length ≤ 1048576 := hf x (List.mem_cons_self ..)
      simp only [impl_EqualAggregators.l0]
      rw [if_pos (by omega), if_pos (by omega), if_pos (by omega), if_pos (by omega), rdG, rdG, hx, hy, ob (impl_equal_eq x.f0 y.f0 k (by omega) (by omega)), w64s hi (by omega), ih t _ _ hd' hm' (fun y hy => hf y (List.mem_cons_of_mem _ hy)) (by omega)]
      rw [show gsB (x :: s) (y :: t) = (((x.f1 == y.f1) && rowsB x.f0 y.f0) && gsB s t) from rfl]
      by_cases c : x.f1 = y.f1
      · rw [if_pos c, beq_iff_eq.2 c]; cases rowsB x.f0 y.f0 <;> simp
      · rw [if_neg c]; simp [c]
def aggB (l : List S80) (a : Int) (b : Bool) (m : List S80) (c : Int) (d : Bool) : Bool := (a == c) && ((b == d) && gsB l m)
theorem spec_EqualAggregators_eq (l m : List S80) (a : Int) (b : Bool) (c : Int) (d : Bool) (k : Nat) (hl : l.length ≤ 100000000) (hf : ∀ x ∈ l, smallG 1048576 x) (hk : 4000000000 ≤ k) : spec_EqualAggregators.f k l a b m c d = some (aggB l a b m c d) := by
  obtain ⟨k, rfl⟩ : ∃ m, k = m + 1 := ⟨k - 1, by omega⟩
  unfold spec_EqualAggregators.f aggB
  simp only [spec_EqualAggregators.j0]
  by_cases c1 : a = c
  · by_cases c2 : b = d
    · have e2 : (b != d) = false := by simp [c2]
      by_cases c3 : l.length = m.length
      · have := spec_EqualAggregators_l0 l m a b c d (by omega) c3 l m k 0 rfl rfl hf (by omega)
        have e : ((l.length : Int) != (m.length : Int)) = false := by simp; omega
        rw [if_pos c1, e2, if_neg (by simp), e, if_neg (by simp), beq_iff_eq.2 c1, beq_iff_eq.2 c2]
        simpa using this
      · have e : ((l.length : Int) != (m.length : Int)) = true := by simp; omega
        rw [if_pos c1, e2, if_neg (by simp), e, gsB_ne l m c3]
        simp
    · have e2 : (b != d) = true := by simp [c2]
      simp [c1, c2]
  · simp [c1]
theorem impl_EqualAggregators_eq (l m : List S80) (a : Int) (b : Bool) (c : Int) (d : Bool) (k : Nat) (hl : l.length ≤ 100000000) (hf : ∀ x ∈ l, smallG 1048576 x) (hk : 4000000000 ≤ k) : impl_EqualAggregators.f k l a b m c d = some (aggB l a b m c d) := by
  obtain ⟨k, rfl⟩ : ∃ m, k = m + 1 := ⟨k - 1, by omega⟩
  unfold impl_EqualAggregators.f aggB
  simp only [impl_EqualAggregators.j0]
  by_cases c1 : a = c
  · by_cases c2 : b = d
    · have e2 : (b != d) = false := by simp [c2]
      by_cases c3 : l.length = m.length
      · have := impl_EqualAggregators_l0 l m a b c d (by omega) c3 l m k 0 rfl rfl hf (by omega)
        have e : ((l.length : Int) != (m.length : Int)) = false := by simp; omega
        rw [if_pos c1, e2, if_neg (by simp), e, if_neg (by simp), beq_iff_eq.2 c1, beq_iff_eq.2 c2]
        simpa using this
      · have e : ((l.length : Int) != (m.length : Int)) = true := by simp; omega
        rw [if_pos c1, e2, if_neg (by simp), e, gsB_ne l m c3]
        simp
    · have e2 : (b != d) = true := by simp [c2]
      simp [c1, c2]
  · simp [c1]

theorem FnExactEqualAggregators : laws_FnExactEqualAggregators.Pure := by
  intro ⟨l, a, b⟩ ⟨m, c, d⟩ ⟨⟨hg, hf⟩, _, _⟩ ⟨⟨hg2, hf2⟩, _, _⟩
  refine big_k _ (fun k hk => ?_)
  unfold laws_FnExactEqualAggregators.f
  have hf' : ∀ x ∈ l, x.f0.length ≤ maxLen := fun x hx => (hf x hx).1.1
  have hf2' : ∀ x ∈ m, x.f0.length ≤ maxLen := fun x hx => (hf2 x hx).1.1
  rcases szAggregator_eq l a b 1048576 k hg hf' (by omega) (by omega) (by omega) with e | ⟨e, h⟩
  · simp only [ob e, if_pos (show (-1 : Int) < 0 by omega)]
  rw [ob e, if_neg (by omega)]
  rcases szAggregator_eq m c d (1048576 - l.length - szGs l) k hg2 hf2' (by omega) (by omega) (by omega) with e' | ⟨e', h'⟩
  · simp only [ob e', if_pos (show (-1 : Int) < 0 by omega)]
  rw [ob e', if_neg (by omega)]
  have hs := szGs_small l 1048576 (by omega)
  have hc := cvG_small hs
  have hs2 := szGs_small m 1048576 (by omega)
  have hc2 := cvG_small hs2
  have hm : (l.map cvG).length = l.length := List.length_map ..
  have hm2 : (m.map cvG).length = m.length := List.length_map ..
  simp only [ob (toAggregator_eq l a b k (by omega) hs (by omega)), ob (toAggregator_eq m c d k (by omega) hs2 (by omega)), ob (spec_EqualAggregators_eq (l.map cvG) (m.map cvG) a b c d k (by omega) hc (by omega)), ob (impl_EqualAggregators_eq (l.map cvG) (m.map cvG) a b c d k (by omega) hc (by omega)), ob (eqAggregator_refl (l.map cvG) a b k (by omega) hc (by omega)), ob (eqAggregator_refl (m.map cvG) c d k (by omega) hc2 (by omega)), bne_self_eq_false, Bool.false_eq_true, if_false, if_true]

end Go.Proofs.Ytoncjohnkiilcaa.Pure
