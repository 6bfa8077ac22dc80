/- NextChunk of the program returns what the reference's returns, for all arguments (the pure statement). No condition. -/
import Derived.Test.YthciieopabndcaaP2d0c0
import Derived.Test.YthciieopabndcaaP583c0
import Derived.Test.YthciieopabndcaaP80c0
import Derived.Test.YthciieopabndcaaP81c0
import Derived.Test.YthciieopabndcaaPad1c0
import Derived.Test.YthciieopabndcaaPd1c0
import Derived.Test.YthciieopabndcaaPfdbc0
import Derived.Test.YthciieopabndcaaPfffc0
import Derived.Test.YthciieopabndcaaSayFnExactNextChunk
namespace Go.Proofs.Ythciieopabndcaa.Pure
open Go.RowKit Go.Proofs.YthciieopabndcaaW.PrintWords Go.Proofs.YthciieopabndcaaW.PrintLast Go.Proofs.Ythciieopabndcaa.P
set_option linter.unusedVariables false
set_option linter.unusedSimpArgs false

theorem succ_of {k n : Nat} (h : n < k) : ∃ m, k = m + 1 ∧ n ≤ m := ⟨k - 1, by omega, by omega⟩
theorem drop_nil' {α : Type} {l : List α} {i : Nat} (h : l.drop i = []) : l.length ≤ i := List.drop_eq_nil_iff.1 h
theorem drop_cons' {α : Type} {l : List α} {i : Nat} {x : α} {t : List α} (h : l.drop i = x :: t) : i < l.length ∧ l.drop (i + 1) = t ∧ (∀ d, l.getD i d = x) ∧ l.length = i + 1 + t.length := by
  have hl := congrArg List.length h
  rw [List.length_drop, List.length_cons] at hl
  refine ⟨by omega, ?_, fun d => ?_, by omega⟩
  · rw [← List.drop_drop, h]; rfl
  · have : l[i]? = some x := by rw [← List.head?_drop, h]; rfl
    rw [List.getD_eq_getElem?_getD, this]; rfl
theorem w64 {x : Int} (h0 : -9223372036854775808 ≤ x) (h1 : x ≤ 9223372036854775807) : wrap64 x = x := by unfold wrap64; omega
theorem w64s {i n : Nat} (h : i < n) (hn : n ≤ 9223372036854775807) : wrap64 ((i : Int) + 1) = ((i + 1 : Nat) : Int) := by rw [w64 (by omega) (by omega)]; rfl
theorem big_k (P : Nat → Prop) (h : ∀ k, 1099511627776 ≤ k → P k) : ∃ k, P k := ⟨1099511627776, h _ (Nat.le_refl _)⟩
/-- A step of a chain, by an equation (never by unfolding: the kernel would compute). -/
theorem ob {α β : Type} {o : Option α} {a : α} {f : α → Option β} (h : o = some a) : o.bind f = f a := by subst h; rfl
theorem obs {α β : Type} {a : α} {f : α → Option β} : (some a).bind f = f a := ob (o := some a) (a := a) (f := f) rfl
theorem rdR (l : List S62) (i : Nat) : rd_T62 l (i : Int) = l.getD i z62 := rfl
theorem rdLR (l : List S64) (i : Nat) : rd_T64 l (i : Int) = l.getD i z64 := rfl
def cvRow (x : S64) : S62 := ⟨x.f0, x.f1, x.f2⟩
theorem szRowS_neg (l : List S64) (n : Int) (h0 : 0 ≤ n) (h1 : n ≤ 1048576) (hl : l.length ≤ maxLen) (h : n - l.length < 0) : laws_szRowS.f l n = some (-1) := by
  have hl' : l.length ≤ 9223372036854775807 := hl
  unfold laws_szRowS.f
  rw [w64 (by omega) (by omega), if_pos h]
theorem szRowS_pos (l : List S64) (n : Int) (h0 : 0 ≤ n) (h1 : n ≤ 1048576) (h : ¬ n - l.length < 0) : laws_szRowS.f l n = some (n - l.length) := by
  unfold laws_szRowS.f
  rw [w64 (by omega) (by omega), if_neg h]
theorem toRowS_l0 (l : List S64) (hl : l.length ≤ 1048576) : ∀ (s : List S64) (k i : Nat) (acc : List S62), l.drop i = s → acc.length = l.length → s.length < k → laws_toRowS.l0 k l acc (i : Int) = some (acc.take i ++ s.map cvRow) := by
  intro s
  induction s with
  | nil =>
    intro k i acc hd ha hk
    obtain ⟨k, rfl, -⟩ := succ_of hk
    have := drop_nil' hd
    simp only [laws_toRowS.l0]
    rw [if_neg (by omega), List.take_of_length_le (by omega)]
    simp
  | cons x t ih =>
    intro k i acc hd ha hk
    obtain ⟨k, rfl, hk'⟩ := succ_of hk
    obtain ⟨hi, hd', hx, -⟩ := drop_cons' hd
    simp only [List.length_cons] at hk'
    simp only [laws_toRowS.l0, laws_toRow.f, Option.bind_some]
    rw [if_pos (by omega), if_pos (by omega), if_pos (by omega), w64s hi (by omega), rdLR, hx, ih _ _ _ hd' (by simp [ha]) (by omega)]
    congr 1
    simp only [Int.toNat_natCast, List.map_cons]
    rw [List.take_succ_eq_append_getElem (by simp; omega), List.take_set_of_le (Nat.le_refl _)]
    simp [cvRow]
theorem toRowS_eq (l : List S64) (hl : l.length ≤ 1048576) (k : Nat) (hk : 2000000 ≤ k) : laws_toRowS.f k l = some (l.map cvRow) := by
  unfold laws_toRowS.f
  rw [if_pos (by omega), if_pos (by simp; omega)]
  have := toRowS_l0 l hl l k 0 (List.replicate l.length z62) rfl (by simp) (by omega)
  simpa using this
theorem eqRowS_l0 (l : List S62) (hl : l.length ≤ 9223372036854775807) : ∀ (s : List S62) (k i : Nat), l.drop i = s → s.length < k → laws_eqRowS.l0 k l l (i : Int) = some true := by
  intro s
  induction s with
  | nil =>
    intro k i hd hk
    obtain ⟨k, rfl, -⟩ := succ_of hk
    have := drop_nil' hd
    simp only [laws_eqRowS.l0]
    rw [if_neg (by omega)]
  | cons x t ih =>
    intro k i hd hk
    obtain ⟨k, rfl, hk'⟩ := succ_of hk
    obtain ⟨hi, hd', hx, -⟩ := drop_cons' hd
    simp only [List.length_cons] at hk'
    simp only [laws_eqRowS.l0, laws_eqRow.f, if_true, Option.bind_some]
    rw [if_pos (by omega), if_pos (by omega), if_pos (by omega), w64s hi (by omega), ih _ _ hd' (by omega)]
theorem eqRowS_refl (l : List S62) (hl : l.length ≤ 1048576) (k : Nat) (hk : 2000000 ≤ k) : laws_eqRowS.f k l l = some true := by
  unfold laws_eqRowS.f
  rw [if_pos rfl]
  exact eqRowS_l0 l (by omega) l k 0 rfl (by omega)
def costR (x : S62) : Int := if (0 ≤ x.f0 ∧ x.f0 ≤ 9) ∧ (0 ≤ x.f1 ∧ x.f1 ≤ 99) ∧ (0 ≤ x.f2 ∧ x.f2 ≤ 3) then 1 + x.f2 else 0
def validR (x : S62) : Bool := decide ((0 ≤ x.f0 ∧ x.f0 ≤ 9) ∧ (0 ≤ x.f1 ∧ x.f1 ≤ 99) ∧ (0 ≤ x.f2 ∧ x.f2 ≤ 3))
theorem costR_bd (x : S62) : 0 ≤ costR x ∧ costR x ≤ 4 := by unfold costR; split <;> omega
def costs (l : List S62) : Int := (l.map costR).foldr (· + ·) 0
theorem costs_nil : costs [] = 0 := rfl
theorem costs_cons (x : S62) (l : List S62) : costs (x :: l) = costR x + costs l := rfl
theorem impl_within_eq (a b c : Int) : impl_within.f a b c = some (decide (b ≤ a ∧ a ≤ c)) := by
  unfold impl_within.f
  by_cases h : a ≥ b
  · rw [if_pos h]; congr 1; simp only [decide_eq_decide]; constructor <;> intro h2 <;> omega
  · rw [if_neg h]; congr 1; symm; simp only [decide_eq_false_iff_not]; omega
theorem spec_l1In_eq (a b c : Int) : spec_l1In.f a b c = some (decide (b ≤ a ∧ a ≤ c)) := by
  unfold spec_l1In.f
  by_cases h : a ≥ b
  · rw [if_pos h]; congr 1; simp only [decide_eq_decide]; constructor <;> intro h2 <;> omega
  · rw [if_neg h]; congr 1; symm; simp only [decide_eq_false_iff_not]; omega
theorem validR_of (x y z : Int) : (if decide (0 ≤ x ∧ x ≤ 9) = true then (if decide (0 ≤ y ∧ y ≤ 99) = true then (some (decide (0 ≤ z ∧ z ≤ 3))) else some false) else some false) = some (validR ⟨x, y, z⟩) := by
  unfold validR
  by_cases h1 : 0 ≤ x ∧ x ≤ 9 <;> by_cases h2 : 0 ≤ y ∧ y ≤ 99 <;> simp [h1, h2]
theorem impl_IsValidRow_eq (x y z : Int) : impl_IsValidRow.f x y z = some (validR ⟨x, y, z⟩) := by
  unfold impl_IsValidRow.f
  simp only [impl_within_eq, Option.bind_some]
  exact validR_of x y z
theorem impl_RowCost_eq (x y z : Int) : impl_RowCost.f x y z = some (costR ⟨x, y, z⟩) := by
  unfold impl_RowCost.f
  rw [impl_IsValidRow_eq, Option.bind_some]
  unfold validR costR
  simp only [decide_eq_true_eq]
  split
  · rw [w64 (by omega) (by omega)]
  · rfl
theorem impl_RowCost_eq' (x : S62) : impl_RowCost.f x.f0 x.f1 x.f2 = some (costR x) := impl_RowCost_eq _ _ _
theorem spec_IsValidRow_eq (x y z : Int) : spec_IsValidRow.f x y z = some (validR ⟨x, y, z⟩) := by
  unfold spec_IsValidRow.f
  simp only [spec_l1In_eq, Option.bind_some]
  exact validR_of x y z
theorem spec_RowCost_eq (x y z : Int) : spec_RowCost.f x y z = some (costR ⟨x, y, z⟩) := by
  unfold spec_RowCost.f
  rw [spec_IsValidRow_eq, Option.bind_some]
  unfold validR costR
  simp only [decide_eq_true_eq]
  split
  · rw [w64 (by omega) (by omega)]
  · rfl
theorem spec_RowCost_eq' (x : S62) : spec_RowCost.f x.f0 x.f1 x.f2 = some (costR x) := spec_RowCost_eq _ _ _
theorem impl_TotalCost_l0 (l : List S62) (hl : l.length ≤ 1000000000) : ∀ (s : List S62) (k i : Nat) (n : Int), l.drop i = s → s.length < k → 0 ≤ n → n ≤ 4 * i → impl_TotalCost.l0 k n l (l.length : Int) (i : Int) = some (n + costs s) := by
  intro s
  induction s with
  | nil =>
    intro k i n hd hk h0 h1
    obtain ⟨k, rfl, -⟩ := succ_of hk
    have := drop_nil' hd
    simp only [impl_TotalCost.l0]
    rw [if_neg (by omega), costs_nil, Int.add_zero]
  | cons x t ih =>
    intro k i n hd hk h0 h1
    obtain ⟨k, rfl, hk'⟩ := succ_of hk
    obtain ⟨hi, hd', hx, -⟩ := drop_cons' hd
    simp only [List.length_cons] at hk'
    have hb := costR_bd x
    simp only [impl_TotalCost.l0]
    rw [if_pos (by omega), if_pos (by omega), if_pos (by omega), rdR, hx, impl_RowCost_eq', Option.bind_some, w64s hi (by omega), w64 (by omega) (by omega), ih _ _ _ hd' (by omega) (by omega) (by omega), costs_cons]
    congr 1
    omega
theorem impl_TotalCost_eq (l : List S62) (hl : l.length ≤ 1000000000) (k : Nat) (hk : 2000000000 ≤ k) : impl_TotalCost.f k l = some (costs l) := by
  unfold impl_TotalCost.f
  have := impl_TotalCost_l0 l hl l k 0 0 rfl (by omega) (by omega) (by omega)
  simpa using this
theorem toRowS_eq' (l : List S64) (k : Nat) (hl : l.length ≤ 1048576) (hk : 2000000000 ≤ k) : laws_toRowS.f k l = some (l.map cvRow) := toRowS_eq l hl k (by omega)
theorem eqRowS_refl' (l : List S62) (k : Nat) (hl : l.length ≤ 1048576) (hk : 2000000000 ≤ k) : laws_eqRowS.f k l l = some true := eqRowS_refl l hl k (by omega)
def markR : List S62 → Int → List S62
  | [], _ => []
  | _ :: t, n => ⟨n, n + 1, n + 2⟩ :: markR t (n + 3)
theorem markR_length : ∀ (l : List S62) (n : Int), (markR l n).length = l.length
  | [], _ => rfl
  | _ :: t, n => by simp [markR, markR_length t]
theorem getD_pre {α : Type} (p : List α) (x : α) (t : List α) (d : α) : (p ++ x :: t).getD p.length d = x := by simp
theorem set_pre {α : Type} (p : List α) (x y : α) (t : List α) : (p ++ x :: t).set p.length y = p ++ y :: t := by simp
theorem markRowS_l0 : ∀ (s p : List S62) (k : Nat) (n : Int), s.length < k → 0 ≤ n → n + 3 * s.length ≤ 1000000000000 → (p ++ s).length ≤ 1000000000 → laws_markRowS.l0 k (p ++ s) n (p.length : Int) = some (n + 3 * s.length, p ++ markR s n) := by
  intro s
  induction s with
  | nil =>
    intro p k n hk h0 h1 hl
    obtain ⟨k, rfl, -⟩ := succ_of hk
    simp only [laws_markRowS.l0]
    rw [if_neg (by simp)]
    simp [markR]
  | cons x t ih =>
    intro p k n hk h0 h1 hl
    obtain ⟨k, rfl, hk'⟩ := succ_of hk
    simp only [List.length_cons, List.length_append] at hk' h1 hl
    have w1 : wrap64 (n + 1) = n + 1 := w64 (by omega) (by omega)
    have w2 : wrap64 (n + 1 + 1) = n + 2 := by rw [w64 (by omega) (by omega)]; omega
    have w3 : wrap64 (n + 2 + 1) = n + 3 := by rw [w64 (by omega) (by omega)]; omega
    simp only [laws_markRowS.l0]
    rw [if_pos (by simp <;> omega), if_pos (by omega)]
    simp only [rdR, getD_pre, Int.toNat_natCast, set_pre, obs, w1, w2, w3]
    rw [w64s (n := 1000000001) (by omega) (by omega)]
    have := ih (p ++ [⟨n, n + 1, n + 2⟩]) k (n + 3) (by omega) (by omega) (by omega) (by simp; omega)
    simp only [List.append_assoc, List.singleton_append, List.length_append, List.length_singleton] at this
    rw [this]
    simp only [markR, List.length_cons]
    congr 2
    omega
theorem markRowS_eq (l : List S62) (n : Int) (k : Nat) (h0 : 0 ≤ n) (h1 : n ≤ 100000000) (hl : l.length ≤ 100000000) (hk : 2000000000 ≤ k) : laws_markRowS.f k l n = some (n + 3 * l.length, markR l n) := by
  have := markRowS_l0 l [] k n (by omega) h0 (by omega) (by simp; omega)
  unfold laws_markRowS.f
  simpa using this
theorem heldRowS_l0 : ∀ (s p : List S62) (k : Nat) (n : Int), s.length < k → 0 ≤ n → n + 3 * s.length ≤ 1000000000000 → (p ++ s).length ≤ 1000000000 → laws_heldRowS.l0 k (p ++ markR s n) n (p.length : Int) = some (n + 3 * s.length) := by
  intro s
  induction s with
  | nil =>
    intro p k n hk h0 h1 hl
    obtain ⟨k, rfl, -⟩ := succ_of hk
    simp only [laws_heldRowS.l0, markR, List.append_nil]
    rw [if_neg (by omega)]
    simp
  | cons x t ih =>
    intro p k n hk h0 h1 hl
    obtain ⟨k, rfl, hk'⟩ := succ_of hk
    simp only [List.length_cons, List.length_append] at hk' h1 hl
    have w1 : wrap64 (n + 1) = n + 1 := w64 (by omega) (by omega)
    have w2 : wrap64 (n + 1 + 1) = n + 2 := by rw [w64 (by omega) (by omega)]; omega
    have w3 : wrap64 (n + 2 + 1) = n + 3 := by rw [w64 (by omega) (by omega)]; omega
    rw [show markR (x :: t) n = (⟨n, n + 1, n + 2⟩ : S62) :: markR t (n + 3) from rfl]
    simp only [laws_heldRowS.l0]
    rw [if_pos (by simp <;> omega), if_pos (by simp <;> omega)]
    simp only [rdR, getD_pre, w1, w2, w3, if_true]
    rw [w64s (n := 1000000001) (by omega) (by omega)]
    have := ih (p ++ [⟨n, n + 1, n + 2⟩]) k (n + 3) (by omega) (by omega) (by omega) (by simp; omega)
    simp only [List.append_assoc, List.singleton_append, List.length_append, List.length_singleton] at this
    rw [this]
    simp only [List.length_cons]
    congr 1
    omega
theorem heldRowS_eq (l : List S62) (n : Int) (k : Nat) (h0 : 0 ≤ n) (h1 : n ≤ 100000000) (hl : l.length ≤ 100000000) (hk : 2000000000 ≤ k) : laws_heldRowS.f k (markR l n) n = some (n + 3 * l.length) := by
  have := heldRowS_l0 l [] k n (by omega) h0 (by omega) (by simp; omega)
  unfold laws_heldRowS.f
  simpa using this
theorem impl_clone_eq (l : List S62) (h : l.length ≤ 1000000000) : impl_clone.f l = some l := by
  unfold impl_clone.f
  rw [if_pos (by simp; omega)]
  rfl
/-- How many rows the next chunk holds, from row i on, n paid already. -/
def chunkN : List S62 → Int → Int → Bool → Nat
  | [], _, _, _ => 0
  | x :: t, n, g, first => if first = true ∨ n + costR x ≤ g then chunkN t (n + costR x) g false + 1 else 0
def chunk (l : List S62) (g : Int) : List S62 × List S62 := (l.take (chunkN l 0 g true), l.drop (chunkN l 0 g true))
theorem spec_NextChunk_j1 (l : List S62) (hl : l.length ≤ 1000000000) (g n : Int) (i k : Nat) (hi : i ≤ l.length) : spec_NextChunk.j1 (k + 1) l g n (i : Int) false = some (l.take i, l.drop i) := by
  simp only [spec_NextChunk.j1, Bool.false_eq_true, if_false, obs, List.nil_append, List.length_nil, Nat.zero_add, Int.toNat_natCast]
  rw [if_pos (by omega), if_pos (by omega), if_pos (by simp; omega), if_pos (by simp; omega)]
theorem spec_NextChunk_l0 (l : List S62) (hl : l.length ≤ 1000000000) (g : Int) : ∀ (s : List S62) (k i : Nat) (n : Int) (b : Bool), l.drop i = s → i ≤ l.length → (b = true ↔ i = 0) → 2 * s.length + 2 ≤ k → 0 ≤ n → n ≤ 4 * i → spec_NextChunk.l0 k l g n (i : Int) = some (l.take (i + chunkN s n g b), l.drop (i + chunkN s n g b)) := by
  intro s
  induction s with
  | nil =>
    intro k i n b hd hi hb hk h0 h1
    obtain ⟨k, rfl⟩ : ∃ m, k = m + 2 := ⟨k - 2, by simp at hk; omega⟩
    have := drop_nil' hd
    simp only [spec_NextChunk.l0]
    rw [if_neg (by omega), spec_NextChunk_j1 l hl g n i k hi]
    rfl
  | cons x t ih =>
    intro k i n b hd hi hb hk h0 h1
    simp only [List.length_cons] at hk
    obtain ⟨k, rfl⟩ : ∃ m, k = m + 2 := ⟨k - 2, by omega⟩
    obtain ⟨hi', hd', hx, -⟩ := drop_cons' hd
    have hbd := costR_bd x
    have go : spec_NextChunk.j1 (k + 1) l g n (i : Int) true = some (l.take (i + (chunkN t (n + costR x) g false + 1)), l.drop (i + (chunkN t (n + costR x) g false + 1))) := by
      simp only [spec_NextChunk.j1, if_true]
      rw [if_pos (by omega), if_pos (by omega), rdR, hx, ob (spec_RowCost_eq' x), w64 (by omega) (by omega), w64s hi' (by omega), ih k (i + 1) _ false hd' (by omega) (by simp) (by omega) (by omega) (by omega)]
      rw [show i + 1 + chunkN t (n + costR x) g false = i + (chunkN t (n + costR x) g false + 1) by omega]
    simp only [spec_NextChunk.l0]
    rw [if_pos (by omega)]
    by_cases c : i = 0
    · have hbt : b = true := hb.2 c
      subst hbt
      rw [if_pos (by omega), go]
      simp [chunkN]
    · have hbf : b = false := by cases b with | false => rfl | true => exact absurd (hb.1 rfl) c
      subst hbf
      rw [if_neg (by omega), if_pos (by omega), rdR, hx, ob (spec_RowCost_eq' x), w64 (by omega) (by omega)]
      by_cases c2 : n + costR x ≤ g
      · rw [decide_eq_true c2, go]
        simp [chunkN, c2]
      · rw [decide_eq_false c2, spec_NextChunk_j1 l hl g n i k hi]
        simp [chunkN, c2]
theorem spec_NextChunk_eq (l : List S62) (g : Int) (k : Nat) (hl : l.length ≤ 1000000000) (hk : 3000000000 ≤ k) : spec_NextChunk.f k l g = some (chunk l g) := by
  have := spec_NextChunk_l0 l hl g l k 0 0 true rfl (by omega) (by simp) (by omega) (by omega) (by omega)
  unfold spec_NextChunk.f chunk
  simpa using this
theorem costs_take (l : List S62) (i : Nat) (x : S62) (t : List S62) (h : l.drop i = x :: t) : costs (l.take (i + 1)) = costs (l.take i) + costR x := by
  have hi := (drop_cons' h).1
  have e : l[i] = x := by have := (drop_cons' h).2.2.1 z62; rw [List.getD_eq_getElem?_getD, List.getElem?_eq_getElem hi] at this; exact this
  rw [List.take_succ_eq_append_getElem hi, e]
  unfold costs
  rw [List.map_append, List.foldr_append]
  generalize l.take i = u
  induction u with
  | nil => simp
  | cons y u ih => simp only [List.map_cons, List.map_nil, List.foldr_cons, List.foldr_nil] at ih ⊢; omega
theorem impl_NextChunk_j1 (l : List S62) (hl : l.length ≤ 1000000000) (g : Int) (i k : Nat) (hi : i ≤ l.length) : impl_NextChunk.j1 (k + 1) l g (i : Int) false = some (l.take i, l.drop i) := by
  simp only [impl_NextChunk.j1, Bool.false_eq_true, if_false, Int.toNat_natCast]
  rw [if_pos (by omega), if_pos (by omega), ob (impl_clone_eq (l.take i) (by simp; omega)), ob (impl_clone_eq (l.drop i) (by simp; omega))]
theorem impl_NextChunk_l0 (l : List S62) (hl : l.length ≤ 1000000000) (g : Int) : ∀ (s : List S62) (k i : Nat), l.drop i = s → i ≤ l.length → 2000000000 + 2 * s.length + 2 ≤ k → impl_NextChunk.l0 k l g (i : Int) = some (l.take (i + chunkN s (costs (l.take i)) g false), l.drop (i + chunkN s (costs (l.take i)) g false)) := by
  intro s
  induction s with
  | nil =>
    intro k i hd hi hk
    obtain ⟨k, rfl⟩ : ∃ m, k = m + 2 := ⟨k - 2, by simp at hk; omega⟩
    have := drop_nil' hd
    simp only [impl_NextChunk.l0]
    rw [if_neg (by omega), impl_NextChunk_j1 l hl g i k hi]
    rfl
  | cons x t ih =>
    intro k i hd hi hk
    simp only [List.length_cons] at hk
    obtain ⟨k, rfl⟩ : ∃ m, k = m + 2 := ⟨k - 2, by omega⟩
    obtain ⟨hi', hd', hx, -⟩ := drop_cons' hd
    have e := costs_take l i x t hd
    simp only [impl_NextChunk.l0]
    rw [if_pos (by omega), w64s hi' (by omega), if_pos (by omega), if_pos (by omega), Int.toNat_natCast, ob (impl_TotalCost_eq (l.take (i + 1)) (by simp; omega) (k + 1) (by omega)), e]
    by_cases c2 : costs (l.take i) + costR x ≤ g
    · rw [decide_eq_true c2]
      simp only [impl_NextChunk.j1, if_true]
      rw [w64s hi' (by omega), ih k (i + 1) hd' (by omega) (by omega), e]
      simp only [chunkN, c2, or_true, if_true]
      rw [show i + 1 + chunkN t (costs (l.take i) + costR x) g false = i + (chunkN t (costs (l.take i) + costR x) g false + 1) by omega]
    · rw [decide_eq_false c2, impl_NextChunk_j1 l hl g i k hi]
      simp [chunkN, c2]
theorem impl_NextChunk_eq (l : List S62) (g : Int) (k : Nat) (hl : l.length ≤ 1000000000) (hk : 5000000000 ≤ k) : impl_NextChunk.f k l g = some (chunk l g) := by
  unfold impl_NextChunk.f chunk
  cases l with
  | nil =>
    have := impl_NextChunk_l0 [] hl g [] k 0 rfl (by simp) (by simp; omega)
    simpa [mn, chunkN] using this
  | cons x t =>
    have e : mn 1 ((x :: t).length : Int) = ((1 : Nat) : Int) := by unfold mn; rw [List.length_cons]; split <;> omega
    have := impl_NextChunk_l0 (x :: t) hl g t k 1 rfl (by simp) (by simp at hl; omega)
    have hc : costs ((x :: t).take 1) = 0 + costR x := by simp [costs]
    rw [e, this, hc]
    simp only [chunkN, true_or, if_true]
    rw [show 1 + chunkN t (0 + costR x) g false = chunkN t (0 + costR x) g false + 1 by omega]
theorem chunk_len (l : List S62) (g : Int) : (chunk l g).1.length ≤ l.length ∧ (chunk l g).2.length ≤ l.length := by
  unfold chunk
  simp
  omega
theorem FnExactNextChunk : laws_FnExactNextChunk.Pure := by
  intro l g ⟨h, _⟩ _
  refine big_k _ (fun k hk => ?_)
  obtain ⟨k, rfl⟩ : ∃ m, k = m + 3 := ⟨k - 3, by omega⟩
  unfold laws_FnExactNextChunk.f
  by_cases c0 : (1048576 : Int) - l.length < 0
  · rw [ob (szRowS_neg l _ (by omega) (by omega) h c0), if_pos (by omega)]
  rw [ob (szRowS_pos l _ (by omega) (by omega) c0), if_neg c0]
  have m : (l.map cvRow).length = l.length := List.length_map ..
  obtain ⟨c1, c2⟩ := chunk_len (l.map cvRow) g
  have n1 : (markR (chunk (l.map cvRow) g).1 1).length = (chunk (l.map cvRow) g).1.length := markR_length _ _
  have p1 : ¬ ((1 : Int) + 3 * (chunk (l.map cvRow) g).1.length < 0) := by omega
  have p2 : ¬ ((1 : Int) + 3 * (chunk (l.map cvRow) g).1.length + 3 * (chunk (l.map cvRow) g).2.length < 0) := by omega
  have p3 : ¬ ((1 : Int) + 3 * (l.map cvRow).length < 0) := by omega
  have t := fun q (hq : 2000000000 ≤ q) => toRowS_eq' l q (by omega) hq
  have r0 := fun q (hq : 2000000000 ≤ q) => eqRowS_refl' (l.map cvRow) q (by omega) hq
  have r1 := fun q (hq : 2000000000 ≤ q) => eqRowS_refl' (chunk (l.map cvRow) g).1 q (by omega) hq
  have r2 := fun q (hq : 2000000000 ≤ q) => eqRowS_refl' (chunk (l.map cvRow) g).2 q (by omega) hq
  have i := fun q (hq : 5000000000 ≤ q) => impl_NextChunk_eq (l.map cvRow) g q (by omega) hq
  have k0 := fun q (hq : 2000000000 ≤ q) => markRowS_eq (l.map cvRow) 1 q (by omega) (by omega) (by omega) hq
  have k1 := fun q (hq : 2000000000 ≤ q) => markRowS_eq (chunk (l.map cvRow) g).1 1 q (by omega) (by omega) (by omega) hq
  have k2 := fun q (hq : 2000000000 ≤ q) => markRowS_eq (chunk (l.map cvRow) g).2 (1 + 3 * (chunk (l.map cvRow) g).1.length) q (by omega) (by omega) (by omega) hq
  have e1 := fun q (hq : 2000000000 ≤ q) => heldRowS_eq (chunk (l.map cvRow) g).1 1 q (by omega) (by omega) (by omega) hq
  have e2 := fun q (hq : 2000000000 ≤ q) => heldRowS_eq (chunk (l.map cvRow) g).2 (1 + 3 * (chunk (l.map cvRow) g).1.length) q (by omega) (by omega) (by omega) hq
  simp only [ob (t (k + 3) (by omega)), ob (spec_NextChunk_eq (l.map cvRow) g (k + 3) (by omega) (by omega)), ob (i (k + 3) (by omega)), ob (r1 (k + 3) (by omega)), ob (r2 (k + 3) (by omega)), eq_self, bne_self_eq_false, Bool.not_true, Bool.false_eq_true, if_false, if_true]
  simp only [laws_FnExactNextChunk.j0, ob (t (k + 2) (by omega)), ob (r0 (k + 2) (by omega)), ob (k0 (k + 2) (by omega)), if_neg p3, ob (r1 (k + 2) (by omega)), ob (r2 (k + 2) (by omega)), eq_self, bne_self_eq_false, Bool.not_true, Bool.false_eq_true, if_false, if_true]
  simp only [laws_FnExactNextChunk.j1, ob (k1 (k + 1) (by omega)), ob (k2 (k + 1) (by omega)), ob (e1 (k + 1) (by omega)), ob (e2 (k + 1) (by omega)), if_neg p1, if_neg p2, ob (t (k + 1) (by omega)), ob (i (k + 1) (by omega)), ob (r1 (k + 1) (by omega)), ob (r2 (k + 1) (by omega)), eq_self, bne_self_eq_false, Bool.not_true, Bool.false_eq_true, if_false, if_true]
  simp only [laws_FnExactNextChunk.j2, ob (e1 k (by omega)), ob (e2 k (by omega)), if_neg p1, if_neg p2, eq_self, bne_self_eq_false, Bool.not_true, Bool.false_eq_true, if_false, if_true]

end Go.Proofs.Ythciieopabndcaa.Pure
