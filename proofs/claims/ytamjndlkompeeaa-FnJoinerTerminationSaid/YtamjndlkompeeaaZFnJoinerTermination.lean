/- FnJoinerTermination answers true at every input. -/
import Derived.Below
import Derived.Carry
import Derived.ChangeOld
import Derived.OpenShut
import Derived.ProofKit
import Derived.ShutString
import Derived.SizedLaws
import Derived.Test.YtamjndlkompeeaaChecked
import Derived.Test.YtamjndlkompeeaaRows
import Derived.WalkKit
import Derived.Test.YtamjndlkompeeaaVFnJoinerTerminationg
namespace Go.Proofs.Ytamjndlkompeeaa.K
open Go Go.RowKit
set_option linter.unusedVariables false
set_option linter.unusedSimpArgs false
def Ev {α : Type} (f : Nat → Option α) (r : α) : Prop := ∃ K, ∀ k, K ≤ k → f k = some r
theorem Ev.p {α : Type} {r : α} : Ev (fun _ => some r) r := ⟨0, fun _ _ => rfl⟩
theorem Ev.c {α : Type} {o : Option α} {r : α} (h : o = some r) : Ev (fun _ => o) r := ⟨0, fun _ _ => h⟩
theorem Ev.b {α β : Type} {f : Nat → Option α} {g : Nat → α → Option β} {a : α} {r : β} (hf : Ev f a) (hg : Ev (fun k => g k a) r) : Ev (fun k => (f k).bind (g k)) r := by
  obtain ⟨K, h⟩ := hf; obtain ⟨L, h'⟩ := hg
  exact ⟨max K L, fun k hk => by show (f k).bind (g k) = some r; rw [h k (by omega)]; exact h' k (by omega)⟩
theorem Ev.t {α : Type} {p : Prop} [Decidable p] {f g : Nat → Option α} {r : α} (h : p) (hf : Ev f r) : Ev (fun k => if p then f k else g k) r := by
  obtain ⟨K, h'⟩ := hf
  exact ⟨K, fun k hk => by show (if p then f k else g k) = some r; rw [if_pos h]; exact h' k hk⟩
theorem Ev.e {α : Type} {p : Prop} [Decidable p] {f g : Nat → Option α} {r : α} (h : ¬ p) (hg : Ev g r) : Ev (fun k => if p then f k else g k) r := by
  obtain ⟨K, h'⟩ := hg
  exact ⟨K, fun k hk => by show (if p then f k else g k) = some r; rw [if_neg h]; exact h' k hk⟩
theorem Ev.i {α : Type} {p : Prop} [Decidable p] {f g : Nat → Option α} {r : α} (hf : p → Ev f r) (hg : ¬ p → Ev g r) : Ev (fun k => if p then f k else g k) r := by
  by_cases h : p
  · exact Ev.t h (hf h)
  · exact Ev.e h (hg h)
theorem Ev.s {α : Type} {L f : Nat → Option α} {r : α} (h : ∀ k, L (k + 1) = f k) (hf : Ev f r) : Ev L r := by
  obtain ⟨K, h'⟩ := hf
  refine ⟨K + 1, fun k hk => ?_⟩
  obtain ⟨m, rfl⟩ : ∃ m, k = m + 1 := ⟨k - 1, by omega⟩
  rw [h]; exact h' m (by omega)
theorem Ev.u {α : Type} {L f : Nat → Option α} {r : α} (h : ∀ k, L k = f k) (hf : Ev f r) : Ev L r := by
  obtain ⟨K, h'⟩ := hf
  exact ⟨K, fun k hk => by rw [h]; exact h' k hk⟩
theorem Ev.r {α : Type} {f : Nat → Option α} {r r' : α} (h : Ev f r) (e : r = r') : Ev f r' := e ▸ h
theorem Ev.r' {α : Type} {f g : Nat → Option α} {r r' : α} (h : Ev f r) (e1 : ∀ k, f k = g k) (e : r = r') : Ev g r' := by
  subst e; obtain ⟨K, h'⟩ := h
  exact ⟨K, fun k hk => by rw [← e1]; exact h' k hk⟩
theorem Ev.ex {α : Type} {f : Nat → Option α} {r : α} (h : Ev f r) : ∃ k, f k = some r := by
  obtain ⟨K, h'⟩ := h
  exact ⟨K, h' K (Nat.le_refl _)⟩
theorem drop_nil' {α : Type} {l : List α} {i : Nat} (h : l.drop i = []) : l.length ≤ i := List.drop_eq_nil_iff.1 h
theorem drop_cons' {α : Type} {l : List α} {i : Nat} {x : α} {t : List α} (h : l.drop i = x :: t) : i < l.length ∧ l.drop (i + 1) = t ∧ (∀ d, l.getD i d = x) ∧ l.length = i + 1 + t.length := by
  have hl := congrArg List.length h
  rw [List.length_drop, List.length_cons] at hl
  refine ⟨by omega, ?_, fun d => ?_, by omega⟩
  · rw [← List.drop_drop, h]; rfl
  · have : l[i]? = some x := by rw [← List.head?_drop, h]; rfl
    rw [List.getD_eq_getElem?_getD, this]; rfl
theorem w64 {x : Int} (h0 : -9223372036854775808 ≤ x) (h1 : x ≤ 9223372036854775807) : wrap64 x = x := by unfold wrap64; omega
theorem w64s {i n : Nat} (h : i < n) (hn : n ≤ 9223372036854775807) : wrap64 ((i : Int) + 1) = ((i + 1 : Nat) : Int) := by rw [w64 (by omega) (by omega)]; rfl
theorem maxLen_eq : maxLen = 9223372036854775807 := rfl
theorem wf64 {n : Int} (h : (Lit.int .i64 n).wf = true) : (-9223372036854775808 : Int) ≤ n ∧ n ≤ 9223372036854775807 := by
  simp [Lit.wf, IntKind.min, IntKind.max, IntKind.signed, IntKind.bits] at h
  exact h
theorem ob {α β : Type} {o : Option α} {a : α} {f : α → Option β} (h : o = some a) : o.bind f = f a := by subst h; rfl

def inB (n a b : Int) : Bool := decide (a ≤ n ∧ n ≤ b)
theorem within_eq (n a b : Int) : impl_within.f n a b = some (inB n a b) := by
  unfold impl_within.f inB; split <;> simp <;> omega
theorem l1In_eq (n a b : Int) : spec_l1In.f n a b = some (inB n a b) := by
  unfold spec_l1In.f inB; split <;> simp <;> omega
def vRow (a b c : Int) : Bool := inB a 0 9 && inB b 0 99 && inB c 0 3
theorem impl_IsValidRow_eq (a b c : Int) : impl_IsValidRow.f a b c = some (vRow a b c) := by
  unfold impl_IsValidRow.f vRow
  rw [within_eq, within_eq, within_eq, ob rfl]
  cases inB a 0 9
  · simp
  · rw [if_pos rfl, ob rfl]; cases inB b 0 99 <;> simp
theorem spec_IsValidRow_eq (a b c : Int) : spec_IsValidRow.f a b c = some (vRow a b c) := by
  unfold spec_IsValidRow.f vRow
  rw [l1In_eq, l1In_eq, l1In_eq, ob rfl]
  cases inB a 0 9
  · simp
  · rw [if_pos rfl, ob rfl]; cases inB b 0 99 <;> simp
def cRow (x : S99) : Int := if vRow x.f0 x.f1 x.f2 = true then 1 + x.f2 else 0
theorem cRow_b (x : S99) : 0 ≤ cRow x ∧ cRow x ≤ 4 := by
  unfold cRow
  by_cases h : vRow x.f0 x.f1 x.f2 = true
  · rw [if_pos h]; simp [vRow, inB] at h; omega
  · rw [if_neg h]; omega
theorem impl_RowCost_eq (x : S99) : impl_RowCost.f x.f0 x.f1 x.f2 = some (cRow x) := by
  unfold impl_RowCost.f cRow
  rw [impl_IsValidRow_eq, ob rfl]
  by_cases h : vRow x.f0 x.f1 x.f2 = true
  · rw [if_pos h, if_pos h]; simp [vRow, inB] at h; rw [w64 (by omega) (by omega)]
  · rw [if_neg h, if_neg h]
theorem spec_RowCost_eq (x : S99) : spec_RowCost.f x.f0 x.f1 x.f2 = some (cRow x) := by
  unfold spec_RowCost.f cRow
  rw [spec_IsValidRow_eq, ob rfl]
  by_cases h : vRow x.f0 x.f1 x.f2 = true
  · rw [if_pos h, if_pos h]; simp [vRow, inB] at h; rw [w64 (by omega) (by omega)]
  · rw [if_neg h, if_neg h]
def tCost (l : List S99) : Int := (l.map cRow).sum
theorem tCost_cons (x : S99) (l : List S99) : tCost (x :: l) = cRow x + tCost l := by simp [tCost]
theorem tCost_b : ∀ l : List S99, 0 ≤ tCost l ∧ tCost l ≤ 4 * l.length
  | [] => by simp [tCost]
  | x :: l => by have := tCost_b l; have := cRow_b x; rw [tCost_cons, List.length_cons]; omega
theorem rdR (l : List S99) (i : Nat) : rd_T99 l (i : Int) = l.getD i z99 := rfl
theorem impl_TotalCost_l0 (l : List S99) (hl : l.length ≤ 1152921504606846975) : ∀ (s : List S99) (i : Nat) (acc : Int), l.drop i = s → 0 ≤ acc → acc ≤ 4 * i → Ev (fun k => impl_TotalCost.l0 k acc (l.length : Int) (i : Int) l) (acc + tCost s) := by
  intro s
  induction s with
  | nil =>
    intro i acc hd h0 h1
    have := drop_nil' hd
    exact Ev.s (fun k => by rw [impl_TotalCost.l0]) (Ev.e (by omega) (Ev.p.r (by simp [tCost])))
  | cons x t ih =>
    intro i acc hd h0 h1
    obtain ⟨hi, hd', hx, -⟩ := drop_cons' hd
    have := cRow_b x
    refine Ev.s (fun k => by rw [impl_TotalCost.l0]) (Ev.t (by omega) (Ev.t (by omega) (Ev.t (by omega) ?_)))
    rw [rdR, hx]
    refine Ev.b (Ev.c (impl_RowCost_eq x)) ?_
    rw [w64s hi (by omega), w64 (by omega) (by omega)]
    exact (ih (i + 1) (acc + cRow x) hd' (by omega) (by omega)).r (by rw [tCost_cons]; omega)
theorem impl_TotalCost_ev (l : List S99) (hl : l.length ≤ 1152921504606846975) : Ev (fun k => impl_TotalCost.f k l) (tCost l) :=
  Ev.u (fun _ => rfl) ((impl_TotalCost_l0 l hl l 0 0 rfl (by omega) (by omega)).r (by omega))
theorem spec_TotalCost_l0 (l : List S99) (hl : l.length ≤ 1152921504606846975) : ∀ (s : List S99) (i : Nat) (acc : Int), l.drop i = s → 0 ≤ acc → acc ≤ 4 * i → Ev (fun k => spec_TotalCost.l0 k acc (i : Int) l) (acc + tCost s) := by
  intro s
  induction s with
  | nil =>
    intro i acc hd h0 h1
    have := drop_nil' hd
    exact Ev.s (fun k => by rw [spec_TotalCost.l0]) (Ev.e (by omega) (Ev.p.r (by simp [tCost])))
  | cons x t ih =>
    intro i acc hd h0 h1
    obtain ⟨hi, hd', hx, -⟩ := drop_cons' hd
    have := cRow_b x
    refine Ev.s (fun k => by rw [spec_TotalCost.l0]) (Ev.t (by omega) (Ev.t (by omega) ?_))
    rw [rdR, hx]
    refine Ev.b (Ev.c (spec_RowCost_eq x)) ?_
    rw [w64s hi (by omega), w64 (by omega) (by omega)]
    exact (ih (i + 1) (acc + cRow x) hd' (by omega) (by omega)).r (by rw [tCost_cons]; omega)
theorem spec_TotalCost_ev (l : List S99) (hl : l.length ≤ 1152921504606846975) : Ev (fun k => spec_TotalCost.f k l) (tCost l) :=
  Ev.u (fun _ => rfl) ((spec_TotalCost_l0 l hl l 0 0 rfl (by omega) (by omega)).r (by omega))
def vAll (l : List S99) : Bool := l.all fun x => vRow x.f0 x.f1 x.f2
theorem impl_allValid_l0 (l : List S99) (hl : l.length ≤ 1152921504606846975) : ∀ (s : List S99) (i : Nat), l.drop i = s → Ev (fun k => impl_allValid.l0 k (l.length : Int) (i : Int) l) (vAll s) := by
  intro s
  induction s with
  | nil =>
    intro i hd
    have := drop_nil' hd
    exact Ev.s (fun k => by rw [impl_allValid.l0]) (Ev.e (by omega) (Ev.p.r (by rfl)))
  | cons x t ih =>
    intro i hd
    obtain ⟨hi, hd', hx, -⟩ := drop_cons' hd
    refine Ev.s (fun k => by rw [impl_allValid.l0]) (Ev.t (by omega) (Ev.t (by omega) (Ev.t (by omega) ?_)))
    rw [rdR, hx]
    refine Ev.b (Ev.c (impl_IsValidRow_eq ..)) (Ev.i (fun h => ?_) (fun h => ?_))
    · rw [w64s hi (by omega)]
      exact (ih (i + 1) hd').r (by simp [vAll, h])
    · exact Ev.p.r (by simp [vAll, h])
theorem impl_allValid_ev (l : List S99) (hl : l.length ≤ 1152921504606846975) : Ev (fun k => impl_allValid.f k l) (vAll l) :=
  Ev.u (fun _ => rfl) (impl_allValid_l0 l hl l 0 rfl)
def vRows (l : List S99) : Bool := vAll l && decide (l.length ≤ 24)
theorem impl_AreValidRows_ev (l : List S99) (hl : l.length ≤ 1152921504606846975) : Ev (fun k => impl_AreValidRows.f k l) (vRows l) :=
  Ev.u (fun _ => rfl) (Ev.i (fun h => Ev.b (impl_allValid_ev l hl) (Ev.p.r (by simp [vRows]; omega))) (fun h => Ev.p.r (by simp [vRows]; omega)))
theorem spec_AreValidRows_l0 (l : List S99) (hl : l.length ≤ 1152921504606846975) : ∀ (s : List S99) (i : Nat), l.drop i = s → Ev (fun k => spec_AreValidRows.l0 k (i : Int) l) (vAll s && decide (l.length ≤ 24)) := by
  intro s
  induction s with
  | nil =>
    intro i hd
    have := drop_nil' hd
    exact Ev.s (fun k => by rw [spec_AreValidRows.l0]) (Ev.e (by omega) (Ev.p.r (by simp [vAll]; omega)))
  | cons x t ih =>
    intro i hd
    obtain ⟨hi, hd', hx, -⟩ := drop_cons' hd
    refine Ev.s (fun k => by rw [spec_AreValidRows.l0]) (Ev.t (by omega) (Ev.t (by omega) ?_))
    rw [rdR, hx]
    refine Ev.b (Ev.c (spec_IsValidRow_eq ..)) (Ev.i (fun h => ?_) (fun h => ?_))
    · rw [w64s hi (by omega)]
      exact (ih (i + 1) hd').r (by simp [vAll, h])
    · exact Ev.p.r (by simp [vAll, h])
theorem spec_AreValidRows_ev (l : List S99) (hl : l.length ≤ 1152921504606846975) : Ev (fun k => spec_AreValidRows.f k l) (vRows l) :=
  Ev.u (fun _ => rfl) (spec_AreValidRows_l0 l hl l 0 rfl)
def eqRow (x y : S99) : Bool := x.f0 == y.f0 && (x.f1 == y.f1 && x.f2 == y.f2)
def eqRows (a b : List S99) : Bool := match a, b with
  | [], [] => true
  | x :: a, y :: b => eqRow x y && eqRows a b
  | _, _ => false
theorem eqRow_iff {x y : S99} : eqRow x y = true ↔ x = y := by
  obtain ⟨a, b, c⟩ := x; obtain ⟨d, e, f⟩ := y; simp [eqRow]
theorem eqRows_iff : ∀ {a b : List S99}, eqRows a b = true ↔ a = b
  | [], [] => by simp [eqRows]
  | x :: a, y :: b => by simp [eqRows, eqRow_iff, eqRows_iff]
  | [], y :: b => by simp [eqRows]
  | x :: a, [] => by simp [eqRows]
theorem eqRows_len {a b : List S99} (h : eqRows a b = true) : a.length = b.length := by rw [eqRows_iff.1 h]
theorem eqRows_ne {a b : List S99} (h : a.length ≠ b.length) : eqRows a b = false := by
  cases e : eqRows a b with
  | false => rfl
  | true => exact absurd (eqRows_len e) h
theorem spec_l6Rows_l0 (l m : List S99) (hl : l.length ≤ 1152921504606846975) (hm : l.length = m.length) : ∀ (s t : List S99) (i : Nat), l.drop i = s → m.drop i = t → Ev (fun k => spec_l6Rows.l0 k (i : Int) l m) (eqRows s t) := by
  intro s
  induction s with
  | nil =>
    intro t i hd he
    have := drop_nil' hd
    have ht : t = [] := by rw [← he]; exact List.drop_eq_nil_iff.2 (by omega)
    subst ht
    exact Ev.s (fun k => by rw [spec_l6Rows.l0]) (Ev.e (by omega) (Ev.p.r (by rfl)))
  | cons x s ih =>
    intro t i hd he
    obtain ⟨hi, hd', hx, -⟩ := drop_cons' hd
    cases t with
    | nil => have := drop_nil' he; omega
    | cons y t =>
      obtain ⟨hj, he', hy, -⟩ := drop_cons' he
      refine Ev.s (fun k => by rw [spec_l6Rows.l0]) (Ev.t (by omega) (Ev.t (by omega) (Ev.t (by omega) ?_)))
      rw [rdR, rdR, hx, hy]
      refine Ev.i (fun h => ?_) (fun h => ?_)
      · rw [w64s hi (by omega)]
        exact (ih t (i + 1) hd' he').r (by have h' : eqRow x y = true := h; simp [eqRows, h'])
      · exact Ev.p.r (by have h' : ¬ eqRow x y = true := h; simp [eqRows, h'])
theorem spec_l6Rows_ev (l m : List S99) (hl : l.length ≤ 1152921504606846975) : Ev (fun k => spec_l6Rows.f k l m) (eqRows l m) :=
  Ev.u (fun _ => rfl) (Ev.i (fun h => spec_l6Rows_l0 l m hl (by omega) l m 0 rfl rfl) (fun h => Ev.p.r (eqRows_ne (by omega)).symm))
theorem impl_clone_eq (l : List S99) (hl : l.length ≤ 5864062014805) : impl_clone.f l = some l := by
  unfold impl_clone.f; rw [if_pos hl]
def nKey (key : Int) (l : List S99) : Nat := l.countP fun x => x.f0 == key
theorem impl_CountMatches_l0 (l : List S99) (a b c : Int) (hl : l.length ≤ 1152921504606846975) : ∀ (s : List S99) (i n : Nat), l.drop i = s → n ≤ i → Ev (fun k => impl_CountMatches.l0 k (n : Int) (l.length : Int) (i : Int) a b c l) (((n + nKey a s : Nat)) : Int) := by
  intro s
  induction s with
  | nil =>
    intro i n hd hn
    have := drop_nil' hd
    exact Ev.s (fun k => by rw [impl_CountMatches.l0]) (Ev.e (by omega) (Ev.p.r (by simp [nKey])))
  | cons x t ih =>
    intro i n hd hn
    obtain ⟨hi, hd', hx, -⟩ := drop_cons' hd
    refine Ev.s (fun k => by rw [impl_CountMatches.l0]) (Ev.t (by omega) (Ev.t (by omega) (Ev.t (by omega) ?_)))
    rw [rdR, hx, w64s hi (by omega)]
    refine Ev.i (fun h => ?_) (fun h => ?_)
    · rw [w64s (show n < l.length by omega) (by omega)]
      exact (ih (i + 1) (n + 1) hd' (by omega)).r (by simp [nKey, List.countP_cons, h]; omega)
    · exact (ih (i + 1) n hd' (by omega)).r (by simp [nKey, List.countP_cons, h])
theorem impl_CountMatches_ev (l : List S99) (a b c : Int) (hl : l.length ≤ 1152921504606846975) : Ev (fun k => impl_CountMatches.f k a b c l) ((nKey a l : Nat) : Int) :=
  Ev.u (fun _ => rfl) ((impl_CountMatches_l0 l a b c hl l 0 0 rfl (by omega)).r (by simp))
theorem spec_CountMatches_l0 (l : List S99) (a b c : Int) (hl : l.length ≤ 1152921504606846975) : ∀ (s : List S99) (i n : Nat), l.drop i = s → n ≤ i → Ev (fun k => spec_CountMatches.l0 k (n : Int) (i : Int) a b c l) (((n + nKey a s : Nat)) : Int) := by
  intro s
  induction s with
  | nil =>
    intro i n hd hn
    have := drop_nil' hd
    exact Ev.s (fun k => by rw [spec_CountMatches.l0]) (Ev.e (by omega) (Ev.p.r (by simp [nKey])))
  | cons x t ih =>
    intro i n hd hn
    obtain ⟨hi, hd', hx, -⟩ := drop_cons' hd
    refine Ev.s (fun k => by rw [spec_CountMatches.l0]) (Ev.t (by omega) (Ev.t (by omega) ?_))
    rw [rdR, hx, w64s hi (by omega)]
    refine Ev.i (fun h => ?_) (fun h => ?_)
    · rw [w64s (show n < l.length by omega) (by omega)]
      exact (ih (i + 1) (n + 1) hd' (by omega)).r (by simp [nKey, List.countP_cons, h]; omega)
    · exact (ih (i + 1) n hd' (by omega)).r (by simp [nKey, List.countP_cons, h])
theorem spec_CountMatches_ev (l : List S99) (a b c : Int) (hl : l.length ≤ 1152921504606846975) : Ev (fun k => spec_CountMatches.f k a b c l) ((nKey a l : Nat) : Int) :=
  Ev.u (fun _ => rfl) ((spec_CountMatches_l0 l a b c hl l 0 0 rfl (by omega)).r (by simp))
def hBit (key level : Int) : Int := if inB level 0 3 && inB key 0 9 then andI (shrI (Int.tmod (key * 7) 16) level) 1 else 0
theorem spec_HashBit_eq (a b : Int) : spec_HashBit.f a b = some (hBit a b) := by
  unfold spec_HashBit.f hBit
  rw [l1In_eq, l1In_eq, ob rfl]
  by_cases h1 : inB b 0 3 = true
  · rw [if_pos h1, ob rfl]
    by_cases h2 : inB a 0 9 = true
    · rw [if_pos h2]; simp [inB] at h1 h2; rw [if_pos (by omega), w64 (by omega) (by omega)]; simp [inB]; omega
    · rw [if_neg h2]; simp at h2; simp [h2]
  · rw [if_neg h1]; simp at h1; simp [h1]
theorem impl_HashBit_eq (a b : Int) : impl_HashBit.f a b = some (hBit a b) := by
  unfold impl_HashBit.f hBit
  rw [within_eq, within_eq, ob rfl]
  by_cases h1 : inB b 0 3 = true
  · rw [if_pos h1, ob rfl]
    by_cases h2 : inB a 0 9 = true
    · rw [if_pos h2, Int.mul_comm]; simp [inB] at h1 h2; rw [if_pos (by omega), w64 (by omega) (by omega)]; simp [inB]; omega
    · rw [if_neg h2]; simp at h2; simp [h2]
  · rw [if_neg h1]; simp at h1; simp [h1]
def hb (level : Int) (x : S99) : Bool := hBit x.f0 level == 0
def spl0 (level : Int) (l : List S99) : List S99 := l.filter (hb level)
def spl1 (level : Int) (l : List S99) : List S99 := l.filter fun x => !hb level x
theorem impl_SplitByHashBit_l0 (l : List S99) (v : Int) (hl : l.length ≤ 1099511627776) : ∀ (s : List S99) (i : Nat) (a b : List S99), l.drop i = s → a.length ≤ i → b.length ≤ i → Ev (fun k => impl_SplitByHashBit.l0 k v a b (l.length : Int) (i : Int) l) (a ++ spl0 v s, b ++ spl1 v s) := by
  intro s
  induction s with
  | nil =>
    intro i a b hd ha hb
    have := drop_nil' hd
    exact Ev.s (fun k => by rw [impl_SplitByHashBit.l0]) (Ev.e (by omega) (Ev.p.r (by simp [spl0, spl1])))
  | cons x t ih =>
    intro i a b hd ha hbb
    obtain ⟨hi, hd', hx, -⟩ := drop_cons' hd
    refine Ev.s (fun k => by rw [impl_SplitByHashBit.l0]) (Ev.t (by omega) (Ev.t (by omega) (Ev.t (by omega) ?_)))
    rw [rdR, hx, w64s hi (by omega)]
    refine Ev.b (Ev.c (impl_HashBit_eq ..)) (Ev.i (fun h => ?_) (fun h => ?_))
    · exact Ev.t (by omega) ((ih (i + 1) _ _ hd' (by simp; omega) (by omega)).r (by simp [spl0, spl1, hb, h]))
    · exact Ev.t (by omega) ((ih (i + 1) _ _ hd' (by omega) (by simp; omega)).r (by simp [spl0, spl1, hb, h]))
theorem impl_SplitByHashBit_ev (l : List S99) (v : Int) (hl : l.length ≤ 1099511627776) : Ev (fun k => impl_SplitByHashBit.f k l v) (spl0 v l, spl1 v l) :=
  Ev.u (fun _ => rfl) (impl_SplitByHashBit_l0 l v hl l 0 [] [] rfl (by simp) (by simp))
theorem spec_SplitByHashBit_l0 (l : List S99) (v : Int) (hl : l.length ≤ 1099511627776) : ∀ (s : List S99) (i : Nat) (a b : List S99), l.drop i = s → a.length ≤ i → b.length ≤ i → Ev (fun k => spec_SplitByHashBit.l0 k v a b (i : Int) l) (a ++ spl0 v s, b ++ spl1 v s) := by
  intro s
  induction s with
  | nil =>
    intro i a b hd ha hb
    have := drop_nil' hd
    exact Ev.s (fun k => by rw [spec_SplitByHashBit.l0]) (Ev.e (by omega) (Ev.p.r (by simp [spl0, spl1])))
  | cons x t ih =>
    intro i a b hd ha hbb
    obtain ⟨hi, hd', hx, -⟩ := drop_cons' hd
    refine Ev.s (fun k => by rw [spec_SplitByHashBit.l0]) (Ev.t (by omega) (Ev.t (by omega) ?_))
    rw [rdR, hx, w64s hi (by omega)]
    refine Ev.b (Ev.c (spec_HashBit_eq ..)) (Ev.i (fun h => ?_) (fun h => ?_))
    · exact Ev.t (by omega) ((ih (i + 1) _ _ hd' (by simp; omega) (by omega)).r (by simp [spl0, spl1, hb, h]))
    · exact Ev.t (by omega) ((ih (i + 1) _ _ hd' (by omega) (by simp; omega)).r (by simp [spl0, spl1, hb, h]))
theorem spec_SplitByHashBit_ev (l : List S99) (v : Int) (hl : l.length ≤ 1099511627776) : Ev (fun k => spec_SplitByHashBit.f k l v) (spl0 v l, spl1 v l) :=
  Ev.u (fun _ => rfl) (spec_SplitByHashBit_l0 l v hl l 0 [] [] rfl (by simp) (by simp))
def same (l : List S99) : Bool := l.all fun x => x.f0 == (l.getD 0 z99).f0
theorem impl_AllSameKey_l0 (l : List S99) (hl : l.length ≤ 1152921504606846975) : ∀ (s : List S99) (i : Nat), l.drop i = s → Ev (fun k => impl_AllSameKey.l0 k (l.length : Int) (i : Int) l) (s.all fun x => x.f0 == (l.getD 0 z99).f0) := by
  intro s
  induction s with
  | nil =>
    intro i hd
    have := drop_nil' hd
    exact Ev.s (fun k => by rw [impl_AllSameKey.l0]) (Ev.e (by omega) (Ev.p.r (by rfl)))
  | cons x t ih =>
    intro i hd
    obtain ⟨hi, hd', hx, -⟩ := drop_cons' hd
    refine Ev.s (fun k => by rw [impl_AllSameKey.l0]) (Ev.t (by omega) (Ev.t (by omega) (Ev.t (by omega) (Ev.t (by omega) ?_))))
    have r0 : rd_T99 l 0 = l.getD 0 z99 := rfl
    rw [rdR, hx, w64s hi (by omega), r0]
    refine Ev.i (fun h => ?_) (fun h => ?_)
    · exact (ih (i + 1) hd').r (by simp [h])
    · exact Ev.p.r (by rw [List.all_cons, show (x.f0 == (l.getD 0 z99).f0) = false from beq_eq_false_iff_ne.2 h]; rfl)
theorem impl_AllSameKey_ev (l : List S99) (hl : l.length ≤ 1152921504606846975) : Ev (fun k => impl_AllSameKey.f k l) (same l) :=
  Ev.u (fun _ => rfl) (impl_AllSameKey_l0 l hl l 0 rfl)
theorem spec_AllSameKey_l0 (l : List S99) (hl : l.length ≤ 1152921504606846975) : ∀ (s : List S99) (i : Nat), l.drop i = s → 1 ≤ i → Ev (fun k => spec_AllSameKey.l0 k (i : Int) l) (s.all fun x => x.f0 == (l.getD 0 z99).f0) := by
  intro s
  induction s with
  | nil =>
    intro i hd hi0
    have := drop_nil' hd
    exact Ev.s (fun k => by rw [spec_AllSameKey.l0]) (Ev.e (by omega) (Ev.p.r (by rfl)))
  | cons x t ih =>
    intro i hd hi0
    obtain ⟨hi, hd', hx, -⟩ := drop_cons' hd
    refine Ev.s (fun k => by rw [spec_AllSameKey.l0]) (Ev.t (by omega) (Ev.t (by omega) (Ev.t (by omega) ?_)))
    have r0 : rd_T99 l 0 = l.getD 0 z99 := rfl
    rw [rdR, hx, w64s hi (by omega), r0]
    refine Ev.i (fun h => ?_) (fun h => ?_)
    · exact (ih (i + 1) hd' (by omega)).r (by simp [h])
    · exact Ev.p.r (by rw [List.all_cons, show (x.f0 == (l.getD 0 z99).f0) = false from beq_eq_false_iff_ne.2 h]; rfl)
theorem spec_AllSameKey_ev (l : List S99) (hl : l.length ≤ 1152921504606846975) : Ev (fun k => spec_AllSameKey.f k l) (same l) :=
  Ev.u (fun _ => rfl) ((spec_AllSameKey_l0 l hl (l.drop 1) 1 rfl (by omega)).r (by cases l <;> simp [same]))

theorem setP {α : Type} (pre : List α) (x y : α) (t : List α) : (pre ++ x :: t).set ((pre.length : Int)).toNat y = pre ++ y :: t := by
  rw [Int.toNat_natCast, List.set_append_right _ _ (Nat.le_refl _), Nat.sub_self]; rfl
theorem getP {α : Type} (pre : List α) (x d : α) (t : List α) : (pre ++ x :: t).getD ((pre.length : Int)).toNat d = x := by
  rw [Int.toNat_natCast, List.getD_eq_getElem?_getD, List.getElem?_append_right (Nat.le_refl _), Nat.sub_self]; rfl
theorem rdB (l : List Bool) (i : Nat) : rdOf false l (i : Int) = l.getD i false := rfl
theorem rdI (l : List Int) (i : Nat) : rdOf 0 l (i : Int) = l.getD i 0 := rfl
def tsz (t : S27) : Nat := t.f1.length + t.f2.length + t.f3.length
def nTask (t : S27) : Int := 3 * t.f1.length + 3 * t.f2.length + t.f3.length
theorem impl_IsValidJoinKind_eq (a : Int) : impl_IsValidJoinKind.f a = some (inB a 1 4) := by unfold impl_IsValidJoinKind.f; rw [within_eq]; rfl
theorem spec_IsValidJoinKind_eq (a : Int) : spec_IsValidJoinKind.f a = some (inB a 1 4) := by unfold spec_IsValidJoinKind.f; rw [l1In_eq]; rfl
def vTask (t : S27) : Bool := inB t.f0 1 4 && (vRows t.f1 && (vRows t.f2 && (decide (t.f3.length = t.f1.length) && inB t.f4 0 4)))
theorem impl_IsValidTask_ev (t : S27) (h : tsz t ≤ 1152921504606846975) : Ev (fun k => impl_IsValidTask.f k t.f0 t.f1 t.f2 t.f3 t.f4) (vTask t) := by
  unfold tsz at h
  refine Ev.u (fun _ => rfl) (Ev.b (Ev.c (impl_IsValidJoinKind_eq _)) (Ev.i (fun a => Ev.b (impl_AreValidRows_ev _ (by omega)) (Ev.i (fun b => Ev.b (impl_AreValidRows_ev _ (by omega)) (Ev.i (fun c => Ev.i (fun d => Ev.b (Ev.c (within_eq _ _ _)) (Ev.p.r ?_)) (fun d => Ev.p.r ?_)) (fun c => Ev.p.r ?_))) (fun b => Ev.p.r ?_))) (fun a => Ev.p.r ?_)))
  · have : t.f3.length = t.f1.length := by omega
    simp [vTask, a, b, c, this]
  · have : ¬ t.f3.length = t.f1.length := by omega
    simp [vTask, a, b, c, this]
  · simp [vTask, a, b, c]
  · simp [vTask, a, b]
  · simp [vTask, a]
theorem spec_IsValidTask_ev (t : S27) (h : tsz t ≤ 1152921504606846975) : Ev (fun k => spec_IsValidTask.f k t.f0 t.f1 t.f2 t.f3 t.f4) (vTask t) := by
  unfold tsz at h
  refine Ev.u (fun _ => rfl) (Ev.b (Ev.c (spec_IsValidJoinKind_eq _)) (Ev.i (fun a => Ev.b (spec_AreValidRows_ev _ (by omega)) (Ev.i (fun b => Ev.b (spec_AreValidRows_ev _ (by omega)) (Ev.i (fun c => Ev.i (fun d => Ev.b (Ev.c (l1In_eq _ _ _)) (Ev.p.r ?_)) (fun d => Ev.p.r ?_)) (fun c => Ev.p.r ?_))) (fun b => Ev.p.r ?_))) (fun a => Ev.p.r ?_)))
  · have : t.f3.length = t.f1.length := by omega
    simp [vTask, a, b, c, this]
  · have : ¬ t.f3.length = t.f1.length := by omega
    simp [vTask, a, b, c, this]
  · simp [vTask, a, b, c]
  · simp [vTask, a, b]
  · simp [vTask, a]
theorem vRows_len {l : List S99} (h : vRows l = true) : l.length ≤ 24 := by
  unfold vRows at h; rw [Bool.and_eq_true] at h; exact of_decide_eq_true h.2
structure VT (t : S27) : Prop where
  kind : 1 ≤ t.f0 ∧ t.f0 ≤ 4
  left : vRows t.f1 = true
  right : vRows t.f2 = true
  len : t.f3.length = t.f1.length
  level : 0 ≤ t.f4 ∧ t.f4 ≤ 4
theorem vTask_iff {t : S27} : vTask t = true ↔ VT t := by
  unfold vTask
  constructor
  · intro h; simp [inB] at h; exact ⟨h.1, h.2.1, h.2.2.1, h.2.2.2.1, h.2.2.2.2⟩
  · intro h; simp [inB]; exact ⟨h.kind, h.left, h.right, h.len, h.level⟩
theorem VT.b {t : S27} (h : VT t) : t.f1.length ≤ 24 ∧ t.f2.length ≤ 24 ∧ t.f3.length ≤ 24 := ⟨vRows_len h.left, vRows_len h.right, by rw [h.len]; exact vRows_len h.left⟩
def taskCost (t : S27) : Int := tCost t.f1 + tCost t.f2
theorem impl_TaskCost_ev (t : S27) (h : tsz t ≤ 1125899906842624) : Ev (fun k => impl_TaskCost.f k t.f0 t.f1 t.f2 t.f3 t.f4) (taskCost t) := by
  unfold tsz at h
  have h1 := tCost_b t.f1
  have h2 := tCost_b t.f2
  exact Ev.u (fun _ => rfl) (Ev.b (impl_TotalCost_ev _ (by omega)) (Ev.b (impl_TotalCost_ev _ (by omega)) (Ev.p.r (w64 (by omega) (by omega)))))
theorem spec_TaskCost_ev (t : S27) (h : tsz t ≤ 1125899906842624) : Ev (fun k => spec_TaskCost.f k t.f0 t.f1 t.f2 t.f3 t.f4) (taskCost t) := by
  unfold tsz at h
  have h1 := tCost_b t.f1
  have h2 := tCost_b t.f2
  exact Ev.u (fun _ => rfl) (Ev.b (spec_TotalCost_ev _ (by omega)) (Ev.b (spec_TotalCost_ev _ (by omega)) (Ev.p.r (w64 (by omega) (by omega)))))
def needsN (t : S27) : Bool := decide (t.f4 ≥ 4) || same t.f2
theorem impl_NeedsNestedLoop_ev (t : S27) (h : tsz t ≤ 1125899906842624) : Ev (fun k => impl_NeedsNestedLoop.f k t.f0 t.f1 t.f2 t.f3 t.f4) (needsN t) := by
  unfold tsz at h
  exact Ev.u (fun _ => rfl) (Ev.i (fun h => Ev.p.r (by simp [needsN, h])) (fun h => Ev.b (impl_AllSameKey_ev _ (by omega)) (Ev.p.r (by simp [needsN, h]))))
theorem spec_NeedsNestedLoop_ev (t : S27) (h : tsz t ≤ 1125899906842624) : Ev (fun k => spec_NeedsNestedLoop.f k t.f0 t.f1 t.f2 t.f3 t.f4) (needsN t) := by
  unfold tsz at h
  exact Ev.u (fun _ => rfl) (Ev.i (fun h => Ev.p.r (by simp [needsN, h])) (fun h => Ev.b (spec_AllSameKey_ev _ (by omega)) (Ev.p.r (by simp [needsN, h]))))
def bSide (t : S27) (g : Int) : Int := if vTask t = true then (if t.f0 = 1 ∧ tCost t.f1 < tCost t.f2 ∧ tCost t.f1 ≤ g then 1 else if tCost t.f2 ≤ g then 2 else 0) else 0
theorem impl_BuildSide_ev (t : S27) (g : Int) (h : tsz t ≤ 1125899906842624) : Ev (fun k => impl_BuildSide.f k t.f0 t.f1 t.f2 t.f3 t.f4 g) (bSide t g) := by
  have hv := impl_IsValidTask_ev t (by omega)
  unfold tsz at h
  refine Ev.u (fun _ => rfl) (Ev.b hv (Ev.i (fun a => Ev.b (impl_TotalCost_ev _ (by omega)) (Ev.b (impl_TotalCost_ev _ (by omega)) (Ev.i (fun b => Ev.i (fun c => Ev.i (fun d => Ev.p.r ?_) (fun d => Ev.i (fun e => Ev.p.r ?_) (fun e => Ev.p.r ?_))) (fun c => Ev.i (fun e => Ev.p.r ?_) (fun e => Ev.p.r ?_))) (fun b => Ev.i (fun e => Ev.p.r ?_) (fun e => Ev.p.r ?_))))) (fun a => Ev.p.r ?_)))
  all_goals (unfold bSide; first | (rw [if_neg a]; done) | (rw [if_pos a]; (repeat' split) <;> omega))
theorem spec_BuildSide_j0 (t : S27) (g a b : Int) (h : tsz t ≤ 1125899906842624) : Ev (fun k => spec_BuildSide.j0 k g a b t.f1 t.f2 t.f3) (if tCost t.f2 ≤ g then 2 else 0) := by
  unfold tsz at h
  refine Ev.s (fun k => by rw [spec_BuildSide.j0]) (Ev.b (spec_TotalCost_ev _ (by omega)) (Ev.i (fun e => Ev.p.r ?_) (fun e => Ev.p.r ?_)))
  · rw [if_pos e]
  · rw [if_neg e]
theorem spec_BuildSide_ev (t : S27) (g : Int) (h : tsz t ≤ 1125899906842624) : Ev (fun k => spec_BuildSide.f k t.f0 t.f1 t.f2 t.f3 t.f4 g) (bSide t g) := by
  have hv := spec_IsValidTask_ev t (by omega)
  have hj := fun a b => spec_BuildSide_j0 t g a b h
  unfold tsz at h
  refine Ev.u (fun _ => rfl) (Ev.b hv (Ev.i (fun a => Ev.i (fun b => Ev.b (spec_TotalCost_ev _ (by omega)) (Ev.b (spec_TotalCost_ev _ (by omega)) (Ev.i (fun c => Ev.b (spec_TotalCost_ev _ (by omega)) (Ev.i (fun d => Ev.p.r ?_) (fun d => (hj _ _).r ?_))) (fun c => (hj _ _).r ?_)))) (fun b => (hj _ _).r ?_)) (fun a => Ev.p.r ?_)))
  all_goals (unfold bSide; first | (rw [if_neg a]; done) | (rw [if_pos a]; (repeat' split) <;> omega))
def zl (t : S27) : List (S99 × Bool) := t.f1.zip t.f3
def part0 (t : S27) : S27 := ⟨t.f0, ((zl t).filter fun p => hb t.f4 p.1).map (·.1), spl0 t.f4 t.f2, ((zl t).filter fun p => hb t.f4 p.1).map (·.2), t.f4 + 1⟩
def part1 (t : S27) : S27 := ⟨t.f0, ((zl t).filter fun p => !hb t.f4 p.1).map (·.1), spl1 t.f4 t.f2, ((zl t).filter fun p => !hb t.f4 p.1).map (·.2), t.f4 + 1⟩
def parts (t : S27) : Bool := vTask t && decide (t.f4 ≠ 4)
theorem part_zip {l : List S99} {m : List Bool} {i : Nat} {x : S99} {s : List S99} (hm : m.length = l.length) (hd : l.drop i = x :: s) : ∃ b u, m.drop i = b :: u ∧ (l.zip m).drop i = (x, b) :: (l.zip m).drop (i + 1) := by
  obtain ⟨hi, hd', hx, -⟩ := drop_cons' hd
  have hmi : i < m.length := by omega
  refine ⟨m[i], m.drop (i + 1), (List.drop_eq_getElem_cons hmi), ?_⟩
  have hz : i < (l.zip m).length := by rw [List.length_zip]; omega
  rw [List.drop_eq_getElem_cons hz, List.getElem_zip]
  have := hx z99
  rw [List.getD_eq_getElem?_getD, List.getElem?_eq_getElem hi] at this
  simp at this
  rw [this]
theorem hBit_01 (a b : Int) : hBit a b = 0 ∨ hBit a b = 1 := by
  unfold hBit
  split
  · unfold andI
    generalize shrI (Int.tmod (a * 7) 16) b = x
    have h1 : (BitVec.ofInt 64 x &&& BitVec.ofInt 64 1).toNat = (BitVec.ofInt 64 x).toNat % 2 := by
      rw [BitVec.toNat_and, show (BitVec.ofInt 64 1).toNat = 1 from rfl, Nat.and_one_is_mod]
    rw [h1]
    have h2 : (BitVec.ofInt 64 x).toNat % 2 < 2 := Nat.mod_lt _ (by omega)
    rw [w64 (by omega) (by omega)]
    omega
  · exact .inl rfl

def fz0 (v : Int) (z : List (S99 × Bool)) : List (S99 × Bool) := z.filter fun p => hb v p.1
def fz1 (v : Int) (z : List (S99 × Bool)) : List (S99 × Bool) := z.filter fun p => !hb v p.1
theorem rdBool (l : List Bool) (i : Nat) {b : Bool} {u : List Bool} (h : l.drop i = b :: u) : rdOf false l (i : Int) = b := by
  rw [rdB]; exact (drop_cons' h).2.2.1 _
theorem impl_PartitionTask_l0 (t : S27) (hl : t.f3.length = t.f1.length) (hs : tsz t ≤ 1099511627776) (e0 e4 f0 f4 : Int) (e1 e2 f1 f2 : List S99) (e3 f3 : List Bool) (q : Int) (c0 c4 d0 d4 : Int) (c2 d2 : List S99) : ∀ (s : List S99) (i : Nat) (a1 b1 : List S99) (a3 b3 : List Bool), t.f1.drop i = s → a1.length ≤ i → b1.length ≤ i → a3.length ≤ i → b3.length ≤ i →
    Ev (fun k => impl_PartitionTask.l0 k (t.f1.length : Int) (i : Int) q t.f4 e0 e1 e2 e3 e4 f0 f1 f2 f3 f4 c0 a1 c2 a3 c4 d0 b1 d2 b3 d4 t.f1 t.f2 t.f3)
      (c0, a1 ++ (fz0 t.f4 ((zl t).drop i)).map (·.1), spl0 t.f4 t.f2, a3 ++ (fz0 t.f4 ((zl t).drop i)).map (·.2), c4, d0, b1 ++ (fz1 t.f4 ((zl t).drop i)).map (·.1), spl1 t.f4 t.f2, b3 ++ (fz1 t.f4 ((zl t).drop i)).map (·.2), d4, true) := by
  unfold tsz at hs
  intro s
  induction s with
  | nil =>
    intro i a1 b1 a3 b3 hd h1 h2 h3 h4
    have := drop_nil' hd
    have hz : (zl t).drop i = [] := List.drop_eq_nil_iff.2 (by rw [zl, List.length_zip]; omega)
    refine Ev.s (fun k => by rw [impl_PartitionTask.l0]) (Ev.e (by omega) (Ev.b (impl_SplitByHashBit_ev _ _ (by omega)) (Ev.p.r ?_)))
    rw [hz]; simp [fz0, fz1]
  | cons x s ih =>
    intro i a1 b1 a3 b3 hd h1 h2 h3 h4
    obtain ⟨hi, hd', hx, -⟩ := drop_cons' hd
    obtain ⟨b, u, hb1, hz⟩ := part_zip hl hd
    refine Ev.s (fun k => by rw [impl_PartitionTask.l0]) (Ev.t (by omega) (Ev.t (by omega) (Ev.t (by omega) ?_)))
    rw [rdR, hx, w64s hi (by omega), rdBool _ _ hb1]
    refine Ev.b (Ev.c (impl_HashBit_eq ..)) (Ev.i (fun h => ?_) (fun h => Ev.t ((hBit_01 _ _).resolve_left h) ?_))
    · refine Ev.t (by omega) (Ev.t (by omega) (Ev.t (by omega) ((ih (i + 1) _ _ _ _ hd' (by simp; omega) (by omega) (by simp; omega) (by omega)).r ?_)))
      rw [show (zl t).drop i = (x, b) :: (zl t).drop (i + 1) from hz]
      simp [fz0, fz1, hb, h]
    · refine Ev.t (by omega) (Ev.t (by omega) (Ev.t (by omega) ((ih (i + 1) _ _ _ _ hd' (by omega) (by simp; omega) (by omega) (by simp; omega)).r ?_)))
      rw [show (zl t).drop i = (x, b) :: (zl t).drop (i + 1) from hz]
      simp [fz0, fz1, hb, h]
theorem spec_PartitionTask_l0 (t : S27) (hl : t.f3.length = t.f1.length) (hs : tsz t ≤ 1099511627776) (e0 e4 f0 f4 : Int) (e1 e2 f1 f2 : List S99) (e3 f3 : List Bool) (q : Int) (c0 c4 d0 d4 : Int) (c2 d2 : List S99) : ∀ (s : List S99) (i : Nat) (a1 b1 : List S99) (a3 b3 : List Bool), t.f1.drop i = s → a1.length ≤ i → b1.length ≤ i → a3.length ≤ i → b3.length ≤ i →
    Ev (fun k => spec_PartitionTask.l0 k (i : Int) q t.f4 e0 e1 e2 e3 e4 f0 f1 f2 f3 f4 c0 a1 c2 a3 c4 d0 b1 d2 b3 d4 t.f1 t.f2 t.f3)
      (c0, a1 ++ (fz0 t.f4 ((zl t).drop i)).map (·.1), c2, a3 ++ (fz0 t.f4 ((zl t).drop i)).map (·.2), c4, d0, b1 ++ (fz1 t.f4 ((zl t).drop i)).map (·.1), d2, b3 ++ (fz1 t.f4 ((zl t).drop i)).map (·.2), d4, true) := by
  unfold tsz at hs
  intro s
  induction s with
  | nil =>
    intro i a1 b1 a3 b3 hd h1 h2 h3 h4
    have := drop_nil' hd
    have hz : (zl t).drop i = [] := List.drop_eq_nil_iff.2 (by rw [zl, List.length_zip]; omega)
    refine Ev.s (fun k => by rw [spec_PartitionTask.l0]) (Ev.e (by omega) (Ev.p.r ?_))
    rw [hz]; simp [fz0, fz1]
  | cons x s ih =>
    intro i a1 b1 a3 b3 hd h1 h2 h3 h4
    obtain ⟨hi, hd', hx, -⟩ := drop_cons' hd
    obtain ⟨b, u, hb1, hz⟩ := part_zip hl hd
    refine Ev.s (fun k => by rw [spec_PartitionTask.l0]) (Ev.t (by omega) (Ev.t (by omega) ?_))
    rw [rdR, hx, w64s hi (by omega), rdBool _ _ hb1]
    refine Ev.b (Ev.c (spec_HashBit_eq ..)) (Ev.i (fun h => ?_) (fun h => ?_))
    · refine Ev.t (by omega) (Ev.t (by omega) (Ev.t (by omega) ((ih (i + 1) _ _ _ _ hd' (by simp; omega) (by omega) (by simp; omega) (by omega)).r ?_)))
      rw [show (zl t).drop i = (x, b) :: (zl t).drop (i + 1) from hz]
      simp [fz0, fz1, hb, h]
    · refine Ev.t (by omega) (Ev.t (by omega) (Ev.t (by omega) ((ih (i + 1) _ _ _ _ hd' (by omega) (by simp; omega) (by omega) (by simp; omega)).r ?_)))
      rw [show (zl t).drop i = (x, b) :: (zl t).drop (i + 1) from hz]
      simp [fz0, fz1, hb, h]
def pT0 (t : S27) : S27 := if parts t = true then part0 t else z27
def pT1 (t : S27) : S27 := if parts t = true then part1 t else z27
abbrev tup (a b : S27) (r : Bool) : Int × List S99 × List S99 × List Bool × Int × Int × List S99 × List S99 × List Bool × Int × Bool := (a.f0, a.f1, a.f2, a.f3, a.f4, b.f0, b.f1, b.f2, b.f3, b.f4, r)
theorem impl_PartitionTask_ev (t : S27) (hs : tsz t ≤ 1099511627776) : Ev (fun k => impl_PartitionTask.f k t.f0 t.f1 t.f2 t.f3 t.f4) (tup (pT0 t) (pT1 t) (parts t)) := by
  have hs' := hs
  refine Ev.u (fun _ => rfl) (Ev.b (impl_IsValidTask_ev t (by omega)) (Ev.i (fun a => Ev.i (fun b => Ev.p.r ?_) (fun b => ?_)) (fun a => Ev.p.r ?_)))
  · have : parts t = false := by simp [parts, a, b]
    simp [tup, pT0, pT1, this, z27]
  · have hp : parts t = true := by simp [parts, a, b]
    have hv := vTask_iff.1 a
    rw [w64 (by have := hv.level; omega) (by have := hv.level; omega)]
    refine (impl_PartitionTask_l0 t hv.len hs _ _ _ _ _ _ _ _ _ _ _ t.f0 (t.f4 + 1) t.f0 (t.f4 + 1) [] [] t.f1 0 [] [] [] [] rfl (by simp) (by simp) (by simp) (by simp)).r ?_
    simp [tup, pT0, pT1, hp, part0, part1, fz0, fz1]
  · have : parts t = false := by simp [parts, a]
    simp [tup, pT0, pT1, this, z27]
theorem spec_PartitionTask_ev (t : S27) (hs : tsz t ≤ 1099511627776) : Ev (fun k => spec_PartitionTask.f k t.f0 t.f1 t.f2 t.f3 t.f4) (tup (pT0 t) (pT1 t) (parts t)) := by
  have hs' := hs
  unfold tsz at hs'
  refine Ev.u (fun _ => rfl) (Ev.b (spec_IsValidTask_ev t (by omega)) (Ev.i (fun a => Ev.i (fun b => Ev.p.r ?_) (fun b => Ev.b (spec_SplitByHashBit_ev _ _ (by omega)) ?_)) (fun a => Ev.p.r ?_)))
  · have : parts t = false := by simp [parts, a, b]
    simp [tup, pT0, pT1, this, z27]
  · have hp : parts t = true := by simp [parts, a, b]
    have hv := vTask_iff.1 a
    rw [w64 (by have := hv.level; omega) (by have := hv.level; omega)]
    refine (spec_PartitionTask_l0 t hv.len hs _ _ _ _ _ _ _ _ _ _ _ t.f0 (t.f4 + 1) t.f0 (t.f4 + 1) _ _ t.f1 0 [] [] [] [] rfl (by simp) (by simp) (by simp) (by simp)).r ?_
    simp [tup, pT0, pT1, hp, part0, part1, fz0, fz1]
  · have : parts t = false := by simp [parts, a]
    simp [tup, pT0, pT1, this, z27]
theorem VT.p {t : S27} (h : VT t) : tsz t ≤ 72 := by have := h.b; unfold tsz; omega
theorem vAll_sub {l m : List S99} (h : vAll l = true) (hs : ∀ x ∈ m, x ∈ l) : vAll m = true := by
  unfold vAll at *; rw [List.all_eq_true] at *; exact fun x hx => h x (hs x hx)
theorem vRows_iff {l : List S99} : vRows l = true ↔ vAll l = true ∧ l.length ≤ 24 := by unfold vRows; rw [Bool.and_eq_true, decide_eq_true_iff]
theorem vRows_sub {l m : List S99} (h : vRows l = true) (hs : m.Sublist l) : vRows m = true := by
  rw [vRows_iff] at *; exact ⟨vAll_sub h.1 hs.subset, Nat.le_trans hs.length_le h.2⟩
theorem zl_fst {t : S27} (h : t.f3.length = t.f1.length) : (zl t).map (·.1) = t.f1 := List.map_fst_zip (by omega)
theorem part_VT {t : S27} (h : VT t) (h4 : t.f4 ≠ 4) : VT (part0 t) ∧ VT (part1 t) := by
  have e := zl_fst h.len
  have key : ∀ f : S99 × Bool → Bool, (((zl t).filter f).map (·.1)).Sublist t.f1 := fun f => by
    have := (List.filter_sublist (p := f) (l := zl t)).map (·.1)
    rwa [e] at this
  have hl := h.level
  refine ⟨⟨h.kind, vRows_sub h.left (key _), vRows_sub h.right List.filter_sublist, by simp [part0], ?_⟩, ⟨h.kind, vRows_sub h.left (key _), vRows_sub h.right List.filter_sublist, by simp [part1], ?_⟩⟩
  · show 0 ≤ t.f4 + 1 ∧ t.f4 + 1 ≤ 4; omega
  · show 0 ≤ t.f4 + 1 ∧ t.f4 + 1 ≤ 4; omega
theorem pT_sz (t : S27) : tsz (pT0 t) ≤ 72 ∧ tsz (pT1 t) ≤ 72 := by
  unfold pT0 pT1
  by_cases h : parts t = true
  · rw [if_pos h, if_pos h]
    unfold parts at h
    rw [Bool.and_eq_true, decide_eq_true_iff] at h
    have := part_VT (vTask_iff.1 h.1) h.2
    exact ⟨this.1.p, this.2.p⟩
  · rw [if_neg h, if_neg h]; exact ⟨by decide, by decide⟩

def jc (kind : Int) (c : List S99) (p : S99 × Bool) : List S151 :=
  if nKey p.1.f0 c = 0 then [] else if kind = 2 then (if p.2 = true then [] else [⟨p.1, ⟨0, 0, 0⟩, false⟩]) else if kind = 1 ∨ kind = 4 then (c.filter fun r => r.f0 == p.1.f0).map fun r => ⟨p.1, r, true⟩ else []
def jm (c : List S99) (p : S99 × Bool) : Bool := p.2 || decide (nKey p.1.f0 c ≠ 0)
theorem jc_len (kind : Int) (c : List S99) (p : S99 × Bool) : (jc kind c p).length ≤ c.length + 1 := by
  unfold jc
  split
  · simp
  · split
    · split <;> simp
    · split
      · rw [List.length_map]; have := List.length_filter_le (fun r : S99 => r.f0 == p.1.f0) c; omega
      · simp
theorem setM (a : List Bool) (b : Bool) (u : List Bool) {i : Nat} (h : a.length = i) : (a ++ b :: u).set ((i : Int)).toNat true = a ++ true :: u := by subst h; exact setP a b true u
theorem impl_JoinChunk_l1 (c : List S99) (hc : c.length ≤ 1099511627776) (i n i' : Int) (L : List S99) (g0 g4 : Int) (g1 g2 : List S99) (g3 : List Bool) (y0 y4 : Int) (y1 y2 : List S99) (y3 : List Bool) (x : S99) (r : List S151 × Int × List S99 × List S99 × List Bool × Int) :
    ∀ (s : List S99) (q : Nat) (P : List S151), c.drop q = s → P.length + s.length ≤ 2199023255552 →
    Ev (fun k => impl_JoinChunk.j0 k (P ++ (s.filter fun r => r.f0 == x.f0).map fun r => ⟨x, r, true⟩) i L n i' g0 g1 g2 g3 g4 y0 y1 y2 y3 y4 c) r →
    Ev (fun k => impl_JoinChunk.l1 k P i L n i' (c.length : Int) (q : Int) g0 g1 g2 g3 g4 y0 y1 y2 y3 y4 x.f0 x.f1 x.f2 c) r := by
  intro s
  induction s with
  | nil =>
    intro q P hd hP hj
    have := drop_nil' hd
    refine Ev.s (fun k => by rw [impl_JoinChunk.l1]) (Ev.e (by omega) ?_)
    simpa using hj
  | cons z s ih =>
    intro q P hd hP hj
    rw [List.length_cons] at hP
    obtain ⟨hi, hd', hx, -⟩ := drop_cons' hd
    refine Ev.s (fun k => by rw [impl_JoinChunk.l1]) (Ev.t (by omega) (Ev.t (by omega) (Ev.t (by omega) ?_)))
    rw [rdR, hx, w64s hi (by omega)]
    refine Ev.i (fun h => Ev.t (by omega) (ih (q + 1) _ hd' (by simp; omega) ?_)) (fun h => ih (q + 1) _ hd' (by omega) ?_)
    · rw [List.filter_cons_of_pos (by simp [h])] at hj; simpa using hj
    · rw [List.filter_cons_of_neg (by simp [h])] at hj; simpa using hj
theorem impl_JoinChunk_l0 (t : S27) (c : List S99) (hl : t.f3.length = t.f1.length) (hb : t.f1.length ≤ 24) (hc : c.length ≤ 2097152) (g0 g4 : Int) (g1 g2 : List S99) (g3 : List Bool) : ∀ (s : List S99) (i : Nat) (P : List S151) (a : List Bool), t.f1.drop i = s → a.length = i → P.length + s.length * (c.length + 1) ≤ 1099511627776 →
    Ev (fun k => impl_JoinChunk.l0 k P t.f1 (t.f1.length : Int) (i : Int) g0 g1 g2 g3 g4 t.f0 t.f1 t.f2 (a ++ t.f3.drop i) t.f4 c)
      (P ++ ((zl t).drop i).flatMap (jc t.f0 c), t.f0, t.f1, t.f2, a ++ ((zl t).drop i).map (jm c), t.f4) := by
  intro s
  induction s with
  | nil =>
    intro i P a hd ha hP
    have := drop_nil' hd
    have hz : (zl t).drop i = [] := List.drop_eq_nil_iff.2 (by rw [zl, List.length_zip]; omega)
    have hz3 : t.f3.drop i = [] := List.drop_eq_nil_iff.2 (by omega)
    refine Ev.s (fun k => by rw [impl_JoinChunk.l0]) (Ev.e (by omega) (Ev.p.r ?_))
    rw [hz, hz3]; simp
  | cons x s ih =>
    intro i P a hd ha hP
    obtain ⟨hi, hd', hx, -⟩ := drop_cons' hd
    obtain ⟨b, u, hb1, hz⟩ := part_zip hl hd
    have hz' : (zl t).drop i = (x, b) :: (zl t).drop (i + 1) := hz
    have hu : u = t.f3.drop (i + 1) := (drop_cons' hb1).2.1.symm
    rw [List.length_cons, Nat.succ_mul] at hP
    have hjl := jc_len t.f0 c (x, b)
    have hrd : rdOf false (a ++ t.f3.drop i) (i : Int) = b := by rw [hb1, rdB]; subst ha; exact getP a b false u
    -- what comes behind
    have nxt : ∀ (P' : List S151), P' = P ++ jc t.f0 c (x, b) → nKey x.f0 c ≠ 0 → ∀ i' : Int, i' = (i : Int) →
        Ev (fun k => impl_JoinChunk.j0 k P' i' t.f1 (t.f1.length : Int) i' g0 g1 g2 g3 g4 t.f0 t.f1 t.f2 (a ++ t.f3.drop i) t.f4 c) (P ++ ((zl t).drop i).flatMap (jc t.f0 c), t.f0, t.f1, t.f2, a ++ ((zl t).drop i).map (jm c), t.f4) := by
      intro P' hP' hn i' hi'
      subst hP' hi'
      refine Ev.s (fun k => by rw [impl_JoinChunk.j0]) (Ev.t (by omega) (Ev.t (by rw [hb1]; simp; omega) ?_))
      rw [hb1, setM a b u ha, w64s hi (by omega)]
      have h := ih (i + 1) (P ++ jc t.f0 c (x, b)) (a ++ [true]) hd' (by simp [ha]) (by rw [List.length_append]; omega)
      simp only [List.append_assoc, List.singleton_append, ← hu] at h
      refine h.r ?_
      rw [hz', List.flatMap_cons, List.map_cons, show jm c (x, b) = true by simp [jm, hn]]
    refine Ev.s (fun k => by rw [impl_JoinChunk.l0]) (Ev.t (by omega) (Ev.t (by omega) (Ev.t (by omega) ?_)))
    rw [rdR, hx]
    refine Ev.b (impl_CountMatches_ev c _ _ _ (by omega)) (Ev.i (fun h => ?_) (fun h => ?_))
    · have hn : nKey x.f0 c = 0 := by omega
      rw [w64s hi (by omega)]
      have h := ih (i + 1) P (a ++ [b]) hd' (by simp [ha]) (by omega)
      simp only [List.append_assoc, List.singleton_append] at h
      rw [hb1, hu]
      refine h.r ?_
      rw [hz', List.flatMap_cons, List.map_cons, show jm c (x, b) = b by simp [jm, hn], show jc t.f0 c (x, b) = [] by simp [jc, hn], List.nil_append]
    · have hn : nKey x.f0 c ≠ 0 := by omega
      refine Ev.i (fun h2 => Ev.t (by rw [List.length_append, hb1]; simp; omega) ?_) (fun h2 => ?_)
      · rw [hrd]
        refine Ev.i (fun h3 => nxt _ (by simp [jc, hn, h2, h3]) hn _ rfl) (fun h3 => Ev.t (by omega) (nxt _ (by simp [jc, hn, h2, h3]) hn _ rfl))
      · refine Ev.i (fun h3 => ?_) (fun h3 => ?_)
        · rw [show decide (t.f0 = 1) = true by simp [h3]]
          refine Ev.s (fun k => by rw [impl_JoinChunk.j1]) (Ev.t rfl ?_)
          exact impl_JoinChunk_l1 c (by omega) _ _ _ _ _ _ _ _ _ _ _ _ _ _ x _ c 0 P rfl (by omega) (nxt _ (by simp [jc, hn, h3]) hn _ rfl)
        · refine Ev.s (fun k => by rw [impl_JoinChunk.j1]) (Ev.i (fun h4 => ?_) (fun h4 => ?_))
          · have h4' : t.f0 = 4 := by simpa using h4
            exact impl_JoinChunk_l1 c (by omega) _ _ _ _ _ _ _ _ _ _ _ _ _ _ x _ c 0 P rfl (by omega) (nxt _ (by simp [jc, hn, h4']) hn _ rfl)
          · have h4' : ¬ t.f0 = 4 := by simpa using h4
            exact nxt _ (by simp [jc, hn, h2, h3, h4']) hn _ rfl
def jP (t : S27) (c : List S99) : List S151 := if vTask t = true then (zl t).flatMap (jc t.f0 c) else []
def jT (t : S27) (c : List S99) : S27 := if vTask t = true then { t with f3 := (zl t).map (jm c) } else t
abbrev ptup (p : List S151) (t : S27) : List S151 × Int × List S99 × List S99 × List Bool × Int := (p, t.f0, t.f1, t.f2, t.f3, t.f4)
theorem impl_cloneTask_eq (t : S27) (h : tsz t ≤ 1099511627776) : impl_cloneTask.f t.f0 t.f1 t.f2 t.f3 t.f4 = some (t.f0, t.f1, t.f2, t.f3, t.f4) := by
  unfold tsz at h
  unfold impl_cloneTask.f
  rw [if_pos (by omega), impl_clone_eq _ (by omega), impl_clone_eq _ (by omega)]; rfl
theorem spec_l16Copy_eq (t : S27) (h : tsz t ≤ 1099511627776) : spec_l16Copy.f t.f0 t.f1 t.f2 t.f3 t.f4 = some (t.f0, t.f1, t.f2, t.f3, t.f4) := by
  unfold tsz at h
  unfold spec_l16Copy.f
  rw [if_pos (by omega), if_pos (by omega), if_pos (by omega)]
theorem impl_JoinChunk_ev (t : S27) (c : List S99) (ht : tsz t ≤ 1099511627776) (hc : c.length ≤ 2097152) : Ev (fun k => impl_JoinChunk.f k t.f0 t.f1 t.f2 t.f3 t.f4 c) (ptup (jP t c) (jT t c)) := by
  refine Ev.u (fun _ => rfl) (Ev.b (Ev.c (impl_cloneTask_eq t ht)) (Ev.b (impl_IsValidTask_ev t (by omega)) (Ev.i (fun h => ?_) (fun h => Ev.p.r ?_))))
  · have hv := vTask_iff.1 h
    have hb := hv.b
    have hm : 24 * (c.length + 1) ≤ 1099511627776 := by omega
    have := impl_JoinChunk_l0 t c hv.len hb.1 hc 0 0 [] [] [] t.f1 0 [] [] rfl rfl (by
      have := Nat.mul_le_mul_right (c.length + 1) hb.1
      simp only [List.length_nil]; omega)
    refine this.r ?_
    simp [ptup, jP, jT, h]
  · simp [ptup, jP, jT, h]
theorem spec_l7One_l0 (c : List S99) (hc : c.length ≤ 1099511627776) (n : Int) (hn : n ≠ 0) (x : S99) : ∀ (s : List S99) (q : Nat) (P : List S151), c.drop q = s → P.length + s.length ≤ 2199023255552 →
    Ev (fun k => spec_l7One.l0 k 1 P n (q : Int) x.f0 x.f1 x.f2 c) (P ++ (s.filter fun r => r.f0 == x.f0).map fun r => ⟨x, r, true⟩) := by
  intro s
  induction s with
  | nil =>
    intro q P hd hP
    have := drop_nil' hd
    exact Ev.s (fun k => by rw [spec_l7One.l0]) (Ev.e (by omega) (Ev.e hn (Ev.p.r (by simp))))
  | cons z s ih =>
    intro q P hd hP
    rw [List.length_cons] at hP
    obtain ⟨hi, hd', hx, -⟩ := drop_cons' hd
    refine Ev.s (fun k => by rw [spec_l7One.l0]) (Ev.t (by omega) (Ev.t (by omega) ?_))
    rw [rdR, hx, w64s hi (by omega)]
    refine Ev.i (fun h => Ev.t (by omega) ((ih (q + 1) _ hd' (by simp; omega)).r ?_)) (fun h => (ih (q + 1) _ hd' (by omega)).r ?_)
    · rw [List.filter_cons_of_pos (by simp [h])]; simp
    · rw [List.filter_cons_of_neg (by simp [h])]
theorem spec_l7One_1 (c : List S99) (hc : c.length ≤ 1099511627776) (x : S99) (hn : nKey x.f0 c ≠ 0) : Ev (fun k => spec_l7One.f k 1 x.f0 x.f1 x.f2 c) ((c.filter fun r => r.f0 == x.f0).map fun r => ⟨x, r, true⟩) :=
  Ev.u (fun _ => rfl) (Ev.b (spec_CountMatches_ev c _ _ _ (by omega)) (Ev.e (by omega) (Ev.e (by omega) (spec_l7One_l0 c hc _ (by omega) x c 0 [] rfl (by simp; omega)))))
theorem spec_JoinChunk_l0 (t : S27) (c : List S99) (hv : vTask t = true) (hc : c.length ≤ 2097152) (g0 g4 : Int) (g1 g2 : List S99) (g3 : List Bool) : ∀ (s : List S99) (i : Nat) (P : List S151) (a : List Bool), t.f1.drop i = s → a.length = i → P.length + s.length * (c.length + 1) ≤ 1099511627776 →
    Ev (fun k => spec_JoinChunk.l0 k P (i : Int) t.f0 t.f4 g0 g1 g2 g3 g4 t.f0 t.f1 t.f2 (a ++ t.f3.drop i) t.f4 c t.f1 t.f2 t.f3)
      (P ++ ((zl t).drop i).flatMap (jc t.f0 c), t.f0, t.f1, t.f2, a ++ ((zl t).drop i).map (jm c), t.f4) := by
  have hV := vTask_iff.1 hv
  have hb := hV.b
  have hl := hV.len
  intro s
  induction s with
  | nil =>
    intro i P a hd ha hP
    have := drop_nil' hd
    have hz : (zl t).drop i = [] := List.drop_eq_nil_iff.2 (by rw [zl, List.length_zip]; omega)
    have hz3 : t.f3.drop i = [] := List.drop_eq_nil_iff.2 (by omega)
    refine Ev.s (fun k => by rw [spec_JoinChunk.l0]) (Ev.e (by omega) (Ev.s (fun k => by rw [spec_JoinChunk.j0]) (Ev.p.r ?_)))
    rw [hz, hz3]; simp
  | cons x s ih =>
    intro i P a hd ha hP
    obtain ⟨hi, hd', hx, -⟩ := drop_cons' hd
    obtain ⟨b, u, hb1, hz⟩ := part_zip hl hd
    have hz' : (zl t).drop i = (x, b) :: (zl t).drop (i + 1) := hz
    have hu : u = t.f3.drop (i + 1) := (drop_cons' hb1).2.1.symm
    rw [List.length_cons, Nat.succ_mul] at hP
    have hjl := jc_len t.f0 c (x, b)
    have nxt : ∀ (P' : List S151) (q0 q1 : Int) (bb : Bool), P' = P ++ jc t.f0 c (x, b) → nKey x.f0 c ≠ 0 →
        Ev (fun k => spec_JoinChunk.j1 k P' (i : Int) q0 q1 bb t.f0 t.f4 g0 g1 g2 g3 g4 t.f0 t.f1 t.f2 (a ++ t.f3.drop i) t.f4 c t.f1 t.f2 t.f3) (P ++ ((zl t).drop i).flatMap (jc t.f0 c), t.f0, t.f1, t.f2, a ++ ((zl t).drop i).map (jm c), t.f4) := by
      intro P' q0 q1 bb hP' hn
      subst hP'
      refine Ev.s (fun k => by rw [spec_JoinChunk.j1]) (Ev.t (by omega) (Ev.t (by rw [hb1]; simp; omega) ?_))
      rw [hb1, setM a b u ha, w64s hi (by omega)]
      have h := ih (i + 1) (P ++ jc t.f0 c (x, b)) (a ++ [true]) hd' (by simp [ha]) (by rw [List.length_append]; omega)
      simp only [List.append_assoc, List.singleton_append, ← hu] at h
      refine h.r ?_
      rw [hz', List.flatMap_cons, List.map_cons, show jm c (x, b) = true by simp [jm, hn]]
    have hfl : ((c.filter fun r => r.f0 == x.f0).map fun r => (⟨x, r, true⟩ : S151)).length ≤ c.length := by rw [List.length_map]; exact List.length_filter_le _ _
    have hval := (spec_IsValidTask_ev t (by have := hV.p; omega)).r hv
    refine Ev.s (fun k => by rw [spec_JoinChunk.l0]) ?_
    refine Ev.t (by omega) (Ev.b hval (Ev.t rfl (Ev.t (by omega) ?_)))
    rw [rdR, hx]
    refine Ev.b (spec_CountMatches_ev c _ _ _ (by omega)) (Ev.i (fun h => ?_) (fun h => ?_))
    · have hn : nKey x.f0 c = 0 := by omega
      rw [w64s hi (by omega)]
      have h := ih (i + 1) P (a ++ [b]) hd' (by simp [ha]) (by omega)
      simp only [List.append_assoc, List.singleton_append] at h
      rw [hb1, hu]
      refine h.r ?_
      rw [hz', List.flatMap_cons, List.map_cons, show jm c (x, b) = b by simp [jm, hn], show jc t.f0 c (x, b) = [] by simp [jc, hn], List.nil_append]
    · have hn : nKey x.f0 c ≠ 0 := by omega
      refine Ev.i (fun h2 => Ev.t (by omega) ?_) (fun h2 => ?_)
      · rw [rdBool _ _ hb1]
        refine Ev.i (fun h3 => nxt _ _ _ _ (by simp [jc, hn, h2, h3]) hn) (fun h3 => Ev.t (by omega) (nxt _ _ _ _ (by simp [jc, hn, h2, h3]) hn))
      · refine Ev.i (fun h3 => ?_) (fun h3 => ?_)
        · refine Ev.s (fun k => by rw [spec_JoinChunk.j2]) (Ev.t (by simp [h3]) (Ev.t (by omega) (Ev.t (by omega) ?_)))
          rw [rdR, hx]
          exact Ev.b (spec_l7One_1 c (by omega) x hn) (Ev.t (by omega) (nxt _ _ _ _ (by simp [jc, hn, h3]) hn))
        · refine Ev.s (fun k => by rw [spec_JoinChunk.j2]) (Ev.i (fun h4 => Ev.t (by omega) (Ev.t (by omega) ?_)) (fun h4 => ?_))
          · have h4' : t.f0 = 4 := by simpa using h4
            rw [rdR, hx]
            exact Ev.b (spec_l7One_1 c (by omega) x hn) (Ev.t (by omega) (nxt _ _ _ _ (by simp [jc, hn, h4']) hn))
          · have h4' : ¬ t.f0 = 4 := by simpa using h4
            exact nxt _ _ _ _ (by simp [jc, hn, h2, h3, h4']) hn
theorem spec_JoinChunk_ev (t : S27) (c : List S99) (ht : tsz t ≤ 1099511627776) (hc : c.length ≤ 2097152) : Ev (fun k => spec_JoinChunk.f k t.f0 t.f1 t.f2 t.f3 t.f4 c) (ptup (jP t c) (jT t c)) := by
  refine Ev.u (fun _ => rfl) (Ev.b (Ev.c (spec_l16Copy_eq t ht)) ?_)
  by_cases h : vTask t = true
  · have hb := (vTask_iff.1 h).b
    have := spec_JoinChunk_l0 t c h hc 0 0 [] [] [] t.f1 0 [] [] rfl rfl (by
      have := Nat.mul_le_mul_right (c.length + 1) hb.1
      simp only [List.length_nil]; omega)
    refine this.r ?_
    simp [ptup, jP, jT, h]
  · have hr : ptup (jP t c) (jT t c) = ([], t.f0, t.f1, t.f2, t.f3, t.f4) := by simp [ptup, jP, jT, h]
    rw [hr]
    refine Ev.s (fun k => by rw [spec_JoinChunk.l0]) ?_
    refine Ev.i (fun _ => Ev.b (spec_IsValidTask_ev t (by omega)) (Ev.e h ?_)) (fun _ => ?_)
    · refine Ev.s (fun k => by rw [spec_JoinChunk.j0]) Ev.p
    · refine Ev.s (fun k => by rw [spec_JoinChunk.j0]) Ev.p
theorem jT_sz (t : S27) (c : List S99) : tsz (jT t c) ≤ tsz t ∧ nTask (jT t c) ≤ nTask t ∧ 0 ≤ nTask (jT t c) := by
  unfold jT
  split
  · have : ((zl t).map (jm c)).length ≤ t.f3.length := by rw [List.length_map, zl, List.length_zip]; omega
    unfold tsz nTask
    simp only
    omega
  · unfold nTask; exact ⟨Nat.le_refl _, by omega, by omega⟩
theorem flatMap_len {α β : Type} (f : α → List β) (n : Nat) (h : ∀ x, (f x).length ≤ n) : ∀ l : List α, (l.flatMap f).length ≤ l.length * n
  | [] => by simp
  | x :: l => by rw [List.flatMap_cons, List.length_append, List.length_cons, Nat.succ_mul]; have := h x; have := flatMap_len f n h l; omega
theorem jP_len (t : S27) (c : List S99) : (jP t c).length ≤ 24 * (c.length + 1) := by
  unfold jP
  split
  · rename_i h
    have := flatMap_len (jc t.f0 c) (c.length + 1) (jc_len t.f0 c) (zl t)
    have hz : (zl t).length ≤ 24 := by rw [zl, List.length_zip]; have := (vTask_iff.1 h).b; omega
    exact Nat.le_trans this (Nat.mul_le_mul_right _ hz)
  · simp

def ur (p : S99 × Bool) : List S151 := if p.2 = true then [] else [⟨p.1, ⟨0, 0, 0⟩, false⟩]
def uR (t : S27) : List S151 := if vTask t = true ∧ (t.f0 = 3 ∨ t.f0 = 4) then (zl t).flatMap ur else []
theorem impl_UnmatchedRows_l0 (t : S27) (hl : t.f3.length = t.f1.length) (hb : t.f1.length ≤ 24) (a b : Int) : ∀ (s : List S99) (i : Nat) (P : List S151), t.f1.drop i = s → P.length ≤ i → Ev (fun k => impl_UnmatchedRows.l0 k P (t.f1.length : Int) (i : Int) a b t.f1 t.f2 t.f3) (P ++ ((zl t).drop i).flatMap ur) := by
  intro s
  induction s with
  | nil =>
    intro i P hd hP
    have := drop_nil' hd
    have hz : (zl t).drop i = [] := List.drop_eq_nil_iff.2 (by rw [zl, List.length_zip]; omega)
    exact Ev.s (fun k => by rw [impl_UnmatchedRows.l0]) (Ev.e (by omega) (Ev.p.r (by rw [hz]; simp)))
  | cons x s ih =>
    intro i P hd hP
    obtain ⟨hi, hd', hx, -⟩ := drop_cons' hd
    obtain ⟨b', u, hb1, hz⟩ := part_zip hl hd
    have hz' : (zl t).drop i = (x, b') :: (zl t).drop (i + 1) := hz
    refine Ev.s (fun k => by rw [impl_UnmatchedRows.l0]) (Ev.t (by omega) (Ev.t (by omega) (Ev.t (by omega) (Ev.t (by omega) ?_))))
    rw [rdBool _ _ hb1, rdR, hx, w64s hi (by omega)]
    refine Ev.i (fun h => (ih (i + 1) P hd' (by omega)).r ?_) (fun h => Ev.t (by omega) ((ih (i + 1) _ hd' (by simp; omega)).r ?_))
    · rw [hz', List.flatMap_cons]; simp [ur, h]
    · rw [hz', List.flatMap_cons]; simp [ur, h]
theorem impl_UnmatchedRows_ev (t : S27) (ht : tsz t ≤ 1099511627776) : Ev (fun k => impl_UnmatchedRows.f k t.f0 t.f1 t.f2 t.f3 t.f4) (uR t) := by
  have hj : ∀ a b, vTask t = true → (t.f0 = 3 ∨ t.f0 = 4) → Ev (fun k => impl_UnmatchedRows.j0 k a b t.f1 t.f2 t.f3) (uR t) := by
    intro a b h h2
    have hv := vTask_iff.1 h
    refine Ev.s (fun k => by rw [impl_UnmatchedRows.j0]) ?_
    exact (impl_UnmatchedRows_l0 t hv.len hv.b.1 a b t.f1 0 [] rfl (by simp)).r (by simp [uR, h, h2])
  refine Ev.u (fun _ => rfl) (Ev.b (impl_IsValidTask_ev t (by omega)) (Ev.i (fun h => Ev.i (fun h3 => hj _ _ h (.inl h3)) (fun h3 => Ev.i (fun h4 => hj _ _ h (.inr h4)) (fun h4 => Ev.p.r ?_))) (fun h => Ev.p.r ?_)))
  · simp [uR, h3, h4]
  · simp [uR, h]
theorem spec_UnmatchedRows_l0 (t : S27) (hv : vTask t = true) : ∀ (s : List S99) (i : Nat) (P : List S151), t.f1.drop i = s → P.length ≤ i → Ev (fun k => spec_UnmatchedRows.l0 k P (i : Int) t.f0 t.f4 t.f1 t.f2 t.f3) (P ++ if t.f0 = 3 ∨ t.f0 = 4 then ((zl t).drop i).flatMap ur else []) := by
  have hV := vTask_iff.1 hv
  have hb := hV.b
  have hl := hV.len
  have hval := (spec_IsValidTask_ev t (by have := hV.p; omega)).r hv
  intro s
  induction s with
  | nil =>
    intro i P hd hP
    have := drop_nil' hd
    have hz : (zl t).drop i = [] := List.drop_eq_nil_iff.2 (by rw [zl, List.length_zip]; omega)
    exact Ev.s (fun k => by rw [spec_UnmatchedRows.l0]) (Ev.e (by omega) (Ev.p.r (by rw [hz]; simp)))
  | cons x s ih =>
    intro i P hd hP
    obtain ⟨hi, hd', hx, -⟩ := drop_cons' hd
    obtain ⟨b', u, hb1, hz⟩ := part_zip hl hd
    have hz' : (zl t).drop i = (x, b') :: (zl t).drop (i + 1) := hz
    refine Ev.s (fun k => by rw [spec_UnmatchedRows.l0]) ?_
    refine Ev.t (by omega) (Ev.b hval (Ev.t rfl (Ev.t (by omega) (Ev.t (by omega) ?_))))
    rw [rdBool _ _ hb1, rdR, hx, w64s hi (by omega)]
    refine Ev.i (fun h => (ih (i + 1) P hd' (by omega)).r ?_) (fun h => Ev.i (fun h3 => Ev.t (by omega) ((ih (i + 1) _ hd' (by simp; omega)).r ?_)) (fun h3 => Ev.i (fun h4 => Ev.t (by omega) ((ih (i + 1) _ hd' (by simp; omega)).r ?_)) (fun h4 => (ih (i + 1) P hd' (by omega)).r ?_)))
    · rw [hz', List.flatMap_cons]; simp [ur, h]
    · rw [hz', List.flatMap_cons]; simp [ur, h, h3]
    · rw [hz', List.flatMap_cons]; simp [ur, h, h4]
    · simp [h3, h4]
theorem spec_UnmatchedRows_ev (t : S27) (ht : tsz t ≤ 1099511627776) : Ev (fun k => spec_UnmatchedRows.f k t.f0 t.f1 t.f2 t.f3 t.f4) (uR t) := by
  refine Ev.u (fun k => by rw [spec_UnmatchedRows.f]) ?_
  by_cases h : vTask t = true
  · refine (spec_UnmatchedRows_l0 t h t.f1 0 [] rfl (by simp)).r ?_
    simp [uR, h]
  · have hr : uR t = [] := by simp [uR, h]
    rw [hr]
    refine Ev.s (fun k => by rw [spec_UnmatchedRows.l0]) ?_
    exact Ev.i (fun _ => Ev.b (spec_IsValidTask_ev t (by omega)) (Ev.e h Ev.p)) (fun _ => Ev.p)
theorem ur_len (p : S99 × Bool) : (ur p).length ≤ 1 := by unfold ur; split <;> simp
theorem uR_len (t : S27) : (uR t).length ≤ 24 := by
  unfold uR
  split
  · rename_i h
    have := flatMap_len ur 1 ur_len (zl t)
    have hz : (zl t).length ≤ 24 := by rw [zl, List.length_zip]; have := (vTask_iff.1 h.1).b; omega
    omega
  · simp
/-- How many rows of s join n rows that cost c. -/
def nxt : Int → Int → List S99 → Nat
  | _, _, [] => 0
  | g, c, x :: s => if c + cRow x ≤ g then nxt g (c + cRow x) s + 1 else 0
def nC (l : List S99) (g : Int) : Nat := match l with | [] => 0 | x :: s => nxt g (cRow x) s + 1
theorem tCost_app (a b : List S99) : tCost (a ++ b) = tCost a + tCost b := by simp [tCost]
theorem impl_NextChunk_j0 (l : List S99) (hl : l.length ≤ 1099511627776) (n : Nat) (hn : n ≤ l.length) : Ev (fun k => impl_NextChunk.j0 k (n : Int) l) (l.take n, l.drop n) := by
  refine Ev.s (fun k => by rw [impl_NextChunk.j0]) ?_
  refine Ev.t (by omega) (Ev.t (by omega) (Ev.b (Ev.c (impl_clone_eq _ (by simp; omega))) (Ev.b (Ev.c (impl_clone_eq _ (by simp; omega))) (Ev.p.r ?_))))
  simp
theorem impl_NextChunk_l0 (l : List S99) (g : Int) (hl : l.length ≤ 1099511627776) : ∀ (s : List S99) (i : Nat), l.drop i = s → 1 ≤ i → i ≤ l.length → Ev (fun k => impl_NextChunk.l0 k g (i : Int) l) (l.take (i + nxt g (tCost (l.take i)) s), l.drop (i + nxt g (tCost (l.take i)) s)) := by
  intro s
  induction s with
  | nil =>
    intro i hd hi0 hil
    have h1 := drop_nil' hd
    have hi : i = l.length := by omega
    refine Ev.s (fun k => by rw [impl_NextChunk.l0]) (Ev.e (by omega) ?_)
    exact (impl_NextChunk_j0 l hl i (by omega)).r (by simp [nxt])
  | cons x s ih =>
    intro i hd hi0 hil
    obtain ⟨hi, hd', hx, -⟩ := drop_cons' hd
    have htk : tCost (l.take (i + 1)) = tCost (l.take i) + cRow x := by
      rw [List.take_succ_eq_append_getElem hi, tCost_app]
      have := hx z99
      rw [List.getD_eq_getElem?_getD, List.getElem?_eq_getElem hi] at this
      simp at this
      rw [this]; simp [tCost]
    refine Ev.s (fun k => by rw [impl_NextChunk.l0]) ?_
    rw [w64s hi (by omega)]
    refine Ev.t (by omega) (Ev.t (by omega) (Ev.t (by omega) (Ev.b (impl_TotalCost_ev _ (by simp; omega)) ?_)))
    rw [Int.toNat_natCast, htk]
    refine Ev.i (fun h => ?_) (fun h => ?_)
    · refine (ih (i + 1) hd' (by omega) (by omega)).r ?_
      rw [htk, nxt, if_pos h, show i + (nxt g (tCost (l.take i) + cRow x) s + 1) = i + 1 + nxt g (tCost (l.take i) + cRow x) s by omega]
    · refine (impl_NextChunk_j0 l hl i (by omega)).r ?_
      rw [nxt, if_neg h]; rfl
theorem mn1 (l : List S99) : mn 1 (l.length : Int) = ((min 1 l.length : Nat) : Int) := by unfold mn; split <;> omega
theorem impl_NextChunk_ev (l : List S99) (g : Int) (hl : l.length ≤ 1099511627776) : Ev (fun k => impl_NextChunk.f k l g) (l.take (nC l g), l.drop (nC l g)) := by
  refine Ev.u (fun k => by rw [impl_NextChunk.f, mn1]) ?_
  cases l with
  | nil =>
    refine Ev.s (fun k => by rw [impl_NextChunk.l0]) (Ev.e (by simp) ?_)
    exact (impl_NextChunk_j0 [] (by simp) 0 (by simp)).r (by simp)
  | cons x s =>
    have hm : min 1 (x :: s).length = 1 := by simp
    rw [hm]
    refine (impl_NextChunk_l0 (x :: s) g hl s 1 rfl (by omega) (by simp)).r ?_
    rw [show tCost ((x :: s).take 1) = cRow x by simp [tCost], nC, Nat.add_comm]
theorem spec_NextChunk_j0 (l : List S99) (hl : l.length ≤ 1099511627776) (n : Nat) (hn : n ≤ l.length) : Ev (fun k => spec_NextChunk.j0 k (n : Int) l) (l.take n, l.drop n) := by
  refine Ev.s (fun k => by rw [spec_NextChunk.j0]) ?_
  refine Ev.t (by omega) (Ev.t (by omega) (Ev.t (by simp; omega) (Ev.t (by simp; omega) (Ev.p.r ?_))))
  simp
theorem spec_NextChunk_l0 (l : List S99) (g : Int) (hl : l.length ≤ 1099511627776) : ∀ (s : List S99) (i : Nat) (c : Int), l.drop i = s → i ≤ l.length → 1 ≤ i → 0 ≤ c → c ≤ 4 * i → Ev (fun k => spec_NextChunk.l0 k g c (i : Int) l) (l.take (i + nxt g c s), l.drop (i + nxt g c s)) := by
  intro s
  induction s with
  | nil =>
    intro i c hd hil h1 h2 h3
    have := drop_nil' hd
    refine Ev.s (fun k => by rw [spec_NextChunk.l0]) (Ev.e (by omega) ?_)
    exact (spec_NextChunk_j0 l hl i (by omega)).r (by simp [nxt])
  | cons x s ih =>
    intro i c hd hil h1 h2 h3
    obtain ⟨hi, hd', hx, -⟩ := drop_cons' hd
    have hc := cRow_b x
    refine Ev.s (fun k => by rw [spec_NextChunk.l0]) ?_
    refine Ev.t (by omega) (Ev.e (by omega) (Ev.t (by omega) ?_))
    rw [rdR, hx]
    refine Ev.b (Ev.c (spec_RowCost_eq x)) ?_
    rw [w64 (x := c + cRow x) (by omega) (by omega)]
    refine Ev.i (fun h => ?_) (fun h => ?_)
    · refine Ev.s (fun k => by rw [spec_NextChunk.j1]) ?_
      refine Ev.t (by omega) (Ev.t (by omega) ?_)
      rw [rdR, hx]
      refine Ev.b (Ev.c (spec_RowCost_eq x)) ?_
      rw [w64 (x := c + cRow x) (by omega) (by omega), w64s hi (by omega)]
      refine (ih (i + 1) (c + cRow x) hd' (by omega) (by omega) (by omega) (by omega)).r ?_
      rw [nxt, if_pos h, show i + (nxt g (c + cRow x) s + 1) = i + 1 + nxt g (c + cRow x) s by omega]
    · refine (spec_NextChunk_j0 l hl i (by omega)).r ?_
      rw [nxt, if_neg h]; rfl
theorem spec_NextChunk_ev (l : List S99) (g : Int) (hl : l.length ≤ 1099511627776) : Ev (fun k => spec_NextChunk.f k l g) (l.take (nC l g), l.drop (nC l g)) := by
  refine Ev.u (fun k => by rw [spec_NextChunk.f]) ?_
  cases l with
  | nil =>
    refine Ev.s (fun k => by rw [spec_NextChunk.l0]) (Ev.e (by simp) ?_)
    exact (spec_NextChunk_j0 [] (by simp) 0 (by simp)).r (by simp)
  | cons x s =>
    have hc := cRow_b x
    rw [List.length_cons] at hl
    have r0 : rd_T99 (x :: s) 0 = x := rfl
    refine Ev.s (fun k => by rw [spec_NextChunk.l0]) ?_
    refine Ev.t (by simp) (Ev.t rfl ?_)
    refine Ev.s (fun k => by rw [spec_NextChunk.j1]) ?_
    refine Ev.t (by omega) (Ev.t (by simp) ?_)
    rw [r0]
    refine Ev.b (Ev.c (spec_RowCost_eq x)) ?_
    rw [w64 (x := 0 + cRow x) (by omega) (by omega), show (0 : Int) + cRow x = cRow x by omega, show wrap64 (0 + 1) = ((1 : Nat) : Int) by rw [w64 (by omega) (by omega)]; rfl]
    refine (spec_NextChunk_l0 (x :: s) g (by simp; omega) s 1 (cRow x) rfl (by simp) (by omega) (by omega) (by omega)).r ?_
    rw [nC, Nat.add_comm]
def nTk (kind : Int) (a b : List S99) : Bool := inB kind 1 4 && (vRows a && vRows b)
def newT (kind : Int) (a b : List S99) : S27 := if nTk kind a b = true then ⟨kind, a, b, List.replicate a.length false, 0⟩ else z27
abbrev ttup (t : S27) (r : Bool) : Int × List S99 × List S99 × List Bool × Int × Bool := (t.f0, t.f1, t.f2, t.f3, t.f4, r)
theorem newT_no {kind : Int} {a b : List S99} (h : nTk kind a b = false) : ttup (newT kind a b) (nTk kind a b) = (0, [], [], [], 0, false) := by simp [ttup, newT, h, z27]
theorem spec_NewTask_ev (kind : Int) (a b : List S99) (ha : a.length ≤ 1099511627776) (hb : b.length ≤ 1099511627776) : Ev (fun k => spec_NewTask.f k kind a b) (ttup (newT kind a b) (nTk kind a b)) := by
  refine Ev.u (fun _ => rfl) (Ev.b (Ev.c (spec_IsValidJoinKind_eq _)) (Ev.i (fun h1 => Ev.b (spec_AreValidRows_ev _ (by omega)) (Ev.i (fun h2 => Ev.b (spec_AreValidRows_ev _ (by omega)) (Ev.i (fun h3 => Ev.t (by omega) (Ev.t (by omega) (Ev.t (by omega) (Ev.t (by simp; omega) (Ev.p.r ?_))))) (fun h3 => Ev.p.r ?_))) (fun h2 => Ev.p.r ?_))) (fun h1 => Ev.p.r ?_)))
  · simp [ttup, newT, nTk, h1, h2, h3]
  all_goals (rw [newT_no (by simp [nTk, *])])
theorem newT_VT {kind : Int} {a b : List S99} (h : nTk kind a b = true) : VT (newT kind a b) := by
  have h' := h
  simp [nTk, inB] at h'
  rw [newT, if_pos h]
  exact ⟨h'.1, h'.2.1, h'.2.2, by simp, by simp⟩

theorem nC_pos {R : List S99} {g : Int} (h : R.length ≠ 0) : 1 ≤ nC R g := by
  cases R with
  | nil => simp at h
  | cons x s => rw [nC]; omega
theorem impl_isGrant_eq (g : Int) : impl_isGrant.f g = some (inB g 8 60) := by unfold impl_isGrant.f; rw [within_eq]; rfl
theorem bSide_012 (t : S27) (g : Int) : bSide t g = 0 ∨ bSide t g = 1 ∨ bSide t g = 2 := by
  unfold bSide; (repeat' split) <;> simp
theorem rdTask (l : List S27) (i : Nat) : rd_T27 l (i : Int) = l.getD i z27 := rfl
def jsz (j : S60) : Nat := j.f0.length + (j.f0.map tsz).sum
theorem sum_mem {α : Type} (f : α → Nat) : ∀ {l : List α} {x : α}, x ∈ l → f x ≤ (l.map f).sum
  | y :: l, x, h => by
    rcases List.mem_cons.1 h with h | h
    · subst h; simp
    · have := sum_mem f h; simp; omega
theorem jsz_mem {j : S60} {t : S27} (h : t ∈ j.f0) : tsz t ≤ jsz j := by have := sum_mem tsz h; unfold jsz; omega
def newJ (kind : Int) (a b : List S99) : S60 := if nTk kind a b = true then ⟨[newT kind a b], 0, 0⟩ else z60
theorem spec_NewJoiner_ev (kind : Int) (a b : List S99) (ha : a.length ≤ 1099511627776) (hb : b.length ≤ 1099511627776) : Ev (fun k => spec_NewJoiner.f k kind a b) ((newJ kind a b).f0, (newJ kind a b).f1, (newJ kind a b).f2, nTk kind a b) := by
  refine Ev.u (fun _ => rfl) (Ev.b (spec_NewTask_ev kind a b ha hb) (Ev.i (fun h => Ev.p.r ?_) (fun h => Ev.p.r ?_)))
  · have h' : nTk kind a b = true := h
    simp [newJ, h']
  · have h' : ¬ nTk kind a b = true := h
    simp [newJ, h', z60]
theorem newJ_sz (kind : Int) (a b : List S99) : jsz (newJ kind a b) ≤ 73 := by
  unfold newJ
  split
  · rename_i h; have := (newT_VT h).p; simp [jsz]; omega
  · decide

theorem impl_cloneTasks_l0 (l : List S27) (hl : l.length ≤ 1048576) (ht : ∀ t ∈ l, tsz t ≤ 1048576) : ∀ (s : List S27) (i : Nat) (a : List S27), l.drop i = s → a.length ≤ i → Ev (fun k => impl_cloneTasks.l0 k a (l.length : Int) (i : Int) l) (a ++ s) := by
  intro s
  induction s with
  | nil =>
    intro i a hd ha
    have := drop_nil' hd
    exact Ev.s (fun k => by rw [impl_cloneTasks.l0]) (Ev.e (by omega) (Ev.p.r (by simp)))
  | cons x t ih =>
    intro i a hd ha
    obtain ⟨hi, hd', hx, -⟩ := drop_cons' hd
    have hm := ht x (List.mem_of_mem_drop (by rw [hd]; exact List.mem_cons_self ..))
    refine Ev.s (fun k => by rw [impl_cloneTasks.l0]) (Ev.t (by omega) (Ev.t (by omega) (Ev.t (by omega) ?_)))
    rw [rdTask, hx, w64s hi (by omega)]
    refine Ev.b (Ev.c (impl_cloneTask_eq x (by omega))) (Ev.t (by omega) ?_)
    have h := ih (i + 1) (a ++ [x]) hd' (by simp; omega)
    rw [List.append_assoc] at h
    exact h
theorem impl_cloneJoiner_ev (j : S60) (h : jsz j ≤ 1048576) : Ev (fun k => impl_cloneJoiner.f k j.f0 j.f1 j.f2) (j.f0, j.f1, j.f2) := by
  have hl : j.f0.length ≤ jsz j := by unfold jsz; omega
  exact Ev.u (fun _ => rfl) (Ev.b (impl_cloneTasks_l0 j.f0 (by omega) (fun t ht => by have := jsz_mem ht; omega) j.f0 0 [] rfl (by simp)) (Ev.p.r (by simp)))
theorem spec_l19Copy_l0 (l : List S27) (hl : l.length ≤ 1048576) (ht : ∀ t ∈ l, tsz t ≤ 1048576) (u1 u2 y1 y2 p q : Int) (y0 : List S27) : ∀ (s : List S27) (i : Nat) (a : List S27), l.drop i = s → a.length ≤ i → Ev (fun k => spec_l19Copy.l0 k (i : Int) u1 u2 y0 y1 y2 a p q l) (a ++ s, p, q) := by
  intro s
  induction s with
  | nil =>
    intro i a hd ha
    have := drop_nil' hd
    exact Ev.s (fun k => by rw [spec_l19Copy.l0]) (Ev.e (by omega) (Ev.p.r (by simp)))
  | cons x t ih =>
    intro i a hd ha
    obtain ⟨hi, hd', hx, -⟩ := drop_cons' hd
    have hm := ht x (List.mem_of_mem_drop (by rw [hd]; exact List.mem_cons_self ..))
    refine Ev.s (fun k => by rw [spec_l19Copy.l0]) (Ev.t (by omega) (Ev.t (by omega) ?_))
    rw [rdTask, hx, w64s hi (by omega)]
    refine Ev.b (Ev.c (spec_l16Copy_eq x (by omega))) (Ev.t (by omega) ?_)
    have h := ih (i + 1) (a ++ [x]) hd' (by simp; omega)
    rw [List.append_assoc] at h
    exact h
theorem spec_l19Copy_ev (j : S60) (h : jsz j ≤ 1048576) : Ev (fun k => spec_l19Copy.f k j.f0 j.f1 j.f2) (j.f0, j.f1, j.f2) := by
  have hl : j.f0.length ≤ jsz j := by unfold jsz; omega
  have e := spec_l19Copy_l0 j.f0 (by omega) (fun t ht => by have := jsz_mem ht; omega) j.f1 j.f2 0 0 j.f1 j.f2 [] j.f0 0 [] rfl (by simp)
  exact Ev.u (fun _ => rfl) (e.r (by simp))
def sL (l : List S27) : Nat := (l.map fun t => t.f1.length).sum
def sR (l : List S27) : Nat := (l.map fun t => t.f2.length).sum
theorem sL_cons (t : S27) (l : List S27) : sL (t :: l) = t.f1.length + sL l := by simp [sL]
theorem sR_cons (t : S27) (l : List S27) : sR (t :: l) = t.f2.length + sR l := by simp [sR]
theorem sLR_le : ∀ l : List S27, sL l + sR l ≤ (l.map tsz).sum
  | [] => by simp [sL, sR]
  | t :: l => by have := sLR_le l; rw [sL_cons, sR_cons, List.map_cons, List.sum_cons]; unfold tsz at *; omega
def vT (q : Int) (l : List S27) : Bool := l.all fun t => vTask t && t.f0 == q
theorem vT_cons (q : Int) (t : S27) (l : List S27) : vT q (t :: l) = ((vTask t && t.f0 == q) && vT q l) := rfl
def vJ (j : S60) : Bool := decide (j.f0.length ≤ 40) && (inB j.f1 0 100000 && (inB j.f2 0 1000 && (vT (j.f0.getD 0 z27).f0 j.f0 && (decide (sL j.f0 ≤ 24) && decide (sR j.f0 ≤ 24)))))
theorem impl_IsValidJoiner_l0 (l : List S27) (u1 u2 : Int) (hl : l.length ≤ 134217728) (ht : ∀ t ∈ l, tsz t ≤ 134217728) : ∀ (s : List S27) (i a b : Nat), l.drop i = s → a + sL s ≤ 4294967296 → b + sR s ≤ 4294967296 →
    Ev (fun k => impl_IsValidJoiner.l0 k (a : Int) (b : Int) (l.length : Int) (i : Int) u1 u2 l) (vT (l.getD 0 z27).f0 s && (decide (a + sL s ≤ 24) && decide (b + sR s ≤ 24))) := by
  intro s
  induction s with
  | nil =>
    intro i a b hd ha hb
    have := drop_nil' hd
    refine Ev.s (fun k => by rw [impl_IsValidJoiner.l0]) (Ev.e (by omega) (Ev.i (fun h => Ev.p.r ?_) (fun h => Ev.p.r ?_)))
    · have : a ≤ 24 := by omega
      have e : ((b : Int) ≤ 24) = (b ≤ 24) := propext (by omega)
      simp [vT, sL, sR, this, e]
    · have : ¬ a ≤ 24 := by omega
      simp [vT, sL, this]
  | cons x t ih =>
    intro i a b hd ha hb
    rw [sL_cons] at ha ⊢
    rw [sR_cons] at hb ⊢
    rw [vT_cons]
    obtain ⟨hi, hd', hx, -⟩ := drop_cons' hd
    have hm := ht x (List.mem_of_mem_drop (by rw [hd]; exact List.mem_cons_self ..))
    refine Ev.s (fun k => by rw [impl_IsValidJoiner.l0]) (Ev.t (by omega) (Ev.t (by omega) (Ev.t (by omega) ?_)))
    rw [rdTask, hx, w64s hi (by omega), show rd_T27 l 0 = l.getD 0 z27 from rfl]
    refine Ev.b (impl_IsValidTask_ev x (by omega)) (Ev.i (fun h1 => Ev.t (by omega) (Ev.i (fun h2 => ?_) (fun h2 => Ev.p.r ?_))) (fun h1 => Ev.p.r ?_))
    · rw [show wrap64 ((a : Int) + (x.f1.length : Int)) = ((a + x.f1.length : Nat) : Int) by rw [w64 (by omega) (by omega)]; rfl]
      rw [show wrap64 ((b : Int) + (x.f2.length : Int)) = ((b + x.f2.length : Nat) : Int) by rw [w64 (by omega) (by omega)]; rfl]
      refine (ih (i + 1) (a + x.f1.length) (b + x.f2.length) hd' (by omega) (by omega)).r ?_
      rw [h1, h2, Nat.add_assoc, Nat.add_assoc]; simp
    · rw [show (x.f0 == (l.getD 0 z27).f0) = false from beq_eq_false_iff_ne.2 h2]; simp
    · simp [h1]
theorem impl_IsValidJoiner_evG (j : S60) (h : jsz j ≤ 134217728) : Ev (fun k => impl_IsValidJoiner.f k j.f0 j.f1 j.f2) (vJ j) := by
  have hl : j.f0.length ≤ jsz j := by unfold jsz; omega
  have hs := sLR_le j.f0
  have hs' : (j.f0.map tsz).sum ≤ jsz j := by unfold jsz; omega
  have e := impl_IsValidJoiner_l0 j.f0 j.f1 j.f2 (by omega) (fun t ht => by have := jsz_mem ht; omega) j.f0 0 0 0 rfl (by omega) (by omega)
  unfold vJ
  refine Ev.u (fun _ => rfl) (Ev.i (fun h1 => Ev.p.r ?_) (fun h1 => ?_))
  · have : ¬ j.f0.length ≤ 40 := by omega
    simp [this]
  · have h1' : j.f0.length ≤ 40 := by omega
    refine Ev.b (Ev.c (within_eq _ _ _)) (Ev.i (fun h2 => ?_) (fun h2 => Ev.p.r (by simp [h2])))
    refine Ev.b (Ev.c (within_eq _ _ _)) (Ev.i (fun h3 => ?_) (fun h3 => Ev.p.r (by simp [h3])))
    refine e.r ?_
    rw [h2, h3]; simp [h1']
theorem impl_IsValidJoiner_ev (j : S60) (h : jsz j ≤ 1048576) : Ev (fun k => impl_IsValidJoiner.f k j.f0 j.f1 j.f2) (vJ j) := impl_IsValidJoiner_evG j (by omega)
theorem spec_IsValidJoiner_l0 (l : List S27) (u1 u2 : Int) (hl : l.length ≤ 134217728) (ht : ∀ t ∈ l, tsz t ≤ 134217728) : ∀ (s : List S27) (i a b : Nat), l.drop i = s → a + sL s ≤ 4294967296 → b + sR s ≤ 4294967296 →
    Ev (fun k => spec_IsValidJoiner.l0 k (a : Int) (b : Int) (i : Int) u1 u2 l) ((vT (l.getD 0 z27).f0 s && (decide (a + sL s ≤ 24) && decide (b + sR s ≤ 24))) && (decide (l.length ≤ 40) && (inB u1 0 100000 && inB u2 0 1000))) := by
  intro s
  induction s with
  | nil =>
    intro i a b hd ha hb
    have := drop_nil' hd
    refine Ev.s (fun k => by rw [spec_IsValidJoiner.l0]) (Ev.e (by omega) (Ev.i (fun h => Ev.i (fun h2 => Ev.i (fun h3 => ?_) (fun h3 => Ev.p.r ?_)) (fun h2 => Ev.p.r ?_)) (fun h => Ev.p.r ?_)))
    · have k1 : a ≤ 24 := by omega
      have k2 : b ≤ 24 := by omega
      have k3 : l.length ≤ 40 := by omega
      refine Ev.b (Ev.c (l1In_eq _ _ _)) (Ev.i (fun h4 => ?_) (fun h4 => Ev.p.r (by simp [h4])))
      exact Ev.b (Ev.c (l1In_eq _ _ _)) (Ev.p.r (by simp [vT, sL, sR, k1, k2, k3, h4]))
    · have k3 : ¬ l.length ≤ 40 := by omega
      simp [k3]
    · have k2 : ¬ b ≤ 24 := by omega
      simp [sR, k2]
    · have : ¬ a ≤ 24 := by omega
      simp [sL, this]
  | cons x t ih =>
    intro i a b hd ha hb
    rw [sL_cons] at ha ⊢
    rw [sR_cons] at hb ⊢
    rw [vT_cons]
    obtain ⟨hi, hd', hx, -⟩ := drop_cons' hd
    have hm := ht x (List.mem_of_mem_drop (by rw [hd]; exact List.mem_cons_self ..))
    refine Ev.s (fun k => by rw [spec_IsValidJoiner.l0]) (Ev.t (by omega) (Ev.t (by omega) ?_))
    rw [rdTask, hx, w64s hi (by omega), show rd_T27 l 0 = l.getD 0 z27 from rfl]
    refine Ev.b (spec_IsValidTask_ev x (by omega)) (Ev.i (fun h1 => Ev.t (by omega) (Ev.i (fun h2 => ?_) (fun h2 => Ev.p.r ?_))) (fun h1 => Ev.p.r ?_))
    · rw [show wrap64 ((a : Int) + (x.f1.length : Int)) = ((a + x.f1.length : Nat) : Int) by rw [w64 (by omega) (by omega)]; rfl]
      rw [show wrap64 ((b : Int) + (x.f2.length : Int)) = ((b + x.f2.length : Nat) : Int) by rw [w64 (by omega) (by omega)]; rfl]
      refine (ih (i + 1) (a + x.f1.length) (b + x.f2.length) hd' (by omega) (by omega)).r ?_
      rw [h1, h2, Nat.add_assoc, Nat.add_assoc]; simp
    · rw [show (x.f0 == (l.getD 0 z27).f0) = false from beq_eq_false_iff_ne.2 h2]; simp
    · simp [h1]
theorem spec_IsValidJoiner_evG (j : S60) (h : jsz j ≤ 134217728) : Ev (fun k => spec_IsValidJoiner.f k j.f0 j.f1 j.f2) (vJ j) := by
  have hl : j.f0.length ≤ jsz j := by unfold jsz; omega
  have hs := sLR_le j.f0
  have hs' : (j.f0.map tsz).sum ≤ jsz j := by unfold jsz; omega
  have e := spec_IsValidJoiner_l0 j.f0 j.f1 j.f2 (by omega) (fun t ht => by have := jsz_mem ht; omega) j.f0 0 0 0 rfl (by omega) (by omega)
  refine Ev.u (fun _ => rfl) (e.r ?_)
  unfold vJ
  simp only [Nat.zero_add]
  cases decide (j.f0.length ≤ 40) <;> cases inB j.f1 0 100000 <;> cases inB j.f2 0 1000 <;> simp
theorem spec_IsValidJoiner_ev (j : S60) (h : jsz j ≤ 1048576) : Ev (fun k => spec_IsValidJoiner.f k j.f0 j.f1 j.f2) (vJ j) := spec_IsValidJoiner_evG j (by omega)

theorem inB_iff {n a b : Int} : inB n a b = true ↔ a ≤ n ∧ n ≤ b := by simp [inB]
structure VJ (j : S60) : Prop where
  len : j.f0.length ≤ 40
  wr : 0 ≤ j.f1 ∧ j.f1 ≤ 100000
  pt : 0 ≤ j.f2 ∧ j.f2 ≤ 1000
  ts : ∀ t ∈ j.f0, VT t ∧ t.f0 = (j.f0.getD 0 z27).f0
  l : sL j.f0 ≤ 24
  r : sR j.f0 ≤ 24
theorem vJ_iff {j : S60} : vJ j = true ↔ VJ j := by
  unfold vJ
  constructor
  · intro h
    simp only [Bool.and_eq_true, decide_eq_true_iff, inB_iff] at h
    refine ⟨h.1, h.2.1, h.2.2.1, fun t ht => ?_, h.2.2.2.2.1, h.2.2.2.2.2⟩
    have := List.all_eq_true.1 h.2.2.2.1 t ht
    simp only [Bool.and_eq_true, beq_iff_eq] at this
    exact ⟨vTask_iff.1 this.1, this.2⟩
  · intro h
    simp only [Bool.and_eq_true, decide_eq_true_iff, inB_iff]
    refine ⟨h.len, h.wr, h.pt, ?_, h.l, h.r⟩
    refine List.all_eq_true.2 fun t ht => ?_
    simp only [Bool.and_eq_true, beq_iff_eq]
    exact ⟨vTask_iff.2 (h.ts t ht).1, (h.ts t ht).2⟩
theorem tsum_le : ∀ (l : List S27), (∀ t ∈ l, VT t) → (l.map tsz).sum ≤ 72 * l.length
  | [], _ => by simp
  | t :: l, h => by
    have := tsum_le l (fun t ht => h t (List.mem_cons_of_mem _ ht))
    have := (h t (List.mem_cons_self ..)).p
    rw [List.map_cons, List.sum_cons, List.length_cons]; omega
theorem VJ.sz {j : S60} (h : VJ j) : jsz j ≤ 73 * j.f0.length := by
  have := tsum_le j.f0 (fun t ht => (h.ts t ht).1)
  unfold jsz; omega
theorem taskCost_b (t : S27) (h : VT t) : 0 ≤ taskCost t ∧ taskCost t ≤ 192 := by
  have h1 := tCost_b t.f1; have h2 := tCost_b t.f2; have := h.b
  unfold taskCost; omega
def chT (t : S27) (g : Int) : S27 := ⟨(jT t (t.f2.take (nC t.f2 g))).f0, (jT t (t.f2.take (nC t.f2 g))).f1, t.f2.drop (nC t.f2 g), (jT t (t.f2.take (nC t.f2 g))).f3, (jT t (t.f2.take (nC t.f2 g))).f4⟩
def stH (j : S60) (t : S27) (s : List S27) (g : Int) : S60 × List S151 × Int × Bool :=
  if t.f1.length = 0 ∨ t.f2.length = 0 then (⟨s, j.f1, j.f2⟩, uR t, 0, true)
  else if bSide t g = 0 then
    if needsN t = true then (⟨chT t g :: s, j.f1, j.f2⟩, jP t (t.f2.take (nC t.f2 g)), tCost (t.f2.take (nC t.f2 g)), true)
    else (⟨pT0 t :: pT1 t :: s, j.f1 + taskCost t, j.f2 + 1⟩, [], 8, true)
  else (⟨s, j.f1, j.f2⟩, jP t t.f2 ++ uR (jT t t.f2), if bSide t g = 1 then tCost t.f1 else tCost t.f2, true)
def stp (j : S60) (g : Int) : S60 × List S151 × Int × Bool :=
  if vJ j = true then
    match j.f0 with
    | [] => (j, [], 0, false)
    | t :: s => if inB g 8 60 = true then stH j t s g else (j, [], 0, false)
  else (j, [], 0, false)
abbrev stup (r : S60 × List S151 × Int × Bool) : List S27 × Int × Int × List S151 × Int × Bool := (r.1.f0, r.1.f1, r.1.f2, r.2.1, r.2.2.1, r.2.2.2)
theorem impl_StepJoiner_j0 (h0 : Int) (y0 s : List S27) (y1 y2 w p : Int) (P : List S151) (hP : P.length ≤ 1099511627776) (T : S27) (hT : tsz T ≤ 1048576) :
    Ev (fun k => impl_StepJoiner.j0 k P h0 y0 y1 y2 s w p T.f0 T.f1 T.f2 T.f3 T.f4) (s, w, p, P ++ uR T, h0, true) := by
  have := uR_len T
  refine Ev.s (fun k => by rw [impl_StepJoiner.j0]) ?_
  exact Ev.b (impl_UnmatchedRows_ev T (by omega)) (Ev.t (by omega) Ev.p)
theorem spec_StepJoiner_j0 (h0 : Int) (y0 s : List S27) (y1 y2 w p : Int) (P : List S151) (hP : P.length ≤ 1099511627776) (T : S27) (hT : tsz T ≤ 1048576) :
    Ev (fun k => spec_StepJoiner.j0 k P h0 y0 y1 y2 s w p T.f0 T.f1 T.f2 T.f3 T.f4) (s, w, p, P ++ uR T, h0, true) := by
  have := uR_len T
  refine Ev.s (fun k => by rw [spec_StepJoiner.j0]) ?_
  exact Ev.b (spec_UnmatchedRows_ev T (by omega)) (Ev.t (by omega) Ev.p)
theorem impl_StepJoiner_ev (j : S60) (g : Int) (h : jsz j ≤ 1048576) : Ev (fun k => impl_StepJoiner.f k j.f0 j.f1 j.f2 g) (stup (stp j g)) := by
  refine Ev.u (fun _ => rfl) (Ev.b (impl_cloneJoiner_ev j h) (Ev.b (impl_IsValidJoiner_ev j h) (Ev.i (fun hv => ?_) (fun hv => Ev.p.r (by simp [stp, hv])))))
  have hJ := vJ_iff.1 hv
  unfold stp; rw [if_pos hv]
  obtain ⟨l, w, p⟩ := j
  dsimp only at hJ ⊢
  cases l with
  | nil => exact Ev.t rfl Ev.p
  | cons t s =>
    have hVT := (hJ.ts t (List.mem_cons_self ..)).1
    have hp := hVT.p
    have hb := hVT.b
    have hlen : s.length + 1 ≤ 40 := hJ.len
    have h1 : 0 ≤ w ∧ w ≤ 100000 := hJ.wr
    have h2 : 0 ≤ p ∧ p ≤ 1000 := hJ.pt
    have hc := taskCost_b t hVT
    dsimp only
    refine Ev.e (by simp; omega) (Ev.b (Ev.c (impl_isGrant_eq g)) (Ev.i (fun hg => ?_) (fun hg => Ev.p.r (by simp [hg]))))
    rw [if_pos hg]
    refine Ev.t (by rw [List.length_cons]; omega) ?_
    simp only [show rd_T27 (t :: s) 0 = t from rfl, show (t :: s).drop (1 : Int).toNat = s from rfl]
    refine Ev.b (impl_BuildSide_ev t g (by omega)) ?_
    unfold stH
    refine Ev.i (fun q1 => Ev.t (by simp; omega) ?_) (fun q1 => Ev.i (fun q2 => Ev.t (by simp; omega) ?_) (fun q2 => ?_))
    · rw [if_pos (.inl (by omega))]
      exact Ev.b (impl_UnmatchedRows_ev t (by omega)) Ev.p
    · rw [if_pos (.inr (by omega))]
      exact Ev.b (impl_UnmatchedRows_ev t (by omega)) Ev.p
    rw [if_neg (show ¬ (t.f1.length = 0 ∨ t.f2.length = 0) by omega)]
    refine Ev.i (fun q3 => ?_) (fun q3 => ?_)
    · rw [if_pos q3]
      refine Ev.b (impl_NeedsNestedLoop_ev t (by omega)) (Ev.i (fun q4 => ?_) (fun q4 => ?_))
      · rw [if_pos q4]
        have l1 : (t.f2.take (nC t.f2 g)).length ≤ t.f2.length := List.length_take_le' _ _
        refine Ev.b (impl_NextChunk_ev t.f2 g (by omega)) (Ev.b (impl_JoinChunk_ev t (t.f2.take (nC t.f2 g)) (by omega) (by omega)) (Ev.b (Ev.c rfl) ?_))
        exact Ev.b (impl_TotalCost_ev (t.f2.take (nC t.f2 g)) (by omega)) Ev.p
      · rw [if_neg q4]
        refine Ev.b (impl_PartitionTask_ev t (by omega)) (Ev.t (by simp; omega) (Ev.t (by simp; omega) (Ev.b (impl_TaskCost_ev t (by omega)) ?_)))
        rw [w64 (x := w + taskCost t) (by omega) (by omega), w64 (x := p + 1) (by omega) (by omega)]
        exact Ev.p
    · rw [if_neg q3]
      have l1 := jP_len t t.f2
      have l2 := (jT_sz t t.f2).1
      refine Ev.t (by simp; omega) (Ev.b (impl_JoinChunk_ev t t.f2 (by omega) (by omega)) (Ev.b (impl_TotalCost_ev t.f2 (by omega)) (Ev.i (fun q4 => ?_) (fun q4 => ?_))))
      · rw [if_pos q4]
        exact Ev.b (impl_TotalCost_ev t.f1 (by omega)) (impl_StepJoiner_j0 _ _ s _ _ w p (jP t t.f2) (by omega) (jT t t.f2) (by omega))
      · rw [if_neg q4]
        exact impl_StepJoiner_j0 _ _ s _ _ w p (jP t t.f2) (by omega) (jT t t.f2) (by omega)
theorem spec_StepJoiner_ev (j : S60) (g : Int) (h : jsz j ≤ 1048576) : Ev (fun k => spec_StepJoiner.f k j.f0 j.f1 j.f2 g) (stup (stp j g)) := by
  refine Ev.u (fun _ => rfl) (Ev.b (spec_l19Copy_ev j h) (Ev.b (spec_IsValidJoiner_ev j h) (Ev.i (fun hv => ?_) (fun hv => Ev.p.r (by simp [stp, hv])))))
  have hJ := vJ_iff.1 hv
  unfold stp; rw [if_pos hv]
  obtain ⟨l, w, p⟩ := j
  dsimp only at hJ ⊢
  cases l with
  | nil => exact Ev.t rfl Ev.p
  | cons t s =>
    have hVT := (hJ.ts t (List.mem_cons_self ..)).1
    have hp := hVT.p
    have hb := hVT.b
    have hlen : s.length + 1 ≤ 40 := hJ.len
    have h1 : 0 ≤ w ∧ w ≤ 100000 := hJ.wr
    have h2 : 0 ≤ p ∧ p ≤ 1000 := hJ.pt
    have hc := taskCost_b t hVT
    dsimp only
    refine Ev.e (by simp; omega) (Ev.b (Ev.c (l1In_eq g _ _)) (Ev.i (fun hg => ?_) (fun hg => Ev.p.r (by simp [hg]))))
    rw [if_pos hg]
    refine Ev.t (by rw [List.length_cons]; omega) (Ev.t (by rw [List.length_cons]; omega) ?_)
    simp only [show rd_T27 (t :: s) 0 = t from rfl, show (t :: s).drop (1 : Int).toNat = s from rfl]
    refine Ev.b (spec_BuildSide_ev t g (by omega)) ?_
    unfold stH
    refine Ev.i (fun q1 => ?_) (fun q1 => Ev.i (fun q2 => ?_) (fun q2 => ?_))
    · rw [if_pos (.inl (by omega))]
      exact Ev.b (spec_UnmatchedRows_ev t (by omega)) Ev.p
    · rw [if_pos (.inr (by omega))]
      exact Ev.b (spec_UnmatchedRows_ev t (by omega)) Ev.p
    rw [if_neg (show ¬ (t.f1.length = 0 ∨ t.f2.length = 0) by omega)]
    have b3 := bSide_012 t g
    refine Ev.i (fun q3 => ?_) (fun q3 => ?_)
    · rw [if_neg (show ¬ bSide t g = 0 by omega)]
      have l1 := jP_len t t.f2
      have l2 := (jT_sz t t.f2).1
      refine Ev.b (spec_JoinChunk_ev t t.f2 (by omega) (by omega)) (Ev.b (spec_TotalCost_ev t.f2 (by omega)) (Ev.i (fun q4 => ?_) (fun q4 => ?_)))
      · rw [if_pos q4]
        exact Ev.b (spec_TotalCost_ev t.f1 (by omega)) (spec_StepJoiner_j0 _ _ s _ _ w p (jP t t.f2) (by omega) (jT t t.f2) (by omega))
      · rw [if_neg q4]
        exact spec_StepJoiner_j0 _ _ s _ _ w p (jP t t.f2) (by omega) (jT t t.f2) (by omega)
    · rw [if_pos (show bSide t g = 0 by omega)]
      refine Ev.b (spec_NeedsNestedLoop_ev t (by omega)) (Ev.i (fun q4 => ?_) (fun q4 => ?_))
      · rw [if_pos q4]
        have l1 : (t.f2.take (nC t.f2 g)).length ≤ t.f2.length := List.length_take_le' _ _
        refine Ev.b (spec_NextChunk_ev t.f2 g (by omega)) (Ev.b (spec_JoinChunk_ev t (t.f2.take (nC t.f2 g)) (by omega) (by omega)) (Ev.t (by simp; omega) ?_))
        exact Ev.b (spec_TotalCost_ev (t.f2.take (nC t.f2 g)) (by omega)) Ev.p
      · rw [if_neg q4]
        refine Ev.b (spec_PartitionTask_ev t (by omega)) (Ev.t (by simp; omega) (Ev.b (spec_TaskCost_ev t (by omega)) ?_))
        rw [w64 (x := w + taskCost t) (by omega) (by omega), w64 (x := p + 1) (by omega) (by omega)]
        exact Ev.p
theorem stH_sz (j : S60) (t : S27) (s : List S27) (g : Int) (hJ : VJ j) (hl : j.f0 = t :: s) : jsz (stH j t s g).1 ≤ 4000 ∧ (stH j t s g).2.1.length ≤ 624 := by
  have hVT := (hJ.ts t (by rw [hl]; exact List.mem_cons_self ..)).1
  have hs := tsum_le s (fun x hx => (hJ.ts x (by rw [hl]; exact List.mem_cons_of_mem _ hx)).1)
  have hlen := hJ.len
  rw [hl, List.length_cons] at hlen
  have hp := hVT.p
  have hb := hVT.b
  have u1 := uR_len t
  have u2 := uR_len (jT t t.f2)
  have p1 := jP_len t t.f2
  have p2 := jP_len t (t.f2.take (nC t.f2 g))
  have l1 : (t.f2.take (nC t.f2 g)).length ≤ t.f2.length := List.length_take_le' _ _
  have l2 : (t.f2.drop (nC t.f2 g)).length ≤ t.f2.length := by rw [List.length_drop]; omega
  have z := pT_sz t
  have zj := (jT_sz t (t.f2.take (nC t.f2 g))).1
  have zt : tsz (chT t g) ≤ 144 := by unfold tsz at *; unfold chT; dsimp only; omega
  unfold stH
  split
  · constructor
    · unfold jsz; dsimp only; omega
    · dsimp only; omega
  split
  · split
    · constructor
      · unfold jsz; simp only [List.map_cons, List.sum_cons, List.length_cons]; omega
      · dsimp only; omega
    · constructor
      · unfold jsz; simp only [List.map_cons, List.sum_cons, List.length_cons]; omega
      · simp
  · constructor
    · unfold jsz; dsimp only; omega
    · simp only [List.length_append]; omega
theorem stp_sz (j : S60) (g : Int) : jsz (stp j g).1 ≤ jsz j + 4000 ∧ (stp j g).2.1.length ≤ 624 := by
  unfold stp
  split
  · rename_i hv
    have hJ := vJ_iff.1 hv
    split
    · simp
    · rename_i t s hl
      split
      · have := stH_sz j t s g hJ hl
        omega
      · simp
  · simp

def pw (v : Int) : Nat := 2 ^ (4 - v).toNat
theorem pw_s {v : Int} (h : v < 4) : pw v = 2 * pw (v + 1) := by
  unfold pw
  rw [show (4 - v).toNat = (4 - (v + 1)).toNat + 1 by omega, Nat.pow_succ]; omega
theorem pw_pos (v : Int) : 1 ≤ pw v := Nat.one_le_two_pow
theorem pw_le {v : Int} (h : 0 ≤ v) : pw v ≤ 16 := by
  have : 2 ^ (4 - v).toNat ≤ 2 ^ 4 := Nat.pow_le_pow_right (by omega) (by omega)
  exact this
def mT (t : S27) : Nat := 2 * pw t.f4 - 1 + t.f2.length
def mM (l : List S27) : Nat := (l.map mT).sum
def wt (t : S27) : Int := (4 - t.f4) * taskCost t
def wW (l : List S27) : Int := (l.map wt).sum
def wP (l : List S27) : Nat := (l.map fun t => pw t.f4 - 1).sum
def stk : List S27 → Prop
  | [] => True
  | t :: s => s.length + 1 + (4 - t.f4).toNat ≤ 24 ∧ stk s
theorem mM_cons (t : S27) (l : List S27) : mM (t :: l) = mT t + mM l := by simp [mM]
theorem wW_cons (t : S27) (l : List S27) : wW (t :: l) = wt t + wW l := by simp [wW]
theorem wP_cons (t : S27) (l : List S27) : wP (t :: l) = (pw t.f4 - 1) + wP l := by simp [wP]
theorem wt_pos {t : S27} (h : VT t) : 0 ≤ wt t := by
  have := taskCost_b t h; have := h.level
  exact Int.mul_nonneg (by omega) (by omega)
theorem wW_pos : ∀ (l : List S27), (∀ t ∈ l, VT t) → 0 ≤ wW l
  | [], _ => by simp [wW]
  | t :: l, h => by
    have := wW_pos l (fun t ht => h t (List.mem_cons_of_mem _ ht))
    have := wt_pos (h t (List.mem_cons_self ..))
    rw [wW_cons]; omega
theorem mT_pos (t : S27) : 1 ≤ mT t := by have := pw_pos t.f4; unfold mT; omega
structure IJ (q : Int) (j : S60) : Prop where
  ts : ∀ t ∈ j.f0, VT t ∧ t.f0 = q
  l : sL j.f0 ≤ 24
  r : sR j.f0 ≤ 24
  st : stk j.f0
  wr : 0 ≤ j.f1 ∧ j.f1 + wW j.f0 ≤ 90000
  pt : 0 ≤ j.f2 ∧ j.f2 + wP j.f0 ≤ 900
theorem stk_len : ∀ {l : List S27}, stk l → l.length ≤ 24
  | [], _ => by simp
  | t :: l, h => by rw [List.length_cons]; have := h.1; omega
theorem IJ.v {q : Int} {j : S60} (h : IJ q j) : VJ j := by
  have h1 := wW_pos j.f0 (fun t ht => (h.ts t ht).1)
  have h2 := h.wr
  have h3 := h.pt
  refine ⟨Nat.le_trans (stk_len h.st) (by omega), ⟨h2.1, by omega⟩, ⟨h3.1, by omega⟩, fun t ht => ⟨(h.ts t ht).1, ?_⟩, h.l, h.r⟩
  rw [(h.ts t ht).2]
  cases hl : j.f0 with
  | nil => rw [hl] at ht; simp at ht
  | cons x s => exact ((h.ts x (by rw [hl]; exact List.mem_cons_self ..)).2).symm
theorem IJ.drop {q : Int} {j : S60} {t : S27} {s : List S27} (h : IJ q j) (hl : j.f0 = t :: s) : IJ q ⟨s, j.f1, j.f2⟩ ∧ mM s < mM j.f0 := by
  have hw := wt_pos (h.ts t (by rw [hl]; exact List.mem_cons_self ..)).1
  have h1 := h.l; have h2 := h.r; have h3 := h.wr; have h4 := h.pt; have h5 := h.st
  have hm := mT_pos t
  rw [hl] at h1 h2 h3 h4 h5 ⊢
  rw [sL_cons] at h1; rw [sR_cons] at h2; rw [wW_cons] at h3; rw [wP_cons] at h4; rw [mM_cons]
  exact ⟨⟨fun x hx => h.ts x (by rw [hl]; exact List.mem_cons_of_mem _ hx), by dsimp only; omega, by dsimp only; omega, h5.2, ⟨h3.1, by dsimp only; omega⟩, ⟨h4.1, by dsimp only; omega⟩⟩, by omega⟩
theorem jT_vt {t : S27} (h : VT t) (c : List S99) : jT t c = { t with f3 := (zl t).map (jm c) } := by unfold jT; rw [if_pos (vTask_iff.2 h)]
theorem chT_VT {t : S27} (h : VT t) (g : Int) : VT (chT t g) ∧ (chT t g).f0 = t.f0 ∧ (chT t g).f1 = t.f1 ∧ (chT t g).f2 = t.f2.drop (nC t.f2 g) ∧ (chT t g).f4 = t.f4 := by
  unfold chT
  rw [jT_vt h]
  refine ⟨⟨h.kind, h.left, vRows_sub h.right (List.drop_sublist _ _), ?_, h.level⟩, rfl, rfl, rfl, rfl⟩
  show ((zl t).map (jm _)).length = t.f1.length
  have := h.len
  simp [zl]; omega
theorem IJ.chunk {q g : Int} {j : S60} {t : S27} {s : List S27} (h : IJ q j) (hl : j.f0 = t :: s) (hr : t.f2.length ≠ 0) : IJ q ⟨chT t g :: s, j.f1, j.f2⟩ ∧ mM (chT t g :: s) < mM j.f0 := by
  have hq := h.ts t (by rw [hl]; exact List.mem_cons_self ..)
  obtain ⟨k1, k2, k3, k4, k5⟩ := chT_VT hq.1 g
  have hn := nC_pos (g := g) hr
  have hd : (chT t g).f2.length = t.f2.length - nC t.f2 g := by rw [k4, List.length_drop]
  have hc : taskCost (chT t g) ≤ taskCost t := by
    unfold taskCost
    rw [k3, k4]
    have e := tCost_app (t.f2.take (nC t.f2 g)) (t.f2.drop (nC t.f2 g))
    rw [List.take_append_drop] at e
    have := tCost_b (t.f2.take (nC t.f2 g))
    omega
  have hw : wt (chT t g) ≤ wt t := by
    unfold wt; rw [k5]
    have := hq.1.level
    exact Int.mul_le_mul_of_nonneg_left hc (by omega)
  have h1 := h.l; have h2 := h.r; have h3 := h.wr; have h4 := h.pt; have h5 := h.st
  rw [hl] at h1 h2 h3 h4 h5 ⊢
  rw [sL_cons] at h1; rw [sR_cons] at h2; rw [wW_cons] at h3; rw [wP_cons] at h4; rw [mM_cons, mM_cons]
  refine ⟨⟨fun x hx => ?_, by show sL (chT t g :: s) ≤ 24; rw [sL_cons, k3]; omega, by show sR (chT t g :: s) ≤ 24; rw [sR_cons, hd]; omega, ⟨by rw [k5]; exact h5.1, h5.2⟩, ⟨h3.1, by show j.f1 + wW (chT t g :: s) ≤ _; rw [wW_cons]; omega⟩, ⟨h4.1, by show j.f2 + (wP (chT t g :: s) : Nat) ≤ _; rw [wP_cons, k5]; omega⟩⟩, ?_⟩
  · rcases List.mem_cons.1 hx with hx | hx
    · subst hx; exact ⟨k1, k2.trans hq.2⟩
    · exact h.ts x (by rw [hl]; exact List.mem_cons_of_mem _ hx)
  · unfold mT; rw [k5, hd]; omega
theorem flt_sum {α : Type} (f : α → Int) (p : α → Bool) : ∀ l : List α, ((l.filter p).map f).sum + ((l.filter fun x => !p x).map f).sum = (l.map f).sum
  | [] => by simp
  | x :: l => by
    have := flt_sum f p l
    cases h : p x <;> simp [h] <;> omega
theorem flt_len {α : Type} (p : α → Bool) : ∀ l : List α, (l.filter p).length + (l.filter fun x => !p x).length = l.length
  | [] => by simp
  | x :: l => by
    have := flt_len p l
    cases h : p x <;> simp [h] <;> omega
theorem part_sum {t : S27} (h : VT t) : (part0 t).f1.length + (part1 t).f1.length = t.f1.length ∧ (part0 t).f2.length + (part1 t).f2.length = t.f2.length ∧ taskCost (part0 t) + taskCost (part1 t) = taskCost t := by
  have e := zl_fst h.len
  refine ⟨?_, flt_len _ _, ?_⟩
  · have := flt_len (fun p => hb t.f4 p.1) (zl t)
    have hz : (zl t).length = t.f1.length := by rw [← congrArg List.length e, List.length_map]
    simp only [part0, part1, List.length_map]; omega
  · have h1 := flt_sum (fun p => cRow p.1) (fun p => hb t.f4 p.1) (zl t)
    have h2 := flt_sum cRow (hb t.f4) t.f2
    have h3 : ((zl t).map fun p => cRow p.1).sum = tCost t.f1 := by
      have : tCost ((zl t).map (·.1)) = tCost t.f1 := by rw [e]
      rw [← this, tCost, List.map_map]; rfl
    unfold taskCost
    rw [show tCost (part0 t).f1 = (((zl t).filter fun p => hb t.f4 p.1).map fun p => cRow p.1).sum by rw [tCost, part0, List.map_map]; rfl]
    rw [show tCost (part1 t).f1 = (((zl t).filter fun p => !hb t.f4 p.1).map fun p => cRow p.1).sum by rw [tCost, part1, List.map_map]; rfl]
    rw [show tCost (part0 t).f2 = ((t.f2.filter (hb t.f4)).map cRow).sum from rfl]
    rw [show tCost (part1 t).f2 = ((t.f2.filter fun x => !hb t.f4 x).map cRow).sum from rfl]
    unfold tCost at h3 ⊢
    omega
theorem IJ.part {q : Int} {j : S60} {t : S27} {s : List S27} (h : IJ q j) (hl : j.f0 = t :: s) (h4 : t.f4 ≠ 4) : IJ q ⟨pT0 t :: pT1 t :: s, j.f1 + taskCost t, j.f2 + 1⟩ ∧ mM (pT0 t :: pT1 t :: s) < mM j.f0 := by
  have hq := h.ts t (by rw [hl]; exact List.mem_cons_self ..)
  have hp : parts t = true := by unfold parts; rw [vTask_iff.2 hq.1]; simp [h4]
  rw [show pT0 t = part0 t by rw [pT0, if_pos hp], show pT1 t = part1 t by rw [pT1, if_pos hp]]
  obtain ⟨v0, v1⟩ := part_VT hq.1 h4
  obtain ⟨s1, s2, s3⟩ := part_sum hq.1
  have e0 : (part0 t).f4 = t.f4 + 1 := rfl
  have e1 : (part1 t).f4 = t.f4 + 1 := rfl
  have hlv := hq.1.level
  have hpw := pw_s (v := t.f4) (by omega)
  have hpp := pw_pos (t.f4 + 1)
  have hc := taskCost_b t hq.1
  have hw : wt (part0 t) + wt (part1 t) + taskCost t = wt t := by
    unfold wt
    rw [e0, e1, ← Int.mul_add, s3, show (4 - t.f4) = (4 - (t.f4 + 1)) + 1 by omega, Int.add_mul, Int.one_mul]
  have h1 := h.l; have h2 := h.r; have h3 := h.wr; have h4' := h.pt; have h5 := h.st
  rw [hl] at h1 h2 h3 h4' h5 ⊢
  rw [sL_cons] at h1; rw [sR_cons] at h2; rw [wW_cons] at h3; rw [wP_cons] at h4'; rw [mM_cons, mM_cons, mM_cons]
  refine ⟨⟨fun x hx => ?_, ?_, ?_, ⟨?_, ?_, h5.2⟩, ⟨by show 0 ≤ j.f1 + taskCost t; omega, ?_⟩, ⟨by show 0 ≤ j.f2 + 1; omega, ?_⟩⟩, ?_⟩
  · rcases List.mem_cons.1 hx with hx | hx
    · subst hx; exact ⟨v0, hq.2⟩
    rcases List.mem_cons.1 hx with hx | hx
    · subst hx; exact ⟨v1, hq.2⟩
    · exact h.ts x (by rw [hl]; exact List.mem_cons_of_mem _ hx)
  · show sL (part0 t :: part1 t :: s) ≤ 24; rw [sL_cons, sL_cons]; omega
  · show sR (part0 t :: part1 t :: s) ≤ 24; rw [sR_cons, sR_cons]; omega
  · rw [e0, List.length_cons]; have := h5.1; omega
  · rw [e1]; have := h5.1; omega
  · show j.f1 + taskCost t + wW (part0 t :: part1 t :: s) ≤ 90000; rw [wW_cons, wW_cons]; omega
  · show j.f2 + 1 + (wP (part0 t :: part1 t :: s) : Nat) ≤ 900; rw [wP_cons, wP_cons, e0, e1]; omega
  · unfold mT; rw [e0, e1]; omega
theorem IJ.step {q g : Int} {j : S60} (h : IJ q j) (hg : inB g 8 60 = true) (hl : j.f0.length ≠ 0) : IJ q (stp j g).1 ∧ mM (stp j g).1.f0 < mM j.f0 ∧ (stp j g).2.2.2 = true := by
  cases hl' : j.f0 with
  | nil => rw [hl'] at hl; simp at hl
  | cons t s =>
    have e : stp j g = stH j t s g := by
      unfold stp; rw [if_pos (vJ_iff.2 h.v)]; simp only [hl', if_pos hg]
    rw [e, ← hl']
    unfold stH
    split
    · exact ⟨(h.drop hl').1, (h.drop hl').2, rfl⟩
    rename_i hne
    split
    · split
      · have := h.chunk (g := g) hl' (by omega)
        exact ⟨this.1, this.2, rfl⟩
      · rename_i hnn
        have h4 : t.f4 ≠ 4 := by
          intro h4; apply hnn; unfold needsN; simp [h4]
        have := h.part hl' h4
        exact ⟨this.1, this.2, rfl⟩
    · exact ⟨(h.drop hl').1, (h.drop hl').2, rfl⟩
def run (gs : List Int) : Nat → S60 → List S151 → Nat → Int → List S151 × Nat × Int × Int
  | 0, j, P, n, h => (P, n, h, j.f1)
  | m + 1, j, P, n, h => if j.f0.length = 0 then (P, n, h, j.f1) else run gs m (stp j (gs.getD (n % gs.length) 0)).1 (P ++ (stp j (gs.getD (n % gs.length) 0)).2.1) (n + 1) (mx h (stp j (gs.getD (n % gs.length) 0)).2.2.1)
theorem tmodN (n L : Nat) : Int.tmod (n : Int) (L : Int) = ((n % L : Nat) : Int) := (Int.ofNat_tmod n L).symm
theorem getD_all {gs : List Int} (hgs : ∀ g ∈ gs, inB g 8 60 = true) {i : Nat} (hi : i < gs.length) : inB (gs.getD i 0) 8 60 = true := by
  refine hgs _ ?_
  rw [List.getD_eq_getElem?_getD, List.getElem?_eq_getElem hi]
  exact List.getElem_mem hi
theorem impl_run_l0 (q : Int) (gs : List Int) (hgs : ∀ g ∈ gs, inB g 8 60 = true) (h0 : gs.length ≠ 0) (c1 c2 c3 u : Int) (c0 : List S151) : ∀ (m : Nat) (j : S60) (P : List S151) (n : Nat) (h : Int), IJ q j → mM j.f0 ≤ m → n + m ≤ 1000000 → P.length + m * 624 ≤ 1000000000 →
    Ev (fun k => impl_runJoiner.l0 k j.f0 j.f1 j.f2 c0 c1 c2 c3 P (n : Int) h u gs) ((run gs m j P n h).1, (((run gs m j P n h).2.1 : Nat) : Int), (run gs m j P n h).2.2.1, (run gs m j P n h).2.2.2, true) := by
  intro m
  induction m with
  | zero =>
    intro j P n h hI hm hn hP
    have : j.f0.length = 0 := by
      cases hl : j.f0 with
      | nil => rfl
      | cons t s => rw [hl, mM_cons] at hm; have := mT_pos t; omega
    refine Ev.s (fun k => by rw [impl_runJoiner.l0]) ?_
    exact Ev.e (by omega) Ev.p
  | succ m ih =>
    intro j P n h hI hm hn hP
    refine Ev.s (fun k => by rw [impl_runJoiner.l0]) ?_
    rw [run]
    by_cases hl : j.f0.length = 0
    · rw [if_pos hl]
      exact Ev.e (by omega) Ev.p
    rw [if_neg hl, tmodN]
    have hi : n % gs.length < gs.length := Nat.mod_lt _ (by omega)
    have hg := getD_all hgs hi
    obtain ⟨s1, s2, s3⟩ := hI.step hg hl
    have hz := hI.v.sz
    have hlen := hI.v.len
    have sp := (stp_sz j (gs.getD (n % gs.length) 0)).2
    refine Ev.t (by omega) (Ev.t (by omega) (Ev.t (by omega) (Ev.t (by omega) ?_)))
    rw [rdI]
    refine Ev.b (impl_StepJoiner_ev j (gs.getD (n % gs.length) 0) (by omega)) ?_
    dsimp only [stup]
    rw [show wrap64 ((n : Int) + 1) = ((n + 1 : Nat) : Int) by rw [w64 (by omega) (by omega)]; rfl]
    refine Ev.t s3 (Ev.t (by omega) ?_)
    exact ih (stp j (gs.getD (n % gs.length) 0)).1 _ (n + 1) _ s1 (by omega) (by omega) (by rw [List.length_append]; omega)
theorem spec_run_l0 (q : Int) (gs : List Int) (hgs : ∀ g ∈ gs, inB g 8 60 = true) (h0 : gs.length ≠ 0) (c1 c2 c3 u : Int) (c0 : List S151) : ∀ (m : Nat) (j : S60) (P : List S151) (n : Nat) (h : Int), IJ q j → mM j.f0 ≤ m → n + m ≤ 1000000 → P.length + m * 624 ≤ 1000000000 →
    Ev (fun k => spec_l20Go.l0 k j.f0 j.f1 j.f2 c0 c1 c2 c3 P (n : Int) h u gs) ((run gs m j P n h).1, (((run gs m j P n h).2.1 : Nat) : Int), (run gs m j P n h).2.2.1, (run gs m j P n h).2.2.2) := by
  intro m
  induction m with
  | zero =>
    intro j P n h hI hm hn hP
    have : j.f0.length = 0 := by
      cases hl : j.f0 with
      | nil => rfl
      | cons t s => rw [hl, mM_cons] at hm; have := mT_pos t; omega
    refine Ev.s (fun k => by rw [spec_l20Go.l0]) ?_
    exact Ev.e (by omega) Ev.p
  | succ m ih =>
    intro j P n h hI hm hn hP
    refine Ev.s (fun k => by rw [spec_l20Go.l0]) ?_
    rw [run]
    by_cases hl : j.f0.length = 0
    · rw [if_pos hl]
      exact Ev.e (by omega) Ev.p
    rw [if_neg hl, tmodN]
    have hi : n % gs.length < gs.length := Nat.mod_lt _ (by omega)
    have hg := getD_all hgs hi
    obtain ⟨s1, s2, s3⟩ := hI.step hg hl
    have hz := hI.v.sz
    have hlen := hI.v.len
    have sp := (stp_sz j (gs.getD (n % gs.length) 0)).2
    refine Ev.t (by omega) (Ev.t (by omega) (Ev.t (by omega) (Ev.t (by omega) ?_)))
    rw [rdI]
    refine Ev.b (spec_StepJoiner_ev j (gs.getD (n % gs.length) 0) (by omega)) ?_
    dsimp only [stup]
    rw [show wrap64 ((n : Int) + 1) = ((n + 1 : Nat) : Int) by rw [w64 (by omega) (by omega)]; rfl]
    refine Ev.t s3 (Ev.t (by omega) ?_)
    exact ih (stp j (gs.getD (n % gs.length) 0)).1 _ (n + 1) _ s1 (by omega) (by omega) (by rw [List.length_append]; omega)

def gAll (l : List Int) : Bool := l.all fun g => inB g 8 60
def gOk (l : List Int) : Bool := gAll l && decide ((l.length : Int) > 0)
theorem gOk_iff {l : List Int} (h : gOk l = true) : (∀ g ∈ l, inB g 8 60 = true) ∧ l.length ≠ 0 := by
  unfold gOk gAll at h
  rw [Bool.and_eq_true, decide_eq_true_iff, List.all_eq_true] at h
  exact ⟨h.1, by omega⟩
theorem impl_areGrants_l0 (l : List Int) (hl : l.length ≤ 4611686018427387904) : ∀ (s : List Int) (i : Nat), l.drop i = s → Ev (fun k => impl_areGrants.l0 k (l.length : Int) (i : Int) l) (gAll s && decide ((l.length : Int) > 0)) := by
  intro s
  induction s with
  | nil =>
    intro i hd
    have := drop_nil' hd
    exact Ev.s (fun k => by rw [impl_areGrants.l0]) (Ev.e (by omega) (Ev.p.r (by simp [gAll])))
  | cons x t ih =>
    intro i hd
    obtain ⟨hi, hd', hx, -⟩ := drop_cons' hd
    refine Ev.s (fun k => by rw [impl_areGrants.l0]) (Ev.t (by omega) (Ev.t (by omega) (Ev.t (by omega) ?_)))
    rw [rdI, hx, w64s hi (by omega)]
    refine Ev.b (Ev.c (impl_isGrant_eq x)) (Ev.i (fun h => ?_) (fun h => Ev.p.r (by simp [gAll, h])))
    exact (ih (i + 1) hd').r (by simp [gAll, h])
theorem impl_areGrants_ev (l : List Int) (hl : l.length ≤ 4611686018427387904) : Ev (fun k => impl_areGrants.f k l) (gOk l) :=
  Ev.u (fun _ => rfl) (impl_areGrants_l0 l hl l 0 rfl)
theorem spec_l14Grants_l0 (l : List Int) (hl : l.length ≤ 4611686018427387904) : ∀ (s : List Int) (i : Nat), l.drop i = s → Ev (fun k => spec_l14Grants.l0 k (i : Int) l) (gAll s && decide ((l.length : Int) > 0)) := by
  intro s
  induction s with
  | nil =>
    intro i hd
    have := drop_nil' hd
    exact Ev.s (fun k => by rw [spec_l14Grants.l0]) (Ev.e (by omega) (Ev.p.r (by simp [gAll])))
  | cons x t ih =>
    intro i hd
    obtain ⟨hi, hd', hx, -⟩ := drop_cons' hd
    refine Ev.s (fun k => by rw [spec_l14Grants.l0]) (Ev.t (by omega) (Ev.t (by omega) ?_))
    rw [rdI, hx, w64s hi (by omega)]
    refine Ev.b (Ev.c (l1In_eq x _ _)) (Ev.i (fun h => ?_) (fun h => Ev.p.r (by simp [gAll, h])))
    exact (ih (i + 1) hd').r (by simp [gAll, h])
theorem spec_l14Grants_ev (l : List Int) (hl : l.length ≤ 4611686018427387904) : Ev (fun k => spec_l14Grants.f k l) (gOk l) :=
  Ev.u (fun _ => rfl) (spec_l14Grants_l0 l hl l 0 rfl)
theorem impl_runJoiner_ev (q : Int) (gs : List Int) (hg : gOk gs = true) (j : S60) (hI : IJ q j) (hm : mM j.f0 ≤ 700) :
    Ev (fun k => impl_runJoiner.f k j.f0 j.f1 j.f2 gs) ((run gs 700 j [] 0 0).1, (((run gs 700 j [] 0 0).2.1 : Nat) : Int), (run gs 700 j [] 0 0).2.2.1, (run gs 700 j [] 0 0).2.2.2, true) :=
  Ev.u (fun _ => rfl) (impl_run_l0 q gs (gOk_iff hg).1 (gOk_iff hg).2 0 0 0 0 [] 700 j [] 0 0 hI hm (by omega) (by simp))
theorem spec_l20Go_ev (q : Int) (gs : List Int) (hg : gOk gs = true) (j : S60) (hI : IJ q j) (hm : mM j.f0 ≤ 700) :
    Ev (fun k => spec_l20Go.f k j.f0 j.f1 j.f2 gs) ((run gs 700 j [] 0 0).1, (((run gs 700 j [] 0 0).2.1 : Nat) : Int), (run gs 700 j [] 0 0).2.2.1, (run gs 700 j [] 0 0).2.2.2) :=
  Ev.u (fun _ => rfl) (spec_run_l0 q gs (gOk_iff hg).1 (gOk_iff hg).2 0 0 0 0 [] 700 j [] 0 0 hI hm (by omega) (by simp))
theorem lv_b : ∀ (l : List S27), (∀ t ∈ l, VT t) → wW l ≤ 768 * l.length ∧ wP l ≤ 15 * l.length ∧ mM l ≤ 31 * l.length + sR l
  | [], _ => by simp [wW, wP, mM, sR]
  | t :: l, h => by
    have ih := lv_b l (fun t ht => h t (List.mem_cons_of_mem _ ht))
    have hv := h t (List.mem_cons_self ..)
    have hc := taskCost_b t hv
    have hl := hv.level
    have hp := pw_le hl.1
    have hw : wt t ≤ 768 := by
      unfold wt
      have : (4 - t.f4) * taskCost t ≤ 4 * taskCost t := Int.mul_le_mul_of_nonneg_right (by omega) hc.1
      omega
    rw [wW_cons, wP_cons, mM_cons, sR_cons, List.length_cons]
    unfold mT
    omega
theorem stk_of : ∀ {l : List S27}, (∀ t ∈ l, VT t) → l.length ≤ 20 → stk l
  | [], _, _ => trivial
  | t :: l, h, hl => by
    rw [List.length_cons] at hl
    have hv := (h t (List.mem_cons_self ..)).level
    exact ⟨by omega, stk_of (fun t ht => h t (List.mem_cons_of_mem _ ht)) (by omega)⟩
theorem IJ_of {j : S60} (h : VJ j) (h1 : j.f1 ≤ 50000) (h2 : j.f2 ≤ 500) (h3 : j.f0.length ≤ 20) : IJ (j.f0.getD 0 z27).f0 j ∧ mM j.f0 ≤ 700 := by
  have hv : ∀ t ∈ j.f0, VT t := fun t ht => (h.ts t ht).1
  have hb := lv_b j.f0 hv
  have := h.wr; have := h.pt; have := h.r
  have := wW_pos j.f0 hv
  exact ⟨⟨h.ts, h.l, h.r, stk_of hv h3, ⟨by omega, by omega⟩, ⟨by omega, by omega⟩⟩, by omega⟩
def sfOk (j : S60) (gs : List Int) : Bool := vJ j && (gOk gs && (decide (j.f1 ≤ 50000) && (decide (j.f2 ≤ 500) && decide (j.f0.length ≤ 20))))
def sf (j : S60) (gs : List Int) : Int := if sfOk j gs = true then ((run gs 700 j [] 0 0).2.1 : Nat) else 0
theorem impl_StepsToFinish_ev (j : S60) (gs : List Int) (hj : jsz j ≤ 1048576) (hg : gs.length ≤ 1048576) : Ev (fun k => impl_StepsToFinish.f k j.f0 j.f1 j.f2 gs) (sf j gs, sfOk j gs) := by
  unfold sf sfOk
  refine Ev.u (fun _ => rfl) (Ev.b (impl_IsValidJoiner_ev j hj) (Ev.i (fun h => ?_) (fun h => Ev.p.r (by simp [h]))))
  refine Ev.b (impl_areGrants_ev gs (by omega)) (Ev.i (fun h2 => ?_) (fun h2 => Ev.p.r (by simp [h2])))
  refine Ev.i (fun h3 => Ev.p.r ?_) (fun h3 => Ev.i (fun h4 => Ev.p.r ?_) (fun h4 => Ev.i (fun h5 => Ev.p.r ?_) (fun h5 => ?_)))
  · have : ¬ j.f1 ≤ 50000 := by omega
    simp [this]
  · have : ¬ j.f2 ≤ 500 := by omega
    simp [this]
  · have : ¬ j.f0.length ≤ 20 := by omega
    simp [this]
  have h3' : j.f1 ≤ 50000 := by omega
  have h4' : j.f2 ≤ 500 := by omega
  have h5' : j.f0.length ≤ 20 := by omega
  have hI := IJ_of (vJ_iff.1 h) h3' h4' h5'
  refine Ev.b (impl_cloneJoiner_ev j hj) (Ev.b (impl_runJoiner_ev _ gs h2 j hI.1 hI.2) (Ev.t rfl (Ev.p.r ?_)))
  simp [h, h2, h3', h4', h5']
theorem spec_StepsToFinish_ev (j : S60) (gs : List Int) (hj : jsz j ≤ 1048576) (hg : gs.length ≤ 1048576) : Ev (fun k => spec_StepsToFinish.f k j.f0 j.f1 j.f2 gs) (sf j gs, sfOk j gs) := by
  unfold sf sfOk
  refine Ev.u (fun _ => rfl) (Ev.b (spec_IsValidJoiner_ev j hj) (Ev.i (fun h => ?_) (fun h => Ev.p.r (by simp [h]))))
  refine Ev.b (spec_l14Grants_ev gs (by omega)) (Ev.i (fun h2 => ?_) (fun h2 => Ev.p.r (by simp [h2])))
  refine Ev.i (fun h3 => Ev.p.r ?_) (fun h3 => Ev.i (fun h4 => Ev.p.r ?_) (fun h4 => Ev.i (fun h5 => Ev.p.r ?_) (fun h5 => ?_)))
  · have : ¬ j.f1 ≤ 50000 := by omega
    simp [this]
  · have : ¬ j.f2 ≤ 500 := by omega
    simp [this]
  · have : ¬ j.f0.length ≤ 20 := by omega
    simp [this]
  have h3' : j.f1 ≤ 50000 := by omega
  have h4' : j.f2 ≤ 500 := by omega
  have h5' : j.f0.length ≤ 20 := by omega
  have hI := IJ_of (vJ_iff.1 h) h3' h4' h5'
  refine Ev.b (spec_l20Go_ev _ gs h2 j hI.1 hI.2) (Ev.p.r ?_)
  simp [h, h2, h3', h4', h5']
theorem andI_255 (a : Int) : 0 ≤ andI a 255 ∧ andI a 255 ≤ 255 := by
  unfold andI
  have h1 : (BitVec.ofInt 64 a &&& BitVec.ofInt 64 255).toNat ≤ 255 := by
    rw [BitVec.toNat_and]
    exact Nat.and_le_right
  rw [w64 (by omega) (by omega)]
  omega
def Rd (l : List Int) (p : Int) : Prop := 0 ≤ p ∧ p ≤ (l.length : Int) ∧ l.length ≤ 1099511627776
theorem l1Byte_ex (l : List Int) (p z : Int) (h : Rd l p) : ∃ v p' z', spec_l1Byte.f l p z = some (v, p', z') ∧ 0 ≤ v ∧ v ≤ 255 ∧ Rd l p' := by
  obtain ⟨h0, h1, h2⟩ := h
  unfold spec_l1Byte.f
  by_cases hp : p < (l.length : Int)
  · rw [if_pos hp, if_pos h0]
    refine ⟨_, _, _, rfl, (andI_255 _).1, (andI_255 _).2, ?_⟩
    rw [w64 (by omega) (by omega)]
    exact ⟨by omega, by omega, h2⟩
  · rw [if_neg hp]
    exact ⟨_, _, _, rfl, (andI_255 _).1, (andI_255 _).2, h0, h1, h2⟩
theorem l1Below_ex (l : List Int) (p z n : Int) (h : Rd l p) (hn : n ≤ 256) : ∃ v p' z', spec_l1Below.f l p z n = some (v, p', z') ∧ 0 ≤ v ∧ (v < n ∨ (n ≤ 0 ∧ v = 0)) ∧ Rd l p' := by
  unfold spec_l1Below.f
  by_cases h0 : n ≤ 0
  · rw [if_pos h0]; exact ⟨0, p, z, rfl, by omega, .inr ⟨h0, rfl⟩, h⟩
  · rw [if_neg h0, if_pos hn]
    obtain ⟨v, p', z', e, v0, v1, hr⟩ := l1Byte_ex l p z h
    rw [ob e, if_pos (by omega)]
    have e2 : Int.tmod v n = v % n := Int.tmod_eq_emod_of_nonneg v0
    refine ⟨_, _, _, rfl, ?_, .inl ?_, hr⟩
    · show 0 ≤ Int.tmod v n
      rw [e2]; exact Int.emod_nonneg _ (by omega)
    · show Int.tmod v n < n
      rw [e2]; exact Int.emod_lt_of_pos _ (by omega)
theorem l1Once_ex (l : List Int) (p z n : Int) (h : Rd l p) (hn : n ≤ 256) : ∃ b p' z', spec_l1Once.f l p z n = some (b, p', z') ∧ Rd l p' := by
  obtain ⟨v, p', z', e, -, -, hr⟩ := l1Below_ex l p z n h hn
  unfold spec_l1Once.f
  rw [ob e]
  exact ⟨_, _, _, rfl, hr⟩
theorem l1PickInt_ex (l : List Int) (p z : Int) (c : List Int) (h : Rd l p) (hc : 0 < c.length) (hn : c.length ≤ 256) : ∃ v p' z', spec_l1PickInt.f l p z c = some (v, p', z') ∧ v ∈ c ∧ Rd l p' := by
  obtain ⟨v, p', z', e, v0, v1, hr⟩ := l1Below_ex l p z (c.length : Int) h (by omega)
  unfold spec_l1PickInt.f
  rw [ob e]
  show ∃ v' q q', (if 0 ≤ v then (if v < (c.length : Int) then some (rdOf 0 c v, p', z') else none) else none) = some (v', q, q') ∧ _
  rw [if_pos v0, if_pos (by omega)]
  refine ⟨_, _, _, rfl, ?_, hr⟩
  obtain ⟨n, rfl⟩ : ∃ n : Nat, v = n := ⟨v.toNat, by omega⟩
  rw [rdI, List.getD_eq_getElem?_getD, List.getElem?_eq_getElem (by omega)]
  exact List.getElem_mem (by omega)
theorem l2Row_ex (l : List Int) (p z n : Int) (h : Rd l p) (hn : n ≤ 256) : ∃ a b c p' z', spec_l2Row.f l p z n = some (a, b, c, p', z') ∧ 0 ≤ a ∧ (a < n ∨ (n ≤ 0 ∧ a = 0)) ∧ 0 ≤ b ∧ b ≤ 99 ∧ 0 ≤ c ∧ c ≤ 3 ∧ Rd l p' := by
  obtain ⟨v1, p1, z1, e1, a0, a1, h1⟩ := l1Below_ex l p z n h hn
  obtain ⟨v2, p2, z2, e2, b0, b1, h2⟩ := l1Below_ex l p1 z1 100 h1 (by omega)
  obtain ⟨v3, p3, z3, e3, c0, h3⟩ := l1PickInt_ex l p2 z2 [0, 0, 1, 2, 3] h2 (by simp) (by simp)
  unfold spec_l2Row.f
  rw [ob e1, ob e2, ob e3]
  refine ⟨_, _, _, _, _, rfl, a0, a1, b0, by omega, ?_, ?_, h3⟩
  · simp at c0; show 0 ≤ v3; omega
  · simp at c0; show v3 ≤ 3; omega

theorem l2Rows_l0 (l : List Int) (n : Int) (hn : 1 ≤ n ∧ n ≤ 10) : ∀ (m : Nat) (R : List S99) (p z : Int), Rd l p → vAll R = true → R.length + m ≤ 1000 → ∃ R' p' z', Ev (fun k => spec_l2Rows.l0 k R n (m : Int) p z l) (R', p', z') ∧ vAll R' = true ∧ R'.length = R.length + m ∧ Rd l p' := by
  intro m
  induction m with
  | zero =>
    intro R p z h hv hR
    exact ⟨R, p, z, Ev.s (fun k => by rw [spec_l2Rows.l0]) (Ev.e (by omega) Ev.p), hv, rfl, h⟩
  | succ m ih =>
    intro R p z h hv hR
    obtain ⟨a, b, c, p', z', e, a0, a1, b0, b1, c0, c1, hr⟩ := l2Row_ex l p z n h (by omega)
    have hv' : vAll (R ++ [⟨a, b, c⟩]) = true := by
      unfold vAll at hv ⊢
      rw [List.all_append, hv]
      simp [vRow, inB]; omega
    obtain ⟨R', p2, z2, e2, v2, l2, r2⟩ := ih (R ++ [⟨a, b, c⟩]) p' z' hr hv' (by simp; omega)
    refine ⟨R', p2, z2, ?_, v2, by rw [l2]; simp; omega, r2⟩
    refine Ev.s (fun k => by rw [spec_l2Rows.l0]) ?_
    rw [show wrap64 (((m + 1 : Nat) : Int) - 1) = (m : Int) by rw [w64 (by omega) (by omega)]; omega]
    refine Ev.t (by omega) (Ev.b (Ev.c e) ?_)
    exact Ev.t (by omega) e2
theorem l2Rows_ex (l : List Int) (p z n : Int) (h : Rd l p) (hn : 0 ≤ n ∧ n ≤ 100) : ∃ R p' z', Ev (fun k => spec_l2Rows.f k l p z n) (R, p', z') ∧ vAll R = true ∧ (R.length : Int) ≤ n ∧ Rd l p' := by
  obtain ⟨v1, p1, z1, e1, m1, h1⟩ := l1PickInt_ex l p z [1, 2, 4, 10] h (by simp) (by simp)
  obtain ⟨v2, p2, z2, e2, b0, b1, h2⟩ := l1Below_ex l p1 z1 (n + 1) h1 (by omega)
  have hv : 1 ≤ v1 ∧ v1 ≤ 10 := by simp at m1; omega
  obtain ⟨w, rfl⟩ : ∃ w : Nat, v2 = w := ⟨v2.toNat, by omega⟩
  obtain ⟨R, p', z', e, hvR, hl, hr⟩ := l2Rows_l0 l v1 hv w [] p2 z2 h2 rfl (by simp; omega)
  refine ⟨R, p', z', Ev.u (fun _ => rfl) (Ev.b (Ev.c e1) ?_), hvR, by rw [hl]; simp; omega, hr⟩
  rw [w64 (x := n + 1) (by omega) (by omega)]
  exact Ev.b (Ev.c e2) e
theorem l2Any_ex (l : List Int) (p z : Int) (h : Rd l p) : ∃ a b c p' z', spec_l2Any.f l p z = some (a, b, c, p', z') ∧ Rd l p' := by
  obtain ⟨a, b, c, p1, z1, e1, -, -, -, -, -, -, h1⟩ := l2Row_ex l p z 10 h (by omega)
  obtain ⟨v, p2, z2, e2, -, -, h2⟩ := l1Below_ex l p1 z1 8 h1 (by omega)
  unfold spec_l2Any.f
  rw [ob e1, ob e2]
  dsimp only
  by_cases k0 : v = 0
  · obtain ⟨w, p3, z3, e3, -, h3⟩ := l1PickInt_ex l p2 z2 [-1, 10] h2 (by simp) (by simp)
    rw [if_pos k0, ob e3]; exact ⟨_, _, _, _, _, rfl, h3⟩
  rw [if_neg k0]
  by_cases k1 : v = 1
  · obtain ⟨w, p3, z3, e3, -, h3⟩ := l1PickInt_ex l p2 z2 [-1, 100, 99] h2 (by simp) (by simp)
    rw [if_pos k1, ob e3]; exact ⟨_, _, _, _, _, rfl, h3⟩
  rw [if_neg k1]
  by_cases k2 : v = 2
  · obtain ⟨w, p3, z3, e3, -, h3⟩ := l1PickInt_ex l p2 z2 [-1, 4] h2 (by simp) (by simp)
    rw [if_pos k2, ob e3]; exact ⟨_, _, _, _, _, rfl, h3⟩
  rw [if_neg k2]; exact ⟨_, _, _, _, _, rfl, h2⟩
theorem l1New_ev (l : List Int) (hl : l.length ≤ 1048576) : ∃ z', Ev (fun k => spec_l1New.f k l) (0, z') := by
  have J : ∀ z : Int, Ev (fun k => spec_l1New.j0 k z l) (0, z) := fun z => Ev.s (fun k => by rw [spec_l1New.j0]) Ev.p
  have L : ∀ (s : List Int) (i : Nat) (z : Int), l.drop i = s → ∃ z', Ev (fun k => spec_l1New.l0 k z (i : Int) l) (0, z') := by
    intro s
    induction s with
    | nil =>
      intro i z hd
      have := drop_nil' hd
      exact ⟨z, Ev.s (fun k => by rw [spec_l1New.l0]) (Ev.e (by omega) (J z))⟩
    | cons x t ih =>
      intro i z hd
      obtain ⟨hi, hd', hx, -⟩ := drop_cons' hd
      by_cases h4 : (i : Int) < 4000
      · obtain ⟨z', e⟩ := ih (i + 1) _ hd'
        refine ⟨z', Ev.s (fun k => by rw [spec_l1New.l0]) ?_⟩
        rw [w64s hi (by omega)]
        exact Ev.t (by omega) (Ev.t h4 (Ev.t (by omega) e))
      · exact ⟨z, Ev.s (fun k => by rw [spec_l1New.l0]) (Ev.t (by omega) (Ev.e h4 (J z)))⟩
  obtain ⟨z', e⟩ := L l 0 _ rfl
  exact ⟨z', Ev.u (fun _ => rfl) e⟩
theorem l14List_l0 (l : List Int) : ∀ (m : Nat) (G : List Int) (p z : Int), Rd l p → G.length + m ≤ 1000 → 1 ≤ G.length + m → ∃ G' p' z', Ev (fun k => spec_l14List.l0 k G (m : Int) p z l) (G', p', z') ∧ G'.length = G.length + m ∧ Rd l p' := by
  intro m
  induction m with
  | zero =>
    intro G p z h hG h1
    obtain ⟨b, p1, z1, e1, r1⟩ := l1Once_ex l p z 14 h (by omega)
    cases b with
    | true =>
      obtain ⟨w, p3, z3, e3, -, h3⟩ := l1PickInt_ex l p1 z1 [7, 61] r1 (by simp) (by simp)
      refine ⟨G.set (0 : Int).toNat w, p3, z3, Ev.s (fun k => by rw [spec_l14List.l0]) ?_, by simp, h3⟩
      refine Ev.e (by omega) (Ev.b (Ev.c e1) (Ev.t rfl (Ev.b (Ev.c e3) ?_)))
      exact Ev.t (by omega) Ev.p
    | false =>
      refine ⟨G, p1, z1, Ev.s (fun k => by rw [spec_l14List.l0]) ?_, by simp, r1⟩
      exact Ev.e (by omega) (Ev.b (Ev.c e1) (Ev.e (by simp) Ev.p))
  | succ m ih =>
    intro G p z h hG h1
    obtain ⟨w, p3, z3, e3, -, h3⟩ := l1PickInt_ex l p z [0, 0, 1, 4, 12, 40] h (by simp) (by simp)
    obtain ⟨G', p', z', e, hl, hr⟩ := ih (G ++ [wrap64 (8 + w)]) p3 z3 h3 (by simp; omega) (by simp; omega)
    refine ⟨G', p', z', Ev.s (fun k => by rw [spec_l14List.l0]) ?_, by rw [hl]; simp; omega, hr⟩
    rw [show wrap64 (((m + 1 : Nat) : Int) - 1) = (m : Int) by rw [w64 (by omega) (by omega)]; omega]
    refine Ev.t (by omega) (Ev.b (Ev.c e3) ?_)
    exact Ev.t (by omega) e
theorem l14List_ex (l : List Int) (p z : Int) (h : Rd l p) : ∃ G p' z', Ev (fun k => spec_l14List.f k l p z) (G, p', z') ∧ G.length ≤ 4 ∧ Rd l p' := by
  obtain ⟨v, p1, z1, e1, v0, v1, h1⟩ := l1Below_ex l p z 4 h (by omega)
  obtain ⟨w, rfl⟩ : ∃ w : Nat, v = w := ⟨v.toNat, by omega⟩
  obtain ⟨G, p', z', e, hl, hr⟩ := l14List_l0 l (1 + w) [] p1 z1 h1 (by simp; omega) (by simp)
  refine ⟨G, p', z', Ev.u (fun _ => rfl) (Ev.b (Ev.c e1) ?_), by rw [hl]; simp; omega, hr⟩
  rw [show wrap64 (1 + (w : Int)) = ((1 + w : Nat) : Int) by rw [w64 (by omega) (by omega)]; rfl]
  exact e
theorem Rd0 (l : List Int) (hl : l.length ≤ 1048576) : Rd l 0 := ⟨by omega, by omega, by omega⟩
def urq (q : Int) (p : S99 × Bool) : List S151 := if q = 3 ∨ q = 4 then ur p else []
def elT (q : Int) (r : List S99) (p : S99 × Bool) : List S151 := jc q r p ++ urq q (p.1, jm r p)
def rsT (t : S27) : List S151 := (zl t).flatMap (elT t.f0 t.f2)
theorem fm_app {α β : Type} (f g : α → List β) : ∀ l : List α, (l.flatMap f ++ l.flatMap g).Perm (l.flatMap fun x => f x ++ g x)
  | [] => List.Perm.refl _
  | x :: l => by
    have ih := fm_app f g l
    rw [List.flatMap_cons, List.flatMap_cons, List.flatMap_cons, List.append_assoc, List.append_assoc]
    refine List.Perm.append_left _ ?_
    have h : (l.flatMap f ++ (g x ++ l.flatMap g)).Perm (g x ++ (l.flatMap f ++ l.flatMap g)) := by
      rw [← List.append_assoc, ← List.append_assoc]
      exact List.Perm.append_right _ List.perm_append_comm
    exact h.trans (List.Perm.append_left _ ih)
theorem fm_congr {α β : Type} {f g : α → List β} : ∀ {l : List α}, (∀ x ∈ l, f x = g x) → l.flatMap f = l.flatMap g
  | [], _ => rfl
  | x :: l, h => by rw [List.flatMap_cons, List.flatMap_cons, h x (List.mem_cons_self ..), fm_congr (fun y hy => h y (List.mem_cons_of_mem _ hy))]
theorem fm_map {α β γ : Type} (f : α → β) (g : β → List γ) : ∀ l : List α, (l.map f).flatMap g = l.flatMap fun x => g (f x)
  | [] => rfl
  | x :: l => by rw [List.map_cons, List.flatMap_cons, List.flatMap_cons, fm_map f g l]
theorem fm_split {α β : Type} (p : α → Bool) (f : α → List β) : ∀ l : List α, ((l.filter p).flatMap f ++ (l.filter fun x => !p x).flatMap f).Perm (l.flatMap f)
  | [] => List.Perm.refl _
  | x :: l => by
    have ih := fm_split p f l
    cases h : p x with
    | true =>
      rw [List.filter_cons_of_pos h, List.filter_cons_of_neg (by simp [h]), List.flatMap_cons, List.flatMap_cons, List.append_assoc]
      exact List.Perm.append_left _ ih
    | false =>
      rw [List.filter_cons_of_neg (by simp [h]), List.filter_cons_of_pos (by simp [h]), List.flatMap_cons, List.flatMap_cons]
      have h2 : ((l.filter p).flatMap f ++ (f x ++ (l.filter fun x => !p x).flatMap f)).Perm (f x ++ ((l.filter p).flatMap f ++ (l.filter fun x => !p x).flatMap f)) := by
        rw [← List.append_assoc, ← List.append_assoc]
        exact List.Perm.append_right _ List.perm_append_comm
      exact h2.trans (List.Perm.append_left _ ih)
theorem nKey_app (x : Int) (c d : List S99) : nKey x (c ++ d) = nKey x c + nKey x d := by simp [nKey]
theorem nKey_flt {x : Int} {c : List S99} (h : nKey x c = 0) : (c.filter fun r => r.f0 == x) = [] := by
  unfold nKey at h
  rw [List.countP_eq_zero] at h
  exact List.filter_eq_nil_iff.2 h
theorem jm_app (c d : List S99) (p : S99 × Bool) : jm (c ++ d) p = jm d (p.1, jm c p) := by
  unfold jm; rw [nKey_app]
  by_cases h1 : nKey p.1.f0 c = 0 <;> by_cases h2 : nKey p.1.f0 d = 0 <;> simp [h1, h2]
theorem jc_app (q : Int) (c d : List S99) (p : S99 × Bool) : jc q (c ++ d) p = jc q c p ++ jc q d (p.1, jm c p) := by
  unfold jc jm; rw [nKey_app, List.filter_append, List.map_append]
  by_cases h1 : nKey p.1.f0 c = 0 <;> by_cases h2 : nKey p.1.f0 d = 0
  · simp [h1, h2]
  · simp [h1, h2, nKey_flt h1]
  · simp [h1, h2, nKey_flt h2]
  · by_cases h3 : q = 2
    · simp [h1, h2, h3]
    · by_cases h4 : q = 1 ∨ q = 4
      · simp [h1, h2, h3, h4]
      · simp [h1, h2, h3, h4]
theorem elT_app (q : Int) (c d : List S99) (p : S99 × Bool) : elT q (c ++ d) p = jc q c p ++ elT q d (p.1, jm c p) := by
  unfold elT; rw [jc_app, jm_app, List.append_assoc]
theorem zl_jT {t : S27} (h : VT t) (c : List S99) : zl (jT t c) = (zl t).map fun p => (p.1, jm c p) := by
  rw [jT_vt h]
  show t.f1.zip ((zl t).map (jm c)) = _
  have e := zl_fst h.len
  have : (((zl t).map (·.1)).zip ((zl t).map (jm c))) = (zl t).map fun p => (p.1, jm c p) := List.zip_map' ..
  rw [e] at this; exact this
theorem jP_vt {t : S27} (h : VT t) (c : List S99) : jP t c = (zl t).flatMap (jc t.f0 c) := by unfold jP; rw [if_pos (vTask_iff.2 h)]
theorem VT.jT {t : S27} (h : VT t) (c : List S99) : VT (jT t c) := by
  rw [jT_vt h]
  refine ⟨h.kind, h.left, h.right, ?_, h.level⟩
  show ((zl t).map (jm _)).length = t.f1.length
  have := h.len
  simp [zl]; omega
theorem uR_vt {t : S27} (h : VT t) : uR t = (zl t).flatMap (urq t.f0) := by
  unfold uR
  by_cases h2 : t.f0 = 3 ∨ t.f0 = 4
  · rw [if_pos ⟨vTask_iff.2 h, h2⟩]; exact fm_congr fun x _ => by unfold urq; rw [if_pos h2]
  · rw [if_neg (fun k => h2 k.2), fm_congr (g := fun _ => []) fun x _ => by unfold urq; rw [if_neg h2]]; simp
theorem uR_jT {t : S27} (h : VT t) (c : List S99) : uR (jT t c) = (zl t).flatMap fun p => urq t.f0 (p.1, jm c p) := by
  rw [uR_vt (h.jT c), zl_jT h, fm_map]
  rw [jT_vt h]
theorem rsT_side {t : S27} (h : VT t) : (jP t t.f2 ++ uR (jT t t.f2)).Perm (rsT t) := by
  rw [jP_vt h, uR_jT h]
  exact fm_app _ _ _
theorem jm_nil (p : S99 × Bool) : jm [] p = p.2 := by simp [jm, nKey]
theorem jc_nil (q : Int) (p : S99 × Bool) : jc q [] p = [] := by simp [jc, nKey]
theorem elT_nil (q : Int) (p : S99 × Bool) : elT q [] p = urq q p := by unfold elT; rw [jc_nil, jm_nil]; rfl
theorem rsT_empty {t : S27} (h : VT t) (h2 : t.f1.length = 0 ∨ t.f2.length = 0) : uR t = rsT t := by
  rw [uR_vt h]; unfold rsT
  rcases h2 with h2 | h2
  · have : zl t = [] := by unfold zl; rw [List.eq_nil_of_length_eq_zero h2]; rfl
    rw [this]; rfl
  · rw [List.eq_nil_of_length_eq_zero h2]
    exact fm_congr fun p _ => (elT_nil t.f0 p).symm
theorem rsT_chunk {t : S27} (h : VT t) (c d : List S99) (hc : c ++ d = t.f2) (u : S27) (h0 : u.f0 = t.f0) (h1 : u.f1 = t.f1) (h2 : u.f2 = d) (h3 : u.f3 = (jT t c).f3) : (jP t c ++ rsT u).Perm (rsT t) := by
  have e : rsT u = (zl t).flatMap fun p => elT t.f0 d (p.1, jm c p) := by
    have hz : zl u = zl (jT t c) := by unfold zl; rw [h1, h3, jT_vt h]
    unfold rsT; rw [hz, zl_jT h, fm_map, h0, h2]
  rw [e, jP_vt h]
  refine (fm_app _ _ _).trans ?_
  unfold rsT
  rw [← hc, fm_congr fun p _ => (elT_app t.f0 c d p).symm]
theorem flt_spl {v x : Int} (p : S99 → Bool) (l : List S99) (hp : ∀ r : S99, r.f0 = x → p r = true) : (l.filter p).filter (fun r => r.f0 == x) = l.filter fun r => r.f0 == x := by
  rw [List.filter_filter]
  refine List.filter_congr fun r _ => ?_
  by_cases h : r.f0 = x
  · simp [h, hp r h]
  · simp [h]
theorem nKey_f (x : Int) (l : List S99) : nKey x l = (l.filter fun r => r.f0 == x).length := by unfold nKey; rw [List.countP_eq_length_filter]
theorem elT_flt (q : Int) (l m : List S99) (p : S99 × Bool) (h : (m.filter fun r => r.f0 == p.1.f0) = l.filter fun r => r.f0 == p.1.f0) : elT q m p = elT q l p := by
  unfold elT jm jc
  rw [nKey_f, nKey_f, h]
theorem zip_unzip {α β : Type} : ∀ l : List (α × β), (l.map (·.1)).zip (l.map (·.2)) = l
  | [] => rfl
  | x :: l => by rw [List.map_cons, List.map_cons, List.zip_cons_cons, zip_unzip l]
theorem rsT_part (t : S27) : (rsT (part0 t) ++ rsT (part1 t)).Perm (rsT t) := by
  have e0 : rsT (part0 t) = ((zl t).filter fun p => hb t.f4 p.1).flatMap (elT t.f0 t.f2) := by
    unfold rsT
    rw [show zl (part0 t) = (zl t).filter fun p => hb t.f4 p.1 from zip_unzip _]
    refine fm_congr fun p hp => elT_flt _ _ _ _ (flt_spl (v := t.f4) _ _ fun r hr => ?_)
    have := (List.mem_filter.1 hp).2
    unfold hb at this ⊢; rw [hr]; exact this
  have e1 : rsT (part1 t) = ((zl t).filter fun p => !hb t.f4 p.1).flatMap (elT t.f0 t.f2) := by
    unfold rsT
    rw [show zl (part1 t) = (zl t).filter fun p => !hb t.f4 p.1 from zip_unzip _]
    refine fm_congr fun p hp => elT_flt _ _ _ _ (flt_spl (v := t.f4) _ _ fun r hr => ?_)
    have := (List.mem_filter.1 hp).2
    unfold hb at this ⊢; rw [hr]; exact this
  rw [e0, e1]
  exact fm_split _ _ _
/-- A chunk fits the grant or holds one row. -/
theorem nxt_cost (g : Int) : ∀ (s : List S99) (c : Int), c ≤ g → c + tCost (s.take (nxt g c s)) ≤ g
  | [], c, h => by simp [nxt, tCost]; exact h
  | x :: s, c, h => by
    rw [nxt]
    by_cases h2 : c + cRow x ≤ g
    · rw [if_pos h2, List.take_succ_cons, tCost_cons]
      have := nxt_cost g s (c + cRow x) h2; omega
    · rw [if_neg h2]; simp [tCost]; exact h
theorem nC_cost8 (l : List S99) (g : Int) (hg : 8 ≤ g) : tCost (l.take (nC l g)) ≤ g := by
  cases l with
  | nil => simp [tCost]; omega
  | cons x s => have := cRow_b x; rw [nC, List.take_succ_cons, tCost_cons]; exact nxt_cost g s (cRow x) (by omega)

structure SL (j j' : S60) (P : List S151) (u g : Int) : Prop where
  out : (P ++ j'.f0.flatMap rsT).Perm (j.f0.flatMap rsT)
  held : 0 ≤ u ∧ u ≤ g
  l : sL j'.f0 ≤ sL j.f0
  r : sR j'.f0 ≤ sR j.f0
  w : j.f1 ≤ j'.f1
  p : j.f2 ≤ j'.f2
  ww : j'.f1 + wW j'.f0 ≤ j.f1 + wW j.f0
  len : j.f0.length ≤ j'.f0.length + 1
theorem wt_part {t : S27} (h : VT t) : wt (part0 t) + wt (part1 t) + taskCost t = wt t := by
  have e0 : (part0 t).f4 = t.f4 + 1 := rfl
  have e1 : (part1 t).f4 = t.f4 + 1 := rfl
  unfold wt
  rw [e0, e1, ← Int.mul_add, (part_sum h).2.2, show (4 - t.f4) = (4 - (t.f4 + 1)) + 1 by omega, Int.add_mul, Int.one_mul]
theorem wt_chunk {t : S27} (h : VT t) (g : Int) : wt (chT t g) ≤ wt t := by
  obtain ⟨k1, k2, k3, k4, k5⟩ := chT_VT h g
  have hc : taskCost (chT t g) ≤ taskCost t := by
    unfold taskCost
    rw [k3, k4]
    have e := tCost_app (t.f2.take (nC t.f2 g)) (t.f2.drop (nC t.f2 g))
    rw [List.take_append_drop] at e
    have := tCost_b (t.f2.take (nC t.f2 g))
    omega
  unfold wt; rw [k5]
  have := h.level
  exact Int.mul_le_mul_of_nonneg_left hc (by omega)
theorem bSide_1 {t : S27} {g : Int} (h : bSide t g = 1) : tCost t.f1 ≤ g := by
  unfold bSide at h; split at h
  · split at h
    · rename_i k; exact k.2.2
    · split at h <;> omega
  · omega
theorem bSide_2 {t : S27} {g : Int} (h : bSide t g = 2) : tCost t.f2 ≤ g := by
  unfold bSide at h; split at h
  · split at h
    · omega
    · split at h
      · assumption
      · omega
  · omega
theorem stH_law {j : S60} {t : S27} {s : List S27} {g : Int} (h : VJ j) (hl : j.f0 = t :: s) (hg : 8 ≤ g) : SL j (stH j t s g).1 (stH j t s g).2.1 (stH j t s g).2.2.1 g := by
  have hv := (h.ts t (by rw [hl]; exact List.mem_cons_self ..)).1
  have hwt := wt_pos hv
  have hc := taskCost_b t hv
  have hcl := tCost_b t.f1
  have hcr := tCost_b t.f2
  have eo : j.f0.flatMap rsT = rsT t ++ s.flatMap rsT := by rw [hl, List.flatMap_cons]
  have ew : wW j.f0 = wt t + wW s := by rw [hl, wW_cons]
  have el : sL j.f0 = t.f1.length + sL s := by rw [hl, sL_cons]
  have er : sR j.f0 = t.f2.length + sR s := by rw [hl, sR_cons]
  have en : j.f0.length = s.length + 1 := by rw [hl, List.length_cons]
  unfold stH
  by_cases c1 : t.f1.length = 0 ∨ t.f2.length = 0
  · rw [if_pos c1]
    exact ⟨by rw [eo, rsT_empty hv c1], ⟨by show (0 : Int) ≤ 0; omega, by show (0 : Int) ≤ g; omega⟩, by show sL s ≤ _; omega, by show sR s ≤ _; omega, Int.le_refl _, Int.le_refl _, by show j.f1 + wW s ≤ _; omega, by show _ ≤ s.length + 1; omega⟩
  rw [if_neg c1]
  by_cases c2 : bSide t g = 0
  · rw [if_pos c2]
    by_cases c3 : needsN t = true
    · rw [if_pos c3]
      obtain ⟨k1, k2, k3, k4, k5⟩ := chT_VT hv g
      have hw := wt_chunk hv g
      have ht := tCost_b (t.f2.take (nC t.f2 g))
      refine ⟨?_, ⟨ht.1, nC_cost8 _ _ hg⟩, ?_, ?_, Int.le_refl _, Int.le_refl _, ?_, ?_⟩
      · rw [eo]
        show (jP t (t.f2.take (nC t.f2 g)) ++ (chT t g :: s).flatMap rsT).Perm _
        rw [List.flatMap_cons, ← List.append_assoc]
        exact List.Perm.append_right _ (rsT_chunk hv _ _ (List.take_append_drop ..) (chT t g) k2 k3 k4 rfl)
      · show sL (chT t g :: s) ≤ _; rw [sL_cons, k3]; omega
      · show sR (chT t g :: s) ≤ _; rw [sR_cons, k4, List.length_drop]; omega
      · show j.f1 + wW (chT t g :: s) ≤ _; rw [wW_cons]; omega
      · show _ ≤ s.length + 1 + 1; omega
    · rw [if_neg c3]
      have h4 : t.f4 ≠ 4 := by
        intro h4; apply c3; unfold needsN; simp [h4]
      have hp : parts t = true := by unfold parts; rw [vTask_iff.2 hv]; simp [h4]
      obtain ⟨s1, s2, s3⟩ := part_sum hv
      have hw := wt_part hv
      rw [show pT0 t = part0 t by rw [pT0, if_pos hp], show pT1 t = part1 t by rw [pT1, if_pos hp]]
      refine ⟨?_, ⟨by show (0 : Int) ≤ 8; omega, hg⟩, ?_, ?_, by show j.f1 ≤ j.f1 + taskCost t; omega, by show j.f2 ≤ j.f2 + 1; omega, ?_, ?_⟩
      · rw [eo]
        show ((part0 t :: part1 t :: s).flatMap rsT).Perm _
        rw [List.flatMap_cons, List.flatMap_cons, ← List.append_assoc]
        exact List.Perm.append_right _ (rsT_part t)
      · show sL (part0 t :: part1 t :: s) ≤ _; rw [sL_cons, sL_cons]; omega
      · show sR (part0 t :: part1 t :: s) ≤ _; rw [sR_cons, sR_cons]; omega
      · show j.f1 + taskCost t + wW (part0 t :: part1 t :: s) ≤ _; rw [wW_cons, wW_cons]; omega
      · show _ ≤ s.length + 1 + 1 + 1; omega
  · rw [if_neg c2]
    refine ⟨?_, ?_, by show sL s ≤ _; omega, by show sR s ≤ _; omega, Int.le_refl _, Int.le_refl _, by show j.f1 + wW s ≤ _; omega, by show _ ≤ s.length + 1; omega⟩
    · rw [eo]; exact List.Perm.append_right _ (rsT_side hv)
    · show 0 ≤ (if bSide t g = 1 then tCost t.f1 else tCost t.f2) ∧ (if bSide t g = 1 then tCost t.f1 else tCost t.f2) ≤ g
      by_cases c4 : bSide t g = 1
      · rw [if_pos c4]; exact ⟨hcl.1, bSide_1 c4⟩
      · rw [if_neg c4]; have := bSide_012 t g; exact ⟨hcr.1, bSide_2 (by omega)⟩
theorem stp_law {j : S60} {g : Int} (h : VJ j) (hg : inB g 8 60 = true) (hl : j.f0.length ≠ 0) : SL j (stp j g).1 (stp j g).2.1 (stp j g).2.2.1 g ∧ (stp j g).2.2.2 = true := by
  cases hl' : j.f0 with
  | nil => rw [hl'] at hl; simp at hl
  | cons t s =>
    have e : stp j g = stH j t s g := by
      unfold stp; rw [if_pos (vJ_iff.2 h)]; simp only [hl', if_pos hg]
    rw [e]
    refine ⟨stH_law h hl' (inB_iff.1 hg).1, ?_⟩
    unfold stH; (repeat' split) <;> rfl
theorem run_law (q : Int) (gs : List Int) (hgs : ∀ g ∈ gs, inB g 8 60 = true) (h0 : gs.length ≠ 0) (M : Int) (hM : ∀ g ∈ gs, g ≤ M) : ∀ (m : Nat) (j : S60) (P : List S151) (n : Nat) (h : Int), IJ q j → mM j.f0 ≤ m → h ≤ M →
    (run gs m j P n h).1.Perm (P ++ j.f0.flatMap rsT) ∧ (run gs m j P n h).2.1 ≤ n + mM j.f0 ∧ n + j.f0.length ≤ (run gs m j P n h).2.1 ∧ (run gs m j P n h).2.2.1 ≤ M ∧ (run gs m j P n h).2.2.2 ≤ j.f1 + wW j.f0 := by
  intro m
  induction m with
  | zero =>
    intro j P n h hI hm hh
    have hn : j.f0 = [] := by
      cases hl : j.f0 with
      | nil => rfl
      | cons t s => rw [hl, mM_cons] at hm; have := mT_pos t; omega
    rw [hn]
    simp [run, wW, hh]
  | succ m ih =>
    intro j P n h hI hm hh
    rw [run]
    by_cases hl : j.f0.length = 0
    · rw [if_pos hl]
      have hn := List.eq_nil_of_length_eq_zero hl
      rw [hn]
      simp [wW, hh]
    rw [if_neg hl]
    have hi : n % gs.length < gs.length := Nat.mod_lt _ (by omega)
    have hg := getD_all hgs hi
    have hgM : gs.getD (n % gs.length) 0 ≤ M := by
      refine hM _ ?_
      rw [List.getD_eq_getElem?_getD, List.getElem?_eq_getElem hi]
      exact List.getElem_mem hi
    obtain ⟨s1, s2, s3⟩ := hI.step hg hl
    obtain ⟨L, -⟩ := stp_law hI.v hg hl
    generalize gs.getD (n % gs.length) 0 = g at *
    have hmx : mx h (stp j g).2.2.1 ≤ M := by have := L.held; unfold mx; split <;> omega
    obtain ⟨r1, r2, r3, r4, r5⟩ := ih (stp j g).1 (P ++ (stp j g).2.1) (n + 1) (mx h (stp j g).2.2.1) s1 (by omega) hmx
    have := L.len; have := L.ww
    refine ⟨?_, by omega, by omega, r4, by omega⟩
    refine r1.trans ?_
    rw [List.append_assoc]
    exact List.Perm.append_left _ L.out

theorem eqRows_refl (a : List S99) : eqRows a a = true := eqRows_iff.2 rfl
theorem spec_EqualTasks_ev (t : S27) (h : tsz t ≤ 1048576) : Ev (fun k => spec_EqualTasks.f k t.f0 t.f1 t.f2 t.f3 t.f4 t.f0 t.f1 t.f2 t.f3 t.f4) true := by
  unfold tsz at h
  have L : ∀ (s : List Bool) (i : Nat), t.f3.drop i = s → Ev (fun k => spec_EqualTasks.l0 k (i : Int) t.f0 t.f4 t.f0 t.f4 t.f1 t.f2 t.f3 t.f1 t.f2 t.f3) true := by
    intro s
    induction s with
    | nil =>
      intro i hd
      have := drop_nil' hd
      exact Ev.s (fun k => by rw [spec_EqualTasks.l0]) (Ev.e (by omega) Ev.p)
    | cons x s ih =>
      intro i hd
      obtain ⟨hi, hd', hx, -⟩ := drop_cons' hd
      refine Ev.s (fun k => by rw [spec_EqualTasks.l0]) (Ev.t (by omega) (Ev.t (by omega) (Ev.t (by omega) (Ev.t (by simp) ?_))))
      rw [w64s hi (by omega)]
      exact ih (i + 1) hd'
  exact Ev.u (fun _ => rfl) (Ev.t rfl (Ev.b ((spec_l6Rows_ev t.f1 t.f1 (by omega)).r (eqRows_refl _)) (Ev.t rfl (Ev.b ((spec_l6Rows_ev t.f2 t.f2 (by omega)).r (eqRows_refl _)) (Ev.t rfl (Ev.t rfl (Ev.t rfl (L t.f3 0 rfl))))))))
theorem spec_EqualJoiners_ev (j : S60) (h : jsz j ≤ 1048576) : Ev (fun k => spec_EqualJoiners.f k j.f0 j.f1 j.f2 j.f0 j.f1 j.f2) true := by
  have hl : j.f0.length ≤ jsz j := by unfold jsz; omega
  have L : ∀ (s : List S27) (i : Nat), j.f0.drop i = s → Ev (fun k => spec_EqualJoiners.l0 k (i : Int) j.f1 j.f2 j.f1 j.f2 j.f0 j.f0) true := by
    intro s
    induction s with
    | nil =>
      intro i hd
      have := drop_nil' hd
      exact Ev.s (fun k => by rw [spec_EqualJoiners.l0]) (Ev.e (by omega) Ev.p)
    | cons x s ih =>
      intro i hd
      obtain ⟨hi, hd', hx, -⟩ := drop_cons' hd
      have hm := jsz_mem (j := j) (List.mem_of_mem_drop (by rw [hd]; exact List.mem_cons_self ..) : x ∈ j.f0)
      refine Ev.s (fun k => by rw [spec_EqualJoiners.l0]) (Ev.t (by omega) (Ev.t (by omega) (Ev.t (by omega) ?_)))
      rw [rdTask, hx, w64s hi (by omega)]
      exact Ev.b (spec_EqualTasks_ev x (by omega)) (Ev.t rfl (ih (i + 1) hd'))
  exact Ev.u (fun _ => rfl) (Ev.t rfl (Ev.t rfl (Ev.t rfl (L j.f0 0 rfl))))
theorem impl_JoinStepBound_eq (a b : List S99) (hb : b.length ≤ 1048576) : impl_JoinStepBound.f a b = some (31 + (b.length : Int)) := by
  unfold impl_JoinStepBound.f; rw [w64 (by omega) (by omega)]
theorem big_eq (l : List Int) : laws_big.f l = some (decide ((l.length : Int) > 1048576)) := rfl

theorem newT_sz (q : Int) (a b : List S99) : tsz (newT q a b) ≤ 72 := by
  by_cases h : nTk q a b = true
  · exact (newT_VT h).p
  · unfold newT; rw [if_neg h]; decide
theorem l16Draw_l0 (l : List Int) (c0 c4 d0 d4 : Int) (c1 c2 d1 d2 : List S99) (c3 : List Bool) : ∀ (m i : Nat) (F : List Bool) (p z : Int), Rd l p → F.length = i + m → F.length ≤ 1000 → ∃ F' p' z', Ev (fun k => spec_l16Draw.l0 k (i : Int) p z c0 c1 c2 c3 c4 d0 d1 d2 F d4 l) (d0, d1, d2, F', d4, p', z') ∧ F'.length = F.length ∧ Rd l p' := by
  intro m
  induction m with
  | zero =>
    intro i F p z h hF h1
    exact ⟨F, p, z, Ev.s (fun k => by rw [spec_l16Draw.l0]) (Ev.e (by omega) Ev.p), rfl, h⟩
  | succ m ih =>
    intro i F p z h hF h1
    obtain ⟨b, p1, z1, e1, r1⟩ := l1Once_ex l p z 4 h (by omega)
    obtain ⟨F', p', z', e, hl, hr⟩ := ih (i + 1) (F.set ((i : Int)).toNat b) p1 z1 r1 (by simp; omega) (by simp; omega)
    refine ⟨F', p', z', Ev.s (fun k => by rw [spec_l16Draw.l0]) (Ev.t (by omega) (Ev.t (by omega) (Ev.b (Ev.c e1) ?_))), by rw [hl]; simp, hr⟩
    rw [w64s (show i < F.length by omega) (by omega)]
    exact e
theorem l16Draw_ex (l : List Int) (p z n : Int) (h : Rd l p) (hn : 0 ≤ n ∧ n ≤ 24) : ∃ t : S27, ∃ p' z', Ev (fun k => spec_l16Draw.f k l p z n) (t.f0, t.f1, t.f2, t.f3, t.f4, p', z') ∧ tsz t ≤ 72 ∧ Rd l p' := by
  obtain ⟨A, p1, z1, e1, -, a1, h1⟩ := l2Rows_ex l p z n h (by omega)
  obtain ⟨v, p2, z2, e2, v0, v1, h2⟩ := l1Below_ex l p1 z1 4 h1 (by omega)
  obtain ⟨B, p3, z3, e3, -, a3, h3⟩ := l2Rows_ex l p2 z2 n h2 (by omega)
  have e4 := spec_NewTask_ev (wrap64 (1 + v)) A B (by omega) (by omega)
  have hs := newT_sz (wrap64 (1 + v)) A B
  generalize newT (wrap64 (1 + v)) A B = t at *
  obtain ⟨b, p5, z5, e5, h5⟩ := l1Once_ex l p3 z3 3 h3 (by omega)
  cases b with
  | true =>
    obtain ⟨w, p6, z6, e6, -, -, h6⟩ := l1Below_ex l p5 z5 5 h5 (by omega)
    obtain ⟨F, p7, z7, e7, hF, h7⟩ := l16Draw_l0 l 0 0 t.f0 w [] [] t.f1 t.f2 [] t.f3.length 0 t.f3 p6 z6 h6 (by omega) (by unfold tsz at hs; omega)
    refine ⟨⟨t.f0, t.f1, t.f2, F, w⟩, p7, z7, Ev.u (fun _ => rfl) (Ev.b e1 (Ev.b (Ev.c e2) (Ev.b e3 (Ev.b e4 (Ev.b (Ev.c e5) (Ev.t rfl (Ev.b (Ev.c e6) e7))))))), ?_, h7⟩
    unfold tsz at *; dsimp only; omega
  | false => exact ⟨t, p5, z5, Ev.u (fun _ => rfl) (Ev.b e1 (Ev.b (Ev.c e2) (Ev.b e3 (Ev.b e4 (Ev.b (Ev.c e5) (Ev.e (by simp) Ev.p)))))), hs, h5⟩
theorem l16Any_ex (l : List Int) (p z n : Int) (h : Rd l p) (hn : 0 ≤ n ∧ n ≤ 24) : ∃ t : S27, ∃ p' z', Ev (fun k => spec_l16Any.f k l p z n) (t.f0, t.f1, t.f2, t.f3, t.f4, p', z') ∧ tsz t ≤ 73 ∧ Rd l p' := by
  obtain ⟨t, p1, z1, e1, hs, h1⟩ := l16Draw_ex l p z n h hn
  obtain ⟨v, p2, z2, e2, -, -, h2⟩ := l1Below_ex l p1 z1 16 h1 (by omega)
  unfold tsz at hs
  by_cases k0 : v = 0
  · obtain ⟨w, p3, z3, e3, -, h3⟩ := l1PickInt_ex l p2 z2 [0, 5] h2 (by simp) (by simp)
    exact ⟨⟨w, t.f1, t.f2, t.f3, t.f4⟩, p3, z3, Ev.u (fun _ => rfl) (Ev.b e1 (Ev.b (Ev.c e2) (Ev.t k0 (Ev.b (Ev.c e3) Ev.p)))), by unfold tsz; dsimp only; omega, h3⟩
  by_cases k1 : v = 1
  · exact ⟨⟨t.f0, t.f1, t.f2, t.f3 ++ [true], t.f4⟩, p2, z2, Ev.u (fun _ => rfl) (Ev.b e1 (Ev.b (Ev.c e2) (Ev.e k0 (Ev.t k1 (Ev.t (by show t.f3.length < _; omega) Ev.p))))), by unfold tsz; simp; omega, h2⟩
  by_cases k2 : v = 2
  · obtain ⟨w, p3, z3, e3, -, h3⟩ := l1PickInt_ex l p2 z2 [-1, 5] h2 (by simp) (by simp)
    exact ⟨⟨t.f0, t.f1, t.f2, t.f3, w⟩, p3, z3, Ev.u (fun _ => rfl) (Ev.b e1 (Ev.b (Ev.c e2) (Ev.e k0 (Ev.e k1 (Ev.t k2 (Ev.b (Ev.c e3) Ev.p)))))), by unfold tsz; dsimp only; omega, h3⟩
  by_cases k3 : v = 3
  · obtain ⟨a, b, c, p3, z3, e3, h3⟩ := l2Any_ex l p2 z2 h2
    exact ⟨⟨t.f0, t.f1 ++ [⟨a, b, c⟩], t.f2, t.f3, t.f4⟩, p3, z3, Ev.u (fun _ => rfl) (Ev.b e1 (Ev.b (Ev.c e2) (Ev.e k0 (Ev.e k1 (Ev.e k2 (Ev.t k3 (Ev.t (by show t.f1.length < _; omega) (Ev.b (Ev.c e3) Ev.p)))))))), by unfold tsz; simp; omega, h3⟩
  exact ⟨t, p2, z2, Ev.u (fun _ => rfl) (Ev.b e1 (Ev.b (Ev.c e2) (Ev.e k0 (Ev.e k1 (Ev.e k2 (Ev.e k3 Ev.p)))))), by unfold tsz; omega, h2⟩
theorem l19Joiner_l0 (l : List Int) (c1 c2 : Int) (c0 : List S27) : ∀ (m : Nat) (j : S60) (p z : Int), Rd l p → jsz j + m * 4000 ≤ 900000 → m ≤ 100 → ∃ j' : S60, ∃ p' z', Ev (fun k => spec_l19Joiner.l0 k (m : Int) p z c0 c1 c2 j.f0 j.f1 j.f2 l) (j'.f0, j'.f1, j'.f2, p', z') ∧ jsz j' ≤ jsz j + m * 4000 + 80 ∧ Rd l p' := by
  intro m
  induction m with
  | zero =>
    intro j p z h hj hm
    have hl : j.f0.length ≤ jsz j := by unfold jsz; omega
    obtain ⟨v, p2, z2, e2, -, -, h2⟩ := l1Below_ex l p z 16 h (by omega)
    by_cases k0 : v = 0
    · obtain ⟨t, p3, z3, e3, hs, h3⟩ := l16Any_ex l p2 z2 3 h2 (by omega)
      refine ⟨⟨j.f0 ++ [t], j.f1, j.f2⟩, p3, z3, Ev.s (fun k => by rw [spec_l19Joiner.l0]) ?_, by unfold jsz; simp; omega, h3⟩
      exact Ev.e (by omega) (Ev.b (Ev.c e2) (Ev.t k0 (Ev.t (by omega) (Ev.b e3 Ev.p))))
    by_cases k1 : v = 1
    · obtain ⟨w, p3, z3, e3, -, h3⟩ := l1PickInt_ex l p2 z2 [-1, 100001] h2 (by simp) (by simp)
      refine ⟨⟨j.f0, w, j.f2⟩, p3, z3, Ev.s (fun k => by rw [spec_l19Joiner.l0]) ?_, by unfold jsz; dsimp only; omega, h3⟩
      exact Ev.e (by omega) (Ev.b (Ev.c e2) (Ev.e k0 (Ev.t k1 (Ev.b (Ev.c e3) Ev.p))))
    by_cases k2 : v = 2
    · refine ⟨⟨j.f0, j.f1, -1⟩, p2, z2, Ev.s (fun k => by rw [spec_l19Joiner.l0]) ?_, by unfold jsz; dsimp only; omega, h2⟩
      exact Ev.e (by omega) (Ev.b (Ev.c e2) (Ev.e k0 (Ev.e k1 (Ev.t k2 Ev.p))))
    refine ⟨j, p2, z2, Ev.s (fun k => by rw [spec_l19Joiner.l0]) ?_, by omega, h2⟩
    exact Ev.e (by omega) (Ev.b (Ev.c e2) (Ev.e k0 (Ev.e k1 (Ev.e k2 Ev.p))))
  | succ m ih =>
    intro j p z h hj hm
    rw [Nat.succ_mul] at hj ⊢
    obtain ⟨w, p3, z3, e3, -, h3⟩ := l1PickInt_ex l p z [8, 9, 12] h (by simp) (by simp)
    have es := spec_StepJoiner_ev j w (by omega)
    have hz := (stp_sz j w).1
    obtain ⟨j', p', z', e, hs, hr⟩ := ih (stp j w).1 p3 z3 h3 (by omega) (by omega)
    refine ⟨j', p', z', Ev.s (fun k => by rw [spec_l19Joiner.l0]) ?_, by omega, hr⟩
    rw [show wrap64 (((m + 1 : Nat) : Int) - 1) = (m : Int) by rw [w64 (by omega) (by omega)]; omega]
    exact Ev.t (by omega) (Ev.b (Ev.c e3) (Ev.b es e))
theorem l19Joiner_ex (l : List Int) (p z : Int) (h : Rd l p) : ∃ j : S60, ∃ p' z', Ev (fun k => spec_l19Joiner.f k l p z) (j.f0, j.f1, j.f2, p', z') ∧ jsz j ≤ 100000 ∧ Rd l p' := by
  obtain ⟨A, p1, z1, e1, -, a1, h1⟩ := l2Rows_ex l p z 8 h (by omega)
  obtain ⟨v, p2, z2, e2, v0, v1, h2⟩ := l1Below_ex l p1 z1 4 h1 (by omega)
  obtain ⟨B, p3, z3, e3, -, a3, h3⟩ := l2Rows_ex l p2 z2 12 h2 (by omega)
  have e4 := spec_NewJoiner_ev (wrap64 (1 + v)) A B (by omega) (by omega)
  have hs := newJ_sz (wrap64 (1 + v)) A B
  obtain ⟨w, p5, z5, e5, w0, w1, h5⟩ := l1Below_ex l p3 z3 6 h3 (by omega)
  obtain ⟨m, rfl⟩ : ∃ m : Nat, w = m := ⟨w.toNat, by omega⟩
  generalize newJ (wrap64 (1 + v)) A B = j at *
  obtain ⟨j', p', z', e, hj, hr⟩ := l19Joiner_l0 l 0 0 [] m j p5 z5 h5 (by omega) (by omega)
  exact ⟨j', p', z', Ev.u (fun _ => rfl) (Ev.b e1 (Ev.b (Ev.c e2) (Ev.b e3 (Ev.b e4 (Ev.b (Ev.c e5) e))))), by omega, hr⟩
def toB (l : List UInt8) : ByteArray := ⟨⟨l⟩⟩
def bs (s : ByteArray) : List UInt8 := s.data.toList
theorem bs_toB (l : List UInt8) : bs (toB l) = l := rfl
theorem toB_sz (l : List UInt8) : (toB l).size = l.length := rfl
theorem bs_len (s : ByteArray) : (bs s).length = s.size := rfl
theorem bs_inj {a b : ByteArray} (h : bs a = bs b) : a = b := ByteArray.ext (Array.toList_inj.1 h)
theorem toB_inj {a b : List UInt8} (h : toB a = toB b) : a = b := congrArg bs h
theorem bs_app (a b : ByteArray) : bs (a ++ b) = bs a ++ bs b := by unfold bs; rw [ByteArray.data_append, Array.toList_append]
theorem toB_app (a b : List UInt8) : toB a ++ toB b = toB (a ++ b) := bs_inj (bs_app _ _)
theorem toL_iff (a b : ByteArray) : a.toList = b.toList ↔ a = b := by
  rw [ByteArray.toList_eq, ByteArray.toList_eq]
  exact ⟨fun h => bs_inj h, fun h => congrArg bs h⟩
theorem toL_nil (a : ByteArray) : a.toList = (toB []).toList ↔ bs a = [] := by
  rw [toL_iff]; exact ⟨fun h => by rw [h]; rfl, fun h => bs_inj h⟩
theorem bt_drop {s : ByteArray} {i : Nat} {b : UInt8} {t : List UInt8} (h : (bs s).drop i = b :: t) : bt s (i : Int) = (b.toNat : Int) ∧ i < s.size ∧ (bs s).drop (i + 1) = t := by
  obtain ⟨hi, hd, hx, -⟩ := drop_cons' h
  rw [bs_len] at hi
  refine ⟨?_, hi, hd⟩
  unfold bt
  rw [Int.toNat_natCast, dif_pos hi]
  have : s[i] = b := by
    have e := hx 0
    rw [List.getD_eq_getElem?_getD, List.getElem?_eq_getElem (by rw [bs_len]; exact hi)] at e
    exact e
  rw [this]
theorem bs_extract (s : ByteArray) (f i : Nat) : s.extract f i = toB (((bs s).drop f).take (i - f)) := by
  apply bs_inj
  unfold bs
  rw [ByteArray.data_extract, Array.toList_extract, List.extract_eq_take_drop]
  rfl
theorem u8x {x : Int} (h0 : 0 ≤ x) (h1 : x < 256) : IntKind.u8.wrap x = x := by
  simp only [IntKind.wrap, IntKind.signed, IntKind.bits, Bool.false_and, Bool.false_eq_true, if_false]
  omega
theorem u64x {x : Int} (h0 : 0 ≤ x) (h1 : x < 18446744073709551616) : IntKind.u64.wrap x = x := by
  simp only [IntKind.wrap, IntKind.signed, IntKind.bits, Bool.false_and, Bool.false_eq_true, if_false]
  omega
theorem u64m {x : Int} (h0 : -9223372036854775808 ≤ x) (h1 : x < 0) : IntKind.u64.wrap (-(IntKind.u64.wrap x)) = -x := by
  simp only [IntKind.wrap, IntKind.signed, IntKind.bits, Bool.false_and, Bool.false_eq_true, if_false]
  omega
theorem i64x {x : Int} (h0 : -9223372036854775808 ≤ x) (h1 : x ≤ 9223372036854775807) : IntKind.i64.wrap x = x := by
  simp [IntKind.wrap, IntKind.signed, IntKind.bits]
  omega
def dg (n : Nat) : UInt8 := UInt8.ofNat (48 + n)
theorem dg_nat {n : Nat} (h : n < 10) : (dg n).toNat = 48 + n := (UInt8.toNat_ofNat' ..).trans (Nat.mod_eq_of_lt (Nat.lt_of_lt_of_le (show 48 + n < 58 by omega) (by decide)))
theorem strDu {n : Nat} (h : n < 10) : strOfNums [IntKind.u8.wrap (IntKind.u64.wrap (48 + (n : Int)))] = toB [dg n] := by
  rw [u64x (by omega) (by omega), u8x (by omega) (by omega), show 48 + (n : Int) = ((48 + n : Nat) : Int) by omega]
  rfl
def dgl (n : Nat) : List UInt8 := if h : n < 10 then [dg n] else dgl (n / 10) ++ [dg (n % 10)]
  termination_by n
theorem dgl_lt {n : Nat} (h : n < 10) : dgl n = [dg n] := by rw [dgl]; exact dif_pos h
theorem dgl_ge {n : Nat} (h : ¬ n < 10) : dgl n = dgl (n / 10) ++ [dg (n % 10)] := by rw [dgl]; exact dif_neg h
theorem dgl_len : ∀ (d n : Nat), n < 10 ^ (d + 1) → (dgl n).length ≤ d + 1 ∧ 1 ≤ (dgl n).length
  | 0, n, h => by rw [dgl_lt (by omega)]; simp
  | d + 1, n, h => by
    by_cases c : n < 10
    · rw [dgl_lt c]; simp
    · have := dgl_len d (n / 10) (by rw [Nat.pow_succ] at h; omega)
      rw [dgl_ge c, List.length_append, List.length_singleton]
      omega
theorem impl_decimal_ev : ∀ (d n : Nat), n < 10 ^ (d + 1) → n < 18446744073709551616 → d ≤ 30 → Ev (fun k => impl_decimal.f k (n : Int)) (toB (dgl n)) := by
  intro d
  induction d with
  | zero =>
    intro n h h2 h3
    refine Ev.s (fun k => by rw [impl_decimal.f]) (Ev.t (by omega) ?_)
    rw [strDu (by omega), dgl_lt (by omega)]; exact Ev.p
  | succ d ih =>
    intro n h h2 h3
    refine Ev.s (fun k => by rw [impl_decimal.f]) ?_
    by_cases c : n < 10
    · refine Ev.t (by omega) ?_
      rw [strDu c, dgl_lt c]; exact Ev.p
    · have hp : n / 10 < 10 ^ (d + 1) := by rw [Nat.pow_succ] at h; omega
      have hs := dgl_len d (n / 10) hp
      refine Ev.e (by omega) ?_
      rw [show Int.tdiv (n : Int) 10 = ((n / 10 : Nat) : Int) from rfl, u64x (x := ((n / 10 : Nat) : Int)) (by omega) (by omega), show Int.tmod (n : Int) 10 = ((n % 10 : Nat) : Int) from rfl, strDu (n := n % 10) (by omega)]
      refine Ev.b (ih (n / 10) hp (by omega) (by omega)) (Ev.t ?_ (Ev.p.r ?_))
      · show (dgl (n / 10)).length + 1 ≤ _; omega
      · rw [toB_app, dgl_ge c]
def fI (a : Int) : List UInt8 := if a < 0 then 45 :: dgl (-a).toNat else dgl a.toNat
theorem pow20 : 10 ^ (19 + 1) = 100000000000000000000 := by decide
theorem fI_len (a : Int) (h0 : -9223372036854775808 ≤ a) (h1 : a ≤ 9223372036854775807) : (fI a).length ≤ 21 ∧ 1 ≤ (fI a).length := by
  unfold fI
  split
  · have := dgl_len 19 (-a).toNat (by rw [pow20]; omega)
    rw [List.length_cons]; omega
  · have := dgl_len 19 a.toNat (by rw [pow20]; omega)
    omega
theorem impl_FormatInt_ev (a : Int) (h0 : -9223372036854775808 ≤ a) (h1 : a ≤ 9223372036854775807) : Ev (fun k => impl_FormatInt.f k a) (toB (fI a)) := by
  unfold fI
  refine Ev.u (fun _ => rfl) ?_
  by_cases c : a < 0
  · have hp : (-a).toNat < 10 ^ (19 + 1) := by rw [pow20]; omega
    have hs := dgl_len 19 (-a).toNat hp
    have hd := impl_decimal_ev 19 (-a).toNat hp (by omega) (by omega)
    rw [show (((-a).toNat : Nat) : Int) = -a by omega] at hd
    refine Ev.t c ?_
    rw [if_pos c, u64m h0 c]
    refine Ev.b hd (Ev.t ?_ (Ev.p.r ?_))
    · show 1 + (dgl (-a).toNat).length ≤ _; omega
    · exact toB_app [45] _
  · have hp : a.toNat < 10 ^ (19 + 1) := by rw [pow20]; omega
    have hd := impl_decimal_ev 19 a.toNat hp (by omega) (by omega)
    rw [show ((a.toNat : Nat) : Int) = a by omega] at hd
    refine Ev.e c ?_
    rw [if_neg c, u64x (by omega) (by omega)]
    exact Ev.b hd Ev.p
def isDg (b : UInt8) : Bool := decide (48 ≤ b.toNat ∧ b.toNat ≤ 57)
def fold10 (a : Nat) : List UInt8 → Nat
  | [] => a
  | b :: t => fold10 (a * 10 + (b.toNat - 48)) t
theorem fold10_app : ∀ (l m : List UInt8) (a : Nat), fold10 a (l ++ m) = fold10 (fold10 a l) m
  | [], _, _ => rfl
  | b :: t, m, a => fold10_app t m _
theorem dg_one {n : Nat} (h : n < 10) (a : Nat) : isDg (dg n) = true ∧ fold10 a [dg n] = a * 10 + n := by
  have e := dg_nat h
  constructor
  · unfold isDg; rw [e]; exact decide_eq_true ⟨Nat.le_add_right _ _, by omega⟩
  · show a * 10 + ((dg n).toNat - 48) = a * 10 + n
    rw [e, Nat.add_sub_cancel_left]
theorem dgl_dg (d : Nat) : ∀ n : Nat, n < 10 ^ (d + 1) → (dgl n).all isDg = true ∧ fold10 0 (dgl n) = n := by
  induction d with
  | zero =>
    intro n h
    have h' : n < 10 := h
    rw [dgl_lt h']
    have := dg_one h' 0
    rw [List.all_cons, this.1, this.2]
    exact ⟨rfl, by omega⟩
  | succ d ih =>
    intro n h
    by_cases c : n < 10
    · rw [dgl_lt c]
      have := dg_one c 0
      rw [List.all_cons, this.1, this.2]
      exact ⟨rfl, by omega⟩
    · obtain ⟨h1, h2⟩ := ih (n / 10) (by rw [Nat.pow_succ] at h; omega)
      obtain ⟨g1, g2⟩ := dg_one (n := n % 10) (Nat.mod_lt _ (by decide)) (n / 10)
      rw [dgl_ge c, fold10_app, h2, List.all_append, h1, List.all_cons, g1, g2]
      exact ⟨rfl, by omega⟩
theorem fold10_bd : ∀ (l : List UInt8) (a d : Nat), l.all isDg = true → a < 10 ^ d → fold10 a l < 10 ^ (d + l.length)
  | [], a, d, _, h => h
  | b :: t, a, d, hl, h => by
    simp only [List.all_cons, Bool.and_eq_true, isDg, decide_eq_true_eq] at hl
    have := fold10_bd t (a * 10 + (b.toNat - 48)) (d + 1) hl.2 (by rw [Nat.pow_succ]; omega)
    rw [List.length_cons, show d + (t.length + 1) = d + 1 + t.length by omega]
    exact this
/-- What the reading ends with: the number's text is the string itself, or it is none. -/
def fin (s : List UInt8) (v : Int) : Int × Bool := if fI v = s then (v, true) else (0, false)
theorem fin_ev {s : List UInt8} {v : Int} : Ev (fun _ => if (toB (fI v)).toList = (toB s).toList then some (v, true) else some (0, false)) (fin s v) := by
  unfold fin
  by_cases c : fI v = s
  · rw [if_pos c]; exact Ev.t (by rw [c]) Ev.p
  · rw [if_neg c]; exact Ev.e (fun h => c (toB_inj ((toL_iff _ _).1 h))) Ev.p
theorem pow9 : 10 ^ 9 = 1000000000 := by decide
theorem pow_step {a j d : Nat} (ha : a < 10 ^ j) (hd : d ≤ 9) : a * 10 + d < 10 ^ (j + 1) := by
  have h : a * 10 + d < (a + 1) * 10 := by clear ha; omega
  rw [Nat.pow_succ]
  exact Nat.lt_of_lt_of_le h (Nat.mul_le_mul_right 10 ha)
theorem pow_bd {a j : Nat} (ha : a < 10 ^ j) (hj : j ≤ 9) : a < 1000000000 := Nat.lt_of_lt_of_le ha (by rw [← pow9]; exact Nat.pow_le_pow_right (by decide) hj)
/-- What stands behind the sign. -/
def strip : List UInt8 → List UInt8
  | [] => []
  | b :: t => if b.toNat = 45 then t else b :: t
def finI (s x : List UInt8) (v : Nat) : Int × Bool := if x.length < s.length then fin s (-(v : Int)) else fin s (v : Int)
def pI (s : List UInt8) : Int × Bool := if (strip s).length < 1 ∨ 9 < (strip s).length then (0, false) else if (strip s).all isDg = true then finI s (strip s) (fold10 0 (strip s)) else (0, false)
theorem dgw {a d : Nat} (ha : a < 1000000000000) (hd : d ≤ 9) : wrap64 (wrap64 (10 * (a : Int)) + IntKind.i64.wrap (IntKind.u8.wrap (((48 + d : Nat) : Int) - 48))) = ((a * 10 + d : Nat) : Int) := by
  rw [w64 (x := 10 * (a : Int)) (by omega) (by omega), u8x (by omega) (by omega), i64x (by omega) (by omega), w64 (by omega) (by omega)]
  omega
theorem impl_ParseInt_j1 (s : List UInt8) (v : Int) (h0 : -1000000000000 ≤ v) (h1 : v ≤ 1000000000000) : Ev (fun k => impl_ParseInt.j1 k (toB s) v) (fin s v) :=
  Ev.s (fun k => by rw [impl_ParseInt.j1]) (Ev.b (impl_FormatInt_ev v (by omega) (by omega)) fin_ev)
theorem impl_ParseInt_l0 (s x : List UInt8) (hx : x.length ≤ 9) : ∀ (t : List UInt8) (i j a : Nat), x.drop i = t → i + t.length = x.length → a < 10 ^ j → j + t.length ≤ 9 → Ev (fun k => impl_ParseInt.l0 k (toB s) (toB x) (a : Int) (x.length : Int) (i : Int)) (if t.all isDg = true then finI s x (fold10 a t) else (0, false)) := by
  intro t
  induction t with
  | nil =>
    intro i j a hd hi ha hj
    simp only [List.length_nil, Nat.add_zero] at hi hj
    have hb : a < 1000000000 := pow_bd ha hj
    clear ha
    rw [if_pos (show ([] : List UInt8).all isDg = true from rfl)]
    refine Ev.s (fun k => by rw [impl_ParseInt.l0]) (Ev.e (by omega) ?_)
    rw [w64 (x := -(a : Int)) (by omega) (by omega), toB_sz, toB_sz]
    unfold finI fold10
    by_cases c : x.length < s.length
    · rw [if_pos c]; exact Ev.t (by omega) (impl_ParseInt_j1 s _ (by omega) (by omega))
    · rw [if_neg c]; exact Ev.e (by omega) (impl_ParseInt_j1 s _ (by omega) (by omega))
  | cons b t ih =>
    intro i j a hd hi ha hj
    obtain ⟨hb, hi', hd'⟩ := bt_drop (s := toB x) (i := i) hd
    rw [toB_sz] at hi'
    rw [bs_toB] at hd'
    simp only [List.length_cons] at hi hj
    have hl : a < 1000000000 := pow_bd ha (Nat.le_trans (Nat.le_add_right _ _) hj)
    have hs := fun (d : Nat) (hd : d ≤ 9) => pow_step (d := d) ha hd
    clear ha
    refine Ev.s (fun k => by rw [impl_ParseInt.l0]) (Ev.t (by omega) (Ev.t (by omega) (Ev.t (by rw [toB_sz]; omega) ?_)))
    rw [hb, List.all_cons]
    refine Ev.i (fun c => Ev.p.r ?_) (fun c => Ev.i (fun c2 => Ev.p.r ?_) (fun c2 => ?_))
    · have e : isDg b = false := decide_eq_false (by omega)
      rw [e]; rfl
    · have e : isDg b = false := decide_eq_false (by omega)
      rw [e]; rfl
    · have e : isDg b = true := decide_eq_true (by omega)
      have g := dgw (a := a) (d := b.toNat - 48) (by omega) (by omega)
      rw [show 48 + (b.toNat - 48) = b.toNat by omega] at g
      rw [g, w64s hi' (by omega), e, Bool.true_and]
      exact ih (i + 1) (j + 1) _ hd' (by omega) (hs _ (by omega)) (by omega)
theorem impl_ParseInt_j0 (s x : List UInt8) : Ev (fun k => impl_ParseInt.j0 k (toB s) (toB x)) (if x.length < 1 ∨ 9 < x.length then (0, false) else if x.all isDg = true then finI s x (fold10 0 x) else (0, false)) := by
  refine Ev.s (fun k => by rw [impl_ParseInt.j0]) ?_
  rw [toB_sz]
  refine Ev.i (fun c => Ev.p.r ?_) (fun c => Ev.i (fun c2 => Ev.p.r ?_) (fun c2 => ?_))
  · rw [if_pos (.inl (by omega))]
  · rw [if_pos (.inr (by omega))]
  · rw [if_neg (by omega)]
    exact impl_ParseInt_l0 s x (by omega) x 0 0 0 rfl (by omega) (by decide) (by omega)
theorem impl_ParseInt_ev (s : List UInt8) : Ev (fun k => impl_ParseInt.f k (toB s)) (pI s) := by
  unfold pI
  refine Ev.u (fun k => by rw [impl_ParseInt.f]) ?_
  rw [toB_sz]
  cases s with
  | nil => exact Ev.e (by simp) (impl_ParseInt_j0 [] [])
  | cons b t =>
    obtain ⟨hb, -, -⟩ := bt_drop (s := toB (b :: t)) (i := 0) (b := b) (t := t) rfl
    rw [show ((0 : Nat) : Int) = 0 from rfl] at hb
    rw [List.length_cons]
    refine Ev.t (by omega) (Ev.t (by omega) ?_)
    rw [hb]
    refine Ev.i (fun c => Ev.t (by omega) ?_) (fun c => ?_)
    · have es : strip (b :: t) = t := by unfold strip; exact if_pos (by omega)
      rw [es, bs_extract]
      have e : (((bs (toB (b :: t))).drop (1 : Int).toNat).take (t.length + 1 - (1 : Int).toNat)) = t := by
        rw [bs_toB]; show t.take (t.length + 1 - 1) = t; rw [List.take_of_length_le (by omega)]
      rw [e]
      exact impl_ParseInt_j0 (b :: t) t
    · have es : strip (b :: t) = b :: t := by unfold strip; exact if_neg (by omega)
      rw [es]
      exact impl_ParseInt_j0 (b :: t) (b :: t)
def small (n : Int) : Prop := -1000000000 < n ∧ n < 1000000000
theorem dgl_9 (n : Nat) (h : n < 1000000000) : (1 ≤ (dgl n).length ∧ (dgl n).length ≤ 9) ∧ (dgl n).all isDg = true ∧ fold10 0 (dgl n) = n := by
  have h' : n < 10 ^ (8 + 1) := by rw [show 10 ^ (8 + 1) = 1000000000 from by decide]; exact h
  have := dgl_len 8 n h'
  exact ⟨by omega, dgl_dg 8 n h'⟩
theorem fin_fmt (n : Int) : fin (fI n) n = (n, true) := if_pos rfl
theorem fin_true {s : List UInt8} {v : Int} (h : (fin s v).2 = true) : s = fI v ∧ fin s v = (v, true) := by
  unfold fin at h ⊢
  by_cases c : fI v = s
  · rw [if_pos c]; exact ⟨c.symm, rfl⟩
  · rw [if_neg c] at h; cases h
theorem fI_neg {n : Int} (h : n < 0) : fI n = (45 : UInt8) :: dgl (-n).toNat := by unfold fI; rw [if_pos h]
theorem fI_pos {n : Int} (h : ¬ n < 0) : fI n = dgl n.toNat := by unfold fI; rw [if_neg h]
theorem dgl_head {n : Nat} (h : n < 1000000000) : ∃ b t, dgl n = b :: t ∧ b.toNat ≠ 45 := by
  obtain ⟨h1, h2, h3⟩ := dgl_9 n h
  cases e : dgl n with
  | nil => rw [e] at h1; simp at h1
  | cons b t =>
    rw [e, List.all_cons, Bool.and_eq_true] at h2
    have := of_decide_eq_true h2.1
    exact ⟨b, t, rfl, by omega⟩
theorem strip_neg {n : Int} (h : n < 0) : strip (fI n) = dgl (-n).toNat := by rw [fI_neg h]; rfl
theorem strip_pos {n : Int} (h : ¬ n < 0) (hs : small n) : strip (fI n) = fI n := by
  rw [fI_pos h]
  obtain ⟨b, t, e, hb⟩ := dgl_head (n := n.toNat) (by have := hs.2; omega)
  rw [e]; unfold strip; exact if_neg hb
theorem pI_fmt (n : Int) (hs : small n) : pI (fI n) = (n, true) := by
  have hs' := hs
  obtain ⟨h1, h2⟩ := hs
  unfold pI
  by_cases h : n < 0
  · obtain ⟨d0, d1, d2⟩ := dgl_9 (-n).toNat (by omega)
    have e := congrArg List.length (fI_neg h)
    rw [List.length_cons] at e
    rw [strip_neg h, if_neg (by omega), if_pos d1, d2]
    unfold finI
    rw [if_pos (by omega), show -(((-n).toNat : Nat) : Int) = n by omega, fin_fmt]
  · obtain ⟨d0, d1, d2⟩ := dgl_9 n.toNat (by omega)
    rw [strip_pos h hs', fI_pos h, if_neg (by omega), if_pos d1, d2, ← fI_pos h]
    unfold finI
    rw [if_neg (by omega), show ((n.toNat : Nat) : Int) = n by omega, fin_fmt]
theorem pI_true {s : List UInt8} (h : (pI s).2 = true) : ∃ n, small n ∧ s = fI n := by
  unfold pI at h
  by_cases c1 : (strip s).length < 1 ∨ 9 < (strip s).length
  · rw [if_pos c1] at h; cases h
  · rw [if_neg c1] at h
    by_cases c2 : (strip s).all isDg = true
    · rw [if_pos c2] at h
      have hb := fold10_bd (strip s) 0 0 c2 (by decide)
      rw [Nat.zero_add] at hb
      have hb' : fold10 0 (strip s) < 1000000000 := pow_bd hb (by omega)
      clear hb
      unfold finI at h
      split at h
      · exact ⟨_, ⟨by omega, by omega⟩, (fin_true h).1⟩
      · exact ⟨_, ⟨by omega, by omega⟩, (fin_true h).1⟩
    · rw [if_neg c2] at h; cases h
theorem pI_some {s : List UInt8} (h : (pI s).2 = true) : small (pI s).1 ∧ s = fI (pI s).1 := by
  obtain ⟨n, hn, rfl⟩ := pI_true h
  rw [pI_fmt n hn]
  exact ⟨hn, rfl⟩

def ctG (c : UInt8) (cur : List UInt8) : List UInt8 → List (List UInt8)
  | [] => [cur]
  | b :: t => if b = c then cur :: ctG c [] t else ctG c (cur ++ [b]) t
def ctS (c : UInt8) (s : List UInt8) : List (List UInt8) := ctG c [] s
def jnL (c : UInt8) : List (List UInt8) → List UInt8
  | [] => []
  | x :: t => x ++ t.flatMap fun y => c :: y
theorem jnL_cons (c : UInt8) (x : List UInt8) (t : List (List UInt8)) : jnL c (x :: t) = x ++ t.flatMap fun y => c :: y := rfl
theorem ctG_ne (c : UInt8) : ∀ (l cur : List UInt8), ∃ x t, ctG c cur l = x :: t
  | [], cur => ⟨cur, [], rfl⟩
  | b :: l, cur => by
    unfold ctG
    by_cases h : b = c
    · rw [if_pos h]; exact ⟨_, _, rfl⟩
    · rw [if_neg h]; exact ctG_ne c l _
theorem ctG_len (c : UInt8) : ∀ (l cur : List UInt8), (ctG c cur l).length ≤ l.length + 1
  | [], cur => by simp [ctG]
  | b :: l, cur => by
    unfold ctG
    by_cases h : b = c
    · rw [if_pos h, List.length_cons, List.length_cons]; have := ctG_len c l []; omega
    · rw [if_neg h, List.length_cons]; have := ctG_len c l (cur ++ [b]); omega
theorem ctG_mem (c : UInt8) : ∀ (l cur : List UInt8), ∀ x ∈ ctG c cur l, x.length ≤ cur.length + l.length
  | [], cur, x, h => by rw [List.mem_singleton.1 h]; simp
  | b :: l, cur, x, h => by
    unfold ctG at h
    by_cases e : b = c
    · rw [if_pos e] at h
      rcases List.mem_cons.1 h with h | h
      · rw [h]; simp
      · have := ctG_mem c l [] x h; rw [List.length_cons]; simp at this; omega
    · rw [if_neg e] at h
      have := ctG_mem c l _ x h
      rw [List.length_append, List.length_singleton] at this; rw [List.length_cons]; omega
theorem ctS_len (c : UInt8) (s : List UInt8) : (ctS c s).length ≤ s.length + 1 := ctG_len c s []
theorem ctS_mem {c : UInt8} {s x : List UInt8} (h : x ∈ ctS c s) : x.length ≤ s.length := by have := ctG_mem c s [] x h; simpa using this
theorem jn_ct (c : UInt8) : ∀ (l cur : List UInt8), jnL c (ctG c cur l) = cur ++ l
  | [], cur => by simp [ctG, jnL]
  | b :: t, cur => by
    unfold ctG
    by_cases g : b = c
    · rw [if_pos g]
      have ih := jn_ct c t []
      obtain ⟨x, u, e⟩ := ctG_ne c t []
      rw [e] at ih ⊢
      rw [List.nil_append] at ih
      rw [← ih, g]
      simp [jnL]
    · rw [if_neg g, jn_ct c t, List.append_assoc]; rfl
theorem jn_ctS (c : UInt8) (s : List UInt8) : jnL c (ctS c s) = s := jn_ct c s []
theorem ct_end (c : UInt8) : ∀ (l cur : List UInt8), (∀ b ∈ l, b ≠ c) → ctG c cur l = [cur ++ l]
  | [], cur, _ => by simp [ctG]
  | b :: t, cur, h => by
    unfold ctG
    rw [if_neg (h b (List.mem_cons_self ..)), ct_end c t _ (fun x hx => h x (List.mem_cons_of_mem _ hx)), List.append_assoc]; rfl
theorem ct_sep (c : UInt8) : ∀ (l cur m : List UInt8), (∀ b ∈ l, b ≠ c) → ctG c cur (l ++ c :: m) = (cur ++ l) :: ctG c [] m
  | [], cur, m, _ => by rw [List.nil_append, ctG, if_pos rfl, List.append_nil]
  | b :: t, cur, m, h => by
    rw [List.cons_append, ctG, if_neg (h b (List.mem_cons_self ..)), ct_sep c t _ m (fun x hx => h x (List.mem_cons_of_mem _ hx)), List.append_assoc]; rfl
theorem ct_jn (c : UInt8) : ∀ (t : List (List UInt8)) (x : List UInt8), (∀ y ∈ x :: t, ∀ b ∈ y, b ≠ c) → ctS c (jnL c (x :: t)) = x :: t
  | [], x, h => by
    unfold ctS
    rw [jnL_cons, List.flatMap_nil, List.append_nil, ct_end c x [] (h x (List.mem_cons_self ..))]; rfl
  | y :: t, x, h => by
    have ih := ct_jn c t y (fun z hz => h z (List.mem_cons_of_mem _ hz))
    unfold ctS at *
    rw [jnL_cons] at ih ⊢
    rw [List.flatMap_cons, List.cons_append, ct_sep c x [] _ (h x (List.mem_cons_self ..)), ih]; rfl
theorem u8_iff {a c : UInt8} {n : Int} (hn : (c.toNat : Int) = n) : (a.toNat : Int) = n ↔ a = c := by
  rw [← hn]
  exact ⟨fun h => UInt8.toNat_inj.1 (by omega), fun h => by rw [h]⟩
theorem take_snoc {s : List UInt8} {f i : Nat} {b : UInt8} {t : List UInt8} (h : s.drop i = b :: t) (hf : f ≤ i) : (s.drop f).take (i + 1 - f) = (s.drop f).take (i - f) ++ [b] := by
  rw [show i + 1 - f = (i - f) + 1 by omega, List.take_add_one]
  congr 1
  rw [List.getElem?_drop, show f + (i - f) = i by omega]
  have : s[i]? = some b := by rw [← List.head?_drop, h]; rfl
  rw [this]; rfl
theorem impl_cut_l0 (s : List UInt8) (hs : s.length ≤ 1000000000) (c : UInt8) (n : Int) (hn : (c.toNat : Int) = n) : ∀ (t : List UInt8) (i f : Nat) (A : List (List UInt8)), s.drop i = t → i + t.length = s.length → f ≤ i → A.length ≤ i → Ev (fun k => impl_cut.l0 k (toB s) n (A.map toB) (f : Int) (s.length : Int) (i : Int)) ((A ++ ctG c ((s.drop f).take (i - f)) t).map toB) := by
  intro t
  induction t with
  | nil =>
    intro i f A hd hi hf hA
    rw [List.length_nil] at hi
    refine Ev.s (fun k => by rw [impl_cut.l0]) ?_
    rw [toB_sz]
    refine Ev.e (by omega) (Ev.t (by omega) (Ev.t (by omega) (Ev.t (by rw [List.length_map]; omega) (Ev.p.r ?_))))
    rw [bs_extract, bs_toB, Int.toNat_natCast, ← show i = s.length by omega]
    simp [ctG]
  | cons b t ih =>
    intro i f A hd hi hf hA
    rw [List.length_cons] at hi
    obtain ⟨hb, hi', hd'⟩ := bt_drop (s := toB s) (i := i) hd
    rw [bs_toB] at hd'
    refine Ev.s (fun k => by rw [impl_cut.l0]) ?_
    rw [toB_sz, hb, w64s (n := s.length) (by omega) (by omega)]
    refine Ev.t (by omega) (Ev.t (by omega) (Ev.t (by omega) (Ev.i (fun g => ?_) (fun g => ?_))))
    · refine Ev.t (by omega) (Ev.t (by omega) (Ev.t (by omega) (Ev.t (by rw [List.length_map]; omega) ?_)))
      have e := (u8_iff hn).1 g
      have h := ih (i + 1) (i + 1) (A ++ [(s.drop f).take (i - f)]) hd' (by omega) (Nat.le_refl _) (by simp; omega)
      rw [bs_extract, bs_toB, Int.toNat_natCast, Int.toNat_natCast]
      rw [List.map_append] at h
      refine h.r ?_
      unfold ctG
      rw [if_pos e, Nat.sub_self, List.take_zero, List.append_assoc]
      cases t <;> rfl
    · have e : ¬ b = c := fun h => g ((u8_iff hn).2 h)
      have h := ih (i + 1) f A hd' (by omega) (by omega) (by omega)
      rw [take_snoc hd hf] at h
      refine h.r ?_
      conv => rhs; unfold ctG
      rw [if_neg e]
theorem impl_cut_ev (s : List UInt8) (hs : s.length ≤ 1000000000) (c : UInt8) (n : Int) (hn : (c.toNat : Int) = n) : Ev (fun k => impl_cut.f k (toB s) n) ((ctS c s).map toB) :=
  Ev.u (fun _ => rfl) ((impl_cut_l0 s hs c n hn s 0 0 [] rfl (by omega) (Nat.le_refl _) (by simp)).r (by simp [ctS]))
/-! joins -/
theorem rdS (l : List (List UInt8)) (i : Nat) : rdOf ByteArray.empty (l.map toB) (i : Int) = toB (l.getD i []) := by
  show (l.map toB).getD (i : Int).toNat ByteArray.empty = _
  rw [Int.toNat_natCast, List.getD_eq_getElem?_getD, List.getD_eq_getElem?_getD, List.getElem?_map]
  cases l[i]? <;> rfl
def tot (L : List (List UInt8)) : Nat := (L.map fun x => x.length + 1).sum
theorem tot_cons (x : List UInt8) (L : List (List UInt8)) : tot (x :: L) = x.length + 1 + tot L := by simp [tot]
theorem tot_app (a b : List (List UInt8)) : tot (a ++ b) = tot a + tot b := by simp [tot]
theorem fmL_len (c : UInt8) : ∀ L : List (List UInt8), (L.flatMap fun y => c :: y).length = tot L
  | [] => rfl
  | x :: L => by rw [List.flatMap_cons, List.length_append, fmL_len c L, tot_cons, List.length_cons]
theorem jnL_len (c : UInt8) : ∀ L : List (List UInt8), (jnL c L).length ≤ tot L
  | [] => Nat.zero_le _
  | x :: L => by rw [jnL, List.length_append, fmL_len, tot_cons]; omega
theorem impl_joined_l0 (c : UInt8) (L : List (List UInt8)) (hl : L.length ≤ 1000000000) : ∀ (s : List (List UInt8)) (i : Nat) (acc : List UInt8), L.drop i = s → 0 < i → acc.length + tot s ≤ 9000000000000000 → Ev (fun k => impl_joined.l0 k (toB [c]) (toB acc) (L.length : Int) (i : Int) (L.map toB)) (toB (acc ++ s.flatMap fun y => c :: y)) := by
  intro s
  induction s with
  | nil =>
    intro i acc hd h0 ha
    have := drop_nil' hd
    exact Ev.s (fun k => by rw [impl_joined.l0]) (Ev.e (by omega) (Ev.p.r (by simp)))
  | cons x t ih =>
    intro i acc hd h0 ha
    rw [tot_cons] at ha
    obtain ⟨hi, hd', hx, -⟩ := drop_cons' hd
    have h := ih (i + 1) (acc ++ [c] ++ x) hd' (by omega) (by simp; omega)
    refine Ev.s (fun k => by rw [impl_joined.l0]) (Ev.t (by omega) (Ev.t (by omega) (Ev.t (by rw [List.length_map]; omega) (Ev.t (by omega) ?_))))
    rw [rdS, hx, toB_app, toB_sz, toB_sz]
    refine Ev.t (by rw [List.length_singleton]; omega) (Ev.s (fun k => by rw [impl_joined.j0]) ?_)
    rw [toB_app, toB_sz, toB_sz, w64s hi (by omega)]
    refine Ev.t (by simp; omega) (h.r ?_)
    simp
theorem impl_joined_ev (c : UInt8) (L : List (List UInt8)) (hl : L.length ≤ 1000000000) (ht : tot L ≤ 1000000000000000) : Ev (fun k => impl_joined.f k (L.map toB) (toB [c])) (toB (jnL c L)) := by
  refine Ev.u (fun k => by rw [impl_joined.f, List.length_map]) ?_
  cases L with
  | nil => exact Ev.s (fun k => by rw [impl_joined.l0]) (Ev.e (by simp) (Ev.p.r (by rfl)))
  | cons x t =>
    rw [tot_cons] at ht
    have h := impl_joined_l0 c (x :: t) hl t 1 x rfl (by omega) (by omega)
    refine Ev.s (fun k => by rw [impl_joined.l0]) (Ev.t (by simp) (Ev.t (by omega) (Ev.t (by simp) (Ev.e (by omega) ?_))))
    have r0 : rdOf ByteArray.empty ((x :: t).map toB) 0 = toB x := rfl
    have e0 : (⟨#[]⟩ : ByteArray) ++ toB x = toB x := toB_app [] x
    rw [r0]
    refine Ev.s (fun k => by rw [impl_joined.j0]) ?_
    rw [e0, show wrap64 ((0 : Int) + 1) = ((1 : Nat) : Int) by rw [w64 (by omega) (by omega)]; rfl]
    exact Ev.t (by show 0 + x.length ≤ _; omega) h
/-! rows -/
def vR (x : S99) : Bool := vRow x.f0 x.f1 x.f2
theorem vR_b {x : S99} (h : vR x = true) : (0 ≤ x.f0 ∧ x.f0 ≤ 9) ∧ (0 ≤ x.f1 ∧ x.f1 ≤ 99) ∧ (0 ≤ x.f2 ∧ x.f2 ≤ 3) := by
  simp [vR, vRow, inB] at h; omega
def fR (x : S99) : List UInt8 := if vR x = true then jnL 46 [fI x.f0, fI x.f1, fI x.f2] else []
theorem fR_len (x : S99) : (fR x).length ≤ 66 := by
  unfold fR
  split
  · rename_i h
    obtain ⟨h0, h1, h2⟩ := vR_b h
    have a := fI_len x.f0 (by omega) (by omega)
    have b := fI_len x.f1 (by omega) (by omega)
    have c := fI_len x.f2 (by omega) (by omega)
    have := jnL_len 46 [fI x.f0, fI x.f1, fI x.f2]
    rw [tot_cons, tot_cons, tot_cons, show tot [] = 0 from rfl] at this
    omega
  · simp
theorem fR_parts (x : S99) : jnL 46 [fI x.f0, fI x.f1, fI x.f2] = fI x.f0 ++ [46] ++ fI x.f1 ++ [46] ++ fI x.f2 := by simp [jnL]
theorem impl_FormatRow_ev (x : S99) : Ev (fun k => impl_FormatRow.f k x.f0 x.f1 x.f2) (toB (fR x)) := by
  unfold fR
  refine Ev.u (fun _ => rfl) (Ev.b (Ev.c (impl_IsValidRow_eq ..)) (Ev.i (fun h => ?_) (fun h => Ev.p.r ?_)))
  · obtain ⟨h0, h1, h2⟩ := vR_b (x := x) h
    have a := fI_len x.f0 (by omega) (by omega)
    have b := fI_len x.f1 (by omega) (by omega)
    have c := fI_len x.f2 (by omega) (by omega)
    have e0 := impl_FormatInt_ev x.f0 (by omega) (by omega)
    have e1 := impl_FormatInt_ev x.f1 (by omega) (by omega)
    have e2 := impl_FormatInt_ev x.f2 (by omega) (by omega)
    rw [if_pos (show vR x = true from h), fR_parts]
    refine Ev.b e0 (Ev.t ?_ (Ev.b e1 (Ev.t ?_ (Ev.t ?_ (Ev.b e2 (Ev.t ?_ (Ev.p.r ?_)))))))
    · show (fI x.f0).length + 1 ≤ _; omega
    · show ((toB (fI x.f0) ++ toB [46]).size + (toB (fI x.f1)).size ≤ _); simp only [toB_app, toB_sz, List.length_append, List.length_singleton]; omega
    · show ((toB (fI x.f0) ++ toB [46] ++ toB (fI x.f1)).size + (toB [46]).size ≤ _); simp only [toB_app, toB_sz, List.length_append, List.length_singleton]; omega
    · show ((toB (fI x.f0) ++ toB [46] ++ toB (fI x.f1) ++ toB [46]).size + (toB (fI x.f2)).size ≤ _); simp only [toB_app, toB_sz, List.length_append, List.length_singleton]; omega
    · show toB (fI x.f0) ++ toB [46] ++ toB (fI x.f1) ++ toB [46] ++ toB (fI x.f2) = _; simp only [toB_app]
  · rw [if_neg (show ¬ vR x = true from h)]; rfl
/-- Bytes of numbers: digits and the sign. -/
def nmB (b : UInt8) : Prop := b.toNat = 45 ∨ (48 ≤ b.toNat ∧ b.toNat ≤ 57)
theorem fI_nm {n : Int} (hs : small n) : ∀ b ∈ fI n, nmB b := by
  have hd : ∀ m : Nat, m < 1000000000 → ∀ b ∈ dgl m, nmB b := by
    intro m hm b hb
    exact .inr (of_decide_eq_true (List.all_eq_true.1 (dgl_9 m hm).2.1 b hb))
  obtain ⟨h1, h2⟩ := hs
  by_cases h : n < 0
  · rw [fI_neg h]
    intro b hb
    rcases List.mem_cons.1 hb with rfl | hb
    · exact .inl rfl
    · exact hd _ (by omega) b hb
  · rw [fI_pos h]
    exact hd _ (by omega)
theorem fI_ne {n : Int} : fI n ≠ [] := by
  unfold fI
  split
  · simp
  · rw [dgl]; split <;> simp
theorem nm_ne {b c : UInt8} (h : nmB b) (hc : c.toNat ≠ 45) (hd : ¬ (48 ≤ c.toNat ∧ c.toNat ≤ 57)) : b ≠ c := by
  intro e; rw [e] at h; rcases h with h | h
  · exact hc h
  · exact hd h
def pR (s : List UInt8) : S99 × Bool :=
  match ctS 46 s with
  | [a, b, c] => if (pI a).2 = true ∧ (pI b).2 = true ∧ (pI c).2 = true ∧ vR ⟨(pI a).1, (pI b).1, (pI c).1⟩ = true then (⟨(pI a).1, (pI b).1, (pI c).1⟩, true) else (⟨0, 0, 0⟩, false)
  | _ => (⟨0, 0, 0⟩, false)
theorem ct_fR {x : S99} (h : vR x = true) : ctS 46 (fR x) = [fI x.f0, fI x.f1, fI x.f2] := by
  obtain ⟨h0, h1, h2⟩ := vR_b h
  have n0 := fI_nm (n := x.f0) ⟨by omega, by omega⟩
  have n1 := fI_nm (n := x.f1) ⟨by omega, by omega⟩
  have n2 := fI_nm (n := x.f2) ⟨by omega, by omega⟩
  unfold fR; rw [if_pos h]
  refine ct_jn 46 _ _ fun y hy b hb => ?_
  have hn : nmB b := by
    simp only [List.mem_cons, List.not_mem_nil, or_false] at hy
    rcases hy with rfl | rfl | rfl
    · exact n0 b hb
    · exact n1 b hb
    · exact n2 b hb
  exact nm_ne hn (by decide) (by decide)
theorem pR_fR {x : S99} (h : vR x = true) : pR (fR x) = (x, true) := by
  obtain ⟨h0, h1, h2⟩ := vR_b h
  unfold pR
  rw [ct_fR h]
  dsimp only
  rw [pI_fmt x.f0 ⟨by omega, by omega⟩, pI_fmt x.f1 ⟨by omega, by omega⟩, pI_fmt x.f2 ⟨by omega, by omega⟩]
  exact if_pos ⟨rfl, rfl, rfl, h⟩
theorem fR_cut {s a b c : List UInt8} (h : ctS 46 s = [a, b, c]) : fR ⟨(pI a).1, (pI b).1, (pI c).1⟩ = s ↔ ((pI a).2 = true ∧ (pI b).2 = true ∧ (pI c).2 = true ∧ vR ⟨(pI a).1, (pI b).1, (pI c).1⟩ = true) := by
  constructor
  · intro e
    by_cases v : vR ⟨(pI a).1, (pI b).1, (pI c).1⟩ = true
    · have h' := ct_fR v
      rw [e, h] at h'
      injection h' with e0 h'
      injection h' with e1 h'
      injection h' with e2 _
      obtain ⟨v0, v1, v2⟩ := vR_b v
      dsimp only at v0 v1 v2 e0 e1 e2
      have p0 := pI_fmt (pI a).1 ⟨by omega, by omega⟩
      have p1 := pI_fmt (pI b).1 ⟨by omega, by omega⟩
      have p2 := pI_fmt (pI c).1 ⟨by omega, by omega⟩
      rw [← e0] at p0
      rw [← e1] at p1
      rw [← e2] at p2
      exact ⟨by rw [p0], by rw [p1], by rw [p2], v⟩
    · unfold fR at e
      rw [if_neg v] at e
      rw [← e] at h
      simp [ctS, ctG] at h
  · rintro ⟨h0, h1, h2, v⟩
    have f0 := (pI_some h0).2
    have f1 := (pI_some h1).2
    have f2 := (pI_some h2).2
    have hj := jn_ctS 46 s
    rw [h] at hj
    unfold fR
    rw [if_pos v]
    dsimp only
    rw [← f0, ← f1, ← f2]
    exact hj
theorem pR_some {s : List UInt8} (h : (pR s).2 = true) : vR (pR s).1 = true ∧ fR (pR s).1 = s := by
  unfold pR at h ⊢
  split at h
  · rename_i a b c e
    by_cases g : (pI a).2 = true ∧ (pI b).2 = true ∧ (pI c).2 = true ∧ vR ⟨(pI a).1, (pI b).1, (pI c).1⟩ = true
    · rw [if_pos g]; exact ⟨g.2.2.2, (fR_cut e).2 g⟩
    · rw [if_neg g] at h; cases h
  · cases h
abbrev rtp (r : S99 × Bool) : Int × Int × Int × Bool := (r.1.f0, r.1.f1, r.1.f2, r.2)
theorem impl_ParseRow_ev (s : List UInt8) (hs : s.length ≤ 1000000000) : Ev (fun k => impl_ParseRow.f k (toB s)) (rtp (pR s)) := by
  have ec := impl_cut_ev s hs 46 46 rfl
  unfold pR
  refine Ev.u (fun _ => rfl) (Ev.b ec ?_)
  rw [List.length_map]
  cases h : ctS 46 s with
  | nil => exact Ev.e (by simp) Ev.p
  | cons a l =>
    cases l with
    | nil => exact Ev.e (by simp) Ev.p
    | cons b l =>
      cases l with
      | nil => exact Ev.e (by simp) Ev.p
      | cons c l =>
        cases l with
        | cons d l => exact Ev.e (by simp only [List.length_cons]; omega) Ev.p
        | nil =>
          refine Ev.t rfl (Ev.t (by simp) ?_)
          rw [show rdOf ByteArray.empty ([a, b, c].map toB) 0 = toB a from rfl, show rdOf ByteArray.empty ([a, b, c].map toB) 1 = toB b from rfl, show rdOf ByteArray.empty ([a, b, c].map toB) 2 = toB c from rfl]
          refine Ev.b (impl_ParseInt_ev a) (Ev.t (by simp) (Ev.b (impl_ParseInt_ev b) (Ev.t (by simp) (Ev.b (impl_ParseInt_ev c) ?_))))
          refine Ev.i (fun q0 => Ev.i (fun q1 => Ev.i (fun q2 => Ev.b (Ev.c (impl_IsValidRow_eq ..)) (Ev.i (fun q3 => Ev.p.r ?_) (fun q3 => Ev.p.r ?_))) (fun q2 => Ev.p.r ?_)) (fun q1 => Ev.p.r ?_)) (fun q0 => Ev.p.r ?_)
          · dsimp only; rw [if_pos ⟨q0, q1, q2, q3⟩]
          · dsimp only; rw [if_neg (fun g => q3 g.2.2.2)]
          · dsimp only; rw [if_neg (fun g => q2 g.2.2.1)]
          · dsimp only; rw [if_neg (fun g => q1 g.2.1)]
          · dsimp only; rw [if_neg (fun g => q0 g.1)]

def fRs (l : List S99) : List UInt8 := if vRows l = true then jnL 32 (l.map fR) else []
theorem tot_fR : ∀ l : List S99, tot (l.map fR) ≤ 67 * l.length
  | [] => by simp [tot]
  | x :: l => by rw [List.map_cons, tot_cons, List.length_cons]; have := fR_len x; have := tot_fR l; omega
theorem fRs_len (l : List S99) : (fRs l).length ≤ 1608 := by
  unfold fRs
  split
  · rename_i h
    have := jnL_len 32 (l.map fR); have := tot_fR l; have := vRows_len h; omega
  · simp
theorem impl_rowTexts_ev (l : List S99) (hl : l.length ≤ 1000000) : Ev (fun k => impl_rowTexts.f k l) (toB (jnL 32 (l.map fR))) := by
  have L : ∀ (s : List S99) (i : Nat) (A : List (List UInt8)), l.drop i = s → A.length ≤ i → i ≤ l.length → tot A ≤ 67 * i → Ev (fun k => impl_rowTexts.l0 k (A.map toB) (l.length : Int) (i : Int) l) (toB (jnL 32 (A ++ s.map fR))) := by
    intro s
    induction s with
    | nil =>
      intro i A hd hA hi ht
      have := drop_nil' hd
      refine Ev.s (fun k => by rw [impl_rowTexts.l0]) ?_
      exact Ev.e (by omega) (Ev.b (impl_joined_ev 32 A (by omega) (by omega)) (Ev.p.r (by simp)))
    | cons x t ih =>
      intro i A hd hA hi ht
      obtain ⟨hi', hd', hx, -⟩ := drop_cons' hd
      have hf := fR_len x
      have h := ih (i + 1) (A ++ [fR x]) hd' (by simp; omega) (by omega) (by rw [tot_app, tot_cons, show tot [] = 0 from rfl]; omega)
      refine Ev.s (fun k => by rw [impl_rowTexts.l0]) (Ev.t (by omega) (Ev.t (by omega) (Ev.t (by omega) ?_)))
      rw [rdR, hx, w64s hi' (by omega)]
      refine Ev.b (impl_FormatRow_ev x) (Ev.t (by rw [List.length_map]; omega) ?_)
      rw [List.map_append, List.append_assoc] at h
      exact h
  exact Ev.u (fun _ => rfl) (L l 0 [] rfl (by simp) (by omega) (by simp [tot]))
theorem impl_FormatRows_ev (l : List S99) (hl : l.length ≤ 1073741824) : Ev (fun k => impl_FormatRows.f k l) (toB (fRs l)) := by
  unfold fRs
  refine Ev.u (fun _ => rfl) (Ev.b (impl_AreValidRows_ev l (by omega)) (Ev.i (fun h => ?_) (fun h => Ev.p.r ?_)))
  · rw [if_pos h]
    exact Ev.b (impl_rowTexts_ev l (by have := vRows_len h; omega)) Ev.p
  · rw [if_neg h]; rfl
def pRg (A : List S99) : List (List UInt8) → List S99 × Bool
  | [] => if vRows A = true then (A, true) else ([], false)
  | x :: t => if (pR x).2 = true then pRg (A ++ [(pR x).1]) t else ([], false)
def pRs (s : List UInt8) : List S99 × Bool := if s = [] then ([], true) else pRg [] (ctS 32 s)
theorem impl_ParseRows_ev (s : List UInt8) (hs : s.length ≤ 100000000) : Ev (fun k => impl_ParseRows.f k (toB s)) (pRs s) := by
  unfold pRs
  refine Ev.u (fun _ => rfl) (Ev.i (fun h => ?_) (fun h => ?_))
  · rw [if_pos (show s = [] from (toL_nil _).1 h)]; exact Ev.p
  have h' : ¬ s = [] := fun e => h ((toL_nil _).2 e)
  rw [if_neg h']
  have hl := ctS_len 32 s
  have hm := fun x => ctS_mem (c := 32) (s := s) (x := x)
  refine Ev.b (impl_cut_ev s (by omega) 32 32 rfl) ?_
  rw [List.length_map]
  generalize ctS 32 s = C at *
  have L : ∀ (t : List (List UInt8)) (i : Nat) (A : List S99), C.drop i = t → A.length ≤ i → i ≤ C.length → Ev (fun k => impl_ParseRows.l0 k A (C.map toB) (C.length : Int) (i : Int)) (pRg A t) := by
    intro t
    induction t with
    | nil =>
      intro i A hd hA hi
      have := drop_nil' hd
      refine Ev.s (fun k => by rw [impl_ParseRows.l0]) (Ev.e (by omega) (Ev.b (impl_AreValidRows_ev A (by omega)) (Ev.i (fun g => Ev.p.r ?_) (fun g => Ev.p.r ?_))))
      · unfold pRg; rw [if_pos g]
      · unfold pRg; rw [if_neg g]
    | cons x t ih =>
      intro i A hd hA hi
      obtain ⟨hi', hd', hx, -⟩ := drop_cons' hd
      have hz := hm x (List.mem_of_mem_drop (by rw [hd]; exact List.mem_cons_self ..))
      refine Ev.s (fun k => by rw [impl_ParseRows.l0]) (Ev.t (by omega) (Ev.t (by omega) (Ev.t (by rw [List.length_map]; omega) ?_)))
      rw [rdS, hx, w64s hi' (by omega)]
      unfold pRg
      refine Ev.b (impl_ParseRow_ev x (by omega)) (Ev.i (fun g => ?_) (fun g => Ev.p.r ?_))
      · rw [if_pos g]
        exact Ev.t (by omega) (ih (i + 1) _ hd' (by simp; omega) (by omega))
      · rw [if_neg g]
  exact L C 0 [] rfl (by simp) (by omega)
theorem pRg_some : ∀ (t : List (List UInt8)) (A : List S99), (pRg A t).2 = true → ∃ B, (pRg A t).1 = A ++ B ∧ B.map fR = t ∧ vRows (A ++ B) = true
  | [], A, h => by
    unfold pRg at h ⊢
    by_cases g : vRows A = true
    · rw [if_pos g]; exact ⟨[], by simp, rfl, by simpa using g⟩
    · rw [if_neg g] at h; cases h
  | x :: t, A, h => by
    unfold pRg at h ⊢
    by_cases g : (pR x).2 = true
    · rw [if_pos g] at h ⊢
      obtain ⟨B, b1, b2, b3⟩ := pRg_some t _ h
      rw [List.append_assoc] at b1 b3
      exact ⟨(pR x).1 :: B, b1, by rw [List.map_cons, b2, (pR_some g).2], b3⟩
    · rw [if_neg g] at h; cases h
theorem pRg_no : ∀ (t : List (List UInt8)) (A : List S99), (pRg A t).2 = false → pRg A t = ([], false)
  | [], A, h => by
    unfold pRg at h ⊢
    by_cases g : vRows A = true
    · rw [if_pos g] at h; cases h
    · rw [if_neg g]
  | x :: t, A, h => by
    unfold pRg at h ⊢
    by_cases g : (pR x).2 = true
    · rw [if_pos g] at h ⊢; exact pRg_no t _ h
    · rw [if_neg g]
theorem pRs_some {s : List UInt8} (h : (pRs s).2 = true) : vRows (pRs s).1 = true ∧ fRs (pRs s).1 = s := by
  unfold pRs at h ⊢
  by_cases g : s = []
  · rw [if_pos g, g]; exact ⟨by rfl, by rfl⟩
  · rw [if_neg g] at h ⊢
    obtain ⟨B, b1, b2, b3⟩ := pRg_some _ _ h
    rw [List.nil_append] at b1 b3
    rw [b1]
    refine ⟨b3, ?_⟩
    unfold fRs; rw [if_pos b3, b2, jn_ctS]
theorem pRs_no {s : List UInt8} (h : (pRs s).2 = false) : pRs s = ([], false) := by
  unfold pRs at h ⊢
  by_cases g : s = []
  · rw [if_pos g] at h; cases h
  · rw [if_neg g] at h ⊢; exact pRg_no _ _ h
theorem pRs_len (s : List UInt8) : (pRs s).1.length ≤ 24 := by
  cases h : (pRs s).2 with
  | true => exact vRows_len (pRs_some h).1
  | false => rw [pRs_no h]; simp
theorem pRg_map : ∀ (B A : List S99), vAll B = true → vRows (A ++ B) = true → pRg A (B.map fR) = (A ++ B, true)
  | [], A, _, h => by
    rw [List.append_nil] at h ⊢
    show (if vRows A = true then (A, true) else ([], false)) = _
    rw [if_pos h]
  | x :: B, A, hv, h => by
    have hx : vR x = true := by unfold vAll at hv; rw [List.all_cons, Bool.and_eq_true] at hv; exact hv.1
    have hB : vAll B = true := by unfold vAll at hv ⊢; rw [List.all_cons, Bool.and_eq_true] at hv; exact hv.2
    rw [List.map_cons]
    unfold pRg
    rw [pR_fR hx, if_pos rfl]
    have ih := pRg_map B (A ++ [x]) hB (by rw [List.append_assoc]; exact h)
    rw [ih, List.append_assoc]; rfl
theorem fR_ne {x : S99} (h : vR x = true) : fR x ≠ [] := by
  unfold fR; rw [if_pos h, jnL_cons]
  intro e
  exact fI_ne (List.append_eq_nil_iff.1 e).1
theorem fR_32 {x : S99} : ∀ b ∈ fR x, nmB b ∨ b.toNat = 46 := by
  unfold fR
  by_cases h : vR x = true
  · obtain ⟨h0, h1, h2⟩ := vR_b h
    have n0 := fI_nm (n := x.f0) ⟨by omega, by omega⟩
    have n1 := fI_nm (n := x.f1) ⟨by omega, by omega⟩
    have n2 := fI_nm (n := x.f2) ⟨by omega, by omega⟩
    rw [if_pos h, fR_parts]
    intro b hb
    simp only [List.mem_append, List.mem_singleton] at hb
    rcases hb with (((hb | hb) | hb) | hb) | hb
    · exact .inl (n0 b hb)
    · right; rw [hb]; rfl
    · exact .inl (n1 b hb)
    · right; rw [hb]; rfl
    · exact .inl (n2 b hb)
  · rw [if_neg h]; simp
theorem pRs_fRs {l : List S99} (h : vRows l = true) : pRs (fRs l) = (l, true) := by
  unfold fRs; rw [if_pos h]
  cases l with
  | nil => rfl
  | cons x t =>
    have hv := (vRows_iff.1 h).1
    have hx : vR x = true := by unfold vAll at hv; rw [List.all_cons, Bool.and_eq_true] at hv; exact hv.1
    have hn : jnL 32 ((x :: t).map fR) ≠ [] := by
      rw [List.map_cons, jnL_cons]; exact fun e => fR_ne hx (List.append_eq_nil_iff.1 e).1
    unfold pRs
    rw [if_neg hn, List.map_cons, ct_jn, ← List.map_cons, pRg_map _ _ hv (by simpa using h)]
    · rfl
    · intro y hy b hb
      rw [← List.map_cons] at hy
      obtain ⟨r, -, rfl⟩ := List.mem_map.1 hy
      rcases fR_32 b hb with hq | hq
      · exact nm_ne hq (by decide) (by decide)
      · intro e; rw [e] at hq; exact absurd hq (by decide)
theorem jn_mem {c : UInt8} {b : UInt8} : ∀ {L : List (List UInt8)}, b ∈ jnL c L → b = c ∨ ∃ x ∈ L, b ∈ x
  | [], h => by simp [jnL] at h
  | x :: t, h => by
    rw [jnL_cons, List.mem_append] at h
    rcases h with h | h
    · exact .inr ⟨x, List.mem_cons_self .., h⟩
    · obtain ⟨y, hy, hb⟩ := List.mem_flatMap.1 h
      rcases List.mem_cons.1 hb with hb | hb
      · exact .inl hb
      · exact .inr ⟨y, List.mem_cons_of_mem _ hy, hb⟩
theorem fRs_b {l : List S99} : ∀ b ∈ fRs l, nmB b ∨ b.toNat = 46 ∨ b.toNat = 32 := by
  unfold fRs
  split
  · intro b hb
    rcases jn_mem hb with hb | ⟨x, hx, hb⟩
    · right; right; rw [hb]; rfl
    · obtain ⟨r, -, rfl⟩ := List.mem_map.1 hx
      rcases fR_32 b hb with hq | hq
      · exact .inl hq
      · exact .inr (.inl hq)
  · simp
/-! tasks -/
def mkB (l : List Bool) : List UInt8 := l.map fun b => if b = true then 49 else 48
def rdM (l : List UInt8) : List Bool := l.map fun x => decide (x.toNat = 49)
theorem rdM_mkB (l : List Bool) : rdM (mkB l) = l := by
  unfold rdM mkB
  rw [List.map_map]
  conv => rhs; rw [← List.map_id l]
  refine List.map_congr_left fun b _ => ?_
  cases b <;> rfl
def tP (t : S27) : List (List UInt8) := [fI t.f0, fRs t.f1, fRs t.f2, mkB t.f3, fI t.f4]
def fT (t : S27) : List UInt8 := if vTask t = true then jnL 59 (tP t) else []
theorem tP_tot {t : S27} (h : VT t) : tot (tP t) ≤ 4000 := by
  have h1 := h.kind; have h2 := h.level; have h3 := h.b
  have a := fI_len t.f0 (by omega) (by omega)
  have b := fI_len t.f4 (by omega) (by omega)
  have c := fRs_len t.f1; have d := fRs_len t.f2
  unfold tP mkB
  rw [tot_cons, tot_cons, tot_cons, tot_cons, tot_cons, show tot [] = 0 from rfl, List.length_map]; omega
theorem fT_len (t : S27) : (fT t).length ≤ 4000 := by
  unfold fT
  split
  · rename_i h; exact Nat.le_trans (jnL_len 59 _) (tP_tot (vTask_iff.1 h))
  · simp
theorem impl_FormatTask_ev (t : S27) (ht : tsz t ≤ 1073741824) : Ev (fun k => impl_FormatTask.f k t.f0 t.f1 t.f2 t.f3 t.f4) (toB (fT t)) := by
  unfold fT
  refine Ev.u (fun _ => rfl) (Ev.b (impl_IsValidTask_ev t (by omega)) (Ev.i (fun h => ?_) (fun h => Ev.p.r ?_)))
  · have hV := vTask_iff.1 h
    have hk := hV.kind; have hlv := hV.level; have hb := hV.b
    have htot := tP_tot hV
    rw [if_pos h]
    have L : ∀ (s : List Bool) (i : Nat) (acc : List UInt8), t.f3.drop i = s → acc.length ≤ i → i ≤ t.f3.length → Ev (fun k => impl_FormatTask.l0 k (toB acc) (t.f3.length : Int) (i : Int) t.f0 t.f4 t.f3 t.f1 t.f2) (toB (jnL 59 [fI t.f0, fRs t.f1, fRs t.f2, acc ++ mkB s, fI t.f4])) := by
      intro s
      induction s with
      | nil =>
        intro i acc hd ha hi
        have := drop_nil' hd
        have a := fI_len t.f0 (by omega) (by omega)
        have b := fI_len t.f4 (by omega) (by omega)
        have c := fRs_len t.f1; have d := fRs_len t.f2
        have ej := impl_joined_ev 59 [fI t.f0, fRs t.f1, fRs t.f2, acc, fI t.f4] (by simp) (by rw [tot_cons, tot_cons, tot_cons, tot_cons, tot_cons, show tot [] = 0 from rfl]; omega)
        refine Ev.s (fun k => by rw [impl_FormatTask.l0]) ?_
        refine Ev.e (by omega) ?_
        refine Ev.b (impl_FormatInt_ev t.f0 (by omega) (by omega)) (Ev.b (impl_FormatRows_ev t.f1 (by omega)) (Ev.b (impl_FormatRows_ev t.f2 (by omega)) (Ev.b (impl_FormatInt_ev t.f4 (by omega) (by omega)) (Ev.b ej (Ev.p.r ?_)))))
        simp [mkB]
      | cons x s ih =>
        intro i acc hd ha hi
        obtain ⟨hi', hd', hx, -⟩ := drop_cons' hd
        have h := fun c => ih (i + 1) (acc ++ [c]) hd' (by simp; omega) (by omega)
        refine Ev.s (fun k => by rw [impl_FormatTask.l0]) ?_
        refine Ev.t (by omega) (Ev.t (by omega) (Ev.t (by omega) ?_))
        rw [rdB, hx, w64s hi' (by omega)]
        refine Ev.i (fun g => Ev.t (by show acc.length + 1 ≤ _; omega) ?_) (fun g => Ev.t (by show acc.length + 1 ≤ _; omega) ?_)
        · rw [show toB acc ++ (⟨#[49]⟩ : ByteArray) = toB (acc ++ [49]) from toB_app acc [49]]
          exact (h 49).r (by simp [mkB, g])
        · rw [show toB acc ++ (⟨#[48]⟩ : ByteArray) = toB (acc ++ [48]) from toB_app acc [48]]
          exact (h 48).r (by simp [mkB, g])
    exact L t.f3 0 [] rfl (by simp) (by omega)
  · rw [if_neg h]; rfl
def mkTk (a b c d e : List UInt8) : S27 := ⟨(pI a).1, (pRs b).1, (pRs c).1, rdM d, (pI e).1⟩
def pT (s : List UInt8) : S27 × Bool :=
  match ctS 59 s with
  | [a, b, c, d, e] => if fT (mkTk a b c d e) = s then (mkTk a b c d e, true) else (z27, false)
  | _ => (z27, false)
theorem ne59 {b : UInt8} (h : nmB b ∨ b.toNat = 46 ∨ b.toNat = 32) : b ≠ 59 := by
  rcases h with h | h | h
  · exact nm_ne h (by decide) (by decide)
  · intro e; rw [e] at h; exact absurd h (by decide)
  · intro e; rw [e] at h; exact absurd h (by decide)
theorem mkB_b {l : List Bool} : ∀ b ∈ mkB l, nmB b := by
  intro b hb
  obtain ⟨x, -, rfl⟩ := List.mem_map.1 hb
  right
  cases x <;> decide
theorem tP_b {t : S27} (h : VT t) : ∀ y ∈ tP t, ∀ b ∈ y, nmB b ∨ b.toNat = 46 ∨ b.toNat = 32 := by
  have h1 := h.kind; have h2 := h.level
  intro y hy b hb
  simp only [tP, List.mem_cons, List.not_mem_nil, or_false] at hy
  rcases hy with rfl | rfl | rfl | rfl | rfl
  · exact .inl (fI_nm ⟨by omega, by omega⟩ b hb)
  · exact fRs_b b hb
  · exact fRs_b b hb
  · exact .inl (mkB_b b hb)
  · exact .inl (fI_nm ⟨by omega, by omega⟩ b hb)
theorem ct_fT {t : S27} (h : vTask t = true) : ctS 59 (fT t) = tP t := by
  have hV := vTask_iff.1 h
  unfold fT; rw [if_pos h]
  exact ct_jn 59 _ _ fun y hy b hb => ne59 (tP_b hV y hy b hb)
theorem mkTk_tP {t : S27} (h : VT t) : mkTk (fI t.f0) (fRs t.f1) (fRs t.f2) (mkB t.f3) (fI t.f4) = t := by
  have h1 := h.kind; have h2 := h.level
  unfold mkTk
  rw [pI_fmt t.f0 ⟨by omega, by omega⟩, pRs_fRs h.left, pRs_fRs h.right, rdM_mkB, pI_fmt t.f4 ⟨by omega, by omega⟩]
theorem pT_fT {t : S27} (h : vTask t = true) : pT (fT t) = (t, true) := by
  unfold pT
  rw [ct_fT h]
  unfold tP
  dsimp only
  rw [mkTk_tP (vTask_iff.1 h), if_pos rfl]
theorem fT_valid {t : S27} (h : fT t ≠ []) : vTask t = true := by
  unfold fT at h
  by_cases g : vTask t = true
  · exact g
  · rw [if_neg g] at h; exact absurd rfl h
theorem ct_nil (c : UInt8) : ctS c [] = [[]] := rfl
theorem pT_some {s : List UInt8} (h : (pT s).2 = true) : vTask (pT s).1 = true ∧ fT (pT s).1 = s := by
  unfold pT at h ⊢
  split at h
  · rename_i a b c d e hc
    by_cases g : fT (mkTk a b c d e) = s
    · rw [if_pos g]
      refine ⟨fT_valid ?_, g⟩
      rw [g]; intro e; rw [e, ct_nil] at hc; simp at hc
    · rw [if_neg g] at h; cases h
  · cases h
theorem fT_cut {s a b c d e : List UInt8} (hc : ctS 59 s = [a, b, c, d, e]) (h : fT (mkTk a b c d e) = s) : (pI a).2 = true ∧ (pRs b).2 = true ∧ (pRs c).2 = true ∧ (pI e).2 = true ∧ vTask (mkTk a b c d e) = true := by
  have v : vTask (mkTk a b c d e) = true := fT_valid (by rw [h]; intro q; rw [q, ct_nil] at hc; simp at hc)
  have hV := vTask_iff.1 v
  have hk := hV.kind; have hlv := hV.level
  have h' := ct_fT v
  rw [h, hc] at h'
  unfold tP at h'
  injection h' with e0 h'
  injection h' with e1 h'
  injection h' with e2 h'
  injection h' with e3 h'
  injection h' with e4 _
  have p0 := pI_fmt (mkTk a b c d e).f0 ⟨by omega, by omega⟩
  have p1 := pRs_fRs hV.left
  have p2 := pRs_fRs hV.right
  have p4 := pI_fmt (mkTk a b c d e).f4 ⟨by omega, by omega⟩
  rw [← e0] at p0
  rw [← e1] at p1
  rw [← e2] at p2
  rw [← e4] at p4
  exact ⟨by rw [p0], by rw [p1], by rw [p2], by rw [p4], v⟩

theorem mkTk_sz (a b c d e : List UInt8) : tsz (mkTk a b c d e) ≤ d.length + 48 := by
  have h1 := pRs_len b; have h2 := pRs_len c
  unfold tsz mkTk rdM; rw [List.length_map]; dsimp only; omega
theorem impl_ParseTask_ev (s : List UInt8) (hs : s.length ≤ 100000000) : Ev (fun k => impl_ParseTask.f k (toB s)) (ttup (pT s).1 (pT s).2) := by
  have hm := fun x => ctS_mem (c := 59) (s := s) (x := x)
  unfold pT
  refine Ev.u (fun _ => rfl) (Ev.b (impl_cut_ev s (by omega) 59 59 rfl) ?_)
  rw [List.length_map]
  cases hc : ctS 59 s with
  | nil => exact Ev.e (by simp) Ev.p
  | cons a l =>
    cases l with
    | nil => exact Ev.e (by simp) Ev.p
    | cons b l =>
      cases l with
      | nil => exact Ev.e (by simp) Ev.p
      | cons c l =>
        cases l with
        | nil => exact Ev.e (by simp) Ev.p
        | cons d l =>
          cases l with
          | nil => exact Ev.e (by simp) Ev.p
          | cons e l =>
            cases l with
            | cons q l => exact Ev.e (by simp only [List.length_cons]; omega) Ev.p
            | nil =>
              rw [hc] at hm
              have zb := hm b (by simp)
              have zc := hm c (by simp)
              have zd := hm d (by simp)
              dsimp only
              have r0 : rdOf ByteArray.empty ([a, b, c, d, e].map toB) 0 = toB a := rfl
              have r1 : rdOf ByteArray.empty ([a, b, c, d, e].map toB) 1 = toB b := rfl
              have r2 : rdOf ByteArray.empty ([a, b, c, d, e].map toB) 2 = toB c := rfl
              have r3 : rdOf ByteArray.empty ([a, b, c, d, e].map toB) 3 = toB d := rfl
              have r4 : rdOf ByteArray.empty ([a, b, c, d, e].map toB) 4 = toB e := rfl
              have ln : (([a, b, c, d, e].map toB).length : Int) = 5 := rfl
              have L : ∀ (u : List UInt8) (i : Nat) (M : List Bool), d.drop i = u → M.length ≤ i → M ++ rdM u = rdM d → i ≤ d.length → Ev (fun k => impl_ParseTask.l0 k (toB s) ([a, b, c, d, e].map toB) (pI a).2 (pRs b).2 (pRs c).2 (pI e).2 (d.length : Int) (i : Int) 0 [] [] [] 0 (pI a).1 (pRs b).1 (pRs c).1 M (pI e).1) (ttup (if fT (mkTk a b c d e) = s then (mkTk a b c d e, true) else (z27, false)).1 (if fT (mkTk a b c d e) = s then (mkTk a b c d e, true) else (z27, false)).2) := by
                intro u
                induction u with
                | nil =>
                  intro i M hd hM hu hi
                  have := drop_nil' hd
                  have hM' : M = rdM d := by rw [← hu]; simp [rdM]
                  subst hM'
                  have hz := mkTk_sz a b c d e
                  have ev := impl_IsValidTask_ev (mkTk a b c d e) (by omega)
                  have ef := impl_FormatTask_ev (mkTk a b c d e) (by omega)
                  have no : ¬ ((pI a).2 = true ∧ (pRs b).2 = true ∧ (pRs c).2 = true ∧ (pI e).2 = true ∧ vTask (mkTk a b c d e) = true) → ttup z27 false = ttup (if fT (mkTk a b c d e) = s then (mkTk a b c d e, true) else (z27, false)).1 (if fT (mkTk a b c d e) = s then (mkTk a b c d e, true) else (z27, false)).2 := by
                    intro g; rw [if_neg (fun q => g (fT_cut hc q))]
                  refine Ev.s (fun k => by rw [impl_ParseTask.l0]) ?_
                  refine Ev.e (by omega) (Ev.i (fun q0 => Ev.i (fun q1 => Ev.i (fun q2 => Ev.i (fun q3 => Ev.b ev (Ev.i (fun q4 => Ev.b ef (Ev.i (fun q5 => Ev.p.r ?_) (fun q5 => Ev.p.r ?_))) (fun q4 => Ev.p.r (no fun g => q4 g.2.2.2.2)))) (fun q3 => Ev.p.r (no fun g => q3 g.2.2.2.1))) (fun q2 => Ev.p.r (no fun g => q2 g.2.2.1))) (fun q1 => Ev.p.r (no fun g => q1 g.2.1))) (fun q0 => Ev.p.r (no fun g => q0 g.1)))
                  · rw [if_pos (toB_inj ((toL_iff _ _).1 q5))]; rfl
                  · rw [if_neg (fun g => q5 (by rw [g]))]
                    rfl
                | cons x u ih =>
                  intro i M hd hM hu hi
                  obtain ⟨hb, hi', hd'⟩ := bt_drop (s := toB d) (i := i) hd
                  rw [toB_sz] at hi'
                  refine Ev.s (fun k => by rw [impl_ParseTask.l0]) ?_
                  rw [r3, ln, toB_sz, hb, w64s hi' (by omega)]
                  refine Ev.t (by omega) (Ev.t (by omega) (Ev.t (by omega) (Ev.t (by omega) (Ev.t (by omega) ?_))))
                  have hx : decide ((x.toNat : Int) = 49) = decide (x.toNat = 49) := by
                    by_cases g : x.toNat = 49
                    · rw [decide_eq_true g, decide_eq_true (by omega)]
                    · rw [decide_eq_false g, decide_eq_false (by omega)]
                  rw [hx]
                  exact ih (i + 1) _ hd' (by simp; omega) (by rw [← hu]; simp [rdM]) (by omega)
              have h := L d 0 [] rfl (by simp) (by simp) (by omega)
              rw [r0, r1, r2, r3, r4, show (([a, b, c, d, e] : List (List UInt8)).length : Int) = 5 from rfl]
              refine Ev.t (by simp) (Ev.t (by omega) (Ev.b (impl_ParseInt_ev a) (Ev.t (by omega) (Ev.b (impl_ParseRows_ev b (by omega)) (Ev.t (by omega) (Ev.b (impl_ParseRows_ev c (by omega)) (Ev.t (by omega) (Ev.b (impl_ParseInt_ev e) (Ev.t (by omega) ?_)))))))))
              exact h
theorem pTs_sz (s : List UInt8) : tsz (pT s).1 ≤ 72 := by
  cases h : (pT s).2 with
  | true => exact (vTask_iff.1 (pT_some h).1).p
  | false =>
    have : (pT s).1 = z27 := by
      unfold pT at h ⊢
      split at h
      · split at h
        · cases h
        · rename_i g; rw [if_neg g]
      · rfl
    rw [this]; decide

def jP2 (j : S60) : List (List UInt8) := fI j.f1 :: fI j.f2 :: j.f0.map fT
def fJ (j : S60) : List UInt8 := if vJ j = true then jnL 47 (jP2 j) else []
theorem tot_fT : ∀ l : List S27, tot (l.map fT) ≤ 4001 * l.length
  | [] => by simp [tot]
  | x :: l => by rw [List.map_cons, tot_cons, List.length_cons]; have := fT_len x; have := tot_fT l; omega
theorem fJ_len (j : S60) : (fJ j).length ≤ 170000 := by
  unfold fJ
  split
  · rename_i h
    have hJ := vJ_iff.1 h
    have h1 := hJ.wr; have h2 := hJ.pt; have h3 := hJ.len
    have a := fI_len j.f1 (by omega) (by omega)
    have b := fI_len j.f2 (by omega) (by omega)
    have c := tot_fT j.f0
    have d := jnL_len 47 (jP2 j)
    unfold jP2 at d
    rw [tot_cons, tot_cons] at d
    unfold jP2; omega
  · simp
theorem impl_FormatJoiner_ev (j : S60) (hj : jsz j ≤ 134217728) : Ev (fun k => impl_FormatJoiner.f k j.f0 j.f1 j.f2) (toB (fJ j)) := by
  unfold fJ
  refine Ev.u (fun _ => rfl) (Ev.b (impl_IsValidJoiner_evG j hj) (Ev.i (fun h => ?_) (fun h => Ev.p.r ?_)))
  · have hJ := vJ_iff.1 h
    have h1 := hJ.wr; have h2 := hJ.pt; have h3 := hJ.len
    have a := fI_len j.f1 (by omega) (by omega)
    have b := fI_len j.f2 (by omega) (by omega)
    rw [if_pos h]
    have L : ∀ (s : List S27) (i : Nat) (A : List (List UInt8)), j.f0.drop i = s → A.length ≤ i + 2 → i ≤ j.f0.length → tot A ≤ 100 + 4001 * i → Ev (fun k => impl_FormatJoiner.l0 k (A.map toB) (j.f0.length : Int) (i : Int) j.f0) (toB (jnL 47 (A ++ s.map fT))) := by
      intro s
      induction s with
      | nil =>
        intro i A hd hA hi ht
        have := drop_nil' hd
        refine Ev.s (fun k => by rw [impl_FormatJoiner.l0]) ?_
        exact Ev.e (by omega) (Ev.b (impl_joined_ev 47 A (by omega) (by omega)) (Ev.p.r (by simp)))
      | cons x t ih =>
        intro i A hd hA hi ht
        obtain ⟨hi', hd', hx, -⟩ := drop_cons' hd
        have hf := fT_len x
        have hm := jsz_mem (j := j) (List.mem_of_mem_drop (by rw [hd]; exact List.mem_cons_self ..) : x ∈ j.f0)
        have h := ih (i + 1) (A ++ [fT x]) hd' (by simp; omega) (by omega) (by rw [tot_app, tot_cons, show tot [] = 0 from rfl]; omega)
        refine Ev.s (fun k => by rw [impl_FormatJoiner.l0]) (Ev.t (by omega) (Ev.t (by omega) (Ev.t (by omega) ?_)))
        rw [rdTask, hx, w64s hi' (by omega)]
        refine Ev.b (impl_FormatTask_ev x (by omega)) (Ev.t (by rw [List.length_map]; omega) ?_)
        rw [List.map_append, List.append_assoc] at h
        exact h
    exact Ev.b (impl_FormatInt_ev j.f1 (by omega) (by omega)) (Ev.b (impl_FormatInt_ev j.f2 (by omega) (by omega)) (L j.f0 0 [fI j.f1, fI j.f2] rfl (by simp) (by omega) (by rw [tot_cons, tot_cons, show tot [] = 0 from rfl]; omega)))
  · rw [if_neg h]; rfl
/-- The tasks of the parts, each read. -/
def pTg : List (List UInt8) → List S27
  | [] => []
  | x :: t => (pT x).1 :: pTg t
def mkJn (a b : List UInt8) (C : List (List UInt8)) : S60 := ⟨pTg C, (pI a).1, (pI b).1⟩
def pJ (s : List UInt8) : S60 × Bool :=
  match ctS 47 s with
  | a :: b :: C => if fJ (mkJn a b C) = s then (mkJn a b C, true) else (z60, false)
  | _ => (z60, false)
theorem pTg_map (C : List (List UInt8)) : pTg C = C.map fun x => (pT x).1 := by
  induction C with
  | nil => rfl
  | cons x C ih => rw [pTg, ih, List.map_cons]
theorem ne47 {b : UInt8} (h : nmB b ∨ b.toNat = 46 ∨ b.toNat = 32 ∨ b.toNat = 59) : b ≠ 47 := by
  rcases h with h | h | h | h
  · exact nm_ne h (by decide) (by decide)
  · intro e; rw [e] at h; exact absurd h (by decide)
  · intro e; rw [e] at h; exact absurd h (by decide)
  · intro e; rw [e] at h; exact absurd h (by decide)
theorem fT_b {t : S27} : ∀ b ∈ fT t, nmB b ∨ b.toNat = 46 ∨ b.toNat = 32 ∨ b.toNat = 59 := by
  unfold fT
  split
  · rename_i h
    intro b hb
    rcases jn_mem hb with hb | ⟨x, hx, hb⟩
    · right; right; right; rw [hb]; rfl
    · rcases tP_b (vTask_iff.1 h) x hx b hb with q | q | q
      · exact .inl q
      · exact .inr (.inl q)
      · exact .inr (.inr (.inl q))
  · simp
theorem ct_fJ {j : S60} (h : vJ j = true) : ctS 47 (fJ j) = jP2 j := by
  have hJ := vJ_iff.1 h
  have h1 := hJ.wr; have h2 := hJ.pt
  unfold fJ; rw [if_pos h]
  refine ct_jn 47 _ _ fun y hy b hb => ?_
  rcases List.mem_cons.1 hy with rfl | hy
  · exact ne47 (.inl (fI_nm ⟨by omega, by omega⟩ b hb))
  rcases List.mem_cons.1 hy with rfl | hy
  · exact ne47 (.inl (fI_nm ⟨by omega, by omega⟩ b hb))
  · obtain ⟨t, -, rfl⟩ := List.mem_map.1 hy
    exact ne47 (fT_b b hb)
theorem mkJn_jP2 {j : S60} (h : VJ j) : mkJn (fI j.f1) (fI j.f2) (j.f0.map fT) = j := by
  have h1 := h.wr; have h2 := h.pt
  unfold mkJn
  rw [pI_fmt j.f1 ⟨by omega, by omega⟩, pI_fmt j.f2 ⟨by omega, by omega⟩, pTg_map, List.map_map]
  have : j.f0.map ((fun x => (pT x).1) ∘ fT) = j.f0 := by
    conv => rhs; rw [← List.map_id j.f0]
    refine List.map_congr_left fun t ht => ?_
    show (pT (fT t)).1 = t
    rw [pT_fT (vTask_iff.2 (h.ts t ht).1)]
  rw [this]
theorem pJ_fJ {j : S60} (h : vJ j = true) : pJ (fJ j) = (j, true) := by
  unfold pJ
  rw [ct_fJ h]
  unfold jP2
  dsimp only
  rw [mkJn_jP2 (vJ_iff.1 h), if_pos rfl]
theorem fJ_valid {j : S60} (h : fJ j ≠ []) : vJ j = true := by
  unfold fJ at h
  by_cases g : vJ j = true
  · exact g
  · rw [if_neg g] at h; exact absurd rfl h
theorem fJ_cut {s a b : List UInt8} {C : List (List UInt8)} (hc : ctS 47 s = a :: b :: C) : fJ (mkJn a b C) = s ↔ ((pI a).2 = true ∧ (pI b).2 = true ∧ (∀ x ∈ C, (pT x).2 = true) ∧ vJ (mkJn a b C) = true) := by
  constructor
  · intro h
    have v : vJ (mkJn a b C) = true := fJ_valid (by rw [h]; intro q; rw [q, ct_nil] at hc; simp at hc)
    have hJ := vJ_iff.1 v
    have h1 := hJ.wr; have h2 := hJ.pt
    have h' := ct_fJ v
    rw [h, hc] at h'
    unfold jP2 at h'
    injection h' with e0 h'
    injection h' with e1 e2
    have p0 := pI_fmt (mkJn a b C).f1 ⟨by omega, by omega⟩
    have p1 := pI_fmt (mkJn a b C).f2 ⟨by omega, by omega⟩
    rw [← e0] at p0
    rw [← e1] at p1
    refine ⟨by rw [p0], by rw [p1], fun x hx => ?_, v⟩
    rw [e2] at hx
    obtain ⟨t, ht, rfl⟩ := List.mem_map.1 hx
    rw [pT_fT (vTask_iff.2 (hJ.ts t ht).1)]
  · rintro ⟨g0, g1, g2, v⟩
    have f0 := (pI_some g0).2
    have f1 := (pI_some g1).2
    have hj := jn_ctS 47 s
    rw [hc] at hj
    unfold fJ
    rw [if_pos v]
    unfold jP2 mkJn
    dsimp only
    rw [← f0, ← f1, pTg_map, List.map_map]
    have : C.map (fT ∘ fun x => (pT x).1) = C := by
      conv => rhs; rw [← List.map_id C]
      refine List.map_congr_left fun x hx => ?_
      exact (pT_some (g2 x hx)).2
    rw [this]; exact hj
theorem pTg_sz : ∀ C : List (List UInt8), ((pTg C).map tsz).sum ≤ 72 * C.length ∧ (pTg C).length = C.length
  | [] => by simp [pTg]
  | x :: C => by
    have := pTg_sz C; have := pTs_sz x
    rw [pTg, List.map_cons, List.sum_cons, List.length_cons, List.length_cons]; omega
abbrev jtup (j : S60) (b : Bool) : List S27 × Int × Int × Bool := (j.f0, j.f1, j.f2, b)
theorem impl_ParseJoiner_ev (s : List UInt8) (hs : s.length ≤ 1100000) : Ev (fun k => impl_ParseJoiner.f k (toB s)) (jtup (pJ s).1 (pJ s).2) := by
  have hm := fun x => ctS_mem (c := 47) (s := s) (x := x)
  have hl := ctS_len 47 s
  unfold pJ
  refine Ev.u (fun _ => rfl) (Ev.b (impl_cut_ev s (by omega) 47 47 rfl) ?_)
  rw [List.length_map]
  cases hc : ctS 47 s with
  | nil => exact Ev.t (by simp) Ev.p
  | cons a l =>
    cases l with
    | nil => exact Ev.t (by simp) Ev.p
    | cons b C =>
      rw [hc] at hm hl
      simp only [List.length_cons] at hl
      have r0 : rdOf ByteArray.empty ((a :: b :: C).map toB) 0 = toB a := rfl
      have r1 : rdOf ByteArray.empty ((a :: b :: C).map toB) 1 = toB b := rfl
      have rd : ((a :: b :: C).map toB).drop (2 : Int).toNat = C.map toB := rfl
      dsimp only
      have no : ¬ ((pI a).2 = true ∧ (pI b).2 = true ∧ (∀ x ∈ C, (pT x).2 = true) ∧ vJ (mkJn a b C) = true) → jtup z60 false = jtup (if fJ (mkJn a b C) = s then (mkJn a b C, true) else (z60, false)).1 (if fJ (mkJn a b C) = s then (mkJn a b C, true) else (z60, false)).2 := by
        intro g; rw [if_neg (fun q => g ((fJ_cut hc).1 q))]
      have L : ∀ (u : List (List UInt8)) (i : Nat) (A : List S27), C.drop i = u → A.length ≤ i → i ≤ C.length → A ++ pTg u = pTg C → (∀ x ∈ C, x ∉ u → (pT x).2 = true) → Ev (fun k => impl_ParseJoiner.l0 k (pI a).2 (pI b).2 (C.map toB) (C.length : Int) (i : Int) [] 0 0 A (pI a).1 (pI b).1) (jtup (if fJ (mkJn a b C) = s then (mkJn a b C, true) else (z60, false)).1 (if fJ (mkJn a b C) = s then (mkJn a b C, true) else (z60, false)).2) := by
        intro u
        induction u with
        | nil =>
          intro i A hd hA hi hu hall
          have := drop_nil' hd
          rw [pTg, List.append_nil] at hu
          subst hu
          have hz := pTg_sz C
          have ev := impl_IsValidJoiner_evG (mkJn a b C) (by unfold jsz mkJn; dsimp only; omega)
          refine Ev.s (fun k => by rw [impl_ParseJoiner.l0]) ?_
          refine Ev.e (by omega) (Ev.i (fun q0 => Ev.i (fun q1 => Ev.b ev (Ev.i (fun q2 => Ev.p.r ?_) (fun q2 => Ev.p.r (no fun g => q2 g.2.2.2)))) (fun q1 => Ev.p.r (no fun g => q1 g.2.1))) (fun q0 => Ev.p.r (no fun g => q0 g.1)))
          rw [if_pos ((fJ_cut hc).2 ⟨q0, q1, fun x hx => hall x hx (by simp), q2⟩)]; rfl
        | cons x u ih =>
          intro i A hd hA hi hu hall
          obtain ⟨hi', hd', hx, -⟩ := drop_cons' hd
          have hxC : x ∈ C := List.mem_of_mem_drop (by rw [hd]; exact List.mem_cons_self ..)
          have hmx := hm x (List.mem_cons_of_mem _ (List.mem_cons_of_mem _ hxC))
          refine Ev.s (fun k => by rw [impl_ParseJoiner.l0]) ?_
          rw [rdS, hx, w64s hi' (by omega), List.length_map]
          refine Ev.t (by omega) (Ev.t (by omega) (Ev.t (by omega) (Ev.b (impl_ParseTask_ev x (by omega)) (Ev.i (fun g => ?_) (fun g => Ev.p.r (no fun q => g (q.2.2.1 x hxC)))))))
          refine Ev.t (by omega) ?_
          refine ih (i + 1) _ hd' (by simp; omega) (by omega) (by rw [← hu, pTg, List.append_assoc]; rfl) (fun y hy hyu => ?_)
          by_cases e : y = x
          · rw [e]; exact g
          · exact hall y hy (fun hq => (List.mem_cons.1 hq).elim e hyu)
      rw [r0, r1, rd, List.length_map]
      refine Ev.e (by simp only [List.length_cons]; omega) (Ev.t (by simp only [List.length_cons]; omega) (Ev.b (impl_ParseInt_ev a) (Ev.t (by simp only [List.length_cons]; omega) (Ev.b (impl_ParseInt_ev b) (Ev.t (by simp only [List.length_cons]; omega) ?_)))))
      exact L C 0 [] rfl (by simp) (by omega) rfl (fun x hx hn => absurd hx hn)
theorem DrawStepsToFinish_ex (l : List Int) (hl : l.length ≤ 1048576) : ∃ j : S60, ∃ G, Ev (fun k => spec_DrawStepsToFinish.f k l) (j.f0, j.f1, j.f2, G) ∧ jsz j ≤ 100000 ∧ G.length ≤ 4 := by
  obtain ⟨z, e0⟩ := l1New_ev l hl
  obtain ⟨j, p1, z1, e1, ht, h1⟩ := l19Joiner_ex l 0 z (Rd0 l hl)
  obtain ⟨G, p2, z2, e2, hG, -⟩ := l14List_ex l p1 z1 h1
  exact ⟨j, G, Ev.u (fun _ => rfl) (Ev.b e0 (Ev.b e1 (Ev.b e2 Ev.p))), ht, hG⟩
theorem pure_FnJoinerTermination (l0 : List Int) (G0 : (l0.length ≤ maxLen ∧ ∀ y ∈ l0, (Lit.int .u8 y).wf = true)) : ∃ k, laws_FnJoinerTermination.f k l0 = some true := by
  refine Ev.ex ?_
  by_cases s0 : (l0.length : Int) > 1048576
  · exact Ev.u (fun _ => rfl) (Ev.b (Ev.c (big_eq l0)) (Ev.t (by simpa using s0) Ev.p))
  obtain ⟨J, G, ed, hJ, hG⟩ := DrawStepsToFinish_ex l0 (by omega)
  have es := spec_StepsToFinish_ev J G (by omega) (by omega)
  have ei := impl_StepsToFinish_ev J G (by omega) (by omega)
  refine Ev.u (fun _ => rfl) (Ev.b (Ev.c (big_eq l0)) (Ev.e (by simpa using s0) (Ev.b ed (Ev.b ei (Ev.b es (Ev.t (by simp) (Ev.t rfl (Ev.i (fun h => ?_) (fun h => Ev.p.r ?_)))))))))
  · have h' : sfOk J G = true := h
    have hk := h'
    simp only [sfOk, Bool.and_eq_true, decide_eq_true_iff] at hk
    obtain ⟨k0, k1, k2, k3, k4⟩ := hk
    have hV := vJ_iff.1 k0
    obtain ⟨i1, i2⟩ := IJ_of hV k2 k3 k4
    obtain ⟨g1, g2⟩ := gOk_iff k1
    obtain ⟨-, r2, r3, -, -⟩ := run_law (J.f0.getD 0 z27).f0 G g1 g2 60 (fun g hg => (inB_iff.1 (g1 g hg)).2) 700 J [] 0 0 i1 i2 (by omega)
    have hsf : sf J G = (((run G 700 J [] 0 0).2.1 : Nat) : Int) := by unfold sf; rw [if_pos h']
    have f1 := impl_FormatJoiner_ev J (by omega)
    have hf := fJ_len J
    have p1 := impl_ParseJoiner_ev (fJ J) (by omega)
    rw [pJ_fJ k0] at p1
    have q1 := spec_EqualJoiners_ev J (by omega)
    have L : ∀ (s : List S27) (i a : Nat), J.f0.drop i = s → a ≤ 1000 * i → (∀ t ∈ s, VT t) → sf J G ≤ a + mM s → Ev (fun k => laws_FnJoinerTermination.l0 k G (sf J G) (a : Int) (i : Int) J.f0 J.f1 J.f2) true := by
      intro s
      induction s with
      | nil =>
        intro i a hd ha hs hb
        have := drop_nil' hd
        rw [show mM [] = 0 from rfl] at hb
        refine Ev.s (fun k => by rw [laws_FnJoinerTermination.l0]) ?_
        exact Ev.e (by omega) (Ev.b f1 (Ev.b p1 (Ev.b ei (Ev.t (by omega) (Ev.t (by omega) (Ev.t rfl (Ev.b q1 (Ev.t rfl (Ev.t h' (Ev.p.r (by simp)))))))))))
      | cons x t ih =>
        intro i a hd ha hs hb
        obtain ⟨hi, hd', hx, -⟩ := drop_cons' hd
        have hv := hs x (List.mem_cons_self ..)
        have hbb := hv.b
        have hp := pw_le hv.level.1
        have hmx : mT x ≤ 31 + x.f2.length := by unfold mT; omega
        rw [mM_cons] at hb
        have hl := hV.len
        refine Ev.s (fun k => by rw [laws_FnJoinerTermination.l0]) (Ev.t (by omega) (Ev.t (by omega) ?_))
        rw [rdTask, hx, w64s hi (by omega)]
        refine Ev.b (Ev.c (impl_JoinStepBound_eq x.f1 x.f2 (by omega))) ?_
        rw [show wrap64 ((a : Int) + (31 + (x.f2.length : Int))) = ((a + (31 + x.f2.length) : Nat) : Int) by rw [w64 (by omega) (by omega)]; omega]
        exact ih (i + 1) _ hd' (by omega) (fun y hy => hs y (List.mem_cons_of_mem _ hy)) (by omega)
    exact L J.f0 0 0 rfl (by omega) (fun t ht => (hV.ts t ht).1) (by omega)
  · have h' : ¬ sfOk J G = true := h
    unfold sf; rw [if_neg h']; rfl

end Go.Proofs.Ytamjndlkompeeaa.K
namespace Go.Proofs.Ytamjndlkompeeaa.fnJoinerTermination
open Go Go.ChangeShapes Go.WideShapes Go.ChangeAt Go.RowKit Go.Proofs.Ytamjndlkompeeaa.K
open Go.ChangeMaps (open_string shut_string)
set_option linter.unusedVariables false
theorem own : ownKnob Try.prog.godebug = none := by kernel_rfl
theorem laidOut : laidOutB Try.prog = true := by kernel_rfl
set_option maxRecDepth 100000 in
theorem lifted (os : Os) (started : os.Started) (H : Type) (enc : TypeId × Value → H) :
    ReturnsInHanded {} Try.checked os 5 .any (Rows.fnJoinerTerminationSpec.pre6 enc Try.prog Try.f5 Rows.fnJoinerTerminationRow.domain false) (Rows.fnJoinerTerminationSpec.post enc Try.prog Try.f5 false true false false) := by
  refine returnsInHanded_of_change_sized (C := Try.checked) own started (by kernel_rfl) Try.func5
    (ChangeSpec.witness6 (enc := enc) (C := Try.checked) false ⟨#[], #[.slice none 0 0], []⟩ 8 (by kernel_rfl) (by kernel_rfl) (by kernel_rfl) (by kernel_rfl)) ?_
  intro W base args ds gs before hval0 hW hcnd hsz0 _
  have hsz : (DataW.weightsEach Try.prog (Try.f5.params.toList ++ Rows.fnJoinerTerminationSpec.plain.varTypes Try.prog) (ds ++ gs)).all (· ≤ reachBytes) = true := hsz0
  have hval : ∀ (j : Nat) t v, Try.f5.params[j]? = some t → args[j]? = some v → Value.okWide Try.prog W .any base t v := hval0
  have hW' := hW
  obtain ⟨p, q, hA0, hV, rfl, hfz, hnd⟩ := hW
  have hA : DataW.TrodAll enc Try.prog W 0 (fun _ => true) true Try.f5.params.toList args.toList ds p := hA0
  rw [Try.params5] at hA hval hsz
  obtain ⟨v0, vs0, d0, ds0, p0, q0, hargs, rfl, rfl, h0, r0⟩ := trodAll_cons hA
  obtain ⟨rfl, rfl, rfl⟩ := trodAll_nil r0
  obtain rfl : args = #[v0] := by cases args; simp_all
  obtain ⟨rfl, rfl⟩ := trodVars_none hV
  have k0 := h0
  have lt0 : ∀ x ∈ p0, x.block < W.heap.size := by obtain ⟨m, hm⟩ := k0; exact DataW.trod_lt m _ _ _ hm
  obtain ⟨A0, len0, c0, rfl⟩ := okWide_slice Try.underlying22 (hval 0 22 v0 rfl rfl)
  obtain ⟨l0, rfl, F0, G0⟩ := slice_arg (opens_slice Try.underlying22 (by kernel_rfl) (by kernel_rfl) (opens_int Try.underlying5 (by kernel_rfl))) h0
  clear hA0 hval0 hsz0 hsz
  obtain ⟨k, hk⟩ := K.pure_FnJoinerTermination l0 G0
  refine (law_calls (laws_FnJoinerTermination.ok k l0 A0 c0 true hk) (facts_app F0 facts_nil)).mono fun e W' he => ?_
  obtain ⟨rfl, bel⟩ := he
  exact ⟨_, rfl, _, _, _, [], _, [], hW', trodAll_mk1 (shut_bool Try.underlying4 _), (trodAll_cons_mk (Below.trod laidOut (by kernel_rfl) (of_decide_eq_true (by kernel_rfl)) k0 bel lt0) trodAll_mk0), rfl, bel.frame _, fun h => by cases h⟩
theorem over : Rows.fnJoinerTerminationRow.holds Try.pinned (OpenSpec.ofChange Rows.fnJoinerTerminationSpec) :=
  OpenClaim.holds_of_wide 5 Try.f5 rfl rfl rfl rfl rfl rfl rfl ⟨rfl, rfl, rfl, rfl, rfl⟩ rfl rfl rfl rfl rfl (by kernel_rfl) Try.func5 (by kernel_rfl)
    (of_decide_eq_true (by kernel_rfl)) (by unfold Func.isWrapper; first | (rw [if_pos (by decide +kernel)]; kernel_rfl) | (rw [if_neg (by decide +kernel)]; exact ⟨rfl, rfl⟩))
    (fun os started H enc _ => lifted os started H enc)
theorem proved : Rows.FnJoinerTerminationSaid := over
#print axioms proved
end Go.Proofs.Ytamjndlkompeeaa.fnJoinerTermination
namespace Go.Proofs.Ytamjndlkompeeaa
/-- The row, under a short name, for the claim. -/
theorem fnJoinerTermination_holds : Rows.FnJoinerTerminationSaid := fnJoinerTermination.proved
end Go.Proofs.Ytamjndlkompeeaa
