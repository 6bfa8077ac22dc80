/- FnJoinerMemory answers true at every input. -/
import Derived.Below
import Derived.Carry
import Derived.ChangeOld
import Derived.OpenShut
import Derived.ProofKit
import Derived.ShutString
import Derived.SizedLaws
import Derived.Test.YtajjeemkdjfilaaChecked
import Derived.Test.YtajjeemkdjfilaaRows
import Derived.WalkKit
import Derived.Test.YtajjeemkdjfilaaVFnJoinerMemorye
namespace Go.Proofs.Ytajjeemkdjfilaa.K
open Go Go.RowKit
set_option linter.unusedVariables false
set_option linter.unusedSimpArgs false
def Ev {α : Type} (f : Nat → Option α) (r : α) : Prop := ∃ K, ∀ k, K ≤ k → f k = some r
theorem Ev.p {α : Type} {r : α} : Ev (fun _ => some r) r := ⟨0, fun _ _ => rfl⟩
theorem Ev.c {α : Type} {o : Option α} {r : α} (h : o = some r) : Ev (fun _ => o) r := ⟨0, fun _ _ => h⟩
theorem Ev.b {α β : Type} {f : Nat → Option α} {g : Nat → α → Option β} {a : α} {r : β} (hf : Ev f a) (hg : Ev (fun k => g k a) r) : Ev (fun k => (f k).bind (g k)) r := by
  obtain ⟨K, h⟩ := hf; obtain ⟨L, h'⟩ := hg
  exact ⟨max K L, fun k hk => by show (f k).bind (g k) = some r; rw [h k (by omega)]; exact h' k (by omega)⟩
theorem Ev.t {α : Type} {p : Prop} [Decidable p] {f g : Nat → Option α} {r : α} (h : p) (hf : Ev f r) : Ev (fun k => if p then f k else g k) r := by
  obtain ⟨K, h'⟩ := hf
  exact ⟨K, fun k hk => by show (if p then f k else g k) = some r; rw [if_pos h]; exact h' k hk⟩
theorem Ev.e {α : Type} {p : Prop} [Decidable p] {f g : Nat → Option α} {r : α} (h : ¬ p) (hg : Ev g r) : Ev (fun k => if p then f k else g k) r := by
  obtain ⟨K, h'⟩ := hg
  exact ⟨K, fun k hk => by show (if p then f k else g k) = some r; rw [if_neg h]; exact h' k hk⟩
theorem Ev.i {α : Type} {p : Prop} [Decidable p] {f g : Nat → Option α} {r : α} (hf : p → Ev f r) (hg : ¬ p → Ev g r) : Ev (fun k => if p then f k else g k) r := by
  by_cases h : p
  · exact Ev.t h (hf h)
  · exact Ev.e h (hg h)
theorem Ev.s {α : Type} {L f : Nat → Option α} {r : α} (h : ∀ k, L (k + 1) = f k) (hf : Ev f r) : Ev L r := by
  obtain ⟨K, h'⟩ := hf
  refine ⟨K + 1, fun k hk => ?_⟩
  obtain ⟨m, rfl⟩ : ∃ m, k = m + 1 := ⟨k - 1, by omega⟩
  rw [h]; exact h' m (by omega)
theorem Ev.u {α : Type} {L f : Nat → Option α} {r : α} (h : ∀ k, L k = f k) (hf : Ev f r) : Ev L r := by
  obtain ⟨K, h'⟩ := hf
  exact ⟨K, fun k hk => by rw [h]; exact h' k hk⟩
theorem Ev.r {α : Type} {f : Nat → Option α} {r r' : α} (h : Ev f r) (e : r = r') : Ev f r' := e ▸ h
theorem Ev.r' {α : Type} {f g : Nat → Option α} {r r' : α} (h : Ev f r) (e1 : ∀ k, f k = g k) (e : r = r') : Ev g r' := by
  subst e; obtain ⟨K, h'⟩ := h
  exact ⟨K, fun k hk => by rw [← e1]; exact h' k hk⟩
theorem Ev.ex {α : Type} {f : Nat → Option α} {r : α} (h : Ev f r) : ∃ k, f k = some r := by
  obtain ⟨K, h'⟩ := h
  exact ⟨K, h' K (Nat.le_refl _)⟩
theorem drop_nil' {α : Type} {l : List α} {i : Nat} (h : l.drop i = []) : l.length ≤ i := List.drop_eq_nil_iff.1 h
theorem drop_cons' {α : Type} {l : List α} {i : Nat} {x : α} {t : List α} (h : l.drop i = x :: t) : i < l.length ∧ l.drop (i + 1) = t ∧ (∀ d, l.getD i d = x) ∧ l.length = i + 1 + t.length := by
  have hl := congrArg List.length h
  rw [List.length_drop, List.length_cons] at hl
  refine ⟨by omega, ?_, fun d => ?_, by omega⟩
  · rw [← List.drop_drop, h]; rfl
  · have : l[i]? = some x := by rw [← List.head?_drop, h]; rfl
    rw [List.getD_eq_getElem?_getD, this]; rfl
theorem w64 {x : Int} (h0 : -9223372036854775808 ≤ x) (h1 : x ≤ 9223372036854775807) : wrap64 x = x := by unfold wrap64; omega
theorem w64s {i n : Nat} (h : i < n) (hn : n ≤ 9223372036854775807) : wrap64 ((i : Int) + 1) = ((i + 1 : Nat) : Int) := by rw [w64 (by omega) (by omega)]; rfl
theorem maxLen_eq : maxLen = 9223372036854775807 := rfl
theorem wf64 {n : Int} (h : (Lit.int .i64 n).wf = true) : (-9223372036854775808 : Int) ≤ n ∧ n ≤ 9223372036854775807 := by
  simp [Lit.wf, IntKind.min, IntKind.max, IntKind.signed, IntKind.bits] at h
  exact h
theorem ob {α β : Type} {o : Option α} {a : α} {f : α → Option β} (h : o = some a) : o.bind f = f a := by subst h; rfl

def inB (n a b : Int) : Bool := decide (a ≤ n ∧ n ≤ b)
theorem within_eq (n a b : Int) : impl_within.f n a b = some (inB n a b) := by
  unfold impl_within.f inB; split <;> simp <;> omega
theorem l1In_eq (n a b : Int) : spec_l1In.f n a b = some (inB n a b) := by
  unfold spec_l1In.f inB; split <;> simp <;> omega
def vRow (a b c : Int) : Bool := inB a 0 9 && inB b 0 99 && inB c 0 3
theorem impl_IsValidRow_eq (a b c : Int) : impl_IsValidRow.f a b c = some (vRow a b c) := by
  unfold impl_IsValidRow.f vRow
  rw [within_eq, within_eq, within_eq, ob rfl]
  cases inB a 0 9
  · simp
  · rw [if_pos rfl, ob rfl]; cases inB b 0 99 <;> simp
theorem spec_IsValidRow_eq (a b c : Int) : spec_IsValidRow.f a b c = some (vRow a b c) := by
  unfold spec_IsValidRow.f vRow
  rw [l1In_eq, l1In_eq, l1In_eq, ob rfl]
  cases inB a 0 9
  · simp
  · rw [if_pos rfl, ob rfl]; cases inB b 0 99 <;> simp
def cRow (x : S70) : Int := if vRow x.f0 x.f1 x.f2 = true then 1 + x.f2 else 0
theorem cRow_b (x : S70) : 0 ≤ cRow x ∧ cRow x ≤ 4 := by
  unfold cRow
  by_cases h : vRow x.f0 x.f1 x.f2 = true
  · rw [if_pos h]; simp [vRow, inB] at h; omega
  · rw [if_neg h]; omega
theorem impl_RowCost_eq (x : S70) : impl_RowCost.f x.f0 x.f1 x.f2 = some (cRow x) := by
  unfold impl_RowCost.f cRow
  rw [impl_IsValidRow_eq, ob rfl]
  by_cases h : vRow x.f0 x.f1 x.f2 = true
  · rw [if_pos h, if_pos h]; simp [vRow, inB] at h; rw [w64 (by omega) (by omega)]
  · rw [if_neg h, if_neg h]
theorem spec_RowCost_eq (x : S70) : spec_RowCost.f x.f0 x.f1 x.f2 = some (cRow x) := by
  unfold spec_RowCost.f cRow
  rw [spec_IsValidRow_eq, ob rfl]
  by_cases h : vRow x.f0 x.f1 x.f2 = true
  · rw [if_pos h, if_pos h]; simp [vRow, inB] at h; rw [w64 (by omega) (by omega)]
  · rw [if_neg h, if_neg h]
def tCost (l : List S70) : Int := (l.map cRow).sum
theorem tCost_cons (x : S70) (l : List S70) : tCost (x :: l) = cRow x + tCost l := by simp [tCost]
theorem tCost_b : ∀ l : List S70, 0 ≤ tCost l ∧ tCost l ≤ 4 * l.length
  | [] => by simp [tCost]
  | x :: l => by have := tCost_b l; have := cRow_b x; rw [tCost_cons, List.length_cons]; omega
theorem rdR (l : List S70) (i : Nat) : rd_T70 l (i : Int) = l.getD i z70 := rfl
theorem impl_TotalCost_l0 (l : List S70) (hl : l.length ≤ 1152921504606846975) : ∀ (s : List S70) (i : Nat) (acc : Int), l.drop i = s → 0 ≤ acc → acc ≤ 4 * i → Ev (fun k => impl_TotalCost.l0 k acc (l.length : Int) (i : Int) l) (acc + tCost s) := by
  intro s
  induction s with
  | nil =>
    intro i acc hd h0 h1
    have := drop_nil' hd
    exact Ev.s (fun k => by rw [impl_TotalCost.l0]) (Ev.e (by omega) (Ev.p.r (by simp [tCost])))
  | cons x t ih =>
    intro i acc hd h0 h1
    obtain ⟨hi, hd', hx, -⟩ := drop_cons' hd
    have := cRow_b x
    refine Ev.s (fun k => by rw [impl_TotalCost.l0]) (Ev.t (by omega) (Ev.t (by omega) (Ev.t (by omega) ?_)))
    rw [rdR, hx]
    refine Ev.b (Ev.c (impl_RowCost_eq x)) ?_
    rw [w64s hi (by omega), w64 (by omega) (by omega)]
    exact (ih (i + 1) (acc + cRow x) hd' (by omega) (by omega)).r (by rw [tCost_cons]; omega)
theorem impl_TotalCost_ev (l : List S70) (hl : l.length ≤ 1152921504606846975) : Ev (fun k => impl_TotalCost.f k l) (tCost l) :=
  Ev.u (fun _ => rfl) ((impl_TotalCost_l0 l hl l 0 0 rfl (by omega) (by omega)).r (by omega))
theorem spec_TotalCost_l0 (l : List S70) (hl : l.length ≤ 1152921504606846975) : ∀ (s : List S70) (i : Nat) (acc : Int), l.drop i = s → 0 ≤ acc → acc ≤ 4 * i → Ev (fun k => spec_TotalCost.l0 k acc (i : Int) l) (acc + tCost s) := by
  intro s
  induction s with
  | nil =>
    intro i acc hd h0 h1
    have := drop_nil' hd
    exact Ev.s (fun k => by rw [spec_TotalCost.l0]) (Ev.e (by omega) (Ev.p.r (by simp [tCost])))
  | cons x t ih =>
    intro i acc hd h0 h1
    obtain ⟨hi, hd', hx, -⟩ := drop_cons' hd
    have := cRow_b x
    refine Ev.s (fun k => by rw [spec_TotalCost.l0]) (Ev.t (by omega) (Ev.t (by omega) ?_))
    rw [rdR, hx]
    refine Ev.b (Ev.c (spec_RowCost_eq x)) ?_
    rw [w64s hi (by omega), w64 (by omega) (by omega)]
    exact (ih (i + 1) (acc + cRow x) hd' (by omega) (by omega)).r (by rw [tCost_cons]; omega)
theorem spec_TotalCost_ev (l : List S70) (hl : l.length ≤ 1152921504606846975) : Ev (fun k => spec_TotalCost.f k l) (tCost l) :=
  Ev.u (fun _ => rfl) ((spec_TotalCost_l0 l hl l 0 0 rfl (by omega) (by omega)).r (by omega))
def vAll (l : List S70) : Bool := l.all fun x => vRow x.f0 x.f1 x.f2
theorem impl_allValid_l0 (l : List S70) (hl : l.length ≤ 1152921504606846975) : ∀ (s : List S70) (i : Nat), l.drop i = s → Ev (fun k => impl_allValid.l0 k (l.length : Int) (i : Int) l) (vAll s) := by
  intro s
  induction s with
  | nil =>
    intro i hd
    have := drop_nil' hd
    exact Ev.s (fun k => by rw [impl_allValid.l0]) (Ev.e (by omega) (Ev.p.r (by rfl)))
  | cons x t ih =>
    intro i hd
    obtain ⟨hi, hd', hx, -⟩ := drop_cons' hd
    refine Ev.s (fun k => by rw [impl_allValid.l0]) (Ev.t (by omega) (Ev.t (by omega) (Ev.t (by omega) ?_)))
    rw [rdR, hx]
    refine Ev.b (Ev.c (impl_IsValidRow_eq ..)) (Ev.i (fun h => ?_) (fun h => ?_))
    · rw [w64s hi (by omega)]
      exact (ih (i + 1) hd').r (by simp [vAll, h])
    · exact Ev.p.r (by simp [vAll, h])
theorem impl_allValid_ev (l : List S70) (hl : l.length ≤ 1152921504606846975) : Ev (fun k => impl_allValid.f k l) (vAll l) :=
  Ev.u (fun _ => rfl) (impl_allValid_l0 l hl l 0 rfl)
def vRows (l : List S70) : Bool := vAll l && decide (l.length ≤ 24)
theorem impl_AreValidRows_ev (l : List S70) (hl : l.length ≤ 1152921504606846975) : Ev (fun k => impl_AreValidRows.f k l) (vRows l) :=
  Ev.u (fun _ => rfl) (Ev.i (fun h => Ev.b (impl_allValid_ev l hl) (Ev.p.r (by simp [vRows]; omega))) (fun h => Ev.p.r (by simp [vRows]; omega)))
theorem spec_AreValidRows_l0 (l : List S70) (hl : l.length ≤ 1152921504606846975) : ∀ (s : List S70) (i : Nat), l.drop i = s → Ev (fun k => spec_AreValidRows.l0 k (i : Int) l) (vAll s && decide (l.length ≤ 24)) := by
  intro s
  induction s with
  | nil =>
    intro i hd
    have := drop_nil' hd
    exact Ev.s (fun k => by rw [spec_AreValidRows.l0]) (Ev.e (by omega) (Ev.p.r (by simp [vAll]; omega)))
  | cons x t ih =>
    intro i hd
    obtain ⟨hi, hd', hx, -⟩ := drop_cons' hd
    refine Ev.s (fun k => by rw [spec_AreValidRows.l0]) (Ev.t (by omega) (Ev.t (by omega) ?_))
    rw [rdR, hx]
    refine Ev.b (Ev.c (spec_IsValidRow_eq ..)) (Ev.i (fun h => ?_) (fun h => ?_))
    · rw [w64s hi (by omega)]
      exact (ih (i + 1) hd').r (by simp [vAll, h])
    · exact Ev.p.r (by simp [vAll, h])
theorem spec_AreValidRows_ev (l : List S70) (hl : l.length ≤ 1152921504606846975) : Ev (fun k => spec_AreValidRows.f k l) (vRows l) :=
  Ev.u (fun _ => rfl) (spec_AreValidRows_l0 l hl l 0 rfl)
def eqRow (x y : S70) : Bool := x.f0 == y.f0 && (x.f1 == y.f1 && x.f2 == y.f2)
def eqRows (a b : List S70) : Bool := match a, b with
  | [], [] => true
  | x :: a, y :: b => eqRow x y && eqRows a b
  | _, _ => false
theorem eqRow_iff {x y : S70} : eqRow x y = true ↔ x = y := by
  obtain ⟨a, b, c⟩ := x; obtain ⟨d, e, f⟩ := y; simp [eqRow]
theorem eqRows_iff : ∀ {a b : List S70}, eqRows a b = true ↔ a = b
  | [], [] => by simp [eqRows]
  | x :: a, y :: b => by simp [eqRows, eqRow_iff, eqRows_iff]
  | [], y :: b => by simp [eqRows]
  | x :: a, [] => by simp [eqRows]
theorem eqRows_len {a b : List S70} (h : eqRows a b = true) : a.length = b.length := by rw [eqRows_iff.1 h]
theorem eqRows_ne {a b : List S70} (h : a.length ≠ b.length) : eqRows a b = false := by
  cases e : eqRows a b with
  | false => rfl
  | true => exact absurd (eqRows_len e) h
theorem spec_l6Rows_l0 (l m : List S70) (hl : l.length ≤ 1152921504606846975) (hm : l.length = m.length) : ∀ (s t : List S70) (i : Nat), l.drop i = s → m.drop i = t → Ev (fun k => spec_l6Rows.l0 k (i : Int) l m) (eqRows s t) := by
  intro s
  induction s with
  | nil =>
    intro t i hd he
    have := drop_nil' hd
    have ht : t = [] := by rw [← he]; exact List.drop_eq_nil_iff.2 (by omega)
    subst ht
    exact Ev.s (fun k => by rw [spec_l6Rows.l0]) (Ev.e (by omega) (Ev.p.r (by rfl)))
  | cons x s ih =>
    intro t i hd he
    obtain ⟨hi, hd', hx, -⟩ := drop_cons' hd
    cases t with
    | nil => have := drop_nil' he; omega
    | cons y t =>
      obtain ⟨hj, he', hy, -⟩ := drop_cons' he
      refine Ev.s (fun k => by rw [spec_l6Rows.l0]) (Ev.t (by omega) (Ev.t (by omega) (Ev.t (by omega) ?_)))
      rw [rdR, rdR, hx, hy]
      refine Ev.i (fun h => ?_) (fun h => ?_)
      · rw [w64s hi (by omega)]
        exact (ih t (i + 1) hd' he').r (by have h' : eqRow x y = true := h; simp [eqRows, h'])
      · exact Ev.p.r (by have h' : ¬ eqRow x y = true := h; simp [eqRows, h'])
theorem spec_l6Rows_ev (l m : List S70) (hl : l.length ≤ 1152921504606846975) : Ev (fun k => spec_l6Rows.f k l m) (eqRows l m) :=
  Ev.u (fun _ => rfl) (Ev.i (fun h => spec_l6Rows_l0 l m hl (by omega) l m 0 rfl rfl) (fun h => Ev.p.r (eqRows_ne (by omega)).symm))
theorem impl_clone_eq (l : List S70) (hl : l.length ≤ 5864062014805) : impl_clone.f l = some l := by
  unfold impl_clone.f; rw [if_pos hl]
def nKey (key : Int) (l : List S70) : Nat := l.countP fun x => x.f0 == key
theorem impl_CountMatches_l0 (l : List S70) (a b c : Int) (hl : l.length ≤ 1152921504606846975) : ∀ (s : List S70) (i n : Nat), l.drop i = s → n ≤ i → Ev (fun k => impl_CountMatches.l0 k (n : Int) (l.length : Int) (i : Int) a b c l) (((n + nKey a s : Nat)) : Int) := by
  intro s
  induction s with
  | nil =>
    intro i n hd hn
    have := drop_nil' hd
    exact Ev.s (fun k => by rw [impl_CountMatches.l0]) (Ev.e (by omega) (Ev.p.r (by simp [nKey])))
  | cons x t ih =>
    intro i n hd hn
    obtain ⟨hi, hd', hx, -⟩ := drop_cons' hd
    refine Ev.s (fun k => by rw [impl_CountMatches.l0]) (Ev.t (by omega) (Ev.t (by omega) (Ev.t (by omega) ?_)))
    rw [rdR, hx, w64s hi (by omega)]
    refine Ev.i (fun h => ?_) (fun h => ?_)
    · rw [w64s (show n < l.length by omega) (by omega)]
      exact (ih (i + 1) (n + 1) hd' (by omega)).r (by simp [nKey, List.countP_cons, h]; omega)
    · exact (ih (i + 1) n hd' (by omega)).r (by simp [nKey, List.countP_cons, h])
theorem impl_CountMatches_ev (l : List S70) (a b c : Int) (hl : l.length ≤ 1152921504606846975) : Ev (fun k => impl_CountMatches.f k a b c l) ((nKey a l : Nat) : Int) :=
  Ev.u (fun _ => rfl) ((impl_CountMatches_l0 l a b c hl l 0 0 rfl (by omega)).r (by simp))
theorem spec_CountMatches_l0 (l : List S70) (a b c : Int) (hl : l.length ≤ 1152921504606846975) : ∀ (s : List S70) (i n : Nat), l.drop i = s → n ≤ i → Ev (fun k => spec_CountMatches.l0 k (n : Int) (i : Int) a b c l) (((n + nKey a s : Nat)) : Int) := by
  intro s
  induction s with
  | nil =>
    intro i n hd hn
    have := drop_nil' hd
    exact Ev.s (fun k => by rw [spec_CountMatches.l0]) (Ev.e (by omega) (Ev.p.r (by simp [nKey])))
  | cons x t ih =>
    intro i n hd hn
    obtain ⟨hi, hd', hx, -⟩ := drop_cons' hd
    refine Ev.s (fun k => by rw [spec_CountMatches.l0]) (Ev.t (by omega) (Ev.t (by omega) ?_))
    rw [rdR, hx, w64s hi (by omega)]
    refine Ev.i (fun h => ?_) (fun h => ?_)
    · rw [w64s (show n < l.length by omega) (by omega)]
      exact (ih (i + 1) (n + 1) hd' (by omega)).r (by simp [nKey, List.countP_cons, h]; omega)
    · exact (ih (i + 1) n hd' (by omega)).r (by simp [nKey, List.countP_cons, h])
theorem spec_CountMatches_ev (l : List S70) (a b c : Int) (hl : l.length ≤ 1152921504606846975) : Ev (fun k => spec_CountMatches.f k a b c l) ((nKey a l : Nat) : Int) :=
  Ev.u (fun _ => rfl) ((spec_CountMatches_l0 l a b c hl l 0 0 rfl (by omega)).r (by simp))
def hBit (key level : Int) : Int := if inB level 0 3 && inB key 0 9 then andI (shrI (Int.tmod (key * 7) 16) level) 1 else 0
theorem spec_HashBit_eq (a b : Int) : spec_HashBit.f a b = some (hBit a b) := by
  unfold spec_HashBit.f hBit
  rw [l1In_eq, l1In_eq, ob rfl]
  by_cases h1 : inB b 0 3 = true
  · rw [if_pos h1, ob rfl]
    by_cases h2 : inB a 0 9 = true
    · rw [if_pos h2]; simp [inB] at h1 h2; rw [if_pos (by omega), w64 (by omega) (by omega)]; simp [inB]; omega
    · rw [if_neg h2]; simp at h2; simp [h2]
  · rw [if_neg h1]; simp at h1; simp [h1]
theorem impl_HashBit_eq (a b : Int) : impl_HashBit.f a b = some (hBit a b) := by
  unfold impl_HashBit.f hBit
  rw [within_eq, within_eq, ob rfl]
  by_cases h1 : inB b 0 3 = true
  · rw [if_pos h1, ob rfl]
    by_cases h2 : inB a 0 9 = true
    · rw [if_pos h2, Int.mul_comm]; simp [inB] at h1 h2; rw [if_pos (by omega), w64 (by omega) (by omega)]; simp [inB]; omega
    · rw [if_neg h2]; simp at h2; simp [h2]
  · rw [if_neg h1]; simp at h1; simp [h1]
def hb (level : Int) (x : S70) : Bool := hBit x.f0 level == 0
def spl0 (level : Int) (l : List S70) : List S70 := l.filter (hb level)
def spl1 (level : Int) (l : List S70) : List S70 := l.filter fun x => !hb level x
theorem impl_SplitByHashBit_l0 (l : List S70) (v : Int) (hl : l.length ≤ 1099511627776) : ∀ (s : List S70) (i : Nat) (a b : List S70), l.drop i = s → a.length ≤ i → b.length ≤ i → Ev (fun k => impl_SplitByHashBit.l0 k v a b (l.length : Int) (i : Int) l) (a ++ spl0 v s, b ++ spl1 v s) := by
  intro s
  induction s with
  | nil =>
    intro i a b hd ha hb
    have := drop_nil' hd
    exact Ev.s (fun k => by rw [impl_SplitByHashBit.l0]) (Ev.e (by omega) (Ev.p.r (by simp [spl0, spl1])))
  | cons x t ih =>
    intro i a b hd ha hbb
    obtain ⟨hi, hd', hx, -⟩ := drop_cons' hd
    refine Ev.s (fun k => by rw [impl_SplitByHashBit.l0]) (Ev.t (by omega) (Ev.t (by omega) (Ev.t (by omega) ?_)))
    rw [rdR, hx, w64s hi (by omega)]
    refine Ev.b (Ev.c (impl_HashBit_eq ..)) (Ev.i (fun h => ?_) (fun h => ?_))
    · exact Ev.t (by omega) ((ih (i + 1) _ _ hd' (by simp; omega) (by omega)).r (by simp [spl0, spl1, hb, h]))
    · exact Ev.t (by omega) ((ih (i + 1) _ _ hd' (by omega) (by simp; omega)).r (by simp [spl0, spl1, hb, h]))
theorem impl_SplitByHashBit_ev (l : List S70) (v : Int) (hl : l.length ≤ 1099511627776) : Ev (fun k => impl_SplitByHashBit.f k l v) (spl0 v l, spl1 v l) :=
  Ev.u (fun _ => rfl) (impl_SplitByHashBit_l0 l v hl l 0 [] [] rfl (by simp) (by simp))
theorem spec_SplitByHashBit_l0 (l : List S70) (v : Int) (hl : l.length ≤ 1099511627776) : ∀ (s : List S70) (i : Nat) (a b : List S70), l.drop i = s → a.length ≤ i → b.length ≤ i → Ev (fun k => spec_SplitByHashBit.l0 k v a b (i : Int) l) (a ++ spl0 v s, b ++ spl1 v s) := by
  intro s
  induction s with
  | nil =>
    intro i a b hd ha hb
    have := drop_nil' hd
    exact Ev.s (fun k => by rw [spec_SplitByHashBit.l0]) (Ev.e (by omega) (Ev.p.r (by simp [spl0, spl1])))
  | cons x t ih =>
    intro i a b hd ha hbb
    obtain ⟨hi, hd', hx, -⟩ := drop_cons' hd
    refine Ev.s (fun k => by rw [spec_SplitByHashBit.l0]) (Ev.t (by omega) (Ev.t (by omega) ?_))
    rw [rdR, hx, w64s hi (by omega)]
    refine Ev.b (Ev.c (spec_HashBit_eq ..)) (Ev.i (fun h => ?_) (fun h => ?_))
    · exact Ev.t (by omega) ((ih (i + 1) _ _ hd' (by simp; omega) (by omega)).r (by simp [spl0, spl1, hb, h]))
    · exact Ev.t (by omega) ((ih (i + 1) _ _ hd' (by omega) (by simp; omega)).r (by simp [spl0, spl1, hb, h]))
theorem spec_SplitByHashBit_ev (l : List S70) (v : Int) (hl : l.length ≤ 1099511627776) : Ev (fun k => spec_SplitByHashBit.f k l v) (spl0 v l, spl1 v l) :=
  Ev.u (fun _ => rfl) (spec_SplitByHashBit_l0 l v hl l 0 [] [] rfl (by simp) (by simp))
def same (l : List S70) : Bool := l.all fun x => x.f0 == (l.getD 0 z70).f0
theorem impl_AllSameKey_l0 (l : List S70) (hl : l.length ≤ 1152921504606846975) : ∀ (s : List S70) (i : Nat), l.drop i = s → Ev (fun k => impl_AllSameKey.l0 k (l.length : Int) (i : Int) l) (s.all fun x => x.f0 == (l.getD 0 z70).f0) := by
  intro s
  induction s with
  | nil =>
    intro i hd
    have := drop_nil' hd
    exact Ev.s (fun k => by rw [impl_AllSameKey.l0]) (Ev.e (by omega) (Ev.p.r (by rfl)))
  | cons x t ih =>
    intro i hd
    obtain ⟨hi, hd', hx, -⟩ := drop_cons' hd
    refine Ev.s (fun k => by rw [impl_AllSameKey.l0]) (Ev.t (by omega) (Ev.t (by omega) (Ev.t (by omega) (Ev.t (by omega) ?_))))
    have r0 : rd_T70 l 0 = l.getD 0 z70 := rfl
    rw [rdR, hx, w64s hi (by omega), r0]
    refine Ev.i (fun h => ?_) (fun h => ?_)
    · exact (ih (i + 1) hd').r (by simp [h])
    · exact Ev.p.r (by rw [List.all_cons, show (x.f0 == (l.getD 0 z70).f0) = false from beq_eq_false_iff_ne.2 h]; rfl)
theorem impl_AllSameKey_ev (l : List S70) (hl : l.length ≤ 1152921504606846975) : Ev (fun k => impl_AllSameKey.f k l) (same l) :=
  Ev.u (fun _ => rfl) (impl_AllSameKey_l0 l hl l 0 rfl)
theorem spec_AllSameKey_l0 (l : List S70) (hl : l.length ≤ 1152921504606846975) : ∀ (s : List S70) (i : Nat), l.drop i = s → 1 ≤ i → Ev (fun k => spec_AllSameKey.l0 k (i : Int) l) (s.all fun x => x.f0 == (l.getD 0 z70).f0) := by
  intro s
  induction s with
  | nil =>
    intro i hd hi0
    have := drop_nil' hd
    exact Ev.s (fun k => by rw [spec_AllSameKey.l0]) (Ev.e (by omega) (Ev.p.r (by rfl)))
  | cons x t ih =>
    intro i hd hi0
    obtain ⟨hi, hd', hx, -⟩ := drop_cons' hd
    refine Ev.s (fun k => by rw [spec_AllSameKey.l0]) (Ev.t (by omega) (Ev.t (by omega) (Ev.t (by omega) ?_)))
    have r0 : rd_T70 l 0 = l.getD 0 z70 := rfl
    rw [rdR, hx, w64s hi (by omega), r0]
    refine Ev.i (fun h => ?_) (fun h => ?_)
    · exact (ih (i + 1) hd' (by omega)).r (by simp [h])
    · exact Ev.p.r (by rw [List.all_cons, show (x.f0 == (l.getD 0 z70).f0) = false from beq_eq_false_iff_ne.2 h]; rfl)
theorem spec_AllSameKey_ev (l : List S70) (hl : l.length ≤ 1152921504606846975) : Ev (fun k => spec_AllSameKey.f k l) (same l) :=
  Ev.u (fun _ => rfl) ((spec_AllSameKey_l0 l hl (l.drop 1) 1 rfl (by omega)).r (by cases l <;> simp [same]))

theorem setP {α : Type} (pre : List α) (x y : α) (t : List α) : (pre ++ x :: t).set ((pre.length : Int)).toNat y = pre ++ y :: t := by
  rw [Int.toNat_natCast, List.set_append_right _ _ (Nat.le_refl _), Nat.sub_self]; rfl
theorem getP {α : Type} (pre : List α) (x d : α) (t : List α) : (pre ++ x :: t).getD ((pre.length : Int)).toNat d = x := by
  rw [Int.toNat_natCast, List.getD_eq_getElem?_getD, List.getElem?_append_right (Nat.le_refl _), Nat.sub_self]; rfl
theorem rdB (l : List Bool) (i : Nat) : rdOf false l (i : Int) = l.getD i false := rfl
theorem rdI (l : List Int) (i : Nat) : rdOf 0 l (i : Int) = l.getD i 0 := rfl
theorem rdPPair (pre : List S92) (x : S92) (t : List S92) : rd_T92 (pre ++ x :: t) (pre.length : Int) = x := getP pre x z92 t
def tsz (t : S44) : Nat := t.f1.length + t.f2.length + t.f3.length
def nTask (t : S44) : Int := 3 * t.f1.length + 3 * t.f2.length + t.f3.length
theorem impl_IsValidJoinKind_eq (a : Int) : impl_IsValidJoinKind.f a = some (inB a 1 4) := by unfold impl_IsValidJoinKind.f; rw [within_eq]; rfl
theorem spec_IsValidJoinKind_eq (a : Int) : spec_IsValidJoinKind.f a = some (inB a 1 4) := by unfold spec_IsValidJoinKind.f; rw [l1In_eq]; rfl
def vTask (t : S44) : Bool := inB t.f0 1 4 && (vRows t.f1 && (vRows t.f2 && (decide (t.f3.length = t.f1.length) && inB t.f4 0 4)))
theorem impl_IsValidTask_ev (t : S44) (h : tsz t ≤ 1152921504606846975) : Ev (fun k => impl_IsValidTask.f k t.f0 t.f1 t.f2 t.f3 t.f4) (vTask t) := by
  unfold tsz at h
  refine Ev.u (fun _ => rfl) (Ev.b (Ev.c (impl_IsValidJoinKind_eq _)) (Ev.i (fun a => Ev.b (impl_AreValidRows_ev _ (by omega)) (Ev.i (fun b => Ev.b (impl_AreValidRows_ev _ (by omega)) (Ev.i (fun c => Ev.i (fun d => Ev.b (Ev.c (within_eq _ _ _)) (Ev.p.r ?_)) (fun d => Ev.p.r ?_)) (fun c => Ev.p.r ?_))) (fun b => Ev.p.r ?_))) (fun a => Ev.p.r ?_)))
  · have : t.f3.length = t.f1.length := by omega
    simp [vTask, a, b, c, this]
  · have : ¬ t.f3.length = t.f1.length := by omega
    simp [vTask, a, b, c, this]
  · simp [vTask, a, b, c]
  · simp [vTask, a, b]
  · simp [vTask, a]
theorem spec_IsValidTask_ev (t : S44) (h : tsz t ≤ 1152921504606846975) : Ev (fun k => spec_IsValidTask.f k t.f0 t.f1 t.f2 t.f3 t.f4) (vTask t) := by
  unfold tsz at h
  refine Ev.u (fun _ => rfl) (Ev.b (Ev.c (spec_IsValidJoinKind_eq _)) (Ev.i (fun a => Ev.b (spec_AreValidRows_ev _ (by omega)) (Ev.i (fun b => Ev.b (spec_AreValidRows_ev _ (by omega)) (Ev.i (fun c => Ev.i (fun d => Ev.b (Ev.c (l1In_eq _ _ _)) (Ev.p.r ?_)) (fun d => Ev.p.r ?_)) (fun c => Ev.p.r ?_))) (fun b => Ev.p.r ?_))) (fun a => Ev.p.r ?_)))
  · have : t.f3.length = t.f1.length := by omega
    simp [vTask, a, b, c, this]
  · have : ¬ t.f3.length = t.f1.length := by omega
    simp [vTask, a, b, c, this]
  · simp [vTask, a, b, c]
  · simp [vTask, a, b]
  · simp [vTask, a]
theorem vRows_len {l : List S70} (h : vRows l = true) : l.length ≤ 24 := by
  unfold vRows at h; rw [Bool.and_eq_true] at h; exact of_decide_eq_true h.2
structure VT (t : S44) : Prop where
  kind : 1 ≤ t.f0 ∧ t.f0 ≤ 4
  left : vRows t.f1 = true
  right : vRows t.f2 = true
  len : t.f3.length = t.f1.length
  level : 0 ≤ t.f4 ∧ t.f4 ≤ 4
theorem vTask_iff {t : S44} : vTask t = true ↔ VT t := by
  unfold vTask
  constructor
  · intro h; simp [inB] at h; exact ⟨h.1, h.2.1, h.2.2.1, h.2.2.2.1, h.2.2.2.2⟩
  · intro h; simp [inB]; exact ⟨h.kind, h.left, h.right, h.len, h.level⟩
theorem VT.b {t : S44} (h : VT t) : t.f1.length ≤ 24 ∧ t.f2.length ≤ 24 ∧ t.f3.length ≤ 24 := ⟨vRows_len h.left, vRows_len h.right, by rw [h.len]; exact vRows_len h.left⟩
def taskCost (t : S44) : Int := tCost t.f1 + tCost t.f2
theorem impl_TaskCost_ev (t : S44) (h : tsz t ≤ 1125899906842624) : Ev (fun k => impl_TaskCost.f k t.f0 t.f1 t.f2 t.f3 t.f4) (taskCost t) := by
  unfold tsz at h
  have h1 := tCost_b t.f1
  have h2 := tCost_b t.f2
  exact Ev.u (fun _ => rfl) (Ev.b (impl_TotalCost_ev _ (by omega)) (Ev.b (impl_TotalCost_ev _ (by omega)) (Ev.p.r (w64 (by omega) (by omega)))))
theorem spec_TaskCost_ev (t : S44) (h : tsz t ≤ 1125899906842624) : Ev (fun k => spec_TaskCost.f k t.f0 t.f1 t.f2 t.f3 t.f4) (taskCost t) := by
  unfold tsz at h
  have h1 := tCost_b t.f1
  have h2 := tCost_b t.f2
  exact Ev.u (fun _ => rfl) (Ev.b (spec_TotalCost_ev _ (by omega)) (Ev.b (spec_TotalCost_ev _ (by omega)) (Ev.p.r (w64 (by omega) (by omega)))))
def needsN (t : S44) : Bool := decide (t.f4 ≥ 4) || same t.f2
theorem impl_NeedsNestedLoop_ev (t : S44) (h : tsz t ≤ 1125899906842624) : Ev (fun k => impl_NeedsNestedLoop.f k t.f0 t.f1 t.f2 t.f3 t.f4) (needsN t) := by
  unfold tsz at h
  exact Ev.u (fun _ => rfl) (Ev.i (fun h => Ev.p.r (by simp [needsN, h])) (fun h => Ev.b (impl_AllSameKey_ev _ (by omega)) (Ev.p.r (by simp [needsN, h]))))
theorem spec_NeedsNestedLoop_ev (t : S44) (h : tsz t ≤ 1125899906842624) : Ev (fun k => spec_NeedsNestedLoop.f k t.f0 t.f1 t.f2 t.f3 t.f4) (needsN t) := by
  unfold tsz at h
  exact Ev.u (fun _ => rfl) (Ev.i (fun h => Ev.p.r (by simp [needsN, h])) (fun h => Ev.b (spec_AllSameKey_ev _ (by omega)) (Ev.p.r (by simp [needsN, h]))))
def bSide (t : S44) (g : Int) : Int := if vTask t = true then (if t.f0 = 1 ∧ tCost t.f1 < tCost t.f2 ∧ tCost t.f1 ≤ g then 1 else if tCost t.f2 ≤ g then 2 else 0) else 0
theorem impl_BuildSide_ev (t : S44) (g : Int) (h : tsz t ≤ 1125899906842624) : Ev (fun k => impl_BuildSide.f k t.f0 t.f1 t.f2 t.f3 t.f4 g) (bSide t g) := by
  have hv := impl_IsValidTask_ev t (by omega)
  unfold tsz at h
  refine Ev.u (fun _ => rfl) (Ev.b hv (Ev.i (fun a => Ev.b (impl_TotalCost_ev _ (by omega)) (Ev.b (impl_TotalCost_ev _ (by omega)) (Ev.i (fun b => Ev.i (fun c => Ev.i (fun d => Ev.p.r ?_) (fun d => Ev.i (fun e => Ev.p.r ?_) (fun e => Ev.p.r ?_))) (fun c => Ev.i (fun e => Ev.p.r ?_) (fun e => Ev.p.r ?_))) (fun b => Ev.i (fun e => Ev.p.r ?_) (fun e => Ev.p.r ?_))))) (fun a => Ev.p.r ?_)))
  all_goals (unfold bSide; first | (rw [if_neg a]; done) | (rw [if_pos a]; (repeat' split) <;> omega))
theorem spec_BuildSide_j0 (t : S44) (g a b : Int) (h : tsz t ≤ 1125899906842624) : Ev (fun k => spec_BuildSide.j0 k g a b t.f1 t.f2 t.f3) (if tCost t.f2 ≤ g then 2 else 0) := by
  unfold tsz at h
  refine Ev.s (fun k => by rw [spec_BuildSide.j0]) (Ev.b (spec_TotalCost_ev _ (by omega)) (Ev.i (fun e => Ev.p.r ?_) (fun e => Ev.p.r ?_)))
  · rw [if_pos e]
  · rw [if_neg e]
theorem spec_BuildSide_ev (t : S44) (g : Int) (h : tsz t ≤ 1125899906842624) : Ev (fun k => spec_BuildSide.f k t.f0 t.f1 t.f2 t.f3 t.f4 g) (bSide t g) := by
  have hv := spec_IsValidTask_ev t (by omega)
  have hj := fun a b => spec_BuildSide_j0 t g a b h
  unfold tsz at h
  refine Ev.u (fun _ => rfl) (Ev.b hv (Ev.i (fun a => Ev.i (fun b => Ev.b (spec_TotalCost_ev _ (by omega)) (Ev.b (spec_TotalCost_ev _ (by omega)) (Ev.i (fun c => Ev.b (spec_TotalCost_ev _ (by omega)) (Ev.i (fun d => Ev.p.r ?_) (fun d => (hj _ _).r ?_))) (fun c => (hj _ _).r ?_)))) (fun b => (hj _ _).r ?_)) (fun a => Ev.p.r ?_)))
  all_goals (unfold bSide; first | (rw [if_neg a]; done) | (rw [if_pos a]; (repeat' split) <;> omega))
def zl (t : S44) : List (S70 × Bool) := t.f1.zip t.f3
def part0 (t : S44) : S44 := ⟨t.f0, ((zl t).filter fun p => hb t.f4 p.1).map (·.1), spl0 t.f4 t.f2, ((zl t).filter fun p => hb t.f4 p.1).map (·.2), t.f4 + 1⟩
def part1 (t : S44) : S44 := ⟨t.f0, ((zl t).filter fun p => !hb t.f4 p.1).map (·.1), spl1 t.f4 t.f2, ((zl t).filter fun p => !hb t.f4 p.1).map (·.2), t.f4 + 1⟩
def parts (t : S44) : Bool := vTask t && decide (t.f4 ≠ 4)
theorem part_zip {l : List S70} {m : List Bool} {i : Nat} {x : S70} {s : List S70} (hm : m.length = l.length) (hd : l.drop i = x :: s) : ∃ b u, m.drop i = b :: u ∧ (l.zip m).drop i = (x, b) :: (l.zip m).drop (i + 1) := by
  obtain ⟨hi, hd', hx, -⟩ := drop_cons' hd
  have hmi : i < m.length := by omega
  refine ⟨m[i], m.drop (i + 1), (List.drop_eq_getElem_cons hmi), ?_⟩
  have hz : i < (l.zip m).length := by rw [List.length_zip]; omega
  rw [List.drop_eq_getElem_cons hz, List.getElem_zip]
  have := hx z70
  rw [List.getD_eq_getElem?_getD, List.getElem?_eq_getElem hi] at this
  simp at this
  rw [this]
theorem hBit_01 (a b : Int) : hBit a b = 0 ∨ hBit a b = 1 := by
  unfold hBit
  split
  · unfold andI
    generalize shrI (Int.tmod (a * 7) 16) b = x
    have h1 : (BitVec.ofInt 64 x &&& BitVec.ofInt 64 1).toNat = (BitVec.ofInt 64 x).toNat % 2 := by
      rw [BitVec.toNat_and, show (BitVec.ofInt 64 1).toNat = 1 from rfl, Nat.and_one_is_mod]
    rw [h1]
    have h2 : (BitVec.ofInt 64 x).toNat % 2 < 2 := Nat.mod_lt _ (by omega)
    rw [w64 (by omega) (by omega)]
    omega
  · exact .inl rfl

def fz0 (v : Int) (z : List (S70 × Bool)) : List (S70 × Bool) := z.filter fun p => hb v p.1
def fz1 (v : Int) (z : List (S70 × Bool)) : List (S70 × Bool) := z.filter fun p => !hb v p.1
theorem rdBool (l : List Bool) (i : Nat) {b : Bool} {u : List Bool} (h : l.drop i = b :: u) : rdOf false l (i : Int) = b := by
  rw [rdB]; exact (drop_cons' h).2.2.1 _
theorem impl_PartitionTask_l0 (t : S44) (hl : t.f3.length = t.f1.length) (hs : tsz t ≤ 1099511627776) (e0 e4 f0 f4 : Int) (e1 e2 f1 f2 : List S70) (e3 f3 : List Bool) (q : Int) (c0 c4 d0 d4 : Int) (c2 d2 : List S70) : ∀ (s : List S70) (i : Nat) (a1 b1 : List S70) (a3 b3 : List Bool), t.f1.drop i = s → a1.length ≤ i → b1.length ≤ i → a3.length ≤ i → b3.length ≤ i →
    Ev (fun k => impl_PartitionTask.l0 k (t.f1.length : Int) (i : Int) q t.f4 e0 e1 e2 e3 e4 f0 f1 f2 f3 f4 c0 a1 c2 a3 c4 d0 b1 d2 b3 d4 t.f1 t.f2 t.f3)
      (c0, a1 ++ (fz0 t.f4 ((zl t).drop i)).map (·.1), spl0 t.f4 t.f2, a3 ++ (fz0 t.f4 ((zl t).drop i)).map (·.2), c4, d0, b1 ++ (fz1 t.f4 ((zl t).drop i)).map (·.1), spl1 t.f4 t.f2, b3 ++ (fz1 t.f4 ((zl t).drop i)).map (·.2), d4, true) := by
  unfold tsz at hs
  intro s
  induction s with
  | nil =>
    intro i a1 b1 a3 b3 hd h1 h2 h3 h4
    have := drop_nil' hd
    have hz : (zl t).drop i = [] := List.drop_eq_nil_iff.2 (by rw [zl, List.length_zip]; omega)
    refine Ev.s (fun k => by rw [impl_PartitionTask.l0]) (Ev.e (by omega) (Ev.b (impl_SplitByHashBit_ev _ _ (by omega)) (Ev.p.r ?_)))
    rw [hz]; simp [fz0, fz1]
  | cons x s ih =>
    intro i a1 b1 a3 b3 hd h1 h2 h3 h4
    obtain ⟨hi, hd', hx, -⟩ := drop_cons' hd
    obtain ⟨b, u, hb1, hz⟩ := part_zip hl hd
    refine Ev.s (fun k => by rw [impl_PartitionTask.l0]) (Ev.t (by omega) (Ev.t (by omega) (Ev.t (by omega) ?_)))
    rw [rdR, hx, w64s hi (by omega), rdBool _ _ hb1]
    refine Ev.b (Ev.c (impl_HashBit_eq ..)) (Ev.i (fun h => ?_) (fun h => Ev.t ((hBit_01 _ _).resolve_left h) ?_))
    · refine Ev.t (by omega) (Ev.t (by omega) (Ev.t (by omega) ((ih (i + 1) _ _ _ _ hd' (by simp; omega) (by omega) (by simp; omega) (by omega)).r ?_)))
      rw [show (zl t).drop i = (x, b) :: (zl t).drop (i + 1) from hz]
      simp [fz0, fz1, hb, h]
    · refine Ev.t (by omega) (Ev.t (by omega) (Ev.t (by omega) ((ih (i + 1) _ _ _ _ hd' (by omega) (by simp; omega) (by omega) (by simp; omega)).r ?_)))
      rw [show (zl t).drop i = (x, b) :: (zl t).drop (i + 1) from hz]
      simp [fz0, fz1, hb, h]
theorem spec_PartitionTask_l0 (t : S44) (hl : t.f3.length = t.f1.length) (hs : tsz t ≤ 1099511627776) (e0 e4 f0 f4 : Int) (e1 e2 f1 f2 : List S70) (e3 f3 : List Bool) (q : Int) (c0 c4 d0 d4 : Int) (c2 d2 : List S70) : ∀ (s : List S70) (i : Nat) (a1 b1 : List S70) (a3 b3 : List Bool), t.f1.drop i = s → a1.length ≤ i → b1.length ≤ i → a3.length ≤ i → b3.length ≤ i →
    Ev (fun k => spec_PartitionTask.l0 k (i : Int) q t.f4 e0 e1 e2 e3 e4 f0 f1 f2 f3 f4 c0 a1 c2 a3 c4 d0 b1 d2 b3 d4 t.f1 t.f2 t.f3)
      (c0, a1 ++ (fz0 t.f4 ((zl t).drop i)).map (·.1), c2, a3 ++ (fz0 t.f4 ((zl t).drop i)).map (·.2), c4, d0, b1 ++ (fz1 t.f4 ((zl t).drop i)).map (·.1), d2, b3 ++ (fz1 t.f4 ((zl t).drop i)).map (·.2), d4, true) := by
  unfold tsz at hs
  intro s
  induction s with
  | nil =>
    intro i a1 b1 a3 b3 hd h1 h2 h3 h4
    have := drop_nil' hd
    have hz : (zl t).drop i = [] := List.drop_eq_nil_iff.2 (by rw [zl, List.length_zip]; omega)
    refine Ev.s (fun k => by rw [spec_PartitionTask.l0]) (Ev.e (by omega) (Ev.p.r ?_))
    rw [hz]; simp [fz0, fz1]
  | cons x s ih =>
    intro i a1 b1 a3 b3 hd h1 h2 h3 h4
    obtain ⟨hi, hd', hx, -⟩ := drop_cons' hd
    obtain ⟨b, u, hb1, hz⟩ := part_zip hl hd
    refine Ev.s (fun k => by rw [spec_PartitionTask.l0]) (Ev.t (by omega) (Ev.t (by omega) ?_))
    rw [rdR, hx, w64s hi (by omega), rdBool _ _ hb1]
    refine Ev.b (Ev.c (spec_HashBit_eq ..)) (Ev.i (fun h => ?_) (fun h => ?_))
    · refine Ev.t (by omega) (Ev.t (by omega) (Ev.t (by omega) ((ih (i + 1) _ _ _ _ hd' (by simp; omega) (by omega) (by simp; omega) (by omega)).r ?_)))
      rw [show (zl t).drop i = (x, b) :: (zl t).drop (i + 1) from hz]
      simp [fz0, fz1, hb, h]
    · refine Ev.t (by omega) (Ev.t (by omega) (Ev.t (by omega) ((ih (i + 1) _ _ _ _ hd' (by omega) (by simp; omega) (by omega) (by simp; omega)).r ?_)))
      rw [show (zl t).drop i = (x, b) :: (zl t).drop (i + 1) from hz]
      simp [fz0, fz1, hb, h]
def pT0 (t : S44) : S44 := if parts t = true then part0 t else z44
def pT1 (t : S44) : S44 := if parts t = true then part1 t else z44
abbrev tup (a b : S44) (r : Bool) : Int × List S70 × List S70 × List Bool × Int × Int × List S70 × List S70 × List Bool × Int × Bool := (a.f0, a.f1, a.f2, a.f3, a.f4, b.f0, b.f1, b.f2, b.f3, b.f4, r)
theorem impl_PartitionTask_ev (t : S44) (hs : tsz t ≤ 1099511627776) : Ev (fun k => impl_PartitionTask.f k t.f0 t.f1 t.f2 t.f3 t.f4) (tup (pT0 t) (pT1 t) (parts t)) := by
  have hs' := hs
  refine Ev.u (fun _ => rfl) (Ev.b (impl_IsValidTask_ev t (by omega)) (Ev.i (fun a => Ev.i (fun b => Ev.p.r ?_) (fun b => ?_)) (fun a => Ev.p.r ?_)))
  · have : parts t = false := by simp [parts, a, b]
    simp [tup, pT0, pT1, this, z44]
  · have hp : parts t = true := by simp [parts, a, b]
    have hv := vTask_iff.1 a
    rw [w64 (by have := hv.level; omega) (by have := hv.level; omega)]
    refine (impl_PartitionTask_l0 t hv.len hs _ _ _ _ _ _ _ _ _ _ _ t.f0 (t.f4 + 1) t.f0 (t.f4 + 1) [] [] t.f1 0 [] [] [] [] rfl (by simp) (by simp) (by simp) (by simp)).r ?_
    simp [tup, pT0, pT1, hp, part0, part1, fz0, fz1]
  · have : parts t = false := by simp [parts, a]
    simp [tup, pT0, pT1, this, z44]
theorem spec_PartitionTask_ev (t : S44) (hs : tsz t ≤ 1099511627776) : Ev (fun k => spec_PartitionTask.f k t.f0 t.f1 t.f2 t.f3 t.f4) (tup (pT0 t) (pT1 t) (parts t)) := by
  have hs' := hs
  unfold tsz at hs'
  refine Ev.u (fun _ => rfl) (Ev.b (spec_IsValidTask_ev t (by omega)) (Ev.i (fun a => Ev.i (fun b => Ev.p.r ?_) (fun b => Ev.b (spec_SplitByHashBit_ev _ _ (by omega)) ?_)) (fun a => Ev.p.r ?_)))
  · have : parts t = false := by simp [parts, a, b]
    simp [tup, pT0, pT1, this, z44]
  · have hp : parts t = true := by simp [parts, a, b]
    have hv := vTask_iff.1 a
    rw [w64 (by have := hv.level; omega) (by have := hv.level; omega)]
    refine (spec_PartitionTask_l0 t hv.len hs _ _ _ _ _ _ _ _ _ _ _ t.f0 (t.f4 + 1) t.f0 (t.f4 + 1) _ _ t.f1 0 [] [] [] [] rfl (by simp) (by simp) (by simp) (by simp)).r ?_
    simp [tup, pT0, pT1, hp, part0, part1, fz0, fz1]
  · have : parts t = false := by simp [parts, a]
    simp [tup, pT0, pT1, this, z44]
theorem VT.p {t : S44} (h : VT t) : tsz t ≤ 72 := by have := h.b; unfold tsz; omega
theorem vAll_sub {l m : List S70} (h : vAll l = true) (hs : ∀ x ∈ m, x ∈ l) : vAll m = true := by
  unfold vAll at *; rw [List.all_eq_true] at *; exact fun x hx => h x (hs x hx)
theorem vRows_iff {l : List S70} : vRows l = true ↔ vAll l = true ∧ l.length ≤ 24 := by unfold vRows; rw [Bool.and_eq_true, decide_eq_true_iff]
theorem vRows_sub {l m : List S70} (h : vRows l = true) (hs : m.Sublist l) : vRows m = true := by
  rw [vRows_iff] at *; exact ⟨vAll_sub h.1 hs.subset, Nat.le_trans hs.length_le h.2⟩
theorem zl_fst {t : S44} (h : t.f3.length = t.f1.length) : (zl t).map (·.1) = t.f1 := List.map_fst_zip (by omega)
theorem part_VT {t : S44} (h : VT t) (h4 : t.f4 ≠ 4) : VT (part0 t) ∧ VT (part1 t) := by
  have e := zl_fst h.len
  have key : ∀ f : S70 × Bool → Bool, (((zl t).filter f).map (·.1)).Sublist t.f1 := fun f => by
    have := (List.filter_sublist (p := f) (l := zl t)).map (·.1)
    rwa [e] at this
  have hl := h.level
  refine ⟨⟨h.kind, vRows_sub h.left (key _), vRows_sub h.right List.filter_sublist, by simp [part0], ?_⟩, ⟨h.kind, vRows_sub h.left (key _), vRows_sub h.right List.filter_sublist, by simp [part1], ?_⟩⟩
  · show 0 ≤ t.f4 + 1 ∧ t.f4 + 1 ≤ 4; omega
  · show 0 ≤ t.f4 + 1 ∧ t.f4 + 1 ≤ 4; omega
theorem pT_sz (t : S44) : tsz (pT0 t) ≤ 72 ∧ tsz (pT1 t) ≤ 72 := by
  unfold pT0 pT1
  by_cases h : parts t = true
  · rw [if_pos h, if_pos h]
    unfold parts at h
    rw [Bool.and_eq_true, decide_eq_true_iff] at h
    have := part_VT (vTask_iff.1 h.1) h.2
    exact ⟨this.1.p, this.2.p⟩
  · rw [if_neg h, if_neg h]; exact ⟨by decide, by decide⟩

def jc (kind : Int) (c : List S70) (p : S70 × Bool) : List S92 :=
  if nKey p.1.f0 c = 0 then [] else if kind = 2 then (if p.2 = true then [] else [⟨p.1, ⟨0, 0, 0⟩, false⟩]) else if kind = 1 ∨ kind = 4 then (c.filter fun r => r.f0 == p.1.f0).map fun r => ⟨p.1, r, true⟩ else []
def jm (c : List S70) (p : S70 × Bool) : Bool := p.2 || decide (nKey p.1.f0 c ≠ 0)
theorem jc_len (kind : Int) (c : List S70) (p : S70 × Bool) : (jc kind c p).length ≤ c.length + 1 := by
  unfold jc
  split
  · simp
  · split
    · split <;> simp
    · split
      · rw [List.length_map]; have := List.length_filter_le (fun r : S70 => r.f0 == p.1.f0) c; omega
      · simp
theorem setM (a : List Bool) (b : Bool) (u : List Bool) {i : Nat} (h : a.length = i) : (a ++ b :: u).set ((i : Int)).toNat true = a ++ true :: u := by subst h; exact setP a b true u
theorem impl_JoinChunk_l1 (c : List S70) (hc : c.length ≤ 1099511627776) (i n i' : Int) (L : List S70) (g0 g4 : Int) (g1 g2 : List S70) (g3 : List Bool) (y0 y4 : Int) (y1 y2 : List S70) (y3 : List Bool) (x : S70) (r : List S92 × Int × List S70 × List S70 × List Bool × Int) :
    ∀ (s : List S70) (q : Nat) (P : List S92), c.drop q = s → P.length + s.length ≤ 2199023255552 →
    Ev (fun k => impl_JoinChunk.j0 k (P ++ (s.filter fun r => r.f0 == x.f0).map fun r => ⟨x, r, true⟩) i L n i' g0 g1 g2 g3 g4 y0 y1 y2 y3 y4 c) r →
    Ev (fun k => impl_JoinChunk.l1 k P i L n i' (c.length : Int) (q : Int) g0 g1 g2 g3 g4 y0 y1 y2 y3 y4 x.f0 x.f1 x.f2 c) r := by
  intro s
  induction s with
  | nil =>
    intro q P hd hP hj
    have := drop_nil' hd
    refine Ev.s (fun k => by rw [impl_JoinChunk.l1]) (Ev.e (by omega) ?_)
    simpa using hj
  | cons z s ih =>
    intro q P hd hP hj
    rw [List.length_cons] at hP
    obtain ⟨hi, hd', hx, -⟩ := drop_cons' hd
    refine Ev.s (fun k => by rw [impl_JoinChunk.l1]) (Ev.t (by omega) (Ev.t (by omega) (Ev.t (by omega) ?_)))
    rw [rdR, hx, w64s hi (by omega)]
    refine Ev.i (fun h => Ev.t (by omega) (ih (q + 1) _ hd' (by simp; omega) ?_)) (fun h => ih (q + 1) _ hd' (by omega) ?_)
    · rw [List.filter_cons_of_pos (by simp [h])] at hj; simpa using hj
    · rw [List.filter_cons_of_neg (by simp [h])] at hj; simpa using hj
theorem impl_JoinChunk_l0 (t : S44) (c : List S70) (hl : t.f3.length = t.f1.length) (hb : t.f1.length ≤ 24) (hc : c.length ≤ 2097152) (g0 g4 : Int) (g1 g2 : List S70) (g3 : List Bool) : ∀ (s : List S70) (i : Nat) (P : List S92) (a : List Bool), t.f1.drop i = s → a.length = i → P.length + s.length * (c.length + 1) ≤ 1099511627776 →
    Ev (fun k => impl_JoinChunk.l0 k P t.f1 (t.f1.length : Int) (i : Int) g0 g1 g2 g3 g4 t.f0 t.f1 t.f2 (a ++ t.f3.drop i) t.f4 c)
      (P ++ ((zl t).drop i).flatMap (jc t.f0 c), t.f0, t.f1, t.f2, a ++ ((zl t).drop i).map (jm c), t.f4) := by
  intro s
  induction s with
  | nil =>
    intro i P a hd ha hP
    have := drop_nil' hd
    have hz : (zl t).drop i = [] := List.drop_eq_nil_iff.2 (by rw [zl, List.length_zip]; omega)
    have hz3 : t.f3.drop i = [] := List.drop_eq_nil_iff.2 (by omega)
    refine Ev.s (fun k => by rw [impl_JoinChunk.l0]) (Ev.e (by omega) (Ev.p.r ?_))
    rw [hz, hz3]; simp
  | cons x s ih =>
    intro i P a hd ha hP
    obtain ⟨hi, hd', hx, -⟩ := drop_cons' hd
    obtain ⟨b, u, hb1, hz⟩ := part_zip hl hd
    have hz' : (zl t).drop i = (x, b) :: (zl t).drop (i + 1) := hz
    have hu : u = t.f3.drop (i + 1) := (drop_cons' hb1).2.1.symm
    rw [List.length_cons, Nat.succ_mul] at hP
    have hjl := jc_len t.f0 c (x, b)
    have hrd : rdOf false (a ++ t.f3.drop i) (i : Int) = b := by rw [hb1, rdB]; subst ha; exact getP a b false u
    -- what comes behind
    have nxt : ∀ (P' : List S92), P' = P ++ jc t.f0 c (x, b) → nKey x.f0 c ≠ 0 → ∀ i' : Int, i' = (i : Int) →
        Ev (fun k => impl_JoinChunk.j0 k P' i' t.f1 (t.f1.length : Int) i' g0 g1 g2 g3 g4 t.f0 t.f1 t.f2 (a ++ t.f3.drop i) t.f4 c) (P ++ ((zl t).drop i).flatMap (jc t.f0 c), t.f0, t.f1, t.f2, a ++ ((zl t).drop i).map (jm c), t.f4) := by
      intro P' hP' hn i' hi'
      subst hP' hi'
      refine Ev.s (fun k => by rw [impl_JoinChunk.j0]) (Ev.t (by omega) (Ev.t (by rw [hb1]; simp; omega) ?_))
      rw [hb1, setM a b u ha, w64s hi (by omega)]
      have h := ih (i + 1) (P ++ jc t.f0 c (x, b)) (a ++ [true]) hd' (by simp [ha]) (by rw [List.length_append]; omega)
      simp only [List.append_assoc, List.singleton_append, ← hu] at h
      refine h.r ?_
      rw [hz', List.flatMap_cons, List.map_cons, show jm c (x, b) = true by simp [jm, hn]]
    refine Ev.s (fun k => by rw [impl_JoinChunk.l0]) (Ev.t (by omega) (Ev.t (by omega) (Ev.t (by omega) ?_)))
    rw [rdR, hx]
    refine Ev.b (impl_CountMatches_ev c _ _ _ (by omega)) (Ev.i (fun h => ?_) (fun h => ?_))
    · have hn : nKey x.f0 c = 0 := by omega
      rw [w64s hi (by omega)]
      have h := ih (i + 1) P (a ++ [b]) hd' (by simp [ha]) (by omega)
      simp only [List.append_assoc, List.singleton_append] at h
      rw [hb1, hu]
      refine h.r ?_
      rw [hz', List.flatMap_cons, List.map_cons, show jm c (x, b) = b by simp [jm, hn], show jc t.f0 c (x, b) = [] by simp [jc, hn], List.nil_append]
    · have hn : nKey x.f0 c ≠ 0 := by omega
      refine Ev.i (fun h2 => Ev.t (by rw [List.length_append, hb1]; simp; omega) ?_) (fun h2 => ?_)
      · rw [hrd]
        refine Ev.i (fun h3 => nxt _ (by simp [jc, hn, h2, h3]) hn _ rfl) (fun h3 => Ev.t (by omega) (nxt _ (by simp [jc, hn, h2, h3]) hn _ rfl))
      · refine Ev.i (fun h3 => ?_) (fun h3 => ?_)
        · rw [show decide (t.f0 = 1) = true by simp [h3]]
          refine Ev.s (fun k => by rw [impl_JoinChunk.j1]) (Ev.t rfl ?_)
          exact impl_JoinChunk_l1 c (by omega) _ _ _ _ _ _ _ _ _ _ _ _ _ _ x _ c 0 P rfl (by omega) (nxt _ (by simp [jc, hn, h3]) hn _ rfl)
        · refine Ev.s (fun k => by rw [impl_JoinChunk.j1]) (Ev.i (fun h4 => ?_) (fun h4 => ?_))
          · have h4' : t.f0 = 4 := by simpa using h4
            exact impl_JoinChunk_l1 c (by omega) _ _ _ _ _ _ _ _ _ _ _ _ _ _ x _ c 0 P rfl (by omega) (nxt _ (by simp [jc, hn, h4']) hn _ rfl)
          · have h4' : ¬ t.f0 = 4 := by simpa using h4
            exact nxt _ (by simp [jc, hn, h2, h3, h4']) hn _ rfl
def jP (t : S44) (c : List S70) : List S92 := if vTask t = true then (zl t).flatMap (jc t.f0 c) else []
def jT (t : S44) (c : List S70) : S44 := if vTask t = true then { t with f3 := (zl t).map (jm c) } else t
abbrev ptup (p : List S92) (t : S44) : List S92 × Int × List S70 × List S70 × List Bool × Int := (p, t.f0, t.f1, t.f2, t.f3, t.f4)
theorem impl_cloneTask_eq (t : S44) (h : tsz t ≤ 1099511627776) : impl_cloneTask.f t.f0 t.f1 t.f2 t.f3 t.f4 = some (t.f0, t.f1, t.f2, t.f3, t.f4) := by
  unfold tsz at h
  unfold impl_cloneTask.f
  rw [if_pos (by omega), impl_clone_eq _ (by omega), impl_clone_eq _ (by omega)]; rfl
theorem spec_l16Copy_eq (t : S44) (h : tsz t ≤ 1099511627776) : spec_l16Copy.f t.f0 t.f1 t.f2 t.f3 t.f4 = some (t.f0, t.f1, t.f2, t.f3, t.f4) := by
  unfold tsz at h
  unfold spec_l16Copy.f
  rw [if_pos (by omega), if_pos (by omega), if_pos (by omega)]
theorem impl_JoinChunk_ev (t : S44) (c : List S70) (ht : tsz t ≤ 1099511627776) (hc : c.length ≤ 2097152) : Ev (fun k => impl_JoinChunk.f k t.f0 t.f1 t.f2 t.f3 t.f4 c) (ptup (jP t c) (jT t c)) := by
  refine Ev.u (fun _ => rfl) (Ev.b (Ev.c (impl_cloneTask_eq t ht)) (Ev.b (impl_IsValidTask_ev t (by omega)) (Ev.i (fun h => ?_) (fun h => Ev.p.r ?_))))
  · have hv := vTask_iff.1 h
    have hb := hv.b
    have hm : 24 * (c.length + 1) ≤ 1099511627776 := by omega
    have := impl_JoinChunk_l0 t c hv.len hb.1 hc 0 0 [] [] [] t.f1 0 [] [] rfl rfl (by
      have := Nat.mul_le_mul_right (c.length + 1) hb.1
      simp only [List.length_nil]; omega)
    refine this.r ?_
    simp [ptup, jP, jT, h]
  · simp [ptup, jP, jT, h]
theorem spec_l7One_l0 (c : List S70) (hc : c.length ≤ 1099511627776) (n : Int) (hn : n ≠ 0) (x : S70) : ∀ (s : List S70) (q : Nat) (P : List S92), c.drop q = s → P.length + s.length ≤ 2199023255552 →
    Ev (fun k => spec_l7One.l0 k 1 P n (q : Int) x.f0 x.f1 x.f2 c) (P ++ (s.filter fun r => r.f0 == x.f0).map fun r => ⟨x, r, true⟩) := by
  intro s
  induction s with
  | nil =>
    intro q P hd hP
    have := drop_nil' hd
    exact Ev.s (fun k => by rw [spec_l7One.l0]) (Ev.e (by omega) (Ev.e hn (Ev.p.r (by simp))))
  | cons z s ih =>
    intro q P hd hP
    rw [List.length_cons] at hP
    obtain ⟨hi, hd', hx, -⟩ := drop_cons' hd
    refine Ev.s (fun k => by rw [spec_l7One.l0]) (Ev.t (by omega) (Ev.t (by omega) ?_))
    rw [rdR, hx, w64s hi (by omega)]
    refine Ev.i (fun h => Ev.t (by omega) ((ih (q + 1) _ hd' (by simp; omega)).r ?_)) (fun h => (ih (q + 1) _ hd' (by omega)).r ?_)
    · rw [List.filter_cons_of_pos (by simp [h])]; simp
    · rw [List.filter_cons_of_neg (by simp [h])]
theorem spec_l7One_1 (c : List S70) (hc : c.length ≤ 1099511627776) (x : S70) (hn : nKey x.f0 c ≠ 0) : Ev (fun k => spec_l7One.f k 1 x.f0 x.f1 x.f2 c) ((c.filter fun r => r.f0 == x.f0).map fun r => ⟨x, r, true⟩) :=
  Ev.u (fun _ => rfl) (Ev.b (spec_CountMatches_ev c _ _ _ (by omega)) (Ev.e (by omega) (Ev.e (by omega) (spec_l7One_l0 c hc _ (by omega) x c 0 [] rfl (by simp; omega)))))
theorem spec_JoinChunk_l0 (t : S44) (c : List S70) (hv : vTask t = true) (hc : c.length ≤ 2097152) (g0 g4 : Int) (g1 g2 : List S70) (g3 : List Bool) : ∀ (s : List S70) (i : Nat) (P : List S92) (a : List Bool), t.f1.drop i = s → a.length = i → P.length + s.length * (c.length + 1) ≤ 1099511627776 →
    Ev (fun k => spec_JoinChunk.l0 k P (i : Int) t.f0 t.f4 g0 g1 g2 g3 g4 t.f0 t.f1 t.f2 (a ++ t.f3.drop i) t.f4 c t.f1 t.f2 t.f3)
      (P ++ ((zl t).drop i).flatMap (jc t.f0 c), t.f0, t.f1, t.f2, a ++ ((zl t).drop i).map (jm c), t.f4) := by
  have hV := vTask_iff.1 hv
  have hb := hV.b
  have hl := hV.len
  intro s
  induction s with
  | nil =>
    intro i P a hd ha hP
    have := drop_nil' hd
    have hz : (zl t).drop i = [] := List.drop_eq_nil_iff.2 (by rw [zl, List.length_zip]; omega)
    have hz3 : t.f3.drop i = [] := List.drop_eq_nil_iff.2 (by omega)
    refine Ev.s (fun k => by rw [spec_JoinChunk.l0]) (Ev.e (by omega) (Ev.s (fun k => by rw [spec_JoinChunk.j0]) (Ev.p.r ?_)))
    rw [hz, hz3]; simp
  | cons x s ih =>
    intro i P a hd ha hP
    obtain ⟨hi, hd', hx, -⟩ := drop_cons' hd
    obtain ⟨b, u, hb1, hz⟩ := part_zip hl hd
    have hz' : (zl t).drop i = (x, b) :: (zl t).drop (i + 1) := hz
    have hu : u = t.f3.drop (i + 1) := (drop_cons' hb1).2.1.symm
    rw [List.length_cons, Nat.succ_mul] at hP
    have hjl := jc_len t.f0 c (x, b)
    have nxt : ∀ (P' : List S92) (q0 q1 : Int) (bb : Bool), P' = P ++ jc t.f0 c (x, b) → nKey x.f0 c ≠ 0 →
        Ev (fun k => spec_JoinChunk.j1 k P' (i : Int) q0 q1 bb t.f0 t.f4 g0 g1 g2 g3 g4 t.f0 t.f1 t.f2 (a ++ t.f3.drop i) t.f4 c t.f1 t.f2 t.f3) (P ++ ((zl t).drop i).flatMap (jc t.f0 c), t.f0, t.f1, t.f2, a ++ ((zl t).drop i).map (jm c), t.f4) := by
      intro P' q0 q1 bb hP' hn
      subst hP'
      refine Ev.s (fun k => by rw [spec_JoinChunk.j1]) (Ev.t (by omega) (Ev.t (by rw [hb1]; simp; omega) ?_))
      rw [hb1, setM a b u ha, w64s hi (by omega)]
      have h := ih (i + 1) (P ++ jc t.f0 c (x, b)) (a ++ [true]) hd' (by simp [ha]) (by rw [List.length_append]; omega)
      simp only [List.append_assoc, List.singleton_append, ← hu] at h
      refine h.r ?_
      rw [hz', List.flatMap_cons, List.map_cons, show jm c (x, b) = true by simp [jm, hn]]
    have hfl : ((c.filter fun r => r.f0 == x.f0).map fun r => (⟨x, r, true⟩ : S92)).length ≤ c.length := by rw [List.length_map]; exact List.length_filter_le _ _
    have hval := (spec_IsValidTask_ev t (by have := hV.p; omega)).r hv
    refine Ev.s (fun k => by rw [spec_JoinChunk.l0]) ?_
    refine Ev.t (by omega) (Ev.b hval (Ev.t rfl (Ev.t (by omega) ?_)))
    rw [rdR, hx]
    refine Ev.b (spec_CountMatches_ev c _ _ _ (by omega)) (Ev.i (fun h => ?_) (fun h => ?_))
    · have hn : nKey x.f0 c = 0 := by omega
      rw [w64s hi (by omega)]
      have h := ih (i + 1) P (a ++ [b]) hd' (by simp [ha]) (by omega)
      simp only [List.append_assoc, List.singleton_append] at h
      rw [hb1, hu]
      refine h.r ?_
      rw [hz', List.flatMap_cons, List.map_cons, show jm c (x, b) = b by simp [jm, hn], show jc t.f0 c (x, b) = [] by simp [jc, hn], List.nil_append]
    · have hn : nKey x.f0 c ≠ 0 := by omega
      refine Ev.i (fun h2 => Ev.t (by omega) ?_) (fun h2 => ?_)
      · rw [rdBool _ _ hb1]
        refine Ev.i (fun h3 => nxt _ _ _ _ (by simp [jc, hn, h2, h3]) hn) (fun h3 => Ev.t (by omega) (nxt _ _ _ _ (by simp [jc, hn, h2, h3]) hn))
      · refine Ev.i (fun h3 => ?_) (fun h3 => ?_)
        · refine Ev.s (fun k => by rw [spec_JoinChunk.j2]) (Ev.t (by simp [h3]) (Ev.t (by omega) (Ev.t (by omega) ?_)))
          rw [rdR, hx]
          exact Ev.b (spec_l7One_1 c (by omega) x hn) (Ev.t (by omega) (nxt _ _ _ _ (by simp [jc, hn, h3]) hn))
        · refine Ev.s (fun k => by rw [spec_JoinChunk.j2]) (Ev.i (fun h4 => Ev.t (by omega) (Ev.t (by omega) ?_)) (fun h4 => ?_))
          · have h4' : t.f0 = 4 := by simpa using h4
            rw [rdR, hx]
            exact Ev.b (spec_l7One_1 c (by omega) x hn) (Ev.t (by omega) (nxt _ _ _ _ (by simp [jc, hn, h4']) hn))
          · have h4' : ¬ t.f0 = 4 := by simpa using h4
            exact nxt _ _ _ _ (by simp [jc, hn, h2, h3, h4']) hn
theorem spec_JoinChunk_ev (t : S44) (c : List S70) (ht : tsz t ≤ 1099511627776) (hc : c.length ≤ 2097152) : Ev (fun k => spec_JoinChunk.f k t.f0 t.f1 t.f2 t.f3 t.f4 c) (ptup (jP t c) (jT t c)) := by
  refine Ev.u (fun _ => rfl) (Ev.b (Ev.c (spec_l16Copy_eq t ht)) ?_)
  by_cases h : vTask t = true
  · have hb := (vTask_iff.1 h).b
    have := spec_JoinChunk_l0 t c h hc 0 0 [] [] [] t.f1 0 [] [] rfl rfl (by
      have := Nat.mul_le_mul_right (c.length + 1) hb.1
      simp only [List.length_nil]; omega)
    refine this.r ?_
    simp [ptup, jP, jT, h]
  · have hr : ptup (jP t c) (jT t c) = ([], t.f0, t.f1, t.f2, t.f3, t.f4) := by simp [ptup, jP, jT, h]
    rw [hr]
    refine Ev.s (fun k => by rw [spec_JoinChunk.l0]) ?_
    refine Ev.i (fun _ => Ev.b (spec_IsValidTask_ev t (by omega)) (Ev.e h ?_)) (fun _ => ?_)
    · refine Ev.s (fun k => by rw [spec_JoinChunk.j0]) Ev.p
    · refine Ev.s (fun k => by rw [spec_JoinChunk.j0]) Ev.p
theorem jT_sz (t : S44) (c : List S70) : tsz (jT t c) ≤ tsz t ∧ nTask (jT t c) ≤ nTask t ∧ 0 ≤ nTask (jT t c) := by
  unfold jT
  split
  · have : ((zl t).map (jm c)).length ≤ t.f3.length := by rw [List.length_map, zl, List.length_zip]; omega
    unfold tsz nTask
    simp only
    omega
  · unfold nTask; exact ⟨Nat.le_refl _, by omega, by omega⟩
theorem flatMap_len {α β : Type} (f : α → List β) (n : Nat) (h : ∀ x, (f x).length ≤ n) : ∀ l : List α, (l.flatMap f).length ≤ l.length * n
  | [] => by simp
  | x :: l => by rw [List.flatMap_cons, List.length_append, List.length_cons, Nat.succ_mul]; have := h x; have := flatMap_len f n h l; omega
theorem jP_len (t : S44) (c : List S70) : (jP t c).length ≤ 24 * (c.length + 1) := by
  unfold jP
  split
  · rename_i h
    have := flatMap_len (jc t.f0 c) (c.length + 1) (jc_len t.f0 c) (zl t)
    have hz : (zl t).length ≤ 24 := by rw [zl, List.length_zip]; have := (vTask_iff.1 h).b; omega
    exact Nat.le_trans this (Nat.mul_le_mul_right _ hz)
  · simp

def ur (p : S70 × Bool) : List S92 := if p.2 = true then [] else [⟨p.1, ⟨0, 0, 0⟩, false⟩]
def uR (t : S44) : List S92 := if vTask t = true ∧ (t.f0 = 3 ∨ t.f0 = 4) then (zl t).flatMap ur else []
theorem impl_UnmatchedRows_l0 (t : S44) (hl : t.f3.length = t.f1.length) (hb : t.f1.length ≤ 24) (a b : Int) : ∀ (s : List S70) (i : Nat) (P : List S92), t.f1.drop i = s → P.length ≤ i → Ev (fun k => impl_UnmatchedRows.l0 k P (t.f1.length : Int) (i : Int) a b t.f1 t.f2 t.f3) (P ++ ((zl t).drop i).flatMap ur) := by
  intro s
  induction s with
  | nil =>
    intro i P hd hP
    have := drop_nil' hd
    have hz : (zl t).drop i = [] := List.drop_eq_nil_iff.2 (by rw [zl, List.length_zip]; omega)
    exact Ev.s (fun k => by rw [impl_UnmatchedRows.l0]) (Ev.e (by omega) (Ev.p.r (by rw [hz]; simp)))
  | cons x s ih =>
    intro i P hd hP
    obtain ⟨hi, hd', hx, -⟩ := drop_cons' hd
    obtain ⟨b', u, hb1, hz⟩ := part_zip hl hd
    have hz' : (zl t).drop i = (x, b') :: (zl t).drop (i + 1) := hz
    refine Ev.s (fun k => by rw [impl_UnmatchedRows.l0]) (Ev.t (by omega) (Ev.t (by omega) (Ev.t (by omega) (Ev.t (by omega) ?_))))
    rw [rdBool _ _ hb1, rdR, hx, w64s hi (by omega)]
    refine Ev.i (fun h => (ih (i + 1) P hd' (by omega)).r ?_) (fun h => Ev.t (by omega) ((ih (i + 1) _ hd' (by simp; omega)).r ?_))
    · rw [hz', List.flatMap_cons]; simp [ur, h]
    · rw [hz', List.flatMap_cons]; simp [ur, h]
theorem impl_UnmatchedRows_ev (t : S44) (ht : tsz t ≤ 1099511627776) : Ev (fun k => impl_UnmatchedRows.f k t.f0 t.f1 t.f2 t.f3 t.f4) (uR t) := by
  have hj : ∀ a b, vTask t = true → (t.f0 = 3 ∨ t.f0 = 4) → Ev (fun k => impl_UnmatchedRows.j0 k a b t.f1 t.f2 t.f3) (uR t) := by
    intro a b h h2
    have hv := vTask_iff.1 h
    refine Ev.s (fun k => by rw [impl_UnmatchedRows.j0]) ?_
    exact (impl_UnmatchedRows_l0 t hv.len hv.b.1 a b t.f1 0 [] rfl (by simp)).r (by simp [uR, h, h2])
  refine Ev.u (fun _ => rfl) (Ev.b (impl_IsValidTask_ev t (by omega)) (Ev.i (fun h => Ev.i (fun h3 => hj _ _ h (.inl h3)) (fun h3 => Ev.i (fun h4 => hj _ _ h (.inr h4)) (fun h4 => Ev.p.r ?_))) (fun h => Ev.p.r ?_)))
  · simp [uR, h3, h4]
  · simp [uR, h]
theorem spec_UnmatchedRows_l0 (t : S44) (hv : vTask t = true) : ∀ (s : List S70) (i : Nat) (P : List S92), t.f1.drop i = s → P.length ≤ i → Ev (fun k => spec_UnmatchedRows.l0 k P (i : Int) t.f0 t.f4 t.f1 t.f2 t.f3) (P ++ if t.f0 = 3 ∨ t.f0 = 4 then ((zl t).drop i).flatMap ur else []) := by
  have hV := vTask_iff.1 hv
  have hb := hV.b
  have hl := hV.len
  have hval := (spec_IsValidTask_ev t (by have := hV.p; omega)).r hv
  intro s
  induction s with
  | nil =>
    intro i P hd hP
    have := drop_nil' hd
    have hz : (zl t).drop i = [] := List.drop_eq_nil_iff.2 (by rw [zl, List.length_zip]; omega)
    exact Ev.s (fun k => by rw [spec_UnmatchedRows.l0]) (Ev.e (by omega) (Ev.p.r (by rw [hz]; simp)))
  | cons x s ih =>
    intro i P hd hP
    obtain ⟨hi, hd', hx, -⟩ := drop_cons' hd
    obtain ⟨b', u, hb1, hz⟩ := part_zip hl hd
    have hz' : (zl t).drop i = (x, b') :: (zl t).drop (i + 1) := hz
    refine Ev.s (fun k => by rw [spec_UnmatchedRows.l0]) ?_
    refine Ev.t (by omega) (Ev.b hval (Ev.t rfl (Ev.t (by omega) (Ev.t (by omega) ?_))))
    rw [rdBool _ _ hb1, rdR, hx, w64s hi (by omega)]
    refine Ev.i (fun h => (ih (i + 1) P hd' (by omega)).r ?_) (fun h => Ev.i (fun h3 => Ev.t (by omega) ((ih (i + 1) _ hd' (by simp; omega)).r ?_)) (fun h3 => Ev.i (fun h4 => Ev.t (by omega) ((ih (i + 1) _ hd' (by simp; omega)).r ?_)) (fun h4 => (ih (i + 1) P hd' (by omega)).r ?_)))
    · rw [hz', List.flatMap_cons]; simp [ur, h]
    · rw [hz', List.flatMap_cons]; simp [ur, h, h3]
    · rw [hz', List.flatMap_cons]; simp [ur, h, h4]
    · simp [h3, h4]
theorem spec_UnmatchedRows_ev (t : S44) (ht : tsz t ≤ 1099511627776) : Ev (fun k => spec_UnmatchedRows.f k t.f0 t.f1 t.f2 t.f3 t.f4) (uR t) := by
  refine Ev.u (fun k => by rw [spec_UnmatchedRows.f]) ?_
  by_cases h : vTask t = true
  · refine (spec_UnmatchedRows_l0 t h t.f1 0 [] rfl (by simp)).r ?_
    simp [uR, h]
  · have hr : uR t = [] := by simp [uR, h]
    rw [hr]
    refine Ev.s (fun k => by rw [spec_UnmatchedRows.l0]) ?_
    exact Ev.i (fun _ => Ev.b (spec_IsValidTask_ev t (by omega)) (Ev.e h Ev.p)) (fun _ => Ev.p)
theorem ur_len (p : S70 × Bool) : (ur p).length ≤ 1 := by unfold ur; split <;> simp
theorem uR_len (t : S44) : (uR t).length ≤ 24 := by
  unfold uR
  split
  · rename_i h
    have := flatMap_len ur 1 ur_len (zl t)
    have hz : (zl t).length ≤ 24 := by rw [zl, List.length_zip]; have := (vTask_iff.1 h.1).b; omega
    omega
  · simp
/-- How many rows of s join n rows that cost c. -/
def nxt : Int → Int → List S70 → Nat
  | _, _, [] => 0
  | g, c, x :: s => if c + cRow x ≤ g then nxt g (c + cRow x) s + 1 else 0
def nC (l : List S70) (g : Int) : Nat := match l with | [] => 0 | x :: s => nxt g (cRow x) s + 1
theorem tCost_app (a b : List S70) : tCost (a ++ b) = tCost a + tCost b := by simp [tCost]
theorem impl_NextChunk_j0 (l : List S70) (hl : l.length ≤ 1099511627776) (n : Nat) (hn : n ≤ l.length) : Ev (fun k => impl_NextChunk.j0 k (n : Int) l) (l.take n, l.drop n) := by
  refine Ev.s (fun k => by rw [impl_NextChunk.j0]) ?_
  refine Ev.t (by omega) (Ev.t (by omega) (Ev.b (Ev.c (impl_clone_eq _ (by simp; omega))) (Ev.b (Ev.c (impl_clone_eq _ (by simp; omega))) (Ev.p.r ?_))))
  simp
theorem impl_NextChunk_l0 (l : List S70) (g : Int) (hl : l.length ≤ 1099511627776) : ∀ (s : List S70) (i : Nat), l.drop i = s → 1 ≤ i → i ≤ l.length → Ev (fun k => impl_NextChunk.l0 k g (i : Int) l) (l.take (i + nxt g (tCost (l.take i)) s), l.drop (i + nxt g (tCost (l.take i)) s)) := by
  intro s
  induction s with
  | nil =>
    intro i hd hi0 hil
    have h1 := drop_nil' hd
    have hi : i = l.length := by omega
    refine Ev.s (fun k => by rw [impl_NextChunk.l0]) (Ev.e (by omega) ?_)
    exact (impl_NextChunk_j0 l hl i (by omega)).r (by simp [nxt])
  | cons x s ih =>
    intro i hd hi0 hil
    obtain ⟨hi, hd', hx, -⟩ := drop_cons' hd
    have htk : tCost (l.take (i + 1)) = tCost (l.take i) + cRow x := by
      rw [List.take_succ_eq_append_getElem hi, tCost_app]
      have := hx z70
      rw [List.getD_eq_getElem?_getD, List.getElem?_eq_getElem hi] at this
      simp at this
      rw [this]; simp [tCost]
    refine Ev.s (fun k => by rw [impl_NextChunk.l0]) ?_
    rw [w64s hi (by omega)]
    refine Ev.t (by omega) (Ev.t (by omega) (Ev.t (by omega) (Ev.b (impl_TotalCost_ev _ (by simp; omega)) ?_)))
    rw [Int.toNat_natCast, htk]
    refine Ev.i (fun h => ?_) (fun h => ?_)
    · refine (ih (i + 1) hd' (by omega) (by omega)).r ?_
      rw [htk, nxt, if_pos h, show i + (nxt g (tCost (l.take i) + cRow x) s + 1) = i + 1 + nxt g (tCost (l.take i) + cRow x) s by omega]
    · refine (impl_NextChunk_j0 l hl i (by omega)).r ?_
      rw [nxt, if_neg h]; rfl
theorem mn1 (l : List S70) : mn 1 (l.length : Int) = ((min 1 l.length : Nat) : Int) := by unfold mn; split <;> omega
theorem impl_NextChunk_ev (l : List S70) (g : Int) (hl : l.length ≤ 1099511627776) : Ev (fun k => impl_NextChunk.f k l g) (l.take (nC l g), l.drop (nC l g)) := by
  refine Ev.u (fun k => by rw [impl_NextChunk.f, mn1]) ?_
  cases l with
  | nil =>
    refine Ev.s (fun k => by rw [impl_NextChunk.l0]) (Ev.e (by simp) ?_)
    exact (impl_NextChunk_j0 [] (by simp) 0 (by simp)).r (by simp)
  | cons x s =>
    have hm : min 1 (x :: s).length = 1 := by simp
    rw [hm]
    refine (impl_NextChunk_l0 (x :: s) g hl s 1 rfl (by omega) (by simp)).r ?_
    rw [show tCost ((x :: s).take 1) = cRow x by simp [tCost], nC, Nat.add_comm]
theorem spec_NextChunk_j0 (l : List S70) (hl : l.length ≤ 1099511627776) (n : Nat) (hn : n ≤ l.length) : Ev (fun k => spec_NextChunk.j0 k (n : Int) l) (l.take n, l.drop n) := by
  refine Ev.s (fun k => by rw [spec_NextChunk.j0]) ?_
  refine Ev.t (by omega) (Ev.t (by omega) (Ev.t (by simp; omega) (Ev.t (by simp; omega) (Ev.p.r ?_))))
  simp
theorem spec_NextChunk_l0 (l : List S70) (g : Int) (hl : l.length ≤ 1099511627776) : ∀ (s : List S70) (i : Nat) (c : Int), l.drop i = s → i ≤ l.length → 1 ≤ i → 0 ≤ c → c ≤ 4 * i → Ev (fun k => spec_NextChunk.l0 k g c (i : Int) l) (l.take (i + nxt g c s), l.drop (i + nxt g c s)) := by
  intro s
  induction s with
  | nil =>
    intro i c hd hil h1 h2 h3
    have := drop_nil' hd
    refine Ev.s (fun k => by rw [spec_NextChunk.l0]) (Ev.e (by omega) ?_)
    exact (spec_NextChunk_j0 l hl i (by omega)).r (by simp [nxt])
  | cons x s ih =>
    intro i c hd hil h1 h2 h3
    obtain ⟨hi, hd', hx, -⟩ := drop_cons' hd
    have hc := cRow_b x
    refine Ev.s (fun k => by rw [spec_NextChunk.l0]) ?_
    refine Ev.t (by omega) (Ev.e (by omega) (Ev.t (by omega) ?_))
    rw [rdR, hx]
    refine Ev.b (Ev.c (spec_RowCost_eq x)) ?_
    rw [w64 (x := c + cRow x) (by omega) (by omega)]
    refine Ev.i (fun h => ?_) (fun h => ?_)
    · refine Ev.s (fun k => by rw [spec_NextChunk.j1]) ?_
      refine Ev.t (by omega) (Ev.t (by omega) ?_)
      rw [rdR, hx]
      refine Ev.b (Ev.c (spec_RowCost_eq x)) ?_
      rw [w64 (x := c + cRow x) (by omega) (by omega), w64s hi (by omega)]
      refine (ih (i + 1) (c + cRow x) hd' (by omega) (by omega) (by omega) (by omega)).r ?_
      rw [nxt, if_pos h, show i + (nxt g (c + cRow x) s + 1) = i + 1 + nxt g (c + cRow x) s by omega]
    · refine (spec_NextChunk_j0 l hl i (by omega)).r ?_
      rw [nxt, if_neg h]; rfl
theorem spec_NextChunk_ev (l : List S70) (g : Int) (hl : l.length ≤ 1099511627776) : Ev (fun k => spec_NextChunk.f k l g) (l.take (nC l g), l.drop (nC l g)) := by
  refine Ev.u (fun k => by rw [spec_NextChunk.f]) ?_
  cases l with
  | nil =>
    refine Ev.s (fun k => by rw [spec_NextChunk.l0]) (Ev.e (by simp) ?_)
    exact (spec_NextChunk_j0 [] (by simp) 0 (by simp)).r (by simp)
  | cons x s =>
    have hc := cRow_b x
    rw [List.length_cons] at hl
    have r0 : rd_T70 (x :: s) 0 = x := rfl
    refine Ev.s (fun k => by rw [spec_NextChunk.l0]) ?_
    refine Ev.t (by simp) (Ev.t rfl ?_)
    refine Ev.s (fun k => by rw [spec_NextChunk.j1]) ?_
    refine Ev.t (by omega) (Ev.t (by simp) ?_)
    rw [r0]
    refine Ev.b (Ev.c (spec_RowCost_eq x)) ?_
    rw [w64 (x := 0 + cRow x) (by omega) (by omega), show (0 : Int) + cRow x = cRow x by omega, show wrap64 (0 + 1) = ((1 : Nat) : Int) by rw [w64 (by omega) (by omega)]; rfl]
    refine (spec_NextChunk_l0 (x :: s) g (by simp; omega) s 1 (cRow x) rfl (by simp) (by omega) (by omega) (by omega)).r ?_
    rw [nC, Nat.add_comm]
def nTk (kind : Int) (a b : List S70) : Bool := inB kind 1 4 && (vRows a && vRows b)
def newT (kind : Int) (a b : List S70) : S44 := if nTk kind a b = true then ⟨kind, a, b, List.replicate a.length false, 0⟩ else z44
abbrev ttup (t : S44) (r : Bool) : Int × List S70 × List S70 × List Bool × Int × Bool := (t.f0, t.f1, t.f2, t.f3, t.f4, r)
theorem newT_no {kind : Int} {a b : List S70} (h : nTk kind a b = false) : ttup (newT kind a b) (nTk kind a b) = (0, [], [], [], 0, false) := by simp [ttup, newT, h, z44]
theorem spec_NewTask_ev (kind : Int) (a b : List S70) (ha : a.length ≤ 1099511627776) (hb : b.length ≤ 1099511627776) : Ev (fun k => spec_NewTask.f k kind a b) (ttup (newT kind a b) (nTk kind a b)) := by
  refine Ev.u (fun _ => rfl) (Ev.b (Ev.c (spec_IsValidJoinKind_eq _)) (Ev.i (fun h1 => Ev.b (spec_AreValidRows_ev _ (by omega)) (Ev.i (fun h2 => Ev.b (spec_AreValidRows_ev _ (by omega)) (Ev.i (fun h3 => Ev.t (by omega) (Ev.t (by omega) (Ev.t (by omega) (Ev.t (by simp; omega) (Ev.p.r ?_))))) (fun h3 => Ev.p.r ?_))) (fun h2 => Ev.p.r ?_))) (fun h1 => Ev.p.r ?_)))
  · simp [ttup, newT, nTk, h1, h2, h3]
  all_goals (rw [newT_no (by simp [nTk, *])])
theorem newT_VT {kind : Int} {a b : List S70} (h : nTk kind a b = true) : VT (newT kind a b) := by
  have h' := h
  simp [nTk, inB] at h'
  rw [newT, if_pos h]
  exact ⟨h'.1, h'.2.1, h'.2.2, by simp, by simp⟩

theorem impl_isGrant_eq (g : Int) : impl_isGrant.f g = some (inB g 8 60) := by unfold impl_isGrant.f; rw [within_eq]; rfl
theorem bSide_012 (t : S44) (g : Int) : bSide t g = 0 ∨ bSide t g = 1 ∨ bSide t g = 2 := by
  unfold bSide; (repeat' split) <;> simp
theorem rdTask (l : List S44) (i : Nat) : rd_T44 l (i : Int) = l.getD i z44 := rfl
def jsz (j : S73) : Nat := j.f0.length + (j.f0.map tsz).sum
theorem sum_mem {α : Type} (f : α → Nat) : ∀ {l : List α} {x : α}, x ∈ l → f x ≤ (l.map f).sum
  | y :: l, x, h => by
    rcases List.mem_cons.1 h with h | h
    · subst h; simp
    · have := sum_mem f h; simp; omega
theorem jsz_mem {j : S73} {t : S44} (h : t ∈ j.f0) : tsz t ≤ jsz j := by have := sum_mem tsz h; unfold jsz; omega
def newJ (kind : Int) (a b : List S70) : S73 := if nTk kind a b = true then ⟨[newT kind a b], 0, 0⟩ else z73
theorem spec_NewJoiner_ev (kind : Int) (a b : List S70) (ha : a.length ≤ 1099511627776) (hb : b.length ≤ 1099511627776) : Ev (fun k => spec_NewJoiner.f k kind a b) ((newJ kind a b).f0, (newJ kind a b).f1, (newJ kind a b).f2, nTk kind a b) := by
  refine Ev.u (fun _ => rfl) (Ev.b (spec_NewTask_ev kind a b ha hb) (Ev.i (fun h => Ev.p.r ?_) (fun h => Ev.p.r ?_)))
  · have h' : nTk kind a b = true := h
    simp [newJ, h']
  · have h' : ¬ nTk kind a b = true := h
    simp [newJ, h', z73]
theorem newJ_sz (kind : Int) (a b : List S70) : jsz (newJ kind a b) ≤ 73 := by
  unfold newJ
  split
  · rename_i h; have := (newT_VT h).p; simp [jsz]; omega
  · decide

theorem impl_cloneTasks_l0 (l : List S44) (hl : l.length ≤ 1048576) (ht : ∀ t ∈ l, tsz t ≤ 1048576) : ∀ (s : List S44) (i : Nat) (a : List S44), l.drop i = s → a.length ≤ i → Ev (fun k => impl_cloneTasks.l0 k a (l.length : Int) (i : Int) l) (a ++ s) := by
  intro s
  induction s with
  | nil =>
    intro i a hd ha
    have := drop_nil' hd
    exact Ev.s (fun k => by rw [impl_cloneTasks.l0]) (Ev.e (by omega) (Ev.p.r (by simp)))
  | cons x t ih =>
    intro i a hd ha
    obtain ⟨hi, hd', hx, -⟩ := drop_cons' hd
    have hm := ht x (List.mem_of_mem_drop (by rw [hd]; exact List.mem_cons_self ..))
    refine Ev.s (fun k => by rw [impl_cloneTasks.l0]) (Ev.t (by omega) (Ev.t (by omega) (Ev.t (by omega) ?_)))
    rw [rdTask, hx, w64s hi (by omega)]
    refine Ev.b (Ev.c (impl_cloneTask_eq x (by omega))) (Ev.t (by omega) ?_)
    have h := ih (i + 1) (a ++ [x]) hd' (by simp; omega)
    rw [List.append_assoc] at h
    exact h
theorem impl_cloneJoiner_ev (j : S73) (h : jsz j ≤ 1048576) : Ev (fun k => impl_cloneJoiner.f k j.f0 j.f1 j.f2) (j.f0, j.f1, j.f2) := by
  have hl : j.f0.length ≤ jsz j := by unfold jsz; omega
  exact Ev.u (fun _ => rfl) (Ev.b (impl_cloneTasks_l0 j.f0 (by omega) (fun t ht => by have := jsz_mem ht; omega) j.f0 0 [] rfl (by simp)) (Ev.p.r (by simp)))
theorem spec_l19Copy_l0 (l : List S44) (hl : l.length ≤ 1048576) (ht : ∀ t ∈ l, tsz t ≤ 1048576) (u1 u2 y1 y2 p q : Int) (y0 : List S44) : ∀ (s : List S44) (i : Nat) (a : List S44), l.drop i = s → a.length ≤ i → Ev (fun k => spec_l19Copy.l0 k (i : Int) u1 u2 y0 y1 y2 a p q l) (a ++ s, p, q) := by
  intro s
  induction s with
  | nil =>
    intro i a hd ha
    have := drop_nil' hd
    exact Ev.s (fun k => by rw [spec_l19Copy.l0]) (Ev.e (by omega) (Ev.p.r (by simp)))
  | cons x t ih =>
    intro i a hd ha
    obtain ⟨hi, hd', hx, -⟩ := drop_cons' hd
    have hm := ht x (List.mem_of_mem_drop (by rw [hd]; exact List.mem_cons_self ..))
    refine Ev.s (fun k => by rw [spec_l19Copy.l0]) (Ev.t (by omega) (Ev.t (by omega) ?_))
    rw [rdTask, hx, w64s hi (by omega)]
    refine Ev.b (Ev.c (spec_l16Copy_eq x (by omega))) (Ev.t (by omega) ?_)
    have h := ih (i + 1) (a ++ [x]) hd' (by simp; omega)
    rw [List.append_assoc] at h
    exact h
theorem spec_l19Copy_ev (j : S73) (h : jsz j ≤ 1048576) : Ev (fun k => spec_l19Copy.f k j.f0 j.f1 j.f2) (j.f0, j.f1, j.f2) := by
  have hl : j.f0.length ≤ jsz j := by unfold jsz; omega
  have e := spec_l19Copy_l0 j.f0 (by omega) (fun t ht => by have := jsz_mem ht; omega) j.f1 j.f2 0 0 j.f1 j.f2 [] j.f0 0 [] rfl (by simp)
  exact Ev.u (fun _ => rfl) (e.r (by simp))
def sL (l : List S44) : Nat := (l.map fun t => t.f1.length).sum
def sR (l : List S44) : Nat := (l.map fun t => t.f2.length).sum
theorem sL_cons (t : S44) (l : List S44) : sL (t :: l) = t.f1.length + sL l := by simp [sL]
theorem sR_cons (t : S44) (l : List S44) : sR (t :: l) = t.f2.length + sR l := by simp [sR]
theorem sLR_le : ∀ l : List S44, sL l + sR l ≤ (l.map tsz).sum
  | [] => by simp [sL, sR]
  | t :: l => by have := sLR_le l; rw [sL_cons, sR_cons, List.map_cons, List.sum_cons]; unfold tsz at *; omega
def vT (q : Int) (l : List S44) : Bool := l.all fun t => vTask t && t.f0 == q
theorem vT_cons (q : Int) (t : S44) (l : List S44) : vT q (t :: l) = ((vTask t && t.f0 == q) && vT q l) := rfl
def vJ (j : S73) : Bool := decide (j.f0.length ≤ 40) && (inB j.f1 0 100000 && (inB j.f2 0 1000 && (vT (j.f0.getD 0 z44).f0 j.f0 && (decide (sL j.f0 ≤ 24) && decide (sR j.f0 ≤ 24)))))
theorem impl_IsValidJoiner_l0 (l : List S44) (u1 u2 : Int) (hl : l.length ≤ 1048576) (ht : ∀ t ∈ l, tsz t ≤ 1048576) : ∀ (s : List S44) (i a b : Nat), l.drop i = s → a + sL s ≤ 4294967296 → b + sR s ≤ 4294967296 →
    Ev (fun k => impl_IsValidJoiner.l0 k (a : Int) (b : Int) (l.length : Int) (i : Int) u1 u2 l) (vT (l.getD 0 z44).f0 s && (decide (a + sL s ≤ 24) && decide (b + sR s ≤ 24))) := by
  intro s
  induction s with
  | nil =>
    intro i a b hd ha hb
    have := drop_nil' hd
    refine Ev.s (fun k => by rw [impl_IsValidJoiner.l0]) (Ev.e (by omega) (Ev.i (fun h => Ev.p.r ?_) (fun h => Ev.p.r ?_)))
    · have : a ≤ 24 := by omega
      have e : ((b : Int) ≤ 24) = (b ≤ 24) := propext (by omega)
      simp [vT, sL, sR, this, e]
    · have : ¬ a ≤ 24 := by omega
      simp [vT, sL, this]
  | cons x t ih =>
    intro i a b hd ha hb
    rw [sL_cons] at ha ⊢
    rw [sR_cons] at hb ⊢
    rw [vT_cons]
    obtain ⟨hi, hd', hx, -⟩ := drop_cons' hd
    have hm := ht x (List.mem_of_mem_drop (by rw [hd]; exact List.mem_cons_self ..))
    refine Ev.s (fun k => by rw [impl_IsValidJoiner.l0]) (Ev.t (by omega) (Ev.t (by omega) (Ev.t (by omega) ?_)))
    rw [rdTask, hx, w64s hi (by omega), show rd_T44 l 0 = l.getD 0 z44 from rfl]
    refine Ev.b (impl_IsValidTask_ev x (by omega)) (Ev.i (fun h1 => Ev.t (by omega) (Ev.i (fun h2 => ?_) (fun h2 => Ev.p.r ?_))) (fun h1 => Ev.p.r ?_))
    · rw [show wrap64 ((a : Int) + (x.f1.length : Int)) = ((a + x.f1.length : Nat) : Int) by rw [w64 (by omega) (by omega)]; rfl]
      rw [show wrap64 ((b : Int) + (x.f2.length : Int)) = ((b + x.f2.length : Nat) : Int) by rw [w64 (by omega) (by omega)]; rfl]
      refine (ih (i + 1) (a + x.f1.length) (b + x.f2.length) hd' (by omega) (by omega)).r ?_
      rw [h1, h2, Nat.add_assoc, Nat.add_assoc]; simp
    · rw [show (x.f0 == (l.getD 0 z44).f0) = false from beq_eq_false_iff_ne.2 h2]; simp
    · simp [h1]
theorem impl_IsValidJoiner_ev (j : S73) (h : jsz j ≤ 1048576) : Ev (fun k => impl_IsValidJoiner.f k j.f0 j.f1 j.f2) (vJ j) := by
  have hl : j.f0.length ≤ jsz j := by unfold jsz; omega
  have hs := sLR_le j.f0
  have hs' : (j.f0.map tsz).sum ≤ jsz j := by unfold jsz; omega
  have e := impl_IsValidJoiner_l0 j.f0 j.f1 j.f2 (by omega) (fun t ht => by have := jsz_mem ht; omega) j.f0 0 0 0 rfl (by omega) (by omega)
  unfold vJ
  refine Ev.u (fun _ => rfl) (Ev.i (fun h1 => Ev.p.r ?_) (fun h1 => ?_))
  · have : ¬ j.f0.length ≤ 40 := by omega
    simp [this]
  · have h1' : j.f0.length ≤ 40 := by omega
    refine Ev.b (Ev.c (within_eq _ _ _)) (Ev.i (fun h2 => ?_) (fun h2 => Ev.p.r (by simp [h2])))
    refine Ev.b (Ev.c (within_eq _ _ _)) (Ev.i (fun h3 => ?_) (fun h3 => Ev.p.r (by simp [h3])))
    refine e.r ?_
    rw [h2, h3]; simp [h1']
theorem spec_IsValidJoiner_l0 (l : List S44) (u1 u2 : Int) (hl : l.length ≤ 1048576) (ht : ∀ t ∈ l, tsz t ≤ 1048576) : ∀ (s : List S44) (i a b : Nat), l.drop i = s → a + sL s ≤ 4294967296 → b + sR s ≤ 4294967296 →
    Ev (fun k => spec_IsValidJoiner.l0 k (a : Int) (b : Int) (i : Int) u1 u2 l) ((vT (l.getD 0 z44).f0 s && (decide (a + sL s ≤ 24) && decide (b + sR s ≤ 24))) && (decide (l.length ≤ 40) && (inB u1 0 100000 && inB u2 0 1000))) := by
  intro s
  induction s with
  | nil =>
    intro i a b hd ha hb
    have := drop_nil' hd
    refine Ev.s (fun k => by rw [spec_IsValidJoiner.l0]) (Ev.e (by omega) (Ev.i (fun h => Ev.i (fun h2 => Ev.i (fun h3 => ?_) (fun h3 => Ev.p.r ?_)) (fun h2 => Ev.p.r ?_)) (fun h => Ev.p.r ?_)))
    · have k1 : a ≤ 24 := by omega
      have k2 : b ≤ 24 := by omega
      have k3 : l.length ≤ 40 := by omega
      refine Ev.b (Ev.c (l1In_eq _ _ _)) (Ev.i (fun h4 => ?_) (fun h4 => Ev.p.r (by simp [h4])))
      exact Ev.b (Ev.c (l1In_eq _ _ _)) (Ev.p.r (by simp [vT, sL, sR, k1, k2, k3, h4]))
    · have k3 : ¬ l.length ≤ 40 := by omega
      simp [k3]
    · have k2 : ¬ b ≤ 24 := by omega
      simp [sR, k2]
    · have : ¬ a ≤ 24 := by omega
      simp [sL, this]
  | cons x t ih =>
    intro i a b hd ha hb
    rw [sL_cons] at ha ⊢
    rw [sR_cons] at hb ⊢
    rw [vT_cons]
    obtain ⟨hi, hd', hx, -⟩ := drop_cons' hd
    have hm := ht x (List.mem_of_mem_drop (by rw [hd]; exact List.mem_cons_self ..))
    refine Ev.s (fun k => by rw [spec_IsValidJoiner.l0]) (Ev.t (by omega) (Ev.t (by omega) ?_))
    rw [rdTask, hx, w64s hi (by omega), show rd_T44 l 0 = l.getD 0 z44 from rfl]
    refine Ev.b (spec_IsValidTask_ev x (by omega)) (Ev.i (fun h1 => Ev.t (by omega) (Ev.i (fun h2 => ?_) (fun h2 => Ev.p.r ?_))) (fun h1 => Ev.p.r ?_))
    · rw [show wrap64 ((a : Int) + (x.f1.length : Int)) = ((a + x.f1.length : Nat) : Int) by rw [w64 (by omega) (by omega)]; rfl]
      rw [show wrap64 ((b : Int) + (x.f2.length : Int)) = ((b + x.f2.length : Nat) : Int) by rw [w64 (by omega) (by omega)]; rfl]
      refine (ih (i + 1) (a + x.f1.length) (b + x.f2.length) hd' (by omega) (by omega)).r ?_
      rw [h1, h2, Nat.add_assoc, Nat.add_assoc]; simp
    · rw [show (x.f0 == (l.getD 0 z44).f0) = false from beq_eq_false_iff_ne.2 h2]; simp
    · simp [h1]
theorem spec_IsValidJoiner_ev (j : S73) (h : jsz j ≤ 1048576) : Ev (fun k => spec_IsValidJoiner.f k j.f0 j.f1 j.f2) (vJ j) := by
  have hl : j.f0.length ≤ jsz j := by unfold jsz; omega
  have hs := sLR_le j.f0
  have hs' : (j.f0.map tsz).sum ≤ jsz j := by unfold jsz; omega
  have e := spec_IsValidJoiner_l0 j.f0 j.f1 j.f2 (by omega) (fun t ht => by have := jsz_mem ht; omega) j.f0 0 0 0 rfl (by omega) (by omega)
  refine Ev.u (fun _ => rfl) (e.r ?_)
  unfold vJ
  simp only [Nat.zero_add]
  cases decide (j.f0.length ≤ 40) <;> cases inB j.f1 0 100000 <;> cases inB j.f2 0 1000 <;> simp

theorem inB_iff {n a b : Int} : inB n a b = true ↔ a ≤ n ∧ n ≤ b := by simp [inB]
structure VJ (j : S73) : Prop where
  len : j.f0.length ≤ 40
  wr : 0 ≤ j.f1 ∧ j.f1 ≤ 100000
  pt : 0 ≤ j.f2 ∧ j.f2 ≤ 1000
  ts : ∀ t ∈ j.f0, VT t ∧ t.f0 = (j.f0.getD 0 z44).f0
  l : sL j.f0 ≤ 24
  r : sR j.f0 ≤ 24
theorem vJ_iff {j : S73} : vJ j = true ↔ VJ j := by
  unfold vJ
  constructor
  · intro h
    simp only [Bool.and_eq_true, decide_eq_true_iff, inB_iff] at h
    refine ⟨h.1, h.2.1, h.2.2.1, fun t ht => ?_, h.2.2.2.2.1, h.2.2.2.2.2⟩
    have := List.all_eq_true.1 h.2.2.2.1 t ht
    simp only [Bool.and_eq_true, beq_iff_eq] at this
    exact ⟨vTask_iff.1 this.1, this.2⟩
  · intro h
    simp only [Bool.and_eq_true, decide_eq_true_iff, inB_iff]
    refine ⟨h.len, h.wr, h.pt, ?_, h.l, h.r⟩
    refine List.all_eq_true.2 fun t ht => ?_
    simp only [Bool.and_eq_true, beq_iff_eq]
    exact ⟨vTask_iff.2 (h.ts t ht).1, (h.ts t ht).2⟩
theorem tsum_le : ∀ (l : List S44), (∀ t ∈ l, VT t) → (l.map tsz).sum ≤ 72 * l.length
  | [], _ => by simp
  | t :: l, h => by
    have := tsum_le l (fun t ht => h t (List.mem_cons_of_mem _ ht))
    have := (h t (List.mem_cons_self ..)).p
    rw [List.map_cons, List.sum_cons, List.length_cons]; omega
theorem VJ.sz {j : S73} (h : VJ j) : jsz j ≤ 73 * j.f0.length := by
  have := tsum_le j.f0 (fun t ht => (h.ts t ht).1)
  unfold jsz; omega
theorem taskCost_b (t : S44) (h : VT t) : 0 ≤ taskCost t ∧ taskCost t ≤ 192 := by
  have h1 := tCost_b t.f1; have h2 := tCost_b t.f2; have := h.b
  unfold taskCost; omega
def chT (t : S44) (g : Int) : S44 := ⟨(jT t (t.f2.take (nC t.f2 g))).f0, (jT t (t.f2.take (nC t.f2 g))).f1, t.f2.drop (nC t.f2 g), (jT t (t.f2.take (nC t.f2 g))).f3, (jT t (t.f2.take (nC t.f2 g))).f4⟩
def stH (j : S73) (t : S44) (s : List S44) (g : Int) : S73 × List S92 × Int × Bool :=
  if t.f1.length = 0 ∨ t.f2.length = 0 then (⟨s, j.f1, j.f2⟩, uR t, 0, true)
  else if bSide t g = 0 then
    if needsN t = true then (⟨chT t g :: s, j.f1, j.f2⟩, jP t (t.f2.take (nC t.f2 g)), tCost (t.f2.take (nC t.f2 g)), true)
    else (⟨pT0 t :: pT1 t :: s, j.f1 + taskCost t, j.f2 + 1⟩, [], 8, true)
  else (⟨s, j.f1, j.f2⟩, jP t t.f2 ++ uR (jT t t.f2), if bSide t g = 1 then tCost t.f1 else tCost t.f2, true)
def stp (j : S73) (g : Int) : S73 × List S92 × Int × Bool :=
  if vJ j = true then
    match j.f0 with
    | [] => (j, [], 0, false)
    | t :: s => if inB g 8 60 = true then stH j t s g else (j, [], 0, false)
  else (j, [], 0, false)
abbrev stup (r : S73 × List S92 × Int × Bool) : List S44 × Int × Int × List S92 × Int × Bool := (r.1.f0, r.1.f1, r.1.f2, r.2.1, r.2.2.1, r.2.2.2)
theorem impl_StepJoiner_j0 (h0 : Int) (y0 s : List S44) (y1 y2 w p : Int) (P : List S92) (hP : P.length ≤ 1099511627776) (T : S44) (hT : tsz T ≤ 1048576) :
    Ev (fun k => impl_StepJoiner.j0 k P h0 y0 y1 y2 s w p T.f0 T.f1 T.f2 T.f3 T.f4) (s, w, p, P ++ uR T, h0, true) := by
  have := uR_len T
  refine Ev.s (fun k => by rw [impl_StepJoiner.j0]) ?_
  exact Ev.b (impl_UnmatchedRows_ev T (by omega)) (Ev.t (by omega) Ev.p)
theorem spec_StepJoiner_j0 (h0 : Int) (y0 s : List S44) (y1 y2 w p : Int) (P : List S92) (hP : P.length ≤ 1099511627776) (T : S44) (hT : tsz T ≤ 1048576) :
    Ev (fun k => spec_StepJoiner.j0 k P h0 y0 y1 y2 s w p T.f0 T.f1 T.f2 T.f3 T.f4) (s, w, p, P ++ uR T, h0, true) := by
  have := uR_len T
  refine Ev.s (fun k => by rw [spec_StepJoiner.j0]) ?_
  exact Ev.b (spec_UnmatchedRows_ev T (by omega)) (Ev.t (by omega) Ev.p)
theorem impl_StepJoiner_ev (j : S73) (g : Int) (h : jsz j ≤ 1048576) : Ev (fun k => impl_StepJoiner.f k j.f0 j.f1 j.f2 g) (stup (stp j g)) := by
  refine Ev.u (fun _ => rfl) (Ev.b (impl_cloneJoiner_ev j h) (Ev.b (impl_IsValidJoiner_ev j h) (Ev.i (fun hv => ?_) (fun hv => Ev.p.r (by simp [stp, hv])))))
  have hJ := vJ_iff.1 hv
  unfold stp; rw [if_pos hv]
  obtain ⟨l, w, p⟩ := j
  dsimp only at hJ ⊢
  cases l with
  | nil => exact Ev.t rfl Ev.p
  | cons t s =>
    have hVT := (hJ.ts t (List.mem_cons_self ..)).1
    have hp := hVT.p
    have hb := hVT.b
    have hlen : s.length + 1 ≤ 40 := hJ.len
    have h1 : 0 ≤ w ∧ w ≤ 100000 := hJ.wr
    have h2 : 0 ≤ p ∧ p ≤ 1000 := hJ.pt
    have hc := taskCost_b t hVT
    dsimp only
    refine Ev.e (by simp; omega) (Ev.b (Ev.c (impl_isGrant_eq g)) (Ev.i (fun hg => ?_) (fun hg => Ev.p.r (by simp [hg]))))
    rw [if_pos hg]
    refine Ev.t (by rw [List.length_cons]; omega) ?_
    simp only [show rd_T44 (t :: s) 0 = t from rfl, show (t :: s).drop (1 : Int).toNat = s from rfl]
    refine Ev.b (impl_BuildSide_ev t g (by omega)) ?_
    unfold stH
    refine Ev.i (fun q1 => Ev.t (by simp; omega) ?_) (fun q1 => Ev.i (fun q2 => Ev.t (by simp; omega) ?_) (fun q2 => ?_))
    · rw [if_pos (.inl (by omega))]
      exact Ev.b (impl_UnmatchedRows_ev t (by omega)) Ev.p
    · rw [if_pos (.inr (by omega))]
      exact Ev.b (impl_UnmatchedRows_ev t (by omega)) Ev.p
    rw [if_neg (show ¬ (t.f1.length = 0 ∨ t.f2.length = 0) by omega)]
    refine Ev.i (fun q3 => ?_) (fun q3 => ?_)
    · rw [if_pos q3]
      refine Ev.b (impl_NeedsNestedLoop_ev t (by omega)) (Ev.i (fun q4 => ?_) (fun q4 => ?_))
      · rw [if_pos q4]
        have l1 : (t.f2.take (nC t.f2 g)).length ≤ t.f2.length := List.length_take_le' _ _
        refine Ev.b (impl_NextChunk_ev t.f2 g (by omega)) (Ev.b (impl_JoinChunk_ev t (t.f2.take (nC t.f2 g)) (by omega) (by omega)) (Ev.b (Ev.c rfl) ?_))
        exact Ev.b (impl_TotalCost_ev (t.f2.take (nC t.f2 g)) (by omega)) Ev.p
      · rw [if_neg q4]
        refine Ev.b (impl_PartitionTask_ev t (by omega)) (Ev.t (by simp; omega) (Ev.t (by simp; omega) (Ev.b (impl_TaskCost_ev t (by omega)) ?_)))
        rw [w64 (x := w + taskCost t) (by omega) (by omega), w64 (x := p + 1) (by omega) (by omega)]
        exact Ev.p
    · rw [if_neg q3]
      have l1 := jP_len t t.f2
      have l2 := (jT_sz t t.f2).1
      refine Ev.t (by simp; omega) (Ev.b (impl_JoinChunk_ev t t.f2 (by omega) (by omega)) (Ev.b (impl_TotalCost_ev t.f2 (by omega)) (Ev.i (fun q4 => ?_) (fun q4 => ?_))))
      · rw [if_pos q4]
        exact Ev.b (impl_TotalCost_ev t.f1 (by omega)) (impl_StepJoiner_j0 _ _ s _ _ w p (jP t t.f2) (by omega) (jT t t.f2) (by omega))
      · rw [if_neg q4]
        exact impl_StepJoiner_j0 _ _ s _ _ w p (jP t t.f2) (by omega) (jT t t.f2) (by omega)
theorem spec_StepJoiner_ev (j : S73) (g : Int) (h : jsz j ≤ 1048576) : Ev (fun k => spec_StepJoiner.f k j.f0 j.f1 j.f2 g) (stup (stp j g)) := by
  refine Ev.u (fun _ => rfl) (Ev.b (spec_l19Copy_ev j h) (Ev.b (spec_IsValidJoiner_ev j h) (Ev.i (fun hv => ?_) (fun hv => Ev.p.r (by simp [stp, hv])))))
  have hJ := vJ_iff.1 hv
  unfold stp; rw [if_pos hv]
  obtain ⟨l, w, p⟩ := j
  dsimp only at hJ ⊢
  cases l with
  | nil => exact Ev.t rfl Ev.p
  | cons t s =>
    have hVT := (hJ.ts t (List.mem_cons_self ..)).1
    have hp := hVT.p
    have hb := hVT.b
    have hlen : s.length + 1 ≤ 40 := hJ.len
    have h1 : 0 ≤ w ∧ w ≤ 100000 := hJ.wr
    have h2 : 0 ≤ p ∧ p ≤ 1000 := hJ.pt
    have hc := taskCost_b t hVT
    dsimp only
    refine Ev.e (by simp; omega) (Ev.b (Ev.c (l1In_eq g _ _)) (Ev.i (fun hg => ?_) (fun hg => Ev.p.r (by simp [hg]))))
    rw [if_pos hg]
    refine Ev.t (by rw [List.length_cons]; omega) (Ev.t (by rw [List.length_cons]; omega) ?_)
    simp only [show rd_T44 (t :: s) 0 = t from rfl, show (t :: s).drop (1 : Int).toNat = s from rfl]
    refine Ev.b (spec_BuildSide_ev t g (by omega)) ?_
    unfold stH
    refine Ev.i (fun q1 => ?_) (fun q1 => Ev.i (fun q2 => ?_) (fun q2 => ?_))
    · rw [if_pos (.inl (by omega))]
      exact Ev.b (spec_UnmatchedRows_ev t (by omega)) Ev.p
    · rw [if_pos (.inr (by omega))]
      exact Ev.b (spec_UnmatchedRows_ev t (by omega)) Ev.p
    rw [if_neg (show ¬ (t.f1.length = 0 ∨ t.f2.length = 0) by omega)]
    have b3 := bSide_012 t g
    refine Ev.i (fun q3 => ?_) (fun q3 => ?_)
    · rw [if_neg (show ¬ bSide t g = 0 by omega)]
      have l1 := jP_len t t.f2
      have l2 := (jT_sz t t.f2).1
      refine Ev.b (spec_JoinChunk_ev t t.f2 (by omega) (by omega)) (Ev.b (spec_TotalCost_ev t.f2 (by omega)) (Ev.i (fun q4 => ?_) (fun q4 => ?_)))
      · rw [if_pos q4]
        exact Ev.b (spec_TotalCost_ev t.f1 (by omega)) (spec_StepJoiner_j0 _ _ s _ _ w p (jP t t.f2) (by omega) (jT t t.f2) (by omega))
      · rw [if_neg q4]
        exact spec_StepJoiner_j0 _ _ s _ _ w p (jP t t.f2) (by omega) (jT t t.f2) (by omega)
    · rw [if_pos (show bSide t g = 0 by omega)]
      refine Ev.b (spec_NeedsNestedLoop_ev t (by omega)) (Ev.i (fun q4 => ?_) (fun q4 => ?_))
      · rw [if_pos q4]
        have l1 : (t.f2.take (nC t.f2 g)).length ≤ t.f2.length := List.length_take_le' _ _
        refine Ev.b (spec_NextChunk_ev t.f2 g (by omega)) (Ev.b (spec_JoinChunk_ev t (t.f2.take (nC t.f2 g)) (by omega) (by omega)) (Ev.t (by simp; omega) ?_))
        exact Ev.b (spec_TotalCost_ev (t.f2.take (nC t.f2 g)) (by omega)) Ev.p
      · rw [if_neg q4]
        refine Ev.b (spec_PartitionTask_ev t (by omega)) (Ev.t (by simp; omega) (Ev.b (spec_TaskCost_ev t (by omega)) ?_))
        rw [w64 (x := w + taskCost t) (by omega) (by omega), w64 (x := p + 1) (by omega) (by omega)]
        exact Ev.p
theorem stH_sz (j : S73) (t : S44) (s : List S44) (g : Int) (hJ : VJ j) (hl : j.f0 = t :: s) : jsz (stH j t s g).1 ≤ 4000 ∧ (stH j t s g).2.1.length ≤ 624 := by
  have hVT := (hJ.ts t (by rw [hl]; exact List.mem_cons_self ..)).1
  have hs := tsum_le s (fun x hx => (hJ.ts x (by rw [hl]; exact List.mem_cons_of_mem _ hx)).1)
  have hlen := hJ.len
  rw [hl, List.length_cons] at hlen
  have hp := hVT.p
  have hb := hVT.b
  have u1 := uR_len t
  have u2 := uR_len (jT t t.f2)
  have p1 := jP_len t t.f2
  have p2 := jP_len t (t.f2.take (nC t.f2 g))
  have l1 : (t.f2.take (nC t.f2 g)).length ≤ t.f2.length := List.length_take_le' _ _
  have l2 : (t.f2.drop (nC t.f2 g)).length ≤ t.f2.length := by rw [List.length_drop]; omega
  have z := pT_sz t
  have zj := (jT_sz t (t.f2.take (nC t.f2 g))).1
  have zt : tsz (chT t g) ≤ 144 := by unfold tsz at *; unfold chT; dsimp only; omega
  unfold stH
  split
  · constructor
    · unfold jsz; dsimp only; omega
    · dsimp only; omega
  split
  · split
    · constructor
      · unfold jsz; simp only [List.map_cons, List.sum_cons, List.length_cons]; omega
      · dsimp only; omega
    · constructor
      · unfold jsz; simp only [List.map_cons, List.sum_cons, List.length_cons]; omega
      · simp
  · constructor
    · unfold jsz; dsimp only; omega
    · simp only [List.length_append]; omega
theorem stp_sz (j : S73) (g : Int) : jsz (stp j g).1 ≤ jsz j + 4000 ∧ (stp j g).2.1.length ≤ 624 := by
  unfold stp
  split
  · rename_i hv
    have hJ := vJ_iff.1 hv
    split
    · simp
    · rename_i t s hl
      split
      · have := stH_sz j t s g hJ hl
        omega
      · simp
  · simp

def wt (t : S44) : Int := (4 - t.f4) * taskCost t
def wW (l : List S44) : Int := (l.map wt).sum
theorem wW_cons (t : S44) (l : List S44) : wW (t :: l) = wt t + wW l := by simp [wW]
theorem wt_pos {t : S44} (h : VT t) : 0 ≤ wt t := by
  have := taskCost_b t h; have := h.level
  exact Int.mul_nonneg (by omega) (by omega)
theorem jT_vt {t : S44} (h : VT t) (c : List S70) : jT t c = { t with f3 := (zl t).map (jm c) } := by unfold jT; rw [if_pos (vTask_iff.2 h)]
theorem chT_VT {t : S44} (h : VT t) (g : Int) : VT (chT t g) ∧ (chT t g).f0 = t.f0 ∧ (chT t g).f1 = t.f1 ∧ (chT t g).f2 = t.f2.drop (nC t.f2 g) ∧ (chT t g).f4 = t.f4 := by
  unfold chT
  rw [jT_vt h]
  refine ⟨⟨h.kind, h.left, vRows_sub h.right (List.drop_sublist _ _), ?_, h.level⟩, rfl, rfl, rfl, rfl⟩
  show ((zl t).map (jm _)).length = t.f1.length
  have := h.len
  simp [zl]; omega
theorem flt_sum {α : Type} (f : α → Int) (p : α → Bool) : ∀ l : List α, ((l.filter p).map f).sum + ((l.filter fun x => !p x).map f).sum = (l.map f).sum
  | [] => by simp
  | x :: l => by
    have := flt_sum f p l
    cases h : p x <;> simp [h] <;> omega
theorem flt_len {α : Type} (p : α → Bool) : ∀ l : List α, (l.filter p).length + (l.filter fun x => !p x).length = l.length
  | [] => by simp
  | x :: l => by
    have := flt_len p l
    cases h : p x <;> simp [h] <;> omega
theorem part_sum {t : S44} (h : VT t) : (part0 t).f1.length + (part1 t).f1.length = t.f1.length ∧ (part0 t).f2.length + (part1 t).f2.length = t.f2.length ∧ taskCost (part0 t) + taskCost (part1 t) = taskCost t := by
  have e := zl_fst h.len
  refine ⟨?_, flt_len _ _, ?_⟩
  · have := flt_len (fun p => hb t.f4 p.1) (zl t)
    have hz : (zl t).length = t.f1.length := by rw [← congrArg List.length e, List.length_map]
    simp only [part0, part1, List.length_map]; omega
  · have h1 := flt_sum (fun p => cRow p.1) (fun p => hb t.f4 p.1) (zl t)
    have h2 := flt_sum cRow (hb t.f4) t.f2
    have h3 : ((zl t).map fun p => cRow p.1).sum = tCost t.f1 := by
      have : tCost ((zl t).map (·.1)) = tCost t.f1 := by rw [e]
      rw [← this, tCost, List.map_map]; rfl
    unfold taskCost
    rw [show tCost (part0 t).f1 = (((zl t).filter fun p => hb t.f4 p.1).map fun p => cRow p.1).sum by rw [tCost, part0, List.map_map]; rfl]
    rw [show tCost (part1 t).f1 = (((zl t).filter fun p => !hb t.f4 p.1).map fun p => cRow p.1).sum by rw [tCost, part1, List.map_map]; rfl]
    rw [show tCost (part0 t).f2 = ((t.f2.filter (hb t.f4)).map cRow).sum from rfl]
    rw [show tCost (part1 t).f2 = ((t.f2.filter fun x => !hb t.f4 x).map cRow).sum from rfl]
    unfold tCost at h3 ⊢
    omega
def gbub {α : Type} (lt : α → α → Bool) (x : α) : List α → List α → List α
  | [], q => x :: q
  | y :: rp, q => if lt x y = true then gbub lt x rp (y :: q) else (y :: rp).reverse ++ x :: q
def gsort {α : Type} (lt : α → α → Bool) (P : List α) (l : List α) : List α := l.foldl (fun P x => gbub lt x P.reverse []) P
theorem gbub_perm {α : Type} (lt : α → α → Bool) (x : α) : ∀ rp q : List α, (gbub lt x rp q).Perm (x :: (rp ++ q))
  | [], q => List.Perm.refl _
  | y :: rp, q => by
    rw [gbub]
    split
    · exact (gbub_perm lt x rp (y :: q)).trans (List.Perm.cons x (List.perm_middle))
    · exact List.perm_middle.trans (List.Perm.cons x ((List.reverse_perm _).append_right q))
theorem gsort_perm {α : Type} (lt : α → α → Bool) : ∀ (l P : List α), (gsort lt P l).Perm (P ++ l)
  | [], P => by simp [gsort]
  | x :: l, P => by
    have ih := gsort_perm lt l (gbub lt x P.reverse [])
    have p1 : (gbub lt x P.reverse []).Perm (x :: P) := (gbub_perm lt x P.reverse []).trans (by rw [List.append_nil]; exact (List.reverse_perm P).cons x)
    exact ih.trans ((p1.append_right l).trans List.perm_middle.symm)
theorem gbub_sorted {α : Type} (lt : α → α → Bool) (ht : ∀ a b c, lt b a = false → lt c b = false → lt c a = false) (ha : ∀ a b, lt a b = true → lt b a = false) (x : α) : ∀ rp q : List α, (rp.reverse ++ q).Pairwise (fun a b => lt b a = false) → (∀ y ∈ q, lt y x = false) → (gbub lt x rp q).Pairwise (fun a b => lt b a = false)
  | [], q, h, hq => by
    rw [gbub]; exact List.pairwise_cons.2 ⟨hq, by simpa using h⟩
  | y :: rp, q, h, hq => by
    rw [gbub]
    have h' : (rp.reverse ++ y :: q).Pairwise (fun a b => lt b a = false) := by simpa using h
    split
    · rename_i hxy
      refine gbub_sorted lt ht ha x rp (y :: q) h' (fun z hz => ?_)
      rcases List.mem_cons.1 hz with hz | hz
      · subst hz; exact ha x z hxy
      · exact hq z hz
    · rename_i hxy
      have hxy' : lt x y = false := by simpa using hxy
      have h2 := List.pairwise_append.1 h
      refine List.pairwise_append.2 ⟨h2.1, List.pairwise_cons.2 ⟨hq, h2.2.1⟩, fun a ha' b hb => ?_⟩
      rcases List.mem_cons.1 hb with hb | hb
      · subst hb
        rw [List.reverse_cons] at ha'
        rcases List.mem_append.1 ha' with ha' | ha'
        · exact ht a y b ((List.pairwise_append.1 h').2.2 a ha' y (List.mem_cons_self ..)) hxy'
        · rw [List.mem_singleton.1 ha']; exact hxy'
      · exact h2.2.2 a ha' b hb
theorem gsort_sorted {α : Type} (lt : α → α → Bool) (ht : ∀ a b c, lt b a = false → lt c b = false → lt c a = false) (ha : ∀ a b, lt a b = true → lt b a = false) : ∀ (l P : List α), P.Pairwise (fun a b => lt b a = false) → (gsort lt P l).Pairwise (fun a b => lt b a = false)
  | [], P, h => h
  | x :: l, P, h => gsort_sorted lt ht ha l (gbub lt x P.reverse []) (gbub_sorted lt ht ha x P.reverse [] (by simpa using h) (fun y hy => by simp at hy))
theorem gsort_uniq {α : Type} (lt : α → α → Bool) (he : ∀ a b, lt a b = false → lt b a = false → a = b) : ∀ {a b : List α}, a.Pairwise (fun a b => lt b a = false) → b.Pairwise (fun a b => lt b a = false) → a.Perm b → a = b
  | [], b, _, _, h => (List.nil_perm.1 h).symm
  | x :: a, [], _, _, h => by simp at h
  | x :: a, y :: b, ha, hb, h => by
    obtain ⟨a1, a2⟩ := List.pairwise_cons.1 ha
    obtain ⟨b1, b2⟩ := List.pairwise_cons.1 hb
    have e : x = y := by
      have hx : x ∈ y :: b := h.subset (List.mem_cons_self ..)
      have hy : y ∈ x :: a := h.symm.subset (List.mem_cons_self ..)
      rcases List.mem_cons.1 hx with hx | hx
      · exact hx
      rcases List.mem_cons.1 hy with hy | hy
      · exact hy.symm
      exact he x y (b1 x hx) (a1 y hy)
    subst e
    rw [gsort_uniq lt he a2 b2 (List.Perm.cons_inv h)]
def ltL : List Int → List Int → Bool
  | x :: s, y :: t => decide (x < y) || (decide (x = y) && ltL s t)
  | _, _ => false
theorem ltL_iff {x y : Int} {s t : List Int} : ltL (x :: s) (y :: t) = true ↔ x < y ∨ (x = y ∧ ltL s t = true) := by simp [ltL]
theorem ltL_asym : ∀ s t : List Int, ltL s t = true → ltL t s = false
  | [], t, h => by cases t <;> simp [ltL] at h
  | x :: s, [], h => by simp [ltL] at h
  | x :: s, y :: t, h => by
    rw [ltL_iff] at h
    rw [← Bool.not_eq_true, ltL_iff]
    rintro (h2 | ⟨h2, h3⟩)
    · rcases h with h | ⟨h, _⟩ <;> omega
    · rcases h with h | ⟨_, h⟩
      · omega
      · rw [ltL_asym s t h] at h3; cases h3
theorem ltL_tot : ∀ s t : List Int, s.length = t.length → ltL s t = false → ltL t s = false → s = t
  | [], [], _, _, _ => rfl
  | [], y :: t, h, _, _ => by simp at h
  | x :: s, [], h, _, _ => by simp at h
  | x :: s, y :: t, h, h1, h2 => by
    rw [← Bool.not_eq_true, ltL_iff] at h1 h2
    have hxy : x = y := by
      have k1 : ¬ x < y := fun k => h1 (.inl k)
      have k2 : ¬ y < x := fun k => h2 (.inl k)
      omega
    subst hxy
    rw [ltL_tot s t (by simpa using h) (by simpa using fun k => h1 (.inr ⟨rfl, k⟩)) (by simpa using fun k => h2 (.inr ⟨rfl, k⟩))]
theorem ltL_trans : ∀ a b c : List Int, a.length = b.length → b.length = c.length → ltL b a = false → ltL c b = false → ltL c a = false
  | [], [], [], _, _, _, _ => rfl
  | x :: a, y :: b, z :: c, h1, h2, k1, k2 => by
    rw [← Bool.not_eq_true, ltL_iff] at k1 k2 ⊢
    have n1 : ¬ y < x := fun k => k1 (.inl k)
    have n2 : ¬ z < y := fun k => k2 (.inl k)
    rintro (k | ⟨k, k'⟩)
    · omega
    · have e1 : y = x := by omega
      have e2 : z = y := by omega
      have := ltL_trans a b c (by simpa using h1) (by simpa using h2) (by simpa using fun k => k1 (.inr ⟨e1, k⟩)) (by simpa using fun k => k2 (.inr ⟨e2, k⟩))
      rw [this] at k'; cases k'
  | [], y :: b, _, h, _, _, _ => by simp at h
  | x :: a, [], _, h, _, _, _ => by simp at h
  | _, [], z :: c, _, h, _, _ => by simp at h
  | _, y :: b, [], _, h, _, _ => by simp at h
def pkey (p : S92) : List Int := [p.f0.f0, p.f0.f1, p.f0.f2, if p.f2 = true then 1 else 0, p.f1.f0, p.f1.f1, p.f1.f2]
def ltP (a b : S92) : Bool := ltL (pkey a) (pkey b)
theorem pkey_inj {a b : S92} (h : pkey a = pkey b) : a = b := by
  obtain ⟨⟨a1, a2, a3⟩, ⟨a4, a5, a6⟩, a7⟩ := a
  obtain ⟨⟨b1, b2, b3⟩, ⟨b4, b5, b6⟩, b7⟩ := b
  simp only [pkey, List.cons.injEq] at h
  obtain ⟨h1, h2, h3, h4, h5, h6, h7, -⟩ := h
  subst h1 h2 h3 h5 h6 h7
  have : a7 = b7 := by cases a7 <;> cases b7 <;> simp at h4 <;> rfl
  rw [this]
def psort (l : List S92) : List S92 := gsort ltP [] l
theorem psort_perm {a b : List S92} (h : a.Perm b) : psort a = psort b := by
  have pa := gsort_perm ltP a []
  have pb := gsort_perm ltP b []
  have ht : ∀ a b c : S92, ltP b a = false → ltP c b = false → ltP c a = false := fun a b c => ltL_trans (pkey a) (pkey b) (pkey c) rfl rfl
  have ha : ∀ a b : S92, ltP a b = true → ltP b a = false := fun a b => ltL_asym _ _
  exact gsort_uniq ltP (fun a b h1 h2 => pkey_inj (ltL_tot _ _ rfl h1 h2)) (gsort_sorted ltP ht ha a [] List.Pairwise.nil) (gsort_sorted ltP ht ha b [] List.Pairwise.nil) (pa.trans (h.trans pb.symm))
theorem psort_len (l : List S92) : (psort l).length = l.length := (gsort_perm ltP l []).length_eq.trans (by simp)

def cmpR (x y : S70) : Int := if x.f0 < y.f0 then -1 else if x.f0 > y.f0 then 1 else if x.f1 < y.f1 then -1 else if x.f1 > y.f1 then 1 else if x.f2 < y.f2 then -1 else if x.f2 > y.f2 then 1 else 0
theorem spec_CompareRows_ev (x y : S70) : Ev (fun k => spec_CompareRows.f k x.f0 x.f1 x.f2 y.f0 y.f1 y.f2) (cmpR x y) := by
  have w1 : wrap64 ((0 : Int) + 1) = 1 := w64 (by omega) (by omega)
  have w2 : wrap64 ((1 : Int) + 1) = 2 := w64 (by omega) (by omega)
  have w3 : wrap64 ((2 : Int) + 1) = 3 := w64 (by omega) (by omega)
  unfold cmpR
  refine Ev.u (fun k => by rw [spec_CompareRows.f]) ?_
  refine Ev.s (fun k => by rw [spec_CompareRows.l0]) (Ev.t (by omega) (Ev.t (by omega) (Ev.t (by simp) (Ev.t (by simp) ?_))))
  rw [show rdOf 0 [x.f0, x.f1, x.f2] 0 = x.f0 from rfl, show rdOf 0 [y.f0, y.f1, y.f2] 0 = y.f0 from rfl, w1]
  refine Ev.i (fun h => by rw [if_pos h]; exact Ev.p) (fun h => ?_)
  rw [if_neg h]
  refine Ev.i (fun h => by rw [if_pos h]; exact Ev.p) (fun h => ?_)
  rw [if_neg h]
  refine Ev.s (fun k => by rw [spec_CompareRows.l0]) (Ev.t (by omega) (Ev.t (by omega) (Ev.t (by simp) (Ev.t (by simp) ?_))))
  rw [show rdOf 0 [x.f0, x.f1, x.f2] 1 = x.f1 from rfl, show rdOf 0 [y.f0, y.f1, y.f2] 1 = y.f1 from rfl, w2]
  refine Ev.i (fun h => by rw [if_pos h]; exact Ev.p) (fun h => ?_)
  rw [if_neg h]
  refine Ev.i (fun h => by rw [if_pos h]; exact Ev.p) (fun h => ?_)
  rw [if_neg h]
  refine Ev.s (fun k => by rw [spec_CompareRows.l0]) (Ev.t (by omega) (Ev.t (by omega) (Ev.t (by simp) (Ev.t (by simp) ?_))))
  rw [show rdOf 0 [x.f0, x.f1, x.f2] 2 = x.f2 from rfl, show rdOf 0 [y.f0, y.f1, y.f2] 2 = y.f2 from rfl, w3]
  refine Ev.i (fun h => by rw [if_pos h]; exact Ev.p) (fun h => ?_)
  rw [if_neg h]
  refine Ev.i (fun h => by rw [if_pos h]; exact Ev.p) (fun h => ?_)
  rw [if_neg h]
  refine Ev.s (fun k => by rw [spec_CompareRows.l0]) ?_
  exact Ev.e (by omega) Ev.p
def cmpP (a b : S92) : Int := if cmpR a.f0 b.f0 = 0 then (if (a.f2 == b.f2) = true then cmpR a.f1 b.f1 else if b.f2 = true then -1 else 1) else cmpR a.f0 b.f0
theorem spec_ComparePairs_ev (a b : S92) : Ev (fun k => spec_ComparePairs.f k a.f0.f0 a.f0.f1 a.f0.f2 a.f1.f0 a.f1.f1 a.f1.f2 a.f2 b.f0.f0 b.f0.f1 b.f0.f2 b.f1.f0 b.f1.f1 b.f1.f2 b.f2) (cmpP a b) := by
  unfold cmpP
  refine Ev.u (fun k => by rw [spec_ComparePairs.f]) ?_
  refine Ev.b (spec_CompareRows_ev a.f0 b.f0) (Ev.i (fun h => ?_) (fun h => ?_))
  · rw [if_pos h]
    refine Ev.i (fun h2 => ?_) (fun h2 => ?_)
    · rw [if_pos h2]; exact Ev.b (spec_CompareRows_ev a.f1 b.f1) Ev.p
    · rw [if_neg h2]
      refine Ev.i (fun h3 => ?_) (fun h3 => ?_)
      · rw [if_pos h3]; exact Ev.p
      · rw [if_neg h3]; exact Ev.p
  · rw [if_neg h]; exact Ev.p
theorem cmpR_key (x y : S70) (s t : List Int) : (cmpR x y > 0 ∨ (cmpR x y = 0 ∧ ltL t s = true)) ↔ ltL (y.f0 :: y.f1 :: y.f2 :: t) (x.f0 :: x.f1 :: x.f2 :: s) = true := by
  rw [ltL_iff, ltL_iff, ltL_iff]
  unfold cmpR
  by_cases h1 : x.f0 < y.f0
  · rw [if_pos h1]; constructor <;> intro h <;> omega
  rw [if_neg h1]
  by_cases h2 : x.f0 > y.f0
  · rw [if_pos h2]; constructor <;> intro h <;> omega
  rw [if_neg h2]
  by_cases h3 : x.f1 < y.f1
  · rw [if_pos h3]; constructor <;> intro h <;> omega
  rw [if_neg h3]
  by_cases h4 : x.f1 > y.f1
  · rw [if_pos h4]; constructor <;> intro h <;> omega
  rw [if_neg h4]
  by_cases h5 : x.f2 < y.f2
  · rw [if_pos h5]; constructor <;> intro h <;> omega
  rw [if_neg h5]
  by_cases h6 : x.f2 > y.f2
  · rw [if_pos h6]; constructor <;> intro h <;> omega
  rw [if_neg h6]
  constructor
  · rintro (h | ⟨_, h⟩)
    · omega
    · exact .inr ⟨by omega, .inr ⟨by omega, .inr ⟨by omega, h⟩⟩⟩
  · rintro (h | ⟨_, h | ⟨_, h | ⟨_, h⟩⟩⟩)
    · omega
    · omega
    · omega
    · exact .inr ⟨rfl, h⟩

theorem rdPr (l : List S92) (i : Nat) : rd_T92 l (i : Int) = l.getD i z92 := rfl
theorem cmpP_gt (a b : S92) : cmpP a b > 0 ↔ ltP b a = true := by
  have h1 := cmpR_key a.f0 b.f0 ((if a.f2 = true then 1 else 0) :: [a.f1.f0, a.f1.f1, a.f1.f2]) ((if b.f2 = true then 1 else 0) :: [b.f1.f0, b.f1.f1, b.f1.f2])
  have h2 := cmpR_key a.f1 b.f1 [] []
  unfold ltP pkey
  rw [← h1, ltL_iff, ← h2]
  unfold cmpP
  have e0 : ltL [] [] = false := rfl
  by_cases h : cmpR a.f0 b.f0 = 0
  · rw [if_pos h, h, e0]
    cases ha : a.f2 <;> cases hb : b.f2 <;> simp
  · rw [if_neg h]
    constructor
    · intro k; exact .inl k
    · rintro (k | ⟨k, -⟩)
      · exact k
      · exact absurd k h
theorem spec_l7Sorted_l1 (l : List S92) (hl : l.length ≤ 1099511627776) (i : Nat) (hi : i < l.length) (x : S92) (hx : ∀ d, l.getD i d = x) (r : List S92) : ∀ (rp q : List S92), rp.length + q.length ≤ 1099511627776 →
    Ev (fun k => spec_l7Sorted.l0 k (gbub ltP x rp q) ((i + 1 : Nat) : Int) l) r → Ev (fun k => spec_l7Sorted.l1 k (rp.reverse ++ q) (i : Int) (rp.length : Int) l) r := by
  have J0 : ∀ (pre q : List S92) (n : Nat), n = pre.length → pre.length + q.length ≤ 1099511627776 → Ev (fun k => spec_l7Sorted.l0 k (pre ++ x :: q) ((i + 1 : Nat) : Int) l) r → Ev (fun k => spec_l7Sorted.j0 k (pre ++ q) (i : Int) (n : Int) l) r := by
    intro pre q n hn hp h
    subst hn
    refine Ev.s (fun k => by rw [spec_l7Sorted.j0]) (Ev.t (by omega) (Ev.t (by omega) (Ev.t (by omega) (Ev.t (by rw [List.length_append]; omega) ?_))))
    have e1 : (pre ++ q).take (pre.length : Int).toNat = pre := by simp
    have e2 : (pre ++ q).drop (pre.length : Int).toNat = q := by simp
    rw [e1, e2, rdPr, hx, w64s hi (by omega)]
    refine Ev.t (by simp; omega) (Ev.t (by omega) (Ev.t (by simp; omega) ?_))
    exact h
  intro rp
  induction rp with
  | nil =>
    intro q hp h
    refine Ev.s (fun k => by rw [spec_l7Sorted.l1]) (Ev.e (by simp) ?_)
    exact J0 [] q 0 rfl (by simpa using hp) h
  | cons y rp ih =>
    intro q hp h
    rw [List.length_cons] at hp
    have e1 : wrap64 (((y :: rp).length : Int) - 1) = (rp.length : Int) := by rw [List.length_cons, w64 (by omega) (by omega)]; omega
    have el : (y :: rp).reverse ++ q = rp.reverse ++ y :: q := by simp
    have r2 : rd_T92 (rp.reverse ++ y :: q) (rp.length : Int) = y := by
      have := rdPPair rp.reverse y q
      simpa using this
    refine Ev.s (fun k => by rw [spec_l7Sorted.l1]) (Ev.t (by rw [List.length_cons]; omega) ?_)
    rw [e1, el, r2, rdPr l i, hx]
    refine Ev.t (by omega) (Ev.t (by simp; omega) (Ev.t (by omega) (Ev.t (by omega) (Ev.b (spec_ComparePairs_ev y x) (Ev.i (fun hc => ?_) (fun hc => ?_))))))
    · rw [gbub, if_pos ((cmpP_gt y x).1 hc)] at h
      exact ih (y :: q) (by rw [List.length_cons]; omega) h
    · rw [gbub, if_neg (fun k => hc ((cmpP_gt y x).2 k))] at h
      rw [← el]
      exact J0 (y :: rp).reverse q (y :: rp).length (by simp) (by simp; omega) h
theorem gbub_len {α : Type} (lt : α → α → Bool) (x : α) (rp q : List α) : (gbub lt x rp q).length = rp.length + q.length + 1 := by
  rw [(gbub_perm lt x rp q).length_eq]; simp
theorem spec_l7Sorted_l0 (l : List S92) (hl : l.length ≤ 1099511627776) : ∀ (s : List S92) (i : Nat) (P : List S92), l.drop i = s → P.length = i → i ≤ l.length → Ev (fun k => spec_l7Sorted.l0 k P (i : Int) l) (gsort ltP P s) := by
  intro s
  induction s with
  | nil =>
    intro i P hd hP hi
    have := drop_nil' hd
    exact Ev.s (fun k => by rw [spec_l7Sorted.l0]) (Ev.e (by omega) (Ev.p.r (by rfl)))
  | cons x t ih =>
    intro i P hd hP hil
    obtain ⟨hi, hd', hx, -⟩ := drop_cons' hd
    refine Ev.s (fun k => by rw [spec_l7Sorted.l0]) (Ev.t (by omega) ?_)
    have e := spec_l7Sorted_l1 l hl i hi x hx (gsort ltP P (x :: t)) P.reverse [] (by simp; omega) (ih (i + 1) (gbub ltP x P.reverse []) hd' (by rw [gbub_len]; simp; omega) (by omega))
    rw [List.reverse_reverse, List.append_nil, List.length_reverse] at e
    exact e
theorem spec_l7Sorted_ev (l : List S92) (hl : l.length ≤ 1099511627776) : Ev (fun k => spec_l7Sorted.f k l) (psort l) :=
  Ev.u (fun _ => rfl) (spec_l7Sorted_l0 l hl l 0 [] rfl rfl (by omega))
theorem spec_EqualPairBags_l0 (l : List S92) (hl : l.length ≤ 1099511627776) : ∀ (s : List S92) (i : Nat), l.drop i = s → Ev (fun k => spec_EqualPairBags.l0 k l l (i : Int)) true := by
  intro s
  induction s with
  | nil =>
    intro i hd
    have := drop_nil' hd
    exact Ev.s (fun k => by rw [spec_EqualPairBags.l0]) (Ev.e (by omega) (Ev.p.r (by rfl)))
  | cons x t ih =>
    intro i hd
    obtain ⟨hi, hd', hx, -⟩ := drop_cons' hd
    refine Ev.s (fun k => by rw [spec_EqualPairBags.l0]) (Ev.t (by omega) (Ev.t (by omega) (Ev.t (by omega) ?_)))
    rw [w64s hi (by omega)]
    exact Ev.t (by simp) (ih (i + 1) hd')
theorem EqualPairBags_ev (a b : List S92) (h : a.Perm b) (ha : a.length ≤ 1099511627776) : Ev (fun k => spec_EqualPairBags.f k a b) true := by
  have hb : b.length ≤ 1099511627776 := by rw [← h.length_eq]; exact ha
  refine Ev.u (fun _ => rfl) (Ev.b (spec_l7Sorted_ev a ha) (Ev.b (spec_l7Sorted_ev b hb) ?_))
  rw [psort_perm h]
  have hl := psort_len b
  exact Ev.t rfl (spec_EqualPairBags_l0 (psort b) (by omega) (psort b) 0 rfl)

theorem andI_255 (a : Int) : 0 ≤ andI a 255 ∧ andI a 255 ≤ 255 := by
  unfold andI
  have h1 : (BitVec.ofInt 64 a &&& BitVec.ofInt 64 255).toNat ≤ 255 := by
    rw [BitVec.toNat_and]
    exact Nat.and_le_right
  rw [w64 (by omega) (by omega)]
  omega
def Rd (l : List Int) (p : Int) : Prop := 0 ≤ p ∧ p ≤ (l.length : Int) ∧ l.length ≤ 1099511627776
theorem l1Byte_ex (l : List Int) (p z : Int) (h : Rd l p) : ∃ v p' z', spec_l1Byte.f l p z = some (v, p', z') ∧ 0 ≤ v ∧ v ≤ 255 ∧ Rd l p' := by
  obtain ⟨h0, h1, h2⟩ := h
  unfold spec_l1Byte.f
  by_cases hp : p < (l.length : Int)
  · rw [if_pos hp, if_pos h0]
    refine ⟨_, _, _, rfl, (andI_255 _).1, (andI_255 _).2, ?_⟩
    rw [w64 (by omega) (by omega)]
    exact ⟨by omega, by omega, h2⟩
  · rw [if_neg hp]
    exact ⟨_, _, _, rfl, (andI_255 _).1, (andI_255 _).2, h0, h1, h2⟩
theorem l1Below_ex (l : List Int) (p z n : Int) (h : Rd l p) (hn : n ≤ 256) : ∃ v p' z', spec_l1Below.f l p z n = some (v, p', z') ∧ 0 ≤ v ∧ (v < n ∨ (n ≤ 0 ∧ v = 0)) ∧ Rd l p' := by
  unfold spec_l1Below.f
  by_cases h0 : n ≤ 0
  · rw [if_pos h0]; exact ⟨0, p, z, rfl, by omega, .inr ⟨h0, rfl⟩, h⟩
  · rw [if_neg h0, if_pos hn]
    obtain ⟨v, p', z', e, v0, v1, hr⟩ := l1Byte_ex l p z h
    rw [ob e, if_pos (by omega)]
    have e2 : Int.tmod v n = v % n := Int.tmod_eq_emod_of_nonneg v0
    refine ⟨_, _, _, rfl, ?_, .inl ?_, hr⟩
    · show 0 ≤ Int.tmod v n
      rw [e2]; exact Int.emod_nonneg _ (by omega)
    · show Int.tmod v n < n
      rw [e2]; exact Int.emod_lt_of_pos _ (by omega)
theorem l1Once_ex (l : List Int) (p z n : Int) (h : Rd l p) (hn : n ≤ 256) : ∃ b p' z', spec_l1Once.f l p z n = some (b, p', z') ∧ Rd l p' := by
  obtain ⟨v, p', z', e, -, -, hr⟩ := l1Below_ex l p z n h hn
  unfold spec_l1Once.f
  rw [ob e]
  exact ⟨_, _, _, rfl, hr⟩
theorem l1PickInt_ex (l : List Int) (p z : Int) (c : List Int) (h : Rd l p) (hc : 0 < c.length) (hn : c.length ≤ 256) : ∃ v p' z', spec_l1PickInt.f l p z c = some (v, p', z') ∧ v ∈ c ∧ Rd l p' := by
  obtain ⟨v, p', z', e, v0, v1, hr⟩ := l1Below_ex l p z (c.length : Int) h (by omega)
  unfold spec_l1PickInt.f
  rw [ob e]
  show ∃ v' q q', (if 0 ≤ v then (if v < (c.length : Int) then some (rdOf 0 c v, p', z') else none) else none) = some (v', q, q') ∧ _
  rw [if_pos v0, if_pos (by omega)]
  refine ⟨_, _, _, rfl, ?_, hr⟩
  obtain ⟨n, rfl⟩ : ∃ n : Nat, v = n := ⟨v.toNat, by omega⟩
  rw [rdI, List.getD_eq_getElem?_getD, List.getElem?_eq_getElem (by omega)]
  exact List.getElem_mem (by omega)
theorem l2Row_ex (l : List Int) (p z n : Int) (h : Rd l p) (hn : n ≤ 256) : ∃ a b c p' z', spec_l2Row.f l p z n = some (a, b, c, p', z') ∧ 0 ≤ a ∧ (a < n ∨ (n ≤ 0 ∧ a = 0)) ∧ 0 ≤ b ∧ b ≤ 99 ∧ 0 ≤ c ∧ c ≤ 3 ∧ Rd l p' := by
  obtain ⟨v1, p1, z1, e1, a0, a1, h1⟩ := l1Below_ex l p z n h hn
  obtain ⟨v2, p2, z2, e2, b0, b1, h2⟩ := l1Below_ex l p1 z1 100 h1 (by omega)
  obtain ⟨v3, p3, z3, e3, c0, h3⟩ := l1PickInt_ex l p2 z2 [0, 0, 1, 2, 3] h2 (by simp) (by simp)
  unfold spec_l2Row.f
  rw [ob e1, ob e2, ob e3]
  refine ⟨_, _, _, _, _, rfl, a0, a1, b0, by omega, ?_, ?_, h3⟩
  · simp at c0; show 0 ≤ v3; omega
  · simp at c0; show v3 ≤ 3; omega

theorem l2Rows_l0 (l : List Int) (n : Int) (hn : 1 ≤ n ∧ n ≤ 10) : ∀ (m : Nat) (R : List S70) (p z : Int), Rd l p → vAll R = true → R.length + m ≤ 1000 → ∃ R' p' z', Ev (fun k => spec_l2Rows.l0 k R n (m : Int) p z l) (R', p', z') ∧ vAll R' = true ∧ R'.length = R.length + m ∧ Rd l p' := by
  intro m
  induction m with
  | zero =>
    intro R p z h hv hR
    exact ⟨R, p, z, Ev.s (fun k => by rw [spec_l2Rows.l0]) (Ev.e (by omega) Ev.p), hv, rfl, h⟩
  | succ m ih =>
    intro R p z h hv hR
    obtain ⟨a, b, c, p', z', e, a0, a1, b0, b1, c0, c1, hr⟩ := l2Row_ex l p z n h (by omega)
    have hv' : vAll (R ++ [⟨a, b, c⟩]) = true := by
      unfold vAll at hv ⊢
      rw [List.all_append, hv]
      simp [vRow, inB]; omega
    obtain ⟨R', p2, z2, e2, v2, l2, r2⟩ := ih (R ++ [⟨a, b, c⟩]) p' z' hr hv' (by simp; omega)
    refine ⟨R', p2, z2, ?_, v2, by rw [l2]; simp; omega, r2⟩
    refine Ev.s (fun k => by rw [spec_l2Rows.l0]) ?_
    rw [show wrap64 (((m + 1 : Nat) : Int) - 1) = (m : Int) by rw [w64 (by omega) (by omega)]; omega]
    refine Ev.t (by omega) (Ev.b (Ev.c e) ?_)
    exact Ev.t (by omega) e2
theorem l2Rows_ex (l : List Int) (p z n : Int) (h : Rd l p) (hn : 0 ≤ n ∧ n ≤ 100) : ∃ R p' z', Ev (fun k => spec_l2Rows.f k l p z n) (R, p', z') ∧ vAll R = true ∧ (R.length : Int) ≤ n ∧ Rd l p' := by
  obtain ⟨v1, p1, z1, e1, m1, h1⟩ := l1PickInt_ex l p z [1, 2, 4, 10] h (by simp) (by simp)
  obtain ⟨v2, p2, z2, e2, b0, b1, h2⟩ := l1Below_ex l p1 z1 (n + 1) h1 (by omega)
  have hv : 1 ≤ v1 ∧ v1 ≤ 10 := by simp at m1; omega
  obtain ⟨w, rfl⟩ : ∃ w : Nat, v2 = w := ⟨v2.toNat, by omega⟩
  obtain ⟨R, p', z', e, hvR, hl, hr⟩ := l2Rows_l0 l v1 hv w [] p2 z2 h2 rfl (by simp; omega)
  refine ⟨R, p', z', Ev.u (fun _ => rfl) (Ev.b (Ev.c e1) ?_), hvR, by rw [hl]; simp; omega, hr⟩
  rw [w64 (x := n + 1) (by omega) (by omega)]
  exact Ev.b (Ev.c e2) e
theorem l2Any_ex (l : List Int) (p z : Int) (h : Rd l p) : ∃ a b c p' z', spec_l2Any.f l p z = some (a, b, c, p', z') ∧ Rd l p' := by
  obtain ⟨a, b, c, p1, z1, e1, -, -, -, -, -, -, h1⟩ := l2Row_ex l p z 10 h (by omega)
  obtain ⟨v, p2, z2, e2, -, -, h2⟩ := l1Below_ex l p1 z1 8 h1 (by omega)
  unfold spec_l2Any.f
  rw [ob e1, ob e2]
  dsimp only
  by_cases k0 : v = 0
  · obtain ⟨w, p3, z3, e3, -, h3⟩ := l1PickInt_ex l p2 z2 [-1, 10] h2 (by simp) (by simp)
    rw [if_pos k0, ob e3]; exact ⟨_, _, _, _, _, rfl, h3⟩
  rw [if_neg k0]
  by_cases k1 : v = 1
  · obtain ⟨w, p3, z3, e3, -, h3⟩ := l1PickInt_ex l p2 z2 [-1, 100, 99] h2 (by simp) (by simp)
    rw [if_pos k1, ob e3]; exact ⟨_, _, _, _, _, rfl, h3⟩
  rw [if_neg k1]
  by_cases k2 : v = 2
  · obtain ⟨w, p3, z3, e3, -, h3⟩ := l1PickInt_ex l p2 z2 [-1, 4] h2 (by simp) (by simp)
    rw [if_pos k2, ob e3]; exact ⟨_, _, _, _, _, rfl, h3⟩
  rw [if_neg k2]; exact ⟨_, _, _, _, _, rfl, h2⟩
theorem l1New_ev (l : List Int) (hl : l.length ≤ 1048576) : ∃ z', Ev (fun k => spec_l1New.f k l) (0, z') := by
  have J : ∀ z : Int, Ev (fun k => spec_l1New.j0 k z l) (0, z) := fun z => Ev.s (fun k => by rw [spec_l1New.j0]) Ev.p
  have L : ∀ (s : List Int) (i : Nat) (z : Int), l.drop i = s → ∃ z', Ev (fun k => spec_l1New.l0 k z (i : Int) l) (0, z') := by
    intro s
    induction s with
    | nil =>
      intro i z hd
      have := drop_nil' hd
      exact ⟨z, Ev.s (fun k => by rw [spec_l1New.l0]) (Ev.e (by omega) (J z))⟩
    | cons x t ih =>
      intro i z hd
      obtain ⟨hi, hd', hx, -⟩ := drop_cons' hd
      by_cases h4 : (i : Int) < 4000
      · obtain ⟨z', e⟩ := ih (i + 1) _ hd'
        refine ⟨z', Ev.s (fun k => by rw [spec_l1New.l0]) ?_⟩
        rw [w64s hi (by omega)]
        exact Ev.t (by omega) (Ev.t h4 (Ev.t (by omega) e))
      · exact ⟨z, Ev.s (fun k => by rw [spec_l1New.l0]) (Ev.t (by omega) (Ev.e h4 (J z)))⟩
  obtain ⟨z', e⟩ := L l 0 _ rfl
  exact ⟨z', Ev.u (fun _ => rfl) e⟩
theorem Rd0 (l : List Int) (hl : l.length ≤ 1048576) : Rd l 0 := ⟨by omega, by omega, by omega⟩
def urq (q : Int) (p : S70 × Bool) : List S92 := if q = 3 ∨ q = 4 then ur p else []
def elT (q : Int) (r : List S70) (p : S70 × Bool) : List S92 := jc q r p ++ urq q (p.1, jm r p)
def rsT (t : S44) : List S92 := (zl t).flatMap (elT t.f0 t.f2)
theorem fm_app {α β : Type} (f g : α → List β) : ∀ l : List α, (l.flatMap f ++ l.flatMap g).Perm (l.flatMap fun x => f x ++ g x)
  | [] => List.Perm.refl _
  | x :: l => by
    have ih := fm_app f g l
    rw [List.flatMap_cons, List.flatMap_cons, List.flatMap_cons, List.append_assoc, List.append_assoc]
    refine List.Perm.append_left _ ?_
    have h : (l.flatMap f ++ (g x ++ l.flatMap g)).Perm (g x ++ (l.flatMap f ++ l.flatMap g)) := by
      rw [← List.append_assoc, ← List.append_assoc]
      exact List.Perm.append_right _ List.perm_append_comm
    exact h.trans (List.Perm.append_left _ ih)
theorem fm_congr {α β : Type} {f g : α → List β} : ∀ {l : List α}, (∀ x ∈ l, f x = g x) → l.flatMap f = l.flatMap g
  | [], _ => rfl
  | x :: l, h => by rw [List.flatMap_cons, List.flatMap_cons, h x (List.mem_cons_self ..), fm_congr (fun y hy => h y (List.mem_cons_of_mem _ hy))]
theorem fm_map {α β γ : Type} (f : α → β) (g : β → List γ) : ∀ l : List α, (l.map f).flatMap g = l.flatMap fun x => g (f x)
  | [] => rfl
  | x :: l => by rw [List.map_cons, List.flatMap_cons, List.flatMap_cons, fm_map f g l]
theorem fm_split {α β : Type} (p : α → Bool) (f : α → List β) : ∀ l : List α, ((l.filter p).flatMap f ++ (l.filter fun x => !p x).flatMap f).Perm (l.flatMap f)
  | [] => List.Perm.refl _
  | x :: l => by
    have ih := fm_split p f l
    cases h : p x with
    | true =>
      rw [List.filter_cons_of_pos h, List.filter_cons_of_neg (by simp [h]), List.flatMap_cons, List.flatMap_cons, List.append_assoc]
      exact List.Perm.append_left _ ih
    | false =>
      rw [List.filter_cons_of_neg (by simp [h]), List.filter_cons_of_pos (by simp [h]), List.flatMap_cons, List.flatMap_cons]
      have h2 : ((l.filter p).flatMap f ++ (f x ++ (l.filter fun x => !p x).flatMap f)).Perm (f x ++ ((l.filter p).flatMap f ++ (l.filter fun x => !p x).flatMap f)) := by
        rw [← List.append_assoc, ← List.append_assoc]
        exact List.Perm.append_right _ List.perm_append_comm
      exact h2.trans (List.Perm.append_left _ ih)
theorem nKey_app (x : Int) (c d : List S70) : nKey x (c ++ d) = nKey x c + nKey x d := by simp [nKey]
theorem nKey_flt {x : Int} {c : List S70} (h : nKey x c = 0) : (c.filter fun r => r.f0 == x) = [] := by
  unfold nKey at h
  rw [List.countP_eq_zero] at h
  exact List.filter_eq_nil_iff.2 h
theorem jm_app (c d : List S70) (p : S70 × Bool) : jm (c ++ d) p = jm d (p.1, jm c p) := by
  unfold jm; rw [nKey_app]
  by_cases h1 : nKey p.1.f0 c = 0 <;> by_cases h2 : nKey p.1.f0 d = 0 <;> simp [h1, h2]
theorem jc_app (q : Int) (c d : List S70) (p : S70 × Bool) : jc q (c ++ d) p = jc q c p ++ jc q d (p.1, jm c p) := by
  unfold jc jm; rw [nKey_app, List.filter_append, List.map_append]
  by_cases h1 : nKey p.1.f0 c = 0 <;> by_cases h2 : nKey p.1.f0 d = 0
  · simp [h1, h2]
  · simp [h1, h2, nKey_flt h1]
  · simp [h1, h2, nKey_flt h2]
  · by_cases h3 : q = 2
    · simp [h1, h2, h3]
    · by_cases h4 : q = 1 ∨ q = 4
      · simp [h1, h2, h3, h4]
      · simp [h1, h2, h3, h4]
theorem elT_app (q : Int) (c d : List S70) (p : S70 × Bool) : elT q (c ++ d) p = jc q c p ++ elT q d (p.1, jm c p) := by
  unfold elT; rw [jc_app, jm_app, List.append_assoc]
theorem zl_jT {t : S44} (h : VT t) (c : List S70) : zl (jT t c) = (zl t).map fun p => (p.1, jm c p) := by
  rw [jT_vt h]
  show t.f1.zip ((zl t).map (jm c)) = _
  have e := zl_fst h.len
  have : (((zl t).map (·.1)).zip ((zl t).map (jm c))) = (zl t).map fun p => (p.1, jm c p) := List.zip_map' ..
  rw [e] at this; exact this
theorem jP_vt {t : S44} (h : VT t) (c : List S70) : jP t c = (zl t).flatMap (jc t.f0 c) := by unfold jP; rw [if_pos (vTask_iff.2 h)]
theorem VT.jT {t : S44} (h : VT t) (c : List S70) : VT (jT t c) := by
  rw [jT_vt h]
  refine ⟨h.kind, h.left, h.right, ?_, h.level⟩
  show ((zl t).map (jm _)).length = t.f1.length
  have := h.len
  simp [zl]; omega
theorem uR_vt {t : S44} (h : VT t) : uR t = (zl t).flatMap (urq t.f0) := by
  unfold uR
  by_cases h2 : t.f0 = 3 ∨ t.f0 = 4
  · rw [if_pos ⟨vTask_iff.2 h, h2⟩]; exact fm_congr fun x _ => by unfold urq; rw [if_pos h2]
  · rw [if_neg (fun k => h2 k.2), fm_congr (g := fun _ => []) fun x _ => by unfold urq; rw [if_neg h2]]; simp
theorem uR_jT {t : S44} (h : VT t) (c : List S70) : uR (jT t c) = (zl t).flatMap fun p => urq t.f0 (p.1, jm c p) := by
  rw [uR_vt (h.jT c), zl_jT h, fm_map]
  rw [jT_vt h]
theorem rsT_side {t : S44} (h : VT t) : (jP t t.f2 ++ uR (jT t t.f2)).Perm (rsT t) := by
  rw [jP_vt h, uR_jT h]
  exact fm_app _ _ _
theorem jm_nil (p : S70 × Bool) : jm [] p = p.2 := by simp [jm, nKey]
theorem jc_nil (q : Int) (p : S70 × Bool) : jc q [] p = [] := by simp [jc, nKey]
theorem elT_nil (q : Int) (p : S70 × Bool) : elT q [] p = urq q p := by unfold elT; rw [jc_nil, jm_nil]; rfl
theorem rsT_empty {t : S44} (h : VT t) (h2 : t.f1.length = 0 ∨ t.f2.length = 0) : uR t = rsT t := by
  rw [uR_vt h]; unfold rsT
  rcases h2 with h2 | h2
  · have : zl t = [] := by unfold zl; rw [List.eq_nil_of_length_eq_zero h2]; rfl
    rw [this]; rfl
  · rw [List.eq_nil_of_length_eq_zero h2]
    exact fm_congr fun p _ => (elT_nil t.f0 p).symm
theorem rsT_chunk {t : S44} (h : VT t) (c d : List S70) (hc : c ++ d = t.f2) (u : S44) (h0 : u.f0 = t.f0) (h1 : u.f1 = t.f1) (h2 : u.f2 = d) (h3 : u.f3 = (jT t c).f3) : (jP t c ++ rsT u).Perm (rsT t) := by
  have e : rsT u = (zl t).flatMap fun p => elT t.f0 d (p.1, jm c p) := by
    have hz : zl u = zl (jT t c) := by unfold zl; rw [h1, h3, jT_vt h]
    unfold rsT; rw [hz, zl_jT h, fm_map, h0, h2]
  rw [e, jP_vt h]
  refine (fm_app _ _ _).trans ?_
  unfold rsT
  rw [← hc, fm_congr fun p _ => (elT_app t.f0 c d p).symm]
theorem flt_spl {v x : Int} (p : S70 → Bool) (l : List S70) (hp : ∀ r : S70, r.f0 = x → p r = true) : (l.filter p).filter (fun r => r.f0 == x) = l.filter fun r => r.f0 == x := by
  rw [List.filter_filter]
  refine List.filter_congr fun r _ => ?_
  by_cases h : r.f0 = x
  · simp [h, hp r h]
  · simp [h]
theorem nKey_f (x : Int) (l : List S70) : nKey x l = (l.filter fun r => r.f0 == x).length := by unfold nKey; rw [List.countP_eq_length_filter]
theorem elT_flt (q : Int) (l m : List S70) (p : S70 × Bool) (h : (m.filter fun r => r.f0 == p.1.f0) = l.filter fun r => r.f0 == p.1.f0) : elT q m p = elT q l p := by
  unfold elT jm jc
  rw [nKey_f, nKey_f, h]
theorem zip_unzip {α β : Type} : ∀ l : List (α × β), (l.map (·.1)).zip (l.map (·.2)) = l
  | [] => rfl
  | x :: l => by rw [List.map_cons, List.map_cons, List.zip_cons_cons, zip_unzip l]
theorem rsT_part (t : S44) : (rsT (part0 t) ++ rsT (part1 t)).Perm (rsT t) := by
  have e0 : rsT (part0 t) = ((zl t).filter fun p => hb t.f4 p.1).flatMap (elT t.f0 t.f2) := by
    unfold rsT
    rw [show zl (part0 t) = (zl t).filter fun p => hb t.f4 p.1 from zip_unzip _]
    refine fm_congr fun p hp => elT_flt _ _ _ _ (flt_spl (v := t.f4) _ _ fun r hr => ?_)
    have := (List.mem_filter.1 hp).2
    unfold hb at this ⊢; rw [hr]; exact this
  have e1 : rsT (part1 t) = ((zl t).filter fun p => !hb t.f4 p.1).flatMap (elT t.f0 t.f2) := by
    unfold rsT
    rw [show zl (part1 t) = (zl t).filter fun p => !hb t.f4 p.1 from zip_unzip _]
    refine fm_congr fun p hp => elT_flt _ _ _ _ (flt_spl (v := t.f4) _ _ fun r hr => ?_)
    have := (List.mem_filter.1 hp).2
    unfold hb at this ⊢; rw [hr]; exact this
  rw [e0, e1]
  exact fm_split _ _ _
/-- A chunk fits the grant or holds one row. -/
theorem nxt_cost (g : Int) : ∀ (s : List S70) (c : Int), c ≤ g → c + tCost (s.take (nxt g c s)) ≤ g
  | [], c, h => by simp [nxt, tCost]; exact h
  | x :: s, c, h => by
    rw [nxt]
    by_cases h2 : c + cRow x ≤ g
    · rw [if_pos h2, List.take_succ_cons, tCost_cons]
      have := nxt_cost g s (c + cRow x) h2; omega
    · rw [if_neg h2]; simp [tCost]; exact h
theorem nC_cost8 (l : List S70) (g : Int) (hg : 8 ≤ g) : tCost (l.take (nC l g)) ≤ g := by
  cases l with
  | nil => simp [tCost]; omega
  | cons x s => have := cRow_b x; rw [nC, List.take_succ_cons, tCost_cons]; exact nxt_cost g s (cRow x) (by omega)

structure SL (j j' : S73) (P : List S92) (u g : Int) : Prop where
  out : (P ++ j'.f0.flatMap rsT).Perm (j.f0.flatMap rsT)
  held : 0 ≤ u ∧ u ≤ g
  l : sL j'.f0 ≤ sL j.f0
  r : sR j'.f0 ≤ sR j.f0
  w : j.f1 ≤ j'.f1
  p : j.f2 ≤ j'.f2
  ww : j'.f1 + wW j'.f0 ≤ j.f1 + wW j.f0
  len : j.f0.length ≤ j'.f0.length + 1
theorem wt_part {t : S44} (h : VT t) : wt (part0 t) + wt (part1 t) + taskCost t = wt t := by
  have e0 : (part0 t).f4 = t.f4 + 1 := rfl
  have e1 : (part1 t).f4 = t.f4 + 1 := rfl
  unfold wt
  rw [e0, e1, ← Int.mul_add, (part_sum h).2.2, show (4 - t.f4) = (4 - (t.f4 + 1)) + 1 by omega, Int.add_mul, Int.one_mul]
theorem wt_chunk {t : S44} (h : VT t) (g : Int) : wt (chT t g) ≤ wt t := by
  obtain ⟨k1, k2, k3, k4, k5⟩ := chT_VT h g
  have hc : taskCost (chT t g) ≤ taskCost t := by
    unfold taskCost
    rw [k3, k4]
    have e := tCost_app (t.f2.take (nC t.f2 g)) (t.f2.drop (nC t.f2 g))
    rw [List.take_append_drop] at e
    have := tCost_b (t.f2.take (nC t.f2 g))
    omega
  unfold wt; rw [k5]
  have := h.level
  exact Int.mul_le_mul_of_nonneg_left hc (by omega)
theorem bSide_1 {t : S44} {g : Int} (h : bSide t g = 1) : tCost t.f1 ≤ g := by
  unfold bSide at h; split at h
  · split at h
    · rename_i k; exact k.2.2
    · split at h <;> omega
  · omega
theorem bSide_2 {t : S44} {g : Int} (h : bSide t g = 2) : tCost t.f2 ≤ g := by
  unfold bSide at h; split at h
  · split at h
    · omega
    · split at h
      · assumption
      · omega
  · omega
theorem stH_law {j : S73} {t : S44} {s : List S44} {g : Int} (h : VJ j) (hl : j.f0 = t :: s) (hg : 8 ≤ g) : SL j (stH j t s g).1 (stH j t s g).2.1 (stH j t s g).2.2.1 g := by
  have hv := (h.ts t (by rw [hl]; exact List.mem_cons_self ..)).1
  have hwt := wt_pos hv
  have hc := taskCost_b t hv
  have hcl := tCost_b t.f1
  have hcr := tCost_b t.f2
  have eo : j.f0.flatMap rsT = rsT t ++ s.flatMap rsT := by rw [hl, List.flatMap_cons]
  have ew : wW j.f0 = wt t + wW s := by rw [hl, wW_cons]
  have el : sL j.f0 = t.f1.length + sL s := by rw [hl, sL_cons]
  have er : sR j.f0 = t.f2.length + sR s := by rw [hl, sR_cons]
  have en : j.f0.length = s.length + 1 := by rw [hl, List.length_cons]
  unfold stH
  by_cases c1 : t.f1.length = 0 ∨ t.f2.length = 0
  · rw [if_pos c1]
    exact ⟨by rw [eo, rsT_empty hv c1], ⟨by show (0 : Int) ≤ 0; omega, by show (0 : Int) ≤ g; omega⟩, by show sL s ≤ _; omega, by show sR s ≤ _; omega, Int.le_refl _, Int.le_refl _, by show j.f1 + wW s ≤ _; omega, by show _ ≤ s.length + 1; omega⟩
  rw [if_neg c1]
  by_cases c2 : bSide t g = 0
  · rw [if_pos c2]
    by_cases c3 : needsN t = true
    · rw [if_pos c3]
      obtain ⟨k1, k2, k3, k4, k5⟩ := chT_VT hv g
      have hw := wt_chunk hv g
      have ht := tCost_b (t.f2.take (nC t.f2 g))
      refine ⟨?_, ⟨ht.1, nC_cost8 _ _ hg⟩, ?_, ?_, Int.le_refl _, Int.le_refl _, ?_, ?_⟩
      · rw [eo]
        show (jP t (t.f2.take (nC t.f2 g)) ++ (chT t g :: s).flatMap rsT).Perm _
        rw [List.flatMap_cons, ← List.append_assoc]
        exact List.Perm.append_right _ (rsT_chunk hv _ _ (List.take_append_drop ..) (chT t g) k2 k3 k4 rfl)
      · show sL (chT t g :: s) ≤ _; rw [sL_cons, k3]; omega
      · show sR (chT t g :: s) ≤ _; rw [sR_cons, k4, List.length_drop]; omega
      · show j.f1 + wW (chT t g :: s) ≤ _; rw [wW_cons]; omega
      · show _ ≤ s.length + 1 + 1; omega
    · rw [if_neg c3]
      have h4 : t.f4 ≠ 4 := by
        intro h4; apply c3; unfold needsN; simp [h4]
      have hp : parts t = true := by unfold parts; rw [vTask_iff.2 hv]; simp [h4]
      obtain ⟨s1, s2, s3⟩ := part_sum hv
      have hw := wt_part hv
      rw [show pT0 t = part0 t by rw [pT0, if_pos hp], show pT1 t = part1 t by rw [pT1, if_pos hp]]
      refine ⟨?_, ⟨by show (0 : Int) ≤ 8; omega, hg⟩, ?_, ?_, by show j.f1 ≤ j.f1 + taskCost t; omega, by show j.f2 ≤ j.f2 + 1; omega, ?_, ?_⟩
      · rw [eo]
        show ((part0 t :: part1 t :: s).flatMap rsT).Perm _
        rw [List.flatMap_cons, List.flatMap_cons, ← List.append_assoc]
        exact List.Perm.append_right _ (rsT_part t)
      · show sL (part0 t :: part1 t :: s) ≤ _; rw [sL_cons, sL_cons]; omega
      · show sR (part0 t :: part1 t :: s) ≤ _; rw [sR_cons, sR_cons]; omega
      · show j.f1 + taskCost t + wW (part0 t :: part1 t :: s) ≤ _; rw [wW_cons, wW_cons]; omega
      · show _ ≤ s.length + 1 + 1 + 1; omega
  · rw [if_neg c2]
    refine ⟨?_, ?_, by show sL s ≤ _; omega, by show sR s ≤ _; omega, Int.le_refl _, Int.le_refl _, by show j.f1 + wW s ≤ _; omega, by show _ ≤ s.length + 1; omega⟩
    · rw [eo]; exact List.Perm.append_right _ (rsT_side hv)
    · show 0 ≤ (if bSide t g = 1 then tCost t.f1 else tCost t.f2) ∧ (if bSide t g = 1 then tCost t.f1 else tCost t.f2) ≤ g
      by_cases c4 : bSide t g = 1
      · rw [if_pos c4]; exact ⟨hcl.1, bSide_1 c4⟩
      · rw [if_neg c4]; have := bSide_012 t g; exact ⟨hcr.1, bSide_2 (by omega)⟩
theorem stp_law {j : S73} {g : Int} (h : VJ j) (hg : inB g 8 60 = true) (hl : j.f0.length ≠ 0) : SL j (stp j g).1 (stp j g).2.1 (stp j g).2.2.1 g ∧ (stp j g).2.2.2 = true := by
  cases hl' : j.f0 with
  | nil => rw [hl'] at hl; simp at hl
  | cons t s =>
    have e : stp j g = stH j t s g := by
      unfold stp; rw [if_pos (vJ_iff.2 h)]; simp only [hl', if_pos hg]
    rw [e]
    refine ⟨stH_law h hl' (inB_iff.1 hg).1, ?_⟩
    unfold stH; (repeat' split) <;> rfl
theorem stp_no {j : S73} {g : Int} (h : (stp j g).2.2.2 = false) : stp j g = (j, [], 0, false) := by
  unfold stp at h ⊢
  by_cases hv : vJ j = true
  · rw [if_pos hv] at h ⊢
    cases hl : j.f0 with
    | nil => rfl
    | cons t s =>
      rw [hl] at h
      dsimp only at h ⊢
      by_cases hg : inB g 8 60 = true
      · rw [if_pos hg] at h
        exfalso; revert h; unfold stH; (repeat' split) <;> simp
      · rw [if_neg hg]
  · rw [if_neg hv]
theorem stp_yes {j : S73} {g : Int} (h : (stp j g).2.2.2 = true) : VJ j ∧ inB g 8 60 = true ∧ j.f0.length ≠ 0 := by
  unfold stp at h
  by_cases hv : vJ j = true
  · rw [if_pos hv] at h
    cases hl : j.f0 with
    | nil => rw [hl] at h; simp at h
    | cons t s =>
      rw [hl] at h
      dsimp only at h
      by_cases hg : inB g 8 60 = true
      · exact ⟨vJ_iff.1 hv, hg, by simp⟩
      · rw [if_neg hg] at h; simp at h
  · rw [if_neg hv] at h; simp at h
theorem eqRows_refl (a : List S70) : eqRows a a = true := eqRows_iff.2 rfl
theorem spec_EqualTasks_ev (t : S44) (h : tsz t ≤ 1048576) : Ev (fun k => spec_EqualTasks.f k t.f0 t.f1 t.f2 t.f3 t.f4 t.f0 t.f1 t.f2 t.f3 t.f4) true := by
  unfold tsz at h
  have L : ∀ (s : List Bool) (i : Nat), t.f3.drop i = s → Ev (fun k => spec_EqualTasks.l0 k (i : Int) t.f0 t.f4 t.f0 t.f4 t.f1 t.f2 t.f3 t.f1 t.f2 t.f3) true := by
    intro s
    induction s with
    | nil =>
      intro i hd
      have := drop_nil' hd
      exact Ev.s (fun k => by rw [spec_EqualTasks.l0]) (Ev.e (by omega) Ev.p)
    | cons x s ih =>
      intro i hd
      obtain ⟨hi, hd', hx, -⟩ := drop_cons' hd
      refine Ev.s (fun k => by rw [spec_EqualTasks.l0]) (Ev.t (by omega) (Ev.t (by omega) (Ev.t (by omega) (Ev.t (by simp) ?_))))
      rw [w64s hi (by omega)]
      exact ih (i + 1) hd'
  exact Ev.u (fun _ => rfl) (Ev.t rfl (Ev.b ((spec_l6Rows_ev t.f1 t.f1 (by omega)).r (eqRows_refl _)) (Ev.t rfl (Ev.b ((spec_l6Rows_ev t.f2 t.f2 (by omega)).r (eqRows_refl _)) (Ev.t rfl (Ev.t rfl (Ev.t rfl (L t.f3 0 rfl))))))))
theorem spec_EqualJoiners_ev (j : S73) (h : jsz j ≤ 1048576) : Ev (fun k => spec_EqualJoiners.f k j.f0 j.f1 j.f2 j.f0 j.f1 j.f2) true := by
  have hl : j.f0.length ≤ jsz j := by unfold jsz; omega
  have L : ∀ (s : List S44) (i : Nat), j.f0.drop i = s → Ev (fun k => spec_EqualJoiners.l0 k (i : Int) j.f1 j.f2 j.f1 j.f2 j.f0 j.f0) true := by
    intro s
    induction s with
    | nil =>
      intro i hd
      have := drop_nil' hd
      exact Ev.s (fun k => by rw [spec_EqualJoiners.l0]) (Ev.e (by omega) Ev.p)
    | cons x s ih =>
      intro i hd
      obtain ⟨hi, hd', hx, -⟩ := drop_cons' hd
      have hm := jsz_mem (j := j) (List.mem_of_mem_drop (by rw [hd]; exact List.mem_cons_self ..) : x ∈ j.f0)
      refine Ev.s (fun k => by rw [spec_EqualJoiners.l0]) (Ev.t (by omega) (Ev.t (by omega) (Ev.t (by omega) ?_)))
      rw [rdTask, hx, w64s hi (by omega)]
      exact Ev.b (spec_EqualTasks_ev x (by omega)) (Ev.t rfl (ih (i + 1) hd'))
  exact Ev.u (fun _ => rfl) (Ev.t rfl (Ev.t rfl (Ev.t rfl (L j.f0 0 rfl))))
theorem impl_PendingRows_ev (j : S73) (h : jsz j ≤ 1048576) : Ev (fun k => impl_PendingRows.f k j.f0 j.f1 j.f2) (((sL j.f0 + sR j.f0 : Nat)) : Int) := by
  have hl : j.f0.length ≤ jsz j := by unfold jsz; omega
  have hs := sLR_le j.f0
  have hs' : (j.f0.map tsz).sum ≤ jsz j := by unfold jsz; omega
  have L : ∀ (s : List S44) (i a : Nat), j.f0.drop i = s → a + sL s + sR s ≤ 1099511627776 → Ev (fun k => impl_PendingRows.l0 k (a : Int) (j.f0.length : Int) (i : Int) j.f0) (((a + (sL s + sR s) : Nat)) : Int) := by
    intro s
    induction s with
    | nil =>
      intro i a hd ha
      have := drop_nil' hd
      exact Ev.s (fun k => by rw [impl_PendingRows.l0]) (Ev.e (by omega) (Ev.p.r (by simp [sL, sR])))
    | cons x s ih =>
      intro i a hd ha
      rw [sL_cons, sR_cons] at ha
      obtain ⟨hi, hd', hx, -⟩ := drop_cons' hd
      refine Ev.s (fun k => by rw [impl_PendingRows.l0]) (Ev.t (by omega) (Ev.t (by omega) (Ev.t (by omega) ?_)))
      rw [rdTask, hx, w64s hi (by omega), w64 (x := (x.f1.length : Int) + (x.f2.length : Int)) (by omega) (by omega)]
      rw [show wrap64 ((a : Int) + ((x.f1.length : Int) + (x.f2.length : Int))) = ((a + x.f1.length + x.f2.length : Nat) : Int) by rw [w64 (by omega) (by omega)]; omega]
      exact (ih (i + 1) _ hd' (by omega)).r (by rw [sL_cons, sR_cons]; omega)
  exact Ev.u (fun _ => rfl) ((L j.f0 0 0 rfl (by omega)).r (by omega))
theorem spec_PendingRows_ev (j : S73) (h : jsz j ≤ 1048576) : Ev (fun k => spec_PendingRows.f k j.f0 j.f1 j.f2) (((sL j.f0 + sR j.f0 : Nat)) : Int) := by
  have hl : j.f0.length ≤ jsz j := by unfold jsz; omega
  have hs := sLR_le j.f0
  have hs' : (j.f0.map tsz).sum ≤ jsz j := by unfold jsz; omega
  have L : ∀ (s : List S44) (i a : Nat), j.f0.drop i = s → a + sL s + sR s ≤ 1099511627776 → Ev (fun k => spec_PendingRows.l0 k (a : Int) (i : Int) j.f1 j.f2 j.f0) (((a + (sL s + sR s) : Nat)) : Int) := by
    intro s
    induction s with
    | nil =>
      intro i a hd ha
      have := drop_nil' hd
      exact Ev.s (fun k => by rw [spec_PendingRows.l0]) (Ev.e (by omega) (Ev.p.r (by simp [sL, sR])))
    | cons x s ih =>
      intro i a hd ha
      rw [sL_cons, sR_cons] at ha
      obtain ⟨hi, hd', hx, -⟩ := drop_cons' hd
      refine Ev.s (fun k => by rw [spec_PendingRows.l0]) (Ev.t (by omega) (Ev.t (by omega) ?_))
      rw [rdTask, hx, w64s hi (by omega), w64 (x := (a : Int) + (x.f1.length : Int)) (by omega) (by omega)]
      rw [show wrap64 ((a : Int) + (x.f1.length : Int) + (x.f2.length : Int)) = ((a + x.f1.length + x.f2.length : Nat) : Int) by rw [w64 (by omega) (by omega)]; omega]
      exact (ih (i + 1) _ hd' (by omega)).r (by rw [sL_cons, sR_cons]; omega)
  exact Ev.u (fun _ => rfl) ((L j.f0 0 0 rfl (by omega)).r (by omega))
theorem big_eq (l : List Int) : laws_big.f l = some (decide ((l.length : Int) > 1048576)) := rfl

theorem l11Grant_ex (l : List Int) (p z : Int) (h : Rd l p) : ∃ g p' z', spec_l11Grant.f l p z = some (g, p', z') ∧ Rd l p' := by
  obtain ⟨b, p1, z1, e1, h1⟩ := l1Once_ex l p z 14 h (by omega)
  unfold spec_l11Grant.f
  rw [ob e1]
  cases b with
  | true =>
    obtain ⟨w, p3, z3, e3, -, h3⟩ := l1PickInt_ex l p1 z1 [7, 61] h1 (by simp) (by simp)
    dsimp only
    rw [if_pos rfl, ob e3]; exact ⟨_, _, _, rfl, h3⟩
  | false =>
    obtain ⟨w, p3, z3, e3, -, h3⟩ := l1PickInt_ex l p1 z1 [8, 8, 9, 12, 20, 60] h1 (by simp) (by simp)
    dsimp only
    rw [if_neg (by simp), ob e3]; exact ⟨_, _, _, rfl, h3⟩
theorem newT_sz (q : Int) (a b : List S70) : tsz (newT q a b) ≤ 72 := by
  by_cases h : nTk q a b = true
  · exact (newT_VT h).p
  · unfold newT; rw [if_neg h]; decide
theorem l16Draw_l0 (l : List Int) (c0 c4 d0 d4 : Int) (c1 c2 d1 d2 : List S70) (c3 : List Bool) : ∀ (m i : Nat) (F : List Bool) (p z : Int), Rd l p → F.length = i + m → F.length ≤ 1000 → ∃ F' p' z', Ev (fun k => spec_l16Draw.l0 k (i : Int) p z c0 c1 c2 c3 c4 d0 d1 d2 F d4 l) (d0, d1, d2, F', d4, p', z') ∧ F'.length = F.length ∧ Rd l p' := by
  intro m
  induction m with
  | zero =>
    intro i F p z h hF h1
    exact ⟨F, p, z, Ev.s (fun k => by rw [spec_l16Draw.l0]) (Ev.e (by omega) Ev.p), rfl, h⟩
  | succ m ih =>
    intro i F p z h hF h1
    obtain ⟨b, p1, z1, e1, r1⟩ := l1Once_ex l p z 4 h (by omega)
    obtain ⟨F', p', z', e, hl, hr⟩ := ih (i + 1) (F.set ((i : Int)).toNat b) p1 z1 r1 (by simp; omega) (by simp; omega)
    refine ⟨F', p', z', Ev.s (fun k => by rw [spec_l16Draw.l0]) (Ev.t (by omega) (Ev.t (by omega) (Ev.b (Ev.c e1) ?_))), by rw [hl]; simp, hr⟩
    rw [w64s (show i < F.length by omega) (by omega)]
    exact e
theorem l16Draw_ex (l : List Int) (p z n : Int) (h : Rd l p) (hn : 0 ≤ n ∧ n ≤ 24) : ∃ t : S44, ∃ p' z', Ev (fun k => spec_l16Draw.f k l p z n) (t.f0, t.f1, t.f2, t.f3, t.f4, p', z') ∧ tsz t ≤ 72 ∧ Rd l p' := by
  obtain ⟨A, p1, z1, e1, -, a1, h1⟩ := l2Rows_ex l p z n h (by omega)
  obtain ⟨v, p2, z2, e2, v0, v1, h2⟩ := l1Below_ex l p1 z1 4 h1 (by omega)
  obtain ⟨B, p3, z3, e3, -, a3, h3⟩ := l2Rows_ex l p2 z2 n h2 (by omega)
  have e4 := spec_NewTask_ev (wrap64 (1 + v)) A B (by omega) (by omega)
  have hs := newT_sz (wrap64 (1 + v)) A B
  generalize newT (wrap64 (1 + v)) A B = t at *
  obtain ⟨b, p5, z5, e5, h5⟩ := l1Once_ex l p3 z3 3 h3 (by omega)
  cases b with
  | true =>
    obtain ⟨w, p6, z6, e6, -, -, h6⟩ := l1Below_ex l p5 z5 5 h5 (by omega)
    obtain ⟨F, p7, z7, e7, hF, h7⟩ := l16Draw_l0 l 0 0 t.f0 w [] [] t.f1 t.f2 [] t.f3.length 0 t.f3 p6 z6 h6 (by omega) (by unfold tsz at hs; omega)
    refine ⟨⟨t.f0, t.f1, t.f2, F, w⟩, p7, z7, Ev.u (fun _ => rfl) (Ev.b e1 (Ev.b (Ev.c e2) (Ev.b e3 (Ev.b e4 (Ev.b (Ev.c e5) (Ev.t rfl (Ev.b (Ev.c e6) e7))))))), ?_, h7⟩
    unfold tsz at *; dsimp only; omega
  | false => exact ⟨t, p5, z5, Ev.u (fun _ => rfl) (Ev.b e1 (Ev.b (Ev.c e2) (Ev.b e3 (Ev.b e4 (Ev.b (Ev.c e5) (Ev.e (by simp) Ev.p)))))), hs, h5⟩
theorem l16Any_ex (l : List Int) (p z n : Int) (h : Rd l p) (hn : 0 ≤ n ∧ n ≤ 24) : ∃ t : S44, ∃ p' z', Ev (fun k => spec_l16Any.f k l p z n) (t.f0, t.f1, t.f2, t.f3, t.f4, p', z') ∧ tsz t ≤ 73 ∧ Rd l p' := by
  obtain ⟨t, p1, z1, e1, hs, h1⟩ := l16Draw_ex l p z n h hn
  obtain ⟨v, p2, z2, e2, -, -, h2⟩ := l1Below_ex l p1 z1 16 h1 (by omega)
  unfold tsz at hs
  by_cases k0 : v = 0
  · obtain ⟨w, p3, z3, e3, -, h3⟩ := l1PickInt_ex l p2 z2 [0, 5] h2 (by simp) (by simp)
    exact ⟨⟨w, t.f1, t.f2, t.f3, t.f4⟩, p3, z3, Ev.u (fun _ => rfl) (Ev.b e1 (Ev.b (Ev.c e2) (Ev.t k0 (Ev.b (Ev.c e3) Ev.p)))), by unfold tsz; dsimp only; omega, h3⟩
  by_cases k1 : v = 1
  · exact ⟨⟨t.f0, t.f1, t.f2, t.f3 ++ [true], t.f4⟩, p2, z2, Ev.u (fun _ => rfl) (Ev.b e1 (Ev.b (Ev.c e2) (Ev.e k0 (Ev.t k1 (Ev.t (by show t.f3.length < _; omega) Ev.p))))), by unfold tsz; simp; omega, h2⟩
  by_cases k2 : v = 2
  · obtain ⟨w, p3, z3, e3, -, h3⟩ := l1PickInt_ex l p2 z2 [-1, 5] h2 (by simp) (by simp)
    exact ⟨⟨t.f0, t.f1, t.f2, t.f3, w⟩, p3, z3, Ev.u (fun _ => rfl) (Ev.b e1 (Ev.b (Ev.c e2) (Ev.e k0 (Ev.e k1 (Ev.t k2 (Ev.b (Ev.c e3) Ev.p)))))), by unfold tsz; dsimp only; omega, h3⟩
  by_cases k3 : v = 3
  · obtain ⟨a, b, c, p3, z3, e3, h3⟩ := l2Any_ex l p2 z2 h2
    exact ⟨⟨t.f0, t.f1 ++ [⟨a, b, c⟩], t.f2, t.f3, t.f4⟩, p3, z3, Ev.u (fun _ => rfl) (Ev.b e1 (Ev.b (Ev.c e2) (Ev.e k0 (Ev.e k1 (Ev.e k2 (Ev.t k3 (Ev.t (by show t.f1.length < _; omega) (Ev.b (Ev.c e3) Ev.p)))))))), by unfold tsz; simp; omega, h3⟩
  exact ⟨t, p2, z2, Ev.u (fun _ => rfl) (Ev.b e1 (Ev.b (Ev.c e2) (Ev.e k0 (Ev.e k1 (Ev.e k2 (Ev.e k3 Ev.p)))))), by unfold tsz; omega, h2⟩
theorem l19Joiner_l0 (l : List Int) (c1 c2 : Int) (c0 : List S44) : ∀ (m : Nat) (j : S73) (p z : Int), Rd l p → jsz j + m * 4000 ≤ 900000 → m ≤ 100 → ∃ j' : S73, ∃ p' z', Ev (fun k => spec_l19Joiner.l0 k (m : Int) p z c0 c1 c2 j.f0 j.f1 j.f2 l) (j'.f0, j'.f1, j'.f2, p', z') ∧ jsz j' ≤ jsz j + m * 4000 + 80 ∧ Rd l p' := by
  intro m
  induction m with
  | zero =>
    intro j p z h hj hm
    have hl : j.f0.length ≤ jsz j := by unfold jsz; omega
    obtain ⟨v, p2, z2, e2, -, -, h2⟩ := l1Below_ex l p z 16 h (by omega)
    by_cases k0 : v = 0
    · obtain ⟨t, p3, z3, e3, hs, h3⟩ := l16Any_ex l p2 z2 3 h2 (by omega)
      refine ⟨⟨j.f0 ++ [t], j.f1, j.f2⟩, p3, z3, Ev.s (fun k => by rw [spec_l19Joiner.l0]) ?_, by unfold jsz; simp; omega, h3⟩
      exact Ev.e (by omega) (Ev.b (Ev.c e2) (Ev.t k0 (Ev.t (by omega) (Ev.b e3 Ev.p))))
    by_cases k1 : v = 1
    · obtain ⟨w, p3, z3, e3, -, h3⟩ := l1PickInt_ex l p2 z2 [-1, 100001] h2 (by simp) (by simp)
      refine ⟨⟨j.f0, w, j.f2⟩, p3, z3, Ev.s (fun k => by rw [spec_l19Joiner.l0]) ?_, by unfold jsz; dsimp only; omega, h3⟩
      exact Ev.e (by omega) (Ev.b (Ev.c e2) (Ev.e k0 (Ev.t k1 (Ev.b (Ev.c e3) Ev.p))))
    by_cases k2 : v = 2
    · refine ⟨⟨j.f0, j.f1, -1⟩, p2, z2, Ev.s (fun k => by rw [spec_l19Joiner.l0]) ?_, by unfold jsz; dsimp only; omega, h2⟩
      exact Ev.e (by omega) (Ev.b (Ev.c e2) (Ev.e k0 (Ev.e k1 (Ev.t k2 Ev.p))))
    refine ⟨j, p2, z2, Ev.s (fun k => by rw [spec_l19Joiner.l0]) ?_, by omega, h2⟩
    exact Ev.e (by omega) (Ev.b (Ev.c e2) (Ev.e k0 (Ev.e k1 (Ev.e k2 Ev.p))))
  | succ m ih =>
    intro j p z h hj hm
    rw [Nat.succ_mul] at hj ⊢
    obtain ⟨w, p3, z3, e3, -, h3⟩ := l1PickInt_ex l p z [8, 9, 12] h (by simp) (by simp)
    have es := spec_StepJoiner_ev j w (by omega)
    have hz := (stp_sz j w).1
    obtain ⟨j', p', z', e, hs, hr⟩ := ih (stp j w).1 p3 z3 h3 (by omega) (by omega)
    refine ⟨j', p', z', Ev.s (fun k => by rw [spec_l19Joiner.l0]) ?_, by omega, hr⟩
    rw [show wrap64 (((m + 1 : Nat) : Int) - 1) = (m : Int) by rw [w64 (by omega) (by omega)]; omega]
    exact Ev.t (by omega) (Ev.b (Ev.c e3) (Ev.b es e))
theorem l19Joiner_ex (l : List Int) (p z : Int) (h : Rd l p) : ∃ j : S73, ∃ p' z', Ev (fun k => spec_l19Joiner.f k l p z) (j.f0, j.f1, j.f2, p', z') ∧ jsz j ≤ 100000 ∧ Rd l p' := by
  obtain ⟨A, p1, z1, e1, -, a1, h1⟩ := l2Rows_ex l p z 8 h (by omega)
  obtain ⟨v, p2, z2, e2, v0, v1, h2⟩ := l1Below_ex l p1 z1 4 h1 (by omega)
  obtain ⟨B, p3, z3, e3, -, a3, h3⟩ := l2Rows_ex l p2 z2 12 h2 (by omega)
  have e4 := spec_NewJoiner_ev (wrap64 (1 + v)) A B (by omega) (by omega)
  have hs := newJ_sz (wrap64 (1 + v)) A B
  obtain ⟨w, p5, z5, e5, w0, w1, h5⟩ := l1Below_ex l p3 z3 6 h3 (by omega)
  obtain ⟨m, rfl⟩ : ∃ m : Nat, w = m := ⟨w.toNat, by omega⟩
  generalize newJ (wrap64 (1 + v)) A B = j at *
  obtain ⟨j', p', z', e, hj, hr⟩ := l19Joiner_l0 l 0 0 [] m j p5 z5 h5 (by omega) (by omega)
  exact ⟨j', p', z', Ev.u (fun _ => rfl) (Ev.b e1 (Ev.b (Ev.c e2) (Ev.b e3 (Ev.b e4 (Ev.b (Ev.c e5) e))))), by omega, hr⟩
theorem DrawStepJoiner_ex (l : List Int) (hl : l.length ≤ 1048576) : ∃ j : S73, ∃ g, Ev (fun k => spec_DrawStepJoiner.f k l) (j.f0, j.f1, j.f2, g) ∧ jsz j ≤ 100000 := by
  obtain ⟨z, e0⟩ := l1New_ev l hl
  obtain ⟨j, p1, z1, e1, hj, h1⟩ := l19Joiner_ex l 0 z (Rd0 l hl)
  obtain ⟨g, p2, z2, e2, -⟩ := l11Grant_ex l p1 z1 h1
  exact ⟨j, g, Ev.u (fun _ => rfl) (Ev.b e0 (Ev.b e1 (Ev.b (Ev.c e2) Ev.p))), hj⟩
theorem pure_FnJoinerMemory (l0 : List Int) (G0 : (l0.length ≤ maxLen ∧ ∀ y ∈ l0, (Lit.int .u8 y).wf = true)) : ∃ k, laws_FnJoinerMemory.f k l0 = some true := by
  refine Ev.ex ?_
  by_cases s0 : (l0.length : Int) > 1048576
  · exact Ev.u (fun _ => rfl) (Ev.b (Ev.c (big_eq l0)) (Ev.t (by simpa using s0) Ev.p))
  obtain ⟨J, g, ed, hJ⟩ := DrawStepJoiner_ex l0 (by omega)
  have ei := impl_StepJoiner_ev J g (by omega)
  have es := spec_StepJoiner_ev J g (by omega)
  have z := stp_sz J g
  have q1 := spec_EqualJoiners_ev (stp J g).1 (by omega)
  have q2 := EqualPairBags_ev (stp J g).2.1 (stp J g).2.1 (List.Perm.refl _) (by omega)
  have v1 := impl_IsValidJoiner_ev J (by omega)
  have v2 := spec_IsValidJoiner_ev J (by omega)
  have p0 := impl_PendingRows_ev J (by omega)
  have p1 := impl_PendingRows_ev (stp J g).1 (by omega)
  have p2 := spec_PendingRows_ev (stp J g).1 (by omega)
  refine Ev.u (fun _ => rfl) (Ev.b (Ev.c (big_eq l0)) (Ev.e (by simpa using s0) (Ev.b ed (Ev.b ei (Ev.b es (Ev.t (by simp) (Ev.t rfl (Ev.b q1 (Ev.t rfl (Ev.b q2 (Ev.t rfl ?_)))))))))))
  refine Ev.b v1 (Ev.b v2 (Ev.t (by simp) (Ev.i (fun h => ?_) (fun h => ?_))))
  · have h' : (stp J g).2.2.2 = true := h
    obtain ⟨a1, a2, a3⟩ := stp_yes h'
    obtain ⟨L, -⟩ := stp_law a1 a2 a3
    have := L.l; have := L.r
    exact Ev.t L.held.2 (Ev.b p1 (Ev.b p0 (Ev.t (by omega) (Ev.t L.w (Ev.t L.p (Ev.b p1 (Ev.b p2 (Ev.p.r (by simp)))))))))
  · have h' : (stp J g).2.2.2 = false := by simpa using h
    have e := stp_no h'
    have q3 := spec_EqualJoiners_ev J (by omega)
    dsimp only [stup]
    rw [e]
    exact Ev.b q3 (Ev.t rfl (Ev.t rfl (Ev.p.r rfl)))

end Go.Proofs.Ytajjeemkdjfilaa.K
namespace Go.Proofs.Ytajjeemkdjfilaa.fnJoinerMemory
open Go Go.ChangeShapes Go.WideShapes Go.ChangeAt Go.RowKit Go.Proofs.Ytajjeemkdjfilaa.K
open Go.ChangeMaps (open_string shut_string)
set_option linter.unusedVariables false
theorem own : ownKnob Try.prog.godebug = none := by kernel_rfl
theorem laidOut : laidOutB Try.prog = true := by kernel_rfl
set_option maxRecDepth 100000 in
theorem lifted (os : Os) (started : os.Started) (H : Type) (enc : TypeId × Value → H) :
    ReturnsInHanded {} Try.checked os 8 .any (Rows.fnJoinerMemorySpec.pre6 enc Try.prog Try.f8 Rows.fnJoinerMemoryRow.domain false) (Rows.fnJoinerMemorySpec.post enc Try.prog Try.f8 false true false false) := by
  refine returnsInHanded_of_change_sized (C := Try.checked) own started (by kernel_rfl) Try.func8
    (ChangeSpec.witness6 (enc := enc) (C := Try.checked) false ⟨#[], #[.slice none 0 0], []⟩ 8 (by kernel_rfl) (by kernel_rfl) (by kernel_rfl) (by kernel_rfl)) ?_
  intro W base args ds gs before hval0 hW hcnd hsz0 _
  have hsz : (DataW.weightsEach Try.prog (Try.f8.params.toList ++ Rows.fnJoinerMemorySpec.plain.varTypes Try.prog) (ds ++ gs)).all (· ≤ reachBytes) = true := hsz0
  have hval : ∀ (j : Nat) t v, Try.f8.params[j]? = some t → args[j]? = some v → Value.okWide Try.prog W .any base t v := hval0
  have hW' := hW
  obtain ⟨p, q, hA0, hV, rfl, hfz, hnd⟩ := hW
  have hA : DataW.TrodAll enc Try.prog W 0 (fun _ => true) true Try.f8.params.toList args.toList ds p := hA0
  rw [Try.params8] at hA hval hsz
  obtain ⟨v0, vs0, d0, ds0, p0, q0, hargs, rfl, rfl, h0, r0⟩ := trodAll_cons hA
  obtain ⟨rfl, rfl, rfl⟩ := trodAll_nil r0
  obtain rfl : args = #[v0] := by cases args; simp_all
  obtain ⟨rfl, rfl⟩ := trodVars_none hV
  have k0 := h0
  have lt0 : ∀ x ∈ p0, x.block < W.heap.size := by obtain ⟨m, hm⟩ := k0; exact DataW.trod_lt m _ _ _ hm
  obtain ⟨A0, len0, c0, rfl⟩ := okWide_slice Try.underlying22 (hval 0 22 v0 rfl rfl)
  obtain ⟨l0, rfl, F0, G0⟩ := slice_arg (opens_slice Try.underlying22 (by kernel_rfl) (by kernel_rfl) (opens_int Try.underlying5 (by kernel_rfl))) h0
  clear hA0 hval0 hsz0 hsz
  obtain ⟨k, hk⟩ := K.pure_FnJoinerMemory l0 G0
  refine (law_calls (laws_FnJoinerMemory.ok k l0 A0 c0 true hk) (facts_app F0 facts_nil)).mono fun e W' he => ?_
  obtain ⟨rfl, bel⟩ := he
  exact ⟨_, rfl, _, _, _, [], _, [], hW', trodAll_mk1 (shut_bool Try.underlying4 _), (trodAll_cons_mk (Below.trod laidOut (by kernel_rfl) (of_decide_eq_true (by kernel_rfl)) k0 bel lt0) trodAll_mk0), rfl, bel.frame _, fun h => by cases h⟩
theorem over : Rows.fnJoinerMemoryRow.holds Try.pinned (OpenSpec.ofChange Rows.fnJoinerMemorySpec) :=
  OpenClaim.holds_of_wide 8 Try.f8 rfl rfl rfl rfl rfl rfl rfl ⟨rfl, rfl, rfl, rfl, rfl⟩ rfl rfl rfl rfl rfl (by kernel_rfl) Try.func8 (by kernel_rfl)
    (of_decide_eq_true (by kernel_rfl)) (by unfold Func.isWrapper; first | (rw [if_pos (by decide +kernel)]; kernel_rfl) | (rw [if_neg (by decide +kernel)]; exact ⟨rfl, rfl⟩))
    (fun os started H enc _ => lifted os started H enc)
theorem proved : Rows.FnJoinerMemorySaid := over
#print axioms proved
end Go.Proofs.Ytajjeemkdjfilaa.fnJoinerMemory
namespace Go.Proofs.Ytajjeemkdjfilaa
/-- The row, under a short name, for the claim. -/
theorem fnJoinerMemory_holds : Rows.FnJoinerMemorySaid := fnJoinerMemory.proved
end Go.Proofs.Ytajjeemkdjfilaa
