/- FnPartitioning answers true at every input. -/
import Derived.Below
import Derived.Carry
import Derived.ChangeOld
import Derived.OpenShut
import Derived.ProofKit
import Derived.ShutString
import Derived.SizedLaws
import Derived.Test.YtajjeemkdjfilaaChecked
import Derived.Test.YtajjeemkdjfilaaRows
import Derived.WalkKit
import Derived.Test.YtajjeemkdjfilaaVFnPartitioningc
namespace Go.Proofs.Ytajjeemkdjfilaa.K
open Go Go.RowKit
set_option linter.unusedVariables false
set_option linter.unusedSimpArgs false
def Ev {α : Type} (f : Nat → Option α) (r : α) : Prop := ∃ K, ∀ k, K ≤ k → f k = some r
theorem Ev.p {α : Type} {r : α} : Ev (fun _ => some r) r := ⟨0, fun _ _ => rfl⟩
theorem Ev.c {α : Type} {o : Option α} {r : α} (h : o = some r) : Ev (fun _ => o) r := ⟨0, fun _ _ => h⟩
theorem Ev.b {α β : Type} {f : Nat → Option α} {g : Nat → α → Option β} {a : α} {r : β} (hf : Ev f a) (hg : Ev (fun k => g k a) r) : Ev (fun k => (f k).bind (g k)) r := by
  obtain ⟨K, h⟩ := hf; obtain ⟨L, h'⟩ := hg
  exact ⟨max K L, fun k hk => by show (f k).bind (g k) = some r; rw [h k (by omega)]; exact h' k (by omega)⟩
theorem Ev.t {α : Type} {p : Prop} [Decidable p] {f g : Nat → Option α} {r : α} (h : p) (hf : Ev f r) : Ev (fun k => if p then f k else g k) r := by
  obtain ⟨K, h'⟩ := hf
  exact ⟨K, fun k hk => by show (if p then f k else g k) = some r; rw [if_pos h]; exact h' k hk⟩
theorem Ev.e {α : Type} {p : Prop} [Decidable p] {f g : Nat → Option α} {r : α} (h : ¬ p) (hg : Ev g r) : Ev (fun k => if p then f k else g k) r := by
  obtain ⟨K, h'⟩ := hg
  exact ⟨K, fun k hk => by show (if p then f k else g k) = some r; rw [if_neg h]; exact h' k hk⟩
theorem Ev.i {α : Type} {p : Prop} [Decidable p] {f g : Nat → Option α} {r : α} (hf : p → Ev f r) (hg : ¬ p → Ev g r) : Ev (fun k => if p then f k else g k) r := by
  by_cases h : p
  · exact Ev.t h (hf h)
  · exact Ev.e h (hg h)
theorem Ev.s {α : Type} {L f : Nat → Option α} {r : α} (h : ∀ k, L (k + 1) = f k) (hf : Ev f r) : Ev L r := by
  obtain ⟨K, h'⟩ := hf
  refine ⟨K + 1, fun k hk => ?_⟩
  obtain ⟨m, rfl⟩ : ∃ m, k = m + 1 := ⟨k - 1, by omega⟩
  rw [h]; exact h' m (by omega)
theorem Ev.u {α : Type} {L f : Nat → Option α} {r : α} (h : ∀ k, L k = f k) (hf : Ev f r) : Ev L r := by
  obtain ⟨K, h'⟩ := hf
  exact ⟨K, fun k hk => by rw [h]; exact h' k hk⟩
theorem Ev.r {α : Type} {f : Nat → Option α} {r r' : α} (h : Ev f r) (e : r = r') : Ev f r' := e ▸ h
theorem Ev.r' {α : Type} {f g : Nat → Option α} {r r' : α} (h : Ev f r) (e1 : ∀ k, f k = g k) (e : r = r') : Ev g r' := by
  subst e; obtain ⟨K, h'⟩ := h
  exact ⟨K, fun k hk => by rw [← e1]; exact h' k hk⟩
theorem Ev.ex {α : Type} {f : Nat → Option α} {r : α} (h : Ev f r) : ∃ k, f k = some r := by
  obtain ⟨K, h'⟩ := h
  exact ⟨K, h' K (Nat.le_refl _)⟩
theorem drop_nil' {α : Type} {l : List α} {i : Nat} (h : l.drop i = []) : l.length ≤ i := List.drop_eq_nil_iff.1 h
theorem drop_cons' {α : Type} {l : List α} {i : Nat} {x : α} {t : List α} (h : l.drop i = x :: t) : i < l.length ∧ l.drop (i + 1) = t ∧ (∀ d, l.getD i d = x) ∧ l.length = i + 1 + t.length := by
  have hl := congrArg List.length h
  rw [List.length_drop, List.length_cons] at hl
  refine ⟨by omega, ?_, fun d => ?_, by omega⟩
  · rw [← List.drop_drop, h]; rfl
  · have : l[i]? = some x := by rw [← List.head?_drop, h]; rfl
    rw [List.getD_eq_getElem?_getD, this]; rfl
theorem w64 {x : Int} (h0 : -9223372036854775808 ≤ x) (h1 : x ≤ 9223372036854775807) : wrap64 x = x := by unfold wrap64; omega
theorem w64s {i n : Nat} (h : i < n) (hn : n ≤ 9223372036854775807) : wrap64 ((i : Int) + 1) = ((i + 1 : Nat) : Int) := by rw [w64 (by omega) (by omega)]; rfl
theorem maxLen_eq : maxLen = 9223372036854775807 := rfl
theorem wf64 {n : Int} (h : (Lit.int .i64 n).wf = true) : (-9223372036854775808 : Int) ≤ n ∧ n ≤ 9223372036854775807 := by
  simp [Lit.wf, IntKind.min, IntKind.max, IntKind.signed, IntKind.bits] at h
  exact h
theorem ob {α β : Type} {o : Option α} {a : α} {f : α → Option β} (h : o = some a) : o.bind f = f a := by subst h; rfl

def inB (n a b : Int) : Bool := decide (a ≤ n ∧ n ≤ b)
theorem within_eq (n a b : Int) : impl_within.f n a b = some (inB n a b) := by
  unfold impl_within.f inB; split <;> simp <;> omega
theorem l1In_eq (n a b : Int) : spec_l1In.f n a b = some (inB n a b) := by
  unfold spec_l1In.f inB; split <;> simp <;> omega
def vRow (a b c : Int) : Bool := inB a 0 9 && inB b 0 99 && inB c 0 3
theorem impl_IsValidRow_eq (a b c : Int) : impl_IsValidRow.f a b c = some (vRow a b c) := by
  unfold impl_IsValidRow.f vRow
  rw [within_eq, within_eq, within_eq, ob rfl]
  cases inB a 0 9
  · simp
  · rw [if_pos rfl, ob rfl]; cases inB b 0 99 <;> simp
theorem spec_IsValidRow_eq (a b c : Int) : spec_IsValidRow.f a b c = some (vRow a b c) := by
  unfold spec_IsValidRow.f vRow
  rw [l1In_eq, l1In_eq, l1In_eq, ob rfl]
  cases inB a 0 9
  · simp
  · rw [if_pos rfl, ob rfl]; cases inB b 0 99 <;> simp
def cRow (x : S70) : Int := if vRow x.f0 x.f1 x.f2 = true then 1 + x.f2 else 0
theorem cRow_b (x : S70) : 0 ≤ cRow x ∧ cRow x ≤ 4 := by
  unfold cRow
  by_cases h : vRow x.f0 x.f1 x.f2 = true
  · rw [if_pos h]; simp [vRow, inB] at h; omega
  · rw [if_neg h]; omega
theorem impl_RowCost_eq (x : S70) : impl_RowCost.f x.f0 x.f1 x.f2 = some (cRow x) := by
  unfold impl_RowCost.f cRow
  rw [impl_IsValidRow_eq, ob rfl]
  by_cases h : vRow x.f0 x.f1 x.f2 = true
  · rw [if_pos h, if_pos h]; simp [vRow, inB] at h; rw [w64 (by omega) (by omega)]
  · rw [if_neg h, if_neg h]
theorem spec_RowCost_eq (x : S70) : spec_RowCost.f x.f0 x.f1 x.f2 = some (cRow x) := by
  unfold spec_RowCost.f cRow
  rw [spec_IsValidRow_eq, ob rfl]
  by_cases h : vRow x.f0 x.f1 x.f2 = true
  · rw [if_pos h, if_pos h]; simp [vRow, inB] at h; rw [w64 (by omega) (by omega)]
  · rw [if_neg h, if_neg h]
def tCost (l : List S70) : Int := (l.map cRow).sum
theorem tCost_cons (x : S70) (l : List S70) : tCost (x :: l) = cRow x + tCost l := by simp [tCost]
theorem tCost_b : ∀ l : List S70, 0 ≤ tCost l ∧ tCost l ≤ 4 * l.length
  | [] => by simp [tCost]
  | x :: l => by have := tCost_b l; have := cRow_b x; rw [tCost_cons, List.length_cons]; omega
theorem rdR (l : List S70) (i : Nat) : rd_T70 l (i : Int) = l.getD i z70 := rfl
theorem impl_TotalCost_l0 (l : List S70) (hl : l.length ≤ 1152921504606846975) : ∀ (s : List S70) (i : Nat) (acc : Int), l.drop i = s → 0 ≤ acc → acc ≤ 4 * i → Ev (fun k => impl_TotalCost.l0 k acc (l.length : Int) (i : Int) l) (acc + tCost s) := by
  intro s
  induction s with
  | nil =>
    intro i acc hd h0 h1
    have := drop_nil' hd
    exact Ev.s (fun k => by rw [impl_TotalCost.l0]) (Ev.e (by omega) (Ev.p.r (by simp [tCost])))
  | cons x t ih =>
    intro i acc hd h0 h1
    obtain ⟨hi, hd', hx, -⟩ := drop_cons' hd
    have := cRow_b x
    refine Ev.s (fun k => by rw [impl_TotalCost.l0]) (Ev.t (by omega) (Ev.t (by omega) (Ev.t (by omega) ?_)))
    rw [rdR, hx]
    refine Ev.b (Ev.c (impl_RowCost_eq x)) ?_
    rw [w64s hi (by omega), w64 (by omega) (by omega)]
    exact (ih (i + 1) (acc + cRow x) hd' (by omega) (by omega)).r (by rw [tCost_cons]; omega)
theorem impl_TotalCost_ev (l : List S70) (hl : l.length ≤ 1152921504606846975) : Ev (fun k => impl_TotalCost.f k l) (tCost l) :=
  Ev.u (fun _ => rfl) ((impl_TotalCost_l0 l hl l 0 0 rfl (by omega) (by omega)).r (by omega))
theorem spec_TotalCost_l0 (l : List S70) (hl : l.length ≤ 1152921504606846975) : ∀ (s : List S70) (i : Nat) (acc : Int), l.drop i = s → 0 ≤ acc → acc ≤ 4 * i → Ev (fun k => spec_TotalCost.l0 k acc (i : Int) l) (acc + tCost s) := by
  intro s
  induction s with
  | nil =>
    intro i acc hd h0 h1
    have := drop_nil' hd
    exact Ev.s (fun k => by rw [spec_TotalCost.l0]) (Ev.e (by omega) (Ev.p.r (by simp [tCost])))
  | cons x t ih =>
    intro i acc hd h0 h1
    obtain ⟨hi, hd', hx, -⟩ := drop_cons' hd
    have := cRow_b x
    refine Ev.s (fun k => by rw [spec_TotalCost.l0]) (Ev.t (by omega) (Ev.t (by omega) ?_))
    rw [rdR, hx]
    refine Ev.b (Ev.c (spec_RowCost_eq x)) ?_
    rw [w64s hi (by omega), w64 (by omega) (by omega)]
    exact (ih (i + 1) (acc + cRow x) hd' (by omega) (by omega)).r (by rw [tCost_cons]; omega)
theorem spec_TotalCost_ev (l : List S70) (hl : l.length ≤ 1152921504606846975) : Ev (fun k => spec_TotalCost.f k l) (tCost l) :=
  Ev.u (fun _ => rfl) ((spec_TotalCost_l0 l hl l 0 0 rfl (by omega) (by omega)).r (by omega))
def vAll (l : List S70) : Bool := l.all fun x => vRow x.f0 x.f1 x.f2
theorem impl_allValid_l0 (l : List S70) (hl : l.length ≤ 1152921504606846975) : ∀ (s : List S70) (i : Nat), l.drop i = s → Ev (fun k => impl_allValid.l0 k (l.length : Int) (i : Int) l) (vAll s) := by
  intro s
  induction s with
  | nil =>
    intro i hd
    have := drop_nil' hd
    exact Ev.s (fun k => by rw [impl_allValid.l0]) (Ev.e (by omega) (Ev.p.r (by rfl)))
  | cons x t ih =>
    intro i hd
    obtain ⟨hi, hd', hx, -⟩ := drop_cons' hd
    refine Ev.s (fun k => by rw [impl_allValid.l0]) (Ev.t (by omega) (Ev.t (by omega) (Ev.t (by omega) ?_)))
    rw [rdR, hx]
    refine Ev.b (Ev.c (impl_IsValidRow_eq ..)) (Ev.i (fun h => ?_) (fun h => ?_))
    · rw [w64s hi (by omega)]
      exact (ih (i + 1) hd').r (by simp [vAll, h])
    · exact Ev.p.r (by simp [vAll, h])
theorem impl_allValid_ev (l : List S70) (hl : l.length ≤ 1152921504606846975) : Ev (fun k => impl_allValid.f k l) (vAll l) :=
  Ev.u (fun _ => rfl) (impl_allValid_l0 l hl l 0 rfl)
def vRows (l : List S70) : Bool := vAll l && decide (l.length ≤ 24)
theorem impl_AreValidRows_ev (l : List S70) (hl : l.length ≤ 1152921504606846975) : Ev (fun k => impl_AreValidRows.f k l) (vRows l) :=
  Ev.u (fun _ => rfl) (Ev.i (fun h => Ev.b (impl_allValid_ev l hl) (Ev.p.r (by simp [vRows]; omega))) (fun h => Ev.p.r (by simp [vRows]; omega)))
theorem spec_AreValidRows_l0 (l : List S70) (hl : l.length ≤ 1152921504606846975) : ∀ (s : List S70) (i : Nat), l.drop i = s → Ev (fun k => spec_AreValidRows.l0 k (i : Int) l) (vAll s && decide (l.length ≤ 24)) := by
  intro s
  induction s with
  | nil =>
    intro i hd
    have := drop_nil' hd
    exact Ev.s (fun k => by rw [spec_AreValidRows.l0]) (Ev.e (by omega) (Ev.p.r (by simp [vAll]; omega)))
  | cons x t ih =>
    intro i hd
    obtain ⟨hi, hd', hx, -⟩ := drop_cons' hd
    refine Ev.s (fun k => by rw [spec_AreValidRows.l0]) (Ev.t (by omega) (Ev.t (by omega) ?_))
    rw [rdR, hx]
    refine Ev.b (Ev.c (spec_IsValidRow_eq ..)) (Ev.i (fun h => ?_) (fun h => ?_))
    · rw [w64s hi (by omega)]
      exact (ih (i + 1) hd').r (by simp [vAll, h])
    · exact Ev.p.r (by simp [vAll, h])
theorem spec_AreValidRows_ev (l : List S70) (hl : l.length ≤ 1152921504606846975) : Ev (fun k => spec_AreValidRows.f k l) (vRows l) :=
  Ev.u (fun _ => rfl) (spec_AreValidRows_l0 l hl l 0 rfl)
def eqRow (x y : S70) : Bool := x.f0 == y.f0 && (x.f1 == y.f1 && x.f2 == y.f2)
def eqRows (a b : List S70) : Bool := match a, b with
  | [], [] => true
  | x :: a, y :: b => eqRow x y && eqRows a b
  | _, _ => false
theorem eqRow_iff {x y : S70} : eqRow x y = true ↔ x = y := by
  obtain ⟨a, b, c⟩ := x; obtain ⟨d, e, f⟩ := y; simp [eqRow]
theorem eqRows_iff : ∀ {a b : List S70}, eqRows a b = true ↔ a = b
  | [], [] => by simp [eqRows]
  | x :: a, y :: b => by simp [eqRows, eqRow_iff, eqRows_iff]
  | [], y :: b => by simp [eqRows]
  | x :: a, [] => by simp [eqRows]
theorem eqRows_len {a b : List S70} (h : eqRows a b = true) : a.length = b.length := by rw [eqRows_iff.1 h]
theorem eqRows_ne {a b : List S70} (h : a.length ≠ b.length) : eqRows a b = false := by
  cases e : eqRows a b with
  | false => rfl
  | true => exact absurd (eqRows_len e) h
theorem spec_l6Rows_l0 (l m : List S70) (hl : l.length ≤ 1152921504606846975) (hm : l.length = m.length) : ∀ (s t : List S70) (i : Nat), l.drop i = s → m.drop i = t → Ev (fun k => spec_l6Rows.l0 k (i : Int) l m) (eqRows s t) := by
  intro s
  induction s with
  | nil =>
    intro t i hd he
    have := drop_nil' hd
    have ht : t = [] := by rw [← he]; exact List.drop_eq_nil_iff.2 (by omega)
    subst ht
    exact Ev.s (fun k => by rw [spec_l6Rows.l0]) (Ev.e (by omega) (Ev.p.r (by rfl)))
  | cons x s ih =>
    intro t i hd he
    obtain ⟨hi, hd', hx, -⟩ := drop_cons' hd
    cases t with
    | nil => have := drop_nil' he; omega
    | cons y t =>
      obtain ⟨hj, he', hy, -⟩ := drop_cons' he
      refine Ev.s (fun k => by rw [spec_l6Rows.l0]) (Ev.t (by omega) (Ev.t (by omega) (Ev.t (by omega) ?_)))
      rw [rdR, rdR, hx, hy]
      refine Ev.i (fun h => ?_) (fun h => ?_)
      · rw [w64s hi (by omega)]
        exact (ih t (i + 1) hd' he').r (by have h' : eqRow x y = true := h; simp [eqRows, h'])
      · exact Ev.p.r (by have h' : ¬ eqRow x y = true := h; simp [eqRows, h'])
theorem spec_l6Rows_ev (l m : List S70) (hl : l.length ≤ 1152921504606846975) : Ev (fun k => spec_l6Rows.f k l m) (eqRows l m) :=
  Ev.u (fun _ => rfl) (Ev.i (fun h => spec_l6Rows_l0 l m hl (by omega) l m 0 rfl rfl) (fun h => Ev.p.r (eqRows_ne (by omega)).symm))
def nKey (key : Int) (l : List S70) : Nat := l.countP fun x => x.f0 == key
theorem spec_CountMatches_l0 (l : List S70) (a b c : Int) (hl : l.length ≤ 1152921504606846975) : ∀ (s : List S70) (i n : Nat), l.drop i = s → n ≤ i → Ev (fun k => spec_CountMatches.l0 k (n : Int) (i : Int) a b c l) (((n + nKey a s : Nat)) : Int) := by
  intro s
  induction s with
  | nil =>
    intro i n hd hn
    have := drop_nil' hd
    exact Ev.s (fun k => by rw [spec_CountMatches.l0]) (Ev.e (by omega) (Ev.p.r (by simp [nKey])))
  | cons x t ih =>
    intro i n hd hn
    obtain ⟨hi, hd', hx, -⟩ := drop_cons' hd
    refine Ev.s (fun k => by rw [spec_CountMatches.l0]) (Ev.t (by omega) (Ev.t (by omega) ?_))
    rw [rdR, hx, w64s hi (by omega)]
    refine Ev.i (fun h => ?_) (fun h => ?_)
    · rw [w64s (show n < l.length by omega) (by omega)]
      exact (ih (i + 1) (n + 1) hd' (by omega)).r (by simp [nKey, List.countP_cons, h]; omega)
    · exact (ih (i + 1) n hd' (by omega)).r (by simp [nKey, List.countP_cons, h])
theorem spec_CountMatches_ev (l : List S70) (a b c : Int) (hl : l.length ≤ 1152921504606846975) : Ev (fun k => spec_CountMatches.f k a b c l) ((nKey a l : Nat) : Int) :=
  Ev.u (fun _ => rfl) ((spec_CountMatches_l0 l a b c hl l 0 0 rfl (by omega)).r (by simp))
def hBit (key level : Int) : Int := if inB level 0 3 && inB key 0 9 then andI (shrI (Int.tmod (key * 7) 16) level) 1 else 0
theorem spec_HashBit_eq (a b : Int) : spec_HashBit.f a b = some (hBit a b) := by
  unfold spec_HashBit.f hBit
  rw [l1In_eq, l1In_eq, ob rfl]
  by_cases h1 : inB b 0 3 = true
  · rw [if_pos h1, ob rfl]
    by_cases h2 : inB a 0 9 = true
    · rw [if_pos h2]; simp [inB] at h1 h2; rw [if_pos (by omega), w64 (by omega) (by omega)]; simp [inB]; omega
    · rw [if_neg h2]; simp at h2; simp [h2]
  · rw [if_neg h1]; simp at h1; simp [h1]
theorem impl_HashBit_eq (a b : Int) : impl_HashBit.f a b = some (hBit a b) := by
  unfold impl_HashBit.f hBit
  rw [within_eq, within_eq, ob rfl]
  by_cases h1 : inB b 0 3 = true
  · rw [if_pos h1, ob rfl]
    by_cases h2 : inB a 0 9 = true
    · rw [if_pos h2, Int.mul_comm]; simp [inB] at h1 h2; rw [if_pos (by omega), w64 (by omega) (by omega)]; simp [inB]; omega
    · rw [if_neg h2]; simp at h2; simp [h2]
  · rw [if_neg h1]; simp at h1; simp [h1]
def hb (level : Int) (x : S70) : Bool := hBit x.f0 level == 0
def spl0 (level : Int) (l : List S70) : List S70 := l.filter (hb level)
def spl1 (level : Int) (l : List S70) : List S70 := l.filter fun x => !hb level x
theorem impl_SplitByHashBit_l0 (l : List S70) (v : Int) (hl : l.length ≤ 1099511627776) : ∀ (s : List S70) (i : Nat) (a b : List S70), l.drop i = s → a.length ≤ i → b.length ≤ i → Ev (fun k => impl_SplitByHashBit.l0 k v a b (l.length : Int) (i : Int) l) (a ++ spl0 v s, b ++ spl1 v s) := by
  intro s
  induction s with
  | nil =>
    intro i a b hd ha hb
    have := drop_nil' hd
    exact Ev.s (fun k => by rw [impl_SplitByHashBit.l0]) (Ev.e (by omega) (Ev.p.r (by simp [spl0, spl1])))
  | cons x t ih =>
    intro i a b hd ha hbb
    obtain ⟨hi, hd', hx, -⟩ := drop_cons' hd
    refine Ev.s (fun k => by rw [impl_SplitByHashBit.l0]) (Ev.t (by omega) (Ev.t (by omega) (Ev.t (by omega) ?_)))
    rw [rdR, hx, w64s hi (by omega)]
    refine Ev.b (Ev.c (impl_HashBit_eq ..)) (Ev.i (fun h => ?_) (fun h => ?_))
    · exact Ev.t (by omega) ((ih (i + 1) _ _ hd' (by simp; omega) (by omega)).r (by simp [spl0, spl1, hb, h]))
    · exact Ev.t (by omega) ((ih (i + 1) _ _ hd' (by omega) (by simp; omega)).r (by simp [spl0, spl1, hb, h]))
theorem impl_SplitByHashBit_ev (l : List S70) (v : Int) (hl : l.length ≤ 1099511627776) : Ev (fun k => impl_SplitByHashBit.f k l v) (spl0 v l, spl1 v l) :=
  Ev.u (fun _ => rfl) (impl_SplitByHashBit_l0 l v hl l 0 [] [] rfl (by simp) (by simp))
theorem spec_SplitByHashBit_l0 (l : List S70) (v : Int) (hl : l.length ≤ 1099511627776) : ∀ (s : List S70) (i : Nat) (a b : List S70), l.drop i = s → a.length ≤ i → b.length ≤ i → Ev (fun k => spec_SplitByHashBit.l0 k v a b (i : Int) l) (a ++ spl0 v s, b ++ spl1 v s) := by
  intro s
  induction s with
  | nil =>
    intro i a b hd ha hb
    have := drop_nil' hd
    exact Ev.s (fun k => by rw [spec_SplitByHashBit.l0]) (Ev.e (by omega) (Ev.p.r (by simp [spl0, spl1])))
  | cons x t ih =>
    intro i a b hd ha hbb
    obtain ⟨hi, hd', hx, -⟩ := drop_cons' hd
    refine Ev.s (fun k => by rw [spec_SplitByHashBit.l0]) (Ev.t (by omega) (Ev.t (by omega) ?_))
    rw [rdR, hx, w64s hi (by omega)]
    refine Ev.b (Ev.c (spec_HashBit_eq ..)) (Ev.i (fun h => ?_) (fun h => ?_))
    · exact Ev.t (by omega) ((ih (i + 1) _ _ hd' (by simp; omega) (by omega)).r (by simp [spl0, spl1, hb, h]))
    · exact Ev.t (by omega) ((ih (i + 1) _ _ hd' (by omega) (by simp; omega)).r (by simp [spl0, spl1, hb, h]))
theorem spec_SplitByHashBit_ev (l : List S70) (v : Int) (hl : l.length ≤ 1099511627776) : Ev (fun k => spec_SplitByHashBit.f k l v) (spl0 v l, spl1 v l) :=
  Ev.u (fun _ => rfl) (spec_SplitByHashBit_l0 l v hl l 0 [] [] rfl (by simp) (by simp))
def same (l : List S70) : Bool := l.all fun x => x.f0 == (l.getD 0 z70).f0
theorem impl_AllSameKey_l0 (l : List S70) (hl : l.length ≤ 1152921504606846975) : ∀ (s : List S70) (i : Nat), l.drop i = s → Ev (fun k => impl_AllSameKey.l0 k (l.length : Int) (i : Int) l) (s.all fun x => x.f0 == (l.getD 0 z70).f0) := by
  intro s
  induction s with
  | nil =>
    intro i hd
    have := drop_nil' hd
    exact Ev.s (fun k => by rw [impl_AllSameKey.l0]) (Ev.e (by omega) (Ev.p.r (by rfl)))
  | cons x t ih =>
    intro i hd
    obtain ⟨hi, hd', hx, -⟩ := drop_cons' hd
    refine Ev.s (fun k => by rw [impl_AllSameKey.l0]) (Ev.t (by omega) (Ev.t (by omega) (Ev.t (by omega) (Ev.t (by omega) ?_))))
    have r0 : rd_T70 l 0 = l.getD 0 z70 := rfl
    rw [rdR, hx, w64s hi (by omega), r0]
    refine Ev.i (fun h => ?_) (fun h => ?_)
    · exact (ih (i + 1) hd').r (by simp [h])
    · exact Ev.p.r (by rw [List.all_cons, show (x.f0 == (l.getD 0 z70).f0) = false from beq_eq_false_iff_ne.2 h]; rfl)
theorem impl_AllSameKey_ev (l : List S70) (hl : l.length ≤ 1152921504606846975) : Ev (fun k => impl_AllSameKey.f k l) (same l) :=
  Ev.u (fun _ => rfl) (impl_AllSameKey_l0 l hl l 0 rfl)
theorem spec_AllSameKey_l0 (l : List S70) (hl : l.length ≤ 1152921504606846975) : ∀ (s : List S70) (i : Nat), l.drop i = s → 1 ≤ i → Ev (fun k => spec_AllSameKey.l0 k (i : Int) l) (s.all fun x => x.f0 == (l.getD 0 z70).f0) := by
  intro s
  induction s with
  | nil =>
    intro i hd hi0
    have := drop_nil' hd
    exact Ev.s (fun k => by rw [spec_AllSameKey.l0]) (Ev.e (by omega) (Ev.p.r (by rfl)))
  | cons x t ih =>
    intro i hd hi0
    obtain ⟨hi, hd', hx, -⟩ := drop_cons' hd
    refine Ev.s (fun k => by rw [spec_AllSameKey.l0]) (Ev.t (by omega) (Ev.t (by omega) (Ev.t (by omega) ?_)))
    have r0 : rd_T70 l 0 = l.getD 0 z70 := rfl
    rw [rdR, hx, w64s hi (by omega), r0]
    refine Ev.i (fun h => ?_) (fun h => ?_)
    · exact (ih (i + 1) hd' (by omega)).r (by simp [h])
    · exact Ev.p.r (by rw [List.all_cons, show (x.f0 == (l.getD 0 z70).f0) = false from beq_eq_false_iff_ne.2 h]; rfl)
theorem spec_AllSameKey_ev (l : List S70) (hl : l.length ≤ 1152921504606846975) : Ev (fun k => spec_AllSameKey.f k l) (same l) :=
  Ev.u (fun _ => rfl) ((spec_AllSameKey_l0 l hl (l.drop 1) 1 rfl (by omega)).r (by cases l <;> simp [same]))

theorem getP {α : Type} (pre : List α) (x d : α) (t : List α) : (pre ++ x :: t).getD ((pre.length : Int)).toNat d = x := by
  rw [Int.toNat_natCast, List.getD_eq_getElem?_getD, List.getElem?_append_right (Nat.le_refl _), Nat.sub_self]; rfl
theorem rdB (l : List Bool) (i : Nat) : rdOf false l (i : Int) = l.getD i false := rfl
theorem rdI (l : List Int) (i : Nat) : rdOf 0 l (i : Int) = l.getD i 0 := rfl
theorem rdPPair (pre : List S92) (x : S92) (t : List S92) : rd_T92 (pre ++ x :: t) (pre.length : Int) = x := getP pre x z92 t
def tsz (t : S44) : Nat := t.f1.length + t.f2.length + t.f3.length
theorem impl_IsValidJoinKind_eq (a : Int) : impl_IsValidJoinKind.f a = some (inB a 1 4) := by unfold impl_IsValidJoinKind.f; rw [within_eq]; rfl
theorem spec_IsValidJoinKind_eq (a : Int) : spec_IsValidJoinKind.f a = some (inB a 1 4) := by unfold spec_IsValidJoinKind.f; rw [l1In_eq]; rfl
def vTask (t : S44) : Bool := inB t.f0 1 4 && (vRows t.f1 && (vRows t.f2 && (decide (t.f3.length = t.f1.length) && inB t.f4 0 4)))
theorem impl_IsValidTask_ev (t : S44) (h : tsz t ≤ 1152921504606846975) : Ev (fun k => impl_IsValidTask.f k t.f0 t.f1 t.f2 t.f3 t.f4) (vTask t) := by
  unfold tsz at h
  refine Ev.u (fun _ => rfl) (Ev.b (Ev.c (impl_IsValidJoinKind_eq _)) (Ev.i (fun a => Ev.b (impl_AreValidRows_ev _ (by omega)) (Ev.i (fun b => Ev.b (impl_AreValidRows_ev _ (by omega)) (Ev.i (fun c => Ev.i (fun d => Ev.b (Ev.c (within_eq _ _ _)) (Ev.p.r ?_)) (fun d => Ev.p.r ?_)) (fun c => Ev.p.r ?_))) (fun b => Ev.p.r ?_))) (fun a => Ev.p.r ?_)))
  · have : t.f3.length = t.f1.length := by omega
    simp [vTask, a, b, c, this]
  · have : ¬ t.f3.length = t.f1.length := by omega
    simp [vTask, a, b, c, this]
  · simp [vTask, a, b, c]
  · simp [vTask, a, b]
  · simp [vTask, a]
theorem spec_IsValidTask_ev (t : S44) (h : tsz t ≤ 1152921504606846975) : Ev (fun k => spec_IsValidTask.f k t.f0 t.f1 t.f2 t.f3 t.f4) (vTask t) := by
  unfold tsz at h
  refine Ev.u (fun _ => rfl) (Ev.b (Ev.c (spec_IsValidJoinKind_eq _)) (Ev.i (fun a => Ev.b (spec_AreValidRows_ev _ (by omega)) (Ev.i (fun b => Ev.b (spec_AreValidRows_ev _ (by omega)) (Ev.i (fun c => Ev.i (fun d => Ev.b (Ev.c (l1In_eq _ _ _)) (Ev.p.r ?_)) (fun d => Ev.p.r ?_)) (fun c => Ev.p.r ?_))) (fun b => Ev.p.r ?_))) (fun a => Ev.p.r ?_)))
  · have : t.f3.length = t.f1.length := by omega
    simp [vTask, a, b, c, this]
  · have : ¬ t.f3.length = t.f1.length := by omega
    simp [vTask, a, b, c, this]
  · simp [vTask, a, b, c]
  · simp [vTask, a, b]
  · simp [vTask, a]
theorem vRows_len {l : List S70} (h : vRows l = true) : l.length ≤ 24 := by
  unfold vRows at h; rw [Bool.and_eq_true] at h; exact of_decide_eq_true h.2
structure VT (t : S44) : Prop where
  kind : 1 ≤ t.f0 ∧ t.f0 ≤ 4
  left : vRows t.f1 = true
  right : vRows t.f2 = true
  len : t.f3.length = t.f1.length
  level : 0 ≤ t.f4 ∧ t.f4 ≤ 4
theorem vTask_iff {t : S44} : vTask t = true ↔ VT t := by
  unfold vTask
  constructor
  · intro h; simp [inB] at h; exact ⟨h.1, h.2.1, h.2.2.1, h.2.2.2.1, h.2.2.2.2⟩
  · intro h; simp [inB]; exact ⟨h.kind, h.left, h.right, h.len, h.level⟩
theorem VT.b {t : S44} (h : VT t) : t.f1.length ≤ 24 ∧ t.f2.length ≤ 24 ∧ t.f3.length ≤ 24 := ⟨vRows_len h.left, vRows_len h.right, by rw [h.len]; exact vRows_len h.left⟩
def taskCost (t : S44) : Int := tCost t.f1 + tCost t.f2
theorem impl_TaskCost_ev (t : S44) (h : tsz t ≤ 1125899906842624) : Ev (fun k => impl_TaskCost.f k t.f0 t.f1 t.f2 t.f3 t.f4) (taskCost t) := by
  unfold tsz at h
  have h1 := tCost_b t.f1
  have h2 := tCost_b t.f2
  exact Ev.u (fun _ => rfl) (Ev.b (impl_TotalCost_ev _ (by omega)) (Ev.b (impl_TotalCost_ev _ (by omega)) (Ev.p.r (w64 (by omega) (by omega)))))
theorem spec_TaskCost_ev (t : S44) (h : tsz t ≤ 1125899906842624) : Ev (fun k => spec_TaskCost.f k t.f0 t.f1 t.f2 t.f3 t.f4) (taskCost t) := by
  unfold tsz at h
  have h1 := tCost_b t.f1
  have h2 := tCost_b t.f2
  exact Ev.u (fun _ => rfl) (Ev.b (spec_TotalCost_ev _ (by omega)) (Ev.b (spec_TotalCost_ev _ (by omega)) (Ev.p.r (w64 (by omega) (by omega)))))
def needsN (t : S44) : Bool := decide (t.f4 ≥ 4) || same t.f2
theorem impl_NeedsNestedLoop_ev (t : S44) (h : tsz t ≤ 1125899906842624) : Ev (fun k => impl_NeedsNestedLoop.f k t.f0 t.f1 t.f2 t.f3 t.f4) (needsN t) := by
  unfold tsz at h
  exact Ev.u (fun _ => rfl) (Ev.i (fun h => Ev.p.r (by simp [needsN, h])) (fun h => Ev.b (impl_AllSameKey_ev _ (by omega)) (Ev.p.r (by simp [needsN, h]))))
theorem spec_NeedsNestedLoop_ev (t : S44) (h : tsz t ≤ 1125899906842624) : Ev (fun k => spec_NeedsNestedLoop.f k t.f0 t.f1 t.f2 t.f3 t.f4) (needsN t) := by
  unfold tsz at h
  exact Ev.u (fun _ => rfl) (Ev.i (fun h => Ev.p.r (by simp [needsN, h])) (fun h => Ev.b (spec_AllSameKey_ev _ (by omega)) (Ev.p.r (by simp [needsN, h]))))
def bSide (t : S44) (g : Int) : Int := if vTask t = true then (if t.f0 = 1 ∧ tCost t.f1 < tCost t.f2 ∧ tCost t.f1 ≤ g then 1 else if tCost t.f2 ≤ g then 2 else 0) else 0
theorem impl_BuildSide_ev (t : S44) (g : Int) (h : tsz t ≤ 1125899906842624) : Ev (fun k => impl_BuildSide.f k t.f0 t.f1 t.f2 t.f3 t.f4 g) (bSide t g) := by
  have hv := impl_IsValidTask_ev t (by omega)
  unfold tsz at h
  refine Ev.u (fun _ => rfl) (Ev.b hv (Ev.i (fun a => Ev.b (impl_TotalCost_ev _ (by omega)) (Ev.b (impl_TotalCost_ev _ (by omega)) (Ev.i (fun b => Ev.i (fun c => Ev.i (fun d => Ev.p.r ?_) (fun d => Ev.i (fun e => Ev.p.r ?_) (fun e => Ev.p.r ?_))) (fun c => Ev.i (fun e => Ev.p.r ?_) (fun e => Ev.p.r ?_))) (fun b => Ev.i (fun e => Ev.p.r ?_) (fun e => Ev.p.r ?_))))) (fun a => Ev.p.r ?_)))
  all_goals (unfold bSide; first | (rw [if_neg a]; done) | (rw [if_pos a]; (repeat' split) <;> omega))
theorem spec_BuildSide_j0 (t : S44) (g a b : Int) (h : tsz t ≤ 1125899906842624) : Ev (fun k => spec_BuildSide.j0 k g a b t.f1 t.f2 t.f3) (if tCost t.f2 ≤ g then 2 else 0) := by
  unfold tsz at h
  refine Ev.s (fun k => by rw [spec_BuildSide.j0]) (Ev.b (spec_TotalCost_ev _ (by omega)) (Ev.i (fun e => Ev.p.r ?_) (fun e => Ev.p.r ?_)))
  · rw [if_pos e]
  · rw [if_neg e]
theorem spec_BuildSide_ev (t : S44) (g : Int) (h : tsz t ≤ 1125899906842624) : Ev (fun k => spec_BuildSide.f k t.f0 t.f1 t.f2 t.f3 t.f4 g) (bSide t g) := by
  have hv := spec_IsValidTask_ev t (by omega)
  have hj := fun a b => spec_BuildSide_j0 t g a b h
  unfold tsz at h
  refine Ev.u (fun _ => rfl) (Ev.b hv (Ev.i (fun a => Ev.i (fun b => Ev.b (spec_TotalCost_ev _ (by omega)) (Ev.b (spec_TotalCost_ev _ (by omega)) (Ev.i (fun c => Ev.b (spec_TotalCost_ev _ (by omega)) (Ev.i (fun d => Ev.p.r ?_) (fun d => (hj _ _).r ?_))) (fun c => (hj _ _).r ?_)))) (fun b => (hj _ _).r ?_)) (fun a => Ev.p.r ?_)))
  all_goals (unfold bSide; first | (rw [if_neg a]; done) | (rw [if_pos a]; (repeat' split) <;> omega))
def zl (t : S44) : List (S70 × Bool) := t.f1.zip t.f3
def part0 (t : S44) : S44 := ⟨t.f0, ((zl t).filter fun p => hb t.f4 p.1).map (·.1), spl0 t.f4 t.f2, ((zl t).filter fun p => hb t.f4 p.1).map (·.2), t.f4 + 1⟩
def part1 (t : S44) : S44 := ⟨t.f0, ((zl t).filter fun p => !hb t.f4 p.1).map (·.1), spl1 t.f4 t.f2, ((zl t).filter fun p => !hb t.f4 p.1).map (·.2), t.f4 + 1⟩
def parts (t : S44) : Bool := vTask t && decide (t.f4 ≠ 4)
theorem part_zip {l : List S70} {m : List Bool} {i : Nat} {x : S70} {s : List S70} (hm : m.length = l.length) (hd : l.drop i = x :: s) : ∃ b u, m.drop i = b :: u ∧ (l.zip m).drop i = (x, b) :: (l.zip m).drop (i + 1) := by
  obtain ⟨hi, hd', hx, -⟩ := drop_cons' hd
  have hmi : i < m.length := by omega
  refine ⟨m[i], m.drop (i + 1), (List.drop_eq_getElem_cons hmi), ?_⟩
  have hz : i < (l.zip m).length := by rw [List.length_zip]; omega
  rw [List.drop_eq_getElem_cons hz, List.getElem_zip]
  have := hx z70
  rw [List.getD_eq_getElem?_getD, List.getElem?_eq_getElem hi] at this
  simp at this
  rw [this]
theorem hBit_01 (a b : Int) : hBit a b = 0 ∨ hBit a b = 1 := by
  unfold hBit
  split
  · unfold andI
    generalize shrI (Int.tmod (a * 7) 16) b = x
    have h1 : (BitVec.ofInt 64 x &&& BitVec.ofInt 64 1).toNat = (BitVec.ofInt 64 x).toNat % 2 := by
      rw [BitVec.toNat_and, show (BitVec.ofInt 64 1).toNat = 1 from rfl, Nat.and_one_is_mod]
    rw [h1]
    have h2 : (BitVec.ofInt 64 x).toNat % 2 < 2 := Nat.mod_lt _ (by omega)
    rw [w64 (by omega) (by omega)]
    omega
  · exact .inl rfl

def fz0 (v : Int) (z : List (S70 × Bool)) : List (S70 × Bool) := z.filter fun p => hb v p.1
def fz1 (v : Int) (z : List (S70 × Bool)) : List (S70 × Bool) := z.filter fun p => !hb v p.1
theorem rdBool (l : List Bool) (i : Nat) {b : Bool} {u : List Bool} (h : l.drop i = b :: u) : rdOf false l (i : Int) = b := by
  rw [rdB]; exact (drop_cons' h).2.2.1 _
theorem impl_PartitionTask_l0 (t : S44) (hl : t.f3.length = t.f1.length) (hs : tsz t ≤ 1099511627776) (e0 e4 f0 f4 : Int) (e1 e2 f1 f2 : List S70) (e3 f3 : List Bool) (q : Int) (c0 c4 d0 d4 : Int) (c2 d2 : List S70) : ∀ (s : List S70) (i : Nat) (a1 b1 : List S70) (a3 b3 : List Bool), t.f1.drop i = s → a1.length ≤ i → b1.length ≤ i → a3.length ≤ i → b3.length ≤ i →
    Ev (fun k => impl_PartitionTask.l0 k (t.f1.length : Int) (i : Int) q t.f4 e0 e1 e2 e3 e4 f0 f1 f2 f3 f4 c0 a1 c2 a3 c4 d0 b1 d2 b3 d4 t.f1 t.f2 t.f3)
      (c0, a1 ++ (fz0 t.f4 ((zl t).drop i)).map (·.1), spl0 t.f4 t.f2, a3 ++ (fz0 t.f4 ((zl t).drop i)).map (·.2), c4, d0, b1 ++ (fz1 t.f4 ((zl t).drop i)).map (·.1), spl1 t.f4 t.f2, b3 ++ (fz1 t.f4 ((zl t).drop i)).map (·.2), d4, true) := by
  unfold tsz at hs
  intro s
  induction s with
  | nil =>
    intro i a1 b1 a3 b3 hd h1 h2 h3 h4
    have := drop_nil' hd
    have hz : (zl t).drop i = [] := List.drop_eq_nil_iff.2 (by rw [zl, List.length_zip]; omega)
    refine Ev.s (fun k => by rw [impl_PartitionTask.l0]) (Ev.e (by omega) (Ev.b (impl_SplitByHashBit_ev _ _ (by omega)) (Ev.p.r ?_)))
    rw [hz]; simp [fz0, fz1]
  | cons x s ih =>
    intro i a1 b1 a3 b3 hd h1 h2 h3 h4
    obtain ⟨hi, hd', hx, -⟩ := drop_cons' hd
    obtain ⟨b, u, hb1, hz⟩ := part_zip hl hd
    refine Ev.s (fun k => by rw [impl_PartitionTask.l0]) (Ev.t (by omega) (Ev.t (by omega) (Ev.t (by omega) ?_)))
    rw [rdR, hx, w64s hi (by omega), rdBool _ _ hb1]
    refine Ev.b (Ev.c (impl_HashBit_eq ..)) (Ev.i (fun h => ?_) (fun h => Ev.t ((hBit_01 _ _).resolve_left h) ?_))
    · refine Ev.t (by omega) (Ev.t (by omega) (Ev.t (by omega) ((ih (i + 1) _ _ _ _ hd' (by simp; omega) (by omega) (by simp; omega) (by omega)).r ?_)))
      rw [show (zl t).drop i = (x, b) :: (zl t).drop (i + 1) from hz]
      simp [fz0, fz1, hb, h]
    · refine Ev.t (by omega) (Ev.t (by omega) (Ev.t (by omega) ((ih (i + 1) _ _ _ _ hd' (by omega) (by simp; omega) (by omega) (by simp; omega)).r ?_)))
      rw [show (zl t).drop i = (x, b) :: (zl t).drop (i + 1) from hz]
      simp [fz0, fz1, hb, h]
theorem spec_PartitionTask_l0 (t : S44) (hl : t.f3.length = t.f1.length) (hs : tsz t ≤ 1099511627776) (e0 e4 f0 f4 : Int) (e1 e2 f1 f2 : List S70) (e3 f3 : List Bool) (q : Int) (c0 c4 d0 d4 : Int) (c2 d2 : List S70) : ∀ (s : List S70) (i : Nat) (a1 b1 : List S70) (a3 b3 : List Bool), t.f1.drop i = s → a1.length ≤ i → b1.length ≤ i → a3.length ≤ i → b3.length ≤ i →
    Ev (fun k => spec_PartitionTask.l0 k (i : Int) q t.f4 e0 e1 e2 e3 e4 f0 f1 f2 f3 f4 c0 a1 c2 a3 c4 d0 b1 d2 b3 d4 t.f1 t.f2 t.f3)
      (c0, a1 ++ (fz0 t.f4 ((zl t).drop i)).map (·.1), c2, a3 ++ (fz0 t.f4 ((zl t).drop i)).map (·.2), c4, d0, b1 ++ (fz1 t.f4 ((zl t).drop i)).map (·.1), d2, b3 ++ (fz1 t.f4 ((zl t).drop i)).map (·.2), d4, true) := by
  unfold tsz at hs
  intro s
  induction s with
  | nil =>
    intro i a1 b1 a3 b3 hd h1 h2 h3 h4
    have := drop_nil' hd
    have hz : (zl t).drop i = [] := List.drop_eq_nil_iff.2 (by rw [zl, List.length_zip]; omega)
    refine Ev.s (fun k => by rw [spec_PartitionTask.l0]) (Ev.e (by omega) (Ev.p.r ?_))
    rw [hz]; simp [fz0, fz1]
  | cons x s ih =>
    intro i a1 b1 a3 b3 hd h1 h2 h3 h4
    obtain ⟨hi, hd', hx, -⟩ := drop_cons' hd
    obtain ⟨b, u, hb1, hz⟩ := part_zip hl hd
    refine Ev.s (fun k => by rw [spec_PartitionTask.l0]) (Ev.t (by omega) (Ev.t (by omega) ?_))
    rw [rdR, hx, w64s hi (by omega), rdBool _ _ hb1]
    refine Ev.b (Ev.c (spec_HashBit_eq ..)) (Ev.i (fun h => ?_) (fun h => ?_))
    · refine Ev.t (by omega) (Ev.t (by omega) (Ev.t (by omega) ((ih (i + 1) _ _ _ _ hd' (by simp; omega) (by omega) (by simp; omega) (by omega)).r ?_)))
      rw [show (zl t).drop i = (x, b) :: (zl t).drop (i + 1) from hz]
      simp [fz0, fz1, hb, h]
    · refine Ev.t (by omega) (Ev.t (by omega) (Ev.t (by omega) ((ih (i + 1) _ _ _ _ hd' (by omega) (by simp; omega) (by omega) (by simp; omega)).r ?_)))
      rw [show (zl t).drop i = (x, b) :: (zl t).drop (i + 1) from hz]
      simp [fz0, fz1, hb, h]
def pT0 (t : S44) : S44 := if parts t = true then part0 t else z44
def pT1 (t : S44) : S44 := if parts t = true then part1 t else z44
abbrev tup (a b : S44) (r : Bool) : Int × List S70 × List S70 × List Bool × Int × Int × List S70 × List S70 × List Bool × Int × Bool := (a.f0, a.f1, a.f2, a.f3, a.f4, b.f0, b.f1, b.f2, b.f3, b.f4, r)
theorem impl_PartitionTask_ev (t : S44) (hs : tsz t ≤ 1099511627776) : Ev (fun k => impl_PartitionTask.f k t.f0 t.f1 t.f2 t.f3 t.f4) (tup (pT0 t) (pT1 t) (parts t)) := by
  have hs' := hs
  refine Ev.u (fun _ => rfl) (Ev.b (impl_IsValidTask_ev t (by omega)) (Ev.i (fun a => Ev.i (fun b => Ev.p.r ?_) (fun b => ?_)) (fun a => Ev.p.r ?_)))
  · have : parts t = false := by simp [parts, a, b]
    simp [tup, pT0, pT1, this, z44]
  · have hp : parts t = true := by simp [parts, a, b]
    have hv := vTask_iff.1 a
    rw [w64 (by have := hv.level; omega) (by have := hv.level; omega)]
    refine (impl_PartitionTask_l0 t hv.len hs _ _ _ _ _ _ _ _ _ _ _ t.f0 (t.f4 + 1) t.f0 (t.f4 + 1) [] [] t.f1 0 [] [] [] [] rfl (by simp) (by simp) (by simp) (by simp)).r ?_
    simp [tup, pT0, pT1, hp, part0, part1, fz0, fz1]
  · have : parts t = false := by simp [parts, a]
    simp [tup, pT0, pT1, this, z44]
theorem spec_PartitionTask_ev (t : S44) (hs : tsz t ≤ 1099511627776) : Ev (fun k => spec_PartitionTask.f k t.f0 t.f1 t.f2 t.f3 t.f4) (tup (pT0 t) (pT1 t) (parts t)) := by
  have hs' := hs
  unfold tsz at hs'
  refine Ev.u (fun _ => rfl) (Ev.b (spec_IsValidTask_ev t (by omega)) (Ev.i (fun a => Ev.i (fun b => Ev.p.r ?_) (fun b => Ev.b (spec_SplitByHashBit_ev _ _ (by omega)) ?_)) (fun a => Ev.p.r ?_)))
  · have : parts t = false := by simp [parts, a, b]
    simp [tup, pT0, pT1, this, z44]
  · have hp : parts t = true := by simp [parts, a, b]
    have hv := vTask_iff.1 a
    rw [w64 (by have := hv.level; omega) (by have := hv.level; omega)]
    refine (spec_PartitionTask_l0 t hv.len hs _ _ _ _ _ _ _ _ _ _ _ t.f0 (t.f4 + 1) t.f0 (t.f4 + 1) _ _ t.f1 0 [] [] [] [] rfl (by simp) (by simp) (by simp) (by simp)).r ?_
    simp [tup, pT0, pT1, hp, part0, part1, fz0, fz1]
  · have : parts t = false := by simp [parts, a]
    simp [tup, pT0, pT1, this, z44]
theorem VT.p {t : S44} (h : VT t) : tsz t ≤ 72 := by have := h.b; unfold tsz; omega
theorem vAll_sub {l m : List S70} (h : vAll l = true) (hs : ∀ x ∈ m, x ∈ l) : vAll m = true := by
  unfold vAll at *; rw [List.all_eq_true] at *; exact fun x hx => h x (hs x hx)
theorem vRows_iff {l : List S70} : vRows l = true ↔ vAll l = true ∧ l.length ≤ 24 := by unfold vRows; rw [Bool.and_eq_true, decide_eq_true_iff]
theorem vRows_sub {l m : List S70} (h : vRows l = true) (hs : m.Sublist l) : vRows m = true := by
  rw [vRows_iff] at *; exact ⟨vAll_sub h.1 hs.subset, Nat.le_trans hs.length_le h.2⟩
theorem zl_fst {t : S44} (h : t.f3.length = t.f1.length) : (zl t).map (·.1) = t.f1 := List.map_fst_zip (by omega)
theorem part_VT {t : S44} (h : VT t) (h4 : t.f4 ≠ 4) : VT (part0 t) ∧ VT (part1 t) := by
  have e := zl_fst h.len
  have key : ∀ f : S70 × Bool → Bool, (((zl t).filter f).map (·.1)).Sublist t.f1 := fun f => by
    have := (List.filter_sublist (p := f) (l := zl t)).map (·.1)
    rwa [e] at this
  have hl := h.level
  refine ⟨⟨h.kind, vRows_sub h.left (key _), vRows_sub h.right List.filter_sublist, by simp [part0], ?_⟩, ⟨h.kind, vRows_sub h.left (key _), vRows_sub h.right List.filter_sublist, by simp [part1], ?_⟩⟩
  · show 0 ≤ t.f4 + 1 ∧ t.f4 + 1 ≤ 4; omega
  · show 0 ≤ t.f4 + 1 ∧ t.f4 + 1 ≤ 4; omega
theorem pT_sz (t : S44) : tsz (pT0 t) ≤ 72 ∧ tsz (pT1 t) ≤ 72 := by
  unfold pT0 pT1
  by_cases h : parts t = true
  · rw [if_pos h, if_pos h]
    unfold parts at h
    rw [Bool.and_eq_true, decide_eq_true_iff] at h
    have := part_VT (vTask_iff.1 h.1) h.2
    exact ⟨this.1.p, this.2.p⟩
  · rw [if_neg h, if_neg h]; exact ⟨by decide, by decide⟩

def jc (kind : Int) (c : List S70) (p : S70 × Bool) : List S92 :=
  if nKey p.1.f0 c = 0 then [] else if kind = 2 then (if p.2 = true then [] else [⟨p.1, ⟨0, 0, 0⟩, false⟩]) else if kind = 1 ∨ kind = 4 then (c.filter fun r => r.f0 == p.1.f0).map fun r => ⟨p.1, r, true⟩ else []
def jm (c : List S70) (p : S70 × Bool) : Bool := p.2 || decide (nKey p.1.f0 c ≠ 0)
theorem jc_len (kind : Int) (c : List S70) (p : S70 × Bool) : (jc kind c p).length ≤ c.length + 1 := by
  unfold jc
  split
  · simp
  · split
    · split <;> simp
    · split
      · rw [List.length_map]; have := List.length_filter_le (fun r : S70 => r.f0 == p.1.f0) c; omega
      · simp
def jT (t : S44) (c : List S70) : S44 := if vTask t = true then { t with f3 := (zl t).map (jm c) } else t
theorem flatMap_len {α β : Type} (f : α → List β) (n : Nat) (h : ∀ x, (f x).length ≤ n) : ∀ l : List α, (l.flatMap f).length ≤ l.length * n
  | [] => by simp
  | x :: l => by rw [List.flatMap_cons, List.length_append, List.length_cons, Nat.succ_mul]; have := h x; have := flatMap_len f n h l; omega
def ur (p : S70 × Bool) : List S92 := if p.2 = true then [] else [⟨p.1, ⟨0, 0, 0⟩, false⟩]
theorem ur_len (p : S70 × Bool) : (ur p).length ≤ 1 := by unfold ur; split <;> simp
def nTk (kind : Int) (a b : List S70) : Bool := inB kind 1 4 && (vRows a && vRows b)
def newT (kind : Int) (a b : List S70) : S44 := if nTk kind a b = true then ⟨kind, a, b, List.replicate a.length false, 0⟩ else z44
abbrev ttup (t : S44) (r : Bool) : Int × List S70 × List S70 × List Bool × Int × Bool := (t.f0, t.f1, t.f2, t.f3, t.f4, r)
theorem newT_no {kind : Int} {a b : List S70} (h : nTk kind a b = false) : ttup (newT kind a b) (nTk kind a b) = (0, [], [], [], 0, false) := by simp [ttup, newT, h, z44]
theorem spec_NewTask_ev (kind : Int) (a b : List S70) (ha : a.length ≤ 1099511627776) (hb : b.length ≤ 1099511627776) : Ev (fun k => spec_NewTask.f k kind a b) (ttup (newT kind a b) (nTk kind a b)) := by
  refine Ev.u (fun _ => rfl) (Ev.b (Ev.c (spec_IsValidJoinKind_eq _)) (Ev.i (fun h1 => Ev.b (spec_AreValidRows_ev _ (by omega)) (Ev.i (fun h2 => Ev.b (spec_AreValidRows_ev _ (by omega)) (Ev.i (fun h3 => Ev.t (by omega) (Ev.t (by omega) (Ev.t (by omega) (Ev.t (by simp; omega) (Ev.p.r ?_))))) (fun h3 => Ev.p.r ?_))) (fun h2 => Ev.p.r ?_))) (fun h1 => Ev.p.r ?_)))
  · simp [ttup, newT, nTk, h1, h2, h3]
  all_goals (rw [newT_no (by simp [nTk, *])])
theorem newT_VT {kind : Int} {a b : List S70} (h : nTk kind a b = true) : VT (newT kind a b) := by
  have h' := h
  simp [nTk, inB] at h'
  rw [newT, if_pos h]
  exact ⟨h'.1, h'.2.1, h'.2.2, by simp, by simp⟩

theorem bSide_012 (t : S44) (g : Int) : bSide t g = 0 ∨ bSide t g = 1 ∨ bSide t g = 2 := by
  unfold bSide; (repeat' split) <;> simp
theorem mx_b {a b n : Int} (h1 : 0 ≤ a) (h2 : a ≤ n) (h3 : 0 ≤ b) (h4 : b ≤ n) : 0 ≤ mx a b ∧ mx a b ≤ n := by unfold mx; split <;> omega
theorem pDepth (g : Int) : ∀ (n : Nat) (t : S44), tsz t ≤ 1099511627776 → n ≤ 10 → (vTask t = true → 4 - t.f4 ≤ n) → ∃ r : Int, 0 ≤ r ∧ r ≤ n ∧ Ev (fun k => spec_PartitionDepth.f k t.f0 t.f1 t.f2 t.f3 t.f4 g) r ∧ Ev (fun k => impl_PartitionDepth.f k t.f0 t.f1 t.f2 t.f3 t.f4 g) r := by
  have base : ∀ (t : S44), tsz t ≤ 1099511627776 → (vTask t = true → bSide t g ≠ 0 ∨ needsN t = true ∨ t.f1.length = 0) → Ev (fun k => spec_PartitionDepth.f k t.f0 t.f1 t.f2 t.f3 t.f4 g) 0 ∧ Ev (fun k => impl_PartitionDepth.f k t.f0 t.f1 t.f2 t.f3 t.f4 g) 0 := by
    intro t ht h
    have hb := bSide_012 t g
    constructor
    · refine Ev.s (fun k => by rw [spec_PartitionDepth.f]) ?_
      refine Ev.b (spec_IsValidTask_ev t (by omega)) (Ev.i (fun hv => Ev.b (spec_BuildSide_ev t g (by omega)) (Ev.i (fun h2 => Ev.p) (fun h2 => Ev.b (spec_NeedsNestedLoop_ev t (by omega)) (Ev.i (fun h3 => Ev.p) (fun h3 => Ev.t ?_ Ev.p))))) (fun hv => Ev.p))
      rcases h hv with h | h | h
      · omega
      · exact absurd h h3
      · omega
    · refine Ev.s (fun k => by rw [impl_PartitionDepth.f]) ?_
      refine Ev.b (impl_IsValidTask_ev t (by omega)) (Ev.i (fun hv => Ev.b (impl_BuildSide_ev t g (by omega)) (Ev.i (fun h2 => Ev.b (impl_NeedsNestedLoop_ev t (by omega)) (Ev.i (fun h3 => Ev.p) (fun h3 => Ev.t ?_ Ev.p))) (fun h2 => Ev.p))) (fun hv => Ev.p))
      rcases h hv with h | h | h
      · omega
      · exact absurd h h3
      · omega
  intro n
  induction n with
  | zero =>
    intro t ht hn hl
    obtain ⟨h1, h2⟩ := base t ht (fun hv => .inr (.inl (by have := hl hv; simp [needsN]; left; omega)))
    exact ⟨0, by omega, by omega, h1, h2⟩
  | succ n ih =>
    intro t ht hn hl
    by_cases hc : vTask t = true → bSide t g ≠ 0 ∨ needsN t = true ∨ t.f1.length = 0
    · obtain ⟨h1, h2⟩ := base t ht hc
      exact ⟨0, by omega, by omega, h1, h2⟩
    · have hv : vTask t = true := Classical.byContradiction fun h => hc (fun h' => absurd h' h)
      have hnb : bSide t g = 0 := Classical.byContradiction fun h => hc (fun _ => .inl h)
      have hnn : needsN t = false := by cases e : needsN t with | false => rfl | true => exact absurd (fun _ => .inr (.inl e)) hc
      have hn0 : t.f1.length ≠ 0 := fun h => hc (fun _ => .inr (.inr h))
      have h4 : t.f4 < 4 := by simp [needsN] at hnn; omega
      have hV := vTask_iff.1 hv
      have hp : parts t = true := by simp [parts, hv]; omega
      obtain ⟨q0, q1⟩ := part_VT hV (by omega)
      have e0 : pT0 t = part0 t := if_pos hp
      have e1 : pT1 t = part1 t := if_pos hp
      have hl' := hl hv
      obtain ⟨r0, b0, c0, s0, i0⟩ := ih (part0 t) (by have := q0.p; omega) (by omega) (fun _ => by show 4 - (t.f4 + 1) ≤ _; omega)
      obtain ⟨r1, b1, c1, s1, i1⟩ := ih (part1 t) (by have := q1.p; omega) (by omega) (fun _ => by show 4 - (t.f4 + 1) ≤ _; omega)
      obtain ⟨m0, m1⟩ := mx_b b0 c0 b1 c1
      have es := spec_PartitionTask_ev t ht
      have ei := impl_PartitionTask_ev t ht
      rw [e0, e1] at es ei
      refine ⟨1 + mx r0 r1, by omega, by omega, ?_, ?_⟩
      · refine Ev.s (fun k => by rw [spec_PartitionDepth.f]) ?_
        exact Ev.b (spec_IsValidTask_ev t (by omega)) (Ev.t hv (Ev.b (spec_BuildSide_ev t g (by omega)) (Ev.e (by omega) (Ev.b (spec_NeedsNestedLoop_ev t (by omega)) (Ev.e (by simp [hnn]) (Ev.e (by omega) (Ev.b es (Ev.b s0 (Ev.b s1 (Ev.p.r (w64 (by omega) (by omega))))))))))))
      · refine Ev.s (fun k => by rw [impl_PartitionDepth.f]) ?_
        exact Ev.b (impl_IsValidTask_ev t (by omega)) (Ev.t hv (Ev.b (impl_BuildSide_ev t g (by omega)) (Ev.t hnb (Ev.b (impl_NeedsNestedLoop_ev t (by omega)) (Ev.e (by simp [hnn]) (Ev.e (by omega) (Ev.b ei (Ev.b i0 (Ev.b i1 (Ev.p.r (w64 (by omega) (by omega))))))))))))

theorem inB_iff {n a b : Int} : inB n a b = true ↔ a ≤ n ∧ n ≤ b := by simp [inB]
theorem taskCost_b (t : S44) (h : VT t) : 0 ≤ taskCost t ∧ taskCost t ≤ 192 := by
  have h1 := tCost_b t.f1; have h2 := tCost_b t.f2; have := h.b
  unfold taskCost; omega
theorem jT_vt {t : S44} (h : VT t) (c : List S70) : jT t c = { t with f3 := (zl t).map (jm c) } := by unfold jT; rw [if_pos (vTask_iff.2 h)]
theorem flt_sum {α : Type} (f : α → Int) (p : α → Bool) : ∀ l : List α, ((l.filter p).map f).sum + ((l.filter fun x => !p x).map f).sum = (l.map f).sum
  | [] => by simp
  | x :: l => by
    have := flt_sum f p l
    cases h : p x <;> simp [h] <;> omega
theorem flt_len {α : Type} (p : α → Bool) : ∀ l : List α, (l.filter p).length + (l.filter fun x => !p x).length = l.length
  | [] => by simp
  | x :: l => by
    have := flt_len p l
    cases h : p x <;> simp [h] <;> omega
theorem part_sum {t : S44} (h : VT t) : (part0 t).f1.length + (part1 t).f1.length = t.f1.length ∧ (part0 t).f2.length + (part1 t).f2.length = t.f2.length ∧ taskCost (part0 t) + taskCost (part1 t) = taskCost t := by
  have e := zl_fst h.len
  refine ⟨?_, flt_len _ _, ?_⟩
  · have := flt_len (fun p => hb t.f4 p.1) (zl t)
    have hz : (zl t).length = t.f1.length := by rw [← congrArg List.length e, List.length_map]
    simp only [part0, part1, List.length_map]; omega
  · have h1 := flt_sum (fun p => cRow p.1) (fun p => hb t.f4 p.1) (zl t)
    have h2 := flt_sum cRow (hb t.f4) t.f2
    have h3 : ((zl t).map fun p => cRow p.1).sum = tCost t.f1 := by
      have : tCost ((zl t).map (·.1)) = tCost t.f1 := by rw [e]
      rw [← this, tCost, List.map_map]; rfl
    unfold taskCost
    rw [show tCost (part0 t).f1 = (((zl t).filter fun p => hb t.f4 p.1).map fun p => cRow p.1).sum by rw [tCost, part0, List.map_map]; rfl]
    rw [show tCost (part1 t).f1 = (((zl t).filter fun p => !hb t.f4 p.1).map fun p => cRow p.1).sum by rw [tCost, part1, List.map_map]; rfl]
    rw [show tCost (part0 t).f2 = ((t.f2.filter (hb t.f4)).map cRow).sum from rfl]
    rw [show tCost (part1 t).f2 = ((t.f2.filter fun x => !hb t.f4 x).map cRow).sum from rfl]
    unfold tCost at h3 ⊢
    omega
def gbub {α : Type} (lt : α → α → Bool) (x : α) : List α → List α → List α
  | [], q => x :: q
  | y :: rp, q => if lt x y = true then gbub lt x rp (y :: q) else (y :: rp).reverse ++ x :: q
def gsort {α : Type} (lt : α → α → Bool) (P : List α) (l : List α) : List α := l.foldl (fun P x => gbub lt x P.reverse []) P
theorem gbub_perm {α : Type} (lt : α → α → Bool) (x : α) : ∀ rp q : List α, (gbub lt x rp q).Perm (x :: (rp ++ q))
  | [], q => List.Perm.refl _
  | y :: rp, q => by
    rw [gbub]
    split
    · exact (gbub_perm lt x rp (y :: q)).trans (List.Perm.cons x (List.perm_middle))
    · exact List.perm_middle.trans (List.Perm.cons x ((List.reverse_perm _).append_right q))
theorem gsort_perm {α : Type} (lt : α → α → Bool) : ∀ (l P : List α), (gsort lt P l).Perm (P ++ l)
  | [], P => by simp [gsort]
  | x :: l, P => by
    have ih := gsort_perm lt l (gbub lt x P.reverse [])
    have p1 : (gbub lt x P.reverse []).Perm (x :: P) := (gbub_perm lt x P.reverse []).trans (by rw [List.append_nil]; exact (List.reverse_perm P).cons x)
    exact ih.trans ((p1.append_right l).trans List.perm_middle.symm)
theorem gbub_sorted {α : Type} (lt : α → α → Bool) (ht : ∀ a b c, lt b a = false → lt c b = false → lt c a = false) (ha : ∀ a b, lt a b = true → lt b a = false) (x : α) : ∀ rp q : List α, (rp.reverse ++ q).Pairwise (fun a b => lt b a = false) → (∀ y ∈ q, lt y x = false) → (gbub lt x rp q).Pairwise (fun a b => lt b a = false)
  | [], q, h, hq => by
    rw [gbub]; exact List.pairwise_cons.2 ⟨hq, by simpa using h⟩
  | y :: rp, q, h, hq => by
    rw [gbub]
    have h' : (rp.reverse ++ y :: q).Pairwise (fun a b => lt b a = false) := by simpa using h
    split
    · rename_i hxy
      refine gbub_sorted lt ht ha x rp (y :: q) h' (fun z hz => ?_)
      rcases List.mem_cons.1 hz with hz | hz
      · subst hz; exact ha x z hxy
      · exact hq z hz
    · rename_i hxy
      have hxy' : lt x y = false := by simpa using hxy
      have h2 := List.pairwise_append.1 h
      refine List.pairwise_append.2 ⟨h2.1, List.pairwise_cons.2 ⟨hq, h2.2.1⟩, fun a ha' b hb => ?_⟩
      rcases List.mem_cons.1 hb with hb | hb
      · subst hb
        rw [List.reverse_cons] at ha'
        rcases List.mem_append.1 ha' with ha' | ha'
        · exact ht a y b ((List.pairwise_append.1 h').2.2 a ha' y (List.mem_cons_self ..)) hxy'
        · rw [List.mem_singleton.1 ha']; exact hxy'
      · exact h2.2.2 a ha' b hb
theorem gsort_sorted {α : Type} (lt : α → α → Bool) (ht : ∀ a b c, lt b a = false → lt c b = false → lt c a = false) (ha : ∀ a b, lt a b = true → lt b a = false) : ∀ (l P : List α), P.Pairwise (fun a b => lt b a = false) → (gsort lt P l).Pairwise (fun a b => lt b a = false)
  | [], P, h => h
  | x :: l, P, h => gsort_sorted lt ht ha l (gbub lt x P.reverse []) (gbub_sorted lt ht ha x P.reverse [] (by simpa using h) (fun y hy => by simp at hy))
theorem gsort_uniq {α : Type} (lt : α → α → Bool) (he : ∀ a b, lt a b = false → lt b a = false → a = b) : ∀ {a b : List α}, a.Pairwise (fun a b => lt b a = false) → b.Pairwise (fun a b => lt b a = false) → a.Perm b → a = b
  | [], b, _, _, h => (List.nil_perm.1 h).symm
  | x :: a, [], _, _, h => by simp at h
  | x :: a, y :: b, ha, hb, h => by
    obtain ⟨a1, a2⟩ := List.pairwise_cons.1 ha
    obtain ⟨b1, b2⟩ := List.pairwise_cons.1 hb
    have e : x = y := by
      have hx : x ∈ y :: b := h.subset (List.mem_cons_self ..)
      have hy : y ∈ x :: a := h.symm.subset (List.mem_cons_self ..)
      rcases List.mem_cons.1 hx with hx | hx
      · exact hx
      rcases List.mem_cons.1 hy with hy | hy
      · exact hy.symm
      exact he x y (b1 x hx) (a1 y hy)
    subst e
    rw [gsort_uniq lt he a2 b2 (List.Perm.cons_inv h)]
def ltL : List Int → List Int → Bool
  | x :: s, y :: t => decide (x < y) || (decide (x = y) && ltL s t)
  | _, _ => false
theorem ltL_iff {x y : Int} {s t : List Int} : ltL (x :: s) (y :: t) = true ↔ x < y ∨ (x = y ∧ ltL s t = true) := by simp [ltL]
theorem ltL_asym : ∀ s t : List Int, ltL s t = true → ltL t s = false
  | [], t, h => by cases t <;> simp [ltL] at h
  | x :: s, [], h => by simp [ltL] at h
  | x :: s, y :: t, h => by
    rw [ltL_iff] at h
    rw [← Bool.not_eq_true, ltL_iff]
    rintro (h2 | ⟨h2, h3⟩)
    · rcases h with h | ⟨h, _⟩ <;> omega
    · rcases h with h | ⟨_, h⟩
      · omega
      · rw [ltL_asym s t h] at h3; cases h3
theorem ltL_tot : ∀ s t : List Int, s.length = t.length → ltL s t = false → ltL t s = false → s = t
  | [], [], _, _, _ => rfl
  | [], y :: t, h, _, _ => by simp at h
  | x :: s, [], h, _, _ => by simp at h
  | x :: s, y :: t, h, h1, h2 => by
    rw [← Bool.not_eq_true, ltL_iff] at h1 h2
    have hxy : x = y := by
      have k1 : ¬ x < y := fun k => h1 (.inl k)
      have k2 : ¬ y < x := fun k => h2 (.inl k)
      omega
    subst hxy
    rw [ltL_tot s t (by simpa using h) (by simpa using fun k => h1 (.inr ⟨rfl, k⟩)) (by simpa using fun k => h2 (.inr ⟨rfl, k⟩))]
theorem ltL_trans : ∀ a b c : List Int, a.length = b.length → b.length = c.length → ltL b a = false → ltL c b = false → ltL c a = false
  | [], [], [], _, _, _, _ => rfl
  | x :: a, y :: b, z :: c, h1, h2, k1, k2 => by
    rw [← Bool.not_eq_true, ltL_iff] at k1 k2 ⊢
    have n1 : ¬ y < x := fun k => k1 (.inl k)
    have n2 : ¬ z < y := fun k => k2 (.inl k)
    rintro (k | ⟨k, k'⟩)
    · omega
    · have e1 : y = x := by omega
      have e2 : z = y := by omega
      have := ltL_trans a b c (by simpa using h1) (by simpa using h2) (by simpa using fun k => k1 (.inr ⟨e1, k⟩)) (by simpa using fun k => k2 (.inr ⟨e2, k⟩))
      rw [this] at k'; cases k'
  | [], y :: b, _, h, _, _, _ => by simp at h
  | x :: a, [], _, h, _, _, _ => by simp at h
  | _, [], z :: c, _, h, _, _ => by simp at h
  | _, y :: b, [], _, h, _, _ => by simp at h
def pkey (p : S92) : List Int := [p.f0.f0, p.f0.f1, p.f0.f2, if p.f2 = true then 1 else 0, p.f1.f0, p.f1.f1, p.f1.f2]
def ltP (a b : S92) : Bool := ltL (pkey a) (pkey b)
theorem pkey_inj {a b : S92} (h : pkey a = pkey b) : a = b := by
  obtain ⟨⟨a1, a2, a3⟩, ⟨a4, a5, a6⟩, a7⟩ := a
  obtain ⟨⟨b1, b2, b3⟩, ⟨b4, b5, b6⟩, b7⟩ := b
  simp only [pkey, List.cons.injEq] at h
  obtain ⟨h1, h2, h3, h4, h5, h6, h7, -⟩ := h
  subst h1 h2 h3 h5 h6 h7
  have : a7 = b7 := by cases a7 <;> cases b7 <;> simp at h4 <;> rfl
  rw [this]
def psort (l : List S92) : List S92 := gsort ltP [] l
theorem psort_perm {a b : List S92} (h : a.Perm b) : psort a = psort b := by
  have pa := gsort_perm ltP a []
  have pb := gsort_perm ltP b []
  have ht : ∀ a b c : S92, ltP b a = false → ltP c b = false → ltP c a = false := fun a b c => ltL_trans (pkey a) (pkey b) (pkey c) rfl rfl
  have ha : ∀ a b : S92, ltP a b = true → ltP b a = false := fun a b => ltL_asym _ _
  exact gsort_uniq ltP (fun a b h1 h2 => pkey_inj (ltL_tot _ _ rfl h1 h2)) (gsort_sorted ltP ht ha a [] List.Pairwise.nil) (gsort_sorted ltP ht ha b [] List.Pairwise.nil) (pa.trans (h.trans pb.symm))
theorem psort_len (l : List S92) : (psort l).length = l.length := (gsort_perm ltP l []).length_eq.trans (by simp)

def cmpR (x y : S70) : Int := if x.f0 < y.f0 then -1 else if x.f0 > y.f0 then 1 else if x.f1 < y.f1 then -1 else if x.f1 > y.f1 then 1 else if x.f2 < y.f2 then -1 else if x.f2 > y.f2 then 1 else 0
theorem spec_CompareRows_ev (x y : S70) : Ev (fun k => spec_CompareRows.f k x.f0 x.f1 x.f2 y.f0 y.f1 y.f2) (cmpR x y) := by
  have w1 : wrap64 ((0 : Int) + 1) = 1 := w64 (by omega) (by omega)
  have w2 : wrap64 ((1 : Int) + 1) = 2 := w64 (by omega) (by omega)
  have w3 : wrap64 ((2 : Int) + 1) = 3 := w64 (by omega) (by omega)
  unfold cmpR
  refine Ev.u (fun k => by rw [spec_CompareRows.f]) ?_
  refine Ev.s (fun k => by rw [spec_CompareRows.l0]) (Ev.t (by omega) (Ev.t (by omega) (Ev.t (by simp) (Ev.t (by simp) ?_))))
  rw [show rdOf 0 [x.f0, x.f1, x.f2] 0 = x.f0 from rfl, show rdOf 0 [y.f0, y.f1, y.f2] 0 = y.f0 from rfl, w1]
  refine Ev.i (fun h => by rw [if_pos h]; exact Ev.p) (fun h => ?_)
  rw [if_neg h]
  refine Ev.i (fun h => by rw [if_pos h]; exact Ev.p) (fun h => ?_)
  rw [if_neg h]
  refine Ev.s (fun k => by rw [spec_CompareRows.l0]) (Ev.t (by omega) (Ev.t (by omega) (Ev.t (by simp) (Ev.t (by simp) ?_))))
  rw [show rdOf 0 [x.f0, x.f1, x.f2] 1 = x.f1 from rfl, show rdOf 0 [y.f0, y.f1, y.f2] 1 = y.f1 from rfl, w2]
  refine Ev.i (fun h => by rw [if_pos h]; exact Ev.p) (fun h => ?_)
  rw [if_neg h]
  refine Ev.i (fun h => by rw [if_pos h]; exact Ev.p) (fun h => ?_)
  rw [if_neg h]
  refine Ev.s (fun k => by rw [spec_CompareRows.l0]) (Ev.t (by omega) (Ev.t (by omega) (Ev.t (by simp) (Ev.t (by simp) ?_))))
  rw [show rdOf 0 [x.f0, x.f1, x.f2] 2 = x.f2 from rfl, show rdOf 0 [y.f0, y.f1, y.f2] 2 = y.f2 from rfl, w3]
  refine Ev.i (fun h => by rw [if_pos h]; exact Ev.p) (fun h => ?_)
  rw [if_neg h]
  refine Ev.i (fun h => by rw [if_pos h]; exact Ev.p) (fun h => ?_)
  rw [if_neg h]
  refine Ev.s (fun k => by rw [spec_CompareRows.l0]) ?_
  exact Ev.e (by omega) Ev.p
def cmpP (a b : S92) : Int := if cmpR a.f0 b.f0 = 0 then (if (a.f2 == b.f2) = true then cmpR a.f1 b.f1 else if b.f2 = true then -1 else 1) else cmpR a.f0 b.f0
theorem spec_ComparePairs_ev (a b : S92) : Ev (fun k => spec_ComparePairs.f k a.f0.f0 a.f0.f1 a.f0.f2 a.f1.f0 a.f1.f1 a.f1.f2 a.f2 b.f0.f0 b.f0.f1 b.f0.f2 b.f1.f0 b.f1.f1 b.f1.f2 b.f2) (cmpP a b) := by
  unfold cmpP
  refine Ev.u (fun k => by rw [spec_ComparePairs.f]) ?_
  refine Ev.b (spec_CompareRows_ev a.f0 b.f0) (Ev.i (fun h => ?_) (fun h => ?_))
  · rw [if_pos h]
    refine Ev.i (fun h2 => ?_) (fun h2 => ?_)
    · rw [if_pos h2]; exact Ev.b (spec_CompareRows_ev a.f1 b.f1) Ev.p
    · rw [if_neg h2]
      refine Ev.i (fun h3 => ?_) (fun h3 => ?_)
      · rw [if_pos h3]; exact Ev.p
      · rw [if_neg h3]; exact Ev.p
  · rw [if_neg h]; exact Ev.p
theorem cmpR_key (x y : S70) (s t : List Int) : (cmpR x y > 0 ∨ (cmpR x y = 0 ∧ ltL t s = true)) ↔ ltL (y.f0 :: y.f1 :: y.f2 :: t) (x.f0 :: x.f1 :: x.f2 :: s) = true := by
  rw [ltL_iff, ltL_iff, ltL_iff]
  unfold cmpR
  by_cases h1 : x.f0 < y.f0
  · rw [if_pos h1]; constructor <;> intro h <;> omega
  rw [if_neg h1]
  by_cases h2 : x.f0 > y.f0
  · rw [if_pos h2]; constructor <;> intro h <;> omega
  rw [if_neg h2]
  by_cases h3 : x.f1 < y.f1
  · rw [if_pos h3]; constructor <;> intro h <;> omega
  rw [if_neg h3]
  by_cases h4 : x.f1 > y.f1
  · rw [if_pos h4]; constructor <;> intro h <;> omega
  rw [if_neg h4]
  by_cases h5 : x.f2 < y.f2
  · rw [if_pos h5]; constructor <;> intro h <;> omega
  rw [if_neg h5]
  by_cases h6 : x.f2 > y.f2
  · rw [if_pos h6]; constructor <;> intro h <;> omega
  rw [if_neg h6]
  constructor
  · rintro (h | ⟨_, h⟩)
    · omega
    · exact .inr ⟨by omega, .inr ⟨by omega, .inr ⟨by omega, h⟩⟩⟩
  · rintro (h | ⟨_, h | ⟨_, h | ⟨_, h⟩⟩⟩)
    · omega
    · omega
    · omega
    · exact .inr ⟨rfl, h⟩

theorem rdPr (l : List S92) (i : Nat) : rd_T92 l (i : Int) = l.getD i z92 := rfl
theorem cmpP_gt (a b : S92) : cmpP a b > 0 ↔ ltP b a = true := by
  have h1 := cmpR_key a.f0 b.f0 ((if a.f2 = true then 1 else 0) :: [a.f1.f0, a.f1.f1, a.f1.f2]) ((if b.f2 = true then 1 else 0) :: [b.f1.f0, b.f1.f1, b.f1.f2])
  have h2 := cmpR_key a.f1 b.f1 [] []
  unfold ltP pkey
  rw [← h1, ltL_iff, ← h2]
  unfold cmpP
  have e0 : ltL [] [] = false := rfl
  by_cases h : cmpR a.f0 b.f0 = 0
  · rw [if_pos h, h, e0]
    cases ha : a.f2 <;> cases hb : b.f2 <;> simp
  · rw [if_neg h]
    constructor
    · intro k; exact .inl k
    · rintro (k | ⟨k, -⟩)
      · exact k
      · exact absurd k h
theorem spec_l7Sorted_l1 (l : List S92) (hl : l.length ≤ 1099511627776) (i : Nat) (hi : i < l.length) (x : S92) (hx : ∀ d, l.getD i d = x) (r : List S92) : ∀ (rp q : List S92), rp.length + q.length ≤ 1099511627776 →
    Ev (fun k => spec_l7Sorted.l0 k (gbub ltP x rp q) ((i + 1 : Nat) : Int) l) r → Ev (fun k => spec_l7Sorted.l1 k (rp.reverse ++ q) (i : Int) (rp.length : Int) l) r := by
  have J0 : ∀ (pre q : List S92) (n : Nat), n = pre.length → pre.length + q.length ≤ 1099511627776 → Ev (fun k => spec_l7Sorted.l0 k (pre ++ x :: q) ((i + 1 : Nat) : Int) l) r → Ev (fun k => spec_l7Sorted.j0 k (pre ++ q) (i : Int) (n : Int) l) r := by
    intro pre q n hn hp h
    subst hn
    refine Ev.s (fun k => by rw [spec_l7Sorted.j0]) (Ev.t (by omega) (Ev.t (by omega) (Ev.t (by omega) (Ev.t (by rw [List.length_append]; omega) ?_))))
    have e1 : (pre ++ q).take (pre.length : Int).toNat = pre := by simp
    have e2 : (pre ++ q).drop (pre.length : Int).toNat = q := by simp
    rw [e1, e2, rdPr, hx, w64s hi (by omega)]
    refine Ev.t (by simp; omega) (Ev.t (by omega) (Ev.t (by simp; omega) ?_))
    exact h
  intro rp
  induction rp with
  | nil =>
    intro q hp h
    refine Ev.s (fun k => by rw [spec_l7Sorted.l1]) (Ev.e (by simp) ?_)
    exact J0 [] q 0 rfl (by simpa using hp) h
  | cons y rp ih =>
    intro q hp h
    rw [List.length_cons] at hp
    have e1 : wrap64 (((y :: rp).length : Int) - 1) = (rp.length : Int) := by rw [List.length_cons, w64 (by omega) (by omega)]; omega
    have el : (y :: rp).reverse ++ q = rp.reverse ++ y :: q := by simp
    have r2 : rd_T92 (rp.reverse ++ y :: q) (rp.length : Int) = y := by
      have := rdPPair rp.reverse y q
      simpa using this
    refine Ev.s (fun k => by rw [spec_l7Sorted.l1]) (Ev.t (by rw [List.length_cons]; omega) ?_)
    rw [e1, el, r2, rdPr l i, hx]
    refine Ev.t (by omega) (Ev.t (by simp; omega) (Ev.t (by omega) (Ev.t (by omega) (Ev.b (spec_ComparePairs_ev y x) (Ev.i (fun hc => ?_) (fun hc => ?_))))))
    · rw [gbub, if_pos ((cmpP_gt y x).1 hc)] at h
      exact ih (y :: q) (by rw [List.length_cons]; omega) h
    · rw [gbub, if_neg (fun k => hc ((cmpP_gt y x).2 k))] at h
      rw [← el]
      exact J0 (y :: rp).reverse q (y :: rp).length (by simp) (by simp; omega) h
theorem gbub_len {α : Type} (lt : α → α → Bool) (x : α) (rp q : List α) : (gbub lt x rp q).length = rp.length + q.length + 1 := by
  rw [(gbub_perm lt x rp q).length_eq]; simp
theorem spec_l7Sorted_l0 (l : List S92) (hl : l.length ≤ 1099511627776) : ∀ (s : List S92) (i : Nat) (P : List S92), l.drop i = s → P.length = i → i ≤ l.length → Ev (fun k => spec_l7Sorted.l0 k P (i : Int) l) (gsort ltP P s) := by
  intro s
  induction s with
  | nil =>
    intro i P hd hP hi
    have := drop_nil' hd
    exact Ev.s (fun k => by rw [spec_l7Sorted.l0]) (Ev.e (by omega) (Ev.p.r (by rfl)))
  | cons x t ih =>
    intro i P hd hP hil
    obtain ⟨hi, hd', hx, -⟩ := drop_cons' hd
    refine Ev.s (fun k => by rw [spec_l7Sorted.l0]) (Ev.t (by omega) ?_)
    have e := spec_l7Sorted_l1 l hl i hi x hx (gsort ltP P (x :: t)) P.reverse [] (by simp; omega) (ih (i + 1) (gbub ltP x P.reverse []) hd' (by rw [gbub_len]; simp; omega) (by omega))
    rw [List.reverse_reverse, List.append_nil, List.length_reverse] at e
    exact e
theorem spec_l7Sorted_ev (l : List S92) (hl : l.length ≤ 1099511627776) : Ev (fun k => spec_l7Sorted.f k l) (psort l) :=
  Ev.u (fun _ => rfl) (spec_l7Sorted_l0 l hl l 0 [] rfl rfl (by omega))
theorem spec_EqualPairBags_l0 (l : List S92) (hl : l.length ≤ 1099511627776) : ∀ (s : List S92) (i : Nat), l.drop i = s → Ev (fun k => spec_EqualPairBags.l0 k l l (i : Int)) true := by
  intro s
  induction s with
  | nil =>
    intro i hd
    have := drop_nil' hd
    exact Ev.s (fun k => by rw [spec_EqualPairBags.l0]) (Ev.e (by omega) (Ev.p.r (by rfl)))
  | cons x t ih =>
    intro i hd
    obtain ⟨hi, hd', hx, -⟩ := drop_cons' hd
    refine Ev.s (fun k => by rw [spec_EqualPairBags.l0]) (Ev.t (by omega) (Ev.t (by omega) (Ev.t (by omega) ?_)))
    rw [w64s hi (by omega)]
    exact Ev.t (by simp) (ih (i + 1) hd')
theorem EqualPairBags_ev (a b : List S92) (h : a.Perm b) (ha : a.length ≤ 1099511627776) : Ev (fun k => spec_EqualPairBags.f k a b) true := by
  have hb : b.length ≤ 1099511627776 := by rw [← h.length_eq]; exact ha
  refine Ev.u (fun _ => rfl) (Ev.b (spec_l7Sorted_ev a ha) (Ev.b (spec_l7Sorted_ev b hb) ?_))
  rw [psort_perm h]
  have hl := psort_len b
  exact Ev.t rfl (spec_EqualPairBags_l0 (psort b) (by omega) (psort b) 0 rfl)

theorem andI_255 (a : Int) : 0 ≤ andI a 255 ∧ andI a 255 ≤ 255 := by
  unfold andI
  have h1 : (BitVec.ofInt 64 a &&& BitVec.ofInt 64 255).toNat ≤ 255 := by
    rw [BitVec.toNat_and]
    exact Nat.and_le_right
  rw [w64 (by omega) (by omega)]
  omega
def Rd (l : List Int) (p : Int) : Prop := 0 ≤ p ∧ p ≤ (l.length : Int) ∧ l.length ≤ 1099511627776
theorem l1Byte_ex (l : List Int) (p z : Int) (h : Rd l p) : ∃ v p' z', spec_l1Byte.f l p z = some (v, p', z') ∧ 0 ≤ v ∧ v ≤ 255 ∧ Rd l p' := by
  obtain ⟨h0, h1, h2⟩ := h
  unfold spec_l1Byte.f
  by_cases hp : p < (l.length : Int)
  · rw [if_pos hp, if_pos h0]
    refine ⟨_, _, _, rfl, (andI_255 _).1, (andI_255 _).2, ?_⟩
    rw [w64 (by omega) (by omega)]
    exact ⟨by omega, by omega, h2⟩
  · rw [if_neg hp]
    exact ⟨_, _, _, rfl, (andI_255 _).1, (andI_255 _).2, h0, h1, h2⟩
theorem l1Below_ex (l : List Int) (p z n : Int) (h : Rd l p) (hn : n ≤ 256) : ∃ v p' z', spec_l1Below.f l p z n = some (v, p', z') ∧ 0 ≤ v ∧ (v < n ∨ (n ≤ 0 ∧ v = 0)) ∧ Rd l p' := by
  unfold spec_l1Below.f
  by_cases h0 : n ≤ 0
  · rw [if_pos h0]; exact ⟨0, p, z, rfl, by omega, .inr ⟨h0, rfl⟩, h⟩
  · rw [if_neg h0, if_pos hn]
    obtain ⟨v, p', z', e, v0, v1, hr⟩ := l1Byte_ex l p z h
    rw [ob e, if_pos (by omega)]
    have e2 : Int.tmod v n = v % n := Int.tmod_eq_emod_of_nonneg v0
    refine ⟨_, _, _, rfl, ?_, .inl ?_, hr⟩
    · show 0 ≤ Int.tmod v n
      rw [e2]; exact Int.emod_nonneg _ (by omega)
    · show Int.tmod v n < n
      rw [e2]; exact Int.emod_lt_of_pos _ (by omega)
theorem l1Once_ex (l : List Int) (p z n : Int) (h : Rd l p) (hn : n ≤ 256) : ∃ b p' z', spec_l1Once.f l p z n = some (b, p', z') ∧ Rd l p' := by
  obtain ⟨v, p', z', e, -, -, hr⟩ := l1Below_ex l p z n h hn
  unfold spec_l1Once.f
  rw [ob e]
  exact ⟨_, _, _, rfl, hr⟩
theorem l1PickInt_ex (l : List Int) (p z : Int) (c : List Int) (h : Rd l p) (hc : 0 < c.length) (hn : c.length ≤ 256) : ∃ v p' z', spec_l1PickInt.f l p z c = some (v, p', z') ∧ v ∈ c ∧ Rd l p' := by
  obtain ⟨v, p', z', e, v0, v1, hr⟩ := l1Below_ex l p z (c.length : Int) h (by omega)
  unfold spec_l1PickInt.f
  rw [ob e]
  show ∃ v' q q', (if 0 ≤ v then (if v < (c.length : Int) then some (rdOf 0 c v, p', z') else none) else none) = some (v', q, q') ∧ _
  rw [if_pos v0, if_pos (by omega)]
  refine ⟨_, _, _, rfl, ?_, hr⟩
  obtain ⟨n, rfl⟩ : ∃ n : Nat, v = n := ⟨v.toNat, by omega⟩
  rw [rdI, List.getD_eq_getElem?_getD, List.getElem?_eq_getElem (by omega)]
  exact List.getElem_mem (by omega)
theorem l2Row_ex (l : List Int) (p z n : Int) (h : Rd l p) (hn : n ≤ 256) : ∃ a b c p' z', spec_l2Row.f l p z n = some (a, b, c, p', z') ∧ 0 ≤ a ∧ (a < n ∨ (n ≤ 0 ∧ a = 0)) ∧ 0 ≤ b ∧ b ≤ 99 ∧ 0 ≤ c ∧ c ≤ 3 ∧ Rd l p' := by
  obtain ⟨v1, p1, z1, e1, a0, a1, h1⟩ := l1Below_ex l p z n h hn
  obtain ⟨v2, p2, z2, e2, b0, b1, h2⟩ := l1Below_ex l p1 z1 100 h1 (by omega)
  obtain ⟨v3, p3, z3, e3, c0, h3⟩ := l1PickInt_ex l p2 z2 [0, 0, 1, 2, 3] h2 (by simp) (by simp)
  unfold spec_l2Row.f
  rw [ob e1, ob e2, ob e3]
  refine ⟨_, _, _, _, _, rfl, a0, a1, b0, by omega, ?_, ?_, h3⟩
  · simp at c0; show 0 ≤ v3; omega
  · simp at c0; show v3 ≤ 3; omega

theorem l2Rows_l0 (l : List Int) (n : Int) (hn : 1 ≤ n ∧ n ≤ 10) : ∀ (m : Nat) (R : List S70) (p z : Int), Rd l p → vAll R = true → R.length + m ≤ 1000 → ∃ R' p' z', Ev (fun k => spec_l2Rows.l0 k R n (m : Int) p z l) (R', p', z') ∧ vAll R' = true ∧ R'.length = R.length + m ∧ Rd l p' := by
  intro m
  induction m with
  | zero =>
    intro R p z h hv hR
    exact ⟨R, p, z, Ev.s (fun k => by rw [spec_l2Rows.l0]) (Ev.e (by omega) Ev.p), hv, rfl, h⟩
  | succ m ih =>
    intro R p z h hv hR
    obtain ⟨a, b, c, p', z', e, a0, a1, b0, b1, c0, c1, hr⟩ := l2Row_ex l p z n h (by omega)
    have hv' : vAll (R ++ [⟨a, b, c⟩]) = true := by
      unfold vAll at hv ⊢
      rw [List.all_append, hv]
      simp [vRow, inB]; omega
    obtain ⟨R', p2, z2, e2, v2, l2, r2⟩ := ih (R ++ [⟨a, b, c⟩]) p' z' hr hv' (by simp; omega)
    refine ⟨R', p2, z2, ?_, v2, by rw [l2]; simp; omega, r2⟩
    refine Ev.s (fun k => by rw [spec_l2Rows.l0]) ?_
    rw [show wrap64 (((m + 1 : Nat) : Int) - 1) = (m : Int) by rw [w64 (by omega) (by omega)]; omega]
    refine Ev.t (by omega) (Ev.b (Ev.c e) ?_)
    exact Ev.t (by omega) e2
theorem l2Rows_ex (l : List Int) (p z n : Int) (h : Rd l p) (hn : 0 ≤ n ∧ n ≤ 100) : ∃ R p' z', Ev (fun k => spec_l2Rows.f k l p z n) (R, p', z') ∧ vAll R = true ∧ (R.length : Int) ≤ n ∧ Rd l p' := by
  obtain ⟨v1, p1, z1, e1, m1, h1⟩ := l1PickInt_ex l p z [1, 2, 4, 10] h (by simp) (by simp)
  obtain ⟨v2, p2, z2, e2, b0, b1, h2⟩ := l1Below_ex l p1 z1 (n + 1) h1 (by omega)
  have hv : 1 ≤ v1 ∧ v1 ≤ 10 := by simp at m1; omega
  obtain ⟨w, rfl⟩ : ∃ w : Nat, v2 = w := ⟨v2.toNat, by omega⟩
  obtain ⟨R, p', z', e, hvR, hl, hr⟩ := l2Rows_l0 l v1 hv w [] p2 z2 h2 rfl (by simp; omega)
  refine ⟨R, p', z', Ev.u (fun _ => rfl) (Ev.b (Ev.c e1) ?_), hvR, by rw [hl]; simp; omega, hr⟩
  rw [w64 (x := n + 1) (by omega) (by omega)]
  exact Ev.b (Ev.c e2) e
theorem l2Any_ex (l : List Int) (p z : Int) (h : Rd l p) : ∃ a b c p' z', spec_l2Any.f l p z = some (a, b, c, p', z') ∧ Rd l p' := by
  obtain ⟨a, b, c, p1, z1, e1, -, -, -, -, -, -, h1⟩ := l2Row_ex l p z 10 h (by omega)
  obtain ⟨v, p2, z2, e2, -, -, h2⟩ := l1Below_ex l p1 z1 8 h1 (by omega)
  unfold spec_l2Any.f
  rw [ob e1, ob e2]
  dsimp only
  by_cases k0 : v = 0
  · obtain ⟨w, p3, z3, e3, -, h3⟩ := l1PickInt_ex l p2 z2 [-1, 10] h2 (by simp) (by simp)
    rw [if_pos k0, ob e3]; exact ⟨_, _, _, _, _, rfl, h3⟩
  rw [if_neg k0]
  by_cases k1 : v = 1
  · obtain ⟨w, p3, z3, e3, -, h3⟩ := l1PickInt_ex l p2 z2 [-1, 100, 99] h2 (by simp) (by simp)
    rw [if_pos k1, ob e3]; exact ⟨_, _, _, _, _, rfl, h3⟩
  rw [if_neg k1]
  by_cases k2 : v = 2
  · obtain ⟨w, p3, z3, e3, -, h3⟩ := l1PickInt_ex l p2 z2 [-1, 4] h2 (by simp) (by simp)
    rw [if_pos k2, ob e3]; exact ⟨_, _, _, _, _, rfl, h3⟩
  rw [if_neg k2]; exact ⟨_, _, _, _, _, rfl, h2⟩
theorem l1New_ev (l : List Int) (hl : l.length ≤ 1048576) : ∃ z', Ev (fun k => spec_l1New.f k l) (0, z') := by
  have J : ∀ z : Int, Ev (fun k => spec_l1New.j0 k z l) (0, z) := fun z => Ev.s (fun k => by rw [spec_l1New.j0]) Ev.p
  have L : ∀ (s : List Int) (i : Nat) (z : Int), l.drop i = s → ∃ z', Ev (fun k => spec_l1New.l0 k z (i : Int) l) (0, z') := by
    intro s
    induction s with
    | nil =>
      intro i z hd
      have := drop_nil' hd
      exact ⟨z, Ev.s (fun k => by rw [spec_l1New.l0]) (Ev.e (by omega) (J z))⟩
    | cons x t ih =>
      intro i z hd
      obtain ⟨hi, hd', hx, -⟩ := drop_cons' hd
      by_cases h4 : (i : Int) < 4000
      · obtain ⟨z', e⟩ := ih (i + 1) _ hd'
        refine ⟨z', Ev.s (fun k => by rw [spec_l1New.l0]) ?_⟩
        rw [w64s hi (by omega)]
        exact Ev.t (by omega) (Ev.t h4 (Ev.t (by omega) e))
      · exact ⟨z, Ev.s (fun k => by rw [spec_l1New.l0]) (Ev.t (by omega) (Ev.e h4 (J z)))⟩
  obtain ⟨z', e⟩ := L l 0 _ rfl
  exact ⟨z', Ev.u (fun _ => rfl) e⟩
theorem Rd0 (l : List Int) (hl : l.length ≤ 1048576) : Rd l 0 := ⟨by omega, by omega, by omega⟩
def urq (q : Int) (p : S70 × Bool) : List S92 := if q = 3 ∨ q = 4 then ur p else []
def elT (q : Int) (r : List S70) (p : S70 × Bool) : List S92 := jc q r p ++ urq q (p.1, jm r p)
theorem fm_congr {α β : Type} {f g : α → List β} : ∀ {l : List α}, (∀ x ∈ l, f x = g x) → l.flatMap f = l.flatMap g
  | [], _ => rfl
  | x :: l, h => by rw [List.flatMap_cons, List.flatMap_cons, h x (List.mem_cons_self ..), fm_congr (fun y hy => h y (List.mem_cons_of_mem _ hy))]
theorem fm_split {α β : Type} (p : α → Bool) (f : α → List β) : ∀ l : List α, ((l.filter p).flatMap f ++ (l.filter fun x => !p x).flatMap f).Perm (l.flatMap f)
  | [] => List.Perm.refl _
  | x :: l => by
    have ih := fm_split p f l
    cases h : p x with
    | true =>
      rw [List.filter_cons_of_pos h, List.filter_cons_of_neg (by simp [h]), List.flatMap_cons, List.flatMap_cons, List.append_assoc]
      exact List.Perm.append_left _ ih
    | false =>
      rw [List.filter_cons_of_neg (by simp [h]), List.filter_cons_of_pos (by simp [h]), List.flatMap_cons, List.flatMap_cons]
      have h2 : ((l.filter p).flatMap f ++ (f x ++ (l.filter fun x => !p x).flatMap f)).Perm (f x ++ ((l.filter p).flatMap f ++ (l.filter fun x => !p x).flatMap f)) := by
        rw [← List.append_assoc, ← List.append_assoc]
        exact List.Perm.append_right _ List.perm_append_comm
      exact h2.trans (List.Perm.append_left _ ih)
theorem nKey_flt {x : Int} {c : List S70} (h : nKey x c = 0) : (c.filter fun r => r.f0 == x) = [] := by
  unfold nKey at h
  rw [List.countP_eq_zero] at h
  exact List.filter_eq_nil_iff.2 h
theorem VT.jT {t : S44} (h : VT t) (c : List S70) : VT (jT t c) := by
  rw [jT_vt h]
  refine ⟨h.kind, h.left, h.right, ?_, h.level⟩
  show ((zl t).map (jm _)).length = t.f1.length
  have := h.len
  simp [zl]; omega
theorem flt_spl {v x : Int} (p : S70 → Bool) (l : List S70) (hp : ∀ r : S70, r.f0 = x → p r = true) : (l.filter p).filter (fun r => r.f0 == x) = l.filter fun r => r.f0 == x := by
  rw [List.filter_filter]
  refine List.filter_congr fun r _ => ?_
  by_cases h : r.f0 = x
  · simp [h, hp r h]
  · simp [h]
theorem nKey_f (x : Int) (l : List S70) : nKey x l = (l.filter fun r => r.f0 == x).length := by unfold nKey; rw [List.countP_eq_length_filter]
theorem elT_flt (q : Int) (l m : List S70) (p : S70 × Bool) (h : (m.filter fun r => r.f0 == p.1.f0) = l.filter fun r => r.f0 == p.1.f0) : elT q m p = elT q l p := by
  unfold elT jm jc
  rw [nKey_f, nKey_f, h]
/-- The reference's join. -/
def rfJ (q : Int) (a b : List S70) : List S92 := if inB q 1 4 = true then a.flatMap fun x => elT q b (x, false) else []
theorem spec_l7One_l0q (c : List S70) (hc : c.length ≤ 1099511627776) (q n : Int) (x : S70) : ∀ (s : List S70) (i : Nat) (P : List S92), c.drop i = s → P.length + s.length ≤ 1099511627776 →
    Ev (fun k => spec_l7One.l0 k q P n (i : Int) x.f0 x.f1 x.f2 c) (P ++ ((s.filter fun r => r.f0 == x.f0).map fun r => ⟨x, r, true⟩) ++ if n = 0 ∧ q = 4 then [⟨x, ⟨0, 0, 0⟩, false⟩] else []) := by
  intro s
  induction s with
  | nil =>
    intro i P hd hP
    have := drop_nil' hd
    simp only [List.length_nil] at hP
    refine Ev.s (fun k => by rw [spec_l7One.l0]) (Ev.e (by omega) ?_)
    refine Ev.i (fun h => Ev.i (fun h2 => Ev.t (by omega) (Ev.p.r ?_)) (fun h2 => Ev.p.r ?_)) (fun h => Ev.p.r ?_)
    · simp [h, h2]
    · simp [h2]
    · simp [h]
  | cons z s ih =>
    intro i P hd hP
    rw [List.length_cons] at hP
    obtain ⟨hi, hd', hx, -⟩ := drop_cons' hd
    refine Ev.s (fun k => by rw [spec_l7One.l0]) (Ev.t (by omega) (Ev.t (by omega) ?_))
    rw [rdR, hx, w64s hi (by omega)]
    refine Ev.i (fun h => Ev.t (by omega) ((ih (i + 1) _ hd' (by simp; omega)).r ?_)) (fun h => (ih (i + 1) _ hd' (by omega)).r ?_)
    · rw [List.filter_cons_of_pos (by simp [h])]; simp
    · rw [List.filter_cons_of_neg (by simp [h])]
theorem spec_l7One_ev (c : List S70) (hc : c.length ≤ 1048576) (q : Int) (hq : 1 ≤ q ∧ q ≤ 4) (x : S70) : Ev (fun k => spec_l7One.f k q x.f0 x.f1 x.f2 c) (elT q c (x, false)) := by
  have e1 : elT q c (x, false) = jc q c (x, false) ++ urq q (x, decide (nKey x.f0 c ≠ 0)) := by unfold elT jm; simp
  rw [e1]
  unfold jc urq ur
  dsimp only
  refine Ev.u (fun _ => rfl) (Ev.b (spec_CountMatches_ev c _ _ _ (by omega)) ?_)
  refine Ev.i (fun h2 => Ev.i (fun hn => Ev.t (by simp) (Ev.p.r ?_)) (fun hn => Ev.p.r ?_)) (fun h2 => Ev.i (fun h3 => Ev.i (fun hn => Ev.t (by simp) (Ev.p.r ?_)) (fun hn => Ev.p.r ?_)) (fun h3 => ?_))
  · have hn' : nKey x.f0 c ≠ 0 := by omega
    simp [h2, hn']
  · have hn' : nKey x.f0 c = 0 := by omega
    simp [h2, hn']
  · have hn' : nKey x.f0 c = 0 := by omega
    simp [h3, hn']
  · have hn' : nKey x.f0 c ≠ 0 := by omega
    simp [h3, hn']
  · refine (spec_l7One_l0q c (by omega) q _ x c 0 [] rfl (by simp; omega)).r ?_
    have h14 : q = 1 ∨ q = 4 := by omega
    by_cases hn : nKey x.f0 c = 0
    · rw [nKey_flt hn]
      rcases h14 with h | h <;> simp [h, hn]
    · rcases h14 with h | h <;> simp [h, hn]
theorem elT_len (q : Int) (c : List S70) (p : S70 × Bool) : (elT q c p).length ≤ c.length + 2 := by
  have h1 := jc_len q c p
  have h2 : (urq q (p.1, jm c p)).length ≤ 1 := by
    unfold urq; split
    · exact ur_len _
    · simp
  unfold elT; rw [List.length_append]; omega
theorem spec_ReferenceJoin_ev (q : Int) (a b : List S70) (ha : a.length ≤ 1000) (hb : b.length ≤ 1000) : Ev (fun k => spec_ReferenceJoin.f k q a b) (rfJ q a b) := by
  refine Ev.u (fun k => by rw [spec_ReferenceJoin.f]) ?_
  by_cases hq : inB q 1 4 = true
  · have L : ∀ (s : List S70) (i : Nat) (P : List S92), a.drop i = s → P.length + s.length * 1002 ≤ 1099511627776 → Ev (fun k => spec_ReferenceJoin.l0 k q P (i : Int) a b) (P ++ s.flatMap fun x => elT q b (x, false)) := by
      intro s
      induction s with
      | nil =>
        intro i P hd hP
        have := drop_nil' hd
        exact Ev.s (fun k => by rw [spec_ReferenceJoin.l0]) (Ev.e (by omega) (Ev.p.r (by simp)))
      | cons x s ih =>
        intro i P hd hP
        obtain ⟨hi, hd', hx, -⟩ := drop_cons' hd
        have hl := elT_len q b (x, false)
        rw [List.length_cons] at hP
        refine Ev.s (fun k => by rw [spec_ReferenceJoin.l0]) (Ev.t (by omega) (Ev.b (Ev.c (spec_IsValidJoinKind_eq q)) (Ev.t hq ?_)))
        refine Ev.t (by omega) ?_
        rw [rdR, hx, w64s hi (by omega)]
        refine Ev.b (spec_l7One_ev b (by omega) q (inB_iff.1 hq) x) (Ev.t (by omega) ?_)
        exact (ih (i + 1) _ hd' (by rw [List.length_append]; omega)).r (by rw [List.flatMap_cons, List.append_assoc])
    refine (L a 0 [] rfl (by simp; omega)).r ?_
    unfold rfJ; rw [if_pos hq]; rfl
  · have e : rfJ q a b = [] := by unfold rfJ; rw [if_neg hq]
    rw [e]
    refine Ev.s (fun k => by rw [spec_ReferenceJoin.l0]) ?_
    exact Ev.i (fun _ => Ev.b (Ev.c (spec_IsValidJoinKind_eq q)) (Ev.e hq Ev.p)) (fun _ => Ev.p)
theorem rfJ_len (q : Int) (a b : List S70) (ha : a.length ≤ 1000) (hb : b.length ≤ 1000) : (rfJ q a b).length ≤ 1002000 := by
  unfold rfJ
  split
  · have := flatMap_len (fun x : S70 => elT q b (x, false)) 1002 (fun x => by have := elT_len q b (x, false); omega) a
    omega
  · simp
theorem eqRows_refl (a : List S70) : eqRows a a = true := eqRows_iff.2 rfl
theorem spec_EqualTasks_ev (t : S44) (h : tsz t ≤ 1048576) : Ev (fun k => spec_EqualTasks.f k t.f0 t.f1 t.f2 t.f3 t.f4 t.f0 t.f1 t.f2 t.f3 t.f4) true := by
  unfold tsz at h
  have L : ∀ (s : List Bool) (i : Nat), t.f3.drop i = s → Ev (fun k => spec_EqualTasks.l0 k (i : Int) t.f0 t.f4 t.f0 t.f4 t.f1 t.f2 t.f3 t.f1 t.f2 t.f3) true := by
    intro s
    induction s with
    | nil =>
      intro i hd
      have := drop_nil' hd
      exact Ev.s (fun k => by rw [spec_EqualTasks.l0]) (Ev.e (by omega) Ev.p)
    | cons x s ih =>
      intro i hd
      obtain ⟨hi, hd', hx, -⟩ := drop_cons' hd
      refine Ev.s (fun k => by rw [spec_EqualTasks.l0]) (Ev.t (by omega) (Ev.t (by omega) (Ev.t (by omega) (Ev.t (by simp) ?_))))
      rw [w64s hi (by omega)]
      exact ih (i + 1) hd'
  exact Ev.u (fun _ => rfl) (Ev.t rfl (Ev.b ((spec_l6Rows_ev t.f1 t.f1 (by omega)).r (eqRows_refl _)) (Ev.t rfl (Ev.b ((spec_l6Rows_ev t.f2 t.f2 (by omega)).r (eqRows_refl _)) (Ev.t rfl (Ev.t rfl (Ev.t rfl (L t.f3 0 rfl))))))))
theorem big_eq (l : List Int) : laws_big.f l = some (decide ((l.length : Int) > 1048576)) := rfl

theorem l11Grant_ex (l : List Int) (p z : Int) (h : Rd l p) : ∃ g p' z', spec_l11Grant.f l p z = some (g, p', z') ∧ Rd l p' := by
  obtain ⟨b, p1, z1, e1, h1⟩ := l1Once_ex l p z 14 h (by omega)
  unfold spec_l11Grant.f
  rw [ob e1]
  cases b with
  | true =>
    obtain ⟨w, p3, z3, e3, -, h3⟩ := l1PickInt_ex l p1 z1 [7, 61] h1 (by simp) (by simp)
    dsimp only
    rw [if_pos rfl, ob e3]; exact ⟨_, _, _, rfl, h3⟩
  | false =>
    obtain ⟨w, p3, z3, e3, -, h3⟩ := l1PickInt_ex l p1 z1 [8, 8, 9, 12, 20, 60] h1 (by simp) (by simp)
    dsimp only
    rw [if_neg (by simp), ob e3]; exact ⟨_, _, _, rfl, h3⟩
theorem newT_sz (q : Int) (a b : List S70) : tsz (newT q a b) ≤ 72 := by
  by_cases h : nTk q a b = true
  · exact (newT_VT h).p
  · unfold newT; rw [if_neg h]; decide
theorem l16Draw_l0 (l : List Int) (c0 c4 d0 d4 : Int) (c1 c2 d1 d2 : List S70) (c3 : List Bool) : ∀ (m i : Nat) (F : List Bool) (p z : Int), Rd l p → F.length = i + m → F.length ≤ 1000 → ∃ F' p' z', Ev (fun k => spec_l16Draw.l0 k (i : Int) p z c0 c1 c2 c3 c4 d0 d1 d2 F d4 l) (d0, d1, d2, F', d4, p', z') ∧ F'.length = F.length ∧ Rd l p' := by
  intro m
  induction m with
  | zero =>
    intro i F p z h hF h1
    exact ⟨F, p, z, Ev.s (fun k => by rw [spec_l16Draw.l0]) (Ev.e (by omega) Ev.p), rfl, h⟩
  | succ m ih =>
    intro i F p z h hF h1
    obtain ⟨b, p1, z1, e1, r1⟩ := l1Once_ex l p z 4 h (by omega)
    obtain ⟨F', p', z', e, hl, hr⟩ := ih (i + 1) (F.set ((i : Int)).toNat b) p1 z1 r1 (by simp; omega) (by simp; omega)
    refine ⟨F', p', z', Ev.s (fun k => by rw [spec_l16Draw.l0]) (Ev.t (by omega) (Ev.t (by omega) (Ev.b (Ev.c e1) ?_))), by rw [hl]; simp, hr⟩
    rw [w64s (show i < F.length by omega) (by omega)]
    exact e
theorem l16Draw_ex (l : List Int) (p z n : Int) (h : Rd l p) (hn : 0 ≤ n ∧ n ≤ 24) : ∃ t : S44, ∃ p' z', Ev (fun k => spec_l16Draw.f k l p z n) (t.f0, t.f1, t.f2, t.f3, t.f4, p', z') ∧ tsz t ≤ 72 ∧ Rd l p' := by
  obtain ⟨A, p1, z1, e1, -, a1, h1⟩ := l2Rows_ex l p z n h (by omega)
  obtain ⟨v, p2, z2, e2, v0, v1, h2⟩ := l1Below_ex l p1 z1 4 h1 (by omega)
  obtain ⟨B, p3, z3, e3, -, a3, h3⟩ := l2Rows_ex l p2 z2 n h2 (by omega)
  have e4 := spec_NewTask_ev (wrap64 (1 + v)) A B (by omega) (by omega)
  have hs := newT_sz (wrap64 (1 + v)) A B
  generalize newT (wrap64 (1 + v)) A B = t at *
  obtain ⟨b, p5, z5, e5, h5⟩ := l1Once_ex l p3 z3 3 h3 (by omega)
  cases b with
  | true =>
    obtain ⟨w, p6, z6, e6, -, -, h6⟩ := l1Below_ex l p5 z5 5 h5 (by omega)
    obtain ⟨F, p7, z7, e7, hF, h7⟩ := l16Draw_l0 l 0 0 t.f0 w [] [] t.f1 t.f2 [] t.f3.length 0 t.f3 p6 z6 h6 (by omega) (by unfold tsz at hs; omega)
    refine ⟨⟨t.f0, t.f1, t.f2, F, w⟩, p7, z7, Ev.u (fun _ => rfl) (Ev.b e1 (Ev.b (Ev.c e2) (Ev.b e3 (Ev.b e4 (Ev.b (Ev.c e5) (Ev.t rfl (Ev.b (Ev.c e6) e7))))))), ?_, h7⟩
    unfold tsz at *; dsimp only; omega
  | false => exact ⟨t, p5, z5, Ev.u (fun _ => rfl) (Ev.b e1 (Ev.b (Ev.c e2) (Ev.b e3 (Ev.b e4 (Ev.b (Ev.c e5) (Ev.e (by simp) Ev.p)))))), hs, h5⟩
theorem l16Any_ex (l : List Int) (p z n : Int) (h : Rd l p) (hn : 0 ≤ n ∧ n ≤ 24) : ∃ t : S44, ∃ p' z', Ev (fun k => spec_l16Any.f k l p z n) (t.f0, t.f1, t.f2, t.f3, t.f4, p', z') ∧ tsz t ≤ 73 ∧ Rd l p' := by
  obtain ⟨t, p1, z1, e1, hs, h1⟩ := l16Draw_ex l p z n h hn
  obtain ⟨v, p2, z2, e2, -, -, h2⟩ := l1Below_ex l p1 z1 16 h1 (by omega)
  unfold tsz at hs
  by_cases k0 : v = 0
  · obtain ⟨w, p3, z3, e3, -, h3⟩ := l1PickInt_ex l p2 z2 [0, 5] h2 (by simp) (by simp)
    exact ⟨⟨w, t.f1, t.f2, t.f3, t.f4⟩, p3, z3, Ev.u (fun _ => rfl) (Ev.b e1 (Ev.b (Ev.c e2) (Ev.t k0 (Ev.b (Ev.c e3) Ev.p)))), by unfold tsz; dsimp only; omega, h3⟩
  by_cases k1 : v = 1
  · exact ⟨⟨t.f0, t.f1, t.f2, t.f3 ++ [true], t.f4⟩, p2, z2, Ev.u (fun _ => rfl) (Ev.b e1 (Ev.b (Ev.c e2) (Ev.e k0 (Ev.t k1 (Ev.t (by show t.f3.length < _; omega) Ev.p))))), by unfold tsz; simp; omega, h2⟩
  by_cases k2 : v = 2
  · obtain ⟨w, p3, z3, e3, -, h3⟩ := l1PickInt_ex l p2 z2 [-1, 5] h2 (by simp) (by simp)
    exact ⟨⟨t.f0, t.f1, t.f2, t.f3, w⟩, p3, z3, Ev.u (fun _ => rfl) (Ev.b e1 (Ev.b (Ev.c e2) (Ev.e k0 (Ev.e k1 (Ev.t k2 (Ev.b (Ev.c e3) Ev.p)))))), by unfold tsz; dsimp only; omega, h3⟩
  by_cases k3 : v = 3
  · obtain ⟨a, b, c, p3, z3, e3, h3⟩ := l2Any_ex l p2 z2 h2
    exact ⟨⟨t.f0, t.f1 ++ [⟨a, b, c⟩], t.f2, t.f3, t.f4⟩, p3, z3, Ev.u (fun _ => rfl) (Ev.b e1 (Ev.b (Ev.c e2) (Ev.e k0 (Ev.e k1 (Ev.e k2 (Ev.t k3 (Ev.t (by show t.f1.length < _; omega) (Ev.b (Ev.c e3) Ev.p)))))))), by unfold tsz; simp; omega, h3⟩
  exact ⟨t, p2, z2, Ev.u (fun _ => rfl) (Ev.b e1 (Ev.b (Ev.c e2) (Ev.e k0 (Ev.e k1 (Ev.e k2 (Ev.e k3 Ev.p)))))), by unfold tsz; omega, h2⟩
abbrev ttup4 (t : S44) : Int × List S70 × List S70 × List Bool × Int := (t.f0, t.f1, t.f2, t.f3, t.f4)
theorem DrawPartitionTask_ex (l : List Int) (hl : l.length ≤ 1048576) : ∃ t : S44, Ev (fun k => spec_DrawPartitionTask.f k l) (ttup4 t) ∧ tsz t ≤ 73 := by
  obtain ⟨z, e0⟩ := l1New_ev l hl
  obtain ⟨t, p1, z1, e1, ht, h1⟩ := l16Any_ex l 0 z 8 (Rd0 l hl) (by omega)
  exact ⟨t, Ev.u (fun _ => rfl) (Ev.b e0 (Ev.b e1 Ev.p)), ht⟩
theorem DrawNeedsNestedLoop_ex (l : List Int) (hl : l.length ≤ 1048576) : ∃ t : S44, Ev (fun k => spec_DrawNeedsNestedLoop.f k l) (ttup4 t) ∧ tsz t ≤ 73 := by
  obtain ⟨z, e0⟩ := l1New_ev l hl
  obtain ⟨t, p1, z1, e1, ht, h1⟩ := l16Any_ex l 0 z 4 (Rd0 l hl) (by omega)
  exact ⟨t, Ev.u (fun _ => rfl) (Ev.b e0 (Ev.b e1 Ev.p)), ht⟩
theorem DrawPartitionDepth_ex (l : List Int) (hl : l.length ≤ 1048576) : ∃ t : S44, ∃ g, Ev (fun k => spec_DrawPartitionDepth.f k l) (t.f0, t.f1, t.f2, t.f3, t.f4, g) ∧ tsz t ≤ 73 := by
  obtain ⟨z, e0⟩ := l1New_ev l hl
  obtain ⟨t, p1, z1, e1, ht, h1⟩ := l16Any_ex l 0 z 12 (Rd0 l hl) (by omega)
  obtain ⟨g, p2, z2, e2, -⟩ := l11Grant_ex l p1 z1 h1
  exact ⟨t, g, Ev.u (fun _ => rfl) (Ev.b e0 (Ev.b e1 (Ev.b (Ev.c e2) Ev.p))), ht⟩
theorem part_f1 {t : S44} (h : VT t) : (part0 t).f1 = t.f1.filter (hb t.f4) ∧ (part1 t).f1 = t.f1.filter fun x => !hb t.f4 x := by
  have e := zl_fst h.len
  constructor
  · rw [← e, List.filter_map]; rfl
  · rw [← e, List.filter_map]; rfl
theorem rfJ_part {t : S44} (h : VT t) : (rfJ t.f0 (part0 t).f1 (part0 t).f2 ++ rfJ t.f0 (part1 t).f1 (part1 t).f2).Perm (rfJ t.f0 t.f1 t.f2) := by
  obtain ⟨e0, e1⟩ := part_f1 h
  have hq : inB t.f0 1 4 = true := inB_iff.2 h.kind
  unfold rfJ
  rw [if_pos hq, if_pos hq, if_pos hq, e0, e1]
  have f0 : ((t.f1.filter (hb t.f4)).flatMap fun x => elT t.f0 (part0 t).f2 (x, false)) = (t.f1.filter (hb t.f4)).flatMap fun x => elT t.f0 t.f2 (x, false) := by
    refine fm_congr fun x hx => elT_flt _ _ _ _ (flt_spl (v := t.f4) _ _ fun r hr => ?_)
    have := (List.mem_filter.1 hx).2
    unfold hb at this ⊢; rw [hr]; exact this
  have f1 : ((t.f1.filter fun x => !hb t.f4 x).flatMap fun x => elT t.f0 (part1 t).f2 (x, false)) = (t.f1.filter fun x => !hb t.f4 x).flatMap fun x => elT t.f0 t.f2 (x, false) := by
    refine fm_congr fun x hx => elT_flt _ _ _ _ (flt_spl (v := t.f4) _ _ fun r hr => ?_)
    have := (List.mem_filter.1 hx).2
    unfold hb at this ⊢; rw [hr]; exact this
  rw [f0, f1]
  exact fm_split _ _ _

theorem pure_FnPartitioning (l0 : List Int) (G0 : (l0.length ≤ maxLen ∧ ∀ y ∈ l0, (Lit.int .u8 y).wf = true)) : ∃ k, laws_FnPartitioning.f k l0 = some true := by
  refine Ev.ex ?_
  by_cases s0 : (l0.length : Int) > 1048576
  · exact Ev.u (fun _ => rfl) (Ev.b (Ev.c (big_eq l0)) (Ev.t (by simpa using s0) Ev.p))
  obtain ⟨T, ed, hT⟩ := DrawPartitionTask_ex l0 (by omega)
  obtain ⟨U, eu, hU⟩ := DrawNeedsNestedLoop_ex l0 (by omega)
  obtain ⟨W, g, ew, hW⟩ := DrawPartitionDepth_ex l0 (by omega)
  have ei := impl_PartitionTask_ev T (by omega)
  have es := spec_PartitionTask_ev T (by omega)
  have z := pT_sz T
  have q1 := spec_EqualTasks_ev (pT0 T) (by omega)
  have q2 := spec_EqualTasks_ev (pT1 T) (by omega)
  have n1 := impl_NeedsNestedLoop_ev U (by omega)
  have n2 := spec_NeedsNestedLoop_ev U (by omega)
  obtain ⟨r, r0, r4, d2, d1⟩ := pDepth g 4 W (by omega) (by omega) (fun h => by have := (vTask_iff.1 h).level; omega)
  have c1 := impl_TaskCost_ev T (by omega)
  have c2 := spec_TaskCost_ev T (by omega)
  refine Ev.u (fun _ => rfl) (Ev.b (Ev.c (big_eq l0)) (Ev.e (by simpa using s0) (Ev.b ed (Ev.b ei (Ev.b es (Ev.b eu (Ev.b ew (Ev.t (by simp) (Ev.b q1 (Ev.t rfl (Ev.b q2 (Ev.t rfl ?_))))))))))))
  refine Ev.b n1 (Ev.b n2 (Ev.t (by simp) (Ev.b d1 (Ev.b d2 (Ev.t rfl (Ev.b d1 (Ev.e (by omega) (Ev.b c1 (Ev.b c2 (Ev.t rfl ?_))))))))))
  refine Ev.i (fun h => ?_) (fun h => Ev.p.r ?_)
  · have h' : parts T = true := h
    have hp := h'
    unfold parts at hp
    rw [Bool.and_eq_true, decide_eq_true_iff] at hp
    have hV := vTask_iff.1 hp.1
    obtain ⟨v0, v1⟩ := part_VT hV hp.2
    have e0 : pT0 T = part0 T := by rw [pT0, if_pos h']
    have e1 : pT1 T = part1 T := by rw [pT1, if_pos h']
    have b0 := v0.b; have b1 := v1.b; have b2 := hV.b
    have f0 := spec_ReferenceJoin_ev T.f0 T.f1 T.f2 (by omega) (by omega)
    have f1 := spec_ReferenceJoin_ev T.f0 (part0 T).f1 (part0 T).f2 (by omega) (by omega)
    have f2 := spec_ReferenceJoin_ev T.f0 (part1 T).f1 (part1 T).f2 (by omega) (by omega)
    have i0 := (impl_IsValidTask_ev (part0 T) (by have := v0.p; omega)).r (vTask_iff.2 v0)
    have i1 := (impl_IsValidTask_ev (part1 T) (by have := v1.p; omega)).r (vTask_iff.2 v1)
    have k0 := impl_TaskCost_ev (part0 T) (by have := v0.p; omega)
    have k1 := impl_TaskCost_ev (part1 T) (by have := v1.p; omega)
    have l0 := rfJ_len T.f0 (part0 T).f1 (part0 T).f2 (by omega) (by omega)
    have l1 := rfJ_len T.f0 (part1 T).f1 (part1 T).f2 (by omega) (by omega)
    have t0 := taskCost_b _ v0
    have t1 := taskCost_b _ v1
    have hs := (part_sum hV).2.2
    have q3 := EqualPairBags_ev _ _ (rfJ_part hV) (by rw [List.length_append]; omega)
    dsimp only [tup]
    rw [e0, e1]
    refine Ev.b f0 (Ev.b f1 (Ev.b f2 (Ev.b i0 (Ev.t rfl (Ev.b i1 (Ev.t rfl (Ev.b k0 (Ev.b k1 (Ev.b c1 (Ev.t ?_ (Ev.t ?_ (Ev.t ?_ (Ev.b q3 Ev.p)))))))))))))
    · rw [w64 (by omega) (by omega)]; exact hs
    · show (rfJ _ _ _).length ≤ _; omega
    · show (rfJ _ _ _).length + (rfJ _ _ _).length ≤ _; omega
  · have h' : ¬ parts T = true := h
    have e0 : pT0 T = z44 := by rw [pT0, if_neg h']
    have e1 : pT1 T = z44 := by rw [pT1, if_neg h']
    dsimp only [tup]
    rw [e0, e1]
    simp only [z44, List.length_nil]
    have e : wrap64 (wrap64 (wrap64 (((0 : Nat) : Int) + ((0 : Nat) : Int)) + ((0 : Nat) : Int)) + ((0 : Nat) : Int)) = 0 := by
      rw [w64 (x := ((0 : Nat) : Int) + ((0 : Nat) : Int)) (by omega) (by omega), w64 (x := ((0 : Nat) : Int) + ((0 : Nat) : Int) + ((0 : Nat) : Int)) (by omega) (by omega), w64 (by omega) (by omega)]; rfl
    exact decide_eq_true e

end Go.Proofs.Ytajjeemkdjfilaa.K
namespace Go.Proofs.Ytajjeemkdjfilaa.fnPartitioning
open Go Go.ChangeShapes Go.WideShapes Go.ChangeAt Go.RowKit Go.Proofs.Ytajjeemkdjfilaa.K
open Go.ChangeMaps (open_string shut_string)
set_option linter.unusedVariables false
theorem own : ownKnob Try.prog.godebug = none := by kernel_rfl
theorem laidOut : laidOutB Try.prog = true := by kernel_rfl
set_option maxRecDepth 100000 in
theorem lifted (os : Os) (started : os.Started) (H : Type) (enc : TypeId × Value → H) :
    ReturnsInHanded {} Try.checked os 6 .any (Rows.fnPartitioningSpec.pre6 enc Try.prog Try.f6 Rows.fnPartitioningRow.domain false) (Rows.fnPartitioningSpec.post enc Try.prog Try.f6 false true false false) := by
  refine returnsInHanded_of_change_sized (C := Try.checked) own started (by kernel_rfl) Try.func6
    (ChangeSpec.witness6 (enc := enc) (C := Try.checked) false ⟨#[], #[.slice none 0 0], []⟩ 8 (by kernel_rfl) (by kernel_rfl) (by kernel_rfl) (by kernel_rfl)) ?_
  intro W base args ds gs before hval0 hW hcnd hsz0 _
  have hsz : (DataW.weightsEach Try.prog (Try.f6.params.toList ++ Rows.fnPartitioningSpec.plain.varTypes Try.prog) (ds ++ gs)).all (· ≤ reachBytes) = true := hsz0
  have hval : ∀ (j : Nat) t v, Try.f6.params[j]? = some t → args[j]? = some v → Value.okWide Try.prog W .any base t v := hval0
  have hW' := hW
  obtain ⟨p, q, hA0, hV, rfl, hfz, hnd⟩ := hW
  have hA : DataW.TrodAll enc Try.prog W 0 (fun _ => true) true Try.f6.params.toList args.toList ds p := hA0
  rw [Try.params6] at hA hval hsz
  obtain ⟨v0, vs0, d0, ds0, p0, q0, hargs, rfl, rfl, h0, r0⟩ := trodAll_cons hA
  obtain ⟨rfl, rfl, rfl⟩ := trodAll_nil r0
  obtain rfl : args = #[v0] := by cases args; simp_all
  obtain ⟨rfl, rfl⟩ := trodVars_none hV
  have k0 := h0
  have lt0 : ∀ x ∈ p0, x.block < W.heap.size := by obtain ⟨m, hm⟩ := k0; exact DataW.trod_lt m _ _ _ hm
  obtain ⟨A0, len0, c0, rfl⟩ := okWide_slice Try.underlying22 (hval 0 22 v0 rfl rfl)
  obtain ⟨l0, rfl, F0, G0⟩ := slice_arg (opens_slice Try.underlying22 (by kernel_rfl) (by kernel_rfl) (opens_int Try.underlying5 (by kernel_rfl))) h0
  clear hA0 hval0 hsz0 hsz
  obtain ⟨k, hk⟩ := K.pure_FnPartitioning l0 G0
  refine (law_calls (laws_FnPartitioning.ok k l0 A0 c0 true hk) (facts_app F0 facts_nil)).mono fun e W' he => ?_
  obtain ⟨rfl, bel⟩ := he
  exact ⟨_, rfl, _, _, _, [], _, [], hW', trodAll_mk1 (shut_bool Try.underlying4 _), (trodAll_cons_mk (Below.trod laidOut (by kernel_rfl) (of_decide_eq_true (by kernel_rfl)) k0 bel lt0) trodAll_mk0), rfl, bel.frame _, fun h => by cases h⟩
theorem over : Rows.fnPartitioningRow.holds Try.pinned (OpenSpec.ofChange Rows.fnPartitioningSpec) :=
  OpenClaim.holds_of_wide 6 Try.f6 rfl rfl rfl rfl rfl rfl rfl ⟨rfl, rfl, rfl, rfl, rfl⟩ rfl rfl rfl rfl rfl (by kernel_rfl) Try.func6 (by kernel_rfl)
    (of_decide_eq_true (by kernel_rfl)) (by unfold Func.isWrapper; first | (rw [if_pos (by decide +kernel)]; kernel_rfl) | (rw [if_neg (by decide +kernel)]; exact ⟨rfl, rfl⟩))
    (fun os started H enc _ => lifted os started H enc)
theorem proved : Rows.FnPartitioningSaid := over
#print axioms proved
end Go.Proofs.Ytajjeemkdjfilaa.fnPartitioning
namespace Go.Proofs.Ytajjeemkdjfilaa
/-- The row, under a short name, for the claim. -/
theorem fnPartitioning_holds : Rows.FnPartitioningSaid := fnPartitioning.proved
end Go.Proofs.Ytajjeemkdjfilaa
