/- FnAggregatorMemory answers true at every input. -/
import Derived.Below
import Derived.Carry
import Derived.ChangeOld
import Derived.OpenShut
import Derived.ProofKit
import Derived.ShutString
import Derived.SizedLaws
import Derived.Test.YtgpencaijhbolaaChecked
import Derived.Test.YtgpencaijhbolaaRows
import Derived.WalkKit
import Derived.Test.YtgpencaijhbolaaVFnAggregatorMemoryc
namespace Go.Proofs.Ytgpencaijhbolaa.K
open Go Go.RowKit
set_option linter.unusedVariables false
set_option linter.unusedSimpArgs false
def Ev {α : Type} (f : Nat → Option α) (r : α) : Prop := ∃ K, ∀ k, K ≤ k → f k = some r
theorem Ev.p {α : Type} {r : α} : Ev (fun _ => some r) r := ⟨0, fun _ _ => rfl⟩
theorem Ev.c {α : Type} {o : Option α} {r : α} (h : o = some r) : Ev (fun _ => o) r := ⟨0, fun _ _ => h⟩
theorem Ev.b {α β : Type} {f : Nat → Option α} {g : Nat → α → Option β} {a : α} {r : β} (hf : Ev f a) (hg : Ev (fun k => g k a) r) : Ev (fun k => (f k).bind (g k)) r := by
  obtain ⟨K, h⟩ := hf; obtain ⟨L, h'⟩ := hg
  exact ⟨max K L, fun k hk => by show (f k).bind (g k) = some r; rw [h k (by omega)]; exact h' k (by omega)⟩
theorem Ev.t {α : Type} {p : Prop} [Decidable p] {f g : Nat → Option α} {r : α} (h : p) (hf : Ev f r) : Ev (fun k => if p then f k else g k) r := by
  obtain ⟨K, h'⟩ := hf
  exact ⟨K, fun k hk => by show (if p then f k else g k) = some r; rw [if_pos h]; exact h' k hk⟩
theorem Ev.e {α : Type} {p : Prop} [Decidable p] {f g : Nat → Option α} {r : α} (h : ¬ p) (hg : Ev g r) : Ev (fun k => if p then f k else g k) r := by
  obtain ⟨K, h'⟩ := hg
  exact ⟨K, fun k hk => by show (if p then f k else g k) = some r; rw [if_neg h]; exact h' k hk⟩
theorem Ev.i {α : Type} {p : Prop} [Decidable p] {f g : Nat → Option α} {r : α} (hf : p → Ev f r) (hg : ¬ p → Ev g r) : Ev (fun k => if p then f k else g k) r := by
  by_cases h : p
  · exact Ev.t h (hf h)
  · exact Ev.e h (hg h)
theorem Ev.s {α : Type} {L f : Nat → Option α} {r : α} (h : ∀ k, L (k + 1) = f k) (hf : Ev f r) : Ev L r := by
  obtain ⟨K, h'⟩ := hf
  refine ⟨K + 1, fun k hk => ?_⟩
  obtain ⟨m, rfl⟩ : ∃ m, k = m + 1 := ⟨k - 1, by omega⟩
  rw [h]; exact h' m (by omega)
theorem Ev.u {α : Type} {L f : Nat → Option α} {r : α} (h : ∀ k, L k = f k) (hf : Ev f r) : Ev L r := by
  obtain ⟨K, h'⟩ := hf
  exact ⟨K, fun k hk => by rw [h]; exact h' k hk⟩
theorem Ev.r {α : Type} {f : Nat → Option α} {r r' : α} (h : Ev f r) (e : r = r') : Ev f r' := e ▸ h
theorem Ev.r' {α : Type} {f g : Nat → Option α} {r r' : α} (h : Ev f r) (e1 : ∀ k, f k = g k) (e : r = r') : Ev g r' := by
  subst e; obtain ⟨K, h'⟩ := h
  exact ⟨K, fun k hk => by rw [← e1]; exact h' k hk⟩
theorem Ev.ex {α : Type} {f : Nat → Option α} {r : α} (h : Ev f r) : ∃ k, f k = some r := by
  obtain ⟨K, h'⟩ := h
  exact ⟨K, h' K (Nat.le_refl _)⟩
theorem drop_nil' {α : Type} {l : List α} {i : Nat} (h : l.drop i = []) : l.length ≤ i := List.drop_eq_nil_iff.1 h
theorem drop_cons' {α : Type} {l : List α} {i : Nat} {x : α} {t : List α} (h : l.drop i = x :: t) : i < l.length ∧ l.drop (i + 1) = t ∧ (∀ d, l.getD i d = x) ∧ l.length = i + 1 + t.length := by
  have hl := congrArg List.length h
  rw [List.length_drop, List.length_cons] at hl
  refine ⟨by omega, ?_, fun d => ?_, by omega⟩
  · rw [← List.drop_drop, h]; rfl
  · have : l[i]? = some x := by rw [← List.head?_drop, h]; rfl
    rw [List.getD_eq_getElem?_getD, this]; rfl
theorem w64 {x : Int} (h0 : -9223372036854775808 ≤ x) (h1 : x ≤ 9223372036854775807) : wrap64 x = x := by unfold wrap64; omega
theorem w64s {i n : Nat} (h : i < n) (hn : n ≤ 9223372036854775807) : wrap64 ((i : Int) + 1) = ((i + 1 : Nat) : Int) := by rw [w64 (by omega) (by omega)]; rfl
theorem maxLen_eq : maxLen = 9223372036854775807 := rfl
theorem wf64 {n : Int} (h : (Lit.int .i64 n).wf = true) : (-9223372036854775808 : Int) ≤ n ∧ n ≤ 9223372036854775807 := by
  simp [Lit.wf, IntKind.min, IntKind.max, IntKind.signed, IntKind.bits] at h
  exact h
theorem ob {α β : Type} {o : Option α} {a : α} {f : α → Option β} (h : o = some a) : o.bind f = f a := by subst h; rfl

def inB (n a b : Int) : Bool := decide (a ≤ n ∧ n ≤ b)
theorem within_eq (n a b : Int) : impl_within.f n a b = some (inB n a b) := by
  unfold impl_within.f inB; split <;> simp <;> omega
theorem l1In_eq (n a b : Int) : spec_l1In.f n a b = some (inB n a b) := by
  unfold spec_l1In.f inB; split <;> simp <;> omega
def vRow (a b c : Int) : Bool := inB a 0 9 && inB b 0 99 && inB c 0 3
theorem impl_IsValidRow_eq (a b c : Int) : impl_IsValidRow.f a b c = some (vRow a b c) := by
  unfold impl_IsValidRow.f vRow
  rw [within_eq, within_eq, within_eq, ob rfl]
  cases inB a 0 9
  · simp
  · rw [if_pos rfl, ob rfl]; cases inB b 0 99 <;> simp
theorem spec_IsValidRow_eq (a b c : Int) : spec_IsValidRow.f a b c = some (vRow a b c) := by
  unfold spec_IsValidRow.f vRow
  rw [l1In_eq, l1In_eq, l1In_eq, ob rfl]
  cases inB a 0 9
  · simp
  · rw [if_pos rfl, ob rfl]; cases inB b 0 99 <;> simp
def cRow (x : S75) : Int := if vRow x.f0 x.f1 x.f2 = true then 1 + x.f2 else 0
theorem cRow_b (x : S75) : 0 ≤ cRow x ∧ cRow x ≤ 4 := by
  unfold cRow
  by_cases h : vRow x.f0 x.f1 x.f2 = true
  · rw [if_pos h]; simp [vRow, inB] at h; omega
  · rw [if_neg h]; omega
theorem impl_RowCost_eq (x : S75) : impl_RowCost.f x.f0 x.f1 x.f2 = some (cRow x) := by
  unfold impl_RowCost.f cRow
  rw [impl_IsValidRow_eq, ob rfl]
  by_cases h : vRow x.f0 x.f1 x.f2 = true
  · rw [if_pos h, if_pos h]; simp [vRow, inB] at h; rw [w64 (by omega) (by omega)]
  · rw [if_neg h, if_neg h]
theorem spec_RowCost_eq (x : S75) : spec_RowCost.f x.f0 x.f1 x.f2 = some (cRow x) := by
  unfold spec_RowCost.f cRow
  rw [spec_IsValidRow_eq, ob rfl]
  by_cases h : vRow x.f0 x.f1 x.f2 = true
  · rw [if_pos h, if_pos h]; simp [vRow, inB] at h; rw [w64 (by omega) (by omega)]
  · rw [if_neg h, if_neg h]
def tCost (l : List S75) : Int := (l.map cRow).sum
theorem tCost_cons (x : S75) (l : List S75) : tCost (x :: l) = cRow x + tCost l := by simp [tCost]
theorem tCost_b : ∀ l : List S75, 0 ≤ tCost l ∧ tCost l ≤ 4 * l.length
  | [] => by simp [tCost]
  | x :: l => by have := tCost_b l; have := cRow_b x; rw [tCost_cons, List.length_cons]; omega
theorem rdR (l : List S75) (i : Nat) : rd_T75 l (i : Int) = l.getD i z75 := rfl
theorem impl_TotalCost_l0 (l : List S75) (hl : l.length ≤ 1152921504606846975) : ∀ (s : List S75) (i : Nat) (acc : Int), l.drop i = s → 0 ≤ acc → acc ≤ 4 * i → Ev (fun k => impl_TotalCost.l0 k acc (l.length : Int) (i : Int) l) (acc + tCost s) := by
  intro s
  induction s with
  | nil =>
    intro i acc hd h0 h1
    have := drop_nil' hd
    exact Ev.s (fun k => by rw [impl_TotalCost.l0]) (Ev.e (by omega) (Ev.p.r (by simp [tCost])))
  | cons x t ih =>
    intro i acc hd h0 h1
    obtain ⟨hi, hd', hx, -⟩ := drop_cons' hd
    have := cRow_b x
    refine Ev.s (fun k => by rw [impl_TotalCost.l0]) (Ev.t (by omega) (Ev.t (by omega) (Ev.t (by omega) ?_)))
    rw [rdR, hx]
    refine Ev.b (Ev.c (impl_RowCost_eq x)) ?_
    rw [w64s hi (by omega), w64 (by omega) (by omega)]
    exact (ih (i + 1) (acc + cRow x) hd' (by omega) (by omega)).r (by rw [tCost_cons]; omega)
theorem impl_TotalCost_ev (l : List S75) (hl : l.length ≤ 1152921504606846975) : Ev (fun k => impl_TotalCost.f k l) (tCost l) :=
  Ev.u (fun _ => rfl) ((impl_TotalCost_l0 l hl l 0 0 rfl (by omega) (by omega)).r (by omega))
theorem spec_TotalCost_l0 (l : List S75) (hl : l.length ≤ 1152921504606846975) : ∀ (s : List S75) (i : Nat) (acc : Int), l.drop i = s → 0 ≤ acc → acc ≤ 4 * i → Ev (fun k => spec_TotalCost.l0 k acc (i : Int) l) (acc + tCost s) := by
  intro s
  induction s with
  | nil =>
    intro i acc hd h0 h1
    have := drop_nil' hd
    exact Ev.s (fun k => by rw [spec_TotalCost.l0]) (Ev.e (by omega) (Ev.p.r (by simp [tCost])))
  | cons x t ih =>
    intro i acc hd h0 h1
    obtain ⟨hi, hd', hx, -⟩ := drop_cons' hd
    have := cRow_b x
    refine Ev.s (fun k => by rw [spec_TotalCost.l0]) (Ev.t (by omega) (Ev.t (by omega) ?_))
    rw [rdR, hx]
    refine Ev.b (Ev.c (spec_RowCost_eq x)) ?_
    rw [w64s hi (by omega), w64 (by omega) (by omega)]
    exact (ih (i + 1) (acc + cRow x) hd' (by omega) (by omega)).r (by rw [tCost_cons]; omega)
theorem spec_TotalCost_ev (l : List S75) (hl : l.length ≤ 1152921504606846975) : Ev (fun k => spec_TotalCost.f k l) (tCost l) :=
  Ev.u (fun _ => rfl) ((spec_TotalCost_l0 l hl l 0 0 rfl (by omega) (by omega)).r (by omega))
def vAll (l : List S75) : Bool := l.all fun x => vRow x.f0 x.f1 x.f2
theorem impl_allValid_l0 (l : List S75) (hl : l.length ≤ 1152921504606846975) : ∀ (s : List S75) (i : Nat), l.drop i = s → Ev (fun k => impl_allValid.l0 k (l.length : Int) (i : Int) l) (vAll s) := by
  intro s
  induction s with
  | nil =>
    intro i hd
    have := drop_nil' hd
    exact Ev.s (fun k => by rw [impl_allValid.l0]) (Ev.e (by omega) (Ev.p.r (by rfl)))
  | cons x t ih =>
    intro i hd
    obtain ⟨hi, hd', hx, -⟩ := drop_cons' hd
    refine Ev.s (fun k => by rw [impl_allValid.l0]) (Ev.t (by omega) (Ev.t (by omega) (Ev.t (by omega) ?_)))
    rw [rdR, hx]
    refine Ev.b (Ev.c (impl_IsValidRow_eq ..)) (Ev.i (fun h => ?_) (fun h => ?_))
    · rw [w64s hi (by omega)]
      exact (ih (i + 1) hd').r (by simp [vAll, h])
    · exact Ev.p.r (by simp [vAll, h])
theorem impl_allValid_ev (l : List S75) (hl : l.length ≤ 1152921504606846975) : Ev (fun k => impl_allValid.f k l) (vAll l) :=
  Ev.u (fun _ => rfl) (impl_allValid_l0 l hl l 0 rfl)
def vRows (l : List S75) : Bool := vAll l && decide (l.length ≤ 24)
theorem impl_AreValidRows_ev (l : List S75) (hl : l.length ≤ 1152921504606846975) : Ev (fun k => impl_AreValidRows.f k l) (vRows l) :=
  Ev.u (fun _ => rfl) (Ev.i (fun h => Ev.b (impl_allValid_ev l hl) (Ev.p.r (by simp [vRows]; omega))) (fun h => Ev.p.r (by simp [vRows]; omega)))
theorem spec_AreValidRows_l0 (l : List S75) (hl : l.length ≤ 1152921504606846975) : ∀ (s : List S75) (i : Nat), l.drop i = s → Ev (fun k => spec_AreValidRows.l0 k (i : Int) l) (vAll s && decide (l.length ≤ 24)) := by
  intro s
  induction s with
  | nil =>
    intro i hd
    have := drop_nil' hd
    exact Ev.s (fun k => by rw [spec_AreValidRows.l0]) (Ev.e (by omega) (Ev.p.r (by simp [vAll]; omega)))
  | cons x t ih =>
    intro i hd
    obtain ⟨hi, hd', hx, -⟩ := drop_cons' hd
    refine Ev.s (fun k => by rw [spec_AreValidRows.l0]) (Ev.t (by omega) (Ev.t (by omega) ?_))
    rw [rdR, hx]
    refine Ev.b (Ev.c (spec_IsValidRow_eq ..)) (Ev.i (fun h => ?_) (fun h => ?_))
    · rw [w64s hi (by omega)]
      exact (ih (i + 1) hd').r (by simp [vAll, h])
    · exact Ev.p.r (by simp [vAll, h])
theorem spec_AreValidRows_ev (l : List S75) (hl : l.length ≤ 1152921504606846975) : Ev (fun k => spec_AreValidRows.f k l) (vRows l) :=
  Ev.u (fun _ => rfl) (spec_AreValidRows_l0 l hl l 0 rfl)
def eqRow (x y : S75) : Bool := x.f0 == y.f0 && (x.f1 == y.f1 && x.f2 == y.f2)
def eqRows (a b : List S75) : Bool := match a, b with
  | [], [] => true
  | x :: a, y :: b => eqRow x y && eqRows a b
  | _, _ => false
theorem eqRow_iff {x y : S75} : eqRow x y = true ↔ x = y := by
  obtain ⟨a, b, c⟩ := x; obtain ⟨d, e, f⟩ := y; simp [eqRow]
theorem eqRows_iff : ∀ {a b : List S75}, eqRows a b = true ↔ a = b
  | [], [] => by simp [eqRows]
  | x :: a, y :: b => by simp [eqRows, eqRow_iff, eqRows_iff]
  | [], y :: b => by simp [eqRows]
  | x :: a, [] => by simp [eqRows]
theorem eqRows_len {a b : List S75} (h : eqRows a b = true) : a.length = b.length := by rw [eqRows_iff.1 h]
theorem eqRows_ne {a b : List S75} (h : a.length ≠ b.length) : eqRows a b = false := by
  cases e : eqRows a b with
  | false => rfl
  | true => exact absurd (eqRows_len e) h
theorem spec_l6Rows_l0 (l m : List S75) (hl : l.length ≤ 1152921504606846975) (hm : l.length = m.length) : ∀ (s t : List S75) (i : Nat), l.drop i = s → m.drop i = t → Ev (fun k => spec_l6Rows.l0 k (i : Int) l m) (eqRows s t) := by
  intro s
  induction s with
  | nil =>
    intro t i hd he
    have := drop_nil' hd
    have ht : t = [] := by rw [← he]; exact List.drop_eq_nil_iff.2 (by omega)
    subst ht
    exact Ev.s (fun k => by rw [spec_l6Rows.l0]) (Ev.e (by omega) (Ev.p.r (by rfl)))
  | cons x s ih =>
    intro t i hd he
    obtain ⟨hi, hd', hx, -⟩ := drop_cons' hd
    cases t with
    | nil => have := drop_nil' he; omega
    | cons y t =>
      obtain ⟨hj, he', hy, -⟩ := drop_cons' he
      refine Ev.s (fun k => by rw [spec_l6Rows.l0]) (Ev.t (by omega) (Ev.t (by omega) (Ev.t (by omega) ?_)))
      rw [rdR, rdR, hx, hy]
      refine Ev.i (fun h => ?_) (fun h => ?_)
      · rw [w64s hi (by omega)]
        exact (ih t (i + 1) hd' he').r (by have h' : eqRow x y = true := h; simp [eqRows, h'])
      · exact Ev.p.r (by have h' : ¬ eqRow x y = true := h; simp [eqRows, h'])
theorem spec_l6Rows_ev (l m : List S75) (hl : l.length ≤ 1152921504606846975) : Ev (fun k => spec_l6Rows.f k l m) (eqRows l m) :=
  Ev.u (fun _ => rfl) (Ev.i (fun h => spec_l6Rows_l0 l m hl (by omega) l m 0 rfl rfl) (fun h => Ev.p.r (eqRows_ne (by omega)).symm))
theorem impl_clone_eq (l : List S75) (hl : l.length ≤ 5864062014805) : impl_clone.f l = some l := by
  unfold impl_clone.f; rw [if_pos hl]
def hBit (key level : Int) : Int := if inB level 0 3 && inB key 0 9 then andI (shrI (Int.tmod (key * 7) 16) level) 1 else 0
theorem spec_HashBit_eq (a b : Int) : spec_HashBit.f a b = some (hBit a b) := by
  unfold spec_HashBit.f hBit
  rw [l1In_eq, l1In_eq, ob rfl]
  by_cases h1 : inB b 0 3 = true
  · rw [if_pos h1, ob rfl]
    by_cases h2 : inB a 0 9 = true
    · rw [if_pos h2]; simp [inB] at h1 h2; rw [if_pos (by omega), w64 (by omega) (by omega)]; simp [inB]; omega
    · rw [if_neg h2]; simp at h2; simp [h2]
  · rw [if_neg h1]; simp at h1; simp [h1]
theorem impl_HashBit_eq (a b : Int) : impl_HashBit.f a b = some (hBit a b) := by
  unfold impl_HashBit.f hBit
  rw [within_eq, within_eq, ob rfl]
  by_cases h1 : inB b 0 3 = true
  · rw [if_pos h1, ob rfl]
    by_cases h2 : inB a 0 9 = true
    · rw [if_pos h2, Int.mul_comm]; simp [inB] at h1 h2; rw [if_pos (by omega), w64 (by omega) (by omega)]; simp [inB]; omega
    · rw [if_neg h2]; simp at h2; simp [h2]
  · rw [if_neg h1]; simp at h1; simp [h1]
def hb (level : Int) (x : S75) : Bool := hBit x.f0 level == 0
def spl0 (level : Int) (l : List S75) : List S75 := l.filter (hb level)
def spl1 (level : Int) (l : List S75) : List S75 := l.filter fun x => !hb level x
theorem impl_SplitByHashBit_l0 (l : List S75) (v : Int) (hl : l.length ≤ 1099511627776) : ∀ (s : List S75) (i : Nat) (a b : List S75), l.drop i = s → a.length ≤ i → b.length ≤ i → Ev (fun k => impl_SplitByHashBit.l0 k v a b (l.length : Int) (i : Int) l) (a ++ spl0 v s, b ++ spl1 v s) := by
  intro s
  induction s with
  | nil =>
    intro i a b hd ha hb
    have := drop_nil' hd
    exact Ev.s (fun k => by rw [impl_SplitByHashBit.l0]) (Ev.e (by omega) (Ev.p.r (by simp [spl0, spl1])))
  | cons x t ih =>
    intro i a b hd ha hbb
    obtain ⟨hi, hd', hx, -⟩ := drop_cons' hd
    refine Ev.s (fun k => by rw [impl_SplitByHashBit.l0]) (Ev.t (by omega) (Ev.t (by omega) (Ev.t (by omega) ?_)))
    rw [rdR, hx, w64s hi (by omega)]
    refine Ev.b (Ev.c (impl_HashBit_eq ..)) (Ev.i (fun h => ?_) (fun h => ?_))
    · exact Ev.t (by omega) ((ih (i + 1) _ _ hd' (by simp; omega) (by omega)).r (by simp [spl0, spl1, hb, h]))
    · exact Ev.t (by omega) ((ih (i + 1) _ _ hd' (by omega) (by simp; omega)).r (by simp [spl0, spl1, hb, h]))
theorem impl_SplitByHashBit_ev (l : List S75) (v : Int) (hl : l.length ≤ 1099511627776) : Ev (fun k => impl_SplitByHashBit.f k l v) (spl0 v l, spl1 v l) :=
  Ev.u (fun _ => rfl) (impl_SplitByHashBit_l0 l v hl l 0 [] [] rfl (by simp) (by simp))
theorem spec_SplitByHashBit_l0 (l : List S75) (v : Int) (hl : l.length ≤ 1099511627776) : ∀ (s : List S75) (i : Nat) (a b : List S75), l.drop i = s → a.length ≤ i → b.length ≤ i → Ev (fun k => spec_SplitByHashBit.l0 k v a b (i : Int) l) (a ++ spl0 v s, b ++ spl1 v s) := by
  intro s
  induction s with
  | nil =>
    intro i a b hd ha hb
    have := drop_nil' hd
    exact Ev.s (fun k => by rw [spec_SplitByHashBit.l0]) (Ev.e (by omega) (Ev.p.r (by simp [spl0, spl1])))
  | cons x t ih =>
    intro i a b hd ha hbb
    obtain ⟨hi, hd', hx, -⟩ := drop_cons' hd
    refine Ev.s (fun k => by rw [spec_SplitByHashBit.l0]) (Ev.t (by omega) (Ev.t (by omega) ?_))
    rw [rdR, hx, w64s hi (by omega)]
    refine Ev.b (Ev.c (spec_HashBit_eq ..)) (Ev.i (fun h => ?_) (fun h => ?_))
    · exact Ev.t (by omega) ((ih (i + 1) _ _ hd' (by simp; omega) (by omega)).r (by simp [spl0, spl1, hb, h]))
    · exact Ev.t (by omega) ((ih (i + 1) _ _ hd' (by omega) (by simp; omega)).r (by simp [spl0, spl1, hb, h]))
theorem spec_SplitByHashBit_ev (l : List S75) (v : Int) (hl : l.length ≤ 1099511627776) : Ev (fun k => spec_SplitByHashBit.f k l v) (spl0 v l, spl1 v l) :=
  Ev.u (fun _ => rfl) (spec_SplitByHashBit_l0 l v hl l 0 [] [] rfl (by simp) (by simp))
def same (l : List S75) : Bool := l.all fun x => x.f0 == (l.getD 0 z75).f0
theorem setP {α : Type} (pre : List α) (x y : α) (t : List α) : (pre ++ x :: t).set ((pre.length : Int)).toNat y = pre ++ y :: t := by
  rw [Int.toNat_natCast, List.set_append_right _ _ (Nat.le_refl _), Nat.sub_self]; rfl
theorem getP {α : Type} (pre : List α) (x d : α) (t : List α) : (pre ++ x :: t).getD ((pre.length : Int)).toNat d = x := by
  rw [Int.toNat_natCast, List.getD_eq_getElem?_getD, List.getElem?_append_right (Nat.le_refl _), Nat.sub_self]; rfl
theorem rdI (l : List Int) (i : Nat) : rdOf 0 l (i : Int) = l.getD i 0 := rfl
theorem rdPGroup (pre : List S49) (x : S49) (t : List S49) : rd_T49 (pre ++ x :: t) (pre.length : Int) = x := getP pre x z49 t
theorem vRows_len {l : List S75} (h : vRows l = true) : l.length ≤ 24 := by
  unfold vRows at h; rw [Bool.and_eq_true] at h; exact of_decide_eq_true h.2
theorem vRows_iff {l : List S75} : vRows l = true ↔ vAll l = true ∧ l.length ≤ 24 := by unfold vRows; rw [Bool.and_eq_true, decide_eq_true_iff]
theorem tCost_app (a b : List S75) : tCost (a ++ b) = tCost a + tCost b := by simp [tCost]
theorem sum_mem {α : Type} (f : α → Nat) : ∀ {l : List α} {x : α}, x ∈ l → f x ≤ (l.map f).sum
  | y :: l, x, h => by
    rcases List.mem_cons.1 h with h | h
    · subst h; simp
    · have := sum_mem f h; simp; omega
theorem flt_sum {α : Type} (f : α → Int) (p : α → Bool) : ∀ l : List α, ((l.filter p).map f).sum + ((l.filter fun x => !p x).map f).sum = (l.map f).sum
  | [] => by simp
  | x :: l => by
    have := flt_sum f p l
    cases h : p x <;> simp [h] <;> omega
theorem rdGT (l : List S64) (i : Nat) : rd_T64 l (i : Int) = l.getD i z64 := rfl
def asz (a : S54) : Nat := a.f0.length + (a.f0.map fun t => t.f0.length).sum
theorem asz_mem {a : S54} {t : S64} (h : t ∈ a.f0) : t.f0.length ≤ asz a := by have := sum_mem (fun t : S64 => t.f0.length) h; unfold asz; omega
def newA (l : List S75) (e : Bool) : S54 := if vRows l = true then ⟨[⟨l, 0⟩], 0, e⟩ else ⟨[], 0, false⟩
theorem spec_NewAggregator_ev (l : List S75) (e : Bool) (hl : l.length ≤ 1099511627776) : Ev (fun k => spec_NewAggregator.f k l e) ((newA l e).f0, (newA l e).f1, (newA l e).f2, vRows l) := by
  unfold newA
  refine Ev.u (fun _ => rfl) (Ev.b (spec_AreValidRows_ev l (by omega)) (Ev.i (fun h => ?_) (fun h => Ev.p.r (by simp [h]))))
  exact Ev.t (by omega) (Ev.p.r (by simp [h]))
theorem newA_sz (l : List S75) (e : Bool) : asz (newA l e) ≤ 25 := by
  unfold newA
  split
  · rename_i h; have := vRows_len h; simp [asz]; omega
  · simp [asz]

def dk (acc : List Int) : List S75 → List Int
  | [] => acc
  | x :: s => dk (if acc.contains x.f0 = true then acc else acc ++ [x.f0]) s
theorem dk_len : ∀ (s : List S75) (acc : List Int), (dk acc s).length ≤ acc.length + s.length
  | [], acc => by simp [dk]
  | x :: s, acc => by
    rw [dk]
    refine Nat.le_trans (dk_len s _) ?_
    split <;> simp <;> omega
theorem mGet_set {β : Type} : ∀ (m : List (Int × β)) (q : Int) (v : β) (z : Int), mGet (mSet m q v) z = bif q == z then some v else mGet m z
  | [], q, v, z => by
    cases h : q == z <;> simp only [mSet, mGet, h, cond_true, cond_false]
  | p :: r, q, v, z => by
    have ih := mGet_set r q v z
    cases hq : p.1 == q
    · cases h : p.1 == z
      · simp only [mSet, mGet, hq, h, cond_false, ih]
      · have e : (q == z) = false := by
          rw [beq_eq_false_iff_ne] at hq ⊢
          rw [beq_iff_eq] at h
          omega
        simp only [mSet, mGet, hq, h, cond_true, cond_false, e]
    · rw [beq_iff_eq] at hq
      cases h : q == z
      · simp only [mSet, mGet, hq, h, beq_self_eq_true, cond_true, cond_false]
      · simp only [mSet, mGet, hq, h, beq_self_eq_true, cond_true]
theorem impl_DistinctKeys_l0 (l : List S75) (hl : l.length ≤ 1099511627776) : ∀ (s : List S75) (i : Nat) (acc : List Int) (m : List (Int × Bool)), l.drop i = s → acc.length ≤ i → (∀ q, (mGet m q).getD false = acc.contains q) → Ev (fun k => impl_DistinctKeys.l0 k acc m (l.length : Int) (i : Int) l) (dk acc s) := by
  intro s
  induction s with
  | nil =>
    intro i acc m hd ha hm
    have := drop_nil' hd
    exact Ev.s (fun k => by rw [impl_DistinctKeys.l0]) (Ev.e (by omega) (Ev.p.r (by rfl)))
  | cons x t ih =>
    intro i acc m hd ha hm
    obtain ⟨hi, hd', hx, -⟩ := drop_cons' hd
    refine Ev.s (fun k => by rw [impl_DistinctKeys.l0]) (Ev.t (by omega) (Ev.t (by omega) (Ev.t (by omega) ?_)))
    rw [rdR, hx, w64s hi (by omega), hm, dk]
    refine Ev.i (fun h => ?_) (fun h => Ev.t (by omega) ?_)
    · rw [if_pos h]; exact ih (i + 1) acc m hd' (by omega) hm
    · rw [if_neg h]
      refine ih (i + 1) (acc ++ [x.f0]) (mSet m x.f0 true) hd' (by simp; omega) (fun q => ?_)
      rw [mGet_set]
      by_cases hq : x.f0 = q
      · simp [hq]
      · have : ¬ q = x.f0 := by omega
        rw [beq_eq_false_iff_ne.2 hq, cond_false, hm q]; simp [this]
theorem impl_DistinctKeys_ev (l : List S75) (hl : l.length ≤ 1099511627776) : Ev (fun k => impl_DistinctKeys.f k l) (dk [] l) :=
  Ev.u (fun _ => rfl) (impl_DistinctKeys_l0 l hl l 0 [] [] rfl (by simp) (fun q => by simp [mGet]))
theorem spec_DistinctKeys_l1 (l : List S75) (hl : l.length ≤ 1099511627776) (acc : List Int) (ha : acc.length ≤ 1099511627776) (i : Nat) (hi : i < l.length) (x : S75) (hx : ∀ d, l.getD i d = x) (r : List Int) : ∀ (s : List Int) (j : Nat) (b : Bool), acc.drop j = s → j ≤ acc.length →
    Ev (fun k => spec_DistinctKeys.l0 k (if (b || s.contains x.f0) = true then acc else acc ++ [x.f0]) ((i + 1 : Nat) : Int) l) r → Ev (fun k => spec_DistinctKeys.l1 k acc (i : Int) b (j : Int) l) r := by
  intro s
  induction s with
  | nil =>
    intro j b hd hj h
    have := drop_nil' hd
    refine Ev.s (fun k => by rw [spec_DistinctKeys.l1]) (Ev.e (by omega) ?_)
    rw [w64s hi (by omega)]
    refine Ev.i (fun hb => ?_) (fun hb => Ev.t (by omega) (Ev.t (by omega) (Ev.t (by omega) ?_)))
    · simpa [hb] using h
    · rw [rdR, hx]
      simpa [hb] using h
  | cons y t ih =>
    intro j b hd hj h
    obtain ⟨hj', hd', hy, -⟩ := drop_cons' hd
    refine Ev.s (fun k => by rw [spec_DistinctKeys.l1]) (Ev.t (by omega) ?_)
    rw [w64s hj' (by omega)]
    refine Ev.i (fun hb => ?_) (fun hb => Ev.t (by omega) (Ev.t (by omega) (Ev.t (by omega) ?_)))
    · exact ih (j + 1) true hd' (by omega) (by simpa [hb] using h)
    · rw [rdR, hx, rdI, hy]
      have hb' : b = false := by simpa using hb
      subst hb'
      refine ih (j + 1) _ hd' (by omega) ?_
      have e : (decide (y = x.f0) || t.contains x.f0) = (false || (y :: t).contains x.f0) := by
        rw [List.contains_cons, Bool.false_or]
        congr 1
        by_cases hxy : y = x.f0
        · simp [hxy]
        · have : ¬ x.f0 = y := fun h => hxy h.symm
          simp [hxy, this]
      rw [e]; exact h
theorem spec_DistinctKeys_l0 (l : List S75) (hl : l.length ≤ 1099511627776) : ∀ (s : List S75) (i : Nat) (acc : List Int), l.drop i = s → acc.length ≤ i → Ev (fun k => spec_DistinctKeys.l0 k acc (i : Int) l) (dk acc s) := by
  intro s
  induction s with
  | nil =>
    intro i acc hd ha
    have := drop_nil' hd
    exact Ev.s (fun k => by rw [spec_DistinctKeys.l0]) (Ev.e (by omega) (Ev.p.r (by rfl)))
  | cons x t ih =>
    intro i acc hd ha
    obtain ⟨hi, hd', hx, -⟩ := drop_cons' hd
    refine Ev.s (fun k => by rw [spec_DistinctKeys.l0]) (Ev.t (by omega) ?_)
    refine spec_DistinctKeys_l1 l hl acc (by omega) i hi x hx _ acc 0 false rfl (by omega) ?_
    rw [dk, Bool.false_or]
    exact ih (i + 1) _ hd' (by split <;> (try simp only [List.length_append, List.length_cons, List.length_nil]) <;> omega)
theorem spec_DistinctKeys_ev (l : List S75) (hl : l.length ≤ 1099511627776) : Ev (fun k => spec_DistinctKeys.f k l) (dk [] l) :=
  Ev.u (fun _ => rfl) (spec_DistinctKeys_l0 l hl l 0 [] rfl (by simp))

theorem rdG (l : List S49) (i : Nat) : rd_T49 l (i : Int) = l.getD i z49 := rfl
def comb (h g : S49) : S49 := ⟨h.f0, wrap64 (h.f1 + g.f1), wrap64 (h.f2 + g.f2), mn h.f3 g.f3, mx h.f4 g.f4⟩
def ins (g : S49) : List S49 → List S49
  | [] => [g]
  | h :: t => if h.f0 < g.f0 then h :: ins g t else if h.f0 = g.f0 then comb h g :: t else g :: h :: t
def mgs (acc : List S49) (l : List S49) : List S49 := l.foldl (fun a g => ins g a) acc
def upd (g : S49) : List S49 → List S49
  | [] => [g]
  | h :: t => if h.f0 = g.f0 then comb h g :: t else h :: upd g t
def upds (acc : List S49) (l : List S49) : List S49 := l.foldl (fun a g => upd g a) acc
theorem ins_len (g : S49) : ∀ l, (ins g l).length ≤ l.length + 1
  | [] => by simp [ins]
  | h :: t => by
    have := ins_len g t
    rw [ins]; split
    · simp only [List.length_cons]; omega
    · split <;> simp
theorem upd_len (g : S49) : ∀ l, (upd g l).length ≤ l.length + 1
  | [] => by simp [upd]
  | h :: t => by
    have := upd_len g t
    rw [upd]; split <;> simp only [List.length_cons] <;> omega
theorem impl_CombineGroups_eq (h g : S49) (e : h.f0 = g.f0) : impl_CombineGroups.f h.f0 h.f1 h.f2 h.f3 h.f4 g.f0 g.f1 g.f2 g.f3 g.f4 = some ((comb h g).f0, (comb h g).f1, (comb h g).f2, (comb h g).f3, (comb h g).f4) := by
  unfold impl_CombineGroups.f; rw [if_pos e]; rfl
theorem spec_CombineGroups_eq (h g : S49) (e : h.f0 = g.f0) : spec_CombineGroups.f h.f0 h.f1 h.f2 h.f3 h.f4 g.f0 g.f1 g.f2 g.f3 g.f4 = some ((comb h g).f0, (comb h g).f1, (comb h g).f2, (comb h g).f3, (comb h g).f4) := by
  unfold spec_CombineGroups.f; rw [if_pos e]; rfl
theorem spec_MergeGroups_l1 (l : List S49) (hl : l.length ≤ 1099511627776) (i : Nat) (hi : i < l.length) (g : S49) (hg : ∀ d, l.getD i d = g) (r : List S49) : ∀ (s pre : List S49), pre.length + s.length ≤ 1099511627776 →
    Ev (fun k => spec_MergeGroups.l0 k (pre ++ ins g s) ((i + 1 : Nat) : Int) l) r → Ev (fun k => spec_MergeGroups.l1 k (pre ++ s) (i : Int) (pre.length : Int) l) r := by
  have J1 : ∀ (s pre : List S49), pre.length + s.length ≤ 1099511627776 → Ev (fun k => spec_MergeGroups.l0 k (pre ++ g :: s) ((i + 1 : Nat) : Int) l) r → Ev (fun k => spec_MergeGroups.j1 k (pre ++ s) (i : Int) (pre.length : Int) l) r := by
    intro s pre hp h
    refine Ev.s (fun k => by rw [spec_MergeGroups.j1]) (Ev.t (by omega) (Ev.t (by omega) (Ev.t (by omega) (Ev.t (by rw [List.length_append]; omega) ?_))))
    have e1 : (pre ++ s).take (pre.length : Int).toNat = pre := by simp
    have e2 : (pre ++ s).drop (pre.length : Int).toNat = s := by simp
    rw [e1, e2, rdG, hg, w64s hi (by omega)]
    refine Ev.t (by simp; omega) (Ev.t (by omega) (Ev.t (by simp; omega) ?_))
    exact h
  intro s
  induction s with
  | nil =>
    intro pre hp h
    rw [ins] at h
    refine Ev.s (fun k => by rw [spec_MergeGroups.l1]) (Ev.e (by simp) ?_)
    refine Ev.s (fun k => by rw [spec_MergeGroups.j0]) (Ev.e (by simp) ?_)
    exact J1 [] pre hp h
  | cons x t ih =>
    intro pre hp h
    rw [List.length_cons] at hp
    rw [ins] at h
    have hlt : pre.length < (pre ++ x :: t).length := by simp
    refine Ev.s (fun k => by rw [spec_MergeGroups.l1]) (Ev.t (by simp; omega) (Ev.t (by omega) (Ev.t (by omega) (Ev.t (by omega) ?_))))
    rw [rdG l i, hg, rdPGroup]
    refine Ev.i (fun q => ?_) (fun q => ?_)
    · rw [if_pos q] at h
      rw [show wrap64 ((pre.length : Int) + 1) = ((pre.length + 1 : Nat) : Int) by rw [w64 (by omega) (by omega)]; rfl]
      have := ih (pre ++ [x]) (by simp; omega) (by simpa using h)
      simpa using this
    · rw [if_neg q] at h
      refine Ev.s (fun k => by rw [spec_MergeGroups.j0]) (Ev.t (by simp; omega) (Ev.t (by omega) (Ev.t (by omega) (Ev.t (by omega) ?_))))
      rw [rdG l i, hg, rdPGroup, w64s hi (by omega)]
      refine Ev.i (fun q2 => ?_) (fun q2 => ?_)
      · rw [if_pos q2] at h
        exact Ev.b (Ev.c (spec_CombineGroups_eq x g q2)) (Ev.b (Ev.c (congrArg some (setP pre x (comb x g) t))) h)
      · rw [if_neg q2] at h
        exact J1 (x :: t) pre (by rw [List.length_cons]; omega) h
theorem spec_MergeGroups_l0 (l : List S49) (hl : l.length ≤ 1099511627776) : ∀ (s : List S49) (i : Nat) (acc : List S49), l.drop i = s → acc.length ≤ i → Ev (fun k => spec_MergeGroups.l0 k acc (i : Int) l) (mgs acc s) := by
  intro s
  induction s with
  | nil =>
    intro i acc hd ha
    have := drop_nil' hd
    exact Ev.s (fun k => by rw [spec_MergeGroups.l0]) (Ev.e (by omega) (Ev.p.r (by rfl)))
  | cons x t ih =>
    intro i acc hd ha
    obtain ⟨hi, hd', hx, -⟩ := drop_cons' hd
    refine Ev.s (fun k => by rw [spec_MergeGroups.l0]) (Ev.t (by omega) ?_)
    have := ins_len x acc
    have h := spec_MergeGroups_l1 l hl i hi x hx (mgs acc (x :: t)) acc [] (by simp; omega) (ih (i + 1) (ins x acc) hd' (by omega))
    exact h
theorem spec_MergeGroups_ev (l : List S49) (hl : l.length ≤ 1099511627776) : Ev (fun k => spec_MergeGroups.f k l) (mgs [] l) :=
  Ev.u (fun _ => rfl) (spec_MergeGroups_l0 l hl l 0 [] rfl (by simp))

def idx (q : Int) : List S49 → Option Int
  | [] => none
  | h :: t => if h.f0 = q then some 0 else (idx q t).map (· + 1)
theorem upd_cases (g : S49) : ∀ acc : List S49,
    (∃ pre h t, acc = pre ++ h :: t ∧ h.f0 = g.f0 ∧ idx g.f0 acc = some (pre.length : Int) ∧ upd g acc = pre ++ comb h g :: t ∧ ∀ z, idx z (upd g acc) = idx z acc) ∨
    (idx g.f0 acc = none ∧ upd g acc = acc ++ [g] ∧ ∀ z, idx z (upd g acc) = if z = g.f0 then some (acc.length : Int) else idx z acc)
  | [] => .inr ⟨rfl, rfl, fun z => by
      by_cases h : z = g.f0
      · simp [upd, idx, h]
      · have : ¬ g.f0 = z := fun e => h e.symm
        simp [upd, idx, h, this]⟩
  | h :: t => by
    by_cases e : h.f0 = g.f0
    · refine .inl ⟨[], h, t, rfl, e, by simp [idx, e], by simp [upd, e], fun z => ?_⟩
      simp only [upd, if_pos e]
      rfl
    · rcases upd_cases g t with ⟨pre, h', t', h1, h2, h3, h4, h5⟩ | ⟨h1, h2, h3⟩
      · refine .inl ⟨h :: pre, h', t', by rw [h1]; rfl, h2, ?_, ?_, fun z => ?_⟩
        · simp only [idx, if_neg e, h3, Option.map_some, List.length_cons]; rfl
        · simp only [upd, if_neg e, h4]; rfl
        · simp only [upd, if_neg e, idx, h5]
      · refine .inr ⟨by simp only [idx, if_neg e, h1, Option.map_none], by simp only [upd, if_neg e, h2]; rfl, fun z => ?_⟩
        simp only [upd, if_neg e, idx, h3]
        by_cases hz : z = g.f0
        · have : ¬ h.f0 = z := fun k => e (k.trans hz)
          simp only [if_pos hz, if_neg this, Option.map_some, List.length_cons]; rfl
        · simp only [if_neg hz]
theorem impl_MergeGroups_l0 (l : List S49) (hl : l.length ≤ 1099511627776) (r : List S49) : ∀ (s : List S49) (i : Nat) (acc : List S49) (m : List (Int × Int)), l.drop i = s → acc.length ≤ i → (∀ q, mGet m q = idx q acc) →
    Ev (fun k => slices_SortFunc_impl_Group_impl_Group_at83.f k (upds acc s)) r → Ev (fun k => impl_MergeGroups.l0 k acc m (l.length : Int) (i : Int) l) r := by
  intro s
  induction s with
  | nil =>
    intro i acc m hd ha hm h
    have := drop_nil' hd
    refine Ev.s (fun k => by rw [impl_MergeGroups.l0]) (Ev.e (by omega) ?_)
    exact Ev.b h Ev.p
  | cons x t ih =>
    intro i acc m hd ha hm h
    obtain ⟨hi, hd', hx, -⟩ := drop_cons' hd
    have hu : upds acc (x :: t) = upds (upd x acc) t := rfl
    rw [hu] at h
    refine Ev.s (fun k => by rw [impl_MergeGroups.l0]) (Ev.t (by omega) (Ev.t (by omega) (Ev.t (by omega) ?_)))
    rw [rdG l i, hx, w64s hi (by omega), hm x.f0]
    rcases upd_cases x acc with ⟨pre, h', t', h1, h2, h3, h4, h5⟩ | ⟨h1, h2, h3⟩
    · have hla : (acc.length : Int) = pre.length + t'.length + 1 := by rw [h1]; simp; omega
      rw [h3]
      refine Ev.t rfl (Ev.t (by simp) (Ev.t (by simp only [Option.getD_some]; omega) ?_))
      simp only [Option.getD_some]
      rw [h1, rdPGroup]
      refine Ev.b (Ev.c (impl_CombineGroups_eq h' x h2)) (Ev.b (Ev.c (congrArg some (setP pre h' (comb h' x) t'))) ?_)
      have e := ih (i + 1) (upd x acc) m hd' (by have := upd_len x acc; omega) (fun q => by rw [h5]; exact hm q) h
      rw [h4] at e
      exact e
    · rw [h1]
      refine Ev.e (by simp) (Ev.t (by omega) ?_)
      have e := ih (i + 1) (upd x acc) (mSet m x.f0 (acc.length : Int)) hd' (by have := upd_len x acc; omega) (fun q => by
        rw [mGet_set, h3]
        by_cases hq : q = x.f0
        · rw [if_pos hq, hq, beq_self_eq_true, cond_true]
        · rw [if_neg hq, beq_eq_false_iff_ne.2 (fun e => hq e.symm), cond_false]; exact hm q) h
      rw [h2] at e
      exact e
theorem impl_MergeGroups_ev (l : List S49) (hl : l.length ≤ 1099511627776) (r : List S49) (h : Ev (fun k => slices_SortFunc_impl_Group_impl_Group_at83.f k (upds [] l)) r) : Ev (fun k => impl_MergeGroups.f k l) r :=
  Ev.u (fun _ => rfl) (impl_MergeGroups_l0 l hl r l 0 [] [] rfl (by simp) (fun q => rfl) h)

def bub (x : S49) : List S49 → List S49 → List S49
  | [], q => x :: q
  | y :: rp, q => if x.f0 < y.f0 then bub x rp (y :: q) else (y :: rp).reverse ++ x :: q
def isr (P : List S49) (l : List S49) : List S49 := l.foldl (fun P x => bub x P.reverse []) P
theorem bub_len (x : S49) : ∀ rp q, (bub x rp q).length = rp.length + q.length + 1
  | [], q => by simp [bub]
  | y :: rp, q => by
    rw [bub]
    split
    · rw [bub_len x rp]; simp; omega
    · simp; omega
theorem ord_lt (a b : S49) : impl_MergeGroups_1.f a.f0 a.f1 a.f2 a.f3 a.f4 b.f0 b.f1 b.f2 b.f3 b.f4 = some (if a.f0 < b.f0 then -1 else if a.f0 > b.f0 then 1 else 0) := by
  unfold impl_MergeGroups_1.f impl_order.f
  split
  · rfl
  · split <;> rfl
theorem isort_l1 (a b : Int) (i : Nat) (hi : i ≤ 1099511627776) (x : S49) (ha : a = 0) (r : List S49) : ∀ (rp q suf : List S49), rp.length + q.length + suf.length ≤ 1099511627776 →
    Ev (fun k => slices_insertionSortCmpFunc_impl_Group_at83.l0 k (bub x rp q ++ suf) a b ((i + 1 : Nat) : Int)) r →
    Ev (fun k => slices_insertionSortCmpFunc_impl_Group_at83.l1 k (rp.reverse ++ x :: (q ++ suf)) a b (i : Int) (rp.length : Int)) r := by
  subst ha
  intro rp
  have ew : wrap64 ((i : Int) + 1) = ((i + 1 : Nat) : Int) := by rw [w64 (by omega) (by omega)]; rfl
  induction rp with
  | nil =>
    intro q suf hp h
    refine Ev.s (fun k => by rw [slices_insertionSortCmpFunc_impl_Group_at83.l1]) (Ev.e (by simp) ?_)
    rw [ew]
    exact h
  | cons y rp ih =>
    intro q suf hp h
    rw [List.length_cons] at hp
    have e1 : wrap64 (((y :: rp).length : Int) - 1) = (rp.length : Int) := by rw [List.length_cons, w64 (by omega) (by omega)]; omega
    have el : ((y :: rp).reverse ++ x :: (q ++ suf)) = rp.reverse ++ y :: x :: (q ++ suf) := by simp
    have r1 : rd_T49 (rp.reverse ++ y :: x :: (q ++ suf)) ((y :: rp).length : Int) = x := by
      have := rdPGroup (rp.reverse ++ [y]) x (q ++ suf)
      simpa using this
    have r2 : rd_T49 (rp.reverse ++ y :: x :: (q ++ suf)) (rp.length : Int) = y := by
      have := rdPGroup rp.reverse y (x :: (q ++ suf))
      simpa using this
    refine Ev.s (fun k => by rw [slices_insertionSortCmpFunc_impl_Group_at83.l1]) (Ev.t (by rw [List.length_cons]; omega) (Ev.t (by omega) (Ev.t (by simp; omega) ?_)))
    rw [e1, el, r1, r2, ew]
    refine Ev.t (by omega) (Ev.t (by simp; omega) (Ev.b (Ev.c (ord_lt x y)) ?_))
    by_cases hxy : x.f0 < y.f0
    · rw [bub, if_pos hxy] at h
      rw [if_pos hxy]
      have s1 : (rp.reverse ++ y :: x :: (q ++ suf)).set ((y :: rp).length : Int).toNat y = rp.reverse ++ y :: y :: (q ++ suf) := by simp
      have s2 : (rp.reverse ++ y :: y :: (q ++ suf)).set (rp.length : Int).toNat x = rp.reverse ++ x :: y :: (q ++ suf) := by simp
      refine Ev.t (by omega) (Ev.b (Ev.c (congrArg some s1)) (Ev.t (by simp; omega) (Ev.b (Ev.c (congrArg some s2)) ?_)))
      have e := ih (y :: q) suf (by rw [List.length_cons]; omega) h
      simpa using e
    · rw [bub, if_neg hxy] at h
      rw [if_neg hxy]
      refine Ev.e (by split <;> omega) ?_
      simpa using h
theorem isort_l0 (r : List S49) : ∀ (s P : List S49), P.length + s.length ≤ 1099511627776 → isr P s = r → P ≠ [] →
    Ev (fun k => slices_insertionSortCmpFunc_impl_Group_at83.l0 k (P ++ s) 0 ((P.length + s.length : Nat) : Int) (P.length : Int)) r := by
  intro s
  induction s with
  | nil =>
    intro P hp h _
    refine Ev.s (fun k => by rw [slices_insertionSortCmpFunc_impl_Group_at83.l0]) (Ev.e (by simp) (Ev.p.r ?_))
    rw [List.append_nil]; exact h
  | cons x t ih =>
    intro P hp h hP
    rw [List.length_cons] at hp
    refine Ev.s (fun k => by rw [slices_insertionSortCmpFunc_impl_Group_at83.l0]) (Ev.t (by rw [List.length_cons]; omega) ?_)
    have hb : (bub x P.reverse []).length = P.length + 1 := by rw [bub_len]; simp
    have e := ih (bub x P.reverse []) (by omega) h (by intro h0; rw [h0] at hb; simp at hb)
    have e' := isort_l1 0 ((P.length + (x :: t).length : Nat) : Int) P.length (by omega) x rfl r P.reverse [] t (by simp; omega) (by
      rw [hb] at e
      rw [List.length_cons]
      rw [show P.length + 1 + t.length = P.length + (t.length + 1) by omega] at e
      exact e)
    simpa using e'
/-! the sort gives the merged groups -/
def kle (a b : S49) : Prop := a.f0 ≤ b.f0
def klt (a b : S49) : Prop := a.f0 < b.f0
theorem bub_perm (x : S49) : ∀ rp q : List S49, (bub x rp q).Perm (x :: (rp ++ q))
  | [], q => List.Perm.refl _
  | y :: rp, q => by
    rw [bub]
    split
    · exact (bub_perm x rp (y :: q)).trans (List.Perm.cons x (List.perm_middle))
    · refine List.perm_middle.trans (List.Perm.cons x ?_)
      exact (List.reverse_perm _).append_right q
theorem bub_sorted (x : S49) : ∀ rp q : List S49, (rp.reverse ++ q).Pairwise kle → (∀ y ∈ q, x.f0 ≤ y.f0) → (bub x rp q).Pairwise kle
  | [], q, h, hq => by
    rw [bub]; exact List.pairwise_cons.2 ⟨fun y hy => hq y hy, by simpa using h⟩
  | y :: rp, q, h, hq => by
    rw [bub]
    have h' : (rp.reverse ++ y :: q).Pairwise kle := by simpa using h
    split
    · rename_i hxy
      refine bub_sorted x rp (y :: q) h' (fun z hz => ?_)
      rcases List.mem_cons.1 hz with hz | hz
      · subst hz; omega
      · exact hq z hz
    · rename_i hxy
      have h2 := List.pairwise_append.1 h
      refine List.pairwise_append.2 ⟨h2.1, List.pairwise_cons.2 ⟨fun z hz => hq z hz, h2.2.1⟩, fun a ha b hb => ?_⟩
      rcases List.mem_cons.1 hb with hb | hb
      · subst hb
        have hy : a.f0 ≤ y.f0 := by
          rw [List.reverse_cons] at ha
          rcases List.mem_append.1 ha with ha | ha
          · exact (List.pairwise_append.1 h').2.2 a ha y (List.mem_cons_self ..)
          · rw [List.mem_singleton.1 ha]; exact Int.le_refl _
        show a.f0 ≤ b.f0
        omega
      · exact h2.2.2 a ha b hb
theorem isr_ps : ∀ (l P : List S49), P.Pairwise kle → (isr P l).Pairwise kle ∧ (isr P l).Perm (P ++ l)
  | [], P, h => ⟨h, by simp [isr]⟩
  | x :: l, P, h => by
    have hb := bub_sorted x P.reverse [] (by simpa using h) (fun y hy => by simp at hy)
    have ih := isr_ps l (bub x P.reverse []) hb
    refine ⟨ih.1, ih.2.trans ?_⟩
    have p1 : (bub x P.reverse []).Perm (x :: P) := (bub_perm x P.reverse []).trans (by rw [List.append_nil]; exact (List.reverse_perm P).cons x)
    exact (p1.append_right l).trans List.perm_middle.symm
theorem ins_mem (g : S49) (P : Int → Prop) (hg : P g.f0) : ∀ l : List S49, (∀ x ∈ l, P x.f0) → ∀ x ∈ ins g l, P x.f0
  | [], _, x, hx => by rw [ins, List.mem_singleton] at hx; rw [hx]; exact hg
  | h :: t, hl, x, hx => by
    rw [ins] at hx
    split at hx
    · rcases List.mem_cons.1 hx with hx | hx
      · rw [hx]; exact hl h (List.mem_cons_self ..)
      · exact ins_mem g P hg t (fun y hy => hl y (List.mem_cons_of_mem _ hy)) x hx
    · split at hx
      · rcases List.mem_cons.1 hx with hx | hx
        · rw [hx]; exact hl h (List.mem_cons_self ..)
        · exact hl x (List.mem_cons_of_mem _ hx)
      · rcases List.mem_cons.1 hx with hx | hx
        · rw [hx]; exact hg
        · exact hl x hx
theorem ins_sorted (g : S49) : ∀ l : List S49, l.Pairwise klt → (ins g l).Pairwise klt
  | [], _ => by simp [ins]
  | h :: t, hp => by
    obtain ⟨h1, h2⟩ := List.pairwise_cons.1 hp
    rw [ins]
    split
    · rename_i hlt
      exact List.pairwise_cons.2 ⟨ins_mem g (fun v => h.f0 < v) hlt t h1, ins_sorted g t h2⟩
    · split
      · exact List.pairwise_cons.2 ⟨h1, h2⟩
      · refine List.pairwise_cons.2 ⟨fun y hy => ?_, hp⟩
        rcases List.mem_cons.1 hy with hy | hy
        · subst hy; show g.f0 < y.f0; omega
        · have : h.f0 < y.f0 := h1 y hy
          show g.f0 < y.f0; omega
theorem upd_absent (g : S49) : ∀ l : List S49, (∀ x ∈ l, x.f0 ≠ g.f0) → upd g l = l ++ [g]
  | [], _ => rfl
  | h :: t, hl => by
    rw [upd, if_neg (hl h (List.mem_cons_self ..)), upd_absent g t (fun x hx => hl x (List.mem_cons_of_mem _ hx))]; rfl
theorem ins_upd (g : S49) : ∀ l : List S49, l.Pairwise klt → (ins g l).Perm (upd g l)
  | [], _ => List.Perm.refl _
  | h :: t, hp => by
    obtain ⟨h1, h2⟩ := List.pairwise_cons.1 hp
    rw [ins]
    split
    · rename_i hlt
      rw [upd, if_neg (by omega)]
      exact (ins_upd g t h2).cons h
    · split
      · rename_i he
        rw [upd, if_pos he]
      · rename_i hn he
        rw [upd, if_neg he, upd_absent g t (fun x hx => by have : h.f0 < x.f0 := h1 x hx; omega)]
        exact (List.perm_append_singleton g (h :: t)).symm
def ks (l : List S49) : List Int := l.map (·.f0)
theorem upd_perm (g : S49) {a b : List S49} (h : a.Perm b) : (ks a).Nodup → (upd g a).Perm (upd g b) := by
  induction h with
  | nil => intro _; exact List.Perm.refl _
  | cons x p ih =>
    intro hn
    have hn' := (List.nodup_cons.1 hn).2
    rw [upd, upd]
    split
    · exact p.cons _
    · exact (ih hn').cons x
  | swap x y l =>
    intro hn
    have hxy : y.f0 ≠ x.f0 := by
      intro e
      have := (List.nodup_cons.1 hn).1
      apply this
      show y.f0 ∈ x.f0 :: ks l
      rw [e]; exact List.mem_cons_self ..
    by_cases h1 : y.f0 = g.f0
    · have h2 : ¬ x.f0 = g.f0 := by omega
      simp only [upd, if_pos h1, if_neg h2]
      exact List.Perm.swap _ _ _
    · by_cases h2 : x.f0 = g.f0
      · simp only [upd, if_neg h1, if_pos h2]
        exact List.Perm.swap _ _ _
      · simp only [upd, if_neg h1, if_neg h2]
        exact List.Perm.swap _ _ _
  | trans p q ih1 ih2 =>
    intro hn
    exact (ih1 hn).trans (ih2 ((p.map (fun x : S49 => x.f0)).nodup_iff.1 hn))
theorem klt_nodup {l : List S49} (h : l.Pairwise klt) : (ks l).Nodup := by
  unfold ks
  rw [List.nodup_iff_pairwise_ne]
  refine List.pairwise_map.2 (h.imp fun {a b} hab => ?_)
  have : a.f0 < b.f0 := hab
  omega
theorem sorted_eq : ∀ {a b : List S49}, a.Pairwise klt → b.Pairwise klt → a.Perm b → a = b
  | [], b, _, _, h => (List.nil_perm.1 h).symm
  | x :: a, [], _, _, h => by simp at h
  | x :: a, y :: b, ha, hb, h => by
    obtain ⟨a1, a2⟩ := List.pairwise_cons.1 ha
    obtain ⟨b1, b2⟩ := List.pairwise_cons.1 hb
    have e : x = y := by
      have hx : x ∈ y :: b := h.subset (List.mem_cons_self ..)
      have hy : y ∈ x :: a := h.symm.subset (List.mem_cons_self ..)
      rcases List.mem_cons.1 hx with hx | hx
      · exact hx
      rcases List.mem_cons.1 hy with hy | hy
      · exact hy.symm
      have k1 : y.f0 < x.f0 := b1 x hx
      have k2 : x.f0 < y.f0 := a1 y hy
      omega
    subst e
    rw [sorted_eq a2 b2 (List.Perm.cons_inv h)]
theorem mgs_upds : ∀ (l S A : List S49), S.Pairwise klt → S.Perm A → (mgs S l).Pairwise klt ∧ (mgs S l).Perm (upds A l)
  | [], S, A, h, p => ⟨h, p⟩
  | x :: l, S, A, h, p => mgs_upds l (ins x S) (upd x A) (ins_sorted x S h) ((ins_upd x S h).trans (upd_perm x p (klt_nodup h)))
theorem mgs_sorted (l : List S49) : (mgs [] l).Pairwise klt := (mgs_upds l [] [] List.Pairwise.nil (List.Perm.refl _)).1
theorem isr_eq (l : List S49) : isr [] (upds [] l) = mgs [] l := by
  have h1 := isr_ps (upds [] l) [] List.Pairwise.nil
  have h2 := mgs_upds l [] [] List.Pairwise.nil (List.Perm.refl _)
  have p : (isr [] (upds [] l)).Perm (mgs [] l) := h1.2.trans (by rw [List.nil_append]; exact h2.2.symm)
  refine sorted_eq ?_ h2.1 p
  have hn : (ks (isr [] (upds [] l))).Nodup := (p.map (fun x : S49 => x.f0)).nodup_iff.2 (klt_nodup h2.1)
  unfold ks at hn
  rw [List.nodup_iff_pairwise_ne] at hn
  have hn' := List.pairwise_map.1 hn
  refine (h1.1.and hn').imp fun {a b} hab => ?_
  have k1 : a.f0 ≤ b.f0 := hab.1
  have k2 : a.f0 ≠ b.f0 := hab.2
  show a.f0 < b.f0
  omega

theorem u64w {x : Int} (h0 : 0 ≤ x) (h1 : x ≤ 9223372036854775807) : IntKind.u64.wrap x = x := by
  simp [IntKind.wrap, IntKind.bits, IntKind.signed]; omega
theorem u8w (x : Int) : 0 ≤ IntKind.u8.wrap x ∧ IntKind.u8.wrap x < 256 := by
  simp [IntKind.wrap, IntKind.bits, IntKind.signed]; omega
set_option maxRecDepth 100000 in
theorem bits_Len_small (n : Nat) (h : n ≤ 12) : ∃ r, Ev (fun k => bits_Len.f k (IntKind.u64.wrap (n : Int))) r := by
  rw [u64w (by omega) (by omega)]
  have hb := u8w (n : Int)
  refine ⟨_, Ev.u (fun _ => rfl) (Ev.b (Ev.u (fun _ => rfl) (Ev.e (by omega) (Ev.s (fun k => by rw [bits_Len64.j0]) (Ev.e (by omega) (Ev.s (fun k => by rw [bits_Len64.j1]) (Ev.e (by omega) (Ev.s (fun k => by rw [bits_Len64.j2]) (Ev.t hb.1 (Ev.t ?_ Ev.p))))))))) Ev.p)⟩
  exact hb.2
theorem SortFunc_small (A : List S49) (h : A.length ≤ 12) : Ev (fun k => slices_SortFunc_impl_Group_impl_Group_at83.f k A) (isr [] A) := by
  obtain ⟨r, hr⟩ := bits_Len_small A.length h
  have e1 : wrap64 ((0 : Int) + 1) = 1 := w64 (by omega) (by omega)
  refine Ev.u (fun _ => rfl) (Ev.b hr (Ev.b ?_ Ev.p))
  refine Ev.s (fun k => by rw [slices_pdqsortCmpFunc_impl_Group_at83.f]) ?_
  refine Ev.s (fun k => by rw [slices_pdqsortCmpFunc_impl_Group_at83.l0]) ?_
  rw [w64 (x := (A.length : Int) - 0) (by omega) (by omega)]
  refine Ev.t (by omega) (Ev.b ?_ Ev.p)
  cases A with
  | nil =>
    refine Ev.u (fun k => by rw [slices_insertionSortCmpFunc_impl_Group_at83.f, e1]) ?_
    refine Ev.s (fun k => by rw [slices_insertionSortCmpFunc_impl_Group_at83.l0]) ?_
    exact Ev.e (by simp) (Ev.p.r (by rfl))
  | cons x t =>
    rw [List.length_cons] at h
    have e := isort_l0 (isr [x] t) t [x] (by simp; omega) rfl (by simp)
    refine Ev.u (fun k => by rw [slices_insertionSortCmpFunc_impl_Group_at83.f, e1]) ?_
    have e2 : (([x] : List S49).length + t.length) = (x :: t).length := by simp; omega
    rw [e2] at e
    exact e
theorem impl_MergeGroups_small (l : List S49) (hl : l.length ≤ 1099511627776) (h : (mgs [] l).length ≤ 12) : Ev (fun k => impl_MergeGroups.f k l) (mgs [] l) := by
  have p := (mgs_upds l [] [] List.Pairwise.nil (List.Perm.refl _)).2
  have e := SortFunc_small (upds [] l) (by rw [← p.length_eq]; exact h)
  rw [isr_eq] at e
  exact impl_MergeGroups_ev l hl _ e
theorem mgs_mem (P : Int → Prop) : ∀ (l S : List S49), (∀ x ∈ S, P x.f0) → (∀ x ∈ l, P x.f0) → ∀ x ∈ mgs S l, P x.f0
  | [], S, hS, _ => hS
  | x :: l, S, hS, hl => mgs_mem P l (ins x S) (ins_mem x P (hl x (List.mem_cons_self ..)) S hS) (fun y hy => hl y (List.mem_cons_of_mem _ hy))
theorem klt_len : ∀ (l : List S49) (a b : Int), l.Pairwise klt → (∀ x ∈ l, a ≤ x.f0 ∧ x.f0 ≤ b) → a ≤ b + 1 → (l.length : Int) ≤ b - a + 1
  | [], a, b, _, _, hab => by simp; omega
  | x :: l, a, b, h, hm, hab => by
    obtain ⟨h1, h2⟩ := List.pairwise_cons.1 h
    have hx := hm x (List.mem_cons_self ..)
    have := klt_len l (x.f0 + 1) b h2 (fun y hy => ⟨by have k : x.f0 < y.f0 := h1 y hy; omega, (hm y (List.mem_cons_of_mem _ hy)).2⟩) (by omega)
    rw [List.length_cons]; omega
theorem mgs_len (l : List S49) (h : ∀ x ∈ l, 0 ≤ x.f0 ∧ x.f0 ≤ 9) : (mgs [] l).length ≤ 10 := by
  have := klt_len (mgs [] l) 0 9 (mgs_sorted l) (mgs_mem (fun v => 0 ≤ v ∧ v ≤ 9) l [] (fun x hx => by simp at hx) h) (by omega)
  omega
def gfr (x : S75) : S49 := ⟨x.f0, 1, x.f1, x.f1, x.f1⟩
def rgs (l : List S75) : List S49 := mgs [] (l.map gfr)
theorem spec_ReferenceGroups_l0 (l : List S75) (hl : l.length ≤ 1099511627776) : ∀ (s : List S75) (i : Nat) (acc : List S49), l.drop i = s → i ≤ l.length → acc.length ≤ i → Ev (fun k => spec_ReferenceGroups.l0 k acc (i : Int) l) (mgs [] (acc ++ s.map gfr)) := by
  intro s
  induction s with
  | nil =>
    intro i acc hd hil ha
    have := drop_nil' hd
    refine Ev.s (fun k => by rw [spec_ReferenceGroups.l0]) (Ev.e (by omega) ?_)
    rw [List.map_nil, List.append_nil]
    exact Ev.b (spec_MergeGroups_ev acc (by omega)) Ev.p
  | cons x t ih =>
    intro i acc hd hil ha
    obtain ⟨hi, hd', hx, -⟩ := drop_cons' hd
    refine Ev.s (fun k => by rw [spec_ReferenceGroups.l0]) (Ev.t (by omega) (Ev.t (by omega) ?_))
    rw [rdR, hx, w64s hi (by omega)]
    refine Ev.b (Ev.c rfl) (Ev.t (by omega) ?_)
    have h := ih (i + 1) (acc ++ [gfr x]) hd' (by omega) (by simp; omega)
    rw [List.append_assoc] at h
    exact h
theorem spec_ReferenceGroups_ev (l : List S75) (hl : l.length ≤ 1099511627776) : Ev (fun k => spec_ReferenceGroups.f k l) (rgs l) :=
  Ev.u (fun _ => rfl) (spec_ReferenceGroups_l0 l hl l 0 [] rfl (by omega) (by simp))
theorem impl_ReferenceGroups_l0 (l : List S75) (hl : l.length ≤ 1099511627776) (hm : (rgs l).length ≤ 12) : ∀ (s : List S75) (i : Nat) (acc : List S49), l.drop i = s → i ≤ l.length → acc.length ≤ i → acc ++ s.map gfr = l.map gfr → Ev (fun k => impl_ReferenceGroups.l0 k acc (l.length : Int) (i : Int) l) (rgs l) := by
  intro s
  induction s with
  | nil =>
    intro i acc hd hil ha he
    have := drop_nil' hd
    refine Ev.s (fun k => by rw [impl_ReferenceGroups.l0]) (Ev.e (by omega) ?_)
    rw [List.map_nil, List.append_nil] at he
    subst he
    exact Ev.b (impl_MergeGroups_small (l.map gfr) (by omega) hm) Ev.p
  | cons x t ih =>
    intro i acc hd hil ha he
    obtain ⟨hi, hd', hx, -⟩ := drop_cons' hd
    refine Ev.s (fun k => by rw [impl_ReferenceGroups.l0]) (Ev.t (by omega) (Ev.t (by omega) (Ev.t (by omega) ?_)))
    rw [rdR, hx, w64s hi (by omega)]
    refine Ev.b (Ev.c rfl) (Ev.t (by omega) ?_)
    exact ih (i + 1) (acc ++ [gfr x]) hd' (by omega) (by simp; omega) (by rw [List.append_assoc]; exact he)
theorem impl_ReferenceGroups_ev (l : List S75) (hl : l.length ≤ 1099511627776) (hm : (rgs l).length ≤ 12) : Ev (fun k => impl_ReferenceGroups.f k l) (rgs l) :=
  Ev.u (fun _ => rfl) (impl_ReferenceGroups_l0 l hl hm l 0 [] rfl (by omega) (by simp) rfl)
theorem rgs_mem (l : List S75) (h : ∀ x ∈ l, 0 ≤ x.f0 ∧ x.f0 ≤ 9) : ∀ x ∈ l.map gfr, 0 ≤ x.f0 ∧ x.f0 ≤ 9 := by
  intro x hx
  obtain ⟨y, hy, rfl⟩ := List.mem_map.1 hx
  exact h y hy
theorem rgs_len (l : List S75) (h : ∀ x ∈ l, 0 ≤ x.f0 ∧ x.f0 ≤ 9) : (rgs l).length ≤ 10 := mgs_len _ (rgs_mem l h)
theorem ks_upd (g : S49) : ∀ acc : List S49, ks (upd g acc) = if (ks acc).contains g.f0 = true then ks acc else ks acc ++ [g.f0]
  | [] => by simp [ks, upd]
  | h :: t => by
    have ih := ks_upd g t
    rw [upd]
    by_cases e : h.f0 = g.f0
    · rw [if_pos e]
      have : (ks (h :: t)).contains g.f0 = true := by simp [ks, e]
      rw [if_pos this]; rfl
    · rw [if_neg e]
      have e' : ¬ g.f0 = h.f0 := fun k => e k.symm
      have hc : (ks (h :: t)).contains g.f0 = (ks t).contains g.f0 := by
        show (h.f0 :: ks t).contains g.f0 = _
        rw [List.contains_cons, beq_eq_false_iff_ne.2 e', Bool.false_or]
      rw [hc]
      show h.f0 :: ks (upd g t) = _
      rw [ih]
      split <;> rfl
theorem ks_upds : ∀ (l : List S75) (acc : List S49), ks (upds acc (l.map gfr)) = dk (ks acc) l
  | [], acc => rfl
  | x :: l, acc => by
    show ks (upds (upd (gfr x) acc) (l.map gfr)) = _
    rw [ks_upds l, ks_upd]; rfl
theorem rgs_dk (l : List S75) : (rgs l).length = (dk [] l).length := by
  have p := (mgs_upds (l.map gfr) [] [] List.Pairwise.nil (List.Perm.refl _)).2
  have e := ks_upds l []
  have e2 := congrArg List.length e
  have e3 : (ks (upds [] (l.map gfr))).length = (upds [] (l.map gfr)).length := List.length_map ..
  show (mgs [] (l.map gfr)).length = _
  rw [p.length_eq, ← e3, e2]; rfl

theorem impl_cloneAggregator_l0 (l : List S64) (hl : l.length ≤ 1048576) (ht : ∀ t ∈ l, t.f0.length ≤ 1048576) (w : Int) (e : Bool) (y0 : List S64) (y1 : Int) (y2 : Bool) : ∀ (s : List S64) (i : Nat) (a : List S64), l.drop i = s → a.length ≤ i → Ev (fun k => impl_cloneAggregator.l0 k a (l.length : Int) (i : Int) w e y0 y1 y2 l) (a ++ s, w, e) := by
  intro s
  induction s with
  | nil =>
    intro i a hd ha
    have := drop_nil' hd
    exact Ev.s (fun k => by rw [impl_cloneAggregator.l0]) (Ev.e (by omega) (Ev.p.r (by simp)))
  | cons x t ih =>
    intro i a hd ha
    obtain ⟨hi, hd', hx, -⟩ := drop_cons' hd
    have hm := ht x (List.mem_of_mem_drop (by rw [hd]; exact List.mem_cons_self ..))
    refine Ev.s (fun k => by rw [impl_cloneAggregator.l0]) (Ev.t (by omega) (Ev.t (by omega) (Ev.t (by omega) (Ev.t (by omega) ?_))))
    rw [rdGT, hx, w64s hi (by omega)]
    refine Ev.b (Ev.c (impl_clone_eq x.f0 (by omega))) ?_
    have h := ih (i + 1) (a ++ [x]) hd' (by simp; omega)
    rw [List.append_assoc] at h
    exact h
theorem impl_cloneAggregator_ev (a : S54) (h : asz a ≤ 1048576) : Ev (fun k => impl_cloneAggregator.f k a.f0 a.f1 a.f2) (a.f0, a.f1, a.f2) := by
  have hl : a.f0.length ≤ asz a := by unfold asz; omega
  exact Ev.u (fun _ => rfl) ((impl_cloneAggregator_l0 a.f0 (by omega) (fun t ht => by have := asz_mem ht; omega) a.f1 a.f2 [] 0 false a.f0 0 [] rfl (by simp)).r (by simp))
theorem spec_l22Copy_l0 (l : List S64) (hl : l.length ≤ 1048576) (ht : ∀ t ∈ l, t.f0.length ≤ 1048576) (u1 : Int) (u2 : Bool) (w : Int) (e : Bool) (y0 : List S64) (y1 : Int) (y2 : Bool) : ∀ (s : List S64) (i : Nat) (a : List S64), l.drop i = s → a.length ≤ i → Ev (fun k => spec_l22Copy.l0 k (i : Int) u1 u2 y0 y1 y2 a w e l) (a ++ s, w, e) := by
  intro s
  induction s with
  | nil =>
    intro i a hd ha
    have := drop_nil' hd
    exact Ev.s (fun k => by rw [spec_l22Copy.l0]) (Ev.e (by omega) (Ev.p.r (by simp)))
  | cons x t ih =>
    intro i a hd ha
    obtain ⟨hi, hd', hx, -⟩ := drop_cons' hd
    have hm := ht x (List.mem_of_mem_drop (by rw [hd]; exact List.mem_cons_self ..))
    refine Ev.s (fun k => by rw [spec_l22Copy.l0]) (Ev.t (by omega) (Ev.t (by omega) ?_))
    rw [rdGT, hx, w64s hi (by omega)]
    refine Ev.t (by omega) (Ev.t (by omega) ?_)
    have h := ih (i + 1) (a ++ [x]) hd' (by simp; omega)
    rw [List.append_assoc] at h
    exact h
theorem spec_l22Copy_ev (a : S54) (h : asz a ≤ 1048576) : Ev (fun k => spec_l22Copy.f k a.f0 a.f1 a.f2) (a.f0, a.f1, a.f2) := by
  have hl : a.f0.length ≤ asz a := by unfold asz; omega
  exact Ev.u (fun _ => rfl) ((spec_l22Copy_l0 a.f0 (by omega) (fun t ht => by have := asz_mem ht; omega) a.f1 a.f2 a.f1 a.f2 [] 0 false a.f0 0 [] rfl (by simp)).r (by simp))
def vGT (t : S64) : Bool := vRows t.f0 && inB t.f1 0 4
def sG (l : List S64) : Nat := (l.map fun t => t.f0.length).sum
theorem sG_cons (t : S64) (l : List S64) : sG (t :: l) = t.f0.length + sG l := by simp [sG]
def vA (a : S54) : Bool := (a.f0.all vGT) && (decide (sG a.f0 ≤ 24) && (decide (a.f0.length ≤ 40) && inB a.f1 0 100000))
theorem impl_IsValidAggregator_l0 (l : List S64) (w : Int) (e : Bool) (hl : l.length ≤ 134217728) (ht : ∀ t ∈ l, t.f0.length ≤ 134217728) : ∀ (s : List S64) (i c : Nat), l.drop i = s → c + sG s ≤ 4294967296 →
    Ev (fun k => impl_IsValidAggregator.l0 k (c : Int) (l.length : Int) (i : Int) w e l) ((s.all vGT) && (decide (c + sG s ≤ 24) && (decide (l.length ≤ 40) && inB w 0 100000))) := by
  intro s
  induction s with
  | nil =>
    intro i c hd hc
    have := drop_nil' hd
    refine Ev.s (fun k => by rw [impl_IsValidAggregator.l0]) (Ev.e (by omega) (Ev.i (fun h => Ev.i (fun h2 => ?_) (fun h2 => Ev.p.r ?_)) (fun h => Ev.p.r ?_)))
    · have k1 : l.length ≤ 40 := by omega
      have k2 : c ≤ 24 := by omega
      exact Ev.b (Ev.c (within_eq _ _ _)) (Ev.p.r (by simp [sG, k1, k2]))
    · have k2 : ¬ c ≤ 24 := by omega
      simp [sG, k2]
    · have k1 : ¬ l.length ≤ 40 := by omega
      simp [k1]
  | cons x t ih =>
    intro i c hd hc
    rw [sG_cons] at hc ⊢
    obtain ⟨hi, hd', hx, -⟩ := drop_cons' hd
    have hm := ht x (List.mem_of_mem_drop (by rw [hd]; exact List.mem_cons_self ..))
    rw [List.all_cons]
    refine Ev.s (fun k => by rw [impl_IsValidAggregator.l0]) (Ev.t (by omega) (Ev.t (by omega) (Ev.t (by omega) ?_)))
    rw [rdGT, hx, w64s hi (by omega)]
    refine Ev.b (impl_AreValidRows_ev x.f0 (by omega)) (Ev.i (fun h1 => Ev.b (Ev.c (within_eq _ _ _)) (Ev.i (fun h2 => ?_) (fun h2 => Ev.p.r (by simp [vGT, h2])))) (fun h1 => Ev.p.r (by simp [vGT, h1])))
    rw [show wrap64 ((c : Int) + (x.f0.length : Int)) = ((c + x.f0.length : Nat) : Int) by rw [w64 (by omega) (by omega)]; rfl]
    refine (ih (i + 1) (c + x.f0.length) hd' (by omega)).r ?_
    rw [Nat.add_assoc, show vGT x = true by simp [vGT, h1, h2]]; simp
theorem impl_IsValidAggregator_evG (a : S54) (h : asz a ≤ 134217728) : Ev (fun k => impl_IsValidAggregator.f k a.f0 a.f1 a.f2) (vA a) := by
  have hl : a.f0.length ≤ asz a := by unfold asz; omega
  have hs : sG a.f0 ≤ asz a := by unfold asz sG; omega
  exact Ev.u (fun _ => rfl) ((impl_IsValidAggregator_l0 a.f0 a.f1 a.f2 (by omega) (fun t ht => by have := asz_mem ht; omega) a.f0 0 0 rfl (by omega)).r (by unfold vA; rw [Nat.zero_add]))
theorem impl_IsValidAggregator_ev (a : S54) (h : asz a ≤ 1048576) : Ev (fun k => impl_IsValidAggregator.f k a.f0 a.f1 a.f2) (vA a) := impl_IsValidAggregator_evG a (by omega)
theorem spec_IsValidAggregator_l0 (l : List S64) (w : Int) (e : Bool) (hl : l.length ≤ 134217728) (ht : ∀ t ∈ l, t.f0.length ≤ 134217728) : ∀ (s : List S64) (i c : Nat), l.drop i = s → c + sG s ≤ 4294967296 →
    Ev (fun k => spec_IsValidAggregator.l0 k (c : Int) (i : Int) w e l) ((s.all vGT) && (decide (c + sG s ≤ 24) && (decide (l.length ≤ 40) && inB w 0 100000))) := by
  intro s
  induction s with
  | nil =>
    intro i c hd hc
    have := drop_nil' hd
    refine Ev.s (fun k => by rw [spec_IsValidAggregator.l0]) (Ev.e (by omega) (Ev.i (fun h2 => Ev.i (fun h => ?_) (fun h => Ev.p.r ?_)) (fun h2 => Ev.p.r ?_)))
    · have k1 : l.length ≤ 40 := by omega
      have k2 : c ≤ 24 := by omega
      exact Ev.b (Ev.c (l1In_eq _ _ _)) (Ev.p.r (by simp [sG, k1, k2]))
    · have k1 : ¬ l.length ≤ 40 := by omega
      simp [k1]
    · have k2 : ¬ c ≤ 24 := by omega
      simp [sG, k2]
  | cons x t ih =>
    intro i c hd hc
    rw [sG_cons] at hc ⊢
    obtain ⟨hi, hd', hx, -⟩ := drop_cons' hd
    have hm := ht x (List.mem_of_mem_drop (by rw [hd]; exact List.mem_cons_self ..))
    rw [List.all_cons]
    refine Ev.s (fun k => by rw [spec_IsValidAggregator.l0]) (Ev.t (by omega) (Ev.t (by omega) ?_))
    rw [rdGT, hx, w64s hi (by omega)]
    refine Ev.b (spec_AreValidRows_ev x.f0 (by omega)) (Ev.i (fun h1 => Ev.b (Ev.c (l1In_eq _ _ _)) (Ev.i (fun h2 => ?_) (fun h2 => Ev.p.r (by simp [vGT, h2])))) (fun h1 => Ev.p.r (by simp [vGT, h1])))
    rw [show wrap64 ((c : Int) + (x.f0.length : Int)) = ((c + x.f0.length : Nat) : Int) by rw [w64 (by omega) (by omega)]; rfl]
    refine (ih (i + 1) (c + x.f0.length) hd' (by omega)).r ?_
    rw [Nat.add_assoc, show vGT x = true by simp [vGT, h1, h2]]; simp
theorem spec_IsValidAggregator_evG (a : S54) (h : asz a ≤ 134217728) : Ev (fun k => spec_IsValidAggregator.f k a.f0 a.f1 a.f2) (vA a) := by
  have hl : a.f0.length ≤ asz a := by unfold asz; omega
  have hs : sG a.f0 ≤ asz a := by unfold asz sG; omega
  exact Ev.u (fun _ => rfl) ((spec_IsValidAggregator_l0 a.f0 a.f1 a.f2 (by omega) (fun t ht => by have := asz_mem ht; omega) a.f0 0 0 rfl (by omega)).r (by unfold vA; rw [Nat.zero_add]))
theorem spec_IsValidAggregator_ev (a : S54) (h : asz a ≤ 1048576) : Ev (fun k => spec_IsValidAggregator.f k a.f0 a.f1 a.f2) (vA a) := spec_IsValidAggregator_evG a (by omega)

def fld (cap : Nat) (early : Bool) : List Int → List S75 → List S75 → Bool → List S75 → List S75 × List S75
  | _, kept, rest, _, [] => (kept, rest)
  | ks, kept, rest, o, x :: s =>
    if o = true then
      if ks.contains x.f0 = true then fld cap early ks (kept ++ [x]) rest true s
      else if ks.length < cap then fld cap early (ks ++ [x.f0]) (kept ++ [x]) rest true s
      else fld cap early ks kept (rest ++ [x]) (!early) s
    else fld cap early ks kept (rest ++ [x]) (!early) s
theorem dk_pre : ∀ (s : List S75) (D : List Int), ∃ e, dk D s = D ++ e
  | [], D => ⟨[], by simp [dk]⟩
  | x :: s, D => by
    rw [dk]
    split
    · exact dk_pre s D
    · obtain ⟨e, he⟩ := dk_pre s (D ++ [x.f0])
      exact ⟨[x.f0] ++ e, by rw [he, List.append_assoc]⟩
theorem dk_take_mem {D : List Int} {s : List S75} {cap : Nat} {q : Int} (h : q ∈ D.take cap) : q ∈ (dk D s).take cap := by
  obtain ⟨e, he⟩ := dk_pre s D
  rw [he, List.take_append]
  exact List.mem_append_left _ h
theorem dk_take_full {D : List Int} (s : List S75) {cap : Nat} (h : cap ≤ D.length) : (dk D s).take cap = D.take cap := by
  obtain ⟨e, he⟩ := dk_pre s D
  rw [he, List.take_append_of_le_length h]
def inH (H : List Int) (x : S75) : Bool := H.contains x.f0
theorem fld_no (cap : Nat) : ∀ (s : List S75) (D : List Int) (kept rest : List S75),
    fld cap false (D.take cap) kept rest true s = (kept ++ s.filter (inH ((dk D s).take cap)), rest ++ s.filter fun x => !inH ((dk D s).take cap) x) ∧ dk (D.take cap) (s.filter (inH ((dk D s).take cap))) = (dk D s).take cap
  | [], D, kept, rest => by simp [fld, dk]
  | x :: s, D, kept, rest => by
    rw [fld, if_pos rfl, dk]
    by_cases h1 : (D.take cap).contains x.f0 = true
    · have hD : D.contains x.f0 = true := by
        rw [List.contains_iff_mem] at h1 ⊢; exact List.mem_of_mem_take h1
      rw [if_pos h1, if_pos hD]
      have ih := fld_no cap s D (kept ++ [x]) rest
      have hx : inH ((dk D s).take cap) x = true := by
        unfold inH; rw [List.contains_iff_mem] at h1 ⊢; exact dk_take_mem h1
      rw [List.filter_cons_of_pos hx, List.filter_cons_of_neg (by simp [hx]), dk, if_pos h1]
      exact ⟨by rw [ih.1]; simp, ih.2⟩
    · rw [if_neg h1]
      by_cases h2 : (D.take cap).length < cap
      · have hlen : D.length < cap := by rw [List.length_take] at h2; omega
        have hT : D.take cap = D := List.take_of_length_le (by omega)
        rw [if_pos h2]
        rw [hT] at h1 ⊢
        rw [if_neg h1]
        have ih := fld_no cap s (D ++ [x.f0]) (kept ++ [x]) rest
        have hT2 : (D ++ [x.f0]).take cap = D ++ [x.f0] := List.take_of_length_le (by simp; omega)
        rw [hT2] at ih
        have hx : inH ((dk (D ++ [x.f0]) s).take cap) x = true := by
          unfold inH; rw [List.contains_iff_mem]; exact dk_take_mem (by rw [hT2]; simp)
        rw [List.filter_cons_of_pos hx, List.filter_cons_of_neg (by simp [hx]), dk, if_neg h1]
        exact ⟨by rw [ih.1]; simp, ih.2⟩
      · have hlen : cap ≤ D.length := by rw [List.length_take] at h2; omega
        rw [if_neg h2]
        have hT : (dk (if D.contains x.f0 = true then D else D ++ [x.f0]) s).take cap = D.take cap := by
          split
          · exact dk_take_full s hlen
          · rw [dk_take_full s (by simp; omega), List.take_append_of_le_length hlen]
        have hT' : (dk D s).take cap = D.take cap := dk_take_full s hlen
        have hx : ¬ inH (D.take cap) x = true := h1
        have ih := fld_no cap s D kept (rest ++ [x])
        rw [hT'] at ih
        rw [hT, List.filter_cons_of_neg hx, List.filter_cons_of_pos (by simpa using hx)]
        exact ⟨by rw [show (!false) = true from rfl, ih.1]; simp, ih.2⟩
def eN (cap : Nat) : List S75 → List S75 → Nat
  | p, [] => p.length
  | p, x :: s => if (dk [] (p ++ [x])).length ≤ cap then eN cap (p ++ [x]) s else p.length
theorem dk_app : ∀ (p s : List S75) (D : List Int), dk D (p ++ s) = dk (dk D p) s
  | [], s, D => rfl
  | x :: p, s, D => by rw [List.cons_append, dk, dk, dk_app p s]
theorem fld_closed (cap : Nat) : ∀ (s : List S75) (ks : List Int) (kept rest : List S75), fld cap true ks kept rest false s = (kept, rest ++ s)
  | [], _, _, _ => by simp [fld]
  | x :: s, ks, kept, rest => by
    rw [fld, if_neg (by simp)]
    rw [show (!true) = false from rfl, fld_closed cap s]; simp
theorem fld_yes (cap : Nat) : ∀ (s p : List S75), (dk [] p).length ≤ cap → fld cap true (dk [] p) p [] true s = ((p ++ s).take (eN cap p s), (p ++ s).drop (eN cap p s)) ∧ (dk [] ((p ++ s).take (eN cap p s))).length ≤ cap ∧ eN cap p s ≤ p.length + s.length ∧ p.length ≤ eN cap p s
  | [], p, h => by
    simp only [fld, eN, List.append_nil, List.take_length, List.drop_length, List.length_nil]
    exact ⟨trivial, h, by omega, by omega⟩
  | x :: s, p, h => by
    have e1 : dk [] (p ++ [x]) = if (dk [] p).contains x.f0 = true then dk [] p else dk [] p ++ [x.f0] := by rw [dk_app]; rfl
    rw [fld, if_pos rfl, eN]
    by_cases h1 : (dk [] p).contains x.f0 = true
    · rw [if_pos h1] at e1
      rw [if_pos h1, if_pos (by rw [e1]; exact h)]
      have ih := fld_yes cap s (p ++ [x]) (by rw [e1]; exact h)
      rw [e1, List.append_assoc, List.length_append, List.length_singleton] at ih
      rw [List.length_cons]
      exact ⟨ih.1, ih.2.1, by omega, by omega⟩
    · rw [if_neg h1] at e1
      have e2 : (dk [] (p ++ [x])).length = (dk [] p).length + 1 := by rw [e1]; simp
      rw [if_neg h1]
      by_cases h2 : (dk [] p).length < cap
      · rw [if_pos h2, if_pos (by omega)]
        have ih := fld_yes cap s (p ++ [x]) (by omega)
        rw [e1, List.append_assoc, List.length_append, List.length_singleton] at ih
        rw [List.length_cons]
        exact ⟨ih.1, ih.2.1, by omega, by omega⟩
      · rw [if_neg h2, if_neg (by omega)]
        rw [show (!true) = false from rfl, fld_closed]
        refine ⟨?_, ?_, by omega, by omega⟩
        · simp
        · rw [List.take_left']
          · exact h
          · rfl

def rst (early : Bool) (lv : Int) (R : List S75) : List S64 :=
  if R.length = 0 then [] else if early = true then [⟨R, lv⟩] else if lv < 4 then [⟨spl0 lv R, lv + 1⟩, ⟨spl1 lv R, lv + 1⟩] else [⟨R, lv⟩]
def wrA (early : Bool) (w : Int) (R : List S75) : Int := if early = true then w else w + tCost R
abbrev gtup (p : List S64) (w : Int) (e : Bool) (G : List S49) : List S64 × Int × Bool × List S49 × Int × Bool := (p, w, e, G, 3 * (G.length : Int), true)
theorem impl_SA_j2 (G : List S49) (y0 p : List S64) (y1 w : Int) (y2 e : Bool) (hG : G.length ≤ 1048576) : Ev (fun k => impl_StepAggregator.j2 k G y0 y1 y2 p w e) (gtup p w e G) := by
  refine Ev.s (fun k => by rw [impl_StepAggregator.j2, w64 (x := 3 * (G.length : Int)) (by omega) (by omega)]) ?_
  exact Ev.p
theorem impl_SA_j3 (G : List S49) (n y0 p : List S64) (y1 w : Int) (y2 e : Bool) (hG : G.length ≤ 1048576) (hn : n.length + p.length ≤ 1048576) : Ev (fun k => impl_StepAggregator.j3 k G n y0 y1 y2 p w e) (gtup (n ++ p) w e G) := by
  refine Ev.s (fun k => by rw [impl_StepAggregator.j3]) ?_
  exact Ev.t (by omega) (impl_SA_j2 G y0 (n ++ p) y1 w y2 e hG)
theorem impl_SA_fin (cap : Int) (m : List (Int × Bool)) (R K rows x9 : List S75) (o : Bool) (i : Nat) (hi : rows.length ≤ i) (y0 s : List S64) (y1 w lv : Int) (y2 early : Bool) (hK : (rgs K).length ≤ 12) (hKl : K.length ≤ 1048576) (hR : R.length ≤ 1048576) (hs : s.length ≤ 1048000) (hw : 0 ≤ w ∧ w ≤ 1048576) (hlv : 0 ≤ lv ∧ lv ≤ 4) :
    Ev (fun k => impl_StepAggregator.l0 k cap m R K o rows (rows.length : Int) (i : Int) y0 y1 y2 s w early x9 lv) (gtup (rst early lv R ++ s) (wrA early w R) early (rgs K)) := by
  have hc := tCost_b R
  refine Ev.s (fun k => by rw [impl_StepAggregator.l0]) (Ev.e (by omega) (Ev.b (impl_ReferenceGroups_ev K (by omega) hK) ?_))
  unfold rst wrA
  refine Ev.i (fun h => ?_) (fun h => ?_)
  · rw [if_neg (show ¬ R.length = 0 by omega)]
    refine Ev.i (fun he => ?_) (fun he => ?_)
    · subst he
      exact impl_SA_j3 (rgs K) [⟨R, lv⟩] y0 s y1 w y2 true (by omega) (by simp; omega)
    · have he' : early = false := by simpa using he
      subst he'
      refine Ev.b (impl_TotalCost_ev R (by omega)) ?_
      rw [w64 (x := w + tCost R) (by omega) (by omega)]
      refine Ev.i (fun hl => ?_) (fun hl => ?_)
      · rw [w64 (x := lv + 1) (by omega) (by omega)]
        simp only [Bool.false_eq_true, if_false, if_pos hl]
        exact Ev.b (impl_SplitByHashBit_ev R lv (by omega)) (impl_SA_j3 (rgs K) [⟨spl0 lv R, lv + 1⟩, ⟨spl1 lv R, lv + 1⟩] y0 s y1 _ y2 false (by omega) (by simp; omega))
      · simp only [Bool.false_eq_true, if_false, if_neg hl]
        exact impl_SA_j3 (rgs K) [⟨R, lv⟩] y0 s y1 _ y2 false (by omega) (by simp; omega)
  · have hR0 : R = [] := List.eq_nil_of_length_eq_zero (by omega)
    subst hR0
    refine (impl_SA_j2 (rgs K) y0 s y1 w y2 early (by omega)).r ?_
    simp [tCost]
theorem mSet_len {β : Type} : ∀ (m : List (Int × β)) (q : Int) (v : β), mGet m q = none → (mSet m q v).length = m.length + 1
  | [], q, v, _ => rfl
  | p :: r, q, v, h => by
    cases hq : p.1 == q
    · rw [mGet, hq, cond_false] at h
      rw [mSet, hq, cond_false, List.length_cons, List.length_cons, mSet_len r q v h]
    · rw [mGet, hq, cond_true] at h; cases h
theorem impl_SA_l0 (cap : Nat) (hcap : cap ≤ 1048576) (rows x9 : List S75) (hrl : rows.length ≤ 1048576) (y0 p : List S64) (y1 w lv : Int) (y2 early : Bool) (r : List S64 × Int × Bool × List S49 × Int × Bool) : ∀ (s : List S75) (i : Nat) (ks : List Int) (m : List (Int × Bool)) (kept rest : List S75) (o : Bool), rows.drop i = s → (∀ q, mGet m q = if ks.contains q = true then some true else none) → m.length = ks.length → kept.length ≤ i → rest.length ≤ i →
    (∀ (m' : List (Int × Bool)) (o' : Bool) (i' : Nat), rows.length ≤ i' → Ev (fun k => impl_StepAggregator.l0 k (cap : Int) m' (fld cap early ks kept rest o s).2 (fld cap early ks kept rest o s).1 o' rows (rows.length : Int) (i' : Int) y0 y1 y2 p w early x9 lv) r) →
    Ev (fun k => impl_StepAggregator.l0 k (cap : Int) m rest kept o rows (rows.length : Int) (i : Int) y0 y1 y2 p w early x9 lv) r := by
  intro s
  induction s with
  | nil =>
    intro i ks m kept rest o hd hm hml ha hb hf
    exact hf m o i (drop_nil' hd)
  | cons x t ih =>
    intro i ks m kept rest o hd hm hml ha hb hf
    obtain ⟨hi, hd', hx, -⟩ := drop_cons' hd
    have J1 : (∀ (m' : List (Int × Bool)) (o' : Bool) (i' : Nat), rows.length ≤ i' → Ev (fun k => impl_StepAggregator.l0 k (cap : Int) m' (fld cap early ks kept (rest ++ [x]) (!early) t).2 (fld cap early ks kept (rest ++ [x]) (!early) t).1 o' rows (rows.length : Int) (i' : Int) y0 y1 y2 p w early x9 lv) r) →
        Ev (fun k => impl_StepAggregator.j1 k (cap : Int) m rest kept rows (rows.length : Int) (i : Int) y0 y1 y2 p w early x9 lv x.f0 x.f1 x.f2) r := by
      intro h
      refine Ev.s (fun k => by rw [impl_StepAggregator.j1]) ?_
      rw [w64s hi (by omega)]
      exact Ev.t (by omega) (ih (i + 1) ks m kept (rest ++ [x]) (!early) hd' hm hml (by omega) (by simp; omega) h)
    rw [fld] at hf
    refine Ev.s (fun k => by rw [impl_StepAggregator.l0]) (Ev.t (by omega) (Ev.t (by omega) (Ev.t (by omega) ?_)))
    rw [rdR, hx]
    refine Ev.i (fun ho => ?_) (fun ho => ?_)
    · subst ho
      rw [if_pos rfl] at hf
      rw [hm x.f0]
      by_cases h1 : ks.contains x.f0 = true
      · rw [if_pos h1] at hf
        rw [if_pos h1]
        refine Ev.t rfl (Ev.s (fun k => by rw [impl_StepAggregator.j0]) ?_)
        rw [hm x.f0, if_pos h1, w64s hi (by omega)]
        exact Ev.t rfl (Ev.t rfl (Ev.t (by omega) (ih (i + 1) ks m (kept ++ [x]) rest true hd' hm hml (by simp; omega) (by omega) hf)))
      · rw [if_neg h1] at hf
        rw [if_neg h1]
        refine Ev.e (by simp) (Ev.i (fun h2 => ?_) (fun h2 => ?_))
        · rw [if_pos (show ks.length < cap by omega)] at hf
          refine Ev.s (fun k => by rw [impl_StepAggregator.j0]) ?_
          rw [w64s hi (by omega), show (mGet (mSet m x.f0 true) x.f0) = some true by rw [mGet_set, beq_self_eq_true, cond_true]]
          refine Ev.t rfl (Ev.t rfl (Ev.t (by omega) ?_))
          refine ih (i + 1) (ks ++ [x.f0]) (mSet m x.f0 true) (kept ++ [x]) rest true hd' (fun q => ?_) ?_ (by simp; omega) (by omega) hf
          · rw [mGet_set]
            by_cases hq : x.f0 = q
            · subst hq; simp
            · have hq' : ¬ q = x.f0 := fun e => hq e.symm
              rw [beq_eq_false_iff_ne.2 hq, cond_false, hm q]
              simp [hq']
          · rw [mSet_len m x.f0 true (by rw [hm x.f0, if_neg h1]), hml]; simp
        · rw [if_neg (show ¬ ks.length < cap by omega)] at hf
          refine Ev.s (fun k => by rw [impl_StepAggregator.j0]) ?_
          rw [hm x.f0, if_neg h1]
          exact Ev.t rfl (Ev.e (by simp) (J1 hf))
    · have ho' : o = false := by simpa using ho
      subst ho'
      rw [if_neg (by simp)] at hf
      refine Ev.s (fun k => by rw [impl_StepAggregator.j0]) ?_
      exact Ev.e (by simp) (J1 hf)

theorem spec_SA_fin (held w lv : Int) (D : List Int) (R K rows : List S75) (i : Nat) (hi : rows.length ≤ i) (y0 s p8 L : List S64) (y1 : Int) (y2 e0 e8 : Bool) (hKl : K.length ≤ 1048576) (hR : R.length ≤ 1048576) (hs : s.length ≤ 1048000) (hw : 0 ≤ w ∧ w ≤ 1048576) (hlv : 0 ≤ lv ∧ lv ≤ 4) (hh : 0 ≤ held ∧ held ≤ 1048576) :
    Ev (fun k => spec_StepAggregator.l0 k s D held K R (i : Int) w e0 y0 y1 y2 p8 w e8 rows lv L) (rst false lv R ++ s, wrA false w R, e8, rgs K, held * 3, true) := by
  have hc := tCost_b R
  have J0 : ∀ (p : List S64) (w' : Int), Ev (fun k => spec_StepAggregator.j0 k held K y0 y1 y2 p w' e8) (p, w', e8, rgs K, held * 3, true) := by
    intro p w'
    refine Ev.s (fun k => by rw [spec_StepAggregator.j0, w64 (x := held * 3) (by omega) (by omega)]) ?_
    exact Ev.b (spec_ReferenceGroups_ev K (by omega)) Ev.p
  have J1 : ∀ (n p : List S64) (w' : Int), n.length ≤ 100 → Ev (fun k => spec_StepAggregator.j1 k s held K n y0 y1 y2 p w' e8) (n ++ s, w', e8, rgs K, held * 3, true) := by
    intro n p w' hn
    refine Ev.s (fun k => by rw [spec_StepAggregator.j1]) ?_
    exact Ev.t (by omega) (J0 (n ++ s) w')
  refine Ev.s (fun k => by rw [spec_StepAggregator.l0]) (Ev.e (by omega) ?_)
  unfold rst wrA
  refine Ev.i (fun h => ?_) (fun h => ?_)
  · rw [if_neg (show ¬ R.length = 0 by omega)]
    refine Ev.b (spec_TotalCost_ev R (by omega)) ?_
    rw [w64 (x := w + tCost R) (by omega) (by omega)]
    refine Ev.i (fun hl => ?_) (fun hl => ?_)
    · rw [w64 (x := lv + 1) (by omega) (by omega)]
      simp only [Bool.false_eq_true, if_false, if_pos hl]
      exact Ev.b (spec_SplitByHashBit_ev R lv (by omega)) (J1 [⟨spl0 lv R, lv + 1⟩, ⟨spl1 lv R, lv + 1⟩] _ _ (by simp))
    · simp only [Bool.false_eq_true, if_false, if_neg hl]
      exact J1 [⟨R, lv⟩] _ _ (by simp)
  · have hR0 : R = [] := List.eq_nil_of_length_eq_zero (by omega)
    subst hR0
    exact (J0 s w).r (by simp [tCost])
theorem getD_take (D : List Int) (h j : Nat) (hj : j < (D.take h).length) : (D.take h).getD j 0 = D.getD j 0 := by
  rw [List.length_take] at hj
  rw [List.getD_eq_getElem?_getD, List.getD_eq_getElem?_getD, List.getElem?_take_of_lt (by omega)]
theorem spec_SA_l1 (D : List Int) (h : Nat) (hh : h ≤ D.length) (hD : D.length ≤ 1048576) (rows : List S75) (hrl : rows.length ≤ 1048576) (w lv y1 w8 : Int) (s y0 p8 L : List S64) (e0 y2 e8 : Bool) (K R : List S75) (i : Nat) (hi : i < rows.length) (x : S75) (hx : ∀ d, rows.getD i d = x) (hK : K.length ≤ i) (hR : R.length ≤ i) (r : List S64 × Int × Bool × List S49 × Int × Bool) : ∀ (u : List Int) (j : Nat) (b : Bool), (D.take h).drop j = u → j ≤ h →
    Ev (fun k => spec_StepAggregator.l0 k s D (h : Int) (if (b || u.contains x.f0) = true then K ++ [x] else K) (if (b || u.contains x.f0) = true then R else R ++ [x]) ((i + 1 : Nat) : Int) w e0 y0 y1 y2 p8 w8 e8 rows lv L) r →
    Ev (fun k => spec_StepAggregator.l1 k s D (h : Int) K R (i : Int) b (j : Int) w e0 y0 y1 y2 p8 w8 e8 rows lv L) r := by
  intro u
  have hHl : (D.take h).length = h := by rw [List.length_take]; omega
  induction u with
  | nil =>
    intro j b hd hj hf
    have := drop_nil' hd
    refine Ev.s (fun k => by rw [spec_StepAggregator.l1]) (Ev.e (by omega) ?_)
    rw [rdR, hx, w64s hi (by omega)]
    refine Ev.i (fun hb => Ev.t (by omega) (Ev.t (by omega) (Ev.t (by omega) ?_))) (fun hb => Ev.t (by omega) (Ev.t (by omega) (Ev.t (by omega) ?_)))
    · simpa [hb] using hf
    · simpa [hb] using hf
  | cons y t ih =>
    intro j b hd hj hf
    obtain ⟨hj', hd', hy, -⟩ := drop_cons' hd
    have hy' : D.getD j 0 = y := by rw [← getD_take D h j hj', hy]
    refine Ev.s (fun k => by rw [spec_StepAggregator.l1]) (Ev.t (by omega) ?_)
    rw [w64s hj' (by omega)]
    refine Ev.i (fun hb => ?_) (fun hb => Ev.t (by omega) (Ev.t (by omega) (Ev.t (by omega) (Ev.t (by omega) ?_))))
    · exact ih (j + 1) true hd' (by omega) (by simpa [hb] using hf)
    · rw [rdR, hx, rdI, hy']
      have hb' : b = false := by simpa using hb
      subst hb'
      refine ih (j + 1) _ hd' (by omega) ?_
      have e : (decide (y = x.f0) || t.contains x.f0) = (false || (y :: t).contains x.f0) := by
        rw [List.contains_cons, Bool.false_or]
        congr 1
        by_cases hxy : y = x.f0
        · simp [hxy]
        · have : ¬ x.f0 = y := fun h => hxy h.symm
          simp [hxy, this]
      rw [e]; exact hf
theorem spec_SA_l0 (D : List Int) (h : Nat) (hh : h ≤ D.length) (hD : D.length ≤ 1048576) (rows : List S75) (hrl : rows.length ≤ 1048576) (w lv y1 : Int) (s y0 p8 L : List S64) (e0 y2 e8 : Bool) (hs : s.length ≤ 1048000) (hw : 0 ≤ w ∧ w ≤ 1048576) (hlv : 0 ≤ lv ∧ lv ≤ 4) : ∀ (u : List S75) (i : Nat) (K R : List S75), rows.drop i = u → i ≤ rows.length → K.length ≤ i → R.length ≤ i →
    Ev (fun k => spec_StepAggregator.l0 k s D (h : Int) K R (i : Int) w e0 y0 y1 y2 p8 w e8 rows lv L) (rst false lv (R ++ u.filter fun x => !inH (D.take h) x) ++ s, wrA false w (R ++ u.filter fun x => !inH (D.take h) x), e8, rgs (K ++ u.filter (inH (D.take h))), (h : Int) * 3, true) := by
  intro u
  induction u with
  | nil =>
    intro i K R hd hil hK hR
    rw [List.filter_nil, List.filter_nil, List.append_nil, List.append_nil]
    exact spec_SA_fin (h : Int) w lv D R K rows i (drop_nil' hd) y0 s p8 L y1 y2 e0 e8 (by omega) (by omega) hs hw hlv (by omega)
  | cons x t ih =>
    intro i K R hd hil hK hR
    obtain ⟨hi, hd', hx, -⟩ := drop_cons' hd
    refine Ev.s (fun k => by rw [spec_StepAggregator.l0]) (Ev.t (by omega) ?_)
    refine spec_SA_l1 D h hh hD rows hrl w lv y1 w s y0 p8 L e0 y2 e8 K R i hi x hx hK hR _ (D.take h) 0 false rfl (by omega) ?_
    rw [Bool.false_or]
    by_cases hc : (D.take h).contains x.f0 = true
    · have hx' : inH (D.take h) x = true := hc
      rw [if_pos hc, if_pos hc, List.filter_cons_of_pos hx', List.filter_cons_of_neg (by simp [hx'])]
      have e := ih (i + 1) (K ++ [x]) R hd' (by omega) (by simp; omega) (by omega)
      rw [List.append_assoc] at e
      exact e
    · have hx' : ¬ inH (D.take h) x = true := hc
      rw [if_neg hc, if_neg hc, List.filter_cons_of_neg hx', List.filter_cons_of_pos (by simpa using hx')]
      have e := ih (i + 1) K (R ++ [x]) hd' (by omega) (by omega) (by simp; omega)
      rw [List.append_assoc] at e
      exact e
theorem spec_Early_l0 (cap : Nat) (rows : List S75) (hrl : rows.length ≤ 1048576) (w lv w8 : Int) (s p8 : List S64) (e e8 : Bool) (hs : s.length ≤ 1048000) : ∀ (u p : List S75), rows = p ++ u →
    Ev (fun k => spec_l22Early.l0 k s (cap : Int) (p.length : Int) w e rows lv p8 w8 e8) (rst true lv (rows.drop (eN cap p u)) ++ s, w, e, rgs (rows.take (eN cap p u)), ((dk [] (rows.take (eN cap p u))).length : Int) * 3, true) := by
  have J0 : ∀ n : Nat, n ≤ rows.length → Ev (fun k => spec_l22Early.j0 k s (n : Int) w e rows lv p8 w8 e8) (rst true lv (rows.drop n) ++ s, w, e, rgs (rows.take n), ((dk [] (rows.take n)).length : Int) * 3, true) := by
    intro n hn
    have hl : (rows.take n).length ≤ rows.length := List.length_take_le' _ _
    have hdl := dk_len (rows.take n) []
    rw [List.length_nil] at hdl
    refine Ev.s (fun k => by rw [spec_l22Early.j0]) (Ev.t (by omega) (Ev.t (by omega) ?_))
    rw [Int.toNat_natCast]
    refine Ev.b (spec_DistinctKeys_ev (rows.take n) (by omega)) (Ev.b (spec_ReferenceGroups_ev (rows.take n) (by omega)) (Ev.i (fun h => Ev.t (by simp; omega) ?_) (fun h => ?_)))
    · refine Ev.s (fun k => by rw [spec_l22Early.j1, w64 (x := ((dk [] (rows.take n)).length : Int) * 3) (by omega) (by omega)]) (Ev.p.r ?_)
      have : ¬ (rows.drop n).length = 0 := by rw [List.length_drop]; omega
      unfold rst
      rw [if_neg this, if_pos rfl]
    · refine Ev.s (fun k => by rw [spec_l22Early.j1, w64 (x := ((dk [] (rows.take n)).length : Int) * 3) (by omega) (by omega)]) (Ev.p.r ?_)
      have : (rows.drop n).length = 0 := by rw [List.length_drop]; omega
      unfold rst
      rw [if_pos this]; rfl
  intro u
  induction u with
  | nil =>
    intro p hp
    refine Ev.s (fun k => by rw [spec_l22Early.l0]) (Ev.e (by rw [hp]; simp) ?_)
    exact J0 p.length (by rw [hp]; simp)
  | cons x t ih =>
    intro p hp
    have hl : rows.length = p.length + t.length + 1 := by rw [hp]; simp; omega
    have ht : rows.take (p.length + 1) = p ++ [x] := by
      rw [hp, show p ++ x :: t = (p ++ [x]) ++ t by simp, List.take_left' (by simp)]
    refine Ev.s (fun k => by rw [spec_l22Early.l0]) (Ev.t (by omega) ?_)
    rw [show wrap64 ((p.length : Int) + 1) = ((p.length + 1 : Nat) : Int) by rw [w64 (by omega) (by omega)]; rfl]
    refine Ev.t (by omega) (Ev.t (by omega) ?_)
    rw [Int.toNat_natCast, ht, eN]
    refine Ev.b (spec_DistinctKeys_ev (p ++ [x]) (by simp; omega)) (Ev.i (fun h => ?_) (fun h => ?_))
    · rw [if_pos (show (dk [] (p ++ [x])).length ≤ cap by omega)]
      have e := ih (p ++ [x]) (by rw [hp]; simp)
      rw [List.length_append, List.length_singleton] at e
      exact e
    · rw [if_neg (show ¬ (dk [] (p ++ [x])).length ≤ cap by omega)]
      exact J0 p.length (by omega)

theorem fld_facts (cap : Nat) (early : Bool) : ∀ (s : List S75) (ks : List Int) (kept rest : List S75) (o : Bool),
    ((fld cap early ks kept rest o s).1.length + (fld cap early ks kept rest o s).2.length = kept.length + rest.length + s.length) ∧ (∀ x ∈ (fld cap early ks kept rest o s).1, x ∈ kept ∨ x ∈ s) ∧ (∀ x ∈ (fld cap early ks kept rest o s).2, x ∈ rest ∨ x ∈ s)
  | [], ks, kept, rest, o => by simp only [fld, List.length_nil]; exact ⟨by omega, fun x h => .inl h, fun x h => .inl h⟩
  | y :: s, ks, kept, rest, o => by
    have A : ∀ (ks' : List Int) (o' : Bool), ((fld cap early ks' (kept ++ [y]) rest o' s).1.length + (fld cap early ks' (kept ++ [y]) rest o' s).2.length = kept.length + rest.length + (y :: s).length) ∧ (∀ x ∈ (fld cap early ks' (kept ++ [y]) rest o' s).1, x ∈ kept ∨ x ∈ y :: s) ∧ (∀ x ∈ (fld cap early ks' (kept ++ [y]) rest o' s).2, x ∈ rest ∨ x ∈ y :: s) := by
      intro ks' o'
      obtain ⟨h1, h2, h3⟩ := fld_facts cap early s ks' (kept ++ [y]) rest o'
      rw [List.length_append, List.length_singleton] at h1
      rw [List.length_cons]
      refine ⟨by omega, fun x hx => ?_, fun x hx => ?_⟩
      · rcases h2 x hx with h | h
        · rcases List.mem_append.1 h with h | h
          · exact .inl h
          · rw [List.mem_singleton.1 h]; exact .inr (List.mem_cons_self ..)
        · exact .inr (List.mem_cons_of_mem _ h)
      · rcases h3 x hx with h | h
        · exact .inl h
        · exact .inr (List.mem_cons_of_mem _ h)
    have B : ∀ (ks' : List Int) (o' : Bool), ((fld cap early ks' kept (rest ++ [y]) o' s).1.length + (fld cap early ks' kept (rest ++ [y]) o' s).2.length = kept.length + rest.length + (y :: s).length) ∧ (∀ x ∈ (fld cap early ks' kept (rest ++ [y]) o' s).1, x ∈ kept ∨ x ∈ y :: s) ∧ (∀ x ∈ (fld cap early ks' kept (rest ++ [y]) o' s).2, x ∈ rest ∨ x ∈ y :: s) := by
      intro ks' o'
      obtain ⟨h1, h2, h3⟩ := fld_facts cap early s ks' kept (rest ++ [y]) o'
      rw [List.length_append, List.length_singleton] at h1
      rw [List.length_cons]
      refine ⟨by omega, fun x hx => ?_, fun x hx => ?_⟩
      · rcases h2 x hx with h | h
        · exact .inl h
        · exact .inr (List.mem_cons_of_mem _ h)
      · rcases h3 x hx with h | h
        · rcases List.mem_append.1 h with h | h
          · exact .inl h
          · rw [List.mem_singleton.1 h]; exact .inr (List.mem_cons_self ..)
        · exact .inr (List.mem_cons_of_mem _ h)
    rw [fld]
    split
    · split
      · exact A _ _
      · split
        · exact A _ _
        · exact B _ _
    · exact B _ _
structure VA (a : S54) : Prop where
  ts : ∀ t ∈ a.f0, vRows t.f0 = true ∧ 0 ≤ t.f1 ∧ t.f1 ≤ 4
  n : sG a.f0 ≤ 24
  len : a.f0.length ≤ 40
  wr : 0 ≤ a.f1 ∧ a.f1 ≤ 100000
theorem inB_iff' {n a b : Int} : inB n a b = true ↔ a ≤ n ∧ n ≤ b := by simp [inB]
theorem vA_iff {a : S54} : vA a = true ↔ VA a := by
  unfold vA
  constructor
  · intro h
    simp only [Bool.and_eq_true, decide_eq_true_iff, inB_iff'] at h
    refine ⟨fun t ht => ?_, h.2.1, h.2.2.1, h.2.2.2⟩
    have := List.all_eq_true.1 h.1 t ht
    simp only [vGT, Bool.and_eq_true, inB_iff'] at this
    exact this
  · intro h
    simp only [Bool.and_eq_true, decide_eq_true_iff, inB_iff']
    refine ⟨List.all_eq_true.2 fun t ht => ?_, h.n, h.len, h.wr⟩
    simp only [vGT, Bool.and_eq_true, inB_iff']
    exact h.ts t ht
theorem vRow_key {x : S75} (h : vRow x.f0 x.f1 x.f2 = true) : 0 ≤ x.f0 ∧ x.f0 ≤ 9 := by
  simp only [vRow, Bool.and_eq_true, inB_iff'] at h
  exact h.1.1
theorem vRows_key {l : List S75} (h : vRows l = true) : ∀ x ∈ l, 0 ≤ x.f0 ∧ x.f0 ≤ 9 := fun x hx =>
  vRow_key (List.all_eq_true.1 (vRows_iff.1 h).1 x hx)
def gcap (g : Int) : Nat := (Int.tdiv g 3).toNat
theorem gcap_b {g : Int} (h : inB g 8 60 = true) : wrap64 (Int.tdiv g 3) = (gcap g : Int) ∧ 2 ≤ gcap g ∧ gcap g ≤ 20 := by
  rw [inB_iff'] at h
  have e : Int.tdiv g 3 = g / 3 := Int.tdiv_eq_ediv_of_nonneg (by omega)
  unfold gcap
  rw [e, w64 (by omega) (by omega)]
  omega
def krA (a : S54) (t : S64) (g : Int) : List S75 × List S75 := fld (gcap g) a.f2 [] [] [] true t.f0
theorem krA_facts (a : S54) (t : S64) (g : Int) : (krA a t g).1.length + (krA a t g).2.length = t.f0.length ∧ (∀ x ∈ (krA a t g).1, x ∈ t.f0) ∧ (∀ x ∈ (krA a t g).2, x ∈ t.f0) := by
  obtain ⟨h1, h2, h3⟩ := fld_facts (gcap g) a.f2 t.f0 [] [] [] true
  unfold krA
  refine ⟨by simpa using h1, fun x hx => ?_, fun x hx => ?_⟩
  · rcases h2 x hx with h | h
    · simp at h
    · exact h
  · rcases h3 x hx with h | h
    · simp at h
    · exact h
def stG (a : S54) (t : S64) (s : List S64) (g : Int) : S54 × List S49 × Int × Bool :=
  (⟨rst a.f2 t.f1 (krA a t g).2 ++ s, wrA a.f2 a.f1 (krA a t g).2, a.f2⟩, rgs (krA a t g).1, 3 * ((rgs (krA a t g).1).length : Int), true)
def stA (a : S54) (g : Int) : S54 × List S49 × Int × Bool :=
  if vA a = true then
    match a.f0 with
    | [] => (a, [], 0, false)
    | t :: s => if inB g 8 60 = true then stG a t s g else (a, [], 0, false)
  else (a, [], 0, false)
abbrev satup (r : S54 × List S49 × Int × Bool) : List S64 × Int × Bool × List S49 × Int × Bool := (r.1.f0, r.1.f1, r.1.f2, r.2.1, r.2.2.1, r.2.2.2)
theorem impl_StepAggregator_ev (a : S54) (g : Int) (h : asz a ≤ 1048576) : Ev (fun k => impl_StepAggregator.f k a.f0 a.f1 a.f2 g) (satup (stA a g)) := by
  refine Ev.u (fun _ => rfl) (Ev.b (impl_cloneAggregator_ev a h) (Ev.b (impl_IsValidAggregator_ev a h) (Ev.i (fun hv => ?_) (fun hv => Ev.p.r (by simp [stA, hv])))))
  have hA := vA_iff.1 hv
  unfold stA; rw [if_pos hv]
  obtain ⟨l, w, e⟩ := a
  dsimp only at hA ⊢
  cases l with
  | nil => exact Ev.t rfl Ev.p
  | cons t s =>
    have ht := hA.ts t (List.mem_cons_self ..)
    have hrl := vRows_len ht.1
    have hlen : s.length + 1 ≤ 40 := hA.len
    have hw : 0 ≤ w ∧ w ≤ 100000 := hA.wr
    dsimp only
    refine Ev.e (by simp; omega) (Ev.b (Ev.c (by unfold impl_isGrant.f; rw [within_eq]; rfl)) (Ev.i (fun hg => ?_) (fun hg => Ev.p.r (by simp [hg]))))
    rw [if_pos hg]
    obtain ⟨c1, c2, c3⟩ := gcap_b hg
    refine Ev.t (by rw [List.length_cons]; omega) (Ev.t (by rw [List.length_cons]; omega) ?_)
    simp only [show rd_T64 (t :: s) 0 = t from rfl, show (t :: s).drop (1 : Int).toNat = s from rfl]
    rw [c1]
    obtain ⟨f1, f2, f3⟩ := krA_facts ⟨t :: s, w, e⟩ t g
    have hk : (rgs (krA ⟨t :: s, w, e⟩ t g).1).length ≤ 10 := rgs_len _ (fun x hx => vRows_key ht.1 x (f2 x hx))
    refine impl_SA_l0 (gcap g) (by omega) t.f0 t.f0 (by omega) [] s 0 w t.f1 false e _ t.f0 0 [] [] [] [] true rfl (fun q => by simp [mGet]) rfl (by simp) (by simp) (fun m' o' i' hi' => ?_)
    exact impl_SA_fin (gcap g : Int) m' (krA ⟨t :: s, w, e⟩ t g).2 (krA ⟨t :: s, w, e⟩ t g).1 t.f0 t.f0 o' i' hi' [] s 0 w t.f1 false e (by omega) (by omega) (by omega) (by omega) (by omega) ht.2
theorem mnN (a b : Nat) : mn (a : Int) (b : Int) = ((min a b : Nat) : Int) := by unfold mn; split <;> omega
theorem spec_StepAggregator_ev (a : S54) (g : Int) (h : asz a ≤ 1048576) : Ev (fun k => spec_StepAggregator.f k a.f0 a.f1 a.f2 g) (satup (stA a g)) := by
  refine Ev.u (fun _ => rfl) (Ev.b (spec_l22Copy_ev a h) (Ev.b (spec_IsValidAggregator_ev a h) (Ev.i (fun hv => ?_) (fun hv => Ev.p.r (by simp [stA, hv])))))
  have hA := vA_iff.1 hv
  unfold stA; rw [if_pos hv]
  obtain ⟨l, w, e⟩ := a
  dsimp only at hA ⊢
  cases l with
  | nil => exact Ev.t rfl Ev.p
  | cons t s =>
    have ht := hA.ts t (List.mem_cons_self ..)
    have hrl := vRows_len ht.1
    have hlen : s.length + 1 ≤ 40 := hA.len
    have hw : 0 ≤ w ∧ w ≤ 100000 := hA.wr
    dsimp only
    refine Ev.e (by simp; omega) (Ev.b (Ev.c (l1In_eq g _ _)) (Ev.i (fun hg => ?_) (fun hg => Ev.p.r (by simp [hg]))))
    rw [if_pos hg]
    obtain ⟨c1, c2, c3⟩ := gcap_b hg
    refine Ev.t (by rw [List.length_cons]; omega) (Ev.t (by rw [List.length_cons]; omega) ?_)
    simp only [show rd_T64 (t :: s) 0 = t from rfl, show (t :: s).drop (1 : Int).toNat = s from rfl]
    rw [c1]
    refine Ev.i (fun he => ?_) (fun he => ?_)
    · subst he
      have q := fld_yes (gcap g) t.f0 [] (by simp [dk])
      rw [List.nil_append, show dk [] [] = [] from rfl] at q
      have e1 : krA ⟨t :: s, w, true⟩ t g = (t.f0.take (eN (gcap g) [] t.f0), t.f0.drop (eN (gcap g) [] t.f0)) := q.1
      have e0 := spec_Early_l0 (gcap g) t.f0 (by omega) w t.f1 0 s [] true false (by omega) t.f0 [] rfl
      refine Ev.b (Ev.u (fun _ => rfl) e0) (Ev.p.r ?_)
      unfold stG
      rw [e1]
      have e2 := rgs_dk (t.f0.take (eN (gcap g) [] t.f0))
      have e3 : 3 * ((rgs (t.f0.take (eN (gcap g) [] t.f0))).length : Int) = ((dk [] (t.f0.take (eN (gcap g) [] t.f0))).length : Int) * 3 := by omega
      simp only [satup, e3, wrA, if_true]
    · have he' : e = false := by simpa using he
      subst he'
      have hdl := dk_len t.f0 []
      rw [List.length_nil] at hdl
      refine Ev.b (spec_DistinctKeys_ev t.f0 (by omega)) ?_
      rw [mnN]
      have q := fld_no (gcap g) t.f0 [] [] []
      rw [List.take_nil, List.nil_append, List.nil_append] at q
      have e1 : krA ⟨t :: s, w, false⟩ t g = (t.f0.filter (inH ((dk [] t.f0).take (gcap g))), t.f0.filter fun x => !inH ((dk [] t.f0).take (gcap g)) x) := q.1
      have e0 := spec_SA_l0 (dk [] t.f0) (min (gcap g) (dk [] t.f0).length) (by omega) (by omega) t.f0 (by omega) w t.f1 0 s [] (t :: s) (t :: s) false false false (by omega) (by omega) ht.2 t.f0 0 [] [] rfl (by omega) (by simp) (by simp)
      have eT : (dk [] t.f0).take (min (gcap g) (dk [] t.f0).length) = (dk [] t.f0).take (gcap g) := by
        rcases Nat.le_total (gcap g) (dk [] t.f0).length with hh | hh
        · rw [Nat.min_eq_left hh]
        · rw [Nat.min_eq_right hh, List.take_length, List.take_of_length_le hh]
      rw [eT, List.nil_append, List.nil_append] at e0
      refine e0.r ?_
      unfold stG
      rw [e1]
      have e2 := rgs_dk (t.f0.filter (inH ((dk [] t.f0).take (gcap g))))
      rw [q.2, List.length_take] at e2
      have e3 : 3 * ((rgs (t.f0.filter (inH ((dk [] t.f0).take (gcap g))))).length : Int) = ((min (gcap g) (dk [] t.f0).length : Nat) : Int) * 3 := by omega
      simp only [satup, e3]
theorem rst_len (early : Bool) (lv : Int) (R : List S75) : (rst early lv R).length ≤ 2 ∧ ((rst early lv R).map fun t => t.f0.length).sum = R.length := by
  have hf : ∀ l : List S75, (spl0 lv l).length + (spl1 lv l).length = l.length := by
    intro l
    induction l with
    | nil => rfl
    | cons x l ih =>
      unfold spl0 spl1 at *
      cases h : hb lv x
      · rw [List.filter_cons_of_neg (by simp [h]), List.filter_cons_of_pos (by simp [h])]; simp only [List.length_cons]; omega
      · rw [List.filter_cons_of_pos (by simp [h]), List.filter_cons_of_neg (by simp [h])]; simp only [List.length_cons]; omega
  have := hf R
  unfold rst
  split
  · simp; omega
  · split
    · simp
    · split
      · simp; omega
      · simp
theorem stA_sz (a : S54) (g : Int) : asz (stA a g).1 ≤ asz a + 2 ∧ (stA a g).2.1.length ≤ 10 := by
  unfold stA
  split
  · rename_i hv
    have hA := vA_iff.1 hv
    split
    · simp
    · rename_i t s hl
      split
      · obtain ⟨f1, f2, f3⟩ := krA_facts a t g
        have ht := hA.ts t (by rw [hl]; exact List.mem_cons_self ..)
        have hk : (rgs (krA a t g).1).length ≤ 10 := rgs_len _ (fun x hx => vRows_key ht.1 x (f2 x hx))
        obtain ⟨r1, r2⟩ := rst_len a.f2 t.f1 (krA a t g).2
        refine ⟨?_, hk⟩
        unfold asz
        rw [hl]
        simp only [stG, List.map_append, List.sum_append, List.length_append, List.map_cons, List.sum_cons, List.length_cons, r2]
        omega
      · simp
  · simp

theorem fld_mono (cap : Nat) (early : Bool) : ∀ (s : List S75) (ks : List Int) (kept rest : List S75) (o : Bool), kept.length ≤ (fld cap early ks kept rest o s).1.length
  | [], ks, kept, rest, o => by simp [fld]
  | y :: s, ks, kept, rest, o => by
    have A : ∀ (ks' : List Int) (o' : Bool), kept.length ≤ (fld cap early ks' (kept ++ [y]) rest o' s).1.length := by
      intro ks' o'
      have := fld_mono cap early s ks' (kept ++ [y]) rest o'
      rw [List.length_append] at this; omega
    have B : ∀ (ks' : List Int) (o' : Bool), kept.length ≤ (fld cap early ks' kept (rest ++ [y]) o' s).1.length := fun ks' o' => fld_mono cap early s ks' kept (rest ++ [y]) o'
    rw [fld]
    split
    · split
      · exact A _ _
      · split
        · exact A _ _
        · exact B _ _
    · exact B _ _
theorem krA_one (a : S54) (t : S64) (g : Int) (hg : 1 ≤ gcap g) (hn : t.f0.length ≠ 0) : 1 ≤ (krA a t g).1.length := by
  unfold krA
  cases hr : t.f0 with
  | nil => rw [hr] at hn; simp at hn
  | cons x s =>
    rw [fld, if_pos rfl, if_neg (by simp), if_pos (show ([] : List Int).length < gcap g by simp; omega)]
    have := fld_mono (gcap g) a.f2 s ([] ++ [x.f0]) ([] ++ [x]) [] true
    simpa using this
theorem andI_255 (a : Int) : 0 ≤ andI a 255 ∧ andI a 255 ≤ 255 := by
  unfold andI
  have h1 : (BitVec.ofInt 64 a &&& BitVec.ofInt 64 255).toNat ≤ 255 := by
    rw [BitVec.toNat_and]
    exact Nat.and_le_right
  rw [w64 (by omega) (by omega)]
  omega
def Rd (l : List Int) (p : Int) : Prop := 0 ≤ p ∧ p ≤ (l.length : Int) ∧ l.length ≤ 1099511627776
theorem l1Byte_ex (l : List Int) (p z : Int) (h : Rd l p) : ∃ v p' z', spec_l1Byte.f l p z = some (v, p', z') ∧ 0 ≤ v ∧ v ≤ 255 ∧ Rd l p' := by
  obtain ⟨h0, h1, h2⟩ := h
  unfold spec_l1Byte.f
  by_cases hp : p < (l.length : Int)
  · rw [if_pos hp, if_pos h0]
    refine ⟨_, _, _, rfl, (andI_255 _).1, (andI_255 _).2, ?_⟩
    rw [w64 (by omega) (by omega)]
    exact ⟨by omega, by omega, h2⟩
  · rw [if_neg hp]
    exact ⟨_, _, _, rfl, (andI_255 _).1, (andI_255 _).2, h0, h1, h2⟩
theorem l1Below_ex (l : List Int) (p z n : Int) (h : Rd l p) (hn : n ≤ 256) : ∃ v p' z', spec_l1Below.f l p z n = some (v, p', z') ∧ 0 ≤ v ∧ (v < n ∨ (n ≤ 0 ∧ v = 0)) ∧ Rd l p' := by
  unfold spec_l1Below.f
  by_cases h0 : n ≤ 0
  · rw [if_pos h0]; exact ⟨0, p, z, rfl, by omega, .inr ⟨h0, rfl⟩, h⟩
  · rw [if_neg h0, if_pos hn]
    obtain ⟨v, p', z', e, v0, v1, hr⟩ := l1Byte_ex l p z h
    rw [ob e, if_pos (by omega)]
    have e2 : Int.tmod v n = v % n := Int.tmod_eq_emod_of_nonneg v0
    refine ⟨_, _, _, rfl, ?_, .inl ?_, hr⟩
    · show 0 ≤ Int.tmod v n
      rw [e2]; exact Int.emod_nonneg _ (by omega)
    · show Int.tmod v n < n
      rw [e2]; exact Int.emod_lt_of_pos _ (by omega)
theorem l1Once_ex (l : List Int) (p z n : Int) (h : Rd l p) (hn : n ≤ 256) : ∃ b p' z', spec_l1Once.f l p z n = some (b, p', z') ∧ Rd l p' := by
  obtain ⟨v, p', z', e, -, -, hr⟩ := l1Below_ex l p z n h hn
  unfold spec_l1Once.f
  rw [ob e]
  exact ⟨_, _, _, rfl, hr⟩
theorem l1PickInt_ex (l : List Int) (p z : Int) (c : List Int) (h : Rd l p) (hc : 0 < c.length) (hn : c.length ≤ 256) : ∃ v p' z', spec_l1PickInt.f l p z c = some (v, p', z') ∧ v ∈ c ∧ Rd l p' := by
  obtain ⟨v, p', z', e, v0, v1, hr⟩ := l1Below_ex l p z (c.length : Int) h (by omega)
  unfold spec_l1PickInt.f
  rw [ob e]
  show ∃ v' q q', (if 0 ≤ v then (if v < (c.length : Int) then some (rdOf 0 c v, p', z') else none) else none) = some (v', q, q') ∧ _
  rw [if_pos v0, if_pos (by omega)]
  refine ⟨_, _, _, rfl, ?_, hr⟩
  obtain ⟨n, rfl⟩ : ∃ n : Nat, v = n := ⟨v.toNat, by omega⟩
  rw [rdI, List.getD_eq_getElem?_getD, List.getElem?_eq_getElem (by omega)]
  exact List.getElem_mem (by omega)
theorem l2Row_ex (l : List Int) (p z n : Int) (h : Rd l p) (hn : n ≤ 256) : ∃ a b c p' z', spec_l2Row.f l p z n = some (a, b, c, p', z') ∧ 0 ≤ a ∧ (a < n ∨ (n ≤ 0 ∧ a = 0)) ∧ 0 ≤ b ∧ b ≤ 99 ∧ 0 ≤ c ∧ c ≤ 3 ∧ Rd l p' := by
  obtain ⟨v1, p1, z1, e1, a0, a1, h1⟩ := l1Below_ex l p z n h hn
  obtain ⟨v2, p2, z2, e2, b0, b1, h2⟩ := l1Below_ex l p1 z1 100 h1 (by omega)
  obtain ⟨v3, p3, z3, e3, c0, h3⟩ := l1PickInt_ex l p2 z2 [0, 0, 1, 2, 3] h2 (by simp) (by simp)
  unfold spec_l2Row.f
  rw [ob e1, ob e2, ob e3]
  refine ⟨_, _, _, _, _, rfl, a0, a1, b0, by omega, ?_, ?_, h3⟩
  · simp at c0; show 0 ≤ v3; omega
  · simp at c0; show v3 ≤ 3; omega

theorem l2Rows_l0 (l : List Int) (n : Int) (hn : 1 ≤ n ∧ n ≤ 10) : ∀ (m : Nat) (R : List S75) (p z : Int), Rd l p → vAll R = true → R.length + m ≤ 1000 → ∃ R' p' z', Ev (fun k => spec_l2Rows.l0 k R n (m : Int) p z l) (R', p', z') ∧ vAll R' = true ∧ R'.length = R.length + m ∧ Rd l p' := by
  intro m
  induction m with
  | zero =>
    intro R p z h hv hR
    exact ⟨R, p, z, Ev.s (fun k => by rw [spec_l2Rows.l0]) (Ev.e (by omega) Ev.p), hv, rfl, h⟩
  | succ m ih =>
    intro R p z h hv hR
    obtain ⟨a, b, c, p', z', e, a0, a1, b0, b1, c0, c1, hr⟩ := l2Row_ex l p z n h (by omega)
    have hv' : vAll (R ++ [⟨a, b, c⟩]) = true := by
      unfold vAll at hv ⊢
      rw [List.all_append, hv]
      simp [vRow, inB]; omega
    obtain ⟨R', p2, z2, e2, v2, l2, r2⟩ := ih (R ++ [⟨a, b, c⟩]) p' z' hr hv' (by simp; omega)
    refine ⟨R', p2, z2, ?_, v2, by rw [l2]; simp; omega, r2⟩
    refine Ev.s (fun k => by rw [spec_l2Rows.l0]) ?_
    rw [show wrap64 (((m + 1 : Nat) : Int) - 1) = (m : Int) by rw [w64 (by omega) (by omega)]; omega]
    refine Ev.t (by omega) (Ev.b (Ev.c e) ?_)
    exact Ev.t (by omega) e2
theorem l2Rows_ex (l : List Int) (p z n : Int) (h : Rd l p) (hn : 0 ≤ n ∧ n ≤ 100) : ∃ R p' z', Ev (fun k => spec_l2Rows.f k l p z n) (R, p', z') ∧ vAll R = true ∧ (R.length : Int) ≤ n ∧ Rd l p' := by
  obtain ⟨v1, p1, z1, e1, m1, h1⟩ := l1PickInt_ex l p z [1, 2, 4, 10] h (by simp) (by simp)
  obtain ⟨v2, p2, z2, e2, b0, b1, h2⟩ := l1Below_ex l p1 z1 (n + 1) h1 (by omega)
  have hv : 1 ≤ v1 ∧ v1 ≤ 10 := by simp at m1; omega
  obtain ⟨w, rfl⟩ : ∃ w : Nat, v2 = w := ⟨v2.toNat, by omega⟩
  obtain ⟨R, p', z', e, hvR, hl, hr⟩ := l2Rows_l0 l v1 hv w [] p2 z2 h2 rfl (by simp; omega)
  refine ⟨R, p', z', Ev.u (fun _ => rfl) (Ev.b (Ev.c e1) ?_), hvR, by rw [hl]; simp; omega, hr⟩
  rw [w64 (x := n + 1) (by omega) (by omega)]
  exact Ev.b (Ev.c e2) e
theorem l2Any_ex (l : List Int) (p z : Int) (h : Rd l p) : ∃ a b c p' z', spec_l2Any.f l p z = some (a, b, c, p', z') ∧ Rd l p' := by
  obtain ⟨a, b, c, p1, z1, e1, -, -, -, -, -, -, h1⟩ := l2Row_ex l p z 10 h (by omega)
  obtain ⟨v, p2, z2, e2, -, -, h2⟩ := l1Below_ex l p1 z1 8 h1 (by omega)
  unfold spec_l2Any.f
  rw [ob e1, ob e2]
  dsimp only
  by_cases k0 : v = 0
  · obtain ⟨w, p3, z3, e3, -, h3⟩ := l1PickInt_ex l p2 z2 [-1, 10] h2 (by simp) (by simp)
    rw [if_pos k0, ob e3]; exact ⟨_, _, _, _, _, rfl, h3⟩
  rw [if_neg k0]
  by_cases k1 : v = 1
  · obtain ⟨w, p3, z3, e3, -, h3⟩ := l1PickInt_ex l p2 z2 [-1, 100, 99] h2 (by simp) (by simp)
    rw [if_pos k1, ob e3]; exact ⟨_, _, _, _, _, rfl, h3⟩
  rw [if_neg k1]
  by_cases k2 : v = 2
  · obtain ⟨w, p3, z3, e3, -, h3⟩ := l1PickInt_ex l p2 z2 [-1, 4] h2 (by simp) (by simp)
    rw [if_pos k2, ob e3]; exact ⟨_, _, _, _, _, rfl, h3⟩
  rw [if_neg k2]; exact ⟨_, _, _, _, _, rfl, h2⟩
theorem l2Bent_ex (l : List Int) (p z n : Int) (h : Rd l p) (hn : 0 ≤ n ∧ n ≤ 100) : ∃ R p' z', Ev (fun k => spec_l2Bent.f k l p z n) (R, p', z') ∧ (R.length : Int) ≤ n + 1 ∧ Rd l p' := by
  obtain ⟨R, p1, z1, e1, -, hl, h1⟩ := l2Rows_ex l p z n h hn
  obtain ⟨b, p2, z2, e2, h2⟩ := l1Once_ex l p1 z1 14 h1 (by omega)
  cases b with
  | true =>
    obtain ⟨a, b, c, p3, z3, e3, h3⟩ := l2Any_ex l p2 z2 h2
    refine ⟨R ++ [⟨a, b, c⟩], p3, z3, Ev.u (fun _ => rfl) (Ev.b e1 (Ev.b (Ev.c e2) (Ev.t rfl (Ev.b (Ev.c e3) ?_)))), by simp; omega, h3⟩
    exact Ev.t (by show R.length < _; omega) Ev.p
  | false => exact ⟨R, p2, z2, Ev.u (fun _ => rfl) (Ev.b e1 (Ev.b (Ev.c e2) (Ev.e (by simp) Ev.p))), by omega, h2⟩

theorem l1New_ev (l : List Int) (hl : l.length ≤ 1048576) : ∃ z', Ev (fun k => spec_l1New.f k l) (0, z') := by
  have J : ∀ z : Int, Ev (fun k => spec_l1New.j0 k z l) (0, z) := fun z => Ev.s (fun k => by rw [spec_l1New.j0]) Ev.p
  have L : ∀ (s : List Int) (i : Nat) (z : Int), l.drop i = s → ∃ z', Ev (fun k => spec_l1New.l0 k z (i : Int) l) (0, z') := by
    intro s
    induction s with
    | nil =>
      intro i z hd
      have := drop_nil' hd
      exact ⟨z, Ev.s (fun k => by rw [spec_l1New.l0]) (Ev.e (by omega) (J z))⟩
    | cons x t ih =>
      intro i z hd
      obtain ⟨hi, hd', hx, -⟩ := drop_cons' hd
      by_cases h4 : (i : Int) < 4000
      · obtain ⟨z', e⟩ := ih (i + 1) _ hd'
        refine ⟨z', Ev.s (fun k => by rw [spec_l1New.l0]) ?_⟩
        rw [w64s hi (by omega)]
        exact Ev.t (by omega) (Ev.t h4 (Ev.t (by omega) e))
      · exact ⟨z, Ev.s (fun k => by rw [spec_l1New.l0]) (Ev.t (by omega) (Ev.e h4 (J z)))⟩
  obtain ⟨z', e⟩ := L l 0 _ rfl
  exact ⟨z', Ev.u (fun _ => rfl) e⟩
theorem Rd0 (l : List Int) (hl : l.length ≤ 1048576) : Rd l 0 := ⟨by omega, by omega, by omega⟩
theorem fm_split {α β : Type} (p : α → Bool) (f : α → List β) : ∀ l : List α, ((l.filter p).flatMap f ++ (l.filter fun x => !p x).flatMap f).Perm (l.flatMap f)
  | [] => List.Perm.refl _
  | x :: l => by
    have ih := fm_split p f l
    cases h : p x with
    | true =>
      rw [List.filter_cons_of_pos h, List.filter_cons_of_neg (by simp [h]), List.flatMap_cons, List.flatMap_cons, List.append_assoc]
      exact List.Perm.append_left _ ih
    | false =>
      rw [List.filter_cons_of_neg (by simp [h]), List.filter_cons_of_pos (by simp [h]), List.flatMap_cons, List.flatMap_cons]
      have h2 : ((l.filter p).flatMap f ++ (f x ++ (l.filter fun x => !p x).flatMap f)).Perm (f x ++ ((l.filter p).flatMap f ++ (l.filter fun x => !p x).flatMap f)) := by
        rw [← List.append_assoc, ← List.append_assoc]
        exact List.Perm.append_right _ List.perm_append_comm
      exact h2.trans (List.Perm.append_left _ ih)
theorem eqRows_refl (a : List S75) : eqRows a a = true := eqRows_iff.2 rfl
theorem big_eq (l : List Int) : laws_big.f l = some (decide ((l.length : Int) > 1048576)) := rfl

theorem l11Grant_ex (l : List Int) (p z : Int) (h : Rd l p) : ∃ g p' z', spec_l11Grant.f l p z = some (g, p', z') ∧ Rd l p' := by
  obtain ⟨b, p1, z1, e1, h1⟩ := l1Once_ex l p z 14 h (by omega)
  unfold spec_l11Grant.f
  rw [ob e1]
  cases b with
  | true =>
    obtain ⟨w, p3, z3, e3, -, h3⟩ := l1PickInt_ex l p1 z1 [7, 61] h1 (by simp) (by simp)
    dsimp only
    rw [if_pos rfl, ob e3]; exact ⟨_, _, _, rfl, h3⟩
  | false =>
    obtain ⟨w, p3, z3, e3, -, h3⟩ := l1PickInt_ex l p1 z1 [8, 8, 9, 12, 20, 60] h1 (by simp) (by simp)
    dsimp only
    rw [if_neg (by simp), ob e3]; exact ⟨_, _, _, rfl, h3⟩
def eqGTs : List S64 → List S64 → Bool
  | [], [] => true
  | x :: a, y :: b => decide (x.f1 = y.f1) && (eqRows x.f0 y.f0 && eqGTs a b)
  | _, _ => false
def eqAg (a b : S54) : Bool := decide (a.f1 = b.f1) && ((a.f2 == b.f2) && (decide (a.f0.length = b.f0.length) && eqGTs a.f0 b.f0))
theorem spec_EqualAggregators_evG (a b : S54) (h : asz a ≤ 1048576) : Ev (fun k => spec_EqualAggregators.f k a.f0 a.f1 a.f2 b.f0 b.f1 b.f2) (eqAg a b) := by
  have hl : a.f0.length ≤ asz a := by unfold asz; omega
  unfold eqAg
  refine Ev.u (fun _ => rfl) (Ev.i (fun h0 => Ev.i (fun h1 => Ev.i (fun h2 => ?_) (fun h2 => Ev.p.r ?_)) (fun h1 => Ev.p.r ?_)) (fun h0 => Ev.p.r ?_))
  · have L : ∀ (s t : List S64) (i : Nat), a.f0.drop i = s → b.f0.drop i = t → Ev (fun k => spec_EqualAggregators.l0 k (i : Int) a.f1 a.f2 b.f1 b.f2 a.f0 b.f0) (eqGTs s t) := by
      intro s
      induction s with
      | nil =>
        intro t i hd he
        have := drop_nil' hd
        have ht : t = [] := by rw [← he]; exact List.drop_eq_nil_iff.2 (by omega)
        subst ht
        exact Ev.s (fun k => by rw [spec_EqualAggregators.l0]) (Ev.e (by omega) (Ev.p.r (by rfl)))
      | cons x s ih =>
        intro t i hd he
        obtain ⟨hi, hd', hx, -⟩ := drop_cons' hd
        have hm := asz_mem (a := a) (List.mem_of_mem_drop (by rw [hd]; exact List.mem_cons_self ..) : x ∈ a.f0)
        cases t with
        | nil => have := drop_nil' he; omega
        | cons y t =>
          obtain ⟨hj, he', hy, -⟩ := drop_cons' he
          refine Ev.s (fun k => by rw [spec_EqualAggregators.l0]) (Ev.t (by omega) (Ev.t (by omega) (Ev.t (by omega) ?_)))
          rw [rdGT, rdGT, hx, hy, w64s hi (by omega)]
          refine Ev.i (fun g0 => Ev.b (spec_l6Rows_ev x.f0 y.f0 (by omega)) (Ev.i (fun g => (ih t (i + 1) hd' he').r ?_) (fun g => Ev.p.r ?_))) (fun g0 => Ev.p.r ?_)
          · simp [eqGTs, g, g0]
          · simp [eqGTs, g]
          · simp [eqGTs, g0]
    refine (L a.f0 b.f0 0 rfl rfl).r ?_
    have h2' : a.f0.length = b.f0.length := by omega
    rw [h1]; simp [h0, h2']
  · have h2' : ¬ a.f0.length = b.f0.length := by omega
    simp [h2']
  · rw [Bool.not_eq_true] at h1; rw [h1]; simp
  · simp [h0]
theorem eqGTs_refl : ∀ l : List S64, eqGTs l l = true
  | [] => rfl
  | x :: l => by simp [eqGTs, eqRows_refl, eqGTs_refl l]
theorem eqAg_refl (a : S54) : eqAg a a = true := by simp [eqAg, eqGTs_refl]
theorem spec_EqualAggregators_ev (a : S54) (h : asz a ≤ 1048576) : Ev (fun k => spec_EqualAggregators.f k a.f0 a.f1 a.f2 a.f0 a.f1 a.f2) true := (spec_EqualAggregators_evG a a h).r (eqAg_refl a)
/-! drawn aggregators -/
theorem l22Agger_l0 (l : List Int) (c1 : Int) (c2 : Bool) (c0 : List S64) : ∀ (m : Nat) (a : S54) (p z : Int), Rd l p → asz a + m * 2 ≤ 1000 → m ≤ 100 → ∃ a' : S54, ∃ p' z', Ev (fun k => spec_l22Agger.l0 k (m : Int) p z c0 c1 c2 a.f0 a.f1 a.f2 l) (a'.f0, a'.f1, a'.f2, p', z') ∧ asz a' ≤ asz a + m * 2 + 6 ∧ Rd l p' := by
  intro m
  induction m with
  | zero =>
    intro a p z h ha hm
    have hl : a.f0.length ≤ asz a := by unfold asz; omega
    obtain ⟨v, p2, z2, e2, -, -, h2⟩ := l1Below_ex l p z 14 h (by omega)
    by_cases k0 : v = 0
    · obtain ⟨R, p3, z3, e3, hR, h3⟩ := l2Bent_ex l p2 z2 4 h2 (by omega)
      obtain ⟨w, p4, z4, e4, -, -, h4⟩ := l1Below_ex l p3 z3 7 h3 (by omega)
      refine ⟨⟨a.f0 ++ [⟨R, wrap64 (w - 1)⟩], a.f1, a.f2⟩, p4, z4, Ev.s (fun k => by rw [spec_l22Agger.l0]) ?_, by unfold asz; simp; omega, h4⟩
      exact Ev.e (by omega) (Ev.b (Ev.c e2) (Ev.t k0 (Ev.t (by omega) (Ev.b e3 (Ev.b (Ev.c e4) Ev.p)))))
    by_cases k1 : v = 1
    · obtain ⟨w, p3, z3, e3, -, h3⟩ := l1PickInt_ex l p2 z2 [-1, 100001] h2 (by simp) (by simp)
      refine ⟨⟨a.f0, w, a.f2⟩, p3, z3, Ev.s (fun k => by rw [spec_l22Agger.l0]) ?_, by unfold asz; dsimp only; omega, h3⟩
      exact Ev.e (by omega) (Ev.b (Ev.c e2) (Ev.e k0 (Ev.t k1 (Ev.b (Ev.c e3) Ev.p))))
    refine ⟨a, p2, z2, Ev.s (fun k => by rw [spec_l22Agger.l0]) ?_, by omega, h2⟩
    exact Ev.e (by omega) (Ev.b (Ev.c e2) (Ev.e k0 (Ev.e k1 Ev.p)))
  | succ m ih =>
    intro a p z h ha hm
    rw [Nat.succ_mul] at ha ⊢
    obtain ⟨w, p3, z3, e3, -, h3⟩ := l1PickInt_ex l p z [8, 9, 12] h (by simp) (by simp)
    have es := spec_StepAggregator_ev a w (by omega)
    have hz := (stA_sz a w).1
    obtain ⟨a', p', z', e, hs, hr⟩ := ih (stA a w).1 p3 z3 h3 (by omega) (by omega)
    refine ⟨a', p', z', Ev.s (fun k => by rw [spec_l22Agger.l0]) ?_, by omega, hr⟩
    rw [show wrap64 (((m + 1 : Nat) : Int) - 1) = (m : Int) by rw [w64 (by omega) (by omega)]; omega]
    exact Ev.t (by omega) (Ev.b (Ev.c e3) (Ev.b es e))
theorem l22Agger_ex (l : List Int) (p z : Int) (h : Rd l p) : ∃ a : S54, ∃ p' z', Ev (fun k => spec_l22Agger.f k l p z) (a.f0, a.f1, a.f2, p', z') ∧ asz a ≤ 1000 ∧ Rd l p' := by
  obtain ⟨A, p1, z1, e1, -, a1, h1⟩ := l2Rows_ex l p z 14 h (by omega)
  obtain ⟨b, p2, z2, e2, h2⟩ := l1Once_ex l p1 z1 3 h1 (by omega)
  have e4 := spec_NewAggregator_ev A b (by omega)
  have hs := newA_sz A b
  obtain ⟨w, p5, z5, e5, w0, w1, h5⟩ := l1Below_ex l p2 z2 4 h2 (by omega)
  obtain ⟨m, rfl⟩ : ∃ m : Nat, w = m := ⟨w.toNat, by omega⟩
  obtain ⟨a', p', z', e, hj, hr⟩ := l22Agger_l0 l 0 false [] m (newA A b) p5 z5 h5 (by omega) (by omega)
  exact ⟨a', p', z', Ev.u (fun _ => rfl) (Ev.b e1 (Ev.b (Ev.c e2) (Ev.b e4 (Ev.b (Ev.c e5) e)))), by omega, hr⟩
theorem w64_add (x y : Int) : wrap64 (wrap64 x + y) = wrap64 (x + y) := by unfold wrap64; omega
theorem w64_add' (x y : Int) : wrap64 (x + wrap64 y) = wrap64 (x + y) := by unfold wrap64; omega
theorem mn_assoc (a b c : Int) : mn (mn a b) c = mn a (mn b c) := by unfold mn; (repeat' split) <;> omega
theorem mx_assoc (a b c : Int) : mx (mx a b) c = mx a (mx b c) := by unfold mx; (repeat' split) <;> omega
theorem mn_comm (a b : Int) : mn a b = mn b a := by unfold mn; (repeat' split) <;> omega
theorem mx_comm (a b : Int) : mx a b = mx b a := by unfold mx; (repeat' split) <;> omega
theorem comb_assoc (a b c : S49) : comb (comb a b) c = comb a (comb b c) := by
  unfold comb
  dsimp only
  rw [w64_add, w64_add, w64_add', w64_add', mn_assoc, mx_assoc, Int.add_assoc, Int.add_assoc]
theorem comb_comm {a b : S49} (h : a.f0 = b.f0) : comb a b = comb b a := by
  unfold comb
  rw [h, mn_comm, mx_comm, Int.add_comm a.f1, Int.add_comm a.f2]
/-- What stands at a key. -/
def oc (o : Option S49) (g : S49) : Option S49 := some (match o with | none => g | some h => comb h g)
def glk (q : Int) (S : List S49) : Option S49 := S.find? fun x => x.f0 == q
def kf (q : Int) (L : List S49) : List S49 := L.filter fun x => x.f0 == q
theorem kf_app (q : Int) (a b : List S49) : kf q (a ++ b) = kf q a ++ kf q b := by simp [kf]
theorem glk_cons (q : Int) (x : S49) (S : List S49) : glk q (x :: S) = if x.f0 = q then some x else glk q S := by
  unfold glk
  by_cases h : x.f0 = q
  · rw [if_pos h]; exact List.find?_cons_of_pos (by simp [h])
  · rw [if_neg h]; exact List.find?_cons_of_neg (by simp [h])
theorem glk_none {q : Int} : ∀ {S : List S49}, (∀ y ∈ S, q < y.f0) → glk q S = none
  | [], _ => rfl
  | x :: S, h => by
    have hx := h x (List.mem_cons_self ..)
    rw [glk_cons, if_neg (by omega), glk_none (fun y hy => h y (List.mem_cons_of_mem _ hy))]
theorem glk_ins (q : Int) (g : S49) : ∀ S : List S49, S.Pairwise klt → glk q (ins g S) = if g.f0 = q then oc (glk q S) g else glk q S
  | [], _ => by
    rw [ins, glk_cons]
    by_cases h : g.f0 = q
    · rw [if_pos h, if_pos h]; rfl
    · rw [if_neg h, if_neg h]
  | x :: S, hs => by
    obtain ⟨h1, h2⟩ := List.pairwise_cons.1 hs
    have ih := glk_ins q g S h2
    rw [ins]
    by_cases c1 : x.f0 < g.f0
    · rw [if_pos c1, glk_cons, glk_cons, ih]
      by_cases h : x.f0 = q
      · rw [if_pos h, if_pos h, if_neg (by omega)]
      · rw [if_neg h, if_neg h]
    · rw [if_neg c1]
      by_cases c2 : x.f0 = g.f0
      · rw [if_pos c2, glk_cons, glk_cons]
        have e : (comb x g).f0 = x.f0 := rfl
        rw [e]
        by_cases h : x.f0 = q
        · rw [if_pos h, if_pos h, if_pos (by omega)]; rfl
        · rw [if_neg h, if_neg h, if_neg (by omega)]
      · rw [if_neg c2, glk_cons]
        by_cases h : g.f0 = q
        · rw [if_pos h, if_pos h]
          have hn : glk q (x :: S) = none := glk_none fun y hy => by
            rcases List.mem_cons.1 hy with hy | hy
            · rw [hy]; omega
            · have := h1 y hy; unfold klt at this; omega
          rw [hn]; rfl
        · rw [if_neg h, if_neg h]
theorem glk_mgs (q : Int) : ∀ (L S : List S49), S.Pairwise klt → glk q (mgs S L) = (kf q L).foldl oc (glk q S)
  | [], S, _ => rfl
  | g :: L, S, hs => by
    have ih := glk_mgs q L (ins g S) (ins_sorted g S hs)
    show glk q (mgs (ins g S) L) = _
    rw [ih, glk_ins q g S hs]
    unfold kf
    by_cases h : g.f0 = q
    · rw [if_pos h, List.filter_cons_of_pos (by simp [h]), List.foldl_cons]
    · rw [if_neg h, List.filter_cons_of_neg (by simp [h])]
theorem kf_key {q : Int} {L : List S49} {x : S49} (h : x ∈ kf q L) : x.f0 = q := by
  have := (List.mem_filter.1 h).2; simpa using this
theorem oc_key {q : Int} {o : Option S49} {g : S49} (ho : ∀ h, o = some h → h.f0 = q) (hg : g.f0 = q) : ∀ h, oc o g = some h → h.f0 = q := by
  intro h e
  unfold oc at e
  injection e with e
  cases o with
  | none => rw [← e]; exact hg
  | some x => rw [← e]; exact ho x rfl
theorem oc_swap {q : Int} {o : Option S49} {a b : S49} (ho : ∀ h, o = some h → h.f0 = q) (ha : a.f0 = q) (hb : b.f0 = q) : oc (oc o a) b = oc (oc o b) a := by
  cases o with
  | none => show some (comb a b) = some (comb b a); rw [comb_comm (ha.trans hb.symm)]
  | some h =>
    show some (comb (comb h a) b) = some (comb (comb h b) a)
    rw [comb_assoc, comb_assoc, comb_comm (ha.trans hb.symm)]
theorem foldl_oc_perm {q : Int} {l m : List S49} (p : l.Perm m) : ∀ o : Option S49, (∀ h, o = some h → h.f0 = q) → (∀ x ∈ l, x.f0 = q) → l.foldl oc o = m.foldl oc o := by
  induction p with
  | nil => intro o _ _; rfl
  | cons x p ih =>
    intro o ho hl
    rw [List.foldl_cons, List.foldl_cons]
    exact ih _ (oc_key ho (hl x (List.mem_cons_self ..))) (fun y hy => hl y (List.mem_cons_of_mem _ hy))
  | swap x y l =>
    intro o ho hl
    rw [List.foldl_cons, List.foldl_cons, List.foldl_cons, List.foldl_cons]
    rw [oc_swap ho (hl y (List.mem_cons_self ..)) (hl x (List.mem_cons_of_mem _ (List.mem_cons_self ..)))]
  | trans p1 p2 ih1 ih2 =>
    intro o ho hl
    rw [ih1 o ho hl, ih2 o ho (fun x hx => hl x (p1.symm.subset hx))]
theorem mgs_ext {S T : List S49} (hS : S.Pairwise klt) (hT : T.Pairwise klt) (h : ∀ q, glk q S = glk q T) : S = T := by
  induction S generalizing T with
  | nil =>
    cases T with
    | nil => rfl
    | cons y T =>
      have := h y.f0
      rw [glk_cons, if_pos rfl] at this; cases this
  | cons x S ih =>
    cases T with
    | nil =>
      have := h x.f0
      rw [glk_cons, if_pos rfl] at this; cases this
    | cons y T =>
      obtain ⟨s1, s2⟩ := List.pairwise_cons.1 hS
      obtain ⟨t1, t2⟩ := List.pairwise_cons.1 hT
      have n1 : ∀ q, q ≤ x.f0 → glk q S = none := fun q hq => glk_none fun z hz => by have := s1 z hz; unfold klt at this; omega
      have n2 : ∀ q, q ≤ y.f0 → glk q T = none := fun q hq => glk_none fun z hz => by have := t1 z hz; unfold klt at this; omega
      have e : x = y := by
        have k1 := h x.f0
        have k2 := h y.f0
        rw [glk_cons, if_pos rfl, glk_cons] at k1
        rw [glk_cons y.f0 y, if_pos rfl, glk_cons] at k2
        by_cases c : y.f0 = x.f0
        · rw [if_pos c] at k1; injection k1
        · rw [if_neg c] at k1
          rw [if_neg (fun e => c e.symm)] at k2
          by_cases d : x.f0 ≤ y.f0
          · rw [n2 x.f0 d] at k1; cases k1
          · rw [n1 y.f0 (by omega)] at k2; cases k2
      subst e
      rw [ih s2 t2 fun q => ?_]
      have := h q
      rw [glk_cons, glk_cons] at this
      by_cases c : x.f0 = q
      · rw [n1 q (by omega), n2 q (by omega)]
      · rw [if_neg c, if_neg c] at this; exact this
theorem mgs_perm {l m : List S49} (h : l.Perm m) : mgs [] l = mgs [] m := by
  refine mgs_ext (mgs_sorted l) (mgs_sorted m) fun q => ?_
  rw [glk_mgs q l [] List.Pairwise.nil, glk_mgs q m [] List.Pairwise.nil]
  exact foldl_oc_perm (q := q) (List.Perm.filter _ h) none (by intro h e; cases e) (fun x hx => kf_key hx)
theorem kf_sorted (q : Int) : ∀ S : List S49, S.Pairwise klt → kf q S = (glk q S).toList
  | [], _ => rfl
  | x :: S, h => by
    obtain ⟨h1, h2⟩ := List.pairwise_cons.1 h
    have ih := kf_sorted q S h2
    rw [glk_cons]
    unfold kf at ih ⊢
    by_cases c : x.f0 = q
    · rw [List.filter_cons_of_pos (by simp [c]), if_pos c, ih]
      rw [glk_none fun z hz => by have := h1 z hz; unfold klt at this; omega]; rfl
    · rw [List.filter_cons_of_neg (by simp [c]), if_neg c, ih]
/-- Merged first or not: it is the same for what comes behind. -/
theorem foldl_oc_some (h : S49) : ∀ (L : List S49) (g : S49), (g :: L).foldl oc (some h) = some (comb h ((L.foldl oc (some g)).getD g)) ∧ ∃ r, L.foldl oc (some g) = some r
  | [], g => ⟨rfl, g, rfl⟩
  | x :: L, g => by
    obtain ⟨e, r, hr⟩ := foldl_oc_some h L (comb g x)
    have e1 : (x :: L).foldl oc (some g) = L.foldl oc (some (comb g x)) := rfl
    refine ⟨?_, r, by rw [e1, hr]⟩
    have e2 : (g :: x :: L).foldl oc (some h) = (comb g x :: L).foldl oc (some h) := by
      show L.foldl oc (some (comb (comb h g) x)) = L.foldl oc (some (comb h (comb g x)))
      rw [comb_assoc]
    rw [e2, e, e1, hr]; rfl
theorem foldl_once (o : Option S49) (L : List S49) : (L.foldl oc none).toList.foldl oc o = L.foldl oc o := by
  cases L with
  | nil => rfl
  | cons g L =>
    have e1 : (g :: L).foldl oc none = L.foldl oc (some g) := rfl
    rw [e1]
    cases o with
    | none =>
      obtain ⟨-, r, hr⟩ := foldl_oc_some g L g
      show _ = L.foldl oc (some g)
      rw [hr]; rfl
    | some h =>
      obtain ⟨e, r, hr⟩ := foldl_oc_some h L g
      rw [e, hr]; rfl
theorem mgs_once (A B C : List S49) : mgs [] (A ++ (mgs [] B ++ C)) = mgs [] (A ++ (B ++ C)) := by
  refine mgs_ext (mgs_sorted _) (mgs_sorted _) fun q => ?_
  rw [glk_mgs q _ [] List.Pairwise.nil, glk_mgs q _ [] List.Pairwise.nil]
  rw [kf_app, kf_app, kf_app, kf_app, List.foldl_append, List.foldl_append, List.foldl_append, List.foldl_append]
  rw [kf_sorted q _ (mgs_sorted B), glk_mgs q B [] List.Pairwise.nil]
  rw [show glk q [] = none from rfl, foldl_once]
/-! counts -/
def cnt (L : List S49) : Int := (L.map (·.f1)).sum
theorem cnt_cons (x : S49) (L : List S49) : cnt (x :: L) = x.f1 + cnt L := by simp [cnt]
theorem cnt_ins (g : S49) (hg : 0 ≤ g.f1) : ∀ S : List S49, (∀ x ∈ S, 0 ≤ x.f1) → cnt S + g.f1 ≤ 1000000000 → cnt (ins g S) = cnt S + g.f1 ∧ ∀ x ∈ ins g S, 0 ≤ x.f1
  | [], _, _ => by
    rw [ins]
    exact ⟨by simp [cnt], fun x hx => by rw [List.mem_singleton.1 hx]; exact hg⟩
  | x :: S, h, hb => by
    have hx := h x (List.mem_cons_self ..)
    have hS := fun y hy => h y (List.mem_cons_of_mem _ hy)
    have hp : 0 ≤ cnt S := by
      clear hb
      induction S with
      | nil => simp [cnt]
      | cons y S ih => rw [cnt_cons]; have := hS y (List.mem_cons_self ..); have := ih (fun z hz => by rcases List.mem_cons.1 hz with hz | hz; exact h z (by rw [hz]; exact List.mem_cons_self ..); exact h z (List.mem_cons_of_mem _ (List.mem_cons_of_mem _ hz))) (fun z hz => hS z (List.mem_cons_of_mem _ hz)); omega
    rw [cnt_cons] at hb
    have ih := cnt_ins g hg S hS (by omega)
    rw [ins]
    by_cases c1 : x.f0 < g.f0
    · rw [if_pos c1, cnt_cons, cnt_cons, ih.1]
      refine ⟨by omega, fun y hy => ?_⟩
      rcases List.mem_cons.1 hy with hy | hy
      · rw [hy]; exact hx
      · exact ih.2 y hy
    · rw [if_neg c1]
      by_cases c2 : x.f0 = g.f0
      · rw [if_pos c2, cnt_cons, cnt_cons]
        have e : (comb x g).f1 = x.f1 + g.f1 := w64 (by omega) (by omega)
        rw [e]
        refine ⟨by omega, fun y hy => ?_⟩
        rcases List.mem_cons.1 hy with hy | hy
        · rw [hy, e]; omega
        · exact hS y hy
      · rw [if_neg c2, cnt_cons, cnt_cons]
        refine ⟨by omega, fun y hy => ?_⟩
        rcases List.mem_cons.1 hy with hy | hy
        · rw [hy]; exact hg
        · exact h y hy
theorem cnt_nn : ∀ L : List S49, (∀ x ∈ L, 0 ≤ x.f1) → 0 ≤ cnt L
  | [], _ => by simp [cnt]
  | x :: L, h => by
    rw [cnt_cons]; have := h x (List.mem_cons_self ..); have := cnt_nn L (fun y hy => h y (List.mem_cons_of_mem _ hy)); omega
theorem cnt_mgs : ∀ (L S : List S49), (∀ x ∈ S, 0 ≤ x.f1) → (∀ x ∈ L, 0 ≤ x.f1) → cnt S + cnt L ≤ 1000000000 → cnt (mgs S L) = cnt S + cnt L ∧ ∀ x ∈ mgs S L, 0 ≤ x.f1
  | [], S, hS, _, _ => ⟨by simp [mgs, cnt], hS⟩
  | g :: L, S, hS, hL, hb => by
    have hg := hL g (List.mem_cons_self ..)
    have hL' := fun y hy => hL y (List.mem_cons_of_mem _ hy)
    have hn := cnt_nn L hL'
    rw [cnt_cons] at hb ⊢
    obtain ⟨i1, i2⟩ := cnt_ins g hg S hS (by omega)
    obtain ⟨j1, j2⟩ := cnt_mgs L (ins g S) i2 hL' (by omega)
    exact ⟨by show cnt (mgs (ins g S) L) = _; omega, j2⟩
theorem cnt_gfr : ∀ l : List S75, cnt (l.map gfr) = l.length
  | [] => rfl
  | x :: l => by rw [List.map_cons, cnt_cons, cnt_gfr l, List.length_cons]; show (1 : Int) + _ = _; omega
theorem cnt_rgs (l : List S75) (hl : l.length ≤ 1000000) : cnt (rgs l) = l.length ∧ ∀ x ∈ rgs l, 0 ≤ x.f1 := by
  have h : ∀ x ∈ l.map gfr, 0 ≤ x.f1 := fun x hx => by
    obtain ⟨r, -, rfl⟩ := List.mem_map.1 hx
    show (0 : Int) ≤ 1; omega
  have e := cnt_gfr l
  obtain ⟨h1, h2⟩ := cnt_mgs (l.map gfr) [] (by simp) h (by rw [e]; simp [cnt]; omega)
  rw [e] at h1
  exact ⟨by unfold rgs; rw [h1]; simp [cnt], h2⟩

theorem fld_perm (cap : Nat) (early : Bool) : ∀ (s : List S75) (ks : List Int) (kept rest : List S75) (o : Bool), ((fld cap early ks kept rest o s).1 ++ (fld cap early ks kept rest o s).2).Perm ((kept ++ rest) ++ s)
  | [], ks, kept, rest, o => by simp [fld]
  | x :: s, ks, kept, rest, o => by
    have A : ∀ ks' o', ((fld cap early ks' (kept ++ [x]) rest o' s).1 ++ (fld cap early ks' (kept ++ [x]) rest o' s).2).Perm ((kept ++ rest) ++ x :: s) := fun ks' o' => by
      refine (fld_perm cap early s ks' (kept ++ [x]) rest o').trans ?_
      have : ((kept ++ [x]) ++ rest).Perm ((kept ++ rest) ++ [x]) := by
        rw [List.append_assoc, List.append_assoc]
        exact List.Perm.append_left _ List.perm_append_comm
      refine (List.Perm.append_right s this).trans ?_
      rw [List.append_assoc _ [x] s]; exact List.Perm.refl _
    have B : ∀ ks' o', ((fld cap early ks' kept (rest ++ [x]) o' s).1 ++ (fld cap early ks' kept (rest ++ [x]) o' s).2).Perm ((kept ++ rest) ++ x :: s) := fun ks' o' => by
      refine (fld_perm cap early s ks' kept (rest ++ [x]) o').trans ?_
      rw [← List.append_assoc kept rest [x], List.append_assoc _ [x] s]; exact List.Perm.refl _
    rw [fld]
    split
    · split
      · exact A _ _
      · split
        · exact A _ _
        · exact B _ _
    · exact B _ _
theorem krA_perm (a : S54) (t : S64) (g : Int) : ((krA a t g).1 ++ (krA a t g).2).Perm t.f0 := by
  have := fld_perm (gcap g) a.f2 t.f0 [] [] [] true
  simpa [krA] using this
def rwG (l : List S64) : List S75 := l.flatMap (·.f0)
theorem rst_rw (early : Bool) (lv : Int) (R : List S75) : (rwG (rst early lv R)).Perm R := by
  unfold rst rwG
  split
  · rename_i h; rw [List.eq_nil_of_length_eq_zero h]; exact List.Perm.refl _
  · split
    · simp
    · split
      · simp only [List.flatMap_cons, List.flatMap_nil, List.append_nil]
        have := fm_split (hb lv) (fun x => [x]) R
        simpa [spl0, spl1, List.flatMap_singleton'] using this
      · simp
theorem dk_mem : ∀ (s : List S75) (D : List Int) (q : Int), q ∈ dk D s ↔ q ∈ D ∨ ∃ x ∈ s, x.f0 = q
  | [], D, q => by simp [dk]
  | x :: s, D, q => by
    rw [dk]
    by_cases h : D.contains x.f0 = true
    · rw [if_pos h, dk_mem s D q]
      rw [List.contains_iff_mem] at h
      constructor
      · rintro (k | ⟨y, hy, k⟩)
        · exact .inl k
        · exact .inr ⟨y, List.mem_cons_of_mem _ hy, k⟩
      · rintro (k | ⟨y, hy, k⟩)
        · exact .inl k
        · rcases List.mem_cons.1 hy with hy | hy
          · subst hy; subst k; exact .inl h
          · exact .inr ⟨y, hy, k⟩
    · rw [if_neg h, dk_mem s _ q]
      constructor
      · rintro (k | ⟨y, hy, k⟩)
        · rcases List.mem_append.1 k with k | k
          · exact .inl k
          · exact .inr ⟨x, List.mem_cons_self .., (List.mem_singleton.1 k).symm⟩
        · exact .inr ⟨y, List.mem_cons_of_mem _ hy, k⟩
      · rintro (k | ⟨y, hy, k⟩)
        · exact .inl (List.mem_append_left _ k)
        · rcases List.mem_cons.1 hy with hy | hy
          · subst hy; subst k; exact .inl (List.mem_append_right _ (List.mem_singleton.2 rfl))
          · exact .inr ⟨y, hy, k⟩
theorem dk_nodup : ∀ (s : List S75) (D : List Int), D.Nodup → (dk D s).Nodup
  | [], D, h => h
  | x :: s, D, h => by
    rw [dk]
    by_cases c : D.contains x.f0 = true
    · rw [if_pos c]; exact dk_nodup s D h
    · rw [if_neg c]
      refine dk_nodup s _ ?_
      refine List.nodup_append.2 ⟨h, by simp, fun a ha b hb e => ?_⟩
      rw [List.mem_singleton.1 hb] at e
      rw [e] at ha
      exact c (List.contains_iff_mem.2 ha)
theorem nodup_sub_len : ∀ (l m : List Int), l.Nodup → (∀ x ∈ l, x ∈ m) → l.length ≤ m.length
  | [], m, _, _ => by simp
  | x :: l, m, h, hs => by
    obtain ⟨h1, h2⟩ := List.nodup_cons.1 h
    obtain ⟨m1, m2, rfl⟩ := List.append_of_mem (hs x (List.mem_cons_self ..))
    have := nodup_sub_len l (m1 ++ m2) h2 fun y hy => by
      have := hs y (List.mem_cons_of_mem _ hy)
      rcases List.mem_append.1 this with k | k
      · exact List.mem_append_left _ k
      · rcases List.mem_cons.1 k with k | k
        · rw [k] at hy; exact absurd hy h1
        · exact List.mem_append_right _ k
    rw [List.length_append] at this
    rw [List.length_cons, List.length_append, List.length_cons]; omega
def dn (R : List S75) : Nat := (dk [] R).length
theorem dn_sub {R S : List S75} (h : ∀ x ∈ R, x ∈ S) : dn R ≤ dn S := by
  refine nodup_sub_len _ _ (dk_nodup R [] List.nodup_nil) fun q hq => ?_
  rw [dk_mem] at hq ⊢
  rcases hq with hq | ⟨x, hx, hq⟩
  · simp at hq
  · exact .inr ⟨x, h x hx, hq⟩
/-- What is kept has at most as many keys as the grant has room; what is left, without early output, has two keys less. -/
theorem krA_keys (a : S54) (t : S64) (g : Int) : dn (krA a t g).1 ≤ gcap g := by
  unfold krA dn
  cases he : a.f2 with
  | false =>
    have h := fld_no (gcap g) t.f0 [] [] []
    rw [List.take_nil] at h
    rw [h.1]
    dsimp only
    rw [List.nil_append, h.2, List.length_take]; omega
  | true =>
    have h := fld_yes (gcap g) t.f0 [] (by simp [dk])
    rw [show dk [] ([] : List S75) = [] from rfl] at h
    rw [h.1]
    exact h.2.1
theorem krA_rest (a : S54) (t : S64) (g : Int) (hc : 2 ≤ gcap g) (he : a.f2 = false) (hR : (krA a t g).2.length ≠ 0) : dn (krA a t g).2 + 2 ≤ dn t.f0 := by
  have h := fld_no (gcap g) t.f0 [] [] []
  rw [List.take_nil] at h
  have e : (krA a t g).2 = t.f0.filter fun x => !inH ((dk [] t.f0).take (gcap g)) x := by
    unfold krA; rw [he, h.1]; simp
  rw [e] at hR ⊢
  have hlen : gcap g < (dk [] t.f0).length := by
    refine Nat.lt_of_not_le fun hle => hR ?_
    rw [List.take_of_length_le hle]
    have : (t.f0.filter fun x => !inH (dk [] t.f0) x) = [] := List.filter_eq_nil_iff.2 fun x hx => by
      have : x.f0 ∈ dk [] t.f0 := (dk_mem _ _ _).2 (.inr ⟨x, hx, rfl⟩)
      unfold inH; rw [List.contains_iff_mem.2 this]; simp
    rw [this]; rfl
  have hn : ((dk [] t.f0).take (gcap g) ++ dk [] (t.f0.filter fun x => !inH ((dk [] t.f0).take (gcap g)) x)).Nodup := by
    refine List.nodup_append.2 ⟨(dk_nodup t.f0 [] List.nodup_nil).sublist (List.take_sublist _ _), dk_nodup _ [] List.nodup_nil, fun x hx y hy e => ?_⟩
    subst e
    rw [dk_mem] at hy
    rcases hy with hy | ⟨r, hr, hy⟩
    · simp at hy
    · have := (List.mem_filter.1 hr).2
      unfold inH at this
      rw [hy, List.contains_iff_mem.2 hx] at this; simp at this
  have := nodup_sub_len _ (dk [] t.f0) hn fun q hq => by
    rcases List.mem_append.1 hq with hq | hq
    · exact List.mem_of_mem_take hq
    · rw [dk_mem] at hq ⊢
      rcases hq with hq | ⟨r, hr, hq⟩
      · simp at hq
      · exact .inr ⟨r, (List.mem_filter.1 hr).1, hq⟩
  rw [List.length_append, List.length_take] at this
  unfold dn; omega
theorem tCost_perm {l m : List S75} (h : l.Perm m) : tCost l = tCost m := by
  induction h with
  | nil => rfl
  | cons x p ih => rw [tCost_cons, tCost_cons, ih]
  | swap x y l => rw [tCost_cons, tCost_cons, tCost_cons, tCost_cons]; omega
  | trans _ _ h1 h2 => rw [h1, h2]
/-- What a task may still write. -/
def vG (t : S64) : Int := tCost t.f0 * ((dn t.f0 / 2 : Nat) : Int)
def vGs (l : List S64) : Int := (l.map vG).sum
theorem vGs_cons (t : S64) (l : List S64) : vGs (t :: l) = vG t + vGs l := by simp [vGs]
theorem vGs_app (a b : List S64) : vGs (a ++ b) = vGs a + vGs b := by simp [vGs]
theorem vG_nn (t : S64) : 0 ≤ vG t := Int.mul_nonneg (tCost_b _).1 (by omega)
theorem rst_v (lv : Int) (R : List S75) : vGs (rst false lv R) ≤ tCost R * ((dn R / 2 : Nat) : Int) := by
  have hc := (tCost_b R).1
  unfold rst
  split
  · exact Int.mul_nonneg hc (by omega)
  · rw [if_neg (by simp)]
    split
    · rw [vGs_cons, vGs_cons, show vGs [] = 0 from rfl]
      unfold vG
      dsimp only
      have h0 : dn (spl0 lv R) ≤ dn R := dn_sub fun x hx => (List.mem_filter.1 hx).1
      have h1 : dn (spl1 lv R) ≤ dn R := dn_sub fun x hx => (List.mem_filter.1 hx).1
      have hs : tCost (spl0 lv R) + tCost (spl1 lv R) = tCost R := flt_sum cRow (hb lv) R
      have m0 : tCost (spl0 lv R) * ((dn (spl0 lv R) / 2 : Nat) : Int) ≤ tCost (spl0 lv R) * ((dn R / 2 : Nat) : Int) := Int.mul_le_mul_of_nonneg_left (by omega) (tCost_b _).1
      have m1 : tCost (spl1 lv R) * ((dn (spl1 lv R) / 2 : Nat) : Int) ≤ tCost (spl1 lv R) * ((dn R / 2 : Nat) : Int) := Int.mul_le_mul_of_nonneg_left (by omega) (tCost_b _).1
      rw [← hs, Int.add_mul]; omega
    · rw [vGs_cons, show vGs [] = 0 from rfl]
      unfold vG; dsimp only; omega
def gS (l : List S64) : Nat := (l.map fun t => 2 * t.f0.length + 1).sum
theorem gS_cons (t : S64) (l : List S64) : gS (t :: l) = 2 * t.f0.length + 1 + gS l := by simp [gS]
theorem gS_app (a b : List S64) : gS (a ++ b) = gS a + gS b := by simp [gS]
theorem rst_gS (early : Bool) (lv : Int) (R : List S75) : gS (rst early lv R) ≤ 2 * R.length + 2 ∧ (R.length = 0 → gS (rst early lv R) = 0) := by
  have h2 := rst_len early lv R
  have hsum : gS (rst early lv R) = 2 * ((rst early lv R).map fun t => t.f0.length).sum + (rst early lv R).length := by
    generalize rst early lv R = l
    induction l with
    | nil => rfl
    | cons x l ih => rw [gS_cons, ih, List.map_cons, List.sum_cons, List.length_cons]; omega
  refine ⟨by omega, fun h0 => ?_⟩
  unfold rst; rw [if_pos h0]; rfl
structure GL (a a' : S54) (G : List S49) (u g : Int) : Prop where
  out : ∀ P : List S49, mgs [] ((P ++ G) ++ (rwG a'.f0).map gfr) = mgs [] (P ++ (rwG a.f0).map gfr)
  held : 0 ≤ u ∧ u ≤ g ∧ 3 * (G.length : Int) = u
  rows : ((sG a'.f0 : Nat) : Int) + cnt G = sG a.f0
  one : 0 < cnt G ∨ (a.f0.getD 0 z64).f0.length = 0
  steps : gS a'.f0 < gS a.f0
  early : a'.f2 = a.f2
  w0 : a.f2 = true → a'.f1 = a.f1
  w1 : a.f2 = false → a'.f1 + vGs a'.f0 ≤ a.f1 + vGs a.f0
theorem stG_law {a : S54} {t : S64} {s : List S64} {g : Int} (h : VA a) (hl : a.f0 = t :: s) (hg : inB g 8 60 = true) : GL a (stG a t s g).1 (stG a t s g).2.1 (stG a t s g).2.2.1 g := by
  obtain ⟨c1, c2, c3⟩ := gcap_b hg
  obtain ⟨f1, f2, f3⟩ := krA_facts a t g
  have hp := krA_perm a t g
  have ht := h.ts t (by rw [hl]; exact List.mem_cons_self ..)
  have hn := h.n
  rw [hl, sG_cons] at hn
  have hk := krA_keys a t g
  have hk1 : t.f0.length ≠ 0 → 1 ≤ (krA a t g).1.length := krA_one a t g (by omega)
  have hr := rst_rw a.f2 t.f1 (krA a t g).2
  have hrl := rst_len a.f2 t.f1 (krA a t g).2
  have hgs := rst_gS a.f2 t.f1 (krA a t g).2
  have hdk : (rgs (krA a t g).1).length = dn (krA a t g).1 := rgs_dk _
  have hcnt := (cnt_rgs (krA a t g).1 (by omega)).1
  have hgc : 3 * (gcap g : Int) ≤ g := by
    have := inB_iff'.1 hg
    have e : Int.tdiv g 3 = g / 3 := Int.tdiv_eq_ediv_of_nonneg (by omega)
    unfold gcap; rw [e]; omega
  unfold stG
  refine ⟨fun P => ?_, ⟨?_, ?_, rfl⟩, ?_, ?_, ?_, rfl, ?_, ?_⟩
  · dsimp only
    rw [hl]
    have e1 : rwG (rst a.f2 t.f1 (krA a t g).2 ++ s) = rwG (rst a.f2 t.f1 (krA a t g).2) ++ rwG s := by simp [rwG]
    have e2 : rwG (t :: s) = t.f0 ++ rwG s := by simp [rwG]
    rw [e1, e2, List.append_assoc, List.map_append, List.map_append]
    rw [show rgs (krA a t g).1 = mgs [] ((krA a t g).1.map gfr) from rfl, mgs_once]
    refine mgs_perm (List.Perm.append_left _ ?_)
    rw [← List.append_assoc]
    refine List.Perm.append_right _ ?_
    rw [← List.map_append]
    exact ((List.Perm.append_left _ hr).trans hp).map gfr
  · show (0 : Int) ≤ 3 * ((rgs (krA a t g).1).length : Int); omega
  · show 3 * ((rgs (krA a t g).1).length : Int) ≤ g; omega
  · dsimp only
    rw [hl, sG_cons, hcnt]
    have : sG (rst a.f2 t.f1 (krA a t g).2 ++ s) = (krA a t g).2.length + sG s := by
      unfold sG; rw [List.map_append, List.sum_append, hrl.2]
    rw [this]; omega
  · dsimp only
    rw [hcnt, hl]
    show 0 < ((krA a t g).1.length : Int) ∨ t.f0.length = 0
    by_cases c : t.f0.length = 0
    · exact .inr c
    · have := hk1 c; left; omega
  · dsimp only
    rw [hl, gS_app, gS_cons]
    by_cases h0 : (krA a t g).2.length = 0
    · rw [hgs.2 h0]; omega
    · have := hk1 (by omega); have := hgs.1; omega
  · intro he
    show wrA a.f2 a.f1 (krA a t g).2 = a.f1
    unfold wrA; rw [if_pos he]
  · intro he
    dsimp only
    rw [hl, vGs_app, vGs_cons, he]
    have hv := rst_v t.f1 (krA a t g).2
    have hct := tCost_perm hp
    rw [tCost_app] at hct
    have hcb := (tCost_b (krA a t g).1).1
    have hcr := (tCost_b (krA a t g).2).1
    have hct0 := (tCost_b t.f0).1
    unfold wrA
    rw [if_neg (by simp)]
    by_cases h0 : (krA a t g).2.length = 0
    · have e0 : (krA a t g).2 = [] := List.eq_nil_of_length_eq_zero h0
      rw [e0]
      have := vG_nn t
      rw [show rst false t.f1 [] = [] from rfl, show vGs [] = 0 from rfl, show tCost [] = 0 from rfl]
      omega
    · have hd := krA_rest a t g c2 he h0
      unfold vG
      have m1 : tCost (krA a t g).2 * ((dn (krA a t g).2 / 2 : Nat) : Int) + tCost (krA a t g).2 ≤ tCost (krA a t g).2 * ((dn t.f0 / 2 : Nat) : Int) := by
        have : tCost (krA a t g).2 * (((dn (krA a t g).2 / 2 : Nat) : Int) + 1) ≤ tCost (krA a t g).2 * ((dn t.f0 / 2 : Nat) : Int) := Int.mul_le_mul_of_nonneg_left (by omega) hcr
        rw [Int.mul_add, Int.mul_one] at this; exact this
      have m2 : tCost (krA a t g).2 * ((dn t.f0 / 2 : Nat) : Int) ≤ tCost t.f0 * ((dn t.f0 / 2 : Nat) : Int) := Int.mul_le_mul_of_nonneg_right (by omega) (by omega)
      omega
theorem stA_law {a : S54} {g : Int} (h : VA a) (hg : inB g 8 60 = true) (hl : a.f0.length ≠ 0) : GL a (stA a g).1 (stA a g).2.1 (stA a g).2.2.1 g ∧ (stA a g).2.2.2 = true := by
  cases hl' : a.f0 with
  | nil => rw [hl'] at hl; simp at hl
  | cons t s =>
    have e : stA a g = stG a t s g := by
      unfold stA; rw [if_pos (vA_iff.2 h)]; simp only [hl', if_pos hg]
    rw [e]
    exact ⟨stG_law h hl' hg, rfl⟩
theorem stA_no {a : S54} {g : Int} (h : (stA a g).2.2.2 = false) : stA a g = (a, [], 0, false) := by
  unfold stA at h ⊢
  by_cases hv : vA a = true
  · rw [if_pos hv] at h ⊢
    cases hl : a.f0 with
    | nil => rfl
    | cons t s =>
      rw [hl] at h
      dsimp only at h ⊢
      by_cases hg : inB g 8 60 = true
      · rw [if_pos hg] at h; exact absurd h (by simp [stG])
      · rw [if_neg hg]
  · rw [if_neg hv]
theorem stA_yes {a : S54} {g : Int} (h : (stA a g).2.2.2 = true) : VA a ∧ inB g 8 60 = true ∧ a.f0.length ≠ 0 := by
  unfold stA at h
  by_cases hv : vA a = true
  · rw [if_pos hv] at h
    cases hl : a.f0 with
    | nil => rw [hl] at h; simp at h
    | cons t s =>
      rw [hl] at h
      dsimp only at h
      by_cases hg : inB g 8 60 = true
      · exact ⟨vA_iff.1 hv, hg, by simp⟩
      · rw [if_neg hg] at h; simp at h
  · rw [if_neg hv] at h; simp at h
theorem sameGroups_ev (l : List S49) (hl : l.length ≤ 1048576) : Ev (fun k => laws_sameGroups.f k l l) true := by
  have L : ∀ (s : List S49) (i : Nat), l.drop i = s → Ev (fun k => laws_sameGroups.l0 k (i : Int) l l) true := by
    intro s
    induction s with
    | nil =>
      intro i hd
      have := drop_nil' hd
      exact Ev.s (fun k => by rw [laws_sameGroups.l0]) (Ev.e (by omega) Ev.p)
    | cons x s ih =>
      intro i hd
      obtain ⟨hi, hd', hx, -⟩ := drop_cons' hd
      refine Ev.s (fun k => by rw [laws_sameGroups.l0]) (Ev.t (by omega) (Ev.t (by omega) (Ev.t (by omega) (Ev.t (by simp) ?_))))
      rw [w64s hi (by omega)]
      exact ih (i + 1) hd'
  exact Ev.u (fun _ => rfl) (Ev.t rfl (L l 0 rfl))
theorem sameInts_ev (l : List Int) (hl : l.length ≤ 1048576) : Ev (fun k => laws_sameInts.f k l l) true := by
  have L : ∀ (s : List Int) (i : Nat), l.drop i = s → Ev (fun k => laws_sameInts.l0 k (i : Int) l l) true := by
    intro s
    induction s with
    | nil =>
      intro i hd
      have := drop_nil' hd
      exact Ev.s (fun k => by rw [laws_sameInts.l0]) (Ev.e (by omega) Ev.p)
    | cons x s ih =>
      intro i hd
      obtain ⟨hi, hd', hx, -⟩ := drop_cons' hd
      refine Ev.s (fun k => by rw [laws_sameInts.l0]) (Ev.t (by omega) (Ev.t (by omega) (Ev.t (by omega) (Ev.t (by simp) ?_))))
      rw [w64s hi (by omega)]
      exact ih (i + 1) hd'
  exact Ev.u (fun _ => rfl) (Ev.t rfl (L l 0 rfl))
theorem dn_le (l : List S75) : dn l ≤ l.length := by have := dk_len l []; unfold dn; simpa using this
theorem DrawDistinctKeys_ex (l : List Int) (hl : l.length ≤ 1048576) : ∃ A, Ev (fun k => spec_DrawDistinctKeys.f k l) A ∧ A.length ≤ 11 := by
  obtain ⟨z, e0⟩ := l1New_ev l hl
  obtain ⟨A, p2, z2, e2, a2, h2⟩ := l2Bent_ex l 0 z 10 (Rd0 l hl) (by omega)
  exact ⟨A, Ev.u (fun _ => rfl) (Ev.b e0 (Ev.b e2 Ev.p)), by omega⟩
theorem DrawStepAggregator_ex (l : List Int) (hl : l.length ≤ 1048576) : ∃ a : S54, ∃ g, Ev (fun k => spec_DrawStepAggregator.f k l) (a.f0, a.f1, a.f2, g) ∧ asz a ≤ 1000 := by
  obtain ⟨z, e0⟩ := l1New_ev l hl
  obtain ⟨a, p1, z1, e1, ha, h1⟩ := l22Agger_ex l 0 z (Rd0 l hl)
  obtain ⟨g, p2, z2, e2, -⟩ := l11Grant_ex l p1 z1 h1
  exact ⟨a, g, Ev.u (fun _ => rfl) (Ev.b e0 (Ev.b e1 (Ev.b (Ev.c e2) Ev.p))), ha⟩

theorem pure_FnAggregatorMemory (l0 : List Int) (G0 : (l0.length ≤ maxLen ∧ ∀ y ∈ l0, (Lit.int .u8 y).wf = true)) : ∃ k, laws_FnAggregatorMemory.f k l0 = some true := by
  refine Ev.ex ?_
  by_cases s0 : (l0.length : Int) > 1048576
  · exact Ev.u (fun _ => rfl) (Ev.b (Ev.c (big_eq l0)) (Ev.t (by simpa using s0) Ev.p))
  obtain ⟨A, g, ed, hA⟩ := DrawStepAggregator_ex l0 (by omega)
  obtain ⟨D, ed2, lD⟩ := DrawDistinctKeys_ex l0 (by omega)
  have ei := impl_StepAggregator_ev A g (by omega)
  have es := spec_StepAggregator_ev A g (by omega)
  have z := stA_sz A g
  have q1 := spec_EqualAggregators_ev (stA A g).1 (by omega)
  have q2 := sameGroups_ev (stA A g).2.1 (by omega)
  have v1 := impl_IsValidAggregator_ev A (by omega)
  have v2 := spec_IsValidAggregator_ev A (by omega)
  have d1 := impl_DistinctKeys_ev D (by omega)
  have d2 := spec_DistinctKeys_ev D (by omega)
  have d3 := sameInts_ev (dk [] D) (by have := dn_le D; unfold dn at this; omega)
  refine Ev.u (fun _ => rfl) (Ev.b (Ev.c (big_eq l0)) (Ev.e (by simpa using s0) (Ev.b ed (Ev.b ei (Ev.b es (Ev.b ed2 (Ev.t (by simp) (Ev.t rfl (Ev.b q1 (Ev.t rfl (Ev.b q2 (Ev.t rfl ?_))))))))))))
  refine Ev.b v1 (Ev.b v2 (Ev.t (by simp) (Ev.b d1 (Ev.b d2 (Ev.b d3 (Ev.t rfl (Ev.i (fun h => ?_) (fun h => ?_))))))))
  · have h' : (stA A g).2.2.2 = true := h
    obtain ⟨a1, a2, a3⟩ := stA_yes h'
    obtain ⟨L, -⟩ := stA_law a1 a2 a3
    have hn := a1.n
    have hrows := L.rows
    have hone := L.one
    have hheld := L.held
    have hl := a1.len
    have hz : (stA A g).1.f0.length ≤ 1002 := by have := z.1; unfold asz at this hA; omega
    generalize (stA A g).2.2.1 = u at *
    -- the third loop: the counts of the groups
    have L2 : ∀ (s : List S49) (i : Nat) (c : Int), (stA A g).2.1.drop i = s → 0 ≤ c → c + cnt s = cnt (stA A g).2.1 → (∀ x ∈ s, 0 ≤ x.f1) → Ev (fun k => laws_FnAggregatorMemory.l2 k g (stA A g).2.1 u ((sG A.f0 : Nat) : Int) ((sG (stA A g).1.f0 : Nat) : Int) c (i : Int) A.f0 A.f1 A.f2) true := by
      intro s
      induction s with
      | nil =>
        intro i c hd hc hs _
        have := drop_nil' hd
        rw [show cnt [] = 0 from rfl, Int.add_zero] at hs
        refine Ev.s (fun k => by rw [laws_FnAggregatorMemory.l2]) ?_
        rw [w64 (x := ((stA A g).2.1.length : Int) * 3) (by omega) (by omega), w64 (x := ((sG (stA A g).1.f0 : Nat) : Int) + c) (by omega) (by omega)]
        refine Ev.e (by omega) (Ev.t hheld.2.1 (Ev.t (by omega) (Ev.t (by omega) (Ev.i (fun _ => Ev.p) (fun hc0 => Ev.t (by omega) (Ev.p.r ?_))))))
        rcases hone with k | k
        · omega
        · have : rd_T64 A.f0 0 = A.f0.getD 0 z64 := rfl
          rw [this, k]; rfl
      | cons x s ih =>
        intro i c hd hc hs hx0
        obtain ⟨hi, hd', hx, -⟩ := drop_cons' hd
        have hxx := hx0 x (List.mem_cons_self ..)
        have hs0 := cnt_nn s (fun y hy => hx0 y (List.mem_cons_of_mem _ hy))
        rw [cnt_cons] at hs
        refine Ev.s (fun k => by rw [laws_FnAggregatorMemory.l2]) (Ev.t (by omega) (Ev.t (by omega) ?_))
        rw [rdG, hx, w64s hi (by omega), w64 (x := c + x.f1) (by omega) (by omega)]
        exact ih (i + 1) (c + x.f1) hd' (by omega) (by omega) (fun y hy => hx0 y (List.mem_cons_of_mem _ hy))
    have hG0 : ∀ x ∈ (stA A g).2.1, 0 ≤ x.f1 := by
      unfold stA
      rw [if_pos (vA_iff.2 a1)]
      cases hl' : A.f0 with
      | nil => rw [hl'] at a3; simp at a3
      | cons t s =>
        dsimp only
        rw [if_pos a2]
        unfold stG
        have hk := krA_facts A t g
        have ht := vRows_len (a1.ts t (by rw [hl']; exact List.mem_cons_self ..)).1
        exact (cnt_rgs (krA A t g).1 (by omega)).2
    have L1 : ∀ (s : List S64) (i c : Nat), (stA A g).1.f0.drop i = s → c + sG s = sG (stA A g).1.f0 → Ev (fun k => laws_FnAggregatorMemory.l1 k g (stA A g).2.1 u ((sG A.f0 : Nat) : Int) (c : Int) 0 (i : Int) A.f0 A.f1 A.f2 (stA A g).1.f0 (stA A g).1.f1 (stA A g).1.f2) true := by
      intro s
      induction s with
      | nil =>
        intro i c hd hs
        have := drop_nil' hd
        refine Ev.s (fun k => by rw [laws_FnAggregatorMemory.l1]) ?_
        have hc : c = sG (stA A g).1.f0 := by rw [← hs]; simp [sG]
        rw [hc]
        exact Ev.e (by omega) (L2 (stA A g).2.1 0 0 rfl (by omega) (by omega) hG0)
      | cons x s ih =>
        intro i c hd hs
        obtain ⟨hi, hd', hx, -⟩ := drop_cons' hd
        rw [sG_cons] at hs
        have hcn := cnt_nn _ hG0
        refine Ev.s (fun k => by rw [laws_FnAggregatorMemory.l1]) (Ev.t (by omega) (Ev.t (by omega) ?_))
        rw [rdGT, hx, w64s hi (by omega), show wrap64 ((c : Int) + (x.f0.length : Int)) = ((c + x.f0.length : Nat) : Int) by rw [w64 (by omega) (by omega)]; rfl]
        exact ih (i + 1) _ hd' (by omega)
    have L0 : ∀ (s : List S64) (i c : Nat), A.f0.drop i = s → c + sG s = sG A.f0 → Ev (fun k => laws_FnAggregatorMemory.l0 k g (stA A g).2.1 u (c : Int) 0 0 (i : Int) A.f0 A.f1 A.f2 (stA A g).1.f0 (stA A g).1.f1 (stA A g).1.f2) true := by
      intro s
      induction s with
      | nil =>
        intro i c hd hs
        have := drop_nil' hd
        refine Ev.s (fun k => by rw [laws_FnAggregatorMemory.l0]) ?_
        have hc : c = sG A.f0 := by rw [← hs]; simp [sG]
        rw [hc]
        exact Ev.e (by omega) (L1 (stA A g).1.f0 0 0 rfl (by omega))
      | cons x s ih =>
        intro i c hd hs
        obtain ⟨hi, hd', hx, -⟩ := drop_cons' hd
        rw [sG_cons] at hs
        refine Ev.s (fun k => by rw [laws_FnAggregatorMemory.l0]) (Ev.t (by omega) (Ev.t (by omega) ?_))
        rw [rdGT, hx, w64s hi (by omega), show wrap64 ((c : Int) + (x.f0.length : Int)) = ((c + x.f0.length : Nat) : Int) by rw [w64 (by omega) (by omega)]; rfl]
        exact ih (i + 1) _ hd' (by omega)
    exact L0 A.f0 0 0 rfl (by omega)
  · have h' : (stA A g).2.2.2 = false := by simpa using h
    have e := stA_no h'
    have q3 := spec_EqualAggregators_ev A (by omega)
    dsimp only [satup]
    rw [e]
    exact Ev.b q3 (Ev.t rfl (Ev.p.r rfl))

end Go.Proofs.Ytgpencaijhbolaa.K
namespace Go.Proofs.Ytgpencaijhbolaa.fnAggregatorMemory
open Go Go.ChangeShapes Go.WideShapes Go.ChangeAt Go.RowKit Go.Proofs.Ytgpencaijhbolaa.K
open Go.ChangeMaps (open_string shut_string)
set_option linter.unusedVariables false
theorem own : ownKnob Try.prog.godebug = none := by kernel_rfl
theorem laidOut : laidOutB Try.prog = true := by kernel_rfl
set_option maxRecDepth 100000 in
theorem lifted (os : Os) (started : os.Started) (H : Type) (enc : TypeId × Value → H) :
    ReturnsInHanded {} Try.checked os 5 .any (Rows.fnAggregatorMemorySpec.pre6 enc Try.prog Try.f5 Rows.fnAggregatorMemoryRow.domain false) (Rows.fnAggregatorMemorySpec.post enc Try.prog Try.f5 false true false false) := by
  refine returnsInHanded_of_change_sized (C := Try.checked) own started (by kernel_rfl) Try.func5
    (ChangeSpec.witness6 (enc := enc) (C := Try.checked) false ⟨#[], #[.slice none 0 0], []⟩ 8 (by kernel_rfl) (by kernel_rfl) (by kernel_rfl) (by kernel_rfl)) ?_
  intro W base args ds gs before hval0 hW hcnd hsz0 _
  have hsz : (DataW.weightsEach Try.prog (Try.f5.params.toList ++ Rows.fnAggregatorMemorySpec.plain.varTypes Try.prog) (ds ++ gs)).all (· ≤ reachBytes) = true := hsz0
  have hval : ∀ (j : Nat) t v, Try.f5.params[j]? = some t → args[j]? = some v → Value.okWide Try.prog W .any base t v := hval0
  have hW' := hW
  obtain ⟨p, q, hA0, hV, rfl, hfz, hnd⟩ := hW
  have hA : DataW.TrodAll enc Try.prog W 0 (fun _ => true) true Try.f5.params.toList args.toList ds p := hA0
  rw [Try.params5] at hA hval hsz
  obtain ⟨v0, vs0, d0, ds0, p0, q0, hargs, rfl, rfl, h0, r0⟩ := trodAll_cons hA
  obtain ⟨rfl, rfl, rfl⟩ := trodAll_nil r0
  obtain rfl : args = #[v0] := by cases args; simp_all
  obtain ⟨rfl, rfl⟩ := trodVars_none hV
  have k0 := h0
  have lt0 : ∀ x ∈ p0, x.block < W.heap.size := by obtain ⟨m, hm⟩ := k0; exact DataW.trod_lt m _ _ _ hm
  obtain ⟨A0, len0, c0, rfl⟩ := okWide_slice Try.underlying22 (hval 0 22 v0 rfl rfl)
  obtain ⟨l0, rfl, F0, G0⟩ := slice_arg (opens_slice Try.underlying22 (by kernel_rfl) (by kernel_rfl) (opens_int Try.underlying5 (by kernel_rfl))) h0
  clear hA0 hval0 hsz0 hsz
  obtain ⟨k, hk⟩ := K.pure_FnAggregatorMemory l0 G0
  refine (law_calls (laws_FnAggregatorMemory.ok k l0 A0 c0 true hk) (facts_app F0 facts_nil)).mono fun e W' he => ?_
  obtain ⟨rfl, bel⟩ := he
  exact ⟨_, rfl, _, _, _, [], _, [], hW', trodAll_mk1 (shut_bool Try.underlying4 _), (trodAll_cons_mk (Below.trod laidOut (by kernel_rfl) (of_decide_eq_true (by kernel_rfl)) k0 bel lt0) trodAll_mk0), rfl, bel.frame _, fun h => by cases h⟩
theorem over : Rows.fnAggregatorMemoryRow.holds Try.pinned (OpenSpec.ofChange Rows.fnAggregatorMemorySpec) :=
  OpenClaim.holds_of_wide 5 Try.f5 rfl rfl rfl rfl rfl rfl rfl ⟨rfl, rfl, rfl, rfl, rfl⟩ rfl rfl rfl rfl rfl (by kernel_rfl) Try.func5 (by kernel_rfl)
    (of_decide_eq_true (by kernel_rfl)) (by unfold Func.isWrapper; first | (rw [if_pos (by decide +kernel)]; kernel_rfl) | (rw [if_neg (by decide +kernel)]; exact ⟨rfl, rfl⟩))
    (fun os started H enc _ => lifted os started H enc)
theorem proved : Rows.FnAggregatorMemorySaid := over
#print axioms proved
end Go.Proofs.Ytgpencaijhbolaa.fnAggregatorMemory
namespace Go.Proofs.Ytgpencaijhbolaa
/-- The row, under a short name, for the claim. -/
theorem fnAggregatorMemory_holds : Rows.FnAggregatorMemorySaid := fnAggregatorMemory.proved
end Go.Proofs.Ytgpencaijhbolaa
