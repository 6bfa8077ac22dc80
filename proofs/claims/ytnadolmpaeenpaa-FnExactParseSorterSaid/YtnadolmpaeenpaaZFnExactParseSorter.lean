/- FnExactParseSorter answers true at every input. -/
import Derived.Below
import Derived.Carry
import Derived.ChangeOld
import Derived.OpenShut
import Derived.ProofKit
import Derived.ShutString
import Derived.SizedLaws
import Derived.Test.YtnadolmpaeenpaaChecked
import Derived.Test.YtnadolmpaeenpaaRows
import Derived.WalkKit
import Derived.Test.YtnadolmpaeenpaaVFnExactParseSorterd
namespace Go.Proofs.Ytnadolmpaeenpaa.K
open Go Go.RowKit
set_option linter.unusedVariables false
set_option linter.unusedSimpArgs false
def Ev {α : Type} (f : Nat → Option α) (r : α) : Prop := ∃ K, ∀ k, K ≤ k → f k = some r
theorem Ev.p {α : Type} {r : α} : Ev (fun _ => some r) r := ⟨0, fun _ _ => rfl⟩
theorem Ev.c {α : Type} {o : Option α} {r : α} (h : o = some r) : Ev (fun _ => o) r := ⟨0, fun _ _ => h⟩
theorem Ev.b {α β : Type} {f : Nat → Option α} {g : Nat → α → Option β} {a : α} {r : β} (hf : Ev f a) (hg : Ev (fun k => g k a) r) : Ev (fun k => (f k).bind (g k)) r := by
  obtain ⟨K, h⟩ := hf; obtain ⟨L, h'⟩ := hg
  exact ⟨max K L, fun k hk => by show (f k).bind (g k) = some r; rw [h k (by omega)]; exact h' k (by omega)⟩
theorem Ev.t {α : Type} {p : Prop} [Decidable p] {f g : Nat → Option α} {r : α} (h : p) (hf : Ev f r) : Ev (fun k => if p then f k else g k) r := by
  obtain ⟨K, h'⟩ := hf
  exact ⟨K, fun k hk => by show (if p then f k else g k) = some r; rw [if_pos h]; exact h' k hk⟩
theorem Ev.e {α : Type} {p : Prop} [Decidable p] {f g : Nat → Option α} {r : α} (h : ¬ p) (hg : Ev g r) : Ev (fun k => if p then f k else g k) r := by
  obtain ⟨K, h'⟩ := hg
  exact ⟨K, fun k hk => by show (if p then f k else g k) = some r; rw [if_neg h]; exact h' k hk⟩
theorem Ev.i {α : Type} {p : Prop} [Decidable p] {f g : Nat → Option α} {r : α} (hf : p → Ev f r) (hg : ¬ p → Ev g r) : Ev (fun k => if p then f k else g k) r := by
  by_cases h : p
  · exact Ev.t h (hf h)
  · exact Ev.e h (hg h)
theorem Ev.s {α : Type} {L f : Nat → Option α} {r : α} (h : ∀ k, L (k + 1) = f k) (hf : Ev f r) : Ev L r := by
  obtain ⟨K, h'⟩ := hf
  refine ⟨K + 1, fun k hk => ?_⟩
  obtain ⟨m, rfl⟩ : ∃ m, k = m + 1 := ⟨k - 1, by omega⟩
  rw [h]; exact h' m (by omega)
theorem Ev.u {α : Type} {L f : Nat → Option α} {r : α} (h : ∀ k, L k = f k) (hf : Ev f r) : Ev L r := by
  obtain ⟨K, h'⟩ := hf
  exact ⟨K, fun k hk => by rw [h]; exact h' k hk⟩
theorem Ev.r {α : Type} {f : Nat → Option α} {r r' : α} (h : Ev f r) (e : r = r') : Ev f r' := e ▸ h
theorem Ev.r' {α : Type} {f g : Nat → Option α} {r r' : α} (h : Ev f r) (e1 : ∀ k, f k = g k) (e : r = r') : Ev g r' := by
  subst e; obtain ⟨K, h'⟩ := h
  exact ⟨K, fun k hk => by rw [← e1]; exact h' k hk⟩
theorem Ev.ex {α : Type} {f : Nat → Option α} {r : α} (h : Ev f r) : ∃ k, f k = some r := by
  obtain ⟨K, h'⟩ := h
  exact ⟨K, h' K (Nat.le_refl _)⟩
theorem drop_nil' {α : Type} {l : List α} {i : Nat} (h : l.drop i = []) : l.length ≤ i := List.drop_eq_nil_iff.1 h
theorem drop_cons' {α : Type} {l : List α} {i : Nat} {x : α} {t : List α} (h : l.drop i = x :: t) : i < l.length ∧ l.drop (i + 1) = t ∧ (∀ d, l.getD i d = x) ∧ l.length = i + 1 + t.length := by
  have hl := congrArg List.length h
  rw [List.length_drop, List.length_cons] at hl
  refine ⟨by omega, ?_, fun d => ?_, by omega⟩
  · rw [← List.drop_drop, h]; rfl
  · have : l[i]? = some x := by rw [← List.head?_drop, h]; rfl
    rw [List.getD_eq_getElem?_getD, this]; rfl
theorem w64 {x : Int} (h0 : -9223372036854775808 ≤ x) (h1 : x ≤ 9223372036854775807) : wrap64 x = x := by unfold wrap64; omega
theorem w64s {i n : Nat} (h : i < n) (hn : n ≤ 9223372036854775807) : wrap64 ((i : Int) + 1) = ((i + 1 : Nat) : Int) := by rw [w64 (by omega) (by omega)]; rfl
theorem maxLen_eq : maxLen = 9223372036854775807 := rfl
theorem wf64 {n : Int} (h : (Lit.int .i64 n).wf = true) : (-9223372036854775808 : Int) ≤ n ∧ n ≤ 9223372036854775807 := by
  simp [Lit.wf, IntKind.min, IntKind.max, IntKind.signed, IntKind.bits] at h
  exact h
theorem ob {α β : Type} {o : Option α} {a : α} {f : α → Option β} (h : o = some a) : o.bind f = f a := by subst h; rfl

def inB (n a b : Int) : Bool := decide (a ≤ n ∧ n ≤ b)
theorem within_eq (n a b : Int) : impl_within.f n a b = some (inB n a b) := by
  unfold impl_within.f inB; split <;> simp <;> omega
theorem l1In_eq (n a b : Int) : spec_l1In.f n a b = some (inB n a b) := by
  unfold spec_l1In.f inB; split <;> simp <;> omega
def vRow (a b c : Int) : Bool := inB a 0 9 && inB b 0 99 && inB c 0 3
theorem impl_IsValidRow_eq (a b c : Int) : impl_IsValidRow.f a b c = some (vRow a b c) := by
  unfold impl_IsValidRow.f vRow
  rw [within_eq, within_eq, within_eq, ob rfl]
  cases inB a 0 9
  · simp
  · rw [if_pos rfl, ob rfl]; cases inB b 0 99 <;> simp
theorem spec_IsValidRow_eq (a b c : Int) : spec_IsValidRow.f a b c = some (vRow a b c) := by
  unfold spec_IsValidRow.f vRow
  rw [l1In_eq, l1In_eq, l1In_eq, ob rfl]
  cases inB a 0 9
  · simp
  · rw [if_pos rfl, ob rfl]; cases inB b 0 99 <;> simp
def cRow (x : S72) : Int := if vRow x.f0 x.f1 x.f2 = true then 1 + x.f2 else 0
theorem cRow_b (x : S72) : 0 ≤ cRow x ∧ cRow x ≤ 4 := by
  unfold cRow
  by_cases h : vRow x.f0 x.f1 x.f2 = true
  · rw [if_pos h]; simp [vRow, inB] at h; omega
  · rw [if_neg h]; omega
theorem impl_RowCost_eq (x : S72) : impl_RowCost.f x.f0 x.f1 x.f2 = some (cRow x) := by
  unfold impl_RowCost.f cRow
  rw [impl_IsValidRow_eq, ob rfl]
  by_cases h : vRow x.f0 x.f1 x.f2 = true
  · rw [if_pos h, if_pos h]; simp [vRow, inB] at h; rw [w64 (by omega) (by omega)]
  · rw [if_neg h, if_neg h]
theorem spec_RowCost_eq (x : S72) : spec_RowCost.f x.f0 x.f1 x.f2 = some (cRow x) := by
  unfold spec_RowCost.f cRow
  rw [spec_IsValidRow_eq, ob rfl]
  by_cases h : vRow x.f0 x.f1 x.f2 = true
  · rw [if_pos h, if_pos h]; simp [vRow, inB] at h; rw [w64 (by omega) (by omega)]
  · rw [if_neg h, if_neg h]
def tCost (l : List S72) : Int := (l.map cRow).sum
theorem tCost_cons (x : S72) (l : List S72) : tCost (x :: l) = cRow x + tCost l := by simp [tCost]
theorem tCost_b : ∀ l : List S72, 0 ≤ tCost l ∧ tCost l ≤ 4 * l.length
  | [] => by simp [tCost]
  | x :: l => by have := tCost_b l; have := cRow_b x; rw [tCost_cons, List.length_cons]; omega
theorem rdR (l : List S72) (i : Nat) : rd_T72 l (i : Int) = l.getD i z72 := rfl
theorem impl_TotalCost_l0 (l : List S72) (hl : l.length ≤ 1152921504606846975) : ∀ (s : List S72) (i : Nat) (acc : Int), l.drop i = s → 0 ≤ acc → acc ≤ 4 * i → Ev (fun k => impl_TotalCost.l0 k acc (l.length : Int) (i : Int) l) (acc + tCost s) := by
  intro s
  induction s with
  | nil =>
    intro i acc hd h0 h1
    have := drop_nil' hd
    exact Ev.s (fun k => by rw [impl_TotalCost.l0]) (Ev.e (by omega) (Ev.p.r (by simp [tCost])))
  | cons x t ih =>
    intro i acc hd h0 h1
    obtain ⟨hi, hd', hx, -⟩ := drop_cons' hd
    have := cRow_b x
    refine Ev.s (fun k => by rw [impl_TotalCost.l0]) (Ev.t (by omega) (Ev.t (by omega) (Ev.t (by omega) ?_)))
    rw [rdR, hx]
    refine Ev.b (Ev.c (impl_RowCost_eq x)) ?_
    rw [w64s hi (by omega), w64 (by omega) (by omega)]
    exact (ih (i + 1) (acc + cRow x) hd' (by omega) (by omega)).r (by rw [tCost_cons]; omega)
theorem impl_TotalCost_ev (l : List S72) (hl : l.length ≤ 1152921504606846975) : Ev (fun k => impl_TotalCost.f k l) (tCost l) :=
  Ev.u (fun _ => rfl) ((impl_TotalCost_l0 l hl l 0 0 rfl (by omega) (by omega)).r (by omega))
theorem spec_TotalCost_l0 (l : List S72) (hl : l.length ≤ 1152921504606846975) : ∀ (s : List S72) (i : Nat) (acc : Int), l.drop i = s → 0 ≤ acc → acc ≤ 4 * i → Ev (fun k => spec_TotalCost.l0 k acc (i : Int) l) (acc + tCost s) := by
  intro s
  induction s with
  | nil =>
    intro i acc hd h0 h1
    have := drop_nil' hd
    exact Ev.s (fun k => by rw [spec_TotalCost.l0]) (Ev.e (by omega) (Ev.p.r (by simp [tCost])))
  | cons x t ih =>
    intro i acc hd h0 h1
    obtain ⟨hi, hd', hx, -⟩ := drop_cons' hd
    have := cRow_b x
    refine Ev.s (fun k => by rw [spec_TotalCost.l0]) (Ev.t (by omega) (Ev.t (by omega) ?_))
    rw [rdR, hx]
    refine Ev.b (Ev.c (spec_RowCost_eq x)) ?_
    rw [w64s hi (by omega), w64 (by omega) (by omega)]
    exact (ih (i + 1) (acc + cRow x) hd' (by omega) (by omega)).r (by rw [tCost_cons]; omega)
theorem spec_TotalCost_ev (l : List S72) (hl : l.length ≤ 1152921504606846975) : Ev (fun k => spec_TotalCost.f k l) (tCost l) :=
  Ev.u (fun _ => rfl) ((spec_TotalCost_l0 l hl l 0 0 rfl (by omega) (by omega)).r (by omega))
def vAll (l : List S72) : Bool := l.all fun x => vRow x.f0 x.f1 x.f2
theorem impl_allValid_l0 (l : List S72) (hl : l.length ≤ 1152921504606846975) : ∀ (s : List S72) (i : Nat), l.drop i = s → Ev (fun k => impl_allValid.l0 k (l.length : Int) (i : Int) l) (vAll s) := by
  intro s
  induction s with
  | nil =>
    intro i hd
    have := drop_nil' hd
    exact Ev.s (fun k => by rw [impl_allValid.l0]) (Ev.e (by omega) (Ev.p.r (by rfl)))
  | cons x t ih =>
    intro i hd
    obtain ⟨hi, hd', hx, -⟩ := drop_cons' hd
    refine Ev.s (fun k => by rw [impl_allValid.l0]) (Ev.t (by omega) (Ev.t (by omega) (Ev.t (by omega) ?_)))
    rw [rdR, hx]
    refine Ev.b (Ev.c (impl_IsValidRow_eq ..)) (Ev.i (fun h => ?_) (fun h => ?_))
    · rw [w64s hi (by omega)]
      exact (ih (i + 1) hd').r (by simp [vAll, h])
    · exact Ev.p.r (by simp [vAll, h])
theorem impl_allValid_ev (l : List S72) (hl : l.length ≤ 1152921504606846975) : Ev (fun k => impl_allValid.f k l) (vAll l) :=
  Ev.u (fun _ => rfl) (impl_allValid_l0 l hl l 0 rfl)
def vRows (l : List S72) : Bool := vAll l && decide (l.length ≤ 24)
theorem impl_AreValidRows_ev (l : List S72) (hl : l.length ≤ 1152921504606846975) : Ev (fun k => impl_AreValidRows.f k l) (vRows l) :=
  Ev.u (fun _ => rfl) (Ev.i (fun h => Ev.b (impl_allValid_ev l hl) (Ev.p.r (by simp [vRows]; omega))) (fun h => Ev.p.r (by simp [vRows]; omega)))
theorem spec_AreValidRows_l0 (l : List S72) (hl : l.length ≤ 1152921504606846975) : ∀ (s : List S72) (i : Nat), l.drop i = s → Ev (fun k => spec_AreValidRows.l0 k (i : Int) l) (vAll s && decide (l.length ≤ 24)) := by
  intro s
  induction s with
  | nil =>
    intro i hd
    have := drop_nil' hd
    exact Ev.s (fun k => by rw [spec_AreValidRows.l0]) (Ev.e (by omega) (Ev.p.r (by simp [vAll]; omega)))
  | cons x t ih =>
    intro i hd
    obtain ⟨hi, hd', hx, -⟩ := drop_cons' hd
    refine Ev.s (fun k => by rw [spec_AreValidRows.l0]) (Ev.t (by omega) (Ev.t (by omega) ?_))
    rw [rdR, hx]
    refine Ev.b (Ev.c (spec_IsValidRow_eq ..)) (Ev.i (fun h => ?_) (fun h => ?_))
    · rw [w64s hi (by omega)]
      exact (ih (i + 1) hd').r (by simp [vAll, h])
    · exact Ev.p.r (by simp [vAll, h])
theorem spec_AreValidRows_ev (l : List S72) (hl : l.length ≤ 1152921504606846975) : Ev (fun k => spec_AreValidRows.f k l) (vRows l) :=
  Ev.u (fun _ => rfl) (spec_AreValidRows_l0 l hl l 0 rfl)
def eqRow (x y : S72) : Bool := x.f0 == y.f0 && (x.f1 == y.f1 && x.f2 == y.f2)
def eqRows (a b : List S72) : Bool := match a, b with
  | [], [] => true
  | x :: a, y :: b => eqRow x y && eqRows a b
  | _, _ => false
theorem eqRow_iff {x y : S72} : eqRow x y = true ↔ x = y := by
  obtain ⟨a, b, c⟩ := x; obtain ⟨d, e, f⟩ := y; simp [eqRow]
theorem eqRows_iff : ∀ {a b : List S72}, eqRows a b = true ↔ a = b
  | [], [] => by simp [eqRows]
  | x :: a, y :: b => by simp [eqRows, eqRow_iff, eqRows_iff]
  | [], y :: b => by simp [eqRows]
  | x :: a, [] => by simp [eqRows]
theorem eqRows_len {a b : List S72} (h : eqRows a b = true) : a.length = b.length := by rw [eqRows_iff.1 h]
theorem impl_equal_l0 (l m : List S72) (hl : l.length ≤ 1152921504606846975) (hm : l.length = m.length) : ∀ (s t : List S72) (i : Nat), l.drop i = s → m.drop i = t → Ev (fun k => impl_equal.l0 k (l.length : Int) (i : Int) l m) (eqRows s t) := by
  intro s
  induction s with
  | nil =>
    intro t i hd he
    have := drop_nil' hd
    have ht : t = [] := by rw [← he]; exact List.drop_eq_nil_iff.2 (by omega)
    subst ht
    exact Ev.s (fun k => by rw [impl_equal.l0]) (Ev.e (by omega) (Ev.p.r (by rfl)))
  | cons x s ih =>
    intro t i hd he
    obtain ⟨hi, hd', hx, -⟩ := drop_cons' hd
    cases t with
    | nil => have := drop_nil' he; omega
    | cons y t =>
      obtain ⟨hj, he', hy, -⟩ := drop_cons' he
      refine Ev.s (fun k => by rw [impl_equal.l0]) (Ev.t (by omega) (Ev.t (by omega) (Ev.t (by omega) (Ev.t (by omega) ?_))))
      rw [rdR, rdR, hx, hy]
      refine Ev.i (fun h => ?_) (fun h => ?_)
      · rw [w64s hi (by omega)]
        exact (ih t (i + 1) hd' he').r (by have h' : eqRow x y = true := h; simp [eqRows, h'])
      · exact Ev.p.r (by have h' : ¬ eqRow x y = true := h; simp [eqRows, h'])
theorem eqRows_ne {a b : List S72} (h : a.length ≠ b.length) : eqRows a b = false := by
  cases e : eqRows a b with
  | false => rfl
  | true => exact absurd (eqRows_len e) h
theorem impl_equal_ev (l m : List S72) (hl : l.length ≤ 1152921504606846975) : Ev (fun k => impl_equal.f k l m) (eqRows l m) :=
  Ev.u (fun _ => rfl) (Ev.i (fun h => impl_equal_l0 l m hl (by omega) l m 0 rfl rfl) (fun h => Ev.p.r (eqRows_ne (by omega)).symm))
theorem spec_l6Rows_l0 (l m : List S72) (hl : l.length ≤ 1152921504606846975) (hm : l.length = m.length) : ∀ (s t : List S72) (i : Nat), l.drop i = s → m.drop i = t → Ev (fun k => spec_l6Rows.l0 k (i : Int) l m) (eqRows s t) := by
  intro s
  induction s with
  | nil =>
    intro t i hd he
    have := drop_nil' hd
    have ht : t = [] := by rw [← he]; exact List.drop_eq_nil_iff.2 (by omega)
    subst ht
    exact Ev.s (fun k => by rw [spec_l6Rows.l0]) (Ev.e (by omega) (Ev.p.r (by rfl)))
  | cons x s ih =>
    intro t i hd he
    obtain ⟨hi, hd', hx, -⟩ := drop_cons' hd
    cases t with
    | nil => have := drop_nil' he; omega
    | cons y t =>
      obtain ⟨hj, he', hy, -⟩ := drop_cons' he
      refine Ev.s (fun k => by rw [spec_l6Rows.l0]) (Ev.t (by omega) (Ev.t (by omega) (Ev.t (by omega) ?_)))
      rw [rdR, rdR, hx, hy]
      refine Ev.i (fun h => ?_) (fun h => ?_)
      · rw [w64s hi (by omega)]
        exact (ih t (i + 1) hd' he').r (by have h' : eqRow x y = true := h; simp [eqRows, h'])
      · exact Ev.p.r (by have h' : ¬ eqRow x y = true := h; simp [eqRows, h'])
theorem spec_l6Rows_ev (l m : List S72) (hl : l.length ≤ 1152921504606846975) : Ev (fun k => spec_l6Rows.f k l m) (eqRows l m) :=
  Ev.u (fun _ => rfl) (Ev.i (fun h => spec_l6Rows_l0 l m hl (by omega) l m 0 rfl rfl) (fun h => Ev.p.r (eqRows_ne (by omega)).symm))
theorem impl_clone_eq (l : List S72) (hl : l.length ≤ 5864062014805) : impl_clone.f l = some l := by
  unfold impl_clone.f; rw [if_pos hl]
def hBit (key level : Int) : Int := if inB level 0 3 && inB key 0 9 then andI (shrI (Int.tmod (key * 7) 16) level) 1 else 0
def hb (level : Int) (x : S72) : Bool := hBit x.f0 level == 0
theorem setP {α : Type} (pre : List α) (x y : α) (t : List α) : (pre ++ x :: t).set ((pre.length : Int)).toNat y = pre ++ y :: t := by
  rw [Int.toNat_natCast, List.set_append_right _ _ (Nat.le_refl _), Nat.sub_self]; rfl
theorem getP {α : Type} (pre : List α) (x d : α) (t : List α) : (pre ++ x :: t).getD ((pre.length : Int)).toNat d = x := by
  rw [Int.toNat_natCast, List.getD_eq_getElem?_getD, List.getElem?_append_right (Nat.le_refl _), Nat.sub_self]; rfl
theorem rdPRow (pre : List S72) (x : S72) (t : List S72) : rd_T72 (pre ++ x :: t) (pre.length : Int) = x := getP pre x z72 t
def mkRow : Int → List S72 → List S72
  | _, [] => []
  | k, _ :: l => ⟨k, k + 1, k + 1 + 1⟩ :: mkRow (k + 1 + 1 + 1) l
theorem mkRow_len : ∀ (k : Int) (l : List S72), (mkRow k l).length = l.length
  | _, [] => rfl
  | k, _ :: l => by rw [mkRow, List.length_cons, List.length_cons, mkRow_len]
theorem markRowS_l0 : ∀ (s pre : List S72) (k : Int), 0 ≤ k → k + 3 * s.length ≤ 4611686018427387904 → pre.length + s.length ≤ 4611686018427387904 → Ev (fun f => laws_markRowS.l0 f (pre ++ s) k (pre.length : Int)) (k + 3 * s.length, pre ++ mkRow k s) := by
  intro s
  induction s with
  | nil =>
    intro pre k h0 h1 h2
    exact Ev.s (fun f => by rw [laws_markRowS.l0]) (Ev.e (by simp) (Ev.p.r (by simp [mkRow])))
  | cons x t ih =>
    intro pre k h0 h1 h2
    rw [List.length_cons] at h1 h2
    refine Ev.s (fun f => by rw [laws_markRowS.l0]) (Ev.t (by simp; omega) (Ev.t (by omega) ?_))
    rw [w64 (x := k + 1) (by omega) (by omega)]
    rw [w64 (x := k + 1 + 1) (by omega) (by omega)]
    rw [w64 (x := k + 1 + 1 + 1) (by omega) (by omega)]
    rw [show wrap64 ((pre.length : Int) + 1) = ((pre.length + 1 : Nat) : Int) by rw [w64 (by omega) (by omega)]; rfl]
    refine Ev.b (Ev.c (congrArg some (setP pre _ _ t))) ?_
    refine Ev.t (by simp; omega) ?_
    simp only [rdPRow]
    refine Ev.b (Ev.c (congrArg some (setP pre _ _ t))) ?_
    refine Ev.t (by simp; omega) ?_
    simp only [rdPRow]
    refine Ev.b (Ev.c (congrArg some (setP pre _ _ t))) ?_
    have h := ih (pre ++ [(⟨k, k + 1, k + 1 + 1⟩ : S72)]) (k + 1 + 1 + 1) (by omega) (by omega) (by simp; omega)
    simp only [List.append_assoc, List.singleton_append, List.length_append, List.length_singleton] at h
    exact h.r (Prod.ext (by simp only [List.length_cons]; omega) rfl)
theorem markRowS_ev (l : List S72) (k : Int) (h0 : 0 ≤ k) (h1 : k + 3 * l.length ≤ 4611686018427387904) : Ev (fun f => laws_markRowS.f f l k) (k + 3 * l.length, mkRow k l) :=
  Ev.u (fun _ => rfl) (markRowS_l0 l [] k h0 h1 (by simp; omega))
theorem heldRowS_l0 (l : List S72) (hl : l.length ≤ 4611686018427387904) : ∀ (s : List S72) (i : Nat) (k : Int), l.drop i = mkRow k s → 0 ≤ k → k + 3 * s.length ≤ 4611686018427387904 → Ev (fun f => laws_heldRowS.l0 f k (i : Int) l) (k + 3 * s.length) := by
  intro s
  induction s with
  | nil =>
    intro i k hd h0 h1
    have := drop_nil' hd
    exact Ev.s (fun f => by rw [laws_heldRowS.l0]) (Ev.e (by omega) (Ev.p.r (by simp)))
  | cons x t ih =>
    intro i k hd h0 h1
    rw [List.length_cons] at h1
    rw [mkRow] at hd
    obtain ⟨hi, hd', hx, -⟩ := drop_cons' hd
    refine Ev.s (fun f => by rw [laws_heldRowS.l0]) (Ev.t (by omega) (Ev.t (by omega) ?_))
    rw [w64 (x := k + 1) (by omega) (by omega)]
    rw [w64 (x := k + 1 + 1) (by omega) (by omega)]
    rw [w64 (x := k + 1 + 1 + 1) (by omega) (by omega)]
    rw [rdR, hx, w64s hi (by omega)]
    exact Ev.t rfl (Ev.t rfl (Ev.t rfl ((ih (i + 1) (k + 1 + 1 + 1) hd' (by omega) (by omega)).r (by simp only [List.length_cons]; omega))))
theorem heldRowS_ev (l : List S72) (k : Int) (h0 : 0 ≤ k) (h1 : k + 3 * l.length ≤ 4611686018427387904) : Ev (fun f => laws_heldRowS.f f (mkRow k l) k) (k + 3 * l.length) :=
  Ev.u (fun _ => rfl) (heldRowS_l0 _ (by rw [mkRow_len]; omega) l 0 k rfl h0 h1)
theorem eqRow_refl (x : S72) : laws_eqRow.f x.f0 x.f1 x.f2 x.f0 x.f1 x.f2 = some true := by
  unfold laws_eqRow.f; simp
theorem eqRowS_l0 (l : List S72) (hl : l.length ≤ 4611686018427387904) : ∀ (s : List S72) (i : Nat), l.drop i = s → Ev (fun f => laws_eqRowS.l0 f (i : Int) l l) true := by
  intro s
  induction s with
  | nil =>
    intro i hd
    have := drop_nil' hd
    exact Ev.s (fun f => by rw [laws_eqRowS.l0]) (Ev.e (by omega) (Ev.p.r (by rfl)))
  | cons x t ih =>
    intro i hd
    obtain ⟨hi, hd', hx, -⟩ := drop_cons' hd
    refine Ev.s (fun f => by rw [laws_eqRowS.l0]) (Ev.t (by omega) (Ev.t (by omega) (Ev.t (by omega) ?_)))
    rw [rdR, hx, w64s hi (by omega)]
    exact Ev.b (Ev.c (eqRow_refl _)) <| Ev.t rfl (ih (i + 1) hd')
theorem eqRowS_ev (l : List S72) (hl : l.length ≤ 4611686018427387904) : Ev (fun f => laws_eqRowS.f f l l) true :=
  Ev.u (fun _ => rfl) (Ev.t rfl (eqRowS_l0 l hl l 0 rfl))
theorem vRows_len {l : List S72} (h : vRows l = true) : l.length ≤ 24 := by
  unfold vRows at h; rw [Bool.and_eq_true] at h; exact of_decide_eq_true h.2
theorem vRows_iff {l : List S72} : vRows l = true ↔ vAll l = true ∧ l.length ≤ 24 := by unfold vRows; rw [Bool.and_eq_true, decide_eq_true_iff]
theorem u64w {x : Int} (h0 : 0 ≤ x) (h1 : x ≤ 9223372036854775807) : IntKind.u64.wrap x = x := by
  simp [IntKind.wrap, IntKind.bits, IntKind.signed]; omega
def cmpR (x y : S72) : Int := if x.f0 < y.f0 then -1 else if x.f0 > y.f0 then 1 else if x.f1 < y.f1 then -1 else if x.f1 > y.f1 then 1 else if x.f2 < y.f2 then -1 else if x.f2 > y.f2 then 1 else 0
theorem spec_CompareRows_ev (x y : S72) : Ev (fun k => spec_CompareRows.f k x.f0 x.f1 x.f2 y.f0 y.f1 y.f2) (cmpR x y) := by
  have w1 : wrap64 ((0 : Int) + 1) = 1 := w64 (by omega) (by omega)
  have w2 : wrap64 ((1 : Int) + 1) = 2 := w64 (by omega) (by omega)
  have w3 : wrap64 ((2 : Int) + 1) = 3 := w64 (by omega) (by omega)
  unfold cmpR
  refine Ev.u (fun k => by rw [spec_CompareRows.f]) ?_
  refine Ev.s (fun k => by rw [spec_CompareRows.l0]) (Ev.t (by omega) (Ev.t (by omega) (Ev.t (by simp) (Ev.t (by simp) ?_))))
  rw [show rdOf 0 [x.f0, x.f1, x.f2] 0 = x.f0 from rfl, show rdOf 0 [y.f0, y.f1, y.f2] 0 = y.f0 from rfl, w1]
  refine Ev.i (fun h => by rw [if_pos h]; exact Ev.p) (fun h => ?_)
  rw [if_neg h]
  refine Ev.i (fun h => by rw [if_pos h]; exact Ev.p) (fun h => ?_)
  rw [if_neg h]
  refine Ev.s (fun k => by rw [spec_CompareRows.l0]) (Ev.t (by omega) (Ev.t (by omega) (Ev.t (by simp) (Ev.t (by simp) ?_))))
  rw [show rdOf 0 [x.f0, x.f1, x.f2] 1 = x.f1 from rfl, show rdOf 0 [y.f0, y.f1, y.f2] 1 = y.f1 from rfl, w2]
  refine Ev.i (fun h => by rw [if_pos h]; exact Ev.p) (fun h => ?_)
  rw [if_neg h]
  refine Ev.i (fun h => by rw [if_pos h]; exact Ev.p) (fun h => ?_)
  rw [if_neg h]
  refine Ev.s (fun k => by rw [spec_CompareRows.l0]) (Ev.t (by omega) (Ev.t (by omega) (Ev.t (by simp) (Ev.t (by simp) ?_))))
  rw [show rdOf 0 [x.f0, x.f1, x.f2] 2 = x.f2 from rfl, show rdOf 0 [y.f0, y.f1, y.f2] 2 = y.f2 from rfl, w3]
  refine Ev.i (fun h => by rw [if_pos h]; exact Ev.p) (fun h => ?_)
  rw [if_neg h]
  refine Ev.i (fun h => by rw [if_pos h]; exact Ev.p) (fun h => ?_)
  rw [if_neg h]
  refine Ev.s (fun k => by rw [spec_CompareRows.l0]) ?_
  exact Ev.e (by omega) Ev.p
def toB (l : List UInt8) : ByteArray := ⟨⟨l⟩⟩
def bs (s : ByteArray) : List UInt8 := s.data.toList
theorem bs_toB (l : List UInt8) : bs (toB l) = l := rfl
theorem toB_sz (l : List UInt8) : (toB l).size = l.length := rfl
theorem bs_len (s : ByteArray) : (bs s).length = s.size := rfl
theorem bs_inj {a b : ByteArray} (h : bs a = bs b) : a = b := ByteArray.ext (Array.toList_inj.1 h)
theorem toB_inj {a b : List UInt8} (h : toB a = toB b) : a = b := congrArg bs h
theorem bs_app (a b : ByteArray) : bs (a ++ b) = bs a ++ bs b := by unfold bs; rw [ByteArray.data_append, Array.toList_append]
theorem toB_app (a b : List UInt8) : toB a ++ toB b = toB (a ++ b) := bs_inj (bs_app _ _)
theorem toL_iff (a b : ByteArray) : a.toList = b.toList ↔ a = b := by
  rw [ByteArray.toList_eq, ByteArray.toList_eq]
  exact ⟨fun h => bs_inj h, fun h => congrArg bs h⟩
theorem toL_nil (a : ByteArray) : a.toList = (toB []).toList ↔ bs a = [] := by
  rw [toL_iff]; exact ⟨fun h => by rw [h]; rfl, fun h => bs_inj h⟩
theorem bt_drop {s : ByteArray} {i : Nat} {b : UInt8} {t : List UInt8} (h : (bs s).drop i = b :: t) : bt s (i : Int) = (b.toNat : Int) ∧ i < s.size ∧ (bs s).drop (i + 1) = t := by
  obtain ⟨hi, hd, hx, -⟩ := drop_cons' h
  rw [bs_len] at hi
  refine ⟨?_, hi, hd⟩
  unfold bt
  rw [Int.toNat_natCast, dif_pos hi]
  have : s[i] = b := by
    have e := hx 0
    rw [List.getD_eq_getElem?_getD, List.getElem?_eq_getElem (by rw [bs_len]; exact hi)] at e
    exact e
  rw [this]
theorem bs_extract (s : ByteArray) (f i : Nat) : s.extract f i = toB (((bs s).drop f).take (i - f)) := by
  apply bs_inj
  unfold bs
  rw [ByteArray.data_extract, Array.toList_extract, List.extract_eq_take_drop]
  rfl
theorem u8x {x : Int} (h0 : 0 ≤ x) (h1 : x < 256) : IntKind.u8.wrap x = x := by
  simp only [IntKind.wrap, IntKind.signed, IntKind.bits, Bool.false_and, Bool.false_eq_true, if_false]
  omega
theorem u64x {x : Int} (h0 : 0 ≤ x) (h1 : x < 18446744073709551616) : IntKind.u64.wrap x = x := by
  simp only [IntKind.wrap, IntKind.signed, IntKind.bits, Bool.false_and, Bool.false_eq_true, if_false]
  omega
theorem u64m {x : Int} (h0 : -9223372036854775808 ≤ x) (h1 : x < 0) : IntKind.u64.wrap (-(IntKind.u64.wrap x)) = -x := by
  simp only [IntKind.wrap, IntKind.signed, IntKind.bits, Bool.false_and, Bool.false_eq_true, if_false]
  omega
theorem i64x {x : Int} (h0 : -9223372036854775808 ≤ x) (h1 : x ≤ 9223372036854775807) : IntKind.i64.wrap x = x := by
  simp [IntKind.wrap, IntKind.signed, IntKind.bits]
  omega
def dg (n : Nat) : UInt8 := UInt8.ofNat (48 + n)
theorem dg_nat {n : Nat} (h : n < 10) : (dg n).toNat = 48 + n := (UInt8.toNat_ofNat' ..).trans (Nat.mod_eq_of_lt (Nat.lt_of_lt_of_le (show 48 + n < 58 by omega) (by decide)))
theorem strD {n : Nat} (h : n < 10) : strOfNums [IntKind.u8.wrap (wrap64 (48 + (n : Int)))] = toB [dg n] := by
  rw [w64 (by omega) (by omega), u8x (by omega) (by omega), show 48 + (n : Int) = ((48 + n : Nat) : Int) by omega]
  rfl
theorem strDu {n : Nat} (h : n < 10) : strOfNums [IntKind.u8.wrap (IntKind.u64.wrap (48 + (n : Int)))] = toB [dg n] := by
  rw [u64x (by omega) (by omega), u8x (by omega) (by omega), show 48 + (n : Int) = ((48 + n : Nat) : Int) by omega]
  rfl
def dgl (n : Nat) : List UInt8 := if h : n < 10 then [dg n] else dgl (n / 10) ++ [dg (n % 10)]
  termination_by n
theorem dgl_lt {n : Nat} (h : n < 10) : dgl n = [dg n] := by rw [dgl]; exact dif_pos h
theorem dgl_ge {n : Nat} (h : ¬ n < 10) : dgl n = dgl (n / 10) ++ [dg (n % 10)] := by rw [dgl]; exact dif_neg h
theorem dgl_len : ∀ (d n : Nat), n < 10 ^ (d + 1) → (dgl n).length ≤ d + 1 ∧ 1 ≤ (dgl n).length
  | 0, n, h => by rw [dgl_lt (by omega)]; simp
  | d + 1, n, h => by
    by_cases c : n < 10
    · rw [dgl_lt c]; simp
    · have := dgl_len d (n / 10) (by rw [Nat.pow_succ] at h; omega)
      rw [dgl_ge c, List.length_append, List.length_singleton]
      omega
theorem impl_decimal_ev : ∀ (d n : Nat), n < 10 ^ (d + 1) → n < 18446744073709551616 → d ≤ 30 → Ev (fun k => impl_decimal.f k (n : Int)) (toB (dgl n)) := by
  intro d
  induction d with
  | zero =>
    intro n h h2 h3
    refine Ev.s (fun k => by rw [impl_decimal.f]) (Ev.t (by omega) ?_)
    rw [strDu (by omega), dgl_lt (by omega)]; exact Ev.p
  | succ d ih =>
    intro n h h2 h3
    refine Ev.s (fun k => by rw [impl_decimal.f]) ?_
    by_cases c : n < 10
    · refine Ev.t (by omega) ?_
      rw [strDu c, dgl_lt c]; exact Ev.p
    · have hp : n / 10 < 10 ^ (d + 1) := by rw [Nat.pow_succ] at h; omega
      have hs := dgl_len d (n / 10) hp
      refine Ev.e (by omega) ?_
      rw [show Int.tdiv (n : Int) 10 = ((n / 10 : Nat) : Int) from rfl, u64x (x := ((n / 10 : Nat) : Int)) (by omega) (by omega), show Int.tmod (n : Int) 10 = ((n % 10 : Nat) : Int) from rfl, strDu (n := n % 10) (by omega)]
      refine Ev.b (ih (n / 10) hp (by omega) (by omega)) (Ev.t ?_ (Ev.p.r ?_))
      · show (dgl (n / 10)).length + 1 ≤ _; omega
      · rw [toB_app, dgl_ge c]
def fI (a : Int) : List UInt8 := if a < 0 then 45 :: dgl (-a).toNat else dgl a.toNat
theorem pow20 : 10 ^ (19 + 1) = 100000000000000000000 := by decide
theorem fI_len (a : Int) (h0 : -9223372036854775808 ≤ a) (h1 : a ≤ 9223372036854775807) : (fI a).length ≤ 21 ∧ 1 ≤ (fI a).length := by
  unfold fI
  split
  · have := dgl_len 19 (-a).toNat (by rw [pow20]; omega)
    rw [List.length_cons]; omega
  · have := dgl_len 19 a.toNat (by rw [pow20]; omega)
    omega
theorem impl_FormatInt_ev (a : Int) (h0 : -9223372036854775808 ≤ a) (h1 : a ≤ 9223372036854775807) : Ev (fun k => impl_FormatInt.f k a) (toB (fI a)) := by
  unfold fI
  refine Ev.u (fun _ => rfl) ?_
  by_cases c : a < 0
  · have hp : (-a).toNat < 10 ^ (19 + 1) := by rw [pow20]; omega
    have hs := dgl_len 19 (-a).toNat hp
    have hd := impl_decimal_ev 19 (-a).toNat hp (by omega) (by omega)
    rw [show (((-a).toNat : Nat) : Int) = -a by omega] at hd
    refine Ev.t c ?_
    rw [if_pos c, u64m h0 c]
    refine Ev.b hd (Ev.t ?_ (Ev.p.r ?_))
    · show 1 + (dgl (-a).toNat).length ≤ _; omega
    · exact toB_app [45] _
  · have hp : a.toNat < 10 ^ (19 + 1) := by rw [pow20]; omega
    have hd := impl_decimal_ev 19 a.toNat hp (by omega) (by omega)
    rw [show ((a.toNat : Nat) : Int) = a by omega] at hd
    refine Ev.e c ?_
    rw [if_neg c, u64x (by omega) (by omega)]
    exact Ev.b hd Ev.p
def dlz (n : Nat) : List UInt8 := if n = 0 then [] else dgl n
theorem dlz_step (n : Nat) (h : n ≠ 0) (acc : List UInt8) : dlz (n / 10) ++ ([dg (n % 10)] ++ acc) = dlz n ++ acc := by
  unfold dlz
  rw [if_neg h]
  by_cases c : n < 10
  · rw [if_pos (by omega), show n % 10 = n by omega, dgl_lt c]; rfl
  · rw [if_neg (by omega), dgl_ge c, List.append_assoc]
def ng1 (b : Bool) : List UInt8 := if b = true then [45] else []
theorem spec_FormatInt_l0 : ∀ (d n : Nat) (x : Int) (acc : List UInt8) (b : Bool), (x = (n : Int) ∨ x = -(n : Int)) → n < 10 ^ d → n ≤ 9223372036854775808 → d ≤ 30 → acc.length + d ≤ 1000 → Ev (fun k => spec_FormatInt.l0 k x (toB acc) b) (toB (ng1 b ++ (dlz n ++ acc))) := by
  have Z : ∀ (acc : List UInt8) (b : Bool), acc.length ≤ 1000 → Ev (fun k => spec_FormatInt.l0 k 0 (toB acc) b) (toB (ng1 b ++ (dlz 0 ++ acc))) := by
    intro acc b ha
    refine Ev.s (fun k => by rw [spec_FormatInt.l0]) (Ev.t rfl ?_)
    cases b with
    | true => exact Ev.t rfl (Ev.t (by show 1 + acc.length ≤ _; omega) (Ev.p.r (toB_app [45] acc)))
    | false => exact Ev.e (by simp) (Ev.p.r rfl)
  intro d
  induction d with
  | zero =>
    intro n x acc b hx h h2 h3 ha
    have hn : n = 0 := by simpa using h
    subst hn
    have hx0 : x = 0 := by omega
    subst hx0
    exact Z acc b (by omega)
  | succ d ih =>
    intro n x acc b hx h h2 h3 ha
    by_cases hn : n = 0
    · subst hn
      have hx0 : x = 0 := by omega
      subst hx0
      exact Z acc b (by omega)
    have hp : n / 10 < 10 ^ d := by rw [Nat.pow_succ] at h; omega
    have J : ∀ y : Int, y = ((n % 10 : Nat) : Int) → Ev (fun k => spec_FormatInt.j0 k x (toB acc) b y) (toB (ng1 b ++ (dlz n ++ acc))) := by
      intro y hy
      subst hy
      refine Ev.s (fun k => by rw [spec_FormatInt.j0]) ?_
      rw [strD (n := n % 10) (by omega), toB_app]
      refine Ev.t (by show 1 + acc.length ≤ _; omega) ?_
      have e : wrap64 (Int.tdiv x 10) = ((n / 10 : Nat) : Int) ∨ wrap64 (Int.tdiv x 10) = -((n / 10 : Nat) : Int) := by
        rcases hx with rfl | rfl
        · left; rw [show Int.tdiv (n : Int) 10 = ((n / 10 : Nat) : Int) from rfl, w64 (by omega) (by omega)]
        · right; rw [Int.neg_tdiv, show Int.tdiv (n : Int) 10 = ((n / 10 : Nat) : Int) from rfl, w64 (by omega) (by omega)]
      refine (ih (n / 10) _ ([dg (n % 10)] ++ acc) b e hp (by omega) (by omega) (by simp; omega)).r ?_
      rw [dlz_step n hn]
    refine Ev.s (fun k => by rw [spec_FormatInt.l0]) (Ev.e (by omega) ?_)
    rcases hx with hx | hx
    · have e : Int.tmod x 10 = ((n % 10 : Nat) : Int) := by rw [hx]; rfl
      rw [e]
      exact Ev.e (by omega) (J _ rfl)
    · have e : Int.tmod x 10 = -((n % 10 : Nat) : Int) := by rw [hx, Int.neg_tmod]; rfl
      rw [e, w64 (x := -(-((n % 10 : Nat) : Int))) (by omega) (by omega)]
      exact Ev.i (fun _ => J _ (by omega)) (fun _ => J _ (by omega))
theorem spec_FormatInt_ev (a : Int) (h0 : -9223372036854775808 ≤ a) (h1 : a ≤ 9223372036854775807) : Ev (fun k => spec_FormatInt.f k a) (toB (fI a)) := by
  unfold fI
  refine Ev.u (fun _ => rfl) ?_
  by_cases z : a = 0
  · subst z
    refine Ev.t rfl (Ev.p.r ?_)
    rw [if_neg (by omega), show (0 : Int).toNat = 0 from rfl, dgl_lt (by omega)]
    rfl
  refine Ev.e z ?_
  by_cases c : a < 0
  · have hd := spec_FormatInt_l0 20 (-a).toNat a [] (decide (a < 0)) (.inr (by omega)) (by rw [pow20]; omega) (by omega) (by omega) (by simp)
    refine hd.r ?_
    rw [if_pos c, decide_eq_true c]
    unfold dlz
    rw [if_neg (by omega), List.append_nil]
    rfl
  · have hd := spec_FormatInt_l0 20 a.toNat a [] (decide (a < 0)) (.inl (by omega)) (by rw [pow20]; omega) (by omega) (by omega) (by simp)
    refine hd.r ?_
    rw [if_neg c, decide_eq_false c]
    unfold dlz
    rw [if_neg (by omega), List.append_nil]
    rfl

def isDg (b : UInt8) : Bool := decide (48 ≤ b.toNat ∧ b.toNat ≤ 57)
def fold10 (a : Nat) : List UInt8 → Nat
  | [] => a
  | b :: t => fold10 (a * 10 + (b.toNat - 48)) t
theorem fold10_app : ∀ (l m : List UInt8) (a : Nat), fold10 a (l ++ m) = fold10 (fold10 a l) m
  | [], _, _ => rfl
  | b :: t, m, a => fold10_app t m _
theorem dg_one {n : Nat} (h : n < 10) (a : Nat) : isDg (dg n) = true ∧ fold10 a [dg n] = a * 10 + n := by
  have e := dg_nat h
  constructor
  · unfold isDg; rw [e]; exact decide_eq_true ⟨Nat.le_add_right _ _, by omega⟩
  · show a * 10 + ((dg n).toNat - 48) = a * 10 + n
    rw [e, Nat.add_sub_cancel_left]
theorem dgl_dg (d : Nat) : ∀ n : Nat, n < 10 ^ (d + 1) → (dgl n).all isDg = true ∧ fold10 0 (dgl n) = n := by
  induction d with
  | zero =>
    intro n h
    have h' : n < 10 := h
    rw [dgl_lt h']
    have := dg_one h' 0
    rw [List.all_cons, this.1, this.2]
    exact ⟨rfl, by omega⟩
  | succ d ih =>
    intro n h
    by_cases c : n < 10
    · rw [dgl_lt c]
      have := dg_one c 0
      rw [List.all_cons, this.1, this.2]
      exact ⟨rfl, by omega⟩
    · obtain ⟨h1, h2⟩ := ih (n / 10) (by rw [Nat.pow_succ] at h; omega)
      obtain ⟨g1, g2⟩ := dg_one (n := n % 10) (Nat.mod_lt _ (by decide)) (n / 10)
      rw [dgl_ge c, fold10_app, h2, List.all_append, h1, List.all_cons, g1, g2]
      exact ⟨rfl, by omega⟩
theorem fold10_bd : ∀ (l : List UInt8) (a d : Nat), l.all isDg = true → a < 10 ^ d → fold10 a l < 10 ^ (d + l.length)
  | [], a, d, _, h => h
  | b :: t, a, d, hl, h => by
    simp only [List.all_cons, Bool.and_eq_true, isDg, decide_eq_true_eq] at hl
    have := fold10_bd t (a * 10 + (b.toNat - 48)) (d + 1) hl.2 (by rw [Nat.pow_succ]; omega)
    rw [List.length_cons, show d + (t.length + 1) = d + 1 + t.length by omega]
    exact this
/-- What the reading ends with: the number's text is the string itself, or it is none. -/
def fin (s : List UInt8) (v : Int) : Int × Bool := if fI v = s then (v, true) else (0, false)
theorem fin_ev {s : List UInt8} {v : Int} : Ev (fun _ => if (toB (fI v)).toList = (toB s).toList then some (v, true) else some (0, false)) (fin s v) := by
  unfold fin
  by_cases c : fI v = s
  · rw [if_pos c]; exact Ev.t (by rw [c]) Ev.p
  · rw [if_neg c]; exact Ev.e (fun h => c (toB_inj ((toL_iff _ _).1 h))) Ev.p
theorem pow9 : 10 ^ 9 = 1000000000 := by decide
theorem pow_step {a j d : Nat} (ha : a < 10 ^ j) (hd : d ≤ 9) : a * 10 + d < 10 ^ (j + 1) := by
  have h : a * 10 + d < (a + 1) * 10 := by clear ha; omega
  rw [Nat.pow_succ]
  exact Nat.lt_of_lt_of_le h (Nat.mul_le_mul_right 10 ha)
theorem pow_bd {a j : Nat} (ha : a < 10 ^ j) (hj : j ≤ 9) : a < 1000000000 := Nat.lt_of_lt_of_le ha (by rw [← pow9]; exact Nat.pow_le_pow_right (by decide) hj)
theorem pow11 : 10 ^ 11 = 100000000000 := by decide
theorem pow_bd11 {a j : Nat} (ha : a < 10 ^ j) (hj : j ≤ 11) : a < 100000000000 := Nat.lt_of_lt_of_le ha (by rw [← pow11]; exact Nat.pow_le_pow_right (by decide) hj)
/-- What stands behind the sign. -/
def strip : List UInt8 → List UInt8
  | [] => []
  | b :: t => if b.toNat = 45 then t else b :: t
def finI (s x : List UInt8) (v : Nat) : Int × Bool := if x.length < s.length then fin s (-(v : Int)) else fin s (v : Int)
def pI (s : List UInt8) : Int × Bool := if (strip s).length < 1 ∨ 9 < (strip s).length then (0, false) else if (strip s).all isDg = true then finI s (strip s) (fold10 0 (strip s)) else (0, false)
theorem dgw {a d : Nat} (ha : a < 1000000000000) (hd : d ≤ 9) : wrap64 (wrap64 (10 * (a : Int)) + IntKind.i64.wrap (IntKind.u8.wrap (((48 + d : Nat) : Int) - 48))) = ((a * 10 + d : Nat) : Int) := by
  rw [w64 (x := 10 * (a : Int)) (by omega) (by omega), u8x (by omega) (by omega), i64x (by omega) (by omega), w64 (by omega) (by omega)]
  omega
theorem impl_ParseInt_j1 (s : List UInt8) (v : Int) (h0 : -1000000000000 ≤ v) (h1 : v ≤ 1000000000000) : Ev (fun k => impl_ParseInt.j1 k (toB s) v) (fin s v) :=
  Ev.s (fun k => by rw [impl_ParseInt.j1]) (Ev.b (impl_FormatInt_ev v (by omega) (by omega)) fin_ev)
theorem impl_ParseInt_l0 (s x : List UInt8) (hx : x.length ≤ 9) : ∀ (t : List UInt8) (i j a : Nat), x.drop i = t → i + t.length = x.length → a < 10 ^ j → j + t.length ≤ 9 → Ev (fun k => impl_ParseInt.l0 k (toB s) (toB x) (a : Int) (x.length : Int) (i : Int)) (if t.all isDg = true then finI s x (fold10 a t) else (0, false)) := by
  intro t
  induction t with
  | nil =>
    intro i j a hd hi ha hj
    simp only [List.length_nil, Nat.add_zero] at hi hj
    have hb : a < 1000000000 := pow_bd ha hj
    clear ha
    rw [if_pos (show ([] : List UInt8).all isDg = true from rfl)]
    refine Ev.s (fun k => by rw [impl_ParseInt.l0]) (Ev.e (by omega) ?_)
    rw [w64 (x := -(a : Int)) (by omega) (by omega), toB_sz, toB_sz]
    unfold finI fold10
    by_cases c : x.length < s.length
    · rw [if_pos c]; exact Ev.t (by omega) (impl_ParseInt_j1 s _ (by omega) (by omega))
    · rw [if_neg c]; exact Ev.e (by omega) (impl_ParseInt_j1 s _ (by omega) (by omega))
  | cons b t ih =>
    intro i j a hd hi ha hj
    obtain ⟨hb, hi', hd'⟩ := bt_drop (s := toB x) (i := i) hd
    rw [toB_sz] at hi'
    rw [bs_toB] at hd'
    simp only [List.length_cons] at hi hj
    have hl : a < 1000000000 := pow_bd ha (Nat.le_trans (Nat.le_add_right _ _) hj)
    have hs := fun (d : Nat) (hd : d ≤ 9) => pow_step (d := d) ha hd
    clear ha
    refine Ev.s (fun k => by rw [impl_ParseInt.l0]) (Ev.t (by omega) (Ev.t (by omega) (Ev.t (by rw [toB_sz]; omega) ?_)))
    rw [hb, List.all_cons]
    refine Ev.i (fun c => Ev.p.r ?_) (fun c => Ev.i (fun c2 => Ev.p.r ?_) (fun c2 => ?_))
    · have e : isDg b = false := decide_eq_false (by omega)
      rw [e]; rfl
    · have e : isDg b = false := decide_eq_false (by omega)
      rw [e]; rfl
    · have e : isDg b = true := decide_eq_true (by omega)
      have g := dgw (a := a) (d := b.toNat - 48) (by omega) (by omega)
      rw [show 48 + (b.toNat - 48) = b.toNat by omega] at g
      rw [g, w64s hi' (by omega), e, Bool.true_and]
      exact ih (i + 1) (j + 1) _ hd' (by omega) (hs _ (by omega)) (by omega)
theorem impl_ParseInt_j0 (s x : List UInt8) : Ev (fun k => impl_ParseInt.j0 k (toB s) (toB x)) (if x.length < 1 ∨ 9 < x.length then (0, false) else if x.all isDg = true then finI s x (fold10 0 x) else (0, false)) := by
  refine Ev.s (fun k => by rw [impl_ParseInt.j0]) ?_
  rw [toB_sz]
  refine Ev.i (fun c => Ev.p.r ?_) (fun c => Ev.i (fun c2 => Ev.p.r ?_) (fun c2 => ?_))
  · rw [if_pos (.inl (by omega))]
  · rw [if_pos (.inr (by omega))]
  · rw [if_neg (by omega)]
    exact impl_ParseInt_l0 s x (by omega) x 0 0 0 rfl (by omega) (by decide) (by omega)
theorem impl_ParseInt_ev (s : List UInt8) : Ev (fun k => impl_ParseInt.f k (toB s)) (pI s) := by
  unfold pI
  refine Ev.u (fun k => by rw [impl_ParseInt.f]) ?_
  rw [toB_sz]
  cases s with
  | nil => exact Ev.e (by simp) (impl_ParseInt_j0 [] [])
  | cons b t =>
    obtain ⟨hb, -, -⟩ := bt_drop (s := toB (b :: t)) (i := 0) (b := b) (t := t) rfl
    rw [show ((0 : Nat) : Int) = 0 from rfl] at hb
    rw [List.length_cons]
    refine Ev.t (by omega) (Ev.t (by omega) ?_)
    rw [hb]
    refine Ev.i (fun c => Ev.t (by omega) ?_) (fun c => ?_)
    · have es : strip (b :: t) = t := by unfold strip; exact if_pos (by omega)
      rw [es, bs_extract]
      have e : (((bs (toB (b :: t))).drop (1 : Int).toNat).take (t.length + 1 - (1 : Int).toNat)) = t := by
        rw [bs_toB]; show t.take (t.length + 1 - 1) = t; rw [List.take_of_length_le (by omega)]
      rw [e]
      exact impl_ParseInt_j0 (b :: t) t
    · have es : strip (b :: t) = b :: t := by unfold strip; exact if_neg (by omega)
      rw [es]
      exact impl_ParseInt_j0 (b :: t) (b :: t)
/-- The digits' value and their number; what is no digit is passed over. -/
def scan (a c : Nat) : List UInt8 → Nat × Nat
  | [] => (a, c)
  | b :: t => if isDg b = true then scan (a * 10 + (b.toNat - 48)) (c + 1) t else scan a c t
def sgn (s : List UInt8) (a : Nat) : Int := match s with | [] => (a : Int) | b :: _ => if b.toNat = 45 then -(a : Int) else (a : Int)
def qF (s : List UInt8) (p : Nat × Nat) : Int × Bool := if p.2 > 9 then (0, false) else if s.length > 10 then (0, false) else fin s (sgn s p.1)
theorem spec_ParseInt_j1 (s : List UInt8) (v : Int) (c : Nat) (h0 : -1000000000000 ≤ v) (h1 : v ≤ 1000000000000) : Ev (fun k => spec_ParseInt.j1 k (toB s) v (c : Int)) (if c > 9 then (0, false) else if s.length > 10 then (0, false) else fin s v) := by
  refine Ev.s (fun k => by rw [spec_ParseInt.j1]) ?_
  rw [toB_sz]
  refine Ev.i (fun g => Ev.p.r ?_) (fun g => Ev.i (fun g2 => Ev.p.r ?_) (fun g2 => Ev.b (spec_FormatInt_ev v (by omega) (by omega)) (fin_ev.r ?_)))
  · rw [if_pos (by omega)]
  · rw [if_neg (by omega), if_pos (by omega)]
  · rw [if_neg (by omega), if_neg (by omega)]
theorem spec_ParseInt_j0 (s : List UInt8) (a c : Nat) (ha : a < 1000000000000) : Ev (fun k => spec_ParseInt.j0 k (toB s) (a : Int) (c : Int)) (qF s (a, c)) := by
  unfold qF sgn
  refine Ev.s (fun k => by rw [spec_ParseInt.j0]) ?_
  rw [toB_sz]
  cases s with
  | nil => exact Ev.e (by simp) (spec_ParseInt_j1 [] a c (by omega) (by omega))
  | cons b t =>
    obtain ⟨hb, -, -⟩ := bt_drop (s := toB (b :: t)) (i := 0) (b := b) (t := t) rfl
    rw [show ((0 : Nat) : Int) = 0 from rfl] at hb
    rw [List.length_cons]
    refine Ev.t (by omega) (Ev.t (by omega) ?_)
    rw [hb, w64 (x := -(a : Int)) (by omega) (by omega)]
    dsimp only
    refine Ev.i (fun g => ?_) (fun g => ?_)
    · rw [if_pos (show b.toNat = 45 by omega)]; exact spec_ParseInt_j1 (b :: t) _ c (by omega) (by omega)
    · rw [if_neg (show ¬ b.toNat = 45 by omega)]; exact spec_ParseInt_j1 (b :: t) _ c (by omega) (by omega)
theorem take_drop_cons {l : List UInt8} {n i : Nat} {b : UInt8} {t : List UInt8} (h : (l.take n).drop i = b :: t) : i < n ∧ ∃ u, l.drop i = b :: u ∧ (l.take n).drop (i + 1) = t := by
  obtain ⟨hi, hd, -, -⟩ := drop_cons' h
  rw [List.length_take] at hi
  refine ⟨by omega, (l.drop i).tail, ?_, hd⟩
  rw [List.drop_take] at h
  cases e : l.drop i with
  | nil => rw [e, List.take_nil] at h; cases h
  | cons x u =>
    rw [e] at h
    obtain ⟨m, hm⟩ : ∃ m, n - i = m + 1 := ⟨n - i - 1, by omega⟩
    rw [hm, List.take_succ_cons] at h
    injection h with h1 h2
    rw [h1]; rfl
theorem dgw' {a d : Nat} (ha : a < 1000000000000) (hd : d ≤ 9) : wrap64 (wrap64 ((a : Int) * 10) + IntKind.i64.wrap (IntKind.u8.wrap (((48 + d : Nat) : Int) - 48))) = ((a * 10 + d : Nat) : Int) := by rw [Int.mul_comm]; exact dgw ha hd
theorem spec_ParseInt_l0 (s : List UInt8) (hs : s.length ≤ 1000000000) : ∀ (t : List UInt8) (i c a : Nat), (s.take 11).drop i = t → i + t.length ≤ 11 → a < 10 ^ c → c ≤ i → Ev (fun k => spec_ParseInt.l0 k (toB s) (a : Int) (c : Int) (i : Int)) (qF s (scan a c t)) := by
  intro t
  induction t with
  | nil =>
    intro i c a hd hi ha hc
    have hb := pow_bd11 ha (Nat.le_trans hc hi)
    clear ha
    have hl := List.drop_eq_nil_iff.1 hd
    rw [List.length_take] at hl
    refine Ev.s (fun k => by rw [spec_ParseInt.l0]) ?_
    rw [toB_sz]
    exact Ev.i (fun g => Ev.e (by omega) (spec_ParseInt_j0 s a c (by omega))) (fun g => spec_ParseInt_j0 s a c (by omega))
  | cons b t ih =>
    intro i c a hd hi ha hc
    simp only [List.length_cons] at hi
    obtain ⟨h11, u, hu, hd'⟩ := take_drop_cons hd
    obtain ⟨hb, hi', -⟩ := bt_drop (s := toB s) (i := i) hu
    rw [toB_sz] at hi'
    have hl := pow_bd11 ha (by omega)
    have hst := fun (d : Nat) (hd : d ≤ 9) => pow_step (d := d) ha hd
    have wc : wrap64 ((c : Int) + 1) = ((c + 1 : Nat) : Int) := by clear ha; exact w64s (n := 12) (by omega) (by decide)
    have i1 := fun a' c' h1 h2 => ih (i + 1) c' a' hd' (by clear ha; omega) h1 h2
    have hc' : c ≤ i + 1 := by clear ha; omega
    have i2 := i1 a c ha hc'
    clear ha
    refine Ev.s (fun k => by rw [spec_ParseInt.l0]) ?_
    rw [toB_sz]
    refine Ev.t (by omega) (Ev.t (by omega) (Ev.t (by omega) ?_))
    rw [hb, wc, w64s hi' (by omega)]
    refine Ev.i (fun c1 => Ev.i (fun c2 => ?_) (fun c2 => ?_)) (fun c1 => ?_)
    · have e : isDg b = true := decide_eq_true (by omega)
      have g := dgw' (a := a) (d := b.toNat - 48) (by omega) (by omega)
      rw [show 48 + (b.toNat - 48) = b.toNat by omega] at g
      rw [g, show scan a c (b :: t) = scan (a * 10 + (b.toNat - 48)) (c + 1) t from if_pos e]
      exact i1 _ _ (hst _ (by omega)) (by omega)
    · have e : ¬ isDg b = true := by unfold isDg; rw [decide_eq_true_eq]; omega
      rw [show scan a c (b :: t) = scan a c t from if_neg e]
      exact i2
    · have e : ¬ isDg b = true := by unfold isDg; rw [decide_eq_true_eq]; omega
      rw [show scan a c (b :: t) = scan a c t from if_neg e]
      exact i2
def small (n : Int) : Prop := -1000000000 < n ∧ n < 1000000000
theorem scan_digs : ∀ (l : List UInt8) (a c : Nat), l.all isDg = true → scan a c l = (fold10 a l, c + l.length)
  | [], _, _, _ => rfl
  | b :: t, a, c, h => by
    rw [List.all_cons, Bool.and_eq_true] at h
    rw [show scan a c (b :: t) = scan (a * 10 + (b.toNat - 48)) (c + 1) t from if_pos h.1, scan_digs t _ _ h.2, List.length_cons, Nat.add_assoc, Nat.add_comm 1]
    rfl
theorem scan_bd : ∀ (l : List UInt8) (a c : Nat), a < 10 ^ c → (scan a c l).1 < 10 ^ (scan a c l).2
  | [], _, _, h => h
  | b :: t, a, c, h => by
    by_cases e : isDg b = true
    · rw [show scan a c (b :: t) = scan (a * 10 + (b.toNat - 48)) (c + 1) t from if_pos e]
      have hd : b.toNat - 48 ≤ 9 := by
        have := of_decide_eq_true e
        clear h
        omega
      exact scan_bd t _ _ (pow_step h hd)
    · rw [show scan a c (b :: t) = scan a c t from if_neg e]
      exact scan_bd t _ _ h
theorem dgl_9 (n : Nat) (h : n < 1000000000) : (1 ≤ (dgl n).length ∧ (dgl n).length ≤ 9) ∧ (dgl n).all isDg = true ∧ fold10 0 (dgl n) = n := by
  have h' : n < 10 ^ (8 + 1) := by rw [show 10 ^ (8 + 1) = 1000000000 from by decide]; exact h
  have := dgl_len 8 n h'
  exact ⟨by omega, dgl_dg 8 n h'⟩
theorem fin_fmt (n : Int) : fin (fI n) n = (n, true) := if_pos rfl
theorem fin_true {s : List UInt8} {v : Int} (h : (fin s v).2 = true) : s = fI v ∧ fin s v = (v, true) := by
  unfold fin at h ⊢
  by_cases c : fI v = s
  · rw [if_pos c]; exact ⟨c.symm, rfl⟩
  · rw [if_neg c] at h; cases h
theorem fin_false {s : List UInt8} {v : Int} (h : ¬ (fin s v).2 = true) : fin s v = (0, false) := by
  unfold fin at h ⊢
  by_cases c : fI v = s
  · rw [if_pos c] at h; exact absurd rfl h
  · rw [if_neg c]
theorem fI_neg {n : Int} (h : n < 0) : fI n = (45 : UInt8) :: dgl (-n).toNat := by unfold fI; rw [if_pos h]
theorem fI_pos {n : Int} (h : ¬ n < 0) : fI n = dgl n.toNat := by unfold fI; rw [if_neg h]
theorem dgl_head {n : Nat} (h : n < 1000000000) : ∃ b t, dgl n = b :: t ∧ b.toNat ≠ 45 := by
  obtain ⟨h1, h2, h3⟩ := dgl_9 n h
  cases e : dgl n with
  | nil => rw [e] at h1; simp at h1
  | cons b t =>
    rw [e, List.all_cons, Bool.and_eq_true] at h2
    have := of_decide_eq_true h2.1
    exact ⟨b, t, rfl, by omega⟩
theorem strip_neg {n : Int} (h : n < 0) : strip (fI n) = dgl (-n).toNat := by rw [fI_neg h]; rfl
theorem strip_pos {n : Int} (h : ¬ n < 0) (hs : small n) : strip (fI n) = fI n := by
  rw [fI_pos h]
  obtain ⟨b, t, e, hb⟩ := dgl_head (n := n.toNat) (by have := hs.2; omega)
  rw [e]; unfold strip; exact if_neg hb
theorem sgn_pos {n : Int} (h : ¬ n < 0) (hs : small n) (a : Nat) : sgn (fI n) a = a := by
  rw [fI_pos h]
  obtain ⟨b, t, e, hb⟩ := dgl_head (n := n.toNat) (by have := hs.2; omega)
  rw [e]; unfold sgn; exact if_neg hb
theorem pI_fmt (n : Int) (hs : small n) : pI (fI n) = (n, true) := by
  have hs' := hs
  obtain ⟨h1, h2⟩ := hs
  unfold pI
  by_cases h : n < 0
  · obtain ⟨d0, d1, d2⟩ := dgl_9 (-n).toNat (by omega)
    have e := congrArg List.length (fI_neg h)
    rw [List.length_cons] at e
    rw [strip_neg h, if_neg (by omega), if_pos d1, d2]
    unfold finI
    rw [if_pos (by omega), show -(((-n).toNat : Nat) : Int) = n by omega, fin_fmt]
  · obtain ⟨d0, d1, d2⟩ := dgl_9 n.toNat (by omega)
    rw [strip_pos h hs', fI_pos h, if_neg (by omega), if_pos d1, d2, ← fI_pos h]
    unfold finI
    rw [if_neg (by omega), show ((n.toNat : Nat) : Int) = n by omega, fin_fmt]
theorem qF_fmt (n : Int) (hs : small n) : qF (fI n) (scan 0 0 ((fI n).take 11)) = (n, true) := by
  have hs' := hs
  obtain ⟨h1, h2⟩ := hs
  by_cases h : n < 0
  · obtain ⟨d0, d1, d2⟩ := dgl_9 (-n).toNat (by omega)
    have e := congrArg List.length (fI_neg h)
    rw [List.length_cons] at e
    rw [List.take_of_length_le (by omega)]
    have e2 : scan 0 0 (fI n) = (((-n).toNat, (dgl (-n).toNat).length) : Nat × Nat) := by
      rw [fI_neg h, show scan 0 0 ((45 : UInt8) :: dgl (-n).toNat) = scan 0 0 (dgl (-n).toNat) from if_neg (by decide), scan_digs _ _ _ d1, d2, Nat.zero_add]
    rw [e2]
    unfold qF
    dsimp only
    rw [if_neg (by omega), if_neg (by omega)]
    have e3 : sgn (fI n) (-n).toNat = n := by
      rw [fI_neg h, show sgn ((45 : UInt8) :: dgl (-n).toNat) (-n).toNat = -(((-n).toNat : Nat) : Int) by unfold sgn; exact if_pos rfl]; omega
    rw [e3, fin_fmt]
  · obtain ⟨d0, d1, d2⟩ := dgl_9 n.toNat (by omega)
    rw [← fI_pos h] at d0 d1 d2
    rw [List.take_of_length_le (by omega), scan_digs _ _ _ d1, d2]
    unfold qF
    dsimp only
    rw [if_neg (by omega), if_neg (by omega), sgn_pos h hs', show ((n.toNat : Nat) : Int) = n by omega, fin_fmt]
theorem pI_true {s : List UInt8} (h : (pI s).2 = true) : ∃ n, small n ∧ s = fI n := by
  unfold pI at h
  by_cases c1 : (strip s).length < 1 ∨ 9 < (strip s).length
  · rw [if_pos c1] at h; cases h
  · rw [if_neg c1] at h
    by_cases c2 : (strip s).all isDg = true
    · rw [if_pos c2] at h
      have hb := fold10_bd (strip s) 0 0 c2 (by decide)
      rw [Nat.zero_add] at hb
      have hb' : fold10 0 (strip s) < 1000000000 := pow_bd hb (by omega)
      clear hb
      unfold finI at h
      split at h
      · exact ⟨_, ⟨by omega, by omega⟩, (fin_true h).1⟩
      · exact ⟨_, ⟨by omega, by omega⟩, (fin_true h).1⟩
    · rw [if_neg c2] at h; cases h
theorem pI_false {s : List UInt8} (h : ¬ (pI s).2 = true) : pI s = (0, false) := by
  unfold pI at h ⊢
  by_cases c1 : (strip s).length < 1 ∨ 9 < (strip s).length
  · rw [if_pos c1]
  · rw [if_neg c1] at h ⊢
    by_cases c2 : (strip s).all isDg = true
    · rw [if_pos c2] at h ⊢
      unfold finI at h ⊢
      split at h
      · rename_i g; rw [if_pos g]; exact fin_false h
      · rename_i g; rw [if_neg g]; exact fin_false h
    · rw [if_neg c2]
theorem qF_true {s : List UInt8} {p : Nat × Nat} (hp : p.1 < 10 ^ p.2) (h : (qF s p).2 = true) : ∃ n, small n ∧ s = fI n := by
  unfold qF at h
  by_cases c1 : p.2 > 9
  · rw [if_pos c1] at h; cases h
  · rw [if_neg c1] at h
    have hb : p.1 < 1000000000 := pow_bd hp (Nat.not_lt.1 c1)
    clear hp
    by_cases c2 : s.length > 10
    · rw [if_pos c2] at h; cases h
    · rw [if_neg c2] at h
      refine ⟨_, ?_, (fin_true h).1⟩
      unfold sgn small
      split
      · omega
      · split <;> omega
theorem qF_false {s : List UInt8} {p : Nat × Nat} (h : ¬ (qF s p).2 = true) : qF s p = (0, false) := by
  unfold qF at h ⊢
  by_cases c1 : p.2 > 9
  · rw [if_pos c1]
  · rw [if_neg c1] at h ⊢
    by_cases c2 : s.length > 10
    · rw [if_pos c2]
    · rw [if_neg c2] at h ⊢
      exact fin_false h
theorem pI_qF (s : List UInt8) : qF s (scan 0 0 (s.take 11)) = pI s := by
  by_cases h : (pI s).2 = true
  · obtain ⟨n, hn, rfl⟩ := pI_true h
    rw [qF_fmt n hn, pI_fmt n hn]
  · rw [pI_false h]
    apply qF_false
    intro g
    obtain ⟨n, hn, rfl⟩ := qF_true (scan_bd _ 0 0 (by decide)) g
    exact h (by rw [pI_fmt n hn])
theorem spec_ParseInt_ev (s : List UInt8) (hs : s.length ≤ 1000000000) : Ev (fun k => spec_ParseInt.f k (toB s)) (pI s) := by
  have hl : (s.take 11).length ≤ 11 := by rw [List.length_take]; omega
  exact Ev.u (fun _ => rfl) ((spec_ParseInt_l0 s hs (s.take 11) 0 0 0 rfl (by omega) (by decide) (Nat.le_refl 0)).r (pI_qF s))
theorem pI_some {s : List UInt8} (h : (pI s).2 = true) : small (pI s).1 ∧ s = fI (pI s).1 := by
  obtain ⟨n, hn, rfl⟩ := pI_true h
  rw [pI_fmt n hn]
  exact ⟨hn, rfl⟩

def ctG (c : UInt8) (cur : List UInt8) : List UInt8 → List (List UInt8)
  | [] => [cur]
  | b :: t => if b = c then cur :: ctG c [] t else ctG c (cur ++ [b]) t
def ctS (c : UInt8) (s : List UInt8) : List (List UInt8) := ctG c [] s
def jnL (c : UInt8) : List (List UInt8) → List UInt8
  | [] => []
  | x :: t => x ++ t.flatMap fun y => c :: y
theorem jnL_cons (c : UInt8) (x : List UInt8) (t : List (List UInt8)) : jnL c (x :: t) = x ++ t.flatMap fun y => c :: y := rfl
theorem ctG_ne (c : UInt8) : ∀ (l cur : List UInt8), ∃ x t, ctG c cur l = x :: t
  | [], cur => ⟨cur, [], rfl⟩
  | b :: l, cur => by
    unfold ctG
    by_cases h : b = c
    · rw [if_pos h]; exact ⟨_, _, rfl⟩
    · rw [if_neg h]; exact ctG_ne c l _
theorem ctG_len (c : UInt8) : ∀ (l cur : List UInt8), (ctG c cur l).length ≤ l.length + 1
  | [], cur => by simp [ctG]
  | b :: l, cur => by
    unfold ctG
    by_cases h : b = c
    · rw [if_pos h, List.length_cons, List.length_cons]; have := ctG_len c l []; omega
    · rw [if_neg h, List.length_cons]; have := ctG_len c l (cur ++ [b]); omega
theorem ctG_mem (c : UInt8) : ∀ (l cur : List UInt8), ∀ x ∈ ctG c cur l, x.length ≤ cur.length + l.length
  | [], cur, x, h => by rw [List.mem_singleton.1 h]; simp
  | b :: l, cur, x, h => by
    unfold ctG at h
    by_cases e : b = c
    · rw [if_pos e] at h
      rcases List.mem_cons.1 h with h | h
      · rw [h]; simp
      · have := ctG_mem c l [] x h; rw [List.length_cons]; simp at this; omega
    · rw [if_neg e] at h
      have := ctG_mem c l _ x h
      rw [List.length_append, List.length_singleton] at this; rw [List.length_cons]; omega
theorem ctS_len (c : UInt8) (s : List UInt8) : (ctS c s).length ≤ s.length + 1 := ctG_len c s []
theorem ctS_mem {c : UInt8} {s x : List UInt8} (h : x ∈ ctS c s) : x.length ≤ s.length := by have := ctG_mem c s [] x h; simpa using this
theorem jn_ct (c : UInt8) : ∀ (l cur : List UInt8), jnL c (ctG c cur l) = cur ++ l
  | [], cur => by simp [ctG, jnL]
  | b :: t, cur => by
    unfold ctG
    by_cases g : b = c
    · rw [if_pos g]
      have ih := jn_ct c t []
      obtain ⟨x, u, e⟩ := ctG_ne c t []
      rw [e] at ih ⊢
      rw [List.nil_append] at ih
      rw [← ih, g]
      simp [jnL]
    · rw [if_neg g, jn_ct c t, List.append_assoc]; rfl
theorem jn_ctS (c : UInt8) (s : List UInt8) : jnL c (ctS c s) = s := jn_ct c s []
theorem ct_end (c : UInt8) : ∀ (l cur : List UInt8), (∀ b ∈ l, b ≠ c) → ctG c cur l = [cur ++ l]
  | [], cur, _ => by simp [ctG]
  | b :: t, cur, h => by
    unfold ctG
    rw [if_neg (h b (List.mem_cons_self ..)), ct_end c t _ (fun x hx => h x (List.mem_cons_of_mem _ hx)), List.append_assoc]; rfl
theorem ct_sep (c : UInt8) : ∀ (l cur m : List UInt8), (∀ b ∈ l, b ≠ c) → ctG c cur (l ++ c :: m) = (cur ++ l) :: ctG c [] m
  | [], cur, m, _ => by rw [List.nil_append, ctG, if_pos rfl, List.append_nil]
  | b :: t, cur, m, h => by
    rw [List.cons_append, ctG, if_neg (h b (List.mem_cons_self ..)), ct_sep c t _ m (fun x hx => h x (List.mem_cons_of_mem _ hx)), List.append_assoc]; rfl
theorem ct_jn (c : UInt8) : ∀ (t : List (List UInt8)) (x : List UInt8), (∀ y ∈ x :: t, ∀ b ∈ y, b ≠ c) → ctS c (jnL c (x :: t)) = x :: t
  | [], x, h => by
    unfold ctS
    rw [jnL_cons, List.flatMap_nil, List.append_nil, ct_end c x [] (h x (List.mem_cons_self ..))]; rfl
  | y :: t, x, h => by
    have ih := ct_jn c t y (fun z hz => h z (List.mem_cons_of_mem _ hz))
    unfold ctS at *
    rw [jnL_cons] at ih ⊢
    rw [List.flatMap_cons, List.cons_append, ct_sep c x [] _ (h x (List.mem_cons_self ..)), ih]; rfl
theorem u8_iff {a c : UInt8} {n : Int} (hn : (c.toNat : Int) = n) : (a.toNat : Int) = n ↔ a = c := by
  rw [← hn]
  exact ⟨fun h => UInt8.toNat_inj.1 (by omega), fun h => by rw [h]⟩
theorem take_snoc {s : List UInt8} {f i : Nat} {b : UInt8} {t : List UInt8} (h : s.drop i = b :: t) (hf : f ≤ i) : (s.drop f).take (i + 1 - f) = (s.drop f).take (i - f) ++ [b] := by
  rw [show i + 1 - f = (i - f) + 1 by omega, List.take_add_one]
  congr 1
  rw [List.getElem?_drop, show f + (i - f) = i by omega]
  have : s[i]? = some b := by rw [← List.head?_drop, h]; rfl
  rw [this]; rfl
theorem spec_l2Cut_l0 (s : List UInt8) (hs : s.length ≤ 1000000000) (c : UInt8) (n : Int) (hn : (c.toNat : Int) = n) : ∀ (t : List UInt8) (i f : Nat) (A : List (List UInt8)), s.drop i = t → i + t.length = s.length → f ≤ i → A.length ≤ i → Ev (fun k => spec_l2Cut.l0 k (toB s) n (A.map toB) (f : Int) (i : Int)) ((A ++ ctG c ((s.drop f).take (i - f)) t).map toB) := by
  intro t
  induction t with
  | nil =>
    intro i f A hd hi hf hA
    rw [List.length_nil] at hi
    refine Ev.s (fun k => by rw [spec_l2Cut.l0]) ?_
    rw [toB_sz]
    refine Ev.e (by omega) (Ev.t (by omega) (Ev.t (by omega) (Ev.t (by rw [List.length_map]; omega) (Ev.p.r ?_))))
    rw [bs_extract, bs_toB, Int.toNat_natCast, ← show i = s.length by omega]
    simp [ctG]
  | cons b t ih =>
    intro i f A hd hi hf hA
    rw [List.length_cons] at hi
    obtain ⟨hb, hi', hd'⟩ := bt_drop (s := toB s) (i := i) hd
    rw [bs_toB] at hd'
    refine Ev.s (fun k => by rw [spec_l2Cut.l0]) ?_
    rw [toB_sz, hb, w64s (n := s.length) (by omega) (by omega)]
    refine Ev.t (by omega) (Ev.t (by omega) (Ev.i (fun g => ?_) (fun g => ?_)))
    · refine Ev.t (by omega) (Ev.t (by omega) (Ev.t (by omega) (Ev.t (by rw [List.length_map]; omega) ?_)))
      have e := (u8_iff hn).1 g
      have h := ih (i + 1) (i + 1) (A ++ [(s.drop f).take (i - f)]) hd' (by omega) (Nat.le_refl _) (by simp; omega)
      rw [bs_extract, bs_toB, Int.toNat_natCast, Int.toNat_natCast]
      rw [List.map_append] at h
      refine h.r ?_
      unfold ctG
      rw [if_pos e, Nat.sub_self, List.take_zero, List.append_assoc]
      cases t <;> rfl
    · have e : ¬ b = c := fun h => g ((u8_iff hn).2 h)
      have h := ih (i + 1) f A hd' (by omega) (by omega) (by omega)
      rw [take_snoc hd hf] at h
      refine h.r ?_
      conv => rhs; unfold ctG
      rw [if_neg e]
theorem spec_l2Cut_ev (s : List UInt8) (hs : s.length ≤ 1000000000) (c : UInt8) (n : Int) (hn : (c.toNat : Int) = n) : Ev (fun k => spec_l2Cut.f k (toB s) n) ((ctS c s).map toB) :=
  Ev.u (fun _ => rfl) ((spec_l2Cut_l0 s hs c n hn s 0 0 [] rfl (by omega) (Nat.le_refl _) (by simp)).r (by simp [ctS]))
theorem impl_cut_l0 (s : List UInt8) (hs : s.length ≤ 1000000000) (c : UInt8) (n : Int) (hn : (c.toNat : Int) = n) : ∀ (t : List UInt8) (i f : Nat) (A : List (List UInt8)), s.drop i = t → i + t.length = s.length → f ≤ i → A.length ≤ i → Ev (fun k => impl_cut.l0 k (toB s) n (A.map toB) (f : Int) (s.length : Int) (i : Int)) ((A ++ ctG c ((s.drop f).take (i - f)) t).map toB) := by
  intro t
  induction t with
  | nil =>
    intro i f A hd hi hf hA
    rw [List.length_nil] at hi
    refine Ev.s (fun k => by rw [impl_cut.l0]) ?_
    rw [toB_sz]
    refine Ev.e (by omega) (Ev.t (by omega) (Ev.t (by omega) (Ev.t (by rw [List.length_map]; omega) (Ev.p.r ?_))))
    rw [bs_extract, bs_toB, Int.toNat_natCast, ← show i = s.length by omega]
    simp [ctG]
  | cons b t ih =>
    intro i f A hd hi hf hA
    rw [List.length_cons] at hi
    obtain ⟨hb, hi', hd'⟩ := bt_drop (s := toB s) (i := i) hd
    rw [bs_toB] at hd'
    refine Ev.s (fun k => by rw [impl_cut.l0]) ?_
    rw [toB_sz, hb, w64s (n := s.length) (by omega) (by omega)]
    refine Ev.t (by omega) (Ev.t (by omega) (Ev.t (by omega) (Ev.i (fun g => ?_) (fun g => ?_))))
    · refine Ev.t (by omega) (Ev.t (by omega) (Ev.t (by omega) (Ev.t (by rw [List.length_map]; omega) ?_)))
      have e := (u8_iff hn).1 g
      have h := ih (i + 1) (i + 1) (A ++ [(s.drop f).take (i - f)]) hd' (by omega) (Nat.le_refl _) (by simp; omega)
      rw [bs_extract, bs_toB, Int.toNat_natCast, Int.toNat_natCast]
      rw [List.map_append] at h
      refine h.r ?_
      unfold ctG
      rw [if_pos e, Nat.sub_self, List.take_zero, List.append_assoc]
      cases t <;> rfl
    · have e : ¬ b = c := fun h => g ((u8_iff hn).2 h)
      have h := ih (i + 1) f A hd' (by omega) (by omega) (by omega)
      rw [take_snoc hd hf] at h
      refine h.r ?_
      conv => rhs; unfold ctG
      rw [if_neg e]
theorem impl_cut_ev (s : List UInt8) (hs : s.length ≤ 1000000000) (c : UInt8) (n : Int) (hn : (c.toNat : Int) = n) : Ev (fun k => impl_cut.f k (toB s) n) ((ctS c s).map toB) :=
  Ev.u (fun _ => rfl) ((impl_cut_l0 s hs c n hn s 0 0 [] rfl (by omega) (Nat.le_refl _) (by simp)).r (by simp [ctS]))
/-! joins -/
theorem rdS (l : List (List UInt8)) (i : Nat) : rdOf ByteArray.empty (l.map toB) (i : Int) = toB (l.getD i []) := by
  show (l.map toB).getD (i : Int).toNat ByteArray.empty = _
  rw [Int.toNat_natCast, List.getD_eq_getElem?_getD, List.getD_eq_getElem?_getD, List.getElem?_map]
  cases l[i]? <;> rfl
def tot (L : List (List UInt8)) : Nat := (L.map fun x => x.length + 1).sum
theorem tot_cons (x : List UInt8) (L : List (List UInt8)) : tot (x :: L) = x.length + 1 + tot L := by simp [tot]
theorem tot_app (a b : List (List UInt8)) : tot (a ++ b) = tot a + tot b := by simp [tot]
theorem fmL_len (c : UInt8) : ∀ L : List (List UInt8), (L.flatMap fun y => c :: y).length = tot L
  | [] => rfl
  | x :: L => by rw [List.flatMap_cons, List.length_append, fmL_len c L, tot_cons, List.length_cons]
theorem jnL_len (c : UInt8) : ∀ L : List (List UInt8), (jnL c L).length ≤ tot L
  | [] => Nat.zero_le _
  | x :: L => by rw [jnL, List.length_append, fmL_len, tot_cons]; omega
theorem impl_joined_l0 (c : UInt8) (L : List (List UInt8)) (hl : L.length ≤ 1000000000) : ∀ (s : List (List UInt8)) (i : Nat) (acc : List UInt8), L.drop i = s → 0 < i → acc.length + tot s ≤ 9000000000000000 → Ev (fun k => impl_joined.l0 k (toB [c]) (toB acc) (L.length : Int) (i : Int) (L.map toB)) (toB (acc ++ s.flatMap fun y => c :: y)) := by
  intro s
  induction s with
  | nil =>
    intro i acc hd h0 ha
    have := drop_nil' hd
    exact Ev.s (fun k => by rw [impl_joined.l0]) (Ev.e (by omega) (Ev.p.r (by simp)))
  | cons x t ih =>
    intro i acc hd h0 ha
    rw [tot_cons] at ha
    obtain ⟨hi, hd', hx, -⟩ := drop_cons' hd
    have h := ih (i + 1) (acc ++ [c] ++ x) hd' (by omega) (by simp; omega)
    refine Ev.s (fun k => by rw [impl_joined.l0]) (Ev.t (by omega) (Ev.t (by omega) (Ev.t (by rw [List.length_map]; omega) (Ev.t (by omega) ?_))))
    rw [rdS, hx, toB_app, toB_sz, toB_sz]
    refine Ev.t (by rw [List.length_singleton]; omega) (Ev.s (fun k => by rw [impl_joined.j0]) ?_)
    rw [toB_app, toB_sz, toB_sz, w64s hi (by omega)]
    refine Ev.t (by simp; omega) (h.r ?_)
    simp
theorem impl_joined_ev (c : UInt8) (L : List (List UInt8)) (hl : L.length ≤ 1000000000) (ht : tot L ≤ 1000000000000000) : Ev (fun k => impl_joined.f k (L.map toB) (toB [c])) (toB (jnL c L)) := by
  refine Ev.u (fun k => by rw [impl_joined.f, List.length_map]) ?_
  cases L with
  | nil => exact Ev.s (fun k => by rw [impl_joined.l0]) (Ev.e (by simp) (Ev.p.r (by rfl)))
  | cons x t =>
    rw [tot_cons] at ht
    have h := impl_joined_l0 c (x :: t) hl t 1 x rfl (by omega) (by omega)
    refine Ev.s (fun k => by rw [impl_joined.l0]) (Ev.t (by simp) (Ev.t (by omega) (Ev.t (by simp) (Ev.e (by omega) ?_))))
    have r0 : rdOf ByteArray.empty ((x :: t).map toB) 0 = toB x := rfl
    have e0 : (⟨#[]⟩ : ByteArray) ++ toB x = toB x := toB_app [] x
    rw [r0]
    refine Ev.s (fun k => by rw [impl_joined.j0]) ?_
    rw [e0, show wrap64 ((0 : Int) + 1) = ((1 : Nat) : Int) by rw [w64 (by omega) (by omega)]; rfl]
    exact Ev.t (by show 0 + x.length ≤ _; omega) h
/-! rows -/
def vR (x : S72) : Bool := vRow x.f0 x.f1 x.f2
theorem vR_b {x : S72} (h : vR x = true) : (0 ≤ x.f0 ∧ x.f0 ≤ 9) ∧ (0 ≤ x.f1 ∧ x.f1 ≤ 99) ∧ (0 ≤ x.f2 ∧ x.f2 ≤ 3) := by
  simp [vR, vRow, inB] at h; omega
def fR (x : S72) : List UInt8 := if vR x = true then jnL 46 [fI x.f0, fI x.f1, fI x.f2] else []
theorem fR_len (x : S72) : (fR x).length ≤ 66 := by
  unfold fR
  split
  · rename_i h
    obtain ⟨h0, h1, h2⟩ := vR_b h
    have a := fI_len x.f0 (by omega) (by omega)
    have b := fI_len x.f1 (by omega) (by omega)
    have c := fI_len x.f2 (by omega) (by omega)
    have := jnL_len 46 [fI x.f0, fI x.f1, fI x.f2]
    rw [tot_cons, tot_cons, tot_cons, show tot [] = 0 from rfl] at this
    omega
  · simp
theorem fR_parts (x : S72) : jnL 46 [fI x.f0, fI x.f1, fI x.f2] = fI x.f0 ++ [46] ++ fI x.f1 ++ [46] ++ fI x.f2 := by simp [jnL]
theorem spec_FormatRow_ev (x : S72) : Ev (fun k => spec_FormatRow.f k x.f0 x.f1 x.f2) (toB (fR x)) := by
  unfold fR
  refine Ev.u (fun _ => rfl) (Ev.b (Ev.c (spec_IsValidRow_eq ..)) (Ev.i (fun h => ?_) (fun h => Ev.p.r ?_)))
  · obtain ⟨h0, h1, h2⟩ := vR_b (x := x) h
    have a := fI_len x.f0 (by omega) (by omega)
    have b := fI_len x.f1 (by omega) (by omega)
    have c := fI_len x.f2 (by omega) (by omega)
    have e0 := spec_FormatInt_ev x.f0 (by omega) (by omega)
    have e1 := spec_FormatInt_ev x.f1 (by omega) (by omega)
    have e2 := spec_FormatInt_ev x.f2 (by omega) (by omega)
    rw [if_pos (show vR x = true from h), fR_parts]
    refine Ev.b e0 (Ev.t ?_ (Ev.b e1 (Ev.t ?_ (Ev.t ?_ (Ev.b e2 (Ev.t ?_ (Ev.p.r ?_)))))))
    · show (fI x.f0).length + 1 ≤ _; omega
    · show ((toB (fI x.f0) ++ toB [46]).size + (toB (fI x.f1)).size ≤ _); simp only [toB_app, toB_sz, List.length_append, List.length_singleton]; omega
    · show ((toB (fI x.f0) ++ toB [46] ++ toB (fI x.f1)).size + (toB [46]).size ≤ _); simp only [toB_app, toB_sz, List.length_append, List.length_singleton]; omega
    · show ((toB (fI x.f0) ++ toB [46] ++ toB (fI x.f1) ++ toB [46]).size + (toB (fI x.f2)).size ≤ _); simp only [toB_app, toB_sz, List.length_append, List.length_singleton]; omega
    · show toB (fI x.f0) ++ toB [46] ++ toB (fI x.f1) ++ toB [46] ++ toB (fI x.f2) = _; simp only [toB_app]
  · rw [if_neg (show ¬ vR x = true from h)]; rfl
theorem impl_FormatRow_ev (x : S72) : Ev (fun k => impl_FormatRow.f k x.f0 x.f1 x.f2) (toB (fR x)) := by
  unfold fR
  refine Ev.u (fun _ => rfl) (Ev.b (Ev.c (impl_IsValidRow_eq ..)) (Ev.i (fun h => ?_) (fun h => Ev.p.r ?_)))
  · obtain ⟨h0, h1, h2⟩ := vR_b (x := x) h
    have a := fI_len x.f0 (by omega) (by omega)
    have b := fI_len x.f1 (by omega) (by omega)
    have c := fI_len x.f2 (by omega) (by omega)
    have e0 := impl_FormatInt_ev x.f0 (by omega) (by omega)
    have e1 := impl_FormatInt_ev x.f1 (by omega) (by omega)
    have e2 := impl_FormatInt_ev x.f2 (by omega) (by omega)
    rw [if_pos (show vR x = true from h), fR_parts]
    refine Ev.b e0 (Ev.t ?_ (Ev.b e1 (Ev.t ?_ (Ev.t ?_ (Ev.b e2 (Ev.t ?_ (Ev.p.r ?_)))))))
    · show (fI x.f0).length + 1 ≤ _; omega
    · show ((toB (fI x.f0) ++ toB [46]).size + (toB (fI x.f1)).size ≤ _); simp only [toB_app, toB_sz, List.length_append, List.length_singleton]; omega
    · show ((toB (fI x.f0) ++ toB [46] ++ toB (fI x.f1)).size + (toB [46]).size ≤ _); simp only [toB_app, toB_sz, List.length_append, List.length_singleton]; omega
    · show ((toB (fI x.f0) ++ toB [46] ++ toB (fI x.f1) ++ toB [46]).size + (toB (fI x.f2)).size ≤ _); simp only [toB_app, toB_sz, List.length_append, List.length_singleton]; omega
    · show toB (fI x.f0) ++ toB [46] ++ toB (fI x.f1) ++ toB [46] ++ toB (fI x.f2) = _; simp only [toB_app]
  · rw [if_neg (show ¬ vR x = true from h)]; rfl
/-- Bytes of numbers: digits and the sign. -/
def nmB (b : UInt8) : Prop := b.toNat = 45 ∨ (48 ≤ b.toNat ∧ b.toNat ≤ 57)
theorem fI_nm {n : Int} (hs : small n) : ∀ b ∈ fI n, nmB b := by
  have hd : ∀ m : Nat, m < 1000000000 → ∀ b ∈ dgl m, nmB b := by
    intro m hm b hb
    exact .inr (of_decide_eq_true (List.all_eq_true.1 (dgl_9 m hm).2.1 b hb))
  obtain ⟨h1, h2⟩ := hs
  by_cases h : n < 0
  · rw [fI_neg h]
    intro b hb
    rcases List.mem_cons.1 hb with rfl | hb
    · exact .inl rfl
    · exact hd _ (by omega) b hb
  · rw [fI_pos h]
    exact hd _ (by omega)
theorem fI_ne {n : Int} : fI n ≠ [] := by
  unfold fI
  split
  · simp
  · rw [dgl]; split <;> simp
theorem nm_ne {b c : UInt8} (h : nmB b) (hc : c.toNat ≠ 45) (hd : ¬ (48 ≤ c.toNat ∧ c.toNat ≤ 57)) : b ≠ c := by
  intro e; rw [e] at h; rcases h with h | h
  · exact hc h
  · exact hd h
def pR (s : List UInt8) : S72 × Bool :=
  match ctS 46 s with
  | [a, b, c] => if (pI a).2 = true ∧ (pI b).2 = true ∧ (pI c).2 = true ∧ vR ⟨(pI a).1, (pI b).1, (pI c).1⟩ = true then (⟨(pI a).1, (pI b).1, (pI c).1⟩, true) else (⟨0, 0, 0⟩, false)
  | _ => (⟨0, 0, 0⟩, false)
theorem ct_fR {x : S72} (h : vR x = true) : ctS 46 (fR x) = [fI x.f0, fI x.f1, fI x.f2] := by
  obtain ⟨h0, h1, h2⟩ := vR_b h
  have n0 := fI_nm (n := x.f0) ⟨by omega, by omega⟩
  have n1 := fI_nm (n := x.f1) ⟨by omega, by omega⟩
  have n2 := fI_nm (n := x.f2) ⟨by omega, by omega⟩
  unfold fR; rw [if_pos h]
  refine ct_jn 46 _ _ fun y hy b hb => ?_
  have hn : nmB b := by
    simp only [List.mem_cons, List.not_mem_nil, or_false] at hy
    rcases hy with rfl | rfl | rfl
    · exact n0 b hb
    · exact n1 b hb
    · exact n2 b hb
  exact nm_ne hn (by decide) (by decide)
theorem pR_fR {x : S72} (h : vR x = true) : pR (fR x) = (x, true) := by
  obtain ⟨h0, h1, h2⟩ := vR_b h
  unfold pR
  rw [ct_fR h]
  dsimp only
  rw [pI_fmt x.f0 ⟨by omega, by omega⟩, pI_fmt x.f1 ⟨by omega, by omega⟩, pI_fmt x.f2 ⟨by omega, by omega⟩]
  exact if_pos ⟨rfl, rfl, rfl, h⟩
theorem fR_cut {s a b c : List UInt8} (h : ctS 46 s = [a, b, c]) : fR ⟨(pI a).1, (pI b).1, (pI c).1⟩ = s ↔ ((pI a).2 = true ∧ (pI b).2 = true ∧ (pI c).2 = true ∧ vR ⟨(pI a).1, (pI b).1, (pI c).1⟩ = true) := by
  constructor
  · intro e
    by_cases v : vR ⟨(pI a).1, (pI b).1, (pI c).1⟩ = true
    · have h' := ct_fR v
      rw [e, h] at h'
      injection h' with e0 h'
      injection h' with e1 h'
      injection h' with e2 _
      obtain ⟨v0, v1, v2⟩ := vR_b v
      dsimp only at v0 v1 v2 e0 e1 e2
      have p0 := pI_fmt (pI a).1 ⟨by omega, by omega⟩
      have p1 := pI_fmt (pI b).1 ⟨by omega, by omega⟩
      have p2 := pI_fmt (pI c).1 ⟨by omega, by omega⟩
      rw [← e0] at p0
      rw [← e1] at p1
      rw [← e2] at p2
      exact ⟨by rw [p0], by rw [p1], by rw [p2], v⟩
    · unfold fR at e
      rw [if_neg v] at e
      rw [← e] at h
      simp [ctS, ctG] at h
  · rintro ⟨h0, h1, h2, v⟩
    have f0 := (pI_some h0).2
    have f1 := (pI_some h1).2
    have f2 := (pI_some h2).2
    have hj := jn_ctS 46 s
    rw [h] at hj
    unfold fR
    rw [if_pos v]
    dsimp only
    rw [← f0, ← f1, ← f2]
    exact hj
theorem pR_some {s : List UInt8} (h : (pR s).2 = true) : vR (pR s).1 = true ∧ fR (pR s).1 = s := by
  unfold pR at h ⊢
  split at h
  · rename_i a b c e
    by_cases g : (pI a).2 = true ∧ (pI b).2 = true ∧ (pI c).2 = true ∧ vR ⟨(pI a).1, (pI b).1, (pI c).1⟩ = true
    · rw [if_pos g]; exact ⟨g.2.2.2, (fR_cut e).2 g⟩
    · rw [if_neg g] at h; cases h
  · cases h
abbrev rtp (r : S72 × Bool) : Int × Int × Int × Bool := (r.1.f0, r.1.f1, r.1.f2, r.2)
theorem spec_ParseRow_ev (s : List UInt8) (hs : s.length ≤ 1000000000) : Ev (fun k => spec_ParseRow.f k (toB s)) (rtp (pR s)) := by
  have ec := spec_l2Cut_ev s hs 46 46 rfl
  have hm := fun x => ctS_mem (c := 46) (s := s) (x := x)
  unfold pR
  refine Ev.u (fun _ => rfl) (Ev.b ec ?_)
  rw [List.length_map]
  cases h : ctS 46 s with
  | nil => exact Ev.e (by simp) Ev.p
  | cons a l =>
    cases l with
    | nil => exact Ev.e (by simp) Ev.p
    | cons b l =>
      cases l with
      | nil => exact Ev.e (by simp) Ev.p
      | cons c l =>
        cases l with
        | cons d l => exact Ev.e (by simp only [List.length_cons]; omega) Ev.p
        | nil =>
          rw [h] at hm
          have za := hm a (by simp)
          have zb := hm b (by simp)
          have zc := hm c (by simp)
          refine Ev.t rfl (Ev.t (by simp) ?_)
          rw [show rdOf ByteArray.empty ([a, b, c].map toB) 0 = toB a from rfl, show rdOf ByteArray.empty ([a, b, c].map toB) 1 = toB b from rfl, show rdOf ByteArray.empty ([a, b, c].map toB) 2 = toB c from rfl]
          refine Ev.b (spec_ParseInt_ev a (by omega)) (Ev.t (by simp) (Ev.b (spec_ParseInt_ev b (by omega)) (Ev.t (by simp) (Ev.b (spec_ParseInt_ev c (by omega)) ?_))))
          have fr := spec_FormatRow_ev ⟨(pI a).1, (pI b).1, (pI c).1⟩
          refine Ev.b fr (Ev.i (fun g => Ev.p.r ?_) (fun g => Ev.p.r ?_))
          · dsimp only; rw [if_pos ((fR_cut h).1 (toB_inj ((toL_iff _ _).1 g)))]
          · dsimp only; rw [if_neg (fun q => g (by rw [(fR_cut h).2 q]))]
theorem impl_ParseRow_ev (s : List UInt8) (hs : s.length ≤ 1000000000) : Ev (fun k => impl_ParseRow.f k (toB s)) (rtp (pR s)) := by
  have ec := impl_cut_ev s hs 46 46 rfl
  unfold pR
  refine Ev.u (fun _ => rfl) (Ev.b ec ?_)
  rw [List.length_map]
  cases h : ctS 46 s with
  | nil => exact Ev.e (by simp) Ev.p
  | cons a l =>
    cases l with
    | nil => exact Ev.e (by simp) Ev.p
    | cons b l =>
      cases l with
      | nil => exact Ev.e (by simp) Ev.p
      | cons c l =>
        cases l with
        | cons d l => exact Ev.e (by simp only [List.length_cons]; omega) Ev.p
        | nil =>
          refine Ev.t rfl (Ev.t (by simp) ?_)
          rw [show rdOf ByteArray.empty ([a, b, c].map toB) 0 = toB a from rfl, show rdOf ByteArray.empty ([a, b, c].map toB) 1 = toB b from rfl, show rdOf ByteArray.empty ([a, b, c].map toB) 2 = toB c from rfl]
          refine Ev.b (impl_ParseInt_ev a) (Ev.t (by simp) (Ev.b (impl_ParseInt_ev b) (Ev.t (by simp) (Ev.b (impl_ParseInt_ev c) ?_))))
          refine Ev.i (fun q0 => Ev.i (fun q1 => Ev.i (fun q2 => Ev.b (Ev.c (impl_IsValidRow_eq ..)) (Ev.i (fun q3 => Ev.p.r ?_) (fun q3 => Ev.p.r ?_))) (fun q2 => Ev.p.r ?_)) (fun q1 => Ev.p.r ?_)) (fun q0 => Ev.p.r ?_)
          · dsimp only; rw [if_pos ⟨q0, q1, q2, q3⟩]
          · dsimp only; rw [if_neg (fun g => q3 g.2.2.2)]
          · dsimp only; rw [if_neg (fun g => q2 g.2.2.1)]
          · dsimp only; rw [if_neg (fun g => q1 g.2.1)]
          · dsimp only; rw [if_neg (fun g => q0 g.1)]

def fRs (l : List S72) : List UInt8 := if vRows l = true then jnL 32 (l.map fR) else []
theorem tot_fR : ∀ l : List S72, tot (l.map fR) ≤ 67 * l.length
  | [] => by simp [tot]
  | x :: l => by rw [List.map_cons, tot_cons, List.length_cons]; have := fR_len x; have := tot_fR l; omega
theorem fRs_len (l : List S72) : (fRs l).length ≤ 1608 := by
  unfold fRs
  split
  · rename_i h
    have := jnL_len 32 (l.map fR); have := tot_fR l; have := vRows_len h; omega
  · simp
theorem impl_rowTexts_ev (l : List S72) (hl : l.length ≤ 1000000) : Ev (fun k => impl_rowTexts.f k l) (toB (jnL 32 (l.map fR))) := by
  have L : ∀ (s : List S72) (i : Nat) (A : List (List UInt8)), l.drop i = s → A.length ≤ i → i ≤ l.length → tot A ≤ 67 * i → Ev (fun k => impl_rowTexts.l0 k (A.map toB) (l.length : Int) (i : Int) l) (toB (jnL 32 (A ++ s.map fR))) := by
    intro s
    induction s with
    | nil =>
      intro i A hd hA hi ht
      have := drop_nil' hd
      refine Ev.s (fun k => by rw [impl_rowTexts.l0]) ?_
      exact Ev.e (by omega) (Ev.b (impl_joined_ev 32 A (by omega) (by omega)) (Ev.p.r (by simp)))
    | cons x t ih =>
      intro i A hd hA hi ht
      obtain ⟨hi', hd', hx, -⟩ := drop_cons' hd
      have hf := fR_len x
      have h := ih (i + 1) (A ++ [fR x]) hd' (by simp; omega) (by omega) (by rw [tot_app, tot_cons, show tot [] = 0 from rfl]; omega)
      refine Ev.s (fun k => by rw [impl_rowTexts.l0]) (Ev.t (by omega) (Ev.t (by omega) (Ev.t (by omega) ?_)))
      rw [rdR, hx, w64s hi' (by omega)]
      refine Ev.b (impl_FormatRow_ev x) (Ev.t (by rw [List.length_map]; omega) ?_)
      rw [List.map_append, List.append_assoc] at h
      exact h
  exact Ev.u (fun _ => rfl) (L l 0 [] rfl (by simp) (by omega) (by simp [tot]))
theorem impl_FormatRows_ev (l : List S72) (hl : l.length ≤ 1073741824) : Ev (fun k => impl_FormatRows.f k l) (toB (fRs l)) := by
  unfold fRs
  refine Ev.u (fun _ => rfl) (Ev.b (impl_AreValidRows_ev l (by omega)) (Ev.i (fun h => ?_) (fun h => Ev.p.r ?_)))
  · rw [if_pos h]
    exact Ev.b (impl_rowTexts_ev l (by have := vRows_len h; omega)) Ev.p
  · rw [if_neg h]; rfl
theorem spec_FormatRows_ev (l : List S72) (hl : l.length ≤ 1073741824) : Ev (fun k => spec_FormatRows.f k l) (toB (fRs l)) := by
  have hv := spec_AreValidRows_ev l (by omega)
  unfold fRs
  refine Ev.u (fun k => by rw [spec_FormatRows.f]) ?_
  by_cases h : vRows l = true
  · have h24 := vRows_len h
    rw [h] at hv
    rw [if_pos h]
    have J : ∀ (x : S72) (i : Nat) (acc : List UInt8) (r : ByteArray) (b : Bool), i < l.length → (∀ d, l.getD i d = x) → acc.length ≤ 1000000 → Ev (fun k => spec_FormatRows.l0 k (toB (acc ++ fR x)) ((i + 1 : Nat) : Int) l) r → Ev (fun k => spec_FormatRows.j0 k (toB acc) (i : Int) b l) r := by
      intro x i acc r b hi hx ha h
      have hf := fR_len x
      refine Ev.s (fun k => by rw [spec_FormatRows.j0]) (Ev.t (by omega) (Ev.t (by omega) ?_))
      rw [rdR, hx, w64s hi (by omega)]
      refine Ev.b (spec_FormatRow_ev x) ?_
      rw [toB_app, toB_sz, toB_sz]
      exact Ev.t (by omega) h
    have L : ∀ (s : List S72) (i : Nat) (acc : List UInt8), l.drop i = s → 0 < i → acc.length + 67 * s.length ≤ 900000 → Ev (fun k => spec_FormatRows.l0 k (toB acc) (i : Int) l) (toB (acc ++ (s.map fR).flatMap fun y => 32 :: y)) := by
      intro s
      induction s with
      | nil =>
        intro i acc hd h0 ha
        have := drop_nil' hd
        exact Ev.s (fun k => by rw [spec_FormatRows.l0]) (Ev.e (by omega) (Ev.p.r (by simp)))
      | cons x t ih =>
        intro i acc hd h0 ha
        rw [List.length_cons] at ha
        obtain ⟨hi', hd', hx, -⟩ := drop_cons' hd
        have hf := fR_len x
        refine Ev.s (fun k => by rw [spec_FormatRows.l0]) ?_
        refine Ev.t (by omega) (Ev.b hv (Ev.t rfl (Ev.t (by omega) (Ev.t (by show acc.length + 1 ≤ _; omega) ?_))))
        rw [show toB acc ++ (⟨#[32]⟩ : ByteArray) = toB (acc ++ [32]) from toB_app acc [32]]
        refine J x i (acc ++ [32]) _ _ hi' hx (by simp; omega) ((ih (i + 1) _ hd' (by omega) (by simp; omega)).r ?_)
        simp
    cases l with
    | nil => exact Ev.s (fun k => by rw [spec_FormatRows.l0]) (Ev.e (by simp) (Ev.p.r (by rfl)))
    | cons x t =>
      have hf := fR_len x
      rw [List.length_cons] at h24
      refine Ev.s (fun k => by rw [spec_FormatRows.l0]) ?_
      refine Ev.t (by simp) (Ev.b hv (Ev.t rfl (Ev.e (by omega) ?_)))
      exact J x 0 [] _ _ (by simp) (fun _ => rfl) (by simp) (L t 1 (fR x) rfl (by omega) (by omega))
  · rw [if_neg h]
    refine Ev.s (fun k => by rw [spec_FormatRows.l0]) ?_
    exact Ev.i (fun _ => Ev.b hv (Ev.e h (Ev.p.r rfl))) (fun _ => Ev.p.r rfl)
def pRg (A : List S72) : List (List UInt8) → List S72 × Bool
  | [] => if vRows A = true then (A, true) else ([], false)
  | x :: t => if (pR x).2 = true then pRg (A ++ [(pR x).1]) t else ([], false)
def pRs (s : List UInt8) : List S72 × Bool := if s = [] then ([], true) else pRg [] (ctS 32 s)
theorem impl_ParseRows_ev (s : List UInt8) (hs : s.length ≤ 100000000) : Ev (fun k => impl_ParseRows.f k (toB s)) (pRs s) := by
  unfold pRs
  refine Ev.u (fun _ => rfl) (Ev.i (fun h => ?_) (fun h => ?_))
  · rw [if_pos (show s = [] from (toL_nil _).1 h)]; exact Ev.p
  have h' : ¬ s = [] := fun e => h ((toL_nil _).2 e)
  rw [if_neg h']
  have hl := ctS_len 32 s
  have hm := fun x => ctS_mem (c := 32) (s := s) (x := x)
  refine Ev.b (impl_cut_ev s (by omega) 32 32 rfl) ?_
  rw [List.length_map]
  generalize ctS 32 s = C at *
  have L : ∀ (t : List (List UInt8)) (i : Nat) (A : List S72), C.drop i = t → A.length ≤ i → i ≤ C.length → Ev (fun k => impl_ParseRows.l0 k A (C.map toB) (C.length : Int) (i : Int)) (pRg A t) := by
    intro t
    induction t with
    | nil =>
      intro i A hd hA hi
      have := drop_nil' hd
      refine Ev.s (fun k => by rw [impl_ParseRows.l0]) (Ev.e (by omega) (Ev.b (impl_AreValidRows_ev A (by omega)) (Ev.i (fun g => Ev.p.r ?_) (fun g => Ev.p.r ?_))))
      · unfold pRg; rw [if_pos g]
      · unfold pRg; rw [if_neg g]
    | cons x t ih =>
      intro i A hd hA hi
      obtain ⟨hi', hd', hx, -⟩ := drop_cons' hd
      have hz := hm x (List.mem_of_mem_drop (by rw [hd]; exact List.mem_cons_self ..))
      refine Ev.s (fun k => by rw [impl_ParseRows.l0]) (Ev.t (by omega) (Ev.t (by omega) (Ev.t (by rw [List.length_map]; omega) ?_)))
      rw [rdS, hx, w64s hi' (by omega)]
      unfold pRg
      refine Ev.b (impl_ParseRow_ev x (by omega)) (Ev.i (fun g => ?_) (fun g => Ev.p.r ?_))
      · rw [if_pos g]
        exact Ev.t (by omega) (ih (i + 1) _ hd' (by simp; omega) (by omega))
      · rw [if_neg g]
  exact L C 0 [] rfl (by simp) (by omega)
theorem spec_ParseRows_j0 (A : List S72) (hA : A.length ≤ 200000000) : Ev (fun k => spec_ParseRows.j0 k A) (if vRows A = true then (A, true) else ([], false)) := by
  refine Ev.s (fun k => by rw [spec_ParseRows.j0]) (Ev.b (spec_AreValidRows_ev A (by omega)) (Ev.i (fun g => Ev.p.r ?_) (fun g => Ev.p.r ?_)))
  · rw [if_pos g]
  · rw [if_neg g]
theorem spec_ParseRows_ev (s : List UInt8) (hs : s.length ≤ 100000000) : Ev (fun k => spec_ParseRows.f k (toB s)) (pRs s) := by
  unfold pRs
  have hl := ctS_len 32 s
  have hm := fun x => ctS_mem (c := 32) (s := s) (x := x)
  refine Ev.u (fun _ => rfl) (Ev.b (spec_l2Cut_ev s (by omega) 32 32 rfl) ?_)
  by_cases h : s = []
  · subst h
    rw [if_pos rfl]
    refine Ev.s (fun k => by rw [spec_ParseRows.l0]) ?_
    refine Ev.t (by simp [ctS, ctG]) (Ev.t rfl ?_)
    exact (spec_ParseRows_j0 [] (by simp)).r (by rfl)
  rw [if_neg h]
  generalize ctS 32 s = C at *
  have L : ∀ (t : List (List UInt8)) (i : Nat) (A : List S72), C.drop i = t → A.length ≤ i → i ≤ C.length → Ev (fun k => spec_ParseRows.l0 k (toB s) A (C.map toB) (i : Int)) (pRg A t) := by
    intro t
    induction t with
    | nil =>
      intro i A hd hA hi
      have := drop_nil' hd
      refine Ev.s (fun k => by rw [spec_ParseRows.l0]) (Ev.e (by rw [List.length_map]; omega) ?_)
      exact spec_ParseRows_j0 A (by omega)
    | cons x t ih =>
      intro i A hd hA hi
      obtain ⟨hi', hd', hx, -⟩ := drop_cons' hd
      have hz := hm x (List.mem_of_mem_drop (by rw [hd]; exact List.mem_cons_self ..))
      refine Ev.s (fun k => by rw [spec_ParseRows.l0]) ?_
      refine Ev.t (by rw [List.length_map]; omega) (Ev.e (fun g => h ((toL_nil _).1 g)) (Ev.t (by omega) ?_))
      rw [rdS, hx, w64s hi' (by omega)]
      unfold pRg
      refine Ev.b (spec_ParseRow_ev x (by omega)) (Ev.i (fun g => ?_) (fun g => Ev.p.r ?_))
      · rw [if_pos g]
        exact Ev.t (by omega) (ih (i + 1) _ hd' (by simp; omega) (by omega))
      · rw [if_neg g]
  exact L C 0 [] rfl (by simp) (by omega)
theorem pRg_some : ∀ (t : List (List UInt8)) (A : List S72), (pRg A t).2 = true → ∃ B, (pRg A t).1 = A ++ B ∧ B.map fR = t ∧ vRows (A ++ B) = true
  | [], A, h => by
    unfold pRg at h ⊢
    by_cases g : vRows A = true
    · rw [if_pos g]; exact ⟨[], by simp, rfl, by simpa using g⟩
    · rw [if_neg g] at h; cases h
  | x :: t, A, h => by
    unfold pRg at h ⊢
    by_cases g : (pR x).2 = true
    · rw [if_pos g] at h ⊢
      obtain ⟨B, b1, b2, b3⟩ := pRg_some t _ h
      rw [List.append_assoc] at b1 b3
      exact ⟨(pR x).1 :: B, b1, by rw [List.map_cons, b2, (pR_some g).2], b3⟩
    · rw [if_neg g] at h; cases h
theorem pRg_no : ∀ (t : List (List UInt8)) (A : List S72), (pRg A t).2 = false → pRg A t = ([], false)
  | [], A, h => by
    unfold pRg at h ⊢
    by_cases g : vRows A = true
    · rw [if_pos g] at h; cases h
    · rw [if_neg g]
  | x :: t, A, h => by
    unfold pRg at h ⊢
    by_cases g : (pR x).2 = true
    · rw [if_pos g] at h ⊢; exact pRg_no t _ h
    · rw [if_neg g]
theorem pRs_some {s : List UInt8} (h : (pRs s).2 = true) : vRows (pRs s).1 = true ∧ fRs (pRs s).1 = s := by
  unfold pRs at h ⊢
  by_cases g : s = []
  · rw [if_pos g, g]; exact ⟨by rfl, by rfl⟩
  · rw [if_neg g] at h ⊢
    obtain ⟨B, b1, b2, b3⟩ := pRg_some _ _ h
    rw [List.nil_append] at b1 b3
    rw [b1]
    refine ⟨b3, ?_⟩
    unfold fRs; rw [if_pos b3, b2, jn_ctS]
theorem pRs_no {s : List UInt8} (h : (pRs s).2 = false) : pRs s = ([], false) := by
  unfold pRs at h ⊢
  by_cases g : s = []
  · rw [if_pos g] at h; cases h
  · rw [if_neg g] at h ⊢; exact pRg_no _ _ h
theorem pRs_len (s : List UInt8) : (pRs s).1.length ≤ 24 := by
  cases h : (pRs s).2 with
  | true => exact vRows_len (pRs_some h).1
  | false => rw [pRs_no h]; simp
theorem pRg_map : ∀ (B A : List S72), vAll B = true → vRows (A ++ B) = true → pRg A (B.map fR) = (A ++ B, true)
  | [], A, _, h => by
    rw [List.append_nil] at h ⊢
    show (if vRows A = true then (A, true) else ([], false)) = _
    rw [if_pos h]
  | x :: B, A, hv, h => by
    have hx : vR x = true := by unfold vAll at hv; rw [List.all_cons, Bool.and_eq_true] at hv; exact hv.1
    have hB : vAll B = true := by unfold vAll at hv ⊢; rw [List.all_cons, Bool.and_eq_true] at hv; exact hv.2
    rw [List.map_cons]
    unfold pRg
    rw [pR_fR hx, if_pos rfl]
    have ih := pRg_map B (A ++ [x]) hB (by rw [List.append_assoc]; exact h)
    rw [ih, List.append_assoc]; rfl
theorem fR_ne {x : S72} (h : vR x = true) : fR x ≠ [] := by
  unfold fR; rw [if_pos h, jnL_cons]
  intro e
  exact fI_ne (List.append_eq_nil_iff.1 e).1
theorem fR_32 {x : S72} : ∀ b ∈ fR x, nmB b ∨ b.toNat = 46 := by
  unfold fR
  by_cases h : vR x = true
  · obtain ⟨h0, h1, h2⟩ := vR_b h
    have n0 := fI_nm (n := x.f0) ⟨by omega, by omega⟩
    have n1 := fI_nm (n := x.f1) ⟨by omega, by omega⟩
    have n2 := fI_nm (n := x.f2) ⟨by omega, by omega⟩
    rw [if_pos h, fR_parts]
    intro b hb
    simp only [List.mem_append, List.mem_singleton] at hb
    rcases hb with (((hb | hb) | hb) | hb) | hb
    · exact .inl (n0 b hb)
    · right; rw [hb]; rfl
    · exact .inl (n1 b hb)
    · right; rw [hb]; rfl
    · exact .inl (n2 b hb)
  · rw [if_neg h]; simp
theorem pRs_fRs {l : List S72} (h : vRows l = true) : pRs (fRs l) = (l, true) := by
  unfold fRs; rw [if_pos h]
  cases l with
  | nil => rfl
  | cons x t =>
    have hv := (vRows_iff.1 h).1
    have hx : vR x = true := by unfold vAll at hv; rw [List.all_cons, Bool.and_eq_true] at hv; exact hv.1
    have hn : jnL 32 ((x :: t).map fR) ≠ [] := by
      rw [List.map_cons, jnL_cons]; exact fun e => fR_ne hx (List.append_eq_nil_iff.1 e).1
    unfold pRs
    rw [if_neg hn, List.map_cons, ct_jn, ← List.map_cons, pRg_map _ _ hv (by simpa using h)]
    · rfl
    · intro y hy b hb
      rw [← List.map_cons] at hy
      obtain ⟨r, -, rfl⟩ := List.mem_map.1 hy
      rcases fR_32 b hb with hq | hq
      · exact nm_ne hq (by decide) (by decide)
      · intro e; rw [e] at hq; exact absurd hq (by decide)
theorem jn_mem {c : UInt8} {b : UInt8} : ∀ {L : List (List UInt8)}, b ∈ jnL c L → b = c ∨ ∃ x ∈ L, b ∈ x
  | [], h => by simp [jnL] at h
  | x :: t, h => by
    rw [jnL_cons, List.mem_append] at h
    rcases h with h | h
    · exact .inr ⟨x, List.mem_cons_self .., h⟩
    · obtain ⟨y, hy, hb⟩ := List.mem_flatMap.1 h
      rcases List.mem_cons.1 hb with hb | hb
      · exact .inl hb
      · exact .inr ⟨y, List.mem_cons_of_mem _ hy, hb⟩
theorem fRs_b {l : List S72} : ∀ b ∈ fRs l, nmB b ∨ b.toNat = 46 ∨ b.toNat = 32 := by
  unfold fRs
  split
  · intro b hb
    rcases jn_mem hb with hb | ⟨x, hx, hb⟩
    · right; right; rw [hb]; rfl
    · obtain ⟨r, -, rfl⟩ := List.mem_map.1 hx
      rcases fR_32 b hb with hq | hq
      · exact .inl hq
      · exact .inr (.inl hq)
  · simp
/-! tasks -/
theorem ct_nil (c : UInt8) : ctS c [] = [[]] := rfl
def eb (b : Bool) : List UInt8 := if b = true then [49] else [48]
def EvP {α : Type} (f : Nat → Option α) (P : α → Prop) : Prop := ∃ r, Ev f r ∧ P r
theorem EvP.s {α : Type} {L f : Nat → Option α} {P : α → Prop} (h : ∀ k, L (k + 1) = f k) (hf : EvP f P) : EvP L P := by
  obtain ⟨r, e, p⟩ := hf; exact ⟨r, Ev.s h e, p⟩
theorem EvP.u {α : Type} {L f : Nat → Option α} {P : α → Prop} (h : ∀ k, L k = f k) (hf : EvP f P) : EvP L P := by
  obtain ⟨r, e, p⟩ := hf; exact ⟨r, Ev.u h e, p⟩
theorem EvP.t {α : Type} {p : Prop} [Decidable p] {f g : Nat → Option α} {P : α → Prop} (h : p) (hf : EvP f P) : EvP (fun k => if p then f k else g k) P := by
  obtain ⟨r, e, q⟩ := hf; exact ⟨r, Ev.t h e, q⟩
theorem EvP.e {α : Type} {p : Prop} [Decidable p] {f g : Nat → Option α} {P : α → Prop} (h : ¬ p) (hf : EvP g P) : EvP (fun k => if p then f k else g k) P := by
  obtain ⟨r, e, q⟩ := hf; exact ⟨r, Ev.e h e, q⟩
theorem EvP.i {α : Type} {p : Prop} [Decidable p] {f g : Nat → Option α} {P : α → Prop} (hf : p → EvP f P) (hg : ¬ p → EvP g P) : EvP (fun k => if p then f k else g k) P := by
  by_cases h : p
  · exact EvP.t h (hf h)
  · exact EvP.e h (hg h)
theorem EvP.b {α β : Type} {f : Nat → Option α} {g : Nat → α → Option β} {P : α → Prop} {Q : β → Prop} (hf : EvP f P) (hg : ∀ a, P a → EvP (fun k => g k a) Q) : EvP (fun k => (f k).bind (g k)) Q := by
  obtain ⟨a, e, p⟩ := hf
  obtain ⟨r, e', q⟩ := hg a p
  exact ⟨r, Ev.b e e', q⟩
theorem EvP.bc {α β : Type} {o : Option α} {a : α} {g : Nat → α → Option β} {Q : β → Prop} (h : o = some a) (hg : EvP (fun k => g k a) Q) : EvP (fun k => o.bind (g k)) Q := by
  obtain ⟨r, e', q⟩ := hg
  exact ⟨r, Ev.b (Ev.c h) e', q⟩
theorem EvP.p {α : Type} {r : α} {P : α → Prop} (h : P r) : EvP (fun _ => some r) P := ⟨r, Ev.p, h⟩
theorem EvP.m {α : Type} {f : Nat → Option α} {P Q : α → Prop} (h : EvP f P) (hp : ∀ a, P a → Q a) : EvP f Q := by
  obtain ⟨r, e, p⟩ := h; exact ⟨r, e, hp r p⟩
theorem EvP.k {α : Type} {o : Option α} {P : α → Prop} (h : ∃ r, o = some r ∧ P r) : EvP (fun _ => o) P := by
  obtain ⟨r, e, p⟩ := h; exact ⟨r, Ev.c e, p⟩
def wK (x : S72) : Prop := (-9223372036854775808 ≤ x.f0 ∧ x.f0 ≤ 9223372036854775807) ∧ (-9223372036854775808 ≤ x.f1 ∧ x.f1 ≤ 9223372036854775807) ∧ (-9223372036854775808 ≤ x.f2 ∧ x.f2 ≤ 9223372036854775807)
def rkey (x : S72) : Int := x.f0 * 1361129467683753853853498429727072845824 + x.f1 * 36893488147419103232 + x.f2
theorem impl_CompareRows_lt {x y : S72} (hx : wK x) (hy : wK y) : ∃ v, impl_CompareRows.f x.f0 x.f1 x.f2 y.f0 y.f1 y.f2 = some v ∧ (v < 0 ↔ rkey x < rkey y) ∧ (v = 0 ↔ rkey x = rkey y) := by
  obtain ⟨hx0, hx1, hx2⟩ := hx
  obtain ⟨hy0, hy1, hy2⟩ := hy
  have O : ∀ a b : Int, impl_order.f a b = some (if a < b then -1 else if a > b then 1 else 0) := fun a b => by
    unfold impl_order.f
    split
    · rfl
    · split <;> rfl
  unfold impl_CompareRows.f rkey
  rw [O x.f0 y.f0, O x.f1 y.f1, O x.f2 y.f2]
  by_cases c0 : x.f0 < y.f0
  · rw [if_pos c0]; exact ⟨-1, rfl, by omega, by omega⟩
  rw [if_neg c0]
  by_cases d0 : x.f0 > y.f0
  · rw [if_pos d0]; exact ⟨1, rfl, by omega, by omega⟩
  rw [if_neg d0]
  by_cases c1 : x.f1 < y.f1
  · rw [if_pos c1]; exact ⟨-1, rfl, by omega, by omega⟩
  rw [if_neg c1]
  by_cases d1 : x.f1 > y.f1
  · rw [if_pos d1]; exact ⟨1, rfl, by omega, by omega⟩
  rw [if_neg d1]
  by_cases c2 : x.f2 < y.f2
  · rw [if_pos c2]; exact ⟨-1, rfl, by omega, by omega⟩
  rw [if_neg c2]
  by_cases d2 : x.f2 > y.f2
  · rw [if_pos d2]; exact ⟨1, rfl, by omega, by omega⟩
  rw [if_neg d2]
  exact ⟨0, rfl, by omega, by omega⟩
theorem rkey_inj {x y : S72} (hx : wK x) (hy : wK y) (h : rkey x = rkey y) : x = y := by
  obtain ⟨hx0, hx1, hx2⟩ := hx
  obtain ⟨hy0, hy1, hy2⟩ := hy
  unfold rkey at h
  cases x; cases y
  simp only at *
  have e0 : ‹Int› = ‹Int› := rfl
  congr 1 <;> omega
theorem evcmpR {α : Type} {x y : S72} {A B : Nat → Option α} {P : α → Prop} (hx : wK x) (hy : wK y) (hA : rkey x < rkey y → EvP A P) (hB : ¬ rkey x < rkey y → EvP B P) :
    EvP (fun k => (impl_CompareRows.f x.f0 x.f1 x.f2 y.f0 y.f1 y.f2).bind fun t => (if t < 0 then (A k) else (B k))) P := by
  obtain ⟨v, e, h, -⟩ := impl_CompareRows_lt hx hy
  refine EvP.bc e ?_
  by_cases c : rkey x < rkey y
  · exact EvP.t (h.2 c) (hA c)
  · exact EvP.e (fun q => c (h.1 q)) (hB c)
def swR (D : List S72) (i j : Int) : List S72 := (D.set i.toNat (rd_T72 D j)).set j.toNat (rd_T72 D i)
theorem evswR {α : Type} {D : List S72} {i j : Int} {R : Nat → List S72 → Option α} {P : α → Prop} (hj : j < (D.length : Int)) (h : EvP (fun k => R k (swR D i j)) P) :
    EvP (fun k => (some (D.set i.toNat (⟨(rd_T72 D j).f0, (rd_T72 D j).f1, (rd_T72 D j).f2⟩ : S72))).bind fun s => (if j < (s.length : Int) then ((some (s.set j.toNat (⟨(rd_T72 D i).f0, (rd_T72 D i).f1, (rd_T72 D i).f2⟩ : S72))).bind fun t => (R k t)) else none)) P := by
  refine EvP.bc rfl (EvP.t ?_ (EvP.bc rfl h))
  rw [List.length_set]; exact hj
theorem swR_len (D : List S72) (i j : Int) : (swR D i j).length = D.length := by simp [swR]
theorem swR_rd {D : List S72} {i j : Int} (hi : 0 ≤ i ∧ i < (D.length : Int)) (hj : 0 ≤ j ∧ j < (D.length : Int)) (t : Int) (ht : 0 ≤ t) :
    rd_T72 (swR D i j) t = if t = j then rd_T72 D i else if t = i then rd_T72 D j else rd_T72 D t := by
  unfold swR
  generalize rd_T72 D i = x
  generalize rd_T72 D j = y
  unfold rd_T72
  rw [List.getD_eq_getElem?_getD, List.getElem?_set, List.length_set, List.getElem?_set, List.getD_eq_getElem?_getD]
  by_cases e : t = j
  · subst e
    rw [if_pos rfl, if_pos (by omega), if_pos rfl]; rfl
  · rw [if_neg (by omega), if_neg e]
    by_cases e2 : t = i
    · subst e2
      rw [if_pos rfl, if_pos (by omega), if_pos rfl]; rfl
    · rw [if_neg (by omega), if_neg e2]
theorem rd_elR {D : List S72} {i : Int} (hi : 0 ≤ i ∧ i < (D.length : Int)) : rd_T72 D i = D[i.toNat]'(by omega) := by
  unfold rd_T72
  rw [List.getD_eq_getElem?_getD, List.getElem?_eq_getElem (by omega)]; rfl
theorem swR_perm {D : List S72} {i j : Int} (hi : 0 ≤ i ∧ i < (D.length : Int)) (hj : 0 ≤ j ∧ j < (D.length : Int)) : (swR D i j).Perm D := by
  unfold swR
  rw [rd_elR hi, rd_elR hj]
  exact List.set_set_perm _ _
/-- Only the range [a, b) is stirred. -/
structure RgR (a b : Int) (D D' : List S72) : Prop where
  len : D'.length = D.length
  pm : D'.Perm D
  out : ∀ t, 0 ≤ t → (t < a ∨ b ≤ t) → rd_T72 D' t = rd_T72 D t
  all : ∀ Q : S72 → Prop, (∀ t, a ≤ t → t < b → Q (rd_T72 D t)) → ∀ t, a ≤ t → t < b → Q (rd_T72 D' t)
theorem RgR.refl (a b : Int) (D : List S72) : RgR a b D D := ⟨rfl, List.Perm.refl _, fun _ _ _ => rfl, fun _ h => h⟩
theorem RgR.trans {a b : Int} {D D' D'' : List S72} (h : RgR a b D D') (h' : RgR a b D' D'') : RgR a b D D'' :=
  ⟨h'.len.trans h.len, h'.pm.trans h.pm, fun t h0 ht => (h'.out t h0 ht).trans (h.out t h0 ht), fun Q hq => h'.all Q (h.all Q hq)⟩
theorem RgR.wide {a b a' b' : Int} {D D' : List S72} (h : RgR a b D D') (h0 : 0 ≤ a') (ha : a' ≤ a) (hb : b ≤ b') : RgR a' b' D D' := by
  refine ⟨h.len, h.pm, fun t ht hq => h.out t ht (by omega), fun Q hq t h1 h2 => ?_⟩
  by_cases c : a ≤ t ∧ t < b
  · exact h.all Q (fun u h3 h4 => hq u (by omega) (by omega)) t c.1 c.2
  · rw [h.out t (by omega) (by omega)]; exact hq t h1 h2
theorem RgR.sw {a b i j : Int} {D : List S72} (ha : 0 ≤ a) (hb : b ≤ (D.length : Int)) (hi : a ≤ i ∧ i < b) (hj : a ≤ j ∧ j < b) : RgR a b D (swR D i j) := by
  refine ⟨swR_len D i j, swR_perm ⟨by omega, by omega⟩ ⟨by omega, by omega⟩, fun t h0 ht => ?_, fun Q hq t h1 h2 => ?_⟩
  · rw [swR_rd ⟨by omega, by omega⟩ ⟨by omega, by omega⟩ t h0, if_neg (by omega), if_neg (by omega)]
  · rw [swR_rd ⟨by omega, by omega⟩ ⟨by omega, by omega⟩ t (by omega)]
    by_cases e : t = j
    · rw [if_pos e]; exact hq i hi.1 hi.2
    · rw [if_neg e]
      by_cases e2 : t = i
      · rw [if_pos e2]; exact hq j hj.1 hj.2
      · rw [if_neg e2]; exact hq t h1 h2
def kyR (D : List S72) (t : Int) : Int := rkey (rd_T72 D t)
theorem kyR_sw {D : List S72} {i j : Int} (hi : 0 ≤ i ∧ i < (D.length : Int)) (hj : 0 ≤ j ∧ j < (D.length : Int)) (t : Int) (ht : 0 ≤ t) :
    (t = j → kyR (swR D i j) t = kyR D i) ∧ (t ≠ j → t = i → kyR (swR D i j) t = kyR D j) ∧ (t ≠ j → t ≠ i → kyR (swR D i j) t = kyR D t) := by
  unfold kyR
  rw [swR_rd hi hj t ht]
  refine ⟨fun e => by rw [if_pos e], fun e e2 => by rw [if_neg e, if_pos e2], fun e e2 => by rw [if_neg e, if_neg e2]⟩
def SrtR (a b : Int) (D : List S72) : Prop := ∀ x y, a ≤ x → x < y → y < b → kyR D x ≤ kyR D y
theorem RgR.ky {a b : Int} {D D' : List S72} (h : RgR a b D D') {t : Int} (h0 : 0 ≤ t) (ht : t < a ∨ b ≤ t) : kyR D' t = K.kyR D t := congrArg rkey (h.out t h0 ht)
theorem RgR.w {a b : Int} {D D' : List S72} (h : RgR a b D D') (hw : ∀ x ∈ D, wK x) {t : Int} (h0 : 0 ≤ t) (h1 : t < (D'.length : Int)) : wK (rd_T72 D' t) := by
  rw [rd_elR ⟨h0, h1⟩]
  exact hw _ (h.pm.subset (List.getElem_mem _))

theorem is_l1R (a b i : Int) (D0 : List S72) (ha : 0 ≤ a) (hi : a < i) (hib : i < b) (hb : b ≤ (D0.length : Int)) (hn : (D0.length : Int) ≤ 1099511627776) (hw : ∀ x ∈ D0, wK x) (P : List S72 → Prop)
    (K : ∀ D, RgR a b D0 D → SrtR a (i + 1) D → EvP (fun k => slices_insertionSortCmpFunc_impl_Row_at79.l0 k D a b (i + 1)) P) :
    ∀ (m : Nat) (D : List S72) (j : Int), j = a + m → j ≤ i → RgR a b D0 D → (∀ x y, a ≤ x → x < y → y ≤ i → x ≠ j → y ≠ j → kyR D x ≤ kyR D y) → (∀ y, j < y → y ≤ i → kyR D j ≤ kyR D y) →
    EvP (fun k => slices_insertionSortCmpFunc_impl_Row_at79.l1 k D a b i j) P := by
  intro m
  have ew : wrap64 (i + 1) = i + 1 := w64 (by omega) (by omega)
  induction m with
  | zero =>
    intro D j hj hji R h1 h2
    refine EvP.s (fun k => by rw [slices_insertionSortCmpFunc_impl_Row_at79.l1]) ?_
    rw [ew]
    refine EvP.e (by omega) (K D R fun x y hx hxy hy => ?_)
    by_cases e : x = j
    · subst e; exact h2 y hxy (by omega)
    · exact h1 x y hx hxy (by omega) e (by omega)
  | succ m ih =>
    intro D j hj hji R h1 h2
    have hl := R.len
    have ej : wrap64 (j - 1) = j - 1 := w64 (by omega) (by omega)
    refine EvP.s (fun k => by rw [slices_insertionSortCmpFunc_impl_Row_at79.l1]) ?_
    rw [ew, ej]
    refine EvP.t (by omega) (EvP.t (by omega) (EvP.t (by omega) (EvP.t (by omega) (EvP.t (by omega) (evcmpR (R.w hw (by omega) (by omega)) (R.w hw (by omega) (by omega)) (fun c => ?_) (fun c => ?_))))))
    · refine evswR (by omega) ?_
      have S := fun t h => kyR_sw (D := D) (i := j) (j := j - 1) ⟨by omega, by omega⟩ ⟨by omega, by omega⟩ t h
      have c' : kyR D j < kyR D (j - 1) := c
      refine ih (swR D j (j - 1)) (j - 1) (by omega) (by omega) (R.trans (RgR.sw ha (by omega) ⟨by omega, by omega⟩ ⟨by omega, by omega⟩)) ?_ ?_
      · intro x y hx hxy hy e1 e2
        by_cases q : x = j
        · rw [(S x (by omega)).2.1 e1 q, (S y (by omega)).2.2 e2 (by omega)]
          exact h1 (j - 1) y (by omega) (by omega) hy (by omega) (by omega)
        · rw [(S x (by omega)).2.2 e1 q]
          by_cases q2 : y = j
          · rw [(S y (by omega)).2.1 e2 q2]
            exact h1 x (j - 1) hx (by omega) (by omega) q (by omega)
          · rw [(S y (by omega)).2.2 e2 q2]
            exact h1 x y hx hxy hy q q2
      · intro y h3 h4
        rw [(S (j - 1) (by omega)).1 rfl]
        by_cases q : y = j
        · rw [(S y (by omega)).2.1 (by omega) q]; omega
        · rw [(S y (by omega)).2.2 (by omega) q]; exact h2 y (by omega) h4
    · have c' : ¬ kyR D j < kyR D (j - 1) := c
      refine K D R fun x y hx hxy hy => ?_
      by_cases e : x = j
      · subst e; exact h2 y hxy (by omega)
      · by_cases e2 : y = j
        · subst e2
          by_cases e3 : x = y - 1
          · subst e3; omega
          · have := h1 x (y - 1) hx (by omega) (by omega) (by omega) (by omega)
            omega
        · exact h1 x y hx hxy (by omega) e e2
theorem is_l0R (a b : Int) (D0 : List S72) (ha : 0 ≤ a) (hb : b ≤ (D0.length : Int)) (hn : (D0.length : Int) ≤ 1099511627776) (hw : ∀ x ∈ D0, wK x) :
    ∀ (m : Nat) (D : List S72) (i : Int), i + m = (if a < b then b else a + 1) → a < i → RgR a b D0 D → SrtR a i D →
    EvP (fun k => slices_insertionSortCmpFunc_impl_Row_at79.l0 k D a b i) (fun D' => RgR a b D0 D' ∧ SrtR a b D') := by
  intro m
  induction m with
  | zero =>
    intro D i hi h0 R s
    refine EvP.s (fun k => by rw [slices_insertionSortCmpFunc_impl_Row_at79.l0]) (EvP.e (by split at hi <;> omega) (EvP.p ⟨R, ?_⟩))
    intro x y hx hxy hy
    exact s x y hx hxy (by split at hi <;> omega)
  | succ m ih =>
    intro D i hi h0 R s
    have hib : i < b := by split at hi <;> omega
    refine EvP.s (fun k => by rw [slices_insertionSortCmpFunc_impl_Row_at79.l0]) (EvP.t hib ?_)
    refine is_l1R a b i D0 ha h0 hib hb hn hw _ (fun D1 R1 s1 => ih D1 (i + 1) (by omega) (by omega) R1 s1) (i - a).toNat D i (by omega) (by omega) R ?_ ?_
    · intro x y hx hxy hy e1 e2
      exact s x y hx hxy (by omega)
    · intro y h3 h4; omega
theorem is_evR (a b : Int) (D : List S72) (ha : 0 ≤ a) (hab : a ≤ b) (hb : b ≤ (D.length : Int)) (hn : (D.length : Int) ≤ 1099511627776) (hw : ∀ x ∈ D, wK x) :
    EvP (fun k => slices_insertionSortCmpFunc_impl_Row_at79.f k D a b) (fun D' => RgR a b D D' ∧ SrtR a b D') := by
  have e : wrap64 (a + 1) = a + 1 := w64 (by omega) (by omega)
  refine EvP.u (fun k => by rw [slices_insertionSortCmpFunc_impl_Row_at79.f, e]) ?_
  refine is_l0R a b D ha hb hn hw ((if a < b then b else a + 1) - (a + 1)).toNat D (a + 1) ?_ (by omega) (RgR.refl a b D) (fun x y _ _ _ => by omega)
  split <;> omega

theorem sr_l0 (a b n : Int) (D0 : List S72) (ha : 0 ≤ a) (hab : a + n ≤ b) (hb : b + n ≤ (D0.length : Int)) (hn : (D0.length : Int) ≤ 1099511627776) :
    ∀ (m : Nat) (D : List S72) (i : Int), i + m = n → 0 ≤ i → RgR a (b + n) D0 D →
    (∀ t, 0 ≤ t → (t < a ∨ (a + i ≤ t ∧ t < b) ∨ b + i ≤ t) → rd_T72 D t = rd_T72 D0 t) → (∀ x, 0 ≤ x → x < i → rd_T72 D (a + x) = rd_T72 D0 (b + x) ∧ rd_T72 D (b + x) = rd_T72 D0 (a + x)) →
    EvP (fun k => slices_swapRangeCmpFunc_impl_Row_at79.l0 k D a b n i) (fun D' => RgR a (b + n) D0 D' ∧ (∀ t, 0 ≤ t → (t < a ∨ (a + n ≤ t ∧ t < b) ∨ b + n ≤ t) → rd_T72 D' t = rd_T72 D0 t) ∧ (∀ x, 0 ≤ x → x < n → rd_T72 D' (a + x) = rd_T72 D0 (b + x) ∧ rd_T72 D' (b + x) = rd_T72 D0 (a + x))) := by
  intro m
  induction m with
  | zero =>
    intro D i hi h0 R h1 h2
    obtain rfl : i = n := by omega
    exact EvP.s (fun k => by rw [slices_swapRangeCmpFunc_impl_Row_at79.l0]) (EvP.e (by omega) (EvP.p ⟨R, h1, h2⟩))
  | succ m ih =>
    intro D i hi h0 R h1 h2
    have hl := R.len
    have e1 : wrap64 (b + i) = b + i := w64 (by omega) (by omega)
    have e2 : wrap64 (a + i) = a + i := w64 (by omega) (by omega)
    have e3 : wrap64 (i + 1) = i + 1 := w64 (by omega) (by omega)
    refine EvP.s (fun k => by rw [slices_swapRangeCmpFunc_impl_Row_at79.l0]) ?_
    rw [e1, e2, e3]
    refine EvP.t (by omega) (EvP.t (by omega) (EvP.t (by omega) (EvP.t (by omega) (EvP.t (by omega) (evswR (by omega) ?_)))))
    have S := fun t ht => swR_rd (D := D) (i := a + i) (j := b + i) ⟨by omega, by omega⟩ ⟨by omega, by omega⟩ t ht
    refine ih _ (i + 1) (by omega) (by omega) (R.trans (RgR.sw ha (by omega) ⟨by omega, by omega⟩ ⟨by omega, by omega⟩)) ?_ ?_
    · intro t ht hc
      rw [S t ht, if_neg (by omega), if_neg (by omega)]
      exact h1 t ht (by omega)
    · intro x hx hxi
      by_cases e : x = i
      · subst e
        refine ⟨?_, ?_⟩
        · rw [S (a + x) (by omega), if_neg (by omega), if_pos rfl]
          exact h1 (b + x) (by omega) (by omega)
        · rw [S (b + x) (by omega), if_pos rfl]
          exact h1 (a + x) (by omega) (by omega)
      · have := h2 x hx (by omega)
        refine ⟨?_, ?_⟩
        · rw [S (a + x) (by omega), if_neg (by omega), if_neg (by omega)]; exact this.1
        · rw [S (b + x) (by omega), if_neg (by omega), if_neg (by omega)]; exact this.2
theorem sr_ev (a b n : Int) (D : List S72) (ha : 0 ≤ a) (hn0 : 0 ≤ n) (hab : a + n ≤ b) (hb : b + n ≤ (D.length : Int)) (hn : (D.length : Int) ≤ 1099511627776) :
    EvP (fun k => slices_swapRangeCmpFunc_impl_Row_at79.f k D a b n) (fun D' => RgR a (b + n) D D' ∧ (∀ t, 0 ≤ t → (t < a ∨ (a + n ≤ t ∧ t < b) ∨ b + n ≤ t) → rd_T72 D' t = rd_T72 D t) ∧ (∀ x, 0 ≤ x → x < n → rd_T72 D' (a + x) = rd_T72 D (b + x) ∧ rd_T72 D' (b + x) = rd_T72 D (a + x))) := by
  refine EvP.u (fun _ => rfl) ?_
  exact sr_l0 a b n D ha hab hb hn n.toNat D 0 (by omega) (by omega) (RgR.refl _ _ _) (fun _ _ _ => rfl) (fun x h1 h2 => by omega)
/-- The blocks [m - i, m) and [m, m + j) change places. -/
def Rot (m i j : Int) (D D' : List S72) : Prop := RgR (m - i) (m + j) D D' ∧ (∀ t, m - i ≤ t → t < m - i + j → rd_T72 D' t = rd_T72 D (t + i)) ∧ (∀ t, m - i + j ≤ t → t < m + j → rd_T72 D' t = rd_T72 D (t - j))
theorem rot_l0 (m : Int) (hm : 0 ≤ m) : ∀ (s : Nat) (D : List S72) (i j : Int), i + j ≤ s → 1 ≤ i → 1 ≤ j → 0 ≤ m - i → m + j ≤ (D.length : Int) → (D.length : Int) ≤ 1099511627776 →
    EvP (fun k => slices_rotateCmpFunc_impl_Row_at79.l0 k D m i j) (Rot m i j D) := by
  intro s
  induction s with
  | zero => intro D i j h1 h2 h3; omega
  | succ s ih =>
    intro D i j hs hi hj hmi hmj hn
    have e1 : wrap64 (m - i) = m - i := w64 (by omega) (by omega)
    have e2 : wrap64 (m + j) = m + j := w64 (by omega) (by omega)
    have e3 : wrap64 (m + j - i) = m + j - i := w64 (by omega) (by omega)
    have e4 : wrap64 (i - j) = i - j := w64 (by omega) (by omega)
    have e5 : wrap64 (j - i) = j - i := w64 (by omega) (by omega)
    refine EvP.s (fun k => by rw [slices_rotateCmpFunc_impl_Row_at79.l0]) ?_
    rw [e1, e2, e3, e4, e5]
    refine EvP.i (fun c => ?_) (fun c => EvP.i (fun c2 => ?_) (fun c2 => ?_))
    · subst c
      refine EvP.b (sr_ev (m - i) m i D hmi (by omega) (by omega) (by omega) hn) ?_
      rintro D1 ⟨R1, o1, x1⟩
      refine EvP.p ⟨R1, fun t h1 h2 => ?_, fun t h1 h2 => ?_⟩
      · have := (x1 (t - (m - i)) (by omega) (by omega)).1
        rw [show m - i + (t - (m - i)) = t by omega, show m + (t - (m - i)) = t + i by omega] at this
        exact this
      · have := (x1 (t - m) (by omega) (by omega)).2
        rw [show m + (t - m) = t by omega, show m - i + (t - m) = t - i by omega] at this
        exact this
    · refine EvP.b (sr_ev (m - i) m j D hmi (by omega) (by omega) (by omega) hn) ?_
      rintro D1 ⟨R1, o1, x1⟩
      have hl := R1.len
      refine EvP.m (ih D1 (i - j) j (by omega) (by omega) (by omega) (by omega) (by omega) (by omega)) ?_
      rintro D2 ⟨R2, a2, b2⟩
      refine ⟨R1.trans (R2.wide hmi (by omega) (Int.le_refl _)), fun t h1 h2 => ?_, fun t h1 h2 => ?_⟩
      · rw [R2.out t (by omega) (.inl (by omega))]
        have := (x1 (t - (m - i)) (by omega) (by omega)).1
        rw [show m - i + (t - (m - i)) = t by omega, show m + (t - (m - i)) = t + i by omega] at this
        exact this
      · by_cases q : t < m - (i - j) + j
        · rw [a2 t (by omega) q]
          have := (x1 (t + (i - j) - m) (by omega) (by omega)).2
          rw [show m + (t + (i - j) - m) = t + (i - j) by omega, show m - i + (t + (i - j) - m) = t - j by omega] at this
          exact this
        · rw [b2 t (by omega) h2]
          exact o1 (t - j) (by omega) (.inr (.inl ⟨by omega, by omega⟩))
    · refine EvP.b (sr_ev (m - i) (m + j - i) i D hmi (by omega) (by omega) (by omega) hn) ?_
      rintro D1 ⟨R1, o1, x1⟩
      have hl := R1.len
      refine EvP.m (ih D1 i (j - i) (by omega) (by omega) (by omega) (by omega) (by omega) (by omega)) ?_
      rintro D2 ⟨R2, a2, b2⟩
      rw [show m + j - i + i = m + j by omega] at R1
      refine ⟨R1.trans (R2.wide hmi (Int.le_refl _) (by omega)), fun t h1 h2 => ?_, fun t h1 h2 => ?_⟩
      · by_cases q : t < m - i + (j - i)
        · rw [a2 t h1 q]
          exact o1 (t + i) (by omega) (.inr (.inl ⟨by omega, by omega⟩))
        · rw [b2 t (by omega) (by omega)]
          have := (x1 (t - (j - i) - (m - i)) (by omega) (by omega)).1
          rw [show m - i + (t - (j - i) - (m - i)) = t - (j - i) by omega, show m + j - i + (t - (j - i) - (m - i)) = t + i by omega] at this
          exact this
      · rw [R2.out t (by omega) (.inr (by omega))]
        have := (x1 (t - (m + j - i)) (by omega) (by omega)).2
        rw [show m + j - i + (t - (m + j - i)) = t by omega, show m - i + (t - (m + j - i)) = t - j by omega] at this
        exact this
theorem rot_ev (a m b : Int) (D : List S72) (ha : 0 ≤ a) (h1 : a < m) (h2 : m < b) (hb : b ≤ (D.length : Int)) (hn : (D.length : Int) ≤ 1099511627776) :
    EvP (fun k => slices_rotateCmpFunc_impl_Row_at79.f k D a m b) (Rot m (m - a) (b - m) D) := by
  have e1 : wrap64 (m - a) = m - a := w64 (by omega) (by omega)
  have e2 : wrap64 (b - m) = b - m := w64 (by omega) (by omega)
  refine EvP.u (fun k => by rw [slices_rotateCmpFunc_impl_Row_at79.f, e1, e2]) ?_
  exact rot_l0 m (by omega) (b - a).toNat D (m - a) (b - m) (by omega) (by omega) (by omega) (by omega) (by omega) hn

def PQR (a b : Int) (D D' : List S72) : Prop := RgR a b D D' ∧ SrtR a b D'
theorem hmid (i j : Int) (h0 : 0 ≤ i + j) (h1 : i + j ≤ 4611686018427387904) : IntKind.i64.wrap (shrI (IntKind.u64.wrap (wrap64 (i + j))) 1) = (i + j) / 2 := by
  rw [w64 (by omega) (by omega), u64w h0 (by omega)]
  have e : shrI (i + j) 1 = (i + j) / 2 := by
    show Int.fdiv (i + j) 2 = _
    rw [Int.fdiv_eq_ediv_of_nonneg _ (by omega)]
  rw [e]
  simp [IntKind.wrap, IntKind.bits, IntKind.signed]; omega
theorem sm_l1 (a b e : Int) (D0 : List S72) (ha : 0 ≤ a) (heb : e ≤ b) (hb : b ≤ (D0.length : Int)) (hn : (D0.length : Int) ≤ 1099511627776) :
    ∀ (n : Nat) (D : List S72) (t : Int), t + n = e - 1 → a ≤ t → RgR a b D0 D → (∀ x y, a ≤ x → x < y → y < b → x ≠ t → y ≠ t → kyR D x ≤ kyR D y) → (∀ x, a ≤ x → x < t → kyR D x ≤ kyR D t) → (∀ x, t < x → x < e → kyR D x ≤ kyR D t) → (∀ x, e ≤ x → x < b → kyR D t ≤ kyR D x) →
    EvP (fun k => slices_symMergeCmpFunc_impl_Row_at79.l1 k D e t) (PQR a b D0) := by
  intro n
  induction n with
  | zero =>
    intro D t ht hat R j1 j2 j3 j4
    have e1 : wrap64 (e - 1) = e - 1 := w64 (by omega) (by omega)
    refine EvP.s (fun k => by rw [slices_symMergeCmpFunc_impl_Row_at79.l1]) ?_
    rw [e1]
    refine EvP.e (by omega) (EvP.p ⟨R, fun x y hx hxy hy => ?_⟩)
    by_cases q : y = t
    · subst q; exact j2 x hx hxy
    · by_cases q2 : x = t
      · subst q2; exact j4 y (by omega) hy
      · exact j1 x y hx hxy hy q2 q
  | succ n ih =>
    intro D t ht hat R j1 j2 j3 j4
    have hl := R.len
    have e1 : wrap64 (e - 1) = e - 1 := w64 (by omega) (by omega)
    have e2 : wrap64 (t + 1) = t + 1 := w64 (by omega) (by omega)
    refine EvP.s (fun k => by rw [slices_symMergeCmpFunc_impl_Row_at79.l1]) ?_
    rw [e1, e2]
    refine EvP.t (by omega) (EvP.t (by omega) (EvP.t (by omega) (EvP.t (by omega) (EvP.t (by omega) (evswR (by omega) ?_)))))
    have S := fun x h => kyR_sw (D := D) (i := t) (j := t + 1) ⟨by omega, by omega⟩ ⟨by omega, by omega⟩ x h
    refine ih _ (t + 1) (by omega) (by omega) (R.trans (RgR.sw ha (by omega) ⟨by omega, by omega⟩ ⟨by omega, by omega⟩)) ?_ ?_ ?_ ?_
    · intro x y hx hxy hy q1 q2
      by_cases q : x = t
      · rw [(S x (by omega)).2.1 q1 q, (S y (by omega)).2.2 q2 (by omega)]
        exact j1 (t + 1) y (by omega) (by omega) hy (by omega) (by omega)
      · rw [(S x (by omega)).2.2 q1 q]
        by_cases q3 : y = t
        · rw [(S y (by omega)).2.1 q2 q3]
          exact j1 x (t + 1) hx (by omega) (by omega) q (by omega)
        · rw [(S y (by omega)).2.2 q2 q3]
          exact j1 x y hx hxy hy q q3
    · intro x hx hxt
      rw [(S (t + 1) (by omega)).1 rfl]
      by_cases q : x = t
      · rw [(S x (by omega)).2.1 (by omega) q]; exact j3 (t + 1) (by omega) (by omega)
      · rw [(S x (by omega)).2.2 (by omega) q]; exact j2 x hx (by omega)
    · intro x hx hxe
      rw [(S (t + 1) (by omega)).1 rfl, (S x (by omega)).2.2 (by omega) (by omega)]
      exact j3 x (by omega) hxe
    · intro x hx hxb
      rw [(S (t + 1) (by omega)).1 rfl, (S x (by omega)).2.2 (by omega) (by omega)]
      exact j4 x hx hxb
theorem sm_l0 (a b : Int) (D : List S72) (ha : 0 ≤ a) (hab : a + 1 ≤ b) (hb : b ≤ (D.length : Int)) (hn : (D.length : Int) ≤ 1099511627776) (hw : ∀ x ∈ D, wK x) (s : SrtR (a + 1) b D) :
    ∀ (n : Nat) (i j : Int), j - i ≤ n → a + 1 ≤ i → i ≤ j → j ≤ b → (∀ x, a + 1 ≤ x → x < i → kyR D x < kyR D a) → (∀ x, j ≤ x → x < b → ¬ kyR D x < kyR D a) →
    EvP (fun k => slices_symMergeCmpFunc_impl_Row_at79.l0 k D a i j) (PQR a b D) := by
  have fin : ∀ i : Int, a + 1 ≤ i → i ≤ b → (∀ x, a + 1 ≤ x → x < i → kyR D x < kyR D a) → (∀ x, i ≤ x → x < b → ¬ kyR D x < kyR D a) → EvP (fun k => slices_symMergeCmpFunc_impl_Row_at79.l1 k D i a) (PQR a b D) := by
    intro i h1 h2 h3 h4
    refine sm_l1 a b i D ha h2 hb hn (i - 1 - a).toNat D a (by omega) (Int.le_refl _) (RgR.refl _ _ _) (fun x y hx hxy hy q1 q2 => s x y (by omega) hxy hy) (fun x h5 h6 => by omega) (fun x h5 h6 => ?_) (fun x h5 h6 => ?_)
    · have := h3 x (by omega) h6; omega
    · have := h4 x h5 h6; omega
  intro n
  induction n with
  | zero =>
    intro i j hij hi hle hj h3 h4
    obtain rfl : i = j := by omega
    exact EvP.s (fun k => by rw [slices_symMergeCmpFunc_impl_Row_at79.l0]) (EvP.e (by omega) (fin i hi hj h3 h4))
  | succ n ih =>
    intro i j hij hi hle hj h3 h4
    refine EvP.s (fun k => by rw [slices_symMergeCmpFunc_impl_Row_at79.l0]) ?_
    rw [hmid i j (by omega) (by omega)]
    refine EvP.i (fun c => ?_) (fun c => ?_)
    · have e1 : wrap64 ((i + j) / 2 + 1) = (i + j) / 2 + 1 := w64 (by omega) (by omega)
      rw [e1]
      refine EvP.t (by omega) (EvP.t (by omega) (EvP.t (by omega) (EvP.t (by omega) (evcmpR ((RgR.refl 0 0 D).w hw (by omega) (by omega)) ((RgR.refl 0 0 D).w hw (by omega) (by omega)) (fun c2 => ?_) (fun c2 => ?_)))))
      · have c2' : kyR D ((i + j) / 2) < kyR D a := c2
        refine ih ((i + j) / 2 + 1) j (by omega) (by omega) (by omega) hj (fun x h5 h6 => ?_) h4
        by_cases q : x = (i + j) / 2
        · rw [q]; exact c2'
        · have := s x ((i + j) / 2) h5 (by omega) (by omega)
          omega
      · have c2' : ¬ kyR D ((i + j) / 2) < kyR D a := c2
        refine ih i ((i + j) / 2) (by omega) hi (by omega) (by omega) h3 (fun x h5 h6 => ?_)
        by_cases q : x = (i + j) / 2
        · rw [q]; exact c2'
        · have := s ((i + j) / 2) x (by omega) (by omega) h6
          omega
    · obtain rfl : i = j := by omega
      exact fin i hi hj h3 h4
theorem sm_l3 (a b e : Int) (D0 : List S72) (ha : 0 ≤ a) (hae : a ≤ e) (hb : b ≤ (D0.length : Int)) (hn : (D0.length : Int) ≤ 1099511627776) :
    ∀ (n : Nat) (D : List S72) (t : Int), t = e + n → t < b → RgR a b D0 D → (∀ x y, a ≤ x → x < y → y < b → x ≠ t → y ≠ t → kyR D x ≤ kyR D y) → (∀ x, t < x → x < b → kyR D t ≤ kyR D x) → (∀ x, e ≤ x → x < t → kyR D t ≤ kyR D x) → (∀ x, a ≤ x → x < e → kyR D x ≤ kyR D t) →
    EvP (fun k => slices_symMergeCmpFunc_impl_Row_at79.l3 k D e t) (PQR a b D0) := by
  intro n
  induction n with
  | zero =>
    intro D t ht htb R j1 j2 j3 j4
    refine EvP.s (fun k => by rw [slices_symMergeCmpFunc_impl_Row_at79.l3]) (EvP.e (by omega) (EvP.p ⟨R, fun x y hx hxy hy => ?_⟩))
    by_cases q : x = t
    · subst q; exact j2 y hxy hy
    · by_cases q2 : y = t
      · subst q2; exact j4 x hx (by omega)
      · exact j1 x y hx hxy hy q q2
  | succ n ih =>
    intro D t ht htb R j1 j2 j3 j4
    have hl := R.len
    have e2 : wrap64 (t - 1) = t - 1 := w64 (by omega) (by omega)
    refine EvP.s (fun k => by rw [slices_symMergeCmpFunc_impl_Row_at79.l3]) ?_
    rw [e2]
    refine EvP.t (by omega) (EvP.t (by omega) (EvP.t (by omega) (EvP.t (by omega) (EvP.t (by omega) (evswR (by omega) ?_)))))
    have S := fun x h => kyR_sw (D := D) (i := t) (j := t - 1) ⟨by omega, by omega⟩ ⟨by omega, by omega⟩ x h
    refine ih _ (t - 1) (by omega) (by omega) (R.trans (RgR.sw ha (by omega) ⟨by omega, by omega⟩ ⟨by omega, by omega⟩)) ?_ ?_ ?_ ?_
    · intro x y hx hxy hy q1 q2
      by_cases q : x = t
      · rw [(S x (by omega)).2.1 q1 q, (S y (by omega)).2.2 q2 (by omega)]
        exact j1 (t - 1) y (by omega) (by omega) hy (by omega) (by omega)
      · rw [(S x (by omega)).2.2 q1 q]
        by_cases q3 : y = t
        · rw [(S y (by omega)).2.1 q2 q3]
          exact j1 x (t - 1) hx (by omega) (by omega) q (by omega)
        · rw [(S y (by omega)).2.2 q2 q3]
          exact j1 x y hx hxy hy q q3
    · intro x hx hxb
      rw [(S (t - 1) (by omega)).1 rfl]
      by_cases q : x = t
      · rw [(S x (by omega)).2.1 (by omega) q]; exact j3 (t - 1) (by omega) (by omega)
      · rw [(S x (by omega)).2.2 (by omega) q]; exact j2 x (by omega) hxb
    · intro x hx hxe
      rw [(S (t - 1) (by omega)).1 rfl, (S x (by omega)).2.2 (by omega) (by omega)]
      exact j3 x hx (by omega)
    · intro x hx hxb
      rw [(S (t - 1) (by omega)).1 rfl, (S x (by omega)).2.2 (by omega) (by omega)]
      exact j4 x hx hxb
theorem sm_l2 (a m : Int) (D : List S72) (ha : 0 ≤ a) (ham : a ≤ m) (hb : m + 1 ≤ (D.length : Int)) (hn : (D.length : Int) ≤ 1099511627776) (hw : ∀ x ∈ D, wK x) (s : SrtR a m D) :
    ∀ (n : Nat) (i j : Int), j - i ≤ n → a ≤ i → i ≤ j → j ≤ m → (∀ x, a ≤ x → x < i → ¬ kyR D m < kyR D x) → (∀ x, j ≤ x → x < m → kyR D m < kyR D x) →
    EvP (fun k => slices_symMergeCmpFunc_impl_Row_at79.l2 k D m i j) (PQR a (m + 1) D) := by
  have fin : ∀ i : Int, a ≤ i → i ≤ m → (∀ x, a ≤ x → x < i → ¬ kyR D m < kyR D x) → (∀ x, i ≤ x → x < m → kyR D m < kyR D x) → EvP (fun k => slices_symMergeCmpFunc_impl_Row_at79.l3 k D i m) (PQR a (m + 1) D) := by
    intro i h1 h2 h3 h4
    refine sm_l3 a (m + 1) i D ha h1 hb hn (m - i).toNat D m (by omega) (by omega) (RgR.refl _ _ _) (fun x y hx hxy hy q1 q2 => s x y hx hxy (by omega)) (fun x h5 h6 => by omega) (fun x h5 h6 => ?_) (fun x h5 h6 => ?_)
    · have := h4 x h5 h6; omega
    · have := h3 x h5 h6; omega
  intro n
  induction n with
  | zero =>
    intro i j hij hi hle hj h3 h4
    obtain rfl : i = j := by omega
    exact EvP.s (fun k => by rw [slices_symMergeCmpFunc_impl_Row_at79.l2]) (EvP.e (by omega) (fin i hi hj h3 h4))
  | succ n ih =>
    intro i j hij hi hle hj h3 h4
    refine EvP.s (fun k => by rw [slices_symMergeCmpFunc_impl_Row_at79.l2]) ?_
    rw [hmid i j (by omega) (by omega)]
    refine EvP.i (fun c => ?_) (fun c => ?_)
    · have e1 : wrap64 ((i + j) / 2 + 1) = (i + j) / 2 + 1 := w64 (by omega) (by omega)
      rw [e1]
      refine EvP.t (by omega) (EvP.t (by omega) (EvP.t (by omega) (EvP.t (by omega) (evcmpR ((RgR.refl 0 0 D).w hw (by omega) (by omega)) ((RgR.refl 0 0 D).w hw (by omega) (by omega)) (fun c2 => ?_) (fun c2 => ?_)))))
      · have c2' : kyR D m < kyR D ((i + j) / 2) := c2
        refine ih i ((i + j) / 2) (by omega) hi (by omega) (by omega) h3 (fun x h5 h6 => ?_)
        by_cases q : x = (i + j) / 2
        · rw [q]; exact c2'
        · have := s ((i + j) / 2) x (by omega) (by omega) h6
          omega
      · have c2' : ¬ kyR D m < kyR D ((i + j) / 2) := c2
        refine ih ((i + j) / 2 + 1) j (by omega) (by omega) (by omega) hj (fun x h5 h6 => ?_) h4
        by_cases q : x = (i + j) / 2
        · rw [q]; exact c2'
        · have := s x ((i + j) / 2) h5 (by omega) (by omega)
          omega
    · obtain rfl : i = j := by omega
      exact fin i hi hj h3 h4

def SmI (N : Int) : Prop := ∀ (D : List S72) (a m b : Int), 0 ≤ a → a < m → m < b → b ≤ (D.length : Int) → (D.length : Int) ≤ 1099511627776 → b - a < N → (∀ x ∈ D, wK x) → SrtR a m D → SrtR m b D →
  EvP (fun k => slices_symMergeCmpFunc_impl_Row_at79.f k D a m b) (PQR a b D)
theorem RgR.wk {a b : Int} {D D' : List S72} (h : RgR a b D D') (hw : ∀ x ∈ D, wK x) : ∀ x ∈ D', wK x := fun x hx => hw x (h.pm.subset hx)
theorem sm_j1 {N : Int} (ih : SmI N) (a b mid st en : Int) (D : List S72) (ha : 0 ≤ a) (h1 : a ≤ st) (h2 : st ≤ mid) (h3 : mid ≤ en) (h4 : en ≤ b) (ham : a < mid) (hmb : mid < b) (hb : b ≤ (D.length : Int)) (hn : (D.length : Int) ≤ 1099511627776) (hN : b - a ≤ N) (hw : ∀ x ∈ D, wK x)
    (f : ∀ x y, a ≤ x → x < mid → mid ≤ y → y < b → kyR D x ≤ kyR D y) (s1 : SrtR a st D) (s2 : SrtR st mid D) (s3 : SrtR mid en D) (s4 : SrtR en b D) :
    EvP (fun k => slices_symMergeCmpFunc_impl_Row_at79.j1 k D a b mid st en) (PQR a b D) := by
  have J2 : ∀ D1, RgR a mid D D1 → SrtR a mid D1 → EvP (fun k => slices_symMergeCmpFunc_impl_Row_at79.j2 k D1 b mid en) (PQR a b D) := by
    intro D1 R1 t1
    have hl := R1.len
    have k1 : ∀ x, mid ≤ x → kyR D1 x = kyR D x := fun x hx => R1.ky (by omega) (.inr hx)
    have g3 : SrtR mid en D1 := fun x y h5 h6 h7 => by rw [k1 x h5, k1 y (by omega)]; exact s3 x y h5 h6 h7
    have g4 : SrtR en b D1 := fun x y h5 h6 h7 => by rw [k1 x (by omega), k1 y (by omega)]; exact s4 x y h5 h6 h7
    have L : ∀ D2, RgR mid b D1 D2 → SrtR mid b D2 → PQR a b D D2 := by
      intro D2 R2 t2
      have k2 : ∀ x, 0 ≤ x → x < mid → kyR D2 x = kyR D1 x := fun x h0 hx => R2.ky h0 (.inl hx)
      refine ⟨(R1.wide ha (Int.le_refl _) (by omega)).trans (R2.wide ha (by omega) (Int.le_refl _)), fun x y hx hxy hy => ?_⟩
      by_cases c : y < mid
      · rw [k2 x (by omega) (by omega), k2 y (by omega) c]; exact t1 x y hx hxy c
      · by_cases c2 : mid ≤ x
        · exact t2 x y c2 hxy hy
        · refine R2.all (fun g => kyR D2 x ≤ rkey g) (fun u h5 h6 => ?_) y (by omega) hy
          have e : rkey (rd_T72 D1 u) = kyR D u := k1 u h5
          rw [k2 x (by omega) (by omega), e]
          exact R1.all (fun g => rkey g ≤ kyR D u) (fun v h7 h8 => f v u h7 h8 h5 h6) x hx (by omega)
    refine EvP.s (fun k => by rw [slices_symMergeCmpFunc_impl_Row_at79.j2]) ?_
    refine EvP.i (fun c => EvP.i (fun c2 => ?_) (fun c2 => EvP.p (L D1 (RgR.refl _ _ _) ?_))) (fun c => EvP.p (L D1 (RgR.refl _ _ _) ?_))
    · exact EvP.b (ih D1 mid en b (by omega) c c2 (by omega) (by omega) (by omega) (R1.wk hw) g3 g4) (fun D2 ⟨R2, t2⟩ => EvP.p (L D2 R2 t2))
    · obtain rfl : en = b := by omega
      exact g3
    · obtain rfl : mid = en := by omega
      exact g4
  refine EvP.s (fun k => by rw [slices_symMergeCmpFunc_impl_Row_at79.j1]) ?_
  refine EvP.i (fun c => EvP.i (fun c2 => ?_) (fun c2 => J2 D (RgR.refl _ _ _) ?_)) (fun c => J2 D (RgR.refl _ _ _) ?_)
  · exact EvP.b (ih D a st mid ha c c2 (by omega) hn (by omega) hw s1 s2) (fun D1 ⟨R1, t1⟩ => J2 D1 R1 t1)
  · obtain rfl : st = mid := by omega
    exact s1
  · obtain rfl : a = st := by omega
    exact s2
/-- Behind the rotation. -/
theorem sm_rot {N : Int} (ih : SmI N) (a m b mid st en : Int) (D D1 : List S72) (ha : 0 ≤ a) (h1 : a ≤ st) (h2 : st ≤ m) (h3 : m ≤ en) (h4 : en ≤ b) (hse : st + en = mid + m) (hsm : st ≤ mid) (ham : a < mid) (hmb : mid < b) (hb : b ≤ (D.length : Int)) (hn : (D.length : Int) ≤ 1099511627776) (hN : b - a ≤ N) (hw : ∀ x ∈ D, wK x)
    (s1 : SrtR a m D) (s2 : SrtR m b D) (c1 : st = a ∨ en = b ∨ kyR D (st - 1) ≤ kyR D en) (c2 : st = m ∨ en = m ∨ kyR D (en - 1) ≤ kyR D st)
    (R : RgR a b D D1) (o : ∀ t, 0 ≤ t → (t < st ∨ en ≤ t) → rd_T72 D1 t = rd_T72 D t) (x1 : ∀ t, st ≤ t → t < mid → rd_T72 D1 t = rd_T72 D (t + (m - st))) (x2 : ∀ t, mid ≤ t → t < en → rd_T72 D1 t = rd_T72 D (t - (en - m))) :
    EvP (fun k => slices_symMergeCmpFunc_impl_Row_at79.j1 k D1 a b mid st en) (PQR a b D) := by
  have hl := R.len
  have le1 : ∀ x y, a ≤ x → x ≤ y → y < m → kyR D x ≤ kyR D y := fun x y h5 h6 h7 => by
    by_cases q : x = y
    · rw [q]; exact Int.le_refl _
    · exact s1 x y h5 (by omega) h7
  have le2 : ∀ x y, m ≤ x → x ≤ y → y < b → kyR D x ≤ kyR D y := fun x y h5 h6 h7 => by
    by_cases q : x = y
    · rw [q]; exact Int.le_refl _
    · exact s2 x y h5 (by omega) h7
  have K0 : ∀ t, 0 ≤ t → (t < st ∨ en ≤ t) → kyR D1 t = kyR D t := fun t h5 h6 => congrArg rkey (o t h5 h6)
  have K1 : ∀ t, st ≤ t → t < mid → kyR D1 t = kyR D (t + (m - st)) := fun t h5 h6 => congrArg rkey (x1 t h5 h6)
  have K2 : ∀ t, mid ≤ t → t < en → kyR D1 t = kyR D (t - (en - m)) := fun t h5 h6 => congrArg rkey (x2 t h5 h6)
  refine EvP.m (sm_j1 ih a b mid st en D1 ha h1 hsm (by omega) h4 ham hmb (by omega) (by omega) hN (R.wk hw) ?_ ?_ ?_ ?_ ?_) (fun D2 ⟨R2, t2⟩ => ⟨R.trans R2, t2⟩)
  · intro x y hx hxm hy hyb
    by_cases p : x < st
    · rw [K0 x (by omega) (.inl p)]
      by_cases q : y < en
      · rw [K2 y hy q]; exact le1 _ _ hx (by omega) (by omega)
      · rw [K0 y (by omega) (.inr (by omega))]
        have a1 := le1 x (st - 1) hx (by omega) (by omega)
        have a2 := le2 en y (by omega) (by omega) hyb
        rcases c1 with c | c | c <;> omega
    · rw [K1 x (by omega) hxm]
      by_cases q : y < en
      · rw [K2 y hy q]
        have a1 := le2 (x + (m - st)) (en - 1) (by omega) (by omega) (by omega)
        have a2 := le1 st (y - (en - m)) (by omega) (by omega) (by omega)
        rcases c2 with c | c | c <;> omega
      · rw [K0 y (by omega) (.inr (by omega))]
        exact le2 _ _ (by omega) (by omega) hyb
  · intro x y hx hxy hy
    rw [K0 x (by omega) (.inl (by omega)), K0 y (by omega) (.inl hy)]
    exact le1 x y hx (by omega) (by omega)
  · intro x y hx hxy hy
    rw [K1 x hx (by omega), K1 y (by omega) hy]
    exact le2 _ _ (by omega) (by omega) (by omega)
  · intro x y hx hxy hy
    rw [K2 x hx (by omega), K2 y (by omega) hy]
    exact le1 _ _ (by omega) (by omega) (by omega)
  · intro x y hx hxy hy
    rw [K0 x (by omega) (.inr hx), K0 y (by omega) (.inr (by omega))]
    exact le2 x y (by omega) (by omega) hy
theorem sm_l4 {N : Int} (ih : SmI N) (a m b mid lo hi : Int) (D : List S72) (ha : 0 ≤ a) (h1 : a ≤ lo) (h2 : hi ≤ m) (h3 : m ≤ mid + m - hi) (h4 : mid + m - lo ≤ b) (hl : lo = a ∨ mid + m - lo = b) (hh : hi = m ∨ hi = mid) (him : hi ≤ mid) (ham : a < m) (hmb : m < b) (ham2 : a < mid) (hmb2 : mid < b) (hb : b ≤ (D.length : Int)) (hn : (D.length : Int) ≤ 1099511627776) (hN : b - a ≤ N) (hw : ∀ x ∈ D, wK x)
    (s1 : SrtR a m D) (s2 : SrtR m b D) :
    ∀ (n : Nat) (i j : Int), j - i ≤ n → lo ≤ i → i ≤ j → j ≤ hi → (∀ x, lo ≤ x → x < i → kyR D x ≤ kyR D (mid + m - 1 - x)) → (∀ x, j ≤ x → x < hi → kyR D (mid + m - 1 - x) < kyR D x) →
    EvP (fun k => slices_symMergeCmpFunc_impl_Row_at79.l4 k D a m b mid (mid + m) i j (mid + m - 1)) (PQR a b D) := by
  have fin : ∀ i : Int, lo ≤ i → i ≤ hi → (∀ x, lo ≤ x → x < i → kyR D x ≤ kyR D (mid + m - 1 - x)) → (∀ x, i ≤ x → x < hi → kyR D (mid + m - 1 - x) < kyR D x) →
      EvP (fun k => if i < m then (if m < mid + m - i then ((slices_rotateCmpFunc_impl_Row_at79.f k D i m (mid + m - i)).bind fun t81 => (slices_symMergeCmpFunc_impl_Row_at79.j1 k t81 a b mid i (mid + m - i))) else (slices_symMergeCmpFunc_impl_Row_at79.j1 k D a b mid i (mid + m - i))) else (slices_symMergeCmpFunc_impl_Row_at79.j1 k D a b mid i (mid + m - i))) (PQR a b D) := by
    intro i h5 h6 h7 h8
    have c1 : i = a ∨ mid + m - i = b ∨ kyR D (i - 1) ≤ kyR D (mid + m - i) := by
      by_cases q : i = lo
      · rcases hl with hl | hl
        · exact .inl (by omega)
        · exact .inr (.inl (by omega))
      · have := h7 (i - 1) (by omega) (by omega)
        rw [show mid + m - 1 - (i - 1) = mid + m - i by omega] at this
        exact .inr (.inr this)
    have c2 : i = m ∨ mid + m - i = m ∨ kyR D (mid + m - i - 1) ≤ kyR D i := by
      by_cases q : i = hi
      · rcases hh with hh | hh
        · exact .inl (by omega)
        · exact .inr (.inl (by omega))
      · have := h8 i (Int.le_refl _) (by omega)
        rw [show mid + m - 1 - i = mid + m - i - 1 by omega] at this
        exact .inr (.inr (by omega))
    refine EvP.i (fun q => EvP.i (fun q2 => ?_) (fun q2 => ?_)) (fun q => ?_)
    · refine EvP.b (rot_ev i m (mid + m - i) D (by omega) q q2 (by omega) hn) ?_
      rintro D1 ⟨R, x1, x2⟩
      rw [show m - (m - i) = i by omega, show m + (mid + m - i - m) = mid + m - i by omega] at R
      refine sm_rot ih a m b mid i (mid + m - i) D D1 ha (by omega) (by omega) (by omega) (by omega) (by omega) (by omega) ham2 hmb2 hb hn hN hw s1 s2 c1 c2 (R.wide ha (by omega) (by omega)) (fun t h9 h10 => R.out t h9 h10) (fun t h9 h10 => x1 t (by omega) (by omega)) (fun t h9 h10 => ?_)
      exact x2 t (by omega) (by omega)
    · refine sm_rot ih a m b mid i (mid + m - i) D D ha (by omega) (by omega) (by omega) (by omega) (by omega) (by omega) ham2 hmb2 hb hn hN hw s1 s2 c1 c2 (RgR.refl _ _ _) (fun t h9 h10 => rfl) (fun t h9 h10 => by omega) (fun t h9 h10 => ?_)
      rw [show t - (mid + m - i - m) = t by omega]
    · refine sm_rot ih a m b mid i (mid + m - i) D D ha (by omega) (by omega) (by omega) (by omega) (by omega) (by omega) ham2 hmb2 hb hn hN hw s1 s2 c1 c2 (RgR.refl _ _ _) (fun t h9 h10 => rfl) (fun t h9 h10 => ?_) (fun t h9 h10 => by omega)
      rw [show t + (m - i) = t by omega]
  intro n
  induction n with
  | zero =>
    intro i j hij hi0 hle hj h7 h8
    obtain rfl : i = j := by omega
    have e1 : wrap64 (mid + m - i) = mid + m - i := w64 (by omega) (by omega)
    refine EvP.s (fun k => by rw [slices_symMergeCmpFunc_impl_Row_at79.l4]) ?_
    rw [e1]
    exact EvP.e (by omega) (fin i hi0 hj h7 h8)
  | succ n ihn =>
    intro i j hij hi0 hle hj h7 h8
    have e0 : wrap64 (mid + m - i) = mid + m - i := w64 (by omega) (by omega)
    refine EvP.s (fun k => by rw [slices_symMergeCmpFunc_impl_Row_at79.l4]) ?_
    rw [hmid i j (by omega) (by omega), e0]
    refine EvP.i (fun c => ?_) (fun c => ?_)
    · have e1 : wrap64 ((i + j) / 2 + 1) = (i + j) / 2 + 1 := w64 (by omega) (by omega)
      have e2 : wrap64 (mid + m - 1 - (i + j) / 2) = mid + m - 1 - (i + j) / 2 := w64 (by omega) (by omega)
      rw [e1, e2]
      refine EvP.t (by omega) (EvP.t (by omega) (EvP.t (by omega) (EvP.t (by omega) (evcmpR ((RgR.refl 0 0 D).w hw (by omega) (by omega)) ((RgR.refl 0 0 D).w hw (by omega) (by omega)) (fun c2 => ?_) (fun c2 => ?_)))))
      · have c2' : kyR D (mid + m - 1 - (i + j) / 2) < kyR D ((i + j) / 2) := c2
        refine ihn i ((i + j) / 2) (by omega) hi0 (by omega) (by omega) h7 (fun x h5 h6 => ?_)
        by_cases q : x = (i + j) / 2
        · rw [q]; exact c2'
        · have g1 := s1 ((i + j) / 2) x (by omega) (by omega) (by omega)
          have g2 := s2 (mid + m - 1 - x) (mid + m - 1 - (i + j) / 2) (by omega) (by omega) (by omega)
          omega
      · have c2' : ¬ kyR D (mid + m - 1 - (i + j) / 2) < kyR D ((i + j) / 2) := c2
        refine ihn ((i + j) / 2 + 1) j (by omega) (by omega) (by omega) hj (fun x h5 h6 => ?_) h8
        by_cases q : x = (i + j) / 2
        · rw [q]; omega
        · have g1 := s1 x ((i + j) / 2) (by omega) (by omega) (by omega)
          have g2 := s2 (mid + m - 1 - (i + j) / 2) (mid + m - 1 - x) (by omega) (by omega) (by omega)
          omega
    · obtain rfl : i = j := by omega
      exact fin i hi0 hj h7 h8
theorem sm_all : ∀ N : Nat, SmI N := by
  intro N
  induction N with
  | zero => intro D a m b h0 h1 h2 h3 h4 h5; omega
  | succ N ih =>
    intro D a m b ha ham hmb hb hn hN hw s1 s2
    have e1 : wrap64 (m - a) = m - a := w64 (by omega) (by omega)
    have e2 : wrap64 (b - m) = b - m := w64 (by omega) (by omega)
    have e3 : wrap64 ((a + b) / 2 + m) = (a + b) / 2 + m := w64 (by omega) (by omega)
    have e4 : wrap64 ((a + b) / 2 + m - b) = (a + b) / 2 + m - b := w64 (by omega) (by omega)
    have e5 : wrap64 ((a + b) / 2 + m - 1) = (a + b) / 2 + m - 1 := w64 (by omega) (by omega)
    refine EvP.s (fun k => by rw [slices_symMergeCmpFunc_impl_Row_at79.f]) ?_
    rw [hmid a b (by omega) (by omega), e1, e2, e3, e4]
    refine EvP.i (fun c => ?_) (fun c => EvP.i (fun c2 => ?_) (fun c2 => EvP.i (fun c3 => ?_) (fun c3 => ?_)))
    · obtain rfl : m = a + 1 := by omega
      exact sm_l0 a b D ha (by omega) hb hn hw s2 (b - (a + 1)).toNat (a + 1) b (by omega) (by omega) (by omega) (by omega) (fun x h5 h6 => by omega) (fun x h5 h6 => by omega)
    · obtain rfl : b = m + 1 := by omega
      exact sm_l2 a m D ha (by omega) hb hn hw s1 (m - a).toNat a m (by omega) (by omega) (by omega) (by omega) (fun x h5 h6 => by omega) (fun x h5 h6 => by omega)
    · refine EvP.s (fun k => by rw [slices_symMergeCmpFunc_impl_Row_at79.j0]) ?_
      rw [e5]
      exact sm_l4 ih a m b ((a + b) / 2) ((a + b) / 2 + m - b) ((a + b) / 2) D ha (by omega) (by omega) (by omega) (by omega) (by omega) (by omega) (by omega) ham hmb (by omega) (by omega) hb hn (by omega) hw s1 s2 b.toNat _ _ (by omega) (by omega) (by omega) (by omega) (fun x h5 h6 => by omega) (fun x h5 h6 => by omega)
    · refine EvP.s (fun k => by rw [slices_symMergeCmpFunc_impl_Row_at79.j0]) ?_
      rw [e5]
      exact sm_l4 ih a m b ((a + b) / 2) a m D ha (by omega) (by omega) (by omega) (by omega) (by omega) (by omega) (by omega) ham hmb (by omega) (by omega) hb hn (by omega) hw s1 s2 b.toNat _ _ (by omega) (by omega) (by omega) (by omega) (fun x h5 h6 => by omega) (fun x h5 h6 => by omega)

def lek (a b : S72) : Prop := rkey a ≤ rkey b
theorem st_ev (D : List S72) (hn : (D.length : Int) ≤ 39) (hw : ∀ x ∈ D, wK x) : EvP (fun k => slices_SortStableFunc_impl_Row_impl_Row_at79.f k D) (PQR 0 D.length D) := by
  refine EvP.u (fun _ => rfl) (EvP.b (P := PQR 0 D.length D) ?_ (fun D1 h => EvP.p h))
  have w1 : wrap64 (20 + 20) = 40 := w64 (by omega) (by omega)
  have w2 : wrap64 (2 * 20) = 40 := w64 (by omega) (by omega)
  have w3 : wrap64 (0 + 20) = 20 := w64 (by omega) (by omega)
  have w4 : wrap64 (20 * 2) = 40 := w64 (by omega) (by omega)
  refine EvP.u (fun k => by rw [slices_stableCmpFunc_impl_Row_at79.f]) ?_
  refine EvP.s (fun k => by rw [slices_stableCmpFunc_impl_Row_at79.l0]) ?_
  rw [w1]
  refine EvP.i (fun c => ?_) (fun c => ?_)
  · refine EvP.b (is_evR 0 20 D (by omega) (by omega) c (by omega) hw) ?_
    rintro D1 ⟨R1, s1⟩
    have h1 := R1.len
    refine EvP.s (fun k => by rw [slices_stableCmpFunc_impl_Row_at79.l0]) (EvP.e (by omega) ?_)
    refine EvP.b (is_evR 20 D.length D1 (by omega) c (by omega) (by omega) (R1.wk hw)) ?_
    rintro D2 ⟨R2, s2⟩
    have h2 := R2.len
    have s3 : SrtR 0 20 D2 := fun x y h5 h6 h7 => by
      rw [R2.ky (t := x) h5 (.inl (by omega)), R2.ky (t := y) (by omega) (.inl h7)]
      exact s1 x y h5 h6 h7
    have R3 : RgR 0 D.length D D2 := (R1.wide (by omega) (by omega) c).trans (R2.wide (by omega) (by omega) (Int.le_refl _))
    refine EvP.s (fun k => by rw [slices_stableCmpFunc_impl_Row_at79.l1]) ?_
    rw [w2]
    refine EvP.i (fun c2 => ?_) (fun c2 => EvP.p ⟨R3, ?_⟩)
    · refine EvP.s (fun k => by rw [slices_stableCmpFunc_impl_Row_at79.l2]) ?_
      rw [w3, w4]
      refine EvP.e (by omega) (EvP.t c2 ?_)
      refine EvP.b (sm_all 40 D2 0 20 D.length (by omega) (by omega) c2 (by omega) (by omega) (by omega) (R3.wk hw) s3 s2) ?_
      rintro D3 ⟨R4, s4⟩
      refine EvP.s (fun k => by rw [slices_stableCmpFunc_impl_Row_at79.l1]) (EvP.e (by omega) (EvP.p ⟨R3.trans R4, s4⟩))
    · rw [show (D.length : Int) = 20 by omega]; exact s3
  · refine EvP.b (is_evR 0 D.length D (by omega) (by omega) (by omega) (by omega) hw) ?_
    rintro D1 ⟨R1, s1⟩
    exact EvP.s (fun k => by rw [slices_stableCmpFunc_impl_Row_at79.l1]) (EvP.e (by omega) (EvP.p ⟨R1, s1⟩))
theorem srt_lek {D : List S72} (s : SrtR 0 D.length D) : D.Pairwise lek := by
  rw [List.pairwise_iff_getElem]
  intro i j hi hj hij
  have h1 := s i j (by omega) (by omega) (by omega)
  unfold kyR at h1
  rw [rd_elR ⟨by omega, by omega⟩, rd_elR ⟨by omega, by omega⟩] at h1
  exact h1
theorem lek_eq : ∀ {a b : List S72}, a.Pairwise lek → b.Pairwise lek → a.Perm b → (∀ x ∈ a, wK x) → a = b
  | [], b, _, _, h, _ => (List.nil_perm.1 h).symm
  | x :: a, [], _, _, h, _ => by simp at h
  | x :: a, y :: b, ha, hb, h, hw => by
    obtain ⟨a1, a2⟩ := List.pairwise_cons.1 ha
    obtain ⟨b1, b2⟩ := List.pairwise_cons.1 hb
    have hx : x ∈ y :: b := h.subset (List.mem_cons_self ..)
    have hy : y ∈ x :: a := h.symm.subset (List.mem_cons_self ..)
    have k1 : rkey y ≤ rkey x := by
      rcases List.mem_cons.1 hx with q | q
      · rw [q]; exact Int.le_refl _
      · exact b1 x q
    have k2 : rkey x ≤ rkey y := by
      rcases List.mem_cons.1 hy with q | q
      · rw [q]; exact Int.le_refl _
      · exact a1 y q
    have e : x = y := rkey_inj (hw x (List.mem_cons_self ..)) (hw y hy) (by omega)
    subst e
    rw [lek_eq a2 b2 (List.Perm.cons_inv h) (fun z hz => hw z (List.mem_cons_of_mem _ hz))]
/-- One row put where it belongs. -/
def insK (x : S72) : List S72 → List S72
  | [] => [x]
  | y :: l => if rkey x < rkey y then x :: y :: l else y :: insK x l
def srtK (l : List S72) : List S72 := l.foldl (fun a x => insK x a) []
theorem insK_perm (x : S72) : ∀ l, (insK x l).Perm (x :: l)
  | [] => List.Perm.refl _
  | y :: l => by
    rw [insK]
    split
    · exact List.Perm.refl _
    · exact ((insK_perm x l).cons y).trans (List.Perm.swap x y l)
theorem insK_srt (x : S72) : ∀ l : List S72, l.Pairwise lek → (insK x l).Pairwise lek
  | [], _ => by simp [insK]
  | y :: l, h => by
    obtain ⟨h1, h2⟩ := List.pairwise_cons.1 h
    rw [insK]
    split
    · rename_i c
      refine List.pairwise_cons.2 ⟨fun z hz => ?_, h⟩
      rcases List.mem_cons.1 hz with q | q
      · rw [q]; show rkey x ≤ rkey y; omega
      · have : rkey y ≤ rkey z := h1 z q
        show rkey x ≤ rkey z; omega
    · rename_i c
      refine List.pairwise_cons.2 ⟨fun z hz => ?_, insK_srt x l h2⟩
      rcases List.mem_cons.1 ((insK_perm x l).subset hz) with q | q
      · rw [q]; show rkey y ≤ rkey x; omega
      · exact h1 z q
theorem srtK_go : ∀ (l a : List S72), a.Pairwise lek → (l.foldl (fun a x => insK x a) a).Pairwise lek ∧ (l.foldl (fun a x => insK x a) a).Perm (a ++ l)
  | [], a, h => ⟨h, by simp⟩
  | x :: l, a, h => by
    obtain ⟨h1, h2⟩ := srtK_go l (insK x a) (insK_srt x a h)
    refine ⟨h1, h2.trans ?_⟩
    exact ((insK_perm x a).append_right l).trans List.perm_middle.symm
theorem srtK_ok (l : List S72) : (srtK l).Pairwise lek ∧ (srtK l).Perm l := by
  have := srtK_go l [] List.Pairwise.nil
  exact ⟨this.1, this.2⟩
theorem SortStable_ev (D : List S72) (hn : (D.length : Int) ≤ 39) (hw : ∀ x ∈ D, wK x) : Ev (fun k => slices_SortStableFunc_impl_Row_impl_Row_at79.f k D) (srtK D) := by
  obtain ⟨D1, e, R, s⟩ := st_ev D hn hw
  obtain ⟨h1, h2⟩ := srtK_ok D
  have el : D1 = srtK D := lek_eq (srt_lek (by rw [R.len]; exact s)) h1 (R.pm.trans h2.symm) (R.wk hw)
  rw [el] at e
  exact e

theorem cmpR_gt {x y : S72} (hx : wK x) (hy : wK y) : cmpR x y > 0 ↔ rkey y < rkey x := by
  obtain ⟨hx0, hx1, hx2⟩ := hx
  obtain ⟨hy0, hy1, hy2⟩ := hy
  unfold cmpR rkey
  constructor
  · intro h
    repeat' split at h
    all_goals omega
  · intro h
    repeat' split
    all_goals omega
theorem insK_at (x : S72) : ∀ P Q : List S72, (∀ y ∈ P, rkey y ≤ rkey x) → (∀ y ∈ Q, rkey x < rkey y) → insK x (P ++ Q) = P ++ x :: Q
  | [], [], _, _ => rfl
  | [], y :: Q, _, h => by
    show (if rkey x < rkey y then x :: y :: Q else y :: insK x Q) = _
    rw [if_pos (h y (List.mem_cons_self ..))]; rfl
  | y :: P, Q, h1, h2 => by
    show (if rkey x < rkey y then x :: y :: (P ++ Q) else y :: insK x (P ++ Q)) = _
    have := h1 y (List.mem_cons_self ..)
    rw [if_neg (by omega), insK_at x P Q (fun z hz => h1 z (List.mem_cons_of_mem _ hz)) h2]; rfl
theorem spec_SortRows_j0 (l : List S72) (i : Nat) (x : S72) (hi : i < l.length) (hx : rd_T72 l (i : Int) = x) (hl : l.length ≤ 1099511627776) (r : List S72) (P Q : List S72) (hp : P.length + Q.length ≤ 1099511627776)
    (h : Ev (fun k => spec_SortRows.l0 k (P ++ x :: Q) ((i + 1 : Nat) : Int) l) r) : Ev (fun k => spec_SortRows.j0 k (P ++ Q) (i : Int) (P.length : Int) l) r := by
  refine Ev.s (fun k => by rw [spec_SortRows.j0]) ?_
  rw [hx, Int.toNat_natCast, List.take_left, List.drop_left, w64s hi (by omega)]
  refine Ev.t (by omega) (Ev.t (by omega) (Ev.t (by omega) (Ev.t (by simp; omega) (Ev.t (by simp; omega) (Ev.t (by omega) (Ev.t (by simp; omega) ?_))))))
  exact h
theorem spec_SortRows_l1 (l : List S72) (i : Nat) (x : S72) (hi : i < l.length) (hx : rd_T72 l (i : Int) = x) (hl : l.length ≤ 1099511627776) (wx : wK x) (r : List S72) : ∀ rp q : List S72, rp.length + q.length ≤ 1099511627776 → (rp.reverse ++ q).Pairwise lek → (∀ y ∈ rp, wK y) → (∀ y ∈ q, rkey x < rkey y) →
    Ev (fun k => spec_SortRows.l0 k (insK x (rp.reverse ++ q)) ((i + 1 : Nat) : Int) l) r → Ev (fun k => spec_SortRows.l1 k (rp.reverse ++ q) (i : Int) (rp.length : Int) l) r
  | [], q, hp, hs, hw, hq, h => by
    refine Ev.s (fun k => by rw [spec_SortRows.l1]) (Ev.e (by simp) ?_)
    rw [insK_at x [].reverse q (by simp) hq] at h
    exact spec_SortRows_j0 l i x hi hx hl r [] q (by simpa using hp) h
  | y :: rp, q, hp, hs, hw, hq, h => by
    rw [List.length_cons] at hp
    have e1 : wrap64 (((y :: rp).length : Int) - 1) = (rp.length : Int) := by rw [List.length_cons, w64 (by omega) (by omega)]; omega
    have el : (y :: rp).reverse ++ q = rp.reverse ++ y :: q := by simp
    have er : rd_T72 (rp.reverse ++ y :: q) (rp.length : Int) = y := by simp [rd_T72]
    have wy := hw y (List.mem_cons_self ..)
    refine Ev.s (fun k => by rw [spec_SortRows.l1]) (Ev.t (by rw [List.length_cons]; omega) ?_)
    rw [e1, el, er, hx]
    refine Ev.t (by omega) (Ev.t (by simp; omega) (Ev.t (by omega) (Ev.t (by omega) (Ev.b (spec_CompareRows_ev y x) ?_))))
    rw [el] at hs h
    by_cases c : rkey x < rkey y
    · refine Ev.t ((cmpR_gt wy wx).2 c) ?_
      exact spec_SortRows_l1 l i x hi hx hl wx r rp (y :: q) (by rw [List.length_cons]; omega) hs (fun z hz => hw z (List.mem_cons_of_mem _ hz)) (fun z hz => by
        rcases List.mem_cons.1 hz with e | e
        · rw [e]; exact c
        · exact hq z e) h
    · refine Ev.e (fun q => c ((cmpR_gt wy wx).1 q)) ?_
      have h2 := List.pairwise_append.1 hs
      have hle : ∀ z ∈ (y :: rp).reverse, rkey z ≤ rkey x := fun z hz => by
        rw [List.reverse_cons] at hz
        rcases List.mem_append.1 hz with e | e
        · have : rkey z ≤ rkey y := h2.2.2 z e y (List.mem_cons_self ..)
          omega
        · rw [List.mem_singleton.1 e]; omega
      rw [← el, insK_at x _ q hle hq] at h
      have := spec_SortRows_j0 l i x hi hx hl r (y :: rp).reverse q (by simp; omega) h
      rw [el, List.length_reverse] at this
      exact this
theorem spec_SortRows_l0 (l : List S72) (hl : l.length ≤ 1099511627776) (hw : ∀ x ∈ l, wK x) : ∀ (s : List S72) (i : Nat) (a : List S72), l.drop i = s → i ≤ l.length → a.length = i → a.Pairwise lek → (∀ x ∈ a, wK x) → Ev (fun k => spec_SortRows.l0 k a (i : Int) l) (s.foldl (fun a x => insK x a) a) := by
  intro s
  induction s with
  | nil =>
    intro i a hd hil ha hs hwa
    have := drop_nil' hd
    refine Ev.s (fun k => by rw [spec_SortRows.l0]) ?_
    exact Ev.e (by omega) (Ev.p.r rfl)
  | cons x t ih =>
    intro i a hd hil ha hs hwa
    obtain ⟨hi, hd', hx, -⟩ := drop_cons' hd
    have wx : wK x := hw x (by
      have : x ∈ l.drop i := by rw [hd]; exact List.mem_cons_self ..
      exact List.mem_of_mem_drop this)
    refine Ev.s (fun k => by rw [spec_SortRows.l0]) (Ev.t (by omega) ?_)
    have hlen : (insK x a).length = i + 1 := by rw [(insK_perm x a).length_eq, List.length_cons, ha]
    have h := ih (i + 1) (insK x a) hd' (by omega) hlen (insK_srt x a hs) (fun z hz => by
      rcases List.mem_cons.1 ((insK_perm x a).subset hz) with e | e
      · rw [e]; exact wx
      · exact hwa z e)
    have := spec_SortRows_l1 l i x hi (by rw [rdR]; exact hx _) hl wx _ a.reverse [] (by rw [List.length_reverse, ha]; simp; omega) (by simpa using hs) (fun z hz => hwa z (List.mem_reverse.1 hz)) (by simp) (by simpa using h)
    simpa using this
theorem spec_SortRows_ev (l : List S72) (hl : l.length ≤ 1099511627776) (hw : ∀ x ∈ l, wK x) : Ev (fun k => spec_SortRows.f k l) (srtK l) :=
  Ev.u (fun _ => rfl) (spec_SortRows_l0 l hl hw l 0 [] rfl (by omega) rfl List.Pairwise.nil (by simp))
theorem impl_SortRows_ev (l : List S72) (hl : l.length ≤ 39) (hw : ∀ x ∈ l, wK x) : Ev (fun k => impl_SortRows.f k l) (srtK l) :=
  Ev.u (fun _ => rfl) (Ev.b (Ev.c (impl_clone_eq l (by omega))) (Ev.b (SortStable_ev l (by omega) hw) Ev.p))

theorem spec_EqualBags_l0 (l m : List S72) (hl : l.length ≤ 1152921504606846975) (hm : l.length = m.length) : ∀ (s t : List S72) (i : Nat), l.drop i = s → m.drop i = t → Ev (fun k => spec_EqualBags.l0 k l m (i : Int)) (eqRows s t) := by
  intro s
  induction s with
  | nil =>
    intro t i hd he
    have := drop_nil' hd
    have ht : t = [] := by rw [← he]; exact List.drop_eq_nil_iff.2 (by omega)
    subst ht
    exact Ev.s (fun k => by rw [spec_EqualBags.l0]) (Ev.e (by omega) (Ev.p.r (by rfl)))
  | cons x s ih =>
    intro t i hd he
    obtain ⟨hi, hd', hx, -⟩ := drop_cons' hd
    cases t with
    | nil => have := drop_nil' he; omega
    | cons y t =>
      obtain ⟨hj, he', hy, -⟩ := drop_cons' he
      refine Ev.s (fun k => by rw [spec_EqualBags.l0]) (Ev.t (by omega) (Ev.t (by omega) (Ev.t (by omega) ?_)))
      rw [rdR, rdR, hx, hy]
      refine Ev.i (fun h => ?_) (fun h => ?_)
      · rw [w64s hi (by omega)]
        exact (ih t (i + 1) hd' he').r (by have h' : eqRow x y = true := h; simp [eqRows, h'])
      · exact Ev.p.r (by have h' : ¬ eqRow x y = true := h; simp [eqRows, h'])
def eqB (a b : List S72) : Bool := eqRows (srtK a) (srtK b)
theorem srtK_len (l : List S72) : (srtK l).length = l.length := (srtK_ok l).2.length_eq
theorem spec_EqualBags_ev (a b : List S72) (ha : a.length ≤ 1099511627776) (hb : b.length ≤ 1099511627776) (wa : ∀ x ∈ a, wK x) (wb : ∀ x ∈ b, wK x) : Ev (fun k => spec_EqualBags.f k a b) (eqB a b) := by
  have h1 := srtK_len a
  have h2 := srtK_len b
  refine Ev.u (fun _ => rfl) (Ev.b (spec_SortRows_ev a ha wa) (Ev.b (spec_SortRows_ev b hb wb) ?_))
  refine Ev.i (fun h => ?_) (fun h => Ev.p.r (eqRows_ne (by omega)).symm)
  exact spec_EqualBags_l0 (srtK a) (srtK b) (by omega) (by omega) (srtK a) (srtK b) 0 rfl rfl
theorem impl_EqualBags_ev (a b : List S72) (hb : b.length ≤ 39) (wa : ∀ x ∈ a, wK x) (wb : ∀ x ∈ b, wK x) : Ev (fun k => impl_EqualBags.f k a b) (eqB a b) := by
  have h1 := srtK_len a
  have h2 := srtK_len b
  refine Ev.u (fun _ => rfl) (Ev.i (fun h => ?_) (fun h => Ev.p.r (eqRows_ne (by omega)).symm))
  exact Ev.b (impl_SortRows_ev a (by omega) wa) (Ev.b (impl_SortRows_ev b hb wb) (Ev.b (impl_equal_ev (srtK a) (srtK b) (by omega)) Ev.p))
def soF : List S72 → Bool
  | [] => true
  | [_] => true
  | x :: y :: l => !decide (rkey y < rkey x) && soF (y :: l)
theorem impl_IsSorted_l0 (l : List S72) (hl : l.length ≤ 1099511627776) (hw : ∀ x ∈ l, wK x) : ∀ (s : List S72) (x : S72) (i : Nat), l.drop i = x :: s → Ev (fun k => impl_IsSorted.l0 k ((i + 1 : Nat) : Int) l) (soF (x :: s)) := by
  intro s
  induction s with
  | nil =>
    intro x i hd
    obtain ⟨hi, hd', hx, hlen⟩ := drop_cons' hd
    have := drop_nil' hd'
    refine Ev.s (fun k => by rw [impl_IsSorted.l0]) ?_
    exact Ev.e (by omega) (Ev.p.r rfl)
  | cons y s ih =>
    intro x i hd
    obtain ⟨hi, hd', hx, hlen⟩ := drop_cons' hd
    obtain ⟨hi2, -, hy, -⟩ := drop_cons' hd'
    have e1 : wrap64 (((i + 1 : Nat) : Int) - 1) = (i : Int) := by rw [w64 (by omega) (by omega)]; omega
    have wx : wK x := hw x (List.mem_of_mem_drop (i := i) (by rw [hd]; exact List.mem_cons_self ..))
    have wy : wK y := hw y (List.mem_of_mem_drop (i := i + 1) (by rw [hd']; exact List.mem_cons_self ..))
    refine Ev.s (fun k => by rw [impl_IsSorted.l0]) (Ev.t (by omega) (Ev.t (by omega) ?_))
    rw [e1, rdR, rdR, hx, hy, w64s hi2 (by omega)]
    obtain ⟨v, e, h, -⟩ := impl_CompareRows_lt wy wx
    refine Ev.t (by omega) (Ev.t (by omega) (Ev.b (Ev.c e) (Ev.i (fun c => ?_) (fun c => ?_))))
    · refine Ev.p.r ?_
      have := h.1 c
      simp [soF, this]
    · refine (ih y (i + 1) hd').r ?_
      have : ¬ rkey y < rkey x := fun q => c (h.2 q)
      simp [soF, this]
theorem spec_IsSorted_l0 (l : List S72) (hl : l.length ≤ 1099511627776) (hw : ∀ x ∈ l, wK x) : ∀ (s : List S72) (x : S72) (i : Nat), l.drop i = x :: s → Ev (fun k => spec_IsSorted.l0 k ((i + 1 : Nat) : Int) l) (soF (x :: s)) := by
  intro s
  induction s with
  | nil =>
    intro x i hd
    obtain ⟨hi, hd', hx, hlen⟩ := drop_cons' hd
    have := drop_nil' hd'
    refine Ev.s (fun k => by rw [spec_IsSorted.l0]) ?_
    exact Ev.e (by omega) (Ev.p.r rfl)
  | cons y s ih =>
    intro x i hd
    obtain ⟨hi, hd', hx, hlen⟩ := drop_cons' hd
    obtain ⟨hi2, -, hy, -⟩ := drop_cons' hd'
    have e1 : wrap64 (((i + 1 : Nat) : Int) - 1) = (i : Int) := by rw [w64 (by omega) (by omega)]; omega
    have wx : wK x := hw x (List.mem_of_mem_drop (i := i) (by rw [hd]; exact List.mem_cons_self ..))
    have wy : wK y := hw y (List.mem_of_mem_drop (i := i + 1) (by rw [hd']; exact List.mem_cons_self ..))
    refine Ev.s (fun k => by rw [spec_IsSorted.l0]) (Ev.t (by omega) ?_)
    rw [e1, rdR, rdR, hx, hy, w64s hi2 (by omega)]
    refine Ev.t (by omega) (Ev.t (by omega) (Ev.t (by omega) (Ev.b (spec_CompareRows_ev x y) (Ev.i (fun c => ?_) (fun c => ?_)))))
    · refine Ev.p.r ?_
      have := (cmpR_gt wx wy).1 c
      simp [soF, this]
    · refine (ih y (i + 1) hd').r ?_
      have : ¬ rkey y < rkey x := fun q => c ((cmpR_gt wx wy).2 q)
      simp [soF, this]
theorem impl_IsSorted_ev (l : List S72) (hl : l.length ≤ 1099511627776) (hw : ∀ x ∈ l, wK x) : Ev (fun k => impl_IsSorted.f k l) (soF l) := by
  refine Ev.u (fun k => by rw [impl_IsSorted.f]) ?_
  cases l with
  | nil =>
    refine Ev.s (fun k => by rw [impl_IsSorted.l0]) ?_
    exact Ev.e (by simp) (Ev.p.r rfl)
  | cons x s => exact impl_IsSorted_l0 (x :: s) hl hw s x 0 rfl
theorem spec_IsSorted_ev (l : List S72) (hl : l.length ≤ 1099511627776) (hw : ∀ x ∈ l, wK x) : Ev (fun k => spec_IsSorted.f k l) (soF l) := by
  refine Ev.u (fun k => by rw [spec_IsSorted.f]) ?_
  cases l with
  | nil =>
    refine Ev.s (fun k => by rw [spec_IsSorted.l0]) ?_
    exact Ev.e (by simp) (Ev.p.r rfl)
  | cons x s => exact spec_IsSorted_l0 (x :: s) hl hw s x 0 rfl

def flR : List S57 → List S72
  | [] => []
  | r :: l => r.f0 ++ flR l
theorem rdRun (l : List S57) (i : Nat) : rd_T57 l (i : Int) = l.getD i z57 := rfl
theorem impl_FlattenRuns_l0 (l : List S57) (hl : l.length ≤ 1099511627776) : ∀ (s : List S57) (i : Nat) (a : List S72), l.drop i = s → a.length + (flR s).length ≤ 1099511627776 → Ev (fun k => impl_FlattenRuns.l0 k a (l.length : Int) (i : Int) l) (a ++ flR s) := by
  intro s
  induction s with
  | nil =>
    intro i a hd ha
    have := drop_nil' hd
    refine Ev.s (fun k => by rw [impl_FlattenRuns.l0]) ?_
    exact Ev.e (by omega) (Ev.p.r (by simp [flR]))
  | cons x s ih =>
    intro i a hd ha
    obtain ⟨hi, hd', hx, -⟩ := drop_cons' hd
    rw [flR, List.length_append] at ha
    refine Ev.s (fun k => by rw [impl_FlattenRuns.l0]) (Ev.t (by omega) (Ev.t (by omega) (Ev.t (by omega) ?_)))
    rw [rdRun, hx, w64s hi (by omega)]
    refine Ev.t (by omega) ?_
    exact (ih (i + 1) (a ++ x.f0) hd' (by rw [List.length_append]; omega)).r (by simp [flR])
theorem spec_FlattenRuns_l0 (l : List S57) (hl : l.length ≤ 1099511627776) : ∀ (s : List S57) (i : Nat) (a : List S72), l.drop i = s → a.length + (flR s).length ≤ 1099511627776 → Ev (fun k => spec_FlattenRuns.l0 k a (i : Int) l) (a ++ flR s) := by
  intro s
  induction s with
  | nil =>
    intro i a hd ha
    have := drop_nil' hd
    refine Ev.s (fun k => by rw [spec_FlattenRuns.l0]) ?_
    exact Ev.e (by omega) (Ev.p.r (by simp [flR]))
  | cons x s ih =>
    intro i a hd ha
    obtain ⟨hi, hd', hx, -⟩ := drop_cons' hd
    rw [flR, List.length_append] at ha
    refine Ev.s (fun k => by rw [spec_FlattenRuns.l0]) (Ev.t (by omega) (Ev.t (by omega) ?_))
    rw [rdRun, hx, w64s hi (by omega)]
    refine Ev.t (by omega) ?_
    exact (ih (i + 1) (a ++ x.f0) hd' (by rw [List.length_append]; omega)).r (by simp [flR])
theorem impl_FlattenRuns_ev (l : List S57) (hl : l.length ≤ 1099511627776) (h : (flR l).length ≤ 1099511627776) : Ev (fun k => impl_FlattenRuns.f k l) (flR l) :=
  Ev.u (fun k => by rw [impl_FlattenRuns.f]; rfl) (impl_FlattenRuns_l0 l hl l 0 [] rfl (by simpa using h))
theorem spec_FlattenRuns_ev (l : List S57) (hl : l.length ≤ 1099511627776) (h : (flR l).length ≤ 1099511627776) : Ev (fun k => spec_FlattenRuns.f k l) (flR l) :=
  Ev.u (fun k => by rw [spec_FlattenRuns.f]; rfl) (spec_FlattenRuns_l0 l hl l 0 [] rfl (by simpa using h))
def vRun (r : S57) : Bool := !decide ((r.f0.length : Int) = 0) && soF r.f0 && vRows r.f0
theorem impl_AreValidRuns_l0 (l : List S57) (hl : l.length ≤ 1099511627776) (hr : ∀ r ∈ l, r.f0.length ≤ 1099511627776 ∧ ∀ x ∈ r.f0, wK x) : ∀ (s : List S57) (i : Nat), l.drop i = s → Ev (fun k => impl_AreValidRuns.l0 k (l.length : Int) (i : Int) l) (s.all vRun) := by
  intro s
  induction s with
  | nil =>
    intro i hd
    have := drop_nil' hd
    refine Ev.s (fun k => by rw [impl_AreValidRuns.l0]) ?_
    exact Ev.e (by omega) (Ev.p.r (by simp))
  | cons x s ih =>
    intro i hd
    obtain ⟨hi, hd', hx, -⟩ := drop_cons' hd
    obtain ⟨h1, h2⟩ := hr x (List.mem_of_mem_drop (i := i) (by rw [hd]; exact List.mem_cons_self ..))
    refine Ev.s (fun k => by rw [impl_AreValidRuns.l0]) (Ev.t (by omega) (Ev.t (by omega) (Ev.t (by omega) ?_)))
    rw [rdRun, hx, w64s hi (by omega)]
    refine Ev.i (fun c => Ev.p.r (by simp [vRun, c])) (fun c => ?_)
    refine Ev.b (impl_IsSorted_ev x.f0 h1 h2) (Ev.i (fun c2 => ?_) (fun c2 => Ev.p.r (by simp [vRun, c2])))
    refine Ev.b (impl_AreValidRows_ev x.f0 (by omega)) (Ev.i (fun c3 => ?_) (fun c3 => Ev.p.r (by simp [vRun, c3])))
    refine (ih (i + 1) hd').r ?_
    have e : vRun x = true := by unfold vRun; rw [c2, c3, decide_eq_false c]; rfl
    rw [List.all_cons, e, Bool.true_and]
theorem spec_AreValidRuns_l0 (l : List S57) (hl : l.length ≤ 1099511627776) (hr : ∀ r ∈ l, r.f0.length ≤ 1099511627776 ∧ ∀ x ∈ r.f0, wK x) : ∀ (s : List S57) (i : Nat), l.drop i = s → Ev (fun k => spec_AreValidRuns.l0 k (i : Int) l) (s.all vRun) := by
  intro s
  induction s with
  | nil =>
    intro i hd
    have := drop_nil' hd
    refine Ev.s (fun k => by rw [spec_AreValidRuns.l0]) ?_
    exact Ev.e (by omega) (Ev.p.r (by simp))
  | cons x s ih =>
    intro i hd
    obtain ⟨hi, hd', hx, -⟩ := drop_cons' hd
    obtain ⟨h1, h2⟩ := hr x (List.mem_of_mem_drop (i := i) (by rw [hd]; exact List.mem_cons_self ..))
    refine Ev.s (fun k => by rw [spec_AreValidRuns.l0]) (Ev.t (by omega) (Ev.t (by omega) ?_))
    rw [rdRun, hx, w64s hi (by omega)]
    refine Ev.i (fun c => Ev.p.r (by simp [vRun, c])) (fun c => ?_)
    refine Ev.b (spec_IsSorted_ev x.f0 h1 h2) (Ev.i (fun c2 => ?_) (fun c2 => Ev.p.r (by simp [vRun, c2])))
    refine Ev.b (spec_AreValidRows_ev x.f0 (by omega)) (Ev.i (fun c3 => ?_) (fun c3 => Ev.p.r (by simp [vRun, c3])))
    refine (ih (i + 1) hd').r ?_
    have e : vRun x = true := by unfold vRun; rw [c2, c3, decide_eq_false c]; rfl
    rw [List.all_cons, e, Bool.true_and]
theorem impl_AreValidRuns_ev (l : List S57) (hl : l.length ≤ 1099511627776) (hr : ∀ r ∈ l, r.f0.length ≤ 1099511627776 ∧ ∀ x ∈ r.f0, wK x) : Ev (fun k => impl_AreValidRuns.f k l) (l.all vRun) :=
  Ev.u (fun k => by rw [impl_AreValidRuns.f]; rfl) (impl_AreValidRuns_l0 l hl hr l 0 rfl)
theorem spec_AreValidRuns_ev (l : List S57) (hl : l.length ≤ 1099511627776) (hr : ∀ r ∈ l, r.f0.length ≤ 1099511627776 ∧ ∀ x ∈ r.f0, wK x) : Ev (fun k => spec_AreValidRuns.f k l) (l.all vRun) :=
  Ev.u (fun k => by rw [spec_AreValidRuns.f]; rfl) (spec_AreValidRuns_l0 l hl hr l 0 rfl)

theorem impl_together_l0 (l : List (List S72)) (hl : l.length ≤ 1099511627776) : ∀ (s : List (List S72)) (i : Nat) (a : List S72), l.drop i = s → a.length + s.flatten.length ≤ 1099511627776 → Ev (fun k => impl_together.l0 k a (l.length : Int) (i : Int) l) (a ++ s.flatten) := by
  intro s
  induction s with
  | nil =>
    intro i a hd ha
    have := drop_nil' hd
    refine Ev.s (fun k => by rw [impl_together.l0]) ?_
    exact Ev.e (by omega) (Ev.p.r (by simp))
  | cons x s ih =>
    intro i a hd ha
    obtain ⟨hi, hd', hx, -⟩ := drop_cons' hd
    rw [List.flatten_cons, List.length_append] at ha
    have er : rdOf [] l (i : Int) = x := hx _
    refine Ev.s (fun k => by rw [impl_together.l0]) (Ev.t (by omega) (Ev.t (by omega) (Ev.t (by omega) ?_)))
    rw [er, w64s hi (by omega)]
    refine Ev.t (by omega) ?_
    exact (ih (i + 1) (a ++ x) hd' (by rw [List.length_append]; omega)).r (by simp)
theorem impl_together_ev (l : List (List S72)) (hl : l.length ≤ 1099511627776) (h : l.flatten.length ≤ 1099511627776) : Ev (fun k => impl_together.f k l) l.flatten :=
  Ev.u (fun k => by rw [impl_together.f]; rfl) (impl_together_l0 l hl l 0 [] rfl (by simpa using h))
def blw (x : S72) (l : List S72) : Bool := match l.getLast? with | some y => decide (rkey x < rkey y) | none => false

def mgK : List S72 → List S72 → List S72
  | [], b => b
  | x :: a, b => ins2 x (mgK a) b
where ins2 (x : S72) (m : List S72 → List S72) : List S72 → List S72
  | [] => x :: m []
  | y :: b => if rkey y < rkey x then y :: ins2 x m b else x :: m (y :: b)
theorem mgK_nil (a : List S72) : mgK a [] = a := by
  induction a with
  | nil => rfl
  | cons x a ih => show x :: mgK a [] = _; rw [ih]
theorem mgK_cc (x y : S72) (a b : List S72) : mgK (x :: a) (y :: b) = if rkey y < rkey x then y :: mgK (x :: a) b else x :: mgK a (y :: b) := rfl
theorem mgK_len : ∀ (n : Nat) (a b : List S72), a.length + b.length ≤ n → (mgK a b).length = a.length + b.length := by
  intro n
  induction n with
  | zero =>
    intro a b h
    have h1 : a = [] := List.eq_nil_of_length_eq_zero (by omega)
    have h2 : b = [] := List.eq_nil_of_length_eq_zero (by omega)
    subst h1 h2; rfl
  | succ n ih =>
    intro a b h
    cases a with
    | nil => simp [mgK]
    | cons x a =>
      cases b with
      | nil => rw [mgK_nil]; rfl
      | cons y b =>
        rw [List.length_cons, List.length_cons] at h
        rw [mgK_cc]
        split
        · have := ih (x :: a) b (by rw [List.length_cons]; omega)
          rw [List.length_cons, this, List.length_cons, List.length_cons]; omega
        · have := ih a (y :: b) (by rw [List.length_cons]; omega)
          rw [List.length_cons, this, List.length_cons, List.length_cons]; omega
theorem impl_MergeSorted_l0 : ∀ (n : Nat) (a b c : List S72), a.length + b.length ≤ n → a.length + b.length + c.length ≤ 1099511627776 → (∀ x ∈ a, wK x) → (∀ x ∈ b, wK x) → Ev (fun k => impl_MergeSorted.l0 k a b c) (c ++ mgK a b) := by
  intro n
  induction n with
  | zero =>
    intro a b c h _ _ _
    have h1 : a = [] := List.eq_nil_of_length_eq_zero (by omega)
    have h2 : b = [] := List.eq_nil_of_length_eq_zero (by omega)
    subst h1 h2
    refine Ev.s (fun k => by rw [impl_MergeSorted.l0]) ?_
    exact Ev.e (by simp) (Ev.e (by simp) (Ev.p.r (by simp [mgK])))
  | succ n ih =>
    intro a b c h hc wa wb
    cases a with
    | nil =>
      cases b with
      | nil =>
        refine Ev.s (fun k => by rw [impl_MergeSorted.l0]) ?_
        exact Ev.e (by simp) (Ev.e (by simp) (Ev.p.r (by simp [mgK])))
      | cons y b =>
        simp only [List.length_cons, List.length_nil] at h hc
        refine Ev.s (fun k => by rw [impl_MergeSorted.l0]) ?_
        refine Ev.e (by simp) (Ev.t (by simp <;> omega) ?_)
        refine Ev.s (fun k => by rw [impl_MergeSorted.j0]) ?_
        refine Ev.e (by simp <;> omega) (Ev.e (by simp) (Ev.t (by simp <;> omega) (Ev.t (by omega) (Ev.t (by simp <;> omega) ?_))))
        have := ih [] b (c ++ [y]) (by simp <;> omega) (by simp <;> omega) wa (fun z hz => wb z (List.mem_cons_of_mem _ hz))
        simpa [mgK, rd_T72] using this
    | cons x a =>
      cases b with
      | nil =>
        simp only [List.length_cons, List.length_nil] at h hc
        refine Ev.s (fun k => by rw [impl_MergeSorted.l0]) ?_
        refine Ev.t (by simp <;> omega) ?_
        refine Ev.s (fun k => by rw [impl_MergeSorted.j0]) ?_
        refine Ev.t (by simp) (Ev.t (by simp <;> omega) (Ev.t (by omega) (Ev.t (by simp <;> omega) ?_)))
        have := ih a [] (c ++ [x]) (by simp <;> omega) (by simp <;> omega) (fun z hz => wa z (List.mem_cons_of_mem _ hz)) wb
        rw [mgK_nil] at this
        rw [mgK_nil]
        simpa [rd_T72] using this
      | cons y b =>
        simp only [List.length_cons] at h hc
        have wx := wa x (List.mem_cons_self ..)
        have wy := wb y (List.mem_cons_self ..)
        obtain ⟨v, e, h1, h2⟩ := impl_CompareRows_lt wx wy
        have rx : rd_T72 (x :: a) 0 = x := rfl
        have ry : rd_T72 (y :: b) 0 = y := rfl
        refine Ev.s (fun k => by rw [impl_MergeSorted.l0]) ?_
        refine Ev.t (by simp <;> omega) ?_
        refine Ev.s (fun k => by rw [impl_MergeSorted.j0, rx, ry]) ?_
        refine Ev.e (by simp <;> omega) (Ev.t (by simp <;> omega) (Ev.t (by simp <;> omega) (Ev.t (by simp <;> omega) (Ev.b (Ev.c e) (Ev.i (fun q => ?_) (fun q => ?_))))))
        · refine Ev.t (by omega) (Ev.t (by simp <;> omega) ?_)
          have := ih a (y :: b) (c ++ [x]) (by simp <;> omega) (by simp <;> omega) (fun z hz => wa z (List.mem_cons_of_mem _ hz)) wb
          rw [mgK_cc, if_neg (by omega)]
          simpa using this
        · refine Ev.t (by omega) (Ev.t (by simp <;> omega) ?_)
          have := ih (x :: a) b (c ++ [y]) (by simp <;> omega) (by simp <;> omega) wa (fun z hz => wb z (List.mem_cons_of_mem _ hz))
          rw [mgK_cc, if_pos (by omega)]
          simpa using this
theorem impl_MergeSorted_ev (a b : List S72) (h : a.length + b.length ≤ 1099511627776) (wa : ∀ x ∈ a, wK x) (wb : ∀ x ∈ b, wK x) : Ev (fun k => impl_MergeSorted.f k a b) (mgK a b) :=
  Ev.u (fun k => by rw [impl_MergeSorted.f]) (impl_MergeSorted_l0 _ a b [] (Nat.le_refl _) (by simpa using h) wa wb)
theorem spec_MergeSorted_l0 (a0 b0 : List S72) (ha : a0.length ≤ 1048576000) (hb : b0.length ≤ 1048576000) (wa : ∀ x ∈ a0, wK x) (wb : ∀ x ∈ b0, wK x) : ∀ (n : Nat) (a b c : List S72) (i j : Nat), a.length + b.length ≤ n → a0.drop i = a → b0.drop j = b → i ≤ a0.length → j ≤ b0.length → c.length + a.length + b.length ≤ 1099511627776 →
    Ev (fun k => spec_MergeSorted.l0 k c (i : Int) (j : Int) a0 b0) (c ++ mgK a b) := by
  intro n
  induction n with
  | zero =>
    intro a b c i j h da db hi hj hc
    have h1 : a = [] := List.eq_nil_of_length_eq_zero (by omega)
    have h2 : b = [] := List.eq_nil_of_length_eq_zero (by omega)
    subst h1 h2
    have := drop_nil' da
    have := drop_nil' db
    refine Ev.s (fun k => by rw [spec_MergeSorted.l0]) ?_
    exact Ev.e (by omega) (Ev.e (by omega) (Ev.p.r (by simp [mgK])))
  | succ n ih =>
    intro a b c i j h da db hi hj hc
    cases a with
    | nil =>
      have ea := drop_nil' da
      cases b with
      | nil =>
        have := drop_nil' db
        refine Ev.s (fun k => by rw [spec_MergeSorted.l0]) ?_
        exact Ev.e (by omega) (Ev.e (by omega) (Ev.p.r (by simp [mgK])))
      | cons y b =>
        obtain ⟨hj2, db', hy, -⟩ := drop_cons' db
        simp only [List.length_cons, List.length_nil] at h hc
        refine Ev.s (fun k => by rw [spec_MergeSorted.l0]) ?_
        refine Ev.e (by omega) (Ev.t (by omega) ?_)
        refine Ev.s (fun k => by rw [spec_MergeSorted.j0, rdR b0, hy, w64s hj2 (by omega)]) ?_
        refine Ev.e (by omega) (Ev.e (by omega) (Ev.t (by omega) (Ev.t (by omega) (Ev.t (by omega) ?_))))
        have := ih [] b (c ++ [y]) i (j + 1) (by simp <;> omega) da db' hi (by omega) (by simp <;> omega)
        simpa [mgK] using this
    | cons x a =>
      obtain ⟨hi2, da', hx, -⟩ := drop_cons' da
      have wx := wa x (List.mem_of_mem_drop (i := i) (by rw [da]; exact List.mem_cons_self ..))
      cases b with
      | nil =>
        have eb := drop_nil' db
        simp only [List.length_cons, List.length_nil] at h hc
        refine Ev.s (fun k => by rw [spec_MergeSorted.l0]) ?_
        refine Ev.t (by omega) ?_
        refine Ev.s (fun k => by rw [spec_MergeSorted.j0, rdR a0, hx, w64s hi2 (by omega)]) ?_
        refine Ev.t (by omega) (Ev.t (by omega) (Ev.t (by omega) (Ev.t (by omega) ?_)))
        have := ih a [] (c ++ [x]) (i + 1) j (by simp <;> omega) da' db (by omega) hj (by simp <;> omega)
        rw [mgK_nil] at this
        rw [mgK_nil]
        simpa using this
      | cons y b =>
        obtain ⟨hj2, db', hy, -⟩ := drop_cons' db
        have wy := wb y (List.mem_of_mem_drop (i := j) (by rw [db]; exact List.mem_cons_self ..))
        simp only [List.length_cons] at h hc
        refine Ev.s (fun k => by rw [spec_MergeSorted.l0]) ?_
        refine Ev.t (by omega) ?_
        refine Ev.s (fun k => by rw [spec_MergeSorted.j0, rdR a0, rdR b0, hx, hy, w64s hi2 (by omega), w64s hj2 (by omega)]) ?_
        have G := cmpR_gt wx wy
        refine Ev.e (by omega) (Ev.t (by omega) (Ev.t (by omega) (Ev.t (by omega) (Ev.t (by omega) (Ev.b (spec_CompareRows_ev x y) (Ev.i (fun q => ?_) (fun q => ?_)))))))
        · refine Ev.t (by omega) ?_
          have := ih a (y :: b) (c ++ [x]) (i + 1) j (by simp <;> omega) da' db (by omega) hj (by simp <;> omega)
          rw [mgK_cc, if_neg (fun r => by have := G.2 r; omega)]
          simpa using this
        · refine Ev.t (by omega) ?_
          have := ih (x :: a) b (c ++ [y]) i (j + 1) (by simp <;> omega) da db' hi (by omega) (by simp <;> omega)
          rw [mgK_cc, if_pos (G.1 (by omega))]
          simpa using this
theorem spec_MergeSorted_ev (a b : List S72) (ha : a.length ≤ 1048576000) (hb : b.length ≤ 1048576000) (wa : ∀ x ∈ a, wK x) (wb : ∀ x ∈ b, wK x) : Ev (fun k => spec_MergeSorted.f k a b) (mgK a b) :=
  Ev.u (fun k => by rw [spec_MergeSorted.f]; rfl) (spec_MergeSorted_l0 a b ha hb wa wb _ a b [] 0 0 (Nat.le_refl _) rfl rfl (by omega) (by omega) (by simp <;> omega))

theorem cmpR_lt {x y : S72} (hx : wK x) (hy : wK y) : cmpR x y < 0 ↔ rkey x < rkey y := by
  obtain ⟨⟨a1, a2⟩, ⟨b1, b2⟩, c1, c2⟩ := hx
  obtain ⟨⟨d1, d2⟩, ⟨e1, e2⟩, f1, f2⟩ := hy
  unfold cmpR rkey
  generalize x.f0 = p at *; generalize x.f1 = q at *; generalize x.f2 = r at *; generalize y.f0 = u at *; generalize y.f1 = v at *; generalize y.f2 = w at *
  by_cases k1 : p < u
  · rw [if_pos k1]; omega
  rw [if_neg k1]
  by_cases k2 : p > u
  · rw [if_pos k2]; omega
  rw [if_neg k2]
  by_cases k3 : q < v
  · rw [if_pos k3]; omega
  rw [if_neg k3]
  by_cases k4 : q > v
  · rw [if_pos k4]; omega
  rw [if_neg k4]
  by_cases k5 : r < w
  · rw [if_pos k5]; omega
  rw [if_neg k5]
  by_cases k6 : r > w
  · rw [if_pos k6]; omega
  rw [if_neg k6]; omega
theorem blw_nil (x : S72) : blw x [] = false := rfl
theorem blw_last (x y : S72) (l : List S72) : blw x (l ++ [y]) = decide (rkey x < rkey y) := by simp [blw]
theorem last_cases (l : List S72) : l = [] ∨ ∃ m y, l = m ++ [y] := by
  rcases List.eq_nil_or_concat l with h | ⟨m, y, h⟩
  · exact Or.inl h
  · exact Or.inr ⟨m, y, by simpa using h⟩
theorem rd_last (m : List S72) (y : S72) (hm : m.length ≤ 1099511627776) : rd_T72 (m ++ [y]) (wrap64 (((m ++ [y]).length : Int) - 1)) = y := by
  have e : wrap64 (((m ++ [y]).length : Int) - 1) = ((m.length : Nat) : Int) := by rw [List.length_append, List.length_singleton, w64 (by omega) (by omega)]; omega
  rw [e, rdR]; simp
theorem impl_below_eq (x : S72) (l : List S72) (hl : l.length ≤ 1099511627776) (wx : wK x) (hw : ∀ y ∈ l, wK y) : impl_below.f x.f0 x.f1 x.f2 l = some (blw x l) := by
  rcases last_cases l with h | ⟨m, y, h⟩
  · subst h; rfl
  · subst h
    have hm : m.length ≤ 1099511627776 := by rw [List.length_append] at hl; omega
    have e : wrap64 (((m ++ [y]).length : Int) - 1) = (m.length : Int) := by rw [List.length_append, List.length_singleton, w64 (by omega) (by omega)]; omega
    unfold impl_below.f
    rw [if_pos (by simp <;> omega), rd_last m y hm, e, if_pos (by omega), if_pos (by simp <;> omega)]
    obtain ⟨v, ev, h, -⟩ := impl_CompareRows_lt wx (hw y (by simp))
    rw [ob ev, blw_last]
    exact congrArg some (decide_eq_decide.2 h)
abbrev vRd (s : S31) : Bool := decide (s.f6 = 0) && (decide (s.f7 = 0) && ((!decide (s.f4.length = 0) || decide (s.f3.length = 0)) && (decide (tCost s.f2 + tCost s.f3 ≤ 60) && eqB (flR s.f5 ++ s.f4 ++ s.f2 ++ s.f3) (s.f0.take s.f1.toNat))))
abbrev vMg (s : S31) : Bool := decide (2 ≤ s.f5.length) && (inB s.f6 0 (rd_T57 s.f5 0).f0.length && (inB s.f7 0 (rd_T57 s.f5 1).f0.length && (eqRows s.f4 (mgK ((rd_T57 s.f5 0).f0.take s.f6.toNat) ((rd_T57 s.f5 1).f0.take s.f7.toNat)) && eqRows s.f4 ((mgK (rd_T57 s.f5 0).f0 (rd_T57 s.f5 1).f0).take (s.f6 + s.f7).toNat))))
abbrev vEm (s : S31) : Bool := decide (s.f5.length = 1) && (inB s.f6 0 ((s.f0.length : Int) - 1) && (decide (s.f7 = 0) && decide (s.f4.length = 0)))
abbrev vDn (s : S31) : Bool := decide (s.f5.length ≤ 1) && (decide (s.f6 = s.f0.length) && (decide (s.f7 = 0) && decide (s.f4.length = 0)))
abbrev vTl (s : S31) : Bool := if s.f8 = 1 then vRd s else (decide (s.f1 = s.f0.length) && (decide (s.f2.length = 0) && (decide (s.f3.length = 0) && (eqB (flR s.f5) s.f0 && (if s.f8 = 2 then vMg s else if s.f8 = 3 then vEm s else if s.f8 = 4 then vDn s else false)))))
def vS (s : S31) : Bool := vRows s.f0 && (inB s.f1 0 s.f0.length && (s.f5.all vRun && (!decide (s.f9 < 0) && (soF s.f4 && ((s.f2.all fun x => !blw x s.f4) && vTl s)))))
/-- What a sorter's lists are bound to. -/
structure WS (s : S31) : Prop where
  i : s.f0.length ≤ 33554432 ∧ ∀ x ∈ s.f0, wK x
  h : s.f2.length ≤ 33554432 ∧ ∀ x ∈ s.f2, wK x
  d : s.f3.length ≤ 33554432 ∧ ∀ x ∈ s.f3, wK x
  o : s.f4.length ≤ 33554432 ∧ ∀ x ∈ s.f4, wK x
  r : s.f5.length ≤ 33554432 ∧ ∀ r ∈ s.f5, r.f0.length ≤ 33554432 ∧ ∀ x ∈ r.f0, wK x
  t : (flR s.f5).length ≤ 33554432
theorem flR_mem : ∀ {l : List S57} {x : S72}, x ∈ flR l → ∃ r ∈ l, x ∈ r.f0
  | [], _, h => by simp [flR] at h
  | r :: l, x, h => by
    rcases List.mem_append.1 h with h | h
    · exact ⟨r, List.mem_cons_self .., h⟩
    · obtain ⟨q, hq, hx⟩ := flR_mem h; exact ⟨q, List.mem_cons_of_mem _ hq, hx⟩
theorem WS.fl {s : S31} (W : WS s) : ∀ x ∈ flR s.f5, wK x := by
  intro x hx
  obtain ⟨r, hr, h⟩ := flR_mem hx
  exact (W.r.2 r hr).2 x h
theorem WS.ab {s : S31} (W : WS s) (i : Nat) (hi : i < s.f5.length) : (rd_T57 s.f5 (i : Int)).f0.length ≤ 33554432 ∧ ∀ x ∈ (rd_T57 s.f5 (i : Int)).f0, wK x := by
  rw [rdRun]
  have : s.f5.getD i z57 ∈ s.f5 := by rw [List.getD_eq_getElem?_getD, List.getElem?_eq_getElem hi]; exact List.getElem_mem hi
  exact W.r.2 _ this
theorem mem_take {l : List S72} {n : Nat} {x : S72} (h : x ∈ l.take n) : x ∈ l := List.mem_of_mem_take h
theorem impl_Sorter_mem (s : S31) (W : WS s) (h : s.f8 = 1) : Ev (fun k => impl_SorterMemory.f k s.f0 s.f1 s.f2 s.f3 s.f4 s.f5 s.f6 s.f7 s.f8 s.f9) (tCost s.f2 + tCost s.f3) := by
  have a := tCost_b s.f2; have b := tCost_b s.f3; have c := W.h.1; have d := W.d.1
  refine Ev.u (fun k => by rw [impl_SorterMemory.f]) (Ev.t h (Ev.b (impl_TotalCost_ev s.f2 (by omega)) (Ev.b (impl_TotalCost_ev s.f3 (by omega)) (Ev.c ?_))))
  rw [w64 (by omega) (by omega)]
theorem spec_Sorter_mem (s : S31) (W : WS s) (h : s.f8 = 1) : Ev (fun k => spec_SorterMemory.f k s.f0 s.f1 s.f2 s.f3 s.f4 s.f5 s.f6 s.f7 s.f8 s.f9) (tCost s.f2 + tCost s.f3) := by
  have a := tCost_b s.f2; have b := tCost_b s.f3; have c := W.h.1; have d := W.d.1
  refine Ev.u (fun k => by rw [spec_SorterMemory.f]) (Ev.t h (Ev.b (spec_TotalCost_ev s.f2 (by omega)) (Ev.b (spec_TotalCost_ev s.f3 (by omega)) (Ev.c ?_))))
  rw [w64 (by omega) (by omega)]
theorem wK_all {s : S31} (W : WS s) : ∀ x ∈ flR s.f5 ++ s.f4 ++ s.f2 ++ s.f3, wK x := by
  intro x hx
  simp only [List.mem_append] at hx
  rcases hx with ((hx | hx) | hx) | hx
  · exact W.fl x hx
  · exact W.o.2 x hx
  · exact W.h.2 x hx
  · exact W.d.2 x hx
theorem impl_vTl (s : S31) (W : WS s) (hv : vRows s.f0 = true) (hp : inB s.f1 0 s.f0.length = true) : Ev (fun k => impl_IsValidSorter.l0 k (s.f2.length : Int) (s.f2.length : Int) s.f1 s.f6 s.f7 s.f8 s.f9 s.f2 s.f0 s.f3 s.f4 s.f5) (vTl s) := by
  have h24 := vRows_len hv
  have hp' := of_decide_eq_true hp
  have hb : Ev (fun k => impl_together.f k ([flR s.f5, s.f4, s.f2, s.f3] : List (List S72))) (flR s.f5 ++ s.f4 ++ s.f2 ++ s.f3) := by
    have a1 := W.t; have a2 := W.o.1; have a3 := W.h.1; have a4 := W.d.1
    exact (impl_together_ev [flR s.f5, s.f4, s.f2, s.f3] (by simp) (by simp <;> omega)).r (by simp)
  have hm := impl_Sorter_mem s W
  have he := impl_EqualBags_ev (flR s.f5 ++ s.f4 ++ s.f2 ++ s.f3) (s.f0.take s.f1.toNat) (by rw [List.length_take]; omega) (wK_all W) (fun x hx => W.i.2 x (mem_take hx))
  refine Ev.s (fun k => by rw [impl_IsValidSorter.l0]) (Ev.e (by omega) (Ev.b (impl_FlattenRuns_ev s.f5 (by have := W.r.1; omega) (by have := W.t; omega)) ?_))
  refine Ev.i (fun c8 => ?_) (fun c8 => ?_)
  · have tl : vTl s = vRd s := if_pos c8
    rw [tl]
    refine Ev.i (fun c6 => ?_) (fun c6 => Ev.p.r (by simp [vRd, c6]))
    refine Ev.i (fun c7 => ?_) (fun c7 => Ev.p.r (by simp [vRd, c7]))
    refine Ev.i (fun c4 => ?_) (fun c4 => Ev.i (fun c3 => ?_) (fun c3 => Ev.p.r ?_))
    · have c4' : ¬ s.f4.length = 0 := by omega
      refine Ev.b (hm c8) (Ev.i (fun c => ?_) (fun c => Ev.p.r (by simp [vRd, c])))
      refine Ev.t (by omega) (Ev.t (by omega) (Ev.b hb (Ev.b he (Ev.p.r ?_))))
      simp only [vRd, c6, c7, c4', c, decide_true, decide_false, Bool.true_and, Bool.not_false, Bool.true_or]
    · have c3' : s.f3.length = 0 := by omega
      refine Ev.b (hm c8) (Ev.i (fun c => ?_) (fun c => Ev.p.r (by simp [vRd, c])))
      refine Ev.t (by omega) (Ev.t (by omega) (Ev.b hb (Ev.b he (Ev.p.r ?_))))
      simp only [vRd, c6, c7, c3', c, decide_true, decide_false, Bool.true_and, Bool.or_true]
    · have c4' : s.f4.length = 0 := by omega
      have c3' : ¬ s.f3.length = 0 := by omega
      simp only [vRd, c4', c3', decide_true, decide_false, Bool.not_true, Bool.or_false, Bool.false_and, Bool.and_false]
  · rw [show vTl s = _ from if_neg c8]
    refine Ev.i (fun c1 => ?_) (fun c1 => Ev.p.r (by rw [decide_eq_false c1, Bool.false_and]))
    rw [decide_eq_true c1, Bool.true_and]
    refine Ev.i (fun c2 => Ev.p.r (by rw [decide_eq_false (by omega), Bool.false_and])) (fun c2 => ?_)
    rw [decide_eq_true (show s.f2.length = 0 by omega), Bool.true_and]
    refine Ev.i (fun c3 => Ev.p.r (by rw [decide_eq_false (by omega), Bool.false_and])) (fun c3 => ?_)
    rw [decide_eq_true (show s.f3.length = 0 by omega), Bool.true_and]
    refine Ev.b (impl_EqualBags_ev (flR s.f5) s.f0 (by omega) W.fl W.i.2) (Ev.i (fun ce => ?_) (fun ce => Ev.p.r (by rw [eq_false_of_ne_true ce, Bool.false_and])))
    rw [ce, Bool.true_and]
    refine Ev.i (fun d2 => ?_) (fun d2 => ?_)
    · rw [if_pos d2]
      refine Ev.i (fun c5 => Ev.p.r (by rw [vMg, decide_eq_false (by omega), Bool.false_and])) (fun c5 => ?_)
      have la : (rd_T57 s.f5 0).f0.length ≤ 33554432 := (W.ab 0 (by omega)).1
      have wa : ∀ x ∈ (rd_T57 s.f5 0).f0, wK x := (W.ab 0 (by omega)).2
      have lb : (rd_T57 s.f5 1).f0.length ≤ 33554432 := (W.ab 1 (by omega)).1
      have wb : ∀ x ∈ (rd_T57 s.f5 1).f0, wK x := (W.ab 1 (by omega)).2
      have c5' : 2 ≤ s.f5.length := by omega
      rw [vMg, decide_eq_true c5', Bool.true_and]
      refine Ev.t (by omega) (Ev.t (by omega) (Ev.b (Ev.c (within_eq _ _ _)) (Ev.i (fun ca => ?_) (fun ca => Ev.p.r (by rw [eq_false_of_ne_true ca, Bool.false_and])))))
      rw [ca, Bool.true_and]
      refine Ev.b (Ev.c (within_eq _ _ _)) (Ev.i (fun cb => ?_) (fun cb => Ev.p.r (by rw [eq_false_of_ne_true cb, Bool.false_and])))
      rw [cb, Bool.true_and]
      have ca' := of_decide_eq_true ca
      have cb' := of_decide_eq_true cb
      have e : wrap64 (s.f6 + s.f7) = s.f6 + s.f7 := w64 (by omega) (by omega)
      have m1 := impl_MergeSorted_ev ((rd_T57 s.f5 0).f0.take s.f6.toNat) ((rd_T57 s.f5 1).f0.take s.f7.toNat) (by simp only [List.length_take]; omega) (fun x hx => wa x (mem_take hx)) (fun x hx => wb x (mem_take hx))
      have m2 := impl_MergeSorted_ev (rd_T57 s.f5 0).f0 (rd_T57 s.f5 1).f0 (by omega) wa wb
      have ml := mgK_len _ (rd_T57 s.f5 0).f0 (rd_T57 s.f5 1).f0 (Nat.le_refl _)
      refine Ev.t (by omega) (Ev.t (by omega) (Ev.t (by omega) (Ev.t (by omega) (Ev.b m1 (Ev.b (impl_equal_ev _ _ (by have := W.o.1; omega)) (Ev.i (fun cq => ?_) (fun cq => Ev.p.r (by rw [eq_false_of_ne_true cq, Bool.false_and]))))))))
      rw [cq, Bool.true_and, e]
      exact Ev.b m2 (Ev.t (by omega) (Ev.t (by omega) (Ev.b (impl_equal_ev _ _ (by have := W.o.1; omega)) Ev.p)))
    · rw [if_neg d2]
      refine Ev.i (fun d3 => ?_) (fun d3 => ?_)
      · rw [if_pos d3]
        refine Ev.i (fun c5 => ?_) (fun c5 => Ev.p.r (by rw [vEm, decide_eq_false (by omega), Bool.false_and]))
        rw [vEm, decide_eq_true (show s.f5.length = 1 by omega), Bool.true_and, w64 (by omega) (by omega)]
        refine Ev.b (Ev.c (within_eq _ _ _)) (Ev.i (fun ca => ?_) (fun ca => Ev.p.r (by rw [eq_false_of_ne_true ca, Bool.false_and])))
        rw [ca, Bool.true_and]
        refine Ev.i (fun c7 => Ev.p.r ?_) (fun c7 => Ev.p.r (by rw [decide_eq_false c7, Bool.false_and]))
        rw [decide_eq_true c7, Bool.true_and]; exact decide_eq_decide.2 (by omega)
      · rw [if_neg d3]
        refine Ev.i (fun d4 => ?_) (fun d4 => Ev.p.r (by rw [if_neg d4]))
        rw [if_pos d4]
        refine Ev.i (fun c5 => ?_) (fun c5 => Ev.p.r (by rw [vDn, decide_eq_false (by omega), Bool.false_and]))
        rw [vDn, decide_eq_true (show s.f5.length ≤ 1 by omega), Bool.true_and]
        refine Ev.i (fun c6 => ?_) (fun c6 => Ev.p.r (by rw [decide_eq_false c6, Bool.false_and]))
        rw [decide_eq_true c6, Bool.true_and]
        refine Ev.i (fun c7 => Ev.p.r ?_) (fun c7 => Ev.p.r (by rw [decide_eq_false c7, Bool.false_and]))
        rw [decide_eq_true c7, Bool.true_and]; exact decide_eq_decide.2 (by omega)
theorem impl_vHp (s : S31) (W : WS s) (hv : vRows s.f0 = true) (hp : inB s.f1 0 s.f0.length = true) : ∀ (t : List S72) (i : Nat), s.f2.drop i = t → i + t.length = s.f2.length → Ev (fun k => impl_IsValidSorter.l0 k (s.f2.length : Int) (i : Int) s.f1 s.f6 s.f7 s.f8 s.f9 s.f2 s.f0 s.f3 s.f4 s.f5) ((t.all fun x => !blw x s.f4) && vTl s) := by
  intro t
  induction t with
  | nil =>
    intro i hd hi
    have : i = s.f2.length := by simpa using hi
    subst this
    exact (impl_vTl s W hv hp).r (by simp)
  | cons x t ih =>
    intro i hd hi
    rw [List.length_cons] at hi
    obtain ⟨hi', hd', hx, -⟩ := drop_cons' hd
    have wx : wK x := W.h.2 x (List.mem_of_mem_drop (i := i) (by rw [hd]; exact List.mem_cons_self ..))
    have hl := W.h.1
    refine Ev.s (fun k => by rw [impl_IsValidSorter.l0]) (Ev.t (by omega) (Ev.t (by omega) (Ev.t (by omega) ?_)))
    rw [rdR, hx, w64s hi' (by omega)]
    refine Ev.b (Ev.c (impl_below_eq x s.f4 (by have := W.o.1; omega) wx W.o.2)) (Ev.i (fun c => Ev.p.r (by simp [c])) (fun c => (ih (i + 1) hd' (by omega)).r ?_))
    rw [List.all_cons, eq_false_of_ne_true c]; rfl
theorem impl_IsValidSorter_ev (s : S31) (W : WS s) : Ev (fun k => impl_IsValidSorter.f k s.f0 s.f1 s.f2 s.f3 s.f4 s.f5 s.f6 s.f7 s.f8 s.f9) (vS s) := by
  unfold vS
  refine Ev.u (fun k => by rw [impl_IsValidSorter.f]) (Ev.b (impl_AreValidRows_ev s.f0 (by have := W.i.1; omega)) ?_)
  refine Ev.i (fun hv => ?_) (fun hv => Ev.p.r (by rw [eq_false_of_ne_true hv, Bool.false_and]))
  rw [hv, Bool.true_and]
  refine Ev.b (Ev.c (within_eq _ _ _)) (Ev.i (fun hp => ?_) (fun hp => Ev.p.r (by rw [eq_false_of_ne_true hp, Bool.false_and])))
  rw [hp, Bool.true_and]
  refine Ev.b (impl_AreValidRuns_ev s.f5 (by have := W.r.1; omega) (fun r hr => ⟨by have := (W.r.2 r hr).1; omega, (W.r.2 r hr).2⟩)) (Ev.i (fun hr => ?_) (fun hr => Ev.p.r (by rw [eq_false_of_ne_true hr, Bool.false_and])))
  rw [hr, Bool.true_and]
  refine Ev.i (fun c => Ev.p.r (by rw [decide_eq_true c]; rfl)) (fun c => ?_)
  rw [decide_eq_false c, Bool.not_false, Bool.true_and]
  refine Ev.b (impl_IsSorted_ev s.f4 (by have := W.o.1; omega) W.o.2) (Ev.i (fun ho => ?_) (fun ho => Ev.p.r (by rw [eq_false_of_ne_true ho, Bool.false_and])))
  rw [ho, Bool.true_and]
  exact impl_vHp s W hv hp s.f2 0 rfl (by simp)
theorem wrap_len {n : Nat} (h : n ≤ 33554432) : wrap64 ((n : Int) - 1) = (n : Int) - 1 := w64 (by omega) (by omega)
theorem spec_vTl (s : S31) (W : WS s) (hv : vRows s.f0 = true) (hp : inB s.f1 0 s.f0.length = true) : Ev (fun k => spec_IsValidSorter.l0 k ((s.f4.length : Int) - 1) (s.f2.length : Int) s.f1 s.f6 s.f7 s.f8 s.f9 s.f0 s.f2 s.f3 s.f4 s.f5) (vTl s) := by
  have h24 := vRows_len hv
  have hp' := of_decide_eq_true hp
  have a1 := W.t; have a2 := W.o.1; have a3 := W.h.1; have a4 := W.d.1; have a5 := W.r.1
  have hm := spec_Sorter_mem s W
  have lall : (flR s.f5 ++ s.f4 ++ s.f2 ++ s.f3).length ≤ 134217728 := by simp only [List.length_append]; omega
  have he := spec_EqualBags_ev (flR s.f5 ++ s.f4 ++ s.f2 ++ s.f3) (s.f0.take s.f1.toNat) (by omega) (by rw [List.length_take]; omega) (wK_all W) (fun x hx => W.i.2 x (mem_take hx))
  have hf := spec_FlattenRuns_ev s.f5 (by omega) (by omega)
  have hq := spec_EqualBags_ev (flR s.f5) s.f0 (by omega) (by omega) W.fl W.i.2
  refine Ev.s (fun k => by rw [spec_IsValidSorter.l0]) (Ev.e (by omega) ?_)
  refine Ev.i (fun c8 => ?_) (fun c8 => ?_)
  · have tl : vTl s = vRd s := if_pos c8
    rw [tl]
    refine Ev.b hf (Ev.t (by omega) (Ev.t (by rw [List.length_append]; omega) (Ev.t (by simp only [List.length_append]; omega) ?_)))
    refine Ev.i (fun c6 => ?_) (fun c6 => Ev.p.r (by simp [vRd, c6]))
    refine Ev.i (fun c7 => ?_) (fun c7 => Ev.p.r (by simp [vRd, c7]))
    refine Ev.i (fun c3 => ?_) (fun c3 => Ev.i (fun c4 => ?_) (fun c4 => Ev.p.r ?_))
    · have c3' : s.f3.length = 0 := by omega
      refine Ev.b (hm c8) (Ev.i (fun c => ?_) (fun c => Ev.p.r (by simp [vRd, c])))
      refine Ev.t (by omega) (Ev.t (by omega) (Ev.b he (Ev.p.r ?_)))
      simp only [vRd, c6, c7, c3', c, decide_true, decide_false, Bool.true_and, Bool.or_true]
    · have c4' : ¬ s.f4.length = 0 := by omega
      refine Ev.b (hm c8) (Ev.i (fun c => ?_) (fun c => Ev.p.r (by simp [vRd, c])))
      refine Ev.t (by omega) (Ev.t (by omega) (Ev.b he (Ev.p.r ?_)))
      simp only [vRd, c6, c7, c4', c, decide_true, decide_false, Bool.true_and, Bool.not_false, Bool.true_or]
    · have c4' : s.f4.length = 0 := by omega
      have c3' : ¬ s.f3.length = 0 := by omega
      simp only [vRd, c4', c3', decide_true, decide_false, Bool.not_true, Bool.or_false, Bool.false_and, Bool.and_false]
  · rw [show vTl s = _ from if_neg c8]
    refine Ev.i (fun c1 => ?_) (fun c1 => Ev.p.r (by rw [decide_eq_false c1, Bool.false_and]))
    rw [decide_eq_true c1, Bool.true_and, w64 (by omega) (by omega)]
    refine Ev.i (fun c2 => Ev.p.r ?_) (fun c2 => ?_)
    · by_cases g : s.f2.length = 0
      · rw [decide_eq_false (show ¬ s.f3.length = 0 by omega), Bool.false_and, Bool.and_false]
      · rw [decide_eq_false g, Bool.false_and]
    rw [decide_eq_true (show s.f2.length = 0 by omega), Bool.true_and]
    rw [decide_eq_true (show s.f3.length = 0 by omega), Bool.true_and]
    refine Ev.i (fun d2 => ?_) (fun d2 => ?_)
    · rw [if_pos d2]
      refine Ev.i (fun c5 => Ev.p.r (by rw [vMg, decide_eq_false (by omega), Bool.false_and, Bool.and_false])) (fun c5 => ?_)
      have la : (rd_T57 s.f5 0).f0.length ≤ 33554432 := (W.ab 0 (by omega)).1
      have wa : ∀ x ∈ (rd_T57 s.f5 0).f0, wK x := (W.ab 0 (by omega)).2
      have lb : (rd_T57 s.f5 1).f0.length ≤ 33554432 := (W.ab 1 (by omega)).1
      have wb : ∀ x ∈ (rd_T57 s.f5 1).f0, wK x := (W.ab 1 (by omega)).2
      have c5' : 2 ≤ s.f5.length := by omega
      rw [vMg, decide_eq_true c5', Bool.true_and]
      refine Ev.t (by omega) (Ev.t (by omega) (Ev.b (Ev.c (l1In_eq _ _ _)) (Ev.i (fun ca => ?_) (fun ca => Ev.p.r (by rw [eq_false_of_ne_true ca, Bool.false_and, Bool.and_false])))))
      rw [ca, Bool.true_and]
      refine Ev.b (Ev.c (l1In_eq _ _ _)) (Ev.i (fun cb => ?_) (fun cb => Ev.p.r (by rw [eq_false_of_ne_true cb, Bool.false_and, Bool.and_false])))
      rw [cb, Bool.true_and]
      have ca' := of_decide_eq_true ca
      have cb' := of_decide_eq_true cb
      have e : wrap64 (s.f6 + s.f7) = s.f6 + s.f7 := w64 (by omega) (by omega)
      have m1 := spec_MergeSorted_ev ((rd_T57 s.f5 0).f0.take s.f6.toNat) ((rd_T57 s.f5 1).f0.take s.f7.toNat) (by rw [List.length_take]; omega) (by rw [List.length_take]; omega) (fun x hx => wa x (mem_take hx)) (fun x hx => wb x (mem_take hx))
      have m2 := spec_MergeSorted_ev (rd_T57 s.f5 0).f0 (rd_T57 s.f5 1).f0 (by omega) (by omega) wa wb
      have ml := mgK_len _ (rd_T57 s.f5 0).f0 (rd_T57 s.f5 1).f0 (Nat.le_refl _)
      have mk := mgK_len _ ((rd_T57 s.f5 0).f0.take s.f6.toNat) ((rd_T57 s.f5 1).f0.take s.f7.toNat) (Nat.le_refl _)
      simp only [List.length_take] at mk
      refine Ev.t (by omega) (Ev.t (by omega) (Ev.t (by omega) (Ev.t (by omega) (Ev.b m1 ?_))))
      rw [e]
      refine Ev.t (by omega) (Ev.b m2 (Ev.t (by omega) (Ev.b (spec_l6Rows_ev _ _ (by omega)) (Ev.i (fun cq => ?_) (fun cq => Ev.p.r (by rw [eq_false_of_ne_true cq, Bool.and_false, Bool.and_false]))))))
      rw [cq, Bool.and_true]
      refine Ev.b (spec_l6Rows_ev _ _ (by omega)) (Ev.i (fun cr => ?_) (fun cr => Ev.p.r ?_))
      · have cr' := eqRows_iff.1 cr
        rw [eqRows_iff.2 cr'.symm, Bool.and_true]
        exact Ev.b hf (Ev.b hq Ev.p)
      · have : ¬ eqRows s.f4 (mgK ((rd_T57 s.f5 0).f0.take s.f6.toNat) ((rd_T57 s.f5 1).f0.take s.f7.toNat)) = true := fun q => cr (eqRows_iff.2 (eqRows_iff.1 q).symm)
        rw [eq_false_of_ne_true this, Bool.and_false]
    · rw [if_neg d2]
      refine Ev.i (fun c5 => Ev.p.r ?_) (fun c5 => ?_)
      · by_cases d3 : s.f8 = 3
        · rw [if_pos d3, vEm, decide_eq_false (show ¬ s.f5.length = 1 by omega), Bool.false_and, Bool.and_false]
        · by_cases d4 : s.f8 = 4
          · rw [if_neg d3, if_pos d4, vDn, decide_eq_false (show ¬ s.f5.length ≤ 1 by omega), Bool.false_and, Bool.and_false]
          · rw [if_neg d3, if_neg d4, Bool.and_false]
      refine Ev.i (fun c7 => ?_) (fun c7 => Ev.p.r ?_)
      rotate_left
      · by_cases d3 : s.f8 = 3
        · rw [if_pos d3, vEm, decide_eq_false c7, Bool.false_and, Bool.and_false, Bool.and_false, Bool.and_false]
        · by_cases d4 : s.f8 = 4
          · rw [if_neg d3, if_pos d4, vDn, decide_eq_false c7, Bool.false_and, Bool.and_false, Bool.and_false, Bool.and_false]
          · rw [if_neg d3, if_neg d4, Bool.and_false]
      refine Ev.i (fun c4 => Ev.p.r ?_) (fun c4 => ?_)
      · have c4' : ¬ s.f4.length = 0 := by omega
        by_cases d3 : s.f8 = 3
        · rw [if_pos d3, vEm, decide_eq_false c4', Bool.and_false, Bool.and_false, Bool.and_false, Bool.and_false]
        · by_cases d4 : s.f8 = 4
          · rw [if_neg d3, if_pos d4, vDn, decide_eq_false c4', Bool.and_false, Bool.and_false, Bool.and_false, Bool.and_false]
          · rw [if_neg d3, if_neg d4, Bool.and_false]
      have c4' : s.f4.length = 0 := by omega
      refine Ev.b hf (Ev.b hq (Ev.i (fun ce => ?_) (fun ce => Ev.p.r (by rw [eq_false_of_ne_true ce, Bool.false_and]))))
      rw [ce, Bool.true_and]
      refine Ev.i (fun d3 => ?_) (fun d3 => ?_)
      · rw [if_pos d3, vEm]
        refine Ev.i (fun c1 => ?_) (fun c1 => Ev.p.r (by rw [decide_eq_false (by omega), Bool.false_and]))
        rw [decide_eq_true (show s.f5.length = 1 by omega), Bool.true_and, w64 (by omega) (by omega), decide_eq_true c7, decide_eq_true c4', Bool.and_true, Bool.and_true]
        exact Ev.b (Ev.c (l1In_eq _ _ _)) Ev.p
      · rw [if_neg d3]
        refine Ev.i (fun d4 => Ev.p.r ?_) (fun d4 => Ev.p.r (by rw [if_neg d4]))
        rw [if_pos d4, vDn, decide_eq_true (show s.f5.length ≤ 1 by omega), decide_eq_true c7, decide_eq_true c4', Bool.true_and, Bool.and_true, Bool.and_true]
theorem spec_vHp (s : S31) (W : WS s) (hv : vRows s.f0 = true) (hp : inB s.f1 0 s.f0.length = true) : ∀ (t : List S72) (i : Nat), s.f2.drop i = t → i + t.length = s.f2.length → Ev (fun k => spec_IsValidSorter.l0 k ((s.f4.length : Int) - 1) (i : Int) s.f1 s.f6 s.f7 s.f8 s.f9 s.f0 s.f2 s.f3 s.f4 s.f5) ((t.all fun x => !blw x s.f4) && vTl s) := by
  intro t
  induction t with
  | nil =>
    intro i hd hi
    have : i = s.f2.length := by simpa using hi
    subst this
    exact (spec_vTl s W hv hp).r (by simp)
  | cons x t ih =>
    intro i hd hi
    rw [List.length_cons] at hi
    obtain ⟨hi', hd', hx, -⟩ := drop_cons' hd
    have wx : wK x := W.h.2 x (List.mem_of_mem_drop (i := i) (by rw [hd]; exact List.mem_cons_self ..))
    have hl := W.h.1
    have ho := W.o.1
    refine Ev.s (fun k => by rw [spec_IsValidSorter.l0]) (Ev.t (by omega) ?_)
    rw [rdR, hx, w64s hi' (by omega)]
    refine Ev.i (fun c0 => ?_) (fun c0 => (ih (i + 1) hd' (by omega)).r ?_)
    · rcases last_cases s.f4 with h | ⟨m, y, h⟩
      · rw [h] at c0; simp at c0
      · have hm : m.length ≤ 1099511627776 := by rw [h, List.length_append] at ho; omega
        have er : rd_T72 s.f4 ((s.f4.length : Int) - 1) = y := by
          have := rd_last m y hm
          rw [← h, wrap_len ho] at this; exact this
        have wy : wK y := W.o.2 y (by rw [h]; simp)
        refine Ev.t (by omega) (Ev.t (by omega) (Ev.t (by omega) ?_))
        rw [er]
        refine Ev.b (spec_CompareRows_ev x y) (Ev.i (fun c => Ev.p.r ?_) (fun c => (ih (i + 1) hd' (by omega)).r ?_))
        · rw [List.all_cons, h, blw_last, decide_eq_true ((cmpR_lt wx wy).1 c)]; rfl
        · rw [List.all_cons, h, blw_last, decide_eq_false (fun q => c ((cmpR_lt wx wy).2 q))]; rfl
    · have h0 : s.f4 = [] := List.eq_nil_of_length_eq_zero (by omega)
      rw [List.all_cons, h0, blw_nil]; rfl
theorem spec_IsValidSorter_ev (s : S31) (W : WS s) : Ev (fun k => spec_IsValidSorter.f k s.f0 s.f1 s.f2 s.f3 s.f4 s.f5 s.f6 s.f7 s.f8 s.f9) (vS s) := by
  unfold vS
  refine Ev.u (fun k => by rw [spec_IsValidSorter.f]) (Ev.b (spec_AreValidRows_ev s.f0 (by have := W.i.1; omega)) ?_)
  refine Ev.i (fun hv => ?_) (fun hv => Ev.p.r (by rw [eq_false_of_ne_true hv, Bool.false_and]))
  rw [hv, Bool.true_and]
  refine Ev.b (Ev.c (l1In_eq _ _ _)) (Ev.i (fun hp => ?_) (fun hp => Ev.p.r (by rw [eq_false_of_ne_true hp, Bool.false_and])))
  rw [hp, Bool.true_and]
  refine Ev.b (spec_AreValidRuns_ev s.f5 (by have := W.r.1; omega) (fun r hr => ⟨by have := (W.r.2 r hr).1; omega, (W.r.2 r hr).2⟩)) (Ev.i (fun hr => ?_) (fun hr => Ev.p.r (by rw [eq_false_of_ne_true hr, Bool.false_and])))
  rw [hr, Bool.true_and]
  refine Ev.i (fun c => Ev.p.r (by rw [decide_eq_true c]; rfl)) (fun c => ?_)
  rw [decide_eq_false c, Bool.not_false, Bool.true_and]
  refine Ev.b (spec_IsSorted_ev s.f4 (by have := W.o.1; omega) W.o.2) (Ev.i (fun ho => ?_) (fun ho => Ev.p.r (by rw [eq_false_of_ne_true ho, Bool.false_and])))
  rw [ho, Bool.true_and, wrap_len W.o.1]
  exact spec_vHp s W hv hp s.f2 0 rfl (by simp)

theorem rdPRun (pre : List S57) (x : S57) (t : List S57) : rd_T57 (pre ++ x :: t) (pre.length : Int) = x := getP pre x z57 t
def mkRn : Int → List S57 → List S57
  | _, [] => []
  | k, t :: l => ⟨mkRow k t.f0⟩ :: mkRn (k + 3 * t.f0.length) l
def nRs (l : List S57) : Int := (l.map fun t : S57 => 3 * (t.f0.length : Int)).sum
theorem nRs_cons (t : S57) (l : List S57) : nRs (t :: l) = 3 * t.f0.length + nRs l := by simp [nRs]
theorem nRs_pos : ∀ l : List S57, 0 ≤ nRs l
  | [] => by simp [nRs]
  | t :: l => by rw [nRs_cons]; have := nRs_pos l; omega
theorem nRs_fl : ∀ l : List S57, nRs l = 3 * ((flR l).length : Int)
  | [] => by simp [nRs, flR]
  | t :: l => by rw [nRs_cons, nRs_fl l, flR, List.length_append]; omega
theorem mkRn_len : ∀ (k : Int) (l : List S57), (mkRn k l).length = l.length
  | _, [] => rfl
  | k, t :: l => by rw [mkRn, List.length_cons, List.length_cons, mkRn_len]
theorem markRunS_l0 : ∀ (s pre : List S57) (k : Int), 0 ≤ k → k + nRs s ≤ 4611686018427387904 → pre.length + s.length ≤ 4611686018427387904 → Ev (fun f => laws_markRunS.l0 f (pre ++ s) k (pre.length : Int)) (k + nRs s, pre ++ mkRn k s) := by
  intro s
  induction s with
  | nil =>
    intro pre k h0 h1 h2
    exact Ev.s (fun f => by rw [laws_markRunS.l0]) (Ev.e (by simp) (Ev.p.r (by simp [mkRn, nRs])))
  | cons x t ih =>
    intro pre k h0 h1 h2
    rw [nRs_cons] at h1
    rw [List.length_cons] at h2
    have hp := nRs_pos t
    refine Ev.s (fun f => by rw [laws_markRunS.l0]) (Ev.t (by simp; omega) (Ev.t (by omega) ?_))
    simp only [rdPRun]
    refine Ev.b (markRowS_ev x.f0 k (by omega) (by omega)) (Ev.b (Ev.c (congrArg some (setP pre _ _ t))) ?_)
    rw [show wrap64 ((pre.length : Int) + 1) = ((pre.length + 1 : Nat) : Int) by rw [w64 (by omega) (by omega)]; rfl]
    have h := ih (pre ++ [(⟨mkRow k x.f0⟩ : S57)]) (k + 3 * x.f0.length) (by omega) (by omega) (by simp; omega)
    simp only [List.append_assoc, List.singleton_append, List.length_append, List.length_singleton] at h
    exact h.r (Prod.ext (by rw [nRs_cons]; show _ = _; simp only []; omega) rfl)
theorem markRunS_ev (l : List S57) (k : Int) (h0 : 0 ≤ k) (h1 : k + nRs l ≤ 4611686018427387904) (h2 : l.length ≤ 1152921504606846975) : Ev (fun f => laws_markRunS.f f l k) (k + nRs l, mkRn k l) :=
  Ev.u (fun _ => rfl) (markRunS_l0 l [] k h0 h1 (by simp; omega))
theorem heldRunS_l0 (l : List S57) (hl : l.length ≤ 4611686018427387904) : ∀ (s : List S57) (i : Nat) (k : Int), l.drop i = mkRn k s → 0 ≤ k → k + nRs s ≤ 4611686018427387904 → Ev (fun f => laws_heldRunS.l0 f k (i : Int) l) (k + nRs s) := by
  intro s
  induction s with
  | nil =>
    intro i k hd h0 h1
    have := drop_nil' hd
    exact Ev.s (fun f => by rw [laws_heldRunS.l0]) (Ev.e (by omega) (Ev.p.r (by simp [nRs])))
  | cons x t ih =>
    intro i k hd h0 h1
    rw [nRs_cons] at h1
    rw [mkRn] at hd
    have hp := nRs_pos t
    obtain ⟨hi, hd', hx, -⟩ := drop_cons' hd
    refine Ev.s (fun f => by rw [laws_heldRunS.l0]) (Ev.t (by omega) (Ev.t (by omega) ?_))
    rw [rdRun, hx, w64s hi (by omega)]
    refine Ev.b (heldRowS_ev x.f0 k (by omega) (by omega)) (Ev.e (by omega) ?_)
    exact (ih (i + 1) (k + 3 * x.f0.length) hd' (by omega) (by omega)).r (by rw [nRs_cons]; omega)
theorem heldRunS_ev (l : List S57) (k : Int) (h0 : 0 ≤ k) (h1 : k + nRs l ≤ 4611686018427387904) (h2 : l.length ≤ 1152921504606846975) : Ev (fun f => laws_heldRunS.f f (mkRn k l) k) (k + nRs l) :=
  Ev.u (fun _ => rfl) (heldRunS_l0 _ (by rw [mkRn_len]; omega) l 0 k rfl h0 h1)
theorem eqRun_ev (t : S57) (h : t.f0.length ≤ 4611686018427387904) : Ev (fun k => laws_eqRun.f k t.f0 t.f0) true :=
  Ev.u (fun _ => rfl) (Ev.b (eqRowS_ev _ h) (Ev.t rfl Ev.p))
theorem eqRunS_l0 (l : List S57) (hl : l.length ≤ 4611686018427387904) (ht : ∀ t ∈ l, t.f0.length ≤ 4611686018427387904) : ∀ (s : List S57) (i : Nat), l.drop i = s → Ev (fun f => laws_eqRunS.l0 f (i : Int) l l) true := by
  intro s
  induction s with
  | nil =>
    intro i hd
    have := drop_nil' hd
    exact Ev.s (fun f => by rw [laws_eqRunS.l0]) (Ev.e (by omega) (Ev.p.r (by rfl)))
  | cons x t ih =>
    intro i hd
    obtain ⟨hi, hd', hx, -⟩ := drop_cons' hd
    have hm : x ∈ l := List.mem_of_mem_drop (by rw [hd]; exact List.mem_cons_self ..)
    refine Ev.s (fun f => by rw [laws_eqRunS.l0]) (Ev.t (by omega) (Ev.t (by omega) (Ev.t (by omega) ?_)))
    rw [rdRun, hx, w64s hi (by omega)]
    exact Ev.b (eqRun_ev x (ht x hm)) (Ev.t rfl (ih (i + 1) hd'))
theorem eqRunS_ev (l : List S57) (hl : l.length ≤ 4611686018427387904) (ht : ∀ t ∈ l, t.f0.length ≤ 4611686018427387904) : Ev (fun f => laws_eqRunS.f f l l) true :=
  Ev.u (fun _ => rfl) (Ev.t rfl (eqRunS_l0 l hl ht l 0 rfl))
theorem eqSorter_ev (s : S31) (W : WS s) : Ev (fun k => laws_eqSorter.f k s.f0 s.f1 s.f2 s.f3 s.f4 s.f5 s.f6 s.f7 s.f8 s.f9 s.f0 s.f1 s.f2 s.f3 s.f4 s.f5 s.f6 s.f7 s.f8 s.f9) true := by
  have a := W.i.1; have b := W.h.1; have c := W.d.1; have d := W.o.1; have e := W.r.1
  refine Ev.u (fun _ => rfl) (Ev.b (eqRowS_ev _ (by omega)) (Ev.t rfl (Ev.t rfl (Ev.b (eqRowS_ev _ (by omega)) (Ev.t rfl (Ev.b (eqRowS_ev _ (by omega)) (Ev.t rfl (Ev.b (eqRowS_ev _ (by omega)) (Ev.t rfl (Ev.b (eqRunS_ev _ (by omega) ?_) (Ev.t rfl (Ev.t rfl (Ev.t rfl (Ev.t rfl (Ev.t rfl Ev.p)))))))))))))))
  intro t ht
  have := (W.r.2 t ht).1; omega

def fRn (l : List S57) : List UInt8 := jnL 124 (l.map fun r => fRs r.f0)
theorem tot_fRn : ∀ l : List S57, tot (l.map fun r : S57 => fRs r.f0) ≤ 1609 * l.length
  | [] => by simp [tot]
  | x :: l => by rw [List.map_cons, tot_cons, List.length_cons]; have := fRs_len x.f0; have := tot_fRn l; omega
theorem fRn_len (l : List S57) : (fRn l).length ≤ 1609 * l.length := by
  have a := tot_fRn l
  have b := jnL_len 124 (l.map fun r : S57 => fRs r.f0)
  unfold fRn; omega
theorem impl_FormatRuns_ev (l : List S57) (hl : l.length ≤ 1000) (hr : ∀ r ∈ l, r.f0.length ≤ 33554432) : Ev (fun k => impl_FormatRuns.f k l) (toB (fRn l)) := by
  have L : ∀ (s : List S57) (i : Nat) (A : List (List UInt8)), l.drop i = s → A.length ≤ i → i ≤ l.length → tot A ≤ 1609 * i → Ev (fun k => impl_FormatRuns.l0 k (A.map toB) (l.length : Int) (i : Int) l) (toB (jnL 124 (A ++ s.map fun r : S57 => fRs r.f0))) := by
    intro s
    induction s with
    | nil =>
      intro i A hd hA hi ht
      have := drop_nil' hd
      refine Ev.s (fun k => by rw [impl_FormatRuns.l0]) ?_
      exact Ev.e (by omega) (Ev.b (impl_joined_ev 124 A (by omega) (by omega)) (Ev.p.r (by simp)))
    | cons x t ih =>
      intro i A hd hA hi ht
      obtain ⟨hi', hd', hx, -⟩ := drop_cons' hd
      have hf := fRs_len x.f0
      have hm := hr x (List.mem_of_mem_drop (by rw [hd]; exact List.mem_cons_self ..))
      have h := ih (i + 1) (A ++ [fRs x.f0]) hd' (by simp; omega) (by omega) (by rw [tot_app, tot_cons, show tot [] = 0 from rfl]; omega)
      refine Ev.s (fun k => by rw [impl_FormatRuns.l0]) (Ev.t (by omega) (Ev.t (by omega) (Ev.t (by omega) ?_)))
      rw [rdRun, hx, w64s hi' (by omega)]
      refine Ev.b (impl_FormatRows_ev x.f0 (by omega)) (Ev.t (by rw [List.length_map]; omega) ?_)
      rw [List.map_append, List.append_assoc] at h
      exact h
  exact Ev.u (fun _ => rfl) (L l 0 [] rfl (by simp) (by omega) (by simp [tot]))
theorem spec_FormatRuns_ev (l : List S57) (hl : l.length ≤ 1000) (hr : ∀ r ∈ l, r.f0.length ≤ 33554432) : Ev (fun k => spec_FormatRuns.f k l) (toB (fRn l)) := by
  refine Ev.u (fun k => by rw [spec_FormatRuns.f]) ?_
  have J : ∀ (x : S57) (i : Nat) (acc : List UInt8) (r : ByteArray), i < l.length → (∀ d, l.getD i d = x) → x.f0.length ≤ 33554432 → acc.length ≤ 10000000 → Ev (fun k => spec_FormatRuns.l0 k (toB (acc ++ fRs x.f0)) ((i + 1 : Nat) : Int) l) r → Ev (fun k => spec_FormatRuns.j0 k (toB acc) (i : Int) l) r := by
    intro x i acc r hi hx hm ha h
    have hf := fRs_len x.f0
    refine Ev.s (fun k => by rw [spec_FormatRuns.j0]) (Ev.t (by omega) (Ev.t (by omega) ?_))
    rw [rdRun, hx, w64s hi (by omega)]
    refine Ev.b (spec_FormatRows_ev x.f0 (by omega)) ?_
    rw [toB_app, toB_sz, toB_sz]
    exact Ev.t (by omega) h
  have L : ∀ (s : List S57) (i : Nat) (acc : List UInt8), l.drop i = s → 0 < i → acc.length + 1609 * s.length ≤ 9000000 → Ev (fun k => spec_FormatRuns.l0 k (toB acc) (i : Int) l) (toB (acc ++ (s.map fun r : S57 => fRs r.f0).flatMap fun y => 124 :: y)) := by
    intro s
    induction s with
    | nil =>
      intro i acc hd h0 ha
      have := drop_nil' hd
      exact Ev.s (fun k => by rw [spec_FormatRuns.l0]) (Ev.e (by omega) (Ev.p.r (by simp)))
    | cons x t ih =>
      intro i acc hd h0 ha
      rw [List.length_cons] at ha
      obtain ⟨hi', hd', hx, -⟩ := drop_cons' hd
      have hf := fRs_len x.f0
      have hm := hr x (List.mem_of_mem_drop (by rw [hd]; exact List.mem_cons_self ..))
      refine Ev.s (fun k => by rw [spec_FormatRuns.l0]) ?_
      refine Ev.t (by omega) (Ev.t (by omega) (Ev.t (by show acc.length + 1 ≤ _; omega) ?_))
      rw [show toB acc ++ (⟨#[124]⟩ : ByteArray) = toB (acc ++ [124]) from toB_app acc [124]]
      refine J x i (acc ++ [124]) _ hi' hx hm (by simp; omega) ((ih (i + 1) _ hd' (by omega) (by simp; omega)).r ?_)
      simp
  cases l with
  | nil => exact Ev.s (fun k => by rw [spec_FormatRuns.l0]) (Ev.e (by simp) (Ev.p.r (by rfl)))
  | cons x t =>
    have hf := fRs_len x.f0
    have hm := hr x (List.mem_cons_self ..)
    rw [List.length_cons] at hl
    refine Ev.s (fun k => by rw [spec_FormatRuns.l0]) ?_
    refine Ev.t (by simp) (Ev.e (by omega) ?_)
    exact J x 0 [] _ (by simp) (fun _ => rfl) hm (by simp) (L t 1 (fRs x.f0) rfl (by omega) (by omega))
theorem vAll_iff {l : List S72} : vAll l = true ↔ ∀ x ∈ l, vR x = true := by unfold vAll vR; rw [List.all_eq_true]
theorem vRows_all {l : List S72} : vRows l = true ↔ (∀ x ∈ l, vR x = true) ∧ l.length ≤ 24 := by
  unfold vRows; rw [Bool.and_eq_true, vAll_iff, decide_eq_true_iff]
theorem eqB_perm {a b : List S72} (h : eqB a b = true) : a.Perm b := by
  have e := eqRows_iff.1 h
  exact ((srtK_ok a).2.symm.trans (by rw [e])).trans (srtK_ok b).2
theorem mgK_mem : ∀ (n : Nat) (a b : List S72), a.length + b.length ≤ n → ∀ x ∈ mgK a b, x ∈ a ∨ x ∈ b := by
  intro n
  induction n with
  | zero =>
    intro a b h x hx
    have h1 : a = [] := List.eq_nil_of_length_eq_zero (by omega)
    have h2 : b = [] := List.eq_nil_of_length_eq_zero (by omega)
    subst h1 h2
    simp [mgK] at hx
  | succ n ih =>
    intro a b h x hx
    cases a with
    | nil => exact Or.inr hx
    | cons y a =>
      cases b with
      | nil => rw [mgK_nil] at hx; exact Or.inl hx
      | cons z b =>
        simp only [List.length_cons] at h
        rw [mgK_cc] at hx
        split at hx
        · rcases List.mem_cons.1 hx with h' | h'
          · exact Or.inr (by rw [h']; exact List.mem_cons_self ..)
          · rcases ih (y :: a) b (by simp; omega) x h' with q | q
            · exact Or.inl q
            · exact Or.inr (List.mem_cons_of_mem _ q)
        · rcases List.mem_cons.1 hx with h' | h'
          · exact Or.inl (by rw [h']; exact List.mem_cons_self ..)
          · rcases ih a (z :: b) (by simp; omega) x h' with q | q
            · exact Or.inl (List.mem_cons_of_mem _ q)
            · exact Or.inr q
/-- What a valid sorter is made of. -/
structure VF (s : S31) : Prop where
  vi : vRows s.f0 = true
  vh : vRows s.f2 = true
  vd : vRows s.f3 = true
  vo : vRows s.f4 = true
  vr : ∀ r ∈ s.f5, vRows r.f0 = true ∧ r.f0 ≠ []
  rn : s.f5.length ≤ 24
  pos : 0 ≤ s.f1 ∧ s.f1 ≤ 24
  lp : 0 ≤ s.f6 ∧ s.f6 ≤ 24
  rp : 0 ≤ s.f7 ∧ s.f7 ≤ 24
  ph : 1 ≤ s.f8 ∧ s.f8 ≤ 4
  wr : 0 ≤ s.f9
theorem flR_rn : ∀ l : List S57, (∀ r ∈ l, r.f0 ≠ []) → l.length ≤ (flR l).length
  | [], _ => by simp
  | r :: l, h => by
    have h1 := h r (List.mem_cons_self ..)
    have h2 := flR_rn l (fun q hq => h q (List.mem_cons_of_mem _ hq))
    have h3 : r.f0.length ≠ 0 := fun e => h1 (List.eq_nil_of_length_eq_zero e)
    rw [flR, List.length_append, List.length_cons]; omega
theorem vRun_iff {r : S57} (h : vRun r = true) : vRows r.f0 = true ∧ r.f0 ≠ [] := by
  unfold vRun at h
  rw [Bool.and_eq_true, Bool.and_eq_true] at h
  refine ⟨h.2, fun e => ?_⟩
  have := h.1.1
  rw [e] at this
  simp at this
theorem vS_VF {s : S31} (h : vS s = true) : VF s := by
  unfold vS at h
  simp only [Bool.and_eq_true] at h
  obtain ⟨hv, hp, hr, hw, ho, hh, ht⟩ := h
  have h24 := vRows_len hv
  have hv' := (vRows_all.1 hv).1
  have hp' := of_decide_eq_true hp
  have hw' : ¬ s.f9 < 0 := by simpa using hw
  have hr' : ∀ r ∈ s.f5, vRows r.f0 = true ∧ r.f0 ≠ [] := fun r q => vRun_iff (List.all_eq_true.1 hr r q)
  have hrn := flR_rn s.f5 (fun r q => (hr' r q).2)
  unfold vTl at ht
  by_cases c8 : s.f8 = 1
  · rw [if_pos c8] at ht
    simp only [vRd, Bool.and_eq_true] at ht
    obtain ⟨t6, t7, -, -, te⟩ := ht
    have t6' := of_decide_eq_true t6
    have t7' := of_decide_eq_true t7
    have pm := eqB_perm te
    have pl := pm.length_eq
    simp only [List.length_append, List.length_take] at pl
    have pv : ∀ x ∈ flR s.f5 ++ s.f4 ++ s.f2 ++ s.f3, vR x = true := fun x hx => hv' x (mem_take (pm.subset hx))
    simp only [List.mem_append] at pv
    exact ⟨hv, vRows_all.2 ⟨fun x hx => pv x (.inl (.inr hx)), by omega⟩, vRows_all.2 ⟨fun x hx => pv x (.inr hx), by omega⟩, vRows_all.2 ⟨fun x hx => pv x (.inl (.inl (.inr hx))), by omega⟩, hr', by omega, by omega, by omega, by omega, by omega, by omega⟩
  · rw [if_neg c8] at ht
    simp only [Bool.and_eq_true] at ht
    obtain ⟨t1, t2, t3, te, tz⟩ := ht
    have e2 : s.f2 = [] := List.eq_nil_of_length_eq_zero (of_decide_eq_true t2)
    have e3 : s.f3 = [] := List.eq_nil_of_length_eq_zero (of_decide_eq_true t3)
    have pm := eqB_perm te
    have pl := pm.length_eq
    have nn : vRows [] = true := rfl
    by_cases c2 : s.f8 = 2
    · rw [if_pos c2] at tz
      simp only [vMg, Bool.and_eq_true] at tz
      obtain ⟨q1, q2, q3, -, q5⟩ := tz
      have q1' := of_decide_eq_true q1
      have q2' := of_decide_eq_true q2
      have q3' := of_decide_eq_true q3
      have q5' := eqRows_iff.1 q5
      have hab : ∃ a b t, s.f5 = a :: b :: t := by
        rcases h5 : s.f5 with _ | ⟨a, _ | ⟨b, t⟩⟩
        · rw [h5] at q1'; simp at q1'
        · rw [h5] at q1'; simp at q1'
        · exact ⟨a, b, t, rfl⟩
      obtain ⟨a, b, t, h5⟩ := hab
      have ea : rd_T57 s.f5 0 = a := by rw [h5]; rfl
      have eb : rd_T57 s.f5 1 = b := by rw [h5]; rfl
      rw [ea] at q2' q5'
      rw [eb] at q3' q5'
      have va := hr' a (by rw [h5]; exact List.mem_cons_self ..)
      have vb := hr' b (by rw [h5]; exact List.mem_cons_of_mem _ (List.mem_cons_self ..))
      have l1 := vRows_len va.1
      have l2 := vRows_len vb.1
      have lf : a.f0.length + b.f0.length ≤ (flR s.f5).length := by rw [h5, flR, flR, List.length_append, List.length_append]; omega
      have lm := mgK_len _ a.f0 b.f0 (Nat.le_refl _)
      have mm := mgK_mem _ a.f0 b.f0 (Nat.le_refl _)
      refine ⟨hv, by rw [e2]; exact nn, by rw [e3]; exact nn, ?_, hr', by omega, by omega, by omega, by omega, by omega, by omega⟩
      rw [q5']
      refine vRows_all.2 ⟨fun x hx => ?_, by rw [List.length_take]; omega⟩
      rcases mm x (mem_take hx) with h | h
      · exact (vRows_all.1 va.1).1 x h
      · exact (vRows_all.1 vb.1).1 x h
    · rw [if_neg c2] at tz
      by_cases c3 : s.f8 = 3
      · rw [if_pos c3] at tz
        simp only [vEm, Bool.and_eq_true] at tz
        obtain ⟨q1, q2, q3, q4⟩ := tz
        have q2' := of_decide_eq_true q2
        have q3' := of_decide_eq_true q3
        have e4 : s.f4 = [] := List.eq_nil_of_length_eq_zero (of_decide_eq_true q4)
        exact ⟨hv, by rw [e2]; exact nn, by rw [e3]; exact nn, by rw [e4]; exact nn, hr', by omega, by omega, by omega, by omega, by omega, by omega⟩
      · rw [if_neg c3] at tz
        by_cases c4 : s.f8 = 4
        · rw [if_pos c4] at tz
          simp only [vDn, Bool.and_eq_true] at tz
          obtain ⟨q1, q2, q3, q4⟩ := tz
          have q2' := of_decide_eq_true q2
          have q3' := of_decide_eq_true q3
          have e4 : s.f4 = [] := List.eq_nil_of_length_eq_zero (of_decide_eq_true q4)
          exact ⟨hv, by rw [e2]; exact nn, by rw [e3]; exact nn, by rw [e4]; exact nn, hr', by omega, by omega, by omega, by omega, by omega, by omega⟩
        · rw [if_neg c4] at tz; cases tz
def sP (s : S31) : List (List UInt8) := [fRs s.f0, fI s.f1, fRs s.f2, fRs s.f3, fRs s.f4, fRn s.f5, fI s.f6, fI s.f7, fI s.f8, fI s.f9]
def fS (s : S31) : List UInt8 := if vS s = true then jnL 47 (sP s) else []
theorem sP_len {s : S31} (V : VF s) (h9 : s.f9 ≤ 9223372036854775807) : (fRs s.f0).length ≤ 1608 ∧ (fI s.f1).length ≤ 21 ∧ (fRs s.f2).length ≤ 1608 ∧ (fRs s.f3).length ≤ 1608 ∧ (fRs s.f4).length ≤ 1608 ∧ (fRn s.f5).length ≤ 40000 ∧ (fI s.f6).length ≤ 21 ∧ (fI s.f7).length ≤ 21 ∧ (fI s.f8).length ≤ 21 ∧ (fI s.f9).length ≤ 21 := by
  have a := V.pos; have b := V.lp; have c := V.rp; have d := V.ph; have e := V.wr; have f := V.rn
  have g := fRn_len s.f5
  exact ⟨fRs_len _, (fI_len _ (by omega) (by omega)).1, fRs_len _, fRs_len _, fRs_len _, by omega, (fI_len _ (by omega) (by omega)).1, (fI_len _ (by omega) (by omega)).1, (fI_len _ (by omega) (by omega)).1, (fI_len _ (by omega) (by omega)).1⟩
theorem rowTexts_fRs {l : List S72} (h : vRows l = true) : jnL 32 (l.map fR) = fRs l := by unfold fRs; rw [if_pos h]
theorem sP_tot {s : S31} (V : VF s) (h9 : s.f9 ≤ 9223372036854775807) : tot (sP s) ≤ 100000 := by
  obtain ⟨a0, a1, a2, a3, a4, a5, a6, a7, a8, a9⟩ := sP_len V h9
  unfold sP
  simp only [tot_cons, show tot [] = 0 from rfl]
  omega
theorem impl_FormatSorter_ev (s : S31) (W : WS s) (h9 : s.f9 ≤ 9223372036854775807) : Ev (fun k => impl_FormatSorter.f k s.f0 s.f1 s.f2 s.f3 s.f4 s.f5 s.f6 s.f7 s.f8 s.f9) (toB (fS s)) := by
  unfold fS
  refine Ev.u (fun _ => rfl) (Ev.b (impl_IsValidSorter_ev s W) (Ev.i (fun h => ?_) (fun h => Ev.p.r ?_)))
  · have V := vS_VF h
    have a := V.pos; have b := V.lp; have c := V.rp; have d := V.ph; have e := V.wr; have f := V.rn
    have w0 := W.i.1; have w2 := W.h.1; have w3 := W.d.1; have w4 := W.o.1
    rw [if_pos h]
    refine Ev.b (impl_FormatRows_ev s.f0 (by omega)) (Ev.b (impl_FormatInt_ev s.f1 (by omega) (by omega)) (Ev.b ((impl_rowTexts_ev s.f2 (by have := vRows_len V.vh; omega)).r (congrArg toB (rowTexts_fRs V.vh))) (Ev.b ((impl_rowTexts_ev s.f3 (by have := vRows_len V.vd; omega)).r (congrArg toB (rowTexts_fRs V.vd))) (Ev.b ((impl_rowTexts_ev s.f4 (by have := vRows_len V.vo; omega)).r (congrArg toB (rowTexts_fRs V.vo))) ?_))))
    refine Ev.b (impl_FormatRuns_ev s.f5 (by omega) (fun r hr => (W.r.2 r hr).1)) (Ev.b (impl_FormatInt_ev s.f6 (by omega) (by omega)) (Ev.b (impl_FormatInt_ev s.f7 (by omega) (by omega)) (Ev.b (impl_FormatInt_ev s.f8 (by omega) (by omega)) (Ev.b (impl_FormatInt_ev s.f9 (by omega) (by omega)) ?_))))
    exact Ev.b (impl_joined_ev 47 (sP s) (by simp [sP]) (by have := sP_tot V h9; omega)) Ev.p
  · rw [if_neg h]; rfl
theorem sep47 (A : List UInt8) : toB A ++ (⟨#[47]⟩ : ByteArray) = toB (A ++ [47]) := toB_app _ _
theorem spec_FormatSorter_ev (s : S31) (W : WS s) (h9 : s.f9 ≤ 9223372036854775807) : Ev (fun k => spec_FormatSorter.f k s.f0 s.f1 s.f2 s.f3 s.f4 s.f5 s.f6 s.f7 s.f8 s.f9) (toB (fS s)) := by
  unfold fS
  refine Ev.u (fun _ => rfl) (Ev.b (spec_IsValidSorter_ev s W) (Ev.i (fun h => ?_) (fun h => Ev.p.r ?_)))
  · have V := vS_VF h
    have a := V.pos; have b := V.lp; have c := V.rp; have d := V.ph; have e := V.wr; have f := V.rn
    have w0 := W.i.1; have w2 := W.h.1; have w3 := W.d.1; have w4 := W.o.1
    rw [if_pos h]
    have e0 := spec_FormatRows_ev s.f0 (by omega)
    have e1 := spec_FormatInt_ev s.f1 (by omega) (by omega)
    have e2 := spec_FormatRows_ev s.f2 (by omega)
    have e3 := spec_FormatRows_ev s.f3 (by omega)
    have e4 := spec_FormatRows_ev s.f4 (by omega)
    have e5 := spec_FormatRuns_ev s.f5 (by omega) (fun r hr => (W.r.2 r hr).1)
    have e6 := spec_FormatInt_ev s.f6 (by omega) (by omega)
    have e7 := spec_FormatInt_ev s.f7 (by omega) (by omega)
    have e8 := spec_FormatInt_ev s.f8 (by omega) (by omega)
    have e9 := spec_FormatInt_ev s.f9 (by omega) (by omega)
    obtain ⟨a0, a1, a2, a3, a4, a5, a6, a7, a8, a9⟩ := sP_len V h9
    unfold sP
    generalize fRs s.f0 = A0 at *
    generalize fI s.f1 = A1 at *
    generalize fRs s.f2 = A2 at *
    generalize fRs s.f3 = A3 at *
    generalize fRs s.f4 = A4 at *
    generalize fRn s.f5 = A5 at *
    generalize fI s.f6 = A6 at *
    generalize fI s.f7 = A7 at *
    generalize fI s.f8 = A8 at *
    generalize fI s.f9 = A9 at *
    refine Ev.b e0 (Ev.t (by show A0.length + 1 ≤ _; omega) ?_)
    rw [sep47 A0]
    obtain ⟨B1, h1, b1⟩ : ∃ B, A0 ++ [47] = B ∧ B.length ≤ 2000 := ⟨_, rfl, by rw [List.length_append, List.length_singleton]; omega⟩
    rw [h1]
    refine Ev.b e1 (Ev.t (by show B1.length + A1.length ≤ _; omega) ?_)
    rw [toB_app B1 A1]
    refine Ev.t (by show (B1 ++ A1).length + 1 ≤ _; rw [List.length_append]; omega) ?_
    rw [sep47 (B1 ++ A1)]
    obtain ⟨B2, h2, b2⟩ : ∃ B, B1 ++ A1 ++ [47] = B ∧ B.length ≤ 4000 := ⟨_, rfl, by rw [List.length_append, List.length_append, List.length_singleton]; omega⟩
    rw [h2]
    refine Ev.b e2 (Ev.t (by show B2.length + A2.length ≤ _; omega) ?_)
    rw [toB_app B2 A2]
    refine Ev.t (by show (B2 ++ A2).length + 1 ≤ _; rw [List.length_append]; omega) ?_
    rw [sep47 (B2 ++ A2)]
    obtain ⟨B3, h3, b3⟩ : ∃ B, B2 ++ A2 ++ [47] = B ∧ B.length ≤ 6000 := ⟨_, rfl, by rw [List.length_append, List.length_append, List.length_singleton]; omega⟩
    rw [h3]
    refine Ev.b e3 (Ev.t (by show B3.length + A3.length ≤ _; omega) ?_)
    rw [toB_app B3 A3]
    refine Ev.t (by show (B3 ++ A3).length + 1 ≤ _; rw [List.length_append]; omega) ?_
    rw [sep47 (B3 ++ A3)]
    obtain ⟨B4, h4, b4⟩ : ∃ B, B3 ++ A3 ++ [47] = B ∧ B.length ≤ 8000 := ⟨_, rfl, by rw [List.length_append, List.length_append, List.length_singleton]; omega⟩
    rw [h4]
    refine Ev.b e4 (Ev.t (by show B4.length + A4.length ≤ _; omega) ?_)
    rw [toB_app B4 A4]
    refine Ev.t (by show (B4 ++ A4).length + 1 ≤ _; rw [List.length_append]; omega) ?_
    rw [sep47 (B4 ++ A4)]
    obtain ⟨B5, h5, b5⟩ : ∃ B, B4 ++ A4 ++ [47] = B ∧ B.length ≤ 10000 := ⟨_, rfl, by rw [List.length_append, List.length_append, List.length_singleton]; omega⟩
    rw [h5]
    refine Ev.b e5 (Ev.t (by show B5.length + A5.length ≤ _; omega) ?_)
    rw [toB_app B5 A5]
    refine Ev.t (by show (B5 ++ A5).length + 1 ≤ _; rw [List.length_append]; omega) ?_
    rw [sep47 (B5 ++ A5)]
    obtain ⟨B6, h6, b6⟩ : ∃ B, B5 ++ A5 ++ [47] = B ∧ B.length ≤ 60500 := ⟨_, rfl, by rw [List.length_append, List.length_append, List.length_singleton]; omega⟩
    rw [h6]
    refine Ev.b e6 (Ev.t (by show B6.length + A6.length ≤ _; omega) ?_)
    rw [toB_app B6 A6]
    refine Ev.t (by show (B6 ++ A6).length + 1 ≤ _; rw [List.length_append]; omega) ?_
    rw [sep47 (B6 ++ A6)]
    obtain ⟨B7, h7, b7⟩ : ∃ B, B6 ++ A6 ++ [47] = B ∧ B.length ≤ 60600 := ⟨_, rfl, by rw [List.length_append, List.length_append, List.length_singleton]; omega⟩
    rw [h7]
    refine Ev.b e7 (Ev.t (by show B7.length + A7.length ≤ _; omega) ?_)
    rw [toB_app B7 A7]
    refine Ev.t (by show (B7 ++ A7).length + 1 ≤ _; rw [List.length_append]; omega) ?_
    rw [sep47 (B7 ++ A7)]
    obtain ⟨B8, h8, b8⟩ : ∃ B, B7 ++ A7 ++ [47] = B ∧ B.length ≤ 60700 := ⟨_, rfl, by rw [List.length_append, List.length_append, List.length_singleton]; omega⟩
    rw [h8]
    refine Ev.b e8 (Ev.t (by show B8.length + A8.length ≤ _; omega) ?_)
    rw [toB_app B8 A8]
    refine Ev.t (by show (B8 ++ A8).length + 1 ≤ _; rw [List.length_append]; omega) ?_
    rw [sep47 (B8 ++ A8)]
    obtain ⟨B9, h9, b9⟩ : ∃ B, B8 ++ A8 ++ [47] = B ∧ B.length ≤ 60800 := ⟨_, rfl, by rw [List.length_append, List.length_append, List.length_singleton]; omega⟩
    rw [h9]
    refine Ev.b e9 (Ev.t (by show B9.length + A9.length ≤ _; omega) ?_)
    rw [toB_app B9 A9]
    refine Ev.p.r ?_
    subst h9 h8 h7 h6 h5 h4 h3 h2 h1
    simp [jnL]
  · rw [if_neg h]; rfl

def pRn (x : List UInt8) : List S57 := if x = [] then [] else (ctS 124 x).map fun y => ⟨(pRs y).1⟩
def okRn (x : List UInt8) : Bool := decide (x = []) || (ctS 124 x).all fun y => (pRs y).2
theorem impl_parseRuns_ev (s : List UInt8) (hs : s.length ≤ 1100000) : Ev (fun k => impl_parseRuns.f k (toB s)) (if okRn s = true then (pRn s, true) else ([], false)) := by
  refine Ev.u (fun k => by rw [impl_parseRuns.f]) ?_
  refine Ev.i (fun h => Ev.p.r ?_) (fun h => ?_)
  · have : s = [] := toB_inj ((toL_iff _ _).1 h)
    subst this
    rfl
  · have hn : s ≠ [] := fun e => h (by rw [e]; rfl)
    have hm := fun x => ctS_mem (c := 124) (s := s) (x := x)
    have hl := ctS_len 124 s
    have L : ∀ (t : List (List UInt8)) (i : Nat) (B : List S57), (ctS 124 s).drop i = t → B.length ≤ i → Ev (fun k => impl_parseRuns.l0 k B ((ctS 124 s).map toB) ((ctS 124 s).length : Int) (i : Int)) (if (t.all fun y => (pRs y).2) = true then (B ++ t.map (fun y => (⟨(pRs y).1⟩ : S57)), true) else ([], false)) := by
      intro t
      induction t with
      | nil =>
        intro i B hd hB
        have := drop_nil' hd
        exact Ev.s (fun k => by rw [impl_parseRuns.l0]) (Ev.e (by omega) (Ev.p.r (by simp)))
      | cons y t ih =>
        intro i B hd hB
        obtain ⟨hi, hd', hx, -⟩ := drop_cons' hd
        have zy := hm y (List.mem_of_mem_drop (by rw [hd]; exact List.mem_cons_self ..))
        refine Ev.s (fun k => by rw [impl_parseRuns.l0]) (Ev.t (by omega) (Ev.t (by omega) (Ev.t (by rw [List.length_map]; omega) ?_)))
        rw [rdS, hx, w64s hi (by omega)]
        refine Ev.b (impl_ParseRows_ev y (by omega)) (Ev.i (fun c => ?_) (fun c => Ev.p.r ?_))
        · refine Ev.t (by omega) ((ih (i + 1) (B ++ [⟨(pRs y).1⟩]) hd' (by simp; omega)).r ?_)
          rw [List.all_cons, c, Bool.true_and, List.map_cons, List.append_assoc, List.singleton_append]
        · rw [List.all_cons, eq_false_of_ne_true c, Bool.false_and, if_neg (by decide)]
    refine Ev.b (impl_cut_ev s (by omega) 124 124 rfl) ?_
    rw [List.length_map]
    refine (L (ctS 124 s) 0 [] rfl (by simp)).r ?_
    unfold okRn pRn
    rw [if_neg hn, decide_eq_false hn, Bool.false_or, List.nil_append]
def mkSo (a0 a1 a2 a3 a4 a5 a6 a7 a8 a9 : List UInt8) : S31 := ⟨(pRs a0).1, (pI a1).1, (pRs a2).1, (pRs a3).1, (pRs a4).1, pRn a5, (pI a6).1, (pI a7).1, (pI a8).1, (pI a9).1⟩
def pS (s : List UInt8) : S31 × Bool :=
  match ctS 47 s with
  | [a0, a1, a2, a3, a4, a5, a6, a7, a8, a9] => if fS (mkSo a0 a1 a2 a3 a4 a5 a6 a7 a8 a9) = s then (mkSo a0 a1 a2 a3 a4 a5 a6 a7 a8 a9, true) else (z31, false)
  | _ => (z31, false)
theorem pI_small (s : List UInt8) : small (pI s).1 := by
  by_cases h : (pI s).2 = true
  · exact (pI_some h).1
  · rw [pI_false h]; exact ⟨by decide, by decide⟩
theorem vR_wK {x : S72} (h : vR x = true) : wK x := by
  have := vR_b h
  exact ⟨⟨by omega, by omega⟩, ⟨by omega, by omega⟩, by omega, by omega⟩
theorem pRs_wK (s : List UInt8) : (pRs s).1.length ≤ 24 ∧ ∀ x ∈ (pRs s).1, wK x := by
  refine ⟨pRs_len s, fun x hx => ?_⟩
  by_cases h : (pRs s).2 = true
  · exact vR_wK ((vRows_all.1 (pRs_some h).1).1 x hx)
  · rw [pRs_no (eq_false_of_ne_true h)] at hx; cases hx
theorem pRn_mem {x : List UInt8} {r : S57} (h : r ∈ pRn x) : r.f0.length ≤ 24 ∧ ∀ y ∈ r.f0, wK y := by
  unfold pRn at h
  split at h
  · cases h
  · obtain ⟨y, -, rfl⟩ := List.mem_map.1 h; exact pRs_wK y
theorem pRn_len (x : List UInt8) : (pRn x).length ≤ x.length + 1 := by
  unfold pRn
  split
  · simp
  · rw [List.length_map]; exact ctS_len 124 x
theorem flR_24 : ∀ l : List S57, (∀ r ∈ l, r.f0.length ≤ 24) → (flR l).length ≤ 24 * l.length
  | [], _ => by simp [flR]
  | r :: l, h => by
    have h1 := h r (List.mem_cons_self ..)
    have h2 := flR_24 l (fun q hq => h q (List.mem_cons_of_mem _ hq))
    rw [flR, List.length_append, List.length_cons]; omega
theorem mkSo_W (a0 a1 a2 a3 a4 a5 a6 a7 a8 a9 : List UInt8) (h5 : a5.length ≤ 1100000) : WS (mkSo a0 a1 a2 a3 a4 a5 a6 a7 a8 a9) := by
  have hr := pRn_len a5
  have hm : ∀ r ∈ pRn a5, r.f0.length ≤ 24 ∧ ∀ y ∈ r.f0, wK y := fun r => pRn_mem
  have hf := flR_24 (pRn a5) (fun r q => (hm r q).1)
  have q0 := pRs_wK a0; have q2 := pRs_wK a2; have q3 := pRs_wK a3; have q4 := pRs_wK a4
  exact ⟨⟨by show (pRs a0).1.length ≤ _; omega, q0.2⟩, ⟨by show (pRs a2).1.length ≤ _; omega, q2.2⟩, ⟨by show (pRs a3).1.length ≤ _; omega, q3.2⟩, ⟨by show (pRs a4).1.length ≤ _; omega, q4.2⟩, ⟨by show (pRn a5).length ≤ _; omega, fun r q => ⟨by have := (hm r q).1; omega, (hm r q).2⟩⟩, by show (flR (pRn a5)).length ≤ _; omega⟩
theorem z_Sorter_W : WS z31 := ⟨⟨by decide, by simp [z31]⟩, ⟨by decide, by simp [z31]⟩, ⟨by decide, by simp [z31]⟩, ⟨by decide, by simp [z31]⟩, ⟨by decide, by simp [z31]⟩, by decide⟩
theorem fS_valid {s : S31} (h : fS s ≠ []) : vS s = true := by
  unfold fS at h
  by_cases g : vS s = true
  · exact g
  · rw [if_neg g] at h; exact absurd rfl h
theorem ne_c {b c : UInt8} (h : nmB b ∨ b.toNat = 46 ∨ b.toNat = 32 ∨ b.toNat = 124) (hc : c.toNat = 47) : b ≠ c := by
  rcases h with h | h | h | h
  · exact nm_ne h (by omega) (by omega)
  · intro e; rw [e] at h; omega
  · intro e; rw [e] at h; omega
  · intro e; rw [e] at h; omega
theorem fRn_b {l : List S57} : ∀ b ∈ fRn l, nmB b ∨ b.toNat = 46 ∨ b.toNat = 32 ∨ b.toNat = 124 := by
  unfold fRn
  intro b hb
  rcases jn_mem hb with hb | ⟨x, hx, hb⟩
  · right; right; right; rw [hb]; rfl
  · obtain ⟨r, -, rfl⟩ := List.mem_map.1 hx
    rcases fRs_b b hb with q | q | q
    · exact .inl q
    · exact .inr (.inl q)
    · exact .inr (.inr (.inl q))
theorem ct_fRn {l : List S57} (h : l ≠ []) : ctS 124 (fRn l) = l.map fun r => fRs r.f0 := by
  cases l with
  | nil => exact absurd rfl h
  | cons x l =>
    unfold fRn
    rw [List.map_cons]
    refine ct_jn 124 _ _ fun y hy b hb => ?_
    obtain ⟨r, rfl⟩ : ∃ r : S57, y = fRs r.f0 := by
      rcases List.mem_cons.1 hy with rfl | hy
      · exact ⟨x, rfl⟩
      · obtain ⟨r, -, rfl⟩ := List.mem_map.1 hy; exact ⟨r, rfl⟩
    rcases fRs_b b hb with q | q | q
    · exact nm_ne q (by decide) (by decide)
    · intro e; rw [e] at q; exact absurd q (by decide)
    · intro e; rw [e] at q; exact absurd q (by decide)
theorem ct_fS {s : S31} (h : vS s = true) (h9 : s.f9 < 1000000000) : ctS 47 (fS s) = sP s := by
  have V := vS_VF h
  have a := V.pos; have b := V.lp; have c := V.rp; have d := V.ph; have e := V.wr
  have I : ∀ n : Int, 0 ≤ n → n < 1000000000 → ∀ b ∈ fI n, b ≠ 47 := fun n g0 g1 b hb => ne_c (.inl (fI_nm ⟨by omega, by omega⟩ b hb)) rfl
  have R : ∀ l : List S72, ∀ b ∈ fRs l, b ≠ 47 := fun l b hb => ne_c (by rcases fRs_b b hb with q | q | q; exact .inl q; exact .inr (.inl q); exact .inr (.inr (.inl q))) rfl
  unfold fS; rw [if_pos h]
  refine ct_jn 47 _ _ fun y hy => ?_
  simp only [List.mem_cons, List.not_mem_nil, or_false] at hy
  rcases hy with rfl | rfl | rfl | rfl | rfl | rfl | rfl | rfl | rfl | rfl
  · exact R _
  · exact I _ (by omega) (by omega)
  · exact R _
  · exact R _
  · exact R _
  · exact fun b hb => ne_c (fRn_b b hb) rfl
  · exact I _ (by omega) (by omega)
  · exact I _ (by omega) (by omega)
  · exact I _ (by omega) (by omega)
  · exact I _ (by omega) (by omega)
theorem fR5 {x : List UInt8} {l : List S57} (hv : ∀ r ∈ l, vRows r.f0 = true) (h : x = fRn l) (hl : l = pRn x) : okRn x = true := by
  unfold okRn
  by_cases hx : x = []
  · rw [decide_eq_true hx, Bool.true_or]
  · have hn : l ≠ [] := by
      intro e
      rw [e] at h
      exact hx h
    rw [decide_eq_false hx, Bool.false_or, List.all_eq_true]
    intro y hy
    rw [h, ct_fRn hn] at hy
    obtain ⟨r, hr, rfl⟩ := List.mem_map.1 hy
    rw [pRs_fRs (hv r hr)]
theorem fS_cut {s a0 a1 a2 a3 a4 a5 a6 a7 a8 a9 : List UInt8} (hc : ctS 47 s = [a0, a1, a2, a3, a4, a5, a6, a7, a8, a9]) (h : fS (mkSo a0 a1 a2 a3 a4 a5 a6 a7 a8 a9) = s) : ((pRs a0).2 = true ∧ (pI a1).2 = true ∧ (pRs a2).2 = true ∧ (pRs a3).2 = true ∧ (pRs a4).2 = true ∧ okRn a5 = true ∧ (pI a6).2 = true ∧ (pI a7).2 = true ∧ (pI a8).2 = true ∧ (pI a9).2 = true) ∧ vS (mkSo a0 a1 a2 a3 a4 a5 a6 a7 a8 a9) = true := by
  have v : vS (mkSo a0 a1 a2 a3 a4 a5 a6 a7 a8 a9) = true := fS_valid (by rw [h]; intro q; rw [q, ct_nil] at hc; simp at hc)
  have V := vS_VF v
  have n9 := pI_small a9
  have h' := ct_fS v n9.2
  have b1 := V.pos; have b6 := V.lp; have b7 := V.rp; have b8 := V.ph; have b9 := V.wr
  rw [h, hc] at h'
  unfold sP at h'
  generalize hx : mkSo a0 a1 a2 a3 a4 a5 a6 a7 a8 a9 = x at *
  have x9 : x.f9 < 1000000000 := by rw [← hx]; exact n9.2
  have x5 : x.f5 = pRn a5 := by rw [← hx]; rfl
  injection h' with e0 h'
  injection h' with e1 h'
  injection h' with e2 h'
  injection h' with e3 h'
  injection h' with e4 h'
  injection h' with e5 h'
  injection h' with e6 h'
  injection h' with e7 h'
  injection h' with e8 h'
  injection h' with e9 h'
  have p0 := pRs_fRs V.vi
  rw [← e0] at p0
  have p1 := pI_fmt x.f1 ⟨by omega, by omega⟩
  rw [← e1] at p1
  have p2 := pRs_fRs V.vh
  rw [← e2] at p2
  have p3 := pRs_fRs V.vd
  rw [← e3] at p3
  have p4 := pRs_fRs V.vo
  rw [← e4] at p4
  have p5 := fR5 (fun r hr => (V.vr r hr).1) e5 x5
  have p6 := pI_fmt x.f6 ⟨by omega, by omega⟩
  rw [← e6] at p6
  have p7 := pI_fmt x.f7 ⟨by omega, by omega⟩
  rw [← e7] at p7
  have p8 := pI_fmt x.f8 ⟨by omega, by omega⟩
  rw [← e8] at p8
  have p9 := pI_fmt x.f9 ⟨by omega, by omega⟩
  rw [← e9] at p9
  exact ⟨⟨by rw [p0], by rw [p1], by rw [p2], by rw [p3], by rw [p4], p5, by rw [p6], by rw [p7], by rw [p8], by rw [p9]⟩, v⟩
abbrev sotup (s : S31) (b : Bool) : List S72 × Int × List S72 × List S72 × List S72 × List S57 × Int × Int × Int × Int × Bool := (s.f0, s.f1, s.f2, s.f3, s.f4, s.f5, s.f6, s.f7, s.f8, s.f9, b)
abbrev psR (s : List UInt8) (x : S31) : S31 × Bool := if fS x = s then (x, true) else (z31, false)
theorem pS_ten {s a0 a1 a2 a3 a4 a5 a6 a7 a8 a9 : List UInt8} (hc : ctS 47 s = [a0, a1, a2, a3, a4, a5, a6, a7, a8, a9]) : pS s = psR s (mkSo a0 a1 a2 a3 a4 a5 a6 a7 a8 a9) := by unfold pS; rw [hc]
theorem pS_no {s : List UInt8} (h : (ctS 47 s).length ≠ 10) : pS s = (z31, false) := by
  unfold pS
  split
  · rename_i hc; rw [hc] at h; exact absurd rfl h
  · rfl
theorem ten {α : Type} {l : List α} (h : l.length = 10) : ∃ a0 a1 a2 a3 a4 a5 a6 a7 a8 a9, l = [a0, a1, a2, a3, a4, a5, a6, a7, a8, a9] := by
  match l, h with
  | [a0, a1, a2, a3, a4, a5, a6, a7, a8, a9], _ => exact ⟨a0, a1, a2, a3, a4, a5, a6, a7, a8, a9, rfl⟩
theorem impl_PS1_ev (s : List UInt8) (hs : s.length ≤ 1100000) (b : Bool) : Ev (fun k => impl_ParseSorter_1.f k (toB s) b) ((pRs s).1, b && (pRs s).2) :=
  Ev.u (fun _ => rfl) (Ev.b (impl_ParseRows_ev s (by omega)) (Ev.i (fun h => Ev.p.r (by rw [h]; rfl)) (fun h => Ev.p.r (by rw [eq_false_of_ne_true h]; rfl))))
theorem impl_PS2_ev (s : List UInt8) (b : Bool) : Ev (fun k => impl_ParseSorter_2.f k (toB s) b) ((pI s).1, b && (pI s).2) :=
  Ev.u (fun _ => rfl) (Ev.b (impl_ParseInt_ev s) (Ev.i (fun h => Ev.p.r (by rw [h]; rfl)) (fun h => Ev.p.r (by rw [eq_false_of_ne_true h]; rfl))))
theorem impl_ParseSorter_ev (s : List UInt8) (hs : s.length ≤ 1100000) : Ev (fun k => impl_ParseSorter.f k (toB s)) (sotup (pS s).1 (pS s).2) := by
  have hm := fun x => ctS_mem (c := 47) (s := s) (x := x)
  refine Ev.u (fun k => by rw [impl_ParseSorter.f]) (Ev.b (impl_cut_ev s (by omega) 47 47 rfl) ?_)
  rw [List.length_map]
  refine Ev.i (fun h10 => ?_) (fun h10 => Ev.p.r (by rw [pS_no (by omega)]; rfl))
  obtain ⟨a0, a1, a2, a3, a4, a5, a6, a7, a8, a9, hc⟩ := ten (l := ctS 47 s) (by omega)
  rw [pS_ten hc]
  rw [hc] at hm
  have r0 : rdOf ByteArray.empty ([a0, a1, a2, a3, a4, a5, a6, a7, a8, a9].map toB) 0 = toB a0 := rfl
  have r1 : rdOf ByteArray.empty ([a0, a1, a2, a3, a4, a5, a6, a7, a8, a9].map toB) 1 = toB a1 := rfl
  have r2 : rdOf ByteArray.empty ([a0, a1, a2, a3, a4, a5, a6, a7, a8, a9].map toB) 2 = toB a2 := rfl
  have r3 : rdOf ByteArray.empty ([a0, a1, a2, a3, a4, a5, a6, a7, a8, a9].map toB) 3 = toB a3 := rfl
  have r4 : rdOf ByteArray.empty ([a0, a1, a2, a3, a4, a5, a6, a7, a8, a9].map toB) 4 = toB a4 := rfl
  have r5 : rdOf ByteArray.empty ([a0, a1, a2, a3, a4, a5, a6, a7, a8, a9].map toB) 5 = toB a5 := rfl
  have r6 : rdOf ByteArray.empty ([a0, a1, a2, a3, a4, a5, a6, a7, a8, a9].map toB) 6 = toB a6 := rfl
  have r7 : rdOf ByteArray.empty ([a0, a1, a2, a3, a4, a5, a6, a7, a8, a9].map toB) 7 = toB a7 := rfl
  have r8 : rdOf ByteArray.empty ([a0, a1, a2, a3, a4, a5, a6, a7, a8, a9].map toB) 8 = toB a8 := rfl
  have r9 : rdOf ByteArray.empty ([a0, a1, a2, a3, a4, a5, a6, a7, a8, a9].map toB) 9 = toB a9 := rfl
  have ln : ([a0, a1, a2, a3, a4, a5, a6, a7, a8, a9].length : Int) = 10 := rfl
  rw [hc, r0, r1, r2, r3, r4, r5, r6, r7, r8, r9, ln]
  have z0 := hm a0 (by simp)
  have z2 := hm a2 (by simp)
  have z3 := hm a3 (by simp)
  have z4 := hm a4 (by simp)
  have z5 := hm a5 (by simp)
  have W := mkSo_W a0 a1 a2 a3 a4 a5 a6 a7 a8 a9 (by omega)
  have h9 : (mkSo a0 a1 a2 a3 a4 a5 a6 a7 a8 a9).f9 ≤ 9223372036854775807 := by have := (pI_small a9).2; show (pI a9).1 ≤ _; omega
  have ev := impl_IsValidSorter_ev (mkSo a0 a1 a2 a3 a4 a5 a6 a7 a8 a9) W
  have ef := impl_FormatSorter_ev (mkSo a0 a1 a2 a3 a4 a5 a6 a7 a8 a9) W h9
  have no : ¬ (((pRs a0).2 = true ∧ (pI a1).2 = true ∧ (pRs a2).2 = true ∧ (pRs a3).2 = true ∧ (pRs a4).2 = true ∧ okRn a5 = true ∧ (pI a6).2 = true ∧ (pI a7).2 = true ∧ (pI a8).2 = true ∧ (pI a9).2 = true) ∧ vS (mkSo a0 a1 a2 a3 a4 a5 a6 a7 a8 a9) = true) → sotup z31 false = sotup (psR s (mkSo a0 a1 a2 a3 a4 a5 a6 a7 a8 a9)).1 (psR s (mkSo a0 a1 a2 a3 a4 a5 a6 a7 a8 a9)).2 := by
    intro g; rw [psR, if_neg (fun q => g (fS_cut hc q))]
  refine Ev.t (by omega) (Ev.t (by omega) (Ev.t (by omega) (Ev.t (by omega) (Ev.t (by omega) (Ev.b (impl_PS1_ev a0 (by omega) true) (Ev.b (impl_PS2_ev a1 _) (Ev.b (impl_PS1_ev a2 (by omega) _) (Ev.b (impl_PS1_ev a3 (by omega) _) (Ev.b (impl_PS1_ev a4 (by omega) _) (Ev.t (by omega) ?_))))))))))
  refine Ev.b (impl_parseRuns_ev a5 (by omega)) (Ev.t (by omega) (Ev.t (by omega) (Ev.t (by omega) (Ev.t (by omega) (Ev.b (impl_PS2_ev a6 _) (Ev.b (impl_PS2_ev a7 _) (Ev.b (impl_PS2_ev a8 _) (Ev.b (impl_PS2_ev a9 _) ?_))))))))
  dsimp only
  rw [Bool.true_and]
  refine Ev.i (fun g => ?_) (fun g => Ev.p.r (no fun q => g ?_))
  rotate_left
  · obtain ⟨⟨t0, t1, t2, t3, t4, t5, t6, t7, t8, t9⟩, -⟩ := q
    rw [t0, t1, t2, t3, t4, t6, t7, t8, t9]; rfl
  simp only [Bool.and_eq_true] at g
  by_cases c5 : okRn a5 = true
  · rw [if_pos c5]
    refine Ev.t rfl (Ev.b ev (Ev.i (fun q4 => Ev.b ef (Ev.i (fun q5 => Ev.p.r ?_) (fun q5 => Ev.p.r ?_))) (fun q4 => Ev.p.r (no fun q => q4 q.2))))
    · rw [psR, if_pos (toB_inj ((toL_iff _ _).1 q5))]; rfl
    · rw [psR, if_neg (fun e => q5 (by rw [e]))]; rfl
  · rw [if_neg c5]
    exact Ev.e (by decide) (Ev.p.r (no fun q => c5 q.1.2.2.2.2.2.1))
theorem spec_ParseSorter_ev (s : List UInt8) (hs : s.length ≤ 1100000) : Ev (fun k => spec_ParseSorter.f k (toB s)) (sotup (pS s).1 (pS s).2) := by
  have hm := fun x => ctS_mem (c := 47) (s := s) (x := x)
  refine Ev.u (fun k => by rw [spec_ParseSorter.f]) (Ev.b (spec_l2Cut_ev s (by omega) 47 47 rfl) ?_)
  rw [List.length_map]
  refine Ev.i (fun h10 => ?_) (fun h10 => Ev.p.r (by rw [pS_no (by omega)]; rfl))
  obtain ⟨a0, a1, a2, a3, a4, a5, a6, a7, a8, a9, hc⟩ := ten (l := ctS 47 s) (by omega)
  rw [pS_ten hc]
  rw [hc] at hm
  have r0 : rdOf ByteArray.empty ([a0, a1, a2, a3, a4, a5, a6, a7, a8, a9].map toB) 0 = toB a0 := rfl
  have r1 : rdOf ByteArray.empty ([a0, a1, a2, a3, a4, a5, a6, a7, a8, a9].map toB) 1 = toB a1 := rfl
  have r2 : rdOf ByteArray.empty ([a0, a1, a2, a3, a4, a5, a6, a7, a8, a9].map toB) 2 = toB a2 := rfl
  have r3 : rdOf ByteArray.empty ([a0, a1, a2, a3, a4, a5, a6, a7, a8, a9].map toB) 3 = toB a3 := rfl
  have r4 : rdOf ByteArray.empty ([a0, a1, a2, a3, a4, a5, a6, a7, a8, a9].map toB) 4 = toB a4 := rfl
  have r5 : rdOf ByteArray.empty ([a0, a1, a2, a3, a4, a5, a6, a7, a8, a9].map toB) 5 = toB a5 := rfl
  have r6 : rdOf ByteArray.empty ([a0, a1, a2, a3, a4, a5, a6, a7, a8, a9].map toB) 6 = toB a6 := rfl
  have r7 : rdOf ByteArray.empty ([a0, a1, a2, a3, a4, a5, a6, a7, a8, a9].map toB) 7 = toB a7 := rfl
  have r8 : rdOf ByteArray.empty ([a0, a1, a2, a3, a4, a5, a6, a7, a8, a9].map toB) 8 = toB a8 := rfl
  have r9 : rdOf ByteArray.empty ([a0, a1, a2, a3, a4, a5, a6, a7, a8, a9].map toB) 9 = toB a9 := rfl
  have ln : (([a0, a1, a2, a3, a4, a5, a6, a7, a8, a9].map toB).length : Int) = 10 := rfl
  have ln' : ([a0, a1, a2, a3, a4, a5, a6, a7, a8, a9].length : Int) = 10 := rfl
  have z0 := hm a0 (by simp)
  have z1 := hm a1 (by simp)
  have z2 := hm a2 (by simp)
  have z3 := hm a3 (by simp)
  have z4 := hm a4 (by simp)
  have z5 := hm a5 (by simp)
  have z6 := hm a6 (by simp)
  have z7 := hm a7 (by simp)
  have z8 := hm a8 (by simp)
  have z9 := hm a9 (by simp)
  have W := mkSo_W a0 a1 a2 a3 a4 a5 a6 a7 a8 a9 (by omega)
  have h9 : (mkSo a0 a1 a2 a3 a4 a5 a6 a7 a8 a9).f9 ≤ 9223372036854775807 := by have := (pI_small a9).2; show (pI a9).1 ≤ _; omega
  have ef := spec_FormatSorter_ev (mkSo a0 a1 a2 a3 a4 a5 a6 a7 a8 a9) W h9
  have J : Ev (fun k => spec_ParseSorter.j0 k (toB s) ([a0, a1, a2, a3, a4, a5, a6, a7, a8, a9].map toB) [] 0 [] [] [] [] 0 0 0 0 (pRs a0).1 (pI a1).1 (pRs a2).1 (pRs a3).1 (pRs a4).1 (pRn a5) 0 0 0 0) (sotup (psR s (mkSo a0 a1 a2 a3 a4 a5 a6 a7 a8 a9)).1 (psR s (mkSo a0 a1 a2 a3 a4 a5 a6 a7 a8 a9)).2) := by
    refine Ev.s (fun k => by rw [spec_ParseSorter.j0]) ?_
    rw [ln, r6, r7, r8, r9]
    refine Ev.t (by omega) (Ev.b (spec_ParseInt_ev a6 (by omega)) (Ev.t (by omega) (Ev.b (spec_ParseInt_ev a7 (by omega)) (Ev.t (by omega) (Ev.b (spec_ParseInt_ev a8 (by omega)) (Ev.t (by omega) (Ev.b (spec_ParseInt_ev a9 (by omega)) (Ev.b ef (Ev.i (fun q5 => Ev.p.r ?_) (fun q5 => Ev.p.r ?_))))))))))
    · rw [psR, if_pos (toB_inj ((toL_iff _ _).1 q5))]; rfl
    · rw [psR, if_neg (fun e => q5 (by rw [e]))]; rfl
  have hl5 := ctS_len 124 a5
  have hm5 := fun x => ctS_mem (c := 124) (s := a5) (x := x)
  have L : a5 ≠ [] → ∀ (t : List (List UInt8)) (i : Nat) (B : List S57), (ctS 124 a5).drop i = t → B.length ≤ i → B ++ t.map (fun y => (⟨(pRs y).1⟩ : S57)) = pRn a5 → Ev (fun k => spec_ParseSorter.l0 k (toB s) ([a0, a1, a2, a3, a4, a5, a6, a7, a8, a9].map toB) ((ctS 124 a5).map toB) (i : Int) [] 0 [] [] [] [] 0 0 0 0 (pRs a0).1 (pI a1).1 (pRs a2).1 (pRs a3).1 (pRs a4).1 B 0 0 0 0) (sotup (psR s (mkSo a0 a1 a2 a3 a4 a5 a6 a7 a8 a9)).1 (psR s (mkSo a0 a1 a2 a3 a4 a5 a6 a7 a8 a9)).2) := by
    intro hn t
    induction t with
    | nil =>
      intro i B hd hB he
      have := drop_nil' hd
      have : B = pRn a5 := by simpa using he
      subst this
      exact Ev.s (fun k => by rw [spec_ParseSorter.l0]) (Ev.e (by rw [List.length_map]; omega) J)
    | cons y t ih =>
      intro i B hd hB he
      obtain ⟨hi, hd', hx, -⟩ := drop_cons' hd
      have zy := hm5 y (List.mem_of_mem_drop (by rw [hd]; exact List.mem_cons_self ..))
      refine Ev.s (fun k => by rw [spec_ParseSorter.l0]) ?_
      rw [ln, r5, rdS, hx, w64s hi (by omega)]
      refine Ev.t (by rw [List.length_map]; omega) (Ev.t (by omega) (Ev.e (fun e => hn (toB_inj ((toL_iff _ _).1 e))) (Ev.t (by omega) (Ev.b (spec_ParseRows_ev y (by omega)) (Ev.t (by omega) ?_)))))
      exact ih (i + 1) (B ++ [⟨(pRs y).1⟩]) hd' (by simp; omega) (by rw [← he]; simp)
  have L0 : Ev (fun k => spec_ParseSorter.l0 k (toB s) ([a0, a1, a2, a3, a4, a5, a6, a7, a8, a9].map toB) ((ctS 124 a5).map toB) 0 [] 0 [] [] [] [] 0 0 0 0 (pRs a0).1 (pI a1).1 (pRs a2).1 (pRs a3).1 (pRs a4).1 [] 0 0 0 0) (sotup (psR s (mkSo a0 a1 a2 a3 a4 a5 a6 a7 a8 a9)).1 (psR s (mkSo a0 a1 a2 a3 a4 a5 a6 a7 a8 a9)).2) := by
    by_cases hn : a5 = []
    · have e5 : pRn a5 = [] := by unfold pRn; rw [if_pos hn]
      rw [e5] at J
      refine Ev.s (fun k => by rw [spec_ParseSorter.l0]) ?_
      rw [ln, r5]
      exact Ev.t (by rw [hn, ct_nil]; decide) (Ev.t (by omega) (Ev.t (by rw [hn]; rfl) J))
    · exact L hn (ctS 124 a5) 0 [] rfl (by simp) (by unfold pRn; rw [if_neg hn]; rfl)
  rw [hc, r0, r1, r2, r3, r4, r5, ln']
  refine Ev.t (by omega) (Ev.b (spec_ParseRows_ev a0 (by omega)) (Ev.t (by omega) (Ev.b (spec_ParseInt_ev a1 (by omega)) (Ev.t (by omega) (Ev.b (spec_ParseRows_ev a2 (by omega)) (Ev.t (by omega) (Ev.b (spec_ParseRows_ev a3 (by omega)) (Ev.t (by omega) (Ev.b (spec_ParseRows_ev a4 (by omega)) (Ev.t (by omega) (Ev.b (spec_l2Cut_ev a5 (by omega) 124 124 rfl) ?_)))))))))))
  exact L0
theorem pS_W (s : List UInt8) (hs : s.length ≤ 1100000) : WS (pS s).1 := by
  by_cases h : (ctS 47 s).length = 10
  · obtain ⟨a0, a1, a2, a3, a4, a5, a6, a7, a8, a9, hc⟩ := ten h
    have z5 : a5.length ≤ s.length := ctS_mem (c := 47) (by rw [hc]; simp)
    rw [pS_ten hc, psR]
    split
    · exact mkSo_W a0 a1 a2 a3 a4 a5 a6 a7 a8 a9 (by omega)
    · exact z_Sorter_W
  · rw [pS_no h]; exact z_Sorter_W

def nSo (s : S31) : Int := 3 * s.f0.length + 3 * s.f2.length + 3 * s.f3.length + 3 * s.f4.length + nRs s.f5
theorem nSo_b (s : S31) (W : WS s) : 0 ≤ nSo s ∧ nSo s ≤ 1000000000 := by
  have a := W.i.1; have b := W.h.1; have c := W.d.1; have d := W.o.1; have e := W.t
  have h := nRs_fl s.f5
  unfold nSo; omega
theorem markSorter_ev (s : S31) (W : WS s) : Ev (fun f => laws_markSorter.f f s.f0 s.f1 s.f2 s.f3 s.f4 s.f5 s.f6 s.f7 s.f8 s.f9 1) (1 + nSo s, mkRow 1 s.f0, mkRow (1 + 3 * s.f0.length) s.f2, mkRow (1 + 3 * s.f0.length + 3 * s.f2.length) s.f3, mkRow (1 + 3 * s.f0.length + 3 * s.f2.length + 3 * s.f3.length) s.f4, mkRn (1 + 3 * s.f0.length + 3 * s.f2.length + 3 * s.f3.length + 3 * s.f4.length) s.f5) := by
  have a := W.i.1; have b := W.h.1; have c := W.d.1; have d := W.o.1; have e := W.t; have e5 := W.r.1
  have h := nRs_fl s.f5
  refine Ev.u (fun _ => rfl) (Ev.b (markRowS_ev s.f0 1 (by omega) (by omega)) (Ev.b (markRowS_ev s.f2 _ (by dsimp only; omega) (by dsimp only; omega)) (Ev.b (markRowS_ev s.f3 _ (by dsimp only; omega) (by dsimp only; omega)) (Ev.b (markRowS_ev s.f4 _ (by dsimp only; omega) (by dsimp only; omega)) (Ev.b (markRunS_ev s.f5 _ (by dsimp only; omega) (by dsimp only; omega) (by omega)) (Ev.p.r ?_))))))
  refine Prod.ext ?_ rfl
  dsimp only; unfold nSo; omega
theorem heldSorter_ev (s : S31) (W : WS s) (u1 u6 u7 u8 u9 : Int) : Ev (fun f => laws_heldSorter.f f (mkRow 1 s.f0) u1 (mkRow (1 + 3 * s.f0.length) s.f2) (mkRow (1 + 3 * s.f0.length + 3 * s.f2.length) s.f3) (mkRow (1 + 3 * s.f0.length + 3 * s.f2.length + 3 * s.f3.length) s.f4) (mkRn (1 + 3 * s.f0.length + 3 * s.f2.length + 3 * s.f3.length + 3 * s.f4.length) s.f5) u6 u7 u8 u9 1) (1 + nSo s) := by
  have a := W.i.1; have b := W.h.1; have c := W.d.1; have d := W.o.1; have e := W.t; have e5 := W.r.1
  have h := nRs_fl s.f5
  refine Ev.u (fun _ => rfl) (Ev.b (heldRowS_ev s.f0 1 (by omega) (by omega)) (Ev.e (by omega) (Ev.b (heldRowS_ev s.f2 _ (by omega) (by omega)) (Ev.e (by omega) (Ev.b (heldRowS_ev s.f3 _ (by omega) (by omega)) (Ev.e (by omega) (Ev.b (heldRowS_ev s.f4 _ (by omega) (by omega)) (Ev.e (by omega) (Ev.b (heldRunS_ev s.f5 _ (by omega) (by omega) (by omega)) (Ev.e (by omega) (Ev.p.r ?_)))))))))))
  unfold nSo; omega

theorem pure_FnExactParseSorter (a0 : ByteArray) (w0 : a0.size ≤ 140737488351232) : ∃ k, laws_FnExactParseSorter.f k a0 = some true := by
  refine Ev.ex ?_
  by_cases s0 : (a0.size : Int) > 1048576
  · exact Ev.u (fun _ => rfl) (Ev.t s0 Ev.p)
  obtain ⟨s, rfl⟩ : ∃ s, a0 = toB s := ⟨bs a0, rfl⟩
  have hs : s.length ≤ 1048576 := by have : (toB s).size = s.length := rfl; omega
  have es := spec_ParseSorter_ev s (by omega)
  have ei := impl_ParseSorter_ev s (by omega)
  have W := pS_W s (by omega)
  generalize (pS s).1 = T at *
  generalize (pS s).2 = b at *
  have q := eqSorter_ev T W
  have n := nSo_b T W
  have m := markSorter_ev T W
  have h := heldSorter_ev T W T.f1 T.f6 T.f7 T.f8 T.f9
  refine Ev.u (fun _ => rfl) (Ev.e s0 (Ev.b es (Ev.b ei (Ev.b q (Ev.t rfl (Ev.t (by simp) (Ev.b m ?_)))))))
  refine Ev.b h (Ev.e (by omega) (Ev.t rfl (Ev.b ei (Ev.b q (Ev.t rfl (Ev.t (by simp) ?_))))))
  exact Ev.b h (Ev.e (by omega) (Ev.t rfl Ev.p))

end Go.Proofs.Ytnadolmpaeenpaa.K
namespace Go.Proofs.Ytnadolmpaeenpaa.fnExactParseSorter
open Go Go.ChangeShapes Go.WideShapes Go.ChangeAt Go.RowKit Go.Proofs.Ytnadolmpaeenpaa.K
open Go.ChangeMaps (open_string shut_string)
set_option linter.unusedVariables false
theorem own : ownKnob Try.prog.godebug = none := by kernel_rfl
theorem laidOut : laidOutB Try.prog = true := by kernel_rfl
set_option maxRecDepth 100000 in
theorem lifted (os : Os) (started : os.Started) (H : Type) (enc : TypeId × Value → H) :
    ReturnsInHanded {} Try.checked os 4 .any (Rows.fnExactParseSorterSpec.pre6 enc Try.prog Try.f4 Rows.fnExactParseSorterRow.domain false) (Rows.fnExactParseSorterSpec.post enc Try.prog Try.f4 false true false false) := by
  refine returnsInHanded_of_change_sized (C := Try.checked) own started (by kernel_rfl) Try.func4
    (ChangeSpec.witness6 (enc := enc) (C := Try.checked) false ⟨#[], #[.string ByteArray.empty], []⟩ 8 (by kernel_rfl) (by kernel_rfl) (by kernel_rfl) (by kernel_rfl)) ?_
  intro W base args ds gs before hval0 hW hcnd hsz0 _
  have hsz : (DataW.weightsEach Try.prog (Try.f4.params.toList ++ Rows.fnExactParseSorterSpec.plain.varTypes Try.prog) (ds ++ gs)).all (· ≤ reachBytes) = true := hsz0
  have hval : ∀ (j : Nat) t v, Try.f4.params[j]? = some t → args[j]? = some v → Value.okWide Try.prog W .any base t v := hval0
  have hW' := hW
  obtain ⟨p, q, hA0, hV, rfl, hfz, hnd⟩ := hW
  have hA : DataW.TrodAll enc Try.prog W 0 (fun _ => true) true Try.f4.params.toList args.toList ds p := hA0
  rw [Try.params4] at hA hval hsz
  obtain ⟨v0, vs0, d0, ds0, p0, q0, hargs, rfl, rfl, h0, r0⟩ := trodAll_cons hA
  obtain ⟨rfl, rfl, rfl⟩ := trodAll_nil r0
  obtain rfl : args = #[v0] := by cases args; simp_all
  obtain ⟨rfl, rfl⟩ := trodVars_none hV
  obtain ⟨a0, rfl, rfl, rfl, y0⟩ := open_string Try.underlying9 (hval 0 9 v0 rfl rfl) h0
  have w0 : a0.size ≤ 140737488351232 := by
    have z := sized_string hsz (j := 0) (t := 9) rfl rfl
    rw [Array.length_toList] at z
    exact z
  clear hA0 hval0 hsz0 hsz
  obtain ⟨k, hk⟩ := K.pure_FnExactParseSorter a0 w0
  refine (law_calls (laws_FnExactParseSorter.ok k a0 true hk) facts_nil).mono fun e W' he => ?_
  obtain ⟨rfl, bel⟩ := he
  exact ⟨_, rfl, _, _, _, [], _, [], hW', trodAll_mk1 (shut_bool Try.underlying4 _), (trodAll_cons_mk (shut_string Try.underlying9 y0) trodAll_mk0), rfl, bel.frame _, fun h => by cases h⟩
theorem over : Rows.fnExactParseSorterRow.holds Try.pinned (OpenSpec.ofChange Rows.fnExactParseSorterSpec) :=
  OpenClaim.holds_of_wide 4 Try.f4 rfl rfl rfl rfl rfl rfl rfl ⟨rfl, rfl, rfl, rfl, rfl⟩ rfl rfl rfl rfl rfl (by kernel_rfl) Try.func4 (by kernel_rfl)
    (of_decide_eq_true (by kernel_rfl)) (by unfold Func.isWrapper; first | (rw [if_pos (by decide +kernel)]; kernel_rfl) | (rw [if_neg (by decide +kernel)]; exact ⟨rfl, rfl⟩))
    (fun os started H enc _ => lifted os started H enc)
theorem proved : Rows.FnExactParseSorterSaid := over
#print axioms proved
end Go.Proofs.Ytnadolmpaeenpaa.fnExactParseSorter
namespace Go.Proofs.Ytnadolmpaeenpaa
/-- The row, under a short name, for the claim. -/
theorem fnExactParseSorter_holds : Rows.FnExactParseSorterSaid := fnExactParseSorter.proved
end Go.Proofs.Ytnadolmpaeenpaa
