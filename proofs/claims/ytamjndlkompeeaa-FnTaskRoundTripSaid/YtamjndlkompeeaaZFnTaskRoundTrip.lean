/- FnTaskRoundTrip answers true at every input. -/
import Derived.Below
import Derived.Carry
import Derived.ChangeOld
import Derived.OpenShut
import Derived.ProofKit
import Derived.ShutString
import Derived.SizedLaws
import Derived.Test.YtamjndlkompeeaaChecked
import Derived.Test.YtamjndlkompeeaaRows
import Derived.WalkKit
import Derived.Test.YtamjndlkompeeaaVFnTaskRoundTripc
namespace Go.Proofs.Ytamjndlkompeeaa.K
open Go Go.RowKit
set_option linter.unusedVariables false
set_option linter.unusedSimpArgs false
def Ev {α : Type} (f : Nat → Option α) (r : α) : Prop := ∃ K, ∀ k, K ≤ k → f k = some r
theorem Ev.p {α : Type} {r : α} : Ev (fun _ => some r) r := ⟨0, fun _ _ => rfl⟩
theorem Ev.c {α : Type} {o : Option α} {r : α} (h : o = some r) : Ev (fun _ => o) r := ⟨0, fun _ _ => h⟩
theorem Ev.b {α β : Type} {f : Nat → Option α} {g : Nat → α → Option β} {a : α} {r : β} (hf : Ev f a) (hg : Ev (fun k => g k a) r) : Ev (fun k => (f k).bind (g k)) r := by
  obtain ⟨K, h⟩ := hf; obtain ⟨L, h'⟩ := hg
  exact ⟨max K L, fun k hk => by show (f k).bind (g k) = some r; rw [h k (by omega)]; exact h' k (by omega)⟩
theorem Ev.t {α : Type} {p : Prop} [Decidable p] {f g : Nat → Option α} {r : α} (h : p) (hf : Ev f r) : Ev (fun k => if p then f k else g k) r := by
  obtain ⟨K, h'⟩ := hf
  exact ⟨K, fun k hk => by show (if p then f k else g k) = some r; rw [if_pos h]; exact h' k hk⟩
theorem Ev.e {α : Type} {p : Prop} [Decidable p] {f g : Nat → Option α} {r : α} (h : ¬ p) (hg : Ev g r) : Ev (fun k => if p then f k else g k) r := by
  obtain ⟨K, h'⟩ := hg
  exact ⟨K, fun k hk => by show (if p then f k else g k) = some r; rw [if_neg h]; exact h' k hk⟩
theorem Ev.i {α : Type} {p : Prop} [Decidable p] {f g : Nat → Option α} {r : α} (hf : p → Ev f r) (hg : ¬ p → Ev g r) : Ev (fun k => if p then f k else g k) r := by
  by_cases h : p
  · exact Ev.t h (hf h)
  · exact Ev.e h (hg h)
theorem Ev.s {α : Type} {L f : Nat → Option α} {r : α} (h : ∀ k, L (k + 1) = f k) (hf : Ev f r) : Ev L r := by
  obtain ⟨K, h'⟩ := hf
  refine ⟨K + 1, fun k hk => ?_⟩
  obtain ⟨m, rfl⟩ : ∃ m, k = m + 1 := ⟨k - 1, by omega⟩
  rw [h]; exact h' m (by omega)
theorem Ev.u {α : Type} {L f : Nat → Option α} {r : α} (h : ∀ k, L k = f k) (hf : Ev f r) : Ev L r := by
  obtain ⟨K, h'⟩ := hf
  exact ⟨K, fun k hk => by rw [h]; exact h' k hk⟩
theorem Ev.r {α : Type} {f : Nat → Option α} {r r' : α} (h : Ev f r) (e : r = r') : Ev f r' := e ▸ h
theorem Ev.r' {α : Type} {f g : Nat → Option α} {r r' : α} (h : Ev f r) (e1 : ∀ k, f k = g k) (e : r = r') : Ev g r' := by
  subst e; obtain ⟨K, h'⟩ := h
  exact ⟨K, fun k hk => by rw [← e1]; exact h' k hk⟩
theorem Ev.ex {α : Type} {f : Nat → Option α} {r : α} (h : Ev f r) : ∃ k, f k = some r := by
  obtain ⟨K, h'⟩ := h
  exact ⟨K, h' K (Nat.le_refl _)⟩
theorem drop_nil' {α : Type} {l : List α} {i : Nat} (h : l.drop i = []) : l.length ≤ i := List.drop_eq_nil_iff.1 h
theorem drop_cons' {α : Type} {l : List α} {i : Nat} {x : α} {t : List α} (h : l.drop i = x :: t) : i < l.length ∧ l.drop (i + 1) = t ∧ (∀ d, l.getD i d = x) ∧ l.length = i + 1 + t.length := by
  have hl := congrArg List.length h
  rw [List.length_drop, List.length_cons] at hl
  refine ⟨by omega, ?_, fun d => ?_, by omega⟩
  · rw [← List.drop_drop, h]; rfl
  · have : l[i]? = some x := by rw [← List.head?_drop, h]; rfl
    rw [List.getD_eq_getElem?_getD, this]; rfl
theorem w64 {x : Int} (h0 : -9223372036854775808 ≤ x) (h1 : x ≤ 9223372036854775807) : wrap64 x = x := by unfold wrap64; omega
theorem w64s {i n : Nat} (h : i < n) (hn : n ≤ 9223372036854775807) : wrap64 ((i : Int) + 1) = ((i + 1 : Nat) : Int) := by rw [w64 (by omega) (by omega)]; rfl
theorem maxLen_eq : maxLen = 9223372036854775807 := rfl
theorem wf64 {n : Int} (h : (Lit.int .i64 n).wf = true) : (-9223372036854775808 : Int) ≤ n ∧ n ≤ 9223372036854775807 := by
  simp [Lit.wf, IntKind.min, IntKind.max, IntKind.signed, IntKind.bits] at h
  exact h
theorem ob {α β : Type} {o : Option α} {a : α} {f : α → Option β} (h : o = some a) : o.bind f = f a := by subst h; rfl

def inB (n a b : Int) : Bool := decide (a ≤ n ∧ n ≤ b)
theorem within_eq (n a b : Int) : impl_within.f n a b = some (inB n a b) := by
  unfold impl_within.f inB; split <;> simp <;> omega
theorem l1In_eq (n a b : Int) : spec_l1In.f n a b = some (inB n a b) := by
  unfold spec_l1In.f inB; split <;> simp <;> omega
def vRow (a b c : Int) : Bool := inB a 0 9 && inB b 0 99 && inB c 0 3
theorem impl_IsValidRow_eq (a b c : Int) : impl_IsValidRow.f a b c = some (vRow a b c) := by
  unfold impl_IsValidRow.f vRow
  rw [within_eq, within_eq, within_eq, ob rfl]
  cases inB a 0 9
  · simp
  · rw [if_pos rfl, ob rfl]; cases inB b 0 99 <;> simp
theorem spec_IsValidRow_eq (a b c : Int) : spec_IsValidRow.f a b c = some (vRow a b c) := by
  unfold spec_IsValidRow.f vRow
  rw [l1In_eq, l1In_eq, l1In_eq, ob rfl]
  cases inB a 0 9
  · simp
  · rw [if_pos rfl, ob rfl]; cases inB b 0 99 <;> simp
def cRow (x : S99) : Int := if vRow x.f0 x.f1 x.f2 = true then 1 + x.f2 else 0
theorem cRow_b (x : S99) : 0 ≤ cRow x ∧ cRow x ≤ 4 := by
  unfold cRow
  by_cases h : vRow x.f0 x.f1 x.f2 = true
  · rw [if_pos h]; simp [vRow, inB] at h; omega
  · rw [if_neg h]; omega
theorem impl_RowCost_eq (x : S99) : impl_RowCost.f x.f0 x.f1 x.f2 = some (cRow x) := by
  unfold impl_RowCost.f cRow
  rw [impl_IsValidRow_eq, ob rfl]
  by_cases h : vRow x.f0 x.f1 x.f2 = true
  · rw [if_pos h, if_pos h]; simp [vRow, inB] at h; rw [w64 (by omega) (by omega)]
  · rw [if_neg h, if_neg h]
theorem spec_RowCost_eq (x : S99) : spec_RowCost.f x.f0 x.f1 x.f2 = some (cRow x) := by
  unfold spec_RowCost.f cRow
  rw [spec_IsValidRow_eq, ob rfl]
  by_cases h : vRow x.f0 x.f1 x.f2 = true
  · rw [if_pos h, if_pos h]; simp [vRow, inB] at h; rw [w64 (by omega) (by omega)]
  · rw [if_neg h, if_neg h]
def tCost (l : List S99) : Int := (l.map cRow).sum
theorem tCost_cons (x : S99) (l : List S99) : tCost (x :: l) = cRow x + tCost l := by simp [tCost]
theorem rdR (l : List S99) (i : Nat) : rd_T99 l (i : Int) = l.getD i z99 := rfl
theorem impl_TotalCost_l0 (l : List S99) (hl : l.length ≤ 1152921504606846975) : ∀ (s : List S99) (i : Nat) (acc : Int), l.drop i = s → 0 ≤ acc → acc ≤ 4 * i → Ev (fun k => impl_TotalCost.l0 k acc (l.length : Int) (i : Int) l) (acc + tCost s) := by
  intro s
  induction s with
  | nil =>
    intro i acc hd h0 h1
    have := drop_nil' hd
    exact Ev.s (fun k => by rw [impl_TotalCost.l0]) (Ev.e (by omega) (Ev.p.r (by simp [tCost])))
  | cons x t ih =>
    intro i acc hd h0 h1
    obtain ⟨hi, hd', hx, -⟩ := drop_cons' hd
    have := cRow_b x
    refine Ev.s (fun k => by rw [impl_TotalCost.l0]) (Ev.t (by omega) (Ev.t (by omega) (Ev.t (by omega) ?_)))
    rw [rdR, hx]
    refine Ev.b (Ev.c (impl_RowCost_eq x)) ?_
    rw [w64s hi (by omega), w64 (by omega) (by omega)]
    exact (ih (i + 1) (acc + cRow x) hd' (by omega) (by omega)).r (by rw [tCost_cons]; omega)
theorem impl_TotalCost_ev (l : List S99) (hl : l.length ≤ 1152921504606846975) : Ev (fun k => impl_TotalCost.f k l) (tCost l) :=
  Ev.u (fun _ => rfl) ((impl_TotalCost_l0 l hl l 0 0 rfl (by omega) (by omega)).r (by omega))
theorem spec_TotalCost_l0 (l : List S99) (hl : l.length ≤ 1152921504606846975) : ∀ (s : List S99) (i : Nat) (acc : Int), l.drop i = s → 0 ≤ acc → acc ≤ 4 * i → Ev (fun k => spec_TotalCost.l0 k acc (i : Int) l) (acc + tCost s) := by
  intro s
  induction s with
  | nil =>
    intro i acc hd h0 h1
    have := drop_nil' hd
    exact Ev.s (fun k => by rw [spec_TotalCost.l0]) (Ev.e (by omega) (Ev.p.r (by simp [tCost])))
  | cons x t ih =>
    intro i acc hd h0 h1
    obtain ⟨hi, hd', hx, -⟩ := drop_cons' hd
    have := cRow_b x
    refine Ev.s (fun k => by rw [spec_TotalCost.l0]) (Ev.t (by omega) (Ev.t (by omega) ?_))
    rw [rdR, hx]
    refine Ev.b (Ev.c (spec_RowCost_eq x)) ?_
    rw [w64s hi (by omega), w64 (by omega) (by omega)]
    exact (ih (i + 1) (acc + cRow x) hd' (by omega) (by omega)).r (by rw [tCost_cons]; omega)
theorem spec_TotalCost_ev (l : List S99) (hl : l.length ≤ 1152921504606846975) : Ev (fun k => spec_TotalCost.f k l) (tCost l) :=
  Ev.u (fun _ => rfl) ((spec_TotalCost_l0 l hl l 0 0 rfl (by omega) (by omega)).r (by omega))
def vAll (l : List S99) : Bool := l.all fun x => vRow x.f0 x.f1 x.f2
theorem impl_allValid_l0 (l : List S99) (hl : l.length ≤ 1152921504606846975) : ∀ (s : List S99) (i : Nat), l.drop i = s → Ev (fun k => impl_allValid.l0 k (l.length : Int) (i : Int) l) (vAll s) := by
  intro s
  induction s with
  | nil =>
    intro i hd
    have := drop_nil' hd
    exact Ev.s (fun k => by rw [impl_allValid.l0]) (Ev.e (by omega) (Ev.p.r (by rfl)))
  | cons x t ih =>
    intro i hd
    obtain ⟨hi, hd', hx, -⟩ := drop_cons' hd
    refine Ev.s (fun k => by rw [impl_allValid.l0]) (Ev.t (by omega) (Ev.t (by omega) (Ev.t (by omega) ?_)))
    rw [rdR, hx]
    refine Ev.b (Ev.c (impl_IsValidRow_eq ..)) (Ev.i (fun h => ?_) (fun h => ?_))
    · rw [w64s hi (by omega)]
      exact (ih (i + 1) hd').r (by simp [vAll, h])
    · exact Ev.p.r (by simp [vAll, h])
theorem impl_allValid_ev (l : List S99) (hl : l.length ≤ 1152921504606846975) : Ev (fun k => impl_allValid.f k l) (vAll l) :=
  Ev.u (fun _ => rfl) (impl_allValid_l0 l hl l 0 rfl)
def vRows (l : List S99) : Bool := vAll l && decide (l.length ≤ 24)
theorem impl_AreValidRows_ev (l : List S99) (hl : l.length ≤ 1152921504606846975) : Ev (fun k => impl_AreValidRows.f k l) (vRows l) :=
  Ev.u (fun _ => rfl) (Ev.i (fun h => Ev.b (impl_allValid_ev l hl) (Ev.p.r (by simp [vRows]; omega))) (fun h => Ev.p.r (by simp [vRows]; omega)))
theorem spec_AreValidRows_l0 (l : List S99) (hl : l.length ≤ 1152921504606846975) : ∀ (s : List S99) (i : Nat), l.drop i = s → Ev (fun k => spec_AreValidRows.l0 k (i : Int) l) (vAll s && decide (l.length ≤ 24)) := by
  intro s
  induction s with
  | nil =>
    intro i hd
    have := drop_nil' hd
    exact Ev.s (fun k => by rw [spec_AreValidRows.l0]) (Ev.e (by omega) (Ev.p.r (by simp [vAll]; omega)))
  | cons x t ih =>
    intro i hd
    obtain ⟨hi, hd', hx, -⟩ := drop_cons' hd
    refine Ev.s (fun k => by rw [spec_AreValidRows.l0]) (Ev.t (by omega) (Ev.t (by omega) ?_))
    rw [rdR, hx]
    refine Ev.b (Ev.c (spec_IsValidRow_eq ..)) (Ev.i (fun h => ?_) (fun h => ?_))
    · rw [w64s hi (by omega)]
      exact (ih (i + 1) hd').r (by simp [vAll, h])
    · exact Ev.p.r (by simp [vAll, h])
theorem spec_AreValidRows_ev (l : List S99) (hl : l.length ≤ 1152921504606846975) : Ev (fun k => spec_AreValidRows.f k l) (vRows l) :=
  Ev.u (fun _ => rfl) (spec_AreValidRows_l0 l hl l 0 rfl)
def eqRow (x y : S99) : Bool := x.f0 == y.f0 && (x.f1 == y.f1 && x.f2 == y.f2)
def eqRows (a b : List S99) : Bool := match a, b with
  | [], [] => true
  | x :: a, y :: b => eqRow x y && eqRows a b
  | _, _ => false
theorem eqRow_iff {x y : S99} : eqRow x y = true ↔ x = y := by
  obtain ⟨a, b, c⟩ := x; obtain ⟨d, e, f⟩ := y; simp [eqRow]
theorem eqRows_iff : ∀ {a b : List S99}, eqRows a b = true ↔ a = b
  | [], [] => by simp [eqRows]
  | x :: a, y :: b => by simp [eqRows, eqRow_iff, eqRows_iff]
  | [], y :: b => by simp [eqRows]
  | x :: a, [] => by simp [eqRows]
theorem eqRows_len {a b : List S99} (h : eqRows a b = true) : a.length = b.length := by rw [eqRows_iff.1 h]
theorem impl_equal_l0 (l m : List S99) (hl : l.length ≤ 1152921504606846975) (hm : l.length = m.length) : ∀ (s t : List S99) (i : Nat), l.drop i = s → m.drop i = t → Ev (fun k => impl_equal.l0 k (l.length : Int) (i : Int) l m) (eqRows s t) := by
  intro s
  induction s with
  | nil =>
    intro t i hd he
    have := drop_nil' hd
    have ht : t = [] := by rw [← he]; exact List.drop_eq_nil_iff.2 (by omega)
    subst ht
    exact Ev.s (fun k => by rw [impl_equal.l0]) (Ev.e (by omega) (Ev.p.r (by rfl)))
  | cons x s ih =>
    intro t i hd he
    obtain ⟨hi, hd', hx, -⟩ := drop_cons' hd
    cases t with
    | nil => have := drop_nil' he; omega
    | cons y t =>
      obtain ⟨hj, he', hy, -⟩ := drop_cons' he
      refine Ev.s (fun k => by rw [impl_equal.l0]) (Ev.t (by omega) (Ev.t (by omega) (Ev.t (by omega) (Ev.t (by omega) ?_))))
      rw [rdR, rdR, hx, hy]
      refine Ev.i (fun h => ?_) (fun h => ?_)
      · rw [w64s hi (by omega)]
        exact (ih t (i + 1) hd' he').r (by have h' : eqRow x y = true := h; simp [eqRows, h'])
      · exact Ev.p.r (by have h' : ¬ eqRow x y = true := h; simp [eqRows, h'])
theorem eqRows_ne {a b : List S99} (h : a.length ≠ b.length) : eqRows a b = false := by
  cases e : eqRows a b with
  | false => rfl
  | true => exact absurd (eqRows_len e) h
theorem impl_equal_ev (l m : List S99) (hl : l.length ≤ 1152921504606846975) : Ev (fun k => impl_equal.f k l m) (eqRows l m) :=
  Ev.u (fun _ => rfl) (Ev.i (fun h => impl_equal_l0 l m hl (by omega) l m 0 rfl rfl) (fun h => Ev.p.r (eqRows_ne (by omega)).symm))
theorem spec_l6Rows_l0 (l m : List S99) (hl : l.length ≤ 1152921504606846975) (hm : l.length = m.length) : ∀ (s t : List S99) (i : Nat), l.drop i = s → m.drop i = t → Ev (fun k => spec_l6Rows.l0 k (i : Int) l m) (eqRows s t) := by
  intro s
  induction s with
  | nil =>
    intro t i hd he
    have := drop_nil' hd
    have ht : t = [] := by rw [← he]; exact List.drop_eq_nil_iff.2 (by omega)
    subst ht
    exact Ev.s (fun k => by rw [spec_l6Rows.l0]) (Ev.e (by omega) (Ev.p.r (by rfl)))
  | cons x s ih =>
    intro t i hd he
    obtain ⟨hi, hd', hx, -⟩ := drop_cons' hd
    cases t with
    | nil => have := drop_nil' he; omega
    | cons y t =>
      obtain ⟨hj, he', hy, -⟩ := drop_cons' he
      refine Ev.s (fun k => by rw [spec_l6Rows.l0]) (Ev.t (by omega) (Ev.t (by omega) (Ev.t (by omega) ?_)))
      rw [rdR, rdR, hx, hy]
      refine Ev.i (fun h => ?_) (fun h => ?_)
      · rw [w64s hi (by omega)]
        exact (ih t (i + 1) hd' he').r (by have h' : eqRow x y = true := h; simp [eqRows, h'])
      · exact Ev.p.r (by have h' : ¬ eqRow x y = true := h; simp [eqRows, h'])
theorem spec_l6Rows_ev (l m : List S99) (hl : l.length ≤ 1152921504606846975) : Ev (fun k => spec_l6Rows.f k l m) (eqRows l m) :=
  Ev.u (fun _ => rfl) (Ev.i (fun h => spec_l6Rows_l0 l m hl (by omega) l m 0 rfl rfl) (fun h => Ev.p.r (eqRows_ne (by omega)).symm))
theorem impl_clone_eq (l : List S99) (hl : l.length ≤ 5864062014805) : impl_clone.f l = some l := by
  unfold impl_clone.f; rw [if_pos hl]
def nKey (key : Int) (l : List S99) : Nat := l.countP fun x => x.f0 == key
def hBit (key level : Int) : Int := if inB level 0 3 && inB key 0 9 then andI (shrI (Int.tmod (key * 7) 16) level) 1 else 0
def hb (level : Int) (x : S99) : Bool := hBit x.f0 level == 0
theorem rdB (l : List Bool) (i : Nat) : rdOf false l (i : Int) = l.getD i false := rfl
theorem rdI (l : List Int) (i : Nat) : rdOf 0 l (i : Int) = l.getD i 0 := rfl
def tsz (t : S27) : Nat := t.f1.length + t.f2.length + t.f3.length
theorem impl_IsValidJoinKind_eq (a : Int) : impl_IsValidJoinKind.f a = some (inB a 1 4) := by unfold impl_IsValidJoinKind.f; rw [within_eq]; rfl
theorem spec_IsValidJoinKind_eq (a : Int) : spec_IsValidJoinKind.f a = some (inB a 1 4) := by unfold spec_IsValidJoinKind.f; rw [l1In_eq]; rfl
def vTask (t : S27) : Bool := inB t.f0 1 4 && (vRows t.f1 && (vRows t.f2 && (decide (t.f3.length = t.f1.length) && inB t.f4 0 4)))
theorem impl_IsValidTask_ev (t : S27) (h : tsz t ≤ 1152921504606846975) : Ev (fun k => impl_IsValidTask.f k t.f0 t.f1 t.f2 t.f3 t.f4) (vTask t) := by
  unfold tsz at h
  refine Ev.u (fun _ => rfl) (Ev.b (Ev.c (impl_IsValidJoinKind_eq _)) (Ev.i (fun a => Ev.b (impl_AreValidRows_ev _ (by omega)) (Ev.i (fun b => Ev.b (impl_AreValidRows_ev _ (by omega)) (Ev.i (fun c => Ev.i (fun d => Ev.b (Ev.c (within_eq _ _ _)) (Ev.p.r ?_)) (fun d => Ev.p.r ?_)) (fun c => Ev.p.r ?_))) (fun b => Ev.p.r ?_))) (fun a => Ev.p.r ?_)))
  · have : t.f3.length = t.f1.length := by omega
    simp [vTask, a, b, c, this]
  · have : ¬ t.f3.length = t.f1.length := by omega
    simp [vTask, a, b, c, this]
  · simp [vTask, a, b, c]
  · simp [vTask, a, b]
  · simp [vTask, a]
theorem spec_IsValidTask_ev (t : S27) (h : tsz t ≤ 1152921504606846975) : Ev (fun k => spec_IsValidTask.f k t.f0 t.f1 t.f2 t.f3 t.f4) (vTask t) := by
  unfold tsz at h
  refine Ev.u (fun _ => rfl) (Ev.b (Ev.c (spec_IsValidJoinKind_eq _)) (Ev.i (fun a => Ev.b (spec_AreValidRows_ev _ (by omega)) (Ev.i (fun b => Ev.b (spec_AreValidRows_ev _ (by omega)) (Ev.i (fun c => Ev.i (fun d => Ev.b (Ev.c (l1In_eq _ _ _)) (Ev.p.r ?_)) (fun d => Ev.p.r ?_)) (fun c => Ev.p.r ?_))) (fun b => Ev.p.r ?_))) (fun a => Ev.p.r ?_)))
  · have : t.f3.length = t.f1.length := by omega
    simp [vTask, a, b, c, this]
  · have : ¬ t.f3.length = t.f1.length := by omega
    simp [vTask, a, b, c, this]
  · simp [vTask, a, b, c]
  · simp [vTask, a, b]
  · simp [vTask, a]
theorem vRows_len {l : List S99} (h : vRows l = true) : l.length ≤ 24 := by
  unfold vRows at h; rw [Bool.and_eq_true] at h; exact of_decide_eq_true h.2
structure VT (t : S27) : Prop where
  kind : 1 ≤ t.f0 ∧ t.f0 ≤ 4
  left : vRows t.f1 = true
  right : vRows t.f2 = true
  len : t.f3.length = t.f1.length
  level : 0 ≤ t.f4 ∧ t.f4 ≤ 4
theorem vTask_iff {t : S27} : vTask t = true ↔ VT t := by
  unfold vTask
  constructor
  · intro h; simp [inB] at h; exact ⟨h.1, h.2.1, h.2.2.1, h.2.2.2.1, h.2.2.2.2⟩
  · intro h; simp [inB]; exact ⟨h.kind, h.left, h.right, h.len, h.level⟩
theorem VT.b {t : S27} (h : VT t) : t.f1.length ≤ 24 ∧ t.f2.length ≤ 24 ∧ t.f3.length ≤ 24 := ⟨vRows_len h.left, vRows_len h.right, by rw [h.len]; exact vRows_len h.left⟩
def bSide (t : S27) (g : Int) : Int := if vTask t = true then (if t.f0 = 1 ∧ tCost t.f1 < tCost t.f2 ∧ tCost t.f1 ≤ g then 1 else if tCost t.f2 ≤ g then 2 else 0) else 0
theorem impl_BuildSide_ev (t : S27) (g : Int) (h : tsz t ≤ 1125899906842624) : Ev (fun k => impl_BuildSide.f k t.f0 t.f1 t.f2 t.f3 t.f4 g) (bSide t g) := by
  have hv := impl_IsValidTask_ev t (by omega)
  unfold tsz at h
  refine Ev.u (fun _ => rfl) (Ev.b hv (Ev.i (fun a => Ev.b (impl_TotalCost_ev _ (by omega)) (Ev.b (impl_TotalCost_ev _ (by omega)) (Ev.i (fun b => Ev.i (fun c => Ev.i (fun d => Ev.p.r ?_) (fun d => Ev.i (fun e => Ev.p.r ?_) (fun e => Ev.p.r ?_))) (fun c => Ev.i (fun e => Ev.p.r ?_) (fun e => Ev.p.r ?_))) (fun b => Ev.i (fun e => Ev.p.r ?_) (fun e => Ev.p.r ?_))))) (fun a => Ev.p.r ?_)))
  all_goals (unfold bSide; first | (rw [if_neg a]; done) | (rw [if_pos a]; (repeat' split) <;> omega))
theorem spec_BuildSide_j0 (t : S27) (g a b : Int) (h : tsz t ≤ 1125899906842624) : Ev (fun k => spec_BuildSide.j0 k g a b t.f1 t.f2 t.f3) (if tCost t.f2 ≤ g then 2 else 0) := by
  unfold tsz at h
  refine Ev.s (fun k => by rw [spec_BuildSide.j0]) (Ev.b (spec_TotalCost_ev _ (by omega)) (Ev.i (fun e => Ev.p.r ?_) (fun e => Ev.p.r ?_)))
  · rw [if_pos e]
  · rw [if_neg e]
theorem spec_BuildSide_ev (t : S27) (g : Int) (h : tsz t ≤ 1125899906842624) : Ev (fun k => spec_BuildSide.f k t.f0 t.f1 t.f2 t.f3 t.f4 g) (bSide t g) := by
  have hv := spec_IsValidTask_ev t (by omega)
  have hj := fun a b => spec_BuildSide_j0 t g a b h
  unfold tsz at h
  refine Ev.u (fun _ => rfl) (Ev.b hv (Ev.i (fun a => Ev.i (fun b => Ev.b (spec_TotalCost_ev _ (by omega)) (Ev.b (spec_TotalCost_ev _ (by omega)) (Ev.i (fun c => Ev.b (spec_TotalCost_ev _ (by omega)) (Ev.i (fun d => Ev.p.r ?_) (fun d => (hj _ _).r ?_))) (fun c => (hj _ _).r ?_)))) (fun b => (hj _ _).r ?_)) (fun a => Ev.p.r ?_)))
  all_goals (unfold bSide; first | (rw [if_neg a]; done) | (rw [if_pos a]; (repeat' split) <;> omega))
def zl (t : S27) : List (S99 × Bool) := t.f1.zip t.f3
theorem VT.p {t : S27} (h : VT t) : tsz t ≤ 72 := by have := h.b; unfold tsz; omega
theorem vRows_iff {l : List S99} : vRows l = true ↔ vAll l = true ∧ l.length ≤ 24 := by unfold vRows; rw [Bool.and_eq_true, decide_eq_true_iff]
def jm (c : List S99) (p : S99 × Bool) : Bool := p.2 || decide (nKey p.1.f0 c ≠ 0)
def jT (t : S27) (c : List S99) : S27 := if vTask t = true then { t with f3 := (zl t).map (jm c) } else t
theorem spec_l16Copy_eq (t : S27) (h : tsz t ≤ 1099511627776) : spec_l16Copy.f t.f0 t.f1 t.f2 t.f3 t.f4 = some (t.f0, t.f1, t.f2, t.f3, t.f4) := by
  unfold tsz at h
  unfold spec_l16Copy.f
  rw [if_pos (by omega), if_pos (by omega), if_pos (by omega)]
def nTk (kind : Int) (a b : List S99) : Bool := inB kind 1 4 && (vRows a && vRows b)
def newT (kind : Int) (a b : List S99) : S27 := if nTk kind a b = true then ⟨kind, a, b, List.replicate a.length false, 0⟩ else z27
abbrev ttup (t : S27) (r : Bool) : Int × List S99 × List S99 × List Bool × Int × Bool := (t.f0, t.f1, t.f2, t.f3, t.f4, r)
theorem newT_no {kind : Int} {a b : List S99} (h : nTk kind a b = false) : ttup (newT kind a b) (nTk kind a b) = (0, [], [], [], 0, false) := by simp [ttup, newT, h, z27]
theorem impl_NewTask_ev (kind : Int) (a b : List S99) (ha : a.length ≤ 1099511627776) (hb : b.length ≤ 1099511627776) : Ev (fun k => impl_NewTask.f k kind a b) (ttup (newT kind a b) (nTk kind a b)) := by
  refine Ev.u (fun _ => rfl) (Ev.b (Ev.c (impl_IsValidJoinKind_eq _)) (Ev.i (fun h1 => Ev.b (impl_AreValidRows_ev _ (by omega)) (Ev.i (fun h2 => Ev.b (impl_AreValidRows_ev _ (by omega)) (Ev.i (fun h3 => Ev.t (by omega) (Ev.t (by simp; omega) (Ev.b (Ev.c (impl_clone_eq _ (by omega))) (Ev.b (Ev.c (impl_clone_eq _ (by omega))) (Ev.p.r ?_))))) (fun h3 => Ev.p.r ?_))) (fun h2 => Ev.p.r ?_))) (fun h1 => Ev.p.r ?_)))
  · simp [ttup, newT, nTk, h1, h2, h3]
  all_goals (rw [newT_no (by simp [nTk, *])])
theorem spec_NewTask_ev (kind : Int) (a b : List S99) (ha : a.length ≤ 1099511627776) (hb : b.length ≤ 1099511627776) : Ev (fun k => spec_NewTask.f k kind a b) (ttup (newT kind a b) (nTk kind a b)) := by
  refine Ev.u (fun _ => rfl) (Ev.b (Ev.c (spec_IsValidJoinKind_eq _)) (Ev.i (fun h1 => Ev.b (spec_AreValidRows_ev _ (by omega)) (Ev.i (fun h2 => Ev.b (spec_AreValidRows_ev _ (by omega)) (Ev.i (fun h3 => Ev.t (by omega) (Ev.t (by omega) (Ev.t (by omega) (Ev.t (by simp; omega) (Ev.p.r ?_))))) (fun h3 => Ev.p.r ?_))) (fun h2 => Ev.p.r ?_))) (fun h1 => Ev.p.r ?_)))
  · simp [ttup, newT, nTk, h1, h2, h3]
  all_goals (rw [newT_no (by simp [nTk, *])])
theorem newT_VT {kind : Int} {a b : List S99} (h : nTk kind a b = true) : VT (newT kind a b) := by
  have h' := h
  simp [nTk, inB] at h'
  rw [newT, if_pos h]
  exact ⟨h'.1, h'.2.1, h'.2.2, by simp, by simp⟩

theorem bSide_012 (t : S27) (g : Int) : bSide t g = 0 ∨ bSide t g = 1 ∨ bSide t g = 2 := by
  unfold bSide; (repeat' split) <;> simp
theorem jT_vt {t : S27} (h : VT t) (c : List S99) : jT t c = { t with f3 := (zl t).map (jm c) } := by unfold jT; rw [if_pos (vTask_iff.2 h)]
theorem andI_255 (a : Int) : 0 ≤ andI a 255 ∧ andI a 255 ≤ 255 := by
  unfold andI
  have h1 : (BitVec.ofInt 64 a &&& BitVec.ofInt 64 255).toNat ≤ 255 := by
    rw [BitVec.toNat_and]
    exact Nat.and_le_right
  rw [w64 (by omega) (by omega)]
  omega
def Rd (l : List Int) (p : Int) : Prop := 0 ≤ p ∧ p ≤ (l.length : Int) ∧ l.length ≤ 1099511627776
theorem l1Byte_ex (l : List Int) (p z : Int) (h : Rd l p) : ∃ v p' z', spec_l1Byte.f l p z = some (v, p', z') ∧ 0 ≤ v ∧ v ≤ 255 ∧ Rd l p' := by
  obtain ⟨h0, h1, h2⟩ := h
  unfold spec_l1Byte.f
  by_cases hp : p < (l.length : Int)
  · rw [if_pos hp, if_pos h0]
    refine ⟨_, _, _, rfl, (andI_255 _).1, (andI_255 _).2, ?_⟩
    rw [w64 (by omega) (by omega)]
    exact ⟨by omega, by omega, h2⟩
  · rw [if_neg hp]
    exact ⟨_, _, _, rfl, (andI_255 _).1, (andI_255 _).2, h0, h1, h2⟩
theorem l1Below_ex (l : List Int) (p z n : Int) (h : Rd l p) (hn : n ≤ 256) : ∃ v p' z', spec_l1Below.f l p z n = some (v, p', z') ∧ 0 ≤ v ∧ (v < n ∨ (n ≤ 0 ∧ v = 0)) ∧ Rd l p' := by
  unfold spec_l1Below.f
  by_cases h0 : n ≤ 0
  · rw [if_pos h0]; exact ⟨0, p, z, rfl, by omega, .inr ⟨h0, rfl⟩, h⟩
  · rw [if_neg h0, if_pos hn]
    obtain ⟨v, p', z', e, v0, v1, hr⟩ := l1Byte_ex l p z h
    rw [ob e, if_pos (by omega)]
    have e2 : Int.tmod v n = v % n := Int.tmod_eq_emod_of_nonneg v0
    refine ⟨_, _, _, rfl, ?_, .inl ?_, hr⟩
    · show 0 ≤ Int.tmod v n
      rw [e2]; exact Int.emod_nonneg _ (by omega)
    · show Int.tmod v n < n
      rw [e2]; exact Int.emod_lt_of_pos _ (by omega)
theorem l1Once_ex (l : List Int) (p z n : Int) (h : Rd l p) (hn : n ≤ 256) : ∃ b p' z', spec_l1Once.f l p z n = some (b, p', z') ∧ Rd l p' := by
  obtain ⟨v, p', z', e, -, -, hr⟩ := l1Below_ex l p z n h hn
  unfold spec_l1Once.f
  rw [ob e]
  exact ⟨_, _, _, rfl, hr⟩
theorem l1PickInt_ex (l : List Int) (p z : Int) (c : List Int) (h : Rd l p) (hc : 0 < c.length) (hn : c.length ≤ 256) : ∃ v p' z', spec_l1PickInt.f l p z c = some (v, p', z') ∧ v ∈ c ∧ Rd l p' := by
  obtain ⟨v, p', z', e, v0, v1, hr⟩ := l1Below_ex l p z (c.length : Int) h (by omega)
  unfold spec_l1PickInt.f
  rw [ob e]
  show ∃ v' q q', (if 0 ≤ v then (if v < (c.length : Int) then some (rdOf 0 c v, p', z') else none) else none) = some (v', q, q') ∧ _
  rw [if_pos v0, if_pos (by omega)]
  refine ⟨_, _, _, rfl, ?_, hr⟩
  obtain ⟨n, rfl⟩ : ∃ n : Nat, v = n := ⟨v.toNat, by omega⟩
  rw [rdI, List.getD_eq_getElem?_getD, List.getElem?_eq_getElem (by omega)]
  exact List.getElem_mem (by omega)
theorem l2Row_ex (l : List Int) (p z n : Int) (h : Rd l p) (hn : n ≤ 256) : ∃ a b c p' z', spec_l2Row.f l p z n = some (a, b, c, p', z') ∧ 0 ≤ a ∧ (a < n ∨ (n ≤ 0 ∧ a = 0)) ∧ 0 ≤ b ∧ b ≤ 99 ∧ 0 ≤ c ∧ c ≤ 3 ∧ Rd l p' := by
  obtain ⟨v1, p1, z1, e1, a0, a1, h1⟩ := l1Below_ex l p z n h hn
  obtain ⟨v2, p2, z2, e2, b0, b1, h2⟩ := l1Below_ex l p1 z1 100 h1 (by omega)
  obtain ⟨v3, p3, z3, e3, c0, h3⟩ := l1PickInt_ex l p2 z2 [0, 0, 1, 2, 3] h2 (by simp) (by simp)
  unfold spec_l2Row.f
  rw [ob e1, ob e2, ob e3]
  refine ⟨_, _, _, _, _, rfl, a0, a1, b0, by omega, ?_, ?_, h3⟩
  · simp at c0; show 0 ≤ v3; omega
  · simp at c0; show v3 ≤ 3; omega

theorem l2Rows_l0 (l : List Int) (n : Int) (hn : 1 ≤ n ∧ n ≤ 10) : ∀ (m : Nat) (R : List S99) (p z : Int), Rd l p → vAll R = true → R.length + m ≤ 1000 → ∃ R' p' z', Ev (fun k => spec_l2Rows.l0 k R n (m : Int) p z l) (R', p', z') ∧ vAll R' = true ∧ R'.length = R.length + m ∧ Rd l p' := by
  intro m
  induction m with
  | zero =>
    intro R p z h hv hR
    exact ⟨R, p, z, Ev.s (fun k => by rw [spec_l2Rows.l0]) (Ev.e (by omega) Ev.p), hv, rfl, h⟩
  | succ m ih =>
    intro R p z h hv hR
    obtain ⟨a, b, c, p', z', e, a0, a1, b0, b1, c0, c1, hr⟩ := l2Row_ex l p z n h (by omega)
    have hv' : vAll (R ++ [⟨a, b, c⟩]) = true := by
      unfold vAll at hv ⊢
      rw [List.all_append, hv]
      simp [vRow, inB]; omega
    obtain ⟨R', p2, z2, e2, v2, l2, r2⟩ := ih (R ++ [⟨a, b, c⟩]) p' z' hr hv' (by simp; omega)
    refine ⟨R', p2, z2, ?_, v2, by rw [l2]; simp; omega, r2⟩
    refine Ev.s (fun k => by rw [spec_l2Rows.l0]) ?_
    rw [show wrap64 (((m + 1 : Nat) : Int) - 1) = (m : Int) by rw [w64 (by omega) (by omega)]; omega]
    refine Ev.t (by omega) (Ev.b (Ev.c e) ?_)
    exact Ev.t (by omega) e2
theorem l2Rows_ex (l : List Int) (p z n : Int) (h : Rd l p) (hn : 0 ≤ n ∧ n ≤ 100) : ∃ R p' z', Ev (fun k => spec_l2Rows.f k l p z n) (R, p', z') ∧ vAll R = true ∧ (R.length : Int) ≤ n ∧ Rd l p' := by
  obtain ⟨v1, p1, z1, e1, m1, h1⟩ := l1PickInt_ex l p z [1, 2, 4, 10] h (by simp) (by simp)
  obtain ⟨v2, p2, z2, e2, b0, b1, h2⟩ := l1Below_ex l p1 z1 (n + 1) h1 (by omega)
  have hv : 1 ≤ v1 ∧ v1 ≤ 10 := by simp at m1; omega
  obtain ⟨w, rfl⟩ : ∃ w : Nat, v2 = w := ⟨v2.toNat, by omega⟩
  obtain ⟨R, p', z', e, hvR, hl, hr⟩ := l2Rows_l0 l v1 hv w [] p2 z2 h2 rfl (by simp; omega)
  refine ⟨R, p', z', Ev.u (fun _ => rfl) (Ev.b (Ev.c e1) ?_), hvR, by rw [hl]; simp; omega, hr⟩
  rw [w64 (x := n + 1) (by omega) (by omega)]
  exact Ev.b (Ev.c e2) e
theorem l2Any_ex (l : List Int) (p z : Int) (h : Rd l p) : ∃ a b c p' z', spec_l2Any.f l p z = some (a, b, c, p', z') ∧ Rd l p' := by
  obtain ⟨a, b, c, p1, z1, e1, -, -, -, -, -, -, h1⟩ := l2Row_ex l p z 10 h (by omega)
  obtain ⟨v, p2, z2, e2, -, -, h2⟩ := l1Below_ex l p1 z1 8 h1 (by omega)
  unfold spec_l2Any.f
  rw [ob e1, ob e2]
  dsimp only
  by_cases k0 : v = 0
  · obtain ⟨w, p3, z3, e3, -, h3⟩ := l1PickInt_ex l p2 z2 [-1, 10] h2 (by simp) (by simp)
    rw [if_pos k0, ob e3]; exact ⟨_, _, _, _, _, rfl, h3⟩
  rw [if_neg k0]
  by_cases k1 : v = 1
  · obtain ⟨w, p3, z3, e3, -, h3⟩ := l1PickInt_ex l p2 z2 [-1, 100, 99] h2 (by simp) (by simp)
    rw [if_pos k1, ob e3]; exact ⟨_, _, _, _, _, rfl, h3⟩
  rw [if_neg k1]
  by_cases k2 : v = 2
  · obtain ⟨w, p3, z3, e3, -, h3⟩ := l1PickInt_ex l p2 z2 [-1, 4] h2 (by simp) (by simp)
    rw [if_pos k2, ob e3]; exact ⟨_, _, _, _, _, rfl, h3⟩
  rw [if_neg k2]; exact ⟨_, _, _, _, _, rfl, h2⟩
theorem l2Bent_ex (l : List Int) (p z n : Int) (h : Rd l p) (hn : 0 ≤ n ∧ n ≤ 100) : ∃ R p' z', Ev (fun k => spec_l2Bent.f k l p z n) (R, p', z') ∧ (R.length : Int) ≤ n + 1 ∧ Rd l p' := by
  obtain ⟨R, p1, z1, e1, -, hl, h1⟩ := l2Rows_ex l p z n h hn
  obtain ⟨b, p2, z2, e2, h2⟩ := l1Once_ex l p1 z1 14 h1 (by omega)
  cases b with
  | true =>
    obtain ⟨a, b, c, p3, z3, e3, h3⟩ := l2Any_ex l p2 z2 h2
    refine ⟨R ++ [⟨a, b, c⟩], p3, z3, Ev.u (fun _ => rfl) (Ev.b e1 (Ev.b (Ev.c e2) (Ev.t rfl (Ev.b (Ev.c e3) ?_)))), by simp; omega, h3⟩
    exact Ev.t (by show R.length < _; omega) Ev.p
  | false => exact ⟨R, p2, z2, Ev.u (fun _ => rfl) (Ev.b e1 (Ev.b (Ev.c e2) (Ev.e (by simp) Ev.p))), by omega, h2⟩

theorem l1New_ev (l : List Int) (hl : l.length ≤ 1048576) : ∃ z', Ev (fun k => spec_l1New.f k l) (0, z') := by
  have J : ∀ z : Int, Ev (fun k => spec_l1New.j0 k z l) (0, z) := fun z => Ev.s (fun k => by rw [spec_l1New.j0]) Ev.p
  have L : ∀ (s : List Int) (i : Nat) (z : Int), l.drop i = s → ∃ z', Ev (fun k => spec_l1New.l0 k z (i : Int) l) (0, z') := by
    intro s
    induction s with
    | nil =>
      intro i z hd
      have := drop_nil' hd
      exact ⟨z, Ev.s (fun k => by rw [spec_l1New.l0]) (Ev.e (by omega) (J z))⟩
    | cons x t ih =>
      intro i z hd
      obtain ⟨hi, hd', hx, -⟩ := drop_cons' hd
      by_cases h4 : (i : Int) < 4000
      · obtain ⟨z', e⟩ := ih (i + 1) _ hd'
        refine ⟨z', Ev.s (fun k => by rw [spec_l1New.l0]) ?_⟩
        rw [w64s hi (by omega)]
        exact Ev.t (by omega) (Ev.t h4 (Ev.t (by omega) e))
      · exact ⟨z, Ev.s (fun k => by rw [spec_l1New.l0]) (Ev.t (by omega) (Ev.e h4 (J z)))⟩
  obtain ⟨z', e⟩ := L l 0 _ rfl
  exact ⟨z', Ev.u (fun _ => rfl) e⟩
theorem l7Kind_ex (l : List Int) (p z : Int) (h : Rd l p) : ∃ v p' z', spec_l7Kind.f l p z = some (v, p', z') ∧ Rd l p' := by
  obtain ⟨b, p1, z1, e1, h1⟩ := l1Once_ex l p z 14 h (by omega)
  unfold spec_l7Kind.f
  rw [ob e1]
  cases b with
  | true =>
    obtain ⟨w, p3, z3, e3, -, h3⟩ := l1PickInt_ex l p1 z1 [0, 5] h1 (by simp) (by simp)
    dsimp only
    rw [if_pos rfl, ob e3]; exact ⟨_, _, _, rfl, h3⟩
  | false =>
    obtain ⟨w, p3, z3, e3, -, -, h3⟩ := l1Below_ex l p1 z1 4 h1 (by omega)
    dsimp only
    rw [if_neg (by simp), ob e3]; exact ⟨_, _, _, rfl, h3⟩
theorem Rd0 (l : List Int) (hl : l.length ≤ 1048576) : Rd l 0 := ⟨by omega, by omega, by omega⟩
theorem VT.jT {t : S27} (h : VT t) (c : List S99) : VT (jT t c) := by
  rw [jT_vt h]
  refine ⟨h.kind, h.left, h.right, ?_, h.level⟩
  show ((zl t).map (jm _)).length = t.f1.length
  have := h.len
  simp [zl]; omega
theorem bSide_1 {t : S27} {g : Int} (h : bSide t g = 1) : tCost t.f1 ≤ g := by
  unfold bSide at h; split at h
  · split at h
    · rename_i k; exact k.2.2
    · split at h <;> omega
  · omega
theorem bSide_2 {t : S27} {g : Int} (h : bSide t g = 2) : tCost t.f2 ≤ g := by
  unfold bSide at h; split at h
  · split at h
    · omega
    · split at h
      · assumption
      · omega
  · omega
theorem eqRows_refl (a : List S99) : eqRows a a = true := eqRows_iff.2 rfl
theorem spec_EqualTasks_ev (t : S27) (h : tsz t ≤ 1048576) : Ev (fun k => spec_EqualTasks.f k t.f0 t.f1 t.f2 t.f3 t.f4 t.f0 t.f1 t.f2 t.f3 t.f4) true := by
  unfold tsz at h
  have L : ∀ (s : List Bool) (i : Nat), t.f3.drop i = s → Ev (fun k => spec_EqualTasks.l0 k (i : Int) t.f0 t.f4 t.f0 t.f4 t.f1 t.f2 t.f3 t.f1 t.f2 t.f3) true := by
    intro s
    induction s with
    | nil =>
      intro i hd
      have := drop_nil' hd
      exact Ev.s (fun k => by rw [spec_EqualTasks.l0]) (Ev.e (by omega) Ev.p)
    | cons x s ih =>
      intro i hd
      obtain ⟨hi, hd', hx, -⟩ := drop_cons' hd
      refine Ev.s (fun k => by rw [spec_EqualTasks.l0]) (Ev.t (by omega) (Ev.t (by omega) (Ev.t (by omega) (Ev.t (by simp) ?_))))
      rw [w64s hi (by omega)]
      exact ih (i + 1) hd'
  exact Ev.u (fun _ => rfl) (Ev.t rfl (Ev.b ((spec_l6Rows_ev t.f1 t.f1 (by omega)).r (eqRows_refl _)) (Ev.t rfl (Ev.b ((spec_l6Rows_ev t.f2 t.f2 (by omega)).r (eqRows_refl _)) (Ev.t rfl (Ev.t rfl (Ev.t rfl (L t.f3 0 rfl))))))))
theorem big_eq (l : List Int) : laws_big.f l = some (decide ((l.length : Int) > 1048576)) := rfl

theorem l11Grant_ex (l : List Int) (p z : Int) (h : Rd l p) : ∃ g p' z', spec_l11Grant.f l p z = some (g, p', z') ∧ Rd l p' := by
  obtain ⟨b, p1, z1, e1, h1⟩ := l1Once_ex l p z 14 h (by omega)
  unfold spec_l11Grant.f
  rw [ob e1]
  cases b with
  | true =>
    obtain ⟨w, p3, z3, e3, -, h3⟩ := l1PickInt_ex l p1 z1 [7, 61] h1 (by simp) (by simp)
    dsimp only
    rw [if_pos rfl, ob e3]; exact ⟨_, _, _, rfl, h3⟩
  | false =>
    obtain ⟨w, p3, z3, e3, -, h3⟩ := l1PickInt_ex l p1 z1 [8, 8, 9, 12, 20, 60] h1 (by simp) (by simp)
    dsimp only
    rw [if_neg (by simp), ob e3]; exact ⟨_, _, _, rfl, h3⟩
theorem newT_sz (q : Int) (a b : List S99) : tsz (newT q a b) ≤ 72 := by
  by_cases h : nTk q a b = true
  · exact (newT_VT h).p
  · unfold newT; rw [if_neg h]; decide
theorem l16Draw_l0 (l : List Int) (c0 c4 d0 d4 : Int) (c1 c2 d1 d2 : List S99) (c3 : List Bool) : ∀ (m i : Nat) (F : List Bool) (p z : Int), Rd l p → F.length = i + m → F.length ≤ 1000 → ∃ F' p' z', Ev (fun k => spec_l16Draw.l0 k (i : Int) p z c0 c1 c2 c3 c4 d0 d1 d2 F d4 l) (d0, d1, d2, F', d4, p', z') ∧ F'.length = F.length ∧ Rd l p' := by
  intro m
  induction m with
  | zero =>
    intro i F p z h hF h1
    exact ⟨F, p, z, Ev.s (fun k => by rw [spec_l16Draw.l0]) (Ev.e (by omega) Ev.p), rfl, h⟩
  | succ m ih =>
    intro i F p z h hF h1
    obtain ⟨b, p1, z1, e1, r1⟩ := l1Once_ex l p z 4 h (by omega)
    obtain ⟨F', p', z', e, hl, hr⟩ := ih (i + 1) (F.set ((i : Int)).toNat b) p1 z1 r1 (by simp; omega) (by simp; omega)
    refine ⟨F', p', z', Ev.s (fun k => by rw [spec_l16Draw.l0]) (Ev.t (by omega) (Ev.t (by omega) (Ev.b (Ev.c e1) ?_))), by rw [hl]; simp, hr⟩
    rw [w64s (show i < F.length by omega) (by omega)]
    exact e
theorem l16Draw_ex (l : List Int) (p z n : Int) (h : Rd l p) (hn : 0 ≤ n ∧ n ≤ 24) : ∃ t : S27, ∃ p' z', Ev (fun k => spec_l16Draw.f k l p z n) (t.f0, t.f1, t.f2, t.f3, t.f4, p', z') ∧ tsz t ≤ 72 ∧ Rd l p' := by
  obtain ⟨A, p1, z1, e1, -, a1, h1⟩ := l2Rows_ex l p z n h (by omega)
  obtain ⟨v, p2, z2, e2, v0, v1, h2⟩ := l1Below_ex l p1 z1 4 h1 (by omega)
  obtain ⟨B, p3, z3, e3, -, a3, h3⟩ := l2Rows_ex l p2 z2 n h2 (by omega)
  have e4 := spec_NewTask_ev (wrap64 (1 + v)) A B (by omega) (by omega)
  have hs := newT_sz (wrap64 (1 + v)) A B
  generalize newT (wrap64 (1 + v)) A B = t at *
  obtain ⟨b, p5, z5, e5, h5⟩ := l1Once_ex l p3 z3 3 h3 (by omega)
  cases b with
  | true =>
    obtain ⟨w, p6, z6, e6, -, -, h6⟩ := l1Below_ex l p5 z5 5 h5 (by omega)
    obtain ⟨F, p7, z7, e7, hF, h7⟩ := l16Draw_l0 l 0 0 t.f0 w [] [] t.f1 t.f2 [] t.f3.length 0 t.f3 p6 z6 h6 (by omega) (by unfold tsz at hs; omega)
    refine ⟨⟨t.f0, t.f1, t.f2, F, w⟩, p7, z7, Ev.u (fun _ => rfl) (Ev.b e1 (Ev.b (Ev.c e2) (Ev.b e3 (Ev.b e4 (Ev.b (Ev.c e5) (Ev.t rfl (Ev.b (Ev.c e6) e7))))))), ?_, h7⟩
    unfold tsz at *; dsimp only; omega
  | false => exact ⟨t, p5, z5, Ev.u (fun _ => rfl) (Ev.b e1 (Ev.b (Ev.c e2) (Ev.b e3 (Ev.b e4 (Ev.b (Ev.c e5) (Ev.e (by simp) Ev.p)))))), hs, h5⟩
theorem l16Any_ex (l : List Int) (p z n : Int) (h : Rd l p) (hn : 0 ≤ n ∧ n ≤ 24) : ∃ t : S27, ∃ p' z', Ev (fun k => spec_l16Any.f k l p z n) (t.f0, t.f1, t.f2, t.f3, t.f4, p', z') ∧ tsz t ≤ 73 ∧ Rd l p' := by
  obtain ⟨t, p1, z1, e1, hs, h1⟩ := l16Draw_ex l p z n h hn
  obtain ⟨v, p2, z2, e2, -, -, h2⟩ := l1Below_ex l p1 z1 16 h1 (by omega)
  unfold tsz at hs
  by_cases k0 : v = 0
  · obtain ⟨w, p3, z3, e3, -, h3⟩ := l1PickInt_ex l p2 z2 [0, 5] h2 (by simp) (by simp)
    exact ⟨⟨w, t.f1, t.f2, t.f3, t.f4⟩, p3, z3, Ev.u (fun _ => rfl) (Ev.b e1 (Ev.b (Ev.c e2) (Ev.t k0 (Ev.b (Ev.c e3) Ev.p)))), by unfold tsz; dsimp only; omega, h3⟩
  by_cases k1 : v = 1
  · exact ⟨⟨t.f0, t.f1, t.f2, t.f3 ++ [true], t.f4⟩, p2, z2, Ev.u (fun _ => rfl) (Ev.b e1 (Ev.b (Ev.c e2) (Ev.e k0 (Ev.t k1 (Ev.t (by show t.f3.length < _; omega) Ev.p))))), by unfold tsz; simp; omega, h2⟩
  by_cases k2 : v = 2
  · obtain ⟨w, p3, z3, e3, -, h3⟩ := l1PickInt_ex l p2 z2 [-1, 5] h2 (by simp) (by simp)
    exact ⟨⟨t.f0, t.f1, t.f2, t.f3, w⟩, p3, z3, Ev.u (fun _ => rfl) (Ev.b e1 (Ev.b (Ev.c e2) (Ev.e k0 (Ev.e k1 (Ev.t k2 (Ev.b (Ev.c e3) Ev.p)))))), by unfold tsz; dsimp only; omega, h3⟩
  by_cases k3 : v = 3
  · obtain ⟨a, b, c, p3, z3, e3, h3⟩ := l2Any_ex l p2 z2 h2
    exact ⟨⟨t.f0, t.f1 ++ [⟨a, b, c⟩], t.f2, t.f3, t.f4⟩, p3, z3, Ev.u (fun _ => rfl) (Ev.b e1 (Ev.b (Ev.c e2) (Ev.e k0 (Ev.e k1 (Ev.e k2 (Ev.t k3 (Ev.t (by show t.f1.length < _; omega) (Ev.b (Ev.c e3) Ev.p)))))))), by unfold tsz; simp; omega, h3⟩
  exact ⟨t, p2, z2, Ev.u (fun _ => rfl) (Ev.b e1 (Ev.b (Ev.c e2) (Ev.e k0 (Ev.e k1 (Ev.e k2 (Ev.e k3 Ev.p)))))), by unfold tsz; omega, h2⟩
abbrev ttup4 (t : S27) : Int × List S99 × List S99 × List Bool × Int := (t.f0, t.f1, t.f2, t.f3, t.f4)
def toB (l : List UInt8) : ByteArray := ⟨⟨l⟩⟩
def bs (s : ByteArray) : List UInt8 := s.data.toList
theorem bs_toB (l : List UInt8) : bs (toB l) = l := rfl
theorem toB_sz (l : List UInt8) : (toB l).size = l.length := rfl
theorem bs_len (s : ByteArray) : (bs s).length = s.size := rfl
theorem bs_inj {a b : ByteArray} (h : bs a = bs b) : a = b := ByteArray.ext (Array.toList_inj.1 h)
theorem toB_inj {a b : List UInt8} (h : toB a = toB b) : a = b := congrArg bs h
theorem bs_app (a b : ByteArray) : bs (a ++ b) = bs a ++ bs b := by unfold bs; rw [ByteArray.data_append, Array.toList_append]
theorem toB_app (a b : List UInt8) : toB a ++ toB b = toB (a ++ b) := bs_inj (bs_app _ _)
theorem toL_iff (a b : ByteArray) : a.toList = b.toList ↔ a = b := by
  rw [ByteArray.toList_eq, ByteArray.toList_eq]
  exact ⟨fun h => bs_inj h, fun h => congrArg bs h⟩
theorem toL_nil (a : ByteArray) : a.toList = (toB []).toList ↔ bs a = [] := by
  rw [toL_iff]; exact ⟨fun h => by rw [h]; rfl, fun h => bs_inj h⟩
theorem bt_drop {s : ByteArray} {i : Nat} {b : UInt8} {t : List UInt8} (h : (bs s).drop i = b :: t) : bt s (i : Int) = (b.toNat : Int) ∧ i < s.size ∧ (bs s).drop (i + 1) = t := by
  obtain ⟨hi, hd, hx, -⟩ := drop_cons' h
  rw [bs_len] at hi
  refine ⟨?_, hi, hd⟩
  unfold bt
  rw [Int.toNat_natCast, dif_pos hi]
  have : s[i] = b := by
    have e := hx 0
    rw [List.getD_eq_getElem?_getD, List.getElem?_eq_getElem (by rw [bs_len]; exact hi)] at e
    exact e
  rw [this]
theorem bs_extract (s : ByteArray) (f i : Nat) : s.extract f i = toB (((bs s).drop f).take (i - f)) := by
  apply bs_inj
  unfold bs
  rw [ByteArray.data_extract, Array.toList_extract, List.extract_eq_take_drop]
  rfl
theorem u8x {x : Int} (h0 : 0 ≤ x) (h1 : x < 256) : IntKind.u8.wrap x = x := by
  simp only [IntKind.wrap, IntKind.signed, IntKind.bits, Bool.false_and, Bool.false_eq_true, if_false]
  omega
theorem u64x {x : Int} (h0 : 0 ≤ x) (h1 : x < 18446744073709551616) : IntKind.u64.wrap x = x := by
  simp only [IntKind.wrap, IntKind.signed, IntKind.bits, Bool.false_and, Bool.false_eq_true, if_false]
  omega
theorem u64m {x : Int} (h0 : -9223372036854775808 ≤ x) (h1 : x < 0) : IntKind.u64.wrap (-(IntKind.u64.wrap x)) = -x := by
  simp only [IntKind.wrap, IntKind.signed, IntKind.bits, Bool.false_and, Bool.false_eq_true, if_false]
  omega
theorem i64x {x : Int} (h0 : -9223372036854775808 ≤ x) (h1 : x ≤ 9223372036854775807) : IntKind.i64.wrap x = x := by
  simp [IntKind.wrap, IntKind.signed, IntKind.bits]
  omega
def dg (n : Nat) : UInt8 := UInt8.ofNat (48 + n)
theorem dg_nat {n : Nat} (h : n < 10) : (dg n).toNat = 48 + n := (UInt8.toNat_ofNat' ..).trans (Nat.mod_eq_of_lt (Nat.lt_of_lt_of_le (show 48 + n < 58 by omega) (by decide)))
theorem strD {n : Nat} (h : n < 10) : strOfNums [IntKind.u8.wrap (wrap64 (48 + (n : Int)))] = toB [dg n] := by
  rw [w64 (by omega) (by omega), u8x (by omega) (by omega), show 48 + (n : Int) = ((48 + n : Nat) : Int) by omega]
  rfl
theorem strDu {n : Nat} (h : n < 10) : strOfNums [IntKind.u8.wrap (IntKind.u64.wrap (48 + (n : Int)))] = toB [dg n] := by
  rw [u64x (by omega) (by omega), u8x (by omega) (by omega), show 48 + (n : Int) = ((48 + n : Nat) : Int) by omega]
  rfl
def dgl (n : Nat) : List UInt8 := if h : n < 10 then [dg n] else dgl (n / 10) ++ [dg (n % 10)]
  termination_by n
theorem dgl_lt {n : Nat} (h : n < 10) : dgl n = [dg n] := by rw [dgl]; exact dif_pos h
theorem dgl_ge {n : Nat} (h : ¬ n < 10) : dgl n = dgl (n / 10) ++ [dg (n % 10)] := by rw [dgl]; exact dif_neg h
theorem dgl_len : ∀ (d n : Nat), n < 10 ^ (d + 1) → (dgl n).length ≤ d + 1 ∧ 1 ≤ (dgl n).length
  | 0, n, h => by rw [dgl_lt (by omega)]; simp
  | d + 1, n, h => by
    by_cases c : n < 10
    · rw [dgl_lt c]; simp
    · have := dgl_len d (n / 10) (by rw [Nat.pow_succ] at h; omega)
      rw [dgl_ge c, List.length_append, List.length_singleton]
      omega
theorem impl_decimal_ev : ∀ (d n : Nat), n < 10 ^ (d + 1) → n < 18446744073709551616 → d ≤ 30 → Ev (fun k => impl_decimal.f k (n : Int)) (toB (dgl n)) := by
  intro d
  induction d with
  | zero =>
    intro n h h2 h3
    refine Ev.s (fun k => by rw [impl_decimal.f]) (Ev.t (by omega) ?_)
    rw [strDu (by omega), dgl_lt (by omega)]; exact Ev.p
  | succ d ih =>
    intro n h h2 h3
    refine Ev.s (fun k => by rw [impl_decimal.f]) ?_
    by_cases c : n < 10
    · refine Ev.t (by omega) ?_
      rw [strDu c, dgl_lt c]; exact Ev.p
    · have hp : n / 10 < 10 ^ (d + 1) := by rw [Nat.pow_succ] at h; omega
      have hs := dgl_len d (n / 10) hp
      refine Ev.e (by omega) ?_
      rw [show Int.tdiv (n : Int) 10 = ((n / 10 : Nat) : Int) from rfl, u64x (x := ((n / 10 : Nat) : Int)) (by omega) (by omega), show Int.tmod (n : Int) 10 = ((n % 10 : Nat) : Int) from rfl, strDu (n := n % 10) (by omega)]
      refine Ev.b (ih (n / 10) hp (by omega) (by omega)) (Ev.t ?_ (Ev.p.r ?_))
      · show (dgl (n / 10)).length + 1 ≤ _; omega
      · rw [toB_app, dgl_ge c]
def fI (a : Int) : List UInt8 := if a < 0 then 45 :: dgl (-a).toNat else dgl a.toNat
theorem pow20 : 10 ^ (19 + 1) = 100000000000000000000 := by decide
theorem fI_len (a : Int) (h0 : -9223372036854775808 ≤ a) (h1 : a ≤ 9223372036854775807) : (fI a).length ≤ 21 ∧ 1 ≤ (fI a).length := by
  unfold fI
  split
  · have := dgl_len 19 (-a).toNat (by rw [pow20]; omega)
    rw [List.length_cons]; omega
  · have := dgl_len 19 a.toNat (by rw [pow20]; omega)
    omega
theorem impl_FormatInt_ev (a : Int) (h0 : -9223372036854775808 ≤ a) (h1 : a ≤ 9223372036854775807) : Ev (fun k => impl_FormatInt.f k a) (toB (fI a)) := by
  unfold fI
  refine Ev.u (fun _ => rfl) ?_
  by_cases c : a < 0
  · have hp : (-a).toNat < 10 ^ (19 + 1) := by rw [pow20]; omega
    have hs := dgl_len 19 (-a).toNat hp
    have hd := impl_decimal_ev 19 (-a).toNat hp (by omega) (by omega)
    rw [show (((-a).toNat : Nat) : Int) = -a by omega] at hd
    refine Ev.t c ?_
    rw [if_pos c, u64m h0 c]
    refine Ev.b hd (Ev.t ?_ (Ev.p.r ?_))
    · show 1 + (dgl (-a).toNat).length ≤ _; omega
    · exact toB_app [45] _
  · have hp : a.toNat < 10 ^ (19 + 1) := by rw [pow20]; omega
    have hd := impl_decimal_ev 19 a.toNat hp (by omega) (by omega)
    rw [show ((a.toNat : Nat) : Int) = a by omega] at hd
    refine Ev.e c ?_
    rw [if_neg c, u64x (by omega) (by omega)]
    exact Ev.b hd Ev.p
def dlz (n : Nat) : List UInt8 := if n = 0 then [] else dgl n
theorem dlz_step (n : Nat) (h : n ≠ 0) (acc : List UInt8) : dlz (n / 10) ++ ([dg (n % 10)] ++ acc) = dlz n ++ acc := by
  unfold dlz
  rw [if_neg h]
  by_cases c : n < 10
  · rw [if_pos (by omega), show n % 10 = n by omega, dgl_lt c]; rfl
  · rw [if_neg (by omega), dgl_ge c, List.append_assoc]
def ng1 (b : Bool) : List UInt8 := if b = true then [45] else []
theorem spec_FormatInt_l0 : ∀ (d n : Nat) (x : Int) (acc : List UInt8) (b : Bool), (x = (n : Int) ∨ x = -(n : Int)) → n < 10 ^ d → n ≤ 9223372036854775808 → d ≤ 30 → acc.length + d ≤ 1000 → Ev (fun k => spec_FormatInt.l0 k x (toB acc) b) (toB (ng1 b ++ (dlz n ++ acc))) := by
  have Z : ∀ (acc : List UInt8) (b : Bool), acc.length ≤ 1000 → Ev (fun k => spec_FormatInt.l0 k 0 (toB acc) b) (toB (ng1 b ++ (dlz 0 ++ acc))) := by
    intro acc b ha
    refine Ev.s (fun k => by rw [spec_FormatInt.l0]) (Ev.t rfl ?_)
    cases b with
    | true => exact Ev.t rfl (Ev.t (by show 1 + acc.length ≤ _; omega) (Ev.p.r (toB_app [45] acc)))
    | false => exact Ev.e (by simp) (Ev.p.r rfl)
  intro d
  induction d with
  | zero =>
    intro n x acc b hx h h2 h3 ha
    have hn : n = 0 := by simpa using h
    subst hn
    have hx0 : x = 0 := by omega
    subst hx0
    exact Z acc b (by omega)
  | succ d ih =>
    intro n x acc b hx h h2 h3 ha
    by_cases hn : n = 0
    · subst hn
      have hx0 : x = 0 := by omega
      subst hx0
      exact Z acc b (by omega)
    have hp : n / 10 < 10 ^ d := by rw [Nat.pow_succ] at h; omega
    have J : ∀ y : Int, y = ((n % 10 : Nat) : Int) → Ev (fun k => spec_FormatInt.j0 k x (toB acc) b y) (toB (ng1 b ++ (dlz n ++ acc))) := by
      intro y hy
      subst hy
      refine Ev.s (fun k => by rw [spec_FormatInt.j0]) ?_
      rw [strD (n := n % 10) (by omega), toB_app]
      refine Ev.t (by show 1 + acc.length ≤ _; omega) ?_
      have e : wrap64 (Int.tdiv x 10) = ((n / 10 : Nat) : Int) ∨ wrap64 (Int.tdiv x 10) = -((n / 10 : Nat) : Int) := by
        rcases hx with rfl | rfl
        · left; rw [show Int.tdiv (n : Int) 10 = ((n / 10 : Nat) : Int) from rfl, w64 (by omega) (by omega)]
        · right; rw [Int.neg_tdiv, show Int.tdiv (n : Int) 10 = ((n / 10 : Nat) : Int) from rfl, w64 (by omega) (by omega)]
      refine (ih (n / 10) _ ([dg (n % 10)] ++ acc) b e hp (by omega) (by omega) (by simp; omega)).r ?_
      rw [dlz_step n hn]
    refine Ev.s (fun k => by rw [spec_FormatInt.l0]) (Ev.e (by omega) ?_)
    rcases hx with hx | hx
    · have e : Int.tmod x 10 = ((n % 10 : Nat) : Int) := by rw [hx]; rfl
      rw [e]
      exact Ev.e (by omega) (J _ rfl)
    · have e : Int.tmod x 10 = -((n % 10 : Nat) : Int) := by rw [hx, Int.neg_tmod]; rfl
      rw [e, w64 (x := -(-((n % 10 : Nat) : Int))) (by omega) (by omega)]
      exact Ev.i (fun _ => J _ (by omega)) (fun _ => J _ (by omega))
theorem spec_FormatInt_ev (a : Int) (h0 : -9223372036854775808 ≤ a) (h1 : a ≤ 9223372036854775807) : Ev (fun k => spec_FormatInt.f k a) (toB (fI a)) := by
  unfold fI
  refine Ev.u (fun _ => rfl) ?_
  by_cases z : a = 0
  · subst z
    refine Ev.t rfl (Ev.p.r ?_)
    rw [if_neg (by omega), show (0 : Int).toNat = 0 from rfl, dgl_lt (by omega)]
    rfl
  refine Ev.e z ?_
  by_cases c : a < 0
  · have hd := spec_FormatInt_l0 20 (-a).toNat a [] (decide (a < 0)) (.inr (by omega)) (by rw [pow20]; omega) (by omega) (by omega) (by simp)
    refine hd.r ?_
    rw [if_pos c, decide_eq_true c]
    unfold dlz
    rw [if_neg (by omega), List.append_nil]
    rfl
  · have hd := spec_FormatInt_l0 20 a.toNat a [] (decide (a < 0)) (.inl (by omega)) (by rw [pow20]; omega) (by omega) (by omega) (by simp)
    refine hd.r ?_
    rw [if_neg c, decide_eq_false c]
    unfold dlz
    rw [if_neg (by omega), List.append_nil]
    rfl

def isDg (b : UInt8) : Bool := decide (48 ≤ b.toNat ∧ b.toNat ≤ 57)
def fold10 (a : Nat) : List UInt8 → Nat
  | [] => a
  | b :: t => fold10 (a * 10 + (b.toNat - 48)) t
theorem fold10_app : ∀ (l m : List UInt8) (a : Nat), fold10 a (l ++ m) = fold10 (fold10 a l) m
  | [], _, _ => rfl
  | b :: t, m, a => fold10_app t m _
theorem dg_one {n : Nat} (h : n < 10) (a : Nat) : isDg (dg n) = true ∧ fold10 a [dg n] = a * 10 + n := by
  have e := dg_nat h
  constructor
  · unfold isDg; rw [e]; exact decide_eq_true ⟨Nat.le_add_right _ _, by omega⟩
  · show a * 10 + ((dg n).toNat - 48) = a * 10 + n
    rw [e, Nat.add_sub_cancel_left]
theorem dgl_dg (d : Nat) : ∀ n : Nat, n < 10 ^ (d + 1) → (dgl n).all isDg = true ∧ fold10 0 (dgl n) = n := by
  induction d with
  | zero =>
    intro n h
    have h' : n < 10 := h
    rw [dgl_lt h']
    have := dg_one h' 0
    rw [List.all_cons, this.1, this.2]
    exact ⟨rfl, by omega⟩
  | succ d ih =>
    intro n h
    by_cases c : n < 10
    · rw [dgl_lt c]
      have := dg_one c 0
      rw [List.all_cons, this.1, this.2]
      exact ⟨rfl, by omega⟩
    · obtain ⟨h1, h2⟩ := ih (n / 10) (by rw [Nat.pow_succ] at h; omega)
      obtain ⟨g1, g2⟩ := dg_one (n := n % 10) (Nat.mod_lt _ (by decide)) (n / 10)
      rw [dgl_ge c, fold10_app, h2, List.all_append, h1, List.all_cons, g1, g2]
      exact ⟨rfl, by omega⟩
theorem fold10_bd : ∀ (l : List UInt8) (a d : Nat), l.all isDg = true → a < 10 ^ d → fold10 a l < 10 ^ (d + l.length)
  | [], a, d, _, h => h
  | b :: t, a, d, hl, h => by
    simp only [List.all_cons, Bool.and_eq_true, isDg, decide_eq_true_eq] at hl
    have := fold10_bd t (a * 10 + (b.toNat - 48)) (d + 1) hl.2 (by rw [Nat.pow_succ]; omega)
    rw [List.length_cons, show d + (t.length + 1) = d + 1 + t.length by omega]
    exact this
/-- What the reading ends with: the number's text is the string itself, or it is none. -/
def fin (s : List UInt8) (v : Int) : Int × Bool := if fI v = s then (v, true) else (0, false)
theorem fin_ev {s : List UInt8} {v : Int} : Ev (fun _ => if (toB (fI v)).toList = (toB s).toList then some (v, true) else some (0, false)) (fin s v) := by
  unfold fin
  by_cases c : fI v = s
  · rw [if_pos c]; exact Ev.t (by rw [c]) Ev.p
  · rw [if_neg c]; exact Ev.e (fun h => c (toB_inj ((toL_iff _ _).1 h))) Ev.p
theorem pow9 : 10 ^ 9 = 1000000000 := by decide
theorem pow_step {a j d : Nat} (ha : a < 10 ^ j) (hd : d ≤ 9) : a * 10 + d < 10 ^ (j + 1) := by
  have h : a * 10 + d < (a + 1) * 10 := by clear ha; omega
  rw [Nat.pow_succ]
  exact Nat.lt_of_lt_of_le h (Nat.mul_le_mul_right 10 ha)
theorem pow_bd {a j : Nat} (ha : a < 10 ^ j) (hj : j ≤ 9) : a < 1000000000 := Nat.lt_of_lt_of_le ha (by rw [← pow9]; exact Nat.pow_le_pow_right (by decide) hj)
theorem pow11 : 10 ^ 11 = 100000000000 := by decide
theorem pow_bd11 {a j : Nat} (ha : a < 10 ^ j) (hj : j ≤ 11) : a < 100000000000 := Nat.lt_of_lt_of_le ha (by rw [← pow11]; exact Nat.pow_le_pow_right (by decide) hj)
/-- What stands behind the sign. -/
def strip : List UInt8 → List UInt8
  | [] => []
  | b :: t => if b.toNat = 45 then t else b :: t
def finI (s x : List UInt8) (v : Nat) : Int × Bool := if x.length < s.length then fin s (-(v : Int)) else fin s (v : Int)
def pI (s : List UInt8) : Int × Bool := if (strip s).length < 1 ∨ 9 < (strip s).length then (0, false) else if (strip s).all isDg = true then finI s (strip s) (fold10 0 (strip s)) else (0, false)
theorem dgw {a d : Nat} (ha : a < 1000000000000) (hd : d ≤ 9) : wrap64 (wrap64 (10 * (a : Int)) + IntKind.i64.wrap (IntKind.u8.wrap (((48 + d : Nat) : Int) - 48))) = ((a * 10 + d : Nat) : Int) := by
  rw [w64 (x := 10 * (a : Int)) (by omega) (by omega), u8x (by omega) (by omega), i64x (by omega) (by omega), w64 (by omega) (by omega)]
  omega
theorem impl_ParseInt_j1 (s : List UInt8) (v : Int) (h0 : -1000000000000 ≤ v) (h1 : v ≤ 1000000000000) : Ev (fun k => impl_ParseInt.j1 k (toB s) v) (fin s v) :=
  Ev.s (fun k => by rw [impl_ParseInt.j1]) (Ev.b (impl_FormatInt_ev v (by omega) (by omega)) fin_ev)
theorem impl_ParseInt_l0 (s x : List UInt8) (hx : x.length ≤ 9) : ∀ (t : List UInt8) (i j a : Nat), x.drop i = t → i + t.length = x.length → a < 10 ^ j → j + t.length ≤ 9 → Ev (fun k => impl_ParseInt.l0 k (toB s) (toB x) (a : Int) (x.length : Int) (i : Int)) (if t.all isDg = true then finI s x (fold10 a t) else (0, false)) := by
  intro t
  induction t with
  | nil =>
    intro i j a hd hi ha hj
    simp only [List.length_nil, Nat.add_zero] at hi hj
    have hb : a < 1000000000 := pow_bd ha hj
    clear ha
    rw [if_pos (show ([] : List UInt8).all isDg = true from rfl)]
    refine Ev.s (fun k => by rw [impl_ParseInt.l0]) (Ev.e (by omega) ?_)
    rw [w64 (x := -(a : Int)) (by omega) (by omega), toB_sz, toB_sz]
    unfold finI fold10
    by_cases c : x.length < s.length
    · rw [if_pos c]; exact Ev.t (by omega) (impl_ParseInt_j1 s _ (by omega) (by omega))
    · rw [if_neg c]; exact Ev.e (by omega) (impl_ParseInt_j1 s _ (by omega) (by omega))
  | cons b t ih =>
    intro i j a hd hi ha hj
    obtain ⟨hb, hi', hd'⟩ := bt_drop (s := toB x) (i := i) hd
    rw [toB_sz] at hi'
    rw [bs_toB] at hd'
    simp only [List.length_cons] at hi hj
    have hl : a < 1000000000 := pow_bd ha (Nat.le_trans (Nat.le_add_right _ _) hj)
    have hs := fun (d : Nat) (hd : d ≤ 9) => pow_step (d := d) ha hd
    clear ha
    refine Ev.s (fun k => by rw [impl_ParseInt.l0]) (Ev.t (by omega) (Ev.t (by omega) (Ev.t (by rw [toB_sz]; omega) ?_)))
    rw [hb, List.all_cons]
    refine Ev.i (fun c => Ev.p.r ?_) (fun c => Ev.i (fun c2 => Ev.p.r ?_) (fun c2 => ?_))
    · have e : isDg b = false := decide_eq_false (by omega)
      rw [e]; rfl
    · have e : isDg b = false := decide_eq_false (by omega)
      rw [e]; rfl
    · have e : isDg b = true := decide_eq_true (by omega)
      have g := dgw (a := a) (d := b.toNat - 48) (by omega) (by omega)
      rw [show 48 + (b.toNat - 48) = b.toNat by omega] at g
      rw [g, w64s hi' (by omega), e, Bool.true_and]
      exact ih (i + 1) (j + 1) _ hd' (by omega) (hs _ (by omega)) (by omega)
theorem impl_ParseInt_j0 (s x : List UInt8) : Ev (fun k => impl_ParseInt.j0 k (toB s) (toB x)) (if x.length < 1 ∨ 9 < x.length then (0, false) else if x.all isDg = true then finI s x (fold10 0 x) else (0, false)) := by
  refine Ev.s (fun k => by rw [impl_ParseInt.j0]) ?_
  rw [toB_sz]
  refine Ev.i (fun c => Ev.p.r ?_) (fun c => Ev.i (fun c2 => Ev.p.r ?_) (fun c2 => ?_))
  · rw [if_pos (.inl (by omega))]
  · rw [if_pos (.inr (by omega))]
  · rw [if_neg (by omega)]
    exact impl_ParseInt_l0 s x (by omega) x 0 0 0 rfl (by omega) (by decide) (by omega)
theorem impl_ParseInt_ev (s : List UInt8) : Ev (fun k => impl_ParseInt.f k (toB s)) (pI s) := by
  unfold pI
  refine Ev.u (fun k => by rw [impl_ParseInt.f]) ?_
  rw [toB_sz]
  cases s with
  | nil => exact Ev.e (by simp) (impl_ParseInt_j0 [] [])
  | cons b t =>
    obtain ⟨hb, -, -⟩ := bt_drop (s := toB (b :: t)) (i := 0) (b := b) (t := t) rfl
    rw [show ((0 : Nat) : Int) = 0 from rfl] at hb
    rw [List.length_cons]
    refine Ev.t (by omega) (Ev.t (by omega) ?_)
    rw [hb]
    refine Ev.i (fun c => Ev.t (by omega) ?_) (fun c => ?_)
    · have es : strip (b :: t) = t := by unfold strip; exact if_pos (by omega)
      rw [es, bs_extract]
      have e : (((bs (toB (b :: t))).drop (1 : Int).toNat).take (t.length + 1 - (1 : Int).toNat)) = t := by
        rw [bs_toB]; show t.take (t.length + 1 - 1) = t; rw [List.take_of_length_le (by omega)]
      rw [e]
      exact impl_ParseInt_j0 (b :: t) t
    · have es : strip (b :: t) = b :: t := by unfold strip; exact if_neg (by omega)
      rw [es]
      exact impl_ParseInt_j0 (b :: t) (b :: t)
/-- The digits' value and their number; what is no digit is passed over. -/
def scan (a c : Nat) : List UInt8 → Nat × Nat
  | [] => (a, c)
  | b :: t => if isDg b = true then scan (a * 10 + (b.toNat - 48)) (c + 1) t else scan a c t
def sgn (s : List UInt8) (a : Nat) : Int := match s with | [] => (a : Int) | b :: _ => if b.toNat = 45 then -(a : Int) else (a : Int)
def qF (s : List UInt8) (p : Nat × Nat) : Int × Bool := if p.2 > 9 then (0, false) else if s.length > 10 then (0, false) else fin s (sgn s p.1)
theorem spec_ParseInt_j1 (s : List UInt8) (v : Int) (c : Nat) (h0 : -1000000000000 ≤ v) (h1 : v ≤ 1000000000000) : Ev (fun k => spec_ParseInt.j1 k (toB s) v (c : Int)) (if c > 9 then (0, false) else if s.length > 10 then (0, false) else fin s v) := by
  refine Ev.s (fun k => by rw [spec_ParseInt.j1]) ?_
  rw [toB_sz]
  refine Ev.i (fun g => Ev.p.r ?_) (fun g => Ev.i (fun g2 => Ev.p.r ?_) (fun g2 => Ev.b (spec_FormatInt_ev v (by omega) (by omega)) (fin_ev.r ?_)))
  · rw [if_pos (by omega)]
  · rw [if_neg (by omega), if_pos (by omega)]
  · rw [if_neg (by omega), if_neg (by omega)]
theorem spec_ParseInt_j0 (s : List UInt8) (a c : Nat) (ha : a < 1000000000000) : Ev (fun k => spec_ParseInt.j0 k (toB s) (a : Int) (c : Int)) (qF s (a, c)) := by
  unfold qF sgn
  refine Ev.s (fun k => by rw [spec_ParseInt.j0]) ?_
  rw [toB_sz]
  cases s with
  | nil => exact Ev.e (by simp) (spec_ParseInt_j1 [] a c (by omega) (by omega))
  | cons b t =>
    obtain ⟨hb, -, -⟩ := bt_drop (s := toB (b :: t)) (i := 0) (b := b) (t := t) rfl
    rw [show ((0 : Nat) : Int) = 0 from rfl] at hb
    rw [List.length_cons]
    refine Ev.t (by omega) (Ev.t (by omega) ?_)
    rw [hb, w64 (x := -(a : Int)) (by omega) (by omega)]
    dsimp only
    refine Ev.i (fun g => ?_) (fun g => ?_)
    · rw [if_pos (show b.toNat = 45 by omega)]; exact spec_ParseInt_j1 (b :: t) _ c (by omega) (by omega)
    · rw [if_neg (show ¬ b.toNat = 45 by omega)]; exact spec_ParseInt_j1 (b :: t) _ c (by omega) (by omega)
theorem take_drop_cons {l : List UInt8} {n i : Nat} {b : UInt8} {t : List UInt8} (h : (l.take n).drop i = b :: t) : i < n ∧ ∃ u, l.drop i = b :: u ∧ (l.take n).drop (i + 1) = t := by
  obtain ⟨hi, hd, -, -⟩ := drop_cons' h
  rw [List.length_take] at hi
  refine ⟨by omega, (l.drop i).tail, ?_, hd⟩
  rw [List.drop_take] at h
  cases e : l.drop i with
  | nil => rw [e, List.take_nil] at h; cases h
  | cons x u =>
    rw [e] at h
    obtain ⟨m, hm⟩ : ∃ m, n - i = m + 1 := ⟨n - i - 1, by omega⟩
    rw [hm, List.take_succ_cons] at h
    injection h with h1 h2
    rw [h1]; rfl
theorem dgw' {a d : Nat} (ha : a < 1000000000000) (hd : d ≤ 9) : wrap64 (wrap64 ((a : Int) * 10) + IntKind.i64.wrap (IntKind.u8.wrap (((48 + d : Nat) : Int) - 48))) = ((a * 10 + d : Nat) : Int) := by rw [Int.mul_comm]; exact dgw ha hd
theorem spec_ParseInt_l0 (s : List UInt8) (hs : s.length ≤ 1000000000) : ∀ (t : List UInt8) (i c a : Nat), (s.take 11).drop i = t → i + t.length ≤ 11 → a < 10 ^ c → c ≤ i → Ev (fun k => spec_ParseInt.l0 k (toB s) (a : Int) (c : Int) (i : Int)) (qF s (scan a c t)) := by
  intro t
  induction t with
  | nil =>
    intro i c a hd hi ha hc
    have hb := pow_bd11 ha (Nat.le_trans hc hi)
    clear ha
    have hl := List.drop_eq_nil_iff.1 hd
    rw [List.length_take] at hl
    refine Ev.s (fun k => by rw [spec_ParseInt.l0]) ?_
    rw [toB_sz]
    exact Ev.i (fun g => Ev.e (by omega) (spec_ParseInt_j0 s a c (by omega))) (fun g => spec_ParseInt_j0 s a c (by omega))
  | cons b t ih =>
    intro i c a hd hi ha hc
    simp only [List.length_cons] at hi
    obtain ⟨h11, u, hu, hd'⟩ := take_drop_cons hd
    obtain ⟨hb, hi', -⟩ := bt_drop (s := toB s) (i := i) hu
    rw [toB_sz] at hi'
    have hl := pow_bd11 ha (by omega)
    have hst := fun (d : Nat) (hd : d ≤ 9) => pow_step (d := d) ha hd
    have wc : wrap64 ((c : Int) + 1) = ((c + 1 : Nat) : Int) := by clear ha; exact w64s (n := 12) (by omega) (by decide)
    have i1 := fun a' c' h1 h2 => ih (i + 1) c' a' hd' (by clear ha; omega) h1 h2
    have hc' : c ≤ i + 1 := by clear ha; omega
    have i2 := i1 a c ha hc'
    clear ha
    refine Ev.s (fun k => by rw [spec_ParseInt.l0]) ?_
    rw [toB_sz]
    refine Ev.t (by omega) (Ev.t (by omega) (Ev.t (by omega) ?_))
    rw [hb, wc, w64s hi' (by omega)]
    refine Ev.i (fun c1 => Ev.i (fun c2 => ?_) (fun c2 => ?_)) (fun c1 => ?_)
    · have e : isDg b = true := decide_eq_true (by omega)
      have g := dgw' (a := a) (d := b.toNat - 48) (by omega) (by omega)
      rw [show 48 + (b.toNat - 48) = b.toNat by omega] at g
      rw [g, show scan a c (b :: t) = scan (a * 10 + (b.toNat - 48)) (c + 1) t from if_pos e]
      exact i1 _ _ (hst _ (by omega)) (by omega)
    · have e : ¬ isDg b = true := by unfold isDg; rw [decide_eq_true_eq]; omega
      rw [show scan a c (b :: t) = scan a c t from if_neg e]
      exact i2
    · have e : ¬ isDg b = true := by unfold isDg; rw [decide_eq_true_eq]; omega
      rw [show scan a c (b :: t) = scan a c t from if_neg e]
      exact i2
def small (n : Int) : Prop := -1000000000 < n ∧ n < 1000000000
theorem scan_digs : ∀ (l : List UInt8) (a c : Nat), l.all isDg = true → scan a c l = (fold10 a l, c + l.length)
  | [], _, _, _ => rfl
  | b :: t, a, c, h => by
    rw [List.all_cons, Bool.and_eq_true] at h
    rw [show scan a c (b :: t) = scan (a * 10 + (b.toNat - 48)) (c + 1) t from if_pos h.1, scan_digs t _ _ h.2, List.length_cons, Nat.add_assoc, Nat.add_comm 1]
    rfl
theorem scan_bd : ∀ (l : List UInt8) (a c : Nat), a < 10 ^ c → (scan a c l).1 < 10 ^ (scan a c l).2
  | [], _, _, h => h
  | b :: t, a, c, h => by
    by_cases e : isDg b = true
    · rw [show scan a c (b :: t) = scan (a * 10 + (b.toNat - 48)) (c + 1) t from if_pos e]
      have hd : b.toNat - 48 ≤ 9 := by
        have := of_decide_eq_true e
        clear h
        omega
      exact scan_bd t _ _ (pow_step h hd)
    · rw [show scan a c (b :: t) = scan a c t from if_neg e]
      exact scan_bd t _ _ h
theorem dgl_9 (n : Nat) (h : n < 1000000000) : (1 ≤ (dgl n).length ∧ (dgl n).length ≤ 9) ∧ (dgl n).all isDg = true ∧ fold10 0 (dgl n) = n := by
  have h' : n < 10 ^ (8 + 1) := by rw [show 10 ^ (8 + 1) = 1000000000 from by decide]; exact h
  have := dgl_len 8 n h'
  exact ⟨by omega, dgl_dg 8 n h'⟩
theorem fin_fmt (n : Int) : fin (fI n) n = (n, true) := if_pos rfl
theorem fin_true {s : List UInt8} {v : Int} (h : (fin s v).2 = true) : s = fI v ∧ fin s v = (v, true) := by
  unfold fin at h ⊢
  by_cases c : fI v = s
  · rw [if_pos c]; exact ⟨c.symm, rfl⟩
  · rw [if_neg c] at h; cases h
theorem fin_false {s : List UInt8} {v : Int} (h : ¬ (fin s v).2 = true) : fin s v = (0, false) := by
  unfold fin at h ⊢
  by_cases c : fI v = s
  · rw [if_pos c] at h; exact absurd rfl h
  · rw [if_neg c]
theorem fI_neg {n : Int} (h : n < 0) : fI n = (45 : UInt8) :: dgl (-n).toNat := by unfold fI; rw [if_pos h]
theorem fI_pos {n : Int} (h : ¬ n < 0) : fI n = dgl n.toNat := by unfold fI; rw [if_neg h]
theorem dgl_head {n : Nat} (h : n < 1000000000) : ∃ b t, dgl n = b :: t ∧ b.toNat ≠ 45 := by
  obtain ⟨h1, h2, h3⟩ := dgl_9 n h
  cases e : dgl n with
  | nil => rw [e] at h1; simp at h1
  | cons b t =>
    rw [e, List.all_cons, Bool.and_eq_true] at h2
    have := of_decide_eq_true h2.1
    exact ⟨b, t, rfl, by omega⟩
theorem strip_neg {n : Int} (h : n < 0) : strip (fI n) = dgl (-n).toNat := by rw [fI_neg h]; rfl
theorem strip_pos {n : Int} (h : ¬ n < 0) (hs : small n) : strip (fI n) = fI n := by
  rw [fI_pos h]
  obtain ⟨b, t, e, hb⟩ := dgl_head (n := n.toNat) (by have := hs.2; omega)
  rw [e]; unfold strip; exact if_neg hb
theorem sgn_pos {n : Int} (h : ¬ n < 0) (hs : small n) (a : Nat) : sgn (fI n) a = a := by
  rw [fI_pos h]
  obtain ⟨b, t, e, hb⟩ := dgl_head (n := n.toNat) (by have := hs.2; omega)
  rw [e]; unfold sgn; exact if_neg hb
theorem pI_fmt (n : Int) (hs : small n) : pI (fI n) = (n, true) := by
  have hs' := hs
  obtain ⟨h1, h2⟩ := hs
  unfold pI
  by_cases h : n < 0
  · obtain ⟨d0, d1, d2⟩ := dgl_9 (-n).toNat (by omega)
    have e := congrArg List.length (fI_neg h)
    rw [List.length_cons] at e
    rw [strip_neg h, if_neg (by omega), if_pos d1, d2]
    unfold finI
    rw [if_pos (by omega), show -(((-n).toNat : Nat) : Int) = n by omega, fin_fmt]
  · obtain ⟨d0, d1, d2⟩ := dgl_9 n.toNat (by omega)
    rw [strip_pos h hs', fI_pos h, if_neg (by omega), if_pos d1, d2, ← fI_pos h]
    unfold finI
    rw [if_neg (by omega), show ((n.toNat : Nat) : Int) = n by omega, fin_fmt]
theorem qF_fmt (n : Int) (hs : small n) : qF (fI n) (scan 0 0 ((fI n).take 11)) = (n, true) := by
  have hs' := hs
  obtain ⟨h1, h2⟩ := hs
  by_cases h : n < 0
  · obtain ⟨d0, d1, d2⟩ := dgl_9 (-n).toNat (by omega)
    have e := congrArg List.length (fI_neg h)
    rw [List.length_cons] at e
    rw [List.take_of_length_le (by omega)]
    have e2 : scan 0 0 (fI n) = (((-n).toNat, (dgl (-n).toNat).length) : Nat × Nat) := by
      rw [fI_neg h, show scan 0 0 ((45 : UInt8) :: dgl (-n).toNat) = scan 0 0 (dgl (-n).toNat) from if_neg (by decide), scan_digs _ _ _ d1, d2, Nat.zero_add]
    rw [e2]
    unfold qF
    dsimp only
    rw [if_neg (by omega), if_neg (by omega)]
    have e3 : sgn (fI n) (-n).toNat = n := by
      rw [fI_neg h, show sgn ((45 : UInt8) :: dgl (-n).toNat) (-n).toNat = -(((-n).toNat : Nat) : Int) by unfold sgn; exact if_pos rfl]; omega
    rw [e3, fin_fmt]
  · obtain ⟨d0, d1, d2⟩ := dgl_9 n.toNat (by omega)
    rw [← fI_pos h] at d0 d1 d2
    rw [List.take_of_length_le (by omega), scan_digs _ _ _ d1, d2]
    unfold qF
    dsimp only
    rw [if_neg (by omega), if_neg (by omega), sgn_pos h hs', show ((n.toNat : Nat) : Int) = n by omega, fin_fmt]
theorem pI_true {s : List UInt8} (h : (pI s).2 = true) : ∃ n, small n ∧ s = fI n := by
  unfold pI at h
  by_cases c1 : (strip s).length < 1 ∨ 9 < (strip s).length
  · rw [if_pos c1] at h; cases h
  · rw [if_neg c1] at h
    by_cases c2 : (strip s).all isDg = true
    · rw [if_pos c2] at h
      have hb := fold10_bd (strip s) 0 0 c2 (by decide)
      rw [Nat.zero_add] at hb
      have hb' : fold10 0 (strip s) < 1000000000 := pow_bd hb (by omega)
      clear hb
      unfold finI at h
      split at h
      · exact ⟨_, ⟨by omega, by omega⟩, (fin_true h).1⟩
      · exact ⟨_, ⟨by omega, by omega⟩, (fin_true h).1⟩
    · rw [if_neg c2] at h; cases h
theorem pI_false {s : List UInt8} (h : ¬ (pI s).2 = true) : pI s = (0, false) := by
  unfold pI at h ⊢
  by_cases c1 : (strip s).length < 1 ∨ 9 < (strip s).length
  · rw [if_pos c1]
  · rw [if_neg c1] at h ⊢
    by_cases c2 : (strip s).all isDg = true
    · rw [if_pos c2] at h ⊢
      unfold finI at h ⊢
      split at h
      · rename_i g; rw [if_pos g]; exact fin_false h
      · rename_i g; rw [if_neg g]; exact fin_false h
    · rw [if_neg c2]
theorem qF_true {s : List UInt8} {p : Nat × Nat} (hp : p.1 < 10 ^ p.2) (h : (qF s p).2 = true) : ∃ n, small n ∧ s = fI n := by
  unfold qF at h
  by_cases c1 : p.2 > 9
  · rw [if_pos c1] at h; cases h
  · rw [if_neg c1] at h
    have hb : p.1 < 1000000000 := pow_bd hp (Nat.not_lt.1 c1)
    clear hp
    by_cases c2 : s.length > 10
    · rw [if_pos c2] at h; cases h
    · rw [if_neg c2] at h
      refine ⟨_, ?_, (fin_true h).1⟩
      unfold sgn small
      split
      · omega
      · split <;> omega
theorem qF_false {s : List UInt8} {p : Nat × Nat} (h : ¬ (qF s p).2 = true) : qF s p = (0, false) := by
  unfold qF at h ⊢
  by_cases c1 : p.2 > 9
  · rw [if_pos c1]
  · rw [if_neg c1] at h ⊢
    by_cases c2 : s.length > 10
    · rw [if_pos c2]
    · rw [if_neg c2] at h ⊢
      exact fin_false h
theorem pI_qF (s : List UInt8) : qF s (scan 0 0 (s.take 11)) = pI s := by
  by_cases h : (pI s).2 = true
  · obtain ⟨n, hn, rfl⟩ := pI_true h
    rw [qF_fmt n hn, pI_fmt n hn]
  · rw [pI_false h]
    apply qF_false
    intro g
    obtain ⟨n, hn, rfl⟩ := qF_true (scan_bd _ 0 0 (by decide)) g
    exact h (by rw [pI_fmt n hn])
theorem spec_ParseInt_ev (s : List UInt8) (hs : s.length ≤ 1000000000) : Ev (fun k => spec_ParseInt.f k (toB s)) (pI s) := by
  have hl : (s.take 11).length ≤ 11 := by rw [List.length_take]; omega
  exact Ev.u (fun _ => rfl) ((spec_ParseInt_l0 s hs (s.take 11) 0 0 0 rfl (by omega) (by decide) (Nat.le_refl 0)).r (pI_qF s))
theorem pI_some {s : List UInt8} (h : (pI s).2 = true) : small (pI s).1 ∧ s = fI (pI s).1 := by
  obtain ⟨n, hn, rfl⟩ := pI_true h
  rw [pI_fmt n hn]
  exact ⟨hn, rfl⟩

def ctG (c : UInt8) (cur : List UInt8) : List UInt8 → List (List UInt8)
  | [] => [cur]
  | b :: t => if b = c then cur :: ctG c [] t else ctG c (cur ++ [b]) t
def ctS (c : UInt8) (s : List UInt8) : List (List UInt8) := ctG c [] s
def jnL (c : UInt8) : List (List UInt8) → List UInt8
  | [] => []
  | x :: t => x ++ t.flatMap fun y => c :: y
theorem jnL_cons (c : UInt8) (x : List UInt8) (t : List (List UInt8)) : jnL c (x :: t) = x ++ t.flatMap fun y => c :: y := rfl
theorem ctG_ne (c : UInt8) : ∀ (l cur : List UInt8), ∃ x t, ctG c cur l = x :: t
  | [], cur => ⟨cur, [], rfl⟩
  | b :: l, cur => by
    unfold ctG
    by_cases h : b = c
    · rw [if_pos h]; exact ⟨_, _, rfl⟩
    · rw [if_neg h]; exact ctG_ne c l _
theorem ctG_len (c : UInt8) : ∀ (l cur : List UInt8), (ctG c cur l).length ≤ l.length + 1
  | [], cur => by simp [ctG]
  | b :: l, cur => by
    unfold ctG
    by_cases h : b = c
    · rw [if_pos h, List.length_cons, List.length_cons]; have := ctG_len c l []; omega
    · rw [if_neg h, List.length_cons]; have := ctG_len c l (cur ++ [b]); omega
theorem ctG_mem (c : UInt8) : ∀ (l cur : List UInt8), ∀ x ∈ ctG c cur l, x.length ≤ cur.length + l.length
  | [], cur, x, h => by rw [List.mem_singleton.1 h]; simp
  | b :: l, cur, x, h => by
    unfold ctG at h
    by_cases e : b = c
    · rw [if_pos e] at h
      rcases List.mem_cons.1 h with h | h
      · rw [h]; simp
      · have := ctG_mem c l [] x h; rw [List.length_cons]; simp at this; omega
    · rw [if_neg e] at h
      have := ctG_mem c l _ x h
      rw [List.length_append, List.length_singleton] at this; rw [List.length_cons]; omega
theorem ctS_len (c : UInt8) (s : List UInt8) : (ctS c s).length ≤ s.length + 1 := ctG_len c s []
theorem ctS_mem {c : UInt8} {s x : List UInt8} (h : x ∈ ctS c s) : x.length ≤ s.length := by have := ctG_mem c s [] x h; simpa using this
theorem jn_ct (c : UInt8) : ∀ (l cur : List UInt8), jnL c (ctG c cur l) = cur ++ l
  | [], cur => by simp [ctG, jnL]
  | b :: t, cur => by
    unfold ctG
    by_cases g : b = c
    · rw [if_pos g]
      have ih := jn_ct c t []
      obtain ⟨x, u, e⟩ := ctG_ne c t []
      rw [e] at ih ⊢
      rw [List.nil_append] at ih
      rw [← ih, g]
      simp [jnL]
    · rw [if_neg g, jn_ct c t, List.append_assoc]; rfl
theorem jn_ctS (c : UInt8) (s : List UInt8) : jnL c (ctS c s) = s := jn_ct c s []
theorem ct_end (c : UInt8) : ∀ (l cur : List UInt8), (∀ b ∈ l, b ≠ c) → ctG c cur l = [cur ++ l]
  | [], cur, _ => by simp [ctG]
  | b :: t, cur, h => by
    unfold ctG
    rw [if_neg (h b (List.mem_cons_self ..)), ct_end c t _ (fun x hx => h x (List.mem_cons_of_mem _ hx)), List.append_assoc]; rfl
theorem ct_sep (c : UInt8) : ∀ (l cur m : List UInt8), (∀ b ∈ l, b ≠ c) → ctG c cur (l ++ c :: m) = (cur ++ l) :: ctG c [] m
  | [], cur, m, _ => by rw [List.nil_append, ctG, if_pos rfl, List.append_nil]
  | b :: t, cur, m, h => by
    rw [List.cons_append, ctG, if_neg (h b (List.mem_cons_self ..)), ct_sep c t _ m (fun x hx => h x (List.mem_cons_of_mem _ hx)), List.append_assoc]; rfl
theorem ct_jn (c : UInt8) : ∀ (t : List (List UInt8)) (x : List UInt8), (∀ y ∈ x :: t, ∀ b ∈ y, b ≠ c) → ctS c (jnL c (x :: t)) = x :: t
  | [], x, h => by
    unfold ctS
    rw [jnL_cons, List.flatMap_nil, List.append_nil, ct_end c x [] (h x (List.mem_cons_self ..))]; rfl
  | y :: t, x, h => by
    have ih := ct_jn c t y (fun z hz => h z (List.mem_cons_of_mem _ hz))
    unfold ctS at *
    rw [jnL_cons] at ih ⊢
    rw [List.flatMap_cons, List.cons_append, ct_sep c x [] _ (h x (List.mem_cons_self ..)), ih]; rfl
theorem u8_iff {a c : UInt8} {n : Int} (hn : (c.toNat : Int) = n) : (a.toNat : Int) = n ↔ a = c := by
  rw [← hn]
  exact ⟨fun h => UInt8.toNat_inj.1 (by omega), fun h => by rw [h]⟩
theorem take_snoc {s : List UInt8} {f i : Nat} {b : UInt8} {t : List UInt8} (h : s.drop i = b :: t) (hf : f ≤ i) : (s.drop f).take (i + 1 - f) = (s.drop f).take (i - f) ++ [b] := by
  rw [show i + 1 - f = (i - f) + 1 by omega, List.take_add_one]
  congr 1
  rw [List.getElem?_drop, show f + (i - f) = i by omega]
  have : s[i]? = some b := by rw [← List.head?_drop, h]; rfl
  rw [this]; rfl
theorem spec_l2Cut_l0 (s : List UInt8) (hs : s.length ≤ 1000000000) (c : UInt8) (n : Int) (hn : (c.toNat : Int) = n) : ∀ (t : List UInt8) (i f : Nat) (A : List (List UInt8)), s.drop i = t → i + t.length = s.length → f ≤ i → A.length ≤ i → Ev (fun k => spec_l2Cut.l0 k (toB s) n (A.map toB) (f : Int) (i : Int)) ((A ++ ctG c ((s.drop f).take (i - f)) t).map toB) := by
  intro t
  induction t with
  | nil =>
    intro i f A hd hi hf hA
    rw [List.length_nil] at hi
    refine Ev.s (fun k => by rw [spec_l2Cut.l0]) ?_
    rw [toB_sz]
    refine Ev.e (by omega) (Ev.t (by omega) (Ev.t (by omega) (Ev.t (by rw [List.length_map]; omega) (Ev.p.r ?_))))
    rw [bs_extract, bs_toB, Int.toNat_natCast, ← show i = s.length by omega]
    simp [ctG]
  | cons b t ih =>
    intro i f A hd hi hf hA
    rw [List.length_cons] at hi
    obtain ⟨hb, hi', hd'⟩ := bt_drop (s := toB s) (i := i) hd
    rw [bs_toB] at hd'
    refine Ev.s (fun k => by rw [spec_l2Cut.l0]) ?_
    rw [toB_sz, hb, w64s (n := s.length) (by omega) (by omega)]
    refine Ev.t (by omega) (Ev.t (by omega) (Ev.i (fun g => ?_) (fun g => ?_)))
    · refine Ev.t (by omega) (Ev.t (by omega) (Ev.t (by omega) (Ev.t (by rw [List.length_map]; omega) ?_)))
      have e := (u8_iff hn).1 g
      have h := ih (i + 1) (i + 1) (A ++ [(s.drop f).take (i - f)]) hd' (by omega) (Nat.le_refl _) (by simp; omega)
      rw [bs_extract, bs_toB, Int.toNat_natCast, Int.toNat_natCast]
      rw [List.map_append] at h
      refine h.r ?_
      unfold ctG
      rw [if_pos e, Nat.sub_self, List.take_zero, List.append_assoc]
      cases t <;> rfl
    · have e : ¬ b = c := fun h => g ((u8_iff hn).2 h)
      have h := ih (i + 1) f A hd' (by omega) (by omega) (by omega)
      rw [take_snoc hd hf] at h
      refine h.r ?_
      conv => rhs; unfold ctG
      rw [if_neg e]
theorem spec_l2Cut_ev (s : List UInt8) (hs : s.length ≤ 1000000000) (c : UInt8) (n : Int) (hn : (c.toNat : Int) = n) : Ev (fun k => spec_l2Cut.f k (toB s) n) ((ctS c s).map toB) :=
  Ev.u (fun _ => rfl) ((spec_l2Cut_l0 s hs c n hn s 0 0 [] rfl (by omega) (Nat.le_refl _) (by simp)).r (by simp [ctS]))
theorem impl_cut_l0 (s : List UInt8) (hs : s.length ≤ 1000000000) (c : UInt8) (n : Int) (hn : (c.toNat : Int) = n) : ∀ (t : List UInt8) (i f : Nat) (A : List (List UInt8)), s.drop i = t → i + t.length = s.length → f ≤ i → A.length ≤ i → Ev (fun k => impl_cut.l0 k (toB s) n (A.map toB) (f : Int) (s.length : Int) (i : Int)) ((A ++ ctG c ((s.drop f).take (i - f)) t).map toB) := by
  intro t
  induction t with
  | nil =>
    intro i f A hd hi hf hA
    rw [List.length_nil] at hi
    refine Ev.s (fun k => by rw [impl_cut.l0]) ?_
    rw [toB_sz]
    refine Ev.e (by omega) (Ev.t (by omega) (Ev.t (by omega) (Ev.t (by rw [List.length_map]; omega) (Ev.p.r ?_))))
    rw [bs_extract, bs_toB, Int.toNat_natCast, ← show i = s.length by omega]
    simp [ctG]
  | cons b t ih =>
    intro i f A hd hi hf hA
    rw [List.length_cons] at hi
    obtain ⟨hb, hi', hd'⟩ := bt_drop (s := toB s) (i := i) hd
    rw [bs_toB] at hd'
    refine Ev.s (fun k => by rw [impl_cut.l0]) ?_
    rw [toB_sz, hb, w64s (n := s.length) (by omega) (by omega)]
    refine Ev.t (by omega) (Ev.t (by omega) (Ev.t (by omega) (Ev.i (fun g => ?_) (fun g => ?_))))
    · refine Ev.t (by omega) (Ev.t (by omega) (Ev.t (by omega) (Ev.t (by rw [List.length_map]; omega) ?_)))
      have e := (u8_iff hn).1 g
      have h := ih (i + 1) (i + 1) (A ++ [(s.drop f).take (i - f)]) hd' (by omega) (Nat.le_refl _) (by simp; omega)
      rw [bs_extract, bs_toB, Int.toNat_natCast, Int.toNat_natCast]
      rw [List.map_append] at h
      refine h.r ?_
      unfold ctG
      rw [if_pos e, Nat.sub_self, List.take_zero, List.append_assoc]
      cases t <;> rfl
    · have e : ¬ b = c := fun h => g ((u8_iff hn).2 h)
      have h := ih (i + 1) f A hd' (by omega) (by omega) (by omega)
      rw [take_snoc hd hf] at h
      refine h.r ?_
      conv => rhs; unfold ctG
      rw [if_neg e]
theorem impl_cut_ev (s : List UInt8) (hs : s.length ≤ 1000000000) (c : UInt8) (n : Int) (hn : (c.toNat : Int) = n) : Ev (fun k => impl_cut.f k (toB s) n) ((ctS c s).map toB) :=
  Ev.u (fun _ => rfl) ((impl_cut_l0 s hs c n hn s 0 0 [] rfl (by omega) (Nat.le_refl _) (by simp)).r (by simp [ctS]))
/-! joins -/
theorem rdS (l : List (List UInt8)) (i : Nat) : rdOf ByteArray.empty (l.map toB) (i : Int) = toB (l.getD i []) := by
  show (l.map toB).getD (i : Int).toNat ByteArray.empty = _
  rw [Int.toNat_natCast, List.getD_eq_getElem?_getD, List.getD_eq_getElem?_getD, List.getElem?_map]
  cases l[i]? <;> rfl
def tot (L : List (List UInt8)) : Nat := (L.map fun x => x.length + 1).sum
theorem tot_cons (x : List UInt8) (L : List (List UInt8)) : tot (x :: L) = x.length + 1 + tot L := by simp [tot]
theorem tot_app (a b : List (List UInt8)) : tot (a ++ b) = tot a + tot b := by simp [tot]
theorem fmL_len (c : UInt8) : ∀ L : List (List UInt8), (L.flatMap fun y => c :: y).length = tot L
  | [] => rfl
  | x :: L => by rw [List.flatMap_cons, List.length_append, fmL_len c L, tot_cons, List.length_cons]
theorem jnL_len (c : UInt8) : ∀ L : List (List UInt8), (jnL c L).length ≤ tot L
  | [] => Nat.zero_le _
  | x :: L => by rw [jnL, List.length_append, fmL_len, tot_cons]; omega
theorem impl_joined_l0 (c : UInt8) (L : List (List UInt8)) (hl : L.length ≤ 1000000000) : ∀ (s : List (List UInt8)) (i : Nat) (acc : List UInt8), L.drop i = s → 0 < i → acc.length + tot s ≤ 9000000000000000 → Ev (fun k => impl_joined.l0 k (toB [c]) (toB acc) (L.length : Int) (i : Int) (L.map toB)) (toB (acc ++ s.flatMap fun y => c :: y)) := by
  intro s
  induction s with
  | nil =>
    intro i acc hd h0 ha
    have := drop_nil' hd
    exact Ev.s (fun k => by rw [impl_joined.l0]) (Ev.e (by omega) (Ev.p.r (by simp)))
  | cons x t ih =>
    intro i acc hd h0 ha
    rw [tot_cons] at ha
    obtain ⟨hi, hd', hx, -⟩ := drop_cons' hd
    have h := ih (i + 1) (acc ++ [c] ++ x) hd' (by omega) (by simp; omega)
    refine Ev.s (fun k => by rw [impl_joined.l0]) (Ev.t (by omega) (Ev.t (by omega) (Ev.t (by rw [List.length_map]; omega) (Ev.t (by omega) ?_))))
    rw [rdS, hx, toB_app, toB_sz, toB_sz]
    refine Ev.t (by rw [List.length_singleton]; omega) (Ev.s (fun k => by rw [impl_joined.j0]) ?_)
    rw [toB_app, toB_sz, toB_sz, w64s hi (by omega)]
    refine Ev.t (by simp; omega) (h.r ?_)
    simp
theorem impl_joined_ev (c : UInt8) (L : List (List UInt8)) (hl : L.length ≤ 1000000000) (ht : tot L ≤ 1000000000000000) : Ev (fun k => impl_joined.f k (L.map toB) (toB [c])) (toB (jnL c L)) := by
  refine Ev.u (fun k => by rw [impl_joined.f, List.length_map]) ?_
  cases L with
  | nil => exact Ev.s (fun k => by rw [impl_joined.l0]) (Ev.e (by simp) (Ev.p.r (by rfl)))
  | cons x t =>
    rw [tot_cons] at ht
    have h := impl_joined_l0 c (x :: t) hl t 1 x rfl (by omega) (by omega)
    refine Ev.s (fun k => by rw [impl_joined.l0]) (Ev.t (by simp) (Ev.t (by omega) (Ev.t (by simp) (Ev.e (by omega) ?_))))
    have r0 : rdOf ByteArray.empty ((x :: t).map toB) 0 = toB x := rfl
    have e0 : (⟨#[]⟩ : ByteArray) ++ toB x = toB x := toB_app [] x
    rw [r0]
    refine Ev.s (fun k => by rw [impl_joined.j0]) ?_
    rw [e0, show wrap64 ((0 : Int) + 1) = ((1 : Nat) : Int) by rw [w64 (by omega) (by omega)]; rfl]
    exact Ev.t (by show 0 + x.length ≤ _; omega) h
/-! rows -/
def vR (x : S99) : Bool := vRow x.f0 x.f1 x.f2
theorem vR_b {x : S99} (h : vR x = true) : (0 ≤ x.f0 ∧ x.f0 ≤ 9) ∧ (0 ≤ x.f1 ∧ x.f1 ≤ 99) ∧ (0 ≤ x.f2 ∧ x.f2 ≤ 3) := by
  simp [vR, vRow, inB] at h; omega
def fR (x : S99) : List UInt8 := if vR x = true then jnL 46 [fI x.f0, fI x.f1, fI x.f2] else []
theorem fR_len (x : S99) : (fR x).length ≤ 66 := by
  unfold fR
  split
  · rename_i h
    obtain ⟨h0, h1, h2⟩ := vR_b h
    have a := fI_len x.f0 (by omega) (by omega)
    have b := fI_len x.f1 (by omega) (by omega)
    have c := fI_len x.f2 (by omega) (by omega)
    have := jnL_len 46 [fI x.f0, fI x.f1, fI x.f2]
    rw [tot_cons, tot_cons, tot_cons, show tot [] = 0 from rfl] at this
    omega
  · simp
theorem fR_parts (x : S99) : jnL 46 [fI x.f0, fI x.f1, fI x.f2] = fI x.f0 ++ [46] ++ fI x.f1 ++ [46] ++ fI x.f2 := by simp [jnL]
theorem spec_FormatRow_ev (x : S99) : Ev (fun k => spec_FormatRow.f k x.f0 x.f1 x.f2) (toB (fR x)) := by
  unfold fR
  refine Ev.u (fun _ => rfl) (Ev.b (Ev.c (spec_IsValidRow_eq ..)) (Ev.i (fun h => ?_) (fun h => Ev.p.r ?_)))
  · obtain ⟨h0, h1, h2⟩ := vR_b (x := x) h
    have a := fI_len x.f0 (by omega) (by omega)
    have b := fI_len x.f1 (by omega) (by omega)
    have c := fI_len x.f2 (by omega) (by omega)
    have e0 := spec_FormatInt_ev x.f0 (by omega) (by omega)
    have e1 := spec_FormatInt_ev x.f1 (by omega) (by omega)
    have e2 := spec_FormatInt_ev x.f2 (by omega) (by omega)
    rw [if_pos (show vR x = true from h), fR_parts]
    refine Ev.b e0 (Ev.t ?_ (Ev.b e1 (Ev.t ?_ (Ev.t ?_ (Ev.b e2 (Ev.t ?_ (Ev.p.r ?_)))))))
    · show (fI x.f0).length + 1 ≤ _; omega
    · show ((toB (fI x.f0) ++ toB [46]).size + (toB (fI x.f1)).size ≤ _); simp only [toB_app, toB_sz, List.length_append, List.length_singleton]; omega
    · show ((toB (fI x.f0) ++ toB [46] ++ toB (fI x.f1)).size + (toB [46]).size ≤ _); simp only [toB_app, toB_sz, List.length_append, List.length_singleton]; omega
    · show ((toB (fI x.f0) ++ toB [46] ++ toB (fI x.f1) ++ toB [46]).size + (toB (fI x.f2)).size ≤ _); simp only [toB_app, toB_sz, List.length_append, List.length_singleton]; omega
    · show toB (fI x.f0) ++ toB [46] ++ toB (fI x.f1) ++ toB [46] ++ toB (fI x.f2) = _; simp only [toB_app]
  · rw [if_neg (show ¬ vR x = true from h)]; rfl
theorem impl_FormatRow_ev (x : S99) : Ev (fun k => impl_FormatRow.f k x.f0 x.f1 x.f2) (toB (fR x)) := by
  unfold fR
  refine Ev.u (fun _ => rfl) (Ev.b (Ev.c (impl_IsValidRow_eq ..)) (Ev.i (fun h => ?_) (fun h => Ev.p.r ?_)))
  · obtain ⟨h0, h1, h2⟩ := vR_b (x := x) h
    have a := fI_len x.f0 (by omega) (by omega)
    have b := fI_len x.f1 (by omega) (by omega)
    have c := fI_len x.f2 (by omega) (by omega)
    have e0 := impl_FormatInt_ev x.f0 (by omega) (by omega)
    have e1 := impl_FormatInt_ev x.f1 (by omega) (by omega)
    have e2 := impl_FormatInt_ev x.f2 (by omega) (by omega)
    rw [if_pos (show vR x = true from h), fR_parts]
    refine Ev.b e0 (Ev.t ?_ (Ev.b e1 (Ev.t ?_ (Ev.t ?_ (Ev.b e2 (Ev.t ?_ (Ev.p.r ?_)))))))
    · show (fI x.f0).length + 1 ≤ _; omega
    · show ((toB (fI x.f0) ++ toB [46]).size + (toB (fI x.f1)).size ≤ _); simp only [toB_app, toB_sz, List.length_append, List.length_singleton]; omega
    · show ((toB (fI x.f0) ++ toB [46] ++ toB (fI x.f1)).size + (toB [46]).size ≤ _); simp only [toB_app, toB_sz, List.length_append, List.length_singleton]; omega
    · show ((toB (fI x.f0) ++ toB [46] ++ toB (fI x.f1) ++ toB [46]).size + (toB (fI x.f2)).size ≤ _); simp only [toB_app, toB_sz, List.length_append, List.length_singleton]; omega
    · show toB (fI x.f0) ++ toB [46] ++ toB (fI x.f1) ++ toB [46] ++ toB (fI x.f2) = _; simp only [toB_app]
  · rw [if_neg (show ¬ vR x = true from h)]; rfl
/-- Bytes of numbers: digits and the sign. -/
def nmB (b : UInt8) : Prop := b.toNat = 45 ∨ (48 ≤ b.toNat ∧ b.toNat ≤ 57)
theorem fI_nm {n : Int} (hs : small n) : ∀ b ∈ fI n, nmB b := by
  have hd : ∀ m : Nat, m < 1000000000 → ∀ b ∈ dgl m, nmB b := by
    intro m hm b hb
    exact .inr (of_decide_eq_true (List.all_eq_true.1 (dgl_9 m hm).2.1 b hb))
  obtain ⟨h1, h2⟩ := hs
  by_cases h : n < 0
  · rw [fI_neg h]
    intro b hb
    rcases List.mem_cons.1 hb with rfl | hb
    · exact .inl rfl
    · exact hd _ (by omega) b hb
  · rw [fI_pos h]
    exact hd _ (by omega)
theorem fI_ne {n : Int} : fI n ≠ [] := by
  unfold fI
  split
  · simp
  · rw [dgl]; split <;> simp
theorem nm_ne {b c : UInt8} (h : nmB b) (hc : c.toNat ≠ 45) (hd : ¬ (48 ≤ c.toNat ∧ c.toNat ≤ 57)) : b ≠ c := by
  intro e; rw [e] at h; rcases h with h | h
  · exact hc h
  · exact hd h
def pR (s : List UInt8) : S99 × Bool :=
  match ctS 46 s with
  | [a, b, c] => if (pI a).2 = true ∧ (pI b).2 = true ∧ (pI c).2 = true ∧ vR ⟨(pI a).1, (pI b).1, (pI c).1⟩ = true then (⟨(pI a).1, (pI b).1, (pI c).1⟩, true) else (⟨0, 0, 0⟩, false)
  | _ => (⟨0, 0, 0⟩, false)
theorem ct_fR {x : S99} (h : vR x = true) : ctS 46 (fR x) = [fI x.f0, fI x.f1, fI x.f2] := by
  obtain ⟨h0, h1, h2⟩ := vR_b h
  have n0 := fI_nm (n := x.f0) ⟨by omega, by omega⟩
  have n1 := fI_nm (n := x.f1) ⟨by omega, by omega⟩
  have n2 := fI_nm (n := x.f2) ⟨by omega, by omega⟩
  unfold fR; rw [if_pos h]
  refine ct_jn 46 _ _ fun y hy b hb => ?_
  have hn : nmB b := by
    simp only [List.mem_cons, List.not_mem_nil, or_false] at hy
    rcases hy with rfl | rfl | rfl
    · exact n0 b hb
    · exact n1 b hb
    · exact n2 b hb
  exact nm_ne hn (by decide) (by decide)
theorem pR_fR {x : S99} (h : vR x = true) : pR (fR x) = (x, true) := by
  obtain ⟨h0, h1, h2⟩ := vR_b h
  unfold pR
  rw [ct_fR h]
  dsimp only
  rw [pI_fmt x.f0 ⟨by omega, by omega⟩, pI_fmt x.f1 ⟨by omega, by omega⟩, pI_fmt x.f2 ⟨by omega, by omega⟩]
  exact if_pos ⟨rfl, rfl, rfl, h⟩
theorem fR_cut {s a b c : List UInt8} (h : ctS 46 s = [a, b, c]) : fR ⟨(pI a).1, (pI b).1, (pI c).1⟩ = s ↔ ((pI a).2 = true ∧ (pI b).2 = true ∧ (pI c).2 = true ∧ vR ⟨(pI a).1, (pI b).1, (pI c).1⟩ = true) := by
  constructor
  · intro e
    by_cases v : vR ⟨(pI a).1, (pI b).1, (pI c).1⟩ = true
    · have h' := ct_fR v
      rw [e, h] at h'
      injection h' with e0 h'
      injection h' with e1 h'
      injection h' with e2 _
      obtain ⟨v0, v1, v2⟩ := vR_b v
      dsimp only at v0 v1 v2 e0 e1 e2
      have p0 := pI_fmt (pI a).1 ⟨by omega, by omega⟩
      have p1 := pI_fmt (pI b).1 ⟨by omega, by omega⟩
      have p2 := pI_fmt (pI c).1 ⟨by omega, by omega⟩
      rw [← e0] at p0
      rw [← e1] at p1
      rw [← e2] at p2
      exact ⟨by rw [p0], by rw [p1], by rw [p2], v⟩
    · unfold fR at e
      rw [if_neg v] at e
      rw [← e] at h
      simp [ctS, ctG] at h
  · rintro ⟨h0, h1, h2, v⟩
    have f0 := (pI_some h0).2
    have f1 := (pI_some h1).2
    have f2 := (pI_some h2).2
    have hj := jn_ctS 46 s
    rw [h] at hj
    unfold fR
    rw [if_pos v]
    dsimp only
    rw [← f0, ← f1, ← f2]
    exact hj
theorem pR_some {s : List UInt8} (h : (pR s).2 = true) : vR (pR s).1 = true ∧ fR (pR s).1 = s := by
  unfold pR at h ⊢
  split at h
  · rename_i a b c e
    by_cases g : (pI a).2 = true ∧ (pI b).2 = true ∧ (pI c).2 = true ∧ vR ⟨(pI a).1, (pI b).1, (pI c).1⟩ = true
    · rw [if_pos g]; exact ⟨g.2.2.2, (fR_cut e).2 g⟩
    · rw [if_neg g] at h; cases h
  · cases h
abbrev rtp (r : S99 × Bool) : Int × Int × Int × Bool := (r.1.f0, r.1.f1, r.1.f2, r.2)
theorem spec_ParseRow_ev (s : List UInt8) (hs : s.length ≤ 1000000000) : Ev (fun k => spec_ParseRow.f k (toB s)) (rtp (pR s)) := by
  have ec := spec_l2Cut_ev s hs 46 46 rfl
  have hm := fun x => ctS_mem (c := 46) (s := s) (x := x)
  unfold pR
  refine Ev.u (fun _ => rfl) (Ev.b ec ?_)
  rw [List.length_map]
  cases h : ctS 46 s with
  | nil => exact Ev.e (by simp) Ev.p
  | cons a l =>
    cases l with
    | nil => exact Ev.e (by simp) Ev.p
    | cons b l =>
      cases l with
      | nil => exact Ev.e (by simp) Ev.p
      | cons c l =>
        cases l with
        | cons d l => exact Ev.e (by simp only [List.length_cons]; omega) Ev.p
        | nil =>
          rw [h] at hm
          have za := hm a (by simp)
          have zb := hm b (by simp)
          have zc := hm c (by simp)
          refine Ev.t rfl (Ev.t (by simp) ?_)
          rw [show rdOf ByteArray.empty ([a, b, c].map toB) 0 = toB a from rfl, show rdOf ByteArray.empty ([a, b, c].map toB) 1 = toB b from rfl, show rdOf ByteArray.empty ([a, b, c].map toB) 2 = toB c from rfl]
          refine Ev.b (spec_ParseInt_ev a (by omega)) (Ev.t (by simp) (Ev.b (spec_ParseInt_ev b (by omega)) (Ev.t (by simp) (Ev.b (spec_ParseInt_ev c (by omega)) ?_))))
          have fr := spec_FormatRow_ev ⟨(pI a).1, (pI b).1, (pI c).1⟩
          refine Ev.b fr (Ev.i (fun g => Ev.p.r ?_) (fun g => Ev.p.r ?_))
          · dsimp only; rw [if_pos ((fR_cut h).1 (toB_inj ((toL_iff _ _).1 g)))]
          · dsimp only; rw [if_neg (fun q => g (by rw [(fR_cut h).2 q]))]
theorem impl_ParseRow_ev (s : List UInt8) (hs : s.length ≤ 1000000000) : Ev (fun k => impl_ParseRow.f k (toB s)) (rtp (pR s)) := by
  have ec := impl_cut_ev s hs 46 46 rfl
  unfold pR
  refine Ev.u (fun _ => rfl) (Ev.b ec ?_)
  rw [List.length_map]
  cases h : ctS 46 s with
  | nil => exact Ev.e (by simp) Ev.p
  | cons a l =>
    cases l with
    | nil => exact Ev.e (by simp) Ev.p
    | cons b l =>
      cases l with
      | nil => exact Ev.e (by simp) Ev.p
      | cons c l =>
        cases l with
        | cons d l => exact Ev.e (by simp only [List.length_cons]; omega) Ev.p
        | nil =>
          refine Ev.t rfl (Ev.t (by simp) ?_)
          rw [show rdOf ByteArray.empty ([a, b, c].map toB) 0 = toB a from rfl, show rdOf ByteArray.empty ([a, b, c].map toB) 1 = toB b from rfl, show rdOf ByteArray.empty ([a, b, c].map toB) 2 = toB c from rfl]
          refine Ev.b (impl_ParseInt_ev a) (Ev.t (by simp) (Ev.b (impl_ParseInt_ev b) (Ev.t (by simp) (Ev.b (impl_ParseInt_ev c) ?_))))
          refine Ev.i (fun q0 => Ev.i (fun q1 => Ev.i (fun q2 => Ev.b (Ev.c (impl_IsValidRow_eq ..)) (Ev.i (fun q3 => Ev.p.r ?_) (fun q3 => Ev.p.r ?_))) (fun q2 => Ev.p.r ?_)) (fun q1 => Ev.p.r ?_)) (fun q0 => Ev.p.r ?_)
          · dsimp only; rw [if_pos ⟨q0, q1, q2, q3⟩]
          · dsimp only; rw [if_neg (fun g => q3 g.2.2.2)]
          · dsimp only; rw [if_neg (fun g => q2 g.2.2.1)]
          · dsimp only; rw [if_neg (fun g => q1 g.2.1)]
          · dsimp only; rw [if_neg (fun g => q0 g.1)]

def fRs (l : List S99) : List UInt8 := if vRows l = true then jnL 32 (l.map fR) else []
theorem tot_fR : ∀ l : List S99, tot (l.map fR) ≤ 67 * l.length
  | [] => by simp [tot]
  | x :: l => by rw [List.map_cons, tot_cons, List.length_cons]; have := fR_len x; have := tot_fR l; omega
theorem fRs_len (l : List S99) : (fRs l).length ≤ 1608 := by
  unfold fRs
  split
  · rename_i h
    have := jnL_len 32 (l.map fR); have := tot_fR l; have := vRows_len h; omega
  · simp
theorem impl_rowTexts_ev (l : List S99) (hl : l.length ≤ 1000000) : Ev (fun k => impl_rowTexts.f k l) (toB (jnL 32 (l.map fR))) := by
  have L : ∀ (s : List S99) (i : Nat) (A : List (List UInt8)), l.drop i = s → A.length ≤ i → i ≤ l.length → tot A ≤ 67 * i → Ev (fun k => impl_rowTexts.l0 k (A.map toB) (l.length : Int) (i : Int) l) (toB (jnL 32 (A ++ s.map fR))) := by
    intro s
    induction s with
    | nil =>
      intro i A hd hA hi ht
      have := drop_nil' hd
      refine Ev.s (fun k => by rw [impl_rowTexts.l0]) ?_
      exact Ev.e (by omega) (Ev.b (impl_joined_ev 32 A (by omega) (by omega)) (Ev.p.r (by simp)))
    | cons x t ih =>
      intro i A hd hA hi ht
      obtain ⟨hi', hd', hx, -⟩ := drop_cons' hd
      have hf := fR_len x
      have h := ih (i + 1) (A ++ [fR x]) hd' (by simp; omega) (by omega) (by rw [tot_app, tot_cons, show tot [] = 0 from rfl]; omega)
      refine Ev.s (fun k => by rw [impl_rowTexts.l0]) (Ev.t (by omega) (Ev.t (by omega) (Ev.t (by omega) ?_)))
      rw [rdR, hx, w64s hi' (by omega)]
      refine Ev.b (impl_FormatRow_ev x) (Ev.t (by rw [List.length_map]; omega) ?_)
      rw [List.map_append, List.append_assoc] at h
      exact h
  exact Ev.u (fun _ => rfl) (L l 0 [] rfl (by simp) (by omega) (by simp [tot]))
theorem impl_FormatRows_ev (l : List S99) (hl : l.length ≤ 1073741824) : Ev (fun k => impl_FormatRows.f k l) (toB (fRs l)) := by
  unfold fRs
  refine Ev.u (fun _ => rfl) (Ev.b (impl_AreValidRows_ev l (by omega)) (Ev.i (fun h => ?_) (fun h => Ev.p.r ?_)))
  · rw [if_pos h]
    exact Ev.b (impl_rowTexts_ev l (by have := vRows_len h; omega)) Ev.p
  · rw [if_neg h]; rfl
theorem spec_FormatRows_ev (l : List S99) (hl : l.length ≤ 1073741824) : Ev (fun k => spec_FormatRows.f k l) (toB (fRs l)) := by
  have hv := spec_AreValidRows_ev l (by omega)
  unfold fRs
  refine Ev.u (fun k => by rw [spec_FormatRows.f]) ?_
  by_cases h : vRows l = true
  · have h24 := vRows_len h
    rw [h] at hv
    rw [if_pos h]
    have J : ∀ (x : S99) (i : Nat) (acc : List UInt8) (r : ByteArray) (b : Bool), i < l.length → (∀ d, l.getD i d = x) → acc.length ≤ 1000000 → Ev (fun k => spec_FormatRows.l0 k (toB (acc ++ fR x)) ((i + 1 : Nat) : Int) l) r → Ev (fun k => spec_FormatRows.j0 k (toB acc) (i : Int) b l) r := by
      intro x i acc r b hi hx ha h
      have hf := fR_len x
      refine Ev.s (fun k => by rw [spec_FormatRows.j0]) (Ev.t (by omega) (Ev.t (by omega) ?_))
      rw [rdR, hx, w64s hi (by omega)]
      refine Ev.b (spec_FormatRow_ev x) ?_
      rw [toB_app, toB_sz, toB_sz]
      exact Ev.t (by omega) h
    have L : ∀ (s : List S99) (i : Nat) (acc : List UInt8), l.drop i = s → 0 < i → acc.length + 67 * s.length ≤ 900000 → Ev (fun k => spec_FormatRows.l0 k (toB acc) (i : Int) l) (toB (acc ++ (s.map fR).flatMap fun y => 32 :: y)) := by
      intro s
      induction s with
      | nil =>
        intro i acc hd h0 ha
        have := drop_nil' hd
        exact Ev.s (fun k => by rw [spec_FormatRows.l0]) (Ev.e (by omega) (Ev.p.r (by simp)))
      | cons x t ih =>
        intro i acc hd h0 ha
        rw [List.length_cons] at ha
        obtain ⟨hi', hd', hx, -⟩ := drop_cons' hd
        have hf := fR_len x
        refine Ev.s (fun k => by rw [spec_FormatRows.l0]) ?_
        refine Ev.t (by omega) (Ev.b hv (Ev.t rfl (Ev.t (by omega) (Ev.t (by show acc.length + 1 ≤ _; omega) ?_))))
        rw [show toB acc ++ (⟨#[32]⟩ : ByteArray) = toB (acc ++ [32]) from toB_app acc [32]]
        refine J x i (acc ++ [32]) _ _ hi' hx (by simp; omega) ((ih (i + 1) _ hd' (by omega) (by simp; omega)).r ?_)
        simp
    cases l with
    | nil => exact Ev.s (fun k => by rw [spec_FormatRows.l0]) (Ev.e (by simp) (Ev.p.r (by rfl)))
    | cons x t =>
      have hf := fR_len x
      rw [List.length_cons] at h24
      refine Ev.s (fun k => by rw [spec_FormatRows.l0]) ?_
      refine Ev.t (by simp) (Ev.b hv (Ev.t rfl (Ev.e (by omega) ?_)))
      exact J x 0 [] _ _ (by simp) (fun _ => rfl) (by simp) (L t 1 (fR x) rfl (by omega) (by omega))
  · rw [if_neg h]
    refine Ev.s (fun k => by rw [spec_FormatRows.l0]) ?_
    exact Ev.i (fun _ => Ev.b hv (Ev.e h (Ev.p.r rfl))) (fun _ => Ev.p.r rfl)
def pRg (A : List S99) : List (List UInt8) → List S99 × Bool
  | [] => if vRows A = true then (A, true) else ([], false)
  | x :: t => if (pR x).2 = true then pRg (A ++ [(pR x).1]) t else ([], false)
def pRs (s : List UInt8) : List S99 × Bool := if s = [] then ([], true) else pRg [] (ctS 32 s)
theorem impl_ParseRows_ev (s : List UInt8) (hs : s.length ≤ 100000000) : Ev (fun k => impl_ParseRows.f k (toB s)) (pRs s) := by
  unfold pRs
  refine Ev.u (fun _ => rfl) (Ev.i (fun h => ?_) (fun h => ?_))
  · rw [if_pos (show s = [] from (toL_nil _).1 h)]; exact Ev.p
  have h' : ¬ s = [] := fun e => h ((toL_nil _).2 e)
  rw [if_neg h']
  have hl := ctS_len 32 s
  have hm := fun x => ctS_mem (c := 32) (s := s) (x := x)
  refine Ev.b (impl_cut_ev s (by omega) 32 32 rfl) ?_
  rw [List.length_map]
  generalize ctS 32 s = C at *
  have L : ∀ (t : List (List UInt8)) (i : Nat) (A : List S99), C.drop i = t → A.length ≤ i → i ≤ C.length → Ev (fun k => impl_ParseRows.l0 k A (C.map toB) (C.length : Int) (i : Int)) (pRg A t) := by
    intro t
    induction t with
    | nil =>
      intro i A hd hA hi
      have := drop_nil' hd
      refine Ev.s (fun k => by rw [impl_ParseRows.l0]) (Ev.e (by omega) (Ev.b (impl_AreValidRows_ev A (by omega)) (Ev.i (fun g => Ev.p.r ?_) (fun g => Ev.p.r ?_))))
      · unfold pRg; rw [if_pos g]
      · unfold pRg; rw [if_neg g]
    | cons x t ih =>
      intro i A hd hA hi
      obtain ⟨hi', hd', hx, -⟩ := drop_cons' hd
      have hz := hm x (List.mem_of_mem_drop (by rw [hd]; exact List.mem_cons_self ..))
      refine Ev.s (fun k => by rw [impl_ParseRows.l0]) (Ev.t (by omega) (Ev.t (by omega) (Ev.t (by rw [List.length_map]; omega) ?_)))
      rw [rdS, hx, w64s hi' (by omega)]
      unfold pRg
      refine Ev.b (impl_ParseRow_ev x (by omega)) (Ev.i (fun g => ?_) (fun g => Ev.p.r ?_))
      · rw [if_pos g]
        exact Ev.t (by omega) (ih (i + 1) _ hd' (by simp; omega) (by omega))
      · rw [if_neg g]
  exact L C 0 [] rfl (by simp) (by omega)
theorem spec_ParseRows_j0 (A : List S99) (hA : A.length ≤ 200000000) : Ev (fun k => spec_ParseRows.j0 k A) (if vRows A = true then (A, true) else ([], false)) := by
  refine Ev.s (fun k => by rw [spec_ParseRows.j0]) (Ev.b (spec_AreValidRows_ev A (by omega)) (Ev.i (fun g => Ev.p.r ?_) (fun g => Ev.p.r ?_)))
  · rw [if_pos g]
  · rw [if_neg g]
theorem spec_ParseRows_ev (s : List UInt8) (hs : s.length ≤ 100000000) : Ev (fun k => spec_ParseRows.f k (toB s)) (pRs s) := by
  unfold pRs
  have hl := ctS_len 32 s
  have hm := fun x => ctS_mem (c := 32) (s := s) (x := x)
  refine Ev.u (fun _ => rfl) (Ev.b (spec_l2Cut_ev s (by omega) 32 32 rfl) ?_)
  by_cases h : s = []
  · subst h
    rw [if_pos rfl]
    refine Ev.s (fun k => by rw [spec_ParseRows.l0]) ?_
    refine Ev.t (by simp [ctS, ctG]) (Ev.t rfl ?_)
    exact (spec_ParseRows_j0 [] (by simp)).r (by rfl)
  rw [if_neg h]
  generalize ctS 32 s = C at *
  have L : ∀ (t : List (List UInt8)) (i : Nat) (A : List S99), C.drop i = t → A.length ≤ i → i ≤ C.length → Ev (fun k => spec_ParseRows.l0 k (toB s) A (C.map toB) (i : Int)) (pRg A t) := by
    intro t
    induction t with
    | nil =>
      intro i A hd hA hi
      have := drop_nil' hd
      refine Ev.s (fun k => by rw [spec_ParseRows.l0]) (Ev.e (by rw [List.length_map]; omega) ?_)
      exact spec_ParseRows_j0 A (by omega)
    | cons x t ih =>
      intro i A hd hA hi
      obtain ⟨hi', hd', hx, -⟩ := drop_cons' hd
      have hz := hm x (List.mem_of_mem_drop (by rw [hd]; exact List.mem_cons_self ..))
      refine Ev.s (fun k => by rw [spec_ParseRows.l0]) ?_
      refine Ev.t (by rw [List.length_map]; omega) (Ev.e (fun g => h ((toL_nil _).1 g)) (Ev.t (by omega) ?_))
      rw [rdS, hx, w64s hi' (by omega)]
      unfold pRg
      refine Ev.b (spec_ParseRow_ev x (by omega)) (Ev.i (fun g => ?_) (fun g => Ev.p.r ?_))
      · rw [if_pos g]
        exact Ev.t (by omega) (ih (i + 1) _ hd' (by simp; omega) (by omega))
      · rw [if_neg g]
  exact L C 0 [] rfl (by simp) (by omega)
theorem pRg_some : ∀ (t : List (List UInt8)) (A : List S99), (pRg A t).2 = true → ∃ B, (pRg A t).1 = A ++ B ∧ B.map fR = t ∧ vRows (A ++ B) = true
  | [], A, h => by
    unfold pRg at h ⊢
    by_cases g : vRows A = true
    · rw [if_pos g]; exact ⟨[], by simp, rfl, by simpa using g⟩
    · rw [if_neg g] at h; cases h
  | x :: t, A, h => by
    unfold pRg at h ⊢
    by_cases g : (pR x).2 = true
    · rw [if_pos g] at h ⊢
      obtain ⟨B, b1, b2, b3⟩ := pRg_some t _ h
      rw [List.append_assoc] at b1 b3
      exact ⟨(pR x).1 :: B, b1, by rw [List.map_cons, b2, (pR_some g).2], b3⟩
    · rw [if_neg g] at h; cases h
theorem pRg_no : ∀ (t : List (List UInt8)) (A : List S99), (pRg A t).2 = false → pRg A t = ([], false)
  | [], A, h => by
    unfold pRg at h ⊢
    by_cases g : vRows A = true
    · rw [if_pos g] at h; cases h
    · rw [if_neg g]
  | x :: t, A, h => by
    unfold pRg at h ⊢
    by_cases g : (pR x).2 = true
    · rw [if_pos g] at h ⊢; exact pRg_no t _ h
    · rw [if_neg g]
theorem pRs_some {s : List UInt8} (h : (pRs s).2 = true) : vRows (pRs s).1 = true ∧ fRs (pRs s).1 = s := by
  unfold pRs at h ⊢
  by_cases g : s = []
  · rw [if_pos g, g]; exact ⟨by rfl, by rfl⟩
  · rw [if_neg g] at h ⊢
    obtain ⟨B, b1, b2, b3⟩ := pRg_some _ _ h
    rw [List.nil_append] at b1 b3
    rw [b1]
    refine ⟨b3, ?_⟩
    unfold fRs; rw [if_pos b3, b2, jn_ctS]
theorem pRs_no {s : List UInt8} (h : (pRs s).2 = false) : pRs s = ([], false) := by
  unfold pRs at h ⊢
  by_cases g : s = []
  · rw [if_pos g] at h; cases h
  · rw [if_neg g] at h ⊢; exact pRg_no _ _ h
theorem pRs_len (s : List UInt8) : (pRs s).1.length ≤ 24 := by
  cases h : (pRs s).2 with
  | true => exact vRows_len (pRs_some h).1
  | false => rw [pRs_no h]; simp
theorem pRg_map : ∀ (B A : List S99), vAll B = true → vRows (A ++ B) = true → pRg A (B.map fR) = (A ++ B, true)
  | [], A, _, h => by
    rw [List.append_nil] at h ⊢
    show (if vRows A = true then (A, true) else ([], false)) = _
    rw [if_pos h]
  | x :: B, A, hv, h => by
    have hx : vR x = true := by unfold vAll at hv; rw [List.all_cons, Bool.and_eq_true] at hv; exact hv.1
    have hB : vAll B = true := by unfold vAll at hv ⊢; rw [List.all_cons, Bool.and_eq_true] at hv; exact hv.2
    rw [List.map_cons]
    unfold pRg
    rw [pR_fR hx, if_pos rfl]
    have ih := pRg_map B (A ++ [x]) hB (by rw [List.append_assoc]; exact h)
    rw [ih, List.append_assoc]; rfl
theorem fR_ne {x : S99} (h : vR x = true) : fR x ≠ [] := by
  unfold fR; rw [if_pos h, jnL_cons]
  intro e
  exact fI_ne (List.append_eq_nil_iff.1 e).1
theorem fR_32 {x : S99} : ∀ b ∈ fR x, nmB b ∨ b.toNat = 46 := by
  unfold fR
  by_cases h : vR x = true
  · obtain ⟨h0, h1, h2⟩ := vR_b h
    have n0 := fI_nm (n := x.f0) ⟨by omega, by omega⟩
    have n1 := fI_nm (n := x.f1) ⟨by omega, by omega⟩
    have n2 := fI_nm (n := x.f2) ⟨by omega, by omega⟩
    rw [if_pos h, fR_parts]
    intro b hb
    simp only [List.mem_append, List.mem_singleton] at hb
    rcases hb with (((hb | hb) | hb) | hb) | hb
    · exact .inl (n0 b hb)
    · right; rw [hb]; rfl
    · exact .inl (n1 b hb)
    · right; rw [hb]; rfl
    · exact .inl (n2 b hb)
  · rw [if_neg h]; simp
theorem pRs_fRs {l : List S99} (h : vRows l = true) : pRs (fRs l) = (l, true) := by
  unfold fRs; rw [if_pos h]
  cases l with
  | nil => rfl
  | cons x t =>
    have hv := (vRows_iff.1 h).1
    have hx : vR x = true := by unfold vAll at hv; rw [List.all_cons, Bool.and_eq_true] at hv; exact hv.1
    have hn : jnL 32 ((x :: t).map fR) ≠ [] := by
      rw [List.map_cons, jnL_cons]; exact fun e => fR_ne hx (List.append_eq_nil_iff.1 e).1
    unfold pRs
    rw [if_neg hn, List.map_cons, ct_jn, ← List.map_cons, pRg_map _ _ hv (by simpa using h)]
    · rfl
    · intro y hy b hb
      rw [← List.map_cons] at hy
      obtain ⟨r, -, rfl⟩ := List.mem_map.1 hy
      rcases fR_32 b hb with hq | hq
      · exact nm_ne hq (by decide) (by decide)
      · intro e; rw [e] at hq; exact absurd hq (by decide)
theorem jn_mem {c : UInt8} {b : UInt8} : ∀ {L : List (List UInt8)}, b ∈ jnL c L → b = c ∨ ∃ x ∈ L, b ∈ x
  | [], h => by simp [jnL] at h
  | x :: t, h => by
    rw [jnL_cons, List.mem_append] at h
    rcases h with h | h
    · exact .inr ⟨x, List.mem_cons_self .., h⟩
    · obtain ⟨y, hy, hb⟩ := List.mem_flatMap.1 h
      rcases List.mem_cons.1 hb with hb | hb
      · exact .inl hb
      · exact .inr ⟨y, List.mem_cons_of_mem _ hy, hb⟩
theorem fRs_b {l : List S99} : ∀ b ∈ fRs l, nmB b ∨ b.toNat = 46 ∨ b.toNat = 32 := by
  unfold fRs
  split
  · intro b hb
    rcases jn_mem hb with hb | ⟨x, hx, hb⟩
    · right; right; rw [hb]; rfl
    · obtain ⟨r, -, rfl⟩ := List.mem_map.1 hx
      rcases fR_32 b hb with hq | hq
      · exact .inl hq
      · exact .inr (.inl hq)
  · simp
/-! tasks -/
def mkB (l : List Bool) : List UInt8 := l.map fun b => if b = true then 49 else 48
def rdM (l : List UInt8) : List Bool := l.map fun x => decide (x.toNat = 49)
theorem rdM_mkB (l : List Bool) : rdM (mkB l) = l := by
  unfold rdM mkB
  rw [List.map_map]
  conv => rhs; rw [← List.map_id l]
  refine List.map_congr_left fun b _ => ?_
  cases b <;> rfl
def tP (t : S27) : List (List UInt8) := [fI t.f0, fRs t.f1, fRs t.f2, mkB t.f3, fI t.f4]
def fT (t : S27) : List UInt8 := if vTask t = true then jnL 59 (tP t) else []
theorem tP_tot {t : S27} (h : VT t) : tot (tP t) ≤ 4000 := by
  have h1 := h.kind; have h2 := h.level; have h3 := h.b
  have a := fI_len t.f0 (by omega) (by omega)
  have b := fI_len t.f4 (by omega) (by omega)
  have c := fRs_len t.f1; have d := fRs_len t.f2
  unfold tP mkB
  rw [tot_cons, tot_cons, tot_cons, tot_cons, tot_cons, show tot [] = 0 from rfl, List.length_map]; omega
theorem fT_len (t : S27) : (fT t).length ≤ 4000 := by
  unfold fT
  split
  · rename_i h; exact Nat.le_trans (jnL_len 59 _) (tP_tot (vTask_iff.1 h))
  · simp
theorem impl_FormatTask_ev (t : S27) (ht : tsz t ≤ 1073741824) : Ev (fun k => impl_FormatTask.f k t.f0 t.f1 t.f2 t.f3 t.f4) (toB (fT t)) := by
  unfold fT
  refine Ev.u (fun _ => rfl) (Ev.b (impl_IsValidTask_ev t (by omega)) (Ev.i (fun h => ?_) (fun h => Ev.p.r ?_)))
  · have hV := vTask_iff.1 h
    have hk := hV.kind; have hlv := hV.level; have hb := hV.b
    have htot := tP_tot hV
    rw [if_pos h]
    have L : ∀ (s : List Bool) (i : Nat) (acc : List UInt8), t.f3.drop i = s → acc.length ≤ i → i ≤ t.f3.length → Ev (fun k => impl_FormatTask.l0 k (toB acc) (t.f3.length : Int) (i : Int) t.f0 t.f4 t.f3 t.f1 t.f2) (toB (jnL 59 [fI t.f0, fRs t.f1, fRs t.f2, acc ++ mkB s, fI t.f4])) := by
      intro s
      induction s with
      | nil =>
        intro i acc hd ha hi
        have := drop_nil' hd
        have a := fI_len t.f0 (by omega) (by omega)
        have b := fI_len t.f4 (by omega) (by omega)
        have c := fRs_len t.f1; have d := fRs_len t.f2
        have ej := impl_joined_ev 59 [fI t.f0, fRs t.f1, fRs t.f2, acc, fI t.f4] (by simp) (by rw [tot_cons, tot_cons, tot_cons, tot_cons, tot_cons, show tot [] = 0 from rfl]; omega)
        refine Ev.s (fun k => by rw [impl_FormatTask.l0]) ?_
        refine Ev.e (by omega) ?_
        refine Ev.b (impl_FormatInt_ev t.f0 (by omega) (by omega)) (Ev.b (impl_FormatRows_ev t.f1 (by omega)) (Ev.b (impl_FormatRows_ev t.f2 (by omega)) (Ev.b (impl_FormatInt_ev t.f4 (by omega) (by omega)) (Ev.b ej (Ev.p.r ?_)))))
        simp [mkB]
      | cons x s ih =>
        intro i acc hd ha hi
        obtain ⟨hi', hd', hx, -⟩ := drop_cons' hd
        have h := fun c => ih (i + 1) (acc ++ [c]) hd' (by simp; omega) (by omega)
        refine Ev.s (fun k => by rw [impl_FormatTask.l0]) ?_
        refine Ev.t (by omega) (Ev.t (by omega) (Ev.t (by omega) ?_))
        rw [rdB, hx, w64s hi' (by omega)]
        refine Ev.i (fun g => Ev.t (by show acc.length + 1 ≤ _; omega) ?_) (fun g => Ev.t (by show acc.length + 1 ≤ _; omega) ?_)
        · rw [show toB acc ++ (⟨#[49]⟩ : ByteArray) = toB (acc ++ [49]) from toB_app acc [49]]
          exact (h 49).r (by simp [mkB, g])
        · rw [show toB acc ++ (⟨#[48]⟩ : ByteArray) = toB (acc ++ [48]) from toB_app acc [48]]
          exact (h 48).r (by simp [mkB, g])
    exact L t.f3 0 [] rfl (by simp) (by omega)
  · rw [if_neg h]; rfl
theorem spec_FormatTask_ev (t : S27) (ht : tsz t ≤ 1073741824) : Ev (fun k => spec_FormatTask.f k t.f0 t.f1 t.f2 t.f3 t.f4) (toB (fT t)) := by
  unfold fT
  refine Ev.u (fun _ => rfl) (Ev.b (spec_IsValidTask_ev t (by omega)) (Ev.i (fun h => ?_) (fun h => Ev.p.r ?_)))
  · have hV := vTask_iff.1 h
    have hk := hV.kind; have hlv := hV.level; have hb := hV.b
    rw [if_pos h]
    have L : ∀ (s : List Bool) (i : Nat) (acc : List UInt8), t.f3.drop i = s → acc.length ≤ i → i ≤ t.f3.length → Ev (fun k => spec_FormatTask.l0 k (toB acc) (i : Int) t.f0 t.f4 t.f1 t.f2 t.f3) (toB (jnL 59 [fI t.f0, fRs t.f1, fRs t.f2, acc ++ mkB s, fI t.f4])) := by
      intro s
      induction s with
      | nil =>
        intro i acc hd ha hi
        have := drop_nil' hd
        have a := fI_len t.f0 (by omega) (by omega)
        have b := fI_len t.f4 (by omega) (by omega)
        have c := fRs_len t.f1; have d := fRs_len t.f2
        have e0 := spec_FormatInt_ev t.f0 (by omega) (by omega)
        have e1 := spec_FormatRows_ev t.f1 (by omega)
        have e2 := spec_FormatRows_ev t.f2 (by omega)
        have e4 := spec_FormatInt_ev t.f4 (by omega) (by omega)
        generalize fI t.f0 = A at *
        generalize fRs t.f1 = B at *
        generalize fRs t.f2 = C at *
        generalize fI t.f4 = D at *
        have g1 : toB A ++ (⟨#[59]⟩ : ByteArray) = toB (A ++ [59]) := toB_app _ _
        have g2 : (toB A ++ (⟨#[59]⟩ : ByteArray)) ++ toB B = toB (A ++ [59] ++ B) := by rw [g1, toB_app]
        have g3 : ((toB A ++ (⟨#[59]⟩ : ByteArray)) ++ toB B) ++ (⟨#[59]⟩ : ByteArray) = toB (A ++ [59] ++ B ++ [59]) := by rw [g2]; exact toB_app _ _
        have g4 : (((toB A ++ (⟨#[59]⟩ : ByteArray)) ++ toB B) ++ (⟨#[59]⟩ : ByteArray)) ++ toB C = toB (A ++ [59] ++ B ++ [59] ++ C) := by rw [g3, toB_app]
        have g5 : ((((toB A ++ (⟨#[59]⟩ : ByteArray)) ++ toB B) ++ (⟨#[59]⟩ : ByteArray)) ++ toB C) ++ (⟨#[59]⟩ : ByteArray) = toB (A ++ [59] ++ B ++ [59] ++ C ++ [59]) := by rw [g4]; exact toB_app _ _
        have g6 : (((((toB A ++ (⟨#[59]⟩ : ByteArray)) ++ toB B) ++ (⟨#[59]⟩ : ByteArray)) ++ toB C) ++ (⟨#[59]⟩ : ByteArray)) ++ toB acc = toB (A ++ [59] ++ B ++ [59] ++ C ++ [59] ++ acc) := by rw [g5, toB_app]
        have g7 : ((((((toB A ++ (⟨#[59]⟩ : ByteArray)) ++ toB B) ++ (⟨#[59]⟩ : ByteArray)) ++ toB C) ++ (⟨#[59]⟩ : ByteArray)) ++ toB acc) ++ (⟨#[59]⟩ : ByteArray) = toB (A ++ [59] ++ B ++ [59] ++ C ++ [59] ++ acc ++ [59]) := by rw [g6]; exact toB_app _ _
        refine Ev.s (fun k => by rw [spec_FormatTask.l0]) ?_
        refine Ev.e (by omega) ?_
        refine Ev.b e0 (Ev.t ?_ (Ev.b e1 (Ev.t ?_ (Ev.t ?_ (Ev.b e2 (Ev.t ?_ (Ev.t ?_ (Ev.t ?_ (Ev.t ?_ (Ev.b e4 (Ev.t ?_ (Ev.p.r ?_))))))))))))
        · show A.length + 1 ≤ _; omega
        · rw [g1, toB_sz, toB_sz]; simp; omega
        · rw [g2, toB_sz]; show _ + 1 ≤ _; simp; omega
        · rw [g3, toB_sz, toB_sz]; simp; omega
        · rw [g4, toB_sz]; show _ + 1 ≤ _; simp; omega
        · rw [g5, toB_sz, toB_sz]; simp; omega
        · rw [g6, toB_sz]; show _ + 1 ≤ _; simp; omega
        · rw [g7, toB_sz, toB_sz]; simp; omega
        · rw [g7, toB_app]; simp [jnL, mkB]
      | cons x s ih =>
        intro i acc hd ha hi
        obtain ⟨hi', hd', hx, -⟩ := drop_cons' hd
        have h := fun c => ih (i + 1) (acc ++ [c]) hd' (by simp; omega) (by omega)
        refine Ev.s (fun k => by rw [spec_FormatTask.l0]) ?_
        refine Ev.t (by omega) (Ev.t (by omega) ?_)
        rw [rdB, hx, w64s hi' (by omega)]
        refine Ev.i (fun g => Ev.t (by show acc.length + 1 ≤ _; omega) ?_) (fun g => Ev.t (by show acc.length + 1 ≤ _; omega) ?_)
        · rw [show toB acc ++ (⟨#[49]⟩ : ByteArray) = toB (acc ++ [49]) from toB_app acc [49]]
          exact (h 49).r (by simp [mkB, g])
        · rw [show toB acc ++ (⟨#[48]⟩ : ByteArray) = toB (acc ++ [48]) from toB_app acc [48]]
          exact (h 48).r (by simp [mkB, g])
    exact L t.f3 0 [] rfl (by simp) (by omega)
  · rw [if_neg h]; rfl
def mkTk (a b c d e : List UInt8) : S27 := ⟨(pI a).1, (pRs b).1, (pRs c).1, rdM d, (pI e).1⟩
def pT (s : List UInt8) : S27 × Bool :=
  match ctS 59 s with
  | [a, b, c, d, e] => if fT (mkTk a b c d e) = s then (mkTk a b c d e, true) else (z27, false)
  | _ => (z27, false)
theorem ne59 {b : UInt8} (h : nmB b ∨ b.toNat = 46 ∨ b.toNat = 32) : b ≠ 59 := by
  rcases h with h | h | h
  · exact nm_ne h (by decide) (by decide)
  · intro e; rw [e] at h; exact absurd h (by decide)
  · intro e; rw [e] at h; exact absurd h (by decide)
theorem mkB_b {l : List Bool} : ∀ b ∈ mkB l, nmB b := by
  intro b hb
  obtain ⟨x, -, rfl⟩ := List.mem_map.1 hb
  right
  cases x <;> decide
theorem tP_b {t : S27} (h : VT t) : ∀ y ∈ tP t, ∀ b ∈ y, nmB b ∨ b.toNat = 46 ∨ b.toNat = 32 := by
  have h1 := h.kind; have h2 := h.level
  intro y hy b hb
  simp only [tP, List.mem_cons, List.not_mem_nil, or_false] at hy
  rcases hy with rfl | rfl | rfl | rfl | rfl
  · exact .inl (fI_nm ⟨by omega, by omega⟩ b hb)
  · exact fRs_b b hb
  · exact fRs_b b hb
  · exact .inl (mkB_b b hb)
  · exact .inl (fI_nm ⟨by omega, by omega⟩ b hb)
theorem ct_fT {t : S27} (h : vTask t = true) : ctS 59 (fT t) = tP t := by
  have hV := vTask_iff.1 h
  unfold fT; rw [if_pos h]
  exact ct_jn 59 _ _ fun y hy b hb => ne59 (tP_b hV y hy b hb)
theorem mkTk_tP {t : S27} (h : VT t) : mkTk (fI t.f0) (fRs t.f1) (fRs t.f2) (mkB t.f3) (fI t.f4) = t := by
  have h1 := h.kind; have h2 := h.level
  unfold mkTk
  rw [pI_fmt t.f0 ⟨by omega, by omega⟩, pRs_fRs h.left, pRs_fRs h.right, rdM_mkB, pI_fmt t.f4 ⟨by omega, by omega⟩]
theorem pT_fT {t : S27} (h : vTask t = true) : pT (fT t) = (t, true) := by
  unfold pT
  rw [ct_fT h]
  unfold tP
  dsimp only
  rw [mkTk_tP (vTask_iff.1 h), if_pos rfl]
theorem fT_valid {t : S27} (h : fT t ≠ []) : vTask t = true := by
  unfold fT at h
  by_cases g : vTask t = true
  · exact g
  · rw [if_neg g] at h; exact absurd rfl h
theorem ct_nil (c : UInt8) : ctS c [] = [[]] := rfl
theorem pT_some {s : List UInt8} (h : (pT s).2 = true) : vTask (pT s).1 = true ∧ fT (pT s).1 = s := by
  unfold pT at h ⊢
  split at h
  · rename_i a b c d e hc
    by_cases g : fT (mkTk a b c d e) = s
    · rw [if_pos g]
      refine ⟨fT_valid ?_, g⟩
      rw [g]; intro e; rw [e, ct_nil] at hc; simp at hc
    · rw [if_neg g] at h; cases h
  · cases h
theorem fT_cut {s a b c d e : List UInt8} (hc : ctS 59 s = [a, b, c, d, e]) (h : fT (mkTk a b c d e) = s) : (pI a).2 = true ∧ (pRs b).2 = true ∧ (pRs c).2 = true ∧ (pI e).2 = true ∧ vTask (mkTk a b c d e) = true := by
  have v : vTask (mkTk a b c d e) = true := fT_valid (by rw [h]; intro q; rw [q, ct_nil] at hc; simp at hc)
  have hV := vTask_iff.1 v
  have hk := hV.kind; have hlv := hV.level
  have h' := ct_fT v
  rw [h, hc] at h'
  unfold tP at h'
  injection h' with e0 h'
  injection h' with e1 h'
  injection h' with e2 h'
  injection h' with e3 h'
  injection h' with e4 _
  have p0 := pI_fmt (mkTk a b c d e).f0 ⟨by omega, by omega⟩
  have p1 := pRs_fRs hV.left
  have p2 := pRs_fRs hV.right
  have p4 := pI_fmt (mkTk a b c d e).f4 ⟨by omega, by omega⟩
  rw [← e0] at p0
  rw [← e1] at p1
  rw [← e2] at p2
  rw [← e4] at p4
  exact ⟨by rw [p0], by rw [p1], by rw [p2], by rw [p4], v⟩

theorem mkTk_sz (a b c d e : List UInt8) : tsz (mkTk a b c d e) ≤ d.length + 48 := by
  have h1 := pRs_len b; have h2 := pRs_len c
  unfold tsz mkTk rdM; rw [List.length_map]; dsimp only; omega
theorem impl_ParseTask_ev (s : List UInt8) (hs : s.length ≤ 100000000) : Ev (fun k => impl_ParseTask.f k (toB s)) (ttup (pT s).1 (pT s).2) := by
  have hm := fun x => ctS_mem (c := 59) (s := s) (x := x)
  unfold pT
  refine Ev.u (fun _ => rfl) (Ev.b (impl_cut_ev s (by omega) 59 59 rfl) ?_)
  rw [List.length_map]
  cases hc : ctS 59 s with
  | nil => exact Ev.e (by simp) Ev.p
  | cons a l =>
    cases l with
    | nil => exact Ev.e (by simp) Ev.p
    | cons b l =>
      cases l with
      | nil => exact Ev.e (by simp) Ev.p
      | cons c l =>
        cases l with
        | nil => exact Ev.e (by simp) Ev.p
        | cons d l =>
          cases l with
          | nil => exact Ev.e (by simp) Ev.p
          | cons e l =>
            cases l with
            | cons q l => exact Ev.e (by simp only [List.length_cons]; omega) Ev.p
            | nil =>
              rw [hc] at hm
              have zb := hm b (by simp)
              have zc := hm c (by simp)
              have zd := hm d (by simp)
              dsimp only
              have r0 : rdOf ByteArray.empty ([a, b, c, d, e].map toB) 0 = toB a := rfl
              have r1 : rdOf ByteArray.empty ([a, b, c, d, e].map toB) 1 = toB b := rfl
              have r2 : rdOf ByteArray.empty ([a, b, c, d, e].map toB) 2 = toB c := rfl
              have r3 : rdOf ByteArray.empty ([a, b, c, d, e].map toB) 3 = toB d := rfl
              have r4 : rdOf ByteArray.empty ([a, b, c, d, e].map toB) 4 = toB e := rfl
              have ln : (([a, b, c, d, e].map toB).length : Int) = 5 := rfl
              have L : ∀ (u : List UInt8) (i : Nat) (M : List Bool), d.drop i = u → M.length ≤ i → M ++ rdM u = rdM d → i ≤ d.length → Ev (fun k => impl_ParseTask.l0 k (toB s) ([a, b, c, d, e].map toB) (pI a).2 (pRs b).2 (pRs c).2 (pI e).2 (d.length : Int) (i : Int) 0 [] [] [] 0 (pI a).1 (pRs b).1 (pRs c).1 M (pI e).1) (ttup (if fT (mkTk a b c d e) = s then (mkTk a b c d e, true) else (z27, false)).1 (if fT (mkTk a b c d e) = s then (mkTk a b c d e, true) else (z27, false)).2) := by
                intro u
                induction u with
                | nil =>
                  intro i M hd hM hu hi
                  have := drop_nil' hd
                  have hM' : M = rdM d := by rw [← hu]; simp [rdM]
                  subst hM'
                  have hz := mkTk_sz a b c d e
                  have ev := impl_IsValidTask_ev (mkTk a b c d e) (by omega)
                  have ef := impl_FormatTask_ev (mkTk a b c d e) (by omega)
                  have no : ¬ ((pI a).2 = true ∧ (pRs b).2 = true ∧ (pRs c).2 = true ∧ (pI e).2 = true ∧ vTask (mkTk a b c d e) = true) → ttup z27 false = ttup (if fT (mkTk a b c d e) = s then (mkTk a b c d e, true) else (z27, false)).1 (if fT (mkTk a b c d e) = s then (mkTk a b c d e, true) else (z27, false)).2 := by
                    intro g; rw [if_neg (fun q => g (fT_cut hc q))]
                  refine Ev.s (fun k => by rw [impl_ParseTask.l0]) ?_
                  refine Ev.e (by omega) (Ev.i (fun q0 => Ev.i (fun q1 => Ev.i (fun q2 => Ev.i (fun q3 => Ev.b ev (Ev.i (fun q4 => Ev.b ef (Ev.i (fun q5 => Ev.p.r ?_) (fun q5 => Ev.p.r ?_))) (fun q4 => Ev.p.r (no fun g => q4 g.2.2.2.2)))) (fun q3 => Ev.p.r (no fun g => q3 g.2.2.2.1))) (fun q2 => Ev.p.r (no fun g => q2 g.2.2.1))) (fun q1 => Ev.p.r (no fun g => q1 g.2.1))) (fun q0 => Ev.p.r (no fun g => q0 g.1)))
                  · rw [if_pos (toB_inj ((toL_iff _ _).1 q5))]; rfl
                  · rw [if_neg (fun g => q5 (by rw [g]))]
                    rfl
                | cons x u ih =>
                  intro i M hd hM hu hi
                  obtain ⟨hb, hi', hd'⟩ := bt_drop (s := toB d) (i := i) hd
                  rw [toB_sz] at hi'
                  refine Ev.s (fun k => by rw [impl_ParseTask.l0]) ?_
                  rw [r3, ln, toB_sz, hb, w64s hi' (by omega)]
                  refine Ev.t (by omega) (Ev.t (by omega) (Ev.t (by omega) (Ev.t (by omega) (Ev.t (by omega) ?_))))
                  have hx : decide ((x.toNat : Int) = 49) = decide (x.toNat = 49) := by
                    by_cases g : x.toNat = 49
                    · rw [decide_eq_true g, decide_eq_true (by omega)]
                    · rw [decide_eq_false g, decide_eq_false (by omega)]
                  rw [hx]
                  exact ih (i + 1) _ hd' (by simp; omega) (by rw [← hu]; simp [rdM]) (by omega)
              have h := L d 0 [] rfl (by simp) (by simp) (by omega)
              rw [r0, r1, r2, r3, r4, show (([a, b, c, d, e] : List (List UInt8)).length : Int) = 5 from rfl]
              refine Ev.t (by simp) (Ev.t (by omega) (Ev.b (impl_ParseInt_ev a) (Ev.t (by omega) (Ev.b (impl_ParseRows_ev b (by omega)) (Ev.t (by omega) (Ev.b (impl_ParseRows_ev c (by omega)) (Ev.t (by omega) (Ev.b (impl_ParseInt_ev e) (Ev.t (by omega) ?_)))))))))
              exact h
theorem spec_ParseTask_ev (s : List UInt8) (hs : s.length ≤ 100000000) : Ev (fun k => spec_ParseTask.f k (toB s)) (ttup (pT s).1 (pT s).2) := by
  have hm := fun x => ctS_mem (c := 59) (s := s) (x := x)
  unfold pT
  refine Ev.u (fun _ => rfl) (Ev.b (spec_l2Cut_ev s (by omega) 59 59 rfl) ?_)
  rw [List.length_map]
  cases hc : ctS 59 s with
  | nil => exact Ev.e (by simp) Ev.p
  | cons a l =>
    cases l with
    | nil => exact Ev.e (by simp) Ev.p
    | cons b l =>
      cases l with
      | nil => exact Ev.e (by simp) Ev.p
      | cons c l =>
        cases l with
        | nil => exact Ev.e (by simp) Ev.p
        | cons d l =>
          cases l with
          | nil => exact Ev.e (by simp) Ev.p
          | cons e l =>
            cases l with
            | cons q l => exact Ev.e (by simp only [List.length_cons]; omega) Ev.p
            | nil =>
              rw [hc] at hm
              have za := hm a (by simp)
              have zb := hm b (by simp)
              have zc := hm c (by simp)
              have zd := hm d (by simp)
              have ze := hm e (by simp)
              dsimp only
              have r0 : rdOf ByteArray.empty ([a, b, c, d, e].map toB) 0 = toB a := rfl
              have r1 : rdOf ByteArray.empty ([a, b, c, d, e].map toB) 1 = toB b := rfl
              have r2 : rdOf ByteArray.empty ([a, b, c, d, e].map toB) 2 = toB c := rfl
              have r3 : rdOf ByteArray.empty ([a, b, c, d, e].map toB) 3 = toB d := rfl
              have r4 : rdOf ByteArray.empty ([a, b, c, d, e].map toB) 4 = toB e := rfl
              have ln : (([a, b, c, d, e].map toB).length : Int) = 5 := rfl
              have L : ∀ (u : List UInt8) (i : Nat) (M : List Bool), d.drop i = u → M.length ≤ i → M ++ rdM u = rdM d → i ≤ d.length → Ev (fun k => spec_ParseTask.l0 k (toB s) ([a, b, c, d, e].map toB) (i : Int) 0 [] [] [] 0 (pI a).1 (pRs b).1 (pRs c).1 M 0) (ttup (if fT (mkTk a b c d e) = s then (mkTk a b c d e, true) else (z27, false)).1 (if fT (mkTk a b c d e) = s then (mkTk a b c d e, true) else (z27, false)).2) := by
                intro u
                induction u with
                | nil =>
                  intro i M hd hM hu hi
                  have := drop_nil' hd
                  have hM' : M = rdM d := by rw [← hu]; simp [rdM]
                  subst hM'
                  have hz := mkTk_sz a b c d e
                  have ef := spec_FormatTask_ev (mkTk a b c d e) (by omega)
                  refine Ev.s (fun k => by rw [spec_ParseTask.l0]) ?_
                  rw [r3, r4, ln, toB_sz]
                  refine Ev.t (by omega) (Ev.e (by omega) (Ev.t (by omega) (Ev.b (spec_ParseInt_ev e (by omega)) (Ev.b ef (Ev.i (fun q5 => Ev.p.r ?_) (fun q5 => Ev.p.r ?_))))))
                  · rw [if_pos (toB_inj ((toL_iff _ _).1 q5))]; rfl
                  · rw [if_neg (fun g => q5 (by rw [g]))]
                    rfl
                | cons x u ih =>
                  intro i M hd hM hu hi
                  obtain ⟨hb, hi', hd'⟩ := bt_drop (s := toB d) (i := i) hd
                  rw [toB_sz] at hi'
                  refine Ev.s (fun k => by rw [spec_ParseTask.l0]) ?_
                  rw [r3, ln, toB_sz, hb, w64s hi' (by omega)]
                  refine Ev.t (by omega) (Ev.t (by omega) (Ev.t (by omega) (Ev.t (by omega) ?_)))
                  have hx : decide ((x.toNat : Int) = 49) = decide (x.toNat = 49) := by
                    by_cases g : x.toNat = 49
                    · rw [decide_eq_true g, decide_eq_true (by omega)]
                    · rw [decide_eq_false g, decide_eq_false (by omega)]
                  rw [hx]
                  exact ih (i + 1) _ hd' (by simp; omega) (by rw [← hu]; simp [rdM]) (by omega)
              have h := L d 0 [] rfl (by simp) (by simp) (by omega)
              rw [r0, r1, r2, show (([a, b, c, d, e] : List (List UInt8)).length : Int) = 5 from rfl]
              refine Ev.t (by simp) (Ev.t (by omega) (Ev.b (spec_ParseInt_ev a (by omega)) (Ev.t (by omega) (Ev.b (spec_ParseRows_ev b (by omega)) (Ev.t (by omega) (Ev.b (spec_ParseRows_ev c (by omega)) ?_))))))
              exact h
theorem pTs_sz (s : List UInt8) : tsz (pT s).1 ≤ 72 := by
  cases h : (pT s).2 with
  | true => exact (vTask_iff.1 (pT_some h).1).p
  | false =>
    have : (pT s).1 = z27 := by
      unfold pT at h ⊢
      split at h
      · split at h
        · cases h
        · rename_i g; rw [if_neg g]
      · rfl
    rw [this]; decide

theorem l1Below_gen (l : List Int) (p z n : Int) (h : Rd l p) (h0 : 0 < n) (hn : n ≤ 1099511627776) : ∃ v p' z', spec_l1Below.f l p z n = some (v, p', z') ∧ 0 ≤ v ∧ v < n ∧ Rd l p' := by
  by_cases c : n ≤ 256
  · obtain ⟨v, p', z', e, v0, v1, hr⟩ := l1Below_ex l p z n h c
    exact ⟨v, p', z', e, v0, by omega, hr⟩
  obtain ⟨a, p1, z1, e1, a0, a1, h1⟩ := l1Byte_ex l p z h
  obtain ⟨b, p2, z2, e2, b0, b1, h2⟩ := l1Byte_ex l p1 z1 h1
  obtain ⟨d, p3, z3, e3, d0, d1, h3⟩ := l1Byte_ex l p2 z2 h2
  obtain ⟨e, p4, z4, e4, f0, f1, h4⟩ := l1Byte_ex l p3 z3 h3
  unfold spec_l1Below.f
  rw [if_neg (by omega), if_neg c, ob e1, ob e2, ob e3, ob e4, if_pos (by omega)]
  rw [w64 (x := a * 16777216) (by omega) (by omega), w64 (x := b * 65536) (by omega) (by omega), w64 (x := d * 256) (by omega) (by omega), w64 (x := a * 16777216 + b * 65536) (by omega) (by omega), w64 (x := a * 16777216 + b * 65536 + d * 256) (by omega) (by omega), w64 (x := a * 16777216 + b * 65536 + d * 256 + e) (by omega) (by omega)]
  have e5 : Int.tmod (a * 16777216 + b * 65536 + d * 256 + e) n = (a * 16777216 + b * 65536 + d * 256 + e) % n := Int.tmod_eq_emod_of_nonneg (by omega)
  refine ⟨_, _, _, rfl, ?_, ?_, h4⟩
  · rw [e5]; exact Int.emod_nonneg _ (by omega)
  · rw [e5]; exact Int.emod_lt_of_pos _ (by omega)
def nums (xs : List Int) : List UInt8 := xs.map fun n => UInt8.ofNat n.toNat
theorem strN (xs : List Int) : strOfNums xs = toB (nums xs) := rfl
theorem l1Text_l0 (l : List Int) (q : Int) : ∀ (m : Nat) (A : List Int) (p z : Int), Rd l p → A.length + m ≤ 1000 → ∃ A' p' z', Ev (fun k => spec_l1Text.l0 k A q (m : Int) p z l) (toB (nums A'), p', z') ∧ A'.length = A.length + m ∧ Rd l p' := by
  intro m
  induction m with
  | zero =>
    intro A p z h hA
    refine ⟨A, p, z, Ev.s (fun k => by rw [spec_l1Text.l0]) ?_, rfl, h⟩
    exact Ev.e (by omega) Ev.p
  | succ m ih =>
    intro A p z h hA
    obtain ⟨b, p1, z1, e1, b0, b1, h1⟩ := l1Byte_ex l p z h
    have J1 : ∀ y : Int, ∃ A' p' z', Ev (fun k => spec_l1Text.j1 k A q ((m + 1 : Nat) : Int) y p1 z1 l) (toB (nums A'), p', z') ∧ A'.length = A.length + (m + 1) ∧ Rd l p' := by
      intro y
      obtain ⟨A', p', z', e, hl, hr⟩ := ih (A ++ [IntKind.u8.wrap y]) p1 z1 h1 (by simp; omega)
      refine ⟨A', p', z', Ev.s (fun k => by rw [spec_l1Text.j1]) (Ev.t (by omega) ?_), by rw [hl]; simp; omega, hr⟩
      rw [show wrap64 (((m + 1 : Nat) : Int) - 1) = (m : Int) by rw [w64 (by omega) (by omega)]; omega]
      exact e
    have J0 : ∀ y : Int, ∃ A' p' z', Ev (fun k => spec_l1Text.j0 k A q ((m + 1 : Nat) : Int) y p1 z1 l) (toB (nums A'), p', z') ∧ A'.length = A.length + (m + 1) ∧ Rd l p' := by
      intro y
      by_cases c : q = 2
      · obtain ⟨A', p', z', e, hl, hr⟩ := J1 (wrap64 (97 + Int.tmod y 4))
        exact ⟨A', p', z', Ev.s (fun k => by rw [spec_l1Text.j0]) (Ev.t c e), hl, hr⟩
      · obtain ⟨A', p', z', e, hl, hr⟩ := J1 y
        exact ⟨A', p', z', Ev.s (fun k => by rw [spec_l1Text.j0]) (Ev.e c e), hl, hr⟩
    by_cases c : q = 1
    · obtain ⟨A', p', z', e, hl, hr⟩ := J0 (Int.tmod b 2)
      refine ⟨A', p', z', Ev.s (fun k => by rw [spec_l1Text.l0]) ?_, hl, hr⟩
      exact Ev.t (by omega) (Ev.b (Ev.c e1) (Ev.t c e))
    · obtain ⟨A', p', z', e, hl, hr⟩ := J0 b
      refine ⟨A', p', z', Ev.s (fun k => by rw [spec_l1Text.l0]) ?_, hl, hr⟩
      exact Ev.t (by omega) (Ev.b (Ev.c e1) (Ev.e c e))
theorem l1Text_ex (l : List Int) (p z n : Int) (h : Rd l p) (hn : 0 ≤ n ∧ n ≤ 100) : ∃ s p' z', Ev (fun k => spec_l1Text.f k l p z n) (toB s, p', z') ∧ s.length ≤ 100 ∧ Rd l p' := by
  obtain ⟨q, p1, z1, e1, -, -, h1⟩ := l1Below_ex l p z 4 h (by omega)
  obtain ⟨w, p2, z2, e2, w0, w1, h2⟩ := l1Below_ex l p1 z1 (n + 1) h1 (by omega)
  obtain ⟨m, rfl⟩ : ∃ m : Nat, w = m := ⟨w.toNat, by omega⟩
  obtain ⟨A', p', z', e, hl, hr⟩ := l1Text_l0 l q m [] p2 z2 h2 (by simp; omega)
  refine ⟨nums A', p', z', Ev.u (fun _ => rfl) (Ev.b (Ev.c e1) ?_), by unfold nums; rw [List.length_map, hl]; simp; omega, hr⟩
  rw [w64 (x := n + 1) (by omega) (by omega)]
  exact Ev.b (Ev.c e2) e
theorem exB (s : List UInt8) (f i : Nat) : ∃ u, (toB s).extract f i = toB u ∧ u.length ≤ s.length := by
  refine ⟨_, bs_extract _ _ _, ?_⟩
  rw [bs_toB, List.length_take, List.length_drop]; omega
theorem l1Spoil_ex (l : List Int) (p z : Int) (s : List UInt8) (h : Rd l p) (hs : s.length ≤ 1000000) : ∃ s' p' z', Ev (fun k => spec_l1Spoil.f k l p z (toB s)) (toB s', p', z') ∧ s'.length ≤ 2 * s.length + 100 ∧ Rd l p' := by
  by_cases c : s.length = 0
  · obtain ⟨u, p1, z1, e1, hu, h1⟩ := l1Text_ex l p z 3 h (by omega)
    exact ⟨u, p1, z1, Ev.u (fun _ => rfl) (Ev.t (by rw [toB_sz]; omega) (Ev.b e1 Ev.p)), by omega, h1⟩
  obtain ⟨v, p1, z1, e1, v0, v1, h1⟩ := l1Below_gen l p z (s.length : Int) h (by omega) (by omega)
  obtain ⟨w, p2, z2, e2, w0, w1, h2⟩ := l1Below_ex l p1 z1 4 h1 (by omega)
  obtain ⟨n, rfl⟩ : ∃ n : Nat, v = n := ⟨v.toNat, by omega⟩
  have wn : wrap64 ((n : Int) + 1) = ((n + 1 : Nat) : Int) := w64s (n := s.length) (by omega) (by omega)
  obtain ⟨u1, x1, y1⟩ := exB s 0 n
  obtain ⟨u2, x2, y2⟩ := exB s (n + 1) s.length
  obtain ⟨u3, x3, y3⟩ := exB s n s.length
  by_cases c0 : w = 0
  · refine ⟨u1 ++ u2, p2, z2, Ev.u (fun k => by rw [spec_l1Spoil.f]) ?_, by simp; omega, h2⟩
    rw [toB_sz]
    refine Ev.e (by omega) (Ev.b (Ev.c e1) (Ev.b (Ev.c e2) (Ev.t c0 ?_)))
    dsimp only
    rw [wn, Int.toNat_natCast, Int.toNat_natCast, x1, x2, toB_app, toB_sz, toB_sz]
    exact Ev.t (by omega) (Ev.t (by omega) (Ev.t (by omega) (Ev.t (by omega) (Ev.t (by omega) Ev.p))))
  by_cases c1 : w = 1
  · obtain ⟨b, p3, z3, e3, b0, b1, h3⟩ := l1Byte_ex l p2 z2 h2
    refine ⟨u1 ++ nums [IntKind.u8.wrap b] ++ u3, p3, z3, Ev.u (fun k => by rw [spec_l1Spoil.f]) ?_, by simp [nums]; omega, h3⟩
    rw [toB_sz]
    refine Ev.e (by omega) (Ev.b (Ev.c e1) (Ev.b (Ev.c e2) (Ev.e c0 (Ev.t c1 ?_))))
    dsimp only
    rw [Int.toNat_natCast, x1, x3]
    refine Ev.t (by omega) (Ev.t (by omega) (Ev.b (Ev.c e3) ?_))
    rw [strN, toB_app, toB_app, toB_sz, toB_sz, toB_sz, toB_sz]
    exact Ev.t (by simp [nums]; omega) (Ev.t (by simp [nums]; omega) Ev.p)
  by_cases c2 : w = 2
  · refine ⟨u1, p2, z2, Ev.u (fun k => by rw [spec_l1Spoil.f]) ?_, by omega, h2⟩
    rw [toB_sz]
    refine Ev.e (by omega) (Ev.b (Ev.c e1) (Ev.b (Ev.c e2) (Ev.e c0 (Ev.e c1 (Ev.t c2 ?_)))))
    dsimp only
    rw [Int.toNat_natCast, x1]
    exact Ev.t (by omega) (Ev.t (by omega) Ev.p)
  obtain ⟨b, p3, z3, e3, b0, b1, h3⟩ := l1Below_ex l p2 z2 255 h2 (by omega)
  refine ⟨u1 ++ nums [IntKind.u8.wrap (xorI (IntKind.i64.wrap (bt (toB s) (n : Int))) (wrap64 (1 + b)))] ++ u2, p3, z3, Ev.u (fun k => by rw [spec_l1Spoil.f]) ?_, by simp [nums]; omega, h3⟩
  rw [toB_sz]
  refine Ev.e (by omega) (Ev.b (Ev.c e1) (Ev.b (Ev.c e2) (Ev.e c0 (Ev.e c1 (Ev.e c2 ?_)))))
  dsimp only
  rw [wn, Int.toNat_natCast, Int.toNat_natCast, x1, x2]
  refine Ev.t (by omega) (Ev.t (by omega) (Ev.t (by omega) (Ev.t (by omega) (Ev.t (by omega) (Ev.b (Ev.c e3) ?_)))))
  rw [strN, toB_app, toB_app, toB_sz, toB_sz, toB_sz, toB_sz]
  exact Ev.t (by simp [nums]; omega) (Ev.t (by simp [nums]; omega) Ev.p)
theorem l1Pick_ex (l : List Int) (p z : Int) (L : List ByteArray) (h : Rd l p) (h0 : 0 < L.length) (hn : L.length ≤ 256) : ∃ v p' z', spec_l1Pick.f l p z L = some (v, p', z') ∧ v ∈ L ∧ Rd l p' := by
  obtain ⟨v, p', z', e, v0, v1, hr⟩ := l1Below_ex l p z (L.length : Int) h (by omega)
  unfold spec_l1Pick.f
  rw [ob e]
  dsimp only
  rw [if_pos v0, if_pos (by omega)]
  refine ⟨_, _, _, rfl, ?_, hr⟩
  obtain ⟨n, rfl⟩ : ∃ n : Nat, v = n := ⟨v.toNat, by omega⟩
  rw [show rdOf ByteArray.empty L (n : Int) = L.getD n ByteArray.empty from rfl, List.getD_eq_getElem?_getD, List.getElem?_eq_getElem (by omega)]
  exact List.getElem_mem (by omega)
theorem DrawFormatTask_ex (l : List Int) (hl : l.length ≤ 1048576) : ∃ t : S27, Ev (fun k => spec_DrawFormatTask.f k l) (ttup4 t) ∧ tsz t ≤ 73 := by
  obtain ⟨z, e0⟩ := l1New_ev l hl
  obtain ⟨t, p1, z1, e1, ht, h1⟩ := l16Any_ex l 0 z 5 (Rd0 l hl) (by omega)
  exact ⟨t, Ev.u (fun _ => rfl) (Ev.b e0 (Ev.b e1 Ev.p)), ht⟩
theorem DrawBuildSide_ex (l : List Int) (hl : l.length ≤ 1048576) : ∃ t : S27, ∃ g, Ev (fun k => spec_DrawBuildSide.f k l) (t.f0, t.f1, t.f2, t.f3, t.f4, g) ∧ tsz t ≤ 73 := by
  obtain ⟨z, e0⟩ := l1New_ev l hl
  obtain ⟨t, p1, z1, e1, ht, h1⟩ := l16Any_ex l 0 z 8 (Rd0 l hl) (by omega)
  obtain ⟨g, p2, z2, e2, -⟩ := l11Grant_ex l p1 z1 h1
  exact ⟨t, g, Ev.u (fun _ => rfl) (Ev.b e0 (Ev.b e1 (Ev.b (Ev.c e2) Ev.p))), ht⟩
theorem DrawEqualTasks_ex (l : List Int) (hl : l.length ≤ 1048576) : ∃ t u : S27, Ev (fun k => spec_DrawEqualTasks.f k l) (t.f0, t.f1, t.f2, t.f3, t.f4, u.f0, u.f1, u.f2, u.f3, u.f4) ∧ tsz t ≤ 73 ∧ tsz u ≤ 73 := by
  obtain ⟨z, e0⟩ := l1New_ev l hl
  obtain ⟨t, p1, z1, e1, ht, h1⟩ := l16Any_ex l 0 z 4 (Rd0 l hl) (by omega)
  have ec := spec_l16Copy_eq t (by omega)
  have J : ∀ (a b d e : Int) (c1 c2 c3 c4 : List S99) (c5 c6 : List Bool) (t u : S27), Ev (fun k => spec_DrawEqualTasks.j0 k a c1 c2 c5 b d c3 c4 c6 e t.f0 t.f1 t.f2 t.f3 t.f4 u.f0 u.f1 u.f2 u.f3 u.f4) (t.f0, t.f1, t.f2, t.f3, t.f4, u.f0, u.f1, u.f2, u.f3, u.f4) := fun _ _ _ _ _ _ _ _ _ _ _ _ => Ev.s (fun k => by rw [spec_DrawEqualTasks.j0]) Ev.p
  by_cases c : (t.f3.length : Int) > 0
  · obtain ⟨b, p2, z2, e2, -⟩ := l1Once_ex l p1 z1 2 h1 (by omega)
    cases b with
    | true =>
      refine ⟨t, ⟨t.f0, t.f1, t.f2, t.f3.set (0 : Int).toNat (!(rdOf false t.f3 0)), t.f4⟩, Ev.u (fun _ => rfl) (Ev.b e0 (Ev.b e1 (Ev.b (Ev.c ec) (Ev.t c (Ev.b (Ev.c e2) (Ev.t rfl (Ev.t (by omega) ?_))))))), ht, by unfold tsz at *; simp; omega⟩
      exact J 0 0 0 0 [] [] [] [] [] [] t ⟨t.f0, t.f1, t.f2, t.f3.set (0 : Int).toNat (!(rdOf false t.f3 0)), t.f4⟩
    | false => exact ⟨t, t, Ev.u (fun _ => rfl) (Ev.b e0 (Ev.b e1 (Ev.b (Ev.c ec) (Ev.t c (Ev.b (Ev.c e2) (Ev.e (by simp) (J 0 0 0 0 [] [] [] [] [] [] t t))))))), ht, ht⟩
  · exact ⟨t, t, Ev.u (fun _ => rfl) (Ev.b e0 (Ev.b e1 (Ev.b (Ev.c ec) (Ev.e c (J 0 0 0 0 [] [] [] [] [] [] t t))))), ht, ht⟩
theorem DrawReferenceJoin_ex (l : List Int) (hl : l.length ≤ 1048576) : ∃ q A B, Ev (fun k => spec_DrawReferenceJoin.f k l) (q, A, B) ∧ A.length ≤ 8 ∧ B.length ≤ 8 := by
  obtain ⟨z, e0⟩ := l1New_ev l hl
  obtain ⟨q, p1, z1, e1, h1⟩ := l7Kind_ex l 0 z (Rd0 l hl)
  obtain ⟨A, p2, z2, e2, a2, h2⟩ := l2Bent_ex l p1 z1 7 h1 (by omega)
  obtain ⟨B, p3, z3, e3, a3, h3⟩ := l2Bent_ex l p2 z2 7 h2 (by omega)
  exact ⟨q, A, B, Ev.u (fun _ => rfl) (Ev.b e0 (Ev.b (Ev.c e1) (Ev.b e2 (Ev.b e3 Ev.p)))), by omega, by omega⟩
theorem DrawParseTask_ex (l : List Int) (hl : l.length ≤ 1048576) : ∃ s, Ev (fun k => spec_DrawParseTask.f k l) (toB s) ∧ s.length ≤ 10000 := by
  obtain ⟨z, e0⟩ := l1New_ev l hl
  obtain ⟨t, p1, z1, e1, ht, h1⟩ := l16Draw_ex l 0 z 4 (Rd0 l hl) (by omega)
  have ef := spec_FormatTask_ev t (by omega)
  have hf := fT_len t
  obtain ⟨b, p2, z2, e2, h2⟩ := l1Once_ex l p1 z1 3 h1 (by omega)
  cases b with
  | true =>
    obtain ⟨u, p3, z3, e3, hu, h3⟩ := l1Spoil_ex l p2 z2 (fT t) h2 (by omega)
    obtain ⟨v, p4, z4, e4, hv, -⟩ := l1Pick_ex l p3 z3 [(⟨#[]⟩ : ByteArray), (⟨#[59, 59, 59, 59]⟩ : ByteArray), (⟨#[49, 59, 59, 59, 59, 48]⟩ : ByteArray), (⟨#[49, 59, 59, 59, 48, 59, 48]⟩ : ByteArray), (⟨#[53, 59, 59, 59, 59, 48]⟩ : ByteArray), (⟨#[49, 59, 49, 46, 49, 46, 49, 59, 59, 50, 59, 48]⟩ : ByteArray), (⟨#[49, 59, 59, 59, 59, 53]⟩ : ByteArray), toB u] h3 (by simp) (by simp)
    refine ⟨bs v, Ev.u (fun _ => rfl) (Ev.b e0 (Ev.b e1 (Ev.b ef (Ev.b (Ev.c e2) (Ev.t rfl (Ev.b e3 (Ev.b (Ev.c e4) Ev.p))))))), ?_⟩
    have : (toB u).size ≤ 10000 := by rw [toB_sz]; omega
    rw [bs_len]
    simp only [List.mem_cons, List.not_mem_nil, or_false] at hv
    rcases hv with rfl | rfl | rfl | rfl | rfl | rfl | rfl | rfl
    all_goals first | exact this | decide
  | false => exact ⟨fT t, Ev.u (fun _ => rfl) (Ev.b e0 (Ev.b e1 (Ev.b ef (Ev.b (Ev.c e2) (Ev.e (by simp) Ev.p))))), by omega⟩
theorem slicesEqualBool_ev (l m : List Bool) (hl : l.length ≤ 1048576) : Ev (fun k => slices_Equal__bool_bool.f k l m) (decide (l = m)) := by
  refine Ev.u (fun _ => rfl) (Ev.i (fun h => ?_) (fun h => Ev.p.r ?_))
  · have L : ∀ (s t : List Bool) (i : Nat), l.drop i = s → m.drop i = t → Ev (fun k => slices_Equal__bool_bool.l0 k (l.length : Int) (i : Int) l m) (decide (s = t)) := by
      intro s
      induction s with
      | nil =>
        intro t i hd he
        have := drop_nil' hd
        have ht : t = [] := by rw [← he]; exact List.drop_eq_nil_iff.2 (by omega)
        subst ht
        exact Ev.s (fun k => by rw [slices_Equal__bool_bool.l0]) (Ev.e (by omega) (Ev.p.r (by simp)))
      | cons x s ih =>
        intro t i hd he
        obtain ⟨hi, hd', hx, -⟩ := drop_cons' hd
        cases t with
        | nil => have := drop_nil' he; omega
        | cons y t =>
          obtain ⟨hj, he', hy, -⟩ := drop_cons' he
          refine Ev.s (fun k => by rw [slices_Equal__bool_bool.l0]) (Ev.t (by omega) (Ev.t (by omega) (Ev.t (by omega) (Ev.t (by omega) ?_))))
          rw [rdB, rdB, hx, hy, w64s hi (by omega)]
          refine Ev.i (fun g => (ih t (i + 1) hd' he').r ?_) (fun g => Ev.p.r ?_)
          · have : x = y := by simpa using g
            simp [this]
          · have : ¬ x = y := by simpa using g
            simp [this]
    exact L l m 0 rfl rfl
  · rw [decide_eq_false]; intro e; rw [e] at h; exact h rfl
def eqTk (a b : S27) : Bool := decide (a.f0 = b.f0) && (eqRows a.f1 b.f1 && (eqRows a.f2 b.f2 && (decide (a.f3 = b.f3) && decide (a.f4 = b.f4))))
theorem impl_EqualTasks_evG (a b : S27) (h : tsz a ≤ 1048576) : Ev (fun k => impl_EqualTasks.f k a.f0 a.f1 a.f2 a.f3 a.f4 b.f0 b.f1 b.f2 b.f3 b.f4) (eqTk a b) := by
  unfold tsz at h
  unfold eqTk
  refine Ev.u (fun _ => rfl) (Ev.i (fun h0 => Ev.b (impl_equal_ev _ _ (by omega)) (Ev.i (fun h1 => Ev.b (impl_equal_ev _ _ (by omega)) (Ev.i (fun h2 => Ev.b (slicesEqualBool_ev _ _ (by omega)) (Ev.i (fun h3 => Ev.p.r ?_) (fun h3 => Ev.p.r ?_))) (fun h2 => Ev.p.r ?_))) (fun h1 => Ev.p.r ?_))) (fun h0 => Ev.p.r ?_))
  · simp [h0, h1, h2, of_decide_eq_true h3]
  · have h3' : ¬ a.f3 = b.f3 := by simpa using h3
    simp [h3']
  · simp [h2]
  · simp [h1]
  · simp [h0]
theorem spec_EqualTasks_evG (a b : S27) (h : tsz a ≤ 1048576) : Ev (fun k => spec_EqualTasks.f k a.f0 a.f1 a.f2 a.f3 a.f4 b.f0 b.f1 b.f2 b.f3 b.f4) (eqTk a b) := by
  unfold tsz at h
  unfold eqTk
  refine Ev.u (fun _ => rfl) (Ev.i (fun h0 => Ev.b (spec_l6Rows_ev _ _ (by omega)) (Ev.i (fun h1 => Ev.b (spec_l6Rows_ev _ _ (by omega)) (Ev.i (fun h2 => Ev.i (fun h4 => Ev.i (fun h3 => ?_) (fun h3 => Ev.p.r ?_)) (fun h4 => Ev.p.r ?_)) (fun h2 => Ev.p.r ?_))) (fun h1 => Ev.p.r ?_))) (fun h0 => Ev.p.r ?_))
  · have L : ∀ (s t : List Bool) (i : Nat), a.f3.drop i = s → b.f3.drop i = t → Ev (fun k => spec_EqualTasks.l0 k (i : Int) a.f0 a.f4 b.f0 b.f4 a.f1 a.f2 a.f3 b.f1 b.f2 b.f3) (decide (s = t)) := by
      intro s
      induction s with
      | nil =>
        intro t i hd he
        have := drop_nil' hd
        have ht : t = [] := by rw [← he]; exact List.drop_eq_nil_iff.2 (by omega)
        subst ht
        exact Ev.s (fun k => by rw [spec_EqualTasks.l0]) (Ev.e (by omega) (Ev.p.r (by simp)))
      | cons x s ih =>
        intro t i hd he
        obtain ⟨hi, hd', hx, -⟩ := drop_cons' hd
        cases t with
        | nil => have := drop_nil' he; omega
        | cons y t =>
          obtain ⟨hj, he', hy, -⟩ := drop_cons' he
          refine Ev.s (fun k => by rw [spec_EqualTasks.l0]) (Ev.t (by omega) (Ev.t (by omega) (Ev.t (by omega) ?_)))
          rw [rdB, rdB, hx, hy, w64s hi (by omega)]
          refine Ev.i (fun g => (ih t (i + 1) hd' he').r ?_) (fun g => Ev.p.r ?_)
          · have : x = y := by simpa using g
            simp [this]
          · have : ¬ x = y := by simpa using g
            simp [this]
    refine (L a.f3 b.f3 0 rfl rfl).r ?_
    simp [h0, h1, h2, h4]
  · have h3' : ¬ a.f3 = b.f3 := fun e => h3 (by rw [e])
    simp [h3']
  · simp [h4]
  · simp [h2]
  · simp [h1]
  · simp [h0]
theorem pT_fT_v (t : S27) : (pT (fT t)).2 = vTask t := by
  cases h : vTask t with
  | true => rw [pT_fT h]
  | false => unfold fT; rw [h, if_neg (by simp)]; rfl
theorem pure_FnTaskRoundTrip (l0 : List Int) (G0 : (l0.length ≤ maxLen ∧ ∀ y ∈ l0, (Lit.int .u8 y).wf = true)) : ∃ k, laws_FnTaskRoundTrip.f k l0 = some true := by
  refine Ev.ex ?_
  by_cases s0 : (l0.length : Int) > 1048576
  · exact Ev.u (fun _ => rfl) (Ev.b (Ev.c (big_eq l0)) (Ev.t (by simpa using s0) Ev.p))
  obtain ⟨T, e1, hT⟩ := DrawFormatTask_ex l0 (by omega)
  obtain ⟨s, e2, hs⟩ := DrawParseTask_ex l0 (by omega)
  obtain ⟨B, g, e3, hB⟩ := DrawBuildSide_ex l0 (by omega)
  obtain ⟨C, D, e4, hC, hD⟩ := DrawEqualTasks_ex l0 (by omega)
  obtain ⟨q, L, R, e5', hL, hR⟩ := DrawReferenceJoin_ex l0 (by omega)
  have e5 : Ev (fun k => spec_DrawNewTask.f k l0) (q, L, R) := Ev.u (fun _ => rfl) (Ev.b e5' Ev.p)
  have hf := fT_len T
  have f1 := impl_FormatTask_ev T (by omega)
  have p1 := impl_ParseTask_ev (fT T) (by omega)
  have p2 := impl_ParseTask_ev s (by omega)
  have p3 := spec_ParseTask_ev s (by omega)
  have b1 := impl_BuildSide_ev B g (by omega)
  have b2 := spec_BuildSide_ev B g (by omega)
  have q1 := impl_EqualTasks_evG C D (by omega)
  have q2 := spec_EqualTasks_evG C D (by omega)
  have n1 := impl_NewTask_ev q L R (by omega) (by omega)
  have n2 := spec_NewTask_ev q L R (by omega) (by omega)
  have n3 := spec_EqualTasks_ev (newT q L R) (by have := newT_sz q L R; omega)
  have v1 := spec_IsValidTask_ev T (by omega)
  have v2 := impl_IsValidTask_ev T (by omega)
  have hx := pT_fT_v T
  have r1 : (pT (fT T)).2 = true → Ev (fun k => spec_EqualTasks.f k (pT (fT T)).1.f0 (pT (fT T)).1.f1 (pT (fT T)).1.f2 (pT (fT T)).1.f3 (pT (fT T)).1.f4 T.f0 T.f1 T.f2 T.f3 T.f4) true := by
    intro h
    have e : (pT (fT T)).1 = T := by rw [pT_fT (hx ▸ h)]
    rw [e]
    exact spec_EqualTasks_ev T (by omega)
  have r2 := impl_FormatTask_ev (pT s).1 (by have := pTs_sz s; omega)
  have r3 : (pT s).2 = true → (toB (fT (pT s).1)).toList = (toB s).toList := fun h => by rw [(pT_some h).2]
  have J : Ev (fun k => laws_FnTaskRoundTrip.j0 k g (bSide B g) B.f0 B.f1 B.f2 B.f3 B.f4) true := by
    have t1 := spec_TotalCost_ev B.f1 (by unfold tsz at hB; omega)
    have t2 := spec_TotalCost_ev B.f2 (by unfold tsz at hB; omega)
    refine Ev.s (fun k => by rw [laws_FnTaskRoundTrip.j0]) ?_
    have h3 := bSide_012 B g
    refine Ev.i (fun _ => Ev.p) (fun h0 => Ev.i (fun h1 => Ev.b t1 (Ev.t (bSide_1 h1) (Ev.t ?_ Ev.p))) (fun h1 => Ev.t (by omega) (Ev.b t2 (Ev.p.r (decide_eq_true (bSide_2 (by omega)))))))
    unfold bSide at h1
    split at h1
    · split at h1
      · rename_i k; exact k.1
      · split at h1 <;> omega
    · omega
  refine Ev.u (fun _ => rfl) (Ev.b (Ev.c (big_eq l0)) (Ev.e (by simpa using s0) (Ev.b e1 (Ev.b f1 (Ev.b p1 (Ev.b e2 (Ev.b p2 (Ev.b p3 ?_))))))))
  refine Ev.b e3 (Ev.b b1 (Ev.b e4 (Ev.b e5 (Ev.b n1 (Ev.b n2 (Ev.b v1 (Ev.t (by simp [hx]) ?_)))))))
  refine Ev.i (fun h1 => Ev.b (r1 h1) (Ev.t rfl (Ev.t (by simp) (Ev.i (fun h2 => Ev.b r2 (Ev.t (r3 h2) ?_)) (fun h2 => ?_))))) (fun h1 => Ev.t (by simp) (Ev.i (fun h2 => Ev.b r2 (Ev.t (r3 h2) ?_)) (fun h2 => ?_)))
  all_goals exact Ev.b b2 (Ev.t rfl (Ev.b q1 (Ev.b q2 (Ev.t (by simp) (Ev.t (by simp) (Ev.b n3 (Ev.t rfl (Ev.b v2 (Ev.b v1 (Ev.t (by simp) J))))))))))

end Go.Proofs.Ytamjndlkompeeaa.K
namespace Go.Proofs.Ytamjndlkompeeaa.fnTaskRoundTrip
open Go Go.ChangeShapes Go.WideShapes Go.ChangeAt Go.RowKit Go.Proofs.Ytamjndlkompeeaa.K
open Go.ChangeMaps (open_string shut_string)
set_option linter.unusedVariables false
theorem own : ownKnob Try.prog.godebug = none := by kernel_rfl
theorem laidOut : laidOutB Try.prog = true := by kernel_rfl
set_option maxRecDepth 100000 in
theorem lifted (os : Os) (started : os.Started) (H : Type) (enc : TypeId × Value → H) :
    ReturnsInHanded {} Try.checked os 3 .any (Rows.fnTaskRoundTripSpec.pre6 enc Try.prog Try.f3 Rows.fnTaskRoundTripRow.domain false) (Rows.fnTaskRoundTripSpec.post enc Try.prog Try.f3 false true false false) := by
  refine returnsInHanded_of_change_sized (C := Try.checked) own started (by kernel_rfl) Try.func3
    (ChangeSpec.witness6 (enc := enc) (C := Try.checked) false ⟨#[], #[.slice none 0 0], []⟩ 8 (by kernel_rfl) (by kernel_rfl) (by kernel_rfl) (by kernel_rfl)) ?_
  intro W base args ds gs before hval0 hW hcnd hsz0 _
  have hsz : (DataW.weightsEach Try.prog (Try.f3.params.toList ++ Rows.fnTaskRoundTripSpec.plain.varTypes Try.prog) (ds ++ gs)).all (· ≤ reachBytes) = true := hsz0
  have hval : ∀ (j : Nat) t v, Try.f3.params[j]? = some t → args[j]? = some v → Value.okWide Try.prog W .any base t v := hval0
  have hW' := hW
  obtain ⟨p, q, hA0, hV, rfl, hfz, hnd⟩ := hW
  have hA : DataW.TrodAll enc Try.prog W 0 (fun _ => true) true Try.f3.params.toList args.toList ds p := hA0
  rw [Try.params3] at hA hval hsz
  obtain ⟨v0, vs0, d0, ds0, p0, q0, hargs, rfl, rfl, h0, r0⟩ := trodAll_cons hA
  obtain ⟨rfl, rfl, rfl⟩ := trodAll_nil r0
  obtain rfl : args = #[v0] := by cases args; simp_all
  obtain ⟨rfl, rfl⟩ := trodVars_none hV
  have k0 := h0
  have lt0 : ∀ x ∈ p0, x.block < W.heap.size := by obtain ⟨m, hm⟩ := k0; exact DataW.trod_lt m _ _ _ hm
  obtain ⟨A0, len0, c0, rfl⟩ := okWide_slice Try.underlying22 (hval 0 22 v0 rfl rfl)
  obtain ⟨l0, rfl, F0, G0⟩ := slice_arg (opens_slice Try.underlying22 (by kernel_rfl) (by kernel_rfl) (opens_int Try.underlying5 (by kernel_rfl))) h0
  clear hA0 hval0 hsz0 hsz
  obtain ⟨k, hk⟩ := K.pure_FnTaskRoundTrip l0 G0
  refine (law_calls (laws_FnTaskRoundTrip.ok k l0 A0 c0 true hk) (facts_app F0 facts_nil)).mono fun e W' he => ?_
  obtain ⟨rfl, bel⟩ := he
  exact ⟨_, rfl, _, _, _, [], _, [], hW', trodAll_mk1 (shut_bool Try.underlying4 _), (trodAll_cons_mk (Below.trod laidOut (by kernel_rfl) (of_decide_eq_true (by kernel_rfl)) k0 bel lt0) trodAll_mk0), rfl, bel.frame _, fun h => by cases h⟩
theorem over : Rows.fnTaskRoundTripRow.holds Try.pinned (OpenSpec.ofChange Rows.fnTaskRoundTripSpec) :=
  OpenClaim.holds_of_wide 3 Try.f3 rfl rfl rfl rfl rfl rfl rfl ⟨rfl, rfl, rfl, rfl, rfl⟩ rfl rfl rfl rfl rfl (by kernel_rfl) Try.func3 (by kernel_rfl)
    (of_decide_eq_true (by kernel_rfl)) (by unfold Func.isWrapper; first | (rw [if_pos (by decide +kernel)]; kernel_rfl) | (rw [if_neg (by decide +kernel)]; exact ⟨rfl, rfl⟩))
    (fun os started H enc _ => lifted os started H enc)
theorem proved : Rows.FnTaskRoundTripSaid := over
#print axioms proved
end Go.Proofs.Ytamjndlkompeeaa.fnTaskRoundTrip
namespace Go.Proofs.Ytamjndlkompeeaa
/-- The row, under a short name, for the claim. -/
theorem fnTaskRoundTrip_holds : Rows.FnTaskRoundTripSaid := fnTaskRoundTrip.proved
end Go.Proofs.Ytamjndlkompeeaa
