/- FnExactNewJoiner answers true at every input. -/
import Derived.Below
import Derived.Carry
import Derived.ChangeOld
import Derived.OpenShut
import Derived.ProofKit
import Derived.ShutString
import Derived.SizedLaws
import Derived.Test.YtfcebaplphpajaaChecked
import Derived.Test.YtfcebaplphpajaaRows
import Derived.WalkKit
import Derived.Test.YtfcebaplphpajaaVFnExactNewJoinera
namespace Go.Proofs.Ytfcebaplphpajaa.K
open Go Go.RowKit
set_option linter.unusedVariables false
set_option linter.unusedSimpArgs false
def Ev {α : Type} (f : Nat → Option α) (r : α) : Prop := ∃ K, ∀ k, K ≤ k → f k = some r
theorem Ev.p {α : Type} {r : α} : Ev (fun _ => some r) r := ⟨0, fun _ _ => rfl⟩
theorem Ev.c {α : Type} {o : Option α} {r : α} (h : o = some r) : Ev (fun _ => o) r := ⟨0, fun _ _ => h⟩
theorem Ev.b {α β : Type} {f : Nat → Option α} {g : Nat → α → Option β} {a : α} {r : β} (hf : Ev f a) (hg : Ev (fun k => g k a) r) : Ev (fun k => (f k).bind (g k)) r := by
  obtain ⟨K, h⟩ := hf; obtain ⟨L, h'⟩ := hg
  exact ⟨max K L, fun k hk => by show (f k).bind (g k) = some r; rw [h k (by omega)]; exact h' k (by omega)⟩
theorem Ev.t {α : Type} {p : Prop} [Decidable p] {f g : Nat → Option α} {r : α} (h : p) (hf : Ev f r) : Ev (fun k => if p then f k else g k) r := by
  obtain ⟨K, h'⟩ := hf
  exact ⟨K, fun k hk => by show (if p then f k else g k) = some r; rw [if_pos h]; exact h' k hk⟩
theorem Ev.e {α : Type} {p : Prop} [Decidable p] {f g : Nat → Option α} {r : α} (h : ¬ p) (hg : Ev g r) : Ev (fun k => if p then f k else g k) r := by
  obtain ⟨K, h'⟩ := hg
  exact ⟨K, fun k hk => by show (if p then f k else g k) = some r; rw [if_neg h]; exact h' k hk⟩
theorem Ev.i {α : Type} {p : Prop} [Decidable p] {f g : Nat → Option α} {r : α} (hf : p → Ev f r) (hg : ¬ p → Ev g r) : Ev (fun k => if p then f k else g k) r := by
  by_cases h : p
  · exact Ev.t h (hf h)
  · exact Ev.e h (hg h)
theorem Ev.s {α : Type} {L f : Nat → Option α} {r : α} (h : ∀ k, L (k + 1) = f k) (hf : Ev f r) : Ev L r := by
  obtain ⟨K, h'⟩ := hf
  refine ⟨K + 1, fun k hk => ?_⟩
  obtain ⟨m, rfl⟩ : ∃ m, k = m + 1 := ⟨k - 1, by omega⟩
  rw [h]; exact h' m (by omega)
theorem Ev.u {α : Type} {L f : Nat → Option α} {r : α} (h : ∀ k, L k = f k) (hf : Ev f r) : Ev L r := by
  obtain ⟨K, h'⟩ := hf
  exact ⟨K, fun k hk => by rw [h]; exact h' k hk⟩
theorem Ev.r {α : Type} {f : Nat → Option α} {r r' : α} (h : Ev f r) (e : r = r') : Ev f r' := e ▸ h
theorem Ev.r' {α : Type} {f g : Nat → Option α} {r r' : α} (h : Ev f r) (e1 : ∀ k, f k = g k) (e : r = r') : Ev g r' := by
  subst e; obtain ⟨K, h'⟩ := h
  exact ⟨K, fun k hk => by rw [← e1]; exact h' k hk⟩
theorem Ev.ex {α : Type} {f : Nat → Option α} {r : α} (h : Ev f r) : ∃ k, f k = some r := by
  obtain ⟨K, h'⟩ := h
  exact ⟨K, h' K (Nat.le_refl _)⟩
theorem drop_nil' {α : Type} {l : List α} {i : Nat} (h : l.drop i = []) : l.length ≤ i := List.drop_eq_nil_iff.1 h
theorem drop_cons' {α : Type} {l : List α} {i : Nat} {x : α} {t : List α} (h : l.drop i = x :: t) : i < l.length ∧ l.drop (i + 1) = t ∧ (∀ d, l.getD i d = x) ∧ l.length = i + 1 + t.length := by
  have hl := congrArg List.length h
  rw [List.length_drop, List.length_cons] at hl
  refine ⟨by omega, ?_, fun d => ?_, by omega⟩
  · rw [← List.drop_drop, h]; rfl
  · have : l[i]? = some x := by rw [← List.head?_drop, h]; rfl
    rw [List.getD_eq_getElem?_getD, this]; rfl
theorem w64 {x : Int} (h0 : -9223372036854775808 ≤ x) (h1 : x ≤ 9223372036854775807) : wrap64 x = x := by unfold wrap64; omega
theorem w64s {i n : Nat} (h : i < n) (hn : n ≤ 9223372036854775807) : wrap64 ((i : Int) + 1) = ((i + 1 : Nat) : Int) := by rw [w64 (by omega) (by omega)]; rfl
theorem maxLen_eq : maxLen = 9223372036854775807 := rfl
theorem wf64 {n : Int} (h : (Lit.int .i64 n).wf = true) : (-9223372036854775808 : Int) ≤ n ∧ n ≤ 9223372036854775807 := by
  simp [Lit.wf, IntKind.min, IntKind.max, IntKind.signed, IntKind.bits] at h
  exact h
theorem ob {α β : Type} {o : Option α} {a : α} {f : α → Option β} (h : o = some a) : o.bind f = f a := by subst h; rfl

def inB (n a b : Int) : Bool := decide (a ≤ n ∧ n ≤ b)
theorem within_eq (n a b : Int) : impl_within.f n a b = some (inB n a b) := by
  unfold impl_within.f inB; split <;> simp <;> omega
theorem l1In_eq (n a b : Int) : spec_l1In.f n a b = some (inB n a b) := by
  unfold spec_l1In.f inB; split <;> simp <;> omega
def vRow (a b c : Int) : Bool := inB a 0 9 && inB b 0 99 && inB c 0 3
theorem impl_IsValidRow_eq (a b c : Int) : impl_IsValidRow.f a b c = some (vRow a b c) := by
  unfold impl_IsValidRow.f vRow
  rw [within_eq, within_eq, within_eq, ob rfl]
  cases inB a 0 9
  · simp
  · rw [if_pos rfl, ob rfl]; cases inB b 0 99 <;> simp
theorem spec_IsValidRow_eq (a b c : Int) : spec_IsValidRow.f a b c = some (vRow a b c) := by
  unfold spec_IsValidRow.f vRow
  rw [l1In_eq, l1In_eq, l1In_eq, ob rfl]
  cases inB a 0 9
  · simp
  · rw [if_pos rfl, ob rfl]; cases inB b 0 99 <;> simp
theorem rdR (l : List S77) (i : Nat) : rd_T77 l (i : Int) = l.getD i z77 := rfl
def vAll (l : List S77) : Bool := l.all fun x => vRow x.f0 x.f1 x.f2
theorem impl_allValid_l0 (l : List S77) (hl : l.length ≤ 1152921504606846975) : ∀ (s : List S77) (i : Nat), l.drop i = s → Ev (fun k => impl_allValid.l0 k (l.length : Int) (i : Int) l) (vAll s) := by
  intro s
  induction s with
  | nil =>
    intro i hd
    have := drop_nil' hd
    exact Ev.s (fun k => by rw [impl_allValid.l0]) (Ev.e (by omega) (Ev.p.r (by rfl)))
  | cons x t ih =>
    intro i hd
    obtain ⟨hi, hd', hx, -⟩ := drop_cons' hd
    refine Ev.s (fun k => by rw [impl_allValid.l0]) (Ev.t (by omega) (Ev.t (by omega) (Ev.t (by omega) ?_)))
    rw [rdR, hx]
    refine Ev.b (Ev.c (impl_IsValidRow_eq ..)) (Ev.i (fun h => ?_) (fun h => ?_))
    · rw [w64s hi (by omega)]
      exact (ih (i + 1) hd').r (by simp [vAll, h])
    · exact Ev.p.r (by simp [vAll, h])
theorem impl_allValid_ev (l : List S77) (hl : l.length ≤ 1152921504606846975) : Ev (fun k => impl_allValid.f k l) (vAll l) :=
  Ev.u (fun _ => rfl) (impl_allValid_l0 l hl l 0 rfl)
def vRows (l : List S77) : Bool := vAll l && decide (l.length ≤ 24)
theorem impl_AreValidRows_ev (l : List S77) (hl : l.length ≤ 1152921504606846975) : Ev (fun k => impl_AreValidRows.f k l) (vRows l) :=
  Ev.u (fun _ => rfl) (Ev.i (fun h => Ev.b (impl_allValid_ev l hl) (Ev.p.r (by simp [vRows]; omega))) (fun h => Ev.p.r (by simp [vRows]; omega)))
theorem spec_AreValidRows_l0 (l : List S77) (hl : l.length ≤ 1152921504606846975) : ∀ (s : List S77) (i : Nat), l.drop i = s → Ev (fun k => spec_AreValidRows.l0 k (i : Int) l) (vAll s && decide (l.length ≤ 24)) := by
  intro s
  induction s with
  | nil =>
    intro i hd
    have := drop_nil' hd
    exact Ev.s (fun k => by rw [spec_AreValidRows.l0]) (Ev.e (by omega) (Ev.p.r (by simp [vAll]; omega)))
  | cons x t ih =>
    intro i hd
    obtain ⟨hi, hd', hx, -⟩ := drop_cons' hd
    refine Ev.s (fun k => by rw [spec_AreValidRows.l0]) (Ev.t (by omega) (Ev.t (by omega) ?_))
    rw [rdR, hx]
    refine Ev.b (Ev.c (spec_IsValidRow_eq ..)) (Ev.i (fun h => ?_) (fun h => ?_))
    · rw [w64s hi (by omega)]
      exact (ih (i + 1) hd').r (by simp [vAll, h])
    · exact Ev.p.r (by simp [vAll, h])
theorem spec_AreValidRows_ev (l : List S77) (hl : l.length ≤ 1152921504606846975) : Ev (fun k => spec_AreValidRows.f k l) (vRows l) :=
  Ev.u (fun _ => rfl) (spec_AreValidRows_l0 l hl l 0 rfl)
theorem impl_clone_eq (l : List S77) (hl : l.length ≤ 5864062014805) : impl_clone.f l = some l := by
  unfold impl_clone.f; rw [if_pos hl]
def hBit (key level : Int) : Int := if inB level 0 3 && inB key 0 9 then andI (shrI (Int.tmod (key * 7) 16) level) 1 else 0
def hb (level : Int) (x : S77) : Bool := hBit x.f0 level == 0
theorem setP {α : Type} (pre : List α) (x y : α) (t : List α) : (pre ++ x :: t).set ((pre.length : Int)).toNat y = pre ++ y :: t := by
  rw [Int.toNat_natCast, List.set_append_right _ _ (Nat.le_refl _), Nat.sub_self]; rfl
theorem getP {α : Type} (pre : List α) (x d : α) (t : List α) : (pre ++ x :: t).getD ((pre.length : Int)).toNat d = x := by
  rw [Int.toNat_natCast, List.getD_eq_getElem?_getD, List.getElem?_append_right (Nat.le_refl _), Nat.sub_self]; rfl
theorem rdB (l : List Bool) (i : Nat) : rdOf false l (i : Int) = l.getD i false := rfl
theorem rdPRow (pre : List S77) (x : S77) (t : List S77) : rd_T77 (pre ++ x :: t) (pre.length : Int) = x := getP pre x z77 t
def mkRow : Int → List S77 → List S77
  | _, [] => []
  | k, _ :: l => ⟨k, k + 1, k + 1 + 1⟩ :: mkRow (k + 1 + 1 + 1) l
theorem mkRow_len : ∀ (k : Int) (l : List S77), (mkRow k l).length = l.length
  | _, [] => rfl
  | k, _ :: l => by rw [mkRow, List.length_cons, List.length_cons, mkRow_len]
theorem markRowS_l0 : ∀ (s pre : List S77) (k : Int), 0 ≤ k → k + 3 * s.length ≤ 4611686018427387904 → pre.length + s.length ≤ 4611686018427387904 → Ev (fun f => laws_markRowS.l0 f (pre ++ s) k (pre.length : Int)) (k + 3 * s.length, pre ++ mkRow k s) := by
  intro s
  induction s with
  | nil =>
    intro pre k h0 h1 h2
    exact Ev.s (fun f => by rw [laws_markRowS.l0]) (Ev.e (by simp) (Ev.p.r (by simp [mkRow])))
  | cons x t ih =>
    intro pre k h0 h1 h2
    rw [List.length_cons] at h1 h2
    refine Ev.s (fun f => by rw [laws_markRowS.l0]) (Ev.t (by simp; omega) (Ev.t (by omega) ?_))
    rw [w64 (x := k + 1) (by omega) (by omega)]
    rw [w64 (x := k + 1 + 1) (by omega) (by omega)]
    rw [w64 (x := k + 1 + 1 + 1) (by omega) (by omega)]
    rw [show wrap64 ((pre.length : Int) + 1) = ((pre.length + 1 : Nat) : Int) by rw [w64 (by omega) (by omega)]; rfl]
    refine Ev.b (Ev.c (congrArg some (setP pre _ _ t))) ?_
    refine Ev.t (by simp; omega) ?_
    simp only [rdPRow]
    refine Ev.b (Ev.c (congrArg some (setP pre _ _ t))) ?_
    refine Ev.t (by simp; omega) ?_
    simp only [rdPRow]
    refine Ev.b (Ev.c (congrArg some (setP pre _ _ t))) ?_
    have h := ih (pre ++ [(⟨k, k + 1, k + 1 + 1⟩ : S77)]) (k + 1 + 1 + 1) (by omega) (by omega) (by simp; omega)
    simp only [List.append_assoc, List.singleton_append, List.length_append, List.length_singleton] at h
    exact h.r (Prod.ext (by simp only [List.length_cons]; omega) rfl)
theorem markRowS_ev (l : List S77) (k : Int) (h0 : 0 ≤ k) (h1 : k + 3 * l.length ≤ 4611686018427387904) : Ev (fun f => laws_markRowS.f f l k) (k + 3 * l.length, mkRow k l) :=
  Ev.u (fun _ => rfl) (markRowS_l0 l [] k h0 h1 (by simp; omega))
theorem heldRowS_l0 (l : List S77) (hl : l.length ≤ 4611686018427387904) : ∀ (s : List S77) (i : Nat) (k : Int), l.drop i = mkRow k s → 0 ≤ k → k + 3 * s.length ≤ 4611686018427387904 → Ev (fun f => laws_heldRowS.l0 f k (i : Int) l) (k + 3 * s.length) := by
  intro s
  induction s with
  | nil =>
    intro i k hd h0 h1
    have := drop_nil' hd
    exact Ev.s (fun f => by rw [laws_heldRowS.l0]) (Ev.e (by omega) (Ev.p.r (by simp)))
  | cons x t ih =>
    intro i k hd h0 h1
    rw [List.length_cons] at h1
    rw [mkRow] at hd
    obtain ⟨hi, hd', hx, -⟩ := drop_cons' hd
    refine Ev.s (fun f => by rw [laws_heldRowS.l0]) (Ev.t (by omega) (Ev.t (by omega) ?_))
    rw [w64 (x := k + 1) (by omega) (by omega)]
    rw [w64 (x := k + 1 + 1) (by omega) (by omega)]
    rw [w64 (x := k + 1 + 1 + 1) (by omega) (by omega)]
    rw [rdR, hx, w64s hi (by omega)]
    exact Ev.t rfl (Ev.t rfl (Ev.t rfl ((ih (i + 1) (k + 1 + 1 + 1) hd' (by omega) (by omega)).r (by simp only [List.length_cons]; omega))))
theorem heldRowS_ev (l : List S77) (k : Int) (h0 : 0 ≤ k) (h1 : k + 3 * l.length ≤ 4611686018427387904) : Ev (fun f => laws_heldRowS.f f (mkRow k l) k) (k + 3 * l.length) :=
  Ev.u (fun _ => rfl) (heldRowS_l0 _ (by rw [mkRow_len]; omega) l 0 k rfl h0 h1)
theorem eqRow_refl (x : S77) : laws_eqRow.f x.f0 x.f1 x.f2 x.f0 x.f1 x.f2 = some true := by
  unfold laws_eqRow.f; simp
theorem eqRowS_l0 (l : List S77) (hl : l.length ≤ 4611686018427387904) : ∀ (s : List S77) (i : Nat), l.drop i = s → Ev (fun f => laws_eqRowS.l0 f (i : Int) l l) true := by
  intro s
  induction s with
  | nil =>
    intro i hd
    have := drop_nil' hd
    exact Ev.s (fun f => by rw [laws_eqRowS.l0]) (Ev.e (by omega) (Ev.p.r (by rfl)))
  | cons x t ih =>
    intro i hd
    obtain ⟨hi, hd', hx, -⟩ := drop_cons' hd
    refine Ev.s (fun f => by rw [laws_eqRowS.l0]) (Ev.t (by omega) (Ev.t (by omega) (Ev.t (by omega) ?_)))
    rw [rdR, hx, w64s hi (by omega)]
    exact Ev.b (Ev.c (eqRow_refl _)) <| Ev.t rfl (ih (i + 1) hd')
theorem eqRowS_ev (l : List S77) (hl : l.length ≤ 4611686018427387904) : Ev (fun f => laws_eqRowS.f f l l) true :=
  Ev.u (fun _ => rfl) (Ev.t rfl (eqRowS_l0 l hl l 0 rfl))
theorem rdLRow (l : List S79) (i : Nat) : rd_T79 l (i : Int) = l.getD i z79 := rfl
def cvRow (x : S79) : S77 := ⟨x.f0, x.f1, x.f2⟩
theorem toRow_eq (x : S79) : laws_toRow.f x.f0 x.f1 x.f2 = some (x.f0, x.f1, x.f2) := by unfold laws_toRow.f; rfl
theorem toRowS_l0 (l : List S79) (hl : l.length ≤ 4611686018427387904) : ∀ (s : List S79) (r pre : List S77), l.drop pre.length = s → r.length = s.length → Ev (fun f => laws_toRowS.l0 f (pre ++ r) (pre.length : Int) l) (pre ++ s.map cvRow) := by
  intro s
  induction s with
  | nil =>
    intro r pre hd hr
    have := drop_nil' hd
    have : r = [] := List.eq_nil_of_length_eq_zero hr
    subst this
    exact Ev.s (fun f => by rw [laws_toRowS.l0]) (Ev.e (by omega) (Ev.p.r (by simp)))
  | cons x t ih =>
    intro r pre hd hr
    obtain ⟨hi, hd', hx, -⟩ := drop_cons' hd
    cases r with
    | nil => simp at hr
    | cons y r =>
      refine Ev.s (fun f => by rw [laws_toRowS.l0]) (Ev.t (by omega) (Ev.t (by omega) ?_))
      rw [rdLRow, hx, w64s hi (by omega)]
      refine Ev.b (Ev.c (toRow_eq x)) (Ev.t (by simp; omega) (Ev.b (Ev.c (congrArg some (setP pre _ _ r))) ?_))
      have h := ih r (pre ++ [cvRow x]) (by rw [List.length_append, List.length_singleton]; exact hd') (by simpa using hr)
      simp only [List.append_assoc, List.singleton_append, List.length_append, List.length_singleton] at h
      exact h.r (by simp)
theorem toRowS_ev (l : List S79) (hl : l.length ≤ 1048576) : Ev (fun f => laws_toRowS.f f l) (l.map cvRow) := by
  refine Ev.u (fun _ => rfl) (Ev.t (by omega) (Ev.t (by simp; omega) ?_))
  have h := toRowS_l0 l (by omega) l (List.replicate l.length z77) [] rfl (by simp)
  simpa using h
theorem szRowS_neg (l : List S79) (n : Int) (h0 : 0 ≤ n) (h1 : n ≤ 1048576) (hl : l.length ≤ maxLen) (h : n - l.length < 0) : laws_szRowS.f l n = some (-1) := by
  have hl' : l.length ≤ 9223372036854775807 := hl
  unfold laws_szRowS.f
  rw [w64 (by omega) (by omega), if_pos h]
theorem szRowS_pos (l : List S79) (n : Int) (h0 : 0 ≤ n) (h1 : n ≤ 1048576) (h : ¬ n - l.length < 0) : laws_szRowS.f l n = some (n - l.length) := by
  unfold laws_szRowS.f
  rw [w64 (by omega) (by omega), if_neg h]
def mkBool : Int → List Bool → List Bool
  | _, [] => []
  | k, _ :: l => decide (Int.tmod (k) 3 = 0) :: mkBool (k + 1) l
theorem mkBool_len : ∀ (k : Int) (l : List Bool), (mkBool k l).length = l.length
  | _, [] => rfl
  | k, _ :: l => by rw [mkBool, List.length_cons, List.length_cons, mkBool_len]
theorem markBoolS_l0 : ∀ (s pre : List Bool) (k : Int), 0 ≤ k → k + 1 * s.length ≤ 4611686018427387904 → pre.length + s.length ≤ 4611686018427387904 → Ev (fun f => laws_markBoolS.l0 f (pre ++ s) k (pre.length : Int)) (k + 1 * s.length, pre ++ mkBool k s) := by
  intro s
  induction s with
  | nil =>
    intro pre k h0 h1 h2
    exact Ev.s (fun f => by rw [laws_markBoolS.l0]) (Ev.e (by simp) (Ev.p.r (by simp [mkBool])))
  | cons x t ih =>
    intro pre k h0 h1 h2
    rw [List.length_cons] at h1 h2
    refine Ev.s (fun f => by rw [laws_markBoolS.l0]) (Ev.t (by simp; omega) (Ev.t (by omega) ?_))
    rw [w64 (x := k + 1) (by omega) (by omega)]
    rw [show wrap64 ((pre.length : Int) + 1) = ((pre.length + 1 : Nat) : Int) by rw [w64 (by omega) (by omega)]; rfl]
    rw [setP]
    have h := ih (pre ++ [(decide (Int.tmod (k) 3 = 0) : Bool)]) (k + 1) (by omega) (by omega) (by simp; omega)
    simp only [List.append_assoc, List.singleton_append, List.length_append, List.length_singleton] at h
    exact h.r (Prod.ext (by simp only [List.length_cons]; omega) rfl)
theorem markBoolS_ev (l : List Bool) (k : Int) (h0 : 0 ≤ k) (h1 : k + 1 * l.length ≤ 4611686018427387904) : Ev (fun f => laws_markBoolS.f f l k) (k + 1 * l.length, mkBool k l) :=
  Ev.u (fun _ => rfl) (markBoolS_l0 l [] k h0 h1 (by simp; omega))
theorem heldBoolS_l0 (l : List Bool) (hl : l.length ≤ 4611686018427387904) : ∀ (s : List Bool) (i : Nat) (k : Int), l.drop i = mkBool k s → 0 ≤ k → k + 1 * s.length ≤ 4611686018427387904 → Ev (fun f => laws_heldBoolS.l0 f k (i : Int) l) (k + 1 * s.length) := by
  intro s
  induction s with
  | nil =>
    intro i k hd h0 h1
    have := drop_nil' hd
    exact Ev.s (fun f => by rw [laws_heldBoolS.l0]) (Ev.e (by omega) (Ev.p.r (by simp)))
  | cons x t ih =>
    intro i k hd h0 h1
    rw [List.length_cons] at h1
    rw [mkBool] at hd
    obtain ⟨hi, hd', hx, -⟩ := drop_cons' hd
    refine Ev.s (fun f => by rw [laws_heldBoolS.l0]) (Ev.t (by omega) (Ev.t (by omega) ?_))
    rw [w64 (x := k + 1) (by omega) (by omega)]
    rw [rdB, hx, w64s hi (by omega)]
    exact Ev.t (by simp) ((ih (i + 1) (k + 1) hd' (by omega) (by omega)).r (by simp only [List.length_cons]; omega))
theorem heldBoolS_ev (l : List Bool) (k : Int) (h0 : 0 ≤ k) (h1 : k + 1 * l.length ≤ 4611686018427387904) : Ev (fun f => laws_heldBoolS.f f (mkBool k l) k) (k + 1 * l.length) :=
  Ev.u (fun _ => rfl) (heldBoolS_l0 _ (by rw [mkBool_len]; omega) l 0 k rfl h0 h1)
theorem eqBoolS_l0 (l : List Bool) (hl : l.length ≤ 4611686018427387904) : ∀ (s : List Bool) (i : Nat), l.drop i = s → Ev (fun f => laws_eqBoolS.l0 f (i : Int) l l) true := by
  intro s
  induction s with
  | nil =>
    intro i hd
    have := drop_nil' hd
    exact Ev.s (fun f => by rw [laws_eqBoolS.l0]) (Ev.e (by omega) (Ev.p.r (by rfl)))
  | cons x t ih =>
    intro i hd
    obtain ⟨hi, hd', hx, -⟩ := drop_cons' hd
    refine Ev.s (fun f => by rw [laws_eqBoolS.l0]) (Ev.t (by omega) (Ev.t (by omega) (Ev.t (by omega) ?_)))
    rw [rdB, hx, w64s hi (by omega)]
    exact Ev.t (by simp) (ih (i + 1) hd')
theorem eqBoolS_ev (l : List Bool) (hl : l.length ≤ 4611686018427387904) : Ev (fun f => laws_eqBoolS.f f l l) true :=
  Ev.u (fun _ => rfl) (Ev.t rfl (eqBoolS_l0 l hl l 0 rfl))
def tsz (t : S68) : Nat := t.f1.length + t.f2.length + t.f3.length
theorem eqTask_ev (t : S68) (h : tsz t ≤ 4611686018427387904) : Ev (fun k => laws_eqTask.f k t.f0 t.f1 t.f2 t.f3 t.f4 t.f0 t.f1 t.f2 t.f3 t.f4) true := by
  unfold tsz at h
  exact Ev.u (fun _ => rfl) (Ev.t rfl (Ev.b (eqRowS_ev _ (by omega)) (Ev.t rfl (Ev.b (eqRowS_ev _ (by omega)) (Ev.t rfl (Ev.b (eqBoolS_ev _ (by omega)) (Ev.t rfl (Ev.t rfl Ev.p))))))))
def nTask (t : S68) : Int := 3 * t.f1.length + 3 * t.f2.length + t.f3.length
theorem impl_IsValidJoinKind_eq (a : Int) : impl_IsValidJoinKind.f a = some (inB a 1 4) := by unfold impl_IsValidJoinKind.f; rw [within_eq]; rfl
theorem spec_IsValidJoinKind_eq (a : Int) : spec_IsValidJoinKind.f a = some (inB a 1 4) := by unfold spec_IsValidJoinKind.f; rw [l1In_eq]; rfl
theorem vRows_len {l : List S77} (h : vRows l = true) : l.length ≤ 24 := by
  unfold vRows at h; rw [Bool.and_eq_true] at h; exact of_decide_eq_true h.2
structure VT (t : S68) : Prop where
  kind : 1 ≤ t.f0 ∧ t.f0 ≤ 4
  left : vRows t.f1 = true
  right : vRows t.f2 = true
  len : t.f3.length = t.f1.length
  level : 0 ≤ t.f4 ∧ t.f4 ≤ 4
theorem VT.b {t : S68} (h : VT t) : t.f1.length ≤ 24 ∧ t.f2.length ≤ 24 ∧ t.f3.length ≤ 24 := ⟨vRows_len h.left, vRows_len h.right, by rw [h.len]; exact vRows_len h.left⟩
theorem VT.p {t : S68} (h : VT t) : tsz t ≤ 72 := by have := h.b; unfold tsz; omega
def nTk (kind : Int) (a b : List S77) : Bool := inB kind 1 4 && (vRows a && vRows b)
def newT (kind : Int) (a b : List S77) : S68 := if nTk kind a b = true then ⟨kind, a, b, List.replicate a.length false, 0⟩ else z68
abbrev ttup (t : S68) (r : Bool) : Int × List S77 × List S77 × List Bool × Int × Bool := (t.f0, t.f1, t.f2, t.f3, t.f4, r)
theorem newT_no {kind : Int} {a b : List S77} (h : nTk kind a b = false) : ttup (newT kind a b) (nTk kind a b) = (0, [], [], [], 0, false) := by simp [ttup, newT, h, z68]
theorem impl_NewTask_ev (kind : Int) (a b : List S77) (ha : a.length ≤ 1099511627776) (hb : b.length ≤ 1099511627776) : Ev (fun k => impl_NewTask.f k kind a b) (ttup (newT kind a b) (nTk kind a b)) := by
  refine Ev.u (fun _ => rfl) (Ev.b (Ev.c (impl_IsValidJoinKind_eq _)) (Ev.i (fun h1 => Ev.b (impl_AreValidRows_ev _ (by omega)) (Ev.i (fun h2 => Ev.b (impl_AreValidRows_ev _ (by omega)) (Ev.i (fun h3 => Ev.t (by omega) (Ev.t (by simp; omega) (Ev.b (Ev.c (impl_clone_eq _ (by omega))) (Ev.b (Ev.c (impl_clone_eq _ (by omega))) (Ev.p.r ?_))))) (fun h3 => Ev.p.r ?_))) (fun h2 => Ev.p.r ?_))) (fun h1 => Ev.p.r ?_)))
  · simp [ttup, newT, nTk, h1, h2, h3]
  all_goals (rw [newT_no (by simp [nTk, *])])
theorem spec_NewTask_ev (kind : Int) (a b : List S77) (ha : a.length ≤ 1099511627776) (hb : b.length ≤ 1099511627776) : Ev (fun k => spec_NewTask.f k kind a b) (ttup (newT kind a b) (nTk kind a b)) := by
  refine Ev.u (fun _ => rfl) (Ev.b (Ev.c (spec_IsValidJoinKind_eq _)) (Ev.i (fun h1 => Ev.b (spec_AreValidRows_ev _ (by omega)) (Ev.i (fun h2 => Ev.b (spec_AreValidRows_ev _ (by omega)) (Ev.i (fun h3 => Ev.t (by omega) (Ev.t (by omega) (Ev.t (by omega) (Ev.t (by simp; omega) (Ev.p.r ?_))))) (fun h3 => Ev.p.r ?_))) (fun h2 => Ev.p.r ?_))) (fun h1 => Ev.p.r ?_)))
  · simp [ttup, newT, nTk, h1, h2, h3]
  all_goals (rw [newT_no (by simp [nTk, *])])
theorem newT_VT {kind : Int} {a b : List S77} (h : nTk kind a b = true) : VT (newT kind a b) := by
  have h' := h
  simp [nTk, inB] at h'
  rw [newT, if_pos h]
  exact ⟨h'.1, h'.2.1, h'.2.2, by simp, by simp⟩

theorem rdTask (l : List S68) (i : Nat) : rd_T68 l (i : Int) = l.getD i z68 := rfl
theorem rdPTask (pre : List S68) (x : S68) (t : List S68) : rd_T68 (pre ++ x :: t) (pre.length : Int) = x := getP pre x z68 t
def mk1T (k : Int) (t : S68) : S68 := ⟨k, mkRow (k + 1) t.f1, mkRow (k + 1 + 3 * t.f1.length) t.f2, mkBool (k + 1 + 3 * t.f1.length + 3 * t.f2.length) t.f3, k + 1 + 3 * t.f1.length + 3 * t.f2.length + t.f3.length⟩
def n1T (t : S68) : Int := nTask t + 2
def mkT : Int → List S68 → List S68
  | _, [] => []
  | k, t :: l => mk1T k t :: mkT (k + n1T t) l
def nTs (l : List S68) : Int := (l.map n1T).sum
theorem nTs_cons (t : S68) (l : List S68) : nTs (t :: l) = n1T t + nTs l := by simp [nTs]
theorem n1T_pos (t : S68) : 2 ≤ n1T t := by unfold n1T nTask; omega
theorem nTs_pos : ∀ l : List S68, 0 ≤ nTs l
  | [] => by simp [nTs]
  | t :: l => by rw [nTs_cons]; have := n1T_pos t; have := nTs_pos l; omega
theorem mkT_len : ∀ (k : Int) (l : List S68), (mkT k l).length = l.length
  | _, [] => rfl
  | k, t :: l => by rw [mkT, List.length_cons, List.length_cons, mkT_len]
theorem markTaskS_l0 : ∀ (s pre : List S68) (k : Int), 0 ≤ k → k + nTs s ≤ 4611686018427387904 → pre.length + s.length ≤ 4611686018427387904 → Ev (fun f => laws_markTaskS.l0 f (pre ++ s) k (pre.length : Int)) (k + nTs s, pre ++ mkT k s) := by
  intro s
  induction s with
  | nil =>
    intro pre k h0 h1 h2
    exact Ev.s (fun f => by rw [laws_markTaskS.l0]) (Ev.e (by simp) (Ev.p.r (by simp [mkT, nTs])))
  | cons x t ih =>
    intro pre k h0 h1 h2
    rw [nTs_cons] at h1
    rw [List.length_cons] at h2
    have hp := nTs_pos t
    have hx : n1T x = 3 * x.f1.length + 3 * x.f2.length + x.f3.length + 2 := rfl
    refine Ev.s (fun f => by rw [laws_markTaskS.l0]) (Ev.t (by simp; omega) (Ev.t (by omega) ?_))
    rw [w64 (x := k + 1) (by omega) (by omega)]
    refine Ev.b (Ev.c (congrArg some (setP pre _ _ t))) (Ev.t (by simp; omega) ?_)
    simp only [rdPTask]
    refine Ev.b (markRowS_ev x.f1 (k + 1) (by omega) (by omega)) (Ev.b (Ev.c (congrArg some (setP pre _ _ t))) (Ev.t (by simp; omega) ?_))
    simp only [rdPTask]
    refine Ev.b (markRowS_ev x.f2 (k + 1 + 3 * x.f1.length) (by omega) (by omega)) (Ev.b (Ev.c (congrArg some (setP pre _ _ t))) (Ev.t (by simp; omega) ?_))
    simp only [rdPTask]
    refine Ev.b (markBoolS_ev x.f3 (k + 1 + 3 * x.f1.length + 3 * x.f2.length) (by omega) (by omega)) (Ev.b (Ev.c (congrArg some (setP pre _ _ t))) (Ev.t (by simp; omega) ?_))
    simp only [rdPTask]
    refine Ev.b (Ev.c (congrArg some (setP pre _ _ t))) ?_
    rw [show wrap64 ((pre.length : Int) + 1) = ((pre.length + 1 : Nat) : Int) by rw [w64 (by omega) (by omega)]; rfl]
    rw [w64 (by omega) (by omega)]
    have h := ih (pre ++ [mk1T k x]) (k + n1T x) (by omega) (by omega) (by simp; omega)
    simp only [List.append_assoc, List.singleton_append, List.length_append, List.length_singleton] at h
    refine h.r' (fun f => ?_) (Prod.ext (by rw [nTs_cons]; show _ = _; simp only []; omega) rfl)
    rw [show k + n1T x = k + 1 + 3 * (x.f1.length : Int) + 3 * x.f2.length + 1 * x.f3.length + 1 by omega]
    unfold mk1T
    rw [show k + 1 + 3 * (x.f1.length : Int) + 3 * x.f2.length + x.f3.length = k + 1 + 3 * (x.f1.length : Int) + 3 * x.f2.length + 1 * x.f3.length by omega]
theorem markTaskS_ev (l : List S68) (k : Int) (h0 : 0 ≤ k) (h1 : k + nTs l ≤ 4611686018427387904) (h2 : l.length ≤ 1152921504606846975) : Ev (fun f => laws_markTaskS.f f l k) (k + nTs l, mkT k l) :=
  Ev.u (fun _ => rfl) (markTaskS_l0 l [] k h0 h1 (by simp; omega))
theorem heldTaskS_l0 (l : List S68) (hl : l.length ≤ 4611686018427387904) : ∀ (s : List S68) (i : Nat) (k : Int), l.drop i = mkT k s → 0 ≤ k → k + nTs s ≤ 4611686018427387904 → Ev (fun f => laws_heldTaskS.l0 f k (i : Int) l) (k + nTs s) := by
  intro s
  induction s with
  | nil =>
    intro i k hd h0 h1
    have := drop_nil' hd
    exact Ev.s (fun f => by rw [laws_heldTaskS.l0]) (Ev.e (by omega) (Ev.p.r (by simp [nTs])))
  | cons x t ih =>
    intro i k hd h0 h1
    rw [nTs_cons] at h1
    rw [mkT] at hd
    have hp := nTs_pos t
    have hx' : n1T x = 3 * x.f1.length + 3 * x.f2.length + x.f3.length + 2 := rfl
    obtain ⟨hi, hd', hx, -⟩ := drop_cons' hd
    refine Ev.s (fun f => by rw [laws_heldTaskS.l0]) (Ev.t (by omega) (Ev.t (by omega) ?_))
    rw [w64 (x := k + 1) (by omega) (by omega), rdTask, hx, w64s hi (by omega)]
    refine Ev.t rfl (Ev.b (heldRowS_ev x.f1 (k + 1) (by omega) (by omega)) (Ev.e (by omega) (Ev.b (heldRowS_ev x.f2 (k + 1 + 3 * x.f1.length) (by omega) (by omega)) (Ev.e (by omega) (Ev.b (heldBoolS_ev x.f3 (k + 1 + 3 * x.f1.length + 3 * x.f2.length) (by omega) (by omega)) (Ev.e (by omega) (Ev.t (by show k + 1 + 3 * (x.f1.length : Int) + 3 * x.f2.length + x.f3.length = _; omega) ?_)))))))
    rw [w64 (by omega) (by omega)]
    rw [show k + 1 + 3 * (x.f1.length : Int) + 3 * x.f2.length + 1 * x.f3.length + 1 = k + n1T x by omega]
    exact (ih (i + 1) (k + n1T x) hd' (by omega) (by omega)).r (by rw [nTs_cons]; omega)
theorem heldTaskS_ev (l : List S68) (k : Int) (h0 : 0 ≤ k) (h1 : k + nTs l ≤ 4611686018427387904) (h2 : l.length ≤ 1152921504606846975) : Ev (fun f => laws_heldTaskS.f f (mkT k l) k) (k + nTs l) :=
  Ev.u (fun _ => rfl) (heldTaskS_l0 _ (by rw [mkT_len]; omega) l 0 k rfl h0 h1)
theorem eqTaskS_l0 (l : List S68) (hl : l.length ≤ 4611686018427387904) (ht : ∀ t ∈ l, tsz t ≤ 4611686018427387904) : ∀ (s : List S68) (i : Nat), l.drop i = s → Ev (fun f => laws_eqTaskS.l0 f (i : Int) l l) true := by
  intro s
  induction s with
  | nil =>
    intro i hd
    have := drop_nil' hd
    exact Ev.s (fun f => by rw [laws_eqTaskS.l0]) (Ev.e (by omega) (Ev.p.r (by rfl)))
  | cons x t ih =>
    intro i hd
    obtain ⟨hi, hd', hx, -⟩ := drop_cons' hd
    have hm : x ∈ l := List.mem_of_mem_drop (by rw [hd]; exact List.mem_cons_self ..)
    refine Ev.s (fun f => by rw [laws_eqTaskS.l0]) (Ev.t (by omega) (Ev.t (by omega) (Ev.t (by omega) ?_)))
    rw [rdTask, hx, w64s hi (by omega)]
    exact Ev.b (eqTask_ev x (ht x hm)) (Ev.t rfl (ih (i + 1) hd'))
theorem eqTaskS_ev (l : List S68) (hl : l.length ≤ 4611686018427387904) (ht : ∀ t ∈ l, tsz t ≤ 4611686018427387904) : Ev (fun f => laws_eqTaskS.f f l l) true :=
  Ev.u (fun _ => rfl) (Ev.t rfl (eqTaskS_l0 l hl ht l 0 rfl))
def jsz (j : S29) : Nat := j.f0.length + (j.f0.map tsz).sum
theorem sum_mem {α : Type} (f : α → Nat) : ∀ {l : List α} {x : α}, x ∈ l → f x ≤ (l.map f).sum
  | y :: l, x, h => by
    rcases List.mem_cons.1 h with h | h
    · subst h; simp
    · have := sum_mem f h; simp; omega
theorem jsz_mem {j : S29} {t : S68} (h : t ∈ j.f0) : tsz t ≤ jsz j := by have := sum_mem tsz h; unfold jsz; omega
theorem nTs_le : ∀ l : List S68, nTs l ≤ 3 * ((l.map tsz).sum : Nat) + 2 * l.length
  | [] => by simp [nTs]
  | t :: l => by
    have := nTs_le l
    rw [nTs_cons, List.map_cons, List.sum_cons, List.length_cons]
    have : n1T t = 3 * t.f1.length + 3 * t.f2.length + t.f3.length + 2 := rfl
    unfold tsz at *; omega
def nJ (j : S29) : Int := nTs j.f0
def mkJ (k : Int) (j : S29) : S29 := { j with f0 := mkT k j.f0 }
theorem nJ_b (j : S29) : 0 ≤ nJ j ∧ nJ j ≤ 3 * jsz j := by
  have h1 := nTs_le j.f0
  have h2 := nTs_pos j.f0
  unfold nJ jsz; omega
theorem eqJoiner_ev (j : S29) (h : jsz j ≤ 4611686018427387904) : Ev (fun k => laws_eqJoiner.f k j.f0 j.f1 j.f2 j.f0 j.f1 j.f2) true := by
  have hl : j.f0.length ≤ jsz j := by unfold jsz; omega
  exact Ev.u (fun _ => rfl) (Ev.b (eqTaskS_ev _ (by omega) (fun t ht => by have := jsz_mem ht; omega)) (Ev.t rfl (Ev.t rfl (Ev.t rfl Ev.p))))
theorem markJoiner_ev (j : S29) (k : Int) (h0 : 0 ≤ k) (h1 : k + 3 * jsz j ≤ 1152921504606846975) : Ev (fun f => laws_markJoiner.f f j.f0 j.f1 j.f2 k) (k + nJ j, (mkJ k j).f0) := by
  have hl : j.f0.length ≤ jsz j := by unfold jsz; omega
  have hb := nJ_b j
  exact Ev.u (fun _ => rfl) (Ev.b (markTaskS_ev _ k h0 (by unfold nJ at hb; omega) (by omega)) (Ev.p.r (by rfl)))
theorem heldJoiner_ev (j : S29) (k a b : Int) (h0 : 0 ≤ k) (h1 : k + 3 * jsz j ≤ 1152921504606846975) : Ev (fun f => laws_heldJoiner.f f (mkJ k j).f0 a b k) (k + nJ j) := by
  have hl : j.f0.length ≤ jsz j := by unfold jsz; omega
  have hb := nJ_b j
  exact Ev.u (fun _ => rfl) (Ev.b (heldTaskS_ev _ k h0 (by unfold nJ at hb; omega) (by omega)) (Ev.e (by unfold nJ at hb; omega) (Ev.p.r (by rfl))))
def newJ (kind : Int) (a b : List S77) : S29 := if nTk kind a b = true then ⟨[newT kind a b], 0, 0⟩ else z29
theorem impl_NewJoiner_ev (kind : Int) (a b : List S77) (ha : a.length ≤ 1099511627776) (hb : b.length ≤ 1099511627776) : Ev (fun k => impl_NewJoiner.f k kind a b) ((newJ kind a b).f0, (newJ kind a b).f1, (newJ kind a b).f2, nTk kind a b) := by
  refine Ev.u (fun _ => rfl) (Ev.b (impl_NewTask_ev kind a b ha hb) (Ev.i (fun h => Ev.p.r ?_) (fun h => Ev.p.r ?_)))
  · have h' : nTk kind a b = true := h
    simp [newJ, h']
  · have h' : ¬ nTk kind a b = true := h
    simp [newJ, h', z29]
theorem spec_NewJoiner_ev (kind : Int) (a b : List S77) (ha : a.length ≤ 1099511627776) (hb : b.length ≤ 1099511627776) : Ev (fun k => spec_NewJoiner.f k kind a b) ((newJ kind a b).f0, (newJ kind a b).f1, (newJ kind a b).f2, nTk kind a b) := by
  refine Ev.u (fun _ => rfl) (Ev.b (spec_NewTask_ev kind a b ha hb) (Ev.i (fun h => Ev.p.r ?_) (fun h => Ev.p.r ?_)))
  · have h' : nTk kind a b = true := h
    simp [newJ, h']
  · have h' : ¬ nTk kind a b = true := h
    simp [newJ, h', z29]
theorem newJ_sz (kind : Int) (a b : List S77) : jsz (newJ kind a b) ≤ 73 := by
  unfold newJ
  split
  · rename_i h; have := (newT_VT h).p; simp [jsz]; omega
  · decide

theorem pure_FnExactNewJoiner (a0 : Int) (l1 : List S79) (l2 : List S79) (w0 : (Lit.int .i64 a0).wf = true) (G1 : (l1.length ≤ maxLen ∧ ∀ y ∈ l1, good79 y)) (G2 : (l2.length ≤ maxLen ∧ ∀ y ∈ l2, good79 y)) : ∃ k, laws_FnExactNewJoiner.f k a0 l1 l2 = some true := by
  have g1 := G1.1
  have g2 := G2.1
  refine Ev.ex ?_
  by_cases s1 : (1048576 : Int) - l1.length < 0
  · exact Ev.u (fun _ => rfl) (Ev.b (Ev.c (szRowS_neg l1 _ (by omega) (by omega) g1 s1)) (Ev.t (by omega) Ev.p))
  refine Ev.u (fun _ => rfl) (Ev.b (Ev.c (szRowS_pos l1 _ (by omega) (by omega) s1)) (Ev.e s1 ?_))
  by_cases s2 : (1048576 : Int) - l1.length - l2.length < 0
  · exact Ev.b (Ev.c (szRowS_neg l2 _ (by omega) (by omega) g2 s2)) (Ev.t (by omega) Ev.p)
  refine Ev.b (Ev.c (szRowS_pos l2 _ (by omega) (by omega) s2)) (Ev.e s2 ?_)
  have t1 := toRowS_ev l1 (by omega)
  have t2 := toRowS_ev l2 (by omega)
  have n1 : (l1.map cvRow).length ≤ 1048576 := by rw [List.length_map]; omega
  have n2 : (l2.map cvRow).length ≤ 1048576 := by rw [List.length_map]; omega
  generalize l1.map cvRow = A at *
  generalize l2.map cvRow = B at *
  have es := spec_NewJoiner_ev a0 A B (by omega) (by omega)
  have ei := impl_NewJoiner_ev a0 A B (by omega) (by omega)
  have zj := newJ_sz a0 A B
  generalize newJ a0 A B = J at *
  have nj := nJ_b J
  have qj := eqJoiner_ev J (by omega)
  have qa := eqRowS_ev A (by omega)
  have qb := eqRowS_ev B (by omega)
  have mA := markRowS_ev A 1 (by omega) (by omega)
  have mB := markRowS_ev B (1 + 3 * A.length) (by omega) (by omega)
  have mJ := markJoiner_ev J 1 (by omega) (by omega)
  have dJ := heldJoiner_ev J 1 J.f1 J.f2 (by omega) (by omega)
  refine Ev.b t1 (Ev.b t2 (Ev.b es (Ev.b t1 (Ev.b t2 (Ev.b ei (Ev.b qj (Ev.t rfl (Ev.t (by simp) ?_))))))))
  refine Ev.b t1 (Ev.b qa (Ev.t rfl (Ev.b t2 (Ev.b qb (Ev.t rfl (Ev.b mA (Ev.b mB (Ev.e (by simp only []; omega) ?_))))))))
  refine Ev.b qj (Ev.t rfl (Ev.b mJ (Ev.b dJ (Ev.e (by omega) (Ev.t rfl ?_)))))
  refine Ev.b t1 (Ev.b t2 (Ev.b ei (Ev.b qj (Ev.t rfl (Ev.t (by simp) ?_)))))
  exact Ev.b dJ (Ev.e (by omega) (Ev.t rfl Ev.p))

end Go.Proofs.Ytfcebaplphpajaa.K
namespace Go.Proofs.Ytfcebaplphpajaa.fnExactNewJoiner
open Go Go.ChangeShapes Go.WideShapes Go.ChangeAt Go.RowKit Go.Proofs.Ytfcebaplphpajaa.K
open Go.ChangeMaps (open_string shut_string)
set_option linter.unusedVariables false
theorem own : ownKnob Try.prog.godebug = none := by kernel_rfl
theorem laidOut : laidOutB Try.prog = true := by kernel_rfl
set_option maxRecDepth 100000 in
theorem lifted (os : Os) (started : os.Started) (H : Type) (enc : TypeId × Value → H) :
    ReturnsInHanded {} Try.checked os 6 .any (Rows.fnExactNewJoinerSpec.pre6 enc Try.prog Try.f6 Rows.fnExactNewJoinerRow.domain false) (Rows.fnExactNewJoinerSpec.post enc Try.prog Try.f6 false true false false) := by
  refine returnsInHanded_of_change_sized (C := Try.checked) own started (by kernel_rfl) Try.func6
    (ChangeSpec.witness6 (enc := enc) (C := Try.checked) false ⟨#[], #[.int .i64 0, .slice none 0 0, .slice none 0 0], []⟩ 8 (by kernel_rfl) (by kernel_rfl) (by kernel_rfl) (by kernel_rfl)) ?_
  intro W base args ds gs before hval0 hW hcnd hsz0 _
  have hsz : (DataW.weightsEach Try.prog (Try.f6.params.toList ++ Rows.fnExactNewJoinerSpec.plain.varTypes Try.prog) (ds ++ gs)).all (· ≤ reachBytes) = true := hsz0
  have hval : ∀ (j : Nat) t v, Try.f6.params[j]? = some t → args[j]? = some v → Value.okWide Try.prog W .any base t v := hval0
  have hW' := hW
  obtain ⟨p, q, hA0, hV, rfl, hfz, hnd⟩ := hW
  have hA : DataW.TrodAll enc Try.prog W 0 (fun _ => true) true Try.f6.params.toList args.toList ds p := hA0
  rw [Try.params6] at hA hval hsz
  obtain ⟨v0, vs0, d0, ds0, p0, q0, hargs, rfl, rfl, h0, r0⟩ := trodAll_cons hA
  obtain ⟨v1, vs1, d1, ds1, p1, q1, rfl, rfl, rfl, h1, r1⟩ := trodAll_cons r0
  obtain ⟨v2, vs2, d2, ds2, p2, q2, rfl, rfl, rfl, h2, r2⟩ := trodAll_cons r1
  obtain ⟨rfl, rfl, rfl⟩ := trodAll_nil r2
  obtain rfl : args = #[v0, v1, v2] := by cases args; simp_all
  obtain ⟨rfl, rfl⟩ := trodVars_none hV
  obtain ⟨a0, rfl, rfl, rfl, w0⟩ := open_int Try.underlying3 (hval 0 3 v0 rfl rfl) h0
  have k1 := h1
  have lt1 : ∀ x ∈ p1, x.block < W.heap.size := by obtain ⟨m, hm⟩ := k1; exact DataW.trod_lt m _ _ _ hm
  obtain ⟨A1, len1, c1, rfl⟩ := okWide_slice Try.underlying35 (hval 1 35 v1 rfl rfl)
  obtain ⟨l1, rfl, F1, G1⟩ := slice_arg (opens_slice Try.underlying35 (by kernel_rfl) (by kernel_rfl) open79) h1
  have k2 := h2
  have lt2 : ∀ x ∈ p2, x.block < W.heap.size := by obtain ⟨m, hm⟩ := k2; exact DataW.trod_lt m _ _ _ hm
  obtain ⟨A2, len2, c2, rfl⟩ := okWide_slice Try.underlying35 (hval 2 35 v2 rfl rfl)
  obtain ⟨l2, rfl, F2, G2⟩ := slice_arg (opens_slice Try.underlying35 (by kernel_rfl) (by kernel_rfl) open79) h2
  clear hA0 hval0 hsz0 hsz
  obtain ⟨k, hk⟩ := K.pure_FnExactNewJoiner a0 l1 l2 w0 G1 G2
  refine (law_calls (laws_FnExactNewJoiner.ok k a0 l1 A1 c1 l2 A2 c2 true hk) (facts_app F1 (facts_app F2 facts_nil))).mono fun e W' he => ?_
  obtain ⟨rfl, bel⟩ := he
  exact ⟨_, rfl, _, _, _, [], _, [], hW', trodAll_mk1 (shut_bool Try.underlying4 _), (trodAll_cons_mk (shut_int Try.underlying3 w0) (trodAll_cons_mk (Below.trod laidOut (by kernel_rfl) (of_decide_eq_true (by kernel_rfl)) k1 bel lt1) (trodAll_cons_mk (Below.trod laidOut (by kernel_rfl) (of_decide_eq_true (by kernel_rfl)) k2 bel lt2) trodAll_mk0))), rfl, bel.frame _, fun h => by cases h⟩
theorem over : Rows.fnExactNewJoinerRow.holds Try.pinned (OpenSpec.ofChange Rows.fnExactNewJoinerSpec) :=
  OpenClaim.holds_of_wide 6 Try.f6 rfl rfl rfl rfl rfl rfl rfl ⟨rfl, rfl, rfl, rfl, rfl⟩ rfl rfl rfl rfl rfl (by kernel_rfl) Try.func6 (by kernel_rfl)
    (of_decide_eq_true (by kernel_rfl)) (by unfold Func.isWrapper; first | (rw [if_pos (by decide +kernel)]; kernel_rfl) | (rw [if_neg (by decide +kernel)]; exact ⟨rfl, rfl⟩))
    (fun os started H enc _ => lifted os started H enc)
theorem proved : Rows.FnExactNewJoinerSaid := over
#print axioms proved
end Go.Proofs.Ytfcebaplphpajaa.fnExactNewJoiner
namespace Go.Proofs.Ytfcebaplphpajaa
/-- The row, under a short name, for the claim. -/
theorem fnExactNewJoiner_holds : Rows.FnExactNewJoinerSaid := fnExactNewJoiner.proved
end Go.Proofs.Ytfcebaplphpajaa
