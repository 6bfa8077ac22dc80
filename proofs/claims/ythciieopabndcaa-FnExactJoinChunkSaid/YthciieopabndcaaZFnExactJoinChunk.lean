/- FnExactJoinChunk answers true at every input. -/
import Derived.Below
import Derived.Carry
import Derived.ChangeOld
import Derived.OpenShut
import Derived.ProofKit
import Derived.ShutString
import Derived.SizedLaws
import Derived.Test.YthciieopabndcaaChecked
import Derived.Test.YthciieopabndcaaRows
import Derived.WalkKit
import Derived.Test.YthciieopabndcaaVFnExactJoinChunkb
namespace Go.Proofs.Ythciieopabndcaa.K
open Go Go.RowKit
set_option linter.unusedVariables false
set_option linter.unusedSimpArgs false
def Ev {α : Type} (f : Nat → Option α) (r : α) : Prop := ∃ K, ∀ k, K ≤ k → f k = some r
theorem Ev.p {α : Type} {r : α} : Ev (fun _ => some r) r := ⟨0, fun _ _ => rfl⟩
theorem Ev.c {α : Type} {o : Option α} {r : α} (h : o = some r) : Ev (fun _ => o) r := ⟨0, fun _ _ => h⟩
theorem Ev.b {α β : Type} {f : Nat → Option α} {g : Nat → α → Option β} {a : α} {r : β} (hf : Ev f a) (hg : Ev (fun k => g k a) r) : Ev (fun k => (f k).bind (g k)) r := by
  obtain ⟨K, h⟩ := hf; obtain ⟨L, h'⟩ := hg
  exact ⟨max K L, fun k hk => by show (f k).bind (g k) = some r; rw [h k (by omega)]; exact h' k (by omega)⟩
theorem Ev.t {α : Type} {p : Prop} [Decidable p] {f g : Nat → Option α} {r : α} (h : p) (hf : Ev f r) : Ev (fun k => if p then f k else g k) r := by
  obtain ⟨K, h'⟩ := hf
  exact ⟨K, fun k hk => by show (if p then f k else g k) = some r; rw [if_pos h]; exact h' k hk⟩
theorem Ev.e {α : Type} {p : Prop} [Decidable p] {f g : Nat → Option α} {r : α} (h : ¬ p) (hg : Ev g r) : Ev (fun k => if p then f k else g k) r := by
  obtain ⟨K, h'⟩ := hg
  exact ⟨K, fun k hk => by show (if p then f k else g k) = some r; rw [if_neg h]; exact h' k hk⟩
theorem Ev.i {α : Type} {p : Prop} [Decidable p] {f g : Nat → Option α} {r : α} (hf : p → Ev f r) (hg : ¬ p → Ev g r) : Ev (fun k => if p then f k else g k) r := by
  by_cases h : p
  · exact Ev.t h (hf h)
  · exact Ev.e h (hg h)
theorem Ev.s {α : Type} {L f : Nat → Option α} {r : α} (h : ∀ k, L (k + 1) = f k) (hf : Ev f r) : Ev L r := by
  obtain ⟨K, h'⟩ := hf
  refine ⟨K + 1, fun k hk => ?_⟩
  obtain ⟨m, rfl⟩ : ∃ m, k = m + 1 := ⟨k - 1, by omega⟩
  rw [h]; exact h' m (by omega)
theorem Ev.u {α : Type} {L f : Nat → Option α} {r : α} (h : ∀ k, L k = f k) (hf : Ev f r) : Ev L r := by
  obtain ⟨K, h'⟩ := hf
  exact ⟨K, fun k hk => by rw [h]; exact h' k hk⟩
theorem Ev.r {α : Type} {f : Nat → Option α} {r r' : α} (h : Ev f r) (e : r = r') : Ev f r' := e ▸ h
theorem Ev.ex {α : Type} {f : Nat → Option α} {r : α} (h : Ev f r) : ∃ k, f k = some r := by
  obtain ⟨K, h'⟩ := h
  exact ⟨K, h' K (Nat.le_refl _)⟩
theorem drop_nil' {α : Type} {l : List α} {i : Nat} (h : l.drop i = []) : l.length ≤ i := List.drop_eq_nil_iff.1 h
theorem drop_cons' {α : Type} {l : List α} {i : Nat} {x : α} {t : List α} (h : l.drop i = x :: t) : i < l.length ∧ l.drop (i + 1) = t ∧ (∀ d, l.getD i d = x) ∧ l.length = i + 1 + t.length := by
  have hl := congrArg List.length h
  rw [List.length_drop, List.length_cons] at hl
  refine ⟨by omega, ?_, fun d => ?_, by omega⟩
  · rw [← List.drop_drop, h]; rfl
  · have : l[i]? = some x := by rw [← List.head?_drop, h]; rfl
    rw [List.getD_eq_getElem?_getD, this]; rfl
theorem w64 {x : Int} (h0 : -9223372036854775808 ≤ x) (h1 : x ≤ 9223372036854775807) : wrap64 x = x := by unfold wrap64; omega
theorem w64s {i n : Nat} (h : i < n) (hn : n ≤ 9223372036854775807) : wrap64 ((i : Int) + 1) = ((i + 1 : Nat) : Int) := by rw [w64 (by omega) (by omega)]; rfl
theorem maxLen_eq : maxLen = 9223372036854775807 := rfl
theorem wf64 {n : Int} (h : (Lit.int .i64 n).wf = true) : (-9223372036854775808 : Int) ≤ n ∧ n ≤ 9223372036854775807 := by
  simp [Lit.wf, IntKind.min, IntKind.max, IntKind.signed, IntKind.bits] at h
  exact h
theorem ob {α β : Type} {o : Option α} {a : α} {f : α → Option β} (h : o = some a) : o.bind f = f a := by subst h; rfl

def inB (n a b : Int) : Bool := decide (a ≤ n ∧ n ≤ b)
theorem within_eq (n a b : Int) : impl_within.f n a b = some (inB n a b) := by
  unfold impl_within.f inB; split <;> simp <;> omega
theorem l1In_eq (n a b : Int) : spec_l1In.f n a b = some (inB n a b) := by
  unfold spec_l1In.f inB; split <;> simp <;> omega
def vRow (a b c : Int) : Bool := inB a 0 9 && inB b 0 99 && inB c 0 3
theorem impl_IsValidRow_eq (a b c : Int) : impl_IsValidRow.f a b c = some (vRow a b c) := by
  unfold impl_IsValidRow.f vRow
  rw [within_eq, within_eq, within_eq, ob rfl]
  cases inB a 0 9
  · simp
  · rw [if_pos rfl, ob rfl]; cases inB b 0 99 <;> simp
theorem spec_IsValidRow_eq (a b c : Int) : spec_IsValidRow.f a b c = some (vRow a b c) := by
  unfold spec_IsValidRow.f vRow
  rw [l1In_eq, l1In_eq, l1In_eq, ob rfl]
  cases inB a 0 9
  · simp
  · rw [if_pos rfl, ob rfl]; cases inB b 0 99 <;> simp
theorem rdR (l : List S62) (i : Nat) : rd_T62 l (i : Int) = l.getD i z62 := rfl
def vAll (l : List S62) : Bool := l.all fun x => vRow x.f0 x.f1 x.f2
theorem impl_allValid_l0 (l : List S62) (hl : l.length ≤ 1152921504606846975) : ∀ (s : List S62) (i : Nat), l.drop i = s → Ev (fun k => impl_allValid.l0 k (l.length : Int) (i : Int) l) (vAll s) := by
  intro s
  induction s with
  | nil =>
    intro i hd
    have := drop_nil' hd
    exact Ev.s (fun k => by rw [impl_allValid.l0]) (Ev.e (by omega) (Ev.p.r (by rfl)))
  | cons x t ih =>
    intro i hd
    obtain ⟨hi, hd', hx, -⟩ := drop_cons' hd
    refine Ev.s (fun k => by rw [impl_allValid.l0]) (Ev.t (by omega) (Ev.t (by omega) (Ev.t (by omega) ?_)))
    rw [rdR, hx]
    refine Ev.b (Ev.c (impl_IsValidRow_eq ..)) (Ev.i (fun h => ?_) (fun h => ?_))
    · rw [w64s hi (by omega)]
      exact (ih (i + 1) hd').r (by simp [vAll, h])
    · exact Ev.p.r (by simp [vAll, h])
theorem impl_allValid_ev (l : List S62) (hl : l.length ≤ 1152921504606846975) : Ev (fun k => impl_allValid.f k l) (vAll l) :=
  Ev.u (fun _ => rfl) (impl_allValid_l0 l hl l 0 rfl)
def vRows (l : List S62) : Bool := vAll l && decide (l.length ≤ 24)
theorem impl_AreValidRows_ev (l : List S62) (hl : l.length ≤ 1152921504606846975) : Ev (fun k => impl_AreValidRows.f k l) (vRows l) :=
  Ev.u (fun _ => rfl) (Ev.i (fun h => Ev.b (impl_allValid_ev l hl) (Ev.p.r (by simp [vRows]; omega))) (fun h => Ev.p.r (by simp [vRows]; omega)))
theorem spec_AreValidRows_l0 (l : List S62) (hl : l.length ≤ 1152921504606846975) : ∀ (s : List S62) (i : Nat), l.drop i = s → Ev (fun k => spec_AreValidRows.l0 k (i : Int) l) (vAll s && decide (l.length ≤ 24)) := by
  intro s
  induction s with
  | nil =>
    intro i hd
    have := drop_nil' hd
    exact Ev.s (fun k => by rw [spec_AreValidRows.l0]) (Ev.e (by omega) (Ev.p.r (by simp [vAll]; omega)))
  | cons x t ih =>
    intro i hd
    obtain ⟨hi, hd', hx, -⟩ := drop_cons' hd
    refine Ev.s (fun k => by rw [spec_AreValidRows.l0]) (Ev.t (by omega) (Ev.t (by omega) ?_))
    rw [rdR, hx]
    refine Ev.b (Ev.c (spec_IsValidRow_eq ..)) (Ev.i (fun h => ?_) (fun h => ?_))
    · rw [w64s hi (by omega)]
      exact (ih (i + 1) hd').r (by simp [vAll, h])
    · exact Ev.p.r (by simp [vAll, h])
theorem spec_AreValidRows_ev (l : List S62) (hl : l.length ≤ 1152921504606846975) : Ev (fun k => spec_AreValidRows.f k l) (vRows l) :=
  Ev.u (fun _ => rfl) (spec_AreValidRows_l0 l hl l 0 rfl)
theorem impl_clone_eq (l : List S62) (hl : l.length ≤ 5864062014805) : impl_clone.f l = some l := by
  unfold impl_clone.f; rw [if_pos hl]
def nKey (key : Int) (l : List S62) : Nat := l.countP fun x => x.f0 == key
theorem impl_CountMatches_l0 (l : List S62) (a b c : Int) (hl : l.length ≤ 1152921504606846975) : ∀ (s : List S62) (i n : Nat), l.drop i = s → n ≤ i → Ev (fun k => impl_CountMatches.l0 k (n : Int) (l.length : Int) (i : Int) a b c l) (((n + nKey a s : Nat)) : Int) := by
  intro s
  induction s with
  | nil =>
    intro i n hd hn
    have := drop_nil' hd
    exact Ev.s (fun k => by rw [impl_CountMatches.l0]) (Ev.e (by omega) (Ev.p.r (by simp [nKey])))
  | cons x t ih =>
    intro i n hd hn
    obtain ⟨hi, hd', hx, -⟩ := drop_cons' hd
    refine Ev.s (fun k => by rw [impl_CountMatches.l0]) (Ev.t (by omega) (Ev.t (by omega) (Ev.t (by omega) ?_)))
    rw [rdR, hx, w64s hi (by omega)]
    refine Ev.i (fun h => ?_) (fun h => ?_)
    · rw [w64s (show n < l.length by omega) (by omega)]
      exact (ih (i + 1) (n + 1) hd' (by omega)).r (by simp [nKey, List.countP_cons, h]; omega)
    · exact (ih (i + 1) n hd' (by omega)).r (by simp [nKey, List.countP_cons, h])
theorem impl_CountMatches_ev (l : List S62) (a b c : Int) (hl : l.length ≤ 1152921504606846975) : Ev (fun k => impl_CountMatches.f k a b c l) ((nKey a l : Nat) : Int) :=
  Ev.u (fun _ => rfl) ((impl_CountMatches_l0 l a b c hl l 0 0 rfl (by omega)).r (by simp))
theorem spec_CountMatches_l0 (l : List S62) (a b c : Int) (hl : l.length ≤ 1152921504606846975) : ∀ (s : List S62) (i n : Nat), l.drop i = s → n ≤ i → Ev (fun k => spec_CountMatches.l0 k (n : Int) (i : Int) a b c l) (((n + nKey a s : Nat)) : Int) := by
  intro s
  induction s with
  | nil =>
    intro i n hd hn
    have := drop_nil' hd
    exact Ev.s (fun k => by rw [spec_CountMatches.l0]) (Ev.e (by omega) (Ev.p.r (by simp [nKey])))
  | cons x t ih =>
    intro i n hd hn
    obtain ⟨hi, hd', hx, -⟩ := drop_cons' hd
    refine Ev.s (fun k => by rw [spec_CountMatches.l0]) (Ev.t (by omega) (Ev.t (by omega) ?_))
    rw [rdR, hx, w64s hi (by omega)]
    refine Ev.i (fun h => ?_) (fun h => ?_)
    · rw [w64s (show n < l.length by omega) (by omega)]
      exact (ih (i + 1) (n + 1) hd' (by omega)).r (by simp [nKey, List.countP_cons, h]; omega)
    · exact (ih (i + 1) n hd' (by omega)).r (by simp [nKey, List.countP_cons, h])
theorem spec_CountMatches_ev (l : List S62) (a b c : Int) (hl : l.length ≤ 1152921504606846975) : Ev (fun k => spec_CountMatches.f k a b c l) ((nKey a l : Nat) : Int) :=
  Ev.u (fun _ => rfl) ((spec_CountMatches_l0 l a b c hl l 0 0 rfl (by omega)).r (by simp))
def hBit (key level : Int) : Int := if inB level 0 3 && inB key 0 9 then andI (shrI (Int.tmod (key * 7) 16) level) 1 else 0
def hb (level : Int) (x : S62) : Bool := hBit x.f0 level == 0
theorem setP {α : Type} (pre : List α) (x y : α) (t : List α) : (pre ++ x :: t).set ((pre.length : Int)).toNat y = pre ++ y :: t := by
  rw [Int.toNat_natCast, List.set_append_right _ _ (Nat.le_refl _), Nat.sub_self]; rfl
theorem getP {α : Type} (pre : List α) (x d : α) (t : List α) : (pre ++ x :: t).getD ((pre.length : Int)).toNat d = x := by
  rw [Int.toNat_natCast, List.getD_eq_getElem?_getD, List.getElem?_append_right (Nat.le_refl _), Nat.sub_self]; rfl
theorem rdB (l : List Bool) (i : Nat) : rdOf false l (i : Int) = l.getD i false := rfl
theorem rdPRow (pre : List S62) (x : S62) (t : List S62) : rd_T62 (pre ++ x :: t) (pre.length : Int) = x := getP pre x z62 t
def mkRow : Int → List S62 → List S62
  | _, [] => []
  | k, _ :: l => ⟨k, k + 1, k + 1 + 1⟩ :: mkRow (k + 1 + 1 + 1) l
theorem mkRow_len : ∀ (k : Int) (l : List S62), (mkRow k l).length = l.length
  | _, [] => rfl
  | k, _ :: l => by rw [mkRow, List.length_cons, List.length_cons, mkRow_len]
theorem markRowS_l0 : ∀ (s pre : List S62) (k : Int), 0 ≤ k → k + 3 * s.length ≤ 4611686018427387904 → pre.length + s.length ≤ 4611686018427387904 → Ev (fun f => laws_markRowS.l0 f (pre ++ s) k (pre.length : Int)) (k + 3 * s.length, pre ++ mkRow k s) := by
  intro s
  induction s with
  | nil =>
    intro pre k h0 h1 h2
    exact Ev.s (fun f => by rw [laws_markRowS.l0]) (Ev.e (by simp) (Ev.p.r (by simp [mkRow])))
  | cons x t ih =>
    intro pre k h0 h1 h2
    rw [List.length_cons] at h1 h2
    refine Ev.s (fun f => by rw [laws_markRowS.l0]) (Ev.t (by simp; omega) (Ev.t (by omega) ?_))
    rw [w64 (x := k + 1) (by omega) (by omega)]
    rw [w64 (x := k + 1 + 1) (by omega) (by omega)]
    rw [w64 (x := k + 1 + 1 + 1) (by omega) (by omega)]
    rw [show wrap64 ((pre.length : Int) + 1) = ((pre.length + 1 : Nat) : Int) by rw [w64 (by omega) (by omega)]; rfl]
    refine Ev.b (Ev.c (congrArg some (setP pre _ _ t))) ?_
    refine Ev.t (by simp; omega) ?_
    simp only [rdPRow]
    refine Ev.b (Ev.c (congrArg some (setP pre _ _ t))) ?_
    refine Ev.t (by simp; omega) ?_
    simp only [rdPRow]
    refine Ev.b (Ev.c (congrArg some (setP pre _ _ t))) ?_
    have h := ih (pre ++ [(⟨k, k + 1, k + 1 + 1⟩ : S62)]) (k + 1 + 1 + 1) (by omega) (by omega) (by simp; omega)
    simp only [List.append_assoc, List.singleton_append, List.length_append, List.length_singleton] at h
    exact h.r (Prod.ext (by simp only [List.length_cons]; omega) rfl)
theorem markRowS_ev (l : List S62) (k : Int) (h0 : 0 ≤ k) (h1 : k + 3 * l.length ≤ 4611686018427387904) : Ev (fun f => laws_markRowS.f f l k) (k + 3 * l.length, mkRow k l) :=
  Ev.u (fun _ => rfl) (markRowS_l0 l [] k h0 h1 (by simp; omega))
theorem heldRowS_l0 (l : List S62) (hl : l.length ≤ 4611686018427387904) : ∀ (s : List S62) (i : Nat) (k : Int), l.drop i = mkRow k s → 0 ≤ k → k + 3 * s.length ≤ 4611686018427387904 → Ev (fun f => laws_heldRowS.l0 f k (i : Int) l) (k + 3 * s.length) := by
  intro s
  induction s with
  | nil =>
    intro i k hd h0 h1
    have := drop_nil' hd
    exact Ev.s (fun f => by rw [laws_heldRowS.l0]) (Ev.e (by omega) (Ev.p.r (by simp)))
  | cons x t ih =>
    intro i k hd h0 h1
    rw [List.length_cons] at h1
    rw [mkRow] at hd
    obtain ⟨hi, hd', hx, -⟩ := drop_cons' hd
    refine Ev.s (fun f => by rw [laws_heldRowS.l0]) (Ev.t (by omega) (Ev.t (by omega) ?_))
    rw [w64 (x := k + 1) (by omega) (by omega)]
    rw [w64 (x := k + 1 + 1) (by omega) (by omega)]
    rw [w64 (x := k + 1 + 1 + 1) (by omega) (by omega)]
    rw [rdR, hx, w64s hi (by omega)]
    exact Ev.t rfl (Ev.t rfl (Ev.t rfl ((ih (i + 1) (k + 1 + 1 + 1) hd' (by omega) (by omega)).r (by simp only [List.length_cons]; omega))))
theorem heldRowS_ev (l : List S62) (k : Int) (h0 : 0 ≤ k) (h1 : k + 3 * l.length ≤ 4611686018427387904) : Ev (fun f => laws_heldRowS.f f (mkRow k l) k) (k + 3 * l.length) :=
  Ev.u (fun _ => rfl) (heldRowS_l0 _ (by rw [mkRow_len]; omega) l 0 k rfl h0 h1)
theorem eqRow_refl (x : S62) : laws_eqRow.f x.f0 x.f1 x.f2 x.f0 x.f1 x.f2 = some true := by
  unfold laws_eqRow.f; simp
theorem eqRowS_l0 (l : List S62) (hl : l.length ≤ 4611686018427387904) : ∀ (s : List S62) (i : Nat), l.drop i = s → Ev (fun f => laws_eqRowS.l0 f (i : Int) l l) true := by
  intro s
  induction s with
  | nil =>
    intro i hd
    have := drop_nil' hd
    exact Ev.s (fun f => by rw [laws_eqRowS.l0]) (Ev.e (by omega) (Ev.p.r (by rfl)))
  | cons x t ih =>
    intro i hd
    obtain ⟨hi, hd', hx, -⟩ := drop_cons' hd
    refine Ev.s (fun f => by rw [laws_eqRowS.l0]) (Ev.t (by omega) (Ev.t (by omega) (Ev.t (by omega) ?_)))
    rw [rdR, hx, w64s hi (by omega)]
    exact Ev.b (Ev.c (eqRow_refl _)) <| Ev.t rfl (ih (i + 1) hd')
theorem eqRowS_ev (l : List S62) (hl : l.length ≤ 4611686018427387904) : Ev (fun f => laws_eqRowS.f f l l) true :=
  Ev.u (fun _ => rfl) (Ev.t rfl (eqRowS_l0 l hl l 0 rfl))
theorem rdLRow (l : List S64) (i : Nat) : rd_T64 l (i : Int) = l.getD i z64 := rfl
def cvRow (x : S64) : S62 := ⟨x.f0, x.f1, x.f2⟩
theorem toRow_eq (x : S64) : laws_toRow.f x.f0 x.f1 x.f2 = some (x.f0, x.f1, x.f2) := by unfold laws_toRow.f; rfl
theorem toRowS_l0 (l : List S64) (hl : l.length ≤ 4611686018427387904) : ∀ (s : List S64) (r pre : List S62), l.drop pre.length = s → r.length = s.length → Ev (fun f => laws_toRowS.l0 f (pre ++ r) (pre.length : Int) l) (pre ++ s.map cvRow) := by
  intro s
  induction s with
  | nil =>
    intro r pre hd hr
    have := drop_nil' hd
    have : r = [] := List.eq_nil_of_length_eq_zero hr
    subst this
    exact Ev.s (fun f => by rw [laws_toRowS.l0]) (Ev.e (by omega) (Ev.p.r (by simp)))
  | cons x t ih =>
    intro r pre hd hr
    obtain ⟨hi, hd', hx, -⟩ := drop_cons' hd
    cases r with
    | nil => simp at hr
    | cons y r =>
      refine Ev.s (fun f => by rw [laws_toRowS.l0]) (Ev.t (by omega) (Ev.t (by omega) ?_))
      rw [rdLRow, hx, w64s hi (by omega)]
      refine Ev.b (Ev.c (toRow_eq x)) (Ev.t (by simp; omega) (Ev.b (Ev.c (congrArg some (setP pre _ _ r))) ?_))
      have h := ih r (pre ++ [cvRow x]) (by rw [List.length_append, List.length_singleton]; exact hd') (by simpa using hr)
      simp only [List.append_assoc, List.singleton_append, List.length_append, List.length_singleton] at h
      exact h.r (by simp)
theorem toRowS_ev (l : List S64) (hl : l.length ≤ 1048576) : Ev (fun f => laws_toRowS.f f l) (l.map cvRow) := by
  refine Ev.u (fun _ => rfl) (Ev.t (by omega) (Ev.t (by simp; omega) ?_))
  have h := toRowS_l0 l (by omega) l (List.replicate l.length z62) [] rfl (by simp)
  simpa using h
theorem szRowS_neg (l : List S64) (n : Int) (h0 : 0 ≤ n) (h1 : n ≤ 1048576) (hl : l.length ≤ maxLen) (h : n - l.length < 0) : laws_szRowS.f l n = some (-1) := by
  have hl' : l.length ≤ 9223372036854775807 := hl
  unfold laws_szRowS.f
  rw [w64 (by omega) (by omega), if_pos h]
theorem szRowS_pos (l : List S64) (n : Int) (h0 : 0 ≤ n) (h1 : n ≤ 1048576) (h : ¬ n - l.length < 0) : laws_szRowS.f l n = some (n - l.length) := by
  unfold laws_szRowS.f
  rw [w64 (by omega) (by omega), if_neg h]
def mkBool : Int → List Bool → List Bool
  | _, [] => []
  | k, _ :: l => decide (Int.tmod (k) 3 = 0) :: mkBool (k + 1) l
theorem mkBool_len : ∀ (k : Int) (l : List Bool), (mkBool k l).length = l.length
  | _, [] => rfl
  | k, _ :: l => by rw [mkBool, List.length_cons, List.length_cons, mkBool_len]
theorem markBoolS_l0 : ∀ (s pre : List Bool) (k : Int), 0 ≤ k → k + 1 * s.length ≤ 4611686018427387904 → pre.length + s.length ≤ 4611686018427387904 → Ev (fun f => laws_markBoolS.l0 f (pre ++ s) k (pre.length : Int)) (k + 1 * s.length, pre ++ mkBool k s) := by
  intro s
  induction s with
  | nil =>
    intro pre k h0 h1 h2
    exact Ev.s (fun f => by rw [laws_markBoolS.l0]) (Ev.e (by simp) (Ev.p.r (by simp [mkBool])))
  | cons x t ih =>
    intro pre k h0 h1 h2
    rw [List.length_cons] at h1 h2
    refine Ev.s (fun f => by rw [laws_markBoolS.l0]) (Ev.t (by simp; omega) (Ev.t (by omega) ?_))
    rw [w64 (x := k + 1) (by omega) (by omega)]
    rw [show wrap64 ((pre.length : Int) + 1) = ((pre.length + 1 : Nat) : Int) by rw [w64 (by omega) (by omega)]; rfl]
    rw [setP]
    have h := ih (pre ++ [(decide (Int.tmod (k) 3 = 0) : Bool)]) (k + 1) (by omega) (by omega) (by simp; omega)
    simp only [List.append_assoc, List.singleton_append, List.length_append, List.length_singleton] at h
    exact h.r (Prod.ext (by simp only [List.length_cons]; omega) rfl)
theorem markBoolS_ev (l : List Bool) (k : Int) (h0 : 0 ≤ k) (h1 : k + 1 * l.length ≤ 4611686018427387904) : Ev (fun f => laws_markBoolS.f f l k) (k + 1 * l.length, mkBool k l) :=
  Ev.u (fun _ => rfl) (markBoolS_l0 l [] k h0 h1 (by simp; omega))
theorem heldBoolS_l0 (l : List Bool) (hl : l.length ≤ 4611686018427387904) : ∀ (s : List Bool) (i : Nat) (k : Int), l.drop i = mkBool k s → 0 ≤ k → k + 1 * s.length ≤ 4611686018427387904 → Ev (fun f => laws_heldBoolS.l0 f k (i : Int) l) (k + 1 * s.length) := by
  intro s
  induction s with
  | nil =>
    intro i k hd h0 h1
    have := drop_nil' hd
    exact Ev.s (fun f => by rw [laws_heldBoolS.l0]) (Ev.e (by omega) (Ev.p.r (by simp)))
  | cons x t ih =>
    intro i k hd h0 h1
    rw [List.length_cons] at h1
    rw [mkBool] at hd
    obtain ⟨hi, hd', hx, -⟩ := drop_cons' hd
    refine Ev.s (fun f => by rw [laws_heldBoolS.l0]) (Ev.t (by omega) (Ev.t (by omega) ?_))
    rw [w64 (x := k + 1) (by omega) (by omega)]
    rw [rdB, hx, w64s hi (by omega)]
    exact Ev.t (by simp) ((ih (i + 1) (k + 1) hd' (by omega) (by omega)).r (by simp only [List.length_cons]; omega))
theorem heldBoolS_ev (l : List Bool) (k : Int) (h0 : 0 ≤ k) (h1 : k + 1 * l.length ≤ 4611686018427387904) : Ev (fun f => laws_heldBoolS.f f (mkBool k l) k) (k + 1 * l.length) :=
  Ev.u (fun _ => rfl) (heldBoolS_l0 _ (by rw [mkBool_len]; omega) l 0 k rfl h0 h1)
theorem eqBoolS_l0 (l : List Bool) (hl : l.length ≤ 4611686018427387904) : ∀ (s : List Bool) (i : Nat), l.drop i = s → Ev (fun f => laws_eqBoolS.l0 f (i : Int) l l) true := by
  intro s
  induction s with
  | nil =>
    intro i hd
    have := drop_nil' hd
    exact Ev.s (fun f => by rw [laws_eqBoolS.l0]) (Ev.e (by omega) (Ev.p.r (by rfl)))
  | cons x t ih =>
    intro i hd
    obtain ⟨hi, hd', hx, -⟩ := drop_cons' hd
    refine Ev.s (fun f => by rw [laws_eqBoolS.l0]) (Ev.t (by omega) (Ev.t (by omega) (Ev.t (by omega) ?_)))
    rw [rdB, hx, w64s hi (by omega)]
    exact Ev.t (by simp) (ih (i + 1) hd')
theorem eqBoolS_ev (l : List Bool) (hl : l.length ≤ 4611686018427387904) : Ev (fun f => laws_eqBoolS.f f l l) true :=
  Ev.u (fun _ => rfl) (Ev.t rfl (eqBoolS_l0 l hl l 0 rfl))
theorem toBoolS_l0 (l : List Bool) (hl : l.length ≤ 4611686018427387904) : ∀ (s : List Bool) (r pre : List Bool), l.drop pre.length = s → r.length = s.length → Ev (fun f => laws_toBoolS.l0 f (pre ++ r) (pre.length : Int) l) (pre ++ s.map id) := by
  intro s
  induction s with
  | nil =>
    intro r pre hd hr
    have := drop_nil' hd
    have : r = [] := List.eq_nil_of_length_eq_zero hr
    subst this
    exact Ev.s (fun f => by rw [laws_toBoolS.l0]) (Ev.e (by omega) (Ev.p.r (by simp)))
  | cons x t ih =>
    intro r pre hd hr
    obtain ⟨hi, hd', hx, -⟩ := drop_cons' hd
    cases r with
    | nil => simp at hr
    | cons y r =>
      refine Ev.s (fun f => by rw [laws_toBoolS.l0]) (Ev.t (by omega) (Ev.t (by omega) ?_))
      rw [rdB, hx, w64s hi (by omega)]
      refine Ev.t (by simp; omega) ?_
      rw [setP]
      have h := ih r (pre ++ [id x]) (by rw [List.length_append, List.length_singleton]; exact hd') (by simpa using hr)
      simp only [List.append_assoc, List.singleton_append, List.length_append, List.length_singleton] at h
      exact h.r (by simp)
theorem toBoolS_ev (l : List Bool) (hl : l.length ≤ 1048576) : Ev (fun f => laws_toBoolS.f f l) (l) := by
  refine Ev.u (fun _ => rfl) (Ev.t (by omega) (Ev.t (by simp; omega) ?_))
  have h := toBoolS_l0 l (by omega) l (List.replicate l.length false) [] rfl (by simp)
  simpa using h
theorem szBoolS_neg (l : List Bool) (n : Int) (h0 : 0 ≤ n) (h1 : n ≤ 1048576) (hl : l.length ≤ maxLen) (h : n - l.length < 0) : laws_szBoolS.f l n = some (-1) := by
  have hl' : l.length ≤ 9223372036854775807 := hl
  unfold laws_szBoolS.f
  rw [w64 (by omega) (by omega), if_pos h]
theorem szBoolS_pos (l : List Bool) (n : Int) (h0 : 0 ≤ n) (h1 : n ≤ 1048576) (h : ¬ n - l.length < 0) : laws_szBoolS.f l n = some (n - l.length) := by
  unfold laws_szBoolS.f
  rw [w64 (by omega) (by omega), if_neg h]
theorem rdPair (l : List S75) (i : Nat) : rd_T75 l (i : Int) = l.getD i z75 := rfl
theorem rdPPair (pre : List S75) (x : S75) (t : List S75) : rd_T75 (pre ++ x :: t) (pre.length : Int) = x := getP pre x z75 t
def mkPair : Int → List S75 → List S75
  | _, [] => []
  | k, _ :: l => ⟨⟨k, k + 1, k + 1 + 1⟩, ⟨k + 1 + 1 + 1, k + 1 + 1 + 1 + 1, k + 1 + 1 + 1 + 1 + 1⟩, decide (Int.tmod (k + 1 + 1 + 1 + 1 + 1 + 1) 3 = 0)⟩ :: mkPair (k + 1 + 1 + 1 + 1 + 1 + 1 + 1) l
theorem mkPair_len : ∀ (k : Int) (l : List S75), (mkPair k l).length = l.length
  | _, [] => rfl
  | k, _ :: l => by rw [mkPair, List.length_cons, List.length_cons, mkPair_len]
theorem markPairS_l0 : ∀ (s pre : List S75) (k : Int), 0 ≤ k → k + 7 * s.length ≤ 4611686018427387904 → pre.length + s.length ≤ 4611686018427387904 → Ev (fun f => laws_markPairS.l0 f (pre ++ s) k (pre.length : Int)) (k + 7 * s.length, pre ++ mkPair k s) := by
  intro s
  induction s with
  | nil =>
    intro pre k h0 h1 h2
    exact Ev.s (fun f => by rw [laws_markPairS.l0]) (Ev.e (by simp) (Ev.p.r (by simp [mkPair])))
  | cons x t ih =>
    intro pre k h0 h1 h2
    rw [List.length_cons] at h1 h2
    refine Ev.s (fun f => by rw [laws_markPairS.l0]) (Ev.t (by simp; omega) (Ev.t (by omega) ?_))
    rw [w64 (x := k + 1) (by omega) (by omega)]
    rw [w64 (x := k + 1 + 1) (by omega) (by omega)]
    rw [w64 (x := k + 1 + 1 + 1) (by omega) (by omega)]
    rw [w64 (x := k + 1 + 1 + 1 + 1) (by omega) (by omega)]
    rw [w64 (x := k + 1 + 1 + 1 + 1 + 1) (by omega) (by omega)]
    rw [w64 (x := k + 1 + 1 + 1 + 1 + 1 + 1) (by omega) (by omega)]
    rw [w64 (x := k + 1 + 1 + 1 + 1 + 1 + 1 + 1) (by omega) (by omega)]
    rw [show wrap64 ((pre.length : Int) + 1) = ((pre.length + 1 : Nat) : Int) by rw [w64 (by omega) (by omega)]; rfl]
    refine Ev.b (Ev.c (congrArg some (setP pre _ _ t))) ?_
    refine Ev.t (by simp; omega) ?_
    simp only [rdPPair]
    refine Ev.b (Ev.c (congrArg some (setP pre _ _ t))) ?_
    refine Ev.t (by simp; omega) ?_
    simp only [rdPPair]
    refine Ev.b (Ev.c (congrArg some (setP pre _ _ t))) ?_
    refine Ev.t (by simp; omega) ?_
    simp only [rdPPair]
    refine Ev.b (Ev.c (congrArg some (setP pre _ _ t))) ?_
    refine Ev.t (by simp; omega) ?_
    simp only [rdPPair]
    refine Ev.b (Ev.c (congrArg some (setP pre _ _ t))) ?_
    refine Ev.t (by simp; omega) ?_
    simp only [rdPPair]
    refine Ev.b (Ev.c (congrArg some (setP pre _ _ t))) ?_
    refine Ev.t (by simp; omega) ?_
    simp only [rdPPair]
    refine Ev.b (Ev.c (congrArg some (setP pre _ _ t))) ?_
    have h := ih (pre ++ [(⟨⟨k, k + 1, k + 1 + 1⟩, ⟨k + 1 + 1 + 1, k + 1 + 1 + 1 + 1, k + 1 + 1 + 1 + 1 + 1⟩, decide (Int.tmod (k + 1 + 1 + 1 + 1 + 1 + 1) 3 = 0)⟩ : S75)]) (k + 1 + 1 + 1 + 1 + 1 + 1 + 1) (by omega) (by omega) (by simp; omega)
    simp only [List.append_assoc, List.singleton_append, List.length_append, List.length_singleton] at h
    exact h.r (Prod.ext (by simp only [List.length_cons]; omega) rfl)
theorem markPairS_ev (l : List S75) (k : Int) (h0 : 0 ≤ k) (h1 : k + 7 * l.length ≤ 4611686018427387904) : Ev (fun f => laws_markPairS.f f l k) (k + 7 * l.length, mkPair k l) :=
  Ev.u (fun _ => rfl) (markPairS_l0 l [] k h0 h1 (by simp; omega))
theorem heldPairS_l0 (l : List S75) (hl : l.length ≤ 4611686018427387904) : ∀ (s : List S75) (i : Nat) (k : Int), l.drop i = mkPair k s → 0 ≤ k → k + 7 * s.length ≤ 4611686018427387904 → Ev (fun f => laws_heldPairS.l0 f k (i : Int) l) (k + 7 * s.length) := by
  intro s
  induction s with
  | nil =>
    intro i k hd h0 h1
    have := drop_nil' hd
    exact Ev.s (fun f => by rw [laws_heldPairS.l0]) (Ev.e (by omega) (Ev.p.r (by simp)))
  | cons x t ih =>
    intro i k hd h0 h1
    rw [List.length_cons] at h1
    rw [mkPair] at hd
    obtain ⟨hi, hd', hx, -⟩ := drop_cons' hd
    refine Ev.s (fun f => by rw [laws_heldPairS.l0]) (Ev.t (by omega) (Ev.t (by omega) ?_))
    rw [w64 (x := k + 1) (by omega) (by omega)]
    rw [w64 (x := k + 1 + 1) (by omega) (by omega)]
    rw [w64 (x := k + 1 + 1 + 1) (by omega) (by omega)]
    rw [w64 (x := k + 1 + 1 + 1 + 1) (by omega) (by omega)]
    rw [w64 (x := k + 1 + 1 + 1 + 1 + 1) (by omega) (by omega)]
    rw [w64 (x := k + 1 + 1 + 1 + 1 + 1 + 1) (by omega) (by omega)]
    rw [w64 (x := k + 1 + 1 + 1 + 1 + 1 + 1 + 1) (by omega) (by omega)]
    rw [rdPair, hx, w64s hi (by omega)]
    exact Ev.t rfl (Ev.t rfl (Ev.t rfl (Ev.t rfl (Ev.t rfl (Ev.t rfl (Ev.t (by simp) ((ih (i + 1) (k + 1 + 1 + 1 + 1 + 1 + 1 + 1) hd' (by omega) (by omega)).r (by simp only [List.length_cons]; omega))))))))
theorem heldPairS_ev (l : List S75) (k : Int) (h0 : 0 ≤ k) (h1 : k + 7 * l.length ≤ 4611686018427387904) : Ev (fun f => laws_heldPairS.f f (mkPair k l) k) (k + 7 * l.length) :=
  Ev.u (fun _ => rfl) (heldPairS_l0 _ (by rw [mkPair_len]; omega) l 0 k rfl h0 h1)
theorem eqPair_refl (x : S75) : laws_eqPair.f x.f0.f0 x.f0.f1 x.f0.f2 x.f1.f0 x.f1.f1 x.f1.f2 x.f2 x.f0.f0 x.f0.f1 x.f0.f2 x.f1.f0 x.f1.f1 x.f1.f2 x.f2 = some true := by
  unfold laws_eqPair.f; simp [laws_eqRow.f]
theorem eqPairS_l0 (l : List S75) (hl : l.length ≤ 4611686018427387904) : ∀ (s : List S75) (i : Nat), l.drop i = s → Ev (fun f => laws_eqPairS.l0 f (i : Int) l l) true := by
  intro s
  induction s with
  | nil =>
    intro i hd
    have := drop_nil' hd
    exact Ev.s (fun f => by rw [laws_eqPairS.l0]) (Ev.e (by omega) (Ev.p.r (by rfl)))
  | cons x t ih =>
    intro i hd
    obtain ⟨hi, hd', hx, -⟩ := drop_cons' hd
    refine Ev.s (fun f => by rw [laws_eqPairS.l0]) (Ev.t (by omega) (Ev.t (by omega) (Ev.t (by omega) ?_)))
    rw [rdPair, hx, w64s hi (by omega)]
    exact Ev.b (Ev.c (eqPair_refl _)) <| Ev.t rfl (ih (i + 1) hd')
theorem eqPairS_ev (l : List S75) (hl : l.length ≤ 4611686018427387904) : Ev (fun f => laws_eqPairS.f f l l) true :=
  Ev.u (fun _ => rfl) (Ev.t rfl (eqPairS_l0 l hl l 0 rfl))
def cvTask (x : S33) : S37 := ⟨x.f0, x.f1.map cvRow, x.f2.map cvRow, x.f3, x.f4⟩
theorem toTask_ev (x : S33) (h1 : x.f1.length ≤ 1048576) (h2 : x.f2.length ≤ 1048576) (h3 : x.f3.length ≤ 1048576) : Ev (fun k => laws_toTask.f k x.f0 x.f1 x.f2 x.f3 x.f4) ((cvTask x).f0, (cvTask x).f1, (cvTask x).f2, (cvTask x).f3, (cvTask x).f4) :=
  Ev.u (fun _ => rfl) (Ev.b (toRowS_ev _ h1) (Ev.b (toRowS_ev _ h2) (Ev.b (toBoolS_ev _ h3) Ev.p)))
theorem szTask_c (x : S33) (n : Int) (h0 : 0 ≤ n) (h1 : n ≤ 1048576) (g1 : x.f1.length ≤ maxLen) (g2 : x.f2.length ≤ maxLen) (g3 : x.f3.length ≤ maxLen) :
    (∃ r, r < 0 ∧ laws_szTask.f x.f0 x.f1 x.f2 x.f3 x.f4 n = some r) ∨ ((x.f1.length : Int) + x.f2.length + x.f3.length ≤ n ∧ laws_szTask.f x.f0 x.f1 x.f2 x.f3 x.f4 n = some (n - x.f1.length - x.f2.length - x.f3.length)) := by
  unfold laws_szTask.f
  by_cases c1 : n - x.f1.length < 0
  · exact .inl ⟨-1, by omega, by rw [szRowS_neg _ _ h0 h1 g1 c1, ob rfl, if_pos (by omega)]⟩
  · rw [szRowS_pos _ _ h0 h1 c1, ob rfl, if_neg c1]
    by_cases c2 : n - x.f1.length - x.f2.length < 0
    · exact .inl ⟨-1, by omega, by rw [szRowS_neg _ _ (by omega) (by omega) g2 c2, ob rfl, if_pos (by omega)]⟩
    · rw [szRowS_pos _ _ (by omega) (by omega) c2, ob rfl, if_neg c2]
      by_cases c3 : n - x.f1.length - x.f2.length - x.f3.length < 0
      · exact .inl ⟨-1, by omega, by rw [szBoolS_neg _ _ (by omega) (by omega) g3 c3, ob rfl, if_pos (by omega)]⟩
      · exact .inr ⟨by omega, by rw [szBoolS_pos _ _ (by omega) (by omega) c3, ob rfl, if_neg c3]⟩
def tsz (t : S37) : Nat := t.f1.length + t.f2.length + t.f3.length
theorem eqTask_ev (t : S37) (h : tsz t ≤ 4611686018427387904) : Ev (fun k => laws_eqTask.f k t.f0 t.f1 t.f2 t.f3 t.f4 t.f0 t.f1 t.f2 t.f3 t.f4) true := by
  unfold tsz at h
  exact Ev.u (fun _ => rfl) (Ev.t rfl (Ev.b (eqRowS_ev _ (by omega)) (Ev.t rfl (Ev.b (eqRowS_ev _ (by omega)) (Ev.t rfl (Ev.b (eqBoolS_ev _ (by omega)) (Ev.t rfl (Ev.t rfl Ev.p))))))))
/-- A task, marked from k on (its numbers stand). -/
def mkTask (k : Int) (t : S37) : S37 := ⟨t.f0, mkRow k t.f1, mkRow (k + 3 * t.f1.length) t.f2, mkBool (k + 3 * t.f1.length + 3 * t.f2.length) t.f3, t.f4⟩
def nTask (t : S37) : Int := 3 * t.f1.length + 3 * t.f2.length + t.f3.length
theorem markTask_ev (t : S37) (k : Int) (h0 : 0 ≤ k) (h1 : k + nTask t ≤ 4611686018427387904) : Ev (fun f => laws_markTask.f f t.f0 t.f1 t.f2 t.f3 t.f4 k) (k + nTask t, (mkTask k t).f1, (mkTask k t).f2, (mkTask k t).f3) := by
  unfold nTask at h1 ⊢
  exact Ev.u (fun _ => rfl) (Ev.b (markRowS_ev _ k h0 (by omega)) (Ev.b (markRowS_ev _ (k + 3 * t.f1.length) (by omega) (by omega)) (Ev.b (markBoolS_ev _ (k + 3 * t.f1.length + 3 * t.f2.length) (by omega) (by omega)) (Ev.p.r (Prod.ext (by show _ = _; simp only []; omega) rfl)))))
theorem heldTask_ev (t : S37) (k : Int) (h0 : 0 ≤ k) (h1 : k + nTask t ≤ 4611686018427387904) : Ev (fun f => laws_heldTask.f f t.f0 (mkTask k t).f1 (mkTask k t).f2 (mkTask k t).f3 t.f4 k) (k + nTask t) := by
  unfold nTask at h1 ⊢
  exact Ev.u (fun _ => rfl) (Ev.b (heldRowS_ev _ k h0 (by omega)) (Ev.e (by omega) (Ev.b (heldRowS_ev _ (k + 3 * t.f1.length) (by omega) (by omega)) (Ev.e (by omega) (Ev.b (heldBoolS_ev _ (k + 3 * t.f1.length + 3 * t.f2.length) (by omega) (by omega)) (Ev.e (by omega) (Ev.p.r (by omega))))))))
theorem impl_IsValidJoinKind_eq (a : Int) : impl_IsValidJoinKind.f a = some (inB a 1 4) := by unfold impl_IsValidJoinKind.f; rw [within_eq]; rfl
theorem spec_IsValidJoinKind_eq (a : Int) : spec_IsValidJoinKind.f a = some (inB a 1 4) := by unfold spec_IsValidJoinKind.f; rw [l1In_eq]; rfl
def vTask (t : S37) : Bool := inB t.f0 1 4 && (vRows t.f1 && (vRows t.f2 && (decide (t.f3.length = t.f1.length) && inB t.f4 0 4)))
theorem impl_IsValidTask_ev (t : S37) (h : tsz t ≤ 1152921504606846975) : Ev (fun k => impl_IsValidTask.f k t.f0 t.f1 t.f2 t.f3 t.f4) (vTask t) := by
  unfold tsz at h
  refine Ev.u (fun _ => rfl) (Ev.b (Ev.c (impl_IsValidJoinKind_eq _)) (Ev.i (fun a => Ev.b (impl_AreValidRows_ev _ (by omega)) (Ev.i (fun b => Ev.b (impl_AreValidRows_ev _ (by omega)) (Ev.i (fun c => Ev.i (fun d => Ev.b (Ev.c (within_eq _ _ _)) (Ev.p.r ?_)) (fun d => Ev.p.r ?_)) (fun c => Ev.p.r ?_))) (fun b => Ev.p.r ?_))) (fun a => Ev.p.r ?_)))
  · have : t.f3.length = t.f1.length := by omega
    simp [vTask, a, b, c, this]
  · have : ¬ t.f3.length = t.f1.length := by omega
    simp [vTask, a, b, c, this]
  · simp [vTask, a, b, c]
  · simp [vTask, a, b]
  · simp [vTask, a]
theorem spec_IsValidTask_ev (t : S37) (h : tsz t ≤ 1152921504606846975) : Ev (fun k => spec_IsValidTask.f k t.f0 t.f1 t.f2 t.f3 t.f4) (vTask t) := by
  unfold tsz at h
  refine Ev.u (fun _ => rfl) (Ev.b (Ev.c (spec_IsValidJoinKind_eq _)) (Ev.i (fun a => Ev.b (spec_AreValidRows_ev _ (by omega)) (Ev.i (fun b => Ev.b (spec_AreValidRows_ev _ (by omega)) (Ev.i (fun c => Ev.i (fun d => Ev.b (Ev.c (l1In_eq _ _ _)) (Ev.p.r ?_)) (fun d => Ev.p.r ?_)) (fun c => Ev.p.r ?_))) (fun b => Ev.p.r ?_))) (fun a => Ev.p.r ?_)))
  · have : t.f3.length = t.f1.length := by omega
    simp [vTask, a, b, c, this]
  · have : ¬ t.f3.length = t.f1.length := by omega
    simp [vTask, a, b, c, this]
  · simp [vTask, a, b, c]
  · simp [vTask, a, b]
  · simp [vTask, a]
theorem vRows_len {l : List S62} (h : vRows l = true) : l.length ≤ 24 := by
  unfold vRows at h; rw [Bool.and_eq_true] at h; exact of_decide_eq_true h.2
structure VT (t : S37) : Prop where
  kind : 1 ≤ t.f0 ∧ t.f0 ≤ 4
  left : vRows t.f1 = true
  right : vRows t.f2 = true
  len : t.f3.length = t.f1.length
  level : 0 ≤ t.f4 ∧ t.f4 ≤ 4
theorem vTask_iff {t : S37} : vTask t = true ↔ VT t := by
  unfold vTask
  constructor
  · intro h; simp [inB] at h; exact ⟨h.1, h.2.1, h.2.2.1, h.2.2.2.1, h.2.2.2.2⟩
  · intro h; simp [inB]; exact ⟨h.kind, h.left, h.right, h.len, h.level⟩
theorem VT.b {t : S37} (h : VT t) : t.f1.length ≤ 24 ∧ t.f2.length ≤ 24 ∧ t.f3.length ≤ 24 := ⟨vRows_len h.left, vRows_len h.right, by rw [h.len]; exact vRows_len h.left⟩
def zl (t : S37) : List (S62 × Bool) := t.f1.zip t.f3
theorem part_zip {l : List S62} {m : List Bool} {i : Nat} {x : S62} {s : List S62} (hm : m.length = l.length) (hd : l.drop i = x :: s) : ∃ b u, m.drop i = b :: u ∧ (l.zip m).drop i = (x, b) :: (l.zip m).drop (i + 1) := by
  obtain ⟨hi, hd', hx, -⟩ := drop_cons' hd
  have hmi : i < m.length := by omega
  refine ⟨m[i], m.drop (i + 1), (List.drop_eq_getElem_cons hmi), ?_⟩
  have hz : i < (l.zip m).length := by rw [List.length_zip]; omega
  rw [List.drop_eq_getElem_cons hz, List.getElem_zip]
  have := hx z62
  rw [List.getD_eq_getElem?_getD, List.getElem?_eq_getElem hi] at this
  simp at this
  rw [this]
theorem rdBool (l : List Bool) (i : Nat) {b : Bool} {u : List Bool} (h : l.drop i = b :: u) : rdOf false l (i : Int) = b := by
  rw [rdB]; exact (drop_cons' h).2.2.1 _
theorem VT.p {t : S37} (h : VT t) : tsz t ≤ 72 := by have := h.b; unfold tsz; omega
def jc (kind : Int) (c : List S62) (p : S62 × Bool) : List S75 :=
  if nKey p.1.f0 c = 0 then [] else if kind = 2 then (if p.2 = true then [] else [⟨p.1, ⟨0, 0, 0⟩, false⟩]) else if kind = 1 ∨ kind = 4 then (c.filter fun r => r.f0 == p.1.f0).map fun r => ⟨p.1, r, true⟩ else []
def jm (c : List S62) (p : S62 × Bool) : Bool := p.2 || decide (nKey p.1.f0 c ≠ 0)
theorem jc_len (kind : Int) (c : List S62) (p : S62 × Bool) : (jc kind c p).length ≤ c.length + 1 := by
  unfold jc
  split
  · simp
  · split
    · split <;> simp
    · split
      · rw [List.length_map]; have := List.length_filter_le (fun r : S62 => r.f0 == p.1.f0) c; omega
      · simp
theorem setM (a : List Bool) (b : Bool) (u : List Bool) {i : Nat} (h : a.length = i) : (a ++ b :: u).set ((i : Int)).toNat true = a ++ true :: u := by subst h; exact setP a b true u
theorem impl_JoinChunk_l1 (c : List S62) (hc : c.length ≤ 1099511627776) (i n i' : Int) (L : List S62) (g0 g4 : Int) (g1 g2 : List S62) (g3 : List Bool) (y0 y4 : Int) (y1 y2 : List S62) (y3 : List Bool) (x : S62) (r : List S75 × Int × List S62 × List S62 × List Bool × Int) :
    ∀ (s : List S62) (q : Nat) (P : List S75), c.drop q = s → P.length + s.length ≤ 2199023255552 →
    Ev (fun k => impl_JoinChunk.j0 k (P ++ (s.filter fun r => r.f0 == x.f0).map fun r => ⟨x, r, true⟩) i L n i' g0 g1 g2 g3 g4 y0 y1 y2 y3 y4 c) r →
    Ev (fun k => impl_JoinChunk.l1 k P i L n i' (c.length : Int) (q : Int) g0 g1 g2 g3 g4 y0 y1 y2 y3 y4 x.f0 x.f1 x.f2 c) r := by
  intro s
  induction s with
  | nil =>
    intro q P hd hP hj
    have := drop_nil' hd
    refine Ev.s (fun k => by rw [impl_JoinChunk.l1]) (Ev.e (by omega) ?_)
    simpa using hj
  | cons z s ih =>
    intro q P hd hP hj
    rw [List.length_cons] at hP
    obtain ⟨hi, hd', hx, -⟩ := drop_cons' hd
    refine Ev.s (fun k => by rw [impl_JoinChunk.l1]) (Ev.t (by omega) (Ev.t (by omega) (Ev.t (by omega) ?_)))
    rw [rdR, hx, w64s hi (by omega)]
    refine Ev.i (fun h => Ev.t (by omega) (ih (q + 1) _ hd' (by simp; omega) ?_)) (fun h => ih (q + 1) _ hd' (by omega) ?_)
    · rw [List.filter_cons_of_pos (by simp [h])] at hj; simpa using hj
    · rw [List.filter_cons_of_neg (by simp [h])] at hj; simpa using hj
theorem impl_JoinChunk_l0 (t : S37) (c : List S62) (hl : t.f3.length = t.f1.length) (hb : t.f1.length ≤ 24) (hc : c.length ≤ 2097152) (g0 g4 : Int) (g1 g2 : List S62) (g3 : List Bool) : ∀ (s : List S62) (i : Nat) (P : List S75) (a : List Bool), t.f1.drop i = s → a.length = i → P.length + s.length * (c.length + 1) ≤ 1099511627776 →
    Ev (fun k => impl_JoinChunk.l0 k P t.f1 (t.f1.length : Int) (i : Int) g0 g1 g2 g3 g4 t.f0 t.f1 t.f2 (a ++ t.f3.drop i) t.f4 c)
      (P ++ ((zl t).drop i).flatMap (jc t.f0 c), t.f0, t.f1, t.f2, a ++ ((zl t).drop i).map (jm c), t.f4) := by
  intro s
  induction s with
  | nil =>
    intro i P a hd ha hP
    have := drop_nil' hd
    have hz : (zl t).drop i = [] := List.drop_eq_nil_iff.2 (by rw [zl, List.length_zip]; omega)
    have hz3 : t.f3.drop i = [] := List.drop_eq_nil_iff.2 (by omega)
    refine Ev.s (fun k => by rw [impl_JoinChunk.l0]) (Ev.e (by omega) (Ev.p.r ?_))
    rw [hz, hz3]; simp
  | cons x s ih =>
    intro i P a hd ha hP
    obtain ⟨hi, hd', hx, -⟩ := drop_cons' hd
    obtain ⟨b, u, hb1, hz⟩ := part_zip hl hd
    have hz' : (zl t).drop i = (x, b) :: (zl t).drop (i + 1) := hz
    have hu : u = t.f3.drop (i + 1) := (drop_cons' hb1).2.1.symm
    rw [List.length_cons, Nat.succ_mul] at hP
    have hjl := jc_len t.f0 c (x, b)
    have hrd : rdOf false (a ++ t.f3.drop i) (i : Int) = b := by rw [hb1, rdB]; subst ha; exact getP a b false u
    -- what comes behind
    have nxt : ∀ (P' : List S75), P' = P ++ jc t.f0 c (x, b) → nKey x.f0 c ≠ 0 → ∀ i' : Int, i' = (i : Int) →
        Ev (fun k => impl_JoinChunk.j0 k P' i' t.f1 (t.f1.length : Int) i' g0 g1 g2 g3 g4 t.f0 t.f1 t.f2 (a ++ t.f3.drop i) t.f4 c) (P ++ ((zl t).drop i).flatMap (jc t.f0 c), t.f0, t.f1, t.f2, a ++ ((zl t).drop i).map (jm c), t.f4) := by
      intro P' hP' hn i' hi'
      subst hP' hi'
      refine Ev.s (fun k => by rw [impl_JoinChunk.j0]) (Ev.t (by omega) (Ev.t (by rw [hb1]; simp; omega) ?_))
      rw [hb1, setM a b u ha, w64s hi (by omega)]
      have h := ih (i + 1) (P ++ jc t.f0 c (x, b)) (a ++ [true]) hd' (by simp [ha]) (by rw [List.length_append]; omega)
      simp only [List.append_assoc, List.singleton_append, ← hu] at h
      refine h.r ?_
      rw [hz', List.flatMap_cons, List.map_cons, show jm c (x, b) = true by simp [jm, hn]]
    refine Ev.s (fun k => by rw [impl_JoinChunk.l0]) (Ev.t (by omega) (Ev.t (by omega) (Ev.t (by omega) ?_)))
    rw [rdR, hx]
    refine Ev.b (impl_CountMatches_ev c _ _ _ (by omega)) (Ev.i (fun h => ?_) (fun h => ?_))
    · have hn : nKey x.f0 c = 0 := by omega
      rw [w64s hi (by omega)]
      have h := ih (i + 1) P (a ++ [b]) hd' (by simp [ha]) (by omega)
      simp only [List.append_assoc, List.singleton_append] at h
      rw [hb1, hu]
      refine h.r ?_
      rw [hz', List.flatMap_cons, List.map_cons, show jm c (x, b) = b by simp [jm, hn], show jc t.f0 c (x, b) = [] by simp [jc, hn], List.nil_append]
    · have hn : nKey x.f0 c ≠ 0 := by omega
      refine Ev.i (fun h2 => Ev.t (by rw [List.length_append, hb1]; simp; omega) ?_) (fun h2 => ?_)
      · rw [hrd]
        refine Ev.i (fun h3 => nxt _ (by simp [jc, hn, h2, h3]) hn _ rfl) (fun h3 => Ev.t (by omega) (nxt _ (by simp [jc, hn, h2, h3]) hn _ rfl))
      · refine Ev.i (fun h3 => ?_) (fun h3 => ?_)
        · rw [show decide (t.f0 = 1) = true by simp [h3]]
          refine Ev.s (fun k => by rw [impl_JoinChunk.j1]) (Ev.t rfl ?_)
          exact impl_JoinChunk_l1 c (by omega) _ _ _ _ _ _ _ _ _ _ _ _ _ _ x _ c 0 P rfl (by omega) (nxt _ (by simp [jc, hn, h3]) hn _ rfl)
        · refine Ev.s (fun k => by rw [impl_JoinChunk.j1]) (Ev.i (fun h4 => ?_) (fun h4 => ?_))
          · have h4' : t.f0 = 4 := by simpa using h4
            exact impl_JoinChunk_l1 c (by omega) _ _ _ _ _ _ _ _ _ _ _ _ _ _ x _ c 0 P rfl (by omega) (nxt _ (by simp [jc, hn, h4']) hn _ rfl)
          · have h4' : ¬ t.f0 = 4 := by simpa using h4
            exact nxt _ (by simp [jc, hn, h2, h3, h4']) hn _ rfl
def jP (t : S37) (c : List S62) : List S75 := if vTask t = true then (zl t).flatMap (jc t.f0 c) else []
def jT (t : S37) (c : List S62) : S37 := if vTask t = true then { t with f3 := (zl t).map (jm c) } else t
abbrev ptup (p : List S75) (t : S37) : List S75 × Int × List S62 × List S62 × List Bool × Int := (p, t.f0, t.f1, t.f2, t.f3, t.f4)
theorem impl_cloneTask_eq (t : S37) (h : tsz t ≤ 1099511627776) : impl_cloneTask.f t.f0 t.f1 t.f2 t.f3 t.f4 = some (t.f0, t.f1, t.f2, t.f3, t.f4) := by
  unfold tsz at h
  unfold impl_cloneTask.f
  rw [if_pos (by omega), impl_clone_eq _ (by omega), impl_clone_eq _ (by omega)]; rfl
theorem spec_l16Copy_eq (t : S37) (h : tsz t ≤ 1099511627776) : spec_l16Copy.f t.f0 t.f1 t.f2 t.f3 t.f4 = some (t.f0, t.f1, t.f2, t.f3, t.f4) := by
  unfold tsz at h
  unfold spec_l16Copy.f
  rw [if_pos (by omega), if_pos (by omega), if_pos (by omega)]
theorem impl_JoinChunk_ev (t : S37) (c : List S62) (ht : tsz t ≤ 1099511627776) (hc : c.length ≤ 2097152) : Ev (fun k => impl_JoinChunk.f k t.f0 t.f1 t.f2 t.f3 t.f4 c) (ptup (jP t c) (jT t c)) := by
  refine Ev.u (fun _ => rfl) (Ev.b (Ev.c (impl_cloneTask_eq t ht)) (Ev.b (impl_IsValidTask_ev t (by omega)) (Ev.i (fun h => ?_) (fun h => Ev.p.r ?_))))
  · have hv := vTask_iff.1 h
    have hb := hv.b
    have hm : 24 * (c.length + 1) ≤ 1099511627776 := by omega
    have := impl_JoinChunk_l0 t c hv.len hb.1 hc 0 0 [] [] [] t.f1 0 [] [] rfl rfl (by
      have := Nat.mul_le_mul_right (c.length + 1) hb.1
      simp only [List.length_nil]; omega)
    refine this.r ?_
    simp [ptup, jP, jT, h]
  · simp [ptup, jP, jT, h]
theorem spec_l7One_l0 (c : List S62) (hc : c.length ≤ 1099511627776) (n : Int) (hn : n ≠ 0) (x : S62) : ∀ (s : List S62) (q : Nat) (P : List S75), c.drop q = s → P.length + s.length ≤ 2199023255552 →
    Ev (fun k => spec_l7One.l0 k 1 P n (q : Int) x.f0 x.f1 x.f2 c) (P ++ (s.filter fun r => r.f0 == x.f0).map fun r => ⟨x, r, true⟩) := by
  intro s
  induction s with
  | nil =>
    intro q P hd hP
    have := drop_nil' hd
    exact Ev.s (fun k => by rw [spec_l7One.l0]) (Ev.e (by omega) (Ev.e hn (Ev.p.r (by simp))))
  | cons z s ih =>
    intro q P hd hP
    rw [List.length_cons] at hP
    obtain ⟨hi, hd', hx, -⟩ := drop_cons' hd
    refine Ev.s (fun k => by rw [spec_l7One.l0]) (Ev.t (by omega) (Ev.t (by omega) ?_))
    rw [rdR, hx, w64s hi (by omega)]
    refine Ev.i (fun h => Ev.t (by omega) ((ih (q + 1) _ hd' (by simp; omega)).r ?_)) (fun h => (ih (q + 1) _ hd' (by omega)).r ?_)
    · rw [List.filter_cons_of_pos (by simp [h])]; simp
    · rw [List.filter_cons_of_neg (by simp [h])]
theorem spec_l7One_1 (c : List S62) (hc : c.length ≤ 1099511627776) (x : S62) (hn : nKey x.f0 c ≠ 0) : Ev (fun k => spec_l7One.f k 1 x.f0 x.f1 x.f2 c) ((c.filter fun r => r.f0 == x.f0).map fun r => ⟨x, r, true⟩) :=
  Ev.u (fun _ => rfl) (Ev.b (spec_CountMatches_ev c _ _ _ (by omega)) (Ev.e (by omega) (Ev.e (by omega) (spec_l7One_l0 c hc _ (by omega) x c 0 [] rfl (by simp; omega)))))
theorem spec_JoinChunk_l0 (t : S37) (c : List S62) (hv : vTask t = true) (hc : c.length ≤ 2097152) (g0 g4 : Int) (g1 g2 : List S62) (g3 : List Bool) : ∀ (s : List S62) (i : Nat) (P : List S75) (a : List Bool), t.f1.drop i = s → a.length = i → P.length + s.length * (c.length + 1) ≤ 1099511627776 →
    Ev (fun k => spec_JoinChunk.l0 k P (i : Int) t.f0 t.f4 g0 g1 g2 g3 g4 t.f0 t.f1 t.f2 (a ++ t.f3.drop i) t.f4 c t.f1 t.f2 t.f3)
      (P ++ ((zl t).drop i).flatMap (jc t.f0 c), t.f0, t.f1, t.f2, a ++ ((zl t).drop i).map (jm c), t.f4) := by
  have hV := vTask_iff.1 hv
  have hb := hV.b
  have hl := hV.len
  intro s
  induction s with
  | nil =>
    intro i P a hd ha hP
    have := drop_nil' hd
    have hz : (zl t).drop i = [] := List.drop_eq_nil_iff.2 (by rw [zl, List.length_zip]; omega)
    have hz3 : t.f3.drop i = [] := List.drop_eq_nil_iff.2 (by omega)
    refine Ev.s (fun k => by rw [spec_JoinChunk.l0]) (Ev.e (by omega) (Ev.s (fun k => by rw [spec_JoinChunk.j0]) (Ev.p.r ?_)))
    rw [hz, hz3]; simp
  | cons x s ih =>
    intro i P a hd ha hP
    obtain ⟨hi, hd', hx, -⟩ := drop_cons' hd
    obtain ⟨b, u, hb1, hz⟩ := part_zip hl hd
    have hz' : (zl t).drop i = (x, b) :: (zl t).drop (i + 1) := hz
    have hu : u = t.f3.drop (i + 1) := (drop_cons' hb1).2.1.symm
    rw [List.length_cons, Nat.succ_mul] at hP
    have hjl := jc_len t.f0 c (x, b)
    have nxt : ∀ (P' : List S75) (q0 q1 : Int) (bb : Bool), P' = P ++ jc t.f0 c (x, b) → nKey x.f0 c ≠ 0 →
        Ev (fun k => spec_JoinChunk.j1 k P' (i : Int) q0 q1 bb t.f0 t.f4 g0 g1 g2 g3 g4 t.f0 t.f1 t.f2 (a ++ t.f3.drop i) t.f4 c t.f1 t.f2 t.f3) (P ++ ((zl t).drop i).flatMap (jc t.f0 c), t.f0, t.f1, t.f2, a ++ ((zl t).drop i).map (jm c), t.f4) := by
      intro P' q0 q1 bb hP' hn
      subst hP'
      refine Ev.s (fun k => by rw [spec_JoinChunk.j1]) (Ev.t (by omega) (Ev.t (by rw [hb1]; simp; omega) ?_))
      rw [hb1, setM a b u ha, w64s hi (by omega)]
      have h := ih (i + 1) (P ++ jc t.f0 c (x, b)) (a ++ [true]) hd' (by simp [ha]) (by rw [List.length_append]; omega)
      simp only [List.append_assoc, List.singleton_append, ← hu] at h
      refine h.r ?_
      rw [hz', List.flatMap_cons, List.map_cons, show jm c (x, b) = true by simp [jm, hn]]
    have hfl : ((c.filter fun r => r.f0 == x.f0).map fun r => (⟨x, r, true⟩ : S75)).length ≤ c.length := by rw [List.length_map]; exact List.length_filter_le _ _
    have hval := (spec_IsValidTask_ev t (by have := hV.p; omega)).r hv
    refine Ev.s (fun k => by rw [spec_JoinChunk.l0]) ?_
    refine Ev.t (by omega) (Ev.b hval (Ev.t rfl (Ev.t (by omega) ?_)))
    rw [rdR, hx]
    refine Ev.b (spec_CountMatches_ev c _ _ _ (by omega)) (Ev.i (fun h => ?_) (fun h => ?_))
    · have hn : nKey x.f0 c = 0 := by omega
      rw [w64s hi (by omega)]
      have h := ih (i + 1) P (a ++ [b]) hd' (by simp [ha]) (by omega)
      simp only [List.append_assoc, List.singleton_append] at h
      rw [hb1, hu]
      refine h.r ?_
      rw [hz', List.flatMap_cons, List.map_cons, show jm c (x, b) = b by simp [jm, hn], show jc t.f0 c (x, b) = [] by simp [jc, hn], List.nil_append]
    · have hn : nKey x.f0 c ≠ 0 := by omega
      refine Ev.i (fun h2 => Ev.t (by omega) ?_) (fun h2 => ?_)
      · rw [rdBool _ _ hb1]
        refine Ev.i (fun h3 => nxt _ _ _ _ (by simp [jc, hn, h2, h3]) hn) (fun h3 => Ev.t (by omega) (nxt _ _ _ _ (by simp [jc, hn, h2, h3]) hn))
      · refine Ev.i (fun h3 => ?_) (fun h3 => ?_)
        · refine Ev.s (fun k => by rw [spec_JoinChunk.j2]) (Ev.t (by simp [h3]) (Ev.t (by omega) (Ev.t (by omega) ?_)))
          rw [rdR, hx]
          exact Ev.b (spec_l7One_1 c (by omega) x hn) (Ev.t (by omega) (nxt _ _ _ _ (by simp [jc, hn, h3]) hn))
        · refine Ev.s (fun k => by rw [spec_JoinChunk.j2]) (Ev.i (fun h4 => Ev.t (by omega) (Ev.t (by omega) ?_)) (fun h4 => ?_))
          · have h4' : t.f0 = 4 := by simpa using h4
            rw [rdR, hx]
            exact Ev.b (spec_l7One_1 c (by omega) x hn) (Ev.t (by omega) (nxt _ _ _ _ (by simp [jc, hn, h4']) hn))
          · have h4' : ¬ t.f0 = 4 := by simpa using h4
            exact nxt _ _ _ _ (by simp [jc, hn, h2, h3, h4']) hn
theorem spec_JoinChunk_ev (t : S37) (c : List S62) (ht : tsz t ≤ 1099511627776) (hc : c.length ≤ 2097152) : Ev (fun k => spec_JoinChunk.f k t.f0 t.f1 t.f2 t.f3 t.f4 c) (ptup (jP t c) (jT t c)) := by
  refine Ev.u (fun _ => rfl) (Ev.b (Ev.c (spec_l16Copy_eq t ht)) ?_)
  by_cases h : vTask t = true
  · have hb := (vTask_iff.1 h).b
    have := spec_JoinChunk_l0 t c h hc 0 0 [] [] [] t.f1 0 [] [] rfl rfl (by
      have := Nat.mul_le_mul_right (c.length + 1) hb.1
      simp only [List.length_nil]; omega)
    refine this.r ?_
    simp [ptup, jP, jT, h]
  · have hr : ptup (jP t c) (jT t c) = ([], t.f0, t.f1, t.f2, t.f3, t.f4) := by simp [ptup, jP, jT, h]
    rw [hr]
    refine Ev.s (fun k => by rw [spec_JoinChunk.l0]) ?_
    refine Ev.i (fun _ => Ev.b (spec_IsValidTask_ev t (by omega)) (Ev.e h ?_)) (fun _ => ?_)
    · refine Ev.s (fun k => by rw [spec_JoinChunk.j0]) Ev.p
    · refine Ev.s (fun k => by rw [spec_JoinChunk.j0]) Ev.p
theorem jT_sz (t : S37) (c : List S62) : tsz (jT t c) ≤ tsz t ∧ nTask (jT t c) ≤ nTask t ∧ 0 ≤ nTask (jT t c) := by
  unfold jT
  split
  · have : ((zl t).map (jm c)).length ≤ t.f3.length := by rw [List.length_map, zl, List.length_zip]; omega
    unfold tsz nTask
    simp only
    omega
  · unfold nTask; exact ⟨Nat.le_refl _, by omega, by omega⟩
theorem flatMap_len {α β : Type} (f : α → List β) (n : Nat) (h : ∀ x, (f x).length ≤ n) : ∀ l : List α, (l.flatMap f).length ≤ l.length * n
  | [] => by simp
  | x :: l => by rw [List.flatMap_cons, List.length_append, List.length_cons, Nat.succ_mul]; have := h x; have := flatMap_len f n h l; omega
theorem jP_len (t : S37) (c : List S62) : (jP t c).length ≤ 24 * (c.length + 1) := by
  unfold jP
  split
  · rename_i h
    have := flatMap_len (jc t.f0 c) (c.length + 1) (jc_len t.f0 c) (zl t)
    have hz : (zl t).length ≤ 24 := by rw [zl, List.length_zip]; have := (vTask_iff.1 h).b; omega
    exact Nat.le_trans this (Nat.mul_le_mul_right _ hz)
  · simp

theorem pure_FnExactJoinChunk (x0 : S33) (l1 : List S64) (G0 : good33 x0) (G1 : (l1.length ≤ maxLen ∧ ∀ y ∈ l1, good64 y)) : ∃ k, laws_FnExactJoinChunk.f k x0.f0 x0.f1 x0.f2 x0.f3 x0.f4 l1 = some true := by
  obtain ⟨-, ⟨g1, -⟩, ⟨g2, -⟩, ⟨g3, -⟩, -⟩ := G0
  have gc := G1.1
  refine Ev.ex ?_
  rcases szTask_c x0 1048576 (by omega) (by omega) g1 g2 g3 with ⟨r, h1, h2⟩ | ⟨h1, h2⟩
  · exact Ev.u (fun _ => rfl) (Ev.b (Ev.c h2) (Ev.t h1 Ev.p))
  · refine Ev.u (fun _ => rfl) (Ev.b (Ev.c h2) (Ev.e (by omega) ?_))
    by_cases hs : (1048576 - (x0.f1.length : Int) - x0.f2.length - x0.f3.length) - l1.length < 0
    · exact Ev.b (Ev.c (szRowS_neg l1 _ (by omega) (by omega) gc hs)) (Ev.t (by omega) Ev.p)
    · refine Ev.b (Ev.c (szRowS_pos l1 _ (by omega) (by omega) hs)) (Ev.e hs ?_)
      have hto := toTask_ev x0 (by omega) (by omega) (by omega)
      have htc := toRowS_ev l1 (by omega)
      have ht : tsz (cvTask x0) ≤ 1048576 := by simp [tsz, cvTask]; omega
      have hn : nTask (cvTask x0) ≤ 4194304 := by simp [nTask, cvTask]; omega
      have hn0 : 0 ≤ nTask (cvTask x0) := by simp [nTask, cvTask]; omega
      have hcl : (l1.map cvRow).length ≤ 1048576 := by rw [List.length_map]; omega
      have es := spec_JoinChunk_ev (cvTask x0) (l1.map cvRow) (by omega) (by omega)
      have ei := impl_JoinChunk_ev (cvTask x0) (l1.map cvRow) (by omega) (by omega)
      obtain ⟨z1, z2, z3⟩ := jT_sz (cvTask x0) (l1.map cvRow)
      have zp := jP_len (cvTask x0) (l1.map cvRow)
      generalize jT (cvTask x0) (l1.map cvRow) = T at *
      generalize jP (cvTask x0) (l1.map cvRow) = Q at *
      generalize cvTask x0 = X at *
      generalize l1.map cvRow = C at *
      have qp := eqPairS_ev Q (by omega)
      have qt := eqTask_ev T (by omega)
      have qx := eqTask_ev X (by omega)
      have qc := eqRowS_ev C (by omega)
      have mX := markTask_ev X 1 (by omega) (by omega)
      have mC := markRowS_ev C (1 + nTask X) (by omega) (by omega)
      have mQ := markPairS_ev Q 1 (by omega) (by omega)
      have mT := markTask_ev T (1 + 7 * Q.length) (by omega) (by omega)
      have dQ := heldPairS_ev Q 1 (by omega) (by omega)
      have dT := heldTask_ev T (1 + 7 * Q.length) (by omega) (by omega)
      refine Ev.b hto (Ev.b htc (Ev.b es (Ev.b hto (Ev.b htc (Ev.b ei (Ev.b qp (Ev.t rfl (Ev.b qt (Ev.t rfl ?_)))))))))
      refine Ev.b hto (Ev.b qx (Ev.t rfl (Ev.b htc (Ev.b qc (Ev.t rfl (Ev.b mX (Ev.b mC (Ev.e (by simp only []; omega) ?_))))))))
      refine Ev.b qp (Ev.t rfl (Ev.b qt (Ev.t rfl (Ev.b mQ (Ev.b mT (Ev.b dQ (Ev.e (by omega) (Ev.b dT (Ev.e (by omega) (Ev.t rfl ?_))))))))))
      refine Ev.b hto (Ev.b htc (Ev.b ei (Ev.b qp (Ev.t rfl (Ev.b qt (Ev.t rfl ?_))))))
      exact Ev.b dQ (Ev.e (by omega) (Ev.b dT (Ev.e (by omega) (Ev.t rfl Ev.p))))

end Go.Proofs.Ythciieopabndcaa.K
namespace Go.Proofs.Ythciieopabndcaa.fnExactJoinChunk
open Go Go.ChangeShapes Go.WideShapes Go.ChangeAt Go.RowKit Go.Proofs.Ythciieopabndcaa.K
open Go.ChangeMaps (open_string shut_string)
set_option linter.unusedVariables false
theorem own : ownKnob Try.prog.godebug = none := by kernel_rfl
theorem laidOut : laidOutB Try.prog = true := by kernel_rfl
set_option maxRecDepth 100000 in
theorem lifted (os : Os) (started : os.Started) (H : Type) (enc : TypeId × Value → H) :
    ReturnsInHanded {} Try.checked os 14 .any (Rows.fnExactJoinChunkSpec.pre6 enc Try.prog Try.f14 Rows.fnExactJoinChunkRow.domain false) (Rows.fnExactJoinChunkSpec.post enc Try.prog Try.f14 false true false false) := by
  refine returnsInHanded_of_change_sized (C := Try.checked) own started (by kernel_rfl) Try.func14
    (ChangeSpec.witness6 (enc := enc) (C := Try.checked) false ⟨#[], #[.agg #[.int .i64 0, .slice none 0 0, .slice none 0 0, .slice none 0 0, .int .i64 0], .slice none 0 0], []⟩ 8 (by kernel_rfl) (by kernel_rfl) (by kernel_rfl) (by kernel_rfl)) ?_
  intro W base args ds gs before hval0 hW hcnd hsz0 _
  have hsz : (DataW.weightsEach Try.prog (Try.f14.params.toList ++ Rows.fnExactJoinChunkSpec.plain.varTypes Try.prog) (ds ++ gs)).all (· ≤ reachBytes) = true := hsz0
  have hval : ∀ (j : Nat) t v, Try.f14.params[j]? = some t → args[j]? = some v → Value.okWide Try.prog W .any base t v := hval0
  have hW' := hW
  obtain ⟨p, q, hA0, hV, rfl, hfz, hnd⟩ := hW
  have hA : DataW.TrodAll enc Try.prog W 0 (fun _ => true) true Try.f14.params.toList args.toList ds p := hA0
  rw [Try.params14] at hA hval hsz
  obtain ⟨v0, vs0, d0, ds0, p0, q0, hargs, rfl, rfl, h0, r0⟩ := trodAll_cons hA
  obtain ⟨v1, vs1, d1, ds1, p1, q1, rfl, rfl, rfl, h1, r1⟩ := trodAll_cons r0
  obtain ⟨rfl, rfl, rfl⟩ := trodAll_nil r1
  obtain rfl : args = #[v0, v1] := by cases args; simp_all
  obtain ⟨rfl, rfl⟩ := trodVars_none hV
  have k0 := h0
  have lt0 : ∀ x ∈ p0, x.block < W.heap.size := by obtain ⟨m, hm⟩ := k0; exact DataW.trod_lt m _ _ _ hm
  obtain ⟨cs0, rfl, _⟩ := Go.WideShapes.okWide_struct Try.underlying33 (hval 0 33 v0 rfl rfl)
  obtain ⟨x0, hs0, hl0, hc0, F0, G0⟩ := open_arg open33 h0
  obtain ⟨A0_1, c0_1, A0_2, c0_2, A0_3, c0_3, rfl⟩ := K.hs3 hl0
  obtain rfl : cs0 = #[.int .i64 x0.f0, .slice A0_1 x0.f1.length c0_1, .slice A0_2 x0.f2.length c0_2, .slice A0_3 x0.f3.length c0_3, .int .i64 x0.f4] := Array.toList_inj.1 hc0
  have k1 := h1
  have lt1 : ∀ x ∈ p1, x.block < W.heap.size := by obtain ⟨m, hm⟩ := k1; exact DataW.trod_lt m _ _ _ hm
  obtain ⟨A1, len1, c1, rfl⟩ := okWide_slice Try.underlying22 (hval 1 22 v1 rfl rfl)
  obtain ⟨l1, rfl, F1, G1⟩ := slice_arg (opens_slice Try.underlying22 (by kernel_rfl) (by kernel_rfl) open64) h1
  clear hA0 hval0 hsz0 hsz
  obtain ⟨k, hk⟩ := K.pure_FnExactJoinChunk x0 l1 G0 G1
  refine (law_calls (laws_FnExactJoinChunk.ok k x0.f0 x0.f1 A0_1 c0_1 x0.f2 A0_2 c0_2 x0.f3 A0_3 c0_3 x0.f4 l1 A1 c1 true hk) (facts_app F0 (facts_app F1 facts_nil))).mono fun e W' he => ?_
  obtain ⟨rfl, bel⟩ := he
  exact ⟨_, rfl, _, _, _, [], _, [], hW', trodAll_mk1 (shut_bool Try.underlying4 _), (trodAll_cons_mk (Below.trod laidOut (by kernel_rfl) (of_decide_eq_true (by kernel_rfl)) k0 bel lt0) (trodAll_cons_mk (Below.trod laidOut (by kernel_rfl) (of_decide_eq_true (by kernel_rfl)) k1 bel lt1) trodAll_mk0)), rfl, bel.frame _, fun h => by cases h⟩
theorem over : Rows.fnExactJoinChunkRow.holds Try.pinned (OpenSpec.ofChange Rows.fnExactJoinChunkSpec) :=
  OpenClaim.holds_of_wide 14 Try.f14 rfl rfl rfl rfl rfl rfl rfl ⟨rfl, rfl, rfl, rfl, rfl⟩ rfl rfl rfl rfl rfl (by kernel_rfl) Try.func14 (by kernel_rfl)
    (of_decide_eq_true (by kernel_rfl)) (by unfold Func.isWrapper; first | (rw [if_pos (by decide +kernel)]; kernel_rfl) | (rw [if_neg (by decide +kernel)]; exact ⟨rfl, rfl⟩))
    (fun os started H enc _ => lifted os started H enc)
theorem proved : Rows.FnExactJoinChunkSaid := over
#print axioms proved
end Go.Proofs.Ythciieopabndcaa.fnExactJoinChunk
namespace Go.Proofs.Ythciieopabndcaa
/-- The row, under a short name, for the claim. -/
theorem fnExactJoinChunk_holds : Rows.FnExactJoinChunkSaid := fnExactJoinChunk.proved
end Go.Proofs.Ythciieopabndcaa
