/- FnExactBlockNestedLoopJoin answers true at every input. -/
import Derived.Below
import Derived.Carry
import Derived.ChangeOld
import Derived.OpenShut
import Derived.ProofKit
import Derived.ShutString
import Derived.SizedLaws
import Derived.Test.YthciieopabndcaaChecked
import Derived.Test.YthciieopabndcaaRows
import Derived.WalkKit
import Derived.Test.YthciieopabndcaaVFnExactBlockNestedLoopJoinb
namespace Go.Proofs.Ythciieopabndcaa.K
open Go Go.RowKit
set_option linter.unusedVariables false
set_option linter.unusedSimpArgs false
def Ev {α : Type} (f : Nat → Option α) (r : α) : Prop := ∃ K, ∀ k, K ≤ k → f k = some r
theorem Ev.p {α : Type} {r : α} : Ev (fun _ => some r) r := ⟨0, fun _ _ => rfl⟩
theorem Ev.c {α : Type} {o : Option α} {r : α} (h : o = some r) : Ev (fun _ => o) r := ⟨0, fun _ _ => h⟩
theorem Ev.b {α β : Type} {f : Nat → Option α} {g : Nat → α → Option β} {a : α} {r : β} (hf : Ev f a) (hg : Ev (fun k => g k a) r) : Ev (fun k => (f k).bind (g k)) r := by
  obtain ⟨K, h⟩ := hf; obtain ⟨L, h'⟩ := hg
  exact ⟨max K L, fun k hk => by show (f k).bind (g k) = some r; rw [h k (by omega)]; exact h' k (by omega)⟩
theorem Ev.t {α : Type} {p : Prop} [Decidable p] {f g : Nat → Option α} {r : α} (h : p) (hf : Ev f r) : Ev (fun k => if p then f k else g k) r := by
  obtain ⟨K, h'⟩ := hf
  exact ⟨K, fun k hk => by show (if p then f k else g k) = some r; rw [if_pos h]; exact h' k hk⟩
theorem Ev.e {α : Type} {p : Prop} [Decidable p] {f g : Nat → Option α} {r : α} (h : ¬ p) (hg : Ev g r) : Ev (fun k => if p then f k else g k) r := by
  obtain ⟨K, h'⟩ := hg
  exact ⟨K, fun k hk => by show (if p then f k else g k) = some r; rw [if_neg h]; exact h' k hk⟩
theorem Ev.i {α : Type} {p : Prop} [Decidable p] {f g : Nat → Option α} {r : α} (hf : p → Ev f r) (hg : ¬ p → Ev g r) : Ev (fun k => if p then f k else g k) r := by
  by_cases h : p
  · exact Ev.t h (hf h)
  · exact Ev.e h (hg h)
theorem Ev.s {α : Type} {L f : Nat → Option α} {r : α} (h : ∀ k, L (k + 1) = f k) (hf : Ev f r) : Ev L r := by
  obtain ⟨K, h'⟩ := hf
  refine ⟨K + 1, fun k hk => ?_⟩
  obtain ⟨m, rfl⟩ : ∃ m, k = m + 1 := ⟨k - 1, by omega⟩
  rw [h]; exact h' m (by omega)
theorem Ev.u {α : Type} {L f : Nat → Option α} {r : α} (h : ∀ k, L k = f k) (hf : Ev f r) : Ev L r := by
  obtain ⟨K, h'⟩ := hf
  exact ⟨K, fun k hk => by rw [h]; exact h' k hk⟩
theorem Ev.r {α : Type} {f : Nat → Option α} {r r' : α} (h : Ev f r) (e : r = r') : Ev f r' := e ▸ h
theorem Ev.r' {α : Type} {f g : Nat → Option α} {r r' : α} (h : Ev f r) (e1 : ∀ k, f k = g k) (e : r = r') : Ev g r' := by
  subst e; obtain ⟨K, h'⟩ := h
  exact ⟨K, fun k hk => by rw [← e1]; exact h' k hk⟩
theorem Ev.ex {α : Type} {f : Nat → Option α} {r : α} (h : Ev f r) : ∃ k, f k = some r := by
  obtain ⟨K, h'⟩ := h
  exact ⟨K, h' K (Nat.le_refl _)⟩
theorem drop_nil' {α : Type} {l : List α} {i : Nat} (h : l.drop i = []) : l.length ≤ i := List.drop_eq_nil_iff.1 h
theorem drop_cons' {α : Type} {l : List α} {i : Nat} {x : α} {t : List α} (h : l.drop i = x :: t) : i < l.length ∧ l.drop (i + 1) = t ∧ (∀ d, l.getD i d = x) ∧ l.length = i + 1 + t.length := by
  have hl := congrArg List.length h
  rw [List.length_drop, List.length_cons] at hl
  refine ⟨by omega, ?_, fun d => ?_, by omega⟩
  · rw [← List.drop_drop, h]; rfl
  · have : l[i]? = some x := by rw [← List.head?_drop, h]; rfl
    rw [List.getD_eq_getElem?_getD, this]; rfl
theorem w64 {x : Int} (h0 : -9223372036854775808 ≤ x) (h1 : x ≤ 9223372036854775807) : wrap64 x = x := by unfold wrap64; omega
theorem w64s {i n : Nat} (h : i < n) (hn : n ≤ 9223372036854775807) : wrap64 ((i : Int) + 1) = ((i + 1 : Nat) : Int) := by rw [w64 (by omega) (by omega)]; rfl
theorem maxLen_eq : maxLen = 9223372036854775807 := rfl
theorem wf64 {n : Int} (h : (Lit.int .i64 n).wf = true) : (-9223372036854775808 : Int) ≤ n ∧ n ≤ 9223372036854775807 := by
  simp [Lit.wf, IntKind.min, IntKind.max, IntKind.signed, IntKind.bits] at h
  exact h
theorem ob {α β : Type} {o : Option α} {a : α} {f : α → Option β} (h : o = some a) : o.bind f = f a := by subst h; rfl

def inB (n a b : Int) : Bool := decide (a ≤ n ∧ n ≤ b)
theorem within_eq (n a b : Int) : impl_within.f n a b = some (inB n a b) := by
  unfold impl_within.f inB; split <;> simp <;> omega
theorem l1In_eq (n a b : Int) : spec_l1In.f n a b = some (inB n a b) := by
  unfold spec_l1In.f inB; split <;> simp <;> omega
def vRow (a b c : Int) : Bool := inB a 0 9 && inB b 0 99 && inB c 0 3
theorem impl_IsValidRow_eq (a b c : Int) : impl_IsValidRow.f a b c = some (vRow a b c) := by
  unfold impl_IsValidRow.f vRow
  rw [within_eq, within_eq, within_eq, ob rfl]
  cases inB a 0 9
  · simp
  · rw [if_pos rfl, ob rfl]; cases inB b 0 99 <;> simp
theorem spec_IsValidRow_eq (a b c : Int) : spec_IsValidRow.f a b c = some (vRow a b c) := by
  unfold spec_IsValidRow.f vRow
  rw [l1In_eq, l1In_eq, l1In_eq, ob rfl]
  cases inB a 0 9
  · simp
  · rw [if_pos rfl, ob rfl]; cases inB b 0 99 <;> simp
def cRow (x : S62) : Int := if vRow x.f0 x.f1 x.f2 = true then 1 + x.f2 else 0
theorem cRow_b (x : S62) : 0 ≤ cRow x ∧ cRow x ≤ 4 := by
  unfold cRow
  by_cases h : vRow x.f0 x.f1 x.f2 = true
  · rw [if_pos h]; simp [vRow, inB] at h; omega
  · rw [if_neg h]; omega
theorem impl_RowCost_eq (x : S62) : impl_RowCost.f x.f0 x.f1 x.f2 = some (cRow x) := by
  unfold impl_RowCost.f cRow
  rw [impl_IsValidRow_eq, ob rfl]
  by_cases h : vRow x.f0 x.f1 x.f2 = true
  · rw [if_pos h, if_pos h]; simp [vRow, inB] at h; rw [w64 (by omega) (by omega)]
  · rw [if_neg h, if_neg h]
theorem spec_RowCost_eq (x : S62) : spec_RowCost.f x.f0 x.f1 x.f2 = some (cRow x) := by
  unfold spec_RowCost.f cRow
  rw [spec_IsValidRow_eq, ob rfl]
  by_cases h : vRow x.f0 x.f1 x.f2 = true
  · rw [if_pos h, if_pos h]; simp [vRow, inB] at h; rw [w64 (by omega) (by omega)]
  · rw [if_neg h, if_neg h]
def tCost (l : List S62) : Int := (l.map cRow).sum
theorem tCost_cons (x : S62) (l : List S62) : tCost (x :: l) = cRow x + tCost l := by simp [tCost]
theorem rdR (l : List S62) (i : Nat) : rd_T62 l (i : Int) = l.getD i z62 := rfl
theorem impl_TotalCost_l0 (l : List S62) (hl : l.length ≤ 1152921504606846975) : ∀ (s : List S62) (i : Nat) (acc : Int), l.drop i = s → 0 ≤ acc → acc ≤ 4 * i → Ev (fun k => impl_TotalCost.l0 k acc (l.length : Int) (i : Int) l) (acc + tCost s) := by
  intro s
  induction s with
  | nil =>
    intro i acc hd h0 h1
    have := drop_nil' hd
    exact Ev.s (fun k => by rw [impl_TotalCost.l0]) (Ev.e (by omega) (Ev.p.r (by simp [tCost])))
  | cons x t ih =>
    intro i acc hd h0 h1
    obtain ⟨hi, hd', hx, -⟩ := drop_cons' hd
    have := cRow_b x
    refine Ev.s (fun k => by rw [impl_TotalCost.l0]) (Ev.t (by omega) (Ev.t (by omega) (Ev.t (by omega) ?_)))
    rw [rdR, hx]
    refine Ev.b (Ev.c (impl_RowCost_eq x)) ?_
    rw [w64s hi (by omega), w64 (by omega) (by omega)]
    exact (ih (i + 1) (acc + cRow x) hd' (by omega) (by omega)).r (by rw [tCost_cons]; omega)
theorem impl_TotalCost_ev (l : List S62) (hl : l.length ≤ 1152921504606846975) : Ev (fun k => impl_TotalCost.f k l) (tCost l) :=
  Ev.u (fun _ => rfl) ((impl_TotalCost_l0 l hl l 0 0 rfl (by omega) (by omega)).r (by omega))
def vAll (l : List S62) : Bool := l.all fun x => vRow x.f0 x.f1 x.f2
theorem impl_allValid_l0 (l : List S62) (hl : l.length ≤ 1152921504606846975) : ∀ (s : List S62) (i : Nat), l.drop i = s → Ev (fun k => impl_allValid.l0 k (l.length : Int) (i : Int) l) (vAll s) := by
  intro s
  induction s with
  | nil =>
    intro i hd
    have := drop_nil' hd
    exact Ev.s (fun k => by rw [impl_allValid.l0]) (Ev.e (by omega) (Ev.p.r (by rfl)))
  | cons x t ih =>
    intro i hd
    obtain ⟨hi, hd', hx, -⟩ := drop_cons' hd
    refine Ev.s (fun k => by rw [impl_allValid.l0]) (Ev.t (by omega) (Ev.t (by omega) (Ev.t (by omega) ?_)))
    rw [rdR, hx]
    refine Ev.b (Ev.c (impl_IsValidRow_eq ..)) (Ev.i (fun h => ?_) (fun h => ?_))
    · rw [w64s hi (by omega)]
      exact (ih (i + 1) hd').r (by simp [vAll, h])
    · exact Ev.p.r (by simp [vAll, h])
theorem impl_allValid_ev (l : List S62) (hl : l.length ≤ 1152921504606846975) : Ev (fun k => impl_allValid.f k l) (vAll l) :=
  Ev.u (fun _ => rfl) (impl_allValid_l0 l hl l 0 rfl)
def vRows (l : List S62) : Bool := vAll l && decide (l.length ≤ 24)
theorem impl_AreValidRows_ev (l : List S62) (hl : l.length ≤ 1152921504606846975) : Ev (fun k => impl_AreValidRows.f k l) (vRows l) :=
  Ev.u (fun _ => rfl) (Ev.i (fun h => Ev.b (impl_allValid_ev l hl) (Ev.p.r (by simp [vRows]; omega))) (fun h => Ev.p.r (by simp [vRows]; omega)))
theorem spec_AreValidRows_l0 (l : List S62) (hl : l.length ≤ 1152921504606846975) : ∀ (s : List S62) (i : Nat), l.drop i = s → Ev (fun k => spec_AreValidRows.l0 k (i : Int) l) (vAll s && decide (l.length ≤ 24)) := by
  intro s
  induction s with
  | nil =>
    intro i hd
    have := drop_nil' hd
    exact Ev.s (fun k => by rw [spec_AreValidRows.l0]) (Ev.e (by omega) (Ev.p.r (by simp [vAll]; omega)))
  | cons x t ih =>
    intro i hd
    obtain ⟨hi, hd', hx, -⟩ := drop_cons' hd
    refine Ev.s (fun k => by rw [spec_AreValidRows.l0]) (Ev.t (by omega) (Ev.t (by omega) ?_))
    rw [rdR, hx]
    refine Ev.b (Ev.c (spec_IsValidRow_eq ..)) (Ev.i (fun h => ?_) (fun h => ?_))
    · rw [w64s hi (by omega)]
      exact (ih (i + 1) hd').r (by simp [vAll, h])
    · exact Ev.p.r (by simp [vAll, h])
theorem spec_AreValidRows_ev (l : List S62) (hl : l.length ≤ 1152921504606846975) : Ev (fun k => spec_AreValidRows.f k l) (vRows l) :=
  Ev.u (fun _ => rfl) (spec_AreValidRows_l0 l hl l 0 rfl)
theorem impl_clone_eq (l : List S62) (hl : l.length ≤ 5864062014805) : impl_clone.f l = some l := by
  unfold impl_clone.f; rw [if_pos hl]
def nKey (key : Int) (l : List S62) : Nat := l.countP fun x => x.f0 == key
theorem impl_CountMatches_l0 (l : List S62) (a b c : Int) (hl : l.length ≤ 1152921504606846975) : ∀ (s : List S62) (i n : Nat), l.drop i = s → n ≤ i → Ev (fun k => impl_CountMatches.l0 k (n : Int) (l.length : Int) (i : Int) a b c l) (((n + nKey a s : Nat)) : Int) := by
  intro s
  induction s with
  | nil =>
    intro i n hd hn
    have := drop_nil' hd
    exact Ev.s (fun k => by rw [impl_CountMatches.l0]) (Ev.e (by omega) (Ev.p.r (by simp [nKey])))
  | cons x t ih =>
    intro i n hd hn
    obtain ⟨hi, hd', hx, -⟩ := drop_cons' hd
    refine Ev.s (fun k => by rw [impl_CountMatches.l0]) (Ev.t (by omega) (Ev.t (by omega) (Ev.t (by omega) ?_)))
    rw [rdR, hx, w64s hi (by omega)]
    refine Ev.i (fun h => ?_) (fun h => ?_)
    · rw [w64s (show n < l.length by omega) (by omega)]
      exact (ih (i + 1) (n + 1) hd' (by omega)).r (by simp [nKey, List.countP_cons, h]; omega)
    · exact (ih (i + 1) n hd' (by omega)).r (by simp [nKey, List.countP_cons, h])
theorem impl_CountMatches_ev (l : List S62) (a b c : Int) (hl : l.length ≤ 1152921504606846975) : Ev (fun k => impl_CountMatches.f k a b c l) ((nKey a l : Nat) : Int) :=
  Ev.u (fun _ => rfl) ((impl_CountMatches_l0 l a b c hl l 0 0 rfl (by omega)).r (by simp))
theorem spec_CountMatches_l0 (l : List S62) (a b c : Int) (hl : l.length ≤ 1152921504606846975) : ∀ (s : List S62) (i n : Nat), l.drop i = s → n ≤ i → Ev (fun k => spec_CountMatches.l0 k (n : Int) (i : Int) a b c l) (((n + nKey a s : Nat)) : Int) := by
  intro s
  induction s with
  | nil =>
    intro i n hd hn
    have := drop_nil' hd
    exact Ev.s (fun k => by rw [spec_CountMatches.l0]) (Ev.e (by omega) (Ev.p.r (by simp [nKey])))
  | cons x t ih =>
    intro i n hd hn
    obtain ⟨hi, hd', hx, -⟩ := drop_cons' hd
    refine Ev.s (fun k => by rw [spec_CountMatches.l0]) (Ev.t (by omega) (Ev.t (by omega) ?_))
    rw [rdR, hx, w64s hi (by omega)]
    refine Ev.i (fun h => ?_) (fun h => ?_)
    · rw [w64s (show n < l.length by omega) (by omega)]
      exact (ih (i + 1) (n + 1) hd' (by omega)).r (by simp [nKey, List.countP_cons, h]; omega)
    · exact (ih (i + 1) n hd' (by omega)).r (by simp [nKey, List.countP_cons, h])
theorem spec_CountMatches_ev (l : List S62) (a b c : Int) (hl : l.length ≤ 1152921504606846975) : Ev (fun k => spec_CountMatches.f k a b c l) ((nKey a l : Nat) : Int) :=
  Ev.u (fun _ => rfl) ((spec_CountMatches_l0 l a b c hl l 0 0 rfl (by omega)).r (by simp))
def hBit (key level : Int) : Int := if inB level 0 3 && inB key 0 9 then andI (shrI (Int.tmod (key * 7) 16) level) 1 else 0
def hb (level : Int) (x : S62) : Bool := hBit x.f0 level == 0
theorem setP {α : Type} (pre : List α) (x y : α) (t : List α) : (pre ++ x :: t).set ((pre.length : Int)).toNat y = pre ++ y :: t := by
  rw [Int.toNat_natCast, List.set_append_right _ _ (Nat.le_refl _), Nat.sub_self]; rfl
theorem getP {α : Type} (pre : List α) (x d : α) (t : List α) : (pre ++ x :: t).getD ((pre.length : Int)).toNat d = x := by
  rw [Int.toNat_natCast, List.getD_eq_getElem?_getD, List.getElem?_append_right (Nat.le_refl _), Nat.sub_self]; rfl
theorem rdB (l : List Bool) (i : Nat) : rdOf false l (i : Int) = l.getD i false := rfl
theorem rdPRow (pre : List S62) (x : S62) (t : List S62) : rd_T62 (pre ++ x :: t) (pre.length : Int) = x := getP pre x z62 t
def mkRow : Int → List S62 → List S62
  | _, [] => []
  | k, _ :: l => ⟨k, k + 1, k + 1 + 1⟩ :: mkRow (k + 1 + 1 + 1) l
theorem markRowS_l0 : ∀ (s pre : List S62) (k : Int), 0 ≤ k → k + 3 * s.length ≤ 4611686018427387904 → pre.length + s.length ≤ 4611686018427387904 → Ev (fun f => laws_markRowS.l0 f (pre ++ s) k (pre.length : Int)) (k + 3 * s.length, pre ++ mkRow k s) := by
  intro s
  induction s with
  | nil =>
    intro pre k h0 h1 h2
    exact Ev.s (fun f => by rw [laws_markRowS.l0]) (Ev.e (by simp) (Ev.p.r (by simp [mkRow])))
  | cons x t ih =>
    intro pre k h0 h1 h2
    rw [List.length_cons] at h1 h2
    refine Ev.s (fun f => by rw [laws_markRowS.l0]) (Ev.t (by simp; omega) (Ev.t (by omega) ?_))
    rw [w64 (x := k + 1) (by omega) (by omega)]
    rw [w64 (x := k + 1 + 1) (by omega) (by omega)]
    rw [w64 (x := k + 1 + 1 + 1) (by omega) (by omega)]
    rw [show wrap64 ((pre.length : Int) + 1) = ((pre.length + 1 : Nat) : Int) by rw [w64 (by omega) (by omega)]; rfl]
    refine Ev.b (Ev.c (congrArg some (setP pre _ _ t))) ?_
    refine Ev.t (by simp; omega) ?_
    simp only [rdPRow]
    refine Ev.b (Ev.c (congrArg some (setP pre _ _ t))) ?_
    refine Ev.t (by simp; omega) ?_
    simp only [rdPRow]
    refine Ev.b (Ev.c (congrArg some (setP pre _ _ t))) ?_
    have h := ih (pre ++ [(⟨k, k + 1, k + 1 + 1⟩ : S62)]) (k + 1 + 1 + 1) (by omega) (by omega) (by simp; omega)
    simp only [List.append_assoc, List.singleton_append, List.length_append, List.length_singleton] at h
    exact h.r (Prod.ext (by simp only [List.length_cons]; omega) rfl)
theorem markRowS_ev (l : List S62) (k : Int) (h0 : 0 ≤ k) (h1 : k + 3 * l.length ≤ 4611686018427387904) : Ev (fun f => laws_markRowS.f f l k) (k + 3 * l.length, mkRow k l) :=
  Ev.u (fun _ => rfl) (markRowS_l0 l [] k h0 h1 (by simp; omega))
theorem eqRow_refl (x : S62) : laws_eqRow.f x.f0 x.f1 x.f2 x.f0 x.f1 x.f2 = some true := by
  unfold laws_eqRow.f; simp
theorem eqRowS_l0 (l : List S62) (hl : l.length ≤ 4611686018427387904) : ∀ (s : List S62) (i : Nat), l.drop i = s → Ev (fun f => laws_eqRowS.l0 f (i : Int) l l) true := by
  intro s
  induction s with
  | nil =>
    intro i hd
    have := drop_nil' hd
    exact Ev.s (fun f => by rw [laws_eqRowS.l0]) (Ev.e (by omega) (Ev.p.r (by rfl)))
  | cons x t ih =>
    intro i hd
    obtain ⟨hi, hd', hx, -⟩ := drop_cons' hd
    refine Ev.s (fun f => by rw [laws_eqRowS.l0]) (Ev.t (by omega) (Ev.t (by omega) (Ev.t (by omega) ?_)))
    rw [rdR, hx, w64s hi (by omega)]
    exact Ev.b (Ev.c (eqRow_refl _)) <| Ev.t rfl (ih (i + 1) hd')
theorem eqRowS_ev (l : List S62) (hl : l.length ≤ 4611686018427387904) : Ev (fun f => laws_eqRowS.f f l l) true :=
  Ev.u (fun _ => rfl) (Ev.t rfl (eqRowS_l0 l hl l 0 rfl))
theorem rdLRow (l : List S64) (i : Nat) : rd_T64 l (i : Int) = l.getD i z64 := rfl
def cvRow (x : S64) : S62 := ⟨x.f0, x.f1, x.f2⟩
theorem toRow_eq (x : S64) : laws_toRow.f x.f0 x.f1 x.f2 = some (x.f0, x.f1, x.f2) := by unfold laws_toRow.f; rfl
theorem toRowS_l0 (l : List S64) (hl : l.length ≤ 4611686018427387904) : ∀ (s : List S64) (r pre : List S62), l.drop pre.length = s → r.length = s.length → Ev (fun f => laws_toRowS.l0 f (pre ++ r) (pre.length : Int) l) (pre ++ s.map cvRow) := by
  intro s
  induction s with
  | nil =>
    intro r pre hd hr
    have := drop_nil' hd
    have : r = [] := List.eq_nil_of_length_eq_zero hr
    subst this
    exact Ev.s (fun f => by rw [laws_toRowS.l0]) (Ev.e (by omega) (Ev.p.r (by simp)))
  | cons x t ih =>
    intro r pre hd hr
    obtain ⟨hi, hd', hx, -⟩ := drop_cons' hd
    cases r with
    | nil => simp at hr
    | cons y r =>
      refine Ev.s (fun f => by rw [laws_toRowS.l0]) (Ev.t (by omega) (Ev.t (by omega) ?_))
      rw [rdLRow, hx, w64s hi (by omega)]
      refine Ev.b (Ev.c (toRow_eq x)) (Ev.t (by simp; omega) (Ev.b (Ev.c (congrArg some (setP pre _ _ r))) ?_))
      have h := ih r (pre ++ [cvRow x]) (by rw [List.length_append, List.length_singleton]; exact hd') (by simpa using hr)
      simp only [List.append_assoc, List.singleton_append, List.length_append, List.length_singleton] at h
      exact h.r (by simp)
theorem toRowS_ev (l : List S64) (hl : l.length ≤ 1048576) : Ev (fun f => laws_toRowS.f f l) (l.map cvRow) := by
  refine Ev.u (fun _ => rfl) (Ev.t (by omega) (Ev.t (by simp; omega) ?_))
  have h := toRowS_l0 l (by omega) l (List.replicate l.length z62) [] rfl (by simp)
  simpa using h
theorem szRowS_neg (l : List S64) (n : Int) (h0 : 0 ≤ n) (h1 : n ≤ 1048576) (hl : l.length ≤ maxLen) (h : n - l.length < 0) : laws_szRowS.f l n = some (-1) := by
  have hl' : l.length ≤ 9223372036854775807 := hl
  unfold laws_szRowS.f
  rw [w64 (by omega) (by omega), if_pos h]
theorem szRowS_pos (l : List S64) (n : Int) (h0 : 0 ≤ n) (h1 : n ≤ 1048576) (h : ¬ n - l.length < 0) : laws_szRowS.f l n = some (n - l.length) := by
  unfold laws_szRowS.f
  rw [w64 (by omega) (by omega), if_neg h]
theorem rdPair (l : List S75) (i : Nat) : rd_T75 l (i : Int) = l.getD i z75 := rfl
theorem rdPPair (pre : List S75) (x : S75) (t : List S75) : rd_T75 (pre ++ x :: t) (pre.length : Int) = x := getP pre x z75 t
def mkPair : Int → List S75 → List S75
  | _, [] => []
  | k, _ :: l => ⟨⟨k, k + 1, k + 1 + 1⟩, ⟨k + 1 + 1 + 1, k + 1 + 1 + 1 + 1, k + 1 + 1 + 1 + 1 + 1⟩, decide (Int.tmod (k + 1 + 1 + 1 + 1 + 1 + 1) 3 = 0)⟩ :: mkPair (k + 1 + 1 + 1 + 1 + 1 + 1 + 1) l
theorem mkPair_len : ∀ (k : Int) (l : List S75), (mkPair k l).length = l.length
  | _, [] => rfl
  | k, _ :: l => by rw [mkPair, List.length_cons, List.length_cons, mkPair_len]
theorem markPairS_l0 : ∀ (s pre : List S75) (k : Int), 0 ≤ k → k + 7 * s.length ≤ 4611686018427387904 → pre.length + s.length ≤ 4611686018427387904 → Ev (fun f => laws_markPairS.l0 f (pre ++ s) k (pre.length : Int)) (k + 7 * s.length, pre ++ mkPair k s) := by
  intro s
  induction s with
  | nil =>
    intro pre k h0 h1 h2
    exact Ev.s (fun f => by rw [laws_markPairS.l0]) (Ev.e (by simp) (Ev.p.r (by simp [mkPair])))
  | cons x t ih =>
    intro pre k h0 h1 h2
    rw [List.length_cons] at h1 h2
    refine Ev.s (fun f => by rw [laws_markPairS.l0]) (Ev.t (by simp; omega) (Ev.t (by omega) ?_))
    rw [w64 (x := k + 1) (by omega) (by omega)]
    rw [w64 (x := k + 1 + 1) (by omega) (by omega)]
    rw [w64 (x := k + 1 + 1 + 1) (by omega) (by omega)]
    rw [w64 (x := k + 1 + 1 + 1 + 1) (by omega) (by omega)]
    rw [w64 (x := k + 1 + 1 + 1 + 1 + 1) (by omega) (by omega)]
    rw [w64 (x := k + 1 + 1 + 1 + 1 + 1 + 1) (by omega) (by omega)]
    rw [w64 (x := k + 1 + 1 + 1 + 1 + 1 + 1 + 1) (by omega) (by omega)]
    rw [show wrap64 ((pre.length : Int) + 1) = ((pre.length + 1 : Nat) : Int) by rw [w64 (by omega) (by omega)]; rfl]
    refine Ev.b (Ev.c (congrArg some (setP pre _ _ t))) ?_
    refine Ev.t (by simp; omega) ?_
    simp only [rdPPair]
    refine Ev.b (Ev.c (congrArg some (setP pre _ _ t))) ?_
    refine Ev.t (by simp; omega) ?_
    simp only [rdPPair]
    refine Ev.b (Ev.c (congrArg some (setP pre _ _ t))) ?_
    refine Ev.t (by simp; omega) ?_
    simp only [rdPPair]
    refine Ev.b (Ev.c (congrArg some (setP pre _ _ t))) ?_
    refine Ev.t (by simp; omega) ?_
    simp only [rdPPair]
    refine Ev.b (Ev.c (congrArg some (setP pre _ _ t))) ?_
    refine Ev.t (by simp; omega) ?_
    simp only [rdPPair]
    refine Ev.b (Ev.c (congrArg some (setP pre _ _ t))) ?_
    refine Ev.t (by simp; omega) ?_
    simp only [rdPPair]
    refine Ev.b (Ev.c (congrArg some (setP pre _ _ t))) ?_
    have h := ih (pre ++ [(⟨⟨k, k + 1, k + 1 + 1⟩, ⟨k + 1 + 1 + 1, k + 1 + 1 + 1 + 1, k + 1 + 1 + 1 + 1 + 1⟩, decide (Int.tmod (k + 1 + 1 + 1 + 1 + 1 + 1) 3 = 0)⟩ : S75)]) (k + 1 + 1 + 1 + 1 + 1 + 1 + 1) (by omega) (by omega) (by simp; omega)
    simp only [List.append_assoc, List.singleton_append, List.length_append, List.length_singleton] at h
    exact h.r (Prod.ext (by simp only [List.length_cons]; omega) rfl)
theorem markPairS_ev (l : List S75) (k : Int) (h0 : 0 ≤ k) (h1 : k + 7 * l.length ≤ 4611686018427387904) : Ev (fun f => laws_markPairS.f f l k) (k + 7 * l.length, mkPair k l) :=
  Ev.u (fun _ => rfl) (markPairS_l0 l [] k h0 h1 (by simp; omega))
theorem heldPairS_l0 (l : List S75) (hl : l.length ≤ 4611686018427387904) : ∀ (s : List S75) (i : Nat) (k : Int), l.drop i = mkPair k s → 0 ≤ k → k + 7 * s.length ≤ 4611686018427387904 → Ev (fun f => laws_heldPairS.l0 f k (i : Int) l) (k + 7 * s.length) := by
  intro s
  induction s with
  | nil =>
    intro i k hd h0 h1
    have := drop_nil' hd
    exact Ev.s (fun f => by rw [laws_heldPairS.l0]) (Ev.e (by omega) (Ev.p.r (by simp)))
  | cons x t ih =>
    intro i k hd h0 h1
    rw [List.length_cons] at h1
    rw [mkPair] at hd
    obtain ⟨hi, hd', hx, -⟩ := drop_cons' hd
    refine Ev.s (fun f => by rw [laws_heldPairS.l0]) (Ev.t (by omega) (Ev.t (by omega) ?_))
    rw [w64 (x := k + 1) (by omega) (by omega)]
    rw [w64 (x := k + 1 + 1) (by omega) (by omega)]
    rw [w64 (x := k + 1 + 1 + 1) (by omega) (by omega)]
    rw [w64 (x := k + 1 + 1 + 1 + 1) (by omega) (by omega)]
    rw [w64 (x := k + 1 + 1 + 1 + 1 + 1) (by omega) (by omega)]
    rw [w64 (x := k + 1 + 1 + 1 + 1 + 1 + 1) (by omega) (by omega)]
    rw [w64 (x := k + 1 + 1 + 1 + 1 + 1 + 1 + 1) (by omega) (by omega)]
    rw [rdPair, hx, w64s hi (by omega)]
    exact Ev.t rfl (Ev.t rfl (Ev.t rfl (Ev.t rfl (Ev.t rfl (Ev.t rfl (Ev.t (by simp) ((ih (i + 1) (k + 1 + 1 + 1 + 1 + 1 + 1 + 1) hd' (by omega) (by omega)).r (by simp only [List.length_cons]; omega))))))))
theorem heldPairS_ev (l : List S75) (k : Int) (h0 : 0 ≤ k) (h1 : k + 7 * l.length ≤ 4611686018427387904) : Ev (fun f => laws_heldPairS.f f (mkPair k l) k) (k + 7 * l.length) :=
  Ev.u (fun _ => rfl) (heldPairS_l0 _ (by rw [mkPair_len]; omega) l 0 k rfl h0 h1)
theorem eqPair_refl (x : S75) : laws_eqPair.f x.f0.f0 x.f0.f1 x.f0.f2 x.f1.f0 x.f1.f1 x.f1.f2 x.f2 x.f0.f0 x.f0.f1 x.f0.f2 x.f1.f0 x.f1.f1 x.f1.f2 x.f2 = some true := by
  unfold laws_eqPair.f; simp [laws_eqRow.f]
theorem eqPairS_l0 (l : List S75) (hl : l.length ≤ 4611686018427387904) : ∀ (s : List S75) (i : Nat), l.drop i = s → Ev (fun f => laws_eqPairS.l0 f (i : Int) l l) true := by
  intro s
  induction s with
  | nil =>
    intro i hd
    have := drop_nil' hd
    exact Ev.s (fun f => by rw [laws_eqPairS.l0]) (Ev.e (by omega) (Ev.p.r (by rfl)))
  | cons x t ih =>
    intro i hd
    obtain ⟨hi, hd', hx, -⟩ := drop_cons' hd
    refine Ev.s (fun f => by rw [laws_eqPairS.l0]) (Ev.t (by omega) (Ev.t (by omega) (Ev.t (by omega) ?_)))
    rw [rdPair, hx, w64s hi (by omega)]
    exact Ev.b (Ev.c (eqPair_refl _)) <| Ev.t rfl (ih (i + 1) hd')
theorem eqPairS_ev (l : List S75) (hl : l.length ≤ 4611686018427387904) : Ev (fun f => laws_eqPairS.f f l l) true :=
  Ev.u (fun _ => rfl) (Ev.t rfl (eqPairS_l0 l hl l 0 rfl))
def tsz (t : S37) : Nat := t.f1.length + t.f2.length + t.f3.length
def nTask (t : S37) : Int := 3 * t.f1.length + 3 * t.f2.length + t.f3.length
theorem impl_IsValidJoinKind_eq (a : Int) : impl_IsValidJoinKind.f a = some (inB a 1 4) := by unfold impl_IsValidJoinKind.f; rw [within_eq]; rfl
theorem spec_IsValidJoinKind_eq (a : Int) : spec_IsValidJoinKind.f a = some (inB a 1 4) := by unfold spec_IsValidJoinKind.f; rw [l1In_eq]; rfl
def vTask (t : S37) : Bool := inB t.f0 1 4 && (vRows t.f1 && (vRows t.f2 && (decide (t.f3.length = t.f1.length) && inB t.f4 0 4)))
theorem impl_IsValidTask_ev (t : S37) (h : tsz t ≤ 1152921504606846975) : Ev (fun k => impl_IsValidTask.f k t.f0 t.f1 t.f2 t.f3 t.f4) (vTask t) := by
  unfold tsz at h
  refine Ev.u (fun _ => rfl) (Ev.b (Ev.c (impl_IsValidJoinKind_eq _)) (Ev.i (fun a => Ev.b (impl_AreValidRows_ev _ (by omega)) (Ev.i (fun b => Ev.b (impl_AreValidRows_ev _ (by omega)) (Ev.i (fun c => Ev.i (fun d => Ev.b (Ev.c (within_eq _ _ _)) (Ev.p.r ?_)) (fun d => Ev.p.r ?_)) (fun c => Ev.p.r ?_))) (fun b => Ev.p.r ?_))) (fun a => Ev.p.r ?_)))
  · have : t.f3.length = t.f1.length := by omega
    simp [vTask, a, b, c, this]
  · have : ¬ t.f3.length = t.f1.length := by omega
    simp [vTask, a, b, c, this]
  · simp [vTask, a, b, c]
  · simp [vTask, a, b]
  · simp [vTask, a]
theorem spec_IsValidTask_ev (t : S37) (h : tsz t ≤ 1152921504606846975) : Ev (fun k => spec_IsValidTask.f k t.f0 t.f1 t.f2 t.f3 t.f4) (vTask t) := by
  unfold tsz at h
  refine Ev.u (fun _ => rfl) (Ev.b (Ev.c (spec_IsValidJoinKind_eq _)) (Ev.i (fun a => Ev.b (spec_AreValidRows_ev _ (by omega)) (Ev.i (fun b => Ev.b (spec_AreValidRows_ev _ (by omega)) (Ev.i (fun c => Ev.i (fun d => Ev.b (Ev.c (l1In_eq _ _ _)) (Ev.p.r ?_)) (fun d => Ev.p.r ?_)) (fun c => Ev.p.r ?_))) (fun b => Ev.p.r ?_))) (fun a => Ev.p.r ?_)))
  · have : t.f3.length = t.f1.length := by omega
    simp [vTask, a, b, c, this]
  · have : ¬ t.f3.length = t.f1.length := by omega
    simp [vTask, a, b, c, this]
  · simp [vTask, a, b, c]
  · simp [vTask, a, b]
  · simp [vTask, a]
theorem vRows_len {l : List S62} (h : vRows l = true) : l.length ≤ 24 := by
  unfold vRows at h; rw [Bool.and_eq_true] at h; exact of_decide_eq_true h.2
structure VT (t : S37) : Prop where
  kind : 1 ≤ t.f0 ∧ t.f0 ≤ 4
  left : vRows t.f1 = true
  right : vRows t.f2 = true
  len : t.f3.length = t.f1.length
  level : 0 ≤ t.f4 ∧ t.f4 ≤ 4
theorem vTask_iff {t : S37} : vTask t = true ↔ VT t := by
  unfold vTask
  constructor
  · intro h; simp [inB] at h; exact ⟨h.1, h.2.1, h.2.2.1, h.2.2.2.1, h.2.2.2.2⟩
  · intro h; simp [inB]; exact ⟨h.kind, h.left, h.right, h.len, h.level⟩
theorem VT.b {t : S37} (h : VT t) : t.f1.length ≤ 24 ∧ t.f2.length ≤ 24 ∧ t.f3.length ≤ 24 := ⟨vRows_len h.left, vRows_len h.right, by rw [h.len]; exact vRows_len h.left⟩
def zl (t : S37) : List (S62 × Bool) := t.f1.zip t.f3
theorem part_zip {l : List S62} {m : List Bool} {i : Nat} {x : S62} {s : List S62} (hm : m.length = l.length) (hd : l.drop i = x :: s) : ∃ b u, m.drop i = b :: u ∧ (l.zip m).drop i = (x, b) :: (l.zip m).drop (i + 1) := by
  obtain ⟨hi, hd', hx, -⟩ := drop_cons' hd
  have hmi : i < m.length := by omega
  refine ⟨m[i], m.drop (i + 1), (List.drop_eq_getElem_cons hmi), ?_⟩
  have hz : i < (l.zip m).length := by rw [List.length_zip]; omega
  rw [List.drop_eq_getElem_cons hz, List.getElem_zip]
  have := hx z62
  rw [List.getD_eq_getElem?_getD, List.getElem?_eq_getElem hi] at this
  simp at this
  rw [this]
theorem rdBool (l : List Bool) (i : Nat) {b : Bool} {u : List Bool} (h : l.drop i = b :: u) : rdOf false l (i : Int) = b := by
  rw [rdB]; exact (drop_cons' h).2.2.1 _
theorem VT.p {t : S37} (h : VT t) : tsz t ≤ 72 := by have := h.b; unfold tsz; omega
def jc (kind : Int) (c : List S62) (p : S62 × Bool) : List S75 :=
  if nKey p.1.f0 c = 0 then [] else if kind = 2 then (if p.2 = true then [] else [⟨p.1, ⟨0, 0, 0⟩, false⟩]) else if kind = 1 ∨ kind = 4 then (c.filter fun r => r.f0 == p.1.f0).map fun r => ⟨p.1, r, true⟩ else []
def jm (c : List S62) (p : S62 × Bool) : Bool := p.2 || decide (nKey p.1.f0 c ≠ 0)
theorem jc_len (kind : Int) (c : List S62) (p : S62 × Bool) : (jc kind c p).length ≤ c.length + 1 := by
  unfold jc
  split
  · simp
  · split
    · split <;> simp
    · split
      · rw [List.length_map]; have := List.length_filter_le (fun r : S62 => r.f0 == p.1.f0) c; omega
      · simp
theorem setM (a : List Bool) (b : Bool) (u : List Bool) {i : Nat} (h : a.length = i) : (a ++ b :: u).set ((i : Int)).toNat true = a ++ true :: u := by subst h; exact setP a b true u
theorem impl_JoinChunk_l1 (c : List S62) (hc : c.length ≤ 1099511627776) (i n i' : Int) (L : List S62) (g0 g4 : Int) (g1 g2 : List S62) (g3 : List Bool) (y0 y4 : Int) (y1 y2 : List S62) (y3 : List Bool) (x : S62) (r : List S75 × Int × List S62 × List S62 × List Bool × Int) :
    ∀ (s : List S62) (q : Nat) (P : List S75), c.drop q = s → P.length + s.length ≤ 2199023255552 →
    Ev (fun k => impl_JoinChunk.j0 k (P ++ (s.filter fun r => r.f0 == x.f0).map fun r => ⟨x, r, true⟩) i L n i' g0 g1 g2 g3 g4 y0 y1 y2 y3 y4 c) r →
    Ev (fun k => impl_JoinChunk.l1 k P i L n i' (c.length : Int) (q : Int) g0 g1 g2 g3 g4 y0 y1 y2 y3 y4 x.f0 x.f1 x.f2 c) r := by
  intro s
  induction s with
  | nil =>
    intro q P hd hP hj
    have := drop_nil' hd
    refine Ev.s (fun k => by rw [impl_JoinChunk.l1]) (Ev.e (by omega) ?_)
    simpa using hj
  | cons z s ih =>
    intro q P hd hP hj
    rw [List.length_cons] at hP
    obtain ⟨hi, hd', hx, -⟩ := drop_cons' hd
    refine Ev.s (fun k => by rw [impl_JoinChunk.l1]) (Ev.t (by omega) (Ev.t (by omega) (Ev.t (by omega) ?_)))
    rw [rdR, hx, w64s hi (by omega)]
    refine Ev.i (fun h => Ev.t (by omega) (ih (q + 1) _ hd' (by simp; omega) ?_)) (fun h => ih (q + 1) _ hd' (by omega) ?_)
    · rw [List.filter_cons_of_pos (by simp [h])] at hj; simpa using hj
    · rw [List.filter_cons_of_neg (by simp [h])] at hj; simpa using hj
theorem impl_JoinChunk_l0 (t : S37) (c : List S62) (hl : t.f3.length = t.f1.length) (hb : t.f1.length ≤ 24) (hc : c.length ≤ 2097152) (g0 g4 : Int) (g1 g2 : List S62) (g3 : List Bool) : ∀ (s : List S62) (i : Nat) (P : List S75) (a : List Bool), t.f1.drop i = s → a.length = i → P.length + s.length * (c.length + 1) ≤ 1099511627776 →
    Ev (fun k => impl_JoinChunk.l0 k P t.f1 (t.f1.length : Int) (i : Int) g0 g1 g2 g3 g4 t.f0 t.f1 t.f2 (a ++ t.f3.drop i) t.f4 c)
      (P ++ ((zl t).drop i).flatMap (jc t.f0 c), t.f0, t.f1, t.f2, a ++ ((zl t).drop i).map (jm c), t.f4) := by
  intro s
  induction s with
  | nil =>
    intro i P a hd ha hP
    have := drop_nil' hd
    have hz : (zl t).drop i = [] := List.drop_eq_nil_iff.2 (by rw [zl, List.length_zip]; omega)
    have hz3 : t.f3.drop i = [] := List.drop_eq_nil_iff.2 (by omega)
    refine Ev.s (fun k => by rw [impl_JoinChunk.l0]) (Ev.e (by omega) (Ev.p.r ?_))
    rw [hz, hz3]; simp
  | cons x s ih =>
    intro i P a hd ha hP
    obtain ⟨hi, hd', hx, -⟩ := drop_cons' hd
    obtain ⟨b, u, hb1, hz⟩ := part_zip hl hd
    have hz' : (zl t).drop i = (x, b) :: (zl t).drop (i + 1) := hz
    have hu : u = t.f3.drop (i + 1) := (drop_cons' hb1).2.1.symm
    rw [List.length_cons, Nat.succ_mul] at hP
    have hjl := jc_len t.f0 c (x, b)
    have hrd : rdOf false (a ++ t.f3.drop i) (i : Int) = b := by rw [hb1, rdB]; subst ha; exact getP a b false u
    -- what comes behind
    have nxt : ∀ (P' : List S75), P' = P ++ jc t.f0 c (x, b) → nKey x.f0 c ≠ 0 → ∀ i' : Int, i' = (i : Int) →
        Ev (fun k => impl_JoinChunk.j0 k P' i' t.f1 (t.f1.length : Int) i' g0 g1 g2 g3 g4 t.f0 t.f1 t.f2 (a ++ t.f3.drop i) t.f4 c) (P ++ ((zl t).drop i).flatMap (jc t.f0 c), t.f0, t.f1, t.f2, a ++ ((zl t).drop i).map (jm c), t.f4) := by
      intro P' hP' hn i' hi'
      subst hP' hi'
      refine Ev.s (fun k => by rw [impl_JoinChunk.j0]) (Ev.t (by omega) (Ev.t (by rw [hb1]; simp; omega) ?_))
      rw [hb1, setM a b u ha, w64s hi (by omega)]
      have h := ih (i + 1) (P ++ jc t.f0 c (x, b)) (a ++ [true]) hd' (by simp [ha]) (by rw [List.length_append]; omega)
      simp only [List.append_assoc, List.singleton_append, ← hu] at h
      refine h.r ?_
      rw [hz', List.flatMap_cons, List.map_cons, show jm c (x, b) = true by simp [jm, hn]]
    refine Ev.s (fun k => by rw [impl_JoinChunk.l0]) (Ev.t (by omega) (Ev.t (by omega) (Ev.t (by omega) ?_)))
    rw [rdR, hx]
    refine Ev.b (impl_CountMatches_ev c _ _ _ (by omega)) (Ev.i (fun h => ?_) (fun h => ?_))
    · have hn : nKey x.f0 c = 0 := by omega
      rw [w64s hi (by omega)]
      have h := ih (i + 1) P (a ++ [b]) hd' (by simp [ha]) (by omega)
      simp only [List.append_assoc, List.singleton_append] at h
      rw [hb1, hu]
      refine h.r ?_
      rw [hz', List.flatMap_cons, List.map_cons, show jm c (x, b) = b by simp [jm, hn], show jc t.f0 c (x, b) = [] by simp [jc, hn], List.nil_append]
    · have hn : nKey x.f0 c ≠ 0 := by omega
      refine Ev.i (fun h2 => Ev.t (by rw [List.length_append, hb1]; simp; omega) ?_) (fun h2 => ?_)
      · rw [hrd]
        refine Ev.i (fun h3 => nxt _ (by simp [jc, hn, h2, h3]) hn _ rfl) (fun h3 => Ev.t (by omega) (nxt _ (by simp [jc, hn, h2, h3]) hn _ rfl))
      · refine Ev.i (fun h3 => ?_) (fun h3 => ?_)
        · rw [show decide (t.f0 = 1) = true by simp [h3]]
          refine Ev.s (fun k => by rw [impl_JoinChunk.j1]) (Ev.t rfl ?_)
          exact impl_JoinChunk_l1 c (by omega) _ _ _ _ _ _ _ _ _ _ _ _ _ _ x _ c 0 P rfl (by omega) (nxt _ (by simp [jc, hn, h3]) hn _ rfl)
        · refine Ev.s (fun k => by rw [impl_JoinChunk.j1]) (Ev.i (fun h4 => ?_) (fun h4 => ?_))
          · have h4' : t.f0 = 4 := by simpa using h4
            exact impl_JoinChunk_l1 c (by omega) _ _ _ _ _ _ _ _ _ _ _ _ _ _ x _ c 0 P rfl (by omega) (nxt _ (by simp [jc, hn, h4']) hn _ rfl)
          · have h4' : ¬ t.f0 = 4 := by simpa using h4
            exact nxt _ (by simp [jc, hn, h2, h3, h4']) hn _ rfl
def jP (t : S37) (c : List S62) : List S75 := if vTask t = true then (zl t).flatMap (jc t.f0 c) else []
def jT (t : S37) (c : List S62) : S37 := if vTask t = true then { t with f3 := (zl t).map (jm c) } else t
abbrev ptup (p : List S75) (t : S37) : List S75 × Int × List S62 × List S62 × List Bool × Int := (p, t.f0, t.f1, t.f2, t.f3, t.f4)
theorem impl_cloneTask_eq (t : S37) (h : tsz t ≤ 1099511627776) : impl_cloneTask.f t.f0 t.f1 t.f2 t.f3 t.f4 = some (t.f0, t.f1, t.f2, t.f3, t.f4) := by
  unfold tsz at h
  unfold impl_cloneTask.f
  rw [if_pos (by omega), impl_clone_eq _ (by omega), impl_clone_eq _ (by omega)]; rfl
theorem spec_l16Copy_eq (t : S37) (h : tsz t ≤ 1099511627776) : spec_l16Copy.f t.f0 t.f1 t.f2 t.f3 t.f4 = some (t.f0, t.f1, t.f2, t.f3, t.f4) := by
  unfold tsz at h
  unfold spec_l16Copy.f
  rw [if_pos (by omega), if_pos (by omega), if_pos (by omega)]
theorem impl_JoinChunk_ev (t : S37) (c : List S62) (ht : tsz t ≤ 1099511627776) (hc : c.length ≤ 2097152) : Ev (fun k => impl_JoinChunk.f k t.f0 t.f1 t.f2 t.f3 t.f4 c) (ptup (jP t c) (jT t c)) := by
  refine Ev.u (fun _ => rfl) (Ev.b (Ev.c (impl_cloneTask_eq t ht)) (Ev.b (impl_IsValidTask_ev t (by omega)) (Ev.i (fun h => ?_) (fun h => Ev.p.r ?_))))
  · have hv := vTask_iff.1 h
    have hb := hv.b
    have hm : 24 * (c.length + 1) ≤ 1099511627776 := by omega
    have := impl_JoinChunk_l0 t c hv.len hb.1 hc 0 0 [] [] [] t.f1 0 [] [] rfl rfl (by
      have := Nat.mul_le_mul_right (c.length + 1) hb.1
      simp only [List.length_nil]; omega)
    refine this.r ?_
    simp [ptup, jP, jT, h]
  · simp [ptup, jP, jT, h]
theorem spec_l7One_l0 (c : List S62) (hc : c.length ≤ 1099511627776) (n : Int) (hn : n ≠ 0) (x : S62) : ∀ (s : List S62) (q : Nat) (P : List S75), c.drop q = s → P.length + s.length ≤ 2199023255552 →
    Ev (fun k => spec_l7One.l0 k 1 P n (q : Int) x.f0 x.f1 x.f2 c) (P ++ (s.filter fun r => r.f0 == x.f0).map fun r => ⟨x, r, true⟩) := by
  intro s
  induction s with
  | nil =>
    intro q P hd hP
    have := drop_nil' hd
    exact Ev.s (fun k => by rw [spec_l7One.l0]) (Ev.e (by omega) (Ev.e hn (Ev.p.r (by simp))))
  | cons z s ih =>
    intro q P hd hP
    rw [List.length_cons] at hP
    obtain ⟨hi, hd', hx, -⟩ := drop_cons' hd
    refine Ev.s (fun k => by rw [spec_l7One.l0]) (Ev.t (by omega) (Ev.t (by omega) ?_))
    rw [rdR, hx, w64s hi (by omega)]
    refine Ev.i (fun h => Ev.t (by omega) ((ih (q + 1) _ hd' (by simp; omega)).r ?_)) (fun h => (ih (q + 1) _ hd' (by omega)).r ?_)
    · rw [List.filter_cons_of_pos (by simp [h])]; simp
    · rw [List.filter_cons_of_neg (by simp [h])]
theorem spec_l7One_1 (c : List S62) (hc : c.length ≤ 1099511627776) (x : S62) (hn : nKey x.f0 c ≠ 0) : Ev (fun k => spec_l7One.f k 1 x.f0 x.f1 x.f2 c) ((c.filter fun r => r.f0 == x.f0).map fun r => ⟨x, r, true⟩) :=
  Ev.u (fun _ => rfl) (Ev.b (spec_CountMatches_ev c _ _ _ (by omega)) (Ev.e (by omega) (Ev.e (by omega) (spec_l7One_l0 c hc _ (by omega) x c 0 [] rfl (by simp; omega)))))
theorem spec_JoinChunk_l0 (t : S37) (c : List S62) (hv : vTask t = true) (hc : c.length ≤ 2097152) (g0 g4 : Int) (g1 g2 : List S62) (g3 : List Bool) : ∀ (s : List S62) (i : Nat) (P : List S75) (a : List Bool), t.f1.drop i = s → a.length = i → P.length + s.length * (c.length + 1) ≤ 1099511627776 →
    Ev (fun k => spec_JoinChunk.l0 k P (i : Int) t.f0 t.f4 g0 g1 g2 g3 g4 t.f0 t.f1 t.f2 (a ++ t.f3.drop i) t.f4 c t.f1 t.f2 t.f3)
      (P ++ ((zl t).drop i).flatMap (jc t.f0 c), t.f0, t.f1, t.f2, a ++ ((zl t).drop i).map (jm c), t.f4) := by
  have hV := vTask_iff.1 hv
  have hb := hV.b
  have hl := hV.len
  intro s
  induction s with
  | nil =>
    intro i P a hd ha hP
    have := drop_nil' hd
    have hz : (zl t).drop i = [] := List.drop_eq_nil_iff.2 (by rw [zl, List.length_zip]; omega)
    have hz3 : t.f3.drop i = [] := List.drop_eq_nil_iff.2 (by omega)
    refine Ev.s (fun k => by rw [spec_JoinChunk.l0]) (Ev.e (by omega) (Ev.s (fun k => by rw [spec_JoinChunk.j0]) (Ev.p.r ?_)))
    rw [hz, hz3]; simp
  | cons x s ih =>
    intro i P a hd ha hP
    obtain ⟨hi, hd', hx, -⟩ := drop_cons' hd
    obtain ⟨b, u, hb1, hz⟩ := part_zip hl hd
    have hz' : (zl t).drop i = (x, b) :: (zl t).drop (i + 1) := hz
    have hu : u = t.f3.drop (i + 1) := (drop_cons' hb1).2.1.symm
    rw [List.length_cons, Nat.succ_mul] at hP
    have hjl := jc_len t.f0 c (x, b)
    have nxt : ∀ (P' : List S75) (q0 q1 : Int) (bb : Bool), P' = P ++ jc t.f0 c (x, b) → nKey x.f0 c ≠ 0 →
        Ev (fun k => spec_JoinChunk.j1 k P' (i : Int) q0 q1 bb t.f0 t.f4 g0 g1 g2 g3 g4 t.f0 t.f1 t.f2 (a ++ t.f3.drop i) t.f4 c t.f1 t.f2 t.f3) (P ++ ((zl t).drop i).flatMap (jc t.f0 c), t.f0, t.f1, t.f2, a ++ ((zl t).drop i).map (jm c), t.f4) := by
      intro P' q0 q1 bb hP' hn
      subst hP'
      refine Ev.s (fun k => by rw [spec_JoinChunk.j1]) (Ev.t (by omega) (Ev.t (by rw [hb1]; simp; omega) ?_))
      rw [hb1, setM a b u ha, w64s hi (by omega)]
      have h := ih (i + 1) (P ++ jc t.f0 c (x, b)) (a ++ [true]) hd' (by simp [ha]) (by rw [List.length_append]; omega)
      simp only [List.append_assoc, List.singleton_append, ← hu] at h
      refine h.r ?_
      rw [hz', List.flatMap_cons, List.map_cons, show jm c (x, b) = true by simp [jm, hn]]
    have hfl : ((c.filter fun r => r.f0 == x.f0).map fun r => (⟨x, r, true⟩ : S75)).length ≤ c.length := by rw [List.length_map]; exact List.length_filter_le _ _
    have hval := (spec_IsValidTask_ev t (by have := hV.p; omega)).r hv
    refine Ev.s (fun k => by rw [spec_JoinChunk.l0]) ?_
    refine Ev.t (by omega) (Ev.b hval (Ev.t rfl (Ev.t (by omega) ?_)))
    rw [rdR, hx]
    refine Ev.b (spec_CountMatches_ev c _ _ _ (by omega)) (Ev.i (fun h => ?_) (fun h => ?_))
    · have hn : nKey x.f0 c = 0 := by omega
      rw [w64s hi (by omega)]
      have h := ih (i + 1) P (a ++ [b]) hd' (by simp [ha]) (by omega)
      simp only [List.append_assoc, List.singleton_append] at h
      rw [hb1, hu]
      refine h.r ?_
      rw [hz', List.flatMap_cons, List.map_cons, show jm c (x, b) = b by simp [jm, hn], show jc t.f0 c (x, b) = [] by simp [jc, hn], List.nil_append]
    · have hn : nKey x.f0 c ≠ 0 := by omega
      refine Ev.i (fun h2 => Ev.t (by omega) ?_) (fun h2 => ?_)
      · rw [rdBool _ _ hb1]
        refine Ev.i (fun h3 => nxt _ _ _ _ (by simp [jc, hn, h2, h3]) hn) (fun h3 => Ev.t (by omega) (nxt _ _ _ _ (by simp [jc, hn, h2, h3]) hn))
      · refine Ev.i (fun h3 => ?_) (fun h3 => ?_)
        · refine Ev.s (fun k => by rw [spec_JoinChunk.j2]) (Ev.t (by simp [h3]) (Ev.t (by omega) (Ev.t (by omega) ?_)))
          rw [rdR, hx]
          exact Ev.b (spec_l7One_1 c (by omega) x hn) (Ev.t (by omega) (nxt _ _ _ _ (by simp [jc, hn, h3]) hn))
        · refine Ev.s (fun k => by rw [spec_JoinChunk.j2]) (Ev.i (fun h4 => Ev.t (by omega) (Ev.t (by omega) ?_)) (fun h4 => ?_))
          · have h4' : t.f0 = 4 := by simpa using h4
            rw [rdR, hx]
            exact Ev.b (spec_l7One_1 c (by omega) x hn) (Ev.t (by omega) (nxt _ _ _ _ (by simp [jc, hn, h4']) hn))
          · have h4' : ¬ t.f0 = 4 := by simpa using h4
            exact nxt _ _ _ _ (by simp [jc, hn, h2, h3, h4']) hn
theorem spec_JoinChunk_ev (t : S37) (c : List S62) (ht : tsz t ≤ 1099511627776) (hc : c.length ≤ 2097152) : Ev (fun k => spec_JoinChunk.f k t.f0 t.f1 t.f2 t.f3 t.f4 c) (ptup (jP t c) (jT t c)) := by
  refine Ev.u (fun _ => rfl) (Ev.b (Ev.c (spec_l16Copy_eq t ht)) ?_)
  by_cases h : vTask t = true
  · have hb := (vTask_iff.1 h).b
    have := spec_JoinChunk_l0 t c h hc 0 0 [] [] [] t.f1 0 [] [] rfl rfl (by
      have := Nat.mul_le_mul_right (c.length + 1) hb.1
      simp only [List.length_nil]; omega)
    refine this.r ?_
    simp [ptup, jP, jT, h]
  · have hr : ptup (jP t c) (jT t c) = ([], t.f0, t.f1, t.f2, t.f3, t.f4) := by simp [ptup, jP, jT, h]
    rw [hr]
    refine Ev.s (fun k => by rw [spec_JoinChunk.l0]) ?_
    refine Ev.i (fun _ => Ev.b (spec_IsValidTask_ev t (by omega)) (Ev.e h ?_)) (fun _ => ?_)
    · refine Ev.s (fun k => by rw [spec_JoinChunk.j0]) Ev.p
    · refine Ev.s (fun k => by rw [spec_JoinChunk.j0]) Ev.p
theorem jT_sz (t : S37) (c : List S62) : tsz (jT t c) ≤ tsz t ∧ nTask (jT t c) ≤ nTask t ∧ 0 ≤ nTask (jT t c) := by
  unfold jT
  split
  · have : ((zl t).map (jm c)).length ≤ t.f3.length := by rw [List.length_map, zl, List.length_zip]; omega
    unfold tsz nTask
    simp only
    omega
  · unfold nTask; exact ⟨Nat.le_refl _, by omega, by omega⟩
theorem flatMap_len {α β : Type} (f : α → List β) (n : Nat) (h : ∀ x, (f x).length ≤ n) : ∀ l : List α, (l.flatMap f).length ≤ l.length * n
  | [] => by simp
  | x :: l => by rw [List.flatMap_cons, List.length_append, List.length_cons, Nat.succ_mul]; have := h x; have := flatMap_len f n h l; omega
theorem jP_len (t : S37) (c : List S62) : (jP t c).length ≤ 24 * (c.length + 1) := by
  unfold jP
  split
  · rename_i h
    have := flatMap_len (jc t.f0 c) (c.length + 1) (jc_len t.f0 c) (zl t)
    have hz : (zl t).length ≤ 24 := by rw [zl, List.length_zip]; have := (vTask_iff.1 h).b; omega
    exact Nat.le_trans this (Nat.mul_le_mul_right _ hz)
  · simp

def ur (p : S62 × Bool) : List S75 := if p.2 = true then [] else [⟨p.1, ⟨0, 0, 0⟩, false⟩]
def uR (t : S37) : List S75 := if vTask t = true ∧ (t.f0 = 3 ∨ t.f0 = 4) then (zl t).flatMap ur else []
theorem impl_UnmatchedRows_l0 (t : S37) (hl : t.f3.length = t.f1.length) (hb : t.f1.length ≤ 24) (a b : Int) : ∀ (s : List S62) (i : Nat) (P : List S75), t.f1.drop i = s → P.length ≤ i → Ev (fun k => impl_UnmatchedRows.l0 k P (t.f1.length : Int) (i : Int) a b t.f1 t.f2 t.f3) (P ++ ((zl t).drop i).flatMap ur) := by
  intro s
  induction s with
  | nil =>
    intro i P hd hP
    have := drop_nil' hd
    have hz : (zl t).drop i = [] := List.drop_eq_nil_iff.2 (by rw [zl, List.length_zip]; omega)
    exact Ev.s (fun k => by rw [impl_UnmatchedRows.l0]) (Ev.e (by omega) (Ev.p.r (by rw [hz]; simp)))
  | cons x s ih =>
    intro i P hd hP
    obtain ⟨hi, hd', hx, -⟩ := drop_cons' hd
    obtain ⟨b', u, hb1, hz⟩ := part_zip hl hd
    have hz' : (zl t).drop i = (x, b') :: (zl t).drop (i + 1) := hz
    refine Ev.s (fun k => by rw [impl_UnmatchedRows.l0]) (Ev.t (by omega) (Ev.t (by omega) (Ev.t (by omega) (Ev.t (by omega) ?_))))
    rw [rdBool _ _ hb1, rdR, hx, w64s hi (by omega)]
    refine Ev.i (fun h => (ih (i + 1) P hd' (by omega)).r ?_) (fun h => Ev.t (by omega) ((ih (i + 1) _ hd' (by simp; omega)).r ?_))
    · rw [hz', List.flatMap_cons]; simp [ur, h]
    · rw [hz', List.flatMap_cons]; simp [ur, h]
theorem impl_UnmatchedRows_ev (t : S37) (ht : tsz t ≤ 1099511627776) : Ev (fun k => impl_UnmatchedRows.f k t.f0 t.f1 t.f2 t.f3 t.f4) (uR t) := by
  have hj : ∀ a b, vTask t = true → (t.f0 = 3 ∨ t.f0 = 4) → Ev (fun k => impl_UnmatchedRows.j0 k a b t.f1 t.f2 t.f3) (uR t) := by
    intro a b h h2
    have hv := vTask_iff.1 h
    refine Ev.s (fun k => by rw [impl_UnmatchedRows.j0]) ?_
    exact (impl_UnmatchedRows_l0 t hv.len hv.b.1 a b t.f1 0 [] rfl (by simp)).r (by simp [uR, h, h2])
  refine Ev.u (fun _ => rfl) (Ev.b (impl_IsValidTask_ev t (by omega)) (Ev.i (fun h => Ev.i (fun h3 => hj _ _ h (.inl h3)) (fun h3 => Ev.i (fun h4 => hj _ _ h (.inr h4)) (fun h4 => Ev.p.r ?_))) (fun h => Ev.p.r ?_)))
  · simp [uR, h3, h4]
  · simp [uR, h]
theorem spec_UnmatchedRows_l0 (t : S37) (hv : vTask t = true) : ∀ (s : List S62) (i : Nat) (P : List S75), t.f1.drop i = s → P.length ≤ i → Ev (fun k => spec_UnmatchedRows.l0 k P (i : Int) t.f0 t.f4 t.f1 t.f2 t.f3) (P ++ if t.f0 = 3 ∨ t.f0 = 4 then ((zl t).drop i).flatMap ur else []) := by
  have hV := vTask_iff.1 hv
  have hb := hV.b
  have hl := hV.len
  have hval := (spec_IsValidTask_ev t (by have := hV.p; omega)).r hv
  intro s
  induction s with
  | nil =>
    intro i P hd hP
    have := drop_nil' hd
    have hz : (zl t).drop i = [] := List.drop_eq_nil_iff.2 (by rw [zl, List.length_zip]; omega)
    exact Ev.s (fun k => by rw [spec_UnmatchedRows.l0]) (Ev.e (by omega) (Ev.p.r (by rw [hz]; simp)))
  | cons x s ih =>
    intro i P hd hP
    obtain ⟨hi, hd', hx, -⟩ := drop_cons' hd
    obtain ⟨b', u, hb1, hz⟩ := part_zip hl hd
    have hz' : (zl t).drop i = (x, b') :: (zl t).drop (i + 1) := hz
    refine Ev.s (fun k => by rw [spec_UnmatchedRows.l0]) ?_
    refine Ev.t (by omega) (Ev.b hval (Ev.t rfl (Ev.t (by omega) (Ev.t (by omega) ?_))))
    rw [rdBool _ _ hb1, rdR, hx, w64s hi (by omega)]
    refine Ev.i (fun h => (ih (i + 1) P hd' (by omega)).r ?_) (fun h => Ev.i (fun h3 => Ev.t (by omega) ((ih (i + 1) _ hd' (by simp; omega)).r ?_)) (fun h3 => Ev.i (fun h4 => Ev.t (by omega) ((ih (i + 1) _ hd' (by simp; omega)).r ?_)) (fun h4 => (ih (i + 1) P hd' (by omega)).r ?_)))
    · rw [hz', List.flatMap_cons]; simp [ur, h]
    · rw [hz', List.flatMap_cons]; simp [ur, h, h3]
    · rw [hz', List.flatMap_cons]; simp [ur, h, h4]
    · simp [h3, h4]
theorem spec_UnmatchedRows_ev (t : S37) (ht : tsz t ≤ 1099511627776) : Ev (fun k => spec_UnmatchedRows.f k t.f0 t.f1 t.f2 t.f3 t.f4) (uR t) := by
  refine Ev.u (fun k => by rw [spec_UnmatchedRows.f]) ?_
  by_cases h : vTask t = true
  · refine (spec_UnmatchedRows_l0 t h t.f1 0 [] rfl (by simp)).r ?_
    simp [uR, h]
  · have hr : uR t = [] := by simp [uR, h]
    rw [hr]
    refine Ev.s (fun k => by rw [spec_UnmatchedRows.l0]) ?_
    exact Ev.i (fun _ => Ev.b (spec_IsValidTask_ev t (by omega)) (Ev.e h Ev.p)) (fun _ => Ev.p)
theorem ur_len (p : S62 × Bool) : (ur p).length ≤ 1 := by unfold ur; split <;> simp
theorem uR_len (t : S37) : (uR t).length ≤ 24 := by
  unfold uR
  split
  · rename_i h
    have := flatMap_len ur 1 ur_len (zl t)
    have hz : (zl t).length ≤ 24 := by rw [zl, List.length_zip]; have := (vTask_iff.1 h.1).b; omega
    omega
  · simp
/-- How many rows of s join n rows that cost c. -/
def nxt : Int → Int → List S62 → Nat
  | _, _, [] => 0
  | g, c, x :: s => if c + cRow x ≤ g then nxt g (c + cRow x) s + 1 else 0
def nC (l : List S62) (g : Int) : Nat := match l with | [] => 0 | x :: s => nxt g (cRow x) s + 1
theorem tCost_app (a b : List S62) : tCost (a ++ b) = tCost a + tCost b := by simp [tCost]
theorem impl_NextChunk_j0 (l : List S62) (hl : l.length ≤ 1099511627776) (n : Nat) (hn : n ≤ l.length) : Ev (fun k => impl_NextChunk.j0 k (n : Int) l) (l.take n, l.drop n) := by
  refine Ev.s (fun k => by rw [impl_NextChunk.j0]) ?_
  refine Ev.t (by omega) (Ev.t (by omega) (Ev.b (Ev.c (impl_clone_eq _ (by simp; omega))) (Ev.b (Ev.c (impl_clone_eq _ (by simp; omega))) (Ev.p.r ?_))))
  simp
theorem impl_NextChunk_l0 (l : List S62) (g : Int) (hl : l.length ≤ 1099511627776) : ∀ (s : List S62) (i : Nat), l.drop i = s → 1 ≤ i → i ≤ l.length → Ev (fun k => impl_NextChunk.l0 k g (i : Int) l) (l.take (i + nxt g (tCost (l.take i)) s), l.drop (i + nxt g (tCost (l.take i)) s)) := by
  intro s
  induction s with
  | nil =>
    intro i hd hi0 hil
    have h1 := drop_nil' hd
    have hi : i = l.length := by omega
    refine Ev.s (fun k => by rw [impl_NextChunk.l0]) (Ev.e (by omega) ?_)
    exact (impl_NextChunk_j0 l hl i (by omega)).r (by simp [nxt])
  | cons x s ih =>
    intro i hd hi0 hil
    obtain ⟨hi, hd', hx, -⟩ := drop_cons' hd
    have htk : tCost (l.take (i + 1)) = tCost (l.take i) + cRow x := by
      rw [List.take_succ_eq_append_getElem hi, tCost_app]
      have := hx z62
      rw [List.getD_eq_getElem?_getD, List.getElem?_eq_getElem hi] at this
      simp at this
      rw [this]; simp [tCost]
    refine Ev.s (fun k => by rw [impl_NextChunk.l0]) ?_
    rw [w64s hi (by omega)]
    refine Ev.t (by omega) (Ev.t (by omega) (Ev.t (by omega) (Ev.b (impl_TotalCost_ev _ (by simp; omega)) ?_)))
    rw [Int.toNat_natCast, htk]
    refine Ev.i (fun h => ?_) (fun h => ?_)
    · refine (ih (i + 1) hd' (by omega) (by omega)).r ?_
      rw [htk, nxt, if_pos h, show i + (nxt g (tCost (l.take i) + cRow x) s + 1) = i + 1 + nxt g (tCost (l.take i) + cRow x) s by omega]
    · refine (impl_NextChunk_j0 l hl i (by omega)).r ?_
      rw [nxt, if_neg h]; rfl
theorem mn1 (l : List S62) : mn 1 (l.length : Int) = ((min 1 l.length : Nat) : Int) := by unfold mn; split <;> omega
theorem impl_NextChunk_ev (l : List S62) (g : Int) (hl : l.length ≤ 1099511627776) : Ev (fun k => impl_NextChunk.f k l g) (l.take (nC l g), l.drop (nC l g)) := by
  refine Ev.u (fun k => by rw [impl_NextChunk.f, mn1]) ?_
  cases l with
  | nil =>
    refine Ev.s (fun k => by rw [impl_NextChunk.l0]) (Ev.e (by simp) ?_)
    exact (impl_NextChunk_j0 [] (by simp) 0 (by simp)).r (by simp)
  | cons x s =>
    have hm : min 1 (x :: s).length = 1 := by simp
    rw [hm]
    refine (impl_NextChunk_l0 (x :: s) g hl s 1 rfl (by omega) (by simp)).r ?_
    rw [show tCost ((x :: s).take 1) = cRow x by simp [tCost], nC, Nat.add_comm]
theorem spec_NextChunk_j0 (l : List S62) (hl : l.length ≤ 1099511627776) (n : Nat) (hn : n ≤ l.length) : Ev (fun k => spec_NextChunk.j0 k (n : Int) l) (l.take n, l.drop n) := by
  refine Ev.s (fun k => by rw [spec_NextChunk.j0]) ?_
  refine Ev.t (by omega) (Ev.t (by omega) (Ev.t (by simp; omega) (Ev.t (by simp; omega) (Ev.p.r ?_))))
  simp
theorem spec_NextChunk_l0 (l : List S62) (g : Int) (hl : l.length ≤ 1099511627776) : ∀ (s : List S62) (i : Nat) (c : Int), l.drop i = s → i ≤ l.length → 1 ≤ i → 0 ≤ c → c ≤ 4 * i → Ev (fun k => spec_NextChunk.l0 k g c (i : Int) l) (l.take (i + nxt g c s), l.drop (i + nxt g c s)) := by
  intro s
  induction s with
  | nil =>
    intro i c hd hil h1 h2 h3
    have := drop_nil' hd
    refine Ev.s (fun k => by rw [spec_NextChunk.l0]) (Ev.e (by omega) ?_)
    exact (spec_NextChunk_j0 l hl i (by omega)).r (by simp [nxt])
  | cons x s ih =>
    intro i c hd hil h1 h2 h3
    obtain ⟨hi, hd', hx, -⟩ := drop_cons' hd
    have hc := cRow_b x
    refine Ev.s (fun k => by rw [spec_NextChunk.l0]) ?_
    refine Ev.t (by omega) (Ev.e (by omega) (Ev.t (by omega) ?_))
    rw [rdR, hx]
    refine Ev.b (Ev.c (spec_RowCost_eq x)) ?_
    rw [w64 (x := c + cRow x) (by omega) (by omega)]
    refine Ev.i (fun h => ?_) (fun h => ?_)
    · refine Ev.s (fun k => by rw [spec_NextChunk.j1]) ?_
      refine Ev.t (by omega) (Ev.t (by omega) ?_)
      rw [rdR, hx]
      refine Ev.b (Ev.c (spec_RowCost_eq x)) ?_
      rw [w64 (x := c + cRow x) (by omega) (by omega), w64s hi (by omega)]
      refine (ih (i + 1) (c + cRow x) hd' (by omega) (by omega) (by omega) (by omega)).r ?_
      rw [nxt, if_pos h, show i + (nxt g (c + cRow x) s + 1) = i + 1 + nxt g (c + cRow x) s by omega]
    · refine (spec_NextChunk_j0 l hl i (by omega)).r ?_
      rw [nxt, if_neg h]; rfl
theorem spec_NextChunk_ev (l : List S62) (g : Int) (hl : l.length ≤ 1099511627776) : Ev (fun k => spec_NextChunk.f k l g) (l.take (nC l g), l.drop (nC l g)) := by
  refine Ev.u (fun k => by rw [spec_NextChunk.f]) ?_
  cases l with
  | nil =>
    refine Ev.s (fun k => by rw [spec_NextChunk.l0]) (Ev.e (by simp) ?_)
    exact (spec_NextChunk_j0 [] (by simp) 0 (by simp)).r (by simp)
  | cons x s =>
    have hc := cRow_b x
    rw [List.length_cons] at hl
    have r0 : rd_T62 (x :: s) 0 = x := rfl
    refine Ev.s (fun k => by rw [spec_NextChunk.l0]) ?_
    refine Ev.t (by simp) (Ev.t rfl ?_)
    refine Ev.s (fun k => by rw [spec_NextChunk.j1]) ?_
    refine Ev.t (by omega) (Ev.t (by simp) ?_)
    rw [r0]
    refine Ev.b (Ev.c (spec_RowCost_eq x)) ?_
    rw [w64 (x := 0 + cRow x) (by omega) (by omega), show (0 : Int) + cRow x = cRow x by omega, show wrap64 (0 + 1) = ((1 : Nat) : Int) by rw [w64 (by omega) (by omega)]; rfl]
    refine (spec_NextChunk_l0 (x :: s) g (by simp; omega) s 1 (cRow x) rfl (by simp) (by omega) (by omega) (by omega)).r ?_
    rw [nC, Nat.add_comm]
def nTk (kind : Int) (a b : List S62) : Bool := inB kind 1 4 && (vRows a && vRows b)
def newT (kind : Int) (a b : List S62) : S37 := if nTk kind a b = true then ⟨kind, a, b, List.replicate a.length false, 0⟩ else z37
abbrev ttup (t : S37) (r : Bool) : Int × List S62 × List S62 × List Bool × Int × Bool := (t.f0, t.f1, t.f2, t.f3, t.f4, r)
theorem newT_no {kind : Int} {a b : List S62} (h : nTk kind a b = false) : ttup (newT kind a b) (nTk kind a b) = (0, [], [], [], 0, false) := by simp [ttup, newT, h, z37]
theorem impl_NewTask_ev (kind : Int) (a b : List S62) (ha : a.length ≤ 1099511627776) (hb : b.length ≤ 1099511627776) : Ev (fun k => impl_NewTask.f k kind a b) (ttup (newT kind a b) (nTk kind a b)) := by
  refine Ev.u (fun _ => rfl) (Ev.b (Ev.c (impl_IsValidJoinKind_eq _)) (Ev.i (fun h1 => Ev.b (impl_AreValidRows_ev _ (by omega)) (Ev.i (fun h2 => Ev.b (impl_AreValidRows_ev _ (by omega)) (Ev.i (fun h3 => Ev.t (by omega) (Ev.t (by simp; omega) (Ev.b (Ev.c (impl_clone_eq _ (by omega))) (Ev.b (Ev.c (impl_clone_eq _ (by omega))) (Ev.p.r ?_))))) (fun h3 => Ev.p.r ?_))) (fun h2 => Ev.p.r ?_))) (fun h1 => Ev.p.r ?_)))
  · simp [ttup, newT, nTk, h1, h2, h3]
  all_goals (rw [newT_no (by simp [nTk, *])])
theorem spec_NewTask_ev (kind : Int) (a b : List S62) (ha : a.length ≤ 1099511627776) (hb : b.length ≤ 1099511627776) : Ev (fun k => spec_NewTask.f k kind a b) (ttup (newT kind a b) (nTk kind a b)) := by
  refine Ev.u (fun _ => rfl) (Ev.b (Ev.c (spec_IsValidJoinKind_eq _)) (Ev.i (fun h1 => Ev.b (spec_AreValidRows_ev _ (by omega)) (Ev.i (fun h2 => Ev.b (spec_AreValidRows_ev _ (by omega)) (Ev.i (fun h3 => Ev.t (by omega) (Ev.t (by omega) (Ev.t (by omega) (Ev.t (by simp; omega) (Ev.p.r ?_))))) (fun h3 => Ev.p.r ?_))) (fun h2 => Ev.p.r ?_))) (fun h1 => Ev.p.r ?_)))
  · simp [ttup, newT, nTk, h1, h2, h3]
  all_goals (rw [newT_no (by simp [nTk, *])])
theorem newT_VT {kind : Int} {a b : List S62} (h : nTk kind a b = true) : VT (newT kind a b) := by
  have h' := h
  simp [nTk, inB] at h'
  rw [newT, if_pos h]
  exact ⟨h'.1, h'.2.1, h'.2.2, by simp, by simp⟩

def bn (g : Int) : Nat → List S75 → Nat → List S62 → S37 → List S75 × Nat
  | 0, P, n, _, T => (P ++ uR T, n)
  | m + 1, P, n, R, T => if R.length = 0 then (P ++ uR T, n) else bn g m (P ++ jP T (R.take (nC R g))) (n + 1) (R.drop (nC R g)) (jT T (R.take (nC R g)))
theorem nC_pos {R : List S62} {g : Int} (h : R.length ≠ 0) : 1 ≤ nC R g := by
  cases R with
  | nil => simp at h
  | cons x s => rw [nC]; omega
theorem bn_len (g : Int) : ∀ (m : Nat) (P : List S75) (n : Nat) (R : List S62) (T : S37), R.length ≤ 1048576 → (bn g m P n R T).1.length ≤ P.length + m * 67108864 + 24
  | 0, P, n, R, T, _ => by have := uR_len T; simp [bn]; omega
  | m + 1, P, n, R, T, h => by
    have := uR_len T
    rw [bn]
    split
    · simp; omega
    · refine Nat.le_trans (bn_len g m _ _ _ _ (by simp; omega)) ?_
      have h1 := jP_len T (R.take (nC R g))
      have h2 : (R.take (nC R g)).length ≤ R.length := List.length_take_le' _ _
      rw [List.length_append, Nat.succ_mul]; omega
theorem impl_Bnl_l0 (g : Int) : ∀ (m : Nat) (P : List S75) (n : Nat) (R : List S62) (T : S37), R.length ≤ m → m ≤ 24 → tsz T ≤ 1048576 → n + m ≤ 1000000 → P.length + m * 67108864 + 24 ≤ 1099511627776 →
    Ev (fun k => impl_BlockNestedLoopJoin.l0 k g P (n : Int) R T.f0 T.f1 T.f2 T.f3 T.f4) ((bn g m P n R T).1, (((bn g m P n R T).2 : Nat) : Int), true) := by
  intro m
  induction m with
  | zero =>
    intro P n R T hR hm hT hn hP
    have hu := uR_len T
    refine Ev.s (fun k => by rw [impl_BlockNestedLoopJoin.l0]) ?_
    exact Ev.e (by omega) (Ev.b (impl_UnmatchedRows_ev T (by omega)) (Ev.t (by omega) Ev.p))
  | succ m ih =>
    intro P n R T hR hm hT hn hP
    have hu := uR_len T
    rw [bn]
    refine Ev.s (fun k => by rw [impl_BlockNestedLoopJoin.l0]) ?_
    by_cases h : R.length = 0
    · rw [if_pos h]
      exact Ev.e (by omega) (Ev.b (impl_UnmatchedRows_ev T (by omega)) (Ev.t (by omega) Ev.p))
    · rw [if_neg h]
      have hc := nC_pos (g := g) h
      have h1 := jP_len T (R.take (nC R g))
      have h2 : (R.take (nC R g)).length ≤ R.length := List.length_take_le' _ _
      have h3 := (jT_sz T (R.take (nC R g))).1
      have h4 : (R.drop (nC R g)).length = R.length - nC R g := List.length_drop
      rw [Nat.succ_mul] at hP
      refine Ev.t (by omega) (Ev.b (impl_NextChunk_ev R g (by omega)) (Ev.b (impl_JoinChunk_ev T (R.take (nC R g)) (by omega) (by omega)) (Ev.t (by show P.length + (jP T _).length ≤ _; omega) ?_)))
      rw [show wrap64 ((n : Int) + 1) = ((n + 1 : Nat) : Int) by rw [w64 (by omega) (by omega)]; rfl]
      exact ih (P ++ jP T (R.take (nC R g))) (n + 1) (R.drop (nC R g)) (jT T (R.take (nC R g))) (by omega) (by omega) (by omega) (by omega) (by rw [List.length_append]; omega)
theorem spec_Bnl_l0 (g : Int) : ∀ (m : Nat) (P : List S75) (n : Nat) (R : List S62) (T : S37), R.length ≤ m → m ≤ 24 → tsz T ≤ 1048576 → n + m ≤ 1000000 → P.length + m * 67108864 + 24 ≤ 1099511627776 →
    Ev (fun k => spec_BlockNestedLoopJoin.l0 k g P (n : Int) R T.f0 T.f1 T.f2 T.f3 T.f4) ((bn g m P n R T).1, (((bn g m P n R T).2 : Nat) : Int), true) := by
  intro m
  induction m with
  | zero =>
    intro P n R T hR hm hT hn hP
    have hu := uR_len T
    refine Ev.s (fun k => by rw [spec_BlockNestedLoopJoin.l0]) ?_
    exact Ev.e (by omega) (Ev.b (spec_UnmatchedRows_ev T (by omega)) (Ev.t (by omega) Ev.p))
  | succ m ih =>
    intro P n R T hR hm hT hn hP
    have hu := uR_len T
    rw [bn]
    refine Ev.s (fun k => by rw [spec_BlockNestedLoopJoin.l0]) ?_
    by_cases h : R.length = 0
    · rw [if_pos h]
      exact Ev.e (by omega) (Ev.b (spec_UnmatchedRows_ev T (by omega)) (Ev.t (by omega) Ev.p))
    · rw [if_neg h]
      have hc := nC_pos (g := g) h
      have h1 := jP_len T (R.take (nC R g))
      have h2 : (R.take (nC R g)).length ≤ R.length := List.length_take_le' _ _
      have h3 := (jT_sz T (R.take (nC R g))).1
      have h4 : (R.drop (nC R g)).length = R.length - nC R g := List.length_drop
      rw [Nat.succ_mul] at hP
      refine Ev.t (by omega) (Ev.b (spec_NextChunk_ev R g (by omega)) (Ev.b (spec_JoinChunk_ev T (R.take (nC R g)) (by omega) (by omega)) (Ev.t (by show P.length + (jP T _).length ≤ _; omega) ?_)))
      rw [show wrap64 ((n : Int) + 1) = ((n + 1 : Nat) : Int) by rw [w64 (by omega) (by omega)]; rfl]
      exact ih (P ++ jP T (R.take (nC R g))) (n + 1) (R.drop (nC R g)) (jT T (R.take (nC R g))) (by omega) (by omega) (by omega) (by omega) (by rw [List.length_append]; omega)
theorem impl_isGrant_eq (g : Int) : impl_isGrant.f g = some (inB g 8 60) := by unfold impl_isGrant.f; rw [within_eq]; rfl
def bnOk (kind : Int) (a b : List S62) (g : Int) : Bool := nTk kind a b && inB g 8 60
def bnP (kind : Int) (a b : List S62) (g : Int) : List S75 := if bnOk kind a b g = true then (bn g b.length [] 0 b (newT kind a b)).1 else []
def bnN (kind : Int) (a b : List S62) (g : Int) : Int := if bnOk kind a b g = true then ((bn g b.length [] 0 b (newT kind a b)).2 : Nat) else 0
theorem bn_no {kind : Int} {a b : List S62} {g : Int} (h : bnOk kind a b g = false) : (bnP kind a b g, bnN kind a b g, bnOk kind a b g) = ([], 0, false) := by simp [bnP, bnN, h]
theorem nTk_len {kind : Int} {a b : List S62} (h : nTk kind a b = true) : a.length ≤ 24 ∧ b.length ≤ 24 := by
  have h' := h
  simp [nTk] at h'
  exact ⟨vRows_len h'.2.1, vRows_len h'.2.2⟩
theorem bnP_len (kind : Int) (a b : List S62) (g : Int) : (bnP kind a b g).length ≤ 1610612760 := by
  unfold bnP
  split
  · rename_i h
    have hb : b.length ≤ 24 := (nTk_len (by unfold bnOk at h; rw [Bool.and_eq_true] at h; exact h.1)).2
    have := bn_len g b.length [] 0 b (newT kind a b) (by omega)
    simp only [List.length_nil] at this; omega
  · simp
theorem impl_Bnl_ev (kind : Int) (a b : List S62) (g : Int) (ha : a.length ≤ 1099511627776) (hb : b.length ≤ 1099511627776) : Ev (fun k => impl_BlockNestedLoopJoin.f k kind a b g) (bnP kind a b g, bnN kind a b g, bnOk kind a b g) := by
  refine Ev.u (fun _ => rfl) (Ev.b (impl_NewTask_ev kind a b ha hb) ?_)
  refine Ev.i (fun h => Ev.b (Ev.c (impl_isGrant_eq g)) (Ev.i (fun h2 => ?_) (fun h2 => ?_))) (fun h => ?_)
  · have h' : nTk kind a b = true := h
    have hl := nTk_len h'
    have hp := (newT_VT h').p
    have e2 : (newT kind a b).f2 = b := by rw [newT, if_pos h']
    refine (impl_Bnl_l0 g b.length [] 0 b (newT kind a b) (Nat.le_refl _) hl.2 (by omega) (by omega) (by simp; omega)).r' ?_ ?_
    · intro k; exact congrArg (fun R => impl_BlockNestedLoopJoin.l0 k g [] 0 R (newT kind a b).f0 (newT kind a b).f1 (newT kind a b).f2 (newT kind a b).f3 (newT kind a b).f4) e2.symm
    · simp [bnP, bnN, bnOk, h', h2]
  · rw [bn_no (by simp [bnOk, h2])]; exact Ev.p
  · have h' : ¬ nTk kind a b = true := h
    rw [bn_no (by simp [bnOk, h'])]; exact Ev.p
theorem spec_Bnl_ev (kind : Int) (a b : List S62) (g : Int) (ha : a.length ≤ 1099511627776) (hb : b.length ≤ 1099511627776) : Ev (fun k => spec_BlockNestedLoopJoin.f k kind a b g) (bnP kind a b g, bnN kind a b g, bnOk kind a b g) := by
  refine Ev.u (fun _ => rfl) (Ev.b (spec_NewTask_ev kind a b ha hb) ?_)
  refine Ev.i (fun h => Ev.b (Ev.c (l1In_eq g 8 60)) (Ev.i (fun h2 => ?_) (fun h2 => ?_))) (fun h => ?_)
  · have h' : nTk kind a b = true := h
    have hl := nTk_len h'
    have hp := (newT_VT h').p
    refine (spec_Bnl_l0 g b.length [] 0 b (newT kind a b) (Nat.le_refl _) hl.2 (by omega) (by omega) (by simp; omega)).r' ?_ ?_
    · intro k; rfl
    · simp [bnP, bnN, bnOk, h', h2]
  · rw [bn_no (by simp [bnOk, h2])]; exact Ev.p
  · have h' : ¬ nTk kind a b = true := h
    rw [bn_no (by simp [bnOk, h'])]; exact Ev.p
theorem pure_FnExactBlockNestedLoopJoin (a0 : Int) (l1 : List S64) (l2 : List S64) (a3 : Int) (w0 : (Lit.int .i64 a0).wf = true) (G1 : (l1.length ≤ maxLen ∧ ∀ y ∈ l1, good64 y)) (G2 : (l2.length ≤ maxLen ∧ ∀ y ∈ l2, good64 y)) (w3 : (Lit.int .i64 a3).wf = true) : ∃ k, laws_FnExactBlockNestedLoopJoin.f k a0 l1 l2 a3 = some true := by
  have g1 := G1.1
  have g2 := G2.1
  refine Ev.ex ?_
  by_cases s1 : (1048576 : Int) - l1.length < 0
  · exact Ev.u (fun _ => rfl) (Ev.b (Ev.c (szRowS_neg l1 _ (by omega) (by omega) g1 s1)) (Ev.t (by omega) Ev.p))
  refine Ev.u (fun _ => rfl) (Ev.b (Ev.c (szRowS_pos l1 _ (by omega) (by omega) s1)) (Ev.e s1 ?_))
  by_cases s2 : (1048576 : Int) - l1.length - l2.length < 0
  · exact Ev.b (Ev.c (szRowS_neg l2 _ (by omega) (by omega) g2 s2)) (Ev.t (by omega) Ev.p)
  refine Ev.b (Ev.c (szRowS_pos l2 _ (by omega) (by omega) s2)) (Ev.e s2 ?_)
  have t1 := toRowS_ev l1 (by omega)
  have t2 := toRowS_ev l2 (by omega)
  have n1 : (l1.map cvRow).length ≤ 1048576 := by rw [List.length_map]; omega
  have n2 : (l2.map cvRow).length ≤ 1048576 := by rw [List.length_map]; omega
  generalize l1.map cvRow = A at *
  generalize l2.map cvRow = B at *
  have es := spec_Bnl_ev a0 A B a3 (by omega) (by omega)
  have ei := impl_Bnl_ev a0 A B a3 (by omega) (by omega)
  have zp := bnP_len a0 A B a3
  generalize bnP a0 A B a3 = Q at *
  have qp := eqPairS_ev Q (by omega)
  have qa := eqRowS_ev A (by omega)
  have qb := eqRowS_ev B (by omega)
  have mA := markRowS_ev A 1 (by omega) (by omega)
  have mB := markRowS_ev B (1 + 3 * A.length) (by omega) (by omega)
  have mQ := markPairS_ev Q 1 (by omega) (by omega)
  have dQ := heldPairS_ev Q 1 (by omega) (by omega)
  refine Ev.b t1 (Ev.b t2 (Ev.b es (Ev.b t1 (Ev.b t2 (Ev.b ei (Ev.b qp (Ev.t rfl (Ev.t rfl (Ev.t (by simp) ?_)))))))))
  refine Ev.b t1 (Ev.b qa (Ev.t rfl (Ev.b t2 (Ev.b qb (Ev.t rfl (Ev.b mA (Ev.b mB (Ev.e (by simp only []; omega) ?_))))))))
  refine Ev.b qp (Ev.t rfl (Ev.b mQ (Ev.b dQ (Ev.e (by omega) (Ev.t rfl ?_)))))
  refine Ev.b t1 (Ev.b t2 (Ev.b ei (Ev.b qp (Ev.t rfl (Ev.t rfl (Ev.t (by simp) ?_))))))
  exact Ev.b dQ (Ev.e (by omega) (Ev.t rfl Ev.p))

end Go.Proofs.Ythciieopabndcaa.K
namespace Go.Proofs.Ythciieopabndcaa.fnExactBlockNestedLoopJoin
open Go Go.ChangeShapes Go.WideShapes Go.ChangeAt Go.RowKit Go.Proofs.Ythciieopabndcaa.K
open Go.ChangeMaps (open_string shut_string)
set_option linter.unusedVariables false
theorem own : ownKnob Try.prog.godebug = none := by kernel_rfl
theorem laidOut : laidOutB Try.prog = true := by kernel_rfl
set_option maxRecDepth 100000 in
theorem lifted (os : Os) (started : os.Started) (H : Type) (enc : TypeId × Value → H) :
    ReturnsInHanded {} Try.checked os 13 .any (Rows.fnExactBlockNestedLoopJoinSpec.pre6 enc Try.prog Try.f13 Rows.fnExactBlockNestedLoopJoinRow.domain false) (Rows.fnExactBlockNestedLoopJoinSpec.post enc Try.prog Try.f13 false true false false) := by
  refine returnsInHanded_of_change_sized (C := Try.checked) own started (by kernel_rfl) Try.func13
    (ChangeSpec.witness6 (enc := enc) (C := Try.checked) false ⟨#[], #[.int .i64 0, .slice none 0 0, .slice none 0 0, .int .i64 0], []⟩ 8 (by kernel_rfl) (by kernel_rfl) (by kernel_rfl) (by kernel_rfl)) ?_
  intro W base args ds gs before hval0 hW hcnd hsz0 _
  have hsz : (DataW.weightsEach Try.prog (Try.f13.params.toList ++ Rows.fnExactBlockNestedLoopJoinSpec.plain.varTypes Try.prog) (ds ++ gs)).all (· ≤ reachBytes) = true := hsz0
  have hval : ∀ (j : Nat) t v, Try.f13.params[j]? = some t → args[j]? = some v → Value.okWide Try.prog W .any base t v := hval0
  have hW' := hW
  obtain ⟨p, q, hA0, hV, rfl, hfz, hnd⟩ := hW
  have hA : DataW.TrodAll enc Try.prog W 0 (fun _ => true) true Try.f13.params.toList args.toList ds p := hA0
  rw [Try.params13] at hA hval hsz
  obtain ⟨v0, vs0, d0, ds0, p0, q0, hargs, rfl, rfl, h0, r0⟩ := trodAll_cons hA
  obtain ⟨v1, vs1, d1, ds1, p1, q1, rfl, rfl, rfl, h1, r1⟩ := trodAll_cons r0
  obtain ⟨v2, vs2, d2, ds2, p2, q2, rfl, rfl, rfl, h2, r2⟩ := trodAll_cons r1
  obtain ⟨v3, vs3, d3, ds3, p3, q3, rfl, rfl, rfl, h3, r3⟩ := trodAll_cons r2
  obtain ⟨rfl, rfl, rfl⟩ := trodAll_nil r3
  obtain rfl : args = #[v0, v1, v2, v3] := by cases args; simp_all
  obtain ⟨rfl, rfl⟩ := trodVars_none hV
  obtain ⟨a0, rfl, rfl, rfl, w0⟩ := open_int Try.underlying3 (hval 0 3 v0 rfl rfl) h0
  have k1 := h1
  have lt1 : ∀ x ∈ p1, x.block < W.heap.size := by obtain ⟨m, hm⟩ := k1; exact DataW.trod_lt m _ _ _ hm
  obtain ⟨A1, len1, c1, rfl⟩ := okWide_slice Try.underlying22 (hval 1 22 v1 rfl rfl)
  obtain ⟨l1, rfl, F1, G1⟩ := slice_arg (opens_slice Try.underlying22 (by kernel_rfl) (by kernel_rfl) open64) h1
  have k2 := h2
  have lt2 : ∀ x ∈ p2, x.block < W.heap.size := by obtain ⟨m, hm⟩ := k2; exact DataW.trod_lt m _ _ _ hm
  obtain ⟨A2, len2, c2, rfl⟩ := okWide_slice Try.underlying22 (hval 2 22 v2 rfl rfl)
  obtain ⟨l2, rfl, F2, G2⟩ := slice_arg (opens_slice Try.underlying22 (by kernel_rfl) (by kernel_rfl) open64) h2
  obtain ⟨a3, rfl, rfl, rfl, w3⟩ := open_int Try.underlying3 (hval 3 3 v3 rfl rfl) h3
  clear hA0 hval0 hsz0 hsz
  obtain ⟨k, hk⟩ := K.pure_FnExactBlockNestedLoopJoin a0 l1 l2 a3 w0 G1 G2 w3
  refine (law_calls (laws_FnExactBlockNestedLoopJoin.ok k a0 l1 A1 c1 l2 A2 c2 a3 true hk) (facts_app F1 (facts_app F2 facts_nil))).mono fun e W' he => ?_
  obtain ⟨rfl, bel⟩ := he
  exact ⟨_, rfl, _, _, _, [], _, [], hW', trodAll_mk1 (shut_bool Try.underlying4 _), (trodAll_cons_mk (shut_int Try.underlying3 w0) (trodAll_cons_mk (Below.trod laidOut (by kernel_rfl) (of_decide_eq_true (by kernel_rfl)) k1 bel lt1) (trodAll_cons_mk (Below.trod laidOut (by kernel_rfl) (of_decide_eq_true (by kernel_rfl)) k2 bel lt2) (trodAll_cons_mk (shut_int Try.underlying3 w3) trodAll_mk0)))), rfl, bel.frame _, fun h => by cases h⟩
theorem over : Rows.fnExactBlockNestedLoopJoinRow.holds Try.pinned (OpenSpec.ofChange Rows.fnExactBlockNestedLoopJoinSpec) :=
  OpenClaim.holds_of_wide 13 Try.f13 rfl rfl rfl rfl rfl rfl rfl ⟨rfl, rfl, rfl, rfl, rfl⟩ rfl rfl rfl rfl rfl (by kernel_rfl) Try.func13 (by kernel_rfl)
    (of_decide_eq_true (by kernel_rfl)) (by unfold Func.isWrapper; first | (rw [if_pos (by decide +kernel)]; kernel_rfl) | (rw [if_neg (by decide +kernel)]; exact ⟨rfl, rfl⟩))
    (fun os started H enc _ => lifted os started H enc)
theorem proved : Rows.FnExactBlockNestedLoopJoinSaid := over
#print axioms proved
end Go.Proofs.Ythciieopabndcaa.fnExactBlockNestedLoopJoin
namespace Go.Proofs.Ythciieopabndcaa
/-- The row, under a short name, for the claim. -/
theorem fnExactBlockNestedLoopJoin_holds : Rows.FnExactBlockNestedLoopJoinSaid := fnExactBlockNestedLoopJoin.proved
end Go.Proofs.Ythciieopabndcaa
