/- FnExactRollupRows answers true at every input. -/
import Derived.Below
import Derived.Carry
import Derived.ChangeOld
import Derived.OpenShut
import Derived.ProofKit
import Derived.ShutString
import Derived.SizedLaws
import Derived.Test.YtoncjohnkiilcaaChecked
import Derived.Test.YtoncjohnkiilcaaRows
import Derived.WalkKit
import Derived.Test.YtoncjohnkiilcaaVFnExactRollupRowsc
namespace Go.Proofs.Ytoncjohnkiilcaa.K
open Go Go.RowKit
set_option linter.unusedVariables false
set_option linter.unusedSimpArgs false
def Ev {α : Type} (f : Nat → Option α) (r : α) : Prop := ∃ K, ∀ k, K ≤ k → f k = some r
theorem Ev.p {α : Type} {r : α} : Ev (fun _ => some r) r := ⟨0, fun _ _ => rfl⟩
theorem Ev.c {α : Type} {o : Option α} {r : α} (h : o = some r) : Ev (fun _ => o) r := ⟨0, fun _ _ => h⟩
theorem Ev.b {α β : Type} {f : Nat → Option α} {g : Nat → α → Option β} {a : α} {r : β} (hf : Ev f a) (hg : Ev (fun k => g k a) r) : Ev (fun k => (f k).bind (g k)) r := by
  obtain ⟨K, h⟩ := hf; obtain ⟨L, h'⟩ := hg
  exact ⟨max K L, fun k hk => by show (f k).bind (g k) = some r; rw [h k (by omega)]; exact h' k (by omega)⟩
theorem Ev.t {α : Type} {p : Prop} [Decidable p] {f g : Nat → Option α} {r : α} (h : p) (hf : Ev f r) : Ev (fun k => if p then f k else g k) r := by
  obtain ⟨K, h'⟩ := hf
  exact ⟨K, fun k hk => by show (if p then f k else g k) = some r; rw [if_pos h]; exact h' k hk⟩
theorem Ev.e {α : Type} {p : Prop} [Decidable p] {f g : Nat → Option α} {r : α} (h : ¬ p) (hg : Ev g r) : Ev (fun k => if p then f k else g k) r := by
  obtain ⟨K, h'⟩ := hg
  exact ⟨K, fun k hk => by show (if p then f k else g k) = some r; rw [if_neg h]; exact h' k hk⟩
theorem Ev.i {α : Type} {p : Prop} [Decidable p] {f g : Nat → Option α} {r : α} (hf : p → Ev f r) (hg : ¬ p → Ev g r) : Ev (fun k => if p then f k else g k) r := by
  by_cases h : p
  · exact Ev.t h (hf h)
  · exact Ev.e h (hg h)
theorem Ev.s {α : Type} {L f : Nat → Option α} {r : α} (h : ∀ k, L (k + 1) = f k) (hf : Ev f r) : Ev L r := by
  obtain ⟨K, h'⟩ := hf
  refine ⟨K + 1, fun k hk => ?_⟩
  obtain ⟨m, rfl⟩ : ∃ m, k = m + 1 := ⟨k - 1, by omega⟩
  rw [h]; exact h' m (by omega)
theorem Ev.u {α : Type} {L f : Nat → Option α} {r : α} (h : ∀ k, L k = f k) (hf : Ev f r) : Ev L r := by
  obtain ⟨K, h'⟩ := hf
  exact ⟨K, fun k hk => by rw [h]; exact h' k hk⟩
theorem Ev.r {α : Type} {f : Nat → Option α} {r r' : α} (h : Ev f r) (e : r = r') : Ev f r' := e ▸ h
theorem Ev.r' {α : Type} {f g : Nat → Option α} {r r' : α} (h : Ev f r) (e1 : ∀ k, f k = g k) (e : r = r') : Ev g r' := by
  subst e; obtain ⟨K, h'⟩ := h
  exact ⟨K, fun k hk => by rw [← e1]; exact h' k hk⟩
theorem Ev.ex {α : Type} {f : Nat → Option α} {r : α} (h : Ev f r) : ∃ k, f k = some r := by
  obtain ⟨K, h'⟩ := h
  exact ⟨K, h' K (Nat.le_refl _)⟩
theorem drop_nil' {α : Type} {l : List α} {i : Nat} (h : l.drop i = []) : l.length ≤ i := List.drop_eq_nil_iff.1 h
theorem drop_cons' {α : Type} {l : List α} {i : Nat} {x : α} {t : List α} (h : l.drop i = x :: t) : i < l.length ∧ l.drop (i + 1) = t ∧ (∀ d, l.getD i d = x) ∧ l.length = i + 1 + t.length := by
  have hl := congrArg List.length h
  rw [List.length_drop, List.length_cons] at hl
  refine ⟨by omega, ?_, fun d => ?_, by omega⟩
  · rw [← List.drop_drop, h]; rfl
  · have : l[i]? = some x := by rw [← List.head?_drop, h]; rfl
    rw [List.getD_eq_getElem?_getD, this]; rfl
theorem w64 {x : Int} (h0 : -9223372036854775808 ≤ x) (h1 : x ≤ 9223372036854775807) : wrap64 x = x := by unfold wrap64; omega
theorem w64s {i n : Nat} (h : i < n) (hn : n ≤ 9223372036854775807) : wrap64 ((i : Int) + 1) = ((i + 1 : Nat) : Int) := by rw [w64 (by omega) (by omega)]; rfl
theorem maxLen_eq : maxLen = 9223372036854775807 := rfl
theorem wf64 {n : Int} (h : (Lit.int .i64 n).wf = true) : (-9223372036854775808 : Int) ≤ n ∧ n ≤ 9223372036854775807 := by
  simp [Lit.wf, IntKind.min, IntKind.max, IntKind.signed, IntKind.bits] at h
  exact h
theorem ob {α β : Type} {o : Option α} {a : α} {f : α → Option β} (h : o = some a) : o.bind f = f a := by subst h; rfl

def inB (n a b : Int) : Bool := decide (a ≤ n ∧ n ≤ b)
theorem rdR (l : List S73) (i : Nat) : rd_T73 l (i : Int) = l.getD i z73 := rfl
def hBit (key level : Int) : Int := if inB level 0 3 && inB key 0 9 then andI (shrI (Int.tmod (key * 7) 16) level) 1 else 0
def hb (level : Int) (x : S73) : Bool := hBit x.f0 level == 0
theorem setP {α : Type} (pre : List α) (x y : α) (t : List α) : (pre ++ x :: t).set ((pre.length : Int)).toNat y = pre ++ y :: t := by
  rw [Int.toNat_natCast, List.set_append_right _ _ (Nat.le_refl _), Nat.sub_self]; rfl
theorem getP {α : Type} (pre : List α) (x d : α) (t : List α) : (pre ++ x :: t).getD ((pre.length : Int)).toNat d = x := by
  rw [Int.toNat_natCast, List.getD_eq_getElem?_getD, List.getElem?_append_right (Nat.le_refl _), Nat.sub_self]; rfl
theorem rdPRow (pre : List S73) (x : S73) (t : List S73) : rd_T73 (pre ++ x :: t) (pre.length : Int) = x := getP pre x z73 t
def mkRow : Int → List S73 → List S73
  | _, [] => []
  | k, _ :: l => ⟨k, k + 1, k + 1 + 1⟩ :: mkRow (k + 1 + 1 + 1) l
theorem markRowS_l0 : ∀ (s pre : List S73) (k : Int), 0 ≤ k → k + 3 * s.length ≤ 4611686018427387904 → pre.length + s.length ≤ 4611686018427387904 → Ev (fun f => laws_markRowS.l0 f (pre ++ s) k (pre.length : Int)) (k + 3 * s.length, pre ++ mkRow k s) := by
  intro s
  induction s with
  | nil =>
    intro pre k h0 h1 h2
    exact Ev.s (fun f => by rw [laws_markRowS.l0]) (Ev.e (by simp) (Ev.p.r (by simp [mkRow])))
  | cons x t ih =>
    intro pre k h0 h1 h2
    rw [List.length_cons] at h1 h2
    refine Ev.s (fun f => by rw [laws_markRowS.l0]) (Ev.t (by simp; omega) (Ev.t (by omega) ?_))
    rw [w64 (x := k + 1) (by omega) (by omega)]
    rw [w64 (x := k + 1 + 1) (by omega) (by omega)]
    rw [w64 (x := k + 1 + 1 + 1) (by omega) (by omega)]
    rw [show wrap64 ((pre.length : Int) + 1) = ((pre.length + 1 : Nat) : Int) by rw [w64 (by omega) (by omega)]; rfl]
    refine Ev.b (Ev.c (congrArg some (setP pre _ _ t))) ?_
    refine Ev.t (by simp; omega) ?_
    simp only [rdPRow]
    refine Ev.b (Ev.c (congrArg some (setP pre _ _ t))) ?_
    refine Ev.t (by simp; omega) ?_
    simp only [rdPRow]
    refine Ev.b (Ev.c (congrArg some (setP pre _ _ t))) ?_
    have h := ih (pre ++ [(⟨k, k + 1, k + 1 + 1⟩ : S73)]) (k + 1 + 1 + 1) (by omega) (by omega) (by simp; omega)
    simp only [List.append_assoc, List.singleton_append, List.length_append, List.length_singleton] at h
    exact h.r (Prod.ext (by simp only [List.length_cons]; omega) rfl)
theorem markRowS_ev (l : List S73) (k : Int) (h0 : 0 ≤ k) (h1 : k + 3 * l.length ≤ 4611686018427387904) : Ev (fun f => laws_markRowS.f f l k) (k + 3 * l.length, mkRow k l) :=
  Ev.u (fun _ => rfl) (markRowS_l0 l [] k h0 h1 (by simp; omega))
theorem eqRow_refl (x : S73) : laws_eqRow.f x.f0 x.f1 x.f2 x.f0 x.f1 x.f2 = some true := by
  unfold laws_eqRow.f; simp
theorem eqRowS_l0 (l : List S73) (hl : l.length ≤ 4611686018427387904) : ∀ (s : List S73) (i : Nat), l.drop i = s → Ev (fun f => laws_eqRowS.l0 f (i : Int) l l) true := by
  intro s
  induction s with
  | nil =>
    intro i hd
    have := drop_nil' hd
    exact Ev.s (fun f => by rw [laws_eqRowS.l0]) (Ev.e (by omega) (Ev.p.r (by rfl)))
  | cons x t ih =>
    intro i hd
    obtain ⟨hi, hd', hx, -⟩ := drop_cons' hd
    refine Ev.s (fun f => by rw [laws_eqRowS.l0]) (Ev.t (by omega) (Ev.t (by omega) (Ev.t (by omega) ?_)))
    rw [rdR, hx, w64s hi (by omega)]
    exact Ev.b (Ev.c (eqRow_refl _)) <| Ev.t rfl (ih (i + 1) hd')
theorem eqRowS_ev (l : List S73) (hl : l.length ≤ 4611686018427387904) : Ev (fun f => laws_eqRowS.f f l l) true :=
  Ev.u (fun _ => rfl) (Ev.t rfl (eqRowS_l0 l hl l 0 rfl))
theorem rdLRow (l : List S75) (i : Nat) : rd_T75 l (i : Int) = l.getD i z75 := rfl
def cvRow (x : S75) : S73 := ⟨x.f0, x.f1, x.f2⟩
theorem toRow_eq (x : S75) : laws_toRow.f x.f0 x.f1 x.f2 = some (x.f0, x.f1, x.f2) := by unfold laws_toRow.f; rfl
theorem toRowS_l0 (l : List S75) (hl : l.length ≤ 4611686018427387904) : ∀ (s : List S75) (r pre : List S73), l.drop pre.length = s → r.length = s.length → Ev (fun f => laws_toRowS.l0 f (pre ++ r) (pre.length : Int) l) (pre ++ s.map cvRow) := by
  intro s
  induction s with
  | nil =>
    intro r pre hd hr
    have := drop_nil' hd
    have : r = [] := List.eq_nil_of_length_eq_zero hr
    subst this
    exact Ev.s (fun f => by rw [laws_toRowS.l0]) (Ev.e (by omega) (Ev.p.r (by simp)))
  | cons x t ih =>
    intro r pre hd hr
    obtain ⟨hi, hd', hx, -⟩ := drop_cons' hd
    cases r with
    | nil => simp at hr
    | cons y r =>
      refine Ev.s (fun f => by rw [laws_toRowS.l0]) (Ev.t (by omega) (Ev.t (by omega) ?_))
      rw [rdLRow, hx, w64s hi (by omega)]
      refine Ev.b (Ev.c (toRow_eq x)) (Ev.t (by simp; omega) (Ev.b (Ev.c (congrArg some (setP pre _ _ r))) ?_))
      have h := ih r (pre ++ [cvRow x]) (by rw [List.length_append, List.length_singleton]; exact hd') (by simpa using hr)
      simp only [List.append_assoc, List.singleton_append, List.length_append, List.length_singleton] at h
      exact h.r (by simp)
theorem toRowS_ev (l : List S75) (hl : l.length ≤ 1048576) : Ev (fun f => laws_toRowS.f f l) (l.map cvRow) := by
  refine Ev.u (fun _ => rfl) (Ev.t (by omega) (Ev.t (by simp; omega) ?_))
  have h := toRowS_l0 l (by omega) l (List.replicate l.length z73) [] rfl (by simp)
  simpa using h
theorem szRowS_neg (l : List S75) (n : Int) (h0 : 0 ≤ n) (h1 : n ≤ 1048576) (hl : l.length ≤ maxLen) (h : n - l.length < 0) : laws_szRowS.f l n = some (-1) := by
  have hl' : l.length ≤ 9223372036854775807 := hl
  unfold laws_szRowS.f
  rw [w64 (by omega) (by omega), if_pos h]
theorem szRowS_pos (l : List S75) (n : Int) (h0 : 0 ≤ n) (h1 : n ≤ 1048576) (h : ¬ n - l.length < 0) : laws_szRowS.f l n = some (n - l.length) := by
  unfold laws_szRowS.f
  rw [w64 (by omega) (by omega), if_neg h]
theorem rdPGroup (pre : List S88) (x : S88) (t : List S88) : rd_T88 (pre ++ x :: t) (pre.length : Int) = x := getP pre x z88 t
theorem rdRollupRow (l : List S92) (i : Nat) : rd_T92 l (i : Int) = l.getD i z92 := rfl
theorem rdPRollupRow (pre : List S92) (x : S92) (t : List S92) : rd_T92 (pre ++ x :: t) (pre.length : Int) = x := getP pre x z92 t
def mkRollupRow : Int → List S92 → List S92
  | _, [] => []
  | k, _ :: l => ⟨k, ⟨k + 1, k + 1 + 1, k + 1 + 1 + 1, k + 1 + 1 + 1 + 1, k + 1 + 1 + 1 + 1 + 1⟩⟩ :: mkRollupRow (k + 1 + 1 + 1 + 1 + 1 + 1) l
theorem mkRollupRow_len : ∀ (k : Int) (l : List S92), (mkRollupRow k l).length = l.length
  | _, [] => rfl
  | k, _ :: l => by rw [mkRollupRow, List.length_cons, List.length_cons, mkRollupRow_len]
theorem markRollupRowS_l0 : ∀ (s pre : List S92) (k : Int), 0 ≤ k → k + 6 * s.length ≤ 4611686018427387904 → pre.length + s.length ≤ 4611686018427387904 → Ev (fun f => laws_markRollupRowS.l0 f (pre ++ s) k (pre.length : Int)) (k + 6 * s.length, pre ++ mkRollupRow k s) := by
  intro s
  induction s with
  | nil =>
    intro pre k h0 h1 h2
    exact Ev.s (fun f => by rw [laws_markRollupRowS.l0]) (Ev.e (by simp) (Ev.p.r (by simp [mkRollupRow])))
  | cons x t ih =>
    intro pre k h0 h1 h2
    rw [List.length_cons] at h1 h2
    refine Ev.s (fun f => by rw [laws_markRollupRowS.l0]) (Ev.t (by simp; omega) (Ev.t (by omega) ?_))
    rw [w64 (x := k + 1) (by omega) (by omega)]
    rw [w64 (x := k + 1 + 1) (by omega) (by omega)]
    rw [w64 (x := k + 1 + 1 + 1) (by omega) (by omega)]
    rw [w64 (x := k + 1 + 1 + 1 + 1) (by omega) (by omega)]
    rw [w64 (x := k + 1 + 1 + 1 + 1 + 1) (by omega) (by omega)]
    rw [w64 (x := k + 1 + 1 + 1 + 1 + 1 + 1) (by omega) (by omega)]
    rw [show wrap64 ((pre.length : Int) + 1) = ((pre.length + 1 : Nat) : Int) by rw [w64 (by omega) (by omega)]; rfl]
    refine Ev.b (Ev.c (congrArg some (setP pre _ _ t))) ?_
    refine Ev.t (by simp; omega) ?_
    simp only [rdPRollupRow]
    refine Ev.b (Ev.c (congrArg some (setP pre _ _ t))) ?_
    refine Ev.t (by simp; omega) ?_
    simp only [rdPRollupRow]
    refine Ev.b (Ev.c (congrArg some (setP pre _ _ t))) ?_
    refine Ev.t (by simp; omega) ?_
    simp only [rdPRollupRow]
    refine Ev.b (Ev.c (congrArg some (setP pre _ _ t))) ?_
    refine Ev.t (by simp; omega) ?_
    simp only [rdPRollupRow]
    refine Ev.b (Ev.c (congrArg some (setP pre _ _ t))) ?_
    refine Ev.t (by simp; omega) ?_
    simp only [rdPRollupRow]
    refine Ev.b (Ev.c (congrArg some (setP pre _ _ t))) ?_
    have h := ih (pre ++ [(⟨k, ⟨k + 1, k + 1 + 1, k + 1 + 1 + 1, k + 1 + 1 + 1 + 1, k + 1 + 1 + 1 + 1 + 1⟩⟩ : S92)]) (k + 1 + 1 + 1 + 1 + 1 + 1) (by omega) (by omega) (by simp; omega)
    simp only [List.append_assoc, List.singleton_append, List.length_append, List.length_singleton] at h
    exact h.r (Prod.ext (by simp only [List.length_cons]; omega) rfl)
theorem markRollupRowS_ev (l : List S92) (k : Int) (h0 : 0 ≤ k) (h1 : k + 6 * l.length ≤ 4611686018427387904) : Ev (fun f => laws_markRollupRowS.f f l k) (k + 6 * l.length, mkRollupRow k l) :=
  Ev.u (fun _ => rfl) (markRollupRowS_l0 l [] k h0 h1 (by simp; omega))
theorem heldRollupRowS_l0 (l : List S92) (hl : l.length ≤ 4611686018427387904) : ∀ (s : List S92) (i : Nat) (k : Int), l.drop i = mkRollupRow k s → 0 ≤ k → k + 6 * s.length ≤ 4611686018427387904 → Ev (fun f => laws_heldRollupRowS.l0 f k (i : Int) l) (k + 6 * s.length) := by
  intro s
  induction s with
  | nil =>
    intro i k hd h0 h1
    have := drop_nil' hd
    exact Ev.s (fun f => by rw [laws_heldRollupRowS.l0]) (Ev.e (by omega) (Ev.p.r (by simp)))
  | cons x t ih =>
    intro i k hd h0 h1
    rw [List.length_cons] at h1
    rw [mkRollupRow] at hd
    obtain ⟨hi, hd', hx, -⟩ := drop_cons' hd
    refine Ev.s (fun f => by rw [laws_heldRollupRowS.l0]) (Ev.t (by omega) (Ev.t (by omega) ?_))
    rw [w64 (x := k + 1) (by omega) (by omega)]
    rw [w64 (x := k + 1 + 1) (by omega) (by omega)]
    rw [w64 (x := k + 1 + 1 + 1) (by omega) (by omega)]
    rw [w64 (x := k + 1 + 1 + 1 + 1) (by omega) (by omega)]
    rw [w64 (x := k + 1 + 1 + 1 + 1 + 1) (by omega) (by omega)]
    rw [w64 (x := k + 1 + 1 + 1 + 1 + 1 + 1) (by omega) (by omega)]
    rw [rdRollupRow, hx, w64s hi (by omega)]
    exact Ev.t rfl (Ev.t rfl (Ev.t rfl (Ev.t rfl (Ev.t rfl (Ev.t rfl ((ih (i + 1) (k + 1 + 1 + 1 + 1 + 1 + 1) hd' (by omega) (by omega)).r (by simp only [List.length_cons]; omega)))))))
theorem heldRollupRowS_ev (l : List S92) (k : Int) (h0 : 0 ≤ k) (h1 : k + 6 * l.length ≤ 4611686018427387904) : Ev (fun f => laws_heldRollupRowS.f f (mkRollupRow k l) k) (k + 6 * l.length) :=
  Ev.u (fun _ => rfl) (heldRollupRowS_l0 _ (by rw [mkRollupRow_len]; omega) l 0 k rfl h0 h1)
theorem eqRollupRow_refl (x : S92) : laws_eqRollupRow.f x.f0 x.f1.f0 x.f1.f1 x.f1.f2 x.f1.f3 x.f1.f4 x.f0 x.f1.f0 x.f1.f1 x.f1.f2 x.f1.f3 x.f1.f4 = some true := by
  unfold laws_eqRollupRow.f; simp [laws_eqGroup.f]
theorem eqRollupRowS_l0 (l : List S92) (hl : l.length ≤ 4611686018427387904) : ∀ (s : List S92) (i : Nat), l.drop i = s → Ev (fun f => laws_eqRollupRowS.l0 f (i : Int) l l) true := by
  intro s
  induction s with
  | nil =>
    intro i hd
    have := drop_nil' hd
    exact Ev.s (fun f => by rw [laws_eqRollupRowS.l0]) (Ev.e (by omega) (Ev.p.r (by rfl)))
  | cons x t ih =>
    intro i hd
    obtain ⟨hi, hd', hx, -⟩ := drop_cons' hd
    refine Ev.s (fun f => by rw [laws_eqRollupRowS.l0]) (Ev.t (by omega) (Ev.t (by omega) (Ev.t (by omega) ?_)))
    rw [rdRollupRow, hx, w64s hi (by omega)]
    exact Ev.b (Ev.c (eqRollupRow_refl _)) <| Ev.t rfl (ih (i + 1) hd')
theorem eqRollupRowS_ev (l : List S92) (hl : l.length ≤ 4611686018427387904) : Ev (fun f => laws_eqRollupRowS.f f l l) true :=
  Ev.u (fun _ => rfl) (Ev.t rfl (eqRollupRowS_l0 l hl l 0 rfl))
theorem mGet_set {β : Type} : ∀ (m : List (Int × β)) (q : Int) (v : β) (z : Int), mGet (mSet m q v) z = bif q == z then some v else mGet m z
  | [], q, v, z => by
    cases h : q == z <;> simp only [mSet, mGet, h, cond_true, cond_false]
  | p :: r, q, v, z => by
    have ih := mGet_set r q v z
    cases hq : p.1 == q
    · cases h : p.1 == z
      · simp only [mSet, mGet, hq, h, cond_false, ih]
      · have e : (q == z) = false := by
          rw [beq_eq_false_iff_ne] at hq ⊢
          rw [beq_iff_eq] at h
          omega
        simp only [mSet, mGet, hq, h, cond_true, cond_false, e]
    · rw [beq_iff_eq] at hq
      cases h : q == z
      · simp only [mSet, mGet, hq, h, beq_self_eq_true, cond_true, cond_false]
      · simp only [mSet, mGet, hq, h, beq_self_eq_true, cond_true]
theorem rdG (l : List S88) (i : Nat) : rd_T88 l (i : Int) = l.getD i z88 := rfl
def comb (h g : S88) : S88 := ⟨h.f0, wrap64 (h.f1 + g.f1), wrap64 (h.f2 + g.f2), mn h.f3 g.f3, mx h.f4 g.f4⟩
def ins (g : S88) : List S88 → List S88
  | [] => [g]
  | h :: t => if h.f0 < g.f0 then h :: ins g t else if h.f0 = g.f0 then comb h g :: t else g :: h :: t
def mgs (acc : List S88) (l : List S88) : List S88 := l.foldl (fun a g => ins g a) acc
def upd (g : S88) : List S88 → List S88
  | [] => [g]
  | h :: t => if h.f0 = g.f0 then comb h g :: t else h :: upd g t
def upds (acc : List S88) (l : List S88) : List S88 := l.foldl (fun a g => upd g a) acc
theorem ins_len (g : S88) : ∀ l, (ins g l).length ≤ l.length + 1
  | [] => by simp [ins]
  | h :: t => by
    have := ins_len g t
    rw [ins]; split
    · simp only [List.length_cons]; omega
    · split <;> simp
theorem upd_len (g : S88) : ∀ l, (upd g l).length ≤ l.length + 1
  | [] => by simp [upd]
  | h :: t => by
    have := upd_len g t
    rw [upd]; split <;> simp only [List.length_cons] <;> omega
theorem impl_CombineGroups_eq (h g : S88) (e : h.f0 = g.f0) : impl_CombineGroups.f h.f0 h.f1 h.f2 h.f3 h.f4 g.f0 g.f1 g.f2 g.f3 g.f4 = some ((comb h g).f0, (comb h g).f1, (comb h g).f2, (comb h g).f3, (comb h g).f4) := by
  unfold impl_CombineGroups.f; rw [if_pos e]; rfl
theorem spec_CombineGroups_eq (h g : S88) (e : h.f0 = g.f0) : spec_CombineGroups.f h.f0 h.f1 h.f2 h.f3 h.f4 g.f0 g.f1 g.f2 g.f3 g.f4 = some ((comb h g).f0, (comb h g).f1, (comb h g).f2, (comb h g).f3, (comb h g).f4) := by
  unfold spec_CombineGroups.f; rw [if_pos e]; rfl
theorem spec_MergeGroups_l1 (l : List S88) (hl : l.length ≤ 1099511627776) (i : Nat) (hi : i < l.length) (g : S88) (hg : ∀ d, l.getD i d = g) (r : List S88) : ∀ (s pre : List S88), pre.length + s.length ≤ 1099511627776 →
    Ev (fun k => spec_MergeGroups.l0 k (pre ++ ins g s) ((i + 1 : Nat) : Int) l) r → Ev (fun k => spec_MergeGroups.l1 k (pre ++ s) (i : Int) (pre.length : Int) l) r := by
  have J1 : ∀ (s pre : List S88), pre.length + s.length ≤ 1099511627776 → Ev (fun k => spec_MergeGroups.l0 k (pre ++ g :: s) ((i + 1 : Nat) : Int) l) r → Ev (fun k => spec_MergeGroups.j1 k (pre ++ s) (i : Int) (pre.length : Int) l) r := by
    intro s pre hp h
    refine Ev.s (fun k => by rw [spec_MergeGroups.j1]) (Ev.t (by omega) (Ev.t (by omega) (Ev.t (by omega) (Ev.t (by rw [List.length_append]; omega) ?_))))
    have e1 : (pre ++ s).take (pre.length : Int).toNat = pre := by simp
    have e2 : (pre ++ s).drop (pre.length : Int).toNat = s := by simp
    rw [e1, e2, rdG, hg, w64s hi (by omega)]
    refine Ev.t (by simp; omega) (Ev.t (by omega) (Ev.t (by simp; omega) ?_))
    exact h
  intro s
  induction s with
  | nil =>
    intro pre hp h
    rw [ins] at h
    refine Ev.s (fun k => by rw [spec_MergeGroups.l1]) (Ev.e (by simp) ?_)
    refine Ev.s (fun k => by rw [spec_MergeGroups.j0]) (Ev.e (by simp) ?_)
    exact J1 [] pre hp h
  | cons x t ih =>
    intro pre hp h
    rw [List.length_cons] at hp
    rw [ins] at h
    have hlt : pre.length < (pre ++ x :: t).length := by simp
    refine Ev.s (fun k => by rw [spec_MergeGroups.l1]) (Ev.t (by simp; omega) (Ev.t (by omega) (Ev.t (by omega) (Ev.t (by omega) ?_))))
    rw [rdG l i, hg, rdPGroup]
    refine Ev.i (fun q => ?_) (fun q => ?_)
    · rw [if_pos q] at h
      rw [show wrap64 ((pre.length : Int) + 1) = ((pre.length + 1 : Nat) : Int) by rw [w64 (by omega) (by omega)]; rfl]
      have := ih (pre ++ [x]) (by simp; omega) (by simpa using h)
      simpa using this
    · rw [if_neg q] at h
      refine Ev.s (fun k => by rw [spec_MergeGroups.j0]) (Ev.t (by simp; omega) (Ev.t (by omega) (Ev.t (by omega) (Ev.t (by omega) ?_))))
      rw [rdG l i, hg, rdPGroup, w64s hi (by omega)]
      refine Ev.i (fun q2 => ?_) (fun q2 => ?_)
      · rw [if_pos q2] at h
        exact Ev.b (Ev.c (spec_CombineGroups_eq x g q2)) (Ev.b (Ev.c (congrArg some (setP pre x (comb x g) t))) h)
      · rw [if_neg q2] at h
        exact J1 (x :: t) pre (by rw [List.length_cons]; omega) h
theorem spec_MergeGroups_l0 (l : List S88) (hl : l.length ≤ 1099511627776) : ∀ (s : List S88) (i : Nat) (acc : List S88), l.drop i = s → acc.length ≤ i → Ev (fun k => spec_MergeGroups.l0 k acc (i : Int) l) (mgs acc s) := by
  intro s
  induction s with
  | nil =>
    intro i acc hd ha
    have := drop_nil' hd
    exact Ev.s (fun k => by rw [spec_MergeGroups.l0]) (Ev.e (by omega) (Ev.p.r (by rfl)))
  | cons x t ih =>
    intro i acc hd ha
    obtain ⟨hi, hd', hx, -⟩ := drop_cons' hd
    refine Ev.s (fun k => by rw [spec_MergeGroups.l0]) (Ev.t (by omega) ?_)
    have := ins_len x acc
    have h := spec_MergeGroups_l1 l hl i hi x hx (mgs acc (x :: t)) acc [] (by simp; omega) (ih (i + 1) (ins x acc) hd' (by omega))
    exact h
theorem spec_MergeGroups_ev (l : List S88) (hl : l.length ≤ 1099511627776) : Ev (fun k => spec_MergeGroups.f k l) (mgs [] l) :=
  Ev.u (fun _ => rfl) (spec_MergeGroups_l0 l hl l 0 [] rfl (by simp))

def idx (q : Int) : List S88 → Option Int
  | [] => none
  | h :: t => if h.f0 = q then some 0 else (idx q t).map (· + 1)
theorem upd_cases (g : S88) : ∀ acc : List S88,
    (∃ pre h t, acc = pre ++ h :: t ∧ h.f0 = g.f0 ∧ idx g.f0 acc = some (pre.length : Int) ∧ upd g acc = pre ++ comb h g :: t ∧ ∀ z, idx z (upd g acc) = idx z acc) ∨
    (idx g.f0 acc = none ∧ upd g acc = acc ++ [g] ∧ ∀ z, idx z (upd g acc) = if z = g.f0 then some (acc.length : Int) else idx z acc)
  | [] => .inr ⟨rfl, rfl, fun z => by
      by_cases h : z = g.f0
      · simp [upd, idx, h]
      · have : ¬ g.f0 = z := fun e => h e.symm
        simp [upd, idx, h, this]⟩
  | h :: t => by
    by_cases e : h.f0 = g.f0
    · refine .inl ⟨[], h, t, rfl, e, by simp [idx, e], by simp [upd, e], fun z => ?_⟩
      simp only [upd, if_pos e]
      rfl
    · rcases upd_cases g t with ⟨pre, h', t', h1, h2, h3, h4, h5⟩ | ⟨h1, h2, h3⟩
      · refine .inl ⟨h :: pre, h', t', by rw [h1]; rfl, h2, ?_, ?_, fun z => ?_⟩
        · simp only [idx, if_neg e, h3, Option.map_some, List.length_cons]; rfl
        · simp only [upd, if_neg e, h4]; rfl
        · simp only [upd, if_neg e, idx, h5]
      · refine .inr ⟨by simp only [idx, if_neg e, h1, Option.map_none], by simp only [upd, if_neg e, h2]; rfl, fun z => ?_⟩
        simp only [upd, if_neg e, idx, h3]
        by_cases hz : z = g.f0
        · have : ¬ h.f0 = z := fun k => e (k.trans hz)
          simp only [if_pos hz, if_neg this, Option.map_some, List.length_cons]; rfl
        · simp only [if_neg hz]
theorem impl_MergeGroups_l0 (l : List S88) (hl : l.length ≤ 1099511627776) (r : List S88) : ∀ (s : List S88) (i : Nat) (acc : List S88) (m : List (Int × Int)), l.drop i = s → acc.length ≤ i → (∀ q, mGet m q = idx q acc) →
    Ev (fun k => slices_SortFunc_impl_Group_impl_Group_at93.f k (upds acc s)) r → Ev (fun k => impl_MergeGroups.l0 k acc m (l.length : Int) (i : Int) l) r := by
  intro s
  induction s with
  | nil =>
    intro i acc m hd ha hm h
    have := drop_nil' hd
    refine Ev.s (fun k => by rw [impl_MergeGroups.l0]) (Ev.e (by omega) ?_)
    exact Ev.b h Ev.p
  | cons x t ih =>
    intro i acc m hd ha hm h
    obtain ⟨hi, hd', hx, -⟩ := drop_cons' hd
    have hu : upds acc (x :: t) = upds (upd x acc) t := rfl
    rw [hu] at h
    refine Ev.s (fun k => by rw [impl_MergeGroups.l0]) (Ev.t (by omega) (Ev.t (by omega) (Ev.t (by omega) ?_)))
    rw [rdG l i, hx, w64s hi (by omega), hm x.f0]
    rcases upd_cases x acc with ⟨pre, h', t', h1, h2, h3, h4, h5⟩ | ⟨h1, h2, h3⟩
    · have hla : (acc.length : Int) = pre.length + t'.length + 1 := by rw [h1]; simp; omega
      rw [h3]
      refine Ev.t rfl (Ev.t (by simp) (Ev.t (by simp only [Option.getD_some]; omega) ?_))
      simp only [Option.getD_some]
      rw [h1, rdPGroup]
      refine Ev.b (Ev.c (impl_CombineGroups_eq h' x h2)) (Ev.b (Ev.c (congrArg some (setP pre h' (comb h' x) t'))) ?_)
      have e := ih (i + 1) (upd x acc) m hd' (by have := upd_len x acc; omega) (fun q => by rw [h5]; exact hm q) h
      rw [h4] at e
      exact e
    · rw [h1]
      refine Ev.e (by simp) (Ev.t (by omega) ?_)
      have e := ih (i + 1) (upd x acc) (mSet m x.f0 (acc.length : Int)) hd' (by have := upd_len x acc; omega) (fun q => by
        rw [mGet_set, h3]
        by_cases hq : q = x.f0
        · rw [if_pos hq, hq, beq_self_eq_true, cond_true]
        · rw [if_neg hq, beq_eq_false_iff_ne.2 (fun e => hq e.symm), cond_false]; exact hm q) h
      rw [h2] at e
      exact e
theorem impl_MergeGroups_ev (l : List S88) (hl : l.length ≤ 1099511627776) (r : List S88) (h : Ev (fun k => slices_SortFunc_impl_Group_impl_Group_at93.f k (upds [] l)) r) : Ev (fun k => impl_MergeGroups.f k l) r :=
  Ev.u (fun _ => rfl) (impl_MergeGroups_l0 l hl r l 0 [] [] rfl (by simp) (fun q => rfl) h)

theorem ord_lt (a b : S88) : impl_MergeGroups_1.f a.f0 a.f1 a.f2 a.f3 a.f4 b.f0 b.f1 b.f2 b.f3 b.f4 = some (if a.f0 < b.f0 then -1 else if a.f0 > b.f0 then 1 else 0) := by
  unfold impl_MergeGroups_1.f impl_order.f
  split
  · rfl
  · split <;> rfl
def klt (a b : S88) : Prop := a.f0 < b.f0
theorem ins_mem (g : S88) (P : Int → Prop) (hg : P g.f0) : ∀ l : List S88, (∀ x ∈ l, P x.f0) → ∀ x ∈ ins g l, P x.f0
  | [], _, x, hx => by rw [ins, List.mem_singleton] at hx; rw [hx]; exact hg
  | h :: t, hl, x, hx => by
    rw [ins] at hx
    split at hx
    · rcases List.mem_cons.1 hx with hx | hx
      · rw [hx]; exact hl h (List.mem_cons_self ..)
      · exact ins_mem g P hg t (fun y hy => hl y (List.mem_cons_of_mem _ hy)) x hx
    · split at hx
      · rcases List.mem_cons.1 hx with hx | hx
        · rw [hx]; exact hl h (List.mem_cons_self ..)
        · exact hl x (List.mem_cons_of_mem _ hx)
      · rcases List.mem_cons.1 hx with hx | hx
        · rw [hx]; exact hg
        · exact hl x hx
theorem ins_sorted (g : S88) : ∀ l : List S88, l.Pairwise klt → (ins g l).Pairwise klt
  | [], _ => by simp [ins]
  | h :: t, hp => by
    obtain ⟨h1, h2⟩ := List.pairwise_cons.1 hp
    rw [ins]
    split
    · rename_i hlt
      exact List.pairwise_cons.2 ⟨ins_mem g (fun v => h.f0 < v) hlt t h1, ins_sorted g t h2⟩
    · split
      · exact List.pairwise_cons.2 ⟨h1, h2⟩
      · refine List.pairwise_cons.2 ⟨fun y hy => ?_, hp⟩
        rcases List.mem_cons.1 hy with hy | hy
        · subst hy; show g.f0 < y.f0; omega
        · have : h.f0 < y.f0 := h1 y hy
          show g.f0 < y.f0; omega
theorem upd_absent (g : S88) : ∀ l : List S88, (∀ x ∈ l, x.f0 ≠ g.f0) → upd g l = l ++ [g]
  | [], _ => rfl
  | h :: t, hl => by
    rw [upd, if_neg (hl h (List.mem_cons_self ..)), upd_absent g t (fun x hx => hl x (List.mem_cons_of_mem _ hx))]; rfl
theorem ins_upd (g : S88) : ∀ l : List S88, l.Pairwise klt → (ins g l).Perm (upd g l)
  | [], _ => List.Perm.refl _
  | h :: t, hp => by
    obtain ⟨h1, h2⟩ := List.pairwise_cons.1 hp
    rw [ins]
    split
    · rename_i hlt
      rw [upd, if_neg (by omega)]
      exact (ins_upd g t h2).cons h
    · split
      · rename_i he
        rw [upd, if_pos he]
      · rename_i hn he
        rw [upd, if_neg he, upd_absent g t (fun x hx => by have : h.f0 < x.f0 := h1 x hx; omega)]
        exact (List.perm_append_singleton g (h :: t)).symm
def ks (l : List S88) : List Int := l.map (·.f0)
theorem upd_perm (g : S88) {a b : List S88} (h : a.Perm b) : (ks a).Nodup → (upd g a).Perm (upd g b) := by
  induction h with
  | nil => intro _; exact List.Perm.refl _
  | cons x p ih =>
    intro hn
    have hn' := (List.nodup_cons.1 hn).2
    rw [upd, upd]
    split
    · exact p.cons _
    · exact (ih hn').cons x
  | swap x y l =>
    intro hn
    have hxy : y.f0 ≠ x.f0 := by
      intro e
      have := (List.nodup_cons.1 hn).1
      apply this
      show y.f0 ∈ x.f0 :: ks l
      rw [e]; exact List.mem_cons_self ..
    by_cases h1 : y.f0 = g.f0
    · have h2 : ¬ x.f0 = g.f0 := by omega
      simp only [upd, if_pos h1, if_neg h2]
      exact List.Perm.swap _ _ _
    · by_cases h2 : x.f0 = g.f0
      · simp only [upd, if_neg h1, if_pos h2]
        exact List.Perm.swap _ _ _
      · simp only [upd, if_neg h1, if_neg h2]
        exact List.Perm.swap _ _ _
  | trans p q ih1 ih2 =>
    intro hn
    exact (ih1 hn).trans (ih2 ((p.map (fun x : S88 => x.f0)).nodup_iff.1 hn))
theorem klt_nodup {l : List S88} (h : l.Pairwise klt) : (ks l).Nodup := by
  unfold ks
  rw [List.nodup_iff_pairwise_ne]
  refine List.pairwise_map.2 (h.imp fun {a b} hab => ?_)
  have : a.f0 < b.f0 := hab
  omega
theorem sorted_eq : ∀ {a b : List S88}, a.Pairwise klt → b.Pairwise klt → a.Perm b → a = b
  | [], b, _, _, h => (List.nil_perm.1 h).symm
  | x :: a, [], _, _, h => by simp at h
  | x :: a, y :: b, ha, hb, h => by
    obtain ⟨a1, a2⟩ := List.pairwise_cons.1 ha
    obtain ⟨b1, b2⟩ := List.pairwise_cons.1 hb
    have e : x = y := by
      have hx : x ∈ y :: b := h.subset (List.mem_cons_self ..)
      have hy : y ∈ x :: a := h.symm.subset (List.mem_cons_self ..)
      rcases List.mem_cons.1 hx with hx | hx
      · exact hx
      rcases List.mem_cons.1 hy with hy | hy
      · exact hy.symm
      have k1 : y.f0 < x.f0 := b1 x hx
      have k2 : x.f0 < y.f0 := a1 y hy
      omega
    subst e
    rw [sorted_eq a2 b2 (List.Perm.cons_inv h)]
theorem mgs_upds : ∀ (l S A : List S88), S.Pairwise klt → S.Perm A → (mgs S l).Pairwise klt ∧ (mgs S l).Perm (upds A l)
  | [], S, A, h, p => ⟨h, p⟩
  | x :: l, S, A, h, p => mgs_upds l (ins x S) (upd x A) (ins_sorted x S h) ((ins_upd x S h).trans (upd_perm x p (klt_nodup h)))
theorem u64w {x : Int} (h0 : 0 ≤ x) (h1 : x ≤ 9223372036854775807) : IntKind.u64.wrap x = x := by
  simp [IntKind.wrap, IntKind.bits, IntKind.signed]; omega
def gfr (x : S73) : S88 := ⟨x.f0, 1, x.f1, x.f1, x.f1⟩
def rgs (l : List S73) : List S88 := mgs [] (l.map gfr)
theorem spec_ReferenceGroups_l0 (l : List S73) (hl : l.length ≤ 1099511627776) : ∀ (s : List S73) (i : Nat) (acc : List S88), l.drop i = s → i ≤ l.length → acc.length ≤ i → Ev (fun k => spec_ReferenceGroups.l0 k acc (i : Int) l) (mgs [] (acc ++ s.map gfr)) := by
  intro s
  induction s with
  | nil =>
    intro i acc hd hil ha
    have := drop_nil' hd
    refine Ev.s (fun k => by rw [spec_ReferenceGroups.l0]) (Ev.e (by omega) ?_)
    rw [List.map_nil, List.append_nil]
    exact Ev.b (spec_MergeGroups_ev acc (by omega)) Ev.p
  | cons x t ih =>
    intro i acc hd hil ha
    obtain ⟨hi, hd', hx, -⟩ := drop_cons' hd
    refine Ev.s (fun k => by rw [spec_ReferenceGroups.l0]) (Ev.t (by omega) (Ev.t (by omega) ?_))
    rw [rdR, hx, w64s hi (by omega)]
    refine Ev.b (Ev.c rfl) (Ev.t (by omega) ?_)
    have h := ih (i + 1) (acc ++ [gfr x]) hd' (by omega) (by simp; omega)
    rw [List.append_assoc] at h
    exact h
theorem spec_ReferenceGroups_ev (l : List S73) (hl : l.length ≤ 1099511627776) : Ev (fun k => spec_ReferenceGroups.f k l) (rgs l) :=
  Ev.u (fun _ => rfl) (spec_ReferenceGroups_l0 l hl l 0 [] rfl (by omega) (by simp))
theorem mgs_len_le : ∀ (L S : List S88), (mgs S L).length ≤ S.length + L.length
  | [], S => by simp [mgs]
  | g :: L, S => by
    have h1 := ins_len g S
    have h2 : (mgs (ins g S) L).length ≤ (ins g S).length + L.length := mgs_len_le L (ins g S)
    show (mgs (ins g S) L).length ≤ _
    rw [List.length_cons]; omega
def rk (a b : Int) : Int := if b = 0 then a else if b = 1 then wrap64 (Int.tdiv a 5) else 0
theorem impl_RollupKey_eq (a b : Int) : impl_RollupKey.f a b = some (rk a b) := by
  unfold impl_RollupKey.f rk; (repeat' split) <;> rfl
theorem spec_RollupKey_eq (a b : Int) : spec_RollupKey.f a b = some (rk a b) := by
  unfold spec_RollupKey.f rk; (repeat' split) <;> rfl
def rkG (lev : Int) (g : S88) : S88 := ⟨rk g.f0 lev, g.f1, g.f2, g.f3, g.f4⟩
def rlv (lev : Int) (L : List S88) : List S92 := (mgs [] (L.map (rkG lev))).map fun g => ⟨lev, g⟩
def rup (L : List S88) : List S92 := rlv 0 L ++ (rlv 1 L ++ rlv 2 L)
theorem rlv_len (lev : Int) (L : List S88) : (rlv lev L).length ≤ L.length := by
  have := mgs_len_le (L.map (rkG lev)) []
  unfold rlv; rw [List.length_map]; rw [List.length_map] at this; simpa using this
theorem rup_len (L : List S88) : (rup L).length ≤ 3 * L.length := by
  have h0 := rlv_len 0 L; have h1 := rlv_len 1 L; have h2 := rlv_len 2 L
  unfold rup; rw [List.length_append, List.length_append]; omega
theorem impl_RollupGroups_l2 (l : List S88) (lev v : Int) (M : List S88) (hM : M.length ≤ 1048576) (r : List S92) : ∀ (s : List S88) (i : Nat) (P : List S92), M.drop i = s → P.length + s.length ≤ 1000000000 → Ev (fun k => impl_RollupGroups.l0 k (P ++ s.map fun g => ⟨lev, g⟩) (wrap64 (v + 1)) l) r → Ev (fun k => impl_RollupGroups.l2 k P lev v M (M.length : Int) (i : Int) l) r := by
  intro s
  induction s with
  | nil =>
    intro i P hd hP h
    have := drop_nil' hd
    refine Ev.s (fun k => by rw [impl_RollupGroups.l2]) (Ev.e (by omega) ?_)
    simpa using h
  | cons x s ih =>
    intro i P hd hP h
    rw [List.length_cons] at hP
    obtain ⟨hi, hd', hx, -⟩ := drop_cons' hd
    refine Ev.s (fun k => by rw [impl_RollupGroups.l2]) (Ev.t (by omega) (Ev.t (by omega) (Ev.t (by omega) (Ev.t (by omega) ?_))))
    rw [rdG, hx, w64s hi (by omega)]
    refine ih (i + 1) _ hd' (by simp; omega) ?_
    simpa using h
theorem impl_RollupGroups_l1 (l : List S88) (hl : l.length ≤ 1048576) (lev v : Int) (P : List S92) (hP : P.length ≤ 100000000) (r : List S92) (HM : Ev (fun k => impl_MergeGroups.f k (l.map (rkG lev))) (mgs [] (l.map (rkG lev)))) (h : Ev (fun k => impl_RollupGroups.l0 k (P ++ rlv lev l) (wrap64 (v + 1)) l) r) : ∀ (s : List S88) (i : Nat) (A : List S88), l.drop i = s → A.length ≤ i → A ++ s.map (rkG lev) = l.map (rkG lev) → Ev (fun k => impl_RollupGroups.l1 k P lev A v (l.length : Int) (i : Int) l) r := by
  intro s
  induction s with
  | nil =>
    intro i A hd hA he
    have := drop_nil' hd
    rw [List.map_nil, List.append_nil] at he
    have hm := mgs_len_le (l.map (rkG lev)) []
    rw [List.length_map] at hm
    simp only [List.length_nil] at hm
    subst he
    refine Ev.s (fun k => by rw [impl_RollupGroups.l1]) ?_
    refine Ev.e (by omega) (Ev.b HM ?_)
    exact impl_RollupGroups_l2 l lev v (mgs [] (l.map (rkG lev))) (by omega) r (mgs [] (l.map (rkG lev))) 0 P rfl (by omega) h
  | cons x s ih =>
    intro i A hd hA he
    obtain ⟨hi, hd', hx, -⟩ := drop_cons' hd
    refine Ev.s (fun k => by rw [impl_RollupGroups.l1]) (Ev.t (by omega) (Ev.t (by omega) (Ev.t (by omega) ?_)))
    rw [rdG, hx, w64s hi (by omega)]
    refine Ev.b (Ev.c (impl_RollupKey_eq x.f0 lev)) (Ev.t (by omega) ?_)
    exact ih (i + 1) _ hd' (by simp; omega) (by rw [← he]; simp [rkG])
theorem impl_RollupGroups_ev (l : List S88) (hl : l.length ≤ 1048576) (HM : ∀ lev : Int, 0 ≤ lev → lev ≤ 2 → Ev (fun k => impl_MergeGroups.f k (l.map (rkG lev))) (mgs [] (l.map (rkG lev)))) : Ev (fun k => impl_RollupGroups.f k l) (rup l) := by
  have h0 := rlv_len 0 l; have h1 := rlv_len 1 l
  refine Ev.u (fun k => by rw [impl_RollupGroups.f]) ?_
  have L := fun (lev : Int) (h1 : 0 ≤ lev) (h2 : lev ≤ 2) (P : List S92) (hP : P.length ≤ 100000000) (r : List S92) h => impl_RollupGroups_l1 l hl lev lev P hP r (HM lev h1 h2) h l 0 [] rfl (by simp) rfl
  have e1 : wrap64 ((0 : Int) + 1) = 1 := w64 (by omega) (by omega)
  have e2 : wrap64 ((1 : Int) + 1) = 2 := w64 (by omega) (by omega)
  have e3 : wrap64 ((2 : Int) + 1) = 3 := w64 (by omega) (by omega)
  refine Ev.s (fun k => by rw [impl_RollupGroups.l0]) ?_
  refine Ev.t (by omega) (L 0 (by omega) (by omega) [] (by simp) _ ?_)
  rw [e1]
  refine Ev.s (fun k => by rw [impl_RollupGroups.l0]) ?_
  refine Ev.t (by omega) (L 1 (by omega) (by omega) _ (by simp; omega) _ ?_)
  rw [e2]
  refine Ev.s (fun k => by rw [impl_RollupGroups.l0]) ?_
  refine Ev.t (by omega) (L 2 (by omega) (by omega) _ (by simp; omega) _ ?_)
  rw [e3]
  refine Ev.s (fun k => by rw [impl_RollupGroups.l0]) ?_
  exact Ev.e (by omega) (Ev.p.r (by simp [rup]))
theorem spec_RollupGroups_l2 (l : List S88) (lev : Int) (M : List S88) (hM : M.length ≤ 1048576) (r : List S92) : ∀ (s : List S88) (i : Nat) (P : List S92), M.drop i = s → P.length + s.length ≤ 1000000000 → Ev (fun k => spec_RollupGroups.l0 k (P ++ s.map fun g => ⟨lev, g⟩) (wrap64 (lev + 1)) l) r → Ev (fun k => spec_RollupGroups.l2 k P lev M (i : Int) l) r := by
  intro s
  induction s with
  | nil =>
    intro i P hd hP h
    have := drop_nil' hd
    refine Ev.s (fun k => by rw [spec_RollupGroups.l2]) (Ev.e (by omega) ?_)
    simpa using h
  | cons x s ih =>
    intro i P hd hP h
    rw [List.length_cons] at hP
    obtain ⟨hi, hd', hx, -⟩ := drop_cons' hd
    refine Ev.s (fun k => by rw [spec_RollupGroups.l2]) (Ev.t (by omega) (Ev.t (by omega) (Ev.t (by omega) ?_)))
    rw [rdG, hx, w64s hi (by omega)]
    refine ih (i + 1) _ hd' (by simp; omega) ?_
    simpa using h
theorem spec_RollupGroups_l1 (l : List S88) (hl : l.length ≤ 1048576) (lev : Int) (P : List S92) (hP : P.length ≤ 100000000) (r : List S92) (h : Ev (fun k => spec_RollupGroups.l0 k (P ++ rlv lev l) (wrap64 (lev + 1)) l) r) : ∀ (s : List S88) (i : Nat) (A : List S88), l.drop i = s → A.length ≤ i → A ++ s.map (rkG lev) = l.map (rkG lev) → Ev (fun k => spec_RollupGroups.l1 k P lev A (i : Int) l) r := by
  intro s
  induction s with
  | nil =>
    intro i A hd hA he
    have := drop_nil' hd
    rw [List.map_nil, List.append_nil] at he
    have hm := mgs_len_le (l.map (rkG lev)) []
    rw [List.length_map] at hm
    simp only [List.length_nil] at hm
    subst he
    refine Ev.s (fun k => by rw [spec_RollupGroups.l1]) ?_
    refine Ev.e (by omega) (Ev.b (spec_MergeGroups_ev _ (by rw [List.length_map]; omega)) ?_)
    exact spec_RollupGroups_l2 l lev (mgs [] (l.map (rkG lev))) (by omega) r (mgs [] (l.map (rkG lev))) 0 P rfl (by omega) h
  | cons x s ih =>
    intro i A hd hA he
    obtain ⟨hi, hd', hx, -⟩ := drop_cons' hd
    refine Ev.s (fun k => by rw [spec_RollupGroups.l1]) (Ev.t (by omega) (Ev.t (by omega) ?_))
    rw [rdG, hx, w64s hi (by omega)]
    refine Ev.b (Ev.c (spec_RollupKey_eq x.f0 lev)) (Ev.t (by omega) ?_)
    exact ih (i + 1) _ hd' (by simp; omega) (by rw [← he]; simp [rkG])
theorem spec_RollupGroups_ev (l : List S88) (hl : l.length ≤ 1048576) : Ev (fun k => spec_RollupGroups.f k l) (rup l) := by
  have h0 := rlv_len 0 l; have h1 := rlv_len 1 l
  refine Ev.u (fun k => by rw [spec_RollupGroups.f]) ?_
  have L := fun (lev : Int) (P : List S92) (hP : P.length ≤ 100000000) (r : List S92) h => spec_RollupGroups_l1 l hl lev P hP r h l 0 [] rfl (by simp) rfl
  have e1 : wrap64 ((0 : Int) + 1) = 1 := w64 (by omega) (by omega)
  have e2 : wrap64 ((1 : Int) + 1) = 2 := w64 (by omega) (by omega)
  have e3 : wrap64 ((2 : Int) + 1) = 3 := w64 (by omega) (by omega)
  refine Ev.s (fun k => by rw [spec_RollupGroups.l0]) ?_
  refine Ev.t (by omega) (L 0 [] (by simp) _ ?_)
  rw [e1]
  refine Ev.s (fun k => by rw [spec_RollupGroups.l0]) ?_
  refine Ev.t (by omega) (L 1 _ (by simp; omega) _ ?_)
  rw [e2]
  refine Ev.s (fun k => by rw [spec_RollupGroups.l0]) ?_
  refine Ev.t (by omega) (L 2 _ (by simp; omega) _ ?_)
  rw [e3]
  refine Ev.s (fun k => by rw [spec_RollupGroups.l0]) ?_
  exact Ev.e (by omega) (Ev.p.r (by simp [rup]))
/-! texts -/
def EvP {α : Type} (f : Nat → Option α) (P : α → Prop) : Prop := ∃ r, Ev f r ∧ P r
theorem EvP.s {α : Type} {L f : Nat → Option α} {P : α → Prop} (h : ∀ k, L (k + 1) = f k) (hf : EvP f P) : EvP L P := by
  obtain ⟨r, e, p⟩ := hf; exact ⟨r, Ev.s h e, p⟩
theorem EvP.u {α : Type} {L f : Nat → Option α} {P : α → Prop} (h : ∀ k, L k = f k) (hf : EvP f P) : EvP L P := by
  obtain ⟨r, e, p⟩ := hf; exact ⟨r, Ev.u h e, p⟩
theorem EvP.t {α : Type} {p : Prop} [Decidable p] {f g : Nat → Option α} {P : α → Prop} (h : p) (hf : EvP f P) : EvP (fun k => if p then f k else g k) P := by
  obtain ⟨r, e, q⟩ := hf; exact ⟨r, Ev.t h e, q⟩
theorem EvP.e {α : Type} {p : Prop} [Decidable p] {f g : Nat → Option α} {P : α → Prop} (h : ¬ p) (hf : EvP g P) : EvP (fun k => if p then f k else g k) P := by
  obtain ⟨r, e, q⟩ := hf; exact ⟨r, Ev.e h e, q⟩
theorem EvP.i {α : Type} {p : Prop} [Decidable p] {f g : Nat → Option α} {P : α → Prop} (hf : p → EvP f P) (hg : ¬ p → EvP g P) : EvP (fun k => if p then f k else g k) P := by
  by_cases h : p
  · exact EvP.t h (hf h)
  · exact EvP.e h (hg h)
theorem EvP.b {α β : Type} {f : Nat → Option α} {g : Nat → α → Option β} {P : α → Prop} {Q : β → Prop} (hf : EvP f P) (hg : ∀ a, P a → EvP (fun k => g k a) Q) : EvP (fun k => (f k).bind (g k)) Q := by
  obtain ⟨a, e, p⟩ := hf
  obtain ⟨r, e', q⟩ := hg a p
  exact ⟨r, Ev.b e e', q⟩
theorem EvP.bc {α β : Type} {o : Option α} {a : α} {g : Nat → α → Option β} {Q : β → Prop} (h : o = some a) (hg : EvP (fun k => g k a) Q) : EvP (fun k => o.bind (g k)) Q := by
  obtain ⟨r, e', q⟩ := hg
  exact ⟨r, Ev.b (Ev.c h) e', q⟩
theorem EvP.p {α : Type} {r : α} {P : α → Prop} (h : P r) : EvP (fun _ => some r) P := ⟨r, Ev.p, h⟩
theorem EvP.m {α : Type} {f : Nat → Option α} {P Q : α → Prop} (h : EvP f P) (hp : ∀ a, P a → Q a) : EvP f Q := by
  obtain ⟨r, e, p⟩ := h; exact ⟨r, e, hp r p⟩
theorem EvP.cmp {α : Type} {x y : S88} {A B : Nat → Option α} {P : α → Prop} (hA : x.f0 < y.f0 → EvP A P) (hB : ¬ x.f0 < y.f0 → EvP B P) :
    EvP (fun k => (impl_MergeGroups_1.f x.f0 x.f1 x.f2 x.f3 x.f4 y.f0 y.f1 y.f2 y.f3 y.f4).bind fun t => (if t < 0 then (A k) else (B k))) P := by
  refine EvP.bc (ord_lt x y) ?_
  by_cases h : x.f0 < y.f0
  · rw [if_pos h]; exact EvP.t (by omega) (hA h)
  · rw [if_neg h]; exact EvP.e (by split <;> omega) (hB h)
def sw (D : List S88) (i j : Int) : List S88 := (D.set i.toNat (rd_T88 D j)).set j.toNat (rd_T88 D i)
theorem EvP.sw {α : Type} {D : List S88} {i j : Int} {R : Nat → List S88 → Option α} {P : α → Prop} (hj : j < (D.length : Int)) (h : EvP (fun k => R k (sw D i j)) P) :
    EvP (fun k => (some (D.set i.toNat (⟨(rd_T88 D j).f0, (rd_T88 D j).f1, (rd_T88 D j).f2, (rd_T88 D j).f3, (rd_T88 D j).f4⟩ : S88))).bind fun s => (if j < (s.length : Int) then ((some (s.set j.toNat (⟨(rd_T88 D i).f0, (rd_T88 D i).f1, (rd_T88 D i).f2, (rd_T88 D i).f3, (rd_T88 D i).f4⟩ : S88))).bind fun t => (R k t)) else none)) P := by
  refine EvP.bc rfl (EvP.t ?_ (EvP.bc rfl h))
  rw [List.length_set]; exact hj
theorem sw_len (D : List S88) (i j : Int) : (sw D i j).length = D.length := by simp [sw]
theorem sw_rd {D : List S88} {i j : Int} (hi : 0 ≤ i ∧ i < (D.length : Int)) (hj : 0 ≤ j ∧ j < (D.length : Int)) (t : Int) (ht : 0 ≤ t) :
    rd_T88 (sw D i j) t = if t = j then rd_T88 D i else if t = i then rd_T88 D j else rd_T88 D t := by
  unfold sw
  generalize rd_T88 D i = x
  generalize rd_T88 D j = y
  unfold rd_T88
  rw [List.getD_eq_getElem?_getD, List.getElem?_set, List.length_set, List.getElem?_set, List.getD_eq_getElem?_getD]
  by_cases e : t = j
  · subst e
    rw [if_pos rfl, if_pos (by omega), if_pos rfl]; rfl
  · rw [if_neg (by omega), if_neg e]
    by_cases e2 : t = i
    · subst e2
      rw [if_pos rfl, if_pos (by omega), if_pos rfl]; rfl
    · rw [if_neg (by omega), if_neg e2]
theorem rd_el {D : List S88} {i : Int} (hi : 0 ≤ i ∧ i < (D.length : Int)) : rd_T88 D i = D[i.toNat]'(by omega) := by
  unfold rd_T88
  rw [List.getD_eq_getElem?_getD, List.getElem?_eq_getElem (by omega)]; rfl
theorem sw_perm {D : List S88} {i j : Int} (hi : 0 ≤ i ∧ i < (D.length : Int)) (hj : 0 ≤ j ∧ j < (D.length : Int)) : (sw D i j).Perm D := by
  unfold sw
  rw [rd_el hi, rd_el hj]
  exact List.set_set_perm _ _
/-- Only the range [a, b) is stirred. -/
structure Rg (a b : Int) (D D' : List S88) : Prop where
  len : D'.length = D.length
  pm : D'.Perm D
  out : ∀ t, 0 ≤ t → (t < a ∨ b ≤ t) → rd_T88 D' t = rd_T88 D t
  all : ∀ Q : S88 → Prop, (∀ t, a ≤ t → t < b → Q (rd_T88 D t)) → ∀ t, a ≤ t → t < b → Q (rd_T88 D' t)
theorem Rg.refl (a b : Int) (D : List S88) : Rg a b D D := ⟨rfl, List.Perm.refl _, fun _ _ _ => rfl, fun _ h => h⟩
theorem Rg.trans {a b : Int} {D D' D'' : List S88} (h : Rg a b D D') (h' : Rg a b D' D'') : Rg a b D D'' :=
  ⟨h'.len.trans h.len, h'.pm.trans h.pm, fun t h0 ht => (h'.out t h0 ht).trans (h.out t h0 ht), fun Q hq => h'.all Q (h.all Q hq)⟩
theorem Rg.wide {a b a' b' : Int} {D D' : List S88} (h : Rg a b D D') (h0 : 0 ≤ a') (ha : a' ≤ a) (hb : b ≤ b') : Rg a' b' D D' := by
  refine ⟨h.len, h.pm, fun t ht hq => h.out t ht (by omega), fun Q hq t h1 h2 => ?_⟩
  by_cases c : a ≤ t ∧ t < b
  · exact h.all Q (fun u h3 h4 => hq u (by omega) (by omega)) t c.1 c.2
  · rw [h.out t (by omega) (by omega)]; exact hq t h1 h2
theorem Rg.sw {a b i j : Int} {D : List S88} (ha : 0 ≤ a) (hb : b ≤ (D.length : Int)) (hi : a ≤ i ∧ i < b) (hj : a ≤ j ∧ j < b) : Rg a b D (sw D i j) := by
  refine ⟨sw_len D i j, sw_perm ⟨by omega, by omega⟩ ⟨by omega, by omega⟩, fun t h0 ht => ?_, fun Q hq t h1 h2 => ?_⟩
  · rw [sw_rd ⟨by omega, by omega⟩ ⟨by omega, by omega⟩ t h0, if_neg (by omega), if_neg (by omega)]
  · rw [sw_rd ⟨by omega, by omega⟩ ⟨by omega, by omega⟩ t (by omega)]
    by_cases e : t = j
    · rw [if_pos e]; exact hq i hi.1 hi.2
    · rw [if_neg e]
      by_cases e2 : t = i
      · rw [if_pos e2]; exact hq j hj.1 hj.2
      · rw [if_neg e2]; exact hq t h1 h2
def ky (D : List S88) (t : Int) : Int := (rd_T88 D t).f0
theorem ky_sw {D : List S88} {i j : Int} (hi : 0 ≤ i ∧ i < (D.length : Int)) (hj : 0 ≤ j ∧ j < (D.length : Int)) (t : Int) (ht : 0 ≤ t) :
    (t = j → ky (sw D i j) t = ky D i) ∧ (t ≠ j → t = i → ky (sw D i j) t = ky D j) ∧ (t ≠ j → t ≠ i → ky (sw D i j) t = ky D t) := by
  unfold ky
  rw [sw_rd hi hj t ht]
  refine ⟨fun e => by rw [if_pos e], fun e e2 => by rw [if_neg e, if_pos e2], fun e e2 => by rw [if_neg e, if_neg e2]⟩
def Srt (a b : Int) (D : List S88) : Prop := ∀ x y, a ≤ x → x < y → y < b → ky D x ≤ ky D y
def Nd (D : List S88) : Prop := (ks D).Nodup
theorem Rg.nd {a b : Int} {D D' : List S88} (h : Rg a b D D') (n : Nd D) : Nd D' := (h.pm.map (fun x : S88 => x.f0)).nodup_iff.2 n
theorem Rg.ky {a b : Int} {D D' : List S88} (h : Rg a b D D') {t : Int} (h0 : 0 ≤ t) (ht : t < a ∨ b ≤ t) : ky D' t = K.ky D t := congrArg (·.f0) (h.out t h0 ht)
theorem nd_ne {D : List S88} (n : Nd D) {i j : Int} (hi : 0 ≤ i ∧ i < (D.length : Int)) (hj : 0 ≤ j ∧ j < (D.length : Int)) (e : i ≠ j) : ky D i ≠ ky D j := by
  unfold ky
  rw [rd_el hi, rd_el hj]
  unfold Nd ks at n
  rw [List.nodup_iff_pairwise_ne, List.pairwise_iff_getElem] at n
  have hl : (D.map (fun x : S88 => x.f0)).length = D.length := List.length_map ..
  by_cases c : i < j
  · have := n i.toNat j.toNat (by omega) (by omega) (by omega)
    simpa using this
  · have := n j.toNat i.toNat (by omega) (by omega) (by omega)
    intro e2
    apply this
    simpa using e2.symm

theorem is_l1 (a b i : Int) (D0 : List S88) (ha : 0 ≤ a) (hi : a < i) (hib : i < b) (hb : b ≤ (D0.length : Int)) (hn : (D0.length : Int) ≤ 1099511627776) (P : List S88 → Prop)
    (K : ∀ D, Rg a b D0 D → Srt a (i + 1) D → EvP (fun k => slices_insertionSortCmpFunc_impl_Group_at93.l0 k D a b (i + 1)) P) :
    ∀ (m : Nat) (D : List S88) (j : Int), j = a + m → j ≤ i → Rg a b D0 D → (∀ x y, a ≤ x → x < y → y ≤ i → x ≠ j → y ≠ j → ky D x ≤ ky D y) → (∀ y, j < y → y ≤ i → ky D j ≤ ky D y) →
    EvP (fun k => slices_insertionSortCmpFunc_impl_Group_at93.l1 k D a b i j) P := by
  intro m
  have ew : wrap64 (i + 1) = i + 1 := w64 (by omega) (by omega)
  induction m with
  | zero =>
    intro D j hj hji R h1 h2
    refine EvP.s (fun k => by rw [slices_insertionSortCmpFunc_impl_Group_at93.l1]) ?_
    rw [ew]
    refine EvP.e (by omega) (K D R fun x y hx hxy hy => ?_)
    by_cases e : x = j
    · subst e; exact h2 y hxy (by omega)
    · exact h1 x y hx hxy (by omega) e (by omega)
  | succ m ih =>
    intro D j hj hji R h1 h2
    have hl := R.len
    have ej : wrap64 (j - 1) = j - 1 := w64 (by omega) (by omega)
    refine EvP.s (fun k => by rw [slices_insertionSortCmpFunc_impl_Group_at93.l1]) ?_
    rw [ew, ej]
    refine EvP.t (by omega) (EvP.t (by omega) (EvP.t (by omega) (EvP.t (by omega) (EvP.t (by omega) (EvP.cmp (fun c => ?_) (fun c => ?_))))))
    · refine EvP.sw (by omega) ?_
      have S := fun t h => ky_sw (D := D) (i := j) (j := j - 1) ⟨by omega, by omega⟩ ⟨by omega, by omega⟩ t h
      have c' : ky D j < ky D (j - 1) := c
      refine ih (sw D j (j - 1)) (j - 1) (by omega) (by omega) (R.trans (Rg.sw ha (by omega) ⟨by omega, by omega⟩ ⟨by omega, by omega⟩)) ?_ ?_
      · intro x y hx hxy hy e1 e2
        by_cases q : x = j
        · rw [(S x (by omega)).2.1 e1 q, (S y (by omega)).2.2 e2 (by omega)]
          exact h1 (j - 1) y (by omega) (by omega) hy (by omega) (by omega)
        · rw [(S x (by omega)).2.2 e1 q]
          by_cases q2 : y = j
          · rw [(S y (by omega)).2.1 e2 q2]
            exact h1 x (j - 1) hx (by omega) (by omega) q (by omega)
          · rw [(S y (by omega)).2.2 e2 q2]
            exact h1 x y hx hxy hy q q2
      · intro y h3 h4
        rw [(S (j - 1) (by omega)).1 rfl]
        by_cases q : y = j
        · rw [(S y (by omega)).2.1 (by omega) q]; omega
        · rw [(S y (by omega)).2.2 (by omega) q]; exact h2 y (by omega) h4
    · have c' : ¬ ky D j < ky D (j - 1) := c
      refine K D R fun x y hx hxy hy => ?_
      by_cases e : x = j
      · subst e; exact h2 y hxy (by omega)
      · by_cases e2 : y = j
        · subst e2
          by_cases e3 : x = y - 1
          · subst e3; omega
          · have := h1 x (y - 1) hx (by omega) (by omega) (by omega) (by omega)
            omega
        · exact h1 x y hx hxy (by omega) e e2
theorem is_l0 (a b : Int) (D0 : List S88) (ha : 0 ≤ a) (hb : b ≤ (D0.length : Int)) (hn : (D0.length : Int) ≤ 1099511627776) :
    ∀ (m : Nat) (D : List S88) (i : Int), i + m = (if a < b then b else a + 1) → a < i → Rg a b D0 D → Srt a i D →
    EvP (fun k => slices_insertionSortCmpFunc_impl_Group_at93.l0 k D a b i) (fun D' => Rg a b D0 D' ∧ Srt a b D') := by
  intro m
  induction m with
  | zero =>
    intro D i hi h0 R s
    refine EvP.s (fun k => by rw [slices_insertionSortCmpFunc_impl_Group_at93.l0]) (EvP.e (by split at hi <;> omega) (EvP.p ⟨R, ?_⟩))
    intro x y hx hxy hy
    exact s x y hx hxy (by split at hi <;> omega)
  | succ m ih =>
    intro D i hi h0 R s
    have hib : i < b := by split at hi <;> omega
    refine EvP.s (fun k => by rw [slices_insertionSortCmpFunc_impl_Group_at93.l0]) (EvP.t hib ?_)
    refine is_l1 a b i D0 ha h0 hib hb hn _ (fun D1 R1 s1 => ih D1 (i + 1) (by omega) (by omega) R1 s1) (i - a).toNat D i (by omega) (by omega) R ?_ ?_
    · intro x y hx hxy hy e1 e2
      exact s x y hx hxy (by omega)
    · intro y h3 h4; omega
theorem is_ev (a b : Int) (D : List S88) (ha : 0 ≤ a) (hab : a ≤ b) (hb : b ≤ (D.length : Int)) (hn : (D.length : Int) ≤ 1099511627776) :
    EvP (fun k => slices_insertionSortCmpFunc_impl_Group_at93.f k D a b) (fun D' => Rg a b D D' ∧ Srt a b D') := by
  have e : wrap64 (a + 1) = a + 1 := w64 (by omega) (by omega)
  refine EvP.u (fun k => by rw [slices_insertionSortCmpFunc_impl_Group_at93.f, e]) ?_
  refine is_l0 a b D ha hb hn ((if a < b then b else a + 1) - (a + 1)).toNat D (a + 1) ?_ (by omega) (Rg.refl a b D) (fun x y _ _ _ => by omega)
  split <;> omega

def Hp (f lo hi : Int) (D : List S88) : Prop := ∀ p c, lo ≤ p → (c = 2 * p + 1 ∨ c = 2 * p + 2) → c < hi → ky D (f + c) ≤ ky D (f + p)
theorem sd_ev (f lo hi : Int) (D0 : List S88) (hf : 0 ≤ f) (hlo : 0 ≤ lo) (hh : f + hi ≤ (D0.length : Int)) (hn : (D0.length : Int) ≤ 1099511627776) :
    ∀ (m : Nat) (D : List S88) (r : Int), r + m = hi → lo ≤ r → Rg f (f + hi) D0 D →
    (∀ p c, lo ≤ p → p ≠ r → (c = 2 * p + 1 ∨ c = 2 * p + 2) → c < hi → ky D (f + c) ≤ ky D (f + p)) →
    (∀ q c, lo ≤ q → (r = 2 * q + 1 ∨ r = 2 * q + 2) → (c = 2 * r + 1 ∨ c = 2 * r + 2) → c < hi → ky D (f + c) ≤ ky D (f + q)) →
    EvP (fun k => slices_siftDownCmpFunc_impl_Group_at93.l0 k D hi f r) (fun D' => Rg f (f + hi) D0 D' ∧ Hp f lo hi D') := by
  intro m
  induction m using Nat.strongRecOn with
  | ind m ih =>
    intro D r hm hr R h1 h2
    have hl := R.len
    by_cases hc : 2 * r + 1 ≥ hi
    · have e1 : wrap64 (2 * r) = 2 * r := w64 (by omega) (by omega)
      have e2 : wrap64 (2 * r + 1) = 2 * r + 1 := w64 (by omega) (by omega)
      refine EvP.s (fun k => by rw [slices_siftDownCmpFunc_impl_Group_at93.l0]) ?_
      rw [e1, e2]
      refine EvP.t hc (EvP.p ⟨R, fun p c hp hcp hch => ?_⟩)
      by_cases e : p = r
      · subst e; omega
      · exact h1 p c hp e hcp hch
    · have e1 : wrap64 (2 * r) = 2 * r := w64 (by omega) (by omega)
      have e2 : wrap64 (2 * r + 1) = 2 * r + 1 := w64 (by omega) (by omega)
      have e3 : wrap64 (2 * r + 1 + 1) = 2 * r + 2 := by rw [w64 (by omega) (by omega)]; omega
      have e4 : wrap64 (f + (2 * r + 1)) = f + (2 * r + 1) := w64 (by omega) (by omega)
      have e5 : wrap64 (f + (2 * r + 1) + 1) = f + (2 * r + 2) := by rw [w64 (by omega) (by omega)]; omega
      have J : ∀ ch : Int, (ch = 2 * r + 1 ∨ ch = 2 * r + 2) → ch < hi → (∀ c, (c = 2 * r + 1 ∨ c = 2 * r + 2) → c < hi → ky D (f + c) ≤ ky D (f + ch)) →
          EvP (fun k => slices_siftDownCmpFunc_impl_Group_at93.j0 k D hi f r ch) (fun D' => Rg f (f + hi) D0 D' ∧ Hp f lo hi D') := by
        intro ch hch hlt hmx
        have e6 : wrap64 (f + r) = f + r := w64 (by omega) (by omega)
        have e7 : wrap64 (f + ch) = f + ch := w64 (by omega) (by omega)
        refine EvP.s (fun k => by rw [slices_siftDownCmpFunc_impl_Group_at93.j0]) ?_
        rw [e6, e7]
        refine EvP.t (by omega) (EvP.t (by omega) (EvP.t (by omega) (EvP.t (by omega) (EvP.cmp (fun c => ?_) (fun c => ?_)))))
        · refine EvP.sw (by omega) ?_
          have c' : ky D (f + r) < ky D (f + ch) := c
          have S := fun t h => ky_sw (D := D) (i := f + r) (j := f + ch) ⟨by omega, by omega⟩ ⟨by omega, by omega⟩ t h
          refine ih (hi - ch).toNat (by omega) (sw D (f + r) (f + ch)) ch (by omega) (by omega) (R.trans (Rg.sw hf (by omega) ⟨by omega, by omega⟩ ⟨by omega, by omega⟩)) ?_ ?_
          · intro p c1 hp hpr hcp hcl
            by_cases q : p = r
            · subst q
              rw [(S (f + p) (by omega)).2.1 (by omega) rfl]
              by_cases q2 : c1 = ch
              · rw [(S (f + c1) (by omega)).1 (by omega)]; omega
              · rw [(S (f + c1) (by omega)).2.2 (by omega) (by omega)]
                exact hmx c1 hcp hcl
            · rw [(S (f + p) (by omega)).2.2 (by omega) (by omega)]
              by_cases q2 : c1 = r
              · rw [(S (f + c1) (by omega)).2.1 (by omega) (by omega)]
                subst q2
                exact h2 p ch hp hcp hch hlt
              · rw [(S (f + c1) (by omega)).2.2 (by omega) (by omega)]
                exact h1 p c1 hp q hcp hcl
          · intro q c1 hq hrq hcq hcl
            have hqr : q = r := by omega
            subst hqr
            rw [(S (f + q) (by omega)).2.1 (by omega) rfl, (S (f + c1) (by omega)).2.2 (by omega) (by omega)]
            exact h1 ch c1 (by omega) (by omega) hcq hcl
        · have c' : ¬ ky D (f + r) < ky D (f + ch) := c
          refine EvP.p ⟨R, fun p c1 hp hcp hcl => ?_⟩
          by_cases q : p = r
          · subst q
            have := hmx c1 hcp hcl
            omega
          · exact h1 p c1 hp q hcp hcl
      refine EvP.s (fun k => by rw [slices_siftDownCmpFunc_impl_Group_at93.l0]) ?_
      rw [e1, e2, e3, e4, e5]
      refine EvP.e hc (EvP.i (fun hc2 => ?_) (fun hc2 => ?_))
      · refine EvP.t (by omega) (EvP.t (by omega) (EvP.t (by omega) (EvP.t (by omega) (EvP.cmp (fun c => ?_) (fun c => ?_)))))
        · have c' : ky D (f + (2 * r + 1)) < ky D (f + (2 * r + 2)) := c
          refine J (2 * r + 2) (.inr rfl) hc2 fun c1 h3 h4 => ?_
          rcases h3 with rfl | rfl
          · omega
          · exact Int.le_refl _
        · have c' : ¬ ky D (f + (2 * r + 1)) < ky D (f + (2 * r + 2)) := c
          refine J (2 * r + 1) (.inl rfl) (by omega) fun c1 h3 h4 => ?_
          rcases h3 with rfl | rfl
          · exact Int.le_refl _
          · omega
      · refine J (2 * r + 1) (.inl rfl) (by omega) fun c1 h3 h4 => ?_
        rcases h3 with rfl | rfl
        · exact Int.le_refl _
        · omega
theorem hp_top {f hi : Int} {D : List S88} (h : Hp f 0 hi D) : ∀ (m : Nat), (m : Int) < hi → ky D (f + m) ≤ ky D (f + 0) := by
  intro m
  induction m using Nat.strongRecOn with
  | ind m ih =>
    intro hm
    by_cases e : m = 0
    · subst e; exact Int.le_refl _
    · have h1 := h (((m - 1) / 2 : Nat) : Int) m (by omega) (by omega) hm
      have h2 := ih ((m - 1) / 2) (by omega) (by omega)
      omega
theorem hs_l1 (f n : Int) (D0 : List S88) (hf : 0 ≤ f) (hh : f + n ≤ (D0.length : Int)) (hn : (D0.length : Int) ≤ 1099511627776) :
    ∀ (m : Nat) (D : List S88) (i : Int), i + 1 = m → i < n → Rg f (f + n) D0 D → Hp f 0 (i + 1) D → Srt (f + i + 1) (f + n) D → (∀ x y, 0 ≤ x → x ≤ i → i < y → y < n → ky D (f + x) ≤ ky D (f + y)) →
    EvP (fun k => slices_heapSortCmpFunc_impl_Group_at93.l1 k D f 0 i) (fun D' => Rg f (f + n) D0 D' ∧ Srt f (f + n) D') := by
  intro m
  induction m with
  | zero =>
    intro D i hi hin R H s h
    refine EvP.s (fun k => by rw [slices_heapSortCmpFunc_impl_Group_at93.l1]) (EvP.e (by omega) (EvP.p ⟨R, ?_⟩))
    intro x y hx hxy hy
    exact s x y (by omega) hxy hy
  | succ m ih =>
    intro D i hi hin R H s h
    have hl := R.len
    have e1 : wrap64 (f + i) = f + i := w64 (by omega) (by omega)
    have e2 : wrap64 (i - 1) = i - 1 := w64 (by omega) (by omega)
    refine EvP.s (fun k => by rw [slices_heapSortCmpFunc_impl_Group_at93.l1]) ?_
    rw [e1, e2]
    refine EvP.t (by omega) (EvP.t (by omega) (EvP.t (by omega) (EvP.t (by omega) (EvP.t (by omega) (EvP.sw (by omega) ?_)))))
    have S := fun t h => ky_sw (D := D) (i := f) (j := f + i) ⟨by omega, by omega⟩ ⟨by omega, by omega⟩ t h
    have R1 : Rg f (f + n) D (sw D f (f + i)) := Rg.sw hf (by omega) ⟨by omega, by omega⟩ ⟨by omega, by omega⟩
    have l1 := R1.len
    refine EvP.b (sd_ev f 0 i (sw D f (f + i)) hf (Int.le_refl _) (by omega) (by omega) i.toNat (sw D f (f + i)) 0 (by omega) (by omega) (Rg.refl _ _ _) ?_ ?_) ?_
    · intro p c hp hp0 hcp hci
      rw [(S (f + c) (by omega)).2.2 (by omega) (by omega), (S (f + p) (by omega)).2.2 (by omega) (by omega)]
      exact H p c hp hcp (by omega)
    · intro q c hq hq0 _ _
      omega
    · rintro D2 ⟨R2, H2⟩
      have R3 := (R.trans R1).trans (R2.wide hf (Int.le_refl _) (by omega))
      have T := fun x (h1 : 0 ≤ x) (h2 : x ≤ i) => hp_top H x.toNat (by omega)
      have T' : ∀ x, 0 ≤ x → x ≤ i → ky D (f + x) ≤ ky D f := fun x h1 h2 => by
        have := T x h1 h2
        rw [Int.toNat_of_nonneg h1, Int.add_zero] at this
        exact this
      have hout : ∀ t, f + i ≤ t → ky D2 t = ky (sw D f (f + i)) t := fun t ht => R2.ky (by omega) (.inr ht)
      have hlow : ∀ v, (∀ x, 0 ≤ x → x < i → ky (sw D f (f + i)) (f + x) ≤ v) → ∀ x, 0 ≤ x → x < i → ky D2 (f + x) ≤ v := by
        intro v hv x hx hxi
        exact R2.all (fun g => g.f0 ≤ v) (fun t h1 h2 => by have := hv (t - f) (by omega) (by omega); rw [show f + (t - f) = t by omega] at this; exact this) (f + x) (by omega) (by omega)
      refine ih D2 (i - 1) (by omega) (by omega) R3 (by rw [show i - 1 + 1 = i by omega]; exact H2) ?_ ?_
      · intro x y hx hxy hy
        rw [hout x (by omega), hout y (by omega)]
        rw [(S y (by omega)).2.2 (by omega) (by omega)]
        by_cases q : x = f + i
        · rw [(S x (by omega)).1 q]
          have := h 0 (y - f) (by omega) (by omega) (by omega) (by omega)
          rw [show f + (y - f) = y by omega, Int.add_zero] at this
          exact this
        · rw [(S x (by omega)).2.2 q (by omega)]
          exact s x y (by omega) hxy hy
      · intro x y hx hxi hy hyn
        rw [hout (f + y) (by omega)]
        refine hlow _ (fun x hx hxi => ?_) x hx (by omega)
        by_cases q : y = i
        · rw [(S (f + y) (by omega)).1 (by omega)]
          by_cases q2 : x = 0
          · rw [(S (f + x) (by omega)).2.1 (by omega) (by omega)]
            exact T' i (by omega) (by omega)
          · rw [(S (f + x) (by omega)).2.2 (by omega) (by omega)]
            exact T' x (by omega) (by omega)
        · rw [(S (f + y) (by omega)).2.2 (by omega) (by omega)]
          by_cases q2 : x = 0
          · rw [(S (f + x) (by omega)).2.1 (by omega) (by omega)]
            exact h i y (by omega) (by omega) (by omega) hyn
          · rw [(S (f + x) (by omega)).2.2 (by omega) (by omega)]
            exact h x y (by omega) (by omega) (by omega) hyn
theorem hs_l0 (f n : Int) (D0 : List S88) (hf : 0 ≤ f) (hn0 : 0 ≤ n) (hh : f + n ≤ (D0.length : Int)) (hn : (D0.length : Int) ≤ 1099511627776) :
    ∀ (m : Nat) (D : List S88) (i : Int), i + 1 = m → i ≤ n → Rg f (f + n) D0 D → Hp f (i + 1) n D →
    EvP (fun k => slices_heapSortCmpFunc_impl_Group_at93.l0 k D f 0 n i) (fun D' => Rg f (f + n) D0 D' ∧ Srt f (f + n) D') := by
  intro m
  induction m with
  | zero =>
    intro D i hi hin R H
    have e1 : wrap64 (n - 1) = n - 1 := w64 (by omega) (by omega)
    refine EvP.s (fun k => by rw [slices_heapSortCmpFunc_impl_Group_at93.l0]) (EvP.e (by omega) ?_)
    rw [e1]
    refine hs_l1 f n D0 hf hh hn n.toNat D (n - 1) (by omega) (by omega) R ?_ (fun x y _ _ _ => by omega) (fun x y _ _ _ _ => by omega)
    rw [show n - 1 + 1 = n by omega, show (0 : Int) = i + 1 by omega]
    exact H
  | succ m ih =>
    intro D i hi hin R H
    have hl := R.len
    have e1 : wrap64 (i - 1) = i - 1 := w64 (by omega) (by omega)
    refine EvP.s (fun k => by rw [slices_heapSortCmpFunc_impl_Group_at93.l0]) (EvP.t (by omega) ?_)
    rw [e1]
    refine EvP.b (sd_ev f i n D hf (by omega) (by omega) (by omega) (n - i).toNat D i (by omega) (Int.le_refl _) (Rg.refl _ _ _) ?_ ?_) ?_
    · intro p c hp hpi hcp hcn
      exact H p c (by omega) hcp hcn
    · intro q c hq hiq _ _
      omega
    · rintro D2 ⟨R2, H2⟩
      refine ih D2 (i - 1) (by omega) (by omega) (R.trans R2) ?_
      rw [show i - 1 + 1 = i by omega]; exact H2
theorem hs_ev (a b : Int) (D : List S88) (ha : 0 ≤ a) (hab : a ≤ b) (hb : b ≤ (D.length : Int)) (hn : (D.length : Int) ≤ 1099511627776) :
    EvP (fun k => slices_heapSortCmpFunc_impl_Group_at93.f k D a b) (fun D' => Rg a b D D' ∧ Srt a b D') := by
  have e1 : wrap64 (b - a) = b - a := w64 (by omega) (by omega)
  have e2 : wrap64 (b - a - 1) = b - a - 1 := w64 (by omega) (by omega)
  have h0 : -1 ≤ Int.tdiv (b - a - 1) 2 ∧ Int.tdiv (b - a - 1) 2 ≤ b - a ∧ b - a ≤ 2 * Int.tdiv (b - a - 1) 2 + 2 := by
    by_cases c : b - a = 0
    · rw [c]; decide
    · rw [Int.tdiv_eq_ediv_of_nonneg (by omega)]; omega
  have e3 : wrap64 (Int.tdiv (b - a - 1) 2) = Int.tdiv (b - a - 1) 2 := w64 (by omega) (by omega)
  refine EvP.u (fun k => by rw [slices_heapSortCmpFunc_impl_Group_at93.f, e1, e2, e3]) ?_
  have := hs_l0 a (b - a) D ha (by omega) (by omega) hn (Int.tdiv (b - a - 1) 2 + 1).toNat D (Int.tdiv (b - a - 1) 2) (by omega) (by omega) (Rg.refl _ _ _) (fun p c hp hcp hcn => by omega)
  rw [show a + (b - a) = b by omega] at this
  exact this

def PP (a b : Int) (D0 : List S88) (m : Int) (D : List S88) : Prop := a ≤ m ∧ m < b ∧ Rg a b D0 D ∧ (∀ t, a ≤ t → t < m → ky D t < ky D m) ∧ (∀ t, m < t → t < b → ¬ ky D t < ky D m)
def Iv (a b : Int) (D0 D : List S88) (i j : Int) : Prop := Rg a b D0 D ∧ a < i ∧ i ≤ j + 1 ∧ j < b ∧ (∀ t, a < t → t < i → ky D t < ky D a) ∧ (∀ t, j < t → t < b → ¬ ky D t < ky D a)
theorem iv_end {a b i j : Int} {D0 D : List S88} (ha : 0 ≤ a) (hb : b ≤ (D0.length : Int)) (h : Iv a b D0 D i j) (hij : i > j) : PP a b D0 j (sw D j a) := by
  obtain ⟨R, h1, h2, h3, h4, h5⟩ := h
  have hl := R.len
  have S := fun t h => ky_sw (D := D) (i := j) (j := a) ⟨by omega, by omega⟩ ⟨by omega, by omega⟩ t h
  have e : ky (sw D j a) j = ky D a := by
    by_cases q : j = a
    · rw [(S j (by omega)).1 q, q]
    · exact (S j (by omega)).2.1 q rfl
  refine ⟨by omega, h3, R.trans (Rg.sw ha (by omega) ⟨by omega, by omega⟩ ⟨by omega, by omega⟩), fun t ht htj => ?_, fun t ht htb => ?_⟩
  · rw [e]
    by_cases q : t = a
    · rw [(S t (by omega)).1 q]; exact h4 j (by omega) (by omega)
    · rw [(S t (by omega)).2.2 q (by omega)]; exact h4 t (by omega) (by omega)
  · rw [e, (S t (by omega)).2.2 (by omega) (by omega)]
    exact h5 t ht htb
theorem iv_sw {a b i j : Int} {D0 D : List S88} (ha : 0 ≤ a) (hb : b ≤ (D0.length : Int)) (h : Iv a b D0 D i j) (hij : ¬ i > j) (hi : ¬ ky D i < ky D a) (hj : ky D j < ky D a) : Iv a b D0 (sw D i j) (i + 1) (j - 1) := by
  obtain ⟨R, h1, h2, h3, h4, h5⟩ := h
  have hl := R.len
  have S := fun t h => ky_sw (D := D) (i := i) (j := j) ⟨by omega, by omega⟩ ⟨by omega, by omega⟩ t h
  have hne : i ≠ j := by intro e; subst e; omega
  have ea : ky (sw D i j) a = ky D a := (S a ha).2.2 (by omega) (by omega)
  refine ⟨R.trans (Rg.sw ha (by omega) ⟨by omega, by omega⟩ ⟨by omega, by omega⟩), by omega, by omega, by omega, fun t ht hti => ?_, fun t ht htb => ?_⟩
  · rw [ea]
    by_cases q : t = i
    · rw [(S t (by omega)).2.1 (by omega) q]; exact hj
    · rw [(S t (by omega)).2.2 (by omega) q]; exact h4 t ht (by omega)
  · rw [ea]
    by_cases q : t = j
    · rw [(S t (by omega)).1 q]; exact hi
    · rw [(S t (by omega)).2.2 q (by omega)]; exact h5 t (by omega) htb
theorem pt_l2 {P : Int × Bool × List S88 → Prop} (a b : Int) (D0 : List S88) (ha : 0 ≤ a) (hb : b ≤ (D0.length : Int)) (hn : (D0.length : Int) ≤ 1099511627776) (j s : Int) (D : List S88)
    (K : ∀ i, s ≤ i → Iv a b D0 D i j → (i ≤ j → ¬ ky D i < ky D a) → EvP (fun k => slices_partitionCmpFunc_impl_Group_at93.j5 k D a i j) P) :
    ∀ (m : Nat) (i : Int), j + 1 - i = m → s ≤ i → Iv a b D0 D i j → EvP (fun k => slices_partitionCmpFunc_impl_Group_at93.l2 k D a i j) P := by
  intro m
  induction m with
  | zero =>
    intro i hi hs h
    exact EvP.s (fun k => by rw [slices_partitionCmpFunc_impl_Group_at93.l2]) (EvP.e (by omega) (K i hs h (fun _ => by omega)))
  | succ m ih =>
    intro i hi hs h
    have h' := h
    obtain ⟨R, h1, h2, h3, h4, h5⟩ := h
    have hl := R.len
    have e1 : wrap64 (i + 1) = i + 1 := w64 (by omega) (by omega)
    refine EvP.s (fun k => by rw [slices_partitionCmpFunc_impl_Group_at93.l2]) ?_
    rw [e1]
    refine EvP.t (by omega) (EvP.t (by omega) (EvP.t (by omega) (EvP.t (by omega) (EvP.t (by omega) (EvP.cmp (fun c => ?_) (fun c => ?_))))))
    · refine ih (i + 1) (by omega) (by omega) ⟨R, by omega, by omega, h3, fun t ht hti => ?_, h5⟩
      by_cases q : t = i
      · subst q; exact c
      · exact h4 t ht (by omega)
    · exact K i hs h' (fun _ => c)
theorem pt_l1 {P : Int × Bool × List S88 → Prop} (a b : Int) (D0 : List S88) (ha : 0 ≤ a) (hb : b ≤ (D0.length : Int)) (hn : (D0.length : Int) ≤ 1099511627776) (i s : Int) (D : List S88)
    (K : ∀ j, j ≤ s → Iv a b D0 D i j → (i ≤ j → ky D j < ky D a) → EvP (fun k => slices_partitionCmpFunc_impl_Group_at93.j6 k D a i j) P) :
    ∀ (m : Nat) (j : Int), j + 1 - i = m → j ≤ s → Iv a b D0 D i j → EvP (fun k => slices_partitionCmpFunc_impl_Group_at93.l1 k D a i j) P := by
  intro m
  induction m with
  | zero =>
    intro j hi hs h
    exact EvP.s (fun k => by rw [slices_partitionCmpFunc_impl_Group_at93.l1]) (EvP.e (by omega) (K j hs h (fun _ => by omega)))
  | succ m ih =>
    intro j hi hs h
    have h' := h
    obtain ⟨R, h1, h2, h3, h4, h5⟩ := h
    have hl := R.len
    have e1 : wrap64 (j - 1) = j - 1 := w64 (by omega) (by omega)
    refine EvP.s (fun k => by rw [slices_partitionCmpFunc_impl_Group_at93.l1]) ?_
    rw [e1]
    refine EvP.t (by omega) (EvP.t (by omega) (EvP.t (by omega) (EvP.t (by omega) (EvP.t (by omega) (EvP.cmp (fun c => ?_) (fun c => ?_))))))
    · exact K j hs h' (fun _ => c)
    · refine ih (j - 1) (by omega) (by omega) ⟨R, by omega, by omega, by omega, h4, fun t ht htb => ?_⟩
      by_cases q : t = j
      · subst q; exact c
      · exact h5 t (by omega) htb
theorem pt_j6 (a b : Int) (D0 : List S88) (ha : 0 ≤ a) (hb : b ≤ (D0.length : Int)) (hn : (D0.length : Int) ≤ 1099511627776) (i j : Int) (D : List S88) (h : Iv a b D0 D i j) (hi : i ≤ j → ¬ ky D i < ky D a) (hj : i ≤ j → ky D j < ky D a)
    (K : ¬ i > j → Iv a b D0 (sw D i j) (i + 1) (j - 1) → EvP (fun k => slices_partitionCmpFunc_impl_Group_at93.l0 k (sw D i j) a (i + 1) (j - 1)) (fun r => PP a b D0 r.1 r.2.2)) :
    EvP (fun k => slices_partitionCmpFunc_impl_Group_at93.j6 k D a i j) (fun r => PP a b D0 r.1 r.2.2) := by
  have h' := h
  obtain ⟨R, h1, h2, h3, h4, h5⟩ := h
  have hl := R.len
  have e1 : wrap64 (i + 1) = i + 1 := w64 (by omega) (by omega)
  have e2 : wrap64 (j - 1) = j - 1 := w64 (by omega) (by omega)
  refine EvP.s (fun k => by rw [slices_partitionCmpFunc_impl_Group_at93.j6]) ?_
  refine EvP.i (fun c => ?_) (fun c => ?_)
  · refine EvP.t (by omega) (EvP.t (by omega) (EvP.t (by omega) (EvP.t (by omega) (EvP.sw (by omega) ?_))))
    refine EvP.s (fun k => by rw [slices_partitionCmpFunc_impl_Group_at93.j7]) (EvP.p ?_)
    exact iv_end ha hb h' c
  · refine EvP.t (by omega) (EvP.t (by omega) (EvP.t (by omega) (EvP.t (by omega) (EvP.sw (by omega) ?_))))
    refine EvP.s (fun k => by rw [slices_partitionCmpFunc_impl_Group_at93.j8, e1, e2]) ?_
    exact K c (iv_sw ha hb h' c (hi (by omega)) (hj (by omega)))
theorem pt_l4 {P : Int × Bool × List S88 → Prop} (a b : Int) (D0 : List S88) (ha : 0 ≤ a) (hb : b ≤ (D0.length : Int)) (hn : (D0.length : Int) ≤ 1099511627776) (j s : Int) (D : List S88)
    (K : ∀ i, s ≤ i → Iv a b D0 D i j → (i ≤ j → ¬ ky D i < ky D a) → EvP (fun k => slices_partitionCmpFunc_impl_Group_at93.j1 k D a i j) P) :
    ∀ (m : Nat) (i : Int), j + 1 - i = m → s ≤ i → Iv a b D0 D i j → EvP (fun k => slices_partitionCmpFunc_impl_Group_at93.l4 k D a i j) P := by
  intro m
  induction m with
  | zero =>
    intro i hi hs h
    exact EvP.s (fun k => by rw [slices_partitionCmpFunc_impl_Group_at93.l4]) (EvP.e (by omega) (K i hs h (fun _ => by omega)))
  | succ m ih =>
    intro i hi hs h
    have h' := h
    obtain ⟨R, h1, h2, h3, h4, h5⟩ := h
    have hl := R.len
    have e1 : wrap64 (i + 1) = i + 1 := w64 (by omega) (by omega)
    refine EvP.s (fun k => by rw [slices_partitionCmpFunc_impl_Group_at93.l4]) ?_
    rw [e1]
    refine EvP.t (by omega) (EvP.t (by omega) (EvP.t (by omega) (EvP.t (by omega) (EvP.t (by omega) (EvP.cmp (fun c => ?_) (fun c => ?_))))))
    · refine ih (i + 1) (by omega) (by omega) ⟨R, by omega, by omega, h3, fun t ht hti => ?_, h5⟩
      by_cases q : t = i
      · subst q; exact c
      · exact h4 t ht (by omega)
    · exact K i hs h' (fun _ => c)
theorem pt_l3 {P : Int × Bool × List S88 → Prop} (a b : Int) (D0 : List S88) (ha : 0 ≤ a) (hb : b ≤ (D0.length : Int)) (hn : (D0.length : Int) ≤ 1099511627776) (i s : Int) (D : List S88)
    (K : ∀ j, j ≤ s → Iv a b D0 D i j → (i ≤ j → ky D j < ky D a) → EvP (fun k => slices_partitionCmpFunc_impl_Group_at93.j2 k D a i j) P) :
    ∀ (m : Nat) (j : Int), j + 1 - i = m → j ≤ s → Iv a b D0 D i j → EvP (fun k => slices_partitionCmpFunc_impl_Group_at93.l3 k D a i j) P := by
  intro m
  induction m with
  | zero =>
    intro j hi hs h
    exact EvP.s (fun k => by rw [slices_partitionCmpFunc_impl_Group_at93.l3]) (EvP.e (by omega) (K j hs h (fun _ => by omega)))
  | succ m ih =>
    intro j hi hs h
    have h' := h
    obtain ⟨R, h1, h2, h3, h4, h5⟩ := h
    have hl := R.len
    have e1 : wrap64 (j - 1) = j - 1 := w64 (by omega) (by omega)
    refine EvP.s (fun k => by rw [slices_partitionCmpFunc_impl_Group_at93.l3]) ?_
    rw [e1]
    refine EvP.t (by omega) (EvP.t (by omega) (EvP.t (by omega) (EvP.t (by omega) (EvP.t (by omega) (EvP.cmp (fun c => ?_) (fun c => ?_))))))
    · exact K j hs h' (fun _ => c)
    · refine ih (j - 1) (by omega) (by omega) ⟨R, by omega, by omega, by omega, h4, fun t ht htb => ?_⟩
      by_cases q : t = j
      · subst q; exact c
      · exact h5 t (by omega) htb
theorem pt_j2 (a b : Int) (D0 : List S88) (ha : 0 ≤ a) (hb : b ≤ (D0.length : Int)) (hn : (D0.length : Int) ≤ 1099511627776) (i j : Int) (D : List S88) (h : Iv a b D0 D i j) (hi : i ≤ j → ¬ ky D i < ky D a) (hj : i ≤ j → ky D j < ky D a)
    (K : ¬ i > j → Iv a b D0 (sw D i j) (i + 1) (j - 1) → EvP (fun k => slices_partitionCmpFunc_impl_Group_at93.l0 k (sw D i j) a (i + 1) (j - 1)) (fun r => PP a b D0 r.1 r.2.2)) :
    EvP (fun k => slices_partitionCmpFunc_impl_Group_at93.j2 k D a i j) (fun r => PP a b D0 r.1 r.2.2) := by
  have h' := h
  obtain ⟨R, h1, h2, h3, h4, h5⟩ := h
  have hl := R.len
  have e1 : wrap64 (i + 1) = i + 1 := w64 (by omega) (by omega)
  have e2 : wrap64 (j - 1) = j - 1 := w64 (by omega) (by omega)
  refine EvP.s (fun k => by rw [slices_partitionCmpFunc_impl_Group_at93.j2]) ?_
  refine EvP.i (fun c => ?_) (fun c => ?_)
  · refine EvP.t (by omega) (EvP.t (by omega) (EvP.t (by omega) (EvP.t (by omega) (EvP.sw (by omega) ?_))))
    refine EvP.s (fun k => by rw [slices_partitionCmpFunc_impl_Group_at93.j3]) (EvP.p ?_)
    exact iv_end ha hb h' c
  · refine EvP.t (by omega) (EvP.t (by omega) (EvP.t (by omega) (EvP.t (by omega) (EvP.sw (by omega) ?_))))
    refine EvP.s (fun k => by rw [slices_partitionCmpFunc_impl_Group_at93.j4, e1, e2]) ?_
    exact K c (iv_sw ha hb h' c (hi (by omega)) (hj (by omega)))
theorem pt_l0 (a b : Int) (D0 : List S88) (ha : 0 ≤ a) (hb : b ≤ (D0.length : Int)) (hn : (D0.length : Int) ≤ 1099511627776) :
    ∀ (m : Nat) (D : List S88) (i j : Int), j + 1 - i < m → Iv a b D0 D i j → EvP (fun k => slices_partitionCmpFunc_impl_Group_at93.l0 k D a i j) (fun r => PP a b D0 r.1 r.2.2) := by
  intro m
  induction m with
  | zero =>
    intro D i j hm h
    have := h.2.2.1
    omega
  | succ m ih =>
    intro D i j hm h
    refine EvP.s (fun k => by rw [slices_partitionCmpFunc_impl_Group_at93.l0]) ?_
    refine pt_l2 a b D0 ha hb hn j i D (fun i1 g1 h1 q1 => ?_) (j + 1 - i).toNat i (by have := h.2.2.1; omega) (Int.le_refl _) h
    refine EvP.s (fun k => by rw [slices_partitionCmpFunc_impl_Group_at93.j5]) ?_
    refine pt_l1 a b D0 ha hb hn i1 j D (fun j1 g2 h2 q2 => ?_) (j + 1 - i1).toNat j (by have := h1.2.2.1; omega) (Int.le_refl _) h1
    have b1 := h1.2.1
    have b2 := h2.2.2.2.1
    have b3 := h.2.2.1
    refine pt_j6 a b D0 ha hb hn i1 j1 D h2 (fun c => ?_) q2 (fun c h3 => ih _ (i1 + 1) (j1 - 1) ?_ h3)
    · by_cases q : i1 ≤ j
      · exact q1 q
      · exact h2.2.2.2.2.2 i1 (by omega) (by omega)
    · have := h3.2.2.1
      omega
theorem pt_ev (a b p : Int) (D : List S88) (ha : 0 ≤ a) (hp : a ≤ p ∧ p < b) (hb : b ≤ (D.length : Int)) (hn : (D.length : Int) ≤ 1099511627776) :
    EvP (fun k => slices_partitionCmpFunc_impl_Group_at93.f k D a b p) (fun r => PP a b D r.1 r.2.2) := by
  have e1 : wrap64 (a + 1) = a + 1 := w64 (by omega) (by omega)
  have e2 : wrap64 (b - 1) = b - 1 := w64 (by omega) (by omega)
  refine EvP.u (fun k => by rw [slices_partitionCmpFunc_impl_Group_at93.f]) ?_
  refine EvP.t (by omega) (EvP.t (by omega) (EvP.t (by omega) (EvP.t (by omega) (EvP.sw (by omega) ?_))))
  refine EvP.s (fun k => by rw [slices_partitionCmpFunc_impl_Group_at93.j0, e1, e2]) ?_
  have R : Rg a b D (sw D a p) := Rg.sw ha hb ⟨by omega, by omega⟩ ⟨by omega, by omega⟩
  have h : Iv a b D (sw D a p) (a + 1) (b - 1) := ⟨R, by omega, by omega, by omega, fun t h1 h2 => by omega, fun t h1 h2 => by omega⟩
  refine pt_l4 a b D ha hb hn (b - 1) (a + 1) _ (fun i1 g1 h1 q1 => ?_) (b - 1 + 1 - (a + 1)).toNat (a + 1) (by omega) (Int.le_refl _) h
  refine EvP.s (fun k => by rw [slices_partitionCmpFunc_impl_Group_at93.j1]) ?_
  refine pt_l3 a b D ha hb hn i1 (b - 1) _ (fun j1 g2 h2 q2 => ?_) (b - 1 + 1 - i1).toNat (b - 1) (by have := h1.2.2.1; omega) (Int.le_refl _) h1
  refine pt_j2 a b D ha hb hn i1 j1 _ h2 (fun c => ?_) q2 (fun c h3 => pt_l0 a b D ha hb hn (j1 - 1 + 1 - (i1 + 1) + 1).toNat _ (i1 + 1) (j1 - 1) ?_ h3)
  · by_cases q : i1 ≤ b - 1
    · exact q1 q
    · have := h2.2.2.2.1
      omega
  · have := h3.2.2.1
    omega

def Lo (a b : Int) (D : List S88) : Prop := a = 0 ∨ ∀ t, a ≤ t → t < b → ky D (a - 1) < ky D t
theorem Rg.lo {a b c d : Int} {D D' : List S88} (h : Rg c d D D') (ha : 0 ≤ a) (hc : a ≤ c) (hd : d ≤ b) (l : Lo a b D) : Lo a b D' := by
  rcases l with l | l
  · exact .inl l
  · by_cases e : a = 0
    · exact .inl e
    · right
      intro t ht htb
      rw [h.ky (t := a - 1) (by omega) (by omega)]
      exact (h.wide ha hc hd).all (fun g => K.ky D (a - 1) < g.f0) l t ht htb
def PI (a b : Int) (D0 : List S88) (r : Bool × List S88) : Prop := Rg a b D0 r.2 ∧ (r.1 = true → Srt a b r.2)
theorem pis_l1 (a b : Int) (D0 : List S88) (ha : 0 ≤ a) (hb : b ≤ (D0.length : Int)) (hn : (D0.length : Int) ≤ 1099511627776) (i s : Int) (hi : a < i)
    (K : ∀ D, Rg a b D0 D → Srt a i D → EvP (fun k => slices_partialInsertionSortCmpFunc_impl_Group_at93.l0 k D a b i (wrap64 (s + 1))) (PI a b D0)) :
    ∀ (m : Nat) (D : List S88) (j : Int), i < j → (j < b → b - j = m) → (b ≤ j → m = 0) → Rg a b D0 D → Srt a i D → EvP (fun k => slices_partialInsertionSortCmpFunc_impl_Group_at93.l1 k D a b i s j) (PI a b D0) := by
  intro m
  induction m with
  | zero =>
    intro D j hj h1 h2 R S
    exact EvP.s (fun k => by rw [slices_partialInsertionSortCmpFunc_impl_Group_at93.l1]) (EvP.e (by omega) (K D R S))
  | succ m ih =>
    intro D j hj h1 h2 R S
    have hl := R.len
    have hjb : j < b := by omega
    have ej : wrap64 (j - 1) = j - 1 := w64 (by omega) (by omega)
    have ej2 : wrap64 (j + 1) = j + 1 := w64 (by omega) (by omega)
    refine EvP.s (fun k => by rw [slices_partialInsertionSortCmpFunc_impl_Group_at93.l1]) ?_
    rw [ej, ej2]
    refine EvP.t hjb (EvP.t (by omega) (EvP.t (by omega) (EvP.t (by omega) (EvP.t (by omega) (EvP.cmp (fun c => ?_) (fun c => K D R S))))))
    refine EvP.sw (by omega) ?_
    have T := fun t h => ky_sw (D := D) (i := j) (j := j - 1) ⟨by omega, by omega⟩ ⟨by omega, by omega⟩ t h
    refine ih _ (j + 1) (by omega) (by omega) (by omega) (R.trans (Rg.sw ha (by omega) ⟨by omega, by omega⟩ ⟨by omega, by omega⟩)) ?_
    intro x y hx hxy hy
    rw [(T x (by omega)).2.2 (by omega) (by omega), (T y (by omega)).2.2 (by omega) (by omega)]
    exact S x y hx hxy hy
theorem pis_l2 (a b : Int) (D0 : List S88) (ha : 0 ≤ a) (hb : b ≤ (D0.length : Int)) (hn : (D0.length : Int) ≤ 1099511627776) (i s : Int) (hi : a < i) (hib : i < b)
    (K : ∀ D, Rg a b D0 D → Srt a i D → EvP (fun k => slices_partialInsertionSortCmpFunc_impl_Group_at93.j2 k D a b i s) (PI a b D0)) :
    ∀ (m : Nat) (D : List S88) (j : Int), j = a + m → j < i → Rg a b D0 D → Lo a b D → (∀ x y, a ≤ x → x < y → y < i → x ≠ j → y ≠ j → ky D x ≤ ky D y) → (∀ y, j < y → y < i → ky D j ≤ ky D y) →
    EvP (fun k => slices_partialInsertionSortCmpFunc_impl_Group_at93.l2 k D a b i s j) (PI a b D0) := by
  intro m
  induction m with
  | zero =>
    intro D j hj hji R L h1 h2
    have hl := R.len
    have S : Srt a i D := by
      intro x y hx hxy hy
      by_cases e : x = j
      · subst e; exact h2 y hxy hy
      · exact h1 x y hx hxy hy e (by omega)
    refine EvP.s (fun k => by rw [slices_partialInsertionSortCmpFunc_impl_Group_at93.l2]) ?_
    by_cases hj1 : j ≥ 1
    · have ej : wrap64 (j - 1) = j - 1 := w64 (by omega) (by omega)
      rw [ej]
      refine EvP.t hj1 (EvP.t (by omega) (EvP.t (by omega) (EvP.t (by omega) (EvP.t (by omega) (EvP.cmp (fun c => ?_) (fun c => K D R S))))))
      exfalso
      have c' : ky D j < ky D (j - 1) := c
      rcases L with L | L
      · omega
      · have := L a (Int.le_refl _) (by omega)
        rw [show j = a by omega] at c'
        omega
    · exact EvP.e hj1 (K D R S)
  | succ m ih =>
    intro D j hj hji R L h1 h2
    have hl := R.len
    have ej : wrap64 (j - 1) = j - 1 := w64 (by omega) (by omega)
    refine EvP.s (fun k => by rw [slices_partialInsertionSortCmpFunc_impl_Group_at93.l2]) ?_
    rw [ej]
    refine EvP.t (by omega) (EvP.t (by omega) (EvP.t (by omega) (EvP.t (by omega) (EvP.t (by omega) (EvP.cmp (fun c => ?_) (fun c => ?_))))))
    · refine EvP.sw (by omega) ?_
      have S := fun t h => ky_sw (D := D) (i := j) (j := j - 1) ⟨by omega, by omega⟩ ⟨by omega, by omega⟩ t h
      have c' : ky D j < ky D (j - 1) := c
      have R1 : Rg a b D (sw D j (j - 1)) := Rg.sw ha (by omega) ⟨by omega, by omega⟩ ⟨by omega, by omega⟩
      refine ih (sw D j (j - 1)) (j - 1) (by omega) (by omega) (R.trans R1) (R1.lo ha (Int.le_refl _) (Int.le_refl _) L) ?_ ?_
      · intro x y hx hxy hy e1 e2
        by_cases q : x = j
        · rw [(S x (by omega)).2.1 e1 q, (S y (by omega)).2.2 e2 (by omega)]
          exact h1 (j - 1) y (by omega) (by omega) hy (by omega) (by omega)
        · rw [(S x (by omega)).2.2 e1 q]
          by_cases q2 : y = j
          · rw [(S y (by omega)).2.1 e2 q2]
            exact h1 x (j - 1) hx (by omega) (by omega) q (by omega)
          · rw [(S y (by omega)).2.2 e2 q2]
            exact h1 x y hx hxy hy q q2
      · intro y h3 h4
        rw [(S (j - 1) (by omega)).1 rfl]
        by_cases q : y = j
        · rw [(S y (by omega)).2.1 (by omega) q]; omega
        · rw [(S y (by omega)).2.2 (by omega) q]; exact h2 y (by omega) h4
    · have c' : ¬ ky D j < ky D (j - 1) := c
      refine K D R fun x y hx hxy hy => ?_
      by_cases e : x = j
      · subst e; exact h2 y hxy hy
      · by_cases e2 : y = j
        · subst e2
          by_cases e3 : x = y - 1
          · subst e3; omega
          · have := h1 x (y - 1) hx (by omega) (by omega) (by omega) (by omega)
            omega
        · exact h1 x y hx hxy hy e e2
theorem pis_l3 (a b : Int) (D0 D : List S88) (ha : 0 ≤ a) (hb : b ≤ (D0.length : Int)) (hn : (D0.length : Int) ≤ 1099511627776) (s : Int) (R : Rg a b D0 D)
    (K : ∀ i, a < i → i ≤ b → Srt a i D → EvP (fun k => slices_partialInsertionSortCmpFunc_impl_Group_at93.j0 k D a b i s) (PI a b D0)) :
    ∀ (m : Nat) (i : Int), i + m = b → a < i → Srt a i D → EvP (fun k => slices_partialInsertionSortCmpFunc_impl_Group_at93.l3 k D a b i s) (PI a b D0) := by
  intro m
  have hl := R.len
  induction m with
  | zero =>
    intro i hi h0 S
    exact EvP.s (fun k => by rw [slices_partialInsertionSortCmpFunc_impl_Group_at93.l3]) (EvP.e (by omega) (K i h0 (by omega) S))
  | succ m ih =>
    intro i hi h0 S
    have ej : wrap64 (i - 1) = i - 1 := w64 (by omega) (by omega)
    have ej2 : wrap64 (i + 1) = i + 1 := w64 (by omega) (by omega)
    refine EvP.s (fun k => by rw [slices_partialInsertionSortCmpFunc_impl_Group_at93.l3]) ?_
    rw [ej, ej2]
    refine EvP.t (by omega) (EvP.t (by omega) (EvP.t (by omega) (EvP.t (by omega) (EvP.t (by omega) (EvP.cmp (fun c => K i h0 (by omega) S) (fun c => ?_))))))
    have c' : ¬ ky D i < ky D (i - 1) := c
    refine ih (i + 1) (by omega) (by omega) fun x y hx hxy hy => ?_
    by_cases e : y = i
    · subst e
      by_cases e3 : x = y - 1
      · subst e3; omega
      · have := S x (y - 1) hx (by omega) (by omega)
        omega
    · exact S x y hx hxy (by omega)
theorem pis_l0 (a b : Int) (D0 : List S88) (ha : 0 ≤ a) (hb : b ≤ (D0.length : Int)) (hn : (D0.length : Int) ≤ 1099511627776) (L0 : Lo a b D0) :
    ∀ (m : Nat) (D : List S88) (i s : Int), 0 ≤ s → s ≤ 5 → s + m = 5 → a < i → i ≤ b → Rg a b D0 D → Srt a i D → EvP (fun k => slices_partialInsertionSortCmpFunc_impl_Group_at93.l0 k D a b i s) (PI a b D0) := by
  intro m
  induction m with
  | zero =>
    intro D i s h0 h5 hs hi hib R S
    exact EvP.s (fun k => by rw [slices_partialInsertionSortCmpFunc_impl_Group_at93.l0]) (EvP.e (by omega) (EvP.p ⟨R, fun h => by cases h⟩))
  | succ m ih =>
    intro D i s h0 h5 hs hi hib R S
    refine EvP.s (fun k => by rw [slices_partialInsertionSortCmpFunc_impl_Group_at93.l0]) (EvP.t (by omega) ?_)
    refine pis_l3 a b D0 D ha hb hn s R (fun i hi hib S => ?_) (b - i).toNat i (by omega) hi S
    have hl := R.len
    have e1 : wrap64 (i - 1) = i - 1 := w64 (by omega) (by omega)
    have e2 : wrap64 (b - a) = b - a := w64 (by omega) (by omega)
    have e3 : wrap64 (s + 1) = s + 1 := w64 (by omega) (by omega)
    have e4 : wrap64 (i - a) = i - a := w64 (by omega) (by omega)
    have e5 : wrap64 (b - i) = b - i := w64 (by omega) (by omega)
    have e6 : wrap64 (i + 1) = i + 1 := w64 (by omega) (by omega)
    refine EvP.s (fun k => by rw [slices_partialInsertionSortCmpFunc_impl_Group_at93.j0]) ?_
    rw [e1, e2]
    refine EvP.i (fun c => EvP.p ⟨R, fun _ => by rw [← c]; exact S⟩) (fun c => EvP.i (fun _ => EvP.p ⟨R, fun h => by cases h⟩) (fun _ => ?_))
    refine EvP.t (by omega) (EvP.t (by omega) (EvP.t (by omega) (EvP.t (by omega) (EvP.sw (by omega) ?_))))
    have T := fun t h => ky_sw (D := D) (i := i) (j := i - 1) ⟨by omega, by omega⟩ ⟨by omega, by omega⟩ t h
    have R1 : Rg a b D0 (sw D i (i - 1)) := R.trans (Rg.sw ha (by omega) ⟨by omega, by omega⟩ ⟨by omega, by omega⟩)
    have J2 : ∀ D, Rg a b D0 D → Srt a i D → EvP (fun k => slices_partialInsertionSortCmpFunc_impl_Group_at93.j2 k D a b i s) (PI a b D0) := by
      intro D2 R2 S2
      refine EvP.s (fun k => by rw [slices_partialInsertionSortCmpFunc_impl_Group_at93.j2]) ?_
      rw [e5, e6, e3]
      refine EvP.i (fun _ => ?_) (fun _ => ih D2 i (s + 1) (by omega) (by omega) (by omega) hi hib R2 S2)
      exact pis_l1 a b D0 ha hb hn i s hi (fun D3 R3 S3 => by rw [e3]; exact ih D3 i (s + 1) (by omega) (by omega) (by omega) hi hib R3 S3) (b - (i + 1)).toNat D2 (i + 1) (by omega) (by omega) (by omega) R2 S2
    refine EvP.s (fun k => by rw [slices_partialInsertionSortCmpFunc_impl_Group_at93.j1]) ?_
    rw [e4, e1]
    refine EvP.i (fun c2 => ?_) (fun c2 => J2 _ R1 fun x y hx hxy hy => by omega)
    refine pis_l2 a b D0 ha hb hn i s hi (by omega) J2 (i - 1 - a).toNat _ (i - 1) (by omega) (by omega) R1 (R1.lo ha (Int.le_refl _) (Int.le_refl _) L0) ?_ (fun y h1 h2 => by omega)
    intro x y hx hxy hy q1 q2
    rw [(T x (by omega)).2.2 (by omega) (by omega), (T y (by omega)).2.2 (by omega) (by omega)]
    exact S x y hx hxy hy
theorem pis_ev (a b : Int) (D : List S88) (ha : 0 ≤ a) (hab : a < b) (hb : b ≤ (D.length : Int)) (hn : (D.length : Int) ≤ 1099511627776) (L : Lo a b D) :
    EvP (fun k => slices_partialInsertionSortCmpFunc_impl_Group_at93.f k D a b) (PI a b D) := by
  have e1 : wrap64 (a + 1) = a + 1 := w64 (by omega) (by omega)
  refine EvP.u (fun k => by rw [slices_partialInsertionSortCmpFunc_impl_Group_at93.f, e1]) ?_
  exact pis_l0 a b D ha hb hn L 5 D (a + 1) 0 (by omega) (by omega) (by omega) (by omega) (by omega) (Rg.refl _ _ _) (fun x y _ _ _ => by omega)
theorem rr_l0 (a b : Int) (D0 : List S88) (ha : 0 ≤ a) (hb : b ≤ (D0.length : Int)) (hn : (D0.length : Int) ≤ 1099511627776) :
    ∀ (m : Nat) (D : List S88) (i j : Int), j - i ≤ m → a ≤ i → j < b → i ≤ b → -1 ≤ j → Rg a b D0 D → EvP (fun k => slices_reverseRangeCmpFunc_impl_Group_at93.l0 k D i j) (Rg a b D0) := by
  intro m
  induction m with
  | zero =>
    intro D i j hm hi hj hi2 hj2 R
    exact EvP.s (fun k => by rw [slices_reverseRangeCmpFunc_impl_Group_at93.l0]) (EvP.e (by omega) (EvP.p R))
  | succ m ih =>
    intro D i j hm hi hj hi2 hj2 R
    have hl := R.len
    have e1 : wrap64 (j - 1) = j - 1 := w64 (by omega) (by omega)
    have e2 : wrap64 (i + 1) = i + 1 := w64 (by omega) (by omega)
    refine EvP.s (fun k => by rw [slices_reverseRangeCmpFunc_impl_Group_at93.l0]) ?_
    rw [e1, e2]
    refine EvP.i (fun c => ?_) (fun c => EvP.p R)
    refine EvP.t (by omega) (EvP.t (by omega) (EvP.t (by omega) (EvP.t (by omega) (EvP.sw (by omega) ?_))))
    exact ih _ (i + 1) (j - 1) (by omega) (by omega) (by omega) (by omega) (by omega) (R.trans (Rg.sw ha (by omega) ⟨by omega, by omega⟩ ⟨by omega, by omega⟩))
theorem rr_ev (a b : Int) (D : List S88) (ha : 0 ≤ a) (hab : a ≤ b) (hb : b ≤ (D.length : Int)) (hn : (D.length : Int) ≤ 1099511627776) :
    EvP (fun k => slices_reverseRangeCmpFunc_impl_Group_at93.f k D a b) (Rg a b D) := by
  have e1 : wrap64 (b - 1) = b - 1 := w64 (by omega) (by omega)
  refine EvP.u (fun k => by rw [slices_reverseRangeCmpFunc_impl_Group_at93.f, e1]) ?_
  exact rr_l0 a b D ha hb hn (b - 1 - a).toNat D a (b - 1) (by omega) (by omega) (by omega) hab (by omega) (Rg.refl _ _ _)
theorem EvP.k {α : Type} {o : Option α} {P : α → Prop} (h : ∃ r, o = some r ∧ P r) : EvP (fun _ => o) P := by
  obtain ⟨r, e, p⟩ := h; exact ⟨r, Ev.c e, p⟩
def InD (D : List S88) (t : Int) : Prop := 0 ≤ t ∧ t < (D.length : Int)
theorem or2_ex (Q : Int → Prop) {D : List S88} {a b : Int} (s : Int) (ia : InD D a) (ib : InD D b) (qa : Q a) (qb : Q b) : ∃ r, slices_order2CmpFunc_impl_Group_at93.f D a b s = some r ∧ (InD D r.1 ∧ Q r.1) ∧ InD D r.2.1 ∧ Q r.2.1 := by
  obtain ⟨a0, a1⟩ := ia
  obtain ⟨b0, b1⟩ := ib
  unfold slices_order2CmpFunc_impl_Group_at93.f
  rw [if_pos b0, if_pos b1, if_pos a0, if_pos a1, ord_lt]
  have key : ∀ v : Int, ∃ r : Int × Int × Int, ((some v).bind fun t5 => (if t5 < 0 then (some (b, a, wrap64 (s + 1))) else (some (a, b, s)))) = some r ∧ (InD D r.1 ∧ Q r.1) ∧ InD D r.2.1 ∧ Q r.2.1 := by
    intro v
    by_cases h : v < 0
    · exact ⟨(b, a, wrap64 (s + 1)), if_pos h, ⟨⟨b0, b1⟩, qb⟩, ⟨a0, a1⟩, qa⟩
    · exact ⟨(a, b, s), if_neg h, ⟨⟨a0, a1⟩, qa⟩, ⟨b0, b1⟩, qb⟩
  exact key _
theorem med_ex (Q : Int → Prop) {D : List S88} {a b c : Int} (s : Int) (ia : InD D a) (ib : InD D b) (ic : InD D c) (qa : Q a) (qb : Q b) (qc : Q c) : ∃ r, slices_medianCmpFunc_impl_Group_at93.f D a b c s = some r ∧ InD D r.1 ∧ Q r.1 := by
  obtain ⟨r1, e1, ⟨i1, q1⟩, i2, q2⟩ := or2_ex Q s ia ib qa qb
  obtain ⟨r2, e2, ⟨i3, q3⟩, i4, q4⟩ := or2_ex Q r1.2.2 i2 ic q2 qc
  obtain ⟨r3, e3, ⟨i5, q5⟩, i6, q6⟩ := or2_ex Q r2.2.2 i1 i3 q1 q3
  refine ⟨(r3.2.1, r3.2.2), ?_, i6, q6⟩
  unfold slices_medianCmpFunc_impl_Group_at93.f
  rw [e1]
  show (Option.bind (slices_order2CmpFunc_impl_Group_at93.f D r1.2.1 c r1.2.2) _) = _
  rw [e2]
  show (Option.bind (slices_order2CmpFunc_impl_Group_at93.f D r1.1 r2.1 r2.2.2) _) = _
  rw [e3]; rfl
theorem mad_ex (Q : Int → Prop) {D : List S88} {a : Int} (s : Int) (hn : (D.length : Int) ≤ 1099511627776) (h0 : InD D (a - 1)) (h1 : InD D (a + 1)) (q0 : Q (a - 1)) (q1 : Q a) (q2 : Q (a + 1)) : ∃ r, slices_medianAdjacentCmpFunc_impl_Group_at93.f D a s = some r ∧ InD D r.1 ∧ Q r.1 := by
  obtain ⟨x0, x1⟩ := h0
  obtain ⟨y0, y1⟩ := h1
  obtain ⟨r, e, i, q⟩ := med_ex Q s (D := D) (a := a - 1) (b := a) (c := a + 1) ⟨x0, x1⟩ ⟨by omega, by omega⟩ ⟨y0, y1⟩ q0 q1 q2
  refine ⟨(r.1, r.2), ?_, i, q⟩
  unfold slices_medianAdjacentCmpFunc_impl_Group_at93.f
  rw [w64 (x := a - 1) (by omega) (by omega), w64 (x := a + 1) (by omega) (by omega), e]; rfl
theorem cp_j0 (P : Int → Prop) (p s : Int) (h : P p) : EvP (fun k => slices_choosePivotCmpFunc_impl_Group_at93.j0 k p s) (fun r => P r.1) := by
  refine EvP.s (fun k => by rw [slices_choosePivotCmpFunc_impl_Group_at93.j0]) ?_
  exact EvP.i (fun _ => EvP.p h) (fun _ => EvP.i (fun _ => EvP.p h) (fun _ => EvP.p h))
theorem cp_ev (a b : Int) (D : List S88) (ha : 0 ≤ a) (hab : a < b) (hb : b ≤ (D.length : Int)) (hn : (D.length : Int) ≤ 1099511627776) :
    EvP (fun k => slices_choosePivotCmpFunc_impl_Group_at93.f k D a b) (fun r => a ≤ r.1 ∧ r.1 < b) := by
  have e1 : wrap64 (b - a) = b - a := w64 (by omega) (by omega)
  have hq : Int.tdiv (b - a) 4 = (b - a) / 4 := Int.tdiv_eq_ediv_of_nonneg (by omega)
  have e2 : wrap64 ((b - a) / 4) = (b - a) / 4 := w64 (by omega) (by omega)
  have f1 : wrap64 ((b - a) / 4 * 1) = (b - a) / 4 := by rw [w64 (by omega) (by omega)]; omega
  have f2 : wrap64 ((b - a) / 4 * 2) = (b - a) / 4 * 2 := w64 (by omega) (by omega)
  have f3 : wrap64 ((b - a) / 4 * 3) = (b - a) / 4 * 3 := w64 (by omega) (by omega)
  have g1 : wrap64 (a + (b - a) / 4) = a + (b - a) / 4 := w64 (by omega) (by omega)
  have g2 : wrap64 (a + (b - a) / 4 * 2) = a + (b - a) / 4 * 2 := w64 (by omega) (by omega)
  have g3 : wrap64 (a + (b - a) / 4 * 3) = a + (b - a) / 4 * 3 := w64 (by omega) (by omega)
  have J1 : ∀ x y z s : Int, (a ≤ x ∧ x < b) → (a ≤ y ∧ y < b) → (a ≤ z ∧ z < b) → EvP (fun k => slices_choosePivotCmpFunc_impl_Group_at93.j1 k x y z s D) (fun r => a ≤ r.1 ∧ r.1 < b) := by
    intro x y z s hx hy hz
    obtain ⟨r, e, i, q⟩ := med_ex (fun t => a ≤ t ∧ t < b) s (D := D) (a := x) (b := y) (c := z) ⟨by omega, by omega⟩ ⟨by omega, by omega⟩ ⟨by omega, by omega⟩ hx hy hz
    refine EvP.s (fun k => by rw [slices_choosePivotCmpFunc_impl_Group_at93.j1]) (EvP.bc e ?_)
    exact cp_j0 (fun t => a ≤ t ∧ t < b) r.1 r.2 q
  refine EvP.u (fun k => by rw [slices_choosePivotCmpFunc_impl_Group_at93.f, e1, hq, e2, f1, f2, f3, g1, g2, g3]) ?_
  refine EvP.i (fun c => EvP.i (fun c2 => ?_) (fun c2 => ?_)) (fun c => ?_)
  · obtain ⟨r1, x1, -, q1⟩ := mad_ex (fun t => a ≤ t ∧ t < b) 0 (D := D) (a := a + (b - a) / 4) hn ⟨by omega, by omega⟩ ⟨by omega, by omega⟩ (by omega) (by omega) (by omega)
    obtain ⟨r2, x2, -, q2⟩ := mad_ex (fun t => a ≤ t ∧ t < b) r1.2 (D := D) (a := a + (b - a) / 4 * 2) hn ⟨by omega, by omega⟩ ⟨by omega, by omega⟩ (by omega) (by omega) (by omega)
    obtain ⟨r3, x3, -, q3⟩ := mad_ex (fun t => a ≤ t ∧ t < b) r2.2 (D := D) (a := a + (b - a) / 4 * 3) hn ⟨by omega, by omega⟩ ⟨by omega, by omega⟩ (by omega) (by omega) (by omega)
    exact EvP.bc x1 (EvP.bc x2 (EvP.bc x3 (J1 _ _ _ _ q1 q2 q3)))
  · exact J1 _ _ _ _ (by omega) (by omega) (by omega)
  · exact cp_j0 (fun t => a ≤ t ∧ t < b) _ _ (by omega)

theorem lenT_ok : (List.range 256).all (fun y => decide (0 ≤ bt (⟨#[0, 1, 2, 2, 3, 3, 3, 3, 4, 4, 4, 4, 4, 4, 4, 4, 5, 5, 5, 5, 5, 5, 5, 5, 5, 5, 5, 5, 5, 5, 5, 5, 6, 6, 6, 6, 6, 6, 6, 6, 6, 6, 6, 6, 6, 6, 6, 6, 6, 6, 6, 6, 6, 6, 6, 6, 6, 6, 6, 6, 6, 6, 6, 6, 7, 7, 7, 7, 7, 7, 7, 7, 7, 7, 7, 7, 7, 7, 7, 7, 7, 7, 7, 7, 7, 7, 7, 7, 7, 7, 7, 7, 7, 7, 7, 7, 7, 7, 7, 7, 7, 7, 7, 7, 7, 7, 7, 7, 7, 7, 7, 7, 7, 7, 7, 7, 7, 7, 7, 7, 7, 7, 7, 7, 7, 7, 7, 7, 8, 8, 8, 8, 8, 8, 8, 8, 8, 8, 8, 8, 8, 8, 8, 8, 8, 8, 8, 8, 8, 8, 8, 8, 8, 8, 8, 8, 8, 8, 8, 8, 8, 8, 8, 8, 8, 8, 8, 8, 8, 8, 8, 8, 8, 8, 8, 8, 8, 8, 8, 8, 8, 8, 8, 8, 8, 8, 8, 8, 8, 8, 8, 8, 8, 8, 8, 8, 8, 8, 8, 8, 8, 8, 8, 8, 8, 8, 8, 8, 8, 8, 8, 8, 8, 8, 8, 8, 8, 8, 8, 8, 8, 8, 8, 8, 8, 8, 8, 8, 8, 8, 8, 8, 8, 8, 8, 8, 8, 8, 8, 8, 8, 8, 8, 8, 8, 8, 8, 8, 8, 8, 8, 8, 8, 8, 8, 8]⟩ : ByteArray) (y : Int) ∧ bt (⟨#[0, 1, 2, 2, 3, 3, 3, 3, 4, 4, 4, 4, 4, 4, 4, 4, 5, 5, 5, 5, 5, 5, 5, 5, 5, 5, 5, 5, 5, 5, 5, 5, 6, 6, 6, 6, 6, 6, 6, 6, 6, 6, 6, 6, 6, 6, 6, 6, 6, 6, 6, 6, 6, 6, 6, 6, 6, 6, 6, 6, 6, 6, 6, 6, 7, 7, 7, 7, 7, 7, 7, 7, 7, 7, 7, 7, 7, 7, 7, 7, 7, 7, 7, 7, 7, 7, 7, 7, 7, 7, 7, 7, 7, 7, 7, 7, 7, 7, 7, 7, 7, 7, 7, 7, 7, 7, 7, 7, 7, 7, 7, 7, 7, 7, 7, 7, 7, 7, 7, 7, 7, 7, 7, 7, 7, 7, 7, 7, 8, 8, 8, 8, 8, 8, 8, 8, 8, 8, 8, 8, 8, 8, 8, 8, 8, 8, 8, 8, 8, 8, 8, 8, 8, 8, 8, 8, 8, 8, 8, 8, 8, 8, 8, 8, 8, 8, 8, 8, 8, 8, 8, 8, 8, 8, 8, 8, 8, 8, 8, 8, 8, 8, 8, 8, 8, 8, 8, 8, 8, 8, 8, 8, 8, 8, 8, 8, 8, 8, 8, 8, 8, 8, 8, 8, 8, 8, 8, 8, 8, 8, 8, 8, 8, 8, 8, 8, 8, 8, 8, 8, 8, 8, 8, 8, 8, 8, 8, 8, 8, 8, 8, 8, 8, 8, 8, 8, 8, 8, 8, 8, 8, 8, 8, 8, 8, 8, 8, 8, 8, 8, 8, 8, 8, 8, 8, 8]⟩ : ByteArray) (y : Int) ≤ 8 ∧ (1 ≤ y → 2 ^ (bt (⟨#[0, 1, 2, 2, 3, 3, 3, 3, 4, 4, 4, 4, 4, 4, 4, 4, 5, 5, 5, 5, 5, 5, 5, 5, 5, 5, 5, 5, 5, 5, 5, 5, 6, 6, 6, 6, 6, 6, 6, 6, 6, 6, 6, 6, 6, 6, 6, 6, 6, 6, 6, 6, 6, 6, 6, 6, 6, 6, 6, 6, 6, 6, 6, 6, 7, 7, 7, 7, 7, 7, 7, 7, 7, 7, 7, 7, 7, 7, 7, 7, 7, 7, 7, 7, 7, 7, 7, 7, 7, 7, 7, 7, 7, 7, 7, 7, 7, 7, 7, 7, 7, 7, 7, 7, 7, 7, 7, 7, 7, 7, 7, 7, 7, 7, 7, 7, 7, 7, 7, 7, 7, 7, 7, 7, 7, 7, 7, 7, 8, 8, 8, 8, 8, 8, 8, 8, 8, 8, 8, 8, 8, 8, 8, 8, 8, 8, 8, 8, 8, 8, 8, 8, 8, 8, 8, 8, 8, 8, 8, 8, 8, 8, 8, 8, 8, 8, 8, 8, 8, 8, 8, 8, 8, 8, 8, 8, 8, 8, 8, 8, 8, 8, 8, 8, 8, 8, 8, 8, 8, 8, 8, 8, 8, 8, 8, 8, 8, 8, 8, 8, 8, 8, 8, 8, 8, 8, 8, 8, 8, 8, 8, 8, 8, 8, 8, 8, 8, 8, 8, 8, 8, 8, 8, 8, 8, 8, 8, 8, 8, 8, 8, 8, 8, 8, 8, 8, 8, 8, 8, 8, 8, 8, 8, 8, 8, 8, 8, 8, 8, 8, 8, 8, 8, 8, 8, 8]⟩ : ByteArray) (y : Int)).toNat ≤ 2 * y))) = true := by kernel_rfl
set_option maxRecDepth 100000 in
theorem bl_j2 (x n N : Int) (hx : 0 ≤ x) (hx2 : x < 256) (hn : 0 ≤ n) (hn2 : n ≤ 56) (hN : 1 ≤ N → 1 ≤ x ∧ x * 2 ^ n.toNat ≤ N) : EvP (fun k => bits_Len64.j2 k x n) (fun t => 0 ≤ t ∧ t ≤ 64 ∧ (1 ≤ N → (2 : Int) ^ t.toNat ≤ 2 * N)) := by
  have e1 : IntKind.u8.wrap x = x := by simp [IntKind.wrap, IntKind.bits, IntKind.signed]; omega
  have T := List.all_eq_true.1 lenT_ok x.toNat (List.mem_range.2 (by omega))
  have T := of_decide_eq_true T
  rw [Int.toNat_of_nonneg hx] at T
  refine EvP.s (fun k => by rw [bits_Len64.j2, e1]) ?_
  refine EvP.t hx (EvP.t hx2 (EvP.p ?_))
  generalize bt (⟨#[0, 1, 2, 2, 3, 3, 3, 3, 4, 4, 4, 4, 4, 4, 4, 4, 5, 5, 5, 5, 5, 5, 5, 5, 5, 5, 5, 5, 5, 5, 5, 5, 6, 6, 6, 6, 6, 6, 6, 6, 6, 6, 6, 6, 6, 6, 6, 6, 6, 6, 6, 6, 6, 6, 6, 6, 6, 6, 6, 6, 6, 6, 6, 6, 7, 7, 7, 7, 7, 7, 7, 7, 7, 7, 7, 7, 7, 7, 7, 7, 7, 7, 7, 7, 7, 7, 7, 7, 7, 7, 7, 7, 7, 7, 7, 7, 7, 7, 7, 7, 7, 7, 7, 7, 7, 7, 7, 7, 7, 7, 7, 7, 7, 7, 7, 7, 7, 7, 7, 7, 7, 7, 7, 7, 7, 7, 7, 7, 8, 8, 8, 8, 8, 8, 8, 8, 8, 8, 8, 8, 8, 8, 8, 8, 8, 8, 8, 8, 8, 8, 8, 8, 8, 8, 8, 8, 8, 8, 8, 8, 8, 8, 8, 8, 8, 8, 8, 8, 8, 8, 8, 8, 8, 8, 8, 8, 8, 8, 8, 8, 8, 8, 8, 8, 8, 8, 8, 8, 8, 8, 8, 8, 8, 8, 8, 8, 8, 8, 8, 8, 8, 8, 8, 8, 8, 8, 8, 8, 8, 8, 8, 8, 8, 8, 8, 8, 8, 8, 8, 8, 8, 8, 8, 8, 8, 8, 8, 8, 8, 8, 8, 8, 8, 8, 8, 8, 8, 8, 8, 8, 8, 8, 8, 8, 8, 8, 8, 8, 8, 8, 8, 8, 8, 8, 8, 8]⟩ : ByteArray) x = v at T
  obtain ⟨t0, t1, t2⟩ := T
  have e2 : IntKind.i64.wrap v = v := by simp [IntKind.wrap, IntKind.bits, IntKind.signed]; omega
  rw [e2, w64 (by omega) (by omega)]
  refine ⟨by omega, by omega, fun h => ?_⟩
  obtain ⟨h1, h2⟩ := hN h
  have t3 := t2 (by omega)
  have t4 : (2 : Int) ^ v.toNat ≤ 2 * x := by
    have : ((2 ^ v.toNat : Nat) : Int) ≤ ((2 * x.toNat : Nat) : Int) := by exact_mod_cast t3
    rw [Int.natCast_pow] at this
    have e3 : ((2 * x.toNat : Nat) : Int) = 2 * x := by omega
    rw [e3] at this
    exact this
  rw [show (n + v).toNat = n.toNat + v.toNat by omega, Int.pow_add]
  have p : (0 : Int) ≤ 2 ^ n.toNat := Int.pow_nonneg (by omega)
  have m := Int.mul_le_mul_of_nonneg_left t4 p
  have e4 : (2 : Int) ^ n.toNat * (2 * x) = 2 * (x * 2 ^ n.toNat) := by rw [Int.mul_comm x, ← Int.mul_assoc, ← Int.mul_assoc, Int.mul_comm _ 2]
  rw [e4] at m
  omega
theorem sh_step (x n N c : Int) (s : Nat) (hs : s ≤ 32) (hc : c = 2 ^ s) (hx : c ≤ x) (hn : 0 ≤ n) (hN : 1 ≤ N → 1 ≤ x ∧ x * 2 ^ n.toNat ≤ N) : 1 ≤ N → 1 ≤ x / c ∧ x / c * 2 ^ (n + s).toNat ≤ N := by
  intro h
  obtain ⟨h1, h2⟩ := hN h
  have c1 : 0 < c := by rw [hc]; exact Int.pow_pos (by omega)
  refine ⟨?_, ?_⟩
  · exact (Int.le_ediv_iff_mul_le c1).2 (by omega)
  · rw [show (n + s).toNat = n.toNat + s by omega, Int.pow_add, ← hc]
    have d : x / c * c ≤ x := Int.ediv_mul_le x (by omega)
    have p : (0 : Int) ≤ 2 ^ n.toNat := Int.pow_nonneg (by omega)
    have m := Int.mul_le_mul_of_nonneg_right d p
    have e : x / c * (2 ^ n.toNat * c) = x / c * c * 2 ^ n.toNat := by rw [Int.mul_comm (2 ^ n.toNat) c, Int.mul_assoc]
    rw [e]; omega
theorem shrI_e (x : Int) (hx : 0 ≤ x) : shrI x 8 = x / 256 ∧ shrI x 16 = x / 65536 ∧ shrI x 32 = x / 4294967296 := by
  refine ⟨?_, ?_, ?_⟩
  · show Int.fdiv x 256 = _
    rw [Int.fdiv_eq_ediv_of_nonneg _ (by omega)]
  · show Int.fdiv x 65536 = _
    rw [Int.fdiv_eq_ediv_of_nonneg _ (by omega)]
  · show Int.fdiv x 4294967296 = _
    rw [Int.fdiv_eq_ediv_of_nonneg _ (by omega)]
theorem bl_j1 (x n N : Int) (hx : 0 ≤ x) (hx2 : x < 65536) (hn : 0 ≤ n) (hn2 : n ≤ 48) (hN : 1 ≤ N → 1 ≤ x ∧ x * 2 ^ n.toNat ≤ N) : EvP (fun k => bits_Len64.j1 k x n) (fun t => 0 ≤ t ∧ t ≤ 64 ∧ (1 ≤ N → (2 : Int) ^ t.toNat ≤ 2 * N)) := by
  refine EvP.s (fun k => by rw [bits_Len64.j1]) (EvP.i (fun c => ?_) (fun c => ?_))
  · rw [(shrI_e x hx).1, w64 (x := n + 8) (by omega) (by omega)]
    exact bl_j2 (x / 256) (n + 8) N (by omega) (by omega) (by omega) (by omega) (sh_step x n N 256 8 (by omega) (by decide) (by omega) hn hN)
  · exact bl_j2 x n N hx (by omega) hn (by omega) hN
theorem bl_j0 (x n N : Int) (hx : 0 ≤ x) (hx2 : x < 4294967296) (hn : 0 ≤ n) (hn2 : n ≤ 32) (hN : 1 ≤ N → 1 ≤ x ∧ x * 2 ^ n.toNat ≤ N) : EvP (fun k => bits_Len64.j0 k x n) (fun t => 0 ≤ t ∧ t ≤ 64 ∧ (1 ≤ N → (2 : Int) ^ t.toNat ≤ 2 * N)) := by
  refine EvP.s (fun k => by rw [bits_Len64.j0]) (EvP.i (fun c => ?_) (fun c => ?_))
  · rw [(shrI_e x hx).2.1, w64 (x := n + 16) (by omega) (by omega)]
    exact bl_j1 (x / 65536) (n + 16) N (by omega) (by omega) (by omega) (by omega) (sh_step x n N 65536 16 (by omega) (by decide) (by omega) hn hN)
  · exact bl_j1 x n N hx (by omega) hn (by omega) hN
theorem bl_ev (N : Int) (h0 : 0 ≤ N) (h1 : N ≤ 1099511627776) : EvP (fun k => bits_Len.f k (IntKind.u64.wrap N)) (fun t => 0 ≤ t ∧ t ≤ 64 ∧ (1 ≤ N → (2 : Int) ^ t.toNat ≤ 2 * N)) := by
  rw [u64w h0 (by omega)]
  refine EvP.u (fun _ => rfl) (EvP.b (P := fun t => 0 ≤ t ∧ t ≤ 64 ∧ (1 ≤ N → (2 : Int) ^ t.toNat ≤ 2 * N)) ?_ (fun a h => EvP.p h))
  have hN : 1 ≤ N → 1 ≤ N ∧ N * 2 ^ (0 : Int).toNat ≤ N := fun h => ⟨h, by simp⟩
  refine EvP.u (fun _ => rfl) (EvP.i (fun c => ?_) (fun c => ?_))
  · rw [(shrI_e N h0).2.2]
    exact bl_j0 (N / 4294967296) 32 N (by omega) (by omega) (by omega) (by omega) (sh_step N 0 N 4294967296 32 (by omega) (by decide) (by omega) (by omega) hN)
  · exact bl_j0 N 0 N h0 (by omega) (by omega) (by omega) hN
theorem np_ev (N : Int) (h0 : 1 ≤ N) (h1 : N ≤ 1099511627776) : EvP (fun k => slices_nextPowerOfTwo.f k N) (fun t => 1 ≤ t ∧ t ≤ 2 * N) := by
  refine EvP.u (fun _ => rfl) (EvP.b (bl_ev N (by omega) h1) ?_)
  rintro t ⟨t0, t1, t2⟩
  have t3 := t2 h0
  refine EvP.t t0 (EvP.p ?_)
  have p : (0 : Int) < 2 ^ t.toNat := Int.pow_pos (by omega)
  unfold shl64
  rw [Int.one_mul, show min t.toNat 64 = t.toNat by omega, u64w (by omega) (by omega)]
  omega
theorem and64_le (x m : Int) (hm : 0 ≤ m) (hm2 : m ≤ 9223372036854775807) : 0 ≤ IntKind.i64.wrap (and64 x m) ∧ IntKind.i64.wrap (and64 x m) ≤ m := by
  have h : ((BitVec.ofInt 64 x &&& BitVec.ofInt 64 m).toNat : Int) ≤ m := by
    rw [BitVec.toNat_and]
    have h1 := @Nat.and_le_right (BitVec.ofInt 64 x).toNat (BitVec.ofInt 64 m).toNat
    have h2 : ((BitVec.ofInt 64 m).toNat : Int) = m := by
      rw [BitVec.toNat_ofInt]; omega
    omega
  unfold and64
  rw [u64w (by omega) (by omega)]
  have e : ∀ v : Int, 0 ≤ v → v ≤ 9223372036854775807 → IntKind.i64.wrap v = v := fun v a b => by simp [IntKind.wrap, IntKind.bits, IntKind.signed]; omega
  rw [e _ (by omega) (by omega)]
  omega
theorem bp_l0 (a b : Int) (D0 : List S88) (ha : 0 ≤ a) (hab : b - a ≥ 8) (hb : b ≤ (D0.length : Int)) (hn : (D0.length : Int) ≤ 1099511627776) (t : Int) (ht : 1 ≤ t) (ht2 : t ≤ 2 * (b - a)) :
    ∀ (m : Nat) (D : List S88) (i r : Int), i + m = a + (b - a) / 4 * 2 + 2 → a ≤ i → Rg a b D0 D → EvP (fun k => slices_breakPatternsCmpFunc_impl_Group_at93.l0 k D a (b - a) t i r) (Rg a b D0) := by
  have hq : Int.tdiv (b - a) 4 = (b - a) / 4 := Int.tdiv_eq_ediv_of_nonneg (by omega)
  have e2 : wrap64 ((b - a) / 4) = (b - a) / 4 := w64 (by omega) (by omega)
  have f2 : wrap64 ((b - a) / 4 * 2) = (b - a) / 4 * 2 := w64 (by omega) (by omega)
  have g2 : wrap64 (a + (b - a) / 4 * 2) = a + (b - a) / 4 * 2 := w64 (by omega) (by omega)
  have g3 : wrap64 (a + (b - a) / 4 * 2 + 1) = a + (b - a) / 4 * 2 + 1 := w64 (by omega) (by omega)
  have u : IntKind.u64.wrap (t - 1) = t - 1 := u64w (by omega) (by omega)
  intro m
  induction m with
  | zero =>
    intro D i r hi hai R
    refine EvP.s (fun k => by rw [slices_breakPatternsCmpFunc_impl_Group_at93.l0, hq, e2, f2, g2, g3]) (EvP.e (by omega) (EvP.p R))
  | succ m ih =>
    intro D i r hi hai R
    have hl := R.len
    have J : ∀ o r : Int, 0 ≤ o → o < b - a → EvP (fun k => slices_breakPatternsCmpFunc_impl_Group_at93.j0 k D a (b - a) t i o r) (Rg a b D0) := by
      intro o r ho ho2
      have e5 : wrap64 (a + o) = a + o := w64 (by omega) (by omega)
      have e6 : wrap64 (i + 1) = i + 1 := w64 (by omega) (by omega)
      refine EvP.s (fun k => by rw [slices_breakPatternsCmpFunc_impl_Group_at93.j0]) ?_
      rw [e5, e6]
      refine EvP.t (by omega) (EvP.t (by omega) (EvP.t (by omega) (EvP.t (by omega) (EvP.sw (by omega) ?_))))
      exact ih _ (i + 1) r (by omega) (by omega) (R.trans (Rg.sw ha (by omega) ⟨by omega, by omega⟩ ⟨by omega, by omega⟩))
    refine EvP.s (fun k => by rw [slices_breakPatternsCmpFunc_impl_Group_at93.l0, hq, e2, f2, g2, g3, u]) ?_
    refine EvP.t (by omega) (EvP.bc rfl ?_)
    dsimp only
    generalize xor64 (xor64 (xor64 r (shl64 r 13)) (shrI (xor64 r (shl64 r 13)) 7)) (shl64 (xor64 (xor64 r (shl64 r 13)) (shrI (xor64 r (shl64 r 13)) 7)) 17) = q
    obtain ⟨v0, v1⟩ := and64_le q (t - 1) (by omega) (by omega)
    generalize IntKind.i64.wrap (and64 q (t - 1)) = v at v0 v1
    rw [w64 (x := v - (b - a)) (by omega) (by omega)]
    exact EvP.i (fun c => J _ _ (by omega) (by omega)) (fun c => J _ _ v0 (by omega))
theorem bp_ev (a b : Int) (D : List S88) (ha : 0 ≤ a) (hab : a ≤ b) (hb : b ≤ (D.length : Int)) (hn : (D.length : Int) ≤ 1099511627776) :
    EvP (fun k => slices_breakPatternsCmpFunc_impl_Group_at93.f k D a b) (Rg a b D) := by
  have e1 : wrap64 (b - a) = b - a := w64 (by omega) (by omega)
  have hq : Int.tdiv (b - a) 4 = (b - a) / 4 := Int.tdiv_eq_ediv_of_nonneg (by omega)
  have e2 : wrap64 ((b - a) / 4) = (b - a) / 4 := w64 (by omega) (by omega)
  have f2 : wrap64 ((b - a) / 4 * 2) = (b - a) / 4 * 2 := w64 (by omega) (by omega)
  have g2 : wrap64 (a + (b - a) / 4 * 2) = a + (b - a) / 4 * 2 := w64 (by omega) (by omega)
  have g3 : wrap64 (a + (b - a) / 4 * 2 - 1) = a + (b - a) / 4 * 2 - 1 := w64 (by omega) (by omega)
  refine EvP.u (fun k => by rw [slices_breakPatternsCmpFunc_impl_Group_at93.f, e1, hq, e2, f2, g2, g3]) ?_
  refine EvP.i (fun c => ?_) (fun c => EvP.p (Rg.refl _ _ _))
  refine EvP.b (np_ev (b - a) (by omega) (by omega)) ?_
  rintro t ⟨t1, t2⟩
  exact bp_l0 a b D ha c hb hn t t1 t2 3 D _ _ (by omega) (by omega) (Rg.refl _ _ _)

def PQ (a b : Int) (D D' : List S88) : Prop := Rg a b D D' ∧ Srt a b D'
theorem srt_join {a b m v : Int} {D : List S88} (h1 : ∀ t, a ≤ t → t < m → ky D t < v) (h2 : ky D m = v) (h3 : ∀ t, m < t → t < b → v < ky D t) (s1 : Srt a m D) (s2 : Srt (m + 1) b D) : Srt a b D := by
  intro x y hx hxy hy
  by_cases c : y < m
  · exact s1 x y hx hxy c
  · by_cases c2 : y = m
    · subst c2
      have := h1 x hx hxy
      omega
    · by_cases c3 : x < m
      · have := h1 x hx c3
        have := h3 y (by omega) hy
        omega
      · by_cases c4 : x = m
        · subst c4
          have := h3 y (by omega) hy
          omega
        · exact s2 x y (by omega) hxy hy
theorem Lo.sub {a b c : Int} {D : List S88} (h : Lo a b D) (hc : c ≤ b) : Lo a c D := by
  rcases h with h | h
  · exact .inl h
  · exact .inr fun t h1 h2 => h t h1 (by omega)
def Ih (M : Int) : Prop := ∀ (D : List S88) (a b lim : Int) (wb wp : Bool), 0 ≤ a → a ≤ b → b ≤ (D.length : Int) → (D.length : Int) ≤ 1099511627776 → b - a < M → Nd D → Lo a b D →
  EvP (fun k => slices_pdqsortCmpFunc_impl_Group_at93.l0 k D a b lim wb wp) (PQ a b D)
theorem Ih.f {M : Int} (ih : Ih M) (D : List S88) (a b lim : Int) (h0 : 0 ≤ a) (h1 : a ≤ b) (h2 : b ≤ (D.length : Int)) (h3 : (D.length : Int) ≤ 1099511627776) (h4 : b - a < M) (n : Nd D) (l : Lo a b D) :
    EvP (fun k => slices_pdqsortCmpFunc_impl_Group_at93.f k D a b lim) (PQ a b D) :=
  EvP.s (fun k => by rw [slices_pdqsortCmpFunc_impl_Group_at93.f]) (ih D a b lim true true h0 h1 h2 h3 h4 n l)
theorem pq_j3 {M : Int} (ih : Ih M) (D : List S88) (a b lim ln p : Int) (ha : 0 ≤ a) (hp : a ≤ p ∧ p < b) (hb : b ≤ (D.length : Int)) (hn : (D.length : Int) ≤ 1099511627776) (hM : b - a ≤ M) (nd : Nd D) (lo : Lo a b D) :
    EvP (fun k => slices_pdqsortCmpFunc_impl_Group_at93.j3 k D a b lim ln p) (PQ a b D) := by
  refine EvP.s (fun k => by rw [slices_pdqsortCmpFunc_impl_Group_at93.j3]) ?_
  refine EvP.b (pt_ev a b p D ha hp hb hn) ?_
  rintro ⟨m, fl, D1⟩ ⟨m1, m2, R1, q1, q2⟩
  have hl := R1.len
  have nd1 := R1.nd nd
  have lo1 := R1.lo ha (Int.le_refl _) (Int.le_refl _) lo
  have q3 : ∀ t, m < t → t < b → ky D1 m < ky D1 t := fun t h1 h2 => by
    have h3 := q2 t h1 h2
    have h4 := nd_ne nd1 (i := m) (j := t) ⟨by dsimp only at *; omega, by dsimp only at *; omega⟩ ⟨by dsimp only at *; omega, by dsimp only at *; omega⟩ (by dsimp only at *; omega)
    dsimp only at *
    omega
  dsimp only at *
  have e1 : wrap64 (m - a) = m - a := w64 (by omega) (by omega)
  have e2 : wrap64 (b - m) = b - m := w64 (by omega) (by omega)
  have e3 : wrap64 (m + 1) = m + 1 := w64 (by omega) (by omega)
  rw [e1, e2, e3]
  refine EvP.i (fun c => ?_) (fun c => ?_)
  · refine EvP.b (ih.f D1 a m lim ha m1 (by omega) (by omega) (by omega) nd1 (lo1.sub (by omega))) ?_
    rintro D2 ⟨R2, s2⟩
    have hl2 := R2.len
    have k2 : ∀ t, m ≤ t → ky D2 t = ky D1 t := fun t ht => R2.ky (by omega) (.inr ht)
    have lo2 : Lo (m + 1) b D2 := by
      right
      intro t h1 h2
      rw [show m + 1 - 1 = m by omega, k2 m (Int.le_refl _), k2 t (by omega)]
      exact q3 t (by omega) h2
    refine EvP.m (ih D2 (m + 1) b lim _ fl (by omega) (by omega) (by omega) (by omega) (by omega) (R2.nd nd1) lo2) ?_
    rintro D3 ⟨R3, s3⟩
    have k3 : ∀ t, 0 ≤ t → t ≤ m → ky D3 t = ky D2 t := fun t h0 ht => R3.ky h0 (.inl (by omega))
    refine ⟨(R1.trans (R2.wide ha (Int.le_refl _) (by omega))).trans (R3.wide ha (by omega) (Int.le_refl _)), ?_⟩
    refine srt_join (m := m) (v := ky D1 m) ?_ ?_ ?_ ?_ s3
    · intro t h1 h2
      rw [k3 t (by omega) (by omega)]
      exact R2.all (fun g => g.f0 < ky D1 m) (fun u h3 h4 => q1 u h3 h4) t h1 h2
    · rw [k3 m (by omega) (Int.le_refl _), k2 m (Int.le_refl _)]
    · intro t h1 h2
      exact R3.all (fun g => ky D1 m < g.f0) (fun u h3 h4 => by have := q3 u (by omega) h4; rw [← k2 u (by omega)] at this; exact this) t (by omega) h2
    · intro x y h1 h2 h3
      rw [k3 x (by omega) (by omega), k3 y (by omega) (by omega)]
      exact s2 x y h1 h2 h3
  · have lo2 : Lo (m + 1) b D1 := by
      right
      intro t h1 h2
      rw [show m + 1 - 1 = m by omega]
      exact q3 t (by omega) h2
    refine EvP.b (ih.f D1 (m + 1) b lim (by omega) (by omega) (by omega) (by omega) (by omega) nd1 lo2) ?_
    rintro D2 ⟨R2, s2⟩
    have hl2 := R2.len
    have k2 : ∀ t, 0 ≤ t → t ≤ m → ky D2 t = ky D1 t := fun t h0 ht => R2.ky h0 (.inl (by omega))
    have lo3 : Lo a m D2 := by
      rcases lo1 with h | h
      · exact .inl h
      · by_cases ea : a = 0
        · exact .inl ea
        · right
          intro t h1 h2
          rw [k2 (a - 1) (by omega) (by omega), k2 t (by omega) (by omega)]
          exact h t h1 (by omega)
    refine EvP.m (ih D2 a m lim _ fl ha m1 (by omega) (by omega) (by omega) (R2.nd nd1) lo3) ?_
    rintro D3 ⟨R3, s3⟩
    have k3 : ∀ t, m ≤ t → ky D3 t = ky D2 t := fun t ht => R3.ky (by omega) (.inr ht)
    refine ⟨(R1.trans (R2.wide ha (by omega) (Int.le_refl _))).trans (R3.wide ha (Int.le_refl _) (by omega)), ?_⟩
    refine srt_join (m := m) (v := ky D1 m) ?_ ?_ ?_ s3 ?_
    · intro t h1 h2
      exact R3.all (fun g => g.f0 < ky D1 m) (fun u h3 h4 => by have := q1 u h3 h4; rw [← k2 u (by omega) (by omega)] at this; exact this) t h1 h2
    · rw [k3 m (Int.le_refl _), k2 m (by omega) (Int.le_refl _)]
    · intro t h1 h2
      rw [k3 t (by omega)]
      exact R2.all (fun g => ky D1 m < g.f0) (fun u h3 h4 => q3 u (by omega) h4) t (by omega) h2
    · intro x y h1 h2 h3
      rw [k3 x (by omega), k3 y (by omega)]
      exact s2 x y h1 h2 h3
theorem pq_j2 {M : Int} (ih : Ih M) (D : List S88) (a b lim : Int) (wb wp : Bool) (ln p : Int) (ha : 0 ≤ a) (hp : a ≤ p ∧ p < b) (hb : b ≤ (D.length : Int)) (hn : (D.length : Int) ≤ 1099511627776) (hM : b - a ≤ M) (nd : Nd D) (lo : Lo a b D) :
    EvP (fun k => slices_pdqsortCmpFunc_impl_Group_at93.j2 k D a b lim wb wp ln p) (PQ a b D) := by
  have J := pq_j3 ih D a b lim ln p ha hp hb hn hM nd lo
  refine EvP.s (fun k => by rw [slices_pdqsortCmpFunc_impl_Group_at93.j2]) ?_
  refine EvP.i (fun c => ?_) (fun c => J)
  have e1 : wrap64 (a - 1) = a - 1 := w64 (by omega) (by omega)
  rw [e1]
  refine EvP.t (by omega) (EvP.t (by omega) (EvP.t (by omega) (EvP.t (by omega) (EvP.cmp (fun c => J) (fun c2 => ?_)))))
  exfalso
  rcases lo with h | h
  · omega
  · exact c2 (h p hp.1 hp.2)
theorem pq_j1 {M : Int} (ih : Ih M) (D : List S88) (a b lim : Int) (wb wp : Bool) (ln p h : Int) (ha : 0 ≤ a) (hp : a ≤ p ∧ p < b) (hb : b ≤ (D.length : Int)) (hn : (D.length : Int) ≤ 1099511627776) (hM : b - a ≤ M) (nd : Nd D) (lo : Lo a b D) :
    EvP (fun k => slices_pdqsortCmpFunc_impl_Group_at93.j1 k D a b lim wb wp ln p h) (PQ a b D) := by
  have J := fun wb wp => pq_j2 ih D a b lim wb wp ln p ha hp hb hn hM nd lo
  refine EvP.s (fun k => by rw [slices_pdqsortCmpFunc_impl_Group_at93.j1]) ?_
  refine EvP.i (fun c => EvP.i (fun c2 => EvP.i (fun c3 => ?_) (fun c3 => J _ _)) (fun c2 => J _ _)) (fun c => J _ _)
  refine EvP.b (pis_ev a b D ha (by omega) hb hn lo) ?_
  rintro ⟨r, D1⟩ ⟨R1, s1⟩
  dsimp only at *
  refine EvP.i (fun c4 => EvP.p ⟨R1, s1 c4⟩) (fun c4 => ?_)
  have hl := R1.len
  exact EvP.m (pq_j2 ih D1 a b lim true true ln p ha hp (by omega) (by omega) hM (R1.nd nd) (R1.lo ha (Int.le_refl _) (Int.le_refl _) lo)) fun D2 ⟨R2, s2⟩ => ⟨R1.trans R2, s2⟩
theorem pq_j0 {M : Int} (ih : Ih M) (D : List S88) (a b lim : Int) (wb wp : Bool) (ln : Int) (ha : 0 ≤ a) (hab : a < b) (hb : b ≤ (D.length : Int)) (hn : (D.length : Int) ≤ 1099511627776) (hM : b - a ≤ M) (nd : Nd D) (lo : Lo a b D) :
    EvP (fun k => slices_pdqsortCmpFunc_impl_Group_at93.j0 k D a b lim wb wp ln) (PQ a b D) := by
  refine EvP.s (fun k => by rw [slices_pdqsortCmpFunc_impl_Group_at93.j0]) ?_
  refine EvP.b (cp_ev a b D ha hab hb hn) ?_
  rintro ⟨p, h⟩ ⟨p1, p2⟩
  dsimp only at *
  refine EvP.i (fun c => ?_) (fun c => pq_j1 ih D a b lim wb wp ln p h ha ⟨p1, p2⟩ hb hn hM nd lo)
  refine EvP.b (rr_ev a b D ha (by omega) hb hn) ?_
  intro D1 R1
  have hl := R1.len
  have e1 : wrap64 (b - 1) = b - 1 := w64 (by omega) (by omega)
  have e2 : wrap64 (p - a) = p - a := w64 (by omega) (by omega)
  have e3 : wrap64 (b - 1 - (p - a)) = b - 1 - (p - a) := w64 (by omega) (by omega)
  rw [e1, e2, e3]
  exact EvP.m (pq_j1 ih D1 a b lim wb wp ln _ 1 ha ⟨by omega, by omega⟩ (by omega) (by omega) hM (R1.nd nd) (R1.lo ha (Int.le_refl _) (Int.le_refl _) lo)) fun D2 ⟨R2, s2⟩ => ⟨R1.trans R2, s2⟩
theorem pq_ih : ∀ M : Nat, Ih M := by
  intro M
  induction M with
  | zero => intro D a b lim wb wp h0 h1 h2 h3 h4 _ _; omega
  | succ M ih =>
    intro D a b lim wb wp ha hab hb hn hM nd lo
    have e1 : wrap64 (b - a) = b - a := w64 (by omega) (by omega)
    refine EvP.s (fun k => by rw [slices_pdqsortCmpFunc_impl_Group_at93.l0]) ?_
    rw [e1]
    refine EvP.i (fun c => EvP.b (is_ev a b D ha hab hb hn) (fun D1 h => EvP.p h)) (fun c => EvP.i (fun c2 => EvP.b (hs_ev a b D ha hab hb hn) (fun D1 h => EvP.p h)) (fun c2 => EvP.i (fun c3 => ?_) (fun c3 => ?_)))
    · exact pq_j0 ih D a b lim true wp _ ha (by omega) hb hn (by omega) nd lo
    · refine EvP.b (bp_ev a b D ha hab hb hn) ?_
      intro D1 R1
      have hl := R1.len
      exact EvP.m (pq_j0 ih D1 a b _ false wp _ ha (by omega) (by omega) (by omega) (by omega) (R1.nd nd) (R1.lo ha (Int.le_refl _) (Int.le_refl _) lo)) fun D2 ⟨R2, s2⟩ => ⟨R1.trans R2, s2⟩
theorem sf_ev (D : List S88) (hn : (D.length : Int) ≤ 1099511627776) (nd : Nd D) : EvP (fun k => slices_SortFunc_impl_Group_impl_Group_at93.f k D) (PQ 0 D.length D) := by
  refine EvP.u (fun _ => rfl) (EvP.b (bl_ev D.length (by omega) hn) ?_)
  intro t _
  refine EvP.b (P := PQ 0 D.length D) ?_ (fun D1 h => EvP.p h)
  exact (pq_ih (D.length + 1)).f D 0 D.length t (Int.le_refl _) (by omega) (Int.le_refl _) hn (by omega) nd (.inl rfl)
theorem srt_klt {D : List S88} (nd : Nd D) (s : Srt 0 D.length D) : D.Pairwise klt := by
  rw [List.pairwise_iff_getElem]
  intro i j hi hj hij
  have h1 := s i j (by omega) (by omega) (by omega)
  have h2 := nd_ne nd (i := i) (j := j) ⟨by omega, by omega⟩ ⟨by omega, by omega⟩ (by omega)
  unfold ky at h1 h2
  rw [rd_el ⟨by omega, by omega⟩, rd_el ⟨by omega, by omega⟩] at h1 h2
  have h3 : D[i].f0 ≤ D[j].f0 := h1
  have h4 : D[i].f0 ≠ D[j].f0 := h2
  show D[i].f0 < D[j].f0
  omega
theorem impl_MergeGroups_all (l : List S88) (hl : l.length ≤ 1048576) : Ev (fun k => impl_MergeGroups.f k l) (mgs [] l) := by
  have h2 := mgs_upds l [] [] List.Pairwise.nil (List.Perm.refl _)
  have nd : Nd (upds [] l) := (h2.2.map (fun x : S88 => x.f0)).nodup_iff.1 (klt_nodup h2.1)
  have hlen : (upds [] l).length ≤ 1048576 := by
    rw [← h2.2.length_eq]
    have := mgs_len_le l []
    rw [List.length_nil] at this
    omega
  obtain ⟨D, e, R, s⟩ := sf_ev (upds [] l) (by omega) nd
  have el : D = mgs [] l := sorted_eq (srt_klt (R.nd nd) (by rw [R.len]; exact s)) h2.1 (R.pm.trans h2.2.symm)
  rw [el] at e
  exact impl_MergeGroups_ev l (by omega) _ e

theorem impl_ReferenceGroups_l0a (l : List S73) (hl : l.length ≤ 1048576) : ∀ (s : List S73) (i : Nat) (acc : List S88), l.drop i = s → i ≤ l.length → acc.length ≤ i → acc ++ s.map gfr = l.map gfr → Ev (fun k => impl_ReferenceGroups.l0 k acc (l.length : Int) (i : Int) l) (rgs l) := by
  intro s
  induction s with
  | nil =>
    intro i acc hd hil ha he
    have := drop_nil' hd
    refine Ev.s (fun k => by rw [impl_ReferenceGroups.l0]) (Ev.e (by omega) ?_)
    rw [List.map_nil, List.append_nil] at he
    subst he
    exact Ev.b (impl_MergeGroups_all (l.map gfr) (by omega)) Ev.p
  | cons x t ih =>
    intro i acc hd hil ha he
    obtain ⟨hi, hd', hx, -⟩ := drop_cons' hd
    refine Ev.s (fun k => by rw [impl_ReferenceGroups.l0]) (Ev.t (by omega) (Ev.t (by omega) (Ev.t (by omega) ?_)))
    rw [rdR, hx, w64s hi (by omega)]
    refine Ev.b (Ev.c rfl) (Ev.t (by omega) ?_)
    exact ih (i + 1) (acc ++ [gfr x]) hd' (by omega) (by simp; omega) (by rw [List.append_assoc]; exact he)
theorem impl_ReferenceGroups_all (l : List S73) (hl : l.length ≤ 1048576) : Ev (fun k => impl_ReferenceGroups.f k l) (rgs l) :=
  Ev.u (fun _ => rfl) (impl_ReferenceGroups_l0a l hl l 0 [] rfl (by omega) (by simp) rfl)
theorem impl_RollupGroups_all (l : List S88) (hl : l.length ≤ 1048576) : Ev (fun k => impl_RollupGroups.f k l) (rup l) :=
  impl_RollupGroups_ev l hl fun lev _ _ => impl_MergeGroups_all (l.map (rkG lev)) (by rw [List.length_map]; exact hl)
theorem rgs_len_le (l : List S73) : (rgs l).length ≤ l.length := by
  have := mgs_len_le (l.map gfr) []
  rw [List.length_nil, List.length_map] at this
  show (mgs [] (l.map gfr)).length ≤ _
  omega

theorem pure_FnExactRollupRows (l0 : List S75) (G0 : (l0.length ≤ maxLen ∧ ∀ y ∈ l0, good75 y)) : ∃ k, laws_FnExactRollupRows.f k l0 = some true := by
  have g1 := G0.1
  refine Ev.ex ?_
  by_cases s1 : (1048576 : Int) - l0.length < 0
  · exact Ev.u (fun _ => rfl) (Ev.b (Ev.c (szRowS_neg l0 _ (by omega) (by omega) g1 s1)) (Ev.t (by omega) Ev.p))
  refine Ev.u (fun _ => rfl) (Ev.b (Ev.c (szRowS_pos l0 _ (by omega) (by omega) s1)) (Ev.e s1 ?_))
  have t1 := toRowS_ev l0 (by omega)
  have n1 : (l0.map cvRow).length ≤ 1048576 := by rw [List.length_map]; omega
  generalize l0.map cvRow = A at *
  have n3 := rgs_len_le A
  have es : Ev (fun k => spec_RollupRows.f k A) (rup (rgs A)) := Ev.u (fun _ => rfl) (Ev.b (spec_ReferenceGroups_ev A (by omega)) (Ev.b (spec_RollupGroups_ev (rgs A) (by omega)) Ev.p))
  have ei : Ev (fun k => impl_RollupRows.f k A) (rup (rgs A)) := Ev.u (fun _ => rfl) (Ev.b (impl_ReferenceGroups_all A n1) (Ev.b (impl_RollupGroups_all (rgs A) (by omega)) Ev.p))
  have n2 := rup_len (rgs A)
  generalize rup (rgs A) = R at *
  have qr := eqRollupRowS_ev R (by omega)
  have qa := eqRowS_ev A (by omega)
  have mA := markRowS_ev A 1 (by omega) (by omega)
  have mR := markRollupRowS_ev R 1 (by omega) (by omega)
  have dR := heldRollupRowS_ev R 1 (by omega) (by omega)
  refine Ev.b t1 (Ev.b es (Ev.b t1 (Ev.b ei (Ev.b qr (Ev.t rfl ?_)))))
  refine Ev.b t1 (Ev.b qa (Ev.t rfl (Ev.b mA (Ev.e (by simp only []; omega) ?_))))
  refine Ev.b qr (Ev.t rfl (Ev.b mR (Ev.b dR (Ev.e (by omega) (Ev.t rfl ?_)))))
  refine Ev.b t1 (Ev.b ei (Ev.b qr (Ev.t rfl ?_)))
  exact Ev.b dR (Ev.e (by omega) (Ev.t rfl Ev.p))

end Go.Proofs.Ytoncjohnkiilcaa.K
namespace Go.Proofs.Ytoncjohnkiilcaa.fnExactRollupRows
open Go Go.ChangeShapes Go.WideShapes Go.ChangeAt Go.RowKit Go.Proofs.Ytoncjohnkiilcaa.K
open Go.ChangeMaps (open_string shut_string)
set_option linter.unusedVariables false
theorem own : ownKnob Try.prog.godebug = none := by kernel_rfl
theorem laidOut : laidOutB Try.prog = true := by kernel_rfl
set_option maxRecDepth 100000 in
theorem lifted (os : Os) (started : os.Started) (H : Type) (enc : TypeId × Value → H) :
    ReturnsInHanded {} Try.checked os 8 .any (Rows.fnExactRollupRowsSpec.pre6 enc Try.prog Try.f8 Rows.fnExactRollupRowsRow.domain false) (Rows.fnExactRollupRowsSpec.post enc Try.prog Try.f8 false true false false) := by
  refine returnsInHanded_of_change_sized (C := Try.checked) own started (by kernel_rfl) Try.func8
    (ChangeSpec.witness6 (enc := enc) (C := Try.checked) false ⟨#[], #[.slice none 0 0], []⟩ 8 (by kernel_rfl) (by kernel_rfl) (by kernel_rfl) (by kernel_rfl)) ?_
  intro W base args ds gs before hval0 hW hcnd hsz0 _
  have hsz : (DataW.weightsEach Try.prog (Try.f8.params.toList ++ Rows.fnExactRollupRowsSpec.plain.varTypes Try.prog) (ds ++ gs)).all (· ≤ reachBytes) = true := hsz0
  have hval : ∀ (j : Nat) t v, Try.f8.params[j]? = some t → args[j]? = some v → Value.okWide Try.prog W .any base t v := hval0
  have hW' := hW
  obtain ⟨p, q, hA0, hV, rfl, hfz, hnd⟩ := hW
  have hA : DataW.TrodAll enc Try.prog W 0 (fun _ => true) true Try.f8.params.toList args.toList ds p := hA0
  rw [Try.params8] at hA hval hsz
  obtain ⟨v0, vs0, d0, ds0, p0, q0, hargs, rfl, rfl, h0, r0⟩ := trodAll_cons hA
  obtain ⟨rfl, rfl, rfl⟩ := trodAll_nil r0
  obtain rfl : args = #[v0] := by cases args; simp_all
  obtain ⟨rfl, rfl⟩ := trodVars_none hV
  have k0 := h0
  have lt0 : ∀ x ∈ p0, x.block < W.heap.size := by obtain ⟨m, hm⟩ := k0; exact DataW.trod_lt m _ _ _ hm
  obtain ⟨A0, len0, c0, rfl⟩ := okWide_slice Try.underlying22 (hval 0 22 v0 rfl rfl)
  obtain ⟨l0, rfl, F0, G0⟩ := slice_arg (opens_slice Try.underlying22 (by kernel_rfl) (by kernel_rfl) open75) h0
  clear hA0 hval0 hsz0 hsz
  obtain ⟨k, hk⟩ := K.pure_FnExactRollupRows l0 G0
  refine (law_calls (laws_FnExactRollupRows.ok k l0 A0 c0 true hk) (facts_app F0 facts_nil)).mono fun e W' he => ?_
  obtain ⟨rfl, bel⟩ := he
  exact ⟨_, rfl, _, _, _, [], _, [], hW', trodAll_mk1 (shut_bool Try.underlying4 _), (trodAll_cons_mk (Below.trod laidOut (by kernel_rfl) (of_decide_eq_true (by kernel_rfl)) k0 bel lt0) trodAll_mk0), rfl, bel.frame _, fun h => by cases h⟩
theorem over : Rows.fnExactRollupRowsRow.holds Try.pinned (OpenSpec.ofChange Rows.fnExactRollupRowsSpec) :=
  OpenClaim.holds_of_wide 8 Try.f8 rfl rfl rfl rfl rfl rfl rfl ⟨rfl, rfl, rfl, rfl, rfl⟩ rfl rfl rfl rfl rfl (by kernel_rfl) Try.func8 (by kernel_rfl)
    (of_decide_eq_true (by kernel_rfl)) (by unfold Func.isWrapper; first | (rw [if_pos (by decide +kernel)]; kernel_rfl) | (rw [if_neg (by decide +kernel)]; exact ⟨rfl, rfl⟩))
    (fun os started H enc _ => lifted os started H enc)
theorem proved : Rows.FnExactRollupRowsSaid := over
#print axioms proved
end Go.Proofs.Ytoncjohnkiilcaa.fnExactRollupRows
namespace Go.Proofs.Ytoncjohnkiilcaa
/-- The row, under a short name, for the claim. -/
theorem fnExactRollupRows_holds : Rows.FnExactRollupRowsSaid := fnExactRollupRows.proved
end Go.Proofs.Ytoncjohnkiilcaa
