/- FnExactParseAggregator answers true at every input. -/
import Derived.Below
import Derived.Carry
import Derived.ChangeOld
import Derived.OpenShut
import Derived.ProofKit
import Derived.ShutString
import Derived.SizedLaws
import Derived.Test.YtnllplklggoabaaChecked
import Derived.Test.YtnllplklggoabaaRows
import Derived.WalkKit
import Derived.Test.YtnllplklggoabaaVFnExactParseAggregatora
namespace Go.Proofs.Ytnllplklggoabaa.K
open Go Go.RowKit
set_option linter.unusedVariables false
set_option linter.unusedSimpArgs false
def Ev {α : Type} (f : Nat → Option α) (r : α) : Prop := ∃ K, ∀ k, K ≤ k → f k = some r
theorem Ev.p {α : Type} {r : α} : Ev (fun _ => some r) r := ⟨0, fun _ _ => rfl⟩
theorem Ev.c {α : Type} {o : Option α} {r : α} (h : o = some r) : Ev (fun _ => o) r := ⟨0, fun _ _ => h⟩
theorem Ev.b {α β : Type} {f : Nat → Option α} {g : Nat → α → Option β} {a : α} {r : β} (hf : Ev f a) (hg : Ev (fun k => g k a) r) : Ev (fun k => (f k).bind (g k)) r := by
  obtain ⟨K, h⟩ := hf; obtain ⟨L, h'⟩ := hg
  exact ⟨max K L, fun k hk => by show (f k).bind (g k) = some r; rw [h k (by omega)]; exact h' k (by omega)⟩
theorem Ev.t {α : Type} {p : Prop} [Decidable p] {f g : Nat → Option α} {r : α} (h : p) (hf : Ev f r) : Ev (fun k => if p then f k else g k) r := by
  obtain ⟨K, h'⟩ := hf
  exact ⟨K, fun k hk => by show (if p then f k else g k) = some r; rw [if_pos h]; exact h' k hk⟩
theorem Ev.e {α : Type} {p : Prop} [Decidable p] {f g : Nat → Option α} {r : α} (h : ¬ p) (hg : Ev g r) : Ev (fun k => if p then f k else g k) r := by
  obtain ⟨K, h'⟩ := hg
  exact ⟨K, fun k hk => by show (if p then f k else g k) = some r; rw [if_neg h]; exact h' k hk⟩
theorem Ev.i {α : Type} {p : Prop} [Decidable p] {f g : Nat → Option α} {r : α} (hf : p → Ev f r) (hg : ¬ p → Ev g r) : Ev (fun k => if p then f k else g k) r := by
  by_cases h : p
  · exact Ev.t h (hf h)
  · exact Ev.e h (hg h)
theorem Ev.s {α : Type} {L f : Nat → Option α} {r : α} (h : ∀ k, L (k + 1) = f k) (hf : Ev f r) : Ev L r := by
  obtain ⟨K, h'⟩ := hf
  refine ⟨K + 1, fun k hk => ?_⟩
  obtain ⟨m, rfl⟩ : ∃ m, k = m + 1 := ⟨k - 1, by omega⟩
  rw [h]; exact h' m (by omega)
theorem Ev.u {α : Type} {L f : Nat → Option α} {r : α} (h : ∀ k, L k = f k) (hf : Ev f r) : Ev L r := by
  obtain ⟨K, h'⟩ := hf
  exact ⟨K, fun k hk => by rw [h]; exact h' k hk⟩
theorem Ev.r {α : Type} {f : Nat → Option α} {r r' : α} (h : Ev f r) (e : r = r') : Ev f r' := e ▸ h
theorem Ev.r' {α : Type} {f g : Nat → Option α} {r r' : α} (h : Ev f r) (e1 : ∀ k, f k = g k) (e : r = r') : Ev g r' := by
  subst e; obtain ⟨K, h'⟩ := h
  exact ⟨K, fun k hk => by rw [← e1]; exact h' k hk⟩
theorem Ev.ex {α : Type} {f : Nat → Option α} {r : α} (h : Ev f r) : ∃ k, f k = some r := by
  obtain ⟨K, h'⟩ := h
  exact ⟨K, h' K (Nat.le_refl _)⟩
theorem drop_nil' {α : Type} {l : List α} {i : Nat} (h : l.drop i = []) : l.length ≤ i := List.drop_eq_nil_iff.1 h
theorem drop_cons' {α : Type} {l : List α} {i : Nat} {x : α} {t : List α} (h : l.drop i = x :: t) : i < l.length ∧ l.drop (i + 1) = t ∧ (∀ d, l.getD i d = x) ∧ l.length = i + 1 + t.length := by
  have hl := congrArg List.length h
  rw [List.length_drop, List.length_cons] at hl
  refine ⟨by omega, ?_, fun d => ?_, by omega⟩
  · rw [← List.drop_drop, h]; rfl
  · have : l[i]? = some x := by rw [← List.head?_drop, h]; rfl
    rw [List.getD_eq_getElem?_getD, this]; rfl
theorem w64 {x : Int} (h0 : -9223372036854775808 ≤ x) (h1 : x ≤ 9223372036854775807) : wrap64 x = x := by unfold wrap64; omega
theorem w64s {i n : Nat} (h : i < n) (hn : n ≤ 9223372036854775807) : wrap64 ((i : Int) + 1) = ((i + 1 : Nat) : Int) := by rw [w64 (by omega) (by omega)]; rfl
theorem maxLen_eq : maxLen = 9223372036854775807 := rfl
theorem wf64 {n : Int} (h : (Lit.int .i64 n).wf = true) : (-9223372036854775808 : Int) ≤ n ∧ n ≤ 9223372036854775807 := by
  simp [Lit.wf, IntKind.min, IntKind.max, IntKind.signed, IntKind.bits] at h
  exact h
theorem ob {α β : Type} {o : Option α} {a : α} {f : α → Option β} (h : o = some a) : o.bind f = f a := by subst h; rfl

def inB (n a b : Int) : Bool := decide (a ≤ n ∧ n ≤ b)
theorem within_eq (n a b : Int) : impl_within.f n a b = some (inB n a b) := by
  unfold impl_within.f inB; split <;> simp <;> omega
theorem l1In_eq (n a b : Int) : spec_l1In.f n a b = some (inB n a b) := by
  unfold spec_l1In.f inB; split <;> simp <;> omega
def vRow (a b c : Int) : Bool := inB a 0 9 && inB b 0 99 && inB c 0 3
theorem impl_IsValidRow_eq (a b c : Int) : impl_IsValidRow.f a b c = some (vRow a b c) := by
  unfold impl_IsValidRow.f vRow
  rw [within_eq, within_eq, within_eq, ob rfl]
  cases inB a 0 9
  · simp
  · rw [if_pos rfl, ob rfl]; cases inB b 0 99 <;> simp
theorem spec_IsValidRow_eq (a b c : Int) : spec_IsValidRow.f a b c = some (vRow a b c) := by
  unfold spec_IsValidRow.f vRow
  rw [l1In_eq, l1In_eq, l1In_eq, ob rfl]
  cases inB a 0 9
  · simp
  · rw [if_pos rfl, ob rfl]; cases inB b 0 99 <;> simp
theorem rdR (l : List S124) (i : Nat) : rd_T124 l (i : Int) = l.getD i z124 := rfl
def vAll (l : List S124) : Bool := l.all fun x => vRow x.f0 x.f1 x.f2
theorem impl_allValid_l0 (l : List S124) (hl : l.length ≤ 1152921504606846975) : ∀ (s : List S124) (i : Nat), l.drop i = s → Ev (fun k => impl_allValid.l0 k (l.length : Int) (i : Int) l) (vAll s) := by
  intro s
  induction s with
  | nil =>
    intro i hd
    have := drop_nil' hd
    exact Ev.s (fun k => by rw [impl_allValid.l0]) (Ev.e (by omega) (Ev.p.r (by rfl)))
  | cons x t ih =>
    intro i hd
    obtain ⟨hi, hd', hx, -⟩ := drop_cons' hd
    refine Ev.s (fun k => by rw [impl_allValid.l0]) (Ev.t (by omega) (Ev.t (by omega) (Ev.t (by omega) ?_)))
    rw [rdR, hx]
    refine Ev.b (Ev.c (impl_IsValidRow_eq ..)) (Ev.i (fun h => ?_) (fun h => ?_))
    · rw [w64s hi (by omega)]
      exact (ih (i + 1) hd').r (by simp [vAll, h])
    · exact Ev.p.r (by simp [vAll, h])
theorem impl_allValid_ev (l : List S124) (hl : l.length ≤ 1152921504606846975) : Ev (fun k => impl_allValid.f k l) (vAll l) :=
  Ev.u (fun _ => rfl) (impl_allValid_l0 l hl l 0 rfl)
def vRows (l : List S124) : Bool := vAll l && decide (l.length ≤ 24)
theorem impl_AreValidRows_ev (l : List S124) (hl : l.length ≤ 1152921504606846975) : Ev (fun k => impl_AreValidRows.f k l) (vRows l) :=
  Ev.u (fun _ => rfl) (Ev.i (fun h => Ev.b (impl_allValid_ev l hl) (Ev.p.r (by simp [vRows]; omega))) (fun h => Ev.p.r (by simp [vRows]; omega)))
theorem spec_AreValidRows_l0 (l : List S124) (hl : l.length ≤ 1152921504606846975) : ∀ (s : List S124) (i : Nat), l.drop i = s → Ev (fun k => spec_AreValidRows.l0 k (i : Int) l) (vAll s && decide (l.length ≤ 24)) := by
  intro s
  induction s with
  | nil =>
    intro i hd
    have := drop_nil' hd
    exact Ev.s (fun k => by rw [spec_AreValidRows.l0]) (Ev.e (by omega) (Ev.p.r (by simp [vAll]; omega)))
  | cons x t ih =>
    intro i hd
    obtain ⟨hi, hd', hx, -⟩ := drop_cons' hd
    refine Ev.s (fun k => by rw [spec_AreValidRows.l0]) (Ev.t (by omega) (Ev.t (by omega) ?_))
    rw [rdR, hx]
    refine Ev.b (Ev.c (spec_IsValidRow_eq ..)) (Ev.i (fun h => ?_) (fun h => ?_))
    · rw [w64s hi (by omega)]
      exact (ih (i + 1) hd').r (by simp [vAll, h])
    · exact Ev.p.r (by simp [vAll, h])
theorem spec_AreValidRows_ev (l : List S124) (hl : l.length ≤ 1152921504606846975) : Ev (fun k => spec_AreValidRows.f k l) (vRows l) :=
  Ev.u (fun _ => rfl) (spec_AreValidRows_l0 l hl l 0 rfl)
def hBit (key level : Int) : Int := if inB level 0 3 && inB key 0 9 then andI (shrI (Int.tmod (key * 7) 16) level) 1 else 0
def hb (level : Int) (x : S124) : Bool := hBit x.f0 level == 0
theorem setP {α : Type} (pre : List α) (x y : α) (t : List α) : (pre ++ x :: t).set ((pre.length : Int)).toNat y = pre ++ y :: t := by
  rw [Int.toNat_natCast, List.set_append_right _ _ (Nat.le_refl _), Nat.sub_self]; rfl
theorem getP {α : Type} (pre : List α) (x d : α) (t : List α) : (pre ++ x :: t).getD ((pre.length : Int)).toNat d = x := by
  rw [Int.toNat_natCast, List.getD_eq_getElem?_getD, List.getElem?_append_right (Nat.le_refl _), Nat.sub_self]; rfl
theorem rdPRow (pre : List S124) (x : S124) (t : List S124) : rd_T124 (pre ++ x :: t) (pre.length : Int) = x := getP pre x z124 t
def mkRow : Int → List S124 → List S124
  | _, [] => []
  | k, _ :: l => ⟨k, k + 1, k + 1 + 1⟩ :: mkRow (k + 1 + 1 + 1) l
theorem mkRow_len : ∀ (k : Int) (l : List S124), (mkRow k l).length = l.length
  | _, [] => rfl
  | k, _ :: l => by rw [mkRow, List.length_cons, List.length_cons, mkRow_len]
theorem markRowS_l0 : ∀ (s pre : List S124) (k : Int), 0 ≤ k → k + 3 * s.length ≤ 4611686018427387904 → pre.length + s.length ≤ 4611686018427387904 → Ev (fun f => laws_markRowS.l0 f (pre ++ s) k (pre.length : Int)) (k + 3 * s.length, pre ++ mkRow k s) := by
  intro s
  induction s with
  | nil =>
    intro pre k h0 h1 h2
    exact Ev.s (fun f => by rw [laws_markRowS.l0]) (Ev.e (by simp) (Ev.p.r (by simp [mkRow])))
  | cons x t ih =>
    intro pre k h0 h1 h2
    rw [List.length_cons] at h1 h2
    refine Ev.s (fun f => by rw [laws_markRowS.l0]) (Ev.t (by simp; omega) (Ev.t (by omega) ?_))
    rw [w64 (x := k + 1) (by omega) (by omega)]
    rw [w64 (x := k + 1 + 1) (by omega) (by omega)]
    rw [w64 (x := k + 1 + 1 + 1) (by omega) (by omega)]
    rw [show wrap64 ((pre.length : Int) + 1) = ((pre.length + 1 : Nat) : Int) by rw [w64 (by omega) (by omega)]; rfl]
    refine Ev.b (Ev.c (congrArg some (setP pre _ _ t))) ?_
    refine Ev.t (by simp; omega) ?_
    simp only [rdPRow]
    refine Ev.b (Ev.c (congrArg some (setP pre _ _ t))) ?_
    refine Ev.t (by simp; omega) ?_
    simp only [rdPRow]
    refine Ev.b (Ev.c (congrArg some (setP pre _ _ t))) ?_
    have h := ih (pre ++ [(⟨k, k + 1, k + 1 + 1⟩ : S124)]) (k + 1 + 1 + 1) (by omega) (by omega) (by simp; omega)
    simp only [List.append_assoc, List.singleton_append, List.length_append, List.length_singleton] at h
    exact h.r (Prod.ext (by simp only [List.length_cons]; omega) rfl)
theorem markRowS_ev (l : List S124) (k : Int) (h0 : 0 ≤ k) (h1 : k + 3 * l.length ≤ 4611686018427387904) : Ev (fun f => laws_markRowS.f f l k) (k + 3 * l.length, mkRow k l) :=
  Ev.u (fun _ => rfl) (markRowS_l0 l [] k h0 h1 (by simp; omega))
theorem heldRowS_l0 (l : List S124) (hl : l.length ≤ 4611686018427387904) : ∀ (s : List S124) (i : Nat) (k : Int), l.drop i = mkRow k s → 0 ≤ k → k + 3 * s.length ≤ 4611686018427387904 → Ev (fun f => laws_heldRowS.l0 f k (i : Int) l) (k + 3 * s.length) := by
  intro s
  induction s with
  | nil =>
    intro i k hd h0 h1
    have := drop_nil' hd
    exact Ev.s (fun f => by rw [laws_heldRowS.l0]) (Ev.e (by omega) (Ev.p.r (by simp)))
  | cons x t ih =>
    intro i k hd h0 h1
    rw [List.length_cons] at h1
    rw [mkRow] at hd
    obtain ⟨hi, hd', hx, -⟩ := drop_cons' hd
    refine Ev.s (fun f => by rw [laws_heldRowS.l0]) (Ev.t (by omega) (Ev.t (by omega) ?_))
    rw [w64 (x := k + 1) (by omega) (by omega)]
    rw [w64 (x := k + 1 + 1) (by omega) (by omega)]
    rw [w64 (x := k + 1 + 1 + 1) (by omega) (by omega)]
    rw [rdR, hx, w64s hi (by omega)]
    exact Ev.t rfl (Ev.t rfl (Ev.t rfl ((ih (i + 1) (k + 1 + 1 + 1) hd' (by omega) (by omega)).r (by simp only [List.length_cons]; omega))))
theorem heldRowS_ev (l : List S124) (k : Int) (h0 : 0 ≤ k) (h1 : k + 3 * l.length ≤ 4611686018427387904) : Ev (fun f => laws_heldRowS.f f (mkRow k l) k) (k + 3 * l.length) :=
  Ev.u (fun _ => rfl) (heldRowS_l0 _ (by rw [mkRow_len]; omega) l 0 k rfl h0 h1)
theorem eqRow_refl (x : S124) : laws_eqRow.f x.f0 x.f1 x.f2 x.f0 x.f1 x.f2 = some true := by
  unfold laws_eqRow.f; simp
theorem eqRowS_l0 (l : List S124) (hl : l.length ≤ 4611686018427387904) : ∀ (s : List S124) (i : Nat), l.drop i = s → Ev (fun f => laws_eqRowS.l0 f (i : Int) l l) true := by
  intro s
  induction s with
  | nil =>
    intro i hd
    have := drop_nil' hd
    exact Ev.s (fun f => by rw [laws_eqRowS.l0]) (Ev.e (by omega) (Ev.p.r (by rfl)))
  | cons x t ih =>
    intro i hd
    obtain ⟨hi, hd', hx, -⟩ := drop_cons' hd
    refine Ev.s (fun f => by rw [laws_eqRowS.l0]) (Ev.t (by omega) (Ev.t (by omega) (Ev.t (by omega) ?_)))
    rw [rdR, hx, w64s hi (by omega)]
    exact Ev.b (Ev.c (eqRow_refl _)) <| Ev.t rfl (ih (i + 1) hd')
theorem eqRowS_ev (l : List S124) (hl : l.length ≤ 4611686018427387904) : Ev (fun f => laws_eqRowS.f f l l) true :=
  Ev.u (fun _ => rfl) (Ev.t rfl (eqRowS_l0 l hl l 0 rfl))
theorem vRows_len {l : List S124} (h : vRows l = true) : l.length ≤ 24 := by
  unfold vRows at h; rw [Bool.and_eq_true] at h; exact of_decide_eq_true h.2
theorem vRows_iff {l : List S124} : vRows l = true ↔ vAll l = true ∧ l.length ≤ 24 := by unfold vRows; rw [Bool.and_eq_true, decide_eq_true_iff]
theorem sum_mem {α : Type} (f : α → Nat) : ∀ {l : List α} {x : α}, x ∈ l → f x ≤ (l.map f).sum
  | y :: l, x, h => by
    rcases List.mem_cons.1 h with h | h
    · subst h; simp
    · have := sum_mem f h; simp; omega
theorem rdGT (l : List S99) (i : Nat) : rd_T99 l (i : Int) = l.getD i z99 := rfl
theorem rdPGT (pre : List S99) (x : S99) (t : List S99) : rd_T99 (pre ++ x :: t) (pre.length : Int) = x := getP pre x z99 t
def mk1G (k : Int) (t : S99) : S99 := ⟨mkRow k t.f0, k + 3 * t.f0.length⟩
def n1G (t : S99) : Int := 3 * t.f0.length + 1
def mkGT : Int → List S99 → List S99
  | _, [] => []
  | k, t :: l => mk1G k t :: mkGT (k + n1G t) l
def nGs (l : List S99) : Int := (l.map n1G).sum
theorem nGs_cons (t : S99) (l : List S99) : nGs (t :: l) = n1G t + nGs l := by simp [nGs]
theorem n1G_pos (t : S99) : 1 ≤ n1G t := by unfold n1G; omega
theorem nGs_pos : ∀ l : List S99, 0 ≤ nGs l
  | [] => by simp [nGs]
  | t :: l => by rw [nGs_cons]; have := n1G_pos t; have := nGs_pos l; omega
theorem mkGT_len : ∀ (k : Int) (l : List S99), (mkGT k l).length = l.length
  | _, [] => rfl
  | k, t :: l => by rw [mkGT, List.length_cons, List.length_cons, mkGT_len]
theorem markGroupTaskS_l0 : ∀ (s pre : List S99) (k : Int), 0 ≤ k → k + nGs s ≤ 4611686018427387904 → pre.length + s.length ≤ 4611686018427387904 → Ev (fun f => laws_markGroupTaskS.l0 f (pre ++ s) k (pre.length : Int)) (k + nGs s, pre ++ mkGT k s) := by
  intro s
  induction s with
  | nil =>
    intro pre k h0 h1 h2
    exact Ev.s (fun f => by rw [laws_markGroupTaskS.l0]) (Ev.e (by simp) (Ev.p.r (by simp [mkGT, nGs])))
  | cons x t ih =>
    intro pre k h0 h1 h2
    rw [nGs_cons] at h1
    rw [List.length_cons] at h2
    have hp := nGs_pos t
    have hx : n1G x = 3 * x.f0.length + 1 := rfl
    refine Ev.s (fun f => by rw [laws_markGroupTaskS.l0]) (Ev.t (by simp; omega) (Ev.t (by omega) ?_))
    simp only [rdPGT]
    refine Ev.b (markRowS_ev x.f0 k (by omega) (by omega)) (Ev.b (Ev.c (congrArg some (setP pre _ _ t))) (Ev.t (by simp; omega) ?_))
    simp only [rdPGT]
    refine Ev.b (Ev.c (congrArg some (setP pre _ _ t))) ?_
    rw [show wrap64 ((pre.length : Int) + 1) = ((pre.length + 1 : Nat) : Int) by rw [w64 (by omega) (by omega)]; rfl]
    rw [w64 (by omega) (by omega)]
    have h := ih (pre ++ [mk1G k x]) (k + n1G x) (by omega) (by omega) (by simp; omega)
    simp only [List.append_assoc, List.singleton_append, List.length_append, List.length_singleton] at h
    refine h.r' (fun f => ?_) (Prod.ext (by rw [nGs_cons]; show _ = _; simp only []; omega) rfl)
    rw [show k + n1G x = k + 3 * (x.f0.length : Int) + 1 by omega]
    rfl
theorem markGroupTaskS_ev (l : List S99) (k : Int) (h0 : 0 ≤ k) (h1 : k + nGs l ≤ 4611686018427387904) (h2 : l.length ≤ 1152921504606846975) : Ev (fun f => laws_markGroupTaskS.f f l k) (k + nGs l, mkGT k l) :=
  Ev.u (fun _ => rfl) (markGroupTaskS_l0 l [] k h0 h1 (by simp; omega))
theorem heldGroupTaskS_l0 (l : List S99) (hl : l.length ≤ 4611686018427387904) : ∀ (s : List S99) (i : Nat) (k : Int), l.drop i = mkGT k s → 0 ≤ k → k + nGs s ≤ 4611686018427387904 → Ev (fun f => laws_heldGroupTaskS.l0 f k (i : Int) l) (k + nGs s) := by
  intro s
  induction s with
  | nil =>
    intro i k hd h0 h1
    have := drop_nil' hd
    exact Ev.s (fun f => by rw [laws_heldGroupTaskS.l0]) (Ev.e (by omega) (Ev.p.r (by simp [nGs])))
  | cons x t ih =>
    intro i k hd h0 h1
    rw [nGs_cons] at h1
    rw [mkGT] at hd
    have hp := nGs_pos t
    have hx' : n1G x = 3 * x.f0.length + 1 := rfl
    obtain ⟨hi, hd', hx, -⟩ := drop_cons' hd
    refine Ev.s (fun f => by rw [laws_heldGroupTaskS.l0]) (Ev.t (by omega) (Ev.t (by omega) ?_))
    rw [rdGT, hx, w64s hi (by omega)]
    refine Ev.b (heldRowS_ev x.f0 k (by omega) (by omega)) (Ev.e (by omega) (Ev.t rfl ?_))
    rw [w64 (by omega) (by omega)]
    rw [show k + 3 * (x.f0.length : Int) + 1 = k + n1G x by omega]
    exact (ih (i + 1) (k + n1G x) hd' (by omega) (by omega)).r (by rw [nGs_cons]; omega)
theorem heldGroupTaskS_ev (l : List S99) (k : Int) (h0 : 0 ≤ k) (h1 : k + nGs l ≤ 4611686018427387904) (h2 : l.length ≤ 1152921504606846975) : Ev (fun f => laws_heldGroupTaskS.f f (mkGT k l) k) (k + nGs l) :=
  Ev.u (fun _ => rfl) (heldGroupTaskS_l0 _ (by rw [mkGT_len]; omega) l 0 k rfl h0 h1)
theorem eqGroupTask_ev (t : S99) (h : t.f0.length ≤ 4611686018427387904) : Ev (fun k => laws_eqGroupTask.f k t.f0 t.f1 t.f0 t.f1) true :=
  Ev.u (fun _ => rfl) (Ev.b (eqRowS_ev _ h) (Ev.t rfl (Ev.t rfl Ev.p)))
theorem eqGroupTaskS_l0 (l : List S99) (hl : l.length ≤ 4611686018427387904) (ht : ∀ t ∈ l, t.f0.length ≤ 4611686018427387904) : ∀ (s : List S99) (i : Nat), l.drop i = s → Ev (fun f => laws_eqGroupTaskS.l0 f (i : Int) l l) true := by
  intro s
  induction s with
  | nil =>
    intro i hd
    have := drop_nil' hd
    exact Ev.s (fun f => by rw [laws_eqGroupTaskS.l0]) (Ev.e (by omega) (Ev.p.r (by rfl)))
  | cons x t ih =>
    intro i hd
    obtain ⟨hi, hd', hx, -⟩ := drop_cons' hd
    have hm : x ∈ l := List.mem_of_mem_drop (by rw [hd]; exact List.mem_cons_self ..)
    refine Ev.s (fun f => by rw [laws_eqGroupTaskS.l0]) (Ev.t (by omega) (Ev.t (by omega) (Ev.t (by omega) ?_)))
    rw [rdGT, hx, w64s hi (by omega)]
    exact Ev.b (eqGroupTask_ev x (ht x hm)) (Ev.t rfl (ih (i + 1) hd'))
theorem eqGroupTaskS_ev (l : List S99) (hl : l.length ≤ 4611686018427387904) (ht : ∀ t ∈ l, t.f0.length ≤ 4611686018427387904) : Ev (fun f => laws_eqGroupTaskS.f f l l) true :=
  Ev.u (fun _ => rfl) (Ev.t rfl (eqGroupTaskS_l0 l hl ht l 0 rfl))
def asz (a : S48) : Nat := a.f0.length + (a.f0.map fun t => t.f0.length).sum
theorem asz_mem {a : S48} {t : S99} (h : t ∈ a.f0) : t.f0.length ≤ asz a := by have := sum_mem (fun t : S99 => t.f0.length) h; unfold asz; omega
theorem nGs_eq : ∀ l : List S99, nGs l = 3 * ((l.map fun t => t.f0.length).sum : Nat) + l.length
  | [] => by simp [nGs]
  | t :: l => by
    rw [nGs_cons, nGs_eq l, List.map_cons, List.sum_cons, List.length_cons]
    unfold n1G; omega
theorem nGs_b (a : S48) : 0 ≤ nGs a.f0 ∧ nGs a.f0 ≤ 3 * asz a := by
  rw [nGs_eq]; unfold asz; omega
theorem eqAggregator_ev (a : S48) (h : asz a ≤ 4611686018427387904) : Ev (fun k => laws_eqAggregator.f k a.f0 a.f1 a.f2 a.f0 a.f1 a.f2) true := by
  have hl : a.f0.length ≤ asz a := by unfold asz; omega
  exact Ev.u (fun _ => rfl) (Ev.b (eqGroupTaskS_ev _ (by omega) (fun t ht => by have := asz_mem ht; omega)) (Ev.t rfl (Ev.t rfl (Ev.t (by simp) Ev.p))))
theorem markAggregator_ev (a : S48) (k : Int) (h0 : 0 ≤ k) (h1 : k + 3 * asz a ≤ 1152921504606846975) : Ev (fun f => laws_markAggregator.f f a.f0 a.f1 a.f2 k) (k + nGs a.f0, mkGT k a.f0) := by
  have hl : a.f0.length ≤ asz a := by unfold asz; omega
  have hb := nGs_b a
  exact Ev.u (fun _ => rfl) (Ev.b (markGroupTaskS_ev _ k h0 (by omega) (by omega)) Ev.p)
theorem heldAggregator_ev (a : S48) (k : Int) (u : Int) (b : Bool) (h0 : 0 ≤ k) (h1 : k + 3 * asz a ≤ 1152921504606846975) : Ev (fun f => laws_heldAggregator.f f (mkGT k a.f0) u b k) (k + nGs a.f0) := by
  have hl : a.f0.length ≤ asz a := by unfold asz; omega
  have hb := nGs_b a
  exact Ev.u (fun _ => rfl) (Ev.b (heldGroupTaskS_ev _ k h0 (by omega) (by omega)) (Ev.e (by omega) Ev.p))
def vGT (t : S99) : Bool := vRows t.f0 && inB t.f1 0 4
def sG (l : List S99) : Nat := (l.map fun t => t.f0.length).sum
theorem sG_cons (t : S99) (l : List S99) : sG (t :: l) = t.f0.length + sG l := by simp [sG]
def vA (a : S48) : Bool := (a.f0.all vGT) && (decide (sG a.f0 ≤ 24) && (decide (a.f0.length ≤ 40) && inB a.f1 0 100000))
theorem impl_IsValidAggregator_l0 (l : List S99) (w : Int) (e : Bool) (hl : l.length ≤ 134217728) (ht : ∀ t ∈ l, t.f0.length ≤ 134217728) : ∀ (s : List S99) (i c : Nat), l.drop i = s → c + sG s ≤ 4294967296 →
    Ev (fun k => impl_IsValidAggregator.l0 k (c : Int) (l.length : Int) (i : Int) w e l) ((s.all vGT) && (decide (c + sG s ≤ 24) && (decide (l.length ≤ 40) && inB w 0 100000))) := by
  intro s
  induction s with
  | nil =>
    intro i c hd hc
    have := drop_nil' hd
    refine Ev.s (fun k => by rw [impl_IsValidAggregator.l0]) (Ev.e (by omega) (Ev.i (fun h => Ev.i (fun h2 => ?_) (fun h2 => Ev.p.r ?_)) (fun h => Ev.p.r ?_)))
    · have k1 : l.length ≤ 40 := by omega
      have k2 : c ≤ 24 := by omega
      exact Ev.b (Ev.c (within_eq _ _ _)) (Ev.p.r (by simp [sG, k1, k2]))
    · have k2 : ¬ c ≤ 24 := by omega
      simp [sG, k2]
    · have k1 : ¬ l.length ≤ 40 := by omega
      simp [k1]
  | cons x t ih =>
    intro i c hd hc
    rw [sG_cons] at hc ⊢
    obtain ⟨hi, hd', hx, -⟩ := drop_cons' hd
    have hm := ht x (List.mem_of_mem_drop (by rw [hd]; exact List.mem_cons_self ..))
    rw [List.all_cons]
    refine Ev.s (fun k => by rw [impl_IsValidAggregator.l0]) (Ev.t (by omega) (Ev.t (by omega) (Ev.t (by omega) ?_)))
    rw [rdGT, hx, w64s hi (by omega)]
    refine Ev.b (impl_AreValidRows_ev x.f0 (by omega)) (Ev.i (fun h1 => Ev.b (Ev.c (within_eq _ _ _)) (Ev.i (fun h2 => ?_) (fun h2 => Ev.p.r (by simp [vGT, h2])))) (fun h1 => Ev.p.r (by simp [vGT, h1])))
    rw [show wrap64 ((c : Int) + (x.f0.length : Int)) = ((c + x.f0.length : Nat) : Int) by rw [w64 (by omega) (by omega)]; rfl]
    refine (ih (i + 1) (c + x.f0.length) hd' (by omega)).r ?_
    rw [Nat.add_assoc, show vGT x = true by simp [vGT, h1, h2]]; simp
theorem impl_IsValidAggregator_evG (a : S48) (h : asz a ≤ 134217728) : Ev (fun k => impl_IsValidAggregator.f k a.f0 a.f1 a.f2) (vA a) := by
  have hl : a.f0.length ≤ asz a := by unfold asz; omega
  have hs : sG a.f0 ≤ asz a := by unfold asz sG; omega
  exact Ev.u (fun _ => rfl) ((impl_IsValidAggregator_l0 a.f0 a.f1 a.f2 (by omega) (fun t ht => by have := asz_mem ht; omega) a.f0 0 0 rfl (by omega)).r (by unfold vA; rw [Nat.zero_add]))
theorem spec_IsValidAggregator_l0 (l : List S99) (w : Int) (e : Bool) (hl : l.length ≤ 134217728) (ht : ∀ t ∈ l, t.f0.length ≤ 134217728) : ∀ (s : List S99) (i c : Nat), l.drop i = s → c + sG s ≤ 4294967296 →
    Ev (fun k => spec_IsValidAggregator.l0 k (c : Int) (i : Int) w e l) ((s.all vGT) && (decide (c + sG s ≤ 24) && (decide (l.length ≤ 40) && inB w 0 100000))) := by
  intro s
  induction s with
  | nil =>
    intro i c hd hc
    have := drop_nil' hd
    refine Ev.s (fun k => by rw [spec_IsValidAggregator.l0]) (Ev.e (by omega) (Ev.i (fun h2 => Ev.i (fun h => ?_) (fun h => Ev.p.r ?_)) (fun h2 => Ev.p.r ?_)))
    · have k1 : l.length ≤ 40 := by omega
      have k2 : c ≤ 24 := by omega
      exact Ev.b (Ev.c (l1In_eq _ _ _)) (Ev.p.r (by simp [sG, k1, k2]))
    · have k1 : ¬ l.length ≤ 40 := by omega
      simp [k1]
    · have k2 : ¬ c ≤ 24 := by omega
      simp [sG, k2]
  | cons x t ih =>
    intro i c hd hc
    rw [sG_cons] at hc ⊢
    obtain ⟨hi, hd', hx, -⟩ := drop_cons' hd
    have hm := ht x (List.mem_of_mem_drop (by rw [hd]; exact List.mem_cons_self ..))
    rw [List.all_cons]
    refine Ev.s (fun k => by rw [spec_IsValidAggregator.l0]) (Ev.t (by omega) (Ev.t (by omega) ?_))
    rw [rdGT, hx, w64s hi (by omega)]
    refine Ev.b (spec_AreValidRows_ev x.f0 (by omega)) (Ev.i (fun h1 => Ev.b (Ev.c (l1In_eq _ _ _)) (Ev.i (fun h2 => ?_) (fun h2 => Ev.p.r (by simp [vGT, h2])))) (fun h1 => Ev.p.r (by simp [vGT, h1])))
    rw [show wrap64 ((c : Int) + (x.f0.length : Int)) = ((c + x.f0.length : Nat) : Int) by rw [w64 (by omega) (by omega)]; rfl]
    refine (ih (i + 1) (c + x.f0.length) hd' (by omega)).r ?_
    rw [Nat.add_assoc, show vGT x = true by simp [vGT, h1, h2]]; simp
theorem spec_IsValidAggregator_evG (a : S48) (h : asz a ≤ 134217728) : Ev (fun k => spec_IsValidAggregator.f k a.f0 a.f1 a.f2) (vA a) := by
  have hl : a.f0.length ≤ asz a := by unfold asz; omega
  have hs : sG a.f0 ≤ asz a := by unfold asz sG; omega
  exact Ev.u (fun _ => rfl) ((spec_IsValidAggregator_l0 a.f0 a.f1 a.f2 (by omega) (fun t ht => by have := asz_mem ht; omega) a.f0 0 0 rfl (by omega)).r (by unfold vA; rw [Nat.zero_add]))
structure VA (a : S48) : Prop where
  ts : ∀ t ∈ a.f0, vRows t.f0 = true ∧ 0 ≤ t.f1 ∧ t.f1 ≤ 4
  n : sG a.f0 ≤ 24
  len : a.f0.length ≤ 40
  wr : 0 ≤ a.f1 ∧ a.f1 ≤ 100000
theorem inB_iff' {n a b : Int} : inB n a b = true ↔ a ≤ n ∧ n ≤ b := by simp [inB]
theorem vA_iff {a : S48} : vA a = true ↔ VA a := by
  unfold vA
  constructor
  · intro h
    simp only [Bool.and_eq_true, decide_eq_true_iff, inB_iff'] at h
    refine ⟨fun t ht => ?_, h.2.1, h.2.2.1, h.2.2.2⟩
    have := List.all_eq_true.1 h.1 t ht
    simp only [vGT, Bool.and_eq_true, inB_iff'] at this
    exact this
  · intro h
    simp only [Bool.and_eq_true, decide_eq_true_iff, inB_iff']
    refine ⟨List.all_eq_true.2 fun t ht => ?_, h.n, h.len, h.wr⟩
    simp only [vGT, Bool.and_eq_true, inB_iff']
    exact h.ts t ht
def toB (l : List UInt8) : ByteArray := ⟨⟨l⟩⟩
def bs (s : ByteArray) : List UInt8 := s.data.toList
theorem bs_toB (l : List UInt8) : bs (toB l) = l := rfl
theorem toB_sz (l : List UInt8) : (toB l).size = l.length := rfl
theorem bs_len (s : ByteArray) : (bs s).length = s.size := rfl
theorem bs_inj {a b : ByteArray} (h : bs a = bs b) : a = b := ByteArray.ext (Array.toList_inj.1 h)
theorem toB_inj {a b : List UInt8} (h : toB a = toB b) : a = b := congrArg bs h
theorem bs_app (a b : ByteArray) : bs (a ++ b) = bs a ++ bs b := by unfold bs; rw [ByteArray.data_append, Array.toList_append]
theorem toB_app (a b : List UInt8) : toB a ++ toB b = toB (a ++ b) := bs_inj (bs_app _ _)
theorem toL_iff (a b : ByteArray) : a.toList = b.toList ↔ a = b := by
  rw [ByteArray.toList_eq, ByteArray.toList_eq]
  exact ⟨fun h => bs_inj h, fun h => congrArg bs h⟩
theorem toL_nil (a : ByteArray) : a.toList = (toB []).toList ↔ bs a = [] := by
  rw [toL_iff]; exact ⟨fun h => by rw [h]; rfl, fun h => bs_inj h⟩
theorem bt_drop {s : ByteArray} {i : Nat} {b : UInt8} {t : List UInt8} (h : (bs s).drop i = b :: t) : bt s (i : Int) = (b.toNat : Int) ∧ i < s.size ∧ (bs s).drop (i + 1) = t := by
  obtain ⟨hi, hd, hx, -⟩ := drop_cons' h
  rw [bs_len] at hi
  refine ⟨?_, hi, hd⟩
  unfold bt
  rw [Int.toNat_natCast, dif_pos hi]
  have : s[i] = b := by
    have e := hx 0
    rw [List.getD_eq_getElem?_getD, List.getElem?_eq_getElem (by rw [bs_len]; exact hi)] at e
    exact e
  rw [this]
theorem bs_extract (s : ByteArray) (f i : Nat) : s.extract f i = toB (((bs s).drop f).take (i - f)) := by
  apply bs_inj
  unfold bs
  rw [ByteArray.data_extract, Array.toList_extract, List.extract_eq_take_drop]
  rfl
theorem u8x {x : Int} (h0 : 0 ≤ x) (h1 : x < 256) : IntKind.u8.wrap x = x := by
  simp only [IntKind.wrap, IntKind.signed, IntKind.bits, Bool.false_and, Bool.false_eq_true, if_false]
  omega
theorem u64x {x : Int} (h0 : 0 ≤ x) (h1 : x < 18446744073709551616) : IntKind.u64.wrap x = x := by
  simp only [IntKind.wrap, IntKind.signed, IntKind.bits, Bool.false_and, Bool.false_eq_true, if_false]
  omega
theorem u64m {x : Int} (h0 : -9223372036854775808 ≤ x) (h1 : x < 0) : IntKind.u64.wrap (-(IntKind.u64.wrap x)) = -x := by
  simp only [IntKind.wrap, IntKind.signed, IntKind.bits, Bool.false_and, Bool.false_eq_true, if_false]
  omega
theorem i64x {x : Int} (h0 : -9223372036854775808 ≤ x) (h1 : x ≤ 9223372036854775807) : IntKind.i64.wrap x = x := by
  simp [IntKind.wrap, IntKind.signed, IntKind.bits]
  omega
def dg (n : Nat) : UInt8 := UInt8.ofNat (48 + n)
theorem dg_nat {n : Nat} (h : n < 10) : (dg n).toNat = 48 + n := (UInt8.toNat_ofNat' ..).trans (Nat.mod_eq_of_lt (Nat.lt_of_lt_of_le (show 48 + n < 58 by omega) (by decide)))
theorem strD {n : Nat} (h : n < 10) : strOfNums [IntKind.u8.wrap (wrap64 (48 + (n : Int)))] = toB [dg n] := by
  rw [w64 (by omega) (by omega), u8x (by omega) (by omega), show 48 + (n : Int) = ((48 + n : Nat) : Int) by omega]
  rfl
theorem strDu {n : Nat} (h : n < 10) : strOfNums [IntKind.u8.wrap (IntKind.u64.wrap (48 + (n : Int)))] = toB [dg n] := by
  rw [u64x (by omega) (by omega), u8x (by omega) (by omega), show 48 + (n : Int) = ((48 + n : Nat) : Int) by omega]
  rfl
def dgl (n : Nat) : List UInt8 := if h : n < 10 then [dg n] else dgl (n / 10) ++ [dg (n % 10)]
  termination_by n
theorem dgl_lt {n : Nat} (h : n < 10) : dgl n = [dg n] := by rw [dgl]; exact dif_pos h
theorem dgl_ge {n : Nat} (h : ¬ n < 10) : dgl n = dgl (n / 10) ++ [dg (n % 10)] := by rw [dgl]; exact dif_neg h
theorem dgl_len : ∀ (d n : Nat), n < 10 ^ (d + 1) → (dgl n).length ≤ d + 1 ∧ 1 ≤ (dgl n).length
  | 0, n, h => by rw [dgl_lt (by omega)]; simp
  | d + 1, n, h => by
    by_cases c : n < 10
    · rw [dgl_lt c]; simp
    · have := dgl_len d (n / 10) (by rw [Nat.pow_succ] at h; omega)
      rw [dgl_ge c, List.length_append, List.length_singleton]
      omega
theorem impl_decimal_ev : ∀ (d n : Nat), n < 10 ^ (d + 1) → n < 18446744073709551616 → d ≤ 30 → Ev (fun k => impl_decimal.f k (n : Int)) (toB (dgl n)) := by
  intro d
  induction d with
  | zero =>
    intro n h h2 h3
    refine Ev.s (fun k => by rw [impl_decimal.f]) (Ev.t (by omega) ?_)
    rw [strDu (by omega), dgl_lt (by omega)]; exact Ev.p
  | succ d ih =>
    intro n h h2 h3
    refine Ev.s (fun k => by rw [impl_decimal.f]) ?_
    by_cases c : n < 10
    · refine Ev.t (by omega) ?_
      rw [strDu c, dgl_lt c]; exact Ev.p
    · have hp : n / 10 < 10 ^ (d + 1) := by rw [Nat.pow_succ] at h; omega
      have hs := dgl_len d (n / 10) hp
      refine Ev.e (by omega) ?_
      rw [show Int.tdiv (n : Int) 10 = ((n / 10 : Nat) : Int) from rfl, u64x (x := ((n / 10 : Nat) : Int)) (by omega) (by omega), show Int.tmod (n : Int) 10 = ((n % 10 : Nat) : Int) from rfl, strDu (n := n % 10) (by omega)]
      refine Ev.b (ih (n / 10) hp (by omega) (by omega)) (Ev.t ?_ (Ev.p.r ?_))
      · show (dgl (n / 10)).length + 1 ≤ _; omega
      · rw [toB_app, dgl_ge c]
def fI (a : Int) : List UInt8 := if a < 0 then 45 :: dgl (-a).toNat else dgl a.toNat
theorem pow20 : 10 ^ (19 + 1) = 100000000000000000000 := by decide
theorem fI_len (a : Int) (h0 : -9223372036854775808 ≤ a) (h1 : a ≤ 9223372036854775807) : (fI a).length ≤ 21 ∧ 1 ≤ (fI a).length := by
  unfold fI
  split
  · have := dgl_len 19 (-a).toNat (by rw [pow20]; omega)
    rw [List.length_cons]; omega
  · have := dgl_len 19 a.toNat (by rw [pow20]; omega)
    omega
theorem impl_FormatInt_ev (a : Int) (h0 : -9223372036854775808 ≤ a) (h1 : a ≤ 9223372036854775807) : Ev (fun k => impl_FormatInt.f k a) (toB (fI a)) := by
  unfold fI
  refine Ev.u (fun _ => rfl) ?_
  by_cases c : a < 0
  · have hp : (-a).toNat < 10 ^ (19 + 1) := by rw [pow20]; omega
    have hs := dgl_len 19 (-a).toNat hp
    have hd := impl_decimal_ev 19 (-a).toNat hp (by omega) (by omega)
    rw [show (((-a).toNat : Nat) : Int) = -a by omega] at hd
    refine Ev.t c ?_
    rw [if_pos c, u64m h0 c]
    refine Ev.b hd (Ev.t ?_ (Ev.p.r ?_))
    · show 1 + (dgl (-a).toNat).length ≤ _; omega
    · exact toB_app [45] _
  · have hp : a.toNat < 10 ^ (19 + 1) := by rw [pow20]; omega
    have hd := impl_decimal_ev 19 a.toNat hp (by omega) (by omega)
    rw [show ((a.toNat : Nat) : Int) = a by omega] at hd
    refine Ev.e c ?_
    rw [if_neg c, u64x (by omega) (by omega)]
    exact Ev.b hd Ev.p
def dlz (n : Nat) : List UInt8 := if n = 0 then [] else dgl n
theorem dlz_step (n : Nat) (h : n ≠ 0) (acc : List UInt8) : dlz (n / 10) ++ ([dg (n % 10)] ++ acc) = dlz n ++ acc := by
  unfold dlz
  rw [if_neg h]
  by_cases c : n < 10
  · rw [if_pos (by omega), show n % 10 = n by omega, dgl_lt c]; rfl
  · rw [if_neg (by omega), dgl_ge c, List.append_assoc]
def ng1 (b : Bool) : List UInt8 := if b = true then [45] else []
theorem spec_FormatInt_l0 : ∀ (d n : Nat) (x : Int) (acc : List UInt8) (b : Bool), (x = (n : Int) ∨ x = -(n : Int)) → n < 10 ^ d → n ≤ 9223372036854775808 → d ≤ 30 → acc.length + d ≤ 1000 → Ev (fun k => spec_FormatInt.l0 k x (toB acc) b) (toB (ng1 b ++ (dlz n ++ acc))) := by
  have Z : ∀ (acc : List UInt8) (b : Bool), acc.length ≤ 1000 → Ev (fun k => spec_FormatInt.l0 k 0 (toB acc) b) (toB (ng1 b ++ (dlz 0 ++ acc))) := by
    intro acc b ha
    refine Ev.s (fun k => by rw [spec_FormatInt.l0]) (Ev.t rfl ?_)
    cases b with
    | true => exact Ev.t rfl (Ev.t (by show 1 + acc.length ≤ _; omega) (Ev.p.r (toB_app [45] acc)))
    | false => exact Ev.e (by simp) (Ev.p.r rfl)
  intro d
  induction d with
  | zero =>
    intro n x acc b hx h h2 h3 ha
    have hn : n = 0 := by simpa using h
    subst hn
    have hx0 : x = 0 := by omega
    subst hx0
    exact Z acc b (by omega)
  | succ d ih =>
    intro n x acc b hx h h2 h3 ha
    by_cases hn : n = 0
    · subst hn
      have hx0 : x = 0 := by omega
      subst hx0
      exact Z acc b (by omega)
    have hp : n / 10 < 10 ^ d := by rw [Nat.pow_succ] at h; omega
    have J : ∀ y : Int, y = ((n % 10 : Nat) : Int) → Ev (fun k => spec_FormatInt.j0 k x (toB acc) b y) (toB (ng1 b ++ (dlz n ++ acc))) := by
      intro y hy
      subst hy
      refine Ev.s (fun k => by rw [spec_FormatInt.j0]) ?_
      rw [strD (n := n % 10) (by omega), toB_app]
      refine Ev.t (by show 1 + acc.length ≤ _; omega) ?_
      have e : wrap64 (Int.tdiv x 10) = ((n / 10 : Nat) : Int) ∨ wrap64 (Int.tdiv x 10) = -((n / 10 : Nat) : Int) := by
        rcases hx with rfl | rfl
        · left; rw [show Int.tdiv (n : Int) 10 = ((n / 10 : Nat) : Int) from rfl, w64 (by omega) (by omega)]
        · right; rw [Int.neg_tdiv, show Int.tdiv (n : Int) 10 = ((n / 10 : Nat) : Int) from rfl, w64 (by omega) (by omega)]
      refine (ih (n / 10) _ ([dg (n % 10)] ++ acc) b e hp (by omega) (by omega) (by simp; omega)).r ?_
      rw [dlz_step n hn]
    refine Ev.s (fun k => by rw [spec_FormatInt.l0]) (Ev.e (by omega) ?_)
    rcases hx with hx | hx
    · have e : Int.tmod x 10 = ((n % 10 : Nat) : Int) := by rw [hx]; rfl
      rw [e]
      exact Ev.e (by omega) (J _ rfl)
    · have e : Int.tmod x 10 = -((n % 10 : Nat) : Int) := by rw [hx, Int.neg_tmod]; rfl
      rw [e, w64 (x := -(-((n % 10 : Nat) : Int))) (by omega) (by omega)]
      exact Ev.i (fun _ => J _ (by omega)) (fun _ => J _ (by omega))
theorem spec_FormatInt_ev (a : Int) (h0 : -9223372036854775808 ≤ a) (h1 : a ≤ 9223372036854775807) : Ev (fun k => spec_FormatInt.f k a) (toB (fI a)) := by
  unfold fI
  refine Ev.u (fun _ => rfl) ?_
  by_cases z : a = 0
  · subst z
    refine Ev.t rfl (Ev.p.r ?_)
    rw [if_neg (by omega), show (0 : Int).toNat = 0 from rfl, dgl_lt (by omega)]
    rfl
  refine Ev.e z ?_
  by_cases c : a < 0
  · have hd := spec_FormatInt_l0 20 (-a).toNat a [] (decide (a < 0)) (.inr (by omega)) (by rw [pow20]; omega) (by omega) (by omega) (by simp)
    refine hd.r ?_
    rw [if_pos c, decide_eq_true c]
    unfold dlz
    rw [if_neg (by omega), List.append_nil]
    rfl
  · have hd := spec_FormatInt_l0 20 a.toNat a [] (decide (a < 0)) (.inl (by omega)) (by rw [pow20]; omega) (by omega) (by omega) (by simp)
    refine hd.r ?_
    rw [if_neg c, decide_eq_false c]
    unfold dlz
    rw [if_neg (by omega), List.append_nil]
    rfl

def isDg (b : UInt8) : Bool := decide (48 ≤ b.toNat ∧ b.toNat ≤ 57)
def fold10 (a : Nat) : List UInt8 → Nat
  | [] => a
  | b :: t => fold10 (a * 10 + (b.toNat - 48)) t
theorem fold10_app : ∀ (l m : List UInt8) (a : Nat), fold10 a (l ++ m) = fold10 (fold10 a l) m
  | [], _, _ => rfl
  | b :: t, m, a => fold10_app t m _
theorem dg_one {n : Nat} (h : n < 10) (a : Nat) : isDg (dg n) = true ∧ fold10 a [dg n] = a * 10 + n := by
  have e := dg_nat h
  constructor
  · unfold isDg; rw [e]; exact decide_eq_true ⟨Nat.le_add_right _ _, by omega⟩
  · show a * 10 + ((dg n).toNat - 48) = a * 10 + n
    rw [e, Nat.add_sub_cancel_left]
theorem dgl_dg (d : Nat) : ∀ n : Nat, n < 10 ^ (d + 1) → (dgl n).all isDg = true ∧ fold10 0 (dgl n) = n := by
  induction d with
  | zero =>
    intro n h
    have h' : n < 10 := h
    rw [dgl_lt h']
    have := dg_one h' 0
    rw [List.all_cons, this.1, this.2]
    exact ⟨rfl, by omega⟩
  | succ d ih =>
    intro n h
    by_cases c : n < 10
    · rw [dgl_lt c]
      have := dg_one c 0
      rw [List.all_cons, this.1, this.2]
      exact ⟨rfl, by omega⟩
    · obtain ⟨h1, h2⟩ := ih (n / 10) (by rw [Nat.pow_succ] at h; omega)
      obtain ⟨g1, g2⟩ := dg_one (n := n % 10) (Nat.mod_lt _ (by decide)) (n / 10)
      rw [dgl_ge c, fold10_app, h2, List.all_append, h1, List.all_cons, g1, g2]
      exact ⟨rfl, by omega⟩
theorem fold10_bd : ∀ (l : List UInt8) (a d : Nat), l.all isDg = true → a < 10 ^ d → fold10 a l < 10 ^ (d + l.length)
  | [], a, d, _, h => h
  | b :: t, a, d, hl, h => by
    simp only [List.all_cons, Bool.and_eq_true, isDg, decide_eq_true_eq] at hl
    have := fold10_bd t (a * 10 + (b.toNat - 48)) (d + 1) hl.2 (by rw [Nat.pow_succ]; omega)
    rw [List.length_cons, show d + (t.length + 1) = d + 1 + t.length by omega]
    exact this
/-- What the reading ends with: the number's text is the string itself, or it is none. -/
def fin (s : List UInt8) (v : Int) : Int × Bool := if fI v = s then (v, true) else (0, false)
theorem fin_ev {s : List UInt8} {v : Int} : Ev (fun _ => if (toB (fI v)).toList = (toB s).toList then some (v, true) else some (0, false)) (fin s v) := by
  unfold fin
  by_cases c : fI v = s
  · rw [if_pos c]; exact Ev.t (by rw [c]) Ev.p
  · rw [if_neg c]; exact Ev.e (fun h => c (toB_inj ((toL_iff _ _).1 h))) Ev.p
theorem pow9 : 10 ^ 9 = 1000000000 := by decide
theorem pow_step {a j d : Nat} (ha : a < 10 ^ j) (hd : d ≤ 9) : a * 10 + d < 10 ^ (j + 1) := by
  have h : a * 10 + d < (a + 1) * 10 := by clear ha; omega
  rw [Nat.pow_succ]
  exact Nat.lt_of_lt_of_le h (Nat.mul_le_mul_right 10 ha)
theorem pow_bd {a j : Nat} (ha : a < 10 ^ j) (hj : j ≤ 9) : a < 1000000000 := Nat.lt_of_lt_of_le ha (by rw [← pow9]; exact Nat.pow_le_pow_right (by decide) hj)
theorem pow11 : 10 ^ 11 = 100000000000 := by decide
theorem pow_bd11 {a j : Nat} (ha : a < 10 ^ j) (hj : j ≤ 11) : a < 100000000000 := Nat.lt_of_lt_of_le ha (by rw [← pow11]; exact Nat.pow_le_pow_right (by decide) hj)
/-- What stands behind the sign. -/
def strip : List UInt8 → List UInt8
  | [] => []
  | b :: t => if b.toNat = 45 then t else b :: t
def finI (s x : List UInt8) (v : Nat) : Int × Bool := if x.length < s.length then fin s (-(v : Int)) else fin s (v : Int)
def pI (s : List UInt8) : Int × Bool := if (strip s).length < 1 ∨ 9 < (strip s).length then (0, false) else if (strip s).all isDg = true then finI s (strip s) (fold10 0 (strip s)) else (0, false)
theorem dgw {a d : Nat} (ha : a < 1000000000000) (hd : d ≤ 9) : wrap64 (wrap64 (10 * (a : Int)) + IntKind.i64.wrap (IntKind.u8.wrap (((48 + d : Nat) : Int) - 48))) = ((a * 10 + d : Nat) : Int) := by
  rw [w64 (x := 10 * (a : Int)) (by omega) (by omega), u8x (by omega) (by omega), i64x (by omega) (by omega), w64 (by omega) (by omega)]
  omega
theorem impl_ParseInt_j1 (s : List UInt8) (v : Int) (h0 : -1000000000000 ≤ v) (h1 : v ≤ 1000000000000) : Ev (fun k => impl_ParseInt.j1 k (toB s) v) (fin s v) :=
  Ev.s (fun k => by rw [impl_ParseInt.j1]) (Ev.b (impl_FormatInt_ev v (by omega) (by omega)) fin_ev)
theorem impl_ParseInt_l0 (s x : List UInt8) (hx : x.length ≤ 9) : ∀ (t : List UInt8) (i j a : Nat), x.drop i = t → i + t.length = x.length → a < 10 ^ j → j + t.length ≤ 9 → Ev (fun k => impl_ParseInt.l0 k (toB s) (toB x) (a : Int) (x.length : Int) (i : Int)) (if t.all isDg = true then finI s x (fold10 a t) else (0, false)) := by
  intro t
  induction t with
  | nil =>
    intro i j a hd hi ha hj
    simp only [List.length_nil, Nat.add_zero] at hi hj
    have hb : a < 1000000000 := pow_bd ha hj
    clear ha
    rw [if_pos (show ([] : List UInt8).all isDg = true from rfl)]
    refine Ev.s (fun k => by rw [impl_ParseInt.l0]) (Ev.e (by omega) ?_)
    rw [w64 (x := -(a : Int)) (by omega) (by omega), toB_sz, toB_sz]
    unfold finI fold10
    by_cases c : x.length < s.length
    · rw [if_pos c]; exact Ev.t (by omega) (impl_ParseInt_j1 s _ (by omega) (by omega))
    · rw [if_neg c]; exact Ev.e (by omega) (impl_ParseInt_j1 s _ (by omega) (by omega))
  | cons b t ih =>
    intro i j a hd hi ha hj
    obtain ⟨hb, hi', hd'⟩ := bt_drop (s := toB x) (i := i) hd
    rw [toB_sz] at hi'
    rw [bs_toB] at hd'
    simp only [List.length_cons] at hi hj
    have hl : a < 1000000000 := pow_bd ha (Nat.le_trans (Nat.le_add_right _ _) hj)
    have hs := fun (d : Nat) (hd : d ≤ 9) => pow_step (d := d) ha hd
    clear ha
    refine Ev.s (fun k => by rw [impl_ParseInt.l0]) (Ev.t (by omega) (Ev.t (by omega) (Ev.t (by rw [toB_sz]; omega) ?_)))
    rw [hb, List.all_cons]
    refine Ev.i (fun c => Ev.p.r ?_) (fun c => Ev.i (fun c2 => Ev.p.r ?_) (fun c2 => ?_))
    · have e : isDg b = false := decide_eq_false (by omega)
      rw [e]; rfl
    · have e : isDg b = false := decide_eq_false (by omega)
      rw [e]; rfl
    · have e : isDg b = true := decide_eq_true (by omega)
      have g := dgw (a := a) (d := b.toNat - 48) (by omega) (by omega)
      rw [show 48 + (b.toNat - 48) = b.toNat by omega] at g
      rw [g, w64s hi' (by omega), e, Bool.true_and]
      exact ih (i + 1) (j + 1) _ hd' (by omega) (hs _ (by omega)) (by omega)
theorem impl_ParseInt_j0 (s x : List UInt8) : Ev (fun k => impl_ParseInt.j0 k (toB s) (toB x)) (if x.length < 1 ∨ 9 < x.length then (0, false) else if x.all isDg = true then finI s x (fold10 0 x) else (0, false)) := by
  refine Ev.s (fun k => by rw [impl_ParseInt.j0]) ?_
  rw [toB_sz]
  refine Ev.i (fun c => Ev.p.r ?_) (fun c => Ev.i (fun c2 => Ev.p.r ?_) (fun c2 => ?_))
  · rw [if_pos (.inl (by omega))]
  · rw [if_pos (.inr (by omega))]
  · rw [if_neg (by omega)]
    exact impl_ParseInt_l0 s x (by omega) x 0 0 0 rfl (by omega) (by decide) (by omega)
theorem impl_ParseInt_ev (s : List UInt8) : Ev (fun k => impl_ParseInt.f k (toB s)) (pI s) := by
  unfold pI
  refine Ev.u (fun k => by rw [impl_ParseInt.f]) ?_
  rw [toB_sz]
  cases s with
  | nil => exact Ev.e (by simp) (impl_ParseInt_j0 [] [])
  | cons b t =>
    obtain ⟨hb, -, -⟩ := bt_drop (s := toB (b :: t)) (i := 0) (b := b) (t := t) rfl
    rw [show ((0 : Nat) : Int) = 0 from rfl] at hb
    rw [List.length_cons]
    refine Ev.t (by omega) (Ev.t (by omega) ?_)
    rw [hb]
    refine Ev.i (fun c => Ev.t (by omega) ?_) (fun c => ?_)
    · have es : strip (b :: t) = t := by unfold strip; exact if_pos (by omega)
      rw [es, bs_extract]
      have e : (((bs (toB (b :: t))).drop (1 : Int).toNat).take (t.length + 1 - (1 : Int).toNat)) = t := by
        rw [bs_toB]; show t.take (t.length + 1 - 1) = t; rw [List.take_of_length_le (by omega)]
      rw [e]
      exact impl_ParseInt_j0 (b :: t) t
    · have es : strip (b :: t) = b :: t := by unfold strip; exact if_neg (by omega)
      rw [es]
      exact impl_ParseInt_j0 (b :: t) (b :: t)
/-- The digits' value and their number; what is no digit is passed over. -/
def scan (a c : Nat) : List UInt8 → Nat × Nat
  | [] => (a, c)
  | b :: t => if isDg b = true then scan (a * 10 + (b.toNat - 48)) (c + 1) t else scan a c t
def sgn (s : List UInt8) (a : Nat) : Int := match s with | [] => (a : Int) | b :: _ => if b.toNat = 45 then -(a : Int) else (a : Int)
def qF (s : List UInt8) (p : Nat × Nat) : Int × Bool := if p.2 > 9 then (0, false) else if s.length > 10 then (0, false) else fin s (sgn s p.1)
theorem spec_ParseInt_j1 (s : List UInt8) (v : Int) (c : Nat) (h0 : -1000000000000 ≤ v) (h1 : v ≤ 1000000000000) : Ev (fun k => spec_ParseInt.j1 k (toB s) v (c : Int)) (if c > 9 then (0, false) else if s.length > 10 then (0, false) else fin s v) := by
  refine Ev.s (fun k => by rw [spec_ParseInt.j1]) ?_
  rw [toB_sz]
  refine Ev.i (fun g => Ev.p.r ?_) (fun g => Ev.i (fun g2 => Ev.p.r ?_) (fun g2 => Ev.b (spec_FormatInt_ev v (by omega) (by omega)) (fin_ev.r ?_)))
  · rw [if_pos (by omega)]
  · rw [if_neg (by omega), if_pos (by omega)]
  · rw [if_neg (by omega), if_neg (by omega)]
theorem spec_ParseInt_j0 (s : List UInt8) (a c : Nat) (ha : a < 1000000000000) : Ev (fun k => spec_ParseInt.j0 k (toB s) (a : Int) (c : Int)) (qF s (a, c)) := by
  unfold qF sgn
  refine Ev.s (fun k => by rw [spec_ParseInt.j0]) ?_
  rw [toB_sz]
  cases s with
  | nil => exact Ev.e (by simp) (spec_ParseInt_j1 [] a c (by omega) (by omega))
  | cons b t =>
    obtain ⟨hb, -, -⟩ := bt_drop (s := toB (b :: t)) (i := 0) (b := b) (t := t) rfl
    rw [show ((0 : Nat) : Int) = 0 from rfl] at hb
    rw [List.length_cons]
    refine Ev.t (by omega) (Ev.t (by omega) ?_)
    rw [hb, w64 (x := -(a : Int)) (by omega) (by omega)]
    dsimp only
    refine Ev.i (fun g => ?_) (fun g => ?_)
    · rw [if_pos (show b.toNat = 45 by omega)]; exact spec_ParseInt_j1 (b :: t) _ c (by omega) (by omega)
    · rw [if_neg (show ¬ b.toNat = 45 by omega)]; exact spec_ParseInt_j1 (b :: t) _ c (by omega) (by omega)
theorem take_drop_cons {l : List UInt8} {n i : Nat} {b : UInt8} {t : List UInt8} (h : (l.take n).drop i = b :: t) : i < n ∧ ∃ u, l.drop i = b :: u ∧ (l.take n).drop (i + 1) = t := by
  obtain ⟨hi, hd, -, -⟩ := drop_cons' h
  rw [List.length_take] at hi
  refine ⟨by omega, (l.drop i).tail, ?_, hd⟩
  rw [List.drop_take] at h
  cases e : l.drop i with
  | nil => rw [e, List.take_nil] at h; cases h
  | cons x u =>
    rw [e] at h
    obtain ⟨m, hm⟩ : ∃ m, n - i = m + 1 := ⟨n - i - 1, by omega⟩
    rw [hm, List.take_succ_cons] at h
    injection h with h1 h2
    rw [h1]; rfl
theorem dgw' {a d : Nat} (ha : a < 1000000000000) (hd : d ≤ 9) : wrap64 (wrap64 ((a : Int) * 10) + IntKind.i64.wrap (IntKind.u8.wrap (((48 + d : Nat) : Int) - 48))) = ((a * 10 + d : Nat) : Int) := by rw [Int.mul_comm]; exact dgw ha hd
theorem spec_ParseInt_l0 (s : List UInt8) (hs : s.length ≤ 1000000000) : ∀ (t : List UInt8) (i c a : Nat), (s.take 11).drop i = t → i + t.length ≤ 11 → a < 10 ^ c → c ≤ i → Ev (fun k => spec_ParseInt.l0 k (toB s) (a : Int) (c : Int) (i : Int)) (qF s (scan a c t)) := by
  intro t
  induction t with
  | nil =>
    intro i c a hd hi ha hc
    have hb := pow_bd11 ha (Nat.le_trans hc hi)
    clear ha
    have hl := List.drop_eq_nil_iff.1 hd
    rw [List.length_take] at hl
    refine Ev.s (fun k => by rw [spec_ParseInt.l0]) ?_
    rw [toB_sz]
    exact Ev.i (fun g => Ev.e (by omega) (spec_ParseInt_j0 s a c (by omega))) (fun g => spec_ParseInt_j0 s a c (by omega))
  | cons b t ih =>
    intro i c a hd hi ha hc
    simp only [List.length_cons] at hi
    obtain ⟨h11, u, hu, hd'⟩ := take_drop_cons hd
    obtain ⟨hb, hi', -⟩ := bt_drop (s := toB s) (i := i) hu
    rw [toB_sz] at hi'
    have hl := pow_bd11 ha (by omega)
    have hst := fun (d : Nat) (hd : d ≤ 9) => pow_step (d := d) ha hd
    have wc : wrap64 ((c : Int) + 1) = ((c + 1 : Nat) : Int) := by clear ha; exact w64s (n := 12) (by omega) (by decide)
    have i1 := fun a' c' h1 h2 => ih (i + 1) c' a' hd' (by clear ha; omega) h1 h2
    have hc' : c ≤ i + 1 := by clear ha; omega
    have i2 := i1 a c ha hc'
    clear ha
    refine Ev.s (fun k => by rw [spec_ParseInt.l0]) ?_
    rw [toB_sz]
    refine Ev.t (by omega) (Ev.t (by omega) (Ev.t (by omega) ?_))
    rw [hb, wc, w64s hi' (by omega)]
    refine Ev.i (fun c1 => Ev.i (fun c2 => ?_) (fun c2 => ?_)) (fun c1 => ?_)
    · have e : isDg b = true := decide_eq_true (by omega)
      have g := dgw' (a := a) (d := b.toNat - 48) (by omega) (by omega)
      rw [show 48 + (b.toNat - 48) = b.toNat by omega] at g
      rw [g, show scan a c (b :: t) = scan (a * 10 + (b.toNat - 48)) (c + 1) t from if_pos e]
      exact i1 _ _ (hst _ (by omega)) (by omega)
    · have e : ¬ isDg b = true := by unfold isDg; rw [decide_eq_true_eq]; omega
      rw [show scan a c (b :: t) = scan a c t from if_neg e]
      exact i2
    · have e : ¬ isDg b = true := by unfold isDg; rw [decide_eq_true_eq]; omega
      rw [show scan a c (b :: t) = scan a c t from if_neg e]
      exact i2
def small (n : Int) : Prop := -1000000000 < n ∧ n < 1000000000
theorem scan_digs : ∀ (l : List UInt8) (a c : Nat), l.all isDg = true → scan a c l = (fold10 a l, c + l.length)
  | [], _, _, _ => rfl
  | b :: t, a, c, h => by
    rw [List.all_cons, Bool.and_eq_true] at h
    rw [show scan a c (b :: t) = scan (a * 10 + (b.toNat - 48)) (c + 1) t from if_pos h.1, scan_digs t _ _ h.2, List.length_cons, Nat.add_assoc, Nat.add_comm 1]
    rfl
theorem scan_bd : ∀ (l : List UInt8) (a c : Nat), a < 10 ^ c → (scan a c l).1 < 10 ^ (scan a c l).2
  | [], _, _, h => h
  | b :: t, a, c, h => by
    by_cases e : isDg b = true
    · rw [show scan a c (b :: t) = scan (a * 10 + (b.toNat - 48)) (c + 1) t from if_pos e]
      have hd : b.toNat - 48 ≤ 9 := by
        have := of_decide_eq_true e
        clear h
        omega
      exact scan_bd t _ _ (pow_step h hd)
    · rw [show scan a c (b :: t) = scan a c t from if_neg e]
      exact scan_bd t _ _ h
theorem dgl_9 (n : Nat) (h : n < 1000000000) : (1 ≤ (dgl n).length ∧ (dgl n).length ≤ 9) ∧ (dgl n).all isDg = true ∧ fold10 0 (dgl n) = n := by
  have h' : n < 10 ^ (8 + 1) := by rw [show 10 ^ (8 + 1) = 1000000000 from by decide]; exact h
  have := dgl_len 8 n h'
  exact ⟨by omega, dgl_dg 8 n h'⟩
theorem fin_fmt (n : Int) : fin (fI n) n = (n, true) := if_pos rfl
theorem fin_true {s : List UInt8} {v : Int} (h : (fin s v).2 = true) : s = fI v ∧ fin s v = (v, true) := by
  unfold fin at h ⊢
  by_cases c : fI v = s
  · rw [if_pos c]; exact ⟨c.symm, rfl⟩
  · rw [if_neg c] at h; cases h
theorem fin_false {s : List UInt8} {v : Int} (h : ¬ (fin s v).2 = true) : fin s v = (0, false) := by
  unfold fin at h ⊢
  by_cases c : fI v = s
  · rw [if_pos c] at h; exact absurd rfl h
  · rw [if_neg c]
theorem fI_neg {n : Int} (h : n < 0) : fI n = (45 : UInt8) :: dgl (-n).toNat := by unfold fI; rw [if_pos h]
theorem fI_pos {n : Int} (h : ¬ n < 0) : fI n = dgl n.toNat := by unfold fI; rw [if_neg h]
theorem dgl_head {n : Nat} (h : n < 1000000000) : ∃ b t, dgl n = b :: t ∧ b.toNat ≠ 45 := by
  obtain ⟨h1, h2, h3⟩ := dgl_9 n h
  cases e : dgl n with
  | nil => rw [e] at h1; simp at h1
  | cons b t =>
    rw [e, List.all_cons, Bool.and_eq_true] at h2
    have := of_decide_eq_true h2.1
    exact ⟨b, t, rfl, by omega⟩
theorem strip_neg {n : Int} (h : n < 0) : strip (fI n) = dgl (-n).toNat := by rw [fI_neg h]; rfl
theorem strip_pos {n : Int} (h : ¬ n < 0) (hs : small n) : strip (fI n) = fI n := by
  rw [fI_pos h]
  obtain ⟨b, t, e, hb⟩ := dgl_head (n := n.toNat) (by have := hs.2; omega)
  rw [e]; unfold strip; exact if_neg hb
theorem sgn_pos {n : Int} (h : ¬ n < 0) (hs : small n) (a : Nat) : sgn (fI n) a = a := by
  rw [fI_pos h]
  obtain ⟨b, t, e, hb⟩ := dgl_head (n := n.toNat) (by have := hs.2; omega)
  rw [e]; unfold sgn; exact if_neg hb
theorem pI_fmt (n : Int) (hs : small n) : pI (fI n) = (n, true) := by
  have hs' := hs
  obtain ⟨h1, h2⟩ := hs
  unfold pI
  by_cases h : n < 0
  · obtain ⟨d0, d1, d2⟩ := dgl_9 (-n).toNat (by omega)
    have e := congrArg List.length (fI_neg h)
    rw [List.length_cons] at e
    rw [strip_neg h, if_neg (by omega), if_pos d1, d2]
    unfold finI
    rw [if_pos (by omega), show -(((-n).toNat : Nat) : Int) = n by omega, fin_fmt]
  · obtain ⟨d0, d1, d2⟩ := dgl_9 n.toNat (by omega)
    rw [strip_pos h hs', fI_pos h, if_neg (by omega), if_pos d1, d2, ← fI_pos h]
    unfold finI
    rw [if_neg (by omega), show ((n.toNat : Nat) : Int) = n by omega, fin_fmt]
theorem qF_fmt (n : Int) (hs : small n) : qF (fI n) (scan 0 0 ((fI n).take 11)) = (n, true) := by
  have hs' := hs
  obtain ⟨h1, h2⟩ := hs
  by_cases h : n < 0
  · obtain ⟨d0, d1, d2⟩ := dgl_9 (-n).toNat (by omega)
    have e := congrArg List.length (fI_neg h)
    rw [List.length_cons] at e
    rw [List.take_of_length_le (by omega)]
    have e2 : scan 0 0 (fI n) = (((-n).toNat, (dgl (-n).toNat).length) : Nat × Nat) := by
      rw [fI_neg h, show scan 0 0 ((45 : UInt8) :: dgl (-n).toNat) = scan 0 0 (dgl (-n).toNat) from if_neg (by decide), scan_digs _ _ _ d1, d2, Nat.zero_add]
    rw [e2]
    unfold qF
    dsimp only
    rw [if_neg (by omega), if_neg (by omega)]
    have e3 : sgn (fI n) (-n).toNat = n := by
      rw [fI_neg h, show sgn ((45 : UInt8) :: dgl (-n).toNat) (-n).toNat = -(((-n).toNat : Nat) : Int) by unfold sgn; exact if_pos rfl]; omega
    rw [e3, fin_fmt]
  · obtain ⟨d0, d1, d2⟩ := dgl_9 n.toNat (by omega)
    rw [← fI_pos h] at d0 d1 d2
    rw [List.take_of_length_le (by omega), scan_digs _ _ _ d1, d2]
    unfold qF
    dsimp only
    rw [if_neg (by omega), if_neg (by omega), sgn_pos h hs', show ((n.toNat : Nat) : Int) = n by omega, fin_fmt]
theorem pI_true {s : List UInt8} (h : (pI s).2 = true) : ∃ n, small n ∧ s = fI n := by
  unfold pI at h
  by_cases c1 : (strip s).length < 1 ∨ 9 < (strip s).length
  · rw [if_pos c1] at h; cases h
  · rw [if_neg c1] at h
    by_cases c2 : (strip s).all isDg = true
    · rw [if_pos c2] at h
      have hb := fold10_bd (strip s) 0 0 c2 (by decide)
      rw [Nat.zero_add] at hb
      have hb' : fold10 0 (strip s) < 1000000000 := pow_bd hb (by omega)
      clear hb
      unfold finI at h
      split at h
      · exact ⟨_, ⟨by omega, by omega⟩, (fin_true h).1⟩
      · exact ⟨_, ⟨by omega, by omega⟩, (fin_true h).1⟩
    · rw [if_neg c2] at h; cases h
theorem pI_false {s : List UInt8} (h : ¬ (pI s).2 = true) : pI s = (0, false) := by
  unfold pI at h ⊢
  by_cases c1 : (strip s).length < 1 ∨ 9 < (strip s).length
  · rw [if_pos c1]
  · rw [if_neg c1] at h ⊢
    by_cases c2 : (strip s).all isDg = true
    · rw [if_pos c2] at h ⊢
      unfold finI at h ⊢
      split at h
      · rename_i g; rw [if_pos g]; exact fin_false h
      · rename_i g; rw [if_neg g]; exact fin_false h
    · rw [if_neg c2]
theorem qF_true {s : List UInt8} {p : Nat × Nat} (hp : p.1 < 10 ^ p.2) (h : (qF s p).2 = true) : ∃ n, small n ∧ s = fI n := by
  unfold qF at h
  by_cases c1 : p.2 > 9
  · rw [if_pos c1] at h; cases h
  · rw [if_neg c1] at h
    have hb : p.1 < 1000000000 := pow_bd hp (Nat.not_lt.1 c1)
    clear hp
    by_cases c2 : s.length > 10
    · rw [if_pos c2] at h; cases h
    · rw [if_neg c2] at h
      refine ⟨_, ?_, (fin_true h).1⟩
      unfold sgn small
      split
      · omega
      · split <;> omega
theorem qF_false {s : List UInt8} {p : Nat × Nat} (h : ¬ (qF s p).2 = true) : qF s p = (0, false) := by
  unfold qF at h ⊢
  by_cases c1 : p.2 > 9
  · rw [if_pos c1]
  · rw [if_neg c1] at h ⊢
    by_cases c2 : s.length > 10
    · rw [if_pos c2]
    · rw [if_neg c2] at h ⊢
      exact fin_false h
theorem pI_qF (s : List UInt8) : qF s (scan 0 0 (s.take 11)) = pI s := by
  by_cases h : (pI s).2 = true
  · obtain ⟨n, hn, rfl⟩ := pI_true h
    rw [qF_fmt n hn, pI_fmt n hn]
  · rw [pI_false h]
    apply qF_false
    intro g
    obtain ⟨n, hn, rfl⟩ := qF_true (scan_bd _ 0 0 (by decide)) g
    exact h (by rw [pI_fmt n hn])
theorem spec_ParseInt_ev (s : List UInt8) (hs : s.length ≤ 1000000000) : Ev (fun k => spec_ParseInt.f k (toB s)) (pI s) := by
  have hl : (s.take 11).length ≤ 11 := by rw [List.length_take]; omega
  exact Ev.u (fun _ => rfl) ((spec_ParseInt_l0 s hs (s.take 11) 0 0 0 rfl (by omega) (by decide) (Nat.le_refl 0)).r (pI_qF s))
theorem pI_some {s : List UInt8} (h : (pI s).2 = true) : small (pI s).1 ∧ s = fI (pI s).1 := by
  obtain ⟨n, hn, rfl⟩ := pI_true h
  rw [pI_fmt n hn]
  exact ⟨hn, rfl⟩

def ctG (c : UInt8) (cur : List UInt8) : List UInt8 → List (List UInt8)
  | [] => [cur]
  | b :: t => if b = c then cur :: ctG c [] t else ctG c (cur ++ [b]) t
def ctS (c : UInt8) (s : List UInt8) : List (List UInt8) := ctG c [] s
def jnL (c : UInt8) : List (List UInt8) → List UInt8
  | [] => []
  | x :: t => x ++ t.flatMap fun y => c :: y
theorem jnL_cons (c : UInt8) (x : List UInt8) (t : List (List UInt8)) : jnL c (x :: t) = x ++ t.flatMap fun y => c :: y := rfl
theorem ctG_ne (c : UInt8) : ∀ (l cur : List UInt8), ∃ x t, ctG c cur l = x :: t
  | [], cur => ⟨cur, [], rfl⟩
  | b :: l, cur => by
    unfold ctG
    by_cases h : b = c
    · rw [if_pos h]; exact ⟨_, _, rfl⟩
    · rw [if_neg h]; exact ctG_ne c l _
theorem ctG_len (c : UInt8) : ∀ (l cur : List UInt8), (ctG c cur l).length ≤ l.length + 1
  | [], cur => by simp [ctG]
  | b :: l, cur => by
    unfold ctG
    by_cases h : b = c
    · rw [if_pos h, List.length_cons, List.length_cons]; have := ctG_len c l []; omega
    · rw [if_neg h, List.length_cons]; have := ctG_len c l (cur ++ [b]); omega
theorem ctG_mem (c : UInt8) : ∀ (l cur : List UInt8), ∀ x ∈ ctG c cur l, x.length ≤ cur.length + l.length
  | [], cur, x, h => by rw [List.mem_singleton.1 h]; simp
  | b :: l, cur, x, h => by
    unfold ctG at h
    by_cases e : b = c
    · rw [if_pos e] at h
      rcases List.mem_cons.1 h with h | h
      · rw [h]; simp
      · have := ctG_mem c l [] x h; rw [List.length_cons]; simp at this; omega
    · rw [if_neg e] at h
      have := ctG_mem c l _ x h
      rw [List.length_append, List.length_singleton] at this; rw [List.length_cons]; omega
theorem ctS_len (c : UInt8) (s : List UInt8) : (ctS c s).length ≤ s.length + 1 := ctG_len c s []
theorem ctS_mem {c : UInt8} {s x : List UInt8} (h : x ∈ ctS c s) : x.length ≤ s.length := by have := ctG_mem c s [] x h; simpa using this
theorem jn_ct (c : UInt8) : ∀ (l cur : List UInt8), jnL c (ctG c cur l) = cur ++ l
  | [], cur => by simp [ctG, jnL]
  | b :: t, cur => by
    unfold ctG
    by_cases g : b = c
    · rw [if_pos g]
      have ih := jn_ct c t []
      obtain ⟨x, u, e⟩ := ctG_ne c t []
      rw [e] at ih ⊢
      rw [List.nil_append] at ih
      rw [← ih, g]
      simp [jnL]
    · rw [if_neg g, jn_ct c t, List.append_assoc]; rfl
theorem jn_ctS (c : UInt8) (s : List UInt8) : jnL c (ctS c s) = s := jn_ct c s []
theorem ct_end (c : UInt8) : ∀ (l cur : List UInt8), (∀ b ∈ l, b ≠ c) → ctG c cur l = [cur ++ l]
  | [], cur, _ => by simp [ctG]
  | b :: t, cur, h => by
    unfold ctG
    rw [if_neg (h b (List.mem_cons_self ..)), ct_end c t _ (fun x hx => h x (List.mem_cons_of_mem _ hx)), List.append_assoc]; rfl
theorem ct_sep (c : UInt8) : ∀ (l cur m : List UInt8), (∀ b ∈ l, b ≠ c) → ctG c cur (l ++ c :: m) = (cur ++ l) :: ctG c [] m
  | [], cur, m, _ => by rw [List.nil_append, ctG, if_pos rfl, List.append_nil]
  | b :: t, cur, m, h => by
    rw [List.cons_append, ctG, if_neg (h b (List.mem_cons_self ..)), ct_sep c t _ m (fun x hx => h x (List.mem_cons_of_mem _ hx)), List.append_assoc]; rfl
theorem ct_jn (c : UInt8) : ∀ (t : List (List UInt8)) (x : List UInt8), (∀ y ∈ x :: t, ∀ b ∈ y, b ≠ c) → ctS c (jnL c (x :: t)) = x :: t
  | [], x, h => by
    unfold ctS
    rw [jnL_cons, List.flatMap_nil, List.append_nil, ct_end c x [] (h x (List.mem_cons_self ..))]; rfl
  | y :: t, x, h => by
    have ih := ct_jn c t y (fun z hz => h z (List.mem_cons_of_mem _ hz))
    unfold ctS at *
    rw [jnL_cons] at ih ⊢
    rw [List.flatMap_cons, List.cons_append, ct_sep c x [] _ (h x (List.mem_cons_self ..)), ih]; rfl
theorem u8_iff {a c : UInt8} {n : Int} (hn : (c.toNat : Int) = n) : (a.toNat : Int) = n ↔ a = c := by
  rw [← hn]
  exact ⟨fun h => UInt8.toNat_inj.1 (by omega), fun h => by rw [h]⟩
theorem take_snoc {s : List UInt8} {f i : Nat} {b : UInt8} {t : List UInt8} (h : s.drop i = b :: t) (hf : f ≤ i) : (s.drop f).take (i + 1 - f) = (s.drop f).take (i - f) ++ [b] := by
  rw [show i + 1 - f = (i - f) + 1 by omega, List.take_add_one]
  congr 1
  rw [List.getElem?_drop, show f + (i - f) = i by omega]
  have : s[i]? = some b := by rw [← List.head?_drop, h]; rfl
  rw [this]; rfl
theorem spec_l2Cut_l0 (s : List UInt8) (hs : s.length ≤ 1000000000) (c : UInt8) (n : Int) (hn : (c.toNat : Int) = n) : ∀ (t : List UInt8) (i f : Nat) (A : List (List UInt8)), s.drop i = t → i + t.length = s.length → f ≤ i → A.length ≤ i → Ev (fun k => spec_l2Cut.l0 k (toB s) n (A.map toB) (f : Int) (i : Int)) ((A ++ ctG c ((s.drop f).take (i - f)) t).map toB) := by
  intro t
  induction t with
  | nil =>
    intro i f A hd hi hf hA
    rw [List.length_nil] at hi
    refine Ev.s (fun k => by rw [spec_l2Cut.l0]) ?_
    rw [toB_sz]
    refine Ev.e (by omega) (Ev.t (by omega) (Ev.t (by omega) (Ev.t (by rw [List.length_map]; omega) (Ev.p.r ?_))))
    rw [bs_extract, bs_toB, Int.toNat_natCast, ← show i = s.length by omega]
    simp [ctG]
  | cons b t ih =>
    intro i f A hd hi hf hA
    rw [List.length_cons] at hi
    obtain ⟨hb, hi', hd'⟩ := bt_drop (s := toB s) (i := i) hd
    rw [bs_toB] at hd'
    refine Ev.s (fun k => by rw [spec_l2Cut.l0]) ?_
    rw [toB_sz, hb, w64s (n := s.length) (by omega) (by omega)]
    refine Ev.t (by omega) (Ev.t (by omega) (Ev.i (fun g => ?_) (fun g => ?_)))
    · refine Ev.t (by omega) (Ev.t (by omega) (Ev.t (by omega) (Ev.t (by rw [List.length_map]; omega) ?_)))
      have e := (u8_iff hn).1 g
      have h := ih (i + 1) (i + 1) (A ++ [(s.drop f).take (i - f)]) hd' (by omega) (Nat.le_refl _) (by simp; omega)
      rw [bs_extract, bs_toB, Int.toNat_natCast, Int.toNat_natCast]
      rw [List.map_append] at h
      refine h.r ?_
      unfold ctG
      rw [if_pos e, Nat.sub_self, List.take_zero, List.append_assoc]
      cases t <;> rfl
    · have e : ¬ b = c := fun h => g ((u8_iff hn).2 h)
      have h := ih (i + 1) f A hd' (by omega) (by omega) (by omega)
      rw [take_snoc hd hf] at h
      refine h.r ?_
      conv => rhs; unfold ctG
      rw [if_neg e]
theorem spec_l2Cut_ev (s : List UInt8) (hs : s.length ≤ 1000000000) (c : UInt8) (n : Int) (hn : (c.toNat : Int) = n) : Ev (fun k => spec_l2Cut.f k (toB s) n) ((ctS c s).map toB) :=
  Ev.u (fun _ => rfl) ((spec_l2Cut_l0 s hs c n hn s 0 0 [] rfl (by omega) (Nat.le_refl _) (by simp)).r (by simp [ctS]))
theorem impl_cut_l0 (s : List UInt8) (hs : s.length ≤ 1000000000) (c : UInt8) (n : Int) (hn : (c.toNat : Int) = n) : ∀ (t : List UInt8) (i f : Nat) (A : List (List UInt8)), s.drop i = t → i + t.length = s.length → f ≤ i → A.length ≤ i → Ev (fun k => impl_cut.l0 k (toB s) n (A.map toB) (f : Int) (s.length : Int) (i : Int)) ((A ++ ctG c ((s.drop f).take (i - f)) t).map toB) := by
  intro t
  induction t with
  | nil =>
    intro i f A hd hi hf hA
    rw [List.length_nil] at hi
    refine Ev.s (fun k => by rw [impl_cut.l0]) ?_
    rw [toB_sz]
    refine Ev.e (by omega) (Ev.t (by omega) (Ev.t (by omega) (Ev.t (by rw [List.length_map]; omega) (Ev.p.r ?_))))
    rw [bs_extract, bs_toB, Int.toNat_natCast, ← show i = s.length by omega]
    simp [ctG]
  | cons b t ih =>
    intro i f A hd hi hf hA
    rw [List.length_cons] at hi
    obtain ⟨hb, hi', hd'⟩ := bt_drop (s := toB s) (i := i) hd
    rw [bs_toB] at hd'
    refine Ev.s (fun k => by rw [impl_cut.l0]) ?_
    rw [toB_sz, hb, w64s (n := s.length) (by omega) (by omega)]
    refine Ev.t (by omega) (Ev.t (by omega) (Ev.t (by omega) (Ev.i (fun g => ?_) (fun g => ?_))))
    · refine Ev.t (by omega) (Ev.t (by omega) (Ev.t (by omega) (Ev.t (by rw [List.length_map]; omega) ?_)))
      have e := (u8_iff hn).1 g
      have h := ih (i + 1) (i + 1) (A ++ [(s.drop f).take (i - f)]) hd' (by omega) (Nat.le_refl _) (by simp; omega)
      rw [bs_extract, bs_toB, Int.toNat_natCast, Int.toNat_natCast]
      rw [List.map_append] at h
      refine h.r ?_
      unfold ctG
      rw [if_pos e, Nat.sub_self, List.take_zero, List.append_assoc]
      cases t <;> rfl
    · have e : ¬ b = c := fun h => g ((u8_iff hn).2 h)
      have h := ih (i + 1) f A hd' (by omega) (by omega) (by omega)
      rw [take_snoc hd hf] at h
      refine h.r ?_
      conv => rhs; unfold ctG
      rw [if_neg e]
theorem impl_cut_ev (s : List UInt8) (hs : s.length ≤ 1000000000) (c : UInt8) (n : Int) (hn : (c.toNat : Int) = n) : Ev (fun k => impl_cut.f k (toB s) n) ((ctS c s).map toB) :=
  Ev.u (fun _ => rfl) ((impl_cut_l0 s hs c n hn s 0 0 [] rfl (by omega) (Nat.le_refl _) (by simp)).r (by simp [ctS]))
/-! joins -/
theorem rdS (l : List (List UInt8)) (i : Nat) : rdOf ByteArray.empty (l.map toB) (i : Int) = toB (l.getD i []) := by
  show (l.map toB).getD (i : Int).toNat ByteArray.empty = _
  rw [Int.toNat_natCast, List.getD_eq_getElem?_getD, List.getD_eq_getElem?_getD, List.getElem?_map]
  cases l[i]? <;> rfl
def tot (L : List (List UInt8)) : Nat := (L.map fun x => x.length + 1).sum
theorem tot_cons (x : List UInt8) (L : List (List UInt8)) : tot (x :: L) = x.length + 1 + tot L := by simp [tot]
theorem fmL_len (c : UInt8) : ∀ L : List (List UInt8), (L.flatMap fun y => c :: y).length = tot L
  | [] => rfl
  | x :: L => by rw [List.flatMap_cons, List.length_append, fmL_len c L, tot_cons, List.length_cons]
theorem jnL_len (c : UInt8) : ∀ L : List (List UInt8), (jnL c L).length ≤ tot L
  | [] => Nat.zero_le _
  | x :: L => by rw [jnL, List.length_append, fmL_len, tot_cons]; omega
def vR (x : S124) : Bool := vRow x.f0 x.f1 x.f2
theorem vR_b {x : S124} (h : vR x = true) : (0 ≤ x.f0 ∧ x.f0 ≤ 9) ∧ (0 ≤ x.f1 ∧ x.f1 ≤ 99) ∧ (0 ≤ x.f2 ∧ x.f2 ≤ 3) := by
  simp [vR, vRow, inB] at h; omega
def fR (x : S124) : List UInt8 := if vR x = true then jnL 46 [fI x.f0, fI x.f1, fI x.f2] else []
theorem fR_len (x : S124) : (fR x).length ≤ 66 := by
  unfold fR
  split
  · rename_i h
    obtain ⟨h0, h1, h2⟩ := vR_b h
    have a := fI_len x.f0 (by omega) (by omega)
    have b := fI_len x.f1 (by omega) (by omega)
    have c := fI_len x.f2 (by omega) (by omega)
    have := jnL_len 46 [fI x.f0, fI x.f1, fI x.f2]
    rw [tot_cons, tot_cons, tot_cons, show tot [] = 0 from rfl] at this
    omega
  · simp
theorem fR_parts (x : S124) : jnL 46 [fI x.f0, fI x.f1, fI x.f2] = fI x.f0 ++ [46] ++ fI x.f1 ++ [46] ++ fI x.f2 := by simp [jnL]
theorem spec_FormatRow_ev (x : S124) : Ev (fun k => spec_FormatRow.f k x.f0 x.f1 x.f2) (toB (fR x)) := by
  unfold fR
  refine Ev.u (fun _ => rfl) (Ev.b (Ev.c (spec_IsValidRow_eq ..)) (Ev.i (fun h => ?_) (fun h => Ev.p.r ?_)))
  · obtain ⟨h0, h1, h2⟩ := vR_b (x := x) h
    have a := fI_len x.f0 (by omega) (by omega)
    have b := fI_len x.f1 (by omega) (by omega)
    have c := fI_len x.f2 (by omega) (by omega)
    have e0 := spec_FormatInt_ev x.f0 (by omega) (by omega)
    have e1 := spec_FormatInt_ev x.f1 (by omega) (by omega)
    have e2 := spec_FormatInt_ev x.f2 (by omega) (by omega)
    rw [if_pos (show vR x = true from h), fR_parts]
    refine Ev.b e0 (Ev.t ?_ (Ev.b e1 (Ev.t ?_ (Ev.t ?_ (Ev.b e2 (Ev.t ?_ (Ev.p.r ?_)))))))
    · show (fI x.f0).length + 1 ≤ _; omega
    · show ((toB (fI x.f0) ++ toB [46]).size + (toB (fI x.f1)).size ≤ _); simp only [toB_app, toB_sz, List.length_append, List.length_singleton]; omega
    · show ((toB (fI x.f0) ++ toB [46] ++ toB (fI x.f1)).size + (toB [46]).size ≤ _); simp only [toB_app, toB_sz, List.length_append, List.length_singleton]; omega
    · show ((toB (fI x.f0) ++ toB [46] ++ toB (fI x.f1) ++ toB [46]).size + (toB (fI x.f2)).size ≤ _); simp only [toB_app, toB_sz, List.length_append, List.length_singleton]; omega
    · show toB (fI x.f0) ++ toB [46] ++ toB (fI x.f1) ++ toB [46] ++ toB (fI x.f2) = _; simp only [toB_app]
  · rw [if_neg (show ¬ vR x = true from h)]; rfl
/-- Bytes of numbers: digits and the sign. -/
def nmB (b : UInt8) : Prop := b.toNat = 45 ∨ (48 ≤ b.toNat ∧ b.toNat ≤ 57)
theorem fI_nm {n : Int} (hs : small n) : ∀ b ∈ fI n, nmB b := by
  have hd : ∀ m : Nat, m < 1000000000 → ∀ b ∈ dgl m, nmB b := by
    intro m hm b hb
    exact .inr (of_decide_eq_true (List.all_eq_true.1 (dgl_9 m hm).2.1 b hb))
  obtain ⟨h1, h2⟩ := hs
  by_cases h : n < 0
  · rw [fI_neg h]
    intro b hb
    rcases List.mem_cons.1 hb with rfl | hb
    · exact .inl rfl
    · exact hd _ (by omega) b hb
  · rw [fI_pos h]
    exact hd _ (by omega)
theorem fI_ne {n : Int} : fI n ≠ [] := by
  unfold fI
  split
  · simp
  · rw [dgl]; split <;> simp
theorem nm_ne {b c : UInt8} (h : nmB b) (hc : c.toNat ≠ 45) (hd : ¬ (48 ≤ c.toNat ∧ c.toNat ≤ 57)) : b ≠ c := by
  intro e; rw [e] at h; rcases h with h | h
  · exact hc h
  · exact hd h
def pR (s : List UInt8) : S124 × Bool :=
  match ctS 46 s with
  | [a, b, c] => if (pI a).2 = true ∧ (pI b).2 = true ∧ (pI c).2 = true ∧ vR ⟨(pI a).1, (pI b).1, (pI c).1⟩ = true then (⟨(pI a).1, (pI b).1, (pI c).1⟩, true) else (⟨0, 0, 0⟩, false)
  | _ => (⟨0, 0, 0⟩, false)
theorem ct_fR {x : S124} (h : vR x = true) : ctS 46 (fR x) = [fI x.f0, fI x.f1, fI x.f2] := by
  obtain ⟨h0, h1, h2⟩ := vR_b h
  have n0 := fI_nm (n := x.f0) ⟨by omega, by omega⟩
  have n1 := fI_nm (n := x.f1) ⟨by omega, by omega⟩
  have n2 := fI_nm (n := x.f2) ⟨by omega, by omega⟩
  unfold fR; rw [if_pos h]
  refine ct_jn 46 _ _ fun y hy b hb => ?_
  have hn : nmB b := by
    simp only [List.mem_cons, List.not_mem_nil, or_false] at hy
    rcases hy with rfl | rfl | rfl
    · exact n0 b hb
    · exact n1 b hb
    · exact n2 b hb
  exact nm_ne hn (by decide) (by decide)
theorem pR_fR {x : S124} (h : vR x = true) : pR (fR x) = (x, true) := by
  obtain ⟨h0, h1, h2⟩ := vR_b h
  unfold pR
  rw [ct_fR h]
  dsimp only
  rw [pI_fmt x.f0 ⟨by omega, by omega⟩, pI_fmt x.f1 ⟨by omega, by omega⟩, pI_fmt x.f2 ⟨by omega, by omega⟩]
  exact if_pos ⟨rfl, rfl, rfl, h⟩
theorem fR_cut {s a b c : List UInt8} (h : ctS 46 s = [a, b, c]) : fR ⟨(pI a).1, (pI b).1, (pI c).1⟩ = s ↔ ((pI a).2 = true ∧ (pI b).2 = true ∧ (pI c).2 = true ∧ vR ⟨(pI a).1, (pI b).1, (pI c).1⟩ = true) := by
  constructor
  · intro e
    by_cases v : vR ⟨(pI a).1, (pI b).1, (pI c).1⟩ = true
    · have h' := ct_fR v
      rw [e, h] at h'
      injection h' with e0 h'
      injection h' with e1 h'
      injection h' with e2 _
      obtain ⟨v0, v1, v2⟩ := vR_b v
      dsimp only at v0 v1 v2 e0 e1 e2
      have p0 := pI_fmt (pI a).1 ⟨by omega, by omega⟩
      have p1 := pI_fmt (pI b).1 ⟨by omega, by omega⟩
      have p2 := pI_fmt (pI c).1 ⟨by omega, by omega⟩
      rw [← e0] at p0
      rw [← e1] at p1
      rw [← e2] at p2
      exact ⟨by rw [p0], by rw [p1], by rw [p2], v⟩
    · unfold fR at e
      rw [if_neg v] at e
      rw [← e] at h
      simp [ctS, ctG] at h
  · rintro ⟨h0, h1, h2, v⟩
    have f0 := (pI_some h0).2
    have f1 := (pI_some h1).2
    have f2 := (pI_some h2).2
    have hj := jn_ctS 46 s
    rw [h] at hj
    unfold fR
    rw [if_pos v]
    dsimp only
    rw [← f0, ← f1, ← f2]
    exact hj
theorem pR_some {s : List UInt8} (h : (pR s).2 = true) : vR (pR s).1 = true ∧ fR (pR s).1 = s := by
  unfold pR at h ⊢
  split at h
  · rename_i a b c e
    by_cases g : (pI a).2 = true ∧ (pI b).2 = true ∧ (pI c).2 = true ∧ vR ⟨(pI a).1, (pI b).1, (pI c).1⟩ = true
    · rw [if_pos g]; exact ⟨g.2.2.2, (fR_cut e).2 g⟩
    · rw [if_neg g] at h; cases h
  · cases h
abbrev rtp (r : S124 × Bool) : Int × Int × Int × Bool := (r.1.f0, r.1.f1, r.1.f2, r.2)
theorem spec_ParseRow_ev (s : List UInt8) (hs : s.length ≤ 1000000000) : Ev (fun k => spec_ParseRow.f k (toB s)) (rtp (pR s)) := by
  have ec := spec_l2Cut_ev s hs 46 46 rfl
  have hm := fun x => ctS_mem (c := 46) (s := s) (x := x)
  unfold pR
  refine Ev.u (fun _ => rfl) (Ev.b ec ?_)
  rw [List.length_map]
  cases h : ctS 46 s with
  | nil => exact Ev.e (by simp) Ev.p
  | cons a l =>
    cases l with
    | nil => exact Ev.e (by simp) Ev.p
    | cons b l =>
      cases l with
      | nil => exact Ev.e (by simp) Ev.p
      | cons c l =>
        cases l with
        | cons d l => exact Ev.e (by simp only [List.length_cons]; omega) Ev.p
        | nil =>
          rw [h] at hm
          have za := hm a (by simp)
          have zb := hm b (by simp)
          have zc := hm c (by simp)
          refine Ev.t rfl (Ev.t (by simp) ?_)
          rw [show rdOf ByteArray.empty ([a, b, c].map toB) 0 = toB a from rfl, show rdOf ByteArray.empty ([a, b, c].map toB) 1 = toB b from rfl, show rdOf ByteArray.empty ([a, b, c].map toB) 2 = toB c from rfl]
          refine Ev.b (spec_ParseInt_ev a (by omega)) (Ev.t (by simp) (Ev.b (spec_ParseInt_ev b (by omega)) (Ev.t (by simp) (Ev.b (spec_ParseInt_ev c (by omega)) ?_))))
          have fr := spec_FormatRow_ev ⟨(pI a).1, (pI b).1, (pI c).1⟩
          refine Ev.b fr (Ev.i (fun g => Ev.p.r ?_) (fun g => Ev.p.r ?_))
          · dsimp only; rw [if_pos ((fR_cut h).1 (toB_inj ((toL_iff _ _).1 g)))]
          · dsimp only; rw [if_neg (fun q => g (by rw [(fR_cut h).2 q]))]
theorem impl_ParseRow_ev (s : List UInt8) (hs : s.length ≤ 1000000000) : Ev (fun k => impl_ParseRow.f k (toB s)) (rtp (pR s)) := by
  have ec := impl_cut_ev s hs 46 46 rfl
  unfold pR
  refine Ev.u (fun _ => rfl) (Ev.b ec ?_)
  rw [List.length_map]
  cases h : ctS 46 s with
  | nil => exact Ev.e (by simp) Ev.p
  | cons a l =>
    cases l with
    | nil => exact Ev.e (by simp) Ev.p
    | cons b l =>
      cases l with
      | nil => exact Ev.e (by simp) Ev.p
      | cons c l =>
        cases l with
        | cons d l => exact Ev.e (by simp only [List.length_cons]; omega) Ev.p
        | nil =>
          refine Ev.t rfl (Ev.t (by simp) ?_)
          rw [show rdOf ByteArray.empty ([a, b, c].map toB) 0 = toB a from rfl, show rdOf ByteArray.empty ([a, b, c].map toB) 1 = toB b from rfl, show rdOf ByteArray.empty ([a, b, c].map toB) 2 = toB c from rfl]
          refine Ev.b (impl_ParseInt_ev a) (Ev.t (by simp) (Ev.b (impl_ParseInt_ev b) (Ev.t (by simp) (Ev.b (impl_ParseInt_ev c) ?_))))
          refine Ev.i (fun q0 => Ev.i (fun q1 => Ev.i (fun q2 => Ev.b (Ev.c (impl_IsValidRow_eq ..)) (Ev.i (fun q3 => Ev.p.r ?_) (fun q3 => Ev.p.r ?_))) (fun q2 => Ev.p.r ?_)) (fun q1 => Ev.p.r ?_)) (fun q0 => Ev.p.r ?_)
          · dsimp only; rw [if_pos ⟨q0, q1, q2, q3⟩]
          · dsimp only; rw [if_neg (fun g => q3 g.2.2.2)]
          · dsimp only; rw [if_neg (fun g => q2 g.2.2.1)]
          · dsimp only; rw [if_neg (fun g => q1 g.2.1)]
          · dsimp only; rw [if_neg (fun g => q0 g.1)]

def fRs (l : List S124) : List UInt8 := if vRows l = true then jnL 32 (l.map fR) else []
theorem tot_fR : ∀ l : List S124, tot (l.map fR) ≤ 67 * l.length
  | [] => by simp [tot]
  | x :: l => by rw [List.map_cons, tot_cons, List.length_cons]; have := fR_len x; have := tot_fR l; omega
theorem fRs_len (l : List S124) : (fRs l).length ≤ 1608 := by
  unfold fRs
  split
  · rename_i h
    have := jnL_len 32 (l.map fR); have := tot_fR l; have := vRows_len h; omega
  · simp
theorem spec_FormatRows_ev (l : List S124) (hl : l.length ≤ 1073741824) : Ev (fun k => spec_FormatRows.f k l) (toB (fRs l)) := by
  have hv := spec_AreValidRows_ev l (by omega)
  unfold fRs
  refine Ev.u (fun k => by rw [spec_FormatRows.f]) ?_
  by_cases h : vRows l = true
  · have h24 := vRows_len h
    rw [h] at hv
    rw [if_pos h]
    have J : ∀ (x : S124) (i : Nat) (acc : List UInt8) (r : ByteArray) (b : Bool), i < l.length → (∀ d, l.getD i d = x) → acc.length ≤ 1000000 → Ev (fun k => spec_FormatRows.l0 k (toB (acc ++ fR x)) ((i + 1 : Nat) : Int) l) r → Ev (fun k => spec_FormatRows.j0 k (toB acc) (i : Int) b l) r := by
      intro x i acc r b hi hx ha h
      have hf := fR_len x
      refine Ev.s (fun k => by rw [spec_FormatRows.j0]) (Ev.t (by omega) (Ev.t (by omega) ?_))
      rw [rdR, hx, w64s hi (by omega)]
      refine Ev.b (spec_FormatRow_ev x) ?_
      rw [toB_app, toB_sz, toB_sz]
      exact Ev.t (by omega) h
    have L : ∀ (s : List S124) (i : Nat) (acc : List UInt8), l.drop i = s → 0 < i → acc.length + 67 * s.length ≤ 900000 → Ev (fun k => spec_FormatRows.l0 k (toB acc) (i : Int) l) (toB (acc ++ (s.map fR).flatMap fun y => 32 :: y)) := by
      intro s
      induction s with
      | nil =>
        intro i acc hd h0 ha
        have := drop_nil' hd
        exact Ev.s (fun k => by rw [spec_FormatRows.l0]) (Ev.e (by omega) (Ev.p.r (by simp)))
      | cons x t ih =>
        intro i acc hd h0 ha
        rw [List.length_cons] at ha
        obtain ⟨hi', hd', hx, -⟩ := drop_cons' hd
        have hf := fR_len x
        refine Ev.s (fun k => by rw [spec_FormatRows.l0]) ?_
        refine Ev.t (by omega) (Ev.b hv (Ev.t rfl (Ev.t (by omega) (Ev.t (by show acc.length + 1 ≤ _; omega) ?_))))
        rw [show toB acc ++ (⟨#[32]⟩ : ByteArray) = toB (acc ++ [32]) from toB_app acc [32]]
        refine J x i (acc ++ [32]) _ _ hi' hx (by simp; omega) ((ih (i + 1) _ hd' (by omega) (by simp; omega)).r ?_)
        simp
    cases l with
    | nil => exact Ev.s (fun k => by rw [spec_FormatRows.l0]) (Ev.e (by simp) (Ev.p.r (by rfl)))
    | cons x t =>
      have hf := fR_len x
      rw [List.length_cons] at h24
      refine Ev.s (fun k => by rw [spec_FormatRows.l0]) ?_
      refine Ev.t (by simp) (Ev.b hv (Ev.t rfl (Ev.e (by omega) ?_)))
      exact J x 0 [] _ _ (by simp) (fun _ => rfl) (by simp) (L t 1 (fR x) rfl (by omega) (by omega))
  · rw [if_neg h]
    refine Ev.s (fun k => by rw [spec_FormatRows.l0]) ?_
    exact Ev.i (fun _ => Ev.b hv (Ev.e h (Ev.p.r rfl))) (fun _ => Ev.p.r rfl)
def pRg (A : List S124) : List (List UInt8) → List S124 × Bool
  | [] => if vRows A = true then (A, true) else ([], false)
  | x :: t => if (pR x).2 = true then pRg (A ++ [(pR x).1]) t else ([], false)
def pRs (s : List UInt8) : List S124 × Bool := if s = [] then ([], true) else pRg [] (ctS 32 s)
theorem impl_ParseRows_ev (s : List UInt8) (hs : s.length ≤ 100000000) : Ev (fun k => impl_ParseRows.f k (toB s)) (pRs s) := by
  unfold pRs
  refine Ev.u (fun _ => rfl) (Ev.i (fun h => ?_) (fun h => ?_))
  · rw [if_pos (show s = [] from (toL_nil _).1 h)]; exact Ev.p
  have h' : ¬ s = [] := fun e => h ((toL_nil _).2 e)
  rw [if_neg h']
  have hl := ctS_len 32 s
  have hm := fun x => ctS_mem (c := 32) (s := s) (x := x)
  refine Ev.b (impl_cut_ev s (by omega) 32 32 rfl) ?_
  rw [List.length_map]
  generalize ctS 32 s = C at *
  have L : ∀ (t : List (List UInt8)) (i : Nat) (A : List S124), C.drop i = t → A.length ≤ i → i ≤ C.length → Ev (fun k => impl_ParseRows.l0 k A (C.map toB) (C.length : Int) (i : Int)) (pRg A t) := by
    intro t
    induction t with
    | nil =>
      intro i A hd hA hi
      have := drop_nil' hd
      refine Ev.s (fun k => by rw [impl_ParseRows.l0]) (Ev.e (by omega) (Ev.b (impl_AreValidRows_ev A (by omega)) (Ev.i (fun g => Ev.p.r ?_) (fun g => Ev.p.r ?_))))
      · unfold pRg; rw [if_pos g]
      · unfold pRg; rw [if_neg g]
    | cons x t ih =>
      intro i A hd hA hi
      obtain ⟨hi', hd', hx, -⟩ := drop_cons' hd
      have hz := hm x (List.mem_of_mem_drop (by rw [hd]; exact List.mem_cons_self ..))
      refine Ev.s (fun k => by rw [impl_ParseRows.l0]) (Ev.t (by omega) (Ev.t (by omega) (Ev.t (by rw [List.length_map]; omega) ?_)))
      rw [rdS, hx, w64s hi' (by omega)]
      unfold pRg
      refine Ev.b (impl_ParseRow_ev x (by omega)) (Ev.i (fun g => ?_) (fun g => Ev.p.r ?_))
      · rw [if_pos g]
        exact Ev.t (by omega) (ih (i + 1) _ hd' (by simp; omega) (by omega))
      · rw [if_neg g]
  exact L C 0 [] rfl (by simp) (by omega)
theorem spec_ParseRows_j0 (A : List S124) (hA : A.length ≤ 200000000) : Ev (fun k => spec_ParseRows.j0 k A) (if vRows A = true then (A, true) else ([], false)) := by
  refine Ev.s (fun k => by rw [spec_ParseRows.j0]) (Ev.b (spec_AreValidRows_ev A (by omega)) (Ev.i (fun g => Ev.p.r ?_) (fun g => Ev.p.r ?_)))
  · rw [if_pos g]
  · rw [if_neg g]
theorem spec_ParseRows_ev (s : List UInt8) (hs : s.length ≤ 100000000) : Ev (fun k => spec_ParseRows.f k (toB s)) (pRs s) := by
  unfold pRs
  have hl := ctS_len 32 s
  have hm := fun x => ctS_mem (c := 32) (s := s) (x := x)
  refine Ev.u (fun _ => rfl) (Ev.b (spec_l2Cut_ev s (by omega) 32 32 rfl) ?_)
  by_cases h : s = []
  · subst h
    rw [if_pos rfl]
    refine Ev.s (fun k => by rw [spec_ParseRows.l0]) ?_
    refine Ev.t (by simp [ctS, ctG]) (Ev.t rfl ?_)
    exact (spec_ParseRows_j0 [] (by simp)).r (by rfl)
  rw [if_neg h]
  generalize ctS 32 s = C at *
  have L : ∀ (t : List (List UInt8)) (i : Nat) (A : List S124), C.drop i = t → A.length ≤ i → i ≤ C.length → Ev (fun k => spec_ParseRows.l0 k (toB s) A (C.map toB) (i : Int)) (pRg A t) := by
    intro t
    induction t with
    | nil =>
      intro i A hd hA hi
      have := drop_nil' hd
      refine Ev.s (fun k => by rw [spec_ParseRows.l0]) (Ev.e (by rw [List.length_map]; omega) ?_)
      exact spec_ParseRows_j0 A (by omega)
    | cons x t ih =>
      intro i A hd hA hi
      obtain ⟨hi', hd', hx, -⟩ := drop_cons' hd
      have hz := hm x (List.mem_of_mem_drop (by rw [hd]; exact List.mem_cons_self ..))
      refine Ev.s (fun k => by rw [spec_ParseRows.l0]) ?_
      refine Ev.t (by rw [List.length_map]; omega) (Ev.e (fun g => h ((toL_nil _).1 g)) (Ev.t (by omega) ?_))
      rw [rdS, hx, w64s hi' (by omega)]
      unfold pRg
      refine Ev.b (spec_ParseRow_ev x (by omega)) (Ev.i (fun g => ?_) (fun g => Ev.p.r ?_))
      · rw [if_pos g]
        exact Ev.t (by omega) (ih (i + 1) _ hd' (by simp; omega) (by omega))
      · rw [if_neg g]
  exact L C 0 [] rfl (by simp) (by omega)
theorem pRg_some : ∀ (t : List (List UInt8)) (A : List S124), (pRg A t).2 = true → ∃ B, (pRg A t).1 = A ++ B ∧ B.map fR = t ∧ vRows (A ++ B) = true
  | [], A, h => by
    unfold pRg at h ⊢
    by_cases g : vRows A = true
    · rw [if_pos g]; exact ⟨[], by simp, rfl, by simpa using g⟩
    · rw [if_neg g] at h; cases h
  | x :: t, A, h => by
    unfold pRg at h ⊢
    by_cases g : (pR x).2 = true
    · rw [if_pos g] at h ⊢
      obtain ⟨B, b1, b2, b3⟩ := pRg_some t _ h
      rw [List.append_assoc] at b1 b3
      exact ⟨(pR x).1 :: B, b1, by rw [List.map_cons, b2, (pR_some g).2], b3⟩
    · rw [if_neg g] at h; cases h
theorem pRg_no : ∀ (t : List (List UInt8)) (A : List S124), (pRg A t).2 = false → pRg A t = ([], false)
  | [], A, h => by
    unfold pRg at h ⊢
    by_cases g : vRows A = true
    · rw [if_pos g] at h; cases h
    · rw [if_neg g]
  | x :: t, A, h => by
    unfold pRg at h ⊢
    by_cases g : (pR x).2 = true
    · rw [if_pos g] at h ⊢; exact pRg_no t _ h
    · rw [if_neg g]
theorem pRs_some {s : List UInt8} (h : (pRs s).2 = true) : vRows (pRs s).1 = true ∧ fRs (pRs s).1 = s := by
  unfold pRs at h ⊢
  by_cases g : s = []
  · rw [if_pos g, g]; exact ⟨by rfl, by rfl⟩
  · rw [if_neg g] at h ⊢
    obtain ⟨B, b1, b2, b3⟩ := pRg_some _ _ h
    rw [List.nil_append] at b1 b3
    rw [b1]
    refine ⟨b3, ?_⟩
    unfold fRs; rw [if_pos b3, b2, jn_ctS]
theorem pRs_no {s : List UInt8} (h : (pRs s).2 = false) : pRs s = ([], false) := by
  unfold pRs at h ⊢
  by_cases g : s = []
  · rw [if_pos g] at h; cases h
  · rw [if_neg g] at h ⊢; exact pRg_no _ _ h
theorem pRs_len (s : List UInt8) : (pRs s).1.length ≤ 24 := by
  cases h : (pRs s).2 with
  | true => exact vRows_len (pRs_some h).1
  | false => rw [pRs_no h]; simp
theorem pRg_map : ∀ (B A : List S124), vAll B = true → vRows (A ++ B) = true → pRg A (B.map fR) = (A ++ B, true)
  | [], A, _, h => by
    rw [List.append_nil] at h ⊢
    show (if vRows A = true then (A, true) else ([], false)) = _
    rw [if_pos h]
  | x :: B, A, hv, h => by
    have hx : vR x = true := by unfold vAll at hv; rw [List.all_cons, Bool.and_eq_true] at hv; exact hv.1
    have hB : vAll B = true := by unfold vAll at hv ⊢; rw [List.all_cons, Bool.and_eq_true] at hv; exact hv.2
    rw [List.map_cons]
    unfold pRg
    rw [pR_fR hx, if_pos rfl]
    have ih := pRg_map B (A ++ [x]) hB (by rw [List.append_assoc]; exact h)
    rw [ih, List.append_assoc]; rfl
theorem fR_ne {x : S124} (h : vR x = true) : fR x ≠ [] := by
  unfold fR; rw [if_pos h, jnL_cons]
  intro e
  exact fI_ne (List.append_eq_nil_iff.1 e).1
theorem fR_32 {x : S124} : ∀ b ∈ fR x, nmB b ∨ b.toNat = 46 := by
  unfold fR
  by_cases h : vR x = true
  · obtain ⟨h0, h1, h2⟩ := vR_b h
    have n0 := fI_nm (n := x.f0) ⟨by omega, by omega⟩
    have n1 := fI_nm (n := x.f1) ⟨by omega, by omega⟩
    have n2 := fI_nm (n := x.f2) ⟨by omega, by omega⟩
    rw [if_pos h, fR_parts]
    intro b hb
    simp only [List.mem_append, List.mem_singleton] at hb
    rcases hb with (((hb | hb) | hb) | hb) | hb
    · exact .inl (n0 b hb)
    · right; rw [hb]; rfl
    · exact .inl (n1 b hb)
    · right; rw [hb]; rfl
    · exact .inl (n2 b hb)
  · rw [if_neg h]; simp
theorem pRs_fRs {l : List S124} (h : vRows l = true) : pRs (fRs l) = (l, true) := by
  unfold fRs; rw [if_pos h]
  cases l with
  | nil => rfl
  | cons x t =>
    have hv := (vRows_iff.1 h).1
    have hx : vR x = true := by unfold vAll at hv; rw [List.all_cons, Bool.and_eq_true] at hv; exact hv.1
    have hn : jnL 32 ((x :: t).map fR) ≠ [] := by
      rw [List.map_cons, jnL_cons]; exact fun e => fR_ne hx (List.append_eq_nil_iff.1 e).1
    unfold pRs
    rw [if_neg hn, List.map_cons, ct_jn, ← List.map_cons, pRg_map _ _ hv (by simpa using h)]
    · rfl
    · intro y hy b hb
      rw [← List.map_cons] at hy
      obtain ⟨r, -, rfl⟩ := List.mem_map.1 hy
      rcases fR_32 b hb with hq | hq
      · exact nm_ne hq (by decide) (by decide)
      · intro e; rw [e] at hq; exact absurd hq (by decide)
theorem jn_mem {c : UInt8} {b : UInt8} : ∀ {L : List (List UInt8)}, b ∈ jnL c L → b = c ∨ ∃ x ∈ L, b ∈ x
  | [], h => by simp [jnL] at h
  | x :: t, h => by
    rw [jnL_cons, List.mem_append] at h
    rcases h with h | h
    · exact .inr ⟨x, List.mem_cons_self .., h⟩
    · obtain ⟨y, hy, hb⟩ := List.mem_flatMap.1 h
      rcases List.mem_cons.1 hb with hb | hb
      · exact .inl hb
      · exact .inr ⟨y, List.mem_cons_of_mem _ hy, hb⟩
theorem fRs_b {l : List S124} : ∀ b ∈ fRs l, nmB b ∨ b.toNat = 46 ∨ b.toNat = 32 := by
  unfold fRs
  split
  · intro b hb
    rcases jn_mem hb with hb | ⟨x, hx, hb⟩
    · right; right; rw [hb]; rfl
    · obtain ⟨r, -, rfl⟩ := List.mem_map.1 hx
      rcases fR_32 b hb with hq | hq
      · exact .inl hq
      · exact .inr (.inl hq)
  · simp
/-! tasks -/
theorem ne59 {b : UInt8} (h : nmB b ∨ b.toNat = 46 ∨ b.toNat = 32) : b ≠ 59 := by
  rcases h with h | h | h
  · exact nm_ne h (by decide) (by decide)
  · intro e; rw [e] at h; exact absurd h (by decide)
  · intro e; rw [e] at h; exact absurd h (by decide)
theorem ct_nil (c : UInt8) : ctS c [] = [[]] := rfl
theorem ne47 {b : UInt8} (h : nmB b ∨ b.toNat = 46 ∨ b.toNat = 32 ∨ b.toNat = 59) : b ≠ 47 := by
  rcases h with h | h | h | h
  · exact nm_ne h (by decide) (by decide)
  · intro e; rw [e] at h; exact absurd h (by decide)
  · intro e; rw [e] at h; exact absurd h (by decide)
  · intro e; rw [e] at h; exact absurd h (by decide)
def fG (g : S99) : List UInt8 := jnL 59 [fI g.f1, fRs g.f0]
def eb (b : Bool) : List UInt8 := if b = true then [49] else [48]
def aP (a : S48) : List (List UInt8) := fI a.f1 :: eb a.f2 :: a.f0.map fG
def fA (a : S48) : List UInt8 := if vA a = true then jnL 47 (aP a) else []
theorem fG_len {g : S99} (h : 0 ≤ g.f1 ∧ g.f1 ≤ 4) : (fG g).length ≤ 1700 := by
  have a := fI_len g.f1 (by omega) (by omega)
  have b := fRs_len g.f0
  have c := jnL_len 59 [fI g.f1, fRs g.f0]
  rw [tot_cons, tot_cons, show tot [] = 0 from rfl] at c
  unfold fG; omega
theorem fG_parts (g : S99) : fG g = fI g.f1 ++ [59] ++ fRs g.f0 := by simp [fG, jnL]
theorem spec_FormatAggregator_ev (a : S48) (ha : asz a ≤ 134217728) : Ev (fun k => spec_FormatAggregator.f k a.f0 a.f1 a.f2) (toB (fA a)) := by
  unfold fA
  refine Ev.u (fun _ => rfl) (Ev.b (spec_IsValidAggregator_evG a ha) (Ev.i (fun h => ?_) (fun h => Ev.p.r ?_)))
  · have hA := vA_iff.1 h
    have h1 := hA.wr; have h3 := hA.len
    have x := fI_len a.f1 (by omega) (by omega)
    rw [if_pos h]
    have L : ∀ (s : List S99) (i : Nat) (acc : List UInt8) (b : Bool), a.f0.drop i = s → i + s.length = a.f0.length → acc.length + 1701 * s.length ≤ 1000000 → Ev (fun k => spec_FormatAggregator.l0 k (toB acc) (i : Int) a.f1 b a.f0) (toB (acc ++ (s.map fG).flatMap fun y => 47 :: y)) := by
      intro s
      induction s with
      | nil =>
        intro i acc b hd hi hc
        have := drop_nil' hd
        exact Ev.s (fun k => by rw [spec_FormatAggregator.l0]) (Ev.e (by omega) (Ev.p.r (by simp)))
      | cons y t ih =>
        intro i acc b hd hi hc
        rw [List.length_cons] at hi hc
        obtain ⟨hi', hd', hx, -⟩ := drop_cons' hd
        have hy := hA.ts y (List.mem_of_mem_drop (by rw [hd]; exact List.mem_cons_self ..))
        have hr := vRows_len hy.1
        have b1 := fI_len y.f1 (by omega) (by omega)
        have b2 := fRs_len y.f0
        have hf := fG_len hy.2
        have h := ih (i + 1) (acc ++ [47] ++ fI y.f1 ++ [59] ++ fRs y.f0) b hd' (by omega) (by rw [fG_parts] at hf; simp at hf; simp; omega)
        have g1 : toB acc ++ (⟨#[47]⟩ : ByteArray) = toB (acc ++ [47]) := toB_app _ _
        have g2 : toB acc ++ (⟨#[47]⟩ : ByteArray) ++ toB (fI y.f1) = toB (acc ++ [47] ++ fI y.f1) := by rw [g1, toB_app]
        have g3 : toB acc ++ (⟨#[47]⟩ : ByteArray) ++ toB (fI y.f1) ++ (⟨#[59]⟩ : ByteArray) = toB (acc ++ [47] ++ fI y.f1 ++ [59]) := by rw [g2]; exact toB_app _ _
        refine Ev.s (fun k => by rw [spec_FormatAggregator.l0]) ?_
        rw [rdGT, hx, w64s hi' (by omega)]
        refine Ev.t (by omega) (Ev.t ?_ (Ev.t (by omega) (Ev.b (spec_FormatInt_ev y.f1 (by omega) (by omega)) (Ev.t ?_ (Ev.t ?_ (Ev.b (spec_FormatRows_ev y.f0 (by omega)) (Ev.t ?_ ?_)))))))
        · show acc.length + 1 ≤ _; omega
        · rw [g1, toB_sz, toB_sz]; simp; omega
        · rw [g2, toB_sz]; show _ + 1 ≤ _; simp; omega
        · rw [g3, toB_sz, toB_sz]; simp; omega
        · rw [g3, toB_app]
          refine h.r ?_
          simp [fG_parts]
    refine Ev.b (spec_FormatInt_ev a.f1 (by omega) (by omega)) (Ev.t (by show (fI a.f1).length + 2 ≤ _; omega) ?_)
    unfold aP eb
    refine Ev.i (fun g => Ev.b (spec_FormatInt_ev a.f1 (by omega) (by omega)) (Ev.t (by show (fI a.f1).length + 2 ≤ _; omega) ?_)) (fun g => ?_)
    · rw [if_pos g, show toB (fI a.f1) ++ (⟨#[47, 49]⟩ : ByteArray) = toB (fI a.f1 ++ [47, 49]) from toB_app _ _]
      refine Ev.s (fun k => by rw [spec_FormatAggregator.j0]) ?_
      refine (L a.f0 0 (fI a.f1 ++ [47, 49]) true rfl (by simp) (by simp; omega)).r ?_
      simp [jnL]
    · rw [if_neg g, show toB (fI a.f1) ++ (⟨#[47, 48]⟩ : ByteArray) = toB (fI a.f1 ++ [47, 48]) from toB_app _ _]
      refine Ev.s (fun k => by rw [spec_FormatAggregator.j0]) ?_
      refine (L a.f0 0 (fI a.f1 ++ [47, 48]) false rfl (by simp) (by simp; omega)).r ?_
      simp [jnL]
  · rw [if_neg h]; rfl
def pGd (x : List UInt8) : S99 := match ctS 59 x with | [p, q] => ⟨(pRs q).1, (pI p).1⟩ | _ => z99
def okG (x : List UInt8) : Prop := ∃ p q, ctS 59 x = [p, q] ∧ (pI p).2 = true ∧ (pRs q).2 = true
def mkA (a b : List UInt8) (C : List (List UInt8)) : S48 := ⟨C.map pGd, (pI a).1, decide (b = [49])⟩
def pA (s : List UInt8) : S48 × Bool :=
  match ctS 47 s with
  | a :: b :: C => if fA (mkA a b C) = s then (mkA a b C, true) else (z48, false)
  | _ => (z48, false)
theorem ct_fG {g : S99} (h : 0 ≤ g.f1 ∧ g.f1 ≤ 4) : ctS 59 (fG g) = [fI g.f1, fRs g.f0] := by
  unfold fG
  refine ct_jn 59 _ _ fun y hy b hb => ?_
  simp only [List.mem_cons, List.not_mem_nil, or_false] at hy
  rcases hy with rfl | rfl
  · exact ne59 (.inl (fI_nm ⟨by omega, by omega⟩ b hb))
  · exact ne59 (fRs_b b hb)
theorem okG_fG {g : S99} (h : vRows g.f0 = true ∧ 0 ≤ g.f1 ∧ g.f1 ≤ 4) : okG (fG g) ∧ pGd (fG g) = g := by
  have e := ct_fG h.2
  have p := pI_fmt g.f1 ⟨by omega, by omega⟩
  have q := pRs_fRs h.1
  constructor
  · exact ⟨_, _, e, by rw [p], by rw [q]⟩
  · unfold pGd; rw [e]; dsimp only; rw [p, q]
theorem fG_pGd {x : List UInt8} (h : okG x) : fG (pGd x) = x := by
  obtain ⟨p, q, e, h1, h2⟩ := h
  have hj := jn_ctS 59 x
  unfold pGd; rw [e] at hj ⊢; dsimp only
  unfold fG; dsimp only
  rw [← (pI_some h1).2, (pRs_some h2).2]; exact hj
theorem fG_b {g : S99} (h : 0 ≤ g.f1 ∧ g.f1 ≤ 4) : ∀ b ∈ fG g, nmB b ∨ b.toNat = 46 ∨ b.toNat = 32 ∨ b.toNat = 59 := by
  intro b hb
  unfold fG at hb
  rcases jn_mem hb with hb | ⟨x, hx, hb⟩
  · right; right; right; rw [hb]; rfl
  · simp only [List.mem_cons, List.not_mem_nil, or_false] at hx
    rcases hx with rfl | rfl
    · exact .inl (fI_nm ⟨by omega, by omega⟩ b hb)
    · rcases fRs_b b hb with q | q | q
      · exact .inl q
      · exact .inr (.inl q)
      · exact .inr (.inr (.inl q))
theorem ct_fA {a : S48} (h : vA a = true) : ctS 47 (fA a) = aP a := by
  have hA := vA_iff.1 h
  have h1 := hA.wr
  unfold fA; rw [if_pos h]
  refine ct_jn 47 _ _ fun y hy b hb => ?_
  rcases List.mem_cons.1 hy with rfl | hy
  · exact ne47 (.inl (fI_nm ⟨by omega, by omega⟩ b hb))
  rcases List.mem_cons.1 hy with rfl | hy
  · refine ne47 (.inl (.inr ?_))
    unfold eb at hb
    split at hb
    · rw [List.mem_singleton.1 hb]; decide
    · rw [List.mem_singleton.1 hb]; decide
  · obtain ⟨t, ht, rfl⟩ := List.mem_map.1 hy
    exact ne47 (fG_b (hA.ts t ht).2 b hb)
theorem fA_valid {a : S48} (h : fA a ≠ []) : vA a = true := by
  unfold fA at h
  by_cases g : vA a = true
  · exact g
  · rw [if_neg g] at h; exact absurd rfl h
theorem pA_some {s : List UInt8} (h : (pA s).2 = true) : vA (pA s).1 = true ∧ fA (pA s).1 = s := by
  unfold pA at h ⊢
  split at h
  · rename_i a b C hc
    by_cases g : fA (mkA a b C) = s
    · rw [if_pos g]
      refine ⟨fA_valid ?_, g⟩
      rw [g]; intro e; rw [e, ct_nil] at hc; simp at hc
    · rw [if_neg g] at h; cases h
  · cases h
theorem fA_cut {s a b : List UInt8} {C : List (List UInt8)} (hc : ctS 47 s = a :: b :: C) : fA (mkA a b C) = s ↔ ((pI a).2 = true ∧ (b = [48] ∨ b = [49]) ∧ (∀ x ∈ C, okG x) ∧ vA (mkA a b C) = true) := by
  constructor
  · intro h
    have v : vA (mkA a b C) = true := fA_valid (by rw [h]; intro q; rw [q, ct_nil] at hc; simp at hc)
    have hA := vA_iff.1 v
    have h1 := hA.wr
    have h' := ct_fA v
    rw [h, hc] at h'
    unfold aP at h'
    injection h' with e0 h'
    injection h' with e1 e2
    have p0 := pI_fmt (mkA a b C).f1 ⟨by omega, by omega⟩
    rw [← e0] at p0
    refine ⟨by rw [p0], ?_, fun x hx => ?_, v⟩
    · rw [e1]; unfold eb; split
      · exact .inr rfl
      · exact .inl rfl
    · rw [e2] at hx
      obtain ⟨t, ht, rfl⟩ := List.mem_map.1 hx
      exact (okG_fG (hA.ts t ht)).1
  · rintro ⟨g0, g1, g2, v⟩
    have f0 := (pI_some g0).2
    have hj := jn_ctS 47 s
    rw [hc] at hj
    have fb : eb (decide (b = [49])) = b := by
      rcases g1 with rfl | rfl <;> decide
    unfold fA
    rw [if_pos v]
    unfold aP mkA
    dsimp only
    rw [← f0, fb, List.map_map]
    have : C.map (fG ∘ pGd) = C := by
      conv => rhs; rw [← List.map_id C]
      refine List.map_congr_left fun x hx => ?_
      exact fG_pGd (g2 x hx)
    rw [this]; exact hj
theorem pGd_len (x : List UInt8) : (pGd x).f0.length ≤ 24 := by
  unfold pGd; split
  · exact pRs_len _
  · decide
theorem pGd_sz : ∀ C : List (List UInt8), ((C.map pGd).map fun t => t.f0.length).sum ≤ 24 * C.length
  | [] => by simp
  | x :: C => by
    have := pGd_sz C; have := pGd_len x
    rw [List.map_cons, List.map_cons, List.sum_cons, List.length_cons]; omega
abbrev atup (a : S48) (b : Bool) : List S99 × Int × Bool × Bool := (a.f0, a.f1, a.f2, b)
theorem s1_iff {b : List UInt8} {c : UInt8} : (toB b).toList = (⟨#[c]⟩ : ByteArray).toList ↔ b = [c] := by
  rw [toL_iff]; exact ⟨fun h => toB_inj (b := [c]) h, fun h => by rw [h]; rfl⟩
theorem dec49 (b : List UInt8) : decide ((toB b).toList = (⟨#[49]⟩ : ByteArray).toList) = decide (b = [49]) := decide_eq_decide.2 s1_iff
theorem okG_not {x : List UInt8} (h : ∀ p q, ctS 59 x ≠ [p, q]) : ¬ okG x := fun ⟨p, q, e, _⟩ => h p q e
theorem spec_ParseAggregator_ev (s : List UInt8) (hs : s.length ≤ 1100000) : Ev (fun k => spec_ParseAggregator.f k (toB s)) (atup (pA s).1 (pA s).2) := by
  have hm := fun x => ctS_mem (c := 47) (s := s) (x := x)
  have hl := ctS_len 47 s
  unfold pA
  refine Ev.u (fun _ => rfl) (Ev.b (spec_l2Cut_ev s (by omega) 47 47 rfl) ?_)
  rw [List.length_map]
  cases hc : ctS 47 s with
  | nil => exact Ev.t (by simp) Ev.p
  | cons a l =>
    cases l with
    | nil => exact Ev.t (by simp) Ev.p
    | cons b C =>
      rw [hc] at hm hl
      simp only [List.length_cons] at hl
      have za := hm a (by simp)
      have r0 : rdOf ByteArray.empty ((a :: b :: C).map toB) 0 = toB a := rfl
      have r1 : rdOf ByteArray.empty ((a :: b :: C).map toB) 1 = toB b := rfl
      have ln : (((a :: b :: C).map toB).length : Int) = C.length + 2 := by simp; omega
      dsimp only
      have no : ¬ (∀ x ∈ C, okG x) → atup z48 false = atup (if fA (mkA a b C) = s then (mkA a b C, true) else (z48, false)).1 (if fA (mkA a b C) = s then (mkA a b C, true) else (z48, false)).2 := by
        intro g; rw [if_neg (fun q => g ((fA_cut hc).1 q).2.2.1)]
      have L : ∀ (u : List (List UInt8)) (i : Nat) (A : List S99), (a :: b :: C).drop (i + 2) = u → A.length ≤ i → i ≤ C.length → A ++ u.map pGd = C.map pGd → Ev (fun k => spec_ParseAggregator.l0 k (toB s) ((a :: b :: C).map toB) ((i + 2 : Nat) : Int) [] 0 false A (pI a).1 (decide (b = [49]))) (atup (if fA (mkA a b C) = s then (mkA a b C, true) else (z48, false)).1 (if fA (mkA a b C) = s then (mkA a b C, true) else (z48, false)).2) := by
        intro u
        induction u with
        | nil =>
          intro i A hd hA hi hu
          have := drop_nil' hd
          simp only [List.length_cons] at this
          rw [List.map_nil, List.append_nil] at hu
          subst hu
          have hz := pGd_sz C
          have ef := spec_FormatAggregator_ev (mkA a b C) (by unfold asz mkA; dsimp only; rw [List.length_map]; omega)
          refine Ev.s (fun k => by rw [spec_ParseAggregator.l0]) ?_
          rw [ln]
          refine Ev.e (by omega) (Ev.b ef (Ev.i (fun q5 => Ev.p.r ?_) (fun q5 => Ev.p.r ?_)))
          · rw [if_pos (toB_inj ((toL_iff _ _).1 q5))]; rfl
          · rw [if_neg (fun g => q5 (by rw [g]))]; rfl
        | cons x u ih =>
          intro i A hd hA hi hu
          obtain ⟨hi', hd', hx, -⟩ := drop_cons' hd
          simp only [List.length_cons] at hi'
          have hxl : x ∈ (a :: b :: C).drop (i + 2) := by rw [hd]; exact List.mem_cons_self ..
          have hxC : x ∈ C := List.mem_of_mem_drop (i := i) hxl
          have hmx := hm x (List.mem_of_mem_drop hxl)
          refine Ev.s (fun k => by rw [spec_ParseAggregator.l0]) ?_
          rw [ln, rdS, hx, w64s (i := i + 2) (n := C.length + 2) (by omega) (by omega)]
          refine Ev.t (by omega) (Ev.t (by omega) (Ev.b (spec_l2Cut_ev x (by omega) 59 59 rfl) ?_))
          rw [List.length_map]
          have hmm := fun y => ctS_mem (c := 59) (s := x) (x := y)
          cases e : ctS 59 x with
          | nil => exact Ev.e (by simp) (Ev.p.r (no fun g => okG_not (fun p q => by rw [e]; simp) (g x hxC)))
          | cons p l =>
            cases l with
            | nil => exact Ev.e (by simp) (Ev.p.r (no fun g => okG_not (fun p q => by rw [e]; simp) (g x hxC)))
            | cons q l =>
              cases l with
              | cons y l => exact Ev.e (by simp only [List.length_cons]; omega) (Ev.p.r (no fun g => okG_not (fun p q => by rw [e]; simp) (g x hxC)))
              | nil =>
                rw [e] at hmm
                have z1 := hmm p (by simp)
                have z2 := hmm q (by simp)
                have t0 : rdOf ByteArray.empty ([p, q].map toB) 0 = toB p := rfl
                have t1 : rdOf ByteArray.empty ([p, q].map toB) 1 = toB q := rfl
                have hg : pGd x = ⟨(pRs q).1, (pI p).1⟩ := by unfold pGd; rw [e]
                rw [t0, t1]
                refine Ev.t rfl (Ev.t (by simp) (Ev.b (spec_ParseInt_ev p (by omega)) (Ev.t (by simp) (Ev.b (spec_ParseRows_ev q (by omega)) (Ev.t (by omega) ?_)))))
                exact ih (i + 1) _ (by rw [show i + 1 + 2 = i + 2 + 1 by omega]; exact hd') (by simp; omega) (by omega) (by rw [← hu, List.map_cons, hg, List.append_assoc]; rfl)
      rw [r0, r1, dec49]
      refine Ev.e (by simp only [List.length_cons]; omega) (Ev.t (by simp only [List.length_cons]; omega) (Ev.t (by simp only [List.length_cons]; omega) (Ev.b (spec_ParseInt_ev a (by omega)) ?_)))
      exact L C 0 [] rfl (by simp) (by omega) rfl
theorem impl_ParseAggregator_ev (s : List UInt8) (hs : s.length ≤ 1100000) : Ev (fun k => impl_ParseAggregator.f k (toB s)) (atup (pA s).1 (pA s).2) := by
  have hm := fun x => ctS_mem (c := 47) (s := s) (x := x)
  have hl := ctS_len 47 s
  unfold pA
  refine Ev.u (fun _ => rfl) (Ev.b (impl_cut_ev s (by omega) 47 47 rfl) ?_)
  rw [List.length_map]
  cases hc : ctS 47 s with
  | nil => exact Ev.t (by simp) Ev.p
  | cons a l =>
    cases l with
    | nil => exact Ev.t (by simp) Ev.p
    | cons b C =>
      rw [hc] at hm hl
      simp only [List.length_cons] at hl
      have r0 : rdOf ByteArray.empty ((a :: b :: C).map toB) 0 = toB a := rfl
      have r1 : rdOf ByteArray.empty ((a :: b :: C).map toB) 1 = toB b := rfl
      have rd : ((a :: b :: C).map toB).drop (2 : Int).toNat = C.map toB := rfl
      have ln : (((a :: b :: C).map toB).length : Int) = C.length + 2 := by simp; omega
      dsimp only
      have no : ¬ ((pI a).2 = true ∧ (b = [48] ∨ b = [49]) ∧ (∀ x ∈ C, okG x) ∧ vA (mkA a b C) = true) → atup z48 false = atup (if fA (mkA a b C) = s then (mkA a b C, true) else (z48, false)).1 (if fA (mkA a b C) = s then (mkA a b C, true) else (z48, false)).2 := by
        intro g; rw [if_neg (fun q => g ((fA_cut hc).1 q))]
      have J : (b = [48] ∨ b = [49]) → Ev (fun k => impl_ParseAggregator.j0 k ((a :: b :: C).map toB) [] 0 false) (atup (if fA (mkA a b C) = s then (mkA a b C, true) else (z48, false)).1 (if fA (mkA a b C) = s then (mkA a b C, true) else (z48, false)).2) := by
        intro hb
        have L : ∀ (u : List (List UInt8)) (i : Nat) (A : List S99), C.drop i = u → A.length ≤ i → i ≤ C.length → A ++ u.map pGd = C.map pGd → (∀ x ∈ C, x ∉ u → okG x) → Ev (fun k => impl_ParseAggregator.l0 k (pI a).2 (C.map toB) (C.length : Int) (i : Int) [] 0 false A (pI a).1 (decide (b = [49]))) (atup (if fA (mkA a b C) = s then (mkA a b C, true) else (z48, false)).1 (if fA (mkA a b C) = s then (mkA a b C, true) else (z48, false)).2) := by
          intro u
          induction u with
          | nil =>
            intro i A hd hA hi hu hall
            have := drop_nil' hd
            rw [List.map_nil, List.append_nil] at hu
            subst hu
            have hz := pGd_sz C
            have ev := impl_IsValidAggregator_evG (mkA a b C) (by unfold asz mkA; dsimp only; rw [List.length_map]; omega)
            refine Ev.s (fun k => by rw [impl_ParseAggregator.l0]) ?_
            refine Ev.e (by omega) (Ev.i (fun q0 => Ev.b ev (Ev.i (fun q2 => Ev.p.r ?_) (fun q2 => Ev.p.r (no fun g => q2 g.2.2.2)))) (fun q0 => Ev.p.r (no fun g => q0 g.1)))
            rw [if_pos ((fA_cut hc).2 ⟨q0, hb, fun x hx => hall x hx (by simp), q2⟩)]; rfl
          | cons x u ih =>
            intro i A hd hA hi hu hall
            obtain ⟨hi', hd', hx, -⟩ := drop_cons' hd
            have hxC : x ∈ C := List.mem_of_mem_drop (by rw [hd]; exact List.mem_cons_self ..)
            have hmx := hm x (List.mem_cons_of_mem _ (List.mem_cons_of_mem _ hxC))
            have bad : (∀ p q, ctS 59 x = [p, q] → ¬ ((pI p).2 = true ∧ (pRs q).2 = true)) → atup z48 false = atup (if fA (mkA a b C) = s then (mkA a b C, true) else (z48, false)).1 (if fA (mkA a b C) = s then (mkA a b C, true) else (z48, false)).2 := by
              intro h
              refine no fun g => ?_
              obtain ⟨p, q, e, h1, h2⟩ := g.2.2.1 x hxC
              exact h p q e ⟨h1, h2⟩
            refine Ev.s (fun k => by rw [impl_ParseAggregator.l0]) ?_
            rw [rdS, hx, w64s hi' (by omega), List.length_map]
            refine Ev.t (by omega) (Ev.t (by omega) (Ev.t (by omega) (Ev.b (impl_cut_ev x (by omega) 59 59 rfl) ?_)))
            rw [List.length_map]
            have hmm := fun y => ctS_mem (c := 59) (s := x) (x := y)
            cases e : ctS 59 x with
            | nil => exact Ev.e (by simp) (Ev.p.r (bad fun p q h => by rw [e] at h; simp at h))
            | cons p l =>
              cases l with
              | nil => exact Ev.e (by simp) (Ev.p.r (bad fun p q h => by rw [e] at h; simp at h))
              | cons q l =>
                cases l with
                | cons y l => exact Ev.e (by simp only [List.length_cons]; omega) (Ev.p.r (bad fun p q h => by rw [e] at h; simp at h))
                | nil =>
                  rw [e] at hmm
                  have z2 := hmm q (by simp)
                  have t0 : rdOf ByteArray.empty ([p, q].map toB) 0 = toB p := rfl
                  have t1 : rdOf ByteArray.empty ([p, q].map toB) 1 = toB q := rfl
                  have hg : pGd x = ⟨(pRs q).1, (pI p).1⟩ := by unfold pGd; rw [e]
                  have bad' : ¬ ((pI p).2 = true ∧ (pRs q).2 = true) → atup z48 false = atup (if fA (mkA a b C) = s then (mkA a b C, true) else (z48, false)).1 (if fA (mkA a b C) = s then (mkA a b C, true) else (z48, false)).2 := by
                    intro h
                    refine bad fun p' q' h' => ?_
                    rw [e] at h'
                    injection h' with h1 h'
                    injection h' with h2 _
                    subst h1 h2
                    exact h
                  rw [t0, t1]
                  refine Ev.t rfl (Ev.t (by simp) (Ev.b (impl_ParseInt_ev p) (Ev.t (by simp) (Ev.b (impl_ParseRows_ev q (by omega)) ?_))))
                  refine Ev.i (fun q0 => Ev.i (fun q1 => Ev.t (by omega) ?_) (fun q1 => Ev.p.r (bad' fun g => q1 g.2))) (fun q0 => Ev.p.r (bad' fun g => q0 g.1))
                  refine ih (i + 1) _ hd' (by simp; omega) (by omega) (by rw [← hu, List.map_cons, hg, List.append_assoc]; rfl) (fun y hy hyu => ?_)
                  by_cases ey : y = x
                  · rw [ey]; exact ⟨p, q, e, q0, q1⟩
                  · exact hall y hy (fun hq => (List.mem_cons.1 hq).elim ey hyu)
        refine Ev.s (fun k => by rw [impl_ParseAggregator.j0]) ?_
        rw [r0, r1, rd, ln, dec49, List.length_map]
        refine Ev.t (by omega) (Ev.b (impl_ParseInt_ev a) (Ev.t (by omega) (Ev.t (by omega) ?_)))
        exact L C 0 [] rfl (by simp) (by omega) rfl (fun x hx hn => absurd hx hn)
      rw [r1]
      refine Ev.e (by simp only [List.length_cons]; omega) (Ev.t (by simp only [List.length_cons]; omega) (Ev.i (fun g => J (.inl (s1_iff.1 g))) (fun g => Ev.i (fun g2 => J (.inr (s1_iff.1 g2))) (fun g2 => Ev.p.r (no fun q => ?_)))))
      rcases q.2.1 with q | q
      · exact g (s1_iff.2 q)
      · exact g2 (s1_iff.2 q)
theorem pA_sz (s : List UInt8) : asz (pA s).1 ≤ 3000 := by
  cases h : (pA s).2 with
  | true =>
    have hA := vA_iff.1 (pA_some h).1
    have h1 := hA.len; have h2 := hA.n
    unfold asz; unfold sG at h2; omega
  | false =>
    have : (pA s).1 = z48 := by
      unfold pA at h ⊢
      split at h
      · split at h
        · cases h
        · rename_i g; rw [if_neg g]
      · rfl
    rw [this]; decide

theorem pure_FnExactParseAggregator (a0 : ByteArray) (w0 : a0.size ≤ 140737488351232) : ∃ k, laws_FnExactParseAggregator.f k a0 = some true := by
  refine Ev.ex ?_
  by_cases s0 : (a0.size : Int) > 1048576
  · exact Ev.u (fun _ => rfl) (Ev.t s0 Ev.p)
  obtain ⟨s, rfl⟩ : ∃ s, a0 = toB s := ⟨bs a0, rfl⟩
  have hs : s.length ≤ 1048576 := by have : (toB s).size = s.length := rfl; omega
  have es := spec_ParseAggregator_ev s (by omega)
  have ei := impl_ParseAggregator_ev s (by omega)
  have z := pA_sz s
  generalize (pA s).1 = T at *
  generalize (pA s).2 = b at *
  have q := eqAggregator_ev T (by omega)
  have n := nGs_b T
  have m := markAggregator_ev T 1 (by omega) (by omega)
  have h := heldAggregator_ev T 1 T.f1 T.f2 (by omega) (by omega)
  refine Ev.u (fun _ => rfl) (Ev.e s0 (Ev.b es (Ev.b ei (Ev.b q (Ev.t rfl (Ev.t (by simp) (Ev.b m ?_)))))))
  refine Ev.b h (Ev.e (by omega) (Ev.t rfl (Ev.b ei (Ev.b q (Ev.t rfl (Ev.t (by simp) ?_))))))
  exact Ev.b h (Ev.e (by omega) (Ev.t rfl Ev.p))

end Go.Proofs.Ytnllplklggoabaa.K
namespace Go.Proofs.Ytnllplklggoabaa.fnExactParseAggregator
open Go Go.ChangeShapes Go.WideShapes Go.ChangeAt Go.RowKit Go.Proofs.Ytnllplklggoabaa.K
open Go.ChangeMaps (open_string shut_string)
set_option linter.unusedVariables false
theorem own : ownKnob Try.prog.godebug = none := by kernel_rfl
theorem laidOut : laidOutB Try.prog = true := by kernel_rfl
set_option maxRecDepth 100000 in
theorem lifted (os : Os) (started : os.Started) (H : Type) (enc : TypeId × Value → H) :
    ReturnsInHanded {} Try.checked os 7 .any (Rows.fnExactParseAggregatorSpec.pre6 enc Try.prog Try.f7 Rows.fnExactParseAggregatorRow.domain false) (Rows.fnExactParseAggregatorSpec.post enc Try.prog Try.f7 false true false false) := by
  refine returnsInHanded_of_change_sized (C := Try.checked) own started (by kernel_rfl) Try.func7
    (ChangeSpec.witness6 (enc := enc) (C := Try.checked) false ⟨#[], #[.string ByteArray.empty], []⟩ 8 (by kernel_rfl) (by kernel_rfl) (by kernel_rfl) (by kernel_rfl)) ?_
  intro W base args ds gs before hval0 hW hcnd hsz0 _
  have hsz : (DataW.weightsEach Try.prog (Try.f7.params.toList ++ Rows.fnExactParseAggregatorSpec.plain.varTypes Try.prog) (ds ++ gs)).all (· ≤ reachBytes) = true := hsz0
  have hval : ∀ (j : Nat) t v, Try.f7.params[j]? = some t → args[j]? = some v → Value.okWide Try.prog W .any base t v := hval0
  have hW' := hW
  obtain ⟨p, q, hA0, hV, rfl, hfz, hnd⟩ := hW
  have hA : DataW.TrodAll enc Try.prog W 0 (fun _ => true) true Try.f7.params.toList args.toList ds p := hA0
  rw [Try.params7] at hA hval hsz
  obtain ⟨v0, vs0, d0, ds0, p0, q0, hargs, rfl, rfl, h0, r0⟩ := trodAll_cons hA
  obtain ⟨rfl, rfl, rfl⟩ := trodAll_nil r0
  obtain rfl : args = #[v0] := by cases args; simp_all
  obtain ⟨rfl, rfl⟩ := trodVars_none hV
  obtain ⟨a0, rfl, rfl, rfl, y0⟩ := open_string Try.underlying9 (hval 0 9 v0 rfl rfl) h0
  have w0 : a0.size ≤ 140737488351232 := by
    have z := sized_string hsz (j := 0) (t := 9) rfl rfl
    rw [Array.length_toList] at z
    exact z
  clear hA0 hval0 hsz0 hsz
  obtain ⟨k, hk⟩ := K.pure_FnExactParseAggregator a0 w0
  refine (law_calls (laws_FnExactParseAggregator.ok k a0 true hk) facts_nil).mono fun e W' he => ?_
  obtain ⟨rfl, bel⟩ := he
  exact ⟨_, rfl, _, _, _, [], _, [], hW', trodAll_mk1 (shut_bool Try.underlying4 _), (trodAll_cons_mk (shut_string Try.underlying9 y0) trodAll_mk0), rfl, bel.frame _, fun h => by cases h⟩
theorem over : Rows.fnExactParseAggregatorRow.holds Try.pinned (OpenSpec.ofChange Rows.fnExactParseAggregatorSpec) :=
  OpenClaim.holds_of_wide 7 Try.f7 rfl rfl rfl rfl rfl rfl rfl ⟨rfl, rfl, rfl, rfl, rfl⟩ rfl rfl rfl rfl rfl (by kernel_rfl) Try.func7 (by kernel_rfl)
    (of_decide_eq_true (by kernel_rfl)) (by unfold Func.isWrapper; first | (rw [if_pos (by decide +kernel)]; kernel_rfl) | (rw [if_neg (by decide +kernel)]; exact ⟨rfl, rfl⟩))
    (fun os started H enc _ => lifted os started H enc)
theorem proved : Rows.FnExactParseAggregatorSaid := over
#print axioms proved
end Go.Proofs.Ytnllplklggoabaa.fnExactParseAggregator
namespace Go.Proofs.Ytnllplklggoabaa
/-- The row, under a short name, for the claim. -/
theorem fnExactParseAggregator_holds : Rows.FnExactParseAggregatorSaid := fnExactParseAggregator.proved
end Go.Proofs.Ytnllplklggoabaa
