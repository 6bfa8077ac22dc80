/- FnExactNewAggregator answers true at every input. -/
import Derived.Below
import Derived.Carry
import Derived.ChangeOld
import Derived.OpenShut
import Derived.ProofKit
import Derived.ShutString
import Derived.SizedLaws
import Derived.Test.YtoncjohnkiilcaaChecked
import Derived.Test.YtoncjohnkiilcaaRows
import Derived.WalkKit
import Derived.Test.YtoncjohnkiilcaaVFnExactNewAggregatora
namespace Go.Proofs.Ytoncjohnkiilcaa.K
open Go Go.RowKit
set_option linter.unusedVariables false
set_option linter.unusedSimpArgs false
def Ev {α : Type} (f : Nat → Option α) (r : α) : Prop := ∃ K, ∀ k, K ≤ k → f k = some r
theorem Ev.p {α : Type} {r : α} : Ev (fun _ => some r) r := ⟨0, fun _ _ => rfl⟩
theorem Ev.c {α : Type} {o : Option α} {r : α} (h : o = some r) : Ev (fun _ => o) r := ⟨0, fun _ _ => h⟩
theorem Ev.b {α β : Type} {f : Nat → Option α} {g : Nat → α → Option β} {a : α} {r : β} (hf : Ev f a) (hg : Ev (fun k => g k a) r) : Ev (fun k => (f k).bind (g k)) r := by
  obtain ⟨K, h⟩ := hf; obtain ⟨L, h'⟩ := hg
  exact ⟨max K L, fun k hk => by show (f k).bind (g k) = some r; rw [h k (by omega)]; exact h' k (by omega)⟩
theorem Ev.t {α : Type} {p : Prop} [Decidable p] {f g : Nat → Option α} {r : α} (h : p) (hf : Ev f r) : Ev (fun k => if p then f k else g k) r := by
  obtain ⟨K, h'⟩ := hf
  exact ⟨K, fun k hk => by show (if p then f k else g k) = some r; rw [if_pos h]; exact h' k hk⟩
theorem Ev.e {α : Type} {p : Prop} [Decidable p] {f g : Nat → Option α} {r : α} (h : ¬ p) (hg : Ev g r) : Ev (fun k => if p then f k else g k) r := by
  obtain ⟨K, h'⟩ := hg
  exact ⟨K, fun k hk => by show (if p then f k else g k) = some r; rw [if_neg h]; exact h' k hk⟩
theorem Ev.i {α : Type} {p : Prop} [Decidable p] {f g : Nat → Option α} {r : α} (hf : p → Ev f r) (hg : ¬ p → Ev g r) : Ev (fun k => if p then f k else g k) r := by
  by_cases h : p
  · exact Ev.t h (hf h)
  · exact Ev.e h (hg h)
theorem Ev.s {α : Type} {L f : Nat → Option α} {r : α} (h : ∀ k, L (k + 1) = f k) (hf : Ev f r) : Ev L r := by
  obtain ⟨K, h'⟩ := hf
  refine ⟨K + 1, fun k hk => ?_⟩
  obtain ⟨m, rfl⟩ : ∃ m, k = m + 1 := ⟨k - 1, by omega⟩
  rw [h]; exact h' m (by omega)
theorem Ev.u {α : Type} {L f : Nat → Option α} {r : α} (h : ∀ k, L k = f k) (hf : Ev f r) : Ev L r := by
  obtain ⟨K, h'⟩ := hf
  exact ⟨K, fun k hk => by rw [h]; exact h' k hk⟩
theorem Ev.r {α : Type} {f : Nat → Option α} {r r' : α} (h : Ev f r) (e : r = r') : Ev f r' := e ▸ h
theorem Ev.r' {α : Type} {f g : Nat → Option α} {r r' : α} (h : Ev f r) (e1 : ∀ k, f k = g k) (e : r = r') : Ev g r' := by
  subst e; obtain ⟨K, h'⟩ := h
  exact ⟨K, fun k hk => by rw [← e1]; exact h' k hk⟩
theorem Ev.ex {α : Type} {f : Nat → Option α} {r : α} (h : Ev f r) : ∃ k, f k = some r := by
  obtain ⟨K, h'⟩ := h
  exact ⟨K, h' K (Nat.le_refl _)⟩
theorem drop_nil' {α : Type} {l : List α} {i : Nat} (h : l.drop i = []) : l.length ≤ i := List.drop_eq_nil_iff.1 h
theorem drop_cons' {α : Type} {l : List α} {i : Nat} {x : α} {t : List α} (h : l.drop i = x :: t) : i < l.length ∧ l.drop (i + 1) = t ∧ (∀ d, l.getD i d = x) ∧ l.length = i + 1 + t.length := by
  have hl := congrArg List.length h
  rw [List.length_drop, List.length_cons] at hl
  refine ⟨by omega, ?_, fun d => ?_, by omega⟩
  · rw [← List.drop_drop, h]; rfl
  · have : l[i]? = some x := by rw [← List.head?_drop, h]; rfl
    rw [List.getD_eq_getElem?_getD, this]; rfl
theorem w64 {x : Int} (h0 : -9223372036854775808 ≤ x) (h1 : x ≤ 9223372036854775807) : wrap64 x = x := by unfold wrap64; omega
theorem w64s {i n : Nat} (h : i < n) (hn : n ≤ 9223372036854775807) : wrap64 ((i : Int) + 1) = ((i + 1 : Nat) : Int) := by rw [w64 (by omega) (by omega)]; rfl
theorem maxLen_eq : maxLen = 9223372036854775807 := rfl
theorem wf64 {n : Int} (h : (Lit.int .i64 n).wf = true) : (-9223372036854775808 : Int) ≤ n ∧ n ≤ 9223372036854775807 := by
  simp [Lit.wf, IntKind.min, IntKind.max, IntKind.signed, IntKind.bits] at h
  exact h
theorem ob {α β : Type} {o : Option α} {a : α} {f : α → Option β} (h : o = some a) : o.bind f = f a := by subst h; rfl

def inB (n a b : Int) : Bool := decide (a ≤ n ∧ n ≤ b)
theorem within_eq (n a b : Int) : impl_within.f n a b = some (inB n a b) := by
  unfold impl_within.f inB; split <;> simp <;> omega
theorem l1In_eq (n a b : Int) : spec_l1In.f n a b = some (inB n a b) := by
  unfold spec_l1In.f inB; split <;> simp <;> omega
def vRow (a b c : Int) : Bool := inB a 0 9 && inB b 0 99 && inB c 0 3
theorem impl_IsValidRow_eq (a b c : Int) : impl_IsValidRow.f a b c = some (vRow a b c) := by
  unfold impl_IsValidRow.f vRow
  rw [within_eq, within_eq, within_eq, ob rfl]
  cases inB a 0 9
  · simp
  · rw [if_pos rfl, ob rfl]; cases inB b 0 99 <;> simp
theorem spec_IsValidRow_eq (a b c : Int) : spec_IsValidRow.f a b c = some (vRow a b c) := by
  unfold spec_IsValidRow.f vRow
  rw [l1In_eq, l1In_eq, l1In_eq, ob rfl]
  cases inB a 0 9
  · simp
  · rw [if_pos rfl, ob rfl]; cases inB b 0 99 <;> simp
theorem rdR (l : List S73) (i : Nat) : rd_T73 l (i : Int) = l.getD i z73 := rfl
def vAll (l : List S73) : Bool := l.all fun x => vRow x.f0 x.f1 x.f2
theorem impl_allValid_l0 (l : List S73) (hl : l.length ≤ 1152921504606846975) : ∀ (s : List S73) (i : Nat), l.drop i = s → Ev (fun k => impl_allValid.l0 k (l.length : Int) (i : Int) l) (vAll s) := by
  intro s
  induction s with
  | nil =>
    intro i hd
    have := drop_nil' hd
    exact Ev.s (fun k => by rw [impl_allValid.l0]) (Ev.e (by omega) (Ev.p.r (by rfl)))
  | cons x t ih =>
    intro i hd
    obtain ⟨hi, hd', hx, -⟩ := drop_cons' hd
    refine Ev.s (fun k => by rw [impl_allValid.l0]) (Ev.t (by omega) (Ev.t (by omega) (Ev.t (by omega) ?_)))
    rw [rdR, hx]
    refine Ev.b (Ev.c (impl_IsValidRow_eq ..)) (Ev.i (fun h => ?_) (fun h => ?_))
    · rw [w64s hi (by omega)]
      exact (ih (i + 1) hd').r (by simp [vAll, h])
    · exact Ev.p.r (by simp [vAll, h])
theorem impl_allValid_ev (l : List S73) (hl : l.length ≤ 1152921504606846975) : Ev (fun k => impl_allValid.f k l) (vAll l) :=
  Ev.u (fun _ => rfl) (impl_allValid_l0 l hl l 0 rfl)
def vRows (l : List S73) : Bool := vAll l && decide (l.length ≤ 24)
theorem impl_AreValidRows_ev (l : List S73) (hl : l.length ≤ 1152921504606846975) : Ev (fun k => impl_AreValidRows.f k l) (vRows l) :=
  Ev.u (fun _ => rfl) (Ev.i (fun h => Ev.b (impl_allValid_ev l hl) (Ev.p.r (by simp [vRows]; omega))) (fun h => Ev.p.r (by simp [vRows]; omega)))
theorem spec_AreValidRows_l0 (l : List S73) (hl : l.length ≤ 1152921504606846975) : ∀ (s : List S73) (i : Nat), l.drop i = s → Ev (fun k => spec_AreValidRows.l0 k (i : Int) l) (vAll s && decide (l.length ≤ 24)) := by
  intro s
  induction s with
  | nil =>
    intro i hd
    have := drop_nil' hd
    exact Ev.s (fun k => by rw [spec_AreValidRows.l0]) (Ev.e (by omega) (Ev.p.r (by simp [vAll]; omega)))
  | cons x t ih =>
    intro i hd
    obtain ⟨hi, hd', hx, -⟩ := drop_cons' hd
    refine Ev.s (fun k => by rw [spec_AreValidRows.l0]) (Ev.t (by omega) (Ev.t (by omega) ?_))
    rw [rdR, hx]
    refine Ev.b (Ev.c (spec_IsValidRow_eq ..)) (Ev.i (fun h => ?_) (fun h => ?_))
    · rw [w64s hi (by omega)]
      exact (ih (i + 1) hd').r (by simp [vAll, h])
    · exact Ev.p.r (by simp [vAll, h])
theorem spec_AreValidRows_ev (l : List S73) (hl : l.length ≤ 1152921504606846975) : Ev (fun k => spec_AreValidRows.f k l) (vRows l) :=
  Ev.u (fun _ => rfl) (spec_AreValidRows_l0 l hl l 0 rfl)
theorem impl_clone_eq (l : List S73) (hl : l.length ≤ 5864062014805) : impl_clone.f l = some l := by
  unfold impl_clone.f; rw [if_pos hl]
def hBit (key level : Int) : Int := if inB level 0 3 && inB key 0 9 then andI (shrI (Int.tmod (key * 7) 16) level) 1 else 0
def hb (level : Int) (x : S73) : Bool := hBit x.f0 level == 0
theorem setP {α : Type} (pre : List α) (x y : α) (t : List α) : (pre ++ x :: t).set ((pre.length : Int)).toNat y = pre ++ y :: t := by
  rw [Int.toNat_natCast, List.set_append_right _ _ (Nat.le_refl _), Nat.sub_self]; rfl
theorem getP {α : Type} (pre : List α) (x d : α) (t : List α) : (pre ++ x :: t).getD ((pre.length : Int)).toNat d = x := by
  rw [Int.toNat_natCast, List.getD_eq_getElem?_getD, List.getElem?_append_right (Nat.le_refl _), Nat.sub_self]; rfl
theorem rdPRow (pre : List S73) (x : S73) (t : List S73) : rd_T73 (pre ++ x :: t) (pre.length : Int) = x := getP pre x z73 t
def mkRow : Int → List S73 → List S73
  | _, [] => []
  | k, _ :: l => ⟨k, k + 1, k + 1 + 1⟩ :: mkRow (k + 1 + 1 + 1) l
theorem mkRow_len : ∀ (k : Int) (l : List S73), (mkRow k l).length = l.length
  | _, [] => rfl
  | k, _ :: l => by rw [mkRow, List.length_cons, List.length_cons, mkRow_len]
theorem markRowS_l0 : ∀ (s pre : List S73) (k : Int), 0 ≤ k → k + 3 * s.length ≤ 4611686018427387904 → pre.length + s.length ≤ 4611686018427387904 → Ev (fun f => laws_markRowS.l0 f (pre ++ s) k (pre.length : Int)) (k + 3 * s.length, pre ++ mkRow k s) := by
  intro s
  induction s with
  | nil =>
    intro pre k h0 h1 h2
    exact Ev.s (fun f => by rw [laws_markRowS.l0]) (Ev.e (by simp) (Ev.p.r (by simp [mkRow])))
  | cons x t ih =>
    intro pre k h0 h1 h2
    rw [List.length_cons] at h1 h2
    refine Ev.s (fun f => by rw [laws_markRowS.l0]) (Ev.t (by simp; omega) (Ev.t (by omega) ?_))
    rw [w64 (x := k + 1) (by omega) (by omega)]
    rw [w64 (x := k + 1 + 1) (by omega) (by omega)]
    rw [w64 (x := k + 1 + 1 + 1) (by omega) (by omega)]
    rw [show wrap64 ((pre.length : Int) + 1) = ((pre.length + 1 : Nat) : Int) by rw [w64 (by omega) (by omega)]; rfl]
    refine Ev.b (Ev.c (congrArg some (setP pre _ _ t))) ?_
    refine Ev.t (by simp; omega) ?_
    simp only [rdPRow]
    refine Ev.b (Ev.c (congrArg some (setP pre _ _ t))) ?_
    refine Ev.t (by simp; omega) ?_
    simp only [rdPRow]
    refine Ev.b (Ev.c (congrArg some (setP pre _ _ t))) ?_
    have h := ih (pre ++ [(⟨k, k + 1, k + 1 + 1⟩ : S73)]) (k + 1 + 1 + 1) (by omega) (by omega) (by simp; omega)
    simp only [List.append_assoc, List.singleton_append, List.length_append, List.length_singleton] at h
    exact h.r (Prod.ext (by simp only [List.length_cons]; omega) rfl)
theorem markRowS_ev (l : List S73) (k : Int) (h0 : 0 ≤ k) (h1 : k + 3 * l.length ≤ 4611686018427387904) : Ev (fun f => laws_markRowS.f f l k) (k + 3 * l.length, mkRow k l) :=
  Ev.u (fun _ => rfl) (markRowS_l0 l [] k h0 h1 (by simp; omega))
theorem heldRowS_l0 (l : List S73) (hl : l.length ≤ 4611686018427387904) : ∀ (s : List S73) (i : Nat) (k : Int), l.drop i = mkRow k s → 0 ≤ k → k + 3 * s.length ≤ 4611686018427387904 → Ev (fun f => laws_heldRowS.l0 f k (i : Int) l) (k + 3 * s.length) := by
  intro s
  induction s with
  | nil =>
    intro i k hd h0 h1
    have := drop_nil' hd
    exact Ev.s (fun f => by rw [laws_heldRowS.l0]) (Ev.e (by omega) (Ev.p.r (by simp)))
  | cons x t ih =>
    intro i k hd h0 h1
    rw [List.length_cons] at h1
    rw [mkRow] at hd
    obtain ⟨hi, hd', hx, -⟩ := drop_cons' hd
    refine Ev.s (fun f => by rw [laws_heldRowS.l0]) (Ev.t (by omega) (Ev.t (by omega) ?_))
    rw [w64 (x := k + 1) (by omega) (by omega)]
    rw [w64 (x := k + 1 + 1) (by omega) (by omega)]
    rw [w64 (x := k + 1 + 1 + 1) (by omega) (by omega)]
    rw [rdR, hx, w64s hi (by omega)]
    exact Ev.t rfl (Ev.t rfl (Ev.t rfl ((ih (i + 1) (k + 1 + 1 + 1) hd' (by omega) (by omega)).r (by simp only [List.length_cons]; omega))))
theorem heldRowS_ev (l : List S73) (k : Int) (h0 : 0 ≤ k) (h1 : k + 3 * l.length ≤ 4611686018427387904) : Ev (fun f => laws_heldRowS.f f (mkRow k l) k) (k + 3 * l.length) :=
  Ev.u (fun _ => rfl) (heldRowS_l0 _ (by rw [mkRow_len]; omega) l 0 k rfl h0 h1)
theorem eqRow_refl (x : S73) : laws_eqRow.f x.f0 x.f1 x.f2 x.f0 x.f1 x.f2 = some true := by
  unfold laws_eqRow.f; simp
theorem eqRowS_l0 (l : List S73) (hl : l.length ≤ 4611686018427387904) : ∀ (s : List S73) (i : Nat), l.drop i = s → Ev (fun f => laws_eqRowS.l0 f (i : Int) l l) true := by
  intro s
  induction s with
  | nil =>
    intro i hd
    have := drop_nil' hd
    exact Ev.s (fun f => by rw [laws_eqRowS.l0]) (Ev.e (by omega) (Ev.p.r (by rfl)))
  | cons x t ih =>
    intro i hd
    obtain ⟨hi, hd', hx, -⟩ := drop_cons' hd
    refine Ev.s (fun f => by rw [laws_eqRowS.l0]) (Ev.t (by omega) (Ev.t (by omega) (Ev.t (by omega) ?_)))
    rw [rdR, hx, w64s hi (by omega)]
    exact Ev.b (Ev.c (eqRow_refl _)) <| Ev.t rfl (ih (i + 1) hd')
theorem eqRowS_ev (l : List S73) (hl : l.length ≤ 4611686018427387904) : Ev (fun f => laws_eqRowS.f f l l) true :=
  Ev.u (fun _ => rfl) (Ev.t rfl (eqRowS_l0 l hl l 0 rfl))
theorem rdLRow (l : List S75) (i : Nat) : rd_T75 l (i : Int) = l.getD i z75 := rfl
def cvRow (x : S75) : S73 := ⟨x.f0, x.f1, x.f2⟩
theorem toRow_eq (x : S75) : laws_toRow.f x.f0 x.f1 x.f2 = some (x.f0, x.f1, x.f2) := by unfold laws_toRow.f; rfl
theorem toRowS_l0 (l : List S75) (hl : l.length ≤ 4611686018427387904) : ∀ (s : List S75) (r pre : List S73), l.drop pre.length = s → r.length = s.length → Ev (fun f => laws_toRowS.l0 f (pre ++ r) (pre.length : Int) l) (pre ++ s.map cvRow) := by
  intro s
  induction s with
  | nil =>
    intro r pre hd hr
    have := drop_nil' hd
    have : r = [] := List.eq_nil_of_length_eq_zero hr
    subst this
    exact Ev.s (fun f => by rw [laws_toRowS.l0]) (Ev.e (by omega) (Ev.p.r (by simp)))
  | cons x t ih =>
    intro r pre hd hr
    obtain ⟨hi, hd', hx, -⟩ := drop_cons' hd
    cases r with
    | nil => simp at hr
    | cons y r =>
      refine Ev.s (fun f => by rw [laws_toRowS.l0]) (Ev.t (by omega) (Ev.t (by omega) ?_))
      rw [rdLRow, hx, w64s hi (by omega)]
      refine Ev.b (Ev.c (toRow_eq x)) (Ev.t (by simp; omega) (Ev.b (Ev.c (congrArg some (setP pre _ _ r))) ?_))
      have h := ih r (pre ++ [cvRow x]) (by rw [List.length_append, List.length_singleton]; exact hd') (by simpa using hr)
      simp only [List.append_assoc, List.singleton_append, List.length_append, List.length_singleton] at h
      exact h.r (by simp)
theorem toRowS_ev (l : List S75) (hl : l.length ≤ 1048576) : Ev (fun f => laws_toRowS.f f l) (l.map cvRow) := by
  refine Ev.u (fun _ => rfl) (Ev.t (by omega) (Ev.t (by simp; omega) ?_))
  have h := toRowS_l0 l (by omega) l (List.replicate l.length z73) [] rfl (by simp)
  simpa using h
theorem szRowS_neg (l : List S75) (n : Int) (h0 : 0 ≤ n) (h1 : n ≤ 1048576) (hl : l.length ≤ maxLen) (h : n - l.length < 0) : laws_szRowS.f l n = some (-1) := by
  have hl' : l.length ≤ 9223372036854775807 := hl
  unfold laws_szRowS.f
  rw [w64 (by omega) (by omega), if_pos h]
theorem szRowS_pos (l : List S75) (n : Int) (h0 : 0 ≤ n) (h1 : n ≤ 1048576) (h : ¬ n - l.length < 0) : laws_szRowS.f l n = some (n - l.length) := by
  unfold laws_szRowS.f
  rw [w64 (by omega) (by omega), if_neg h]
theorem vRows_len {l : List S73} (h : vRows l = true) : l.length ≤ 24 := by
  unfold vRows at h; rw [Bool.and_eq_true] at h; exact of_decide_eq_true h.2
theorem sum_mem {α : Type} (f : α → Nat) : ∀ {l : List α} {x : α}, x ∈ l → f x ≤ (l.map f).sum
  | y :: l, x, h => by
    rcases List.mem_cons.1 h with h | h
    · subst h; simp
    · have := sum_mem f h; simp; omega
theorem rdGT (l : List S80) (i : Nat) : rd_T80 l (i : Int) = l.getD i z80 := rfl
theorem rdPGT (pre : List S80) (x : S80) (t : List S80) : rd_T80 (pre ++ x :: t) (pre.length : Int) = x := getP pre x z80 t
def mk1G (k : Int) (t : S80) : S80 := ⟨mkRow k t.f0, k + 3 * t.f0.length⟩
def n1G (t : S80) : Int := 3 * t.f0.length + 1
def mkGT : Int → List S80 → List S80
  | _, [] => []
  | k, t :: l => mk1G k t :: mkGT (k + n1G t) l
def nGs (l : List S80) : Int := (l.map n1G).sum
theorem nGs_cons (t : S80) (l : List S80) : nGs (t :: l) = n1G t + nGs l := by simp [nGs]
theorem n1G_pos (t : S80) : 1 ≤ n1G t := by unfold n1G; omega
theorem nGs_pos : ∀ l : List S80, 0 ≤ nGs l
  | [] => by simp [nGs]
  | t :: l => by rw [nGs_cons]; have := n1G_pos t; have := nGs_pos l; omega
theorem mkGT_len : ∀ (k : Int) (l : List S80), (mkGT k l).length = l.length
  | _, [] => rfl
  | k, t :: l => by rw [mkGT, List.length_cons, List.length_cons, mkGT_len]
theorem markGroupTaskS_l0 : ∀ (s pre : List S80) (k : Int), 0 ≤ k → k + nGs s ≤ 4611686018427387904 → pre.length + s.length ≤ 4611686018427387904 → Ev (fun f => laws_markGroupTaskS.l0 f (pre ++ s) k (pre.length : Int)) (k + nGs s, pre ++ mkGT k s) := by
  intro s
  induction s with
  | nil =>
    intro pre k h0 h1 h2
    exact Ev.s (fun f => by rw [laws_markGroupTaskS.l0]) (Ev.e (by simp) (Ev.p.r (by simp [mkGT, nGs])))
  | cons x t ih =>
    intro pre k h0 h1 h2
    rw [nGs_cons] at h1
    rw [List.length_cons] at h2
    have hp := nGs_pos t
    have hx : n1G x = 3 * x.f0.length + 1 := rfl
    refine Ev.s (fun f => by rw [laws_markGroupTaskS.l0]) (Ev.t (by simp; omega) (Ev.t (by omega) ?_))
    simp only [rdPGT]
    refine Ev.b (markRowS_ev x.f0 k (by omega) (by omega)) (Ev.b (Ev.c (congrArg some (setP pre _ _ t))) (Ev.t (by simp; omega) ?_))
    simp only [rdPGT]
    refine Ev.b (Ev.c (congrArg some (setP pre _ _ t))) ?_
    rw [show wrap64 ((pre.length : Int) + 1) = ((pre.length + 1 : Nat) : Int) by rw [w64 (by omega) (by omega)]; rfl]
    rw [w64 (by omega) (by omega)]
    have h := ih (pre ++ [mk1G k x]) (k + n1G x) (by omega) (by omega) (by simp; omega)
    simp only [List.append_assoc, List.singleton_append, List.length_append, List.length_singleton] at h
    refine h.r' (fun f => ?_) (Prod.ext (by rw [nGs_cons]; show _ = _; simp only []; omega) rfl)
    rw [show k + n1G x = k + 3 * (x.f0.length : Int) + 1 by omega]
    rfl
theorem markGroupTaskS_ev (l : List S80) (k : Int) (h0 : 0 ≤ k) (h1 : k + nGs l ≤ 4611686018427387904) (h2 : l.length ≤ 1152921504606846975) : Ev (fun f => laws_markGroupTaskS.f f l k) (k + nGs l, mkGT k l) :=
  Ev.u (fun _ => rfl) (markGroupTaskS_l0 l [] k h0 h1 (by simp; omega))
theorem heldGroupTaskS_l0 (l : List S80) (hl : l.length ≤ 4611686018427387904) : ∀ (s : List S80) (i : Nat) (k : Int), l.drop i = mkGT k s → 0 ≤ k → k + nGs s ≤ 4611686018427387904 → Ev (fun f => laws_heldGroupTaskS.l0 f k (i : Int) l) (k + nGs s) := by
  intro s
  induction s with
  | nil =>
    intro i k hd h0 h1
    have := drop_nil' hd
    exact Ev.s (fun f => by rw [laws_heldGroupTaskS.l0]) (Ev.e (by omega) (Ev.p.r (by simp [nGs])))
  | cons x t ih =>
    intro i k hd h0 h1
    rw [nGs_cons] at h1
    rw [mkGT] at hd
    have hp := nGs_pos t
    have hx' : n1G x = 3 * x.f0.length + 1 := rfl
    obtain ⟨hi, hd', hx, -⟩ := drop_cons' hd
    refine Ev.s (fun f => by rw [laws_heldGroupTaskS.l0]) (Ev.t (by omega) (Ev.t (by omega) ?_))
    rw [rdGT, hx, w64s hi (by omega)]
    refine Ev.b (heldRowS_ev x.f0 k (by omega) (by omega)) (Ev.e (by omega) (Ev.t rfl ?_))
    rw [w64 (by omega) (by omega)]
    rw [show k + 3 * (x.f0.length : Int) + 1 = k + n1G x by omega]
    exact (ih (i + 1) (k + n1G x) hd' (by omega) (by omega)).r (by rw [nGs_cons]; omega)
theorem heldGroupTaskS_ev (l : List S80) (k : Int) (h0 : 0 ≤ k) (h1 : k + nGs l ≤ 4611686018427387904) (h2 : l.length ≤ 1152921504606846975) : Ev (fun f => laws_heldGroupTaskS.f f (mkGT k l) k) (k + nGs l) :=
  Ev.u (fun _ => rfl) (heldGroupTaskS_l0 _ (by rw [mkGT_len]; omega) l 0 k rfl h0 h1)
theorem eqGroupTask_ev (t : S80) (h : t.f0.length ≤ 4611686018427387904) : Ev (fun k => laws_eqGroupTask.f k t.f0 t.f1 t.f0 t.f1) true :=
  Ev.u (fun _ => rfl) (Ev.b (eqRowS_ev _ h) (Ev.t rfl (Ev.t rfl Ev.p)))
theorem eqGroupTaskS_l0 (l : List S80) (hl : l.length ≤ 4611686018427387904) (ht : ∀ t ∈ l, t.f0.length ≤ 4611686018427387904) : ∀ (s : List S80) (i : Nat), l.drop i = s → Ev (fun f => laws_eqGroupTaskS.l0 f (i : Int) l l) true := by
  intro s
  induction s with
  | nil =>
    intro i hd
    have := drop_nil' hd
    exact Ev.s (fun f => by rw [laws_eqGroupTaskS.l0]) (Ev.e (by omega) (Ev.p.r (by rfl)))
  | cons x t ih =>
    intro i hd
    obtain ⟨hi, hd', hx, -⟩ := drop_cons' hd
    have hm : x ∈ l := List.mem_of_mem_drop (by rw [hd]; exact List.mem_cons_self ..)
    refine Ev.s (fun f => by rw [laws_eqGroupTaskS.l0]) (Ev.t (by omega) (Ev.t (by omega) (Ev.t (by omega) ?_)))
    rw [rdGT, hx, w64s hi (by omega)]
    exact Ev.b (eqGroupTask_ev x (ht x hm)) (Ev.t rfl (ih (i + 1) hd'))
theorem eqGroupTaskS_ev (l : List S80) (hl : l.length ≤ 4611686018427387904) (ht : ∀ t ∈ l, t.f0.length ≤ 4611686018427387904) : Ev (fun f => laws_eqGroupTaskS.f f l l) true :=
  Ev.u (fun _ => rfl) (Ev.t rfl (eqGroupTaskS_l0 l hl ht l 0 rfl))
def asz (a : S40) : Nat := a.f0.length + (a.f0.map fun t => t.f0.length).sum
theorem asz_mem {a : S40} {t : S80} (h : t ∈ a.f0) : t.f0.length ≤ asz a := by have := sum_mem (fun t : S80 => t.f0.length) h; unfold asz; omega
theorem nGs_eq : ∀ l : List S80, nGs l = 3 * ((l.map fun t => t.f0.length).sum : Nat) + l.length
  | [] => by simp [nGs]
  | t :: l => by
    rw [nGs_cons, nGs_eq l, List.map_cons, List.sum_cons, List.length_cons]
    unfold n1G; omega
theorem nGs_b (a : S40) : 0 ≤ nGs a.f0 ∧ nGs a.f0 ≤ 3 * asz a := by
  rw [nGs_eq]; unfold asz; omega
theorem eqAggregator_ev (a : S40) (h : asz a ≤ 4611686018427387904) : Ev (fun k => laws_eqAggregator.f k a.f0 a.f1 a.f2 a.f0 a.f1 a.f2) true := by
  have hl : a.f0.length ≤ asz a := by unfold asz; omega
  exact Ev.u (fun _ => rfl) (Ev.b (eqGroupTaskS_ev _ (by omega) (fun t ht => by have := asz_mem ht; omega)) (Ev.t rfl (Ev.t rfl (Ev.t (by simp) Ev.p))))
theorem markAggregator_ev (a : S40) (k : Int) (h0 : 0 ≤ k) (h1 : k + 3 * asz a ≤ 1152921504606846975) : Ev (fun f => laws_markAggregator.f f a.f0 a.f1 a.f2 k) (k + nGs a.f0, mkGT k a.f0) := by
  have hl : a.f0.length ≤ asz a := by unfold asz; omega
  have hb := nGs_b a
  exact Ev.u (fun _ => rfl) (Ev.b (markGroupTaskS_ev _ k h0 (by omega) (by omega)) Ev.p)
theorem heldAggregator_ev (a : S40) (k : Int) (u : Int) (b : Bool) (h0 : 0 ≤ k) (h1 : k + 3 * asz a ≤ 1152921504606846975) : Ev (fun f => laws_heldAggregator.f f (mkGT k a.f0) u b k) (k + nGs a.f0) := by
  have hl : a.f0.length ≤ asz a := by unfold asz; omega
  have hb := nGs_b a
  exact Ev.u (fun _ => rfl) (Ev.b (heldGroupTaskS_ev _ k h0 (by omega) (by omega)) (Ev.e (by omega) Ev.p))
def newA (l : List S73) (e : Bool) : S40 := if vRows l = true then ⟨[⟨l, 0⟩], 0, e⟩ else ⟨[], 0, false⟩
theorem impl_NewAggregator_ev (l : List S73) (e : Bool) (hl : l.length ≤ 1099511627776) : Ev (fun k => impl_NewAggregator.f k l e) ((newA l e).f0, (newA l e).f1, (newA l e).f2, vRows l) := by
  unfold newA
  refine Ev.u (fun _ => rfl) (Ev.b (impl_AreValidRows_ev l (by omega)) (Ev.i (fun h => ?_) (fun h => Ev.p.r (by simp [h]))))
  exact Ev.b (Ev.c (impl_clone_eq l (by omega))) (Ev.p.r (by simp [h]))
theorem spec_NewAggregator_ev (l : List S73) (e : Bool) (hl : l.length ≤ 1099511627776) : Ev (fun k => spec_NewAggregator.f k l e) ((newA l e).f0, (newA l e).f1, (newA l e).f2, vRows l) := by
  unfold newA
  refine Ev.u (fun _ => rfl) (Ev.b (spec_AreValidRows_ev l (by omega)) (Ev.i (fun h => ?_) (fun h => Ev.p.r (by simp [h]))))
  exact Ev.t (by omega) (Ev.p.r (by simp [h]))
theorem newA_sz (l : List S73) (e : Bool) : asz (newA l e) ≤ 25 := by
  unfold newA
  split
  · rename_i h; have := vRows_len h; simp [asz]; omega
  · simp [asz]

theorem pure_FnExactNewAggregator (l0 : List S75) (a1 : Bool) (G0 : (l0.length ≤ maxLen ∧ ∀ y ∈ l0, good75 y)) : ∃ k, laws_FnExactNewAggregator.f k l0 a1 = some true := by
  have g1 := G0.1
  refine Ev.ex ?_
  by_cases s1 : (1048576 : Int) - l0.length < 0
  · exact Ev.u (fun _ => rfl) (Ev.b (Ev.c (szRowS_neg l0 _ (by omega) (by omega) g1 s1)) (Ev.t (by omega) Ev.p))
  refine Ev.u (fun _ => rfl) (Ev.b (Ev.c (szRowS_pos l0 _ (by omega) (by omega) s1)) (Ev.e s1 ?_))
  have t1 := toRowS_ev l0 (by omega)
  have n1 : (l0.map cvRow).length ≤ 1048576 := by rw [List.length_map]; omega
  generalize l0.map cvRow = A at *
  have es := spec_NewAggregator_ev A a1 (by omega)
  have ei := impl_NewAggregator_ev A a1 (by omega)
  have zj := newA_sz A a1
  generalize newA A a1 = J at *
  have nj := nGs_b J
  have qj := eqAggregator_ev J (by omega)
  have qa := eqRowS_ev A (by omega)
  have mA := markRowS_ev A 1 (by omega) (by omega)
  have mJ := markAggregator_ev J 1 (by omega) (by omega)
  have dJ := heldAggregator_ev J 1 J.f1 J.f2 (by omega) (by omega)
  refine Ev.b t1 (Ev.b es (Ev.b t1 (Ev.b ei (Ev.b qj (Ev.t rfl (Ev.t (by simp) ?_))))))
  refine Ev.b t1 (Ev.b qa (Ev.t rfl (Ev.b mA (Ev.e (by simp only []; omega) ?_))))
  refine Ev.b qj (Ev.t rfl (Ev.b mJ (Ev.b dJ (Ev.e (by omega) (Ev.t rfl ?_)))))
  refine Ev.b t1 (Ev.b ei (Ev.b qj (Ev.t rfl (Ev.t (by simp) ?_))))
  exact Ev.b dJ (Ev.e (by omega) (Ev.t rfl Ev.p))

end Go.Proofs.Ytoncjohnkiilcaa.K
namespace Go.Proofs.Ytoncjohnkiilcaa.fnExactNewAggregator
open Go Go.ChangeShapes Go.WideShapes Go.ChangeAt Go.RowKit Go.Proofs.Ytoncjohnkiilcaa.K
open Go.ChangeMaps (open_string shut_string)
set_option linter.unusedVariables false
theorem own : ownKnob Try.prog.godebug = none := by kernel_rfl
theorem laidOut : laidOutB Try.prog = true := by kernel_rfl
set_option maxRecDepth 100000 in
theorem lifted (os : Os) (started : os.Started) (H : Type) (enc : TypeId × Value → H) :
    ReturnsInHanded {} Try.checked os 6 .any (Rows.fnExactNewAggregatorSpec.pre6 enc Try.prog Try.f6 Rows.fnExactNewAggregatorRow.domain false) (Rows.fnExactNewAggregatorSpec.post enc Try.prog Try.f6 false true false false) := by
  refine returnsInHanded_of_change_sized (C := Try.checked) own started (by kernel_rfl) Try.func6
    (ChangeSpec.witness6 (enc := enc) (C := Try.checked) false ⟨#[], #[.slice none 0 0, .bool false], []⟩ 8 (by kernel_rfl) (by kernel_rfl) (by kernel_rfl) (by kernel_rfl)) ?_
  intro W base args ds gs before hval0 hW hcnd hsz0 _
  have hsz : (DataW.weightsEach Try.prog (Try.f6.params.toList ++ Rows.fnExactNewAggregatorSpec.plain.varTypes Try.prog) (ds ++ gs)).all (· ≤ reachBytes) = true := hsz0
  have hval : ∀ (j : Nat) t v, Try.f6.params[j]? = some t → args[j]? = some v → Value.okWide Try.prog W .any base t v := hval0
  have hW' := hW
  obtain ⟨p, q, hA0, hV, rfl, hfz, hnd⟩ := hW
  have hA : DataW.TrodAll enc Try.prog W 0 (fun _ => true) true Try.f6.params.toList args.toList ds p := hA0
  rw [Try.params6] at hA hval hsz
  obtain ⟨v0, vs0, d0, ds0, p0, q0, hargs, rfl, rfl, h0, r0⟩ := trodAll_cons hA
  obtain ⟨v1, vs1, d1, ds1, p1, q1, rfl, rfl, rfl, h1, r1⟩ := trodAll_cons r0
  obtain ⟨rfl, rfl, rfl⟩ := trodAll_nil r1
  obtain rfl : args = #[v0, v1] := by cases args; simp_all
  obtain ⟨rfl, rfl⟩ := trodVars_none hV
  have k0 := h0
  have lt0 : ∀ x ∈ p0, x.block < W.heap.size := by obtain ⟨m, hm⟩ := k0; exact DataW.trod_lt m _ _ _ hm
  obtain ⟨A0, len0, c0, rfl⟩ := okWide_slice Try.underlying22 (hval 0 22 v0 rfl rfl)
  obtain ⟨l0, rfl, F0, G0⟩ := slice_arg (opens_slice Try.underlying22 (by kernel_rfl) (by kernel_rfl) open75) h0
  obtain ⟨a1, rfl, rfl, rfl⟩ := open_bool Try.underlying4 (hval 1 4 v1 rfl rfl) h1
  clear hA0 hval0 hsz0 hsz
  obtain ⟨k, hk⟩ := K.pure_FnExactNewAggregator l0 a1 G0
  refine (law_calls (laws_FnExactNewAggregator.ok k l0 A0 c0 a1 true hk) (facts_app F0 facts_nil)).mono fun e W' he => ?_
  obtain ⟨rfl, bel⟩ := he
  exact ⟨_, rfl, _, _, _, [], _, [], hW', trodAll_mk1 (shut_bool Try.underlying4 _), (trodAll_cons_mk (Below.trod laidOut (by kernel_rfl) (of_decide_eq_true (by kernel_rfl)) k0 bel lt0) (trodAll_cons_mk (shut_bool Try.underlying4 _) trodAll_mk0)), rfl, bel.frame _, fun h => by cases h⟩
theorem over : Rows.fnExactNewAggregatorRow.holds Try.pinned (OpenSpec.ofChange Rows.fnExactNewAggregatorSpec) :=
  OpenClaim.holds_of_wide 6 Try.f6 rfl rfl rfl rfl rfl rfl rfl ⟨rfl, rfl, rfl, rfl, rfl⟩ rfl rfl rfl rfl rfl (by kernel_rfl) Try.func6 (by kernel_rfl)
    (of_decide_eq_true (by kernel_rfl)) (by unfold Func.isWrapper; first | (rw [if_pos (by decide +kernel)]; kernel_rfl) | (rw [if_neg (by decide +kernel)]; exact ⟨rfl, rfl⟩))
    (fun os started H enc _ => lifted os started H enc)
theorem proved : Rows.FnExactNewAggregatorSaid := over
#print axioms proved
end Go.Proofs.Ytoncjohnkiilcaa.fnExactNewAggregator
namespace Go.Proofs.Ytoncjohnkiilcaa
/-- The row, under a short name, for the claim. -/
theorem fnExactNewAggregator_holds : Rows.FnExactNewAggregatorSaid := fnExactNewAggregator.proved
end Go.Proofs.Ytoncjohnkiilcaa
