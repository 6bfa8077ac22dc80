/- FnExactRunGroup answers true at every input. -/
import Derived.Below
import Derived.Carry
import Derived.ChangeOld
import Derived.OpenShut
import Derived.ProofKit
import Derived.ShutString
import Derived.SizedLaws
import Derived.Test.YtoncjohnkiilcaaChecked
import Derived.Test.YtoncjohnkiilcaaRows
import Derived.WalkKit
import Derived.Test.YtoncjohnkiilcaaVFnExactRunGroupb
namespace Go.Proofs.Ytoncjohnkiilcaa.K
open Go Go.RowKit
set_option linter.unusedVariables false
set_option linter.unusedSimpArgs false
def Ev {α : Type} (f : Nat → Option α) (r : α) : Prop := ∃ K, ∀ k, K ≤ k → f k = some r
theorem Ev.p {α : Type} {r : α} : Ev (fun _ => some r) r := ⟨0, fun _ _ => rfl⟩
theorem Ev.c {α : Type} {o : Option α} {r : α} (h : o = some r) : Ev (fun _ => o) r := ⟨0, fun _ _ => h⟩
theorem Ev.b {α β : Type} {f : Nat → Option α} {g : Nat → α → Option β} {a : α} {r : β} (hf : Ev f a) (hg : Ev (fun k => g k a) r) : Ev (fun k => (f k).bind (g k)) r := by
  obtain ⟨K, h⟩ := hf; obtain ⟨L, h'⟩ := hg
  exact ⟨max K L, fun k hk => by show (f k).bind (g k) = some r; rw [h k (by omega)]; exact h' k (by omega)⟩
theorem Ev.t {α : Type} {p : Prop} [Decidable p] {f g : Nat → Option α} {r : α} (h : p) (hf : Ev f r) : Ev (fun k => if p then f k else g k) r := by
  obtain ⟨K, h'⟩ := hf
  exact ⟨K, fun k hk => by show (if p then f k else g k) = some r; rw [if_pos h]; exact h' k hk⟩
theorem Ev.e {α : Type} {p : Prop} [Decidable p] {f g : Nat → Option α} {r : α} (h : ¬ p) (hg : Ev g r) : Ev (fun k => if p then f k else g k) r := by
  obtain ⟨K, h'⟩ := hg
  exact ⟨K, fun k hk => by show (if p then f k else g k) = some r; rw [if_neg h]; exact h' k hk⟩
theorem Ev.i {α : Type} {p : Prop} [Decidable p] {f g : Nat → Option α} {r : α} (hf : p → Ev f r) (hg : ¬ p → Ev g r) : Ev (fun k => if p then f k else g k) r := by
  by_cases h : p
  · exact Ev.t h (hf h)
  · exact Ev.e h (hg h)
theorem Ev.s {α : Type} {L f : Nat → Option α} {r : α} (h : ∀ k, L (k + 1) = f k) (hf : Ev f r) : Ev L r := by
  obtain ⟨K, h'⟩ := hf
  refine ⟨K + 1, fun k hk => ?_⟩
  obtain ⟨m, rfl⟩ : ∃ m, k = m + 1 := ⟨k - 1, by omega⟩
  rw [h]; exact h' m (by omega)
theorem Ev.u {α : Type} {L f : Nat → Option α} {r : α} (h : ∀ k, L k = f k) (hf : Ev f r) : Ev L r := by
  obtain ⟨K, h'⟩ := hf
  exact ⟨K, fun k hk => by rw [h]; exact h' k hk⟩
theorem Ev.r {α : Type} {f : Nat → Option α} {r r' : α} (h : Ev f r) (e : r = r') : Ev f r' := e ▸ h
theorem Ev.r' {α : Type} {f g : Nat → Option α} {r r' : α} (h : Ev f r) (e1 : ∀ k, f k = g k) (e : r = r') : Ev g r' := by
  subst e; obtain ⟨K, h'⟩ := h
  exact ⟨K, fun k hk => by rw [← e1]; exact h' k hk⟩
theorem Ev.ex {α : Type} {f : Nat → Option α} {r : α} (h : Ev f r) : ∃ k, f k = some r := by
  obtain ⟨K, h'⟩ := h
  exact ⟨K, h' K (Nat.le_refl _)⟩
theorem drop_nil' {α : Type} {l : List α} {i : Nat} (h : l.drop i = []) : l.length ≤ i := List.drop_eq_nil_iff.1 h
theorem drop_cons' {α : Type} {l : List α} {i : Nat} {x : α} {t : List α} (h : l.drop i = x :: t) : i < l.length ∧ l.drop (i + 1) = t ∧ (∀ d, l.getD i d = x) ∧ l.length = i + 1 + t.length := by
  have hl := congrArg List.length h
  rw [List.length_drop, List.length_cons] at hl
  refine ⟨by omega, ?_, fun d => ?_, by omega⟩
  · rw [← List.drop_drop, h]; rfl
  · have : l[i]? = some x := by rw [← List.head?_drop, h]; rfl
    rw [List.getD_eq_getElem?_getD, this]; rfl
theorem w64 {x : Int} (h0 : -9223372036854775808 ≤ x) (h1 : x ≤ 9223372036854775807) : wrap64 x = x := by unfold wrap64; omega
theorem w64s {i n : Nat} (h : i < n) (hn : n ≤ 9223372036854775807) : wrap64 ((i : Int) + 1) = ((i + 1 : Nat) : Int) := by rw [w64 (by omega) (by omega)]; rfl
theorem maxLen_eq : maxLen = 9223372036854775807 := rfl
theorem wf64 {n : Int} (h : (Lit.int .i64 n).wf = true) : (-9223372036854775808 : Int) ≤ n ∧ n ≤ 9223372036854775807 := by
  simp [Lit.wf, IntKind.min, IntKind.max, IntKind.signed, IntKind.bits] at h
  exact h
theorem ob {α β : Type} {o : Option α} {a : α} {f : α → Option β} (h : o = some a) : o.bind f = f a := by subst h; rfl

def inB (n a b : Int) : Bool := decide (a ≤ n ∧ n ≤ b)
theorem within_eq (n a b : Int) : impl_within.f n a b = some (inB n a b) := by
  unfold impl_within.f inB; split <;> simp <;> omega
theorem l1In_eq (n a b : Int) : spec_l1In.f n a b = some (inB n a b) := by
  unfold spec_l1In.f inB; split <;> simp <;> omega
def vRow (a b c : Int) : Bool := inB a 0 9 && inB b 0 99 && inB c 0 3
theorem impl_IsValidRow_eq (a b c : Int) : impl_IsValidRow.f a b c = some (vRow a b c) := by
  unfold impl_IsValidRow.f vRow
  rw [within_eq, within_eq, within_eq, ob rfl]
  cases inB a 0 9
  · simp
  · rw [if_pos rfl, ob rfl]; cases inB b 0 99 <;> simp
theorem spec_IsValidRow_eq (a b c : Int) : spec_IsValidRow.f a b c = some (vRow a b c) := by
  unfold spec_IsValidRow.f vRow
  rw [l1In_eq, l1In_eq, l1In_eq, ob rfl]
  cases inB a 0 9
  · simp
  · rw [if_pos rfl, ob rfl]; cases inB b 0 99 <;> simp
def cRow (x : S73) : Int := if vRow x.f0 x.f1 x.f2 = true then 1 + x.f2 else 0
theorem cRow_b (x : S73) : 0 ≤ cRow x ∧ cRow x ≤ 4 := by
  unfold cRow
  by_cases h : vRow x.f0 x.f1 x.f2 = true
  · rw [if_pos h]; simp [vRow, inB] at h; omega
  · rw [if_neg h]; omega
theorem impl_RowCost_eq (x : S73) : impl_RowCost.f x.f0 x.f1 x.f2 = some (cRow x) := by
  unfold impl_RowCost.f cRow
  rw [impl_IsValidRow_eq, ob rfl]
  by_cases h : vRow x.f0 x.f1 x.f2 = true
  · rw [if_pos h, if_pos h]; simp [vRow, inB] at h; rw [w64 (by omega) (by omega)]
  · rw [if_neg h, if_neg h]
theorem spec_RowCost_eq (x : S73) : spec_RowCost.f x.f0 x.f1 x.f2 = some (cRow x) := by
  unfold spec_RowCost.f cRow
  rw [spec_IsValidRow_eq, ob rfl]
  by_cases h : vRow x.f0 x.f1 x.f2 = true
  · rw [if_pos h, if_pos h]; simp [vRow, inB] at h; rw [w64 (by omega) (by omega)]
  · rw [if_neg h, if_neg h]
def tCost (l : List S73) : Int := (l.map cRow).sum
theorem tCost_cons (x : S73) (l : List S73) : tCost (x :: l) = cRow x + tCost l := by simp [tCost]
theorem tCost_b : ∀ l : List S73, 0 ≤ tCost l ∧ tCost l ≤ 4 * l.length
  | [] => by simp [tCost]
  | x :: l => by have := tCost_b l; have := cRow_b x; rw [tCost_cons, List.length_cons]; omega
theorem rdR (l : List S73) (i : Nat) : rd_T73 l (i : Int) = l.getD i z73 := rfl
theorem impl_TotalCost_l0 (l : List S73) (hl : l.length ≤ 1152921504606846975) : ∀ (s : List S73) (i : Nat) (acc : Int), l.drop i = s → 0 ≤ acc → acc ≤ 4 * i → Ev (fun k => impl_TotalCost.l0 k acc (l.length : Int) (i : Int) l) (acc + tCost s) := by
  intro s
  induction s with
  | nil =>
    intro i acc hd h0 h1
    have := drop_nil' hd
    exact Ev.s (fun k => by rw [impl_TotalCost.l0]) (Ev.e (by omega) (Ev.p.r (by simp [tCost])))
  | cons x t ih =>
    intro i acc hd h0 h1
    obtain ⟨hi, hd', hx, -⟩ := drop_cons' hd
    have := cRow_b x
    refine Ev.s (fun k => by rw [impl_TotalCost.l0]) (Ev.t (by omega) (Ev.t (by omega) (Ev.t (by omega) ?_)))
    rw [rdR, hx]
    refine Ev.b (Ev.c (impl_RowCost_eq x)) ?_
    rw [w64s hi (by omega), w64 (by omega) (by omega)]
    exact (ih (i + 1) (acc + cRow x) hd' (by omega) (by omega)).r (by rw [tCost_cons]; omega)
theorem impl_TotalCost_ev (l : List S73) (hl : l.length ≤ 1152921504606846975) : Ev (fun k => impl_TotalCost.f k l) (tCost l) :=
  Ev.u (fun _ => rfl) ((impl_TotalCost_l0 l hl l 0 0 rfl (by omega) (by omega)).r (by omega))
theorem spec_TotalCost_l0 (l : List S73) (hl : l.length ≤ 1152921504606846975) : ∀ (s : List S73) (i : Nat) (acc : Int), l.drop i = s → 0 ≤ acc → acc ≤ 4 * i → Ev (fun k => spec_TotalCost.l0 k acc (i : Int) l) (acc + tCost s) := by
  intro s
  induction s with
  | nil =>
    intro i acc hd h0 h1
    have := drop_nil' hd
    exact Ev.s (fun k => by rw [spec_TotalCost.l0]) (Ev.e (by omega) (Ev.p.r (by simp [tCost])))
  | cons x t ih =>
    intro i acc hd h0 h1
    obtain ⟨hi, hd', hx, -⟩ := drop_cons' hd
    have := cRow_b x
    refine Ev.s (fun k => by rw [spec_TotalCost.l0]) (Ev.t (by omega) (Ev.t (by omega) ?_))
    rw [rdR, hx]
    refine Ev.b (Ev.c (spec_RowCost_eq x)) ?_
    rw [w64s hi (by omega), w64 (by omega) (by omega)]
    exact (ih (i + 1) (acc + cRow x) hd' (by omega) (by omega)).r (by rw [tCost_cons]; omega)
theorem spec_TotalCost_ev (l : List S73) (hl : l.length ≤ 1152921504606846975) : Ev (fun k => spec_TotalCost.f k l) (tCost l) :=
  Ev.u (fun _ => rfl) ((spec_TotalCost_l0 l hl l 0 0 rfl (by omega) (by omega)).r (by omega))
def vAll (l : List S73) : Bool := l.all fun x => vRow x.f0 x.f1 x.f2
theorem impl_allValid_l0 (l : List S73) (hl : l.length ≤ 1152921504606846975) : ∀ (s : List S73) (i : Nat), l.drop i = s → Ev (fun k => impl_allValid.l0 k (l.length : Int) (i : Int) l) (vAll s) := by
  intro s
  induction s with
  | nil =>
    intro i hd
    have := drop_nil' hd
    exact Ev.s (fun k => by rw [impl_allValid.l0]) (Ev.e (by omega) (Ev.p.r (by rfl)))
  | cons x t ih =>
    intro i hd
    obtain ⟨hi, hd', hx, -⟩ := drop_cons' hd
    refine Ev.s (fun k => by rw [impl_allValid.l0]) (Ev.t (by omega) (Ev.t (by omega) (Ev.t (by omega) ?_)))
    rw [rdR, hx]
    refine Ev.b (Ev.c (impl_IsValidRow_eq ..)) (Ev.i (fun h => ?_) (fun h => ?_))
    · rw [w64s hi (by omega)]
      exact (ih (i + 1) hd').r (by simp [vAll, h])
    · exact Ev.p.r (by simp [vAll, h])
theorem impl_allValid_ev (l : List S73) (hl : l.length ≤ 1152921504606846975) : Ev (fun k => impl_allValid.f k l) (vAll l) :=
  Ev.u (fun _ => rfl) (impl_allValid_l0 l hl l 0 rfl)
def vRows (l : List S73) : Bool := vAll l && decide (l.length ≤ 24)
theorem impl_AreValidRows_ev (l : List S73) (hl : l.length ≤ 1152921504606846975) : Ev (fun k => impl_AreValidRows.f k l) (vRows l) :=
  Ev.u (fun _ => rfl) (Ev.i (fun h => Ev.b (impl_allValid_ev l hl) (Ev.p.r (by simp [vRows]; omega))) (fun h => Ev.p.r (by simp [vRows]; omega)))
theorem spec_AreValidRows_l0 (l : List S73) (hl : l.length ≤ 1152921504606846975) : ∀ (s : List S73) (i : Nat), l.drop i = s → Ev (fun k => spec_AreValidRows.l0 k (i : Int) l) (vAll s && decide (l.length ≤ 24)) := by
  intro s
  induction s with
  | nil =>
    intro i hd
    have := drop_nil' hd
    exact Ev.s (fun k => by rw [spec_AreValidRows.l0]) (Ev.e (by omega) (Ev.p.r (by simp [vAll]; omega)))
  | cons x t ih =>
    intro i hd
    obtain ⟨hi, hd', hx, -⟩ := drop_cons' hd
    refine Ev.s (fun k => by rw [spec_AreValidRows.l0]) (Ev.t (by omega) (Ev.t (by omega) ?_))
    rw [rdR, hx]
    refine Ev.b (Ev.c (spec_IsValidRow_eq ..)) (Ev.i (fun h => ?_) (fun h => ?_))
    · rw [w64s hi (by omega)]
      exact (ih (i + 1) hd').r (by simp [vAll, h])
    · exact Ev.p.r (by simp [vAll, h])
theorem spec_AreValidRows_ev (l : List S73) (hl : l.length ≤ 1152921504606846975) : Ev (fun k => spec_AreValidRows.f k l) (vRows l) :=
  Ev.u (fun _ => rfl) (spec_AreValidRows_l0 l hl l 0 rfl)
theorem impl_clone_eq (l : List S73) (hl : l.length ≤ 5864062014805) : impl_clone.f l = some l := by
  unfold impl_clone.f; rw [if_pos hl]
def hBit (key level : Int) : Int := if inB level 0 3 && inB key 0 9 then andI (shrI (Int.tmod (key * 7) 16) level) 1 else 0
theorem spec_HashBit_eq (a b : Int) : spec_HashBit.f a b = some (hBit a b) := by
  unfold spec_HashBit.f hBit
  rw [l1In_eq, l1In_eq, ob rfl]
  by_cases h1 : inB b 0 3 = true
  · rw [if_pos h1, ob rfl]
    by_cases h2 : inB a 0 9 = true
    · rw [if_pos h2]; simp [inB] at h1 h2; rw [if_pos (by omega), w64 (by omega) (by omega)]; simp [inB]; omega
    · rw [if_neg h2]; simp at h2; simp [h2]
  · rw [if_neg h1]; simp at h1; simp [h1]
theorem impl_HashBit_eq (a b : Int) : impl_HashBit.f a b = some (hBit a b) := by
  unfold impl_HashBit.f hBit
  rw [within_eq, within_eq, ob rfl]
  by_cases h1 : inB b 0 3 = true
  · rw [if_pos h1, ob rfl]
    by_cases h2 : inB a 0 9 = true
    · rw [if_pos h2, Int.mul_comm]; simp [inB] at h1 h2; rw [if_pos (by omega), w64 (by omega) (by omega)]; simp [inB]; omega
    · rw [if_neg h2]; simp at h2; simp [h2]
  · rw [if_neg h1]; simp at h1; simp [h1]
def hb (level : Int) (x : S73) : Bool := hBit x.f0 level == 0
def spl0 (level : Int) (l : List S73) : List S73 := l.filter (hb level)
def spl1 (level : Int) (l : List S73) : List S73 := l.filter fun x => !hb level x
theorem impl_SplitByHashBit_l0 (l : List S73) (v : Int) (hl : l.length ≤ 1099511627776) : ∀ (s : List S73) (i : Nat) (a b : List S73), l.drop i = s → a.length ≤ i → b.length ≤ i → Ev (fun k => impl_SplitByHashBit.l0 k v a b (l.length : Int) (i : Int) l) (a ++ spl0 v s, b ++ spl1 v s) := by
  intro s
  induction s with
  | nil =>
    intro i a b hd ha hb
    have := drop_nil' hd
    exact Ev.s (fun k => by rw [impl_SplitByHashBit.l0]) (Ev.e (by omega) (Ev.p.r (by simp [spl0, spl1])))
  | cons x t ih =>
    intro i a b hd ha hbb
    obtain ⟨hi, hd', hx, -⟩ := drop_cons' hd
    refine Ev.s (fun k => by rw [impl_SplitByHashBit.l0]) (Ev.t (by omega) (Ev.t (by omega) (Ev.t (by omega) ?_)))
    rw [rdR, hx, w64s hi (by omega)]
    refine Ev.b (Ev.c (impl_HashBit_eq ..)) (Ev.i (fun h => ?_) (fun h => ?_))
    · exact Ev.t (by omega) ((ih (i + 1) _ _ hd' (by simp; omega) (by omega)).r (by simp [spl0, spl1, hb, h]))
    · exact Ev.t (by omega) ((ih (i + 1) _ _ hd' (by omega) (by simp; omega)).r (by simp [spl0, spl1, hb, h]))
theorem impl_SplitByHashBit_ev (l : List S73) (v : Int) (hl : l.length ≤ 1099511627776) : Ev (fun k => impl_SplitByHashBit.f k l v) (spl0 v l, spl1 v l) :=
  Ev.u (fun _ => rfl) (impl_SplitByHashBit_l0 l v hl l 0 [] [] rfl (by simp) (by simp))
theorem spec_SplitByHashBit_l0 (l : List S73) (v : Int) (hl : l.length ≤ 1099511627776) : ∀ (s : List S73) (i : Nat) (a b : List S73), l.drop i = s → a.length ≤ i → b.length ≤ i → Ev (fun k => spec_SplitByHashBit.l0 k v a b (i : Int) l) (a ++ spl0 v s, b ++ spl1 v s) := by
  intro s
  induction s with
  | nil =>
    intro i a b hd ha hb
    have := drop_nil' hd
    exact Ev.s (fun k => by rw [spec_SplitByHashBit.l0]) (Ev.e (by omega) (Ev.p.r (by simp [spl0, spl1])))
  | cons x t ih =>
    intro i a b hd ha hbb
    obtain ⟨hi, hd', hx, -⟩ := drop_cons' hd
    refine Ev.s (fun k => by rw [spec_SplitByHashBit.l0]) (Ev.t (by omega) (Ev.t (by omega) ?_))
    rw [rdR, hx, w64s hi (by omega)]
    refine Ev.b (Ev.c (spec_HashBit_eq ..)) (Ev.i (fun h => ?_) (fun h => ?_))
    · exact Ev.t (by omega) ((ih (i + 1) _ _ hd' (by simp; omega) (by omega)).r (by simp [spl0, spl1, hb, h]))
    · exact Ev.t (by omega) ((ih (i + 1) _ _ hd' (by omega) (by simp; omega)).r (by simp [spl0, spl1, hb, h]))
theorem spec_SplitByHashBit_ev (l : List S73) (v : Int) (hl : l.length ≤ 1099511627776) : Ev (fun k => spec_SplitByHashBit.f k l v) (spl0 v l, spl1 v l) :=
  Ev.u (fun _ => rfl) (spec_SplitByHashBit_l0 l v hl l 0 [] [] rfl (by simp) (by simp))
theorem setP {α : Type} (pre : List α) (x y : α) (t : List α) : (pre ++ x :: t).set ((pre.length : Int)).toNat y = pre ++ y :: t := by
  rw [Int.toNat_natCast, List.set_append_right _ _ (Nat.le_refl _), Nat.sub_self]; rfl
theorem getP {α : Type} (pre : List α) (x d : α) (t : List α) : (pre ++ x :: t).getD ((pre.length : Int)).toNat d = x := by
  rw [Int.toNat_natCast, List.getD_eq_getElem?_getD, List.getElem?_append_right (Nat.le_refl _), Nat.sub_self]; rfl
theorem rdI (l : List Int) (i : Nat) : rdOf 0 l (i : Int) = l.getD i 0 := rfl
theorem rdPRow (pre : List S73) (x : S73) (t : List S73) : rd_T73 (pre ++ x :: t) (pre.length : Int) = x := getP pre x z73 t
def mkRow : Int → List S73 → List S73
  | _, [] => []
  | k, _ :: l => ⟨k, k + 1, k + 1 + 1⟩ :: mkRow (k + 1 + 1 + 1) l
theorem markRowS_l0 : ∀ (s pre : List S73) (k : Int), 0 ≤ k → k + 3 * s.length ≤ 4611686018427387904 → pre.length + s.length ≤ 4611686018427387904 → Ev (fun f => laws_markRowS.l0 f (pre ++ s) k (pre.length : Int)) (k + 3 * s.length, pre ++ mkRow k s) := by
  intro s
  induction s with
  | nil =>
    intro pre k h0 h1 h2
    exact Ev.s (fun f => by rw [laws_markRowS.l0]) (Ev.e (by simp) (Ev.p.r (by simp [mkRow])))
  | cons x t ih =>
    intro pre k h0 h1 h2
    rw [List.length_cons] at h1 h2
    refine Ev.s (fun f => by rw [laws_markRowS.l0]) (Ev.t (by simp; omega) (Ev.t (by omega) ?_))
    rw [w64 (x := k + 1) (by omega) (by omega)]
    rw [w64 (x := k + 1 + 1) (by omega) (by omega)]
    rw [w64 (x := k + 1 + 1 + 1) (by omega) (by omega)]
    rw [show wrap64 ((pre.length : Int) + 1) = ((pre.length + 1 : Nat) : Int) by rw [w64 (by omega) (by omega)]; rfl]
    refine Ev.b (Ev.c (congrArg some (setP pre _ _ t))) ?_
    refine Ev.t (by simp; omega) ?_
    simp only [rdPRow]
    refine Ev.b (Ev.c (congrArg some (setP pre _ _ t))) ?_
    refine Ev.t (by simp; omega) ?_
    simp only [rdPRow]
    refine Ev.b (Ev.c (congrArg some (setP pre _ _ t))) ?_
    have h := ih (pre ++ [(⟨k, k + 1, k + 1 + 1⟩ : S73)]) (k + 1 + 1 + 1) (by omega) (by omega) (by simp; omega)
    simp only [List.append_assoc, List.singleton_append, List.length_append, List.length_singleton] at h
    exact h.r (Prod.ext (by simp only [List.length_cons]; omega) rfl)
theorem markRowS_ev (l : List S73) (k : Int) (h0 : 0 ≤ k) (h1 : k + 3 * l.length ≤ 4611686018427387904) : Ev (fun f => laws_markRowS.f f l k) (k + 3 * l.length, mkRow k l) :=
  Ev.u (fun _ => rfl) (markRowS_l0 l [] k h0 h1 (by simp; omega))
theorem eqRow_refl (x : S73) : laws_eqRow.f x.f0 x.f1 x.f2 x.f0 x.f1 x.f2 = some true := by
  unfold laws_eqRow.f; simp
theorem eqRowS_l0 (l : List S73) (hl : l.length ≤ 4611686018427387904) : ∀ (s : List S73) (i : Nat), l.drop i = s → Ev (fun f => laws_eqRowS.l0 f (i : Int) l l) true := by
  intro s
  induction s with
  | nil =>
    intro i hd
    have := drop_nil' hd
    exact Ev.s (fun f => by rw [laws_eqRowS.l0]) (Ev.e (by omega) (Ev.p.r (by rfl)))
  | cons x t ih =>
    intro i hd
    obtain ⟨hi, hd', hx, -⟩ := drop_cons' hd
    refine Ev.s (fun f => by rw [laws_eqRowS.l0]) (Ev.t (by omega) (Ev.t (by omega) (Ev.t (by omega) ?_)))
    rw [rdR, hx, w64s hi (by omega)]
    exact Ev.b (Ev.c (eqRow_refl _)) <| Ev.t rfl (ih (i + 1) hd')
theorem eqRowS_ev (l : List S73) (hl : l.length ≤ 4611686018427387904) : Ev (fun f => laws_eqRowS.f f l l) true :=
  Ev.u (fun _ => rfl) (Ev.t rfl (eqRowS_l0 l hl l 0 rfl))
theorem rdLRow (l : List S75) (i : Nat) : rd_T75 l (i : Int) = l.getD i z75 := rfl
def cvRow (x : S75) : S73 := ⟨x.f0, x.f1, x.f2⟩
theorem toRow_eq (x : S75) : laws_toRow.f x.f0 x.f1 x.f2 = some (x.f0, x.f1, x.f2) := by unfold laws_toRow.f; rfl
theorem toRowS_l0 (l : List S75) (hl : l.length ≤ 4611686018427387904) : ∀ (s : List S75) (r pre : List S73), l.drop pre.length = s → r.length = s.length → Ev (fun f => laws_toRowS.l0 f (pre ++ r) (pre.length : Int) l) (pre ++ s.map cvRow) := by
  intro s
  induction s with
  | nil =>
    intro r pre hd hr
    have := drop_nil' hd
    have : r = [] := List.eq_nil_of_length_eq_zero hr
    subst this
    exact Ev.s (fun f => by rw [laws_toRowS.l0]) (Ev.e (by omega) (Ev.p.r (by simp)))
  | cons x t ih =>
    intro r pre hd hr
    obtain ⟨hi, hd', hx, -⟩ := drop_cons' hd
    cases r with
    | nil => simp at hr
    | cons y r =>
      refine Ev.s (fun f => by rw [laws_toRowS.l0]) (Ev.t (by omega) (Ev.t (by omega) ?_))
      rw [rdLRow, hx, w64s hi (by omega)]
      refine Ev.b (Ev.c (toRow_eq x)) (Ev.t (by simp; omega) (Ev.b (Ev.c (congrArg some (setP pre _ _ r))) ?_))
      have h := ih r (pre ++ [cvRow x]) (by rw [List.length_append, List.length_singleton]; exact hd') (by simpa using hr)
      simp only [List.append_assoc, List.singleton_append, List.length_append, List.length_singleton] at h
      exact h.r (by simp)
theorem toRowS_ev (l : List S75) (hl : l.length ≤ 1048576) : Ev (fun f => laws_toRowS.f f l) (l.map cvRow) := by
  refine Ev.u (fun _ => rfl) (Ev.t (by omega) (Ev.t (by simp; omega) ?_))
  have h := toRowS_l0 l (by omega) l (List.replicate l.length z73) [] rfl (by simp)
  simpa using h
theorem szRowS_neg (l : List S75) (n : Int) (h0 : 0 ≤ n) (h1 : n ≤ 1048576) (hl : l.length ≤ maxLen) (h : n - l.length < 0) : laws_szRowS.f l n = some (-1) := by
  have hl' : l.length ≤ 9223372036854775807 := hl
  unfold laws_szRowS.f
  rw [w64 (by omega) (by omega), if_pos h]
theorem szRowS_pos (l : List S75) (n : Int) (h0 : 0 ≤ n) (h1 : n ≤ 1048576) (h : ¬ n - l.length < 0) : laws_szRowS.f l n = some (n - l.length) := by
  unfold laws_szRowS.f
  rw [w64 (by omega) (by omega), if_neg h]
def mkInt : Int → List Int → List Int
  | _, [] => []
  | k, _ :: l => k :: mkInt (k + 1) l
theorem markIntS_l0 : ∀ (s pre : List Int) (k : Int), 0 ≤ k → k + 1 * s.length ≤ 4611686018427387904 → pre.length + s.length ≤ 4611686018427387904 → Ev (fun f => laws_markIntS.l0 f (pre ++ s) k (pre.length : Int)) (k + 1 * s.length, pre ++ mkInt k s) := by
  intro s
  induction s with
  | nil =>
    intro pre k h0 h1 h2
    exact Ev.s (fun f => by rw [laws_markIntS.l0]) (Ev.e (by simp) (Ev.p.r (by simp [mkInt])))
  | cons x t ih =>
    intro pre k h0 h1 h2
    rw [List.length_cons] at h1 h2
    refine Ev.s (fun f => by rw [laws_markIntS.l0]) (Ev.t (by simp; omega) (Ev.t (by omega) ?_))
    rw [w64 (x := k + 1) (by omega) (by omega)]
    rw [show wrap64 ((pre.length : Int) + 1) = ((pre.length + 1 : Nat) : Int) by rw [w64 (by omega) (by omega)]; rfl]
    rw [setP]
    have h := ih (pre ++ [(k : Int)]) (k + 1) (by omega) (by omega) (by simp; omega)
    simp only [List.append_assoc, List.singleton_append, List.length_append, List.length_singleton] at h
    exact h.r (Prod.ext (by simp only [List.length_cons]; omega) rfl)
theorem markIntS_ev (l : List Int) (k : Int) (h0 : 0 ≤ k) (h1 : k + 1 * l.length ≤ 4611686018427387904) : Ev (fun f => laws_markIntS.f f l k) (k + 1 * l.length, mkInt k l) :=
  Ev.u (fun _ => rfl) (markIntS_l0 l [] k h0 h1 (by simp; omega))
theorem eqIntS_l0 (l : List Int) (hl : l.length ≤ 4611686018427387904) : ∀ (s : List Int) (i : Nat), l.drop i = s → Ev (fun f => laws_eqIntS.l0 f (i : Int) l l) true := by
  intro s
  induction s with
  | nil =>
    intro i hd
    have := drop_nil' hd
    exact Ev.s (fun f => by rw [laws_eqIntS.l0]) (Ev.e (by omega) (Ev.p.r (by rfl)))
  | cons x t ih =>
    intro i hd
    obtain ⟨hi, hd', hx, -⟩ := drop_cons' hd
    refine Ev.s (fun f => by rw [laws_eqIntS.l0]) (Ev.t (by omega) (Ev.t (by omega) (Ev.t (by omega) ?_)))
    rw [rdI, hx, w64s hi (by omega)]
    exact Ev.t rfl (ih (i + 1) hd')
theorem eqIntS_ev (l : List Int) (hl : l.length ≤ 4611686018427387904) : Ev (fun f => laws_eqIntS.f f l l) true :=
  Ev.u (fun _ => rfl) (Ev.t rfl (eqIntS_l0 l hl l 0 rfl))
theorem toIntS_l0 (l : List Int) (hl : l.length ≤ 4611686018427387904) : ∀ (s : List Int) (r pre : List Int), l.drop pre.length = s → r.length = s.length → Ev (fun f => laws_toIntS.l0 f (pre ++ r) (pre.length : Int) l) (pre ++ s.map id) := by
  intro s
  induction s with
  | nil =>
    intro r pre hd hr
    have := drop_nil' hd
    have : r = [] := List.eq_nil_of_length_eq_zero hr
    subst this
    exact Ev.s (fun f => by rw [laws_toIntS.l0]) (Ev.e (by omega) (Ev.p.r (by simp)))
  | cons x t ih =>
    intro r pre hd hr
    obtain ⟨hi, hd', hx, -⟩ := drop_cons' hd
    cases r with
    | nil => simp at hr
    | cons y r =>
      refine Ev.s (fun f => by rw [laws_toIntS.l0]) (Ev.t (by omega) (Ev.t (by omega) ?_))
      rw [rdI, hx, w64s hi (by omega)]
      refine Ev.t (by simp; omega) ?_
      rw [setP]
      have h := ih r (pre ++ [id x]) (by rw [List.length_append, List.length_singleton]; exact hd') (by simpa using hr)
      simp only [List.append_assoc, List.singleton_append, List.length_append, List.length_singleton] at h
      exact h.r (by simp)
theorem toIntS_ev (l : List Int) (hl : l.length ≤ 1048576) : Ev (fun f => laws_toIntS.f f l) (l) := by
  refine Ev.u (fun _ => rfl) (Ev.t (by omega) (Ev.t (by simp; omega) ?_))
  have h := toIntS_l0 l (by omega) l (List.replicate l.length 0) [] rfl (by simp)
  simpa using h
theorem rdGroup (l : List S88) (i : Nat) : rd_T88 l (i : Int) = l.getD i z88 := rfl
theorem rdPGroup (pre : List S88) (x : S88) (t : List S88) : rd_T88 (pre ++ x :: t) (pre.length : Int) = x := getP pre x z88 t
def mkGroup : Int → List S88 → List S88
  | _, [] => []
  | k, _ :: l => ⟨k, k + 1, k + 1 + 1, k + 1 + 1 + 1, k + 1 + 1 + 1 + 1⟩ :: mkGroup (k + 1 + 1 + 1 + 1 + 1) l
theorem mkGroup_len : ∀ (k : Int) (l : List S88), (mkGroup k l).length = l.length
  | _, [] => rfl
  | k, _ :: l => by rw [mkGroup, List.length_cons, List.length_cons, mkGroup_len]
theorem markGroupS_l0 : ∀ (s pre : List S88) (k : Int), 0 ≤ k → k + 5 * s.length ≤ 4611686018427387904 → pre.length + s.length ≤ 4611686018427387904 → Ev (fun f => laws_markGroupS.l0 f (pre ++ s) k (pre.length : Int)) (k + 5 * s.length, pre ++ mkGroup k s) := by
  intro s
  induction s with
  | nil =>
    intro pre k h0 h1 h2
    exact Ev.s (fun f => by rw [laws_markGroupS.l0]) (Ev.e (by simp) (Ev.p.r (by simp [mkGroup])))
  | cons x t ih =>
    intro pre k h0 h1 h2
    rw [List.length_cons] at h1 h2
    refine Ev.s (fun f => by rw [laws_markGroupS.l0]) (Ev.t (by simp; omega) (Ev.t (by omega) ?_))
    rw [w64 (x := k + 1) (by omega) (by omega)]
    rw [w64 (x := k + 1 + 1) (by omega) (by omega)]
    rw [w64 (x := k + 1 + 1 + 1) (by omega) (by omega)]
    rw [w64 (x := k + 1 + 1 + 1 + 1) (by omega) (by omega)]
    rw [w64 (x := k + 1 + 1 + 1 + 1 + 1) (by omega) (by omega)]
    rw [show wrap64 ((pre.length : Int) + 1) = ((pre.length + 1 : Nat) : Int) by rw [w64 (by omega) (by omega)]; rfl]
    refine Ev.b (Ev.c (congrArg some (setP pre _ _ t))) ?_
    refine Ev.t (by simp; omega) ?_
    simp only [rdPGroup]
    refine Ev.b (Ev.c (congrArg some (setP pre _ _ t))) ?_
    refine Ev.t (by simp; omega) ?_
    simp only [rdPGroup]
    refine Ev.b (Ev.c (congrArg some (setP pre _ _ t))) ?_
    refine Ev.t (by simp; omega) ?_
    simp only [rdPGroup]
    refine Ev.b (Ev.c (congrArg some (setP pre _ _ t))) ?_
    refine Ev.t (by simp; omega) ?_
    simp only [rdPGroup]
    refine Ev.b (Ev.c (congrArg some (setP pre _ _ t))) ?_
    have h := ih (pre ++ [(⟨k, k + 1, k + 1 + 1, k + 1 + 1 + 1, k + 1 + 1 + 1 + 1⟩ : S88)]) (k + 1 + 1 + 1 + 1 + 1) (by omega) (by omega) (by simp; omega)
    simp only [List.append_assoc, List.singleton_append, List.length_append, List.length_singleton] at h
    exact h.r (Prod.ext (by simp only [List.length_cons]; omega) rfl)
theorem markGroupS_ev (l : List S88) (k : Int) (h0 : 0 ≤ k) (h1 : k + 5 * l.length ≤ 4611686018427387904) : Ev (fun f => laws_markGroupS.f f l k) (k + 5 * l.length, mkGroup k l) :=
  Ev.u (fun _ => rfl) (markGroupS_l0 l [] k h0 h1 (by simp; omega))
theorem heldGroupS_l0 (l : List S88) (hl : l.length ≤ 4611686018427387904) : ∀ (s : List S88) (i : Nat) (k : Int), l.drop i = mkGroup k s → 0 ≤ k → k + 5 * s.length ≤ 4611686018427387904 → Ev (fun f => laws_heldGroupS.l0 f k (i : Int) l) (k + 5 * s.length) := by
  intro s
  induction s with
  | nil =>
    intro i k hd h0 h1
    have := drop_nil' hd
    exact Ev.s (fun f => by rw [laws_heldGroupS.l0]) (Ev.e (by omega) (Ev.p.r (by simp)))
  | cons x t ih =>
    intro i k hd h0 h1
    rw [List.length_cons] at h1
    rw [mkGroup] at hd
    obtain ⟨hi, hd', hx, -⟩ := drop_cons' hd
    refine Ev.s (fun f => by rw [laws_heldGroupS.l0]) (Ev.t (by omega) (Ev.t (by omega) ?_))
    rw [w64 (x := k + 1) (by omega) (by omega)]
    rw [w64 (x := k + 1 + 1) (by omega) (by omega)]
    rw [w64 (x := k + 1 + 1 + 1) (by omega) (by omega)]
    rw [w64 (x := k + 1 + 1 + 1 + 1) (by omega) (by omega)]
    rw [w64 (x := k + 1 + 1 + 1 + 1 + 1) (by omega) (by omega)]
    rw [rdGroup, hx, w64s hi (by omega)]
    exact Ev.t rfl (Ev.t rfl (Ev.t rfl (Ev.t rfl (Ev.t rfl ((ih (i + 1) (k + 1 + 1 + 1 + 1 + 1) hd' (by omega) (by omega)).r (by simp only [List.length_cons]; omega))))))
theorem heldGroupS_ev (l : List S88) (k : Int) (h0 : 0 ≤ k) (h1 : k + 5 * l.length ≤ 4611686018427387904) : Ev (fun f => laws_heldGroupS.f f (mkGroup k l) k) (k + 5 * l.length) :=
  Ev.u (fun _ => rfl) (heldGroupS_l0 _ (by rw [mkGroup_len]; omega) l 0 k rfl h0 h1)
theorem eqGroup_refl (x : S88) : laws_eqGroup.f x.f0 x.f1 x.f2 x.f3 x.f4 x.f0 x.f1 x.f2 x.f3 x.f4 = some true := by
  unfold laws_eqGroup.f; simp
theorem eqGroupS_l0 (l : List S88) (hl : l.length ≤ 4611686018427387904) : ∀ (s : List S88) (i : Nat), l.drop i = s → Ev (fun f => laws_eqGroupS.l0 f (i : Int) l l) true := by
  intro s
  induction s with
  | nil =>
    intro i hd
    have := drop_nil' hd
    exact Ev.s (fun f => by rw [laws_eqGroupS.l0]) (Ev.e (by omega) (Ev.p.r (by rfl)))
  | cons x t ih =>
    intro i hd
    obtain ⟨hi, hd', hx, -⟩ := drop_cons' hd
    refine Ev.s (fun f => by rw [laws_eqGroupS.l0]) (Ev.t (by omega) (Ev.t (by omega) (Ev.t (by omega) ?_)))
    rw [rdGroup, hx, w64s hi (by omega)]
    exact Ev.b (Ev.c (eqGroup_refl _)) <| Ev.t rfl (ih (i + 1) hd')
theorem eqGroupS_ev (l : List S88) (hl : l.length ≤ 4611686018427387904) : Ev (fun f => laws_eqGroupS.f f l l) true :=
  Ev.u (fun _ => rfl) (Ev.t rfl (eqGroupS_l0 l hl l 0 rfl))
theorem vRows_len {l : List S73} (h : vRows l = true) : l.length ≤ 24 := by
  unfold vRows at h; rw [Bool.and_eq_true] at h; exact of_decide_eq_true h.2
theorem vAll_sub {l m : List S73} (h : vAll l = true) (hs : ∀ x ∈ m, x ∈ l) : vAll m = true := by
  unfold vAll at *; rw [List.all_eq_true] at *; exact fun x hx => h x (hs x hx)
theorem vRows_iff {l : List S73} : vRows l = true ↔ vAll l = true ∧ l.length ≤ 24 := by unfold vRows; rw [Bool.and_eq_true, decide_eq_true_iff]
theorem vRows_sub {l m : List S73} (h : vRows l = true) (hs : m.Sublist l) : vRows m = true := by
  rw [vRows_iff] at *; exact ⟨vAll_sub h.1 hs.subset, Nat.le_trans hs.length_le h.2⟩
theorem impl_isGrant_eq (g : Int) : impl_isGrant.f g = some (inB g 8 60) := by unfold impl_isGrant.f; rw [within_eq]; rfl
theorem sum_mem {α : Type} (f : α → Nat) : ∀ {l : List α} {x : α}, x ∈ l → f x ≤ (l.map f).sum
  | y :: l, x, h => by
    rcases List.mem_cons.1 h with h | h
    · subst h; simp
    · have := sum_mem f h; simp; omega
theorem tmodN (n L : Nat) : Int.tmod (n : Int) (L : Int) = ((n % L : Nat) : Int) := (Int.ofNat_tmod n L).symm
theorem getD_all {gs : List Int} (hgs : ∀ g ∈ gs, inB g 8 60 = true) {i : Nat} (hi : i < gs.length) : inB (gs.getD i 0) 8 60 = true := by
  refine hgs _ ?_
  rw [List.getD_eq_getElem?_getD, List.getElem?_eq_getElem hi]
  exact List.getElem_mem hi
def gAll (l : List Int) : Bool := l.all fun g => inB g 8 60
def gOk (l : List Int) : Bool := gAll l && decide ((l.length : Int) > 0)
theorem gOk_iff {l : List Int} (h : gOk l = true) : (∀ g ∈ l, inB g 8 60 = true) ∧ l.length ≠ 0 := by
  unfold gOk gAll at h
  rw [Bool.and_eq_true, decide_eq_true_iff, List.all_eq_true] at h
  exact ⟨h.1, by omega⟩
theorem impl_areGrants_l0 (l : List Int) (hl : l.length ≤ 4611686018427387904) : ∀ (s : List Int) (i : Nat), l.drop i = s → Ev (fun k => impl_areGrants.l0 k (l.length : Int) (i : Int) l) (gAll s && decide ((l.length : Int) > 0)) := by
  intro s
  induction s with
  | nil =>
    intro i hd
    have := drop_nil' hd
    exact Ev.s (fun k => by rw [impl_areGrants.l0]) (Ev.e (by omega) (Ev.p.r (by simp [gAll])))
  | cons x t ih =>
    intro i hd
    obtain ⟨hi, hd', hx, -⟩ := drop_cons' hd
    refine Ev.s (fun k => by rw [impl_areGrants.l0]) (Ev.t (by omega) (Ev.t (by omega) (Ev.t (by omega) ?_)))
    rw [rdI, hx, w64s hi (by omega)]
    refine Ev.b (Ev.c (impl_isGrant_eq x)) (Ev.i (fun h => ?_) (fun h => Ev.p.r (by simp [gAll, h])))
    exact (ih (i + 1) hd').r (by simp [gAll, h])
theorem impl_areGrants_ev (l : List Int) (hl : l.length ≤ 4611686018427387904) : Ev (fun k => impl_areGrants.f k l) (gOk l) :=
  Ev.u (fun _ => rfl) (impl_areGrants_l0 l hl l 0 rfl)
theorem spec_l14Grants_l0 (l : List Int) (hl : l.length ≤ 4611686018427387904) : ∀ (s : List Int) (i : Nat), l.drop i = s → Ev (fun k => spec_l14Grants.l0 k (i : Int) l) (gAll s && decide ((l.length : Int) > 0)) := by
  intro s
  induction s with
  | nil =>
    intro i hd
    have := drop_nil' hd
    exact Ev.s (fun k => by rw [spec_l14Grants.l0]) (Ev.e (by omega) (Ev.p.r (by simp [gAll])))
  | cons x t ih =>
    intro i hd
    obtain ⟨hi, hd', hx, -⟩ := drop_cons' hd
    refine Ev.s (fun k => by rw [spec_l14Grants.l0]) (Ev.t (by omega) (Ev.t (by omega) ?_))
    rw [rdI, hx, w64s hi (by omega)]
    refine Ev.b (Ev.c (l1In_eq x _ _)) (Ev.i (fun h => ?_) (fun h => Ev.p.r (by simp [gAll, h])))
    exact (ih (i + 1) hd').r (by simp [gAll, h])
theorem spec_l14Grants_ev (l : List Int) (hl : l.length ≤ 4611686018427387904) : Ev (fun k => spec_l14Grants.f k l) (gOk l) :=
  Ev.u (fun _ => rfl) (spec_l14Grants_l0 l hl l 0 rfl)
theorem rdGT (l : List S80) (i : Nat) : rd_T80 l (i : Int) = l.getD i z80 := rfl
def asz (a : S40) : Nat := a.f0.length + (a.f0.map fun t => t.f0.length).sum
theorem asz_mem {a : S40} {t : S80} (h : t ∈ a.f0) : t.f0.length ≤ asz a := by have := sum_mem (fun t : S80 => t.f0.length) h; unfold asz; omega
def newA (l : List S73) (e : Bool) : S40 := if vRows l = true then ⟨[⟨l, 0⟩], 0, e⟩ else ⟨[], 0, false⟩
theorem impl_NewAggregator_ev (l : List S73) (e : Bool) (hl : l.length ≤ 1099511627776) : Ev (fun k => impl_NewAggregator.f k l e) ((newA l e).f0, (newA l e).f1, (newA l e).f2, vRows l) := by
  unfold newA
  refine Ev.u (fun _ => rfl) (Ev.b (impl_AreValidRows_ev l (by omega)) (Ev.i (fun h => ?_) (fun h => Ev.p.r (by simp [h]))))
  exact Ev.b (Ev.c (impl_clone_eq l (by omega))) (Ev.p.r (by simp [h]))
theorem spec_NewAggregator_ev (l : List S73) (e : Bool) (hl : l.length ≤ 1099511627776) : Ev (fun k => spec_NewAggregator.f k l e) ((newA l e).f0, (newA l e).f1, (newA l e).f2, vRows l) := by
  unfold newA
  refine Ev.u (fun _ => rfl) (Ev.b (spec_AreValidRows_ev l (by omega)) (Ev.i (fun h => ?_) (fun h => Ev.p.r (by simp [h]))))
  exact Ev.t (by omega) (Ev.p.r (by simp [h]))
def dk (acc : List Int) : List S73 → List Int
  | [] => acc
  | x :: s => dk (if acc.contains x.f0 = true then acc else acc ++ [x.f0]) s
theorem dk_len : ∀ (s : List S73) (acc : List Int), (dk acc s).length ≤ acc.length + s.length
  | [], acc => by simp [dk]
  | x :: s, acc => by
    rw [dk]
    refine Nat.le_trans (dk_len s _) ?_
    split <;> simp <;> omega
theorem mGet_set {β : Type} : ∀ (m : List (Int × β)) (q : Int) (v : β) (z : Int), mGet (mSet m q v) z = bif q == z then some v else mGet m z
  | [], q, v, z => by
    cases h : q == z <;> simp only [mSet, mGet, h, cond_true, cond_false]
  | p :: r, q, v, z => by
    have ih := mGet_set r q v z
    cases hq : p.1 == q
    · cases h : p.1 == z
      · simp only [mSet, mGet, hq, h, cond_false, ih]
      · have e : (q == z) = false := by
          rw [beq_eq_false_iff_ne] at hq ⊢
          rw [beq_iff_eq] at h
          omega
        simp only [mSet, mGet, hq, h, cond_true, cond_false, e]
    · rw [beq_iff_eq] at hq
      cases h : q == z
      · simp only [mSet, mGet, hq, h, beq_self_eq_true, cond_true, cond_false]
      · simp only [mSet, mGet, hq, h, beq_self_eq_true, cond_true]
theorem spec_DistinctKeys_l1 (l : List S73) (hl : l.length ≤ 1099511627776) (acc : List Int) (ha : acc.length ≤ 1099511627776) (i : Nat) (hi : i < l.length) (x : S73) (hx : ∀ d, l.getD i d = x) (r : List Int) : ∀ (s : List Int) (j : Nat) (b : Bool), acc.drop j = s → j ≤ acc.length →
    Ev (fun k => spec_DistinctKeys.l0 k (if (b || s.contains x.f0) = true then acc else acc ++ [x.f0]) ((i + 1 : Nat) : Int) l) r → Ev (fun k => spec_DistinctKeys.l1 k acc (i : Int) b (j : Int) l) r := by
  intro s
  induction s with
  | nil =>
    intro j b hd hj h
    have := drop_nil' hd
    refine Ev.s (fun k => by rw [spec_DistinctKeys.l1]) (Ev.e (by omega) ?_)
    rw [w64s hi (by omega)]
    refine Ev.i (fun hb => ?_) (fun hb => Ev.t (by omega) (Ev.t (by omega) (Ev.t (by omega) ?_)))
    · simpa [hb] using h
    · rw [rdR, hx]
      simpa [hb] using h
  | cons y t ih =>
    intro j b hd hj h
    obtain ⟨hj', hd', hy, -⟩ := drop_cons' hd
    refine Ev.s (fun k => by rw [spec_DistinctKeys.l1]) (Ev.t (by omega) ?_)
    rw [w64s hj' (by omega)]
    refine Ev.i (fun hb => ?_) (fun hb => Ev.t (by omega) (Ev.t (by omega) (Ev.t (by omega) ?_)))
    · exact ih (j + 1) true hd' (by omega) (by simpa [hb] using h)
    · rw [rdR, hx, rdI, hy]
      have hb' : b = false := by simpa using hb
      subst hb'
      refine ih (j + 1) _ hd' (by omega) ?_
      have e : (decide (y = x.f0) || t.contains x.f0) = (false || (y :: t).contains x.f0) := by
        rw [List.contains_cons, Bool.false_or]
        congr 1
        by_cases hxy : y = x.f0
        · simp [hxy]
        · have : ¬ x.f0 = y := fun h => hxy h.symm
          simp [hxy, this]
      rw [e]; exact h
theorem spec_DistinctKeys_l0 (l : List S73) (hl : l.length ≤ 1099511627776) : ∀ (s : List S73) (i : Nat) (acc : List Int), l.drop i = s → acc.length ≤ i → Ev (fun k => spec_DistinctKeys.l0 k acc (i : Int) l) (dk acc s) := by
  intro s
  induction s with
  | nil =>
    intro i acc hd ha
    have := drop_nil' hd
    exact Ev.s (fun k => by rw [spec_DistinctKeys.l0]) (Ev.e (by omega) (Ev.p.r (by rfl)))
  | cons x t ih =>
    intro i acc hd ha
    obtain ⟨hi, hd', hx, -⟩ := drop_cons' hd
    refine Ev.s (fun k => by rw [spec_DistinctKeys.l0]) (Ev.t (by omega) ?_)
    refine spec_DistinctKeys_l1 l hl acc (by omega) i hi x hx _ acc 0 false rfl (by omega) ?_
    rw [dk, Bool.false_or]
    exact ih (i + 1) _ hd' (by split <;> (try simp only [List.length_append, List.length_cons, List.length_nil]) <;> omega)
theorem spec_DistinctKeys_ev (l : List S73) (hl : l.length ≤ 1099511627776) : Ev (fun k => spec_DistinctKeys.f k l) (dk [] l) :=
  Ev.u (fun _ => rfl) (spec_DistinctKeys_l0 l hl l 0 [] rfl (by simp))

theorem rdG (l : List S88) (i : Nat) : rd_T88 l (i : Int) = l.getD i z88 := rfl
def comb (h g : S88) : S88 := ⟨h.f0, wrap64 (h.f1 + g.f1), wrap64 (h.f2 + g.f2), mn h.f3 g.f3, mx h.f4 g.f4⟩
def ins (g : S88) : List S88 → List S88
  | [] => [g]
  | h :: t => if h.f0 < g.f0 then h :: ins g t else if h.f0 = g.f0 then comb h g :: t else g :: h :: t
def mgs (acc : List S88) (l : List S88) : List S88 := l.foldl (fun a g => ins g a) acc
def upd (g : S88) : List S88 → List S88
  | [] => [g]
  | h :: t => if h.f0 = g.f0 then comb h g :: t else h :: upd g t
def upds (acc : List S88) (l : List S88) : List S88 := l.foldl (fun a g => upd g a) acc
theorem ins_len (g : S88) : ∀ l, (ins g l).length ≤ l.length + 1
  | [] => by simp [ins]
  | h :: t => by
    have := ins_len g t
    rw [ins]; split
    · simp only [List.length_cons]; omega
    · split <;> simp
theorem upd_len (g : S88) : ∀ l, (upd g l).length ≤ l.length + 1
  | [] => by simp [upd]
  | h :: t => by
    have := upd_len g t
    rw [upd]; split <;> simp only [List.length_cons] <;> omega
theorem impl_CombineGroups_eq (h g : S88) (e : h.f0 = g.f0) : impl_CombineGroups.f h.f0 h.f1 h.f2 h.f3 h.f4 g.f0 g.f1 g.f2 g.f3 g.f4 = some ((comb h g).f0, (comb h g).f1, (comb h g).f2, (comb h g).f3, (comb h g).f4) := by
  unfold impl_CombineGroups.f; rw [if_pos e]; rfl
theorem spec_CombineGroups_eq (h g : S88) (e : h.f0 = g.f0) : spec_CombineGroups.f h.f0 h.f1 h.f2 h.f3 h.f4 g.f0 g.f1 g.f2 g.f3 g.f4 = some ((comb h g).f0, (comb h g).f1, (comb h g).f2, (comb h g).f3, (comb h g).f4) := by
  unfold spec_CombineGroups.f; rw [if_pos e]; rfl
theorem spec_MergeGroups_l1 (l : List S88) (hl : l.length ≤ 1099511627776) (i : Nat) (hi : i < l.length) (g : S88) (hg : ∀ d, l.getD i d = g) (r : List S88) : ∀ (s pre : List S88), pre.length + s.length ≤ 1099511627776 →
    Ev (fun k => spec_MergeGroups.l0 k (pre ++ ins g s) ((i + 1 : Nat) : Int) l) r → Ev (fun k => spec_MergeGroups.l1 k (pre ++ s) (i : Int) (pre.length : Int) l) r := by
  have J1 : ∀ (s pre : List S88), pre.length + s.length ≤ 1099511627776 → Ev (fun k => spec_MergeGroups.l0 k (pre ++ g :: s) ((i + 1 : Nat) : Int) l) r → Ev (fun k => spec_MergeGroups.j1 k (pre ++ s) (i : Int) (pre.length : Int) l) r := by
    intro s pre hp h
    refine Ev.s (fun k => by rw [spec_MergeGroups.j1]) (Ev.t (by omega) (Ev.t (by omega) (Ev.t (by omega) (Ev.t (by rw [List.length_append]; omega) ?_))))
    have e1 : (pre ++ s).take (pre.length : Int).toNat = pre := by simp
    have e2 : (pre ++ s).drop (pre.length : Int).toNat = s := by simp
    rw [e1, e2, rdG, hg, w64s hi (by omega)]
    refine Ev.t (by simp; omega) (Ev.t (by omega) (Ev.t (by simp; omega) ?_))
    exact h
  intro s
  induction s with
  | nil =>
    intro pre hp h
    rw [ins] at h
    refine Ev.s (fun k => by rw [spec_MergeGroups.l1]) (Ev.e (by simp) ?_)
    refine Ev.s (fun k => by rw [spec_MergeGroups.j0]) (Ev.e (by simp) ?_)
    exact J1 [] pre hp h
  | cons x t ih =>
    intro pre hp h
    rw [List.length_cons] at hp
    rw [ins] at h
    have hlt : pre.length < (pre ++ x :: t).length := by simp
    refine Ev.s (fun k => by rw [spec_MergeGroups.l1]) (Ev.t (by simp; omega) (Ev.t (by omega) (Ev.t (by omega) (Ev.t (by omega) ?_))))
    rw [rdG l i, hg, rdPGroup]
    refine Ev.i (fun q => ?_) (fun q => ?_)
    · rw [if_pos q] at h
      rw [show wrap64 ((pre.length : Int) + 1) = ((pre.length + 1 : Nat) : Int) by rw [w64 (by omega) (by omega)]; rfl]
      have := ih (pre ++ [x]) (by simp; omega) (by simpa using h)
      simpa using this
    · rw [if_neg q] at h
      refine Ev.s (fun k => by rw [spec_MergeGroups.j0]) (Ev.t (by simp; omega) (Ev.t (by omega) (Ev.t (by omega) (Ev.t (by omega) ?_))))
      rw [rdG l i, hg, rdPGroup, w64s hi (by omega)]
      refine Ev.i (fun q2 => ?_) (fun q2 => ?_)
      · rw [if_pos q2] at h
        exact Ev.b (Ev.c (spec_CombineGroups_eq x g q2)) (Ev.b (Ev.c (congrArg some (setP pre x (comb x g) t))) h)
      · rw [if_neg q2] at h
        exact J1 (x :: t) pre (by rw [List.length_cons]; omega) h
theorem spec_MergeGroups_l0 (l : List S88) (hl : l.length ≤ 1099511627776) : ∀ (s : List S88) (i : Nat) (acc : List S88), l.drop i = s → acc.length ≤ i → Ev (fun k => spec_MergeGroups.l0 k acc (i : Int) l) (mgs acc s) := by
  intro s
  induction s with
  | nil =>
    intro i acc hd ha
    have := drop_nil' hd
    exact Ev.s (fun k => by rw [spec_MergeGroups.l0]) (Ev.e (by omega) (Ev.p.r (by rfl)))
  | cons x t ih =>
    intro i acc hd ha
    obtain ⟨hi, hd', hx, -⟩ := drop_cons' hd
    refine Ev.s (fun k => by rw [spec_MergeGroups.l0]) (Ev.t (by omega) ?_)
    have := ins_len x acc
    have h := spec_MergeGroups_l1 l hl i hi x hx (mgs acc (x :: t)) acc [] (by simp; omega) (ih (i + 1) (ins x acc) hd' (by omega))
    exact h
theorem spec_MergeGroups_ev (l : List S88) (hl : l.length ≤ 1099511627776) : Ev (fun k => spec_MergeGroups.f k l) (mgs [] l) :=
  Ev.u (fun _ => rfl) (spec_MergeGroups_l0 l hl l 0 [] rfl (by simp))

def idx (q : Int) : List S88 → Option Int
  | [] => none
  | h :: t => if h.f0 = q then some 0 else (idx q t).map (· + 1)
theorem upd_cases (g : S88) : ∀ acc : List S88,
    (∃ pre h t, acc = pre ++ h :: t ∧ h.f0 = g.f0 ∧ idx g.f0 acc = some (pre.length : Int) ∧ upd g acc = pre ++ comb h g :: t ∧ ∀ z, idx z (upd g acc) = idx z acc) ∨
    (idx g.f0 acc = none ∧ upd g acc = acc ++ [g] ∧ ∀ z, idx z (upd g acc) = if z = g.f0 then some (acc.length : Int) else idx z acc)
  | [] => .inr ⟨rfl, rfl, fun z => by
      by_cases h : z = g.f0
      · simp [upd, idx, h]
      · have : ¬ g.f0 = z := fun e => h e.symm
        simp [upd, idx, h, this]⟩
  | h :: t => by
    by_cases e : h.f0 = g.f0
    · refine .inl ⟨[], h, t, rfl, e, by simp [idx, e], by simp [upd, e], fun z => ?_⟩
      simp only [upd, if_pos e]
      rfl
    · rcases upd_cases g t with ⟨pre, h', t', h1, h2, h3, h4, h5⟩ | ⟨h1, h2, h3⟩
      · refine .inl ⟨h :: pre, h', t', by rw [h1]; rfl, h2, ?_, ?_, fun z => ?_⟩
        · simp only [idx, if_neg e, h3, Option.map_some, List.length_cons]; rfl
        · simp only [upd, if_neg e, h4]; rfl
        · simp only [upd, if_neg e, idx, h5]
      · refine .inr ⟨by simp only [idx, if_neg e, h1, Option.map_none], by simp only [upd, if_neg e, h2]; rfl, fun z => ?_⟩
        simp only [upd, if_neg e, idx, h3]
        by_cases hz : z = g.f0
        · have : ¬ h.f0 = z := fun k => e (k.trans hz)
          simp only [if_pos hz, if_neg this, Option.map_some, List.length_cons]; rfl
        · simp only [if_neg hz]
theorem impl_MergeGroups_l0 (l : List S88) (hl : l.length ≤ 1099511627776) (r : List S88) : ∀ (s : List S88) (i : Nat) (acc : List S88) (m : List (Int × Int)), l.drop i = s → acc.length ≤ i → (∀ q, mGet m q = idx q acc) →
    Ev (fun k => slices_SortFunc_impl_Group_impl_Group_at93.f k (upds acc s)) r → Ev (fun k => impl_MergeGroups.l0 k acc m (l.length : Int) (i : Int) l) r := by
  intro s
  induction s with
  | nil =>
    intro i acc m hd ha hm h
    have := drop_nil' hd
    refine Ev.s (fun k => by rw [impl_MergeGroups.l0]) (Ev.e (by omega) ?_)
    exact Ev.b h Ev.p
  | cons x t ih =>
    intro i acc m hd ha hm h
    obtain ⟨hi, hd', hx, -⟩ := drop_cons' hd
    have hu : upds acc (x :: t) = upds (upd x acc) t := rfl
    rw [hu] at h
    refine Ev.s (fun k => by rw [impl_MergeGroups.l0]) (Ev.t (by omega) (Ev.t (by omega) (Ev.t (by omega) ?_)))
    rw [rdG l i, hx, w64s hi (by omega), hm x.f0]
    rcases upd_cases x acc with ⟨pre, h', t', h1, h2, h3, h4, h5⟩ | ⟨h1, h2, h3⟩
    · have hla : (acc.length : Int) = pre.length + t'.length + 1 := by rw [h1]; simp; omega
      rw [h3]
      refine Ev.t rfl (Ev.t (by simp) (Ev.t (by simp only [Option.getD_some]; omega) ?_))
      simp only [Option.getD_some]
      rw [h1, rdPGroup]
      refine Ev.b (Ev.c (impl_CombineGroups_eq h' x h2)) (Ev.b (Ev.c (congrArg some (setP pre h' (comb h' x) t'))) ?_)
      have e := ih (i + 1) (upd x acc) m hd' (by have := upd_len x acc; omega) (fun q => by rw [h5]; exact hm q) h
      rw [h4] at e
      exact e
    · rw [h1]
      refine Ev.e (by simp) (Ev.t (by omega) ?_)
      have e := ih (i + 1) (upd x acc) (mSet m x.f0 (acc.length : Int)) hd' (by have := upd_len x acc; omega) (fun q => by
        rw [mGet_set, h3]
        by_cases hq : q = x.f0
        · rw [if_pos hq, hq, beq_self_eq_true, cond_true]
        · rw [if_neg hq, beq_eq_false_iff_ne.2 (fun e => hq e.symm), cond_false]; exact hm q) h
      rw [h2] at e
      exact e
theorem impl_MergeGroups_ev (l : List S88) (hl : l.length ≤ 1099511627776) (r : List S88) (h : Ev (fun k => slices_SortFunc_impl_Group_impl_Group_at93.f k (upds [] l)) r) : Ev (fun k => impl_MergeGroups.f k l) r :=
  Ev.u (fun _ => rfl) (impl_MergeGroups_l0 l hl r l 0 [] [] rfl (by simp) (fun q => rfl) h)

def bub (x : S88) : List S88 → List S88 → List S88
  | [], q => x :: q
  | y :: rp, q => if x.f0 < y.f0 then bub x rp (y :: q) else (y :: rp).reverse ++ x :: q
def isr (P : List S88) (l : List S88) : List S88 := l.foldl (fun P x => bub x P.reverse []) P
theorem bub_len (x : S88) : ∀ rp q, (bub x rp q).length = rp.length + q.length + 1
  | [], q => by simp [bub]
  | y :: rp, q => by
    rw [bub]
    split
    · rw [bub_len x rp]; simp; omega
    · simp; omega
theorem ord_lt (a b : S88) : impl_MergeGroups_1.f a.f0 a.f1 a.f2 a.f3 a.f4 b.f0 b.f1 b.f2 b.f3 b.f4 = some (if a.f0 < b.f0 then -1 else if a.f0 > b.f0 then 1 else 0) := by
  unfold impl_MergeGroups_1.f impl_order.f
  split
  · rfl
  · split <;> rfl
theorem isort_l1 (a b : Int) (i : Nat) (hi : i ≤ 1099511627776) (x : S88) (ha : a = 0) (r : List S88) : ∀ (rp q suf : List S88), rp.length + q.length + suf.length ≤ 1099511627776 →
    Ev (fun k => slices_insertionSortCmpFunc_impl_Group_at93.l0 k (bub x rp q ++ suf) a b ((i + 1 : Nat) : Int)) r →
    Ev (fun k => slices_insertionSortCmpFunc_impl_Group_at93.l1 k (rp.reverse ++ x :: (q ++ suf)) a b (i : Int) (rp.length : Int)) r := by
  subst ha
  intro rp
  have ew : wrap64 ((i : Int) + 1) = ((i + 1 : Nat) : Int) := by rw [w64 (by omega) (by omega)]; rfl
  induction rp with
  | nil =>
    intro q suf hp h
    refine Ev.s (fun k => by rw [slices_insertionSortCmpFunc_impl_Group_at93.l1]) (Ev.e (by simp) ?_)
    rw [ew]
    exact h
  | cons y rp ih =>
    intro q suf hp h
    rw [List.length_cons] at hp
    have e1 : wrap64 (((y :: rp).length : Int) - 1) = (rp.length : Int) := by rw [List.length_cons, w64 (by omega) (by omega)]; omega
    have el : ((y :: rp).reverse ++ x :: (q ++ suf)) = rp.reverse ++ y :: x :: (q ++ suf) := by simp
    have r1 : rd_T88 (rp.reverse ++ y :: x :: (q ++ suf)) ((y :: rp).length : Int) = x := by
      have := rdPGroup (rp.reverse ++ [y]) x (q ++ suf)
      simpa using this
    have r2 : rd_T88 (rp.reverse ++ y :: x :: (q ++ suf)) (rp.length : Int) = y := by
      have := rdPGroup rp.reverse y (x :: (q ++ suf))
      simpa using this
    refine Ev.s (fun k => by rw [slices_insertionSortCmpFunc_impl_Group_at93.l1]) (Ev.t (by rw [List.length_cons]; omega) (Ev.t (by omega) (Ev.t (by simp; omega) ?_)))
    rw [e1, el, r1, r2, ew]
    refine Ev.t (by omega) (Ev.t (by simp; omega) (Ev.b (Ev.c (ord_lt x y)) ?_))
    by_cases hxy : x.f0 < y.f0
    · rw [bub, if_pos hxy] at h
      rw [if_pos hxy]
      have s1 : (rp.reverse ++ y :: x :: (q ++ suf)).set ((y :: rp).length : Int).toNat y = rp.reverse ++ y :: y :: (q ++ suf) := by simp
      have s2 : (rp.reverse ++ y :: y :: (q ++ suf)).set (rp.length : Int).toNat x = rp.reverse ++ x :: y :: (q ++ suf) := by simp
      refine Ev.t (by omega) (Ev.b (Ev.c (congrArg some s1)) (Ev.t (by simp; omega) (Ev.b (Ev.c (congrArg some s2)) ?_)))
      have e := ih (y :: q) suf (by rw [List.length_cons]; omega) h
      simpa using e
    · rw [bub, if_neg hxy] at h
      rw [if_neg hxy]
      refine Ev.e (by split <;> omega) ?_
      simpa using h
theorem isort_l0 (r : List S88) : ∀ (s P : List S88), P.length + s.length ≤ 1099511627776 → isr P s = r → P ≠ [] →
    Ev (fun k => slices_insertionSortCmpFunc_impl_Group_at93.l0 k (P ++ s) 0 ((P.length + s.length : Nat) : Int) (P.length : Int)) r := by
  intro s
  induction s with
  | nil =>
    intro P hp h _
    refine Ev.s (fun k => by rw [slices_insertionSortCmpFunc_impl_Group_at93.l0]) (Ev.e (by simp) (Ev.p.r ?_))
    rw [List.append_nil]; exact h
  | cons x t ih =>
    intro P hp h hP
    rw [List.length_cons] at hp
    refine Ev.s (fun k => by rw [slices_insertionSortCmpFunc_impl_Group_at93.l0]) (Ev.t (by rw [List.length_cons]; omega) ?_)
    have hb : (bub x P.reverse []).length = P.length + 1 := by rw [bub_len]; simp
    have e := ih (bub x P.reverse []) (by omega) h (by intro h0; rw [h0] at hb; simp at hb)
    have e' := isort_l1 0 ((P.length + (x :: t).length : Nat) : Int) P.length (by omega) x rfl r P.reverse [] t (by simp; omega) (by
      rw [hb] at e
      rw [List.length_cons]
      rw [show P.length + 1 + t.length = P.length + (t.length + 1) by omega] at e
      exact e)
    simpa using e'
/-! the sort gives the merged groups -/
def kle (a b : S88) : Prop := a.f0 ≤ b.f0
def klt (a b : S88) : Prop := a.f0 < b.f0
theorem bub_perm (x : S88) : ∀ rp q : List S88, (bub x rp q).Perm (x :: (rp ++ q))
  | [], q => List.Perm.refl _
  | y :: rp, q => by
    rw [bub]
    split
    · exact (bub_perm x rp (y :: q)).trans (List.Perm.cons x (List.perm_middle))
    · refine List.perm_middle.trans (List.Perm.cons x ?_)
      exact (List.reverse_perm _).append_right q
theorem bub_sorted (x : S88) : ∀ rp q : List S88, (rp.reverse ++ q).Pairwise kle → (∀ y ∈ q, x.f0 ≤ y.f0) → (bub x rp q).Pairwise kle
  | [], q, h, hq => by
    rw [bub]; exact List.pairwise_cons.2 ⟨fun y hy => hq y hy, by simpa using h⟩
  | y :: rp, q, h, hq => by
    rw [bub]
    have h' : (rp.reverse ++ y :: q).Pairwise kle := by simpa using h
    split
    · rename_i hxy
      refine bub_sorted x rp (y :: q) h' (fun z hz => ?_)
      rcases List.mem_cons.1 hz with hz | hz
      · subst hz; omega
      · exact hq z hz
    · rename_i hxy
      have h2 := List.pairwise_append.1 h
      refine List.pairwise_append.2 ⟨h2.1, List.pairwise_cons.2 ⟨fun z hz => hq z hz, h2.2.1⟩, fun a ha b hb => ?_⟩
      rcases List.mem_cons.1 hb with hb | hb
      · subst hb
        have hy : a.f0 ≤ y.f0 := by
          rw [List.reverse_cons] at ha
          rcases List.mem_append.1 ha with ha | ha
          · exact (List.pairwise_append.1 h').2.2 a ha y (List.mem_cons_self ..)
          · rw [List.mem_singleton.1 ha]; exact Int.le_refl _
        show a.f0 ≤ b.f0
        omega
      · exact h2.2.2 a ha b hb
theorem isr_ps : ∀ (l P : List S88), P.Pairwise kle → (isr P l).Pairwise kle ∧ (isr P l).Perm (P ++ l)
  | [], P, h => ⟨h, by simp [isr]⟩
  | x :: l, P, h => by
    have hb := bub_sorted x P.reverse [] (by simpa using h) (fun y hy => by simp at hy)
    have ih := isr_ps l (bub x P.reverse []) hb
    refine ⟨ih.1, ih.2.trans ?_⟩
    have p1 : (bub x P.reverse []).Perm (x :: P) := (bub_perm x P.reverse []).trans (by rw [List.append_nil]; exact (List.reverse_perm P).cons x)
    exact (p1.append_right l).trans List.perm_middle.symm
theorem ins_mem (g : S88) (P : Int → Prop) (hg : P g.f0) : ∀ l : List S88, (∀ x ∈ l, P x.f0) → ∀ x ∈ ins g l, P x.f0
  | [], _, x, hx => by rw [ins, List.mem_singleton] at hx; rw [hx]; exact hg
  | h :: t, hl, x, hx => by
    rw [ins] at hx
    split at hx
    · rcases List.mem_cons.1 hx with hx | hx
      · rw [hx]; exact hl h (List.mem_cons_self ..)
      · exact ins_mem g P hg t (fun y hy => hl y (List.mem_cons_of_mem _ hy)) x hx
    · split at hx
      · rcases List.mem_cons.1 hx with hx | hx
        · rw [hx]; exact hl h (List.mem_cons_self ..)
        · exact hl x (List.mem_cons_of_mem _ hx)
      · rcases List.mem_cons.1 hx with hx | hx
        · rw [hx]; exact hg
        · exact hl x hx
theorem ins_sorted (g : S88) : ∀ l : List S88, l.Pairwise klt → (ins g l).Pairwise klt
  | [], _ => by simp [ins]
  | h :: t, hp => by
    obtain ⟨h1, h2⟩ := List.pairwise_cons.1 hp
    rw [ins]
    split
    · rename_i hlt
      exact List.pairwise_cons.2 ⟨ins_mem g (fun v => h.f0 < v) hlt t h1, ins_sorted g t h2⟩
    · split
      · exact List.pairwise_cons.2 ⟨h1, h2⟩
      · refine List.pairwise_cons.2 ⟨fun y hy => ?_, hp⟩
        rcases List.mem_cons.1 hy with hy | hy
        · subst hy; show g.f0 < y.f0; omega
        · have : h.f0 < y.f0 := h1 y hy
          show g.f0 < y.f0; omega
theorem upd_absent (g : S88) : ∀ l : List S88, (∀ x ∈ l, x.f0 ≠ g.f0) → upd g l = l ++ [g]
  | [], _ => rfl
  | h :: t, hl => by
    rw [upd, if_neg (hl h (List.mem_cons_self ..)), upd_absent g t (fun x hx => hl x (List.mem_cons_of_mem _ hx))]; rfl
theorem ins_upd (g : S88) : ∀ l : List S88, l.Pairwise klt → (ins g l).Perm (upd g l)
  | [], _ => List.Perm.refl _
  | h :: t, hp => by
    obtain ⟨h1, h2⟩ := List.pairwise_cons.1 hp
    rw [ins]
    split
    · rename_i hlt
      rw [upd, if_neg (by omega)]
      exact (ins_upd g t h2).cons h
    · split
      · rename_i he
        rw [upd, if_pos he]
      · rename_i hn he
        rw [upd, if_neg he, upd_absent g t (fun x hx => by have : h.f0 < x.f0 := h1 x hx; omega)]
        exact (List.perm_append_singleton g (h :: t)).symm
def ks (l : List S88) : List Int := l.map (·.f0)
theorem upd_perm (g : S88) {a b : List S88} (h : a.Perm b) : (ks a).Nodup → (upd g a).Perm (upd g b) := by
  induction h with
  | nil => intro _; exact List.Perm.refl _
  | cons x p ih =>
    intro hn
    have hn' := (List.nodup_cons.1 hn).2
    rw [upd, upd]
    split
    · exact p.cons _
    · exact (ih hn').cons x
  | swap x y l =>
    intro hn
    have hxy : y.f0 ≠ x.f0 := by
      intro e
      have := (List.nodup_cons.1 hn).1
      apply this
      show y.f0 ∈ x.f0 :: ks l
      rw [e]; exact List.mem_cons_self ..
    by_cases h1 : y.f0 = g.f0
    · have h2 : ¬ x.f0 = g.f0 := by omega
      simp only [upd, if_pos h1, if_neg h2]
      exact List.Perm.swap _ _ _
    · by_cases h2 : x.f0 = g.f0
      · simp only [upd, if_neg h1, if_pos h2]
        exact List.Perm.swap _ _ _
      · simp only [upd, if_neg h1, if_neg h2]
        exact List.Perm.swap _ _ _
  | trans p q ih1 ih2 =>
    intro hn
    exact (ih1 hn).trans (ih2 ((p.map (fun x : S88 => x.f0)).nodup_iff.1 hn))
theorem klt_nodup {l : List S88} (h : l.Pairwise klt) : (ks l).Nodup := by
  unfold ks
  rw [List.nodup_iff_pairwise_ne]
  refine List.pairwise_map.2 (h.imp fun {a b} hab => ?_)
  have : a.f0 < b.f0 := hab
  omega
theorem sorted_eq : ∀ {a b : List S88}, a.Pairwise klt → b.Pairwise klt → a.Perm b → a = b
  | [], b, _, _, h => (List.nil_perm.1 h).symm
  | x :: a, [], _, _, h => by simp at h
  | x :: a, y :: b, ha, hb, h => by
    obtain ⟨a1, a2⟩ := List.pairwise_cons.1 ha
    obtain ⟨b1, b2⟩ := List.pairwise_cons.1 hb
    have e : x = y := by
      have hx : x ∈ y :: b := h.subset (List.mem_cons_self ..)
      have hy : y ∈ x :: a := h.symm.subset (List.mem_cons_self ..)
      rcases List.mem_cons.1 hx with hx | hx
      · exact hx
      rcases List.mem_cons.1 hy with hy | hy
      · exact hy.symm
      have k1 : y.f0 < x.f0 := b1 x hx
      have k2 : x.f0 < y.f0 := a1 y hy
      omega
    subst e
    rw [sorted_eq a2 b2 (List.Perm.cons_inv h)]
theorem mgs_upds : ∀ (l S A : List S88), S.Pairwise klt → S.Perm A → (mgs S l).Pairwise klt ∧ (mgs S l).Perm (upds A l)
  | [], S, A, h, p => ⟨h, p⟩
  | x :: l, S, A, h, p => mgs_upds l (ins x S) (upd x A) (ins_sorted x S h) ((ins_upd x S h).trans (upd_perm x p (klt_nodup h)))
theorem mgs_sorted (l : List S88) : (mgs [] l).Pairwise klt := (mgs_upds l [] [] List.Pairwise.nil (List.Perm.refl _)).1
theorem isr_eq (l : List S88) : isr [] (upds [] l) = mgs [] l := by
  have h1 := isr_ps (upds [] l) [] List.Pairwise.nil
  have h2 := mgs_upds l [] [] List.Pairwise.nil (List.Perm.refl _)
  have p : (isr [] (upds [] l)).Perm (mgs [] l) := h1.2.trans (by rw [List.nil_append]; exact h2.2.symm)
  refine sorted_eq ?_ h2.1 p
  have hn : (ks (isr [] (upds [] l))).Nodup := (p.map (fun x : S88 => x.f0)).nodup_iff.2 (klt_nodup h2.1)
  unfold ks at hn
  rw [List.nodup_iff_pairwise_ne] at hn
  have hn' := List.pairwise_map.1 hn
  refine (h1.1.and hn').imp fun {a b} hab => ?_
  have k1 : a.f0 ≤ b.f0 := hab.1
  have k2 : a.f0 ≠ b.f0 := hab.2
  show a.f0 < b.f0
  omega

theorem u64w {x : Int} (h0 : 0 ≤ x) (h1 : x ≤ 9223372036854775807) : IntKind.u64.wrap x = x := by
  simp [IntKind.wrap, IntKind.bits, IntKind.signed]; omega
theorem u8w (x : Int) : 0 ≤ IntKind.u8.wrap x ∧ IntKind.u8.wrap x < 256 := by
  simp [IntKind.wrap, IntKind.bits, IntKind.signed]; omega
set_option maxRecDepth 100000 in
theorem bits_Len_small (n : Nat) (h : n ≤ 12) : ∃ r, Ev (fun k => bits_Len.f k (IntKind.u64.wrap (n : Int))) r := by
  rw [u64w (by omega) (by omega)]
  have hb := u8w (n : Int)
  refine ⟨_, Ev.u (fun _ => rfl) (Ev.b (Ev.u (fun _ => rfl) (Ev.e (by omega) (Ev.s (fun k => by rw [bits_Len64.j0]) (Ev.e (by omega) (Ev.s (fun k => by rw [bits_Len64.j1]) (Ev.e (by omega) (Ev.s (fun k => by rw [bits_Len64.j2]) (Ev.t hb.1 (Ev.t ?_ Ev.p))))))))) Ev.p)⟩
  exact hb.2
theorem SortFunc_small (A : List S88) (h : A.length ≤ 12) : Ev (fun k => slices_SortFunc_impl_Group_impl_Group_at93.f k A) (isr [] A) := by
  obtain ⟨r, hr⟩ := bits_Len_small A.length h
  have e1 : wrap64 ((0 : Int) + 1) = 1 := w64 (by omega) (by omega)
  refine Ev.u (fun _ => rfl) (Ev.b hr (Ev.b ?_ Ev.p))
  refine Ev.s (fun k => by rw [slices_pdqsortCmpFunc_impl_Group_at93.f]) ?_
  refine Ev.s (fun k => by rw [slices_pdqsortCmpFunc_impl_Group_at93.l0]) ?_
  rw [w64 (x := (A.length : Int) - 0) (by omega) (by omega)]
  refine Ev.t (by omega) (Ev.b ?_ Ev.p)
  cases A with
  | nil =>
    refine Ev.u (fun k => by rw [slices_insertionSortCmpFunc_impl_Group_at93.f, e1]) ?_
    refine Ev.s (fun k => by rw [slices_insertionSortCmpFunc_impl_Group_at93.l0]) ?_
    exact Ev.e (by simp) (Ev.p.r (by rfl))
  | cons x t =>
    rw [List.length_cons] at h
    have e := isort_l0 (isr [x] t) t [x] (by simp; omega) rfl (by simp)
    refine Ev.u (fun k => by rw [slices_insertionSortCmpFunc_impl_Group_at93.f, e1]) ?_
    have e2 : (([x] : List S88).length + t.length) = (x :: t).length := by simp; omega
    rw [e2] at e
    exact e
theorem impl_MergeGroups_small (l : List S88) (hl : l.length ≤ 1099511627776) (h : (mgs [] l).length ≤ 12) : Ev (fun k => impl_MergeGroups.f k l) (mgs [] l) := by
  have p := (mgs_upds l [] [] List.Pairwise.nil (List.Perm.refl _)).2
  have e := SortFunc_small (upds [] l) (by rw [← p.length_eq]; exact h)
  rw [isr_eq] at e
  exact impl_MergeGroups_ev l hl _ e
theorem mgs_mem (P : Int → Prop) : ∀ (l S : List S88), (∀ x ∈ S, P x.f0) → (∀ x ∈ l, P x.f0) → ∀ x ∈ mgs S l, P x.f0
  | [], S, hS, _ => hS
  | x :: l, S, hS, hl => mgs_mem P l (ins x S) (ins_mem x P (hl x (List.mem_cons_self ..)) S hS) (fun y hy => hl y (List.mem_cons_of_mem _ hy))
theorem klt_len : ∀ (l : List S88) (a b : Int), l.Pairwise klt → (∀ x ∈ l, a ≤ x.f0 ∧ x.f0 ≤ b) → a ≤ b + 1 → (l.length : Int) ≤ b - a + 1
  | [], a, b, _, _, hab => by simp; omega
  | x :: l, a, b, h, hm, hab => by
    obtain ⟨h1, h2⟩ := List.pairwise_cons.1 h
    have hx := hm x (List.mem_cons_self ..)
    have := klt_len l (x.f0 + 1) b h2 (fun y hy => ⟨by have k : x.f0 < y.f0 := h1 y hy; omega, (hm y (List.mem_cons_of_mem _ hy)).2⟩) (by omega)
    rw [List.length_cons]; omega
theorem mgs_len (l : List S88) (h : ∀ x ∈ l, 0 ≤ x.f0 ∧ x.f0 ≤ 9) : (mgs [] l).length ≤ 10 := by
  have := klt_len (mgs [] l) 0 9 (mgs_sorted l) (mgs_mem (fun v => 0 ≤ v ∧ v ≤ 9) l [] (fun x hx => by simp at hx) h) (by omega)
  omega
def gfr (x : S73) : S88 := ⟨x.f0, 1, x.f1, x.f1, x.f1⟩
def rgs (l : List S73) : List S88 := mgs [] (l.map gfr)
theorem spec_ReferenceGroups_l0 (l : List S73) (hl : l.length ≤ 1099511627776) : ∀ (s : List S73) (i : Nat) (acc : List S88), l.drop i = s → i ≤ l.length → acc.length ≤ i → Ev (fun k => spec_ReferenceGroups.l0 k acc (i : Int) l) (mgs [] (acc ++ s.map gfr)) := by
  intro s
  induction s with
  | nil =>
    intro i acc hd hil ha
    have := drop_nil' hd
    refine Ev.s (fun k => by rw [spec_ReferenceGroups.l0]) (Ev.e (by omega) ?_)
    rw [List.map_nil, List.append_nil]
    exact Ev.b (spec_MergeGroups_ev acc (by omega)) Ev.p
  | cons x t ih =>
    intro i acc hd hil ha
    obtain ⟨hi, hd', hx, -⟩ := drop_cons' hd
    refine Ev.s (fun k => by rw [spec_ReferenceGroups.l0]) (Ev.t (by omega) (Ev.t (by omega) ?_))
    rw [rdR, hx, w64s hi (by omega)]
    refine Ev.b (Ev.c rfl) (Ev.t (by omega) ?_)
    have h := ih (i + 1) (acc ++ [gfr x]) hd' (by omega) (by simp; omega)
    rw [List.append_assoc] at h
    exact h
theorem spec_ReferenceGroups_ev (l : List S73) (hl : l.length ≤ 1099511627776) : Ev (fun k => spec_ReferenceGroups.f k l) (rgs l) :=
  Ev.u (fun _ => rfl) (spec_ReferenceGroups_l0 l hl l 0 [] rfl (by omega) (by simp))
theorem impl_ReferenceGroups_l0 (l : List S73) (hl : l.length ≤ 1099511627776) (hm : (rgs l).length ≤ 12) : ∀ (s : List S73) (i : Nat) (acc : List S88), l.drop i = s → i ≤ l.length → acc.length ≤ i → acc ++ s.map gfr = l.map gfr → Ev (fun k => impl_ReferenceGroups.l0 k acc (l.length : Int) (i : Int) l) (rgs l) := by
  intro s
  induction s with
  | nil =>
    intro i acc hd hil ha he
    have := drop_nil' hd
    refine Ev.s (fun k => by rw [impl_ReferenceGroups.l0]) (Ev.e (by omega) ?_)
    rw [List.map_nil, List.append_nil] at he
    subst he
    exact Ev.b (impl_MergeGroups_small (l.map gfr) (by omega) hm) Ev.p
  | cons x t ih =>
    intro i acc hd hil ha he
    obtain ⟨hi, hd', hx, -⟩ := drop_cons' hd
    refine Ev.s (fun k => by rw [impl_ReferenceGroups.l0]) (Ev.t (by omega) (Ev.t (by omega) (Ev.t (by omega) ?_)))
    rw [rdR, hx, w64s hi (by omega)]
    refine Ev.b (Ev.c rfl) (Ev.t (by omega) ?_)
    exact ih (i + 1) (acc ++ [gfr x]) hd' (by omega) (by simp; omega) (by rw [List.append_assoc]; exact he)
theorem impl_ReferenceGroups_ev (l : List S73) (hl : l.length ≤ 1099511627776) (hm : (rgs l).length ≤ 12) : Ev (fun k => impl_ReferenceGroups.f k l) (rgs l) :=
  Ev.u (fun _ => rfl) (impl_ReferenceGroups_l0 l hl hm l 0 [] rfl (by omega) (by simp) rfl)
theorem rgs_mem (l : List S73) (h : ∀ x ∈ l, 0 ≤ x.f0 ∧ x.f0 ≤ 9) : ∀ x ∈ l.map gfr, 0 ≤ x.f0 ∧ x.f0 ≤ 9 := by
  intro x hx
  obtain ⟨y, hy, rfl⟩ := List.mem_map.1 hx
  exact h y hy
theorem rgs_len (l : List S73) (h : ∀ x ∈ l, 0 ≤ x.f0 ∧ x.f0 ≤ 9) : (rgs l).length ≤ 10 := mgs_len _ (rgs_mem l h)
theorem ks_upd (g : S88) : ∀ acc : List S88, ks (upd g acc) = if (ks acc).contains g.f0 = true then ks acc else ks acc ++ [g.f0]
  | [] => by simp [ks, upd]
  | h :: t => by
    have ih := ks_upd g t
    rw [upd]
    by_cases e : h.f0 = g.f0
    · rw [if_pos e]
      have : (ks (h :: t)).contains g.f0 = true := by simp [ks, e]
      rw [if_pos this]; rfl
    · rw [if_neg e]
      have e' : ¬ g.f0 = h.f0 := fun k => e k.symm
      have hc : (ks (h :: t)).contains g.f0 = (ks t).contains g.f0 := by
        show (h.f0 :: ks t).contains g.f0 = _
        rw [List.contains_cons, beq_eq_false_iff_ne.2 e', Bool.false_or]
      rw [hc]
      show h.f0 :: ks (upd g t) = _
      rw [ih]
      split <;> rfl
theorem ks_upds : ∀ (l : List S73) (acc : List S88), ks (upds acc (l.map gfr)) = dk (ks acc) l
  | [], acc => rfl
  | x :: l, acc => by
    show ks (upds (upd (gfr x) acc) (l.map gfr)) = _
    rw [ks_upds l, ks_upd]; rfl
theorem rgs_dk (l : List S73) : (rgs l).length = (dk [] l).length := by
  have p := (mgs_upds (l.map gfr) [] [] List.Pairwise.nil (List.Perm.refl _)).2
  have e := ks_upds l []
  have e2 := congrArg List.length e
  have e3 : (ks (upds [] (l.map gfr))).length = (upds [] (l.map gfr)).length := List.length_map ..
  show (mgs [] (l.map gfr)).length = _
  rw [p.length_eq, ← e3, e2]; rfl

theorem impl_cloneAggregator_l0 (l : List S80) (hl : l.length ≤ 1048576) (ht : ∀ t ∈ l, t.f0.length ≤ 1048576) (w : Int) (e : Bool) (y0 : List S80) (y1 : Int) (y2 : Bool) : ∀ (s : List S80) (i : Nat) (a : List S80), l.drop i = s → a.length ≤ i → Ev (fun k => impl_cloneAggregator.l0 k a (l.length : Int) (i : Int) w e y0 y1 y2 l) (a ++ s, w, e) := by
  intro s
  induction s with
  | nil =>
    intro i a hd ha
    have := drop_nil' hd
    exact Ev.s (fun k => by rw [impl_cloneAggregator.l0]) (Ev.e (by omega) (Ev.p.r (by simp)))
  | cons x t ih =>
    intro i a hd ha
    obtain ⟨hi, hd', hx, -⟩ := drop_cons' hd
    have hm := ht x (List.mem_of_mem_drop (by rw [hd]; exact List.mem_cons_self ..))
    refine Ev.s (fun k => by rw [impl_cloneAggregator.l0]) (Ev.t (by omega) (Ev.t (by omega) (Ev.t (by omega) (Ev.t (by omega) ?_))))
    rw [rdGT, hx, w64s hi (by omega)]
    refine Ev.b (Ev.c (impl_clone_eq x.f0 (by omega))) ?_
    have h := ih (i + 1) (a ++ [x]) hd' (by simp; omega)
    rw [List.append_assoc] at h
    exact h
theorem impl_cloneAggregator_ev (a : S40) (h : asz a ≤ 1048576) : Ev (fun k => impl_cloneAggregator.f k a.f0 a.f1 a.f2) (a.f0, a.f1, a.f2) := by
  have hl : a.f0.length ≤ asz a := by unfold asz; omega
  exact Ev.u (fun _ => rfl) ((impl_cloneAggregator_l0 a.f0 (by omega) (fun t ht => by have := asz_mem ht; omega) a.f1 a.f2 [] 0 false a.f0 0 [] rfl (by simp)).r (by simp))
theorem spec_l22Copy_l0 (l : List S80) (hl : l.length ≤ 1048576) (ht : ∀ t ∈ l, t.f0.length ≤ 1048576) (u1 : Int) (u2 : Bool) (w : Int) (e : Bool) (y0 : List S80) (y1 : Int) (y2 : Bool) : ∀ (s : List S80) (i : Nat) (a : List S80), l.drop i = s → a.length ≤ i → Ev (fun k => spec_l22Copy.l0 k (i : Int) u1 u2 y0 y1 y2 a w e l) (a ++ s, w, e) := by
  intro s
  induction s with
  | nil =>
    intro i a hd ha
    have := drop_nil' hd
    exact Ev.s (fun k => by rw [spec_l22Copy.l0]) (Ev.e (by omega) (Ev.p.r (by simp)))
  | cons x t ih =>
    intro i a hd ha
    obtain ⟨hi, hd', hx, -⟩ := drop_cons' hd
    have hm := ht x (List.mem_of_mem_drop (by rw [hd]; exact List.mem_cons_self ..))
    refine Ev.s (fun k => by rw [spec_l22Copy.l0]) (Ev.t (by omega) (Ev.t (by omega) ?_))
    rw [rdGT, hx, w64s hi (by omega)]
    refine Ev.t (by omega) (Ev.t (by omega) ?_)
    have h := ih (i + 1) (a ++ [x]) hd' (by simp; omega)
    rw [List.append_assoc] at h
    exact h
theorem spec_l22Copy_ev (a : S40) (h : asz a ≤ 1048576) : Ev (fun k => spec_l22Copy.f k a.f0 a.f1 a.f2) (a.f0, a.f1, a.f2) := by
  have hl : a.f0.length ≤ asz a := by unfold asz; omega
  exact Ev.u (fun _ => rfl) ((spec_l22Copy_l0 a.f0 (by omega) (fun t ht => by have := asz_mem ht; omega) a.f1 a.f2 a.f1 a.f2 [] 0 false a.f0 0 [] rfl (by simp)).r (by simp))
def vGT (t : S80) : Bool := vRows t.f0 && inB t.f1 0 4
def sG (l : List S80) : Nat := (l.map fun t => t.f0.length).sum
theorem sG_cons (t : S80) (l : List S80) : sG (t :: l) = t.f0.length + sG l := by simp [sG]
def vA (a : S40) : Bool := (a.f0.all vGT) && (decide (sG a.f0 ≤ 24) && (decide (a.f0.length ≤ 40) && inB a.f1 0 100000))
theorem impl_IsValidAggregator_l0 (l : List S80) (w : Int) (e : Bool) (hl : l.length ≤ 1048576) (ht : ∀ t ∈ l, t.f0.length ≤ 1048576) : ∀ (s : List S80) (i c : Nat), l.drop i = s → c + sG s ≤ 4294967296 →
    Ev (fun k => impl_IsValidAggregator.l0 k (c : Int) (l.length : Int) (i : Int) w e l) ((s.all vGT) && (decide (c + sG s ≤ 24) && (decide (l.length ≤ 40) && inB w 0 100000))) := by
  intro s
  induction s with
  | nil =>
    intro i c hd hc
    have := drop_nil' hd
    refine Ev.s (fun k => by rw [impl_IsValidAggregator.l0]) (Ev.e (by omega) (Ev.i (fun h => Ev.i (fun h2 => ?_) (fun h2 => Ev.p.r ?_)) (fun h => Ev.p.r ?_)))
    · have k1 : l.length ≤ 40 := by omega
      have k2 : c ≤ 24 := by omega
      exact Ev.b (Ev.c (within_eq _ _ _)) (Ev.p.r (by simp [sG, k1, k2]))
    · have k2 : ¬ c ≤ 24 := by omega
      simp [sG, k2]
    · have k1 : ¬ l.length ≤ 40 := by omega
      simp [k1]
  | cons x t ih =>
    intro i c hd hc
    rw [sG_cons] at hc ⊢
    obtain ⟨hi, hd', hx, -⟩ := drop_cons' hd
    have hm := ht x (List.mem_of_mem_drop (by rw [hd]; exact List.mem_cons_self ..))
    rw [List.all_cons]
    refine Ev.s (fun k => by rw [impl_IsValidAggregator.l0]) (Ev.t (by omega) (Ev.t (by omega) (Ev.t (by omega) ?_)))
    rw [rdGT, hx, w64s hi (by omega)]
    refine Ev.b (impl_AreValidRows_ev x.f0 (by omega)) (Ev.i (fun h1 => Ev.b (Ev.c (within_eq _ _ _)) (Ev.i (fun h2 => ?_) (fun h2 => Ev.p.r (by simp [vGT, h2])))) (fun h1 => Ev.p.r (by simp [vGT, h1])))
    rw [show wrap64 ((c : Int) + (x.f0.length : Int)) = ((c + x.f0.length : Nat) : Int) by rw [w64 (by omega) (by omega)]; rfl]
    refine (ih (i + 1) (c + x.f0.length) hd' (by omega)).r ?_
    rw [Nat.add_assoc, show vGT x = true by simp [vGT, h1, h2]]; simp
theorem impl_IsValidAggregator_ev (a : S40) (h : asz a ≤ 1048576) : Ev (fun k => impl_IsValidAggregator.f k a.f0 a.f1 a.f2) (vA a) := by
  have hl : a.f0.length ≤ asz a := by unfold asz; omega
  have hs : sG a.f0 ≤ asz a := by unfold asz sG; omega
  exact Ev.u (fun _ => rfl) ((impl_IsValidAggregator_l0 a.f0 a.f1 a.f2 (by omega) (fun t ht => by have := asz_mem ht; omega) a.f0 0 0 rfl (by omega)).r (by unfold vA; rw [Nat.zero_add]))
theorem spec_IsValidAggregator_l0 (l : List S80) (w : Int) (e : Bool) (hl : l.length ≤ 1048576) (ht : ∀ t ∈ l, t.f0.length ≤ 1048576) : ∀ (s : List S80) (i c : Nat), l.drop i = s → c + sG s ≤ 4294967296 →
    Ev (fun k => spec_IsValidAggregator.l0 k (c : Int) (i : Int) w e l) ((s.all vGT) && (decide (c + sG s ≤ 24) && (decide (l.length ≤ 40) && inB w 0 100000))) := by
  intro s
  induction s with
  | nil =>
    intro i c hd hc
    have := drop_nil' hd
    refine Ev.s (fun k => by rw [spec_IsValidAggregator.l0]) (Ev.e (by omega) (Ev.i (fun h2 => Ev.i (fun h => ?_) (fun h => Ev.p.r ?_)) (fun h2 => Ev.p.r ?_)))
    · have k1 : l.length ≤ 40 := by omega
      have k2 : c ≤ 24 := by omega
      exact Ev.b (Ev.c (l1In_eq _ _ _)) (Ev.p.r (by simp [sG, k1, k2]))
    · have k1 : ¬ l.length ≤ 40 := by omega
      simp [k1]
    · have k2 : ¬ c ≤ 24 := by omega
      simp [sG, k2]
  | cons x t ih =>
    intro i c hd hc
    rw [sG_cons] at hc ⊢
    obtain ⟨hi, hd', hx, -⟩ := drop_cons' hd
    have hm := ht x (List.mem_of_mem_drop (by rw [hd]; exact List.mem_cons_self ..))
    rw [List.all_cons]
    refine Ev.s (fun k => by rw [spec_IsValidAggregator.l0]) (Ev.t (by omega) (Ev.t (by omega) ?_))
    rw [rdGT, hx, w64s hi (by omega)]
    refine Ev.b (spec_AreValidRows_ev x.f0 (by omega)) (Ev.i (fun h1 => Ev.b (Ev.c (l1In_eq _ _ _)) (Ev.i (fun h2 => ?_) (fun h2 => Ev.p.r (by simp [vGT, h2])))) (fun h1 => Ev.p.r (by simp [vGT, h1])))
    rw [show wrap64 ((c : Int) + (x.f0.length : Int)) = ((c + x.f0.length : Nat) : Int) by rw [w64 (by omega) (by omega)]; rfl]
    refine (ih (i + 1) (c + x.f0.length) hd' (by omega)).r ?_
    rw [Nat.add_assoc, show vGT x = true by simp [vGT, h1, h2]]; simp
theorem spec_IsValidAggregator_ev (a : S40) (h : asz a ≤ 1048576) : Ev (fun k => spec_IsValidAggregator.f k a.f0 a.f1 a.f2) (vA a) := by
  have hl : a.f0.length ≤ asz a := by unfold asz; omega
  have hs : sG a.f0 ≤ asz a := by unfold asz sG; omega
  exact Ev.u (fun _ => rfl) ((spec_IsValidAggregator_l0 a.f0 a.f1 a.f2 (by omega) (fun t ht => by have := asz_mem ht; omega) a.f0 0 0 rfl (by omega)).r (by unfold vA; rw [Nat.zero_add]))

def fld (cap : Nat) (early : Bool) : List Int → List S73 → List S73 → Bool → List S73 → List S73 × List S73
  | _, kept, rest, _, [] => (kept, rest)
  | ks, kept, rest, o, x :: s =>
    if o = true then
      if ks.contains x.f0 = true then fld cap early ks (kept ++ [x]) rest true s
      else if ks.length < cap then fld cap early (ks ++ [x.f0]) (kept ++ [x]) rest true s
      else fld cap early ks kept (rest ++ [x]) (!early) s
    else fld cap early ks kept (rest ++ [x]) (!early) s
theorem dk_pre : ∀ (s : List S73) (D : List Int), ∃ e, dk D s = D ++ e
  | [], D => ⟨[], by simp [dk]⟩
  | x :: s, D => by
    rw [dk]
    split
    · exact dk_pre s D
    · obtain ⟨e, he⟩ := dk_pre s (D ++ [x.f0])
      exact ⟨[x.f0] ++ e, by rw [he, List.append_assoc]⟩
theorem dk_take_mem {D : List Int} {s : List S73} {cap : Nat} {q : Int} (h : q ∈ D.take cap) : q ∈ (dk D s).take cap := by
  obtain ⟨e, he⟩ := dk_pre s D
  rw [he, List.take_append]
  exact List.mem_append_left _ h
theorem dk_take_full {D : List Int} (s : List S73) {cap : Nat} (h : cap ≤ D.length) : (dk D s).take cap = D.take cap := by
  obtain ⟨e, he⟩ := dk_pre s D
  rw [he, List.take_append_of_le_length h]
def inH (H : List Int) (x : S73) : Bool := H.contains x.f0
theorem fld_no (cap : Nat) : ∀ (s : List S73) (D : List Int) (kept rest : List S73),
    fld cap false (D.take cap) kept rest true s = (kept ++ s.filter (inH ((dk D s).take cap)), rest ++ s.filter fun x => !inH ((dk D s).take cap) x) ∧ dk (D.take cap) (s.filter (inH ((dk D s).take cap))) = (dk D s).take cap
  | [], D, kept, rest => by simp [fld, dk]
  | x :: s, D, kept, rest => by
    rw [fld, if_pos rfl, dk]
    by_cases h1 : (D.take cap).contains x.f0 = true
    · have hD : D.contains x.f0 = true := by
        rw [List.contains_iff_mem] at h1 ⊢; exact List.mem_of_mem_take h1
      rw [if_pos h1, if_pos hD]
      have ih := fld_no cap s D (kept ++ [x]) rest
      have hx : inH ((dk D s).take cap) x = true := by
        unfold inH; rw [List.contains_iff_mem] at h1 ⊢; exact dk_take_mem h1
      rw [List.filter_cons_of_pos hx, List.filter_cons_of_neg (by simp [hx]), dk, if_pos h1]
      exact ⟨by rw [ih.1]; simp, ih.2⟩
    · rw [if_neg h1]
      by_cases h2 : (D.take cap).length < cap
      · have hlen : D.length < cap := by rw [List.length_take] at h2; omega
        have hT : D.take cap = D := List.take_of_length_le (by omega)
        rw [if_pos h2]
        rw [hT] at h1 ⊢
        rw [if_neg h1]
        have ih := fld_no cap s (D ++ [x.f0]) (kept ++ [x]) rest
        have hT2 : (D ++ [x.f0]).take cap = D ++ [x.f0] := List.take_of_length_le (by simp; omega)
        rw [hT2] at ih
        have hx : inH ((dk (D ++ [x.f0]) s).take cap) x = true := by
          unfold inH; rw [List.contains_iff_mem]; exact dk_take_mem (by rw [hT2]; simp)
        rw [List.filter_cons_of_pos hx, List.filter_cons_of_neg (by simp [hx]), dk, if_neg h1]
        exact ⟨by rw [ih.1]; simp, ih.2⟩
      · have hlen : cap ≤ D.length := by rw [List.length_take] at h2; omega
        rw [if_neg h2]
        have hT : (dk (if D.contains x.f0 = true then D else D ++ [x.f0]) s).take cap = D.take cap := by
          split
          · exact dk_take_full s hlen
          · rw [dk_take_full s (by simp; omega), List.take_append_of_le_length hlen]
        have hT' : (dk D s).take cap = D.take cap := dk_take_full s hlen
        have hx : ¬ inH (D.take cap) x = true := h1
        have ih := fld_no cap s D kept (rest ++ [x])
        rw [hT'] at ih
        rw [hT, List.filter_cons_of_neg hx, List.filter_cons_of_pos (by simpa using hx)]
        exact ⟨by rw [show (!false) = true from rfl, ih.1]; simp, ih.2⟩
def eN (cap : Nat) : List S73 → List S73 → Nat
  | p, [] => p.length
  | p, x :: s => if (dk [] (p ++ [x])).length ≤ cap then eN cap (p ++ [x]) s else p.length
theorem dk_app : ∀ (p s : List S73) (D : List Int), dk D (p ++ s) = dk (dk D p) s
  | [], s, D => rfl
  | x :: p, s, D => by rw [List.cons_append, dk, dk, dk_app p s]
theorem fld_closed (cap : Nat) : ∀ (s : List S73) (ks : List Int) (kept rest : List S73), fld cap true ks kept rest false s = (kept, rest ++ s)
  | [], _, _, _ => by simp [fld]
  | x :: s, ks, kept, rest => by
    rw [fld, if_neg (by simp)]
    rw [show (!true) = false from rfl, fld_closed cap s]; simp
theorem fld_yes (cap : Nat) : ∀ (s p : List S73), (dk [] p).length ≤ cap → fld cap true (dk [] p) p [] true s = ((p ++ s).take (eN cap p s), (p ++ s).drop (eN cap p s)) ∧ (dk [] ((p ++ s).take (eN cap p s))).length ≤ cap ∧ eN cap p s ≤ p.length + s.length ∧ p.length ≤ eN cap p s
  | [], p, h => by
    simp only [fld, eN, List.append_nil, List.take_length, List.drop_length, List.length_nil]
    exact ⟨trivial, h, by omega, by omega⟩
  | x :: s, p, h => by
    have e1 : dk [] (p ++ [x]) = if (dk [] p).contains x.f0 = true then dk [] p else dk [] p ++ [x.f0] := by rw [dk_app]; rfl
    rw [fld, if_pos rfl, eN]
    by_cases h1 : (dk [] p).contains x.f0 = true
    · rw [if_pos h1] at e1
      rw [if_pos h1, if_pos (by rw [e1]; exact h)]
      have ih := fld_yes cap s (p ++ [x]) (by rw [e1]; exact h)
      rw [e1, List.append_assoc, List.length_append, List.length_singleton] at ih
      rw [List.length_cons]
      exact ⟨ih.1, ih.2.1, by omega, by omega⟩
    · rw [if_neg h1] at e1
      have e2 : (dk [] (p ++ [x])).length = (dk [] p).length + 1 := by rw [e1]; simp
      rw [if_neg h1]
      by_cases h2 : (dk [] p).length < cap
      · rw [if_pos h2, if_pos (by omega)]
        have ih := fld_yes cap s (p ++ [x]) (by omega)
        rw [e1, List.append_assoc, List.length_append, List.length_singleton] at ih
        rw [List.length_cons]
        exact ⟨ih.1, ih.2.1, by omega, by omega⟩
      · rw [if_neg h2, if_neg (by omega)]
        rw [show (!true) = false from rfl, fld_closed]
        refine ⟨?_, ?_, by omega, by omega⟩
        · simp
        · rw [List.take_left']
          · exact h
          · rfl

def rst (early : Bool) (lv : Int) (R : List S73) : List S80 :=
  if R.length = 0 then [] else if early = true then [⟨R, lv⟩] else if lv < 4 then [⟨spl0 lv R, lv + 1⟩, ⟨spl1 lv R, lv + 1⟩] else [⟨R, lv⟩]
def wrA (early : Bool) (w : Int) (R : List S73) : Int := if early = true then w else w + tCost R
abbrev gtup (p : List S80) (w : Int) (e : Bool) (G : List S88) : List S80 × Int × Bool × List S88 × Int × Bool := (p, w, e, G, 3 * (G.length : Int), true)
theorem impl_SA_j2 (G : List S88) (y0 p : List S80) (y1 w : Int) (y2 e : Bool) (hG : G.length ≤ 1048576) : Ev (fun k => impl_StepAggregator.j2 k G y0 y1 y2 p w e) (gtup p w e G) := by
  refine Ev.s (fun k => by rw [impl_StepAggregator.j2, w64 (x := 3 * (G.length : Int)) (by omega) (by omega)]) ?_
  exact Ev.p
theorem impl_SA_j3 (G : List S88) (n y0 p : List S80) (y1 w : Int) (y2 e : Bool) (hG : G.length ≤ 1048576) (hn : n.length + p.length ≤ 1048576) : Ev (fun k => impl_StepAggregator.j3 k G n y0 y1 y2 p w e) (gtup (n ++ p) w e G) := by
  refine Ev.s (fun k => by rw [impl_StepAggregator.j3]) ?_
  exact Ev.t (by omega) (impl_SA_j2 G y0 (n ++ p) y1 w y2 e hG)
theorem impl_SA_fin (cap : Int) (m : List (Int × Bool)) (R K rows x9 : List S73) (o : Bool) (i : Nat) (hi : rows.length ≤ i) (y0 s : List S80) (y1 w lv : Int) (y2 early : Bool) (hK : (rgs K).length ≤ 12) (hKl : K.length ≤ 1048576) (hR : R.length ≤ 1048576) (hs : s.length ≤ 1048000) (hw : 0 ≤ w ∧ w ≤ 1048576) (hlv : 0 ≤ lv ∧ lv ≤ 4) :
    Ev (fun k => impl_StepAggregator.l0 k cap m R K o rows (rows.length : Int) (i : Int) y0 y1 y2 s w early x9 lv) (gtup (rst early lv R ++ s) (wrA early w R) early (rgs K)) := by
  have hc := tCost_b R
  refine Ev.s (fun k => by rw [impl_StepAggregator.l0]) (Ev.e (by omega) (Ev.b (impl_ReferenceGroups_ev K (by omega) hK) ?_))
  unfold rst wrA
  refine Ev.i (fun h => ?_) (fun h => ?_)
  · rw [if_neg (show ¬ R.length = 0 by omega)]
    refine Ev.i (fun he => ?_) (fun he => ?_)
    · subst he
      exact impl_SA_j3 (rgs K) [⟨R, lv⟩] y0 s y1 w y2 true (by omega) (by simp; omega)
    · have he' : early = false := by simpa using he
      subst he'
      refine Ev.b (impl_TotalCost_ev R (by omega)) ?_
      rw [w64 (x := w + tCost R) (by omega) (by omega)]
      refine Ev.i (fun hl => ?_) (fun hl => ?_)
      · rw [w64 (x := lv + 1) (by omega) (by omega)]
        simp only [Bool.false_eq_true, if_false, if_pos hl]
        exact Ev.b (impl_SplitByHashBit_ev R lv (by omega)) (impl_SA_j3 (rgs K) [⟨spl0 lv R, lv + 1⟩, ⟨spl1 lv R, lv + 1⟩] y0 s y1 _ y2 false (by omega) (by simp; omega))
      · simp only [Bool.false_eq_true, if_false, if_neg hl]
        exact impl_SA_j3 (rgs K) [⟨R, lv⟩] y0 s y1 _ y2 false (by omega) (by simp; omega)
  · have hR0 : R = [] := List.eq_nil_of_length_eq_zero (by omega)
    subst hR0
    refine (impl_SA_j2 (rgs K) y0 s y1 w y2 early (by omega)).r ?_
    simp [tCost]
theorem mSet_len {β : Type} : ∀ (m : List (Int × β)) (q : Int) (v : β), mGet m q = none → (mSet m q v).length = m.length + 1
  | [], q, v, _ => rfl
  | p :: r, q, v, h => by
    cases hq : p.1 == q
    · rw [mGet, hq, cond_false] at h
      rw [mSet, hq, cond_false, List.length_cons, List.length_cons, mSet_len r q v h]
    · rw [mGet, hq, cond_true] at h; cases h
theorem impl_SA_l0 (cap : Nat) (hcap : cap ≤ 1048576) (rows x9 : List S73) (hrl : rows.length ≤ 1048576) (y0 p : List S80) (y1 w lv : Int) (y2 early : Bool) (r : List S80 × Int × Bool × List S88 × Int × Bool) : ∀ (s : List S73) (i : Nat) (ks : List Int) (m : List (Int × Bool)) (kept rest : List S73) (o : Bool), rows.drop i = s → (∀ q, mGet m q = if ks.contains q = true then some true else none) → m.length = ks.length → kept.length ≤ i → rest.length ≤ i →
    (∀ (m' : List (Int × Bool)) (o' : Bool) (i' : Nat), rows.length ≤ i' → Ev (fun k => impl_StepAggregator.l0 k (cap : Int) m' (fld cap early ks kept rest o s).2 (fld cap early ks kept rest o s).1 o' rows (rows.length : Int) (i' : Int) y0 y1 y2 p w early x9 lv) r) →
    Ev (fun k => impl_StepAggregator.l0 k (cap : Int) m rest kept o rows (rows.length : Int) (i : Int) y0 y1 y2 p w early x9 lv) r := by
  intro s
  induction s with
  | nil =>
    intro i ks m kept rest o hd hm hml ha hb hf
    exact hf m o i (drop_nil' hd)
  | cons x t ih =>
    intro i ks m kept rest o hd hm hml ha hb hf
    obtain ⟨hi, hd', hx, -⟩ := drop_cons' hd
    have J1 : (∀ (m' : List (Int × Bool)) (o' : Bool) (i' : Nat), rows.length ≤ i' → Ev (fun k => impl_StepAggregator.l0 k (cap : Int) m' (fld cap early ks kept (rest ++ [x]) (!early) t).2 (fld cap early ks kept (rest ++ [x]) (!early) t).1 o' rows (rows.length : Int) (i' : Int) y0 y1 y2 p w early x9 lv) r) →
        Ev (fun k => impl_StepAggregator.j1 k (cap : Int) m rest kept rows (rows.length : Int) (i : Int) y0 y1 y2 p w early x9 lv x.f0 x.f1 x.f2) r := by
      intro h
      refine Ev.s (fun k => by rw [impl_StepAggregator.j1]) ?_
      rw [w64s hi (by omega)]
      exact Ev.t (by omega) (ih (i + 1) ks m kept (rest ++ [x]) (!early) hd' hm hml (by omega) (by simp; omega) h)
    rw [fld] at hf
    refine Ev.s (fun k => by rw [impl_StepAggregator.l0]) (Ev.t (by omega) (Ev.t (by omega) (Ev.t (by omega) ?_)))
    rw [rdR, hx]
    refine Ev.i (fun ho => ?_) (fun ho => ?_)
    · subst ho
      rw [if_pos rfl] at hf
      rw [hm x.f0]
      by_cases h1 : ks.contains x.f0 = true
      · rw [if_pos h1] at hf
        rw [if_pos h1]
        refine Ev.t rfl (Ev.s (fun k => by rw [impl_StepAggregator.j0]) ?_)
        rw [hm x.f0, if_pos h1, w64s hi (by omega)]
        exact Ev.t rfl (Ev.t rfl (Ev.t (by omega) (ih (i + 1) ks m (kept ++ [x]) rest true hd' hm hml (by simp; omega) (by omega) hf)))
      · rw [if_neg h1] at hf
        rw [if_neg h1]
        refine Ev.e (by simp) (Ev.i (fun h2 => ?_) (fun h2 => ?_))
        · rw [if_pos (show ks.length < cap by omega)] at hf
          refine Ev.s (fun k => by rw [impl_StepAggregator.j0]) ?_
          rw [w64s hi (by omega), show (mGet (mSet m x.f0 true) x.f0) = some true by rw [mGet_set, beq_self_eq_true, cond_true]]
          refine Ev.t rfl (Ev.t rfl (Ev.t (by omega) ?_))
          refine ih (i + 1) (ks ++ [x.f0]) (mSet m x.f0 true) (kept ++ [x]) rest true hd' (fun q => ?_) ?_ (by simp; omega) (by omega) hf
          · rw [mGet_set]
            by_cases hq : x.f0 = q
            · subst hq; simp
            · have hq' : ¬ q = x.f0 := fun e => hq e.symm
              rw [beq_eq_false_iff_ne.2 hq, cond_false, hm q]
              simp [hq']
          · rw [mSet_len m x.f0 true (by rw [hm x.f0, if_neg h1]), hml]; simp
        · rw [if_neg (show ¬ ks.length < cap by omega)] at hf
          refine Ev.s (fun k => by rw [impl_StepAggregator.j0]) ?_
          rw [hm x.f0, if_neg h1]
          exact Ev.t rfl (Ev.e (by simp) (J1 hf))
    · have ho' : o = false := by simpa using ho
      subst ho'
      rw [if_neg (by simp)] at hf
      refine Ev.s (fun k => by rw [impl_StepAggregator.j0]) ?_
      exact Ev.e (by simp) (J1 hf)

theorem spec_SA_fin (held w lv : Int) (D : List Int) (R K rows : List S73) (i : Nat) (hi : rows.length ≤ i) (y0 s p8 L : List S80) (y1 : Int) (y2 e0 e8 : Bool) (hKl : K.length ≤ 1048576) (hR : R.length ≤ 1048576) (hs : s.length ≤ 1048000) (hw : 0 ≤ w ∧ w ≤ 1048576) (hlv : 0 ≤ lv ∧ lv ≤ 4) (hh : 0 ≤ held ∧ held ≤ 1048576) :
    Ev (fun k => spec_StepAggregator.l0 k s D held K R (i : Int) w e0 y0 y1 y2 p8 w e8 rows lv L) (rst false lv R ++ s, wrA false w R, e8, rgs K, held * 3, true) := by
  have hc := tCost_b R
  have J0 : ∀ (p : List S80) (w' : Int), Ev (fun k => spec_StepAggregator.j0 k held K y0 y1 y2 p w' e8) (p, w', e8, rgs K, held * 3, true) := by
    intro p w'
    refine Ev.s (fun k => by rw [spec_StepAggregator.j0, w64 (x := held * 3) (by omega) (by omega)]) ?_
    exact Ev.b (spec_ReferenceGroups_ev K (by omega)) Ev.p
  have J1 : ∀ (n p : List S80) (w' : Int), n.length ≤ 100 → Ev (fun k => spec_StepAggregator.j1 k s held K n y0 y1 y2 p w' e8) (n ++ s, w', e8, rgs K, held * 3, true) := by
    intro n p w' hn
    refine Ev.s (fun k => by rw [spec_StepAggregator.j1]) ?_
    exact Ev.t (by omega) (J0 (n ++ s) w')
  refine Ev.s (fun k => by rw [spec_StepAggregator.l0]) (Ev.e (by omega) ?_)
  unfold rst wrA
  refine Ev.i (fun h => ?_) (fun h => ?_)
  · rw [if_neg (show ¬ R.length = 0 by omega)]
    refine Ev.b (spec_TotalCost_ev R (by omega)) ?_
    rw [w64 (x := w + tCost R) (by omega) (by omega)]
    refine Ev.i (fun hl => ?_) (fun hl => ?_)
    · rw [w64 (x := lv + 1) (by omega) (by omega)]
      simp only [Bool.false_eq_true, if_false, if_pos hl]
      exact Ev.b (spec_SplitByHashBit_ev R lv (by omega)) (J1 [⟨spl0 lv R, lv + 1⟩, ⟨spl1 lv R, lv + 1⟩] _ _ (by simp))
    · simp only [Bool.false_eq_true, if_false, if_neg hl]
      exact J1 [⟨R, lv⟩] _ _ (by simp)
  · have hR0 : R = [] := List.eq_nil_of_length_eq_zero (by omega)
    subst hR0
    exact (J0 s w).r (by simp [tCost])
theorem getD_take (D : List Int) (h j : Nat) (hj : j < (D.take h).length) : (D.take h).getD j 0 = D.getD j 0 := by
  rw [List.length_take] at hj
  rw [List.getD_eq_getElem?_getD, List.getD_eq_getElem?_getD, List.getElem?_take_of_lt (by omega)]
theorem spec_SA_l1 (D : List Int) (h : Nat) (hh : h ≤ D.length) (hD : D.length ≤ 1048576) (rows : List S73) (hrl : rows.length ≤ 1048576) (w lv y1 w8 : Int) (s y0 p8 L : List S80) (e0 y2 e8 : Bool) (K R : List S73) (i : Nat) (hi : i < rows.length) (x : S73) (hx : ∀ d, rows.getD i d = x) (hK : K.length ≤ i) (hR : R.length ≤ i) (r : List S80 × Int × Bool × List S88 × Int × Bool) : ∀ (u : List Int) (j : Nat) (b : Bool), (D.take h).drop j = u → j ≤ h →
    Ev (fun k => spec_StepAggregator.l0 k s D (h : Int) (if (b || u.contains x.f0) = true then K ++ [x] else K) (if (b || u.contains x.f0) = true then R else R ++ [x]) ((i + 1 : Nat) : Int) w e0 y0 y1 y2 p8 w8 e8 rows lv L) r →
    Ev (fun k => spec_StepAggregator.l1 k s D (h : Int) K R (i : Int) b (j : Int) w e0 y0 y1 y2 p8 w8 e8 rows lv L) r := by
  intro u
  have hHl : (D.take h).length = h := by rw [List.length_take]; omega
  induction u with
  | nil =>
    intro j b hd hj hf
    have := drop_nil' hd
    refine Ev.s (fun k => by rw [spec_StepAggregator.l1]) (Ev.e (by omega) ?_)
    rw [rdR, hx, w64s hi (by omega)]
    refine Ev.i (fun hb => Ev.t (by omega) (Ev.t (by omega) (Ev.t (by omega) ?_))) (fun hb => Ev.t (by omega) (Ev.t (by omega) (Ev.t (by omega) ?_)))
    · simpa [hb] using hf
    · simpa [hb] using hf
  | cons y t ih =>
    intro j b hd hj hf
    obtain ⟨hj', hd', hy, -⟩ := drop_cons' hd
    have hy' : D.getD j 0 = y := by rw [← getD_take D h j hj', hy]
    refine Ev.s (fun k => by rw [spec_StepAggregator.l1]) (Ev.t (by omega) ?_)
    rw [w64s hj' (by omega)]
    refine Ev.i (fun hb => ?_) (fun hb => Ev.t (by omega) (Ev.t (by omega) (Ev.t (by omega) (Ev.t (by omega) ?_))))
    · exact ih (j + 1) true hd' (by omega) (by simpa [hb] using hf)
    · rw [rdR, hx, rdI, hy']
      have hb' : b = false := by simpa using hb
      subst hb'
      refine ih (j + 1) _ hd' (by omega) ?_
      have e : (decide (y = x.f0) || t.contains x.f0) = (false || (y :: t).contains x.f0) := by
        rw [List.contains_cons, Bool.false_or]
        congr 1
        by_cases hxy : y = x.f0
        · simp [hxy]
        · have : ¬ x.f0 = y := fun h => hxy h.symm
          simp [hxy, this]
      rw [e]; exact hf
theorem spec_SA_l0 (D : List Int) (h : Nat) (hh : h ≤ D.length) (hD : D.length ≤ 1048576) (rows : List S73) (hrl : rows.length ≤ 1048576) (w lv y1 : Int) (s y0 p8 L : List S80) (e0 y2 e8 : Bool) (hs : s.length ≤ 1048000) (hw : 0 ≤ w ∧ w ≤ 1048576) (hlv : 0 ≤ lv ∧ lv ≤ 4) : ∀ (u : List S73) (i : Nat) (K R : List S73), rows.drop i = u → i ≤ rows.length → K.length ≤ i → R.length ≤ i →
    Ev (fun k => spec_StepAggregator.l0 k s D (h : Int) K R (i : Int) w e0 y0 y1 y2 p8 w e8 rows lv L) (rst false lv (R ++ u.filter fun x => !inH (D.take h) x) ++ s, wrA false w (R ++ u.filter fun x => !inH (D.take h) x), e8, rgs (K ++ u.filter (inH (D.take h))), (h : Int) * 3, true) := by
  intro u
  induction u with
  | nil =>
    intro i K R hd hil hK hR
    rw [List.filter_nil, List.filter_nil, List.append_nil, List.append_nil]
    exact spec_SA_fin (h : Int) w lv D R K rows i (drop_nil' hd) y0 s p8 L y1 y2 e0 e8 (by omega) (by omega) hs hw hlv (by omega)
  | cons x t ih =>
    intro i K R hd hil hK hR
    obtain ⟨hi, hd', hx, -⟩ := drop_cons' hd
    refine Ev.s (fun k => by rw [spec_StepAggregator.l0]) (Ev.t (by omega) ?_)
    refine spec_SA_l1 D h hh hD rows hrl w lv y1 w s y0 p8 L e0 y2 e8 K R i hi x hx hK hR _ (D.take h) 0 false rfl (by omega) ?_
    rw [Bool.false_or]
    by_cases hc : (D.take h).contains x.f0 = true
    · have hx' : inH (D.take h) x = true := hc
      rw [if_pos hc, if_pos hc, List.filter_cons_of_pos hx', List.filter_cons_of_neg (by simp [hx'])]
      have e := ih (i + 1) (K ++ [x]) R hd' (by omega) (by simp; omega) (by omega)
      rw [List.append_assoc] at e
      exact e
    · have hx' : ¬ inH (D.take h) x = true := hc
      rw [if_neg hc, if_neg hc, List.filter_cons_of_neg hx', List.filter_cons_of_pos (by simpa using hx')]
      have e := ih (i + 1) K (R ++ [x]) hd' (by omega) (by omega) (by simp; omega)
      rw [List.append_assoc] at e
      exact e
theorem spec_Early_l0 (cap : Nat) (rows : List S73) (hrl : rows.length ≤ 1048576) (w lv w8 : Int) (s p8 : List S80) (e e8 : Bool) (hs : s.length ≤ 1048000) : ∀ (u p : List S73), rows = p ++ u →
    Ev (fun k => spec_l22Early.l0 k s (cap : Int) (p.length : Int) w e rows lv p8 w8 e8) (rst true lv (rows.drop (eN cap p u)) ++ s, w, e, rgs (rows.take (eN cap p u)), ((dk [] (rows.take (eN cap p u))).length : Int) * 3, true) := by
  have J0 : ∀ n : Nat, n ≤ rows.length → Ev (fun k => spec_l22Early.j0 k s (n : Int) w e rows lv p8 w8 e8) (rst true lv (rows.drop n) ++ s, w, e, rgs (rows.take n), ((dk [] (rows.take n)).length : Int) * 3, true) := by
    intro n hn
    have hl : (rows.take n).length ≤ rows.length := List.length_take_le' _ _
    have hdl := dk_len (rows.take n) []
    rw [List.length_nil] at hdl
    refine Ev.s (fun k => by rw [spec_l22Early.j0]) (Ev.t (by omega) (Ev.t (by omega) ?_))
    rw [Int.toNat_natCast]
    refine Ev.b (spec_DistinctKeys_ev (rows.take n) (by omega)) (Ev.b (spec_ReferenceGroups_ev (rows.take n) (by omega)) (Ev.i (fun h => Ev.t (by simp; omega) ?_) (fun h => ?_)))
    · refine Ev.s (fun k => by rw [spec_l22Early.j1, w64 (x := ((dk [] (rows.take n)).length : Int) * 3) (by omega) (by omega)]) (Ev.p.r ?_)
      have : ¬ (rows.drop n).length = 0 := by rw [List.length_drop]; omega
      unfold rst
      rw [if_neg this, if_pos rfl]
    · refine Ev.s (fun k => by rw [spec_l22Early.j1, w64 (x := ((dk [] (rows.take n)).length : Int) * 3) (by omega) (by omega)]) (Ev.p.r ?_)
      have : (rows.drop n).length = 0 := by rw [List.length_drop]; omega
      unfold rst
      rw [if_pos this]; rfl
  intro u
  induction u with
  | nil =>
    intro p hp
    refine Ev.s (fun k => by rw [spec_l22Early.l0]) (Ev.e (by rw [hp]; simp) ?_)
    exact J0 p.length (by rw [hp]; simp)
  | cons x t ih =>
    intro p hp
    have hl : rows.length = p.length + t.length + 1 := by rw [hp]; simp; omega
    have ht : rows.take (p.length + 1) = p ++ [x] := by
      rw [hp, show p ++ x :: t = (p ++ [x]) ++ t by simp, List.take_left' (by simp)]
    refine Ev.s (fun k => by rw [spec_l22Early.l0]) (Ev.t (by omega) ?_)
    rw [show wrap64 ((p.length : Int) + 1) = ((p.length + 1 : Nat) : Int) by rw [w64 (by omega) (by omega)]; rfl]
    refine Ev.t (by omega) (Ev.t (by omega) ?_)
    rw [Int.toNat_natCast, ht, eN]
    refine Ev.b (spec_DistinctKeys_ev (p ++ [x]) (by simp; omega)) (Ev.i (fun h => ?_) (fun h => ?_))
    · rw [if_pos (show (dk [] (p ++ [x])).length ≤ cap by omega)]
      have e := ih (p ++ [x]) (by rw [hp]; simp)
      rw [List.length_append, List.length_singleton] at e
      exact e
    · rw [if_neg (show ¬ (dk [] (p ++ [x])).length ≤ cap by omega)]
      exact J0 p.length (by omega)

theorem fld_facts (cap : Nat) (early : Bool) : ∀ (s : List S73) (ks : List Int) (kept rest : List S73) (o : Bool),
    ((fld cap early ks kept rest o s).1.length + (fld cap early ks kept rest o s).2.length = kept.length + rest.length + s.length) ∧ (∀ x ∈ (fld cap early ks kept rest o s).1, x ∈ kept ∨ x ∈ s) ∧ (∀ x ∈ (fld cap early ks kept rest o s).2, x ∈ rest ∨ x ∈ s)
  | [], ks, kept, rest, o => by simp only [fld, List.length_nil]; exact ⟨by omega, fun x h => .inl h, fun x h => .inl h⟩
  | y :: s, ks, kept, rest, o => by
    have A : ∀ (ks' : List Int) (o' : Bool), ((fld cap early ks' (kept ++ [y]) rest o' s).1.length + (fld cap early ks' (kept ++ [y]) rest o' s).2.length = kept.length + rest.length + (y :: s).length) ∧ (∀ x ∈ (fld cap early ks' (kept ++ [y]) rest o' s).1, x ∈ kept ∨ x ∈ y :: s) ∧ (∀ x ∈ (fld cap early ks' (kept ++ [y]) rest o' s).2, x ∈ rest ∨ x ∈ y :: s) := by
      intro ks' o'
      obtain ⟨h1, h2, h3⟩ := fld_facts cap early s ks' (kept ++ [y]) rest o'
      rw [List.length_append, List.length_singleton] at h1
      rw [List.length_cons]
      refine ⟨by omega, fun x hx => ?_, fun x hx => ?_⟩
      · rcases h2 x hx with h | h
        · rcases List.mem_append.1 h with h | h
          · exact .inl h
          · rw [List.mem_singleton.1 h]; exact .inr (List.mem_cons_self ..)
        · exact .inr (List.mem_cons_of_mem _ h)
      · rcases h3 x hx with h | h
        · exact .inl h
        · exact .inr (List.mem_cons_of_mem _ h)
    have B : ∀ (ks' : List Int) (o' : Bool), ((fld cap early ks' kept (rest ++ [y]) o' s).1.length + (fld cap early ks' kept (rest ++ [y]) o' s).2.length = kept.length + rest.length + (y :: s).length) ∧ (∀ x ∈ (fld cap early ks' kept (rest ++ [y]) o' s).1, x ∈ kept ∨ x ∈ y :: s) ∧ (∀ x ∈ (fld cap early ks' kept (rest ++ [y]) o' s).2, x ∈ rest ∨ x ∈ y :: s) := by
      intro ks' o'
      obtain ⟨h1, h2, h3⟩ := fld_facts cap early s ks' kept (rest ++ [y]) o'
      rw [List.length_append, List.length_singleton] at h1
      rw [List.length_cons]
      refine ⟨by omega, fun x hx => ?_, fun x hx => ?_⟩
      · rcases h2 x hx with h | h
        · exact .inl h
        · exact .inr (List.mem_cons_of_mem _ h)
      · rcases h3 x hx with h | h
        · rcases List.mem_append.1 h with h | h
          · exact .inl h
          · rw [List.mem_singleton.1 h]; exact .inr (List.mem_cons_self ..)
        · exact .inr (List.mem_cons_of_mem _ h)
    rw [fld]
    split
    · split
      · exact A _ _
      · split
        · exact A _ _
        · exact B _ _
    · exact B _ _
structure VA (a : S40) : Prop where
  ts : ∀ t ∈ a.f0, vRows t.f0 = true ∧ 0 ≤ t.f1 ∧ t.f1 ≤ 4
  n : sG a.f0 ≤ 24
  len : a.f0.length ≤ 40
  wr : 0 ≤ a.f1 ∧ a.f1 ≤ 100000
theorem inB_iff' {n a b : Int} : inB n a b = true ↔ a ≤ n ∧ n ≤ b := by simp [inB]
theorem vA_iff {a : S40} : vA a = true ↔ VA a := by
  unfold vA
  constructor
  · intro h
    simp only [Bool.and_eq_true, decide_eq_true_iff, inB_iff'] at h
    refine ⟨fun t ht => ?_, h.2.1, h.2.2.1, h.2.2.2⟩
    have := List.all_eq_true.1 h.1 t ht
    simp only [vGT, Bool.and_eq_true, inB_iff'] at this
    exact this
  · intro h
    simp only [Bool.and_eq_true, decide_eq_true_iff, inB_iff']
    refine ⟨List.all_eq_true.2 fun t ht => ?_, h.n, h.len, h.wr⟩
    simp only [vGT, Bool.and_eq_true, inB_iff']
    exact h.ts t ht
theorem vRow_key {x : S73} (h : vRow x.f0 x.f1 x.f2 = true) : 0 ≤ x.f0 ∧ x.f0 ≤ 9 := by
  simp only [vRow, Bool.and_eq_true, inB_iff'] at h
  exact h.1.1
theorem vRows_key {l : List S73} (h : vRows l = true) : ∀ x ∈ l, 0 ≤ x.f0 ∧ x.f0 ≤ 9 := fun x hx =>
  vRow_key (List.all_eq_true.1 (vRows_iff.1 h).1 x hx)
def gcap (g : Int) : Nat := (Int.tdiv g 3).toNat
theorem gcap_b {g : Int} (h : inB g 8 60 = true) : wrap64 (Int.tdiv g 3) = (gcap g : Int) ∧ 2 ≤ gcap g ∧ gcap g ≤ 20 := by
  rw [inB_iff'] at h
  have e : Int.tdiv g 3 = g / 3 := Int.tdiv_eq_ediv_of_nonneg (by omega)
  unfold gcap
  rw [e, w64 (by omega) (by omega)]
  omega
def krA (a : S40) (t : S80) (g : Int) : List S73 × List S73 := fld (gcap g) a.f2 [] [] [] true t.f0
theorem krA_facts (a : S40) (t : S80) (g : Int) : (krA a t g).1.length + (krA a t g).2.length = t.f0.length ∧ (∀ x ∈ (krA a t g).1, x ∈ t.f0) ∧ (∀ x ∈ (krA a t g).2, x ∈ t.f0) := by
  obtain ⟨h1, h2, h3⟩ := fld_facts (gcap g) a.f2 t.f0 [] [] [] true
  unfold krA
  refine ⟨by simpa using h1, fun x hx => ?_, fun x hx => ?_⟩
  · rcases h2 x hx with h | h
    · simp at h
    · exact h
  · rcases h3 x hx with h | h
    · simp at h
    · exact h
def stG (a : S40) (t : S80) (s : List S80) (g : Int) : S40 × List S88 × Int × Bool :=
  (⟨rst a.f2 t.f1 (krA a t g).2 ++ s, wrA a.f2 a.f1 (krA a t g).2, a.f2⟩, rgs (krA a t g).1, 3 * ((rgs (krA a t g).1).length : Int), true)
def stA (a : S40) (g : Int) : S40 × List S88 × Int × Bool :=
  if vA a = true then
    match a.f0 with
    | [] => (a, [], 0, false)
    | t :: s => if inB g 8 60 = true then stG a t s g else (a, [], 0, false)
  else (a, [], 0, false)
abbrev satup (r : S40 × List S88 × Int × Bool) : List S80 × Int × Bool × List S88 × Int × Bool := (r.1.f0, r.1.f1, r.1.f2, r.2.1, r.2.2.1, r.2.2.2)
theorem impl_StepAggregator_ev (a : S40) (g : Int) (h : asz a ≤ 1048576) : Ev (fun k => impl_StepAggregator.f k a.f0 a.f1 a.f2 g) (satup (stA a g)) := by
  refine Ev.u (fun _ => rfl) (Ev.b (impl_cloneAggregator_ev a h) (Ev.b (impl_IsValidAggregator_ev a h) (Ev.i (fun hv => ?_) (fun hv => Ev.p.r (by simp [stA, hv])))))
  have hA := vA_iff.1 hv
  unfold stA; rw [if_pos hv]
  obtain ⟨l, w, e⟩ := a
  dsimp only at hA ⊢
  cases l with
  | nil => exact Ev.t rfl Ev.p
  | cons t s =>
    have ht := hA.ts t (List.mem_cons_self ..)
    have hrl := vRows_len ht.1
    have hlen : s.length + 1 ≤ 40 := hA.len
    have hw : 0 ≤ w ∧ w ≤ 100000 := hA.wr
    dsimp only
    refine Ev.e (by simp; omega) (Ev.b (Ev.c (by unfold impl_isGrant.f; rw [within_eq]; rfl)) (Ev.i (fun hg => ?_) (fun hg => Ev.p.r (by simp [hg]))))
    rw [if_pos hg]
    obtain ⟨c1, c2, c3⟩ := gcap_b hg
    refine Ev.t (by rw [List.length_cons]; omega) (Ev.t (by rw [List.length_cons]; omega) ?_)
    simp only [show rd_T80 (t :: s) 0 = t from rfl, show (t :: s).drop (1 : Int).toNat = s from rfl]
    rw [c1]
    obtain ⟨f1, f2, f3⟩ := krA_facts ⟨t :: s, w, e⟩ t g
    have hk : (rgs (krA ⟨t :: s, w, e⟩ t g).1).length ≤ 10 := rgs_len _ (fun x hx => vRows_key ht.1 x (f2 x hx))
    refine impl_SA_l0 (gcap g) (by omega) t.f0 t.f0 (by omega) [] s 0 w t.f1 false e _ t.f0 0 [] [] [] [] true rfl (fun q => by simp [mGet]) rfl (by simp) (by simp) (fun m' o' i' hi' => ?_)
    exact impl_SA_fin (gcap g : Int) m' (krA ⟨t :: s, w, e⟩ t g).2 (krA ⟨t :: s, w, e⟩ t g).1 t.f0 t.f0 o' i' hi' [] s 0 w t.f1 false e (by omega) (by omega) (by omega) (by omega) (by omega) ht.2
theorem mnN (a b : Nat) : mn (a : Int) (b : Int) = ((min a b : Nat) : Int) := by unfold mn; split <;> omega
theorem spec_StepAggregator_ev (a : S40) (g : Int) (h : asz a ≤ 1048576) : Ev (fun k => spec_StepAggregator.f k a.f0 a.f1 a.f2 g) (satup (stA a g)) := by
  refine Ev.u (fun _ => rfl) (Ev.b (spec_l22Copy_ev a h) (Ev.b (spec_IsValidAggregator_ev a h) (Ev.i (fun hv => ?_) (fun hv => Ev.p.r (by simp [stA, hv])))))
  have hA := vA_iff.1 hv
  unfold stA; rw [if_pos hv]
  obtain ⟨l, w, e⟩ := a
  dsimp only at hA ⊢
  cases l with
  | nil => exact Ev.t rfl Ev.p
  | cons t s =>
    have ht := hA.ts t (List.mem_cons_self ..)
    have hrl := vRows_len ht.1
    have hlen : s.length + 1 ≤ 40 := hA.len
    have hw : 0 ≤ w ∧ w ≤ 100000 := hA.wr
    dsimp only
    refine Ev.e (by simp; omega) (Ev.b (Ev.c (l1In_eq g _ _)) (Ev.i (fun hg => ?_) (fun hg => Ev.p.r (by simp [hg]))))
    rw [if_pos hg]
    obtain ⟨c1, c2, c3⟩ := gcap_b hg
    refine Ev.t (by rw [List.length_cons]; omega) (Ev.t (by rw [List.length_cons]; omega) ?_)
    simp only [show rd_T80 (t :: s) 0 = t from rfl, show (t :: s).drop (1 : Int).toNat = s from rfl]
    rw [c1]
    refine Ev.i (fun he => ?_) (fun he => ?_)
    · subst he
      have q := fld_yes (gcap g) t.f0 [] (by simp [dk])
      rw [List.nil_append, show dk [] [] = [] from rfl] at q
      have e1 : krA ⟨t :: s, w, true⟩ t g = (t.f0.take (eN (gcap g) [] t.f0), t.f0.drop (eN (gcap g) [] t.f0)) := q.1
      have e0 := spec_Early_l0 (gcap g) t.f0 (by omega) w t.f1 0 s [] true false (by omega) t.f0 [] rfl
      refine Ev.b (Ev.u (fun _ => rfl) e0) (Ev.p.r ?_)
      unfold stG
      rw [e1]
      have e2 := rgs_dk (t.f0.take (eN (gcap g) [] t.f0))
      have e3 : 3 * ((rgs (t.f0.take (eN (gcap g) [] t.f0))).length : Int) = ((dk [] (t.f0.take (eN (gcap g) [] t.f0))).length : Int) * 3 := by omega
      simp only [satup, e3, wrA, if_true]
    · have he' : e = false := by simpa using he
      subst he'
      have hdl := dk_len t.f0 []
      rw [List.length_nil] at hdl
      refine Ev.b (spec_DistinctKeys_ev t.f0 (by omega)) ?_
      rw [mnN]
      have q := fld_no (gcap g) t.f0 [] [] []
      rw [List.take_nil, List.nil_append, List.nil_append] at q
      have e1 : krA ⟨t :: s, w, false⟩ t g = (t.f0.filter (inH ((dk [] t.f0).take (gcap g))), t.f0.filter fun x => !inH ((dk [] t.f0).take (gcap g)) x) := q.1
      have e0 := spec_SA_l0 (dk [] t.f0) (min (gcap g) (dk [] t.f0).length) (by omega) (by omega) t.f0 (by omega) w t.f1 0 s [] (t :: s) (t :: s) false false false (by omega) (by omega) ht.2 t.f0 0 [] [] rfl (by omega) (by simp) (by simp)
      have eT : (dk [] t.f0).take (min (gcap g) (dk [] t.f0).length) = (dk [] t.f0).take (gcap g) := by
        rcases Nat.le_total (gcap g) (dk [] t.f0).length with hh | hh
        · rw [Nat.min_eq_left hh]
        · rw [Nat.min_eq_right hh, List.take_length, List.take_of_length_le hh]
      rw [eT, List.nil_append, List.nil_append] at e0
      refine e0.r ?_
      unfold stG
      rw [e1]
      have e2 := rgs_dk (t.f0.filter (inH ((dk [] t.f0).take (gcap g))))
      rw [q.2, List.length_take] at e2
      have e3 : 3 * ((rgs (t.f0.filter (inH ((dk [] t.f0).take (gcap g))))).length : Int) = ((min (gcap g) (dk [] t.f0).length : Nat) : Int) * 3 := by omega
      simp only [satup, e3]
theorem rst_len (early : Bool) (lv : Int) (R : List S73) : (rst early lv R).length ≤ 2 ∧ ((rst early lv R).map fun t => t.f0.length).sum = R.length := by
  have hf : ∀ l : List S73, (spl0 lv l).length + (spl1 lv l).length = l.length := by
    intro l
    induction l with
    | nil => rfl
    | cons x l ih =>
      unfold spl0 spl1 at *
      cases h : hb lv x
      · rw [List.filter_cons_of_neg (by simp [h]), List.filter_cons_of_pos (by simp [h])]; simp only [List.length_cons]; omega
      · rw [List.filter_cons_of_pos (by simp [h]), List.filter_cons_of_neg (by simp [h])]; simp only [List.length_cons]; omega
  have := hf R
  unfold rst
  split
  · simp; omega
  · split
    · simp
    · split
      · simp; omega
      · simp
theorem stA_sz (a : S40) (g : Int) : asz (stA a g).1 ≤ asz a + 2 ∧ (stA a g).2.1.length ≤ 10 := by
  unfold stA
  split
  · rename_i hv
    have hA := vA_iff.1 hv
    split
    · simp
    · rename_i t s hl
      split
      · obtain ⟨f1, f2, f3⟩ := krA_facts a t g
        have ht := hA.ts t (by rw [hl]; exact List.mem_cons_self ..)
        have hk : (rgs (krA a t g).1).length ≤ 10 := rgs_len _ (fun x hx => vRows_key ht.1 x (f2 x hx))
        obtain ⟨r1, r2⟩ := rst_len a.f2 t.f1 (krA a t g).2
        refine ⟨?_, hk⟩
        unfold asz
        rw [hl]
        simp only [stG, List.map_append, List.sum_append, List.length_append, List.map_cons, List.sum_cons, List.length_cons, r2]
        omega
      · simp
  · simp

theorem fld_mono (cap : Nat) (early : Bool) : ∀ (s : List S73) (ks : List Int) (kept rest : List S73) (o : Bool), kept.length ≤ (fld cap early ks kept rest o s).1.length
  | [], ks, kept, rest, o => by simp [fld]
  | y :: s, ks, kept, rest, o => by
    have A : ∀ (ks' : List Int) (o' : Bool), kept.length ≤ (fld cap early ks' (kept ++ [y]) rest o' s).1.length := by
      intro ks' o'
      have := fld_mono cap early s ks' (kept ++ [y]) rest o'
      rw [List.length_append] at this; omega
    have B : ∀ (ks' : List Int) (o' : Bool), kept.length ≤ (fld cap early ks' kept (rest ++ [y]) o' s).1.length := fun ks' o' => fld_mono cap early s ks' kept (rest ++ [y]) o'
    rw [fld]
    split
    · split
      · exact A _ _
      · split
        · exact A _ _
        · exact B _ _
    · exact B _ _
theorem krA_one (a : S40) (t : S80) (g : Int) (hg : 1 ≤ gcap g) (hn : t.f0.length ≠ 0) : 1 ≤ (krA a t g).1.length := by
  unfold krA
  cases hr : t.f0 with
  | nil => rw [hr] at hn; simp at hn
  | cons x s =>
    rw [fld, if_pos rfl, if_neg (by simp), if_pos (show ([] : List Int).length < gcap g by simp; omega)]
    have := fld_mono (gcap g) a.f2 s ([] ++ [x.f0]) ([] ++ [x]) [] true
    simpa using this
def gT (t : S80) : Nat := 3 * t.f0.length + 1
def gM (l : List S80) : Nat := (l.map gT).sum
theorem gM_cons (t : S80) (l : List S80) : gM (t :: l) = gT t + gM l := by simp [gM]
theorem gM_app (a b : List S80) : gM (a ++ b) = gM a + gM b := by simp [gM]
def gstk : List S80 → Prop
  | [] => True
  | t :: s => s.length + 1 + (4 - t.f1).toNat ≤ 24 ∧ gstk s
theorem gstk_len : ∀ {l : List S80}, gstk l → l.length ≤ 24
  | [], _ => by simp
  | t :: l, h => by rw [List.length_cons]; have := h.1; omega
structure IA (a : S40) : Prop where
  ts : ∀ t ∈ a.f0, vRows t.f0 = true ∧ 0 ≤ t.f1 ∧ t.f1 ≤ 4
  n : sG a.f0 ≤ 24
  st : gstk a.f0
  wr : 0 ≤ a.f1 ∧ a.f1 + 96 * gM a.f0 ≤ 90000
theorem IA.v {a : S40} (h : IA a) : VA a := by
  have h2 := h.wr
  exact ⟨h.ts, h.n, Nat.le_trans (gstk_len h.st) (by omega), h2.1, by omega⟩
theorem vRows_of {l m : List S73} (h : vRows l = true) (hm : ∀ x ∈ m, x ∈ l) (hl : m.length ≤ l.length) : vRows m = true := by
  rw [vRows_iff] at *; exact ⟨vAll_sub h.1 hm, Nat.le_trans hl h.2⟩
theorem rst_facts (early : Bool) (lv : Int) (R : List S73) (hR : vRows R = true) (hlv : 0 ≤ lv ∧ lv ≤ 4) (s : List S80) (hs : s.length + 1 + (4 - lv).toNat ≤ 24) (hg : gstk s) :
    (∀ t ∈ rst early lv R, vRows t.f0 = true ∧ 0 ≤ t.f1 ∧ t.f1 ≤ 4) ∧ gstk (rst early lv R ++ s) ∧ gM (rst early lv R) ≤ 3 * R.length + 2 ∧ (R.length = 0 → gM (rst early lv R) = 0) := by
  have h2 := rst_len early lv R
  have hsum : gM (rst early lv R) = 3 * ((rst early lv R).map fun t => t.f0.length).sum + (rst early lv R).length := by
    generalize rst early lv R = l
    induction l with
    | nil => rfl
    | cons x l ih => rw [gM_cons, ih, List.map_cons, List.sum_cons, List.length_cons]; unfold gT; omega
  have one : vRows R = true ∧ 0 ≤ lv ∧ lv ≤ 4 := ⟨hR, hlv⟩
  refine ⟨?_, ?_, by omega, ?_⟩
  · unfold rst
    split
    · simp
    · split
      · intro t ht; rw [List.mem_singleton.1 ht]; exact one
      · split
        · rename_i hl
          intro t ht
          rcases List.mem_cons.1 ht with ht | ht
          · subst ht; exact ⟨vRows_sub hR List.filter_sublist, by show 0 ≤ lv + 1; omega, by show lv + 1 ≤ 4; omega⟩
          · rw [List.mem_singleton.1 ht]; exact ⟨vRows_sub hR List.filter_sublist, by show 0 ≤ lv + 1; omega, by show lv + 1 ≤ 4; omega⟩
        · intro t ht; rw [List.mem_singleton.1 ht]; exact one
  · unfold rst
    split
    · exact hg
    · split
      · exact ⟨hs, hg⟩
      · split
        · rename_i hl
          refine ⟨?_, ?_, hg⟩
          · show (s.length + 1) + 1 + (4 - (lv + 1)).toNat ≤ 24; omega
          · show s.length + 1 + (4 - (lv + 1)).toNat ≤ 24; omega
        · exact ⟨hs, hg⟩
  · intro h0
    unfold rst; rw [if_pos h0]; rfl
theorem IA.step {a : S40} {g : Int} (h : IA a) (hg : inB g 8 60 = true) (hl : a.f0.length ≠ 0) : IA (stA a g).1 ∧ gM (stA a g).1.f0 < gM a.f0 ∧ (stA a g).2.2.2 = true ∧ ∀ x ∈ (stA a g).2.1, 0 ≤ x.f0 ∧ x.f0 ≤ 9 := by
  cases hl' : a.f0 with
  | nil => rw [hl'] at hl; simp at hl
  | cons t s =>
    have e : stA a g = stG a t s g := by
      unfold stA; rw [if_pos (vA_iff.2 h.v)]; simp only [hl', if_pos hg]
    rw [e]
    obtain ⟨c1, c2, c3⟩ := gcap_b hg
    obtain ⟨f1, f2, f3⟩ := krA_facts a t g
    have ht := h.ts t (by rw [hl']; exact List.mem_cons_self ..)
    have hn := h.n; have hst := h.st; have hw := h.wr
    rw [hl', sG_cons] at hn
    rw [hl'] at hst
    rw [hl', gM_cons] at hw
    have hR : vRows (krA a t g).2 = true := vRows_of ht.1 f3 (by omega)
    obtain ⟨r1, r2, r3, r4⟩ := rst_facts a.f2 t.f1 (krA a t g).2 hR ht.2 s hst.1 hst.2
    have rl := rst_len a.f2 t.f1 (krA a t g).2
    have hc := tCost_b (krA a t g).2
    have hrl := vRows_len hR
    have hk : t.f0.length ≠ 0 → 1 ≤ (krA a t g).1.length := krA_one a t g (by omega)
    have hm : gM (rst a.f2 t.f1 (krA a t g).2) < gT t := by
      unfold gT
      by_cases h0 : (krA a t g).2.length = 0
      · rw [r4 h0]; omega
      · have := hk (by omega); omega
    have hwA : wrA a.f2 a.f1 (krA a t g).2 ≤ a.f1 + 96 ∧ a.f1 ≤ wrA a.f2 a.f1 (krA a t g).2 := by
      unfold wrA; split <;> omega
    refine ⟨⟨?_, ?_, r2, ?_, ?_⟩, ?_, rfl, ?_⟩
    · intro x hx
      rcases List.mem_append.1 hx with hx | hx
      · exact r1 x hx
      · exact h.ts x (by rw [hl']; exact List.mem_cons_of_mem _ hx)
    · show sG (rst a.f2 t.f1 (krA a t g).2 ++ s) ≤ 24
      unfold sG at hn ⊢
      rw [List.map_append, List.sum_append, rl.2]; omega
    · show 0 ≤ wrA a.f2 a.f1 (krA a t g).2; omega
    · show wrA a.f2 a.f1 (krA a t g).2 + 96 * (gM (rst a.f2 t.f1 (krA a t g).2 ++ s) : Nat) ≤ 90000
      rw [gM_app]; omega
    · show gM (rst a.f2 t.f1 (krA a t g).2 ++ s) < gM (t :: s)
      rw [gM_app, gM_cons]; omega
    · exact mgs_mem (fun v => 0 ≤ v ∧ v ≤ 9) _ [] (fun x hx => by simp at hx) (rgs_mem _ (fun x hx => vRows_key ht.1 x (f2 x hx)))
def grun (gs : List Int) : Nat → S40 → List S88 → Nat → Int → List S88 × Nat × Int × Int
  | 0, a, G, n, h => (mgs [] G, n, h, a.f1)
  | m + 1, a, G, n, h => if a.f0.length = 0 then (mgs [] G, n, h, a.f1) else grun gs m (stA a (gs.getD (n % gs.length) 0)).1 (G ++ (stA a (gs.getD (n % gs.length) 0)).2.1) (n + 1) (mx h (stA a (gs.getD (n % gs.length) 0)).2.2.1)
abbrev grtup (r : List S88 × Nat × Int × Int) (b : Bool) : List S88 × Int × Int × Int × Bool := (r.1, ((r.2.1 : Nat) : Int), r.2.2.1, r.2.2.2, b)
theorem gM_zero {l : List S80} (h : gM l ≤ 0) : l.length = 0 := by
  cases l with
  | nil => rfl
  | cons t s => rw [gM_cons] at h; unfold gT at h; omega
theorem grun_l0 (gs : List Int) (hgs : ∀ g ∈ gs, inB g 8 60 = true) (h0 : gs.length ≠ 0) (c1 c2 c3 d1 d2 d3 u v : Int) (c0 d0 x1 x2 : List S88) : ∀ (m : Nat) (a : S40) (G : List S88) (n : Nat) (h : Int), IA a → gM a.f0 ≤ m → n + m ≤ 1000000 → G.length + m * 10 ≤ 1000000 → (∀ x ∈ G, 0 ≤ x.f0 ∧ x.f0 ≤ 9) →
    Ev (fun k => impl_RunGroup.l0 k G c0 c1 c2 c3 a.f0 a.f1 a.f2 x1 (n : Int) h u gs) (grtup (grun gs m a G n h) true) ∧ Ev (fun k => spec_RunGroup.l0 k G d0 d1 d2 d3 a.f0 a.f1 a.f2 x2 (n : Int) h v gs) (grtup (grun gs m a G n h) true) ∧ (grun gs m a G n h).1.length ≤ 10 := by
  intro m
  induction m with
  | zero =>
    intro a G n h hI hm hn hG hk
    have hl := gM_zero hm
    have hb := mgs_len G hk
    refine ⟨?_, ?_, hb⟩
    · refine Ev.s (fun k => by rw [impl_RunGroup.l0]) ?_
      exact Ev.e (by omega) (Ev.b (impl_MergeGroups_small G (by omega) (by omega)) Ev.p)
    · refine Ev.s (fun k => by rw [spec_RunGroup.l0]) ?_
      exact Ev.e (by omega) (Ev.b (spec_MergeGroups_ev G (by omega)) Ev.p)
  | succ m ih =>
    intro a G n h hI hm hn hG hk
    rw [grun]
    by_cases hl : a.f0.length = 0
    · rw [if_pos hl]
      have hb := mgs_len G hk
      refine ⟨?_, ?_, hb⟩
      · refine Ev.s (fun k => by rw [impl_RunGroup.l0]) ?_
        exact Ev.e (by omega) (Ev.b (impl_MergeGroups_small G (by omega) (by omega)) Ev.p)
      · refine Ev.s (fun k => by rw [spec_RunGroup.l0]) ?_
        exact Ev.e (by omega) (Ev.b (spec_MergeGroups_ev G (by omega)) Ev.p)
    rw [if_neg hl]
    have hi : n % gs.length < gs.length := Nat.mod_lt _ (by omega)
    have hg := getD_all hgs hi
    obtain ⟨s1, s2, s3, s4⟩ := hI.step hg hl
    have hsz : asz a ≤ 1000 := by
      have h1 := hI.n; have h2 := gstk_len hI.st
      unfold asz; unfold sG at h1; omega
    have sp := (stA_sz a (gs.getD (n % gs.length) 0)).2
    have hmem : ∀ x ∈ G ++ (stA a (gs.getD (n % gs.length) 0)).2.1, 0 ≤ x.f0 ∧ x.f0 ≤ 9 := fun x hx => by
      rcases List.mem_append.1 hx with hx | hx
      · exact hk x hx
      · exact s4 x hx
    have e := ih (stA a (gs.getD (n % gs.length) 0)).1 (G ++ (stA a (gs.getD (n % gs.length) 0)).2.1) (n + 1) (mx h (stA a (gs.getD (n % gs.length) 0)).2.2.1) s1 (by omega) (by omega) (by rw [List.length_append]; omega) hmem
    have ew : wrap64 ((n : Int) + 1) = ((n + 1 : Nat) : Int) := by rw [w64 (by omega) (by omega)]; rfl
    refine ⟨?_, ?_, e.2.2⟩
    · refine Ev.s (fun k => by rw [impl_RunGroup.l0]) ?_
      rw [tmodN]
      refine Ev.t (by omega) (Ev.t (by omega) (Ev.t (by omega) (Ev.t (by omega) ?_)))
      rw [rdI]
      refine Ev.b (impl_StepAggregator_ev a (gs.getD (n % gs.length) 0) (by omega)) ?_
      dsimp only [satup]
      rw [ew]
      exact Ev.t s3 (Ev.t (by omega) e.1)
    · refine Ev.s (fun k => by rw [spec_RunGroup.l0]) ?_
      rw [tmodN]
      refine Ev.t (by omega) (Ev.t (by omega) (Ev.t (by omega) (Ev.t (by omega) ?_)))
      rw [rdI]
      refine Ev.b (spec_StepAggregator_ev a (gs.getD (n % gs.length) 0) (by omega)) ?_
      dsimp only [satup]
      rw [ew]
      exact Ev.t (by omega) e.2.1

theorem IA_new {l : List S73} {e : Bool} (h : vRows l = true) : IA (newA l e) ∧ gM (newA l e).f0 ≤ 100 := by
  have hl := vRows_len h
  have e1 : newA l e = ⟨[⟨l, 0⟩], 0, e⟩ := by unfold newA; rw [if_pos h]
  rw [e1]
  have hM : gM [(⟨l, 0⟩ : S80)] ≤ 73 := by simp only [gM, gT, List.map_cons, List.map_nil, List.sum_cons, List.sum_nil]; omega
  refine ⟨⟨fun t ht => ?_, ?_, ⟨by show 0 + 1 + (4 - (0 : Int)).toNat ≤ 24; decide, trivial⟩, ⟨Int.le_refl 0, ?_⟩⟩, ?_⟩
  · rw [List.mem_singleton.1 ht]; exact ⟨h, by show (0 : Int) ≤ 0; omega, by show (0 : Int) ≤ 4; omega⟩
  · simp only [sG, List.map_cons, List.map_nil, List.sum_cons, List.sum_nil]; omega
  · dsimp only; omega
  · dsimp only; omega
def rgOk (l : List S73) (gs : List Int) : Bool := vRows l && gOk gs
def rGp (l : List S73) (e : Bool) (gs : List Int) : List S88 × Nat × Int × Int := if rgOk l gs = true then grun gs 100 (newA l e) [] 0 0 else ([], 0, 0, 0)
theorem RunGroup_ev (l : List S73) (e : Bool) (gs : List Int) (hl : l.length ≤ 1048576) (hg : gs.length ≤ 1048576) : Ev (fun k => impl_RunGroup.f k l e gs) (grtup (rGp l e gs) (rgOk l gs)) ∧ Ev (fun k => spec_RunGroup.f k l e gs) (grtup (rGp l e gs) (rgOk l gs)) ∧ (rGp l e gs).1.length ≤ 10 := by
  unfold rGp rgOk
  by_cases h1 : vRows l = true
  · by_cases h2 : gOk gs = true
    · have hI := IA_new (e := e) h1
      have hG := grun_l0 gs (gOk_iff h2).1 (gOk_iff h2).2 0 0 0 0 0 0 0 0 [] [] [] [] 100 (newA l e) [] 0 0 hI.1 hI.2 (by omega) (by simp) (fun x hx => by simp at hx)
      rw [h1, h2, Bool.and_self, if_pos rfl]
      refine ⟨?_, ?_, hG.2.2⟩
      · exact Ev.u (fun _ => rfl) (Ev.b (impl_NewAggregator_ev l e (by omega)) (Ev.t h1 (Ev.b (impl_areGrants_ev gs (by omega)) (Ev.t h2 hG.1))))
      · exact Ev.u (fun _ => rfl) (Ev.b (spec_NewAggregator_ev l e (by omega)) (Ev.t h1 (Ev.b (spec_l14Grants_ev gs (by omega)) (Ev.t h2 hG.2.1))))
    · have h2' : gOk gs = false := by simpa using h2
      rw [h1, h2', Bool.and_false, if_neg (by simp)]
      refine ⟨?_, ?_, by simp⟩
      · exact Ev.u (fun _ => rfl) (Ev.b (impl_NewAggregator_ev l e (by omega)) (Ev.t h1 (Ev.b (impl_areGrants_ev gs (by omega)) (Ev.e h2 (Ev.p.r (by rfl))))))
      · exact Ev.u (fun _ => rfl) (Ev.b (spec_NewAggregator_ev l e (by omega)) (Ev.t h1 (Ev.b (spec_l14Grants_ev gs (by omega)) (Ev.e h2 (Ev.p.r (by rfl))))))
  · have h1' : vRows l = false := by simpa using h1
    rw [h1', Bool.false_and, if_neg (by simp)]
    refine ⟨?_, ?_, by simp⟩
    · exact Ev.u (fun _ => rfl) (Ev.b (impl_NewAggregator_ev l e (by omega)) (Ev.e h1 (Ev.p.r (by rfl))))
    · exact Ev.u (fun _ => rfl) (Ev.b (spec_NewAggregator_ev l e (by omega)) (Ev.e h1 (Ev.p.r (by rfl))))
theorem eqGroupResult_ev (P : List S88) (a b c : Int) (h : P.length ≤ 4611686018427387904) : Ev (fun k => laws_eqGroupResult.f k P a b c P a b c) true :=
  Ev.u (fun _ => rfl) (Ev.b (eqGroupS_ev P h) (Ev.t rfl (Ev.t rfl (Ev.t rfl (Ev.t rfl Ev.p)))))
theorem markGroupResult_ev (P : List S88) (a b c k : Int) (h0 : 0 ≤ k) (h1 : k + 5 * P.length ≤ 4611686018427387904) : Ev (fun f => laws_markGroupResult.f f P a b c k) (k + 5 * P.length, mkGroup k P) :=
  Ev.u (fun _ => rfl) (Ev.b (markGroupS_ev P k h0 h1) Ev.p)
theorem heldGroupResult_ev (P : List S88) (a b c k : Int) (h0 : 0 ≤ k) (h1 : k + 5 * P.length ≤ 4611686018427387904) : Ev (fun f => laws_heldGroupResult.f f (mkGroup k P) a b c k) (k + 5 * P.length) :=
  Ev.u (fun _ => rfl) (Ev.b (heldGroupS_ev P k h0 h1) (Ev.e (by omega) Ev.p))

theorem pure_FnExactRunGroup (l0 : List S75) (a1 : Bool) (l2 : List Int) (G0 : (l0.length ≤ maxLen ∧ ∀ y ∈ l0, good75 y)) (G2 : (l2.length ≤ maxLen ∧ ∀ y ∈ l2, (Lit.int .i64 y).wf = true)) : ∃ k, laws_FnExactRunGroup.f k l0 a1 l2 = some true := by
  have g1 := G0.1
  refine Ev.ex ?_
  by_cases s0 : (l2.length : Int) > 1048576
  · exact Ev.u (fun _ => rfl) (Ev.t s0 Ev.p)
  by_cases s1 : (1048576 : Int) - l0.length < 0
  · exact Ev.u (fun _ => rfl) (Ev.e s0 (Ev.b (Ev.c (szRowS_neg l0 _ (by omega) (by omega) g1 s1)) (Ev.t (by omega) Ev.p)))
  refine Ev.u (fun _ => rfl) (Ev.e s0 (Ev.b (Ev.c (szRowS_pos l0 _ (by omega) (by omega) s1)) (Ev.e s1 ?_)))
  have t1 := toRowS_ev l0 (by omega)
  have t3 := toIntS_ev l2 (by omega)
  have n1 : (l0.map cvRow).length ≤ 1048576 := by rw [List.length_map]; omega
  generalize l0.map cvRow = A at *
  obtain ⟨ei, es, zj⟩ := RunGroup_ev A a1 l2 (by omega) (by omega)
  generalize rGp A a1 l2 = R at *
  obtain ⟨P, n, h, w⟩ := R
  dsimp only [grtup] at es ei zj
  have qp := eqGroupResult_ev P (n : Int) h w (by omega)
  have qa := eqRowS_ev A (by omega)
  have qc := eqIntS_ev l2 (by omega)
  have mA := markRowS_ev A 1 (by omega) (by omega)
  have mC := markIntS_ev l2 (1 + 3 * A.length) (by omega) (by omega)
  have mP := markGroupResult_ev P (n : Int) h w 1 (by omega) (by omega)
  have dP := heldGroupResult_ev P (n : Int) h w 1 (by omega) (by omega)
  refine Ev.b t1 (Ev.b t3 (Ev.b es (Ev.b t1 (Ev.b t3 (Ev.b ei (Ev.b qp (Ev.t rfl (Ev.t (by simp) ?_))))))))
  refine Ev.b t1 (Ev.b qa (Ev.t rfl (Ev.b t3 (Ev.b qc (Ev.t rfl ?_)))))
  refine Ev.b mA (Ev.b mC (Ev.e (by simp only []; omega) ?_))
  refine Ev.b qp (Ev.t rfl (Ev.b mP (Ev.b dP (Ev.e (by omega) (Ev.t rfl ?_)))))
  refine Ev.b t1 (Ev.b t3 (Ev.b ei (Ev.b qp (Ev.t rfl (Ev.t (by simp) ?_)))))
  exact Ev.b dP (Ev.e (by omega) (Ev.t rfl Ev.p))

end Go.Proofs.Ytoncjohnkiilcaa.K
namespace Go.Proofs.Ytoncjohnkiilcaa.fnExactRunGroup
open Go Go.ChangeShapes Go.WideShapes Go.ChangeAt Go.RowKit Go.Proofs.Ytoncjohnkiilcaa.K
open Go.ChangeMaps (open_string shut_string)
set_option linter.unusedVariables false
theorem own : ownKnob Try.prog.godebug = none := by kernel_rfl
theorem laidOut : laidOutB Try.prog = true := by kernel_rfl
set_option maxRecDepth 100000 in
theorem lifted (os : Os) (started : os.Started) (H : Type) (enc : TypeId × Value → H) :
    ReturnsInHanded {} Try.checked os 9 .any (Rows.fnExactRunGroupSpec.pre6 enc Try.prog Try.f9 Rows.fnExactRunGroupRow.domain false) (Rows.fnExactRunGroupSpec.post enc Try.prog Try.f9 false true false false) := by
  refine returnsInHanded_of_change_sized (C := Try.checked) own started (by kernel_rfl) Try.func9
    (ChangeSpec.witness6 (enc := enc) (C := Try.checked) false ⟨#[], #[.slice none 0 0, .bool false, .slice none 0 0], []⟩ 8 (by kernel_rfl) (by kernel_rfl) (by kernel_rfl) (by kernel_rfl)) ?_
  intro W base args ds gs before hval0 hW hcnd hsz0 _
  have hsz : (DataW.weightsEach Try.prog (Try.f9.params.toList ++ Rows.fnExactRunGroupSpec.plain.varTypes Try.prog) (ds ++ gs)).all (· ≤ reachBytes) = true := hsz0
  have hval : ∀ (j : Nat) t v, Try.f9.params[j]? = some t → args[j]? = some v → Value.okWide Try.prog W .any base t v := hval0
  have hW' := hW
  obtain ⟨p, q, hA0, hV, rfl, hfz, hnd⟩ := hW
  have hA : DataW.TrodAll enc Try.prog W 0 (fun _ => true) true Try.f9.params.toList args.toList ds p := hA0
  rw [Try.params9] at hA hval hsz
  obtain ⟨v0, vs0, d0, ds0, p0, q0, hargs, rfl, rfl, h0, r0⟩ := trodAll_cons hA
  obtain ⟨v1, vs1, d1, ds1, p1, q1, rfl, rfl, rfl, h1, r1⟩ := trodAll_cons r0
  obtain ⟨v2, vs2, d2, ds2, p2, q2, rfl, rfl, rfl, h2, r2⟩ := trodAll_cons r1
  obtain ⟨rfl, rfl, rfl⟩ := trodAll_nil r2
  obtain rfl : args = #[v0, v1, v2] := by cases args; simp_all
  obtain ⟨rfl, rfl⟩ := trodVars_none hV
  have k0 := h0
  have lt0 : ∀ x ∈ p0, x.block < W.heap.size := by obtain ⟨m, hm⟩ := k0; exact DataW.trod_lt m _ _ _ hm
  obtain ⟨A0, len0, c0, rfl⟩ := okWide_slice Try.underlying22 (hval 0 22 v0 rfl rfl)
  obtain ⟨l0, rfl, F0, G0⟩ := slice_arg (opens_slice Try.underlying22 (by kernel_rfl) (by kernel_rfl) open75) h0
  obtain ⟨a1, rfl, rfl, rfl⟩ := open_bool Try.underlying4 (hval 1 4 v1 rfl rfl) h1
  have k2 := h2
  have lt2 : ∀ x ∈ p2, x.block < W.heap.size := by obtain ⟨m, hm⟩ := k2; exact DataW.trod_lt m _ _ _ hm
  obtain ⟨A2, len2, c2, rfl⟩ := okWide_slice Try.underlying24 (hval 2 24 v2 rfl rfl)
  obtain ⟨l2, rfl, F2, G2⟩ := slice_arg (opens_slice Try.underlying24 (by kernel_rfl) (by kernel_rfl) (opens_int Try.underlying3 (by kernel_rfl))) h2
  clear hA0 hval0 hsz0 hsz
  obtain ⟨k, hk⟩ := K.pure_FnExactRunGroup l0 a1 l2 G0 G2
  refine (law_calls (laws_FnExactRunGroup.ok k l0 A0 c0 a1 l2 A2 c2 true hk) (facts_app F0 (facts_app F2 facts_nil))).mono fun e W' he => ?_
  obtain ⟨rfl, bel⟩ := he
  exact ⟨_, rfl, _, _, _, [], _, [], hW', trodAll_mk1 (shut_bool Try.underlying4 _), (trodAll_cons_mk (Below.trod laidOut (by kernel_rfl) (of_decide_eq_true (by kernel_rfl)) k0 bel lt0) (trodAll_cons_mk (shut_bool Try.underlying4 _) (trodAll_cons_mk (Below.trod laidOut (by kernel_rfl) (of_decide_eq_true (by kernel_rfl)) k2 bel lt2) trodAll_mk0))), rfl, bel.frame _, fun h => by cases h⟩
theorem over : Rows.fnExactRunGroupRow.holds Try.pinned (OpenSpec.ofChange Rows.fnExactRunGroupSpec) :=
  OpenClaim.holds_of_wide 9 Try.f9 rfl rfl rfl rfl rfl rfl rfl ⟨rfl, rfl, rfl, rfl, rfl⟩ rfl rfl rfl rfl rfl (by kernel_rfl) Try.func9 (by kernel_rfl)
    (of_decide_eq_true (by kernel_rfl)) (by unfold Func.isWrapper; first | (rw [if_pos (by decide +kernel)]; kernel_rfl) | (rw [if_neg (by decide +kernel)]; exact ⟨rfl, rfl⟩))
    (fun os started H enc _ => lifted os started H enc)
theorem proved : Rows.FnExactRunGroupSaid := over
#print axioms proved
end Go.Proofs.Ytoncjohnkiilcaa.fnExactRunGroup
namespace Go.Proofs.Ytoncjohnkiilcaa
/-- The row, under a short name, for the claim. -/
theorem fnExactRunGroup_holds : Rows.FnExactRunGroupSaid := fnExactRunGroup.proved
end Go.Proofs.Ytoncjohnkiilcaa
